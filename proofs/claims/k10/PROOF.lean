import PyProof.Rows.All
import Wide.All
import OpenK.AllK
import Wide.FinOn
import HandS.ForMost
import HandS.ForExc
import HandS.IsInst
import HandS.ExcIs
import HandS.Wide
import HandS.Walk
import HandS.Style
import HandS.Conv
import HandS.FStr
import HandS.Words
import HandS.SortInts
import HandS.SetFor
import KE.KEqSeq
import HandS.OwnEq
import HandS.Strs
import HandS.Text
import HandS.Replace
import KE.GoesComp
import KE.KAsSuite
import PySem.Challenge.RW_axissteps_k10_whole_labels
set_option Elab.async false
set_option linter.all false
set_option maxRecDepth 100000
set_option maxHeartbeats 4000000
/-! Common part: reading rules as introduction lemmas, heaps that grow, draws. -/
namespace Ax
open PySem L2

/-! ### facts of the text, one record a def -/
structure Df (K : PySem.W.Frag) (mg : Str → Option Value) (x : Str) (st : Stmt) (ps : List Str) : Type where
  f : Addr
  fd : FuncData
  F : Fun K x x st f fd
  g : mg x = some (.ref f)
  b : Binds K fd ps []
/-- an own exception class -/
structure Exn (K : PySem.W.Frag) (mg : Str → Option Value) (x : Str) : Type where
  C : Addr
  g : mg x = some (.ref C)
  k : PySem.W.keepIn K (.ref C) = true
  x : PySem.W.excIn K C [.type "ValueError", .type "Exception", .type "BaseException", .type "object"] "ValueError.__new__" = true
  b : PySem.W.subIn K (.ref C) (.type "BaseException") = some true
  t : PySem.W.typeIn K (.ref C) = some (.type "type")
  i : ExcC K C
/-- a constant of the module -/
structure Cst (K : PySem.W.Frag) (mg : Str → Option Value) (x : Str) (v : V) : Type where
  u : Value
  g : mg x = some u
  r : RelV v u

/-! ### reading rules -/
section
variable {D : Ends} {σ : L2.St} {H : Hp} {Q : VK} {K : PySem.W.Frag}
theorem r_var {i : Nat} {v : V} (e : σ[i]? = some (some v)) (h : Q v H) : tVar i σ H Q := ⟨v, e, h⟩
theorem r_c {v : V} (h : Q v H) : tC v σ H Q := h
theorem r_op {r : R2} {ta tb : TE} (h : ta σ H fun x H1 => tb σ H1 fun y H2 => r x y H2 Q) : tOp r ta tb σ H Q := h
theorem r_un {r : V → Hp → VK → Prop} {ta : TE} (h : ta σ H fun x H1 => r x H1 Q) : tUn r ta σ H Q := h
theorem r_I0 {g : Int → Int → V} {i j : Int} (h : Q (g i j) H) : rI0 g (.int i) (.int j) H Q := ⟨i, j, rfl, rfl, h⟩
theorem r_I {C : Int → Int → Prop} {g : Int → Int → V} {i j : Int} (c : C i j) (h : Q (g i j) H) : rI C g (.int i) (.int j) H Q := ⟨i, j, rfl, rfl, c, h⟩
theorem r_U {g : Int → V} {i : Int} (h : Q (g i) H) : rU g (.int i) H Q := ⟨i, rfl, h⟩
theorem r_eqI {i j : Int} (h : Q (.bl (decide (i = j))) H) : rEq (.int i) (.int j) H Q := ⟨rfl, by rw [dec_int, Bool.beq_eq_decide_eq]; exact h⟩
theorem r_neI {i j : Int} (h : Q (.bl (!decide (i = j))) H) : rNe (.int i) (.int j) H Q := ⟨rfl, by rw [dec_int, Bool.beq_eq_decide_eq]; exact h⟩
theorem r_eqB {i j : Bool} (h : Q (.bl (decide (i = j))) H) : rEq (.bl i) (.bl j) H Q := ⟨rfl, by rw [dec_bl, Bool.beq_eq_decide_eq]; exact h⟩
theorem r_neB {i j : Bool} (h : Q (.bl (!decide (i = j))) H) : rNe (.bl i) (.bl j) H Q := ⟨rfl, by rw [dec_bl, Bool.beq_eq_decide_eq]; exact h⟩
theorem r_eqS {i j : Str} (h : Q (.bl (decide (i = j))) H) : rEq (.str i) (.str j) H Q := ⟨rfl, by rw [dec_str, Bool.beq_eq_decide_eq]; exact h⟩
theorem r_neS {i j : Str} (h : Q (.bl (!decide (i = j))) H) : rNe (.str i) (.str j) H Q := ⟨rfl, by rw [dec_str, Bool.beq_eq_decide_eq]; exact h⟩
theorem r_test {t : TE} {Q : Bool → Hp → Prop} (h : t σ H fun x H' => ∃ k, x = .bl k ∧ Q k H') : tTest t σ H Q := h
theorem r_tB {t : TE} {Q : Bool → Hp → Prop} (h : t σ H fun x H' => ∃ k, x = .bl k ∧ Q k H') : tB t σ H Q := h
theorem r_bk {b : Bool} {Q : Bool → Hp → Prop} (h : Q b H) : ∃ k, V.bl b = V.bl k ∧ Q k H := ⟨b, rfl, h⟩
theorem r_bk' {b : Bool} {P : Bool → Prop} (h : P b) : ∃ k, V.bl b = V.bl k ∧ P k := ⟨b, rfl, h⟩
theorem r_not {t : TT} {Q : Bool → Hp → Prop} (h : t σ H fun c H1 => Q (!c) H1) : tNot t σ H Q := h
theorem r_and {t u : TT} {Q : Bool → Hp → Prop} (h : t σ H fun c H1 => if c = true then u σ H1 Q else Q false H1) : tAnd t u σ H Q := h
theorem r_or {t u : TT} {Q : Bool → Hp → Prop} (h : t σ H fun c H1 => if c = true then Q true H1 else u σ H1 Q) : tOr t u σ H Q := h
theorem r_andV {ta tb : TE} (h : ta σ H fun x H1 => ∃ c, x = .bl c ∧ if c = true then tb σ H1 Q else Q (.bl false) H1) : tAndV ta tb σ H Q := h
theorem r_orV {ta tb : TE} (h : ta σ H fun x H1 => ∃ c, x = .bl c ∧ if c = true then Q (.bl true) H1 else tb σ H1 Q) : tOrV ta tb σ H Q := h
theorem r_notV {ta : TE} (h : ta σ H fun x H1 => ∃ c, x = .bl c ∧ Q (.bl (!c)) H1) : tNotV ta σ H Q := h
theorem r_ifE {t : TT} {ta tb : TE} (h : t σ H fun c H1 => if c = true then ta σ H1 Q else tb σ H1 Q) : tIf t ta tb σ H Q := h
theorem r_chain {r r' : R2} {ta tb tc : TE} (h : ta σ H fun x H1 => tb σ H1 fun y H2 => r x y H2 fun z H3 => ∃ k, z = .bl k ∧ (if k = true then tc σ H3 fun w' H4 => r' y w' H4 Q else Q (.bl false) H3)) : tChain r r' ta tb tc σ H Q := h
theorem r_cons {ta : TE} {tr : TA} {Q : List V → Hp → Prop} (h : ta σ H fun x H1 => tr σ H1 fun xs H2 => Q (x :: xs) H2) : tCons ta tr σ H Q := h
theorem r_nil {Q : List V → Hp → Prop} (h : Q [] H) : tNil σ H Q := h
theorem r_tup {t : TA} (h : t σ H fun xs H1 => xs.length ≤ sizeLine ∧ ∀ p, H1 p = none → Q (.ref p) (upd H1 p (.tup xs))) : tTup t σ H Q := h
theorem r_lst {t : TA} (h : t σ H fun xs H1 => xs.length ≤ sizeLine ∧ ∀ p, H1 p = none → Q (.ref p) (upd H1 p (.lst xs))) : tLst t σ H Q := h
theorem r_new {xs : List V} {P : Prop} (hl : Nat.ble xs.length 1000 = true) (h : P) : xs.length ≤ sizeLine ∧ P :=
  ⟨Nat.le_trans (Nat.le_of_ble_eq_true hl) (by rw [sizeLine_eq]; decide), h⟩
theorem r_call {sp : Sp} {E : XK} {t : TA} (h : t σ H fun vs H1 => sp vs H1 Q E) : tCall sp [] E t σ H Q := by
  show t σ H fun vs H1 => sp (vs ++ []) H1 Q E
  have e : (fun (vs : List V) (H1 : Hp) => sp (vs ++ []) H1 Q E) = fun vs H1 => sp vs H1 Q E := by
    funext vs H1
    rw [List.append_nil]
  rw [e]
  exact h
theorem r_callS {sp : Sp} {E : L2.St → XK} {t : TA} (h : t σ H fun vs H1 => sp vs H1 Q (E σ)) : tCallS sp E t σ H Q := h
theorem r_cb {r : List V → Hp → VK → Prop} {t : TA} (h : t σ H fun vs H1 => r vs H1 Q) : tCB r t σ H Q := h
theorem r_ixT {p : Addr} {xs : List V} {i : Int} {v : V} (s : SqT K H p xs) (a : atI xs i = some v) (h : Q v H) : rIxT K (.ref p) (.int i) H Q := ⟨p, xs, i, v, rfl, rfl, s, a, h⟩
theorem r_ixL {p : Addr} {xs : List V} {i : Int} {v : V} (s : SqL K H p xs) (a : atI xs i = some v) (h : Q v H) : rIxL K (.ref p) (.int i) H Q := ⟨p, xs, i, v, rfl, rfl, s, a, h⟩
-- statements
theorem r_seq {t u : TS} (h : t { D with nx := u D } σ H) : tSeq t u D σ H := h
theorem r_seqAsg {te : TE} {i : Nat} {u : TS} (h : te σ H fun x H1 => u D (σ.set i (some x)) H1) : tSeq (tAsg te (gName i)) u D σ H := h
theorem r_seqDrop {te : TE} {u : TS} (h : te σ H fun _ H1 => u D σ H1) : tSeq (tDrop te) u D σ H := h
theorem r_seqIf {c : TT} {t u : TS} (h : c σ H fun b H1 => if b = true then t { D with nx := u D } σ H1 else u D σ H1) : tSeq (tIfS c t tNext) u D σ H := h
theorem r_seqIf2 {c : TT} {t t' u : TS} (h : c σ H fun b H1 => if b = true then t { D with nx := u D } σ H1 else t' { D with nx := u D } σ H1) : tSeq (tIfS c t t') u D σ H := h
theorem r_ifS {c : TT} {t t' : TS} (h : c σ H fun b H1 => if b = true then t D σ H1 else t' D σ H1) : tIfS c t t' D σ H := h
theorem r_asg {te : TE} {g : TG} (h : te σ H fun x H1 => g x σ H1 D.nx) : tAsg te g D σ H := h
theorem r_drop {te : TE} (h : te σ H fun _ H1 => D.nx σ H1) : tDrop te D σ H := h
theorem r_ret {te : TE} (h : te σ H D.rt) : tRet te D σ H := h
theorem r_next (h : D.nx σ H) : tNext D σ H := h
theorem r_gname {i : Nat} {v : V} {Q : L2.St → Hp → Prop} (h : Q (σ.set i (some v)) H) : gName i v σ H Q := h
theorem r_aug {i : Nat} {te : TE} {ti : TIp} {x : V} (e : σ[i]? = some (some x)) (h : te σ H fun y H1 => ti x y H1 fun z H2 => D.nx (σ.set i (some z)) H2) : tAug i te ti D σ H := ⟨x, e, h⟩
theorem r_ipI {f : Int → Int → Int} {i j : Int} (h : Q (.int (f i j)) H) : ipI f (.int i) (.int j) H Q := ⟨i, j, rfl, rfl, h⟩
theorem r_nxmk {nx : L2.St → Hp → Prop} {rt : VK} {bk ct : L2.St → Hp → Prop} (h : nx σ H) : Ends.nx ⟨nx, rt, bk, ct⟩ σ H := h
theorem r_rtmk {nx : L2.St → Hp → Prop} {rt : VK} {bk ct : L2.St → Hp → Prop} {v : V} (h : rt v H) : Ends.rt ⟨nx, rt, bk, ct⟩ v H := h
theorem r_t {A B : Prop} (h : A) : if true = true then A else B := by rw [if_pos rfl]; exact h
theorem r_f {A B : Prop} (h : B) : if false = true then A else B := by rw [if_neg Bool.false_ne_true]; exact h
theorem r_dt {p : Prop} [Decidable p] {A B : Prop} (hp : p) (h : A) : if decide p = true then A else B := by rw [decide_eq_true hp]; exact r_t h
theorem r_df {p : Prop} [Decidable p] {A B : Prop} (hp : ¬ p) (h : B) : if decide p = true then A else B := by rw [decide_eq_false hp]; exact r_f h
theorem r_ndt {p : Prop} [Decidable p] {A B : Prop} (hp : ¬ p) (h : A) : if (!decide p) = true then A else B := by rw [decide_eq_false hp]; exact r_t h
theorem r_ndf {p : Prop} [Decidable p] {A B : Prop} (hp : p) (h : B) : if (!decide p) = true then A else B := by rw [decide_eq_true hp]; exact r_f h
theorem r_if {p : Prop} [Decidable p] {A B : Prop} (h1 : p → A) (h2 : ¬ p → B) : if decide p = true then A else B := by
  by_cases h : p
  · exact r_dt h (h1 h)
  · exact r_df h (h2 h)
theorem r_ifn {p : Prop} [Decidable p] {A B : Prop} (h1 : ¬ p → A) (h2 : p → B) : if (!decide p) = true then A else B := by
  by_cases h : p
  · exact r_ndf h (h2 h)
  · exact r_ndt h (h1 h)
theorem r_ifb {b : Bool} {A B : Prop} (h1 : b = true → A) (h2 : b = false → B) : if b = true then A else B := by
  cases b with
  | true => exact r_t (h1 rfl)
  | false => exact r_f (h2 rfl)
theorem r_nnt {A B : Prop} (h : A) : if (!false) = true then A else B := r_t h
theorem r_nnf {A B : Prop} (h : B) : if (!true) = true then A else B := r_f h
end

/-! ### heaps that grow -/
section
variable {K : PySem.W.Frag} {H H1 H' : Hp} {p a : Addr} {o o' : HO} {xs : List V}
theorem Same.updn (s : Same H H1) (np : H1 p = none) : Same H (upd H1 p o) := fun b u e => by
  have e1 := s b u e
  rw [upd_ne (ne_of_none e1 np)]
  exact e1
theorem Same.seqT (e : Same H H') (h : SqT K H a xs) : SqT K H' a xs := by
  rcases h with (h | ⟨o, h⟩) | h
  · exact .inl (.inl (e _ _ h))
  · exact .inl (.inr ⟨o, e _ _ h⟩)
  · exact .inr h
theorem same_new (np : H p = none) : Same H (upd H p o) := Same.updn (Same.refl H) np
theorem SqT.updn (np : H p = none) (h : SqT K H a xs) : SqT K (upd H p o) a xs := Same.seqT (same_new np) h
theorem SqL.updn (np : H p = none) (h : SqL K H a xs) : SqL K (upd H p o) a xs := Same.seq (same_new np) h
theorem same_at (s : Same H H') (h : H a = some o) : H' a = some o := s a o h
theorem at_updn (np : H p = none) (h : H a = some o) : upd H p o' a = some o := (same_new np) a o h
end

/-! ### kinds of values -/
section
variable {K : PySem.W.Frag} {H H' : Hp} {a : Addr} {xs : List V} {v : V}
theorem tyx_L (h : SqL K H a xs) : TyX K H (.ref a) (.type "list") := by
  rcases h with (h | ⟨o, h⟩) | ⟨o, _, _, hk, hc, _⟩
  · exact .base (.lst h)
  · exact .base (.frz h)
  · exact .kList hk hc
theorem tyx_T (h : SqT K H a xs) : TyX K H (.ref a) (.type "tuple") := by
  rcases h with (h | ⟨o, h⟩) | ⟨o, _, _, hk, hc, _⟩
  · exact .base (.tup h)
  · exact .fTuple h
  · exact .kTuple hk hc
/-- no whole number (a bool is none here) -/
inductive NotInt (K : PySem.W.Frag) (H : Hp) : V → Prop
  | non : NotInt K H .non
  | bl (b : Bool) : NotInt K H (.bl b)
  | str (x : Str) : NotInt K H (.str x)
  | lst {a : Addr} {xs : List V} (h : SqL K H a xs) : NotInt K H (.ref a)
  | tup {a : Addr} {xs : List V} (h : SqT K H a xs) : NotInt K H (.ref a)
theorem NotInt.same (s : Same H H') (h : NotInt K H v) : NotInt K H' v := by
  cases h with
  | non => exact .non
  | bl b => exact .bl b
  | str x => exact .str x
  | lst h => exact .lst (Same.seq s h)
  | tup h => exact .tup (Same.seqT s h)
/-- a whole number, or none -/
def Known (K : PySem.W.Frag) (H : Hp) (v : V) : Prop := (∃ i, v = .int i) ∨ NotInt K H v
theorem Known.same (s : Same H H') (h : Known K H v) : Known K H' v := h.imp id (NotInt.same s)
/-- the bounds of a range -/
def Rg (lo hi : Int) : Prop := -1000000 ≤ lo ∧ lo ≤ hi ∧ hi ≤ 1000000
/-- the value is the range lo .. hi -/
def IsRg (K : PySem.W.Frag) (H : Hp) (v : V) (lo hi : Int) : Prop := ∃ a, v = .ref a ∧ SqT K H a [.int lo, .int hi] ∧ Rg lo hi
/-- the value is no range -/
inductive NotRg (K : PySem.W.Frag) (H : Hp) : V → Prop
  | non : NotRg K H .non
  | bl (b : Bool) : NotRg K H (.bl b)
  | int (i : Int) : NotRg K H (.int i)
  | str (x : Str) : NotRg K H (.str x)
  | lst {a : Addr} {xs : List V} (h : SqL K H a xs) : NotRg K H (.ref a)
  | len {a : Addr} {xs : List V} (h : SqT K H a xs) (hl : xs.length ≠ 2) : NotRg K H (.ref a)
  | fst {a : Addr} {x y : V} (h : SqT K H a [x, y]) (hx : NotInt K H x) : NotRg K H (.ref a)
  | low {a : Addr} {i : Int} {y : V} (h : SqT K H a [.int i, y]) (hx : ¬ (-1000000 ≤ i ∧ i ≤ 1000000)) : NotRg K H (.ref a)
  | snd {a : Addr} {i : Int} {y : V} (h : SqT K H a [.int i, y]) (hy : NotInt K H y) : NotRg K H (.ref a)
  | high {a : Addr} {i j : Int} (h : SqT K H a [.int i, .int j]) (hx : ¬ (i ≤ j ∧ j ≤ 1000000)) : NotRg K H (.ref a)
/-- all steps -/
def steps : List Int := [1, 2, 5, 10, 20, 50, 100, 200, 500, 1000, 2000, 5000, 10000, 20000, 50000, 100000, 200000, 500000]
theorem kit_tt {K : PySem.W.Frag} {t : String} : PySem.W.kitOne K (.type t) (.type t) = some true := by
  unfold PySem.W.kitOne
  rw [if_pos (by simp)]
theorem r_isi {x c : V} {t u : Value} {b : Bool} {Q : VK} (k : ClsV c u) (ty : TyX K H x t) (e : PySem.W.kitOne K t u = some b) (h : Q (.bl b) H) : rIsi K [x, c] H Q := ⟨x, c, t, u, b, rfl, k, ty, e, h⟩
/-- isinstance(v, int): False for what is no whole number and no bool -/
theorem r_isInt {i : Int} {Q : VK} (h : Q (.bl true) H) : rIsi K [.int i, .ty "int"] H Q := r_isi (.ty _) (.base (.int i)) (kit_ty (by decide +kernel)) h
theorem r_isIntB {i : Bool} {Q : VK} (h : Q (.bl true) H) : rIsi K [.bl i, .ty "int"] H Q := r_isi (.ty _) (.base (.bl i)) (kit_ty (by decide +kernel)) h
theorem r_isIntN {Q : VK} (h : Q (.bl false) H) : rIsi K [.non, .ty "int"] H Q := r_isi (.ty _) (.base .non) (kit_ty (by decide +kernel)) h
theorem r_isIntS {x : Str} {Q : VK} (h : Q (.bl false) H) : rIsi K [.str x, .ty "int"] H Q := r_isi (.ty _) (.base (.str x)) (kit_ty (by decide +kernel)) h
theorem r_isIntL {Q : VK} (s : SqL K H a xs) (h : Q (.bl false) H) : rIsi K [.ref a, .ty "int"] H Q := r_isi (.ty _) (tyx_L s) (kit_ty (by decide +kernel)) h
theorem r_isIntT {Q : VK} (s : SqT K H a xs) (h : Q (.bl false) H) : rIsi K [.ref a, .ty "int"] H Q := r_isi (.ty _) (tyx_T s) (kit_ty (by decide +kernel)) h
theorem r_isBlI {i : Int} {Q : VK} (h : Q (.bl false) H) : rIsi K [.int i, .ty "bool"] H Q := r_isi (.ty _) (.base (.int i)) (kit_ty (by decide +kernel)) h
theorem r_isBlB {i : Bool} {Q : VK} (h : Q (.bl true) H) : rIsi K [.bl i, .ty "bool"] H Q := r_isi (.ty _) (.base (.bl i)) (kit_ty (by decide +kernel)) h
theorem r_isTpT {Q : VK} (s : SqT K H a xs) (h : Q (.bl true) H) : rIsi K [.ref a, .ty "tuple"] H Q := r_isi (.ty _) (tyx_T s) (kit_ty (by decide +kernel)) h
theorem r_isTpL {Q : VK} (s : SqL K H a xs) (h : Q (.bl false) H) : rIsi K [.ref a, .ty "tuple"] H Q := r_isi (.ty _) (tyx_L s) (kit_ty (by decide +kernel)) h
theorem r_isTpN {Q : VK} (h : Q (.bl false) H) : rIsi K [.non, .ty "tuple"] H Q := r_isi (.ty _) (.base .non) (kit_ty (by decide +kernel)) h
theorem r_isTpI {i : Int} {Q : VK} (h : Q (.bl false) H) : rIsi K [.int i, .ty "tuple"] H Q := r_isi (.ty _) (.base (.int i)) (kit_ty (by decide +kernel)) h
theorem r_isTpB {i : Bool} {Q : VK} (h : Q (.bl false) H) : rIsi K [.bl i, .ty "tuple"] H Q := r_isi (.ty _) (.base (.bl i)) (kit_ty (by decide +kernel)) h
theorem r_isTpS {x : Str} {Q : VK} (h : Q (.bl false) H) : rIsi K [.str x, .ty "tuple"] H Q := r_isi (.ty _) (.base (.str x)) (kit_ty (by decide +kernel)) h
end
end Ax
namespace Ax
open PySem L2
section
variable {K : PySem.W.Frag} {H H' : Hp} {a l b p : Addr} {xs zs : List V} {v x : V} {Q : VK}
theorem r_ext (hl : H l = some (.lst xs)) (hb : H b = some (.lst zs)) (hz : xs.length + zs.length ≤ sizeLine) (h : Q (.ref l) (upd H l (.lst (xs ++ zs)))) : rExt2 (.ref l) (.ref b) H Q := ⟨l, b, xs, zs, rfl, rfl, hl, hb, hz, h⟩
theorem r_cat (hl : H l = some (.lst xs)) (hb : H b = some (.lst zs)) (hz : xs.length + zs.length ≤ sizeLine) (h : ∀ p, H p = none → Q (.ref p) (upd H p (.lst (xs ++ zs)))) : rCat (.ref l) (.ref b) H Q := ⟨l, b, xs, zs, rfl, rfl, hl, hb, hz, h⟩
theorem r_inL (s : SqL K H p xs) (fx : flatV x = true) (fs : xs.all flatV = true) (h : Q (.bl (inV x xs)) H) : rIn K false x (.ref p) H Q := ⟨p, xs, rfl, .inl s, fx, fs, h⟩
theorem r_notInL (s : SqL K H p xs) (fx : flatV x = true) (fs : xs.all flatV = true) (h : Q (.bl (!inV x xs)) H) : rIn K true x (.ref p) H Q := ⟨p, xs, rfl, .inl s, fx, fs, h⟩
theorem flat_ints : ∀ ns : List Int, (ns.map V.int).all flatV = true
  | [] => rfl
  | _ :: r => by
    rw [List.map_cons, List.all_cons, flat_ints r]
    rfl
theorem inV_ints (i : Int) : ∀ ns : List Int, inV (.int i) (ns.map V.int) = decide (i ∈ ns)
  | [] => by simp [inV]
  | j :: r => by
    have ih := inV_ints i r
    unfold inV at ih ⊢
    rw [List.map_cons, List.any_cons, ih]
    have e : eqV (.int j) (.int i) = decide (i = j) := by
      show (j == i) = decide (i = j)
      rw [Bool.beq_eq_decide_eq]
      exact decide_eq_decide.mpr ⟨Eq.symm, Eq.symm⟩
    rw [e]
    by_cases c : i = j
    · rw [decide_eq_true c, decide_eq_true (List.mem_cons.mpr (.inl c))]
      rfl
    · rw [decide_eq_false c, Bool.false_or]
      exact decide_eq_decide.mpr ⟨fun h => List.mem_cons_of_mem _ h, fun h => (List.mem_cons.mp h).resolve_left c⟩
theorem r_inI {i : Int} {ns : List Int} (s : SqL K H p (ns.map V.int)) (h : Q (.bl (decide (i ∈ ns))) H) : rIn K false (.int i) (.ref p) H Q := r_inL s rfl (flat_ints ns) (by rw [inV_ints]; exact h)
theorem r_notInI {i : Int} {ns : List Int} (s : SqL K H p (ns.map V.int)) (h : Q (.bl (!decide (i ∈ ns))) H) : rIn K true (.int i) (.ref p) H Q := r_notInL s rfl (flat_ints ns) (by rw [inV_ints]; exact h)
theorem small_le {n m : Nat} (h : n ≤ 1000000) (k : m ≤ 1000000) : n + m ≤ sizeLine := by
  rw [sizeLine_eq]
  omega
/-- powers of ten, three steps each -/
def ten (k : Nat) : Int := 10 ^ k
theorem ten_le : ∀ k, k < 6 → 1 ≤ ten k ∧ ten k ≤ 100000 ∧ ten k * 10 = ten (k + 1) ∧ steps.take (3 * (k + 1)) = steps.take (3 * k) ++ [ten k, 2 * ten k, 5 * ten k] := by decide
/-- a step -/
theorem step_bounds : ∀ s, s ∈ steps → 1 ≤ s ∧ s ≤ 500000 := by decide
/-- no step -/
def NotStep (K : PySem.W.Frag) (H : Hp) (v : V) : Prop := (∃ i, v = .int i ∧ i ∉ steps) ∨ NotInt K H v
theorem NotStep.same (s : Same H H') (h : NotStep K H v) : NotStep K H' v := h.imp id (NotInt.same s)
/-- the numbers of marks, the first and the last -/
def cnt (lo hi st : Int) : Int := hi / st - (lo - 1) / st
def fst (lo st : Int) : Int := -(-lo / st) * st
def lst (hi st : Int) : Int := hi / st * st
end
end Ax

/-! ### rules under names of their own (so that what follows is found) -/
namespace Ax
open PySem L2
section
variable {X : Cx} {K : PySem.W.Frag} {H : Hp} {Q : VK} {a l : Addr} {xs : List V} {x y : Str} {i j : Int}
def rLen (K : PySem.W.Frag) : List V → Hp → VK → Prop := fun xs H Q => ∃ p ys, xs = [.ref p] ∧ (SqL K H p ys ∨ SqT K H p ys) ∧ Q (.int ys.length) H
theorem xc_len : CallR X (.builtin "len") (rLen X.K) := call_len_seq
theorem r_lenT (s : SqT K H a xs) (h : Q (.int xs.length) H) : rLen K [.ref a] H Q := ⟨a, xs, rfl, .inr s, h⟩
theorem r_lenT2 {x y : V} (s : SqT K H a [x, y]) (h : Q (.int 2) H) : rLen K [.ref a] H Q := ⟨a, [x, y], rfl, .inr s, h⟩
theorem r_lenL (s : SqL K H a xs) (h : Q (.int xs.length) H) : rLen K [.ref a] H Q := ⟨a, xs, rfl, .inl s, h⟩
def rLenS : List V → Hp → VK → Prop := fun xs H Q => ∃ z, xs = [.str z] ∧ z.length ≤ sizeLine ∧ Q (.int z.length) H
theorem xc_lenS : CallR X (.builtin "len") rLenS := call_len_str
theorem r_lenS (z : x.length ≤ sizeLine) (h : Q (.int x.length) H) : rLenS [.str x] H Q := ⟨x, rfl, z, h⟩
def rAbs : List V → Hp → VK → Prop := fun xs H Q => ∃ i, xs = [.int i] ∧ Q (.int (if i < 0 then -i else i)) H
theorem xc_abs : CallR X (.builtin "abs") rAbs := call_abs
theorem r_abs (h : Q (.int (if i < 0 then -i else i)) H) : rAbs [.int i] H Q := ⟨i, rfl, h⟩
def rMax2 : List V → Hp → VK → Prop := fun xs H Q => ∃ i j, xs = [.int i, .int j] ∧ Q (.int (if j > i then j else i)) H
theorem xc_max2 (hc : X.calm = true) : CallR X (.builtin "max") rMax2 := call_max2 hc
theorem r_max2 (h : Q (.int (max i j)) H) : rMax2 [.int i, .int j] H Q := ⟨i, j, rfl, by
  have e : (if j > i then j else i) = max i j := by split <;> omega
  rw [e]
  exact h⟩
def rMin2 : List V → Hp → VK → Prop := fun xs H Q => ∃ i j, xs = [.int i, .int j] ∧ Q (.int (if j < i then j else i)) H
theorem xc_min2 (hc : X.calm = true) : CallR X (.builtin "min") rMin2 := call_min2 hc
theorem r_min2 (h : Q (.int (min i j)) H) : rMin2 [.int i, .int j] H Q := ⟨i, j, rfl, by
  have e : (if j < i then j else i) = min i j := by split <;> omega
  rw [e]
  exact h⟩
def rStrI : List V → Hp → VK → Prop := fun xs H Q => ∃ i, xs = [.int i] ∧ i.natAbs.log2 < 1920 ∧ Q (.str (toString i)) H
theorem xc_str : CallR X (.type "str") rStrI := call_str_int
def rIntS : List V → Hp → VK → Prop := fun xs H Q => ∃ a n, xs = [.str a] ∧ PySem.intText? a = some n ∧ a.length ≤ 640 ∧ Q (.int n) H
theorem xc_intS : CallR X (.type "int") rIntS := call_int_str
def rListOf (K : PySem.W.Frag) : List V → Hp → VK → Prop := fun xs H Q => ∃ p ys, xs = [.ref p] ∧ (SqL K H p ys ∨ SqT K H p ys) ∧ ∀ l, H l = none → Q (.ref l) (upd H l (.lst ys))
theorem xc_list : CallR X (.type "list") (rListOf X.K) := call_list_of
theorem r_listL (s : SqL K H a xs) (h : ∀ l, H l = none → Q (.ref l) (upd H l (.lst xs))) : rListOf K [.ref a] H Q := ⟨a, xs, rfl, .inl s, h⟩
def rIsN : R2 := fun x y H Q => y = .non ∧ Q (.bl (decide (x = .non))) H
theorem xo_isN : OpR X (compareOp .Is) rIsN := op_isN
theorem r_isNN (h : Q (.bl true) H) : rIsN .non .non H Q := ⟨rfl, h⟩
theorem r_isN {v : V} (n : v ≠ .non) (h : Q (.bl false) H) : rIsN v .non H Q := ⟨rfl, by rw [decide_eq_false n]; exact h⟩
theorem r_isNR {p : Addr} (h : Q (.bl false) H) : rIsN (.ref p) .non H Q := r_isN (fun z => nomatch z) h
def rNotN : R2 := fun x y H Q => y = .non ∧ Q (.bl (!decide (x = .non))) H
theorem xo_notN : OpR X (compareOp .IsNot) rNotN := op_notN
def rAddS : R2 := fun x y H Q => ∃ i j, x = .str i ∧ y = .str j ∧ i.length + j.length ≤ sizeLine ∧ Q (.str (i ++ j)) H
theorem xo_addS : OpR X (binaryOp .Add) rAddS := op_add_str
theorem r_addS (z : x.length + y.length ≤ sizeLine) (h : Q (.str (x ++ y)) H) : rAddS (.str x) (.str y) H Q := ⟨x, y, rfl, rfl, z, h⟩
def rInS : R2 := fun x y H Q => ∃ (c : Nat) (z : Str), x = .str ⟨#[c]⟩ ∧ y = .str z ∧ Q (.bl (decide (c ∈ z.cps.toList))) H
theorem xo_inS : OpR X (compareOp .In) rInS := op_in_sign
def rNotInS : R2 := fun x y H Q => ∃ (c : Nat) (z : Str), x = .str ⟨#[c]⟩ ∧ y = .str z ∧ Q (.bl (!decide (c ∈ z.cps.toList))) H
theorem xo_notInS : OpR X (compareOp .NotIn) rNotInS := op_notIn_sign
end
end Ax

/-! ### comprehensions and loops -/
namespace Ax
open PySem L2
section
variable {K : PySem.W.Frag} {H H1 : Hp} {σ : L2.St} {Q : VK} {g : TG} {tt : TT} {te : TE} {tb : TS} {ta : TA} {tl : TE} {wi : TI} {vs : List Nat} {R : It → Hp → Prop} {D : Ends} {a : Addr} {xs : List V}
def LcG (J : It) (g : TG) (tt : TT) (te : TE) (vs : List Nat) (σ : L2.St) (H1 : Hp) (Q : VK) : Prop := ∀ D, H1 D = none → ∃ W : Nat → Nat → Hp → Prop, (∃ m, W 0 m (upd H1 D (.lst []))) ∧ ∀ i m H, W i m H →
  (J.stop i H ∧ Q (.ref D) H) ∨ (J.go i H ∧ ∃ Nx : Hp → Prop, (∀ H', Nx H' → ∃ m', m' < m ∧ W (i + 1) m' H') ∧ ∀ x H', J.yld i H x H' → g x (wipe σ vs) H' fun σ2 H2 => wipe σ2 vs = wipe σ vs ∧ tt σ2 H2 fun b H3 =>
    if b = true then te σ2 H3 fun y H4 => ∃ acc, H4 D = some (.lst acc) ∧ acc.length < sizeLine ∧ Nx (upd H4 D (.lst (acc ++ [y]))) else Nx H3)
theorem r_lc (h : wi σ H fun J H1 => LcG J g tt te vs σ H1 Q) : tLc wi g tt te vs σ H Q := h
def ForG (J : It) (g : TG) (tb : TS) (D : Ends) (σ : L2.St) (H1 : Hp) : Prop := ∃ W : Nat → Nat → L2.St → Hp → Prop, (∃ m, W 0 m σ H1) ∧ ∀ i m σ H, W i m σ H →
  (J.stop i H ∧ D.nx σ H) ∨ (J.go i H ∧ ∃ N : L2.St → Hp → Prop, (∀ σ' H', N σ' H' → ∃ m', m' < m ∧ W (i + 1) m' σ' H') ∧ ∀ x H', J.yld i H x H' → g x σ H' fun σ2 H2 => tb { D with nx := N, ct := N, bk := D.nx } σ2 H2)
theorem r_for (h : wi σ H fun J H1 => ForG J g tb D σ H1) : tFor wi g tb D σ H := h
def Rn1 (vs : List V) (R : It → Hp → Prop) (H1 : Hp) : Prop := ∃ j : Int, vs = [.int j] ∧ -(2 ^ 62) ≤ j ∧ j < 2 ^ 62 ∧ R (Itr 0 j.toNat) H1
theorem r_iR1 (h : ta σ H fun vs H1 => Rn1 vs R H1) : iRng1 ta σ H R := h
theorem r_rn1 {j : Int} (b : -(2 ^ 62) ≤ j ∧ j < 2 ^ 62) (h : R (Itr 0 j.toNat) H1) : Rn1 [.int j] R H1 := ⟨j, rfl, b.1, b.2, h⟩
def Rn2 (vs : List V) (R : It → Hp → Prop) (H1 : Hp) : Prop := ∃ i j : Int, vs = [.int i, .int j] ∧ (-(2 ^ 62) ≤ i ∧ i < 2 ^ 62 ∧ -(2 ^ 62) ≤ j ∧ j < 2 ^ 62) ∧ R (Itr i (j - i).toNat) H1
theorem r_iR2 (h : ta σ H fun vs H1 => Rn2 vs R H1) : iRng2 ta σ H R := h
theorem r_rn2 {i j : Int} (b : -(2 ^ 62) ≤ i ∧ i < 2 ^ 62 ∧ -(2 ^ 62) ≤ j ∧ j < 2 ^ 62) (h : R (Itr i (j - i).toNat) H1) : Rn2 [.int i, .int j] R H1 := ⟨i, j, rfl, b, h⟩
def Il (K : PySem.W.Frag) (x : V) (R : It → Hp → Prop) (H1 : Hp) : Prop := ∃ a, x = .ref a ∧ (∃ xs, SqL K H1 a xs) ∧ R (Itl K a) H1
theorem r_iL (h : tl σ H fun x H1 => Il K x R H1) : iList K tl σ H R := h
theorem r_il (s : SqL K H1 a xs) (h : R (Itl K a) H1) : Il K (.ref a) R H1 := ⟨a, rfl, ⟨xs, s⟩, h⟩
def Itp (K : PySem.W.Frag) (x : V) (R : It → Hp → Prop) (H1 : Hp) : Prop := ∃ a, x = .ref a ∧ (∃ xs, SqT K H1 a xs) ∧ R (Itt K a) H1
theorem r_iT (h : tl σ H fun x H1 => Itp K x R H1) : iTup K tl σ H R := h
theorem r_it (s : SqT K H1 a xs) (h : R (Itt K a) H1) : Itp K (.ref a) R H1 := ⟨a, rfl, ⟨xs, s⟩, h⟩
theorem r_yes {Q : Bool → Hp → Prop} (h : Q true H) : tYes σ H Q := h
theorem wipe_one (σ : L2.St) (ix : Nat) (v : V) : wipe ((wipe σ [ix]).set ix (some v)) [ix] = wipe σ [ix] := by
  show (((σ.set ix none).set ix (some v)).set ix none) = σ.set ix none
  rw [List.set_set, List.set_set]
/-- [f x for x in xs if p x] over what yields the items ys one by one, the heap growing within -/
theorem lc_core' {J : It} {n : Nat} {G : Hp → Prop} {Y : Nat → V} (w : Walk J n G fun i H x H' => H' = H ∧ x = Y i) {ix : Nat} {p : Nat → Bool} {f : Nat → V} (hz : n ≤ 1000000) (hG : ∀ H', Same H1 H' → G H')
    (ht : ∀ i H2 (Qt : Bool → Hp → Prop), i < n → Same H1 H2 → (∀ H3, Same H2 H3 → Qt (p i) H3) → tt ((wipe σ [ix]).set ix (some (Y i))) H2 Qt)
    (he : ∀ i H2 (Q' : VK), i < n → p i = true → Same H1 H2 → (∀ H3, Same H2 H3 → Q' (f i) H3) → te ((wipe σ [ix]).set ix (some (Y i))) H2 Q')
    (hd : ∀ D H', Same H1 H' → H1 D = none → H' D = some (.lst (((List.range n).filter p).map f)) → Q (.ref D) H') : LcG J (gName ix) tt te [ix] σ H1 Q := by
  intro D nD
  refine lc_it w (fun i H' => Same H1 H' ∧ H' D = some (.lst (((List.range i).filter p).map f))) ⟨same_new nD, upd_same⟩ (fun i H' _ q => hG H' q.1) ?_ (fun H' q => hd D H' q.1 nD q.2)
  rintro i x H2 H2' hi ⟨sm, hD⟩ ⟨rfl, rfl⟩
  refine ⟨wipe_one σ ix _, ht i H2' _ hi sm fun H3 s3 => ?_⟩
  cases hp : p i with
  | true =>
    refine r_t (he i H3 _ hi hp (sm.trans s3) fun H4 s4 => ?_)
    refine ⟨_, s4 _ _ (s3 _ _ hD), ?_, fun b u e => ?_, ?_⟩
    · rw [List.length_map, sizeLine_eq]
      have l1 := List.length_filter_le p (List.range i)
      rw [List.length_range] at l1
      omega
    · rw [upd_ne (ne_of_none e nD)]
      exact s4 _ _ (s3 _ _ (sm _ _ e))
    · rw [upd_same, List.range_succ, List.filter_append, List.map_append]
      simp [hp]
  | false =>
    refine r_f ⟨sm.trans s3, ?_⟩
    rw [s3 _ _ hD, List.range_succ, List.filter_append]
    simp [hp]
theorem walk_listY {ys : List V} {a : Addr} : Walk (Itl K a) ys.length (fun H => SqL K H a ys) (fun i H x H' => H' = H ∧ x = ys.getD i .non) :=
  walk_list.mono (fun _ h => h) fun i H x H' hi _ y => ⟨y.1, by
    have e := y.2
    rw [List.getD_eq_getElem?_getD, e]
    rfl⟩
theorem walk_tupY {ys : List V} {a : Addr} : Walk (Itt K a) ys.length (fun H => SqT K H a ys) (fun i H x H' => H' = H ∧ x = ys.getD i .non) :=
  walk_tup.mono (fun _ h => h) fun i H x H' hi _ y => ⟨y.1, by
    have e := y.2
    rw [List.getD_eq_getElem?_getD, e]
    rfl⟩
/-- over range(lo, lo + n) -/
theorem lc_rng {lo : Int} {n ix : Nat} {p : Nat → Bool} {f : Nat → V} (hz : n ≤ 1000000)
    (ht : ∀ i H2 (Qt : Bool → Hp → Prop), i < n → Same H1 H2 → (∀ H3, Same H2 H3 → Qt (p i) H3) → tt ((wipe σ [ix]).set ix (some (.int (lo + i)))) H2 Qt)
    (he : ∀ i H2 (Q' : VK), i < n → p i = true → Same H1 H2 → (∀ H3, Same H2 H3 → Q' (f i) H3) → te ((wipe σ [ix]).set ix (some (.int (lo + i)))) H2 Q')
    (hd : ∀ D H', Same H1 H' → H1 D = none → H' D = some (.lst (((List.range n).filter p).map f)) → Q (.ref D) H') : LcG (Itr lo n) (gName ix) tt te [ix] σ H1 Q :=
  lc_core' (Y := fun i => .int (lo + i)) (walk_range.mono (fun _ h => h) fun _ _ _ _ _ _ y => y) hz (fun _ _ => trivial) ht he hd
theorem filter_yes {α : Type} (l : List α) : l.filter (fun _ => true) = l := by simp
/-- the same, without a test -/
theorem lc_rngM {lo : Int} {n ix : Nat} {f : Nat → V} (hz : n ≤ 1000000)
    (he : ∀ i H2 (Q' : VK), i < n → Same H1 H2 → (∀ H3, Same H2 H3 → Q' (f i) H3) → te ((wipe σ [ix]).set ix (some (.int (lo + i)))) H2 Q')
    (hd : ∀ D H', Same H1 H' → H1 D = none → H' D = some (.lst ((List.range n).map f)) → Q (.ref D) H') : LcG (Itr lo n) (gName ix) tYes te [ix] σ H1 Q :=
  lc_rng (p := fun _ => true) hz (fun _ _ _ _ _ q => q _ (Same.refl _)) (fun i H2 Q' hi _ => he i H2 Q' hi) fun D H' s n e => hd D H' s n (by rw [filter_yes] at e; exact e)
theorem range_getD (ns : List Int) (f : Int → V) (p : Int → Bool) : ((List.range ns.length).filter (fun i => p (ns.getD i 0))).map (fun i => f (ns.getD i 0)) = (ns.filter p).map f := by
  have e : (List.range ns.length).map (fun i => ns.getD i 0) = ns := by
    apply List.ext_getElem
    · simp
    · intro i h1 h2
      simp only [List.getElem_map, List.getElem_range]
      rw [List.getD_eq_getElem?_getD, List.getElem?_eq_getElem h2]
      rfl
  have e2 : ((List.range ns.length).filter (fun i => p (ns.getD i 0))).map (fun i => ns.getD i 0) = ns.filter p := by
    have := List.filter_map (f := fun i => ns.getD i 0) (p := p) (l := List.range ns.length)
    rw [e] at this
    exact this.symm
  rw [← e2, List.map_map]
  rfl
/-- over a list of whole numbers -/
theorem lc_ints {ns : List Int} {ix : Nat} {p : Int → Bool} {f : Int → V} (hz : ns.length ≤ 1000000) (hs : SqL K H1 a (ns.map V.int))
    (ht : ∀ i H2 (Qt : Bool → Hp → Prop), i ∈ ns → Same H1 H2 → (∀ H3, Same H2 H3 → Qt (p i) H3) → tt ((wipe σ [ix]).set ix (some (.int i))) H2 Qt)
    (he : ∀ i H2 (Q' : VK), i ∈ ns → p i = true → Same H1 H2 → (∀ H3, Same H2 H3 → Q' (f i) H3) → te ((wipe σ [ix]).set ix (some (.int i))) H2 Q')
    (hd : ∀ D H', Same H1 H' → H1 D = none → H' D = some (.lst ((ns.filter p).map f)) → Q (.ref D) H') : LcG (Itl K a) (gName ix) tt te [ix] σ H1 Q := by
  have gd : ∀ i, i < ns.length → (ns.map V.int).getD i .non = .int (ns.getD i 0) ∧ ns.getD i 0 ∈ ns := fun i hi => by
    have hm : ns.getD i 0 ∈ ns := by
      rw [List.getD_eq_getElem?_getD, List.getElem?_eq_getElem hi]
      exact List.getElem_mem hi
    refine ⟨?_, hm⟩
    rw [List.getD_eq_getElem?_getD, List.getD_eq_getElem?_getD, List.getElem?_map, List.getElem?_eq_getElem hi]
    rfl
  have w := walk_listY (K := K) (ys := ns.map V.int) (a := a)
  rw [List.length_map] at w
  refine lc_core' (n := ns.length) (Y := fun i => .int (ns.getD i 0)) (p := fun i => p (ns.getD i 0)) (f := fun i => f (ns.getD i 0)) (w.mono (fun _ h => h) fun i H x H' hi _ y => ⟨y.1, by rw [y.2]; exact (gd i hi).1⟩) hz (fun _ s => Same.seq s hs)
    (fun i H2 Qt hi => ht _ H2 Qt (gd i hi).2) (fun i H2 Q' hi => he _ H2 Q' (gd i hi).2) fun D H' s n e => hd D H' s n ?_
  rw [range_getD] at e
  exact e
theorem lc_intsM {ns : List Int} {ix : Nat} {f : Int → V} (hz : ns.length ≤ 1000000) (hs : SqL K H1 a (ns.map V.int))
    (he : ∀ i H2 (Q' : VK), i ∈ ns → Same H1 H2 → (∀ H3, Same H2 H3 → Q' (f i) H3) → te ((wipe σ [ix]).set ix (some (.int i))) H2 Q')
    (hd : ∀ D H', Same H1 H' → H1 D = none → H' D = some (.lst (ns.map f)) → Q (.ref D) H') : LcG (Itl K a) (gName ix) tYes te [ix] σ H1 Q :=
  lc_ints (p := fun _ => true) hz hs (fun _ _ _ _ _ q => q _ (Same.refl _)) (fun i H2 Q' hi _ => he i H2 Q' hi) fun D H' s n e => hd D H' s n (by rw [filter_yes] at e; exact e)
end
/-- range, step: what most functions check first; what follows if one is none -/
def errRS (K : PySem.W.Frag) (H : Hp) (x y : V) (cR cS : Addr) (E : XK) : Prop :=
  (NotRg K H x ∧ E (.ref cR) none H) ∨ ((∃ lo hi, IsRg K H x lo hi) ∧ NotStep K H y ∧ ∀ H', Same H H' → E (.ref cS) none H')
end Ax

/-! ### numbers of marks -/
namespace Ax
theorem cnt_nonneg (lo hi st : Int) (r : Rg lo hi) (h : 1 ≤ st) : 0 ≤ cnt lo hi st := by
  unfold cnt
  have e : (lo - 1) / st ≤ hi / st := Int.ediv_le_ediv (by omega) (by have := r.2.1; omega)
  omega
end Ax

/-! ### an exception that a suite hands on -/
namespace Ax
open PySem PySem.Spec PyProof.Rows L2
/-- the exception object of the class cls stands at a -/
def Kept (cls : Value) (a : Addr) : HO := .ext fun h => ∃ (oe : Obj) (vs : Array Value), h.get? a = some oe ∧ Zc cls none oe ∧ oe.data = .fields vs
theorem inv_keep {X : Cx} {pins : List (Addr × Obj)} {σ : L2.St} {H : Hp} {s : Shared} {a : Addr} {oe : Obj} {vs : Array Value} {cls : Value} (I : Inv X pins σ H s) (ga : s.heap.get? a = some oe) (zc : Zc cls none oe) (dt : oe.data = .fields vs)
    (na : H a = none) (n0 : X.s_0.heap.get? a = none) (nl : a ≠ X.env.locals) (np : ∀ p ∈ X.pn ++ pins, p.1 ≠ a) : Inv X pins σ (upd H a (Kept cls a)) s := by
  have ne0 : ∀ b o, X.s_0.heap.get? b = some o → b ≠ a := fun b o e z => by
    subst z
    rw [n0] at e
    cases e
  have neH : ∀ b o, H b = some o → b ≠ a := fun b o e => ne_of_none e na
  have neC : ∀ x c, X.env.cells.lookup x = some c → c ≠ a := fun x c e z => by
    subst z
    obtain ⟨v, o, g, d⟩ := I.cell x c e
    rw [ga] at g
    cases g
    rw [dt] at d
    cases d
  refine ⟨I.ok, I.os, I.bare, ⟨I.base.keep, I.base.slot, ?_, I.base.there, ?_, ?_, ?_⟩, I.loc, I.cell, ?_, ?_, ?_, ?_, I.len⟩
  · intro b o e n hx
    rw [upd_ne (ne0 b o e)]
    exact I.base.free b o e n hx
  · intro b xs e
    have q := I.base.tups b xs e
    rw [upd_ne (neH b _ q)]
    exact q
  · intro b o u e
    have q := I.base.frzs b o u e
    rw [upd_ne (neH b _ q)]
    exact q
  · intro b ps e
    obtain ⟨more, q⟩ := I.base.tbls b ps e
    exact ⟨more, by rw [upd_ne (neH b _ q)]; exact q⟩
  · rw [upd_ne nl.symm]
    exact I.free
  · intro x c e
    rw [upd_ne (neC x c e)]
    exact I.freeC x c e
  · intro p hp
    obtain ⟨q1, q2, q3⟩ := I.pin p hp
    exact ⟨q1, by rw [upd_ne (np p hp)]; exact q2, q3⟩
  · intro b u e
    by_cases hb : b = a
    · subst hb
      rw [upd_same] at e
      cases e
      exact ⟨⟨oe, vs, ga, zc, dt⟩, ⟨oe, ga⟩, fun _ _ ⟨o, v, g, r⟩ k => ⟨o, v, k o g, r⟩⟩
    · rw [upd_ne hb] at e
      exact (I.hok b u e).stay (fun _ _ _ q => q) (fun c q => by rw [upd_ne (neH c _ q)]; exact q) fun c xs q => by rw [upd_ne (neH c _ q)]; exact q
/-- what the clause wishes of an exception: it is the clause's, and the suite hands on -/
def wKeep (K : PySem.W.Frag) (c : Value) (i : Nat) (ts : TS) (D : Ends) : WX := fun cls d σ H => d = none ∧ PySem.W.exmOne K cls c = some true ∧
  ∀ a, H a = none → ts { nx := fun σ' H' => H' a = none → D.nx (σ'.set i none) (upd H' a (Kept cls a)), rt := fun _ _ => False } (σ.set i (some (.ref a))) H
def tTry (K : PySem.W.Frag) (c : Value) (i : Nat) (ts : TS) (tb : WX → TS) : TS := fun D σ H => tb (wKeep K c i ts D) D σ H
section
variable {X : Cx} {x n : Str} {c : Value} {i : Nat} {body suite : List Stmt} {first : Stmt} {np hp tp : Pos} {tb : WX → TS} {ts : TS}
theorem ps_try_keep (sk : X.stack = X.env :: X.outer) (fr : X.env.frame = some X.env.locals) (ex : X.ex = []) (nd : X.N.Nodup) (ix : X.N[i]? = some n) (lc : X.env.kindOf n = some .local) (nm : Names X x c)
    (run : ∀ (W : WX) (pn : List (Addr × Obj)) (xe : Value → Shared → Prop), Takes (X.tr pn xe) W → PassesOwn (model X.prog X.w) X.A X.env xe → PSs (X.tr pn xe) body (tb W))
    (after : ∀ (a : Addr) (oe : Obj) (cls : Value) (d : Option Addr) (pn : List (Addr × Obj)), Zc cls d oe → (∃ vs, oe.data = .fields vs) → PSs (X.suite a ((a, oe) :: pn)) (first :: suite) ts) :
    PS X (.Try body [.ExceptHandler (some (.Name x np)) (some n) (first :: suite) hp] [] [] tp) (tTry X.K c i ts tb) := by
  constructor
  intro pins s σ H D I h
  have ok := I.ok
  have frames : X.A.frames = some (X.env :: X.outer) := ok.frames.trans (congrArg some sk)
  have onLocal : Loc X.env.scope n := Or.inl lc
  apply wpAny_Try_except
  let catch_ : Value → Shared → Prop := fun e s₁ => wpAny (model X.prog X.w) X.A (noteFrame e X.env) (fun _ s₂ => wpAny (model X.prog X.w) X.A (setFlight e none)
    (fun _ s₃ => wpAny (model X.prog X.w) X.A (handleBy e X.env [.ExceptHandler (some (.Name x np)) (some n) (first :: suite) hp]) (SP X pins D) X.xe s₃) X.xe s₂) X.xe s₁
  have takes : Takes (X.tr (X.pn ++ pins) catch_) (wKeep X.K c i ts D) := by
    rintro u sC ⟨a, B, s0, pins0, σ0, H0, cls, d, rfl, J0, ground, slots, sky, na, os, bare, dn, mt, go⟩
    subst dn
    have J : Inv X pins σ0 H0 s0 := J0.ofTry ok
    have sky2 : Sky B (X.env :: X.outer) a (Zc cls none) X.env.locals sC.heap := sk ▸ sky
    refine Sky.land Zc.steady frames fr sky2 fun h1 f1 u1 => ?_
    have J1 : Inv X pins σ0 H0 { sC with heap := h1 } := J.landed ground f1.1 (slots.trans u1) os bare
    obtain ⟨o1, v1, g1, z1, d1⟩ := f1.there
    have outside : a ∉ frs (X.env :: X.outer) := fun hm => by
      obtain ⟨_, oF, gF, nF⟩ := f1.2.2.1.mem hm
      rw [g1] at gF
      cases gF
      exact nF _ d1
    have nl : a ≠ X.env.locals := fun z => outside (List.mem_filterMap.mpr ⟨X.env, List.mem_cons_self, by rw [fr, z]⟩)
    have nf : a ∉ X.fs := fun hm => by
      obtain ⟨e, he, q⟩ := List.mem_filterMap.mp hm
      exact outside (List.mem_filterMap.mpr ⟨e, List.mem_cons_of_mem _ he, q⟩)
    have S1 := J1.suite g1 d1 na nl nf
    -- the exception is younger than the entry, and no pin's
    have gone : s0.heap.get? a = none := by
      cases q : s0.heap.get? a with
      | none => rfl
      | some o =>
        have z := ground a o q (by rw [sk]; exact outside)
        rw [f1.2.1] at z
        cases z
    have n0 : X.s_0.heap.get? a = none := by
      cases q : X.s_0.heap.get? a with
      | none => rfl
      | some o =>
        obtain ⟨o', z⟩ := J.base.there a o q (by rw [ex]; exact List.not_mem_nil)
        rw [gone] at z
        cases z
    have np' : ∀ p ∈ X.pn ++ pins, p.1 ≠ a := fun p hp z => by
      have q := (J.pin p hp).1
      rw [z, gone] at q
      cases q
    refine wpAny_handleBy_cons (codeAny_handlers_test ?_) (by intro q; cases q)
    have LT : PySem.W.Looks (model X.prog X.w) h1 (typeOf (.ref a)) cls := fun A Q E s k q => wpAny_typeOf_ref (k _ _ g1) (z1.1.symm ▸ q)
    have LM := PySem.W.exm_one (M := model X.prog X.w) J1.kIn LT mt
    have asks : ∀ {Q E : Value → Shared → Prop}, Q c { sC with heap := h1 } → wpAny (model X.prog X.w) (X.A.mark (some (.ref a))) (eval (.Name x np) X.env) Q E { sC with heap := h1 } := by
      intro Q E q
      rcases nm with ⟨hg, hdb, hm | ⟨hm, hv, hn⟩⟩
      · exact ld_glob (X := X.suite a ((a, o1) :: (X.pn ++ pins))) S1 hg hm q hdb
      · exact ld_blt (X := X.suite a ((a, o1) :: (X.pn ++ pins))) S1 hg hm hv q hn hdb
    refine asks (LM.here (codeAny_handlers_suite_as ?_))
    refine HandSPX.lands_againZ f1 fun h2 f2 u2 => ?_
    have J2 : Inv X pins σ0 H0 { sC with heap := h2 } := J.landed ground f2.1 ((slots.trans u1).trans u2) os bare
    obtain ⟨o2, v2, g2, z2, d2⟩ := f2.there
    have S2 := J2.suite g2 d2 na nl nf
    refine store_ok (X := X.suite a ((a, o2) :: (X.pn ++ pins))) (v := .ref a) S2 nd ix onLocal rfl (fun s3 S3 => ?_) (.inr lc)
    refine wpAny_mono ((after a o2 cls none (X.pn ++ pins) z2 ⟨_, d2⟩).run [] s3 _ H0 _ S3 (go a na)) (fun f s4 out => ?_) (fun _ _ z => False.elim z)
    cases f with
    | next =>
      obtain ⟨σ4, H4, S4, q4⟩ := out
      have pinned := S4.pin (a, o2) (List.mem_append.mpr (.inl List.mem_cons_self))
      have K4 := inv_keep (S4.unsuite ok) pinned.1 z2 d2 pinned.2.1 n0 nl np'
      exact gone_ok K4 nd ix lc fun s5 J5 => ⟨_, _, J5, q4 pinned.2.1⟩
    | brk =>
      obtain ⟨_, _, _, q⟩ := out
      exact False.elim q
    | cont =>
      obtain ⟨_, _, _, q⟩ := out
      exact False.elim q
    | ret v =>
      obtain ⟨_, _, _, _, _, q⟩ := out
      exact False.elim q
  refine wpAny_mono ((run (wKeep X.K c i ts D) (X.pn ++ pins) catch_ takes PassesOwn.looking).run [] s σ H D (I.toTry _) h) (fun f s1 out => ?_) (fun _ _ z => z)
  cases f with
  | next =>
    obtain ⟨σ1, H1, J, q⟩ := out
    exact wpAny_execs_nil ⟨σ1, H1, J.ofTry ok, q⟩
  | brk =>
    obtain ⟨σ1, H1, J, q⟩ := out
    exact ⟨σ1, H1, J.ofTry ok, q⟩
  | cont =>
    obtain ⟨σ1, H1, J, q⟩ := out
    exact ⟨σ1, H1, J.ofTry ok, q⟩
  | ret v =>
    obtain ⟨y, σ1, H1, J, r, q⟩ := out
    exact ⟨y, σ1, H1, J.ofTry ok, r, q⟩
theorem r_try {K : PySem.W.Frag} {D : Ends} {σ : L2.St} {H : Hp} (h : tb (wKeep K c i ts D) D σ H) : tTry K c i ts tb D σ H := h
theorem r_seqTry {K : PySem.W.Frag} {u : TS} {D : Ends} {σ : L2.St} {H : Hp} (h : tb (wKeep K c i ts { D with nx := u D }) { D with nx := u D } σ H) : tSeq (tTry K c i ts tb) u D σ H := h
/-- the suite is caught = e -/
theorem r_keep1 {K : PySem.W.Frag} {j : Nat} {D : Ends} {σ : L2.St} {H : Hp} {cls : Value} (m : PySem.W.exmOne K cls c = some true) (e : ∀ a : Addr, (σ.set i (some (.ref a)))[i]? = some (some (.ref a)))
    (h : ∀ a, H a = none → D.nx (((σ.set i (some (.ref a))).set j (some (.ref a))).set i none) (upd H a (Kept cls a))) : wKeep K c i (tAsg (tVar i) (gName j)) D cls none σ H :=
  ⟨rfl, m, fun a na => ⟨.ref a, e a, fun z => h a z⟩⟩
/-- isinstance(e, C), e a kept exception; and of every other value -/
def rIsA (K : PySem.W.Frag) : List V → Hp → VK → Prop := fun xs H Q => rIsi K xs H Q ∨ ∃ (a D : Addr) (c : V) (cv : Value) (b : Bool), xs = [.ref a, c] ∧ H a = some (Kept (.ref D) a) ∧ ExcC K D ∧ ClsV c cv ∧ PySem.W.kitOne K (.ref D) cv = some b ∧ Q (.bl b) H
theorem call_isA : CallR X (.builtin "isinstance") (rIsA X.K) := by
  intro pins s σ H xs us Q I r h
  rcases h with h | ⟨a, D, c, cv, b, rfl, ha, C, kc, e, q⟩
  · exact call_isi pins s σ H xs us Q I r h
  · obtain ⟨u1, u2, rfl, r1, r2⟩ := vals2 r
    cases (show u1 = Value.ref a from r1)
    have e2 := kc.eq r2
    subst e2
    obtain ⟨⟨oe, vs, g, z, d⟩, _⟩ := (show ObjOk X.prog X.w H s.heap a (Kept (.ref D) a) from I.hok a _ ha)
    have J : PySem.W.InstAt s.heap a oe D none := by
      obtain ⟨o1, o2, o3, o4⟩ := oe
      obtain ⟨y1, y2⟩ := z
      dsimp only at y1 y2 d
      subst y1 y2 d
      exact ⟨g, rfl, rfl, trivial⟩
    exact PySem.W.kia_one (PySem.W.handS_kitx_exc C.hg C.hk C.hs C.hd C.ha C.hn C.ht C.hm) I.kIn J e (fun q => nomatch q) fun tk => ⟨.bl b, H, I.kept (t' := tk) fun _ _ z => z, rfl, q⟩
theorem r_isA {K : PySem.W.Frag} {a D : Addr} {c : V} {cv : Value} {b : Bool} {H : Hp} {Q : VK} (ha : H a = some (Kept (.ref D) a)) (C : ExcC K D) (kc : ClsV c cv) (e : PySem.W.kitOne K (.ref D) cv = some b) (q : Q (.bl b) H) : rIsA K [.ref a, c] H Q :=
  .inr ⟨a, D, c, cv, b, rfl, ha, C, kc, e, q⟩
/-- list.count of flat things -/
def rCntV (K : PySem.W.Frag) : V → List V → Hp → VK → Prop := fun x vs H Q => ∃ (p : Addr) (ys : List V) (y : V), x = .ref p ∧ vs = [y] ∧ SqL K H p ys ∧ flatV y = true ∧ ys.all flatV = true ∧ Q (.int ((ys.countP fun z => eqV z y : Nat) : Int)) H
theorem count_eqU {y : V} : ∀ {ys : List V} {us : List Value}, Vals ys us → ys.all flatV = true → us.countP (eqU y) = ys.countP fun z => eqV z y
  | _, _, .nil, _ => rfl
  | z :: ys, u :: us, .cons r t, f => by
    rw [List.all_cons, Bool.and_eq_true] at f
    rw [List.countP_cons, List.countP_cons, count_eqU t f.2, eqU_of r f.1]
theorem xm_countV : MtR X "list.count" (rCntV X.K) := by
  intro pins s σ H x xs v us Q I rx rxs h
  obtain ⟨p, ys, y, rfl, rfl, hs, fy, fys, q⟩ := h
  cases (show v = Value.ref p from rx)
  obtain ⟨u, rfl, ru⟩ := rxs.one
  obtain ⟨its, rv, ⟨⟨o1, o2, o3, o4⟩, n, go, c1, c2, c3⟩, hlen⟩ := I.list hs
  simp only at c1 c3
  subst c1 c3
  refine call_meets PySem.F.slot_list_count ⟨_, go, rfl⟩ PySem.F.entry_list_count (PySem.F.args_list_count_2 _ _)
    (SeqAt.list_countAt p its.toArray n o2 o4 u (eqU y)) ⟨go, fun z hz => mem_eqAt ru fy rv fys z (by simpa using hz), ?_⟩
  have ec : its.toArray.toList.countP (eqU y) = ys.countP fun z => eqV z y := count_eqU rv fys
  rw [ec]
  exact ⟨.int ((ys.countP fun z => eqV z y : Nat) : Int), H, I.tok _, ⟨s.toks, rfl⟩, q⟩
end
end Ax

/-! ### data that is compared -/
namespace Ax
open PySem L2
section
variable {K : PySem.W.Frag} {H : Hp} {Q : VK} {a p : Addr} {xs : List V} {x y : V} {d e : PyData}
theorem dpa_ints : ∀ ns : List Int, DpAll K H (ns.map V.int) (ns.map PyData.int)
  | [] => .nil
  | i :: r => .cons (.int i) (dpa_ints r)
theorem dp_ints {ns : List Int} (s : SqL K H a (ns.map V.int)) : Dp K H (.ref a) (.list (ns.map PyData.int)) := .lst s (dpa_ints ns)
theorem eqv_same (s : SeqAt.shaped d = true) : PyData.eqv d d = true := SeqAt.eqv_refl d (SeqAt.canLay_of_shaped s)
theorem r_neD {b : Bool} (hx : Dp K H x d) (hy : Dp K H y e) (sx : SeqAt.shaped d = true) (sy : SeqAt.shaped e = true) (v : PyData.eqv d e = b) (h : Q (.bl (!b)) H) : rNeD K x y H Q := ⟨d, e, hx, hy, sx, sy, by rw [v]; exact h⟩
theorem r_eqD {b : Bool} (hx : Dp K H x d) (hy : Dp K H y e) (sx : SeqAt.shaped d = true) (sy : SeqAt.shaped e = true) (v : PyData.eqv d e = b) (h : Q (.bl b) H) : rEqD K x y H Q := ⟨d, e, hx, hy, sx, sy, by rw [v]; exact h⟩
/-- two values of one content -/
theorem r_neD1 (hx : Dp K H x d) (hy : Dp K H y d) (sx : SeqAt.shaped d = true) (h : Q (.bl false) H) : rNeD K x y H Q := r_neD hx hy sx sx (eqv_same sx) h
theorem r_eqD1 (hx : Dp K H x d) (hy : Dp K H y d) (sx : SeqAt.shaped d = true) (h : Q (.bl true) H) : rEqD K x y H Q := r_eqD hx hy sx sx (eqv_same sx) h
theorem eqv_ints : ∀ xs ys : List Int, PyData.eqvAll (xs.map PyData.int) (ys.map PyData.int) = decide (xs = ys)
  | [], [] => by simp [PyData.eqvAll]
  | [], _ :: _ => by simp [PyData.eqvAll]
  | _ :: _, [] => by simp [PyData.eqvAll]
  | x :: xs, y :: ys => by
    rw [List.map_cons, List.map_cons, PyData.eqvAll, eqv_ints xs ys]
    show ((x == y) && decide (xs = ys)) = decide (x :: xs = y :: ys)
    rw [Bool.beq_eq_decide_eq, Bool.eq_iff_iff]
    simp
theorem eqv_listI (xs ys : List Int) : PyData.eqv (.list (xs.map PyData.int)) (.list (ys.map PyData.int)) = decide (xs = ys) := by
  rw [PyData.eqv]
  exact eqv_ints xs ys
theorem eqv_nil (ns : List Int) : PyData.eqv (.list (ns.map PyData.int)) (.list []) = decide (ns = []) := by
  rw [← eqv_listI]
  rfl
theorem shp_ints (ns : List Int) : SeqAt.shaped (.list (ns.map PyData.int)) = true := PySem.W.ke_shaped_ints ns
end
section
variable {K : PySem.W.Frag} {H : Hp} {Q : VK} {a b : Addr} {xs ys : List Int}
theorem r_eqNil (s : SqL K H a (xs.map V.int)) (n : SqL K H b []) (h : Q (.bl (decide (xs = []))) H) : rEqD K (.ref a) (.ref b) H Q := r_eqD (dp_ints s) (.lst n .nil) (shp_ints xs) rfl (eqv_nil xs) h
theorem r_neNil (s : SqL K H a (xs.map V.int)) (n : SqL K H b []) (h : Q (.bl (!decide (xs = []))) H) : rNeD K (.ref a) (.ref b) H Q := r_neD (dp_ints s) (.lst n .nil) (shp_ints xs) rfl (eqv_nil xs) h
theorem r_eqInts (s : SqL K H a (xs.map V.int)) (t : SqL K H b (ys.map V.int)) (h : Q (.bl (decide (xs = ys))) H) : rEqD K (.ref a) (.ref b) H Q := r_eqD (dp_ints s) (dp_ints t) (shp_ints xs) (shp_ints ys) (eqv_listI xs ys) h
theorem r_neInts (s : SqL K H a (xs.map V.int)) (t : SqL K H b (ys.map V.int)) (h : Q (.bl (!decide (xs = ys))) H) : rNeD K (.ref a) (.ref b) H Q := r_neD (dp_ints s) (dp_ints t) (shp_ints xs) (shp_ints ys) (eqv_listI xs ys) h
end
/-! ### the state of the draws: a list of numbers at n, held with a counter by the list at d -/
section
variable {K : PySem.W.Frag} {H H1 H' : Hp} {d n a p : Addr} {o : HO} {xs : List V} {v : V} {Q : VK}
def Dr (H : Hp) (d n : Addr) : Prop := ∃ (ns : List Int) (c : Int), H d = some (.lst [.ref n, .int c]) ∧ H n = some (.lst (ns.map V.int)) ∧ 0 < ns.length ∧ ns.length ≤ 1000
def Kp (d n : Addr) (H H' : Hp) : Prop := ∀ b o, H b = some o → b ≠ d → b ≠ n → H' b = some o
def Of (d n a : Addr) : Prop := a ≠ d ∧ a ≠ n
theorem Dr.ne (h : Dr H d n) : n ≠ d := by
  obtain ⟨ns, c, e1, e2, h1, _⟩ := h
  refine ne_of e2 e1 fun z => ?_
  cases ns with
  | nil => simp at h1
  | cons x r =>
    have q : (x :: r).map V.int = [V.ref n, .int c] := by
      injection z
    rw [List.map_cons] at q
    cases q
theorem Dr.same (s : Same H H') (h : Dr H d n) : Dr H' d n := by
  obtain ⟨ns, c, e1, e2, h1, h2⟩ := h
  exact ⟨ns, c, s _ _ e1, s _ _ e2, h1, h2⟩
theorem Dr.updn (np : H p = none) (h : Dr H d n) : Dr (upd H p o) d n := h.same (same_new np)
theorem Dr.off (h : Dr H d n) (np : H p = none) : Of d n p := by
  obtain ⟨ns, c, e1, e2, _⟩ := h
  exact ⟨(ne_of_none e1 np).symm, (ne_of_none e2 np).symm⟩
theorem Kp.of (s : Same H H') : Kp d n H H' := fun b o e _ _ => s b o e
theorem Kp.refl (H : Hp) : Kp d n H H := fun _ _ e _ _ => e
theorem Kp.trans (a : Kp d n H H1) (b : Kp d n H1 H') : Kp d n H H' := fun c o e h1 h2 => b c o (a c o e h1 h2) h1 h2
theorem Kp.at (k : Kp d n H H') (o' : Of d n a) (h : H a = some o) : H' a = some o := k a o h o'.1 o'.2
theorem Dr.lst (h : Dr H d n) : ∃ xs ys, H d = some (.lst xs) ∧ H n = some (.lst ys) := by
  obtain ⟨ns, c, e1, e2, _⟩ := h
  exact ⟨_, _, e1, e2⟩
theorem Kp.seqT (k : Kp d n H H') (r : Dr H d n) (h : SqT K H a xs) : SqT K H' a xs := by
  obtain ⟨ys, zs, e1, e2⟩ := r.lst
  have ne : ∀ u, H a = some u → (∀ ws, u ≠ .lst ws) → H' a = some u := fun u e z => k a u e (ne_of e e1 (z _)) (ne_of e e2 (z _))
  rcases h with (h | ⟨o, h⟩) | h
  · exact .inl (.inl (ne _ h fun _ z => by cases z))
  · exact .inl (.inr ⟨o, ne _ h fun _ z => by cases z⟩)
  · exact .inr h
theorem Kp.seqL (k : Kp d n H H') (o : Of d n a) (h : SqL K H a xs) : SqL K H' a xs := by
  rcases h with (h | ⟨u, h⟩) | h
  · exact .inl (.inl (k.at o h))
  · exact .inl (.inr ⟨u, k.at o h⟩)
  · exact .inr h
/-- a list of the script's kind: known to the object, or written: no draw changes it -/
theorem r_gsub {σ : L2.St} {to ti : TE} {t : TSet} {Q : L2.St → Hp → Prop} (h : to σ H fun o H1 => ti σ H1 fun i H2 => t o i v H2 fun H3 => Q σ H3) : gSub to ti t v σ H Q := h
theorem r_setL {k : Int} {j : Nat} {Q : Hp → Prop} (h : H p = some (.lst xs)) (e : ixN xs.length k = some j) (q : Q (upd H p (.lst (xs.set j v)))) : rSetL (.ref p) (.int k) v H Q := ⟨p, xs, k, j, rfl, rfl, h, e, q⟩
theorem r_seqAsgG {te : TE} {g : TG} {u : TS} {D : Ends} {σ : L2.St} (h : te σ H fun x H1 => g x σ H1 (u D)) : tSeq (tAsg te g) u D σ H := h
theorem ixN_ok {n : Nat} {i : Int} (h0 : 0 ≤ i) (h1 : i < n) : ixN n i = some i.toNat := by
  unfold ixN
  rw [if_pos h0, if_pos h1]
theorem atI_ok {α : Type} {xs : List α} {i : Int} {v : α} (h0 : 0 ≤ i) (h : xs[i.toNat]? = some v) : atI xs i = some v := by
  have h1 : i.toNat < xs.length := (List.getElem?_eq_some_iff.mp h).1
  unfold atI
  rw [ixN_ok h0 (by omega)]
  exact h
/-- a method of a list -/
def BmG (K : PySem.W.Frag) (T : String) (r : V → List V → Hp → VK → Prop) (t : TA) (σ : L2.St) (x : V) (H1 : Hp) (Q : VK) : Prop := tyV K T x H1 ∧ t σ H1 fun xs H2 => r x xs H2 Q
theorem r_bm {T : String} {r : V → List V → Hp → VK → Prop} {to : TE} {t : TA} {σ : L2.St} (h : to σ H fun x H1 => BmG K T r t σ x H1 Q) : tBM K T r to t σ H Q := h
theorem r_bmL {r : V → List V → Hp → VK → Prop} {t : TA} {σ : L2.St} (s : SqL K H p xs) (h : t σ H fun ys H2 => r (.ref p) ys H2 Q) : BmG K "list" r t σ (.ref p) H Q := ⟨.inl ⟨rfl, _, s⟩, h⟩
theorem r_append {l : Addr} {y : V} (h : H l = some (.lst xs)) (z : xs.length < sizeLine) (q : Q .non (upd H l (.lst (xs ++ [y])))) : rAppend (.ref l) [y] H Q := ⟨l, xs, y, rfl, rfl, h, z, q⟩
theorem r_cntV {y : V} (m : Nat) (s : SqL K H p xs) (fy : flatV y = true) (fs : xs.all flatV = true) (e : (xs.countP fun z => eqV z y) = m) (h : Q (.int (m : Int)) H) : rCntV K (.ref p) [y] H Q := ⟨p, xs, y, rfl, rfl, s, fy, fs, by rw [e]; exact h⟩
theorem r_index {y z : V} (j : Nat) (s : SqL K H p xs) (fy : flatV y = true) (fs : xs.all flatV = true) (e : xs[j]? = some z) (q : eqV z y = true) (no : ∀ (m : Nat) (z' : V), m < j → xs[m]? = some z' → eqV z' y = false) (h : Q (.int (j : Nat)) H) : rIndex K (.ref p) [y] H Q :=
  ⟨p, xs, y, j, z, rfl, rfl, s, fy, fs, e, q, no, h⟩
theorem mixed_bound (m : Int) (h0 : 0 ≤ m) (h1 : m < 4294967291) : m.natAbs < 2 ^ 64 := by omega
end
end Ax

namespace Ax
open PySem L2
section
variable {K : PySem.W.Frag} {H H1 H' : Hp} {σ : L2.St} {Q : VK} {p a : Addr} {xs : List V} {x y z : V} {D : Ends} {ta : TA} {i j l : Nat} {u : TS}
theorem r_gtup2 {Q : L2.St → Hp → Prop} (s : SqT K H p [x, y]) (h : Q ((σ.set i (some x)).set j (some y)) H) : gTup K 2 (gCons (gName i) (gCons (gName j) gNil)) (.ref p) σ H Q := ⟨p, _, rfl, s, rfl, x, _, rfl, y, _, rfl, rfl, h⟩
theorem r_gtup3 {Q : L2.St → Hp → Prop} (s : SqT K H p [x, y, z]) (h : Q (((σ.set i (some x)).set j (some y)).set l (some z)) H) : gTup K 3 (gCons (gName i) (gCons (gName j) (gCons (gName l) gNil))) (.ref p) σ H Q := ⟨p, _, rfl, s, rfl, x, _, rfl, y, _, rfl, z, _, rfl, rfl, h⟩
theorem r_notB {a b : Bool} (h : Q (.bl (!decide (a = b))) H) : rNotB (.bl a) (.bl b) H Q := ⟨a, b, rfl, rfl, h⟩
theorem r_isB {a b : Bool} (h : Q (.bl (decide (a = b))) H) : rIsB (.bl a) (.bl b) H Q := ⟨a, b, rfl, rfl, h⟩
theorem r_rep {k : Nat} (h : H p = some (.lst xs)) (e : xs.length * k ≤ 1000000) (k1 : k ≤ 1000000) (q : ∀ p, H p = none → Q (.ref p) (upd H p (.lst (List.replicate k xs).flatten))) : rRep (.ref p) (.int (k : Int)) H Q :=
  ⟨p, k, xs, rfl, rfl, h, by omega, by omega, by rw [Int.toNat_natCast, sizeLine_eq]; omega, by rw [Int.toNat_natCast]; exact q⟩
def ParG (i j : Nat) (vs : List V) (Q : L2.St → Hp → Prop) (σ : L2.St) (H1 : Hp) : Prop := ∃ v w, vs = [v, w] ∧ Q ((σ.set i (some v)).set j (some w)) H1
theorem r_parS (h : ta σ H fun vs H1 => ParG i j vs D.nx σ H1) : tPar i j ta D σ H := h
theorem r_seqPar (h : ta σ H fun vs H1 => ParG i j vs (u D) σ H1) : tSeq (tPar i j ta) u D σ H := h
theorem r_par {Q : L2.St → Hp → Prop} (h : Q ((σ.set i (some x)).set j (some y)) H) : ParG i j [x, y] Q σ H := ⟨x, y, rfl, h⟩
def ParG3 (i j l : Nat) (vs : List V) (Q : L2.St → Hp → Prop) (σ : L2.St) (H1 : Hp) : Prop := ∃ u v w, vs = [u, v, w] ∧ Q (((σ.set i (some u)).set j (some v)).set l (some w)) H1
theorem r_parS3 (h : ta σ H fun vs H1 => ParG3 i j l vs D.nx σ H1) : tPar3 i j l ta D σ H := h
theorem r_seqPar3 (h : ta σ H fun vs H1 => ParG3 i j l vs (u D) σ H1) : tSeq (tPar3 i j l ta) u D σ H := h
theorem r_par3 {Q : L2.St → Hp → Prop} (h : Q (((σ.set i (some x)).set j (some y)).set l (some z)) H) : ParG3 i j l [x, y, z] Q σ H := ⟨x, y, z, rfl, h⟩
/-- what stands behind a statement, told once: for all slots of the kind S and all grown heaps -/
theorem r_cut {t u : TS} (S : L2.St → Prop) (rest : ∀ σ' H', S σ' → Same H H' → u D σ' H') (h : (∀ σ' H', S σ' → Same H H' → u D σ' H') → t { D with nx := u D } σ H) : tSeq t u D σ H := h rest
theorem r_cut0 {t u : TS} (rest : ∀ H', Same H H' → u D σ H') (h : (∀ H', Same H H' → u D σ H') → t { D with nx := u D } σ H) : tSeq t u D σ H := h rest
theorem r_cutS (i : Nat) {t u : TS} (rest : ∀ y H', Same H H' → u D (σ.set i y) H') (h : (∀ y H', Same H H' → u D (σ.set i y) H') → t { D with nx := u D } σ H) : tSeq t u D σ H := h rest
mutual
theorem Dp.same (s : Same H H') : ∀ (d : PyData) (v : V), Dp K H v d → Dp K H' v d
  | .none, _, h => by cases h; exact .non
  | .bool _, _, h => by cases h; exact .bl _
  | .int _, _, h => by cases h; exact .int _
  | .str _, _, h => by cases h; exact .str _
  | .list ds, _, h => by
    cases h with
    | lst q r => exact .lst (Same.seq s q) (DpAll.same s ds _ r)
  | .tuple ds, _, h => by
    cases h with
    | tup q r => exact .tup (Same.seqT s q) (DpAll.same s ds _ r)
  | .dict _, _, h => by cases h
theorem DpAll.same (s : Same H H') : ∀ (ds : List PyData) (vs : List V), DpAll K H vs ds → DpAll K H' vs ds
  | [], _, h => by cases h; exact .nil
  | d :: ds, _, h => by
    cases h with
    | cons q r => exact .cons (Dp.same s d _ q) (DpAll.same s ds _ r)
end
theorem Dp.to {d : PyData} {v : V} (s : Same H H') (h : Dp K H v d) : Dp K H' v d := Dp.same s d v h
theorem DpAll.to {ds : List PyData} {vs : List V} (s : Same H H') (h : DpAll K H vs ds) : DpAll K H' vs ds := DpAll.same s ds vs h
theorem DpAll.app : ∀ {vs ws : List V} {ds es : List PyData}, DpAll K H vs ds → DpAll K H ws es → DpAll K H (vs ++ ws) (ds ++ es)
  | _, _, _, _, .nil, h => h
  | _, _, _, _, .cons q r, h => .cons q (DpAll.app r h)
theorem dpa_len : ∀ {vs : List V} {ds : List PyData}, DpAll K H vs ds → vs.length = ds.length
  | _, _, .nil => rfl
  | _, _, .cons _ r => by rw [List.length_cons, List.length_cons, dpa_len r]
mutual
def noList : PyData → Bool
  | .list _ => false
  | .dict _ => false
  | .tuple ds => noLists ds
  | _ => true
def noLists : List PyData → Bool
  | [] => true
  | d :: ds => noList d && noLists ds
end
mutual
theorem dp_tups (s : ∀ a xs, SqT K H a xs → SqT K H' a xs) : ∀ (d : PyData) (v : V), noList d = true → Dp K H v d → Dp K H' v d
  | .none, _, _, h => by cases h; exact .non
  | .bool _, _, _, h => by cases h; exact .bl _
  | .int _, _, _, h => by cases h; exact .int _
  | .str _, _, _, h => by cases h; exact .str _
  | .list ds, _, n, h => by
    rw [noList] at n
    cases n
  | .tuple ds, _, n, h => by
    rw [noList] at n
    cases h with
    | tup q r => exact .tup (s _ _ q) (dpa_tups s ds _ n r)
  | .dict _, _, _, h => by cases h
theorem dpa_tups (s : ∀ a xs, SqT K H a xs → SqT K H' a xs) : ∀ (ds : List PyData) (vs : List V), noLists ds = true → DpAll K H vs ds → DpAll K H' vs ds
  | [], _, _, h => by cases h; exact .nil
  | d :: ds, _, n, h => by
    rw [noLists, Bool.and_eq_true] at n
    cases h with
    | cons q r => exact .cons (dp_tups s d _ n.1 q) (dpa_tups s ds _ n.2 r)
end
theorem seqT_lst {ys zs : List V} (h : H p = some (.lst ys)) (s : SqT K H a xs) : SqT K (upd H p (.lst zs)) a xs := by
  have ne : ∀ u, H a = some u → (∀ ws, u ≠ .lst ws) → upd H p (.lst zs) a = some u := fun u e z => by
    rw [upd_ne (ne_of e h (z _))]
    exact e
  rcases s with (s | ⟨o, s⟩) | s
  · exact .inl (.inl (ne _ s fun _ z => by cases z))
  · exact .inl (.inr ⟨o, ne _ s fun _ z => by cases z⟩)
  · exact .inr s
/-- [e for x in ..], each of a known content (without lists) -/
theorem lc_coreD {J : It} {n : Nat} {G : Hp → Prop} {Y : Nat → V} (w : Walk J n G fun i H x H' => H' = H ∧ x = Y i) {ix : Nat} {te : TE} {f : Nat → PyData} (hz : n ≤ 1000000) (hn : ∀ i, i < n → noList (f i) = true) (hG : ∀ H', Same H1 H' → G H')
    (he : ∀ i H2 (Q' : VK), i < n → Same H1 H2 → (∀ v H3, Same H2 H3 → Dp K H3 v (f i) → Q' v H3) → te ((wipe σ [ix]).set ix (some (Y i))) H2 Q')
    (hd : ∀ D H' vs, Same H1 H' → H1 D = none → H' D = some (.lst vs) → DpAll K H' vs ((List.range n).map f) → Q (.ref D) H') : LcG J (gName ix) tYes te [ix] σ H1 Q := by
  intro D nD
  have nl : ∀ i, i ≤ n → noLists ((List.range i).map f) = true := by
    intro i
    induction i with
    | zero => intro _; rfl
    | succ i ih =>
      intro hi
      have ih := ih (by omega)
      rw [List.range_succ, List.map_append]
      have app : ∀ ds es : List PyData, noLists ds = true → noLists es = true → noLists (ds ++ es) = true := by
        intro ds
        induction ds with
        | nil => intro es _ h; exact h
        | cons d r ihr =>
          intro es h1 h2
          rw [noLists, Bool.and_eq_true] at h1
          show noLists (d :: (r ++ es)) = true
          rw [noLists, Bool.and_eq_true]
          exact ⟨h1.1, ihr es h1.2 h2⟩
      refine app _ _ ih ?_
      show (noList (f i) && true) = true
      rw [hn i (by omega)]
      rfl
  refine lc_it w (fun i H' => Same H1 H' ∧ ∃ vs, H' D = some (.lst vs) ∧ DpAll K H' vs ((List.range i).map f)) ⟨same_new nD, [], upd_same, .nil⟩ (fun i H' _ q => hG H' q.1) ?_ (fun H' ⟨q1, vs, q2, q3⟩ => hd D H' vs q1 nD q2 q3)
  rintro i x H2 H2' hi ⟨sm, vs, hD, da⟩ ⟨rfl, rfl⟩
  refine ⟨wipe_one σ ix _, ?_⟩
  refine r_yes ?_
  rw [if_pos rfl]
  refine he i H2' _ hi sm fun v H4 s4 dv => ?_
  have hD4 := s4 _ _ hD
  refine ⟨vs, hD4, ?_, fun b u e => ?_, vs ++ [v], upd_same, ?_⟩
  · have e1 := dpa_len da
    rw [List.length_map, List.length_range] at e1
    rw [sizeLine_eq]
    omega
  · rw [upd_ne (ne_of_none e nD)]
    exact s4 _ _ (sm _ _ e)
  · rw [List.range_succ, List.map_append]
    exact DpAll.app (dpa_tups (fun a xs q => seqT_lst hD4 q) _ _ (nl i (by omega)) (DpAll.to s4 da)) (.cons (dp_tups (fun a xs q => seqT_lst hD4 q) _ _ (hn i hi) dv) .nil)
theorem lc_rngD {lo : Int} {n ix : Nat} {te : TE} {f : Nat → PyData} (hz : n ≤ 1000000) (hn : ∀ i, i < n → noList (f i) = true)
    (he : ∀ i H2 (Q' : VK), i < n → Same H1 H2 → (∀ v H3, Same H2 H3 → Dp K H3 v (f i) → Q' v H3) → te ((wipe σ [ix]).set ix (some (.int (lo + i)))) H2 Q')
    (hd : ∀ D H' vs, Same H1 H' → H1 D = none → H' D = some (.lst vs) → DpAll K H' vs ((List.range n).map f) → Q (.ref D) H') : LcG (Itr lo n) (gName ix) tYes te [ix] σ H1 Q :=
  lc_coreD (Y := fun i => .int (lo + i)) (walk_range.mono (fun _ h => h) fun _ _ _ _ _ _ y => y) hz hn (fun _ _ => trivial) he hd
end
end Ax

/-! ### the mathematics of marks -/
namespace Ax
open PySem L2
theorem div_pred (m st : Int) (h : 0 < st) : m / st = (m - 1) / st + if m % st = 0 then 1 else 0 := by
  have q1 := Int.emod_add_mul_ediv (m - 1) st
  have q2 := Int.emod_nonneg (m - 1) (show st ≠ 0 by omega)
  have q3 := Int.emod_lt_of_pos (m - 1) h
  generalize (m - 1) / st = q at q1 ⊢
  generalize (m - 1) % st = r at q1 q2 q3
  by_cases c : r + 1 < st
  · have u := (Int.ediv_emod_unique h (a := m) (q := q) (r := r + 1)).mpr ⟨by omega, by omega, c⟩
    rw [u.1, u.2, if_neg (by omega)]
    omega
  · have e : r + 1 = st := by omega
    have e2 : st * (q + 1) = st * q + st := by rw [Int.mul_add, Int.mul_one]
    have u := (Int.ediv_emod_unique h (a := m) (q := q + 1) (r := 0)).mpr ⟨by omega, by omega, h⟩
    rw [u.1, u.2, if_pos rfl]
theorem ceil_eq (lo st : Int) (h : 0 < st) : -(-lo / st) = (lo - 1) / st + 1 := by
  have q1 := Int.emod_add_mul_ediv (lo - 1) st
  have q2 := Int.emod_nonneg (lo - 1) (show st ≠ 0 by omega)
  have q3 := Int.emod_lt_of_pos (lo - 1) h
  generalize (lo - 1) / st = q at q1 ⊢
  generalize (lo - 1) % st = r at q1 q2 q3
  have e2 : st * (-q - 1) = -(st * q) - st := by rw [Int.mul_sub, Int.mul_neg, Int.mul_one]
  have u := (Int.ediv_emod_unique h (a := -lo) (q := -q - 1) (r := st - 1 - r)).mpr ⟨by omega, by omega, by omega⟩
  rw [u.1]
  omega
theorem fst_eq (lo st : Int) (h : 0 < st) : fst lo st = ((lo - 1) / st + 1) * st := by
  unfold fst
  rw [ceil_eq lo st h]
def marksL (lo hi st : Int) : List Int := (List.range (cnt lo hi st).toNat).map fun (k : Nat) => fst lo st + (k : Int) * st
/-- the multiples among lo .. hi, by trying all -/
def triedL (lo hi st : Int) : List Int := ((List.range (hi + 1 - lo).toNat).map fun (k : Nat) => lo + (k : Int)).filter fun v => decide (v % st = 0)
theorem tried_ap (lo st : Int) (h : 0 < st) : ∀ n : Nat, ((List.range n).map fun (k : Nat) => lo + (k : Int)).filter (fun v => decide (v % st = 0)) = (List.range ((lo + n - 1) / st - (lo - 1) / st).toNat).map fun (k : Nat) => fst lo st + (k : Int) * st
  | 0 => by
    have e : (lo + ((0 : Nat) : Int) - 1) / st - (lo - 1) / st = 0 := by
      have : lo + ((0 : Nat) : Int) - 1 = lo - 1 := by omega
      rw [this]
      omega
    rw [e]
    rfl
  | n + 1 => by
    rw [List.range_succ, List.map_append, List.filter_append, tried_ap lo st h n]
    have d := div_pred (lo + n) st h
    have e1 : lo + ((n + 1 : Nat) : Int) - 1 = lo + n := by omega
    have mono : (lo - 1) / st ≤ (lo + n - 1) / st := Int.ediv_le_ediv h (by omega)
    rw [e1, d]
    by_cases c : (lo + n) % st = 0
    · rw [if_pos c]
      have e2 : ((lo + n - 1) / st + 1 - (lo - 1) / st).toNat = ((lo + n - 1) / st - (lo - 1) / st).toNat + 1 := by omega
      rw [e2, List.range_succ, List.map_append]
      congr 1
      have e3 : ((((lo + n - 1) / st - (lo - 1) / st).toNat : Nat) : Int) = (lo + n - 1) / st - (lo - 1) / st := by omega
      have e4 : fst lo st + ((((lo + n - 1) / st - (lo - 1) / st).toNat : Nat) : Int) * st = lo + n := by
        rw [e3, fst_eq lo st h, ← Int.add_mul]
        have e5 : (lo - 1) / st + 1 + ((lo + n - 1) / st - (lo - 1) / st) = (lo + n) / st := by
          rw [d, if_pos c]
          omega
        rw [e5]
        have := Int.emod_add_mul_ediv (lo + n) st
        rw [Int.mul_comm]
        omega
      have e6 : List.filter (fun v => decide (v % st = 0)) (List.map (fun (k : Nat) => lo + (k : Int)) [n]) = [lo + (n : Int)] := by simp [c]
      rw [e6]
      show [lo + (n : Int)] = [fst lo st + ((((lo + n - 1) / st - (lo - 1) / st).toNat : Nat) : Int) * st]
      rw [e4]
    · rw [if_neg c, Int.add_zero]
      simp [c]
theorem tried_marks (lo hi st : Int) (h : 0 < st) (r : lo ≤ hi + 1) : triedL lo hi st = marksL lo hi st := by
  unfold triedL marksL cnt
  rw [tried_ap lo st h]
  have e : lo + (((hi + 1 - lo).toNat : Nat) : Int) - 1 = hi := by omega
  rw [e]
theorem marks_len (lo hi st : Int) : (marksL lo hi st).length = (cnt lo hi st).toNat := by
  unfold marksL
  rw [List.length_map, List.length_range]
theorem tried_mem (lo hi st v : Int) : v ∈ triedL lo hi st ↔ (lo ≤ v ∧ v ≤ hi) ∧ v % st = 0 := by
  unfold triedL
  rw [List.mem_filter, List.mem_map]
  constructor
  · rintro ⟨⟨k, hk, rfl⟩, e⟩
    rw [List.mem_range] at hk
    exact ⟨by omega, of_decide_eq_true e⟩
  · rintro ⟨⟨h1, h2⟩, e⟩
    exact ⟨⟨(v - lo).toNat, List.mem_range.mpr (by omega), by omega⟩, decide_eq_true e⟩
theorem marks_get (lo hi st : Int) (k : Nat) (h : (k : Int) < cnt lo hi st) : (marksL lo hi st)[k]? = some (fst lo st + (k : Int) * st) := by
  unfold marksL
  rw [List.getElem?_map, List.getElem?_range (by omega)]
  rfl
theorem lst_fst (lo hi st : Int) (h : 0 < st) : fst lo st + (cnt lo hi st - 1) * st = lst hi st := by
  rw [fst_eq lo st h, ← Int.add_mul]
  unfold cnt lst
  congr 1
  omega
theorem fst_ge (lo hi st : Int) (h : 0 < st) (c : cnt lo hi st ≠ 0) (r : lo ≤ hi + 1) : marksL lo hi st ≠ [] := fun e => by
  have l := marks_len lo hi st
  rw [e] at l
  have q : 0 ≤ cnt lo hi st := by
    unfold cnt
    have : (lo - 1) / st ≤ hi / st := Int.ediv_le_ediv h (by omega)
    omega
  have l0 : ([] : List Int).length = 0 := rfl
  rw [l0] at l
  omega
theorem marks_nil (lo hi st : Int) (h : 0 < st) (r : lo ≤ hi + 1) : marksL lo hi st = [] ↔ cnt lo hi st = 0 := by
  have l := marks_len lo hi st
  have q : 0 ≤ cnt lo hi st := by
    unfold cnt
    have : (lo - 1) / st ≤ hi / st := Int.ediv_le_ediv h (by omega)
    omega
  constructor
  · intro e
    rw [e] at l
    have l0 : ([] : List Int).length = 0 := rfl
    omega
  · intro e
    exact List.eq_nil_of_length_eq_zero (by omega)
/-- the first and the last mark stand at the list's ends -/
theorem marks_ends (lo hi st : Int) (h : 0 < st) (c : 0 < cnt lo hi st) : atI ((marksL lo hi st).map V.int) 0 = some (.int (fst lo st)) ∧ atI ((marksL lo hi st).map V.int) (-1) = some (.int (lst hi st)) := by
  have l := marks_len lo hi st
  have g0 := marks_get lo hi st 0 c
  have g1 := marks_get lo hi st ((cnt lo hi st - 1).toNat) (by omega)
  have e1 : (((cnt lo hi st - 1).toNat : Nat) : Int) = cnt lo hi st - 1 := by omega
  rw [e1, lst_fst lo hi st h] at g1
  constructor
  · refine atI_nat (j := 0) ?_
    rw [List.getElem?_map, g0]
    show some (V.int (fst lo st + ((0 : Nat) : Int) * st)) = _
    have : fst lo st + ((0 : Nat) : Int) * st = fst lo st := by simp
    rw [this]
  · unfold atI ixN
    rw [List.length_map, if_neg (by decide), if_pos (by omega)]
    show (List.map V.int (marksL lo hi st))[(-1 + ((marksL lo hi st).length : Int)).toNat]? = _
    have e2 : (-1 + ((marksL lo hi st).length : Int)).toNat = (cnt lo hi st - 1).toNat := by omega
    rw [e2, List.getElem?_map, g1]
    rfl
theorem cnt_le (lo hi st : Int) (r : Rg lo hi) (h : 1 ≤ st) : cnt lo hi st ≤ 2000001 := by
  obtain ⟨r1, r2, r3⟩ := r
  unfold cnt
  have h1 : hi / st ≤ 1000000 := by
    have := Int.ediv_le_ediv (c := st) (by omega) r3
    have h2 : (1000000 : Int) / st ≤ 1000000 := Int.ediv_le_self _ (by decide)
    omega
  have h3 : -1000001 ≤ (lo - 1) / st := by
    refine (Int.le_ediv_iff_mul_le (by omega)).mpr ?_
    have : (-1000001 : Int) * st ≤ -1000001 * 1 := Int.mul_le_mul_of_nonpos_left (by decide) h
    omega
  omega
theorem nearest_ok (v st : Int) (h : 0 < st) : ((2 * v + st) / (2 * st) * st) % st = 0 ∧ 0 - st < 2 * ((2 * v + st) / (2 * st) * st - v) ∧ 2 * ((2 * v + st) / (2 * st) * st - v) ≤ st := by
  have q1 := Int.emod_add_mul_ediv (2 * v + st) (2 * st)
  have q2 := Int.emod_nonneg (2 * v + st) (show 2 * st ≠ 0 by omega)
  have q3 := Int.emod_lt_of_pos (2 * v + st) (show 0 < 2 * st by omega)
  generalize (2 * v + st) / (2 * st) = q at q1 ⊢
  generalize (2 * v + st) % (2 * st) = r at q1 q2 q3
  have e : 2 * st * q = 2 * (q * st) := by rw [Int.mul_assoc, Int.mul_comm st q]
  exact ⟨Int.mul_emod_left _ _, by omega, by omega⟩
end Ax

/-! ### classes: isinstance, except, by the facts of the written part -/
namespace Ax
open PySem PySem.W L2
section
variable {K : Frag} {A B : Addr}
theorem kit_cls_ref {b : Bool} (hd : hasDictIn K B = true) (ht : typeIn K (.ref B) = some (.type "type")) (h : subIn K (.ref A) (.ref B) = some b) : kitCls K (.ref A) (.ref B) = some b := by
  obtain ⟨cd, hc, _⟩ := any_some hd
  have e : ((clsIn K B).isSome && typeIn K (.ref B) == some (.type "type")) = true := by rw [hc, ht] <;> rfl
  show (if ((clsIn K B).isSome && typeIn K (.ref B) == some (.type "type")) = true then subIn K (.ref A) (.ref B) else none) = some b
  rw [if_pos e]
  exact h
theorem kit_true (hd : hasDictIn K B = true) (ht : typeIn K (.ref B) = some (.type "type")) (h : subIn K (.ref A) (.ref B) = some true) : kitOne K (.ref A) (.ref B) = some true := by
  unfold kitOne
  by_cases c : ((.ref A : Value) == .ref B) = true
  · rw [if_pos c]
  · rw [if_neg c]
    exact kit_cls_ref hd ht h
theorem kit_false (hs : subIn K (.ref A) (.ref A) = some true) (hd : hasDictIn K B = true) (ht : typeIn K (.ref B) = some (.type "type")) (h : subIn K (.ref A) (.ref B) = some false) : kitOne K (.ref A) (.ref B) = some false := by
  unfold kitOne
  by_cases c : ((.ref A : Value) == .ref B) = true
  · have e : A = B := Value.ref.inj (beq_iff_eq.mp c)
    subst e
    rw [hs] at h
    cases h
  · rw [if_neg c]
    exact kit_cls_ref hd ht h
theorem kit_ve (h : subIn K (.ref A) (.type "ValueError") = some true) : kitOne K (.ref A) (.type "ValueError") = some true := by
  unfold kitOne
  rw [if_neg (by simp)]
  show (if kitMeta "ValueError" = true then subIn K (.ref A) (.type "ValueError") else none) = some true
  rw [if_pos (by decide +kernel)]
  exact h
end
end Ax

/-! ### steps by their order -/
namespace Ax
open PySem L2
def nextS (st : Int) : List Int := steps.filter fun x => decide (st < x)
def prevS (st : Int) : List Int := steps.filter fun x => decide (x < st)
def geS (w : Int) : List Int := steps.filter fun x => decide (w ≤ x)
def leS (w : Int) : List Int := steps.filter fun x => decide (x ≤ w)
def bothS (a b : Int) : List Int := steps.filter fun x => decide (x % a = 0) && decide (x % b = 0)
def partsL (st : Int) : List Int := ((List.range 9).map fun (k : Nat) => 2 + (k : Int)).filter fun m => decide (st % m = 0) && decide (st / m ∈ steps)
/-- no whole number from lo to hi -/
def NotNum (K : PySem.W.Frag) (H : Hp) (v : V) (lo hi : Int) : Prop := (∃ i, v = .int i ∧ ¬ (lo ≤ i ∧ i ≤ hi)) ∨ NotInt K H v
section
variable {K : PySem.W.Frag} {H H' : Hp} {a : Addr} {Q : VK} {xs : List Int} {x : Int}
theorem NotNum.same {v : V} {lo hi : Int} (s : Same H H') (h : NotNum K H v lo hi) : NotNum K H' v lo hi := h.imp id (NotInt.same s)
theorem at_head (h : xs.head? = some x) : atI (xs.map V.int) 0 = some (.int x) := by
  cases xs with
  | nil => cases h
  | cons y r =>
    cases h
    exact atI_nat (j := 0) rfl
theorem at_lastI (h : xs.getLast? = some x) : atI (xs.map V.int) (-1) = some (.int x) := by
  obtain ⟨ys, rfl⟩ := List.getLast?_eq_some_iff.mp h
  rw [List.map_append]
  exact atI_last _ _
theorem head_some (h : xs ≠ []) : ∃ x, xs.head? = some x := by
  cases xs with
  | nil => exact absurd rfl h
  | cons y r => exact ⟨y, rfl⟩
theorem last_some (h : xs ≠ []) : ∃ x, xs.getLast? = some x := ⟨_, List.getLast?_eq_some_getLast h⟩
theorem flt_le (p : Int → Bool) : (steps.filter p).length ≤ 1000000 := Nat.le_trans (List.length_filter_le _ _) (by decide)
theorem at_stepN (j : Nat) (h : steps[j]? = some x) : atI (steps.map V.int) (j : Int) = some (.int x) := atI_nat (by rw [List.getElem?_map, h]; rfl)
end
section
variable {X : Cx} {K : PySem.W.Frag}
theorem op_in_seqK (e : X.K = K) : OpR X (compareOp .In) (rIn K false) := e ▸ op_in_seq
theorem op_notIn_seqK (e : X.K = K) : OpR X (compareOp .NotIn) (rIn K true) := e ▸ op_notIn_seq
theorem ix_listK (e : X.K = K) : IxR X (rIxL K) := e ▸ ix_list
theorem ix_tupK (e : X.K = K) : IxR X (rIxT K) := e ▸ ix_tup
theorem sl_listK (e : X.K = K) : SlR X (rSlL K) := e ▸ sl_list
theorem op_eqDK (e : X.K = K) (hu : X.A.units + 64 < cLine) : OpR X (compareOp .Eq) (rEqD K) := e ▸ op_eqD hu
theorem op_neDK (e : X.K = K) (hu : X.A.units + 64 < cLine) : OpR X (compareOp .NotEq) (rNeD K) := e ▸ op_neD hu
theorem xc_lenK (e : X.K = K) : CallR X (.builtin "len") (rLen K) := e ▸ xc_len
end
section
variable {K : PySem.W.Frag} {H : Hp} {Q : VK} {σ : L2.St} {ta tb : TE}
def rgI (a b : Int) : List Int := (List.range (b - a).toNat).map fun (i : Nat) => a + (i : Int)
theorem rgV_I (a b : Int) : rgV a b = (rgI a b).map V.int := by
  unfold rgV rgI
  rw [List.map_map]
  rfl
def LrG (a b : Int) (Q : VK) (H1 : Hp) : Prop := RgOk a b ∧ ∀ q, H1 q = none → Q (.ref q) (upd H1 q (.lst (rgV a b)))
def LrG1 (x : V) (Q : VK) (H1 : Hp) : Prop := ∃ n, x = .int n ∧ LrG 0 n Q H1
def LrG2 (x y : V) (Q : VK) (H1 : Hp) : Prop := ∃ i j, x = .int i ∧ y = .int j ∧ LrG i j Q H1
theorem r_lstRg1 (h : ta σ H fun x H1 => LrG1 x Q H1) : tLstRg (tRg1 ta) σ H Q := h
theorem r_lstRg2 (h : ta σ H fun x H1 => tb σ H1 fun y H2 => LrG2 x y Q H2) : tLstRg (tRg2 ta tb) σ H Q := h
theorem r_lrg1 {j : Int} (b : -1000000 ≤ j ∧ j ≤ 16000000) (h : ∀ q, H q = none → Q (.ref q) (upd H q (.lst ((rgI 0 j).map V.int)))) : LrG1 (.int j) Q H := ⟨j, rfl, ⟨by omega, by omega, by omega, by omega, by omega⟩, by rw [rgV_I]; exact h⟩
theorem r_lrg2 {i j : Int} (b : -4000000 ≤ i ∧ i ≤ 4000000 ∧ -4000000 ≤ j ∧ j ≤ 4000000) (h : ∀ q, H q = none → Q (.ref q) (upd H q (.lst ((rgI i j).map V.int)))) : LrG2 (.int i) (.int j) Q H := ⟨i, j, rfl, rfl, ⟨by omega, by omega, by omega, by omega, by omega⟩, by rw [rgV_I]; exact h⟩
end
/-- the value of an expression, told once -/
theorem r_cutE {te : TE} {σ : L2.St} {H : Hp} {Q : VK} (P : V → Hp → Prop) (rest : ∀ v H', P v H' → Q v H') (h : ∀ Q' : VK, (∀ v H', P v H' → Q' v H') → te σ H Q') : te σ H Q := h Q rest
/-- the same, of a value of known content, the heap as it was -/
theorem r_cutD {K : PySem.W.Frag} {te : TE} {σ : L2.St} {H : Hp} {Q : VK} (d : PyData) (h : ∀ Q' : VK, (∀ v H', Same H H' → Dp K H' v d → Q' v H') → te σ H Q') (rest : ∀ v H', Same H H' → Dp K H' v d → Q v H') : te σ H Q := h Q rest
/-! ### rounding -/
theorem step_dvd : ∀ s, s ∈ steps → (1000000 / s) * s = 1000000 := by decide
theorem lst_sub (lo st : Int) : lo - lo % st = lst lo st := by
  unfold lst
  have := Int.emod_add_mul_ediv lo st
  rw [Int.mul_comm] at this
  omega
theorem fst_sub (hi st : Int) (h : 0 < st) : fst hi st = if lst hi st = hi then lst hi st else lst hi st + st := by
  rw [fst_eq hi st h, Int.add_mul, Int.one_mul]
  have d := div_pred hi st h
  have e := lst_sub hi st
  unfold lst at e ⊢
  by_cases c : hi % st = 0
  · rw [if_pos c] at d
    rw [if_pos (by omega), d, Int.add_mul, Int.one_mul]
  · rw [if_neg c, Int.add_zero] at d
    rw [if_neg (by omega), ← d]
theorem lst_mul (q st : Int) (h : 0 < st) : lst (q * st) st = q * st := by
  unfold lst
  rw [Int.mul_ediv_cancel _ (by omega)]
theorem fst_mul (q st : Int) (h : 0 < st) : fst (q * st) st = q * st := by
  rw [fst_sub _ _ h, lst_mul q st h, if_pos rfl]
theorem lst_lst (lo st : Int) (h : 0 < st) : lst (lst lo st) st = lst lo st := lst_mul _ _ h
theorem fst_lst (lo st : Int) (h : 0 < st) : fst (lst lo st) st = lst lo st := fst_mul _ _ h
theorem lst_fst' (lo st : Int) (h : 0 < st) : lst (fst lo st) st = fst lo st := lst_mul _ _ h
theorem fst_fst (lo st : Int) (h : 0 < st) : fst (fst lo st) st = fst lo st := fst_mul _ _ h
theorem mul_pred (q st : Int) (h : 0 < st) : (q * st - 1) / st = q - 1 := by
  have d := div_pred (q * st) st h
  rw [Int.mul_emod_left, if_pos rfl, Int.mul_ediv_cancel _ (by omega)] at d
  omega
theorem cnt_mul (p q st : Int) (h : 0 < st) : cnt (p * st) (q * st) st = q - p + 1 := by
  unfold cnt
  rw [mul_pred p st h, Int.mul_ediv_cancel _ (by omega)]
  omega
theorem lst_le (lo st : Int) (h : 0 < st) : lst lo st ≤ lo ∧ lo < lst lo st + st := by
  have := lst_sub lo st
  have := Int.emod_nonneg lo (show st ≠ 0 by omega)
  have := Int.emod_lt_of_pos lo h
  omega
theorem fst_ge' (hi st : Int) (h : 0 < st) : hi ≤ fst hi st ∧ fst hi st < hi + st := by
  have := lst_le hi st h
  rw [fst_sub hi st h]
  split <;> omega
theorem rg_round {lo hi st : Int} (r : Rg lo hi) (m : st ∈ steps) : Rg (lst lo st) (fst hi st) := by
  obtain ⟨b1, b2⟩ := step_bounds st m
  have d := step_dvd st m
  obtain ⟨r1, r2, r3⟩ := r
  have l1 := lst_le lo st (by omega)
  have l2 := fst_ge' hi st (by omega)
  refine ⟨?_, by omega, ?_⟩
  · have e : lst (-(1000000 / st) * st) st = -(1000000 / st) * st := lst_mul _ _ (by omega)
    have h1 : -(1000000 / st) * st = -1000000 := by rw [Int.neg_mul, d]
    rw [h1] at e
    have h2 : lst (-1000000) st ≤ lst lo st := by
      unfold lst
      exact Int.mul_le_mul_of_nonneg_right (Int.ediv_le_ediv (by omega) r1) (by omega)
    omega
  · have e : fst (1000000 / st * st) st = 1000000 / st * st := fst_mul _ _ (by omega)
    rw [d] at e
    have h2 : fst hi st ≤ fst 1000000 st := by
      rw [fst_eq _ _ (by omega), fst_eq _ _ (by omega)]
      have := Int.ediv_le_ediv (show 0 < st by omega) (show hi - 1 ≤ 1000000 - 1 by omega)
      exact Int.mul_le_mul_of_nonneg_right (by omega) (by omega)
    omega
/-- the first and last mark stand in the wrong order where there is none -/
theorem cnt_zero_iff (lo hi st : Int) (h : 0 < st) (r : lo ≤ hi + 1) : cnt lo hi st = 0 ↔ lst hi st < fst lo st := by
  rw [fst_eq lo st h]
  unfold cnt lst
  have mono : (lo - 1) / st ≤ hi / st := Int.ediv_le_ediv h (by omega)
  constructor
  · intro e
    have : hi / st < (lo - 1) / st + 1 := by omega
    exact Int.mul_lt_mul_of_pos_right this h
  · intro e
    have := Int.lt_of_mul_lt_mul_right e (by omega)
    omega
/-- a conditional whose both sides give one value -/
theorem r_ifJ {p : Prop} [Decidable p] {te1 te2 : TE} {σ : L2.St} {H : Hp} {Q : VK} (v : V) (h1 : p → ∀ Q' : VK, Q' v H → te1 σ H Q') (h2 : ¬ p → ∀ Q' : VK, Q' v H → te2 σ H Q') (h : Q v H) : if decide p = true then te1 σ H Q else te2 σ H Q :=
  r_if (fun c => h1 c Q h) (fun c => h2 c Q h)
theorem rg_of2 {K : PySem.W.Frag} {H : Hp} {x : V} {p1 p2 : Addr} {lo1 hi1 lo2 hi2 : Int} (mx : x ∈ [V.ref p1, V.ref p2]) (s1 : SqT K H p1 [.int lo1, .int hi1]) (s2 : SqT K H p2 [.int lo2, .int hi2]) (g1 : Rg lo1 hi1) (g2 : Rg lo2 hi2) : ∃ lo hi p, x = .ref p ∧ SqT K H p [.int lo, .int hi] ∧ Rg lo hi := by
  rcases List.mem_cons.mp mx with rfl | mx
  · exact ⟨lo1, hi1, p1, rfl, s1, g1⟩
  · rcases List.mem_cons.mp mx with rfl | mx
    · exact ⟨lo2, hi2, p2, rfl, s2, g2⟩
    · cases mx
theorem rg_of3 {K : PySem.W.Frag} {H : Hp} {x : V} {p1 p2 p3 : Addr} {lo1 hi1 lo2 hi2 lo3 hi3 : Int} (mx : x ∈ [V.ref p1, V.ref p2, V.ref p3]) (s1 : SqT K H p1 [.int lo1, .int hi1]) (s2 : SqT K H p2 [.int lo2, .int hi2]) (s3 : SqT K H p3 [.int lo3, .int hi3]) (g1 : Rg lo1 hi1) (g2 : Rg lo2 hi2) (g3 : Rg lo3 hi3) : ∃ lo hi p, x = .ref p ∧ SqT K H p [.int lo, .int hi] ∧ Rg lo hi := by
  rcases List.mem_cons.mp mx with rfl | mx
  · exact ⟨lo1, hi1, p1, rfl, s1, g1⟩
  · exact rg_of2 mx s2 s3 g2 g3
/-! ### moving -/
theorem notRg_of {K : PySem.W.Frag} {H : Hp} {a : Addr} {lo hi : Int} (s : SqT K H a [.int lo, .int hi]) (n : ¬ Rg lo hi) : NotRg K H (.ref a) := by
  by_cases c : -1000000 ≤ lo ∧ lo ≤ 1000000
  · exact .high s fun z => n ⟨c.1, z.1, z.2⟩
  · exact .low s c
def comeL (lo hi lo2 hi2 st : Int) : List Int := (marksL lo2 hi2 st).filter fun v => !decide (v ∈ marksL lo hi st)
def keptL (lo hi lo2 hi2 st far : Int) : List Int := (marksL lo hi st).filter fun v => (decide (lo2 ≤ v) && decide (v ≤ hi2)) && decide (v % far = 0)
def inLo (lo hi by_ : Int) : Int := lo + (hi - lo - (hi - lo) / by_) / 2
theorem rg_in {lo hi b : Int} (r : Rg lo hi) (h : 1 ≤ b) : Rg (inLo lo hi b) (inLo lo hi b + (hi - lo) / b) := by
  obtain ⟨r1, r2, r3⟩ := r
  have q1 : 0 ≤ (hi - lo) / b := Int.ediv_nonneg (by omega) (by omega)
  have q2 : (hi - lo) / b ≤ hi - lo := Int.ediv_le_self _ (by omega)
  unfold inLo
  exact ⟨by omega, by omega, by omega⟩
theorem rg_over {lo hi : Int} (r : Rg lo hi) : Rg (-hi) (-lo) := by
  obtain ⟨r1, r2, r3⟩ := r
  exact ⟨by omega, by omega, by omega⟩
def p10 (k : Nat) : Int := 10 ^ k
theorem p10_succ (k : Nat) : p10 k * 10 = p10 (k + 1) := rfl
section
variable {K : PySem.W.Frag} {H : Hp} {Q : VK} {a : Addr} {ns : List Int} {m : Int}
theorem r_minL (m : Int) (s : SqL K H a (ns.map V.int)) (hm : m ∈ ns) (le : ∀ y, y ∈ ns → m ≤ y) (h : Q (.int m) H) : rMin K [.ref a] H Q := ⟨a, ns, rfl, s, List.length_pos_of_mem hm, fun m' hm' le' => by
  have e : m' = m := Int.le_antisymm (le' m hm) (le m' hm')
  rw [e]
  exact h⟩
theorem r_maxL (m : Int) (s : SqL K H a (ns.map V.int)) (hm : m ∈ ns) (le : ∀ y, y ∈ ns → y ≤ m) (h : Q (.int m) H) : rMax K [.ref a] H Q := ⟨a, ns, rfl, s, List.length_pos_of_mem hm, fun m' hm' le' => by
  have e : m' = m := Int.le_antisymm (le m' hm') (le' m hm)
  rw [e]
  exact h⟩
theorem r_sumL (s : SqL K H a (ns.map V.int)) (h : Q (.int ns.sum) H) : rSum K [.ref a] H Q := ⟨a, ns, rfl, s, h⟩
theorem r_cntI {k : Int} (s : SqL K H a (ns.map V.int)) (h : Q (.int (ns.count k : Nat)) H) : rCntI K (.ref a) [.int k] H Q := ⟨a, ns, k, rfl, rfl, s, h⟩
end
/-! ### windows of one width -/
/-- the numbers of marks of the windows of w + 1 numbers from at, at + 1, .. -/
def winL (at_ w st : Int) (n : Nat) : List Int := (List.range n).map fun (k : Nat) => cnt (at_ + (k : Int)) (at_ + (k : Int) + w) st
theorem sum_append (xs ys : List Int) : (xs ++ ys).sum = xs.sum + ys.sum := by
  induction xs with
  | nil => simp
  | cons x r ih =>
    rw [List.cons_append, List.sum_cons, List.sum_cons, ih]
    omega
/-- sum of g(k + 1) - g(k) shapes: told for the shifted sums -/
theorem shift_sum (g : Int → Int) : ∀ n : Nat, ((List.range n).map fun (k : Nat) => g ((k : Int) + 1)).sum = ((List.range n).map fun (k : Nat) => g (k : Int)).sum + g n - g 0
  | 0 => by simp
  | n + 1 => by
    rw [List.range_succ, List.map_append, List.map_append, sum_append, sum_append, shift_sum g n]
    simp
    omega
theorem win_sum0 (a st : Int) (h : 0 < st) : ∀ n : Nat, ((List.range st.toNat).map fun (k : Nat) => (a + (k : Int) + (n : Int)) / st).sum = ((List.range st.toNat).map fun (k : Nat) => (a + (k : Int)) / st).sum + n
  | 0 => by simp
  | n + 1 => by
    have ih := win_sum0 a st h n
    have e := shift_sum (fun x => (a + x + n) / st) st.toNat
    have e1 : (fun (k : Nat) => (a + (k : Int) + ((n + 1 : Nat) : Int)) / st) = fun (k : Nat) => (a + ((k : Int) + 1) + (n : Int)) / st := by
      funext k
      have : a + (k : Int) + ((n + 1 : Nat) : Int) = a + ((k : Int) + 1) + (n : Int) := by omega
      rw [this]
    rw [e1, e, ih]
    have e2 : ((st.toNat : Nat) : Int) = st := by omega
    rw [e2]
    have e3 : (a + st + n) / st = (a + 0 + n) / st + 1 := by
      have : a + st + (n : Int) = a + 0 + n + 1 * st := by omega
      rw [this, Int.add_mul_ediv_right _ _ (by omega)]
    rw [e3]
    omega
theorem map_sub_sum (f g : Nat → Int) : ∀ l : List Nat, (l.map fun k => f k - g k).sum = (l.map f).sum - (l.map g).sum
  | [] => by simp
  | k :: r => by
    rw [List.map_cons, List.map_cons, List.map_cons, List.sum_cons, List.sum_cons, List.sum_cons, map_sub_sum f g r]
    omega
theorem win_sum (at_ w st : Int) (h : 0 < st) (hw : 0 ≤ w) : (winL at_ w st st.toNat).sum = w + 1 := by
  unfold winL cnt
  rw [map_sub_sum]
  have e := win_sum0 (at_ - 1) st h (w + 1).toNat
  have e1 : (((w + 1).toNat : Nat) : Int) = w + 1 := by omega
  rw [e1] at e
  have f1 : (fun (k : Nat) => (at_ + (k : Int) + w) / st) = fun (k : Nat) => (at_ - 1 + (k : Int) + (w + 1)) / st := by
    funext k
    have : at_ + (k : Int) + w = at_ - 1 + (k : Int) + (w + 1) := by omega
    rw [this]
  have f2 : (fun (k : Nat) => (at_ + (k : Int) - 1) / st) = fun (k : Nat) => (at_ - 1 + (k : Int)) / st := by
    funext k
    have : at_ + (k : Int) - 1 = at_ - 1 + (k : Int) := by omega
    rw [this]
  rw [f1, f2, e]
  omega
/-- each window has q or q + 1 marks -/
theorem cnt_win (lo w st : Int) (h : 0 < st) : cnt lo (lo + w) st = (w + 1) / st ∨ cnt lo (lo + w) st = (w + 1) / st + 1 := by
  unfold cnt
  have a1 := Int.emod_add_mul_ediv (lo - 1) st
  have a2 := Int.emod_nonneg (lo - 1) (show st ≠ 0 by omega)
  have a3 := Int.emod_lt_of_pos (lo - 1) h
  have b1 := Int.emod_add_mul_ediv (w + 1) st
  have b2 := Int.emod_nonneg (w + 1) (show st ≠ 0 by omega)
  have b3 := Int.emod_lt_of_pos (w + 1) h
  generalize (lo - 1) / st = p at *
  generalize (w + 1) / st = q at *
  generalize (lo - 1) % st = r at *
  generalize (w + 1) % st = t at *
  have e : st * (p + q) = st * p + st * q := Int.mul_add _ _ _
  by_cases c : r + t < st
  · have u := (Int.ediv_emod_unique h (a := lo + w) (q := p + q) (r := r + t)).mpr ⟨by omega, by omega, c⟩
    rw [u.1]
    omega
  · have e2 : st * (p + q + 1) = st * p + st * q + st := by rw [Int.mul_add, e, Int.mul_one]
    have u := (Int.ediv_emod_unique h (a := lo + w) (q := p + q + 1) (r := r + t - st)).mpr ⟨by omega, by omega, by omega⟩
    rw [u.1]
    omega
theorem sum_two (q : Int) : ∀ l : List Int, (∀ y, y ∈ l → y = q ∨ y = q + 1) → l.sum = q * l.length + l.count (q + 1)
  | [], _ => by simp
  | x :: r, hm => by
    have ih := sum_two q r fun y hy => hm y (List.mem_cons_of_mem _ hy)
    rw [List.sum_cons, ih, List.length_cons, List.count_cons]
    have e : q * ((r.length + 1 : Nat) : Int) = q * (r.length : Int) + q := by
      rw [Int.natCast_add, Int.mul_add]
      simp
    rw [e]
    rcases hm x List.mem_cons_self with rfl | rfl
    · have : (x == x + 1) = false := beq_eq_false_iff_ne.mpr (by omega)
      rw [this]
      simp
      omega
    · simp
      omega
theorem win_mem (at_ w st : Int) (n : Nat) (h : 0 < st) : ∀ y, y ∈ winL at_ w st n → y = (w + 1) / st ∨ y = (w + 1) / st + 1 := by
  intro y hy
  obtain ⟨k, _, rfl⟩ := List.mem_map.mp hy
  exact cnt_win _ w st h
theorem win_cnt (at_ w st : Int) (h : 0 < st) (hw : 0 ≤ w) : ((winL at_ w st st.toNat).count ((w + 1) / st + 1) : Int) = (w + 1) % st := by
  have e := sum_two ((w + 1) / st) _ (win_mem at_ w st st.toNat h)
  rw [win_sum at_ w st h hw] at e
  have l : (winL at_ w st st.toNat).length = st.toNat := by
    unfold winL
    rw [List.length_map, List.length_range]
  rw [l] at e
  have e2 : ((st.toNat : Nat) : Int) = st := by omega
  rw [e2] at e
  have b1 := Int.emod_add_mul_ediv (w + 1) st
  rw [Int.mul_comm] at b1
  omega
theorem win_high (w st : Int) (h : 0 < st) : w / st + 1 = (w + 1) / st + if (w + 1) % st = 0 then 0 else 1 := by
  have d := div_pred (w + 1) st h
  have : w + 1 - 1 = w := by omega
  rw [this] at d
  rw [d]
  split <;> omega
theorem win_low_mem (at_ w st : Int) (h : 0 < st) (hw : 0 ≤ w) : (w + 1) / st ∈ winL at_ w st st.toNat := by
  by_cases c : (w + 1) / st ∈ winL at_ w st st.toNat
  · exact c
  · exfalso
    have e := win_cnt at_ w st h hw
    have l : (winL at_ w st st.toNat).length = st.toNat := by
      unfold winL
      rw [List.length_map, List.length_range]
    have all : ∀ y, y ∈ winL at_ w st st.toNat → (w + 1) / st + 1 = y := fun y hy => by
      rcases win_mem at_ w st st.toNat h y hy with z | z
      · rw [z] at hy
        exact absurd hy c
      · exact z.symm
    have := List.count_eq_length.mpr all
    have b3 := Int.emod_lt_of_pos (w + 1) h
    omega
theorem win_high_mem (at_ w st : Int) (h : 0 < st) (hw : 0 ≤ w) : w / st + 1 ∈ winL at_ w st st.toNat := by
  rw [win_high w st h]
  have e := win_cnt at_ w st h hw
  by_cases c : (w + 1) % st = 0
  · rw [if_pos c, Int.add_zero]
    exact win_low_mem at_ w st h hw
  · rw [if_neg c]
    have b2 := Int.emod_nonneg (w + 1) (show st ≠ 0 by omega)
    exact List.count_pos_iff.mp (by omega)
theorem win_le (at_ w st : Int) (h : 0 < st) (hw : 0 ≤ w) : ∀ y, y ∈ winL at_ w st st.toNat → (w + 1) / st ≤ y ∧ y ≤ w / st + 1 := by
  intro y hy
  rw [win_high w st h]
  have e := win_cnt at_ w st h hw
  rcases win_mem at_ w st st.toNat h y hy with z | z
  · rw [z]
    split <;> omega
  · have p : 0 < (winL at_ w st st.toNat).count ((w + 1) / st + 1) := List.count_pos_iff.mpr (z ▸ hy)
    rw [if_neg (by omega)]
    omega
/-- a window moved by one -/
theorem cnt_next (lo hi st : Int) (h : 0 < st) : cnt (lo + 1) (hi + 1) st = cnt lo hi st + (if (hi + 1) % st = 0 then 1 else 0) - if lo % st = 0 then 1 else 0 := by
  have d1 := div_pred (hi + 1) st h
  have d2 := div_pred lo st h
  have e1 : hi + 1 - 1 = hi := by omega
  have e2 : lo + 1 - 1 = lo := by omega
  rw [e1] at d1
  unfold cnt
  rw [e2, d1, d2]
  omega
theorem cnt_shift (lo hi st : Int) (h : 0 < st) : cnt (lo + st) (hi + st) st = cnt lo hi st := by
  have e1 : hi + st = hi + 1 * st := by omega
  have e2 : lo + st - 1 = lo - 1 + 1 * st := by omega
  unfold cnt
  rw [e1, e2, Int.add_mul_ediv_right _ _ (by omega), Int.add_mul_ediv_right _ _ (by omega)]
  omega
theorem cnt_wide (lo hi st : Int) (h : 0 < st) : cnt lo (hi + st) st = cnt lo hi st + 1 := by
  have e1 : hi + st = hi + 1 * st := by omega
  unfold cnt
  rw [e1, Int.add_mul_ediv_right _ _ (by omega)]
  omega
end Ax
/-! ### a chain of three comparisons -/
namespace Ax
open PySem PySem.Spec PyProof.Rows L2
section
variable {X : Cx} {a b c e : Expr} {ta tb tc td : TE} {pos : Pos}
/-- a op1 b op2 c op3 e -/
def tChain3 (r r' r'' : R2) (ta tb tc td : TE) : TE := fun σ H Q => ta σ H fun x H1 => tb σ H1 fun y H2 => r x y H2 fun z H3 => ∃ k, z = .bl k ∧
  (if k = true then tc σ H3 fun w' H4 => r' y w' H4 fun z2 H5 => ∃ k2, z2 = .bl k2 ∧ (if k2 = true then td σ H5 fun u H6 => r'' w' u H6 Q else Q (.bl false) H5) else Q (.bl false) H3)
theorem pt_chain3 {op op' op'' : CmpOp} {r r' r'' : R2} (ho : OpR X (compareOp op) r) (ho' : OpR X (compareOp op') r') (ho'' : OpR X (compareOp op'') r'') (ha : PE X a ta) (hb : PE X b tb) (hc : PE X c tc) (hd : PE X e td)
    (hm : lastMarks [op, op', op''] [b, c, e] = false := by with_unfolding_all rfl) : PT X (.Compare a [op, op', op''] [b, c, e] pos) (tTest (tChain3 r r' r'' ta tb tc td)) := by
  refine ⟨fun pins s σ H Q I h => ?_⟩
  refine isTrue_chain (thn (ha.run pins s σ H _ I h) fun v s1 ⟨x, H1, I1, r1, q1⟩ => test_link (thn (hb.run pins s1 σ H1 _ I1 q1) fun u s2 ⟨y, H2, I2, r2, q2⟩ =>
    thn (ho pins s2 σ H2 x y v u _ I2 r1 r2 q2) fun d s3 ⟨z, H3, I3, r3, k, e, q3⟩ => ?_)) hm
  subst e
  cases r3
  refine wpAny_truthy_bool ?_
  cases k with
  | false =>
    obtain ⟨k', e', q'⟩ := q3
    cases e'
    exact ite_ff ⟨H3, I3, q'⟩
  | true =>
    refine ite_tt (test_link (thn (hc.run pins s3 σ H3 _ I3 q3) fun w' s4 ⟨z', H4, I4, r4, q4⟩ => thn (ho' pins s4 σ H4 y z' u w' _ I4 r2 r4 q4) fun d' s5 ⟨z2, H5, I5, r5, k2, e2, q5⟩ => ?_))
    subst e2
    cases r5
    refine wpAny_truthy_bool ?_
    cases k2 with
    | false =>
      obtain ⟨k', e', q'⟩ := q5
      cases e'
      exact ite_ff ⟨H5, I5, q'⟩
    | true =>
      refine ite_tt (test_last (thn (hd.run pins s5 σ H5 _ I5 q5) fun w2 s6 ⟨z3, H6, I6, r6, q6⟩ => thn (ho'' pins s6 σ H6 z' z3 w' w2 _ I6 r4 r6 q6) fun d2 s7 ⟨z4, H7, I7, r7, k4, e4, q7⟩ => ?_))
      subst e4
      cases r7
      exact wpAny_truthy_bool ⟨H7, I7, q7⟩
variable {D : Ends} {σ : L2.St} {H : Hp} {Q : VK} {K : PySem.W.Frag} {xs : List V} {p : Addr}
theorem r_chain3 {r r' r'' : R2} (h : ta σ H fun x H1 => tb σ H1 fun y H2 => r x y H2 fun z H3 => ∃ k, z = .bl k ∧
  (if k = true then tc σ H3 fun w' H4 => r' y w' H4 fun z2 H5 => ∃ k2, z2 = .bl k2 ∧ (if k2 = true then td σ H5 fun u H6 => r'' w' u H6 Q else Q (.bl false) H5) else Q (.bl false) H3)) : tChain3 r r' r'' ta tb tc td σ H Q := h
def RevG (K : PySem.W.Frag) (x : V) (Q : VK) (H1 : Hp) : Prop := ∃ a xs, x = .ref a ∧ SqL K H1 a xs ∧ ∀ p, H1 p = none → Q (.ref p) (upd H1 p (.lst xs.reverse))
theorem r_revL (h : ta σ H fun x H1 => RevG K x Q H1) : tRevL K ta σ H Q := h
theorem r_rev (s : SqL K H p xs) (h : ∀ q, H q = none → Q (.ref q) (upd H q (.lst xs.reverse))) : RevG K (.ref p) Q H := ⟨p, xs, rfl, s, h⟩
end
end Ax
namespace Ax
open PySem L2
/-! ### marks of other ranges -/
theorem marks_mem {lo hi st v : Int} (h : 0 < st) (r : lo ≤ hi + 1) : v ∈ marksL lo hi st ↔ (lo ≤ v ∧ v ≤ hi) ∧ v % st = 0 := by
  rw [← tried_marks lo hi st h r]
  exact tried_mem lo hi st v
theorem marks_nodup (lo hi st : Int) (h : 0 < st) : (marksL lo hi st).Nodup := by
  unfold marksL
  refine List.Pairwise.map _ (fun (i j : Nat) (ne : i ≠ j) e => ?_) List.nodup_range
  have e2 : (i : Int) * st = (j : Int) * st := by omega
  have := Int.eq_of_mul_eq_mul_right (show st ≠ 0 by omega) e2
  omega
theorem nodup_le1 {l : List Int} (nd : l.Nodup) (h : ∀ x y, x ∈ l → y ∈ l → x = y) : l.length ≤ 1 := by
  match l, nd, h with
  | [], _, _ => exact Nat.zero_le _
  | [_], _, _ => exact Nat.le_refl _
  | x :: y :: r, nd, h =>
    have e := h x y List.mem_cons_self (List.mem_cons_of_mem _ List.mem_cons_self)
    subst e
    rw [List.nodup_cons] at nd
    exact absurd List.mem_cons_self nd.1
/-- two multiples nearer than a step are one -/
theorem near_eq {x y st : Int} (h : 0 < st) (hx : x % st = 0) (hy : y % st = 0) (n1 : x - y < st) (n2 : y - x < st) : x = y := by
  have e1 := Int.emod_add_mul_ediv x st
  have e2 := Int.emod_add_mul_ediv y st
  have d : (x - y) % st = 0 := by rw [Int.sub_emod, hx, hy]; simp
  have e3 := Int.emod_add_mul_ediv (x - y) st
  rw [d] at e3
  generalize (x - y) / st = q at e3
  have q1 : q < 1 := Int.lt_of_mul_lt_mul_left (a := st) (by omega) (by omega)
  have q2 : -1 < q := Int.lt_of_mul_lt_mul_left (a := st) (by omega) (by omega)
  have q0 : q = 0 := by omega
  subst q0
  omega
theorem come_le1 (lo hi by_ st : Int) (h : 0 < st) (r : lo ≤ hi) (n1 : -st < by_) (n2 : by_ < st) : (comeL lo hi (lo + by_) (hi + by_) st).length ≤ 1 := by
  refine nodup_le1 ((marks_nodup _ _ _ h).filter _) fun x y hx hy => ?_
  obtain ⟨mx, nx⟩ := List.mem_filter.mp hx
  obtain ⟨my, ny⟩ := List.mem_filter.mp hy
  rw [Bool.not_eq_true', decide_eq_false_iff_not, marks_mem h (by omega)] at nx ny
  rw [marks_mem h (by omega)] at mx my
  refine near_eq h mx.2 my.2 ?_ ?_ <;> omega
theorem come_le1' (lo hi by_ st : Int) (h : 0 < st) (r : lo ≤ hi) (n1 : -st < by_) (n2 : by_ < st) : (comeL (lo + by_) (hi + by_) lo hi st).length ≤ 1 := by
  have e := come_le1 (lo + by_) (hi + by_) (-by_) st h (by omega) (by omega) (by omega)
  have e1 : lo + by_ + -by_ = lo := by omega
  have e2 : hi + by_ + -by_ = hi := by omega
  rw [e1, e2] at e
  exact e
/-- no mark of the smaller range is missed by the wider one -/
theorem come_nil (lo hi lo2 hi2 st : Int) (h : 0 < st) (r : lo ≤ hi) (a : lo2 ≤ lo) (b : hi ≤ hi2) : comeL lo2 hi2 lo hi st = [] := by
  unfold comeL
  refine List.filter_eq_nil_iff.mpr fun v hv => ?_
  rw [marks_mem h (by omega)] at hv
  rw [Bool.not_eq_true, Bool.not_eq_false', decide_eq_true_eq, marks_mem h (by omega)]
  omega
theorem kept_self (lo hi st : Int) (h : 0 < st) (r : lo ≤ hi) : keptL lo hi lo hi st st = marksL lo hi st := by
  unfold keptL
  refine List.filter_eq_self.mpr fun v hv => ?_
  rw [marks_mem h (by omega)] at hv
  simp [hv.1.1, hv.1.2, hv.2]
theorem cnt_over (lo hi st : Int) (h : 0 < st) : cnt (-hi) (-lo) st = cnt lo hi st := by
  have c1 := ceil_eq lo st h
  have c2 := ceil_eq (hi + 1) st h
  have e1 : hi + 1 - 1 = hi := by omega
  have e2 : -(hi + 1) = -hi - 1 := by omega
  rw [e1, e2] at c2
  unfold cnt
  omega
theorem fst_over (hi st : Int) : fst (-hi) st = -(lst hi st) := by
  unfold fst lst
  rw [Int.neg_neg, Int.neg_mul]
theorem marks_over (lo hi st : Int) (h : 0 < st) : marksL (-hi) (-lo) st = ((marksL lo hi st).map fun v => 0 - v).reverse := by
  have l1 := marks_len (-hi) (-lo) st
  have l2 := marks_len lo hi st
  rw [cnt_over lo hi st h] at l1
  refine List.ext_getElem? fun k => ?_
  by_cases c : (k : Int) < cnt lo hi st
  · rw [marks_get _ _ _ k (by rw [cnt_over lo hi st h]; exact c), List.getElem?_reverse (by rw [List.length_map]; omega), List.getElem?_map]
    have g := marks_get lo hi st ((cnt lo hi st).toNat - 1 - k) (by omega)
    rw [List.length_map, l2, g, fst_over]
    have e : (((cnt lo hi st).toNat - 1 - k : Nat) : Int) = cnt lo hi st - 1 - k := by omega
    rw [e]
    have f := lst_fst lo hi st h
    have e2 : (cnt lo hi st - 1 - (k : Int)) * st = (cnt lo hi st - 1) * st - k * st := Int.sub_mul _ _ _
    rw [e2]
    show some (-(lst hi st) + (k : Int) * st) = some (0 - (fst lo st + ((cnt lo hi st - 1) * st - (k : Int) * st)))
    congr 1
    omega
  · rw [List.getElem?_eq_none (by omega), List.getElem?_eq_none (by rw [List.length_reverse, List.length_map]; omega)]
theorem cnt_scale (lo hi st t : Int) (h : 0 < st) (ht : 0 < t) : cnt (lo * t) (hi * t) (st * t) = cnt lo hi st := by
  unfold cnt
  have e1 : hi * t / (st * t) = hi / st := Int.mul_ediv_mul_of_pos_left _ _ ht
  have e2 : (lo * t - 1) / (st * t) = (lo - 1) / st := by
    rw [Int.mul_comm st t, ← Int.ediv_ediv_of_nonneg (by omega), mul_pred lo t ht]
  rw [e1, e2]
theorem cnt_width (lo hi st : Int) (h : 0 < st) (r : lo ≤ hi + 1) : cnt lo hi st ≤ hi + 1 - lo := by
  have l1 := tried_marks lo hi st h r
  have l2 : (triedL lo hi st).length ≤ (hi + 1 - lo).toNat := by
    unfold triedL
    refine Nat.le_trans (List.length_filter_le _ _) ?_
    rw [List.length_map, List.length_range]
    exact Nat.le_refl _
  rw [l1, marks_len] at l2
  omega
/-! ### data that can be compared: by its depth -/
def Sd (n : Nat) (d : PyData) : Prop := d.canLay0 = true ∧ d.depth ≤ n
def Sds (n : Nat) (ds : List PyData) : Prop := ∀ d, d ∈ ds → Sd n d
theorem sds_lay {n : Nat} : ∀ {ds : List PyData}, Sds n ds → PyData.canLayAll0 ds = true ∧ PyData.depthAll ds ≤ n
  | [], _ => ⟨by simp only [PyData.canLayAll0], by simp only [PyData.depthAll]; exact Nat.zero_le _⟩
  | d :: r, h => by
    have h1 := h d List.mem_cons_self
    have h2 := sds_lay (ds := r) fun e he => h e (List.mem_cons_of_mem _ he)
    refine ⟨?_, ?_⟩
    · simp only [PyData.canLayAll0, h1.1, h2.1, Bool.and_self]
    · simp only [PyData.depthAll]
      have := h1.2
      have := h2.2
      omega
theorem sd_list {n : Nat} {ds : List PyData} (h : Sds n ds) : Sd (n + 1) (.list ds) := by
  have q := sds_lay h
  refine ⟨by simp only [PyData.canLay0]; exact q.1, ?_⟩
  simp only [PyData.depth]
  have := q.2
  omega
theorem sd_tup {n : Nat} {ds : List PyData} (h : Sds n ds) : Sd (n + 1) (.tuple ds) := by
  have q := sds_lay h
  refine ⟨by simp only [PyData.canLay0]; exact q.1, ?_⟩
  simp only [PyData.depth]
  have := q.2
  omega
theorem sd_int {n : Nat} (i : Int) : Sd (n + 1) (.int i) := ⟨by simp only [PyData.canLay0], by simp only [PyData.depth]; omega⟩
theorem sd_ints {n : Nat} (ns : List Int) : Sds (n + 1) (ns.map PyData.int) := fun d hd => by
  obtain ⟨i, _, rfl⟩ := List.mem_map.mp hd
  exact sd_int i
theorem sds_nil {n : Nat} : Sds n [] := fun _ h => absurd h List.not_mem_nil
theorem sds_cons {n : Nat} {d : PyData} {ds : List PyData} (h : Sd n d) (t : Sds n ds) : Sds n (d :: ds) := fun e he => by
  rcases List.mem_cons.mp he with rfl | he
  · exact h
  · exact t e he
theorem shp_of {n : Nat} {d : PyData} (h : Sd n d) (hn : n ≤ 64) : SeqAt.shaped d = true := Bool.and_eq_true_iff.mpr ⟨h.1, decide_eq_true (Nat.le_trans h.2 hn)⟩
/-! ### comprehensions over anything that yields, the heap growing: what comes out told as content -/
section
variable {K : PySem.W.Frag} {H H1 H' : Hp} {σ : L2.St} {Q : VK} {g : TG} {tt : TT} {te : TE} {tb : TS} {D : Ends} {a : Addr}
theorem noLists_of : ∀ {ds : List PyData}, (∀ d, d ∈ ds → noList d = true) → noLists ds = true
  | [], _ => rfl
  | d :: r, h => by
    rw [noLists, Bool.and_eq_true]
    exact ⟨h d List.mem_cons_self, noLists_of fun e he => h e (List.mem_cons_of_mem _ he)⟩
theorem dpa_lst {vs ws : List V} {ds : List PyData} {b : Addr} (hl : H b = some (.lst vs)) (n : noLists ds = true) (h : DpAll K H ws ds) {o : HO} (ho : ∃ us, o = .lst us) : DpAll K (upd H b o) ws ds := by
  obtain ⟨us, rfl⟩ := ho
  exact dpa_tups (fun a xs q => seqT_lst hl q) _ _ n h
theorem lc_coreG {J : It} {n : Nat} {G : Hp → Prop} {Y : Nat → Hp → V → Hp → Prop} (w : Walk J n G Y) {vx : List Nat} {Z : Nat → L2.St} {p : Nat → Bool} {f : Nat → PyData} (hz : n ≤ 1000000) (hn : ∀ i, i < n → noList (f i) = true) (hG : ∀ H', Same H1 H' → G H')
    (hY : ∀ i H x H', Y i H x H' → Same H H') (hw : ∀ i, wipe (Z i) vx = wipe σ vx)
    (hg : ∀ i x H2 H3 (Q' : L2.St → Hp → Prop), i < n → Same H1 H2 → Y i H2 x H3 → Q' (Z i) H3 → g x (wipe σ vx) H3 Q')
    (ht : ∀ i H2 (Qt : Bool → Hp → Prop), i < n → Same H1 H2 → (∀ H3, Same H2 H3 → Qt (p i) H3) → tt (Z i) H2 Qt)
    (he : ∀ i H2 (Q' : VK), i < n → p i = true → Same H1 H2 → (∀ v H3, Same H2 H3 → Dp K H3 v (f i) → Q' v H3) → te (Z i) H2 Q')
    (hd : ∀ D H' vs, Same H1 H' → H1 D = none → H' D = some (.lst vs) → DpAll K H' vs (((List.range n).filter p).map f) → Q (.ref D) H') : LcG J g tt te vx σ H1 Q := by
  intro D nD
  have nl : ∀ i, i ≤ n → noLists (((List.range i).filter p).map f) = true := fun i hi => noLists_of fun d hd => by
    obtain ⟨k, hk, rfl⟩ := List.mem_map.mp hd
    have := List.mem_range.mp (List.mem_filter.mp hk).1
    exact hn k (by omega)
  refine lc_it w (fun i H' => Same H1 H' ∧ ∃ vs, H' D = some (.lst vs) ∧ DpAll K H' vs (((List.range i).filter p).map f)) ⟨same_new nD, [], upd_same, .nil⟩ (fun i H' _ q => hG H' q.1) ?_ (fun H' ⟨q1, vs, q2, q3⟩ => hd D H' vs q1 nD q2 q3)
  rintro i x H2 H2' hi ⟨sm, vs, hD, da⟩ y
  have s2 := hY i H2 x H2' y
  refine hg i x H2 H2' _ hi sm y ⟨hw i, ht i H2' _ hi (sm.trans s2) fun H3 s3 => ?_⟩
  have s23 := s2.trans s3
  cases hp : p i with
  | true =>
    refine r_t (he i H3 _ hi hp (sm.trans s23) fun v H4 s4 dv => ?_)
    have s24 := s23.trans s4
    have hD4 := s24 _ _ hD
    refine ⟨vs, hD4, ?_, fun b u e => ?_, vs ++ [v], upd_same, ?_⟩
    · have e1 := dpa_len da
      have l1 := List.length_filter_le p (List.range i)
      rw [List.length_map] at e1
      rw [List.length_range] at l1
      rw [sizeLine_eq]
      omega
    · rw [upd_ne (ne_of_none e nD)]
      exact s24 _ _ (sm _ _ e)
    · rw [List.range_succ, List.filter_append, List.map_append]
      have e1 : List.filter p [i] = [i] := by simp [hp]
      rw [e1]
      exact DpAll.app (dpa_lst hD4 (nl i (by omega)) (DpAll.to s24 da) ⟨_, rfl⟩) (.cons (dp_tups (fun a xs q => seqT_lst hD4 q) _ _ (hn i hi) dv) .nil)
  | false =>
    refine r_f ⟨sm.trans s23, vs, s23 _ _ hD, ?_⟩
    rw [List.range_succ, List.filter_append, List.map_append]
    have e1 : List.filter p [i] = [] := by simp [hp]
    rw [e1, List.map_nil, List.append_nil]
    exact DpAll.to s23 da
theorem dpa_ints_inv : ∀ {ns : List Int} {vs : List V}, DpAll K H vs (ns.map PyData.int) → vs = ns.map V.int
  | [], _, h => by cases h; rfl
  | i :: r, _, h => by
    cases h with
    | cons q t =>
      cases q
      rw [dpa_ints_inv t]
      rfl
theorem dpa_get : ∀ {vs : List V} {ds : List PyData} {i : Nat} {d : PyData}, DpAll K H vs ds → ds[i]? = some d → ∃ v, vs[i]? = some v ∧ Dp K H v d
  | _, _, _, _, .nil, h => by simp at h
  | _, _, 0, _, .cons q _, h => by
    simp at h
    subst h
    exact ⟨_, rfl, q⟩
  | _, _, i + 1, _, .cons _ t, h => by
    obtain ⟨v, e, d⟩ := dpa_get t (by simpa using h)
    exact ⟨v, by simpa using e, d⟩
/-- pairs of whole numbers -/
def pairD (q : Int × Int) : PyData := .tuple [.int q.1, .int q.2]
theorem dp_pair {v : V} {q : Int × Int} (h : Dp K H v (pairD q)) : ∃ a, v = .ref a ∧ SqT K H a [.int q.1, .int q.2] := by
  cases h with
  | tup s r =>
    cases r with
    | cons q1 r =>
      cases q1
      cases r with
      | cons q2 r =>
        cases q2
        cases r
        exact ⟨_, rfl, s⟩
theorem range_getP {α : Type} [Inhabited α] (ns : List α) {β : Type} (f : α → β) (p : α → Bool) : ((List.range ns.length).filter (fun i => p (ns.getD i default))).map (fun i => f (ns.getD i default)) = (ns.filter p).map f := by
  have e : (List.range ns.length).map (fun i => ns.getD i default) = ns := by
    apply List.ext_getElem
    · simp
    · intro i h1 h2
      simp only [List.getElem_map, List.getElem_range]
      rw [List.getD_eq_getElem?_getD, List.getElem?_eq_getElem h2]
      rfl
  have e2 : ((List.range ns.length).filter (fun i => p (ns.getD i default))).map (fun i => ns.getD i default) = ns.filter p := by
    have := List.filter_map (f := fun i => ns.getD i default) (p := p) (l := List.range ns.length)
    rw [e] at this
    exact this.symm
  rw [← e2, List.map_map]
  rfl
theorem getD_mem {α : Type} [Inhabited α] (ns : List α) {i : Nat} (h : i < ns.length) : ns[i]? = some (ns.getD i default) ∧ ns.getD i default ∈ ns := by
  have e : ns[i]? = some (ns.getD i default) := by
    rw [List.getD_eq_getElem?_getD, List.getElem?_eq_getElem h]
    rfl
  exact ⟨e, List.mem_of_getElem? e⟩
/-- over a list of whole numbers: [e for x in ns if t], each of a content -/
theorem lc_intsD {ns : List Int} {ix : Nat} {p : Int → Bool} {f : Int → PyData} (hz : ns.length ≤ 1000000) (hs : SqL K H1 a (ns.map V.int)) (hn : ∀ i, i ∈ ns → noList (f i) = true)
    (ht : ∀ i H2 (Qt : Bool → Hp → Prop), i ∈ ns → Same H1 H2 → (∀ H3, Same H2 H3 → Qt (p i) H3) → tt ((wipe σ [ix]).set ix (some (.int i))) H2 Qt)
    (he : ∀ i H2 (Q' : VK), i ∈ ns → p i = true → Same H1 H2 → (∀ v H3, Same H2 H3 → Dp K H3 v (f i) → Q' v H3) → te ((wipe σ [ix]).set ix (some (.int i))) H2 Q')
    (hd : ∀ D H' vs, Same H1 H' → H1 D = none → H' D = some (.lst vs) → DpAll K H' vs ((ns.filter p).map f) → Q (.ref D) H') : LcG (Itl K a) (gName ix) tt te [ix] σ H1 Q := by
  have w := walk_list (K := K) (xs := ns.map V.int) (a := a)
  rw [List.length_map] at w
  refine lc_coreG (n := ns.length) (Z := fun i => (wipe σ [ix]).set ix (some (.int (ns.getD i default)))) (p := fun i => p (ns.getD i default)) (f := fun i => f (ns.getD i default)) w hz (fun i hi => hn _ (getD_mem ns hi).2) (fun _ s => Same.seq s hs) (fun i H x H' y => by rw [y.1]; exact Same.refl _) (fun i => wipe_one σ ix _) ?_
    (fun i H2 Qt hi => ht _ H2 Qt (getD_mem ns hi).2) (fun i H2 Q' hi => he _ H2 Q' (getD_mem ns hi).2) fun D H' vs s n e da => hd D H' vs s n e ?_
  · rintro i x H2 H3 Q' hi s ⟨rfl, y⟩ q
    rw [List.getElem?_map, (getD_mem ns hi).1] at y
    cases y
    exact q
  · rw [range_getP ns f p] at da
    exact da
theorem wipe_two (σ : L2.St) (ix jx : Nat) (v u : V) (ne : ix ≠ jx) : wipe (((wipe σ [ix, jx]).set ix (some v)).set jx (some u)) [ix, jx] = wipe σ [ix, jx] := by
  show ((((((σ.set jx none).set ix none).set ix (some v)).set jx (some u)).set jx none).set ix none) = (σ.set jx none).set ix none
  refine List.ext_getElem? fun k => ?_
  simp only [List.getElem?_set, List.length_set]
  by_cases c1 : jx = k
  · subst c1
    simp
  · by_cases c2 : ix = k
    · subst c2
      simp [c1]
    · simp [c1, c2]
/-- over a list of pairs -/
theorem lc_pairsD {ps : List (Int × Int)} {vs : List V} {ix jx : Nat} {p : Int × Int → Bool} {f : Int × Int → PyData} (ne : ix ≠ jx) (hz : ps.length ≤ 1000000) (hs : SqL K H1 a vs) (da : DpAll K H1 vs (ps.map pairD)) (hn : ∀ q, q ∈ ps → noList (f q) = true)
    (ht : ∀ x y H2 (Qt : Bool → Hp → Prop), (x, y) ∈ ps → Same H1 H2 → (∀ H3, Same H2 H3 → Qt (p (x, y)) H3) → tt (((wipe σ [ix, jx]).set ix (some (.int x))).set jx (some (.int y))) H2 Qt)
    (he : ∀ x y H2 (Q' : VK), (x, y) ∈ ps → p (x, y) = true → Same H1 H2 → (∀ v H3, Same H2 H3 → Dp K H3 v (f (x, y)) → Q' v H3) → te (((wipe σ [ix, jx]).set ix (some (.int x))).set jx (some (.int y))) H2 Q')
    (hd : ∀ D H' us, Same H1 H' → H1 D = none → H' D = some (.lst us) → DpAll K H' us ((ps.filter p).map f) → Q (.ref D) H') : LcG (Itl K a) (gTup K 2 (gCons (gName ix) (gCons (gName jx) gNil))) tt te [ix, jx] σ H1 Q := by
  have w := walk_list (K := K) (xs := vs) (a := a)
  have len := dpa_len da
  rw [List.length_map] at len
  rw [len] at w
  refine lc_coreG (n := ps.length) (Z := fun i => ((wipe σ [ix, jx]).set ix (some (.int (ps.getD i default).1))).set jx (some (.int (ps.getD i default).2))) (p := fun i => p (ps.getD i default)) (f := fun i => f (ps.getD i default)) w hz (fun i hi => hn _ (getD_mem ps hi).2) (fun _ s => Same.seq s hs) (fun i H x H' y => by rw [y.1]; exact Same.refl _) (fun i => wipe_two σ ix jx _ _ ne) ?_
    (fun i H2 Qt hi => ht _ _ H2 Qt (getD_mem ps hi).2) (fun i H2 Q' hi => he _ _ H2 Q' (getD_mem ps hi).2) fun D H' us s n e da => hd D H' us s n e ?_
  · rintro i x H2 H3 Q' hi s ⟨rfl, y⟩ q
    obtain ⟨v, hv, dv⟩ := dpa_get da (i := i) (d := pairD (ps.getD i default)) (by rw [List.getElem?_map, (getD_mem ps hi).1]; rfl)
    rw [hv] at y
    cases y
    obtain ⟨b, rfl, sb⟩ := dp_pair dv
    exact r_gtup2 (Same.seqT s sb) q
  · rw [range_getP ps f p] at da
    exact da
/-- the same, whole numbers coming out -/
theorem lc_pairs {ps : List (Int × Int)} {vs : List V} {ix jx : Nat} {p : Int × Int → Bool} {f : Int × Int → Int} (ne : ix ≠ jx) (hz : ps.length ≤ 1000000) (hs : SqL K H1 a vs) (da : DpAll K H1 vs (ps.map pairD))
    (ht : ∀ x y H2 (Qt : Bool → Hp → Prop), (x, y) ∈ ps → Same H1 H2 → (∀ H3, Same H2 H3 → Qt (p (x, y)) H3) → tt (((wipe σ [ix, jx]).set ix (some (.int x))).set jx (some (.int y))) H2 Qt)
    (he : ∀ x y H2 (Q' : VK), (x, y) ∈ ps → p (x, y) = true → Same H1 H2 → (∀ H3, Same H2 H3 → Q' (.int (f (x, y))) H3) → te (((wipe σ [ix, jx]).set ix (some (.int x))).set jx (some (.int y))) H2 Q')
    (hd : ∀ D H', Same H1 H' → H1 D = none → H' D = some (.lst (((ps.filter p).map f).map V.int)) → Q (.ref D) H') : LcG (Itl K a) (gTup K 2 (gCons (gName ix) (gCons (gName jx) gNil))) tt te [ix, jx] σ H1 Q :=
  lc_pairsD ne hz hs da (f := fun q => .int (f q)) (fun _ _ => rfl) ht (fun x y H2 Q' m hp s q => he x y H2 Q' m hp s fun H3 s3 => q _ H3 s3 (.int _)) fun D H' us s n e da => hd D H' s n (by
    have e2 : (ps.filter p).map (fun q => PyData.int (f q)) = (((ps.filter p).map f).map PyData.int) := by
      rw [List.map_map]
      rfl
    rw [e2] at da
    rw [dpa_ints_inv da] at e
    exact e)
theorem shp_pairs (ps : List (Int × Int)) : SeqAt.shaped (.list (ps.map pairD)) = true := shp_of (n := 3) (sd_list fun d hd => by
  obtain ⟨q, _, rfl⟩ := List.mem_map.mp hd
  exact sd_tup (sds_cons (sd_int _) (sds_cons (sd_int _) sds_nil))) (by decide)
end
/-! ### choosing steps -/
def cntP (lo hi : Int) : List (Int × Int) := steps.map fun s => (s, cnt lo hi s)
def mostL (lo hi m : Int) : List Int := steps.filter fun s => decide (cnt lo hi s ≤ m)
def leastL (lo hi m : Int) : List Int := steps.filter fun s => decide (m ≤ cnt lo hi s)
def betweenL (lo hi l m : Int) : List Int := steps.filter fun s => decide (l ≤ cnt lo hi s) && decide (cnt lo hi s ≤ m)
def emptyL (lo hi : Int) : List Int := steps.filter fun s => decide (cnt lo hi s = 0)
def absI (x : Int) : Int := if x < 0 then -x else x
def gapI (lo hi w s : Int) : Int := absI (cnt lo hi s - w)
/-- the first with the least -/
def Near (g : Int → Int) (l : List Int) (s : Int) : Prop := ∃ pre post, l = pre ++ s :: post ∧ (∀ x, x ∈ pre → g s < g x) ∧ ∀ x, x ∈ post → g s ≤ g x
theorem near_one (g : Int → Int) (y : Int) : Near g [y] y := ⟨[], [], rfl, fun _ h => absurd h List.not_mem_nil, fun _ h => absurd h List.not_mem_nil⟩
theorem near_le {g : Int → Int} {l : List Int} {s : Int} (h : Near g l s) : ∀ x, x ∈ l → g s ≤ g x := by
  obtain ⟨pre, post, rfl, h1, h2⟩ := h
  intro x hx
  rcases List.mem_append.mp hx with hx | hx
  · exact Int.le_of_lt (h1 x hx)
  · rcases List.mem_cons.mp hx with rfl | hx
    · exact Int.le_refl _
    · exact h2 x hx
theorem near_mem {g : Int → Int} {l : List Int} {s : Int} (h : Near g l s) : s ∈ l := by
  obtain ⟨pre, post, rfl, h1, h2⟩ := h
  exact List.mem_append_right _ List.mem_cons_self
theorem near_lt {g : Int → Int} {l : List Int} {s y : Int} (h : Near g l s) (c : g y < g s) : Near g (l ++ [y]) y :=
  ⟨l, [], rfl, fun x hx => Int.lt_of_lt_of_le c (near_le h x hx), fun _ h => absurd h List.not_mem_nil⟩
theorem near_ge {g : Int → Int} {l : List Int} {s y : Int} (h : Near g l s) (c : ¬ g y < g s) : Near g (l ++ [y]) s := by
  obtain ⟨pre, post, rfl, h1, h2⟩ := h
  refine ⟨pre, post ++ [y], by simp, h1, fun x hx => ?_⟩
  rcases List.mem_append.mp hx with hx | hx
  · exact h2 x hx
  · rcases List.mem_cons.mp hx with rfl | hx
    · omega
    · cases hx
theorem near_head {g : Int → Int} {l : List Int} {s : Int} (h : Near g l s) : (l.filter fun x => decide (g x = g s)).head? = some s := by
  obtain ⟨pre, post, rfl, h1, h2⟩ := h
  have e : pre.filter (fun x => decide (g x = g s)) = [] := List.filter_eq_nil_iff.mpr fun x hx => by
    have := h1 x hx
    simp
    omega
  rw [List.filter_append, e, List.filter_cons]
  simp
/-- the pairs out of order -/
def rowP (lo hi s : Int) (l : List Int) : List (Int × Int) := (l.filter fun o => decide (s < o) && decide (cnt lo hi s < cnt lo hi o)).map fun o => (s, o)
def oooP (lo hi : Int) (l : List Int) : List (Int × Int) := l.flatMap fun s => rowP lo hi s steps
theorem div_part (a b k : Int) (h : 1 ≤ k) (r : b ≤ a) : a / k - b / k ≤ a - b := by
  have e1 := Int.emod_add_mul_ediv a k
  have e2 := Int.emod_add_mul_ediv b k
  have r1 := Int.emod_nonneg a (show k ≠ 0 by omega)
  have r2 := Int.emod_lt_of_pos b (show 0 < k by omega)
  have r3 := Int.emod_nonneg b (show k ≠ 0 by omega)
  have m : b / k ≤ a / k := Int.ediv_le_ediv (by omega) r
  generalize a / k = p at *
  generalize b / k = q at *
  generalize a % k = x at *
  generalize b % k = y at *
  have e : k * p = k * q + k * (p - q) := by rw [← Int.mul_add]; congr 1; omega
  have z : (p - q) ≤ k * (p - q) := by
    have := Int.mul_le_mul_of_nonneg_right h (show 0 ≤ p - q by omega)
    omega
  by_cases c : p = q
  · omega
  · have z2 : k - 1 + (p - q) ≤ k * (p - q) := by
      have u : 0 ≤ (k - 1) * (p - q - 1) := Int.mul_nonneg (by omega) (by omega)
      rw [Int.mul_sub, Int.sub_mul, Int.mul_one] at u
      omega
    omega
theorem cnt_mult (lo hi st k : Int) (h : 0 < st) (hk : 1 ≤ k) (r : lo ≤ hi + 1) : cnt lo hi (st * k) ≤ cnt lo hi st := by
  unfold cnt
  rw [← Int.ediv_ediv_of_nonneg (by omega), ← Int.ediv_ediv_of_nonneg (by omega)]
  exact div_part _ _ k hk (Int.ediv_le_ediv h (by omega))
theorem ooo_odd {lo hi s o : Int} (h : 0 < s) (ho : s < o) (c : cnt lo hi s < cnt lo hi o) (r : lo ≤ hi + 1) : ¬ o % s = 0 := fun e => by
  have d := Int.emod_add_mul_ediv o s
  rw [e] at d
  have k1 : 1 ≤ o / s := Int.ediv_pos_of_pos_of_dvd (by omega) (by omega) (Int.dvd_of_emod_eq_zero e)
  have := cnt_mult lo hi s (o / s) h k1 r
  have e2 : s * (o / s) = o := by omega
  rw [e2] at this
  omega
theorem pg_tupK {X : Cx} {K : PySem.W.Frag} {es : List Expr} {kk : Nat} {t : TGs} {n : Nat} {pos : Pos} (e : X.K = K) (hc : X.calm = true) (h : PGs X es t)
    (hn : (PySem.assignEach es X.env).length = n := by rfl) (hst : (PySem.assignEach es X.env).findIdx? (·.1) = none := by rfl) : PG X (.Tuple es kk pos) (gTup K n t) := e ▸ pg_tup hc h hn hst
theorem near_ex (g : Int → Int) : ∀ l : List Int, l = [] ∨ ∃ z, Near g l z
  | [] => .inl rfl
  | y :: l => .inr (by
    rcases near_ex g l with rfl | ⟨z, hz⟩
    · exact ⟨y, near_one g y⟩
    · by_cases c : g z < g y
      · obtain ⟨pre, post, rfl, h1, h2⟩ := hz
        refine ⟨z, y :: pre, post, rfl, fun x hx => ?_, h2⟩
        rcases List.mem_cons.mp hx with rfl | hx
        · exact c
        · exact h1 x hx
      · refine ⟨y, [], l, rfl, fun _ h => absurd h List.not_mem_nil, fun x hx => ?_⟩
        have := near_le hz x hx
        omega)
theorem near_same {g : Int → Int} {l : List Int} {s z : Int} (h1 : Near g l s) (h2 : Near g l z) : g s = g z := Int.le_antisymm (near_le h1 z (near_mem h2)) (near_le h2 s (near_mem h1))
theorem cntP_fst (lo hi : Int) (p : Int × Int → Bool) : ((cntP lo hi).filter p).map Prod.fst = steps.filter fun s => p (s, cnt lo hi s) := by
  unfold cntP
  rw [List.filter_map, List.map_map]
  have e : (Prod.fst ∘ fun s => (s, cnt lo hi s)) = id := by
    funext s
    rfl
  rw [e, List.map_id]
  rfl
theorem cntP_map (lo hi : Int) (f : Int × Int → Int) : ((cntP lo hi).filter fun _ => true).map f = steps.map fun s => f (s, cnt lo hi s) := by
  rw [filter_yes]
  unfold cntP
  rw [List.map_map]
  rfl
theorem cntP_len (lo hi : Int) : (cntP lo hi).length = 18 := rfl
theorem cntP_mem {lo hi : Int} {q : Int × Int} (h : q ∈ cntP lo hi) : q.1 ∈ steps ∧ q.2 = cnt lo hi q.1 := by
  obtain ⟨s, hs, rfl⟩ := List.mem_map.mp h
  exact ⟨hs, rfl⟩
section
variable {K : PySem.W.Frag} {H H1 H' : Hp} {σ : L2.St} {Q : VK} {tt : TT} {te : TE} {a d n : Addr}
/-- over a list of pairs, by one name -/
theorem lc_pairN {ps : List (Int × Int)} {vs : List V} {ix : Nat} {p : Int × Int → Bool} {f : Int × Int → PyData} (hz : ps.length ≤ 1000000) (hs : SqL K H1 a vs) (da : DpAll K H1 vs (ps.map pairD)) (hn : ∀ q, q ∈ ps → noList (f q) = true)
    (ht : ∀ b x y H2 (Qt : Bool → Hp → Prop), (x, y) ∈ ps → Same H1 H2 → SqT K H2 b [.int x, .int y] → (∀ H3, Same H2 H3 → Qt (p (x, y)) H3) → tt ((wipe σ [ix]).set ix (some (.ref b))) H2 Qt)
    (he : ∀ b x y H2 (Q' : VK), (x, y) ∈ ps → p (x, y) = true → Same H1 H2 → SqT K H2 b [.int x, .int y] → (∀ v H3, Same H2 H3 → Dp K H3 v (f (x, y)) → Q' v H3) → te ((wipe σ [ix]).set ix (some (.ref b))) H2 Q')
    (hd : ∀ D H' us, Same H1 H' → H1 D = none → H' D = some (.lst us) → DpAll K H' us ((ps.filter p).map f) → Q (.ref D) H') : LcG (Itl K a) (gName ix) tt te [ix] σ H1 Q := by
  have w := walk_list (K := K) (xs := vs) (a := a)
  have len := dpa_len da
  rw [List.length_map] at len
  rw [len] at w
  have at_ : ∀ i, i < ps.length → ∃ b, vs.getD i .non = .ref b ∧ SqT K H1 b [.int (ps.getD i default).1, .int (ps.getD i default).2] := fun i hi => by
    obtain ⟨v, hv, dv⟩ := dpa_get da (i := i) (d := pairD (ps.getD i default)) (by rw [List.getElem?_map, (getD_mem ps hi).1]; rfl)
    obtain ⟨b, rfl, sb⟩ := dp_pair dv
    refine ⟨b, ?_, sb⟩
    rw [List.getD_eq_getElem?_getD, hv]
    rfl
  refine lc_coreG (K := K) (n := ps.length) (Z := fun i => (wipe σ [ix]).set ix (some (vs.getD i .non))) (p := fun i => p (ps.getD i default)) (f := fun i => f (ps.getD i default)) w hz (fun i hi => hn _ (getD_mem ps hi).2) (fun _ s => Same.seq s hs) (fun i H x H' y => by rw [y.1]; exact Same.refl _) (fun i => wipe_one σ ix _) ?_
    (fun i H2 Qt hi s q => ?_) (fun i H2 Q' hi hp s q => ?_) fun D H' us s n e da => hd D H' us s n e ?_
  · rintro i x H2 H3 Q' hi s ⟨rfl, y⟩ q
    rw [List.getD_eq_getElem?_getD, y] at q
    exact q
  · obtain ⟨b, e, sb⟩ := at_ i hi
    rw [e]
    exact ht b _ _ H2 Qt (getD_mem ps hi).2 s (Same.seqT s sb) q
  · obtain ⟨b, e, sb⟩ := at_ i hi
    rw [e]
    exact he b _ _ H2 Q' (getD_mem ps hi).2 hp s (Same.seqT s sb) q
  · rw [range_getP ps f p] at da
    exact da
theorem noPairs (l : List (Int × Int)) : noLists (l.map pairD) = true := noLists_of fun d hd => by
  obtain ⟨q, _, rfl⟩ := List.mem_map.mp hd
  rfl
theorem Kp.pairs {us : List V} {l : List (Int × Int)} (k : Kp d n H H') (r : Dr H d n) (h : DpAll K H us (l.map pairD)) : DpAll K H' us (l.map pairD) := dpa_tups (fun _ _ q => Kp.seqT k r q) _ _ (noPairs l) h
/-- the i-th pair -/
theorem pair_at {us : List V} {l : List (Int × Int)} {i : Nat} {q : Int × Int} (h : DpAll K H us (l.map pairD)) (e : l[i]? = some q) : ∃ b, us[i]? = some (.ref b) ∧ SqT K H b [.int q.1, .int q.2] := by
  obtain ⟨v, hv, dv⟩ := dpa_get h (i := i) (d := pairD q) (by rw [List.getElem?_map, e]; rfl)
  obtain ⟨b, rfl, sb⟩ := dp_pair dv
  exact ⟨b, hv, sb⟩
end
theorem row_len (lo hi y : Int) : (rowP lo hi y steps).length ≤ 18 := by
  have h : (rowP lo hi y steps).length ≤ steps.length := by
    unfold rowP
    rw [List.length_map]
    exact List.length_filter_le _ _
  exact h
theorem ooo_len (lo hi : Int) : ∀ l : List Int, (oooP lo hi l).length ≤ 18 * l.length
  | [] => Nat.le_refl _
  | y :: t => by
    have e : oooP lo hi (y :: t) = rowP lo hi y steps ++ oooP lo hi t := rfl
    have h1 := row_len lo hi y
    have h2 := ooo_len lo hi t
    rw [e, List.length_append, List.length_cons]
    omega
theorem ooo_all (lo hi : Int) : (oooP lo hi steps).length ≤ 324 := ooo_len lo hi steps
theorem ooo_mem {lo hi : Int} {q : Int × Int} (hq : q ∈ oooP lo hi steps) : q.1 ∈ steps ∧ q.2 ∈ steps ∧ q.1 < q.2 ∧ cnt lo hi q.1 < cnt lo hi q.2 := by
  obtain ⟨s, hs, hq⟩ := List.mem_flatMap.mp hq
  obtain ⟨o, ho, rfl⟩ := List.mem_map.mp hq
  obtain ⟨h1, h2⟩ := List.mem_filter.mp ho
  rw [Bool.and_eq_true, decide_eq_true_eq, decide_eq_true_eq] at h2
  exact ⟨hs, h1, h2.1, h2.2⟩
/-- the cut, what follows being opaque -/
theorem r_cutN {t u : TS} {D : Ends} {σ : L2.St} {H : Hp} (rest : ∀ H', Same H H' → u D σ H') (h : ∀ N : L2.St → Hp → Prop, (∀ H', Same H H' → N σ H') → t { D with nx := N } σ H) : tSeq t u D σ H := h (u D) rest
theorem r_cutNS {t u : TS} {D : Ends} {σ : L2.St} {H : Hp} (S : L2.St → Prop) (rest : ∀ σ' H', S σ' → Same H H' → u D σ' H') (h : ∀ N : L2.St → Hp → Prop, (∀ σ' H', S σ' → Same H H' → N σ' H') → t { D with nx := N } σ H) : tSeq t u D σ H := h (u D) rest
/-! ### the greatest common divisor of two steps, by turns -/
def gst (p : Int × Int) : Int × Int := if p.2 = 0 then p else (p.2, p.1 % p.2)
def gsi : Nat → Int × Int → Int × Int
  | 0, p => p
  | n + 1, p => gst (gsi n p)
theorem gsi_all : (steps.all fun s => steps.all fun o => ((List.range 31).all fun j => decide (0 < (gsi j (s, o)).1 ∧ (gsi j (s, o)).1 ≤ 500000 ∧ 0 ≤ (gsi j (s, o)).2 ∧ (gsi j (s, o)).2 ≤ 500000)) && decide ((gsi 30 (s, o)).2 = 0 ∧ s * o % (gsi 30 (s, o)).1 = 0 ∧ s * o / (gsi 30 (s, o)).1 % s = 0 ∧ s * o / (gsi 30 (s, o)).1 % o = 0 ∧ 0 < s * o / (gsi 30 (s, o)).1 ∧ s * o / (gsi 30 (s, o)).1 ≤ 1000000)) = true := by decide +kernel
theorem gsi_pair {s o : Int} (hs : s ∈ steps) (ho : o ∈ steps) : (∀ j, j ≤ 30 → 0 < (gsi j (s, o)).1 ∧ (gsi j (s, o)).1 ≤ 500000 ∧ 0 ≤ (gsi j (s, o)).2 ∧ (gsi j (s, o)).2 ≤ 500000) ∧ (gsi 30 (s, o)).2 = 0 ∧ s * o % (gsi 30 (s, o)).1 = 0 ∧ s * o / (gsi 30 (s, o)).1 % s = 0 ∧ s * o / (gsi 30 (s, o)).1 % o = 0 ∧ 0 < s * o / (gsi 30 (s, o)).1 ∧ s * o / (gsi 30 (s, o)).1 ≤ 1000000 := by
  have h := List.all_eq_true.mp (List.all_eq_true.mp gsi_all s hs) o ho
  rw [Bool.and_eq_true] at h
  exact ⟨fun j hj => of_decide_eq_true (List.all_eq_true.mp h.1 j (List.mem_range.mpr (by omega))), of_decide_eq_true h.2⟩
/-- the least common multiple of two steps -/
def lcmS (s o : Int) : Int := s * o / (gsi 30 (s, o)).1
theorem gsi_fix {p : Int × Int} {j : Nat} (h : (gsi j p).2 = 0) : ∀ d, gsi (j + d) p = gsi j p
  | 0 => rfl
  | d + 1 => by
    have e : gsi (j + (d + 1)) p = gst (gsi (j + d) p) := rfl
    rw [e, gsi_fix h d]
    unfold gst
    rw [if_pos h]
/-- a multiple of a step has a part of its marks, rounded down or up -/
theorem cnt_part (lo hi s k : Int) (h : 0 < s) (hk : 0 < k) : cnt lo hi (s * k) = cnt lo hi s / k ∨ cnt lo hi (s * k) = (cnt lo hi s + k - 1) / k := by
  have e1 : hi / (s * k) = hi / s / k := (Int.ediv_ediv_of_nonneg (by omega)).symm
  have e2 : (lo - 1) / (s * k) = (lo - 1) / s / k := (Int.ediv_ediv_of_nonneg (by omega)).symm
  unfold cnt
  rw [e1, e2]
  generalize hi / s = a
  generalize (lo - 1) / s = b
  have a1 := Int.emod_add_mul_ediv a k
  have a2 := Int.emod_nonneg a (show k ≠ 0 by omega)
  have a3 := Int.emod_lt_of_pos a hk
  have b1 := Int.emod_add_mul_ediv b k
  have b2 := Int.emod_nonneg b (show k ≠ 0 by omega)
  have b3 := Int.emod_lt_of_pos b hk
  generalize a / k = p at *
  generalize b / k = q at *
  generalize a % k = x at *
  generalize b % k = y at *
  have e : k * (p - q) = k * p - k * q := Int.mul_sub _ _ _
  by_cases c : y ≤ x
  · left
    have u := (Int.ediv_emod_unique hk (a := a - b) (q := p - q) (r := x - y)).mpr ⟨by omega, by omega, by omega⟩
    exact u.1.symm
  · right
    have u := (Int.ediv_emod_unique hk (a := a - b + k - 1) (q := p - q) (r := x - y + k - 1)).mpr ⟨by omega, by omega, by omega⟩
    exact u.1.symm
/-! ### dicts with whole numbers as keys -/
section
variable {H : Hp} {Q : VK} {σ : L2.St} {D : Ends} {a : Addr} {td ty tv : TE} {kvs : List (Key × V)} {i : Int} {v w : V}
def DgG (x y : V) (Q : VK) (H : Hp) : Prop := ∃ a v, x = .ref a ∧ DGet H a y (some v) ∧ Q v H
theorem r_dget (h : td σ H fun x H1 => ty σ H1 fun y H2 => DgG x y Q H2) : tDGet td ty σ H Q := h
theorem r_dgI (e : H a = some (.dK kvs)) (q : valV kvs (Sum.inl i) = some w) (h : Q w H) : DgG (.ref a) (.int i) Q H := ⟨a, w, rfl, by rw [← q]; exact DGet.k (k := Sum.inl i) e, h⟩
def DpG (x y v : V) (D : Ends) (σ : L2.St) (H : Hp) : Prop := ∃ a H4, x = .ref a ∧ DPut H a y v H4 ∧ D.nx σ H4
theorem r_dput (h : tv σ H fun v H1 => td σ H1 fun x H2 => ty σ H2 fun y H3 => DpG x y v D σ H3) : sDPut td ty tv D σ H := h
theorem r_dpI (e : H a = some (.dK kvs)) (hl : kvs.length ≤ 1000000) (h : D.nx σ (upd H a (.dK (putK kvs (Sum.inl i) v)))) : DpG (.ref a) (.int i) v D σ H := ⟨a, _, rfl, DPut.k (k := Sum.inl i) e (by rw [sizeLine_eq]; omega), h⟩
theorem r_dnew (h : ∀ p, H p = none → Q (.ref p) (upd H p (.dK []))) : tDNewK σ H Q := h
/-- a table over a list of numbers -/
def tabK (g : Int → V) (l : List Int) : List (Key × V) := l.map fun s => (Sum.inl s, g s)
theorem tabK_val (g : Int → V) (s : Int) : ∀ l : List Int, valV (tabK g l) (Sum.inl s) = if s ∈ l then some (g s) else none
  | [] => rfl
  | y :: r => by
    have ih := tabK_val g s r
    show valV ((Sum.inl y, g y) :: tabK g r) (Sum.inl s) = _
    by_cases c : y = s
    · subst c
      rw [valV_pos rfl, if_pos List.mem_cons_self]
    · rw [valV_neg (fun z => c (Sum.inl.inj z)), ih]
      by_cases d : s ∈ r
      · rw [if_pos d, if_pos (List.mem_cons_of_mem _ d)]
      · rw [if_neg d, if_neg (fun z => by rcases List.mem_cons.mp z with z | z; exact c z.symm; exact d z)]
theorem tabK_put (g : Int → V) (s : Int) (l : List Int) (h : s ∉ l) : putK (tabK g l) (Sum.inl s) (g s) = tabK g (l ++ [s]) := by
  have e : ((tabK g l).any fun kv => decide (kv.1 = Sum.inl s)) = false := by
    rw [valV_any, tabK_val, if_neg h]
    rfl
  unfold putK
  rw [if_neg (by rw [e]; decide)]
  unfold tabK
  rw [List.map_append]
  rfl
end
theorem r_notInT {K : PySem.W.Frag} {H : Hp} {Q : VK} {p : Addr} {i : Int} {ns : List Int} (s : SqT K H p (ns.map V.int)) (h : Q (.bl (!decide (i ∈ ns))) H) : rIn K true (.int i) (.ref p) H Q := ⟨p, _, rfl, .inr s, rfl, flat_ints ns, by
  show Q (.bl (!inV (.int i) (ns.map V.int))) H
  rw [inV_ints]
  exact h⟩
theorem cntP_over (lo hi : Int) : cntP (-hi) (-lo) = cntP lo hi := by
  unfold cntP
  refine List.map_congr_left fun s hs => ?_
  rw [cnt_over lo hi s (by have := (step_bounds s hs).1; omega)]
theorem cnt_one (lo hi : Int) : cnt lo hi 1 = hi - lo + 1 := by
  unfold cnt
  rw [Int.ediv_one, Int.ediv_one]
  omega
theorem cnt_between (lo w s : Int) (h : 0 < s) (hw : 0 ≤ w) : (w + 1) / s ≤ cnt lo (lo + w) s ∧ cnt lo (lo + w) s ≤ w / s + 1 := by
  refine win_le lo w s h hw _ (List.mem_map.mpr ⟨0, List.mem_range.mpr (by omega), ?_⟩)
  have e : lo + ((0 : Nat) : Int) = lo := by omega
  rw [e]
/-! ### a heap that changed at one dict only -/
section
variable {K : PySem.W.Frag} {H H1 H' : Hp} {kd a d n : Addr} {kvs : List (Key × V)} {xs : List V} {o : HO}
def Off (kd : Addr) (H H' : Hp) : Prop := ∀ b o, H b = some o → b ≠ kd → H' b = some o
theorem Off.refl : Off kd H H := fun _ _ e _ => e
theorem Off.put (k : Off kd H H') : Off kd H (upd H' kd o) := fun b u e ne => by
  rw [upd_ne ne]
  exact k b u e ne
theorem Off.same (k : Off kd H H1) (s : Same H1 H') : Off kd H H' := fun b u e ne => s _ _ (k b u e ne)
theorem Off.seqT (k : Off kd H H') (e : H kd = some (.dK kvs)) (h : SqT K H a xs) : SqT K H' a xs := by
  have ne : ∀ u, H a = some u → (∀ ws, u ≠ .dK ws) → H' a = some u := fun u e1 z => k a u e1 (ne_of e1 e (z _))
  rcases h with (h | ⟨o, h⟩) | h
  · exact .inl (.inl (ne _ h fun _ z => by cases z))
  · exact .inl (.inr ⟨o, ne _ h fun _ z => by cases z⟩)
  · exact .inr h
theorem Off.seqL (k : Off kd H H') (e : H kd = some (.dK kvs)) (h : SqL K H a xs) : SqL K H' a xs := by
  have ne : ∀ u, H a = some u → (∀ ws, u ≠ .dK ws) → H' a = some u := fun u e1 z => k a u e1 (ne_of e1 e (z _))
  rcases h with (h | ⟨o, h⟩) | h
  · exact .inl (.inl (ne _ h fun _ z => by cases z))
  · exact .inl (.inr ⟨o, ne _ h fun _ z => by cases z⟩)
  · exact .inr h
theorem Off.dr (k : Off kd H H') (e : H kd = some (.dK kvs)) (h : Dr H d n) : Dr H' d n := by
  obtain ⟨ns, c, e1, e2, h1, h2⟩ := h
  exact ⟨ns, c, k _ _ e1 (ne_of e1 e fun z => by cases z), k _ _ e2 (ne_of e2 e fun z => by cases z), h1, h2⟩
end
theorem take_not {i : Nat} {st : Int} (e : steps[i]? = some st) : st ∉ steps.take i := fun h => by
  obtain ⟨j, hj, q⟩ := List.mem_iff_getElem.mp h
  rw [List.length_take] at hj
  rw [List.getElem_take] at q
  have e2 : steps[j]? = some st := by rw [List.getElem?_eq_getElem (by omega), q]
  have := nd_ix (show steps.Nodup by decide) e2 e
  omega
/-! ### zip of two lists of whole numbers -/
section
variable {K : PySem.W.Frag} {H H1 H' : Hp} {σ : L2.St} {Q : VK} {tt : TT} {te : TE} {a b : Addr} {ta : TA} {R : It → Hp → Prop}
def ZipG (K : PySem.W.Frag) (vs : List V) (R : It → Hp → Prop) (H1 : Hp) : Prop := ∃ a b xs ys, vs = [.ref a, .ref b] ∧ SqL K H1 a xs ∧ SqL K H1 b ys ∧ R (Itz K a b) H1
theorem r_iZip (h : ta σ H fun vs H1 => ZipG K vs R H1) : iZip K ta σ H R := h
theorem r_zip {xs ys : List V} (s : SqL K H a xs) (t : SqL K H b ys) (h : R (Itz K a b) H) : ZipG K [.ref a, .ref b] R H := ⟨a, b, xs, ys, rfl, s, t, h⟩
/-- over zip(xs, ys): [e for x, y in zip(xs, ys) if t] -/
theorem lc_zipD {xs ys : List Int} {n ix jx : Nat} {p : Int × Int → Bool} {f : Int × Int → PyData} (hn' : n = min xs.length ys.length) (ne : ix ≠ jx) (hz : n ≤ 1000000) (hs : SqL K H1 a (xs.map V.int)) (hs2 : SqL K H1 b (ys.map V.int)) (hn : ∀ q, noList (f q) = true)
    (ht : ∀ (i : Nat) x y H2 (Qt : Bool → Hp → Prop), xs[i]? = some x → ys[i]? = some y → Same H1 H2 → (∀ H3, Same H2 H3 → Qt (p (x, y)) H3) → tt (((wipe σ [ix, jx]).set ix (some (.int x))).set jx (some (.int y))) H2 Qt)
    (he : ∀ (i : Nat) x y H2 (Q' : VK), xs[i]? = some x → ys[i]? = some y → p (x, y) = true → Same H1 H2 → (∀ v H3, Same H2 H3 → Dp K H3 v (f (x, y)) → Q' v H3) → te (((wipe σ [ix, jx]).set ix (some (.int x))).set jx (some (.int y))) H2 Q')
    (hd : ∀ D H' us, Same H1 H' → H1 D = none → H' D = some (.lst us) → DpAll K H' us (((xs.zip ys).filter p).map f) → Q (.ref D) H') : LcG (Itz K a b) (gTup K 2 (gCons (gName ix) (gCons (gName jx) gNil))) tt te [ix, jx] σ H1 Q := by
  have w := walk_zip (K := K) (xs := xs.map V.int) (ys := ys.map V.int) (a := a) (b := b) (n := n) (by rw [List.length_map, List.length_map]; exact hn')
  have zl : (xs.zip ys).length = n := by rw [List.length_zip, hn']
  have g : ∀ i, i < n → xs[i]? = some ((xs.zip ys).getD i default).1 ∧ ys[i]? = some ((xs.zip ys).getD i default).2 := fun i hi => by
    have e := (getD_mem (xs.zip ys) (i := i) (by omega)).1
    have := List.getElem?_zip_eq_some.mp e
    exact this
  refine lc_coreG (K := K) (n := n) (Z := fun i => ((wipe σ [ix, jx]).set ix (some (.int ((xs.zip ys).getD i default).1))).set jx (some (.int ((xs.zip ys).getD i default).2))) (p := fun i => p ((xs.zip ys).getD i default)) (f := fun i => f ((xs.zip ys).getD i default)) w hz (fun i hi => hn _) (fun _ s => ⟨Same.seq s hs, Same.seq s hs2⟩) ?_ (fun i => wipe_two σ ix jx _ _ ne) ?_
    (fun i H2 Qt hi => ht i _ _ H2 Qt (g i hi).1 (g i hi).2) (fun i H2 Q' hi => he i _ _ H2 Q' (g i hi).1 (g i hi).2) fun D H' us s n e da => hd D H' us s n e ?_
  · rintro i H x H' ⟨T, u, v, rfl, nT, rfl, _, _⟩
    exact same_new nT
  · rintro i x H2 H3 Q' hi s ⟨T, u, v, rfl, nT, rfl, e1, e2⟩ q
    dsimp only at e1 e2
    rw [List.getElem?_map, (g i hi).1] at e1
    rw [List.getElem?_map, (g i hi).2] at e2
    cases e1
    cases e2
    exact r_gtup2 (SqT.of upd_same) q
  · have := range_getP (xs.zip ys) f p
    rw [zl] at this
    rw [this] at da
    exact da
end
section
variable {K : PySem.W.Frag} {H : Hp} {Q : VK} {a : Addr} {xs : List V} {bs : List Bool}
theorem r_isLsL (s : SqL K H a xs) (h : Q (.bl true) H) : rIsi K [.ref a, .ty "list"] H Q := r_isi (.ty _) (tyx_L s) kit_tt h
theorem r_allB (s : SqL K H a (bs.map V.bl)) (h : Q (.bl (bs.all id)) H) : rAll K [.ref a] H Q := ⟨a, bs, rfl, s, h⟩
end
/-! ### slices of lists -/
section
variable {K : PySem.W.Frag} {H : Hp} {Q : VK} {σ : L2.St} {a : Addr} {xs : List V} {te : TE} {tl th : TO} {r : V → Option Int → Option Int → Hp → VK → Prop} {Qo : Option Int → Hp → Prop}
theorem r_sl (h : te σ H fun x H1 => tl σ H1 fun l H2 => th σ H2 fun u H3 => r x l u H3 Q) : L2.tSl r te tl th σ H Q := h
theorem r_noPart (h : Qo none H) : tNoPart σ H Qo := h
def PartG (x : V) (Qo : Option Int → Hp → Prop) (H : Hp) : Prop := ∃ i, x = .int i ∧ Qo (some i) H
theorem r_part (h : te σ H fun x H1 => PartG x Qo H1) : tPart te σ H Qo := h
theorem r_partI {i : Int} (h : Qo (some i) H) : PartG (.int i) Qo H := ⟨i, rfl, h⟩
theorem r_slL {lo hi : Option Int} (s : SqL K H a xs) (h : ∀ p, H p = none → Q (.ref p) (upd H p (.lst (cutV xs lo hi)))) : rSlL K (.ref a) lo hi H Q := ⟨a, xs, rfl, s, h⟩
theorem cut_tail (xs : List V) : cutV xs (some 1) none = xs.drop 1 := by
  unfold cutV
  cases xs with
  | nil => simp
  | cons x r =>
    have e1 : HT.sIx (x :: r).length 0 (some 1) = 1 := by
      unfold HT.sIx
      simp
    have e2 : HT.sIx (x :: r).length (x :: r).length none = (x :: r).length := rfl
    rw [e1, e2]
    exact List.take_of_length_le (by rw [List.length_drop]; exact Nat.le_refl _)
end
/-! ### comprehensions that give truth values -/
section
variable {K : PySem.W.Frag} {H H1 H' : Hp} {σ : L2.St} {Q : VK} {te : TE} {a b : Addr}
theorem all_map {α : Type} (f : α → Bool) (l : List α) : (l.map f).all id = l.all f := by
  rw [List.all_map]
  rfl
theorem lc_intsB {ns : List Int} {ix : Nat} {f : Int → Bool} (hz : ns.length ≤ 1000000) (hs : SqL K H1 a (ns.map V.int))
    (he : ∀ i H2 (Q' : VK), i ∈ ns → Same H1 H2 → (∀ H3, Same H2 H3 → Q' (.bl (f i)) H3) → te ((wipe σ [ix]).set ix (some (.int i))) H2 Q')
    (hd : ∀ D H', Same H1 H' → H1 D = none → H' D = some (.lst ((ns.map f).map V.bl)) → Q (.ref D) H') : LcG (Itl K a) (gName ix) tYes te [ix] σ H1 Q :=
  lc_intsM (f := fun x => .bl (f x)) hz hs he fun D H' s n e => hd D H' s n (by rw [e, List.map_map]; rfl)
theorem dpa_bools_inv : ∀ {bs : List Bool} {vs : List V}, DpAll K H vs (bs.map PyData.bool) → vs = bs.map V.bl
  | [], _, h => by cases h; rfl
  | i :: r, _, h => by
    cases h with
    | cons q t =>
      cases q
      rw [dpa_bools_inv t]
      rfl
theorem lc_zipB {xs ys : List Int} {ix jx : Nat} {f : Int × Int → Bool} (ne : ix ≠ jx) (hz : xs.length ≤ 1000000) (hs : SqL K H1 a (xs.map V.int)) (hs2 : SqL K H1 b (ys.map V.int))
    (he : ∀ (i : Nat) x y H2 (Q' : VK), xs[i]? = some x → ys[i]? = some y → Same H1 H2 → (∀ H3, Same H2 H3 → Q' (.bl (f (x, y))) H3) → te (((wipe σ [ix, jx]).set ix (some (.int x))).set jx (some (.int y))) H2 Q')
    (hd : ∀ D H', Same H1 H' → H1 D = none → H' D = some (.lst (((xs.zip ys).map f).map V.bl)) → Q (.ref D) H') : LcG (Itz K a b) (gTup K 2 (gCons (gName ix) (gCons (gName jx) gNil))) tYes te [ix, jx] σ H1 Q :=
  lc_zipD (p := fun _ => true) (f := fun q => .bool (f q)) (n := min xs.length ys.length) rfl ne (Nat.le_trans (Nat.min_le_left _ _) hz) hs hs2 (fun _ => rfl) (fun i x y H3 Qt e1 e2 s3 q => q _ (Same.refl _)) (fun i x y H3 Q' e1 e2 _ s3 q => he i x y H3 Q' e1 e2 s3 fun H4 s4 => q _ H4 s4 (.bl _)) fun D H' us s n e d => hd D H' s n (by
    rw [filter_yes] at d
    have e2 : (xs.zip ys).map (fun q => PyData.bool (f q)) = ((xs.zip ys).map f).map PyData.bool := by
      rw [List.map_map]
      rfl
    rw [e2] at d
    rw [e, dpa_bools_inv d])
end
end Ax
/-! ### ranges with a step, tuples of four, rows -/
namespace Ax
open PySem PySem.Spec PyProof.Rows L2
/-- a def that goes by another global name -/
structure DfA (K : PySem.W.Frag) (mg : Str → Option Value) (gn x : Str) (st : Stmt) (ps : List Str) : Type where
  f : Addr
  fd : FuncData
  F : Fun K x x st f fd
  g : mg gn = some (.ref f)
  b : Binds K fd ps []
section
variable {K : PySem.W.Frag} {H H1 : Hp} {σ : L2.St} {Q : VK} {p a : Addr} {x y z u : V} {i j l m : Nat} {ta : TA} {R : It → Hp → Prop} {vs : List V}
theorem r_gtup4 {Q : L2.St → Hp → Prop} (s : SqT K H p [x, y, z, u]) (h : Q ((((σ.set i (some x)).set j (some y)).set l (some z)).set m (some u)) H) : gTup K 4 (gCons (gName i) (gCons (gName j) (gCons (gName l) (gCons (gName m) gNil)))) (.ref p) σ H Q := ⟨p, _, rfl, s, rfl, x, _, rfl, y, _, rfl, z, _, rfl, u, _, rfl, rfl, h⟩
def Rn3 (vs : List V) (R : It → Hp → Prop) (H1 : Hp) : Prop := ∃ (i j c : Int) (n : Nat), vs = [.int i, .int j, .int c] ∧ RgC i j c n ∧ R (Itc i c n) H1
theorem r_iR3 (h : ta σ H fun vs H1 => Rn3 vs R H1) : iRng3 ta σ H R := h
theorem r_rn3 {i j c : Int} {n : Nat} (b : RgC i j c n) (h : R (Itc i c n) H1) : Rn3 [.int i, .int j, .int c] R H1 := ⟨i, j, c, n, rfl, b, h⟩
end
/-- how many numbers range(i, j, c) has, c positive -/
def rgN (i j c : Int) : Nat := (if i < j then (j - i - 1) / c + 1 else 0).toNat
def rgS (i j c : Int) : List Int := (List.range (rgN i j c)).map fun (k : Nat) => i + (k : Int) * c
theorem rgN_le {i j c : Int} (hc : 1 ≤ c) : (rgN i j c : Int) ≤ max 0 (j - i) := by
  unfold rgN
  split
  · have h1 : (j - i - 1) / c ≤ j - i - 1 := Int.ediv_le_self _ (by omega)
    omega
  · omega
theorem rgc_pos {i j c : Int} (hc : 1 ≤ c) (hc2 : c ≤ 1000000) (hi : -4000000 ≤ i ∧ i ≤ 4000000) (hj : -4000000 ≤ j ∧ j ≤ 4000000) : RgC i j c (rgN i j c) := by
  have e : Builtin.Range.rangeSize i j c = (rgN i j c : Int) := by
    unfold Builtin.Range.rangeSize rgN
    rw [if_pos (show c > 0 by omega)]
    by_cases h : i < j
    · rw [if_pos h]
      have h1 : 0 ≤ (j - i - 1) / c := Int.ediv_nonneg (by omega) (by omega)
      omega
    · rw [if_neg h]
      rfl
  have le := rgN_le (i := i) (j := j) hc
  refine ⟨by omega, by omega, ?_, e⟩
  unfold Builtin.Range.small Builtin.Range.rangeFitsLong
  rw [e, if_pos (show c > 0 by omega)]
  simp only [Bool.and_eq_true, Bool.or_eq_true, decide_eq_true_eq]
  exact ⟨⟨⟨⟨⟨by omega, by omega⟩, by omega, by omega⟩, by omega, by omega⟩, by omega, by omega⟩, .inr ⟨by omega, by omega⟩⟩
section
variable {K : PySem.W.Frag} {H1 : Hp} {σ : L2.St} {Q : VK} {tt : TT} {te : TE}
/-- over range(lo, .., c) -/
theorem lc_rngC {lo c : Int} {n ix : Nat} {p : Nat → Bool} {f : Nat → V} (hz : n ≤ 1000000)
    (ht : ∀ i H2 (Qt : Bool → Hp → Prop), i < n → Same H1 H2 → (∀ H3, Same H2 H3 → Qt (p i) H3) → tt ((wipe σ [ix]).set ix (some (.int (lo + (i : Nat) * c)))) H2 Qt)
    (he : ∀ i H2 (Q' : VK), i < n → p i = true → Same H1 H2 → (∀ H3, Same H2 H3 → Q' (f i) H3) → te ((wipe σ [ix]).set ix (some (.int (lo + (i : Nat) * c)))) H2 Q')
    (hd : ∀ D H', Same H1 H' → H1 D = none → H' D = some (.lst (((List.range n).filter p).map f)) → Q (.ref D) H') : LcG (Itc lo c n) (gName ix) tt te [ix] σ H1 Q :=
  lc_core' (Y := fun i => .int (lo + (i : Nat) * c)) (walk_rangeC.mono (fun _ h => h) fun _ _ _ _ _ _ y => y) hz (fun _ _ => trivial) ht he hd
theorem lc_rngCM {lo c : Int} {n ix : Nat} {f : Nat → V} (hz : n ≤ 1000000)
    (he : ∀ i H2 (Q' : VK), i < n → Same H1 H2 → (∀ H3, Same H2 H3 → Q' (f i) H3) → te ((wipe σ [ix]).set ix (some (.int (lo + (i : Nat) * c)))) H2 Q')
    (hd : ∀ D H', Same H1 H' → H1 D = none → H' D = some (.lst ((List.range n).map f)) → Q (.ref D) H') : LcG (Itc lo c n) (gName ix) tYes te [ix] σ H1 Q :=
  lc_rngC (p := fun _ => true) hz (fun _ _ _ _ _ q => q _ (Same.refl _)) (fun i H2 Q' hi _ => he i H2 Q' hi) fun D H' s n e => hd D H' s n (by rw [filter_yes] at e; exact e)
end
section
variable {X : Cx} {a b c : Expr} {ta tb tc : TE}
/-- list(range(i, j, c)), c positive -/
def tLstR3 (ta tb tc : TE) : TE := fun σ H Q => ta σ H fun x H1 => tb σ H1 fun y H2 => tc σ H2 fun z H3 => ∃ i j k, x = .int i ∧ y = .int j ∧ z = .int k ∧ (1 ≤ k ∧ k ≤ 1000000 ∧ (-4000000 ≤ i ∧ i ≤ 4000000) ∧ (-4000000 ≤ j ∧ j ≤ 4000000)) ∧ ∀ q, H3 q = none → Q (.ref q) (upd H3 q (.lst ((rgS i j k).map V.int)))
theorem pe_listR3 {p pos q pos2 : Pos} (hc : X.calm = true) (hg : Gl X "list") (hm : X.mg "list" = none) (hg2 : Gl X "range") (hm2 : X.mg "range" = none) (ha : PE X a ta) (hb : PE X b tb) (hk : PE X c tc)
    (na : starEach [a, b, c] X.env = (false, eval a X.env) :: starEach [b, c] X.env := by rfl) (nb : starEach [b, c] X.env = (false, eval b X.env) :: starEach [c] X.env := by rfl) (nc : starEach [c] X.env = (false, eval c X.env) :: starEach [] X.env := by rfl)
    (hp : (backTo q (starEach [b, c] X.env)).any (·.1) = false := by rfl) (hp2 : (backTo q (starEach [c] X.env)).any (·.1) = false := by rfl)
    (nl : starEach [.Call (.Name "range" pos2) [a, b, c] [] q] X.env = (false, eval (.Call (.Name "range" pos2) [a, b, c] [] q) X.env) :: starEach [] X.env := by rfl) :
    PE X (.Call (.Name "list" p) [.Call (.Name "range" pos2) [a, b, c] [] q] [] pos) (tLstR3 ta tb tc) := by
  refine ⟨fun pins s σ H Q I h => ?_⟩
  have mkR : wpAny (model X.prog X.w) X.A (eval (.Call (.Name "range" pos2) [a, b, c] [] q) X.env) (fun x s' => ∃ r i j k t u v H3, x = .ref r ∧ IsRange s'.heap r i j k t u v ∧ Inv X pins σ H3 s' ∧ (1 ≤ k ∧ k ≤ 1000000 ∧ (-4000000 ≤ i ∧ i ≤ 4000000) ∧ (-4000000 ≤ j ∧ j ≤ 4000000)) ∧ ∀ q, H3 q = none → Q (.ref q) (upd H3 q (.lst ((rgS i j k).map V.int)))) X.xe s := by
    refine Call_ (ld_blt I hg2 hm2 boot_range (PyProof.Rows.callWith_type1 (args_cons (thn (ha.run pins s σ H _ I h) fun v1 s1 ⟨x1, H1, I1, r1, q1⟩ => args_cons (thn (hb.run pins s1 σ H1 _ I1 q1) fun v2 s2 ⟨x2, H2, I2, r2, q2⟩ => one_arg hk I2 q2 (fun v3 s3 x3 H3 I3 r3 q3 => ?_) nc) nb) na) na hp))
    obtain ⟨i, j, k, rfl, rfl, rfl, bd, q3⟩ := q3
    obtain ⟨t1, rfl⟩ := r1
    obtain ⟨t2, rfl⟩ := r2
    obtain ⟨t3, rfl⟩ := r3
    exact call_range_3 (by omega) ⟨_, i, j, k, _, _, _, H3, rfl, IsRange.new _ _ _ _ _ _ _, I3.kept fun b u e => Heap.get?_push_of_some _ e, bd, q3⟩
  refine Call_ (ld_blt I hg hm boot_list (PyProof.Rows.callWith_type1 (args_cons (thn mkR fun x s1 ⟨r, i, j, k, t, u, v, H1, ex, hr, I1, bd, q1⟩ => args_nil ?_) nl) nl))
  subst ex
  obtain ⟨b1, b2, b3, b4⟩ := bd
  obtain ⟨g1, g2, g3, g4⟩ := rgc_pos b1 b2 b3 b4
  have le := rgN_le (i := i) (j := j) b1
  refine call_list_range (n := rgN i j k) (I1.ok.hd hc) hr g3 g4 (by omega) fun h' tk acc cc hkeep e' hi => ?_
  refine ⟨.ref s1.heap.objs.size, upd H1 s1.heap.objs.size (.lst ((rgS i j k).map V.int)), I1.laid hkeep (Nat.le_refl _) (show ObjOk X.prog X.w _ _ _ (.lst ((rgS i j k).map V.int)) from ⟨?_, acc.toList, cc, ?_, ?_⟩), rfl, q1 _ (I1.hok.fresh (Nat.le_refl _))⟩
  · unfold rgS
    rw [List.length_map, List.length_map, List.length_range, sizeLine_eq]
    omega
  · have e0 : acc.toList.length = rgN i j k := by rw [Array.length_toList]; exact hi.1
    unfold rgS
    rw [List.map_map, ← e0]
    refine vals_of_get acc.toList _ fun m u' hm' => ?_
    obtain ⟨t', rfl⟩ := hi.2 m u' (by rw [← hm', Array.getElem?_toList])
    exact ⟨t', rfl⟩
  · rw [Array.toArray_toList]
    exact e'
theorem r_lstR3 {H : Hp} {σ : L2.St} {Q : VK} (h : ta σ H fun x H1 => tb σ H1 fun y H2 => tc σ H2 fun z H3 => ∃ i j k, x = .int i ∧ y = .int j ∧ z = .int k ∧ (1 ≤ k ∧ k ≤ 1000000 ∧ (-4000000 ≤ i ∧ i ≤ 4000000) ∧ (-4000000 ≤ j ∧ j ≤ 4000000)) ∧ ∀ q, H3 q = none → Q (.ref q) (upd H3 q (.lst ((rgS i j k).map V.int)))) : tLstR3 ta tb tc σ H Q := h
end
/-! ### rows of marks -/
/-- a row of marks: ascending numbers -/
def Row (ns : List Int) : Prop := 1 ≤ ns.length ∧ ns.length ≤ 50 ∧ (∀ x, x ∈ ns → -1000000 ≤ x ∧ x ≤ 1000000) ∧ ∀ (i : Nat) x y, ns[i]? = some x → ns[i + 1]? = some y → x < y
def upB (ns : List Int) : Bool := (ns.zip (ns.drop 1)).all fun q => decide (q.1 < q.2)
def inB (ns : List Int) : Bool := ns.all fun x => decide (-1000000 ≤ x ∧ x ≤ 1000000)
theorem zip_tail_get {ns : List Int} {i : Nat} {q : Int × Int} : (ns.zip (ns.drop 1))[i]? = some q ↔ ns[i]? = some q.1 ∧ ns[i + 1]? = some q.2 := by
  rw [List.getElem?_zip_eq_some, List.getElem?_drop, Nat.add_comm 1 i]
theorem zip_tail_mem {ns : List Int} {q : Int × Int} : q ∈ ns.zip (ns.drop 1) ↔ ∃ i : Nat, ns[i]? = some q.1 ∧ ns[i + 1]? = some q.2 := by
  rw [List.mem_iff_getElem?]
  exact exists_congr fun i => zip_tail_get
theorem upB_iff {ns : List Int} : upB ns = true ↔ ∀ (i : Nat) x y, ns[i]? = some x → ns[i + 1]? = some y → x < y := by
  unfold upB
  rw [List.all_eq_true]
  constructor
  · intro h i x y e1 e2
    exact of_decide_eq_true (h (x, y) (zip_tail_mem.mpr ⟨i, e1, e2⟩))
  · intro h q hq
    obtain ⟨i, e1, e2⟩ := zip_tail_mem.mp hq
    exact decide_eq_true (h i _ _ e1 e2)
theorem inB_iff {ns : List Int} : inB ns = true ↔ ∀ x, x ∈ ns → -1000000 ≤ x ∧ x ≤ 1000000 := by
  unfold inB
  rw [List.all_eq_true]
  exact forall_congr' fun x => forall_congr' fun _ => decide_eq_true_iff
theorem row_iff {ns : List Int} : Row ns ↔ (1 ≤ ns.length ∧ ns.length ≤ 50) ∧ inB ns = true ∧ upB ns = true := by
  unfold Row
  rw [inB_iff, upB_iff]
  exact ⟨fun ⟨a, b, c, d⟩ => ⟨⟨a, b⟩, c, d⟩, fun ⟨⟨a, b⟩, c, d⟩ => ⟨a, b, c, d⟩⟩
instance (ns : List Int) : Decidable (Row ns) := decidable_of_iff _ row_iff.symm
/-- a whole number within bounds -/
def numB (lo hi : Int) : V → Bool
  | .int i => decide (lo ≤ i ∧ i ≤ hi)
  | _ => false
/-- no row -/
inductive NotRow (K : PySem.W.Frag) (H : Hp) : V → Prop
  | non : NotRow K H .non
  | bl (b : Bool) : NotRow K H (.bl b)
  | int (i : Int) : NotRow K H (.int i)
  | str (x : Str) : NotRow K H (.str x)
  | tup {a : Addr} {xs : List V} (h : SqT K H a xs) : NotRow K H (.ref a)
  | len {a : Addr} {xs : List V} (h : SqL K H a xs) (hl : ¬ (1 ≤ xs.length ∧ xs.length ≤ 50)) : NotRow K H (.ref a)
  | num {a : Addr} {xs : List V} (h : SqL K H a xs) (hl : 1 ≤ xs.length ∧ xs.length ≤ 50) (hk : ∀ x, x ∈ xs → Known K H x) (hx : xs.all (numB (-1000000) 1000000) = false) : NotRow K H (.ref a)
  | asc {a : Addr} {ns : List Int} (h : SqL K H a (ns.map V.int)) (hl : 1 ≤ ns.length ∧ ns.length ≤ 50) (hb : inB ns = true) (hu : upB ns = false) : NotRow K H (.ref a)
theorem numB_ints (lo hi : Int) : ∀ ns : List Int, (ns.map V.int).all (numB lo hi) = ns.all fun x => decide (lo ≤ x ∧ x ≤ hi)
  | [] => rfl
  | x :: r => by
    rw [List.map_cons, List.all_cons, List.all_cons, numB_ints lo hi r]
    rfl
theorem known_ints {K : PySem.W.Frag} {H : Hp} (ns : List Int) : ∀ x, x ∈ ns.map V.int → Known K H x := fun x hx => by
  obtain ⟨i, _, rfl⟩ := List.mem_map.mp hx
  exact .inl ⟨i, rfl⟩
theorem NotRow.of {K : PySem.W.Frag} {H : Hp} {a : Addr} {ns : List Int} (h : SqL K H a (ns.map V.int)) (n : ¬ Row ns) : NotRow K H (.ref a) := by
  by_cases hl : 1 ≤ ns.length ∧ ns.length ≤ 50
  · cases hb : inB ns with
    | false => exact .num h (by rw [List.length_map]; exact hl) (known_ints ns) (by rw [numB_ints]; exact hb)
    | true =>
      cases hu : upB ns with
      | false => exact .asc h hl hb hu
      | true => exact absurd (row_iff.mpr ⟨hl, hb, hu⟩) n
  · exact .len h (by rw [List.length_map]; exact hl)
theorem NotRow.same {K : PySem.W.Frag} {H H' : Hp} {v : V} (s : Same H H') (h : NotRow K H v) : NotRow K H' v := by
  cases h with
  | non => exact .non
  | bl b => exact .bl b
  | int i => exact .int i
  | str x => exact .str x
  | tup h => exact .tup (Same.seqT s h)
  | len h hl => exact .len (Same.seq s h) hl
  | num h hl hk hx => exact .num (Same.seq s h) hl (fun x hm => (hk x hm).same s) hx
  | asc h hl hb hu => exact .asc (Same.seq s h) hl hb hu
/-- the value is the row ns -/
def IsRow (K : PySem.W.Frag) (H : Hp) (v : V) (ns : List Int) : Prop := ∃ a, v = .ref a ∧ SqL K H a (ns.map V.int) ∧ Row ns
def hdI (ns : List Int) : Int := ns.headD 0
def ltI (ns : List Int) : Int := ns.getLastD 0
theorem hd_at {ns : List Int} (h : ns ≠ []) : atI (ns.map V.int) 0 = some (.int (hdI ns)) := by
  cases ns with
  | nil => exact absurd rfl h
  | cons y r => exact atI_nat (j := 0) rfl
theorem lt_at {ns : List Int} (h : ns ≠ []) : atI (ns.map V.int) (-1) = some (.int (ltI ns)) := by
  refine at_lastI ?_
  unfold ltI
  rw [List.getLastD_eq_getLast?, List.getLast?_eq_some_getLast h]
  rfl
theorem hd_mem {ns : List Int} (h : ns ≠ []) : hdI ns ∈ ns := by
  cases ns with
  | nil => exact absurd rfl h
  | cons y r => exact List.mem_cons_self
theorem lt_mem {ns : List Int} (h : ns ≠ []) : ltI ns ∈ ns := by
  unfold ltI
  rw [List.getLastD_eq_getLast?, List.getLast?_eq_some_getLast h]
  exact List.getLast_mem h
theorem row_ne {ns : List Int} (h : Row ns) : ns ≠ [] := fun z => by
  subst z
  exact absurd h.1 (by decide)
/-- the steps of a row -/
def stepOk (ns : List Int) (s : Int) : Bool := (ns.all fun v => decide (v % s = 0)) && ((ns.zip (ns.drop 1)).all fun q => decide (q.2 - q.1 = s))
def stepsOf (ns : List Int) : List Int := steps.filter fun s => stepOk ns s
theorem stepsOf_len (ns : List Int) (l : List Int) (h : l.length ≤ 18) : (l.filter fun s => stepOk ns s).length ≤ 18 := Nat.le_trans (List.length_filter_le _ _) h
/-- rows and steps: what a function of both raises -/
def errMS (K : PySem.W.Frag) (H : Hp) (x y : V) (cM cS cN : Addr) (E : XK) : Prop :=
  (NotRow K H x ∧ ∀ H', Same H H' → E (.ref cM) none H') ∨ ((∃ ns, IsRow K H x ns) ∧ NotStep K H y ∧ ∀ H', Same H H' → E (.ref cS) none H') ∨
    (∃ ns st, IsRow K H x ns ∧ y = .int st ∧ st ∈ steps ∧ st ∉ stepsOf ns ∧ ∀ H', Same H H' → E (.ref cN) none H')
section
variable {K : PySem.W.Frag} {H H1 : Hp} {σ : L2.St} {Q : VK} {te : TE} {a : Addr}
/-- [t(v) for v in xs], truth values, xs of any known things -/
theorem lc_valsB {xs : List V} {ix : Nat} {f : V → Bool} (hz : xs.length ≤ 1000000) (hs : SqL K H1 a xs)
    (he : ∀ v H2 (Q' : VK), v ∈ xs → Same H1 H2 → (∀ H3, Same H2 H3 → Q' (.bl (f v)) H3) → te ((wipe σ [ix]).set ix (some v)) H2 Q')
    (hd : ∀ D H', Same H1 H' → H1 D = none → H' D = some (.lst ((xs.map f).map V.bl)) → Q (.ref D) H') : LcG (Itl K a) (gName ix) tYes te [ix] σ H1 Q := by
  have mem : ∀ i, i < xs.length → xs.getD i .non ∈ xs := fun i hi => by
    rw [List.getD_eq_getElem?_getD, List.getElem?_eq_getElem hi]
    exact List.getElem_mem hi
  refine lc_core' (n := xs.length) (Y := fun i => xs.getD i .non) (p := fun _ => true) (f := fun i => .bl (f (xs.getD i .non))) walk_listY hz (fun _ s => Same.seq s hs) (fun _ _ _ _ _ q => q _ (Same.refl _)) (fun i H2 Q' hi _ s q => he _ H2 Q' (mem i hi) s q) fun D H' s n e => hd D H' s n ?_
  rw [filter_yes] at e
  rw [e]
  congr 2
  refine List.ext_getElem (by simp) fun i h1 h2 => ?_
  simp only [List.getElem_map, List.getElem_range]
  rw [List.getD_eq_getElem?_getD, List.getElem?_eq_getElem (by simpa using h1)]
  rfl
end
end Ax
/-! ### ranges within bounds, by their numbers of marks -/
namespace Ax
open PySem L2
theorem rgI_len (a b : Int) : (rgI a b).length = (b - a).toNat := by
  unfold rgI
  rw [List.length_map, List.length_range]
theorem rgI_get {a b : Int} {i : Nat} (h : i < (b - a).toNat) : (rgI a b)[i]? = some (a + i) := by
  unfold rgI
  rw [List.getElem?_map, List.getElem?_range h]
  rfl
theorem rgI_mem {a b x : Int} : x ∈ rgI a b ↔ a ≤ x ∧ x < b := by
  unfold rgI
  rw [List.mem_map]
  constructor
  · rintro ⟨k, hk, rfl⟩
    rw [List.mem_range] at hk
    omega
  · intro h
    exact ⟨(x - a).toNat, List.mem_range.mpr (by omega), by omega⟩
theorem rgI_nil {a b : Int} (h : b ≤ a) : rgI a b = [] := by
  unfold rgI
  have : (b - a).toNat = 0 := by omega
  rw [this]
  rfl
theorem rgI_cons {a b : Int} (h : a < b) : rgI a b = a :: rgI (a + 1) b := by
  unfold rgI
  have e : (b - a).toNat = (b - (a + 1)).toNat + 1 := by omega
  rw [e, List.range_succ_eq_map, List.map_cons, List.map_map]
  congr 1
  · simp
  · refine List.map_congr_left fun k _ => ?_
    show a + ((k + 1 : Nat) : Int) = a + 1 + (k : Int)
    omega
theorem rgI_snoc {a b : Int} (h : a ≤ b) : rgI a (b + 1) = rgI a b ++ [b] := by
  unfold rgI
  have e : (b + 1 - a).toNat = (b - a).toNat + 1 := by omega
  rw [e, List.range_succ, List.map_append]
  congr 1
  show [a + (((b - a).toNat : Nat) : Int)] = [b]
  congr 1
  omega
/-- those between A and B -/
theorem rgI_filter (A B : Int) : ∀ (n : Nat) (a b : Int), (b - a).toNat = n → (rgI a b).filter (fun x => decide (A ≤ x ∧ x ≤ B)) = rgI (max a A) (min b (B + 1))
  | 0, a, b, hn => by
    rw [rgI_nil (by omega), rgI_nil (by omega)]
    rfl
  | n + 1, a, b, hn => by
    rw [rgI_cons (by omega), List.filter_cons, rgI_filter A B n (a + 1) b (by omega)]
    by_cases c : A ≤ a ∧ a ≤ B
    · rw [decide_eq_true c, if_pos rfl, rgI_cons (a := max a A) (by omega)]
      have e1 : max a A = a := by omega
      have e2 : max (a + 1) A = a + 1 := by omega
      rw [e1, e2]
    · rw [decide_eq_false c, if_neg Bool.false_ne_true]
      by_cases c1 : A ≤ a
      · rw [rgI_nil (by omega), rgI_nil (by omega)]
      · have e1 : max (a + 1) A = max a A := by omega
        rw [e1]
/-- m marks: the last one stands right -/
theorem cnt_eq_iff (lo hi st m : Int) (h : 0 < st) : cnt lo hi st = m ↔ fst lo st + (m - 1) * st ≤ hi ∧ hi ≤ fst lo st + m * st - 1 := by
  rw [fst_eq lo st h]
  unfold cnt
  generalize (lo - 1) / st = q
  have e1 : (q + 1) * st + (m - 1) * st = (q + m) * st := by rw [← Int.add_mul]; congr 1; omega
  have e2 : (q + 1) * st + m * st = (q + m + 1) * st := by rw [← Int.add_mul]; congr 1; omega
  rw [e1, e2]
  have d1 := Int.emod_add_mul_ediv hi st
  have d2 := Int.emod_nonneg hi (show st ≠ 0 by omega)
  have d3 := Int.emod_lt_of_pos hi h
  rw [Int.mul_comm] at d1
  constructor
  · intro e
    have e3 : hi / st = q + m := by omega
    rw [e3] at d1
    have e4 : (q + m + 1) * st = (q + m) * st + st := by rw [Int.add_mul, Int.one_mul]
    omega
  · rintro ⟨h1, h2⟩
    have l1 : q + m ≤ hi / st := (Int.le_ediv_iff_mul_le h).mpr h1
    have l2 : hi / st < q + m + 1 := (Int.ediv_lt_iff_lt_mul h).mpr (by omega)
    omega
/-- the high ends, for one low end -/
def rowR (lo b st m : Int) : List Int := (rgI lo (b + 1)).filter fun hi => decide (cnt lo hi st = m)
theorem rowR_eq (lo b st m : Int) (h : 0 < st) : rowR lo b st m = rgI (max lo (fst lo st + (m - 1) * st)) (min (b + 1) (fst lo st + m * st)) := by
  unfold rowR
  have e : (fun hi => decide (cnt lo hi st = m)) = fun hi => decide (fst lo st + (m - 1) * st ≤ hi ∧ hi ≤ fst lo st + m * st - 1) := by
    funext hi
    exact decide_eq_decide.mpr (cnt_eq_iff lo hi st m h)
  rw [e, rgI_filter _ _ _ _ _ rfl]
  congr 2
  omega
/-- all ranges within bounds, and those with m marks -/
def pairsR (a b : Int) : List (Int × Int) := (rgI a (b + 1)).flatMap fun lo => (rgI lo (b + 1)).map fun hi => (lo, hi)
def goodR (a b st m : Int) : List (Int × Int) := (pairsR a b).filter fun q => decide (cnt q.1 q.2 st = m)
theorem goodR_eq (a b st m : Int) : goodR a b st m = (rgI a (b + 1)).flatMap fun lo => (rowR lo b st m).map fun hi => (lo, hi) := by
  unfold goodR pairsR rowR
  rw [List.filter_flatMap]
  congr 1
  funext lo
  rw [List.filter_map]
  rfl
theorem pairsR_mem {a b : Int} {q : Int × Int} : q ∈ pairsR a b ↔ a ≤ q.1 ∧ q.1 ≤ q.2 ∧ q.2 ≤ b := by
  unfold pairsR
  rw [List.mem_flatMap]
  constructor
  · rintro ⟨lo, hlo, hq⟩
    obtain ⟨hi, hhi, rfl⟩ := List.mem_map.mp hq
    rw [rgI_mem] at hlo hhi
    exact ⟨hlo.1, hhi.1, by have := hhi.2; show hi ≤ b; omega⟩
  · rintro ⟨h1, h2, h3⟩
    exact ⟨q.1, rgI_mem.mpr ⟨h1, by omega⟩, List.mem_map.mpr ⟨q.2, rgI_mem.mpr ⟨h2, by omega⟩, rfl⟩⟩
/-- the sizes of all rows -/
theorem flat_len {α β : Type} (f : α → List β) : ∀ l : List α, ((l.flatMap f).length : Int) = (l.map fun x => ((f x).length : Int)).sum
  | [] => rfl
  | x :: r => by
    rw [List.flatMap_cons, List.length_append, List.map_cons, List.sum_cons, ← flat_len f r]
    omega
theorem pairs_len : ∀ (n : Nat) (a b : Int), (b + 1 - a).toNat = n → 2 * ((pairsR a b).length : Int) = (n : Int) * ((n : Int) + 1)
  | 0, a, b, hn => by
    unfold pairsR
    rw [rgI_nil (by omega)]
    rfl
  | n + 1, a, b, hn => by
    have ih := pairs_len n (a + 1) b (by omega)
    have e : pairsR a b = ((rgI a (b + 1)).map fun hi => (a, hi)) ++ pairsR (a + 1) b := by
      unfold pairsR
      rw [rgI_cons (a := a) (b := b + 1) (by omega), List.flatMap_cons, ← rgI_cons (a := a) (b := b + 1) (by omega)]
    rw [e, List.length_append, List.length_map, rgI_len]
    have e2 : (b + 1 - a).toNat = n + 1 := hn
    rw [e2]
    have e3 : ((n + 1 : Nat) : Int) * (((n + 1 : Nat) : Int) + 1) = (n : Int) * ((n : Int) + 1) + 2 * (n + 1) := by
      have : ((n + 1 : Nat) : Int) = (n : Int) + 1 := by omega
      rw [this, Int.add_mul, Int.mul_add, Int.mul_add, Int.mul_add]
      omega
    rw [e3]
    omega
theorem pairs_half (a b : Int) (h : a ≤ b + 1) : (b - a + 1) * (b - a + 1 + 1) / 2 = ((pairsR a b).length : Int) := by
  have e := pairs_len _ a b rfl
  have e2 : (((b + 1 - a).toNat : Nat) : Int) = b - a + 1 := by omega
  rw [e2] at e
  rw [← e]
  omega
/-- sums by the number of marks -/
theorem part_sum {α : Type} (f : α → Int) (l : List α) : ∀ n : Nat, ((List.range n).map fun (m : Nat) => ((l.filter fun x => decide (f x = (m : Int))).length : Int)).sum = ((l.filter fun x => decide (0 ≤ f x ∧ f x < (n : Int))).length : Int)
  | 0 => by
    have e : l.filter (fun x => decide (0 ≤ f x ∧ f x < ((0 : Nat) : Int))) = [] := List.filter_eq_nil_iff.mpr fun x _ => by
      rw [decide_eq_true_eq]
      omega
    rw [e]
    rfl
  | n + 1 => by
    rw [List.range_succ, List.map_append, sum_append, part_sum f l n]
    have e : ∀ l : List α, ((l.filter fun x => decide (0 ≤ f x ∧ f x < (n : Int))).length : Int) + ((l.filter fun x => decide (f x = (n : Int))).length : Int) = ((l.filter fun x => decide (0 ≤ f x ∧ f x < ((n + 1 : Nat) : Int))).length : Int) := by
      intro l
      induction l with
      | nil => rfl
      | cons x r ih =>
        rw [List.filter_cons, List.filter_cons, List.filter_cons]
        by_cases c1 : f x = (n : Int)
        · rw [if_neg (by simp; omega), if_pos (by simp [c1]), if_pos (by simp; omega), List.length_cons, List.length_cons]
          omega
        · by_cases c2 : 0 ≤ f x ∧ f x < (n : Int)
          · rw [if_pos (decide_eq_true c2), if_neg (by simp [c1]), if_pos (by simp; omega), List.length_cons, List.length_cons]
            omega
          · rw [if_neg (by simp; omega), if_neg (by simp [c1]), if_neg (by simp; omega)]
            exact ih
    show _ + (((l.filter fun x => decide (f x = (n : Int))).length : Int) + 0) = _
    rw [Int.add_zero]
    exact e l
theorem fst_mono_self (lo st : Int) (h : 0 < st) : lo ≤ fst lo st := (fst_ge' lo st h).1
/-- the size of a row, as the program counts it -/
theorem rowR_len0 (lo b st : Int) (h : 0 < st) : ((rowR lo b st 0).length : Int) = max 0 (min (fst lo st - 1) b - lo + 1) := by
  rw [rowR_eq lo b st 0 h, rgI_len]
  have e1 : fst lo st + 0 * st = fst lo st := by rw [Int.zero_mul, Int.add_zero]
  have e2 : fst lo st + (0 - 1) * st = fst lo st - st := by rw [Int.sub_mul, Int.zero_mul, Int.one_mul]; omega
  rw [e1, e2]
  have := fst_ge' lo st h
  omega
theorem rowR_len1 (lo b st m : Int) (h : 0 < st) (hm : 1 ≤ m) : ((rowR lo b st m).length : Int) = max 0 (min (fst lo st + (m - 1) * st + st - 1) b - max (fst lo st + (m - 1) * st) lo + 1) := by
  rw [rowR_eq lo b st m h, rgI_len]
  have e1 : fst lo st + m * st = fst lo st + (m - 1) * st + st := by rw [Int.sub_mul, Int.one_mul]; omega
  rw [e1]
  omega
/-- the first of a row -/
theorem rowR_head (lo b st m hi : Int) (h : 0 < st) (hm : 0 ≤ m) (hb : lo ≤ b) (e : hi = if m = 0 then lo else fst lo st + (m - 1) * st) : (hi ≤ b ∧ cnt lo hi st = m → (rowR lo b st m).head? = some hi) ∧ (¬ (hi ≤ b ∧ cnt lo hi st = m) → rowR lo b st m = []) := by
  have f := fst_ge' lo st h
  have e0 : max lo (fst lo st + (m - 1) * st) = hi := by
    by_cases c : m = 0
    · subst c
      rw [if_pos rfl] at e
      have e2 : fst lo st + (0 - 1) * st = fst lo st - st := by rw [Int.sub_mul, Int.zero_mul, Int.one_mul]; omega
      rw [e2]
      omega
    · rw [if_neg c] at e
      have : 0 ≤ (m - 1) * st := Int.mul_nonneg (by omega) (by omega)
      omega
  rw [rowR_eq lo b st m h, e0]
  rw [cnt_eq_iff lo hi st m h]
  constructor
  · rintro ⟨h1, h2, h3⟩
    rw [rgI_cons (by omega)]
    rfl
  · intro n
    refine rgI_nil ?_
    by_cases c : hi ≤ b
    · have : ¬ hi ≤ fst lo st + m * st - 1 := fun z => n ⟨c, by omega, z⟩
      omega
    · omega
theorem pairs_rows (a b : Int) (h : a ≤ b) : pairsR a b = ((rgI a (b + 1)).map fun hi => (a, hi)) ++ pairsR (a + 1) b := by
  unfold pairsR
  rw [rgI_cons (a := a) (b := b + 1) (by omega), List.flatMap_cons, ← rgI_cons (a := a) (b := b + 1) (by omega)]
/-- a dict at kd: by a number its list of the pairs that give this number -/
def KD (K : PySem.W.Frag) (H : Hp) (kd : Addr) (g : Int × Int → Int) (ps : List (Int × Int)) : Prop := ∃ kvs, H kd = some (.dK kvs) ∧ kvs.length ≤ ps.length ∧ ∀ m : Int, let l := ps.filter fun q => decide (g q = m); (l = [] ∧ valV kvs (Sum.inl m) = none) ∨ (l ≠ [] ∧ ∃ a us, valV kvs (Sum.inl m) = some (.ref a) ∧ H a = some (.lst us) ∧ DpAll K H us (l.map pairD))
theorem putK_len {kvs : List (Key × V)} {k : Key} {v : V} : (putK kvs k v).length ≤ kvs.length + 1 := by
  unfold putK
  split
  · rw [List.length_map]
    omega
  · rw [List.length_append]
    exact Nat.le_refl _
section
variable {K : PySem.W.Frag} {H H' : Hp} {kd : Addr} {g : Int × Int → Int} {ps : List (Int × Int)} {σ : L2.St} {Q : VK} {td ty tx : TE}
theorem kd_new (e : H kd = some (.dK [])) : KD K H kd g [] := ⟨[], e, Nat.le_refl _, fun _ => .inl ⟨rfl, rfl⟩⟩
theorem KD.same (s : Same H H') (h : KD K H kd g ps) : KD K H' kd g ps := by
  obtain ⟨kvs, e, hl, f⟩ := h
  refine ⟨kvs, s _ _ e, hl, fun m => ?_⟩
  rcases f m with f | ⟨ne, a, us, f1, f2, f3⟩
  · exact .inl f
  · exact .inr ⟨ne, a, us, f1, s _ _ f2, DpAll.to s f3⟩
theorem dpa_notD {us : List V} {l : List (Int × Int)} {kvs : List (Key × V)} {o : HO} (e : H kd = some (.dK kvs)) (h : DpAll K H us (l.map pairD)) : DpAll K (upd H kd o) us (l.map pairD) :=
  dpa_tups (fun _ _ q => Off.seqT (kd := kd) (Off.put Off.refl) e q) _ _ (noPairs l) h
/-- one more pair -/
theorem KD.put {q : Int × Int} {a : Addr} {us : List V} (h : KD K H kd g ps) (ha : H a = some (.lst us)) (da : DpAll K H us ((ps.filter fun z => decide (g z = g q)).map pairD ++ [pairD q])) : ∃ kvs, H kd = some (.dK kvs) ∧ kvs.length ≤ ps.length ∧ KD K (upd H kd (.dK (putK kvs (Sum.inl (g q)) (.ref a)))) kd g (ps ++ [q]) := by
  obtain ⟨kvs, e, hl, f⟩ := h
  have ne : ∀ b vs, H b = some (.lst vs) → b ≠ kd := fun b vs eb => ne_of eb e fun z => by cases z
  refine ⟨kvs, e, hl, _, upd_same, ?_, fun m => ?_⟩
  · have := putK_len (kvs := kvs) (k := Sum.inl (g q)) (v := .ref a)
    rw [List.length_append, List.length_singleton]
    omega
  · by_cases c : g q = m
    · subst c
      have el : ((ps ++ [q]).filter fun z => decide (g z = g q)) = (ps.filter fun z => decide (g z = g q)) ++ [q] := by
        rw [List.filter_append]
        simp
      refine .inr ⟨by rw [el]; simp, a, us, ?_, ?_, ?_⟩
      · rw [valV_put, if_pos rfl]
      · rw [upd_ne (ne a us ha)]
        exact ha
      · rw [el]
        refine dpa_notD e ?_
        rw [List.map_append]
        exact da
    · have el : ((ps ++ [q]).filter fun z => decide (g z = m)) = ps.filter fun z => decide (g z = m) := by
        rw [List.filter_append]
        simp [c]
      have ev : valV (putK kvs (Sum.inl (g q)) (.ref a)) (Sum.inl m) = valV kvs (Sum.inl m) := by
        rw [valV_put, if_neg fun z => c (Sum.inl.inj z).symm]
      show (((ps ++ [q]).filter fun z => decide (g z = m)) = [] ∧ _) ∨ _
      rw [el, ev]
      rcases f m with f | ⟨n0, b, vs, f1, f2, f3⟩
      · exact .inl f
      · exact .inr ⟨n0, b, vs, f1, by rw [upd_ne (ne b vs f2)]; exact f2, dpa_notD e f3⟩
def DgG2 (ty tx : TE) (σ : L2.St) (x : V) (Q : VK) (H1 : Hp) : Prop := ∃ a, x = .ref a ∧ IsD H1 a ∧ ty σ H1 fun y H2 => tx σ H2 fun z H3 => ∃ o, DGet H3 a y o ∧ Q (o.getD z) H3
theorem r_dget2 (h : td σ H fun x H1 => DgG2 ty tx σ x Q H1) : tDGet2 td ty tx σ H Q := h
theorem r_dg2 {kvs : List (Key × V)} (e : H kd = some (.dK kvs)) (h : ty σ H fun y H2 => tx σ H2 fun z H3 => ∃ o, DGet H3 kd y o ∧ Q (o.getD z) H3) : DgG2 ty tx σ (.ref kd) Q H := ⟨kd, rfl, .inl ⟨kvs, .inl e⟩, h⟩
theorem r_dgO {kvs : List (Key × V)} {i : Int} {z : V} (e : H kd = some (.dK kvs)) (h : Q ((valV kvs (Sum.inl i)).getD z) H) : ∃ o, DGet H kd (.int i) o ∧ Q (o.getD z) H := ⟨_, DGet.k (k := Sum.inl i) e, h⟩
theorem eqv_pairsNil : ∀ l : List (Int × Int), PyData.eqv (.list (l.map pairD)) (.list []) = decide (l = [])
  | [] => rfl
  | q :: r => by
    rw [decide_eq_false (List.cons_ne_nil q r)]
    rfl
/-- the list by a number, or a new empty one -/
theorem KD.get {m : Int} {b : Addr} (h : KD K H kd g ps) (hb : H b = some (.lst [])) : ∃ kvs a us, H kd = some (.dK kvs) ∧ (valV kvs (Sum.inl m)).getD (.ref b) = .ref a ∧ H a = some (.lst us) ∧ DpAll K H us ((ps.filter fun z => decide (g z = m)).map pairD) := by
  obtain ⟨kvs, e, hl, f⟩ := h
  rcases f m with ⟨f1, f2⟩ | ⟨_, a, us, f1, f2, f3⟩
  · exact ⟨kvs, b, [], e, by rw [f2]; rfl, hb, by rw [f1]; exact .nil⟩
  · exact ⟨kvs, a, us, e, by rw [f1]; rfl, f2, f3⟩
end
end Ax
/-! ### comprehensions that draw -/
namespace Ax
open PySem L2
section
variable {K : PySem.W.Frag} {H H1 H' : Hp} {σ : L2.St} {Q : VK} {tt : TT} {te : TE} {a d n : Addr}
theorem Kp.updn {o : HO} {p : Addr} (k : Kp d n H H') (np : H p = none) : Kp d n H (upd H' p o) := fun b u e h1 h2 => by
  rw [upd_ne (ne_of_none e np)]
  exact k b u e h1 h2
/-- over a list of whole numbers, drawing within: what is made is told by Pv -/
theorem lc_intsK {ns : List Int} {ix : Nat} (Pv : Nat → List Int → Prop) (hz : ns.length ≤ 1000) (hs : SqL K H1 a (ns.map V.int)) (oa : Of d n a) (dr : Dr H1 d n) (h0 : Pv 0 [])
    (ht : ∀ i x acc H2 (N : Hp → Prop) (M : VK), ns[i]? = some x → Kp d n H1 H2 → Dr H2 d n → Pv i acc → (Pv (i + 1) acc → ∀ H3, Kp d n H2 H3 → Dr H3 d n → N H3) → (∀ y H3, Pv (i + 1) (acc ++ [y]) → Kp d n H2 H3 → Dr H3 d n → M (.int y) H3) →
      tt ((wipe σ [ix]).set ix (some (.int x))) H2 fun b H3 => if b = true then te ((wipe σ [ix]).set ix (some (.int x))) H3 M else N H3)
    (hd : ∀ D H' acc, Kp d n H1 H' → Dr H' d n → H1 D = none → Of d n D → H' D = some (.lst (acc.map V.int)) → Pv ns.length acc → Q (.ref D) H') : LcG (Itl K a) (gName ix) tt te [ix] σ H1 Q := by
  intro D nD
  have oD := dr.off nD
  have w := walk_list (K := K) (xs := ns.map V.int) (a := a)
  rw [List.length_map] at w
  have nda := dr.lst
  refine lc_it w (fun i H' => Kp d n H1 H' ∧ Dr H' d n ∧ ∃ acc : List Int, H' D = some (.lst (acc.map V.int)) ∧ Pv i acc ∧ acc.length ≤ i) ⟨(Kp.refl H1).updn nD, dr.updn nD, [], upd_same, h0, Nat.le_refl _⟩ (fun i H' _ q => Kp.seqL q.1 oa hs) ?_ ?_
  · rintro i x H2 H2' hi ⟨kp, dr2, acc, hD, pv, hl⟩ ⟨rfl, e⟩
    rw [List.getElem?_map] at e
    obtain ⟨z, ez, rfl⟩ := Option.map_eq_some_iff.mp e
    refine ⟨wipe_one σ ix _, ?_⟩
    refine ht i z acc H2' _ _ ez kp dr2 pv (fun pv' H3 kp3 dr3 => ⟨kp.trans kp3, dr3, acc, kp3.at oD hD, pv', by omega⟩)
      (fun y H3 pv' kp3 dr3 => ⟨acc.map V.int, kp3.at oD hD, by rw [List.length_map, sizeLine_eq]; omega, fun b u e h1 h2 => ?_, ?_, acc ++ [y], by rw [upd_same, List.map_append]; rfl, pv', by rw [List.length_append]; simp; omega⟩)
    · rw [upd_ne (ne_of_none e nD)]
      exact kp3 b u (kp b u e h1 h2) h1 h2
    · obtain ⟨ms, c, f1, f2, f3, f4⟩ := dr3
      exact ⟨ms, c, by rw [upd_ne oD.1.symm]; exact f1, by rw [upd_ne oD.2.symm]; exact f2, f3, f4⟩
  · rintro H' ⟨kp, dr2, acc, hD, pv, _⟩
    exact hd D H' acc kp dr2 nD oD hD pv
end
end Ax
/-! ### objects: methods in a try's body, len by an own __len__ -/
namespace Ax
open PySem PySem.Spec PyProof.Rows L2
section
variable {X : Cx} {CX : CXT} {k : Nat} {f C : Addr} {fd : FuncData} {ps : List Str} {sp : Sp} {E : L2.St → XK} {m : Str} {pos apos : Pos} {e o : Expr} {es : List Expr} {ta : TE} {t : TA}
/-- o.m(..) where an except stands around -/
def tMethT (C : Addr) (m : Str) (sp : Sp) (E : L2.St → XK) (ta : TE) (t : TA) : TE := fun σ H Q => ta σ H fun x H1 => ∃ a dx fs, x = .ref a ∧ H1 a = some (.ins C dx fs) ∧ fs.lookup m = none ∧ t σ H1 fun vs H2 => sp (x :: vs) H2 Q (E σ)
theorem pe_methT {pl : Sem Bool} (he : PE X o ta) (c : Cls X.K C) (hm : Meth X.K C m f) (F : FnOk X.prog X.w X.K X.mg X.base CX k f fd ps sp) (hr : Room k X.A) (hb : Binds X.K fd ps []) (hx : ∀ σ, PassesAt CX X σ (E σ)) (ha : PA X (e :: es) t)
    (hst : starEach (e :: es) X.env = (false, eval e X.env) :: starEach es X.env := by rfl) (hpl : (backTo pos (starEach es X.env)).any (·.1) = false := by rfl)
    (ht : eval (.Call (.Attribute o m apos) (e :: es) [] pos) X.env = (do
      let obj ← eval o X.env
      standAt apos.atName
      let (g, one) ← holding [obj] (getMethod obj m pl)
      callWith pos g one (backTo pos (starEach (e :: es) X.env)) (backToKw pos (keywordEach [] X.env))) := by rfl) : PE X (.Call (.Attribute o m apos) (e :: es) [] pos) (tMethT C m sp E ta t) :=
  ⟨fun pins s σ H Q I h => PySem.W.methodCall_KW (pl := pl) (thn (he.run pins s σ H _ I h) fun u s1 ⟨x, H1, I1, rx, a, dx, fs, ex, ea, l, q⟩ => by
    subst ex
    cases (show u = Value.ref a from rx)
    exact getmeth_ok I1 ea c hm l (PySem.W.callWith_K (first := [.ref a]) (h₀ := X.base) I.ok.mod.kin hm.kp (thn (ha.run pos pins s1 σ H1 _ I1 q) fun us s2 ⟨vs, H2, I2, r, q2⟩ => ⟨I2.kIn, run_fnS F hr hb (hx σ) I2 (Paired.cons (show L2.RelV (V.ref a) (Value.ref a) from rfl) r) q2⟩) hst hpl)) ht⟩
theorem pe_methT0 {pl : Sem Bool} (he : PE X o ta) (c : Cls X.K C) (hm : Meth X.K C m f) (F : FnOk X.prog X.w X.K X.mg X.base CX k f fd ps sp) (hr : Room k X.A) (hb : Binds X.K fd ps []) (hx : ∀ σ, PassesAt CX X σ (E σ))
    (ht : eval (.Call (.Attribute o m apos) [] [] pos) X.env = (do
      let obj ← eval o X.env
      standAt apos.atName
      let (g, one) ← holding [obj] (getMethod obj m pl)
      callWith pos g one (backTo pos (starEach [] X.env)) (backToKw pos (keywordEach [] X.env))) := by rfl) : PE X (.Call (.Attribute o m apos) [] [] pos) (tMethT C m sp E ta tNil) :=
  ⟨fun pins s σ H Q I h => PySem.W.methodCall_KW (pl := pl) (thn (he.run pins s σ H _ I h) fun u s1 ⟨x, H1, I1, rx, a, dx, fs, ex, ea, l, q⟩ => by
    subst ex
    cases (show u = Value.ref a from rx)
    exact getmeth_ok I1 ea c hm l (PySem.W.callWith_K0 (first := [.ref a]) I1.kIn hm.kp (run_fnS (us := [.ref a]) (vs := [.ref a]) F hr hb (hx σ) I1 (Paired.cons (show L2.RelV (V.ref a) (Value.ref a) from rfl) .nil) q))) ht⟩
/-- len(o), by __len__ -/
def rLenM (C : Addr) (sp : Sp) : List V → Hp → VK → Prop := fun xs H Q => ∃ a dx fs, xs = [.ref a] ∧ H a = some (.ins C dx fs) ∧ sp [.ref a] H (fun v H' => ∃ n : Int, v = .int n ∧ (0 ≤ n ∧ n < 2 ^ 63) ∧ Q (.int n) H') (fun _ _ _ => False)
theorem call_lenM {f : Addr} {fd : FuncData} (FN : FnOk X.prog X.w X.K X.mg X.base CX0 k f fd ["self"] sp) (hr : Room (k + 1) X.A) (b : Binds X.K fd ["self"] []) (hm : Meth X.K C "__len__" f) : CallR X (.builtin "len") (rLenM C sp) := by
  intro pins s σ H vs us Q I r h
  obtain ⟨a, dx, fs, rfl, ha, hsp⟩ := h
  cases Vals.ref1 r
  obtain ⟨mA, J, _⟩ := ins_get I.hok ha
  obtain ⟨od, J, _⟩ := J.look
  obtain ⟨m', hF⟩ := I.fr
  refine PySem.W.len_K hF I.ok.mod.kin J hm.at_ hm.fn ?_
  have sb : Sub X k X.A.in1 := Sub.in1 ⟨hr, rfl⟩
  have e0 : Env0 X.prog X.w X.K X.mg X.base X.A.in1 X.stack s H := by
    have e := I.env0
    exact ⟨by rw [sb.fr]; exact e.frames, e.mod, e.bs, e.bsz, e.funs, e.frf, e.hok, e.bare⟩
  have hb := b s [.ref a] I.kIn rfl
  refine wpAny_call (codeAny_mono (FN.run X.A.in1 X.stack s H ⟨[.ref a], []⟩ [.ref a] [.ref a] _ _ sb.room e0 (by simpa using hb) (Paired.cons (show L2.RelV (V.ref a) (Value.ref a) from rfl) .nil) hsp) fun r2 s' hq => ?_)
  cases r2 with
  | error e => exact False.elim hq
  | ok fl =>
    cases fl with
    | ret u =>
      obtain ⟨v, H', I', rv, n, rfl, bn, q⟩ := I.after hq
      obtain ⟨t, rfl⟩ := rv
      exact ⟨bn, .int n, H', I'.tok _, ⟨_, rfl⟩, q⟩
    | next => exact False.elim hq
    | brk => exact False.elim hq
    | cont => exact False.elim hq
end
/-! ### readings of objects -/
section
variable {D : Ends} {σ : L2.St} {H : Hp} {Q : VK} {K : PySem.W.Frag} {a C dx : Addr} {fs : List (Str × V)} {f m : Str} {ta tv : TE} {t : TA} {sp : Sp} {E : XK} {v y : V} {u : TS}
def FldG (K : PySem.W.Frag) (f : Str) (x : V) (Q : VK) (H1 : Hp) : Prop := ∃ a C dx fs v, x = .ref a ∧ H1 a = some (.ins C dx fs) ∧ Cls K C ∧ NoAttr K C f ∧ fs.lookup f = some v ∧ Q v H1
theorem r_fldX (h : ta σ H fun x H1 => FldG K f x Q H1) : tFld K ta f σ H Q := h
theorem r_fld (e : H a = some (.ins C dx fs)) (c : Cls K C) (n : NoAttr K C f) (l : fs.lookup f = some v) (h : Q v H) : FldG K f (.ref a) Q H := ⟨a, C, dx, fs, v, rfl, e, c, n, l, h⟩
def PutG (K : PySem.W.Frag) (f : Str) (x y : V) (N : Hp → Prop) (H2 : Hp) : Prop := ∃ a C dx fs, x = .ref a ∧ H2 a = some (.ins C dx fs) ∧ Cls K C ∧ NoAttr K C f ∧ fs.length < 1000 ∧ N (upd H2 a (.ins C dx (putF f y fs)))
theorem r_putX (h : tv σ H fun y H1 => ta σ H1 fun x H2 => PutG K f x y (fun H3 => D.nx σ H3) H2) : sFld K ta tv f D σ H := h
theorem r_seqPut (h : tv σ H fun y H1 => ta σ H1 fun x H2 => PutG K f x y (fun H3 => u D σ H3) H2) : tSeq (sFld K ta tv f) u D σ H := h
theorem r_put {N : Hp → Prop} (e : H a = some (.ins C dx fs)) (c : Cls K C) (n : NoAttr K C f) (l : fs.length < 1000) (h : N (upd H a (.ins C dx (putF f y fs)))) : PutG K f (.ref a) y N H := ⟨a, C, dx, fs, rfl, e, c, n, l, h⟩
def MethG (C : Addr) (m : Str) (sp : Sp) (E : XK) (t : TA) (σ : L2.St) (x : V) (Q : VK) (H1 : Hp) : Prop := ∃ a dx fs, x = .ref a ∧ H1 a = some (.ins C dx fs) ∧ fs.lookup m = none ∧ t σ H1 fun vs H2 => sp (x :: vs) H2 Q E
theorem r_methX (h : ta σ H fun x H1 => MethG C m sp E t σ x Q H1) : tMeth C m sp [] E ta t σ H Q := by
  have e : tMeth C m sp [] E ta t σ H Q = ta σ H fun x H1 => MethG C m sp E t σ x Q H1 := by
    unfold tMeth MethG
    congr 1
    funext x H1
    simp only [List.append_nil]
  rw [e]
  exact h
theorem r_methT {E : L2.St → XK} (h : ta σ H fun x H1 => MethG C m sp (E σ) t σ x Q H1) : tMethT C m sp E ta t σ H Q := h
theorem r_meth (e : H a = some (.ins C dx fs)) (l : fs.lookup m = none) (h : t σ H fun vs H2 => sp (.ref a :: vs) H2 Q E) : MethG C m sp E t σ (.ref a) Q H := ⟨a, dx, fs, rfl, e, l, h⟩
abbrev MkQ (Q : VK) (x : Addr) : VK := fun v H2 => v = .non ∧ Q (.ref x) H2
theorem r_make (h : t σ H fun vs H1 => ∀ x dx, H1 x = none → H1 dx = none → dx ≠ x → sp (.ref x :: vs) (upd (upd H1 dx (.own x)) x (.ins C dx [])) (MkQ Q x) E) : tMake C sp [] E t σ H Q := by
  have e : tMake C sp [] E t σ H Q = t σ H fun vs H1 => ∀ x dx, H1 x = none → H1 dx = none → dx ≠ x → sp (.ref x :: vs) (upd (upd H1 dx (.own x)) x (.ins C dx [])) (MkQ Q x) E := by
    unfold tMake
    simp only [List.append_nil]
  rw [e]
  exact h
theorem r_lenM (e : H a = some (.ins C dx fs)) (h : sp [.ref a] H (fun v H' => ∃ n : Int, v = .int n ∧ (0 ≤ n ∧ n < 2 ^ 63) ∧ Q (.int n) H') (fun _ _ _ => False)) : rLenM C sp [.ref a] H Q := ⟨a, dx, fs, rfl, e, h⟩
end
/-- the fields of an axis -/
def axF (now most past : V) : List (Str × V) := [("now", now), ("most", most), ("past", past)]
theorem ax_n1 : ¬ (("now" : Str) = "most") := by decide +kernel
theorem ax_n2 : ¬ (("now" : Str) = "past") := by decide +kernel
theorem ax_n3 : ¬ (("most" : Str) = "past") := by decide +kernel
theorem axF_make (x y z : V) : putF "past" z (putF "most" y (putF "now" x [])) = axF x y z := by
  simp only [putF, axF, if_neg ax_n1, if_neg ax_n2, if_neg ax_n3]
theorem axF_now (x y z u : V) : putF "now" u (axF x y z) = axF u y z := by
  simp only [putF, axF, if_pos]
end Ax
/-! ### rows continued, rows with gaps -/
namespace Ax
open PySem L2
section
variable {K : PySem.W.Frag} {H H1 H' : Hp} {σ : L2.St} {Q : VK} {te : TE} {a b : Addr}
theorem lc_zipI {xs ys : List Int} {ix jx : Nat} {f : Int × Int → Int} (ne : ix ≠ jx) (hz : xs.length ≤ 1000000) (hs : SqL K H1 a (xs.map V.int)) (hs2 : SqL K H1 b (ys.map V.int))
    (he : ∀ (i : Nat) x y H2 (Q' : VK), xs[i]? = some x → ys[i]? = some y → Same H1 H2 → (∀ H3, Same H2 H3 → Q' (.int (f (x, y))) H3) → te (((wipe σ [ix, jx]).set ix (some (.int x))).set jx (some (.int y))) H2 Q')
    (hd : ∀ D H', Same H1 H' → H1 D = none → H' D = some (.lst (((xs.zip ys).map f).map V.int)) → Q (.ref D) H') : LcG (Itz K a b) (gTup K 2 (gCons (gName ix) (gCons (gName jx) gNil))) tYes te [ix, jx] σ H1 Q :=
  lc_zipD (p := fun _ => true) (f := fun q => .int (f q)) (n := min xs.length ys.length) rfl ne (Nat.le_trans (Nat.min_le_left _ _) hz) hs hs2 (fun _ => rfl) (fun i x y H3 Qt e1 e2 s3 q => q _ (Same.refl _)) (fun i x y H3 Q' e1 e2 _ s3 q => he i x y H3 Q' e1 e2 s3 fun H4 s4 => q _ H4 s4 (.int _)) fun D H' us s n e d => hd D H' s n (by
    rw [filter_yes] at d
    have e2 : (xs.zip ys).map (fun q => PyData.int (f q)) = ((xs.zip ys).map f).map PyData.int := by
      rw [List.map_map]
      rfl
    rw [e2] at d
    rw [e, dpa_ints_inv d])
end
def contL (ns : List Int) (st b c : Int) : List Int := ((List.range b.toNat).map fun (i : Nat) => hdI ns - st * (b + (i : Int) * -1)) ++ ns ++ (List.range c.toNat).map fun (i : Nat) => ltI ns + st * (1 + (i : Int))
def diffsI (ns : List Int) : List Int := (ns.zip (ns.drop 1)).map fun q => q.2 - q.1
def leastI (l : List Int) : Int := l.min?.getD 0
theorem leastI_spec {l : List Int} (h : l ≠ []) : leastI l ∈ l ∧ ∀ y, y ∈ l → leastI l ≤ y := by
  unfold leastI
  cases e : l.min? with
  | none => exact absurd (List.min?_eq_none_iff.mp e) h
  | some m =>
    have := List.min?_eq_some_iff.mp e
    exact ⟨this.1, fun y hy => this.2 y hy⟩
theorem rgN_le2 {i j c k : Int} (hc : 1 ≤ c) (hk : 0 ≤ k) (h : j - i ≤ k * c) : (rgN i j c : Int) ≤ k := by
  unfold rgN
  split
  · have h1 : (j - i - 1) / c < k := (Int.ediv_lt_iff_lt_mul (by omega)).mpr (by omega)
    omega
  · omega
def missL (ns : List Int) : List Int := (rgS (hdI ns) (ltI ns) (leastI (diffsI ns))).filter fun v => !decide (v ∈ ns)
def missOk (ns : List Int) : Prop := diffsI ns ≠ [] ∧ leastI (diffsI ns) ∈ steps ∧ (ns.all fun v => decide (v % leastI (diffsI ns) = 0)) = true ∧ ltI ns - hdI ns ≤ 1000 * leastI (diffsI ns)
instance (ns : List Int) : Decidable (missOk ns) := inferInstanceAs (Decidable (_ ∧ _ ∧ _ ∧ _))
/-- an arithmetic progression -/
def apI (f s a b : Int) : List Int := (rgI a b).map fun k => f + s * k
theorem rgI_app {a b c : Int} (h1 : a ≤ b) (h2 : b ≤ c) : rgI a c = rgI a b ++ rgI b c := by
  unfold rgI
  have e : (c - a).toNat = (b - a).toNat + (c - b).toNat := by omega
  rw [e, List.range_add, List.map_append, List.map_map]
  congr 1
  refine List.map_congr_left fun i _ => ?_
  show a + (((b - a).toNat + i : Nat) : Int) = b + (i : Int)
  omega
theorem apI_app {f s a b c : Int} (h1 : a ≤ b) (h2 : b ≤ c) : apI f s a c = apI f s a b ++ apI f s b c := by
  unfold apI
  rw [rgI_app h1 h2, List.map_append]
theorem apI_len (f s a b : Int) : (apI f s a b).length = (b - a).toNat := by
  unfold apI
  rw [List.length_map, rgI_len]
theorem apI_get {f s a b : Int} {i : Nat} (h : i < (b - a).toNat) : (apI f s a b)[i]? = some (f + s * (a + i)) := by
  unfold apI
  rw [List.getElem?_map, rgI_get h]
  rfl
theorem apI_mem {f s a b x : Int} (h : x ∈ apI f s a b) : ∃ k, a ≤ k ∧ k < b ∧ x = f + s * k := by
  obtain ⟨k, hk, rfl⟩ := List.mem_map.mp h
  rw [rgI_mem] at hk
  exact ⟨k, hk.1, hk.2, rfl⟩
theorem apI_hd {f s a b : Int} (h : a < b) : hdI (apI f s a b) = f + s * a := by
  unfold apI
  rw [rgI_cons h]
  rfl
theorem apI_lt {f s a b : Int} (h : a < b) : ltI (apI f s a b) = f + s * (b - 1) := by
  have e : b = b - 1 + 1 := by omega
  unfold apI ltI
  rw [e, rgI_snoc (by omega), List.map_append, List.getLastD_eq_getLast?]
  simp
theorem apI_row {f s a b : Int} (hs : 1 ≤ s) (h : a < b) (hl : b - a ≤ 50) (h1 : -1000000 ≤ f + s * a) (h2 : f + s * (b - 1) ≤ 1000000) : Row (apI f s a b) := by
  have mono : ∀ k l : Int, k ≤ l → s * k ≤ s * l := fun k l h => Int.mul_le_mul_of_nonneg_left h (by omega)
  refine ⟨by rw [apI_len]; omega, by rw [apI_len]; omega, fun x hx => ?_, fun i x y e1 e2 => ?_⟩
  · obtain ⟨k, k1, k2, rfl⟩ := apI_mem hx
    have := mono a k k1
    have := mono k (b - 1) (by omega)
    omega
  · have l2 := (List.getElem?_eq_some_iff.mp e2).1
    rw [apI_len] at l2
    rw [apI_get (by omega)] at e1
    rw [apI_get (by omega)] at e2
    cases e1
    cases e2
    have e : s * (a + ((i + 1 : Nat) : Int)) = s * (a + (i : Int)) + s := by
      have : a + ((i + 1 : Nat) : Int) = a + (i : Int) + 1 := by omega
      rw [this, Int.mul_add, Int.mul_one]
    omega
theorem apI_step {f s a b : Int} (hs : 1 ≤ s) (hf : f % s = 0) : stepOk (apI f s a b) s = true := by
  unfold stepOk
  rw [Bool.and_eq_true, List.all_eq_true, List.all_eq_true]
  refine ⟨fun x hx => ?_, fun q hq => ?_⟩
  · obtain ⟨k, _, _, rfl⟩ := apI_mem hx
    rw [decide_eq_true_eq, Int.add_mul_emod_self_left]
    exact hf
  · obtain ⟨i, e1, e2⟩ := zip_tail_mem.mp hq
    have l2 := (List.getElem?_eq_some_iff.mp e2).1
    rw [apI_len] at l2
    rw [apI_get (by omega)] at e1
    rw [apI_get (by omega)] at e2
    cases e1' : q.1
    all_goals
      have h1 := Option.some.inj e1
      have h2 := Option.some.inj e2
      have e : s * (a + ((i + 1 : Nat) : Int)) = s * (a + (i : Int)) + s := by
        have : a + ((i + 1 : Nat) : Int) = a + (i : Int) + 1 := by omega
        rw [this, Int.mul_add, Int.mul_one]
      rw [decide_eq_true_eq]
      omega
theorem stepOk_diff {ns : List Int} {o : Int} (h : stepOk ns o = true) {i : Nat} {x y : Int} (e1 : ns[i]? = some x) (e2 : ns[i + 1]? = some y) : y - x = o := by
  unfold stepOk at h
  rw [Bool.and_eq_true, List.all_eq_true, List.all_eq_true] at h
  exact of_decide_eq_true (h.2 (x, y) (zip_tail_mem.mpr ⟨i, e1, e2⟩))
theorem stepsOf_mem {ns : List Int} {o : Int} : o ∈ stepsOf ns ↔ o ∈ steps ∧ stepOk ns o = true := List.mem_filter
/-- a row continued -/
theorem cont_ap {f s m b c : Int} (hm : 0 < m) (hb : 0 ≤ b) (hc : 0 ≤ c) : contL (apI f s 0 m) s b c = apI f s (-b) (m + c) := by
  rw [apI_app (a := -b) (b := 0) (c := m + c) (by omega) (by omega), apI_app (a := 0) (b := m) (c := m + c) (by omega) (by omega)]
  unfold contL
  rw [apI_hd hm, apI_lt hm, List.append_assoc]
  congr 1
  · unfold apI rgI
    rw [List.map_map]
    have e : (0 - -b).toNat = b.toNat := by omega
    rw [e]
    refine List.map_congr_left fun i _ => ?_
    show f + s * 0 - s * (b + (i : Int) * -1) = f + s * (-b + (i : Int))
    have e1 : b + (i : Int) * -1 = -(-b + (i : Int)) := by omega
    rw [e1, Int.mul_neg, Int.mul_zero]
    omega
  · congr 1
    unfold apI rgI
    rw [List.map_map]
    have e : (m + c - m).toNat = c.toNat := by omega
    rw [e]
    refine List.map_congr_left fun i _ => ?_
    show f + s * (m - 1) + s * (1 + (i : Int)) = f + s * (m + (i : Int))
    have e1 : m + (i : Int) = m - 1 + (1 + (i : Int)) := by omega
    rw [e1, Int.mul_add s (m - 1)]
    omega
end Ax
/-! ### rows with some taken out -/
namespace Ax
open PySem L2
def Asc (l : List Int) : Prop := l.Pairwise (· < ·)
theorem Asc.nodup {l : List Int} (h : Asc l) : l.Nodup := h.imp fun h => by omega
theorem Asc.le {l : List Int} (h : Asc l) : l.Pairwise (· ≤ ·) := h.imp fun h => by omega
theorem asc_eq {l m : List Int} (h1 : l.Pairwise (· ≤ ·)) (h2 : m.Pairwise (· ≤ ·)) (p : l.Perm m) : l = m :=
  List.Perm.eq_of_pairwise (le := fun a b => a ≤ b) (fun _ _ _ _ h h' => Int.le_antisymm h h') h1 h2 p
theorem asc_same {l m : List Int} (h1 : Asc l) (h2 : Asc m) (e : ∀ x, x ∈ l ↔ x ∈ m) : l = m :=
  asc_eq h1.le h2.le ((List.perm_ext_iff_of_nodup h1.nodup h2.nodup).mpr e)
theorem asc_get {l : List Int} (h : Asc l) {i j : Nat} {x y : Int} (ij : i < j) (e1 : l[i]? = some x) (e2 : l[j]? = some y) : x < y := by
  obtain ⟨h1, rfl⟩ := List.getElem?_eq_some_iff.mp e1
  obtain ⟨h2, rfl⟩ := List.getElem?_eq_some_iff.mp e2
  exact List.pairwise_iff_getElem.mp h i j h1 h2 ij
theorem asc_of {l : List Int} (h : upB l = true) : Asc l := by
  rw [upB_iff] at h
  refine List.pairwise_iff_getElem.mpr fun i j hi hj ij => ?_
  have step : ∀ d : Nat, i + d + 1 < l.length → ∀ (h1 : i + d + 1 < l.length), l[i] < l[i + d + 1] := fun d => by
    induction d with
    | zero => exact fun _ h1 => h i _ _ (List.getElem?_eq_getElem hi) (List.getElem?_eq_getElem h1)
    | succ d ih =>
      intro _ h1
      have h0 := ih (by omega) (by omega)
      have h2 := h (i + d + 1) _ _ (List.getElem?_eq_getElem (by omega)) (List.getElem?_eq_getElem (by omega))
      exact Int.lt_trans h0 h2
  have e : i + (j - i - 1) + 1 = j := by omega
  have q := step (j - i - 1) (by omega) (by omega)
  simp only [e] at q
  exact q
theorem row_asc {l : List Int} (h : Row l) : Asc l := asc_of (row_iff.mp h).2.2
theorem row_of {l : List Int} (h : Asc l) (h1 : 1 ≤ l.length) (h2 : l.length ≤ 50) (b : ∀ x, x ∈ l → -1000000 ≤ x ∧ x ≤ 1000000) : Row l :=
  ⟨h1, h2, b, fun i _ _ e1 e2 => asc_get h (Nat.lt_succ_self i) e1 e2⟩
theorem rgS_asc {i j c : Int} (hc : 1 ≤ c) : Asc (rgS i j c) := by
  unfold rgS Asc
  refine List.Pairwise.map _ (fun (a b : Nat) h => ?_) List.pairwise_lt_range
  have : (a : Int) * c < (b : Int) * c := Int.mul_lt_mul_of_pos_right (by omega) (by omega)
  omega
theorem rgS_mem {i j c x : Int} (hc : 1 ≤ c) : x ∈ rgS i j c ↔ i ≤ x ∧ x < j ∧ (x - i) % c = 0 := by
  unfold rgS
  rw [List.mem_map]
  constructor
  · rintro ⟨k, hk, rfl⟩
    rw [List.mem_range] at hk
    unfold rgN at hk
    have e : i + (k : Int) * c - i = (k : Int) * c := by omega
    have nn : 0 ≤ (k : Int) * c := Int.mul_nonneg (by omega) (by omega)
    rw [e, Int.mul_emod_left]
    split at hk
    · have h1 : (k : Int) ≤ (j - i - 1) / c := by omega
      have h2 := (Int.le_ediv_iff_mul_le (show 0 < c by omega)).mp h1
      exact ⟨by omega, by omega, rfl⟩
    · omega
  · rintro ⟨h1, h2, h3⟩
    have d := Int.emod_add_mul_ediv (x - i) c
    rw [h3, Int.mul_comm] at d
    have q0 : 0 ≤ (x - i) / c := Int.ediv_nonneg (by omega) (by omega)
    refine ⟨((x - i) / c).toNat, List.mem_range.mpr ?_, ?_⟩
    · unfold rgN
      rw [if_pos (by omega)]
      have : (x - i) / c ≤ (j - i - 1) / c := Int.ediv_le_ediv (by omega) (by omega)
      omega
    · have e : ((((x - i) / c).toNat : Nat) : Int) = (x - i) / c := by omega
      rw [e]
      omega
theorem hd_le {l : List Int} (h : Asc l) {x : Int} (hx : x ∈ l) : hdI l ≤ x ∧ x ≤ ltI l := by
  have ne : l ≠ [] := fun z => by
    rw [z] at hx
    cases hx
  obtain ⟨i, hi⟩ := List.mem_iff_getElem?.mp hx
  have hl := (List.getElem?_eq_some_iff.mp hi).1
  have e0 : l[0]? = some (hdI l) := by
    cases l with
    | nil => exact absurd rfl ne
    | cons y r => rfl
  have e1 : l[l.length - 1]? = some (ltI l) := by
    unfold ltI
    rw [List.getLastD_eq_getLast?, List.getLast?_eq_getElem?, List.getElem?_eq_getElem (by omega)]
    rfl
  constructor
  · by_cases c : i = 0
    · subst c
      rw [e0] at hi
      cases hi
      exact Int.le_refl _
    · exact Int.le_of_lt (asc_get h (by omega) e0 hi)
  · by_cases c : i = l.length - 1
    · subst c
      rw [e1] at hi
      cases hi
      exact Int.le_refl _
    · exact Int.le_of_lt (asc_get h (by omega) hi e1)
theorem diffs_mem {l : List Int} {x : Int} : x ∈ diffsI l ↔ ∃ (i : Nat) (y z : Int), l[i]? = some y ∧ l[i + 1]? = some z ∧ x = z - y := by
  unfold diffsI
  rw [List.mem_map]
  constructor
  · rintro ⟨q, hq, rfl⟩
    obtain ⟨i, e1, e2⟩ := zip_tail_mem.mp hq
    exact ⟨i, q.1, q.2, e1, e2, rfl⟩
  · rintro ⟨i, y, z, e1, e2, rfl⟩
    exact ⟨(y, z), zip_tail_mem.mpr ⟨i, e1, e2⟩, rfl⟩
theorem diffs_ne {l : List Int} (h : 2 ≤ l.length) : diffsI l ≠ [] := fun e => by
  have := congrArg List.length e
  unfold diffsI at this
  rw [List.length_map, List.length_zip, List.length_drop] at this
  have l0 : ([] : List Int).length = 0 := rfl
  omega
theorem diffs_nil {l : List Int} (h : l.length < 2) : diffsI l = [] := by
  refine List.eq_nil_of_length_eq_zero ?_
  unfold diffsI
  rw [List.length_map, List.length_zip, List.length_drop]
  omega
/-- the differences, as by places -/
theorem diffs_range (l : List Int) : (List.range (l.length - 1)).map (fun (k : Nat) => l.getD (k + 1) 0 - l.getD k 0) = diffsI l := by
  unfold diffsI
  refine List.ext_getElem? fun i => ?_
  rw [List.getElem?_map, List.getElem?_map]
  by_cases c : i < l.length - 1
  · rw [List.getElem?_range c]
    have e1 : l[i]? = some (l.getD i 0) := by
      rw [List.getD_eq_getElem?_getD, List.getElem?_eq_getElem (by omega)]
      rfl
    have e2 : l[i + 1]? = some (l.getD (i + 1) 0) := by
      rw [List.getD_eq_getElem?_getD, List.getElem?_eq_getElem (by omega)]
      rfl
    rw [zip_tail_get (q := (l.getD i 0, l.getD (i + 1) 0)) |>.mpr ⟨e1, e2⟩]
    rfl
  · rw [List.getElem?_eq_none (by rw [List.length_range]; omega), List.getElem?_eq_none (by rw [List.length_zip, List.length_drop]; omega)]
    rfl
/-- the whole row: those there and those missing -/
theorem miss_all {l : List Int} (h : Asc l) (ne : l ≠ []) {m : Int} (hm : 1 ≤ m) (dv : ∀ x, x ∈ l → x % m = 0) (em : leastI (diffsI l) = m) : ∀ x, x ∈ l ++ missL l ↔ x ∈ rgS (hdI l) (ltI l + 1) m := by
  intro x
  have d0 := dv _ (hd_mem ne)
  unfold missL
  rw [em, List.mem_append, List.mem_filter, rgS_mem hm, rgS_mem hm]
  constructor
  · rintro (hx | ⟨⟨h1, h2, h3⟩, _⟩)
    · have := hd_le h hx
      refine ⟨this.1, by omega, ?_⟩
      rw [Int.sub_emod, dv x hx, d0]
      simp
    · exact ⟨h1, by omega, h3⟩
  · rintro ⟨h1, h2, h3⟩
    by_cases c : x ∈ l
    · exact .inl c
    · have : x ≠ ltI l := fun z => c (z ▸ lt_mem ne)
      exact .inr ⟨⟨h1, by omega, h3⟩, by simp [c]⟩
theorem miss_nodup {l : List Int} (h : Asc l) {m : Int} (hm : 1 ≤ m) (em : leastI (diffsI l) = m) : (l ++ missL l).Nodup := by
  rw [List.nodup_append]
  refine ⟨h.nodup, ?_, fun a ha b hb e => ?_⟩
  · unfold missL
    rw [em]
    exact (rgS_asc hm).nodup.filter _
  · subst e
    have := (List.mem_filter.mp hb).2
    rw [Bool.not_eq_true', decide_eq_false_iff_not] at this
    exact this ha
theorem miss_sort {l ns : List Int} (h : Asc l) (ne : l ≠ []) {m : Int} (hm : 1 ≤ m) (dv : ∀ x, x ∈ l → x % m = 0) (em : leastI (diffsI l) = m) (p : ns.Perm (l ++ missL l)) (s : ns.Pairwise (· ≤ ·)) : ns = rgS (hdI l) (ltI l + 1) m :=
  asc_eq s (rgS_asc hm).le (p.trans ((List.perm_ext_iff_of_nodup (miss_nodup h hm em) (rgS_asc hm).nodup).mpr (miss_all h ne hm dv em)))
/-- all marks from the first number on -/
theorem rgS_marks {lo hi st : Int} (h : 1 ≤ st) (r : lo ≤ hi) (d : lo % st = 0) : rgS lo (hi + 1) st = marksL lo hi st := by
  refine asc_same (rgS_asc h) ?_ fun x => ?_
  · unfold marksL Asc
    refine List.Pairwise.map _ (fun (a b : Nat) h => ?_) List.pairwise_lt_range
    have : (a : Int) * st < (b : Int) * st := Int.mul_lt_mul_of_pos_right (by omega) (by omega)
    omega
  · rw [rgS_mem h, marks_mem (by omega) (by omega)]
    have e : (x - lo) % st = x % st := by
      have d1 := Int.emod_add_mul_ediv lo st
      rw [d] at d1
      have : x - lo = x + st * (-(lo / st)) := by rw [Int.mul_neg]; omega
      rw [this, Int.add_mul_emod_self_left]
    rw [e]
    constructor
    · rintro ⟨h1, h2, h3⟩
      exact ⟨⟨h1, by omega⟩, h3⟩
    · rintro ⟨⟨h1, h2⟩, h3⟩
      exact ⟨h1, by omega, h3⟩
/-- a row by one step: an arithmetic progression -/
theorem step_ap {l : List Int} {s : Int} (h : stepOk l s = true) (ne : l ≠ []) : l = apI (hdI l) s 0 l.length := by
  have e0 : l[0]? = some (hdI l) := by
    cases l with
    | nil => exact absurd rfl ne
    | cons y r => rfl
  have at_ : ∀ i : Nat, i < l.length → l[i]? = some (hdI l + s * (0 + (i : Int))) := fun i => by
    induction i with
    | zero =>
      intro _
      rw [e0]
      simp
    | succ i ih =>
      intro hi
      have e1 := ih (by omega)
      obtain ⟨y, e2⟩ : ∃ y, l[i + 1]? = some y := ⟨_, List.getElem?_eq_getElem hi⟩
      have d := stepOk_diff h e1 e2
      have e : s * (0 + ((i + 1 : Nat) : Int)) = s * (0 + (i : Int)) + s := by
        have : 0 + ((i + 1 : Nat) : Int) = 0 + (i : Int) + 1 := by omega
        rw [this, Int.mul_add, Int.mul_one]
      rw [e2, e]
      congr 1
      omega
  refine List.ext_getElem? fun i => ?_
  by_cases c : i < l.length
  · rw [at_ i c, apI_get (by omega)]
  · rw [List.getElem?_eq_none (by omega), List.getElem?_eq_none (by rw [apI_len]; omega)]
theorem can_iff {l : List Int} (h : Asc l) (h2 : 2 ≤ l.length) {m : Int} (ms : m ∈ steps) (dv : ∀ x, x ∈ l → x % m = 0) (em : leastI (diffsI l) = m) : (stepsOf l ≠ []) ↔ missL l = [] := by
  have hm := (step_bounds m ms).1
  have ne : l ≠ [] := fun z => by
    rw [z] at h2
    exact absurd h2 (by decide)
  have all := miss_all h ne hm dv em
  constructor
  · intro hs
    obtain ⟨s, hs⟩ := List.exists_mem_of_ne_nil _ hs
    obtain ⟨s1, s2⟩ := stepsOf_mem.mp hs
    have b1 := (step_bounds s s1).1
    -- the least difference is s
    have es : leastI (diffsI l) = s := by
      obtain ⟨h3, _⟩ := leastI_spec (diffs_ne h2)
      obtain ⟨i, y, z, e1, e2, e3⟩ := diffs_mem.mp h3
      rw [e3]
      exact stepOk_diff s2 e1 e2
    have ap := step_ap s2 ne
    unfold missL
    rw [es]
    refine List.filter_eq_nil_iff.mpr fun x hx => ?_
    rw [rgS_mem b1] at hx
    obtain ⟨h4, h5, h6⟩ := hx
    rw [Bool.not_eq_true, Bool.not_eq_false', decide_eq_true_eq]
    have d := Int.emod_add_mul_ediv (x - hdI l) s
    rw [h6] at d
    have lt : ltI l = hdI l + s * ((l.length : Int) - 1) := by
      have q := apI_lt (f := hdI l) (s := s) (a := 0) (b := (l.length : Int)) (by omega)
      rw [← ap] at q
      exact q
    have q0 : 0 ≤ (x - hdI l) / s := Int.ediv_nonneg (by omega) (by omega)
    have q1 : (x - hdI l) / s < (l.length : Int) - 1 := Int.lt_of_mul_lt_mul_left (a := s) (by omega) (by omega)
    rw [ap]
    refine List.mem_map.mpr ⟨(x - hdI l) / s, rgI_mem.mpr ⟨q0, by omega⟩, by omega⟩
  · intro e
    rw [e, List.append_nil] at all
    have el : l = rgS (hdI l) (ltI l + 1) m := asc_same h (rgS_asc hm) all
    have ea : rgS (hdI l) (ltI l + 1) m = apI (hdI l) m 0 (rgN (hdI l) (ltI l + 1) m) := by
      unfold rgS apI rgI
      rw [List.map_map]
      have e1 : ((rgN (hdI l) (ltI l + 1) m : Int) - 0).toNat = rgN (hdI l) (ltI l + 1) m := by omega
      rw [e1]
      refine List.map_congr_left fun k _ => ?_
      show hdI l + (k : Int) * m = hdI l + m * (0 + (k : Int))
      rw [Int.zero_add, Int.mul_comm]
    intro z
    have : m ∈ stepsOf l := stepsOf_mem.mpr ⟨ms, by
      rw [el, ea]
      exact apI_step hm (dv _ (hd_mem ne))⟩
    rw [z] at this
    cases this
theorem apI_asc {f s a b : Int} (hs : 1 ≤ s) : Asc (apI f s a b) := by
  unfold apI rgI Asc
  rw [List.map_map]
  refine List.Pairwise.map _ (fun (x y : Nat) h => ?_) List.pairwise_lt_range
  show f + s * (a + (x : Int)) < f + s * (a + (y : Int))
  have : s * (a + (x : Int)) < s * (a + (y : Int)) := Int.mul_lt_mul_of_pos_left (by omega) (by omega)
  omega
end Ax
namespace Ax
open PySem L2
section
variable {K : PySem.W.Frag} {H : Hp} {Q : VK} {a : Addr} {ns : List Int}
theorem r_sortedI (s : SqL K H a (ns.map V.int)) (h : ∀ (ns' : List Int) (p : Addr), ns'.Perm ns → ns'.Pairwise (· ≤ ·) → H p = none → Q (.ref p) (upd H p (.lst (ns'.map V.int)))) : rSortedI K [.ref a] H Q := ⟨a, ns, rfl, s, h⟩
theorem at_getN {j : Int} {i : Nat} (e : j = (i : Int)) (h : i < ns.length) : atI (ns.map V.int) j = some (.int (ns.getD i 0)) := by
  subst e
  refine atI_nat ?_
  rw [List.getElem?_map, List.getElem?_eq_getElem h, List.getD_eq_getElem?_getD, List.getElem?_eq_getElem h]
  rfl
end
end Ax
/-! ### slots, looked up by their places -/
namespace Ax
open PySem L2
theorem get_ne {σ : L2.St} {i j : Nat} {x : Option V} {r : Option (Option V)} (h : i ≠ j) (e : σ[j]? = r) : (σ.set i x)[j]? = r := by
  rw [List.getElem?_set_ne h]
  exact e
theorem get_eq {σ : L2.St} {i : Nat} {x : Option V} (h : i < σ.length) : (σ.set i x)[i]? = some x := by
  rw [List.getElem?_set_self h]
theorem len_set {σ : L2.St} {i j : Nat} {x : Option V} (h : j < σ.length) : j < (σ.set i x).length := by
  rw [List.length_set]
  exact h
theorem wipe_len : ∀ (vs : List Nat) (σ : L2.St), (wipe σ vs).length = σ.length
  | [], _ => rfl
  | v :: r, σ => by
    show ((wipe σ r).set v none).length = σ.length
    rw [List.length_set, wipe_len r σ]
theorem len_wipe {σ : L2.St} {j : Nat} {vs : List Nat} (h : j < σ.length) : j < (wipe σ vs).length := by
  rw [wipe_len]
  exact h
theorem get_wipe {σ : L2.St} {j : Nat} {r : Option (Option V)} : ∀ {vs : List Nat}, (vs.all fun v => !decide (v = j)) = true → σ[j]? = r → (wipe σ vs)[j]? = r
  | [], _, e => e
  | v :: t, h, e => by
    rw [List.all_cons, Bool.and_eq_true, Bool.not_eq_true', decide_eq_false_iff_not] at h
    show ((wipe σ t).set v none)[j]? = r
    rw [List.getElem?_set_ne h.1]
    exact get_wipe h.2 e
end Ax
namespace Ax
open PySem L2
theorem at_map {α : Type} {f : α → V} {xs : List α} {i : Int} {o : Option V} (h : atI (xs.map f) i = o) : atI (xs.map f) i = o := h
end Ax
/-! ### set(..) of a list of whole numbers -/
namespace Ax
open PySem PySem.Spec PyProof.Rows L2
section
variable {P : Program} {w : World} {A : Around} {E : Value → Shared → Prop} {s : Shared}
/-- a built-in class is called: its __init__'s check is told as a run -/
theorem call_cls {T mk ini : String} {B : Builtin} {vs : List Value} {Q N : Value → Shared → Prop} (c : TypeCalled T mk ini) (ck : checkTypeCall T ⟨vs, []⟩ = pure ()) (en : entryFor table ini = some B)
    (one : codeAny (model P w) A.in1 (.call (.builtin mk) ⟨.type T :: vs, []⟩) (wants N E) s)
    (two : ∀ o s1, N o s1 → s1.TypeIs o T ∧ (∀ (A1 : Around) (R : Unit → Shared → Prop) (E1 : Value → Shared → Prop), R () s1 → wpAny (model P w) A1 (checkBuiltinCall ini ⟨o :: vs, []⟩) R E1 s1) ∧
      wpAny (model P w) A.in1.in1 (B ⟨o :: vs, []⟩) (fun fin s' => match fin with
        | .done f => wants (fun r s2 => r = .none ∧ Q o s2) E (.ok f) s'
        | .again c' => c'.quiet = true ∧ codeAny (model P w) A.in1 c' (wants (fun r s2 => r = .none ∧ Q o s2) E) s') (fun e s' => E e s') s1) : wpAny (model P w) A (call (.type T) vs) Q E s := by
  have ⟨k0, k1, mro⟩ := c.mro
  have made := c.made
  have sb := c.sub
  have nt := c.notType
  have cc := c.canCreate
  refine wpAny_call (codeAny_of_tree (show wpAny _ _ (callAny (.type T) _) _ _ _ from wpAny_pure ⟨Code.quiet_builtin _ (by decide +kernel), codeAny_builtin PySem.F.entry_type_call ?_⟩))
  rw [Around.under_plain (weight_type_call_type T vs []) rfl]
  repeat (any_goals (first | assumption | wp_step))
  refine codeAny_mono one fun r s1 hr => ?_
  match r, hr with
  | .error _, hr => exact hr
  | .ok .next, hr => exact hr.elim
  | .ok .brk, hr => exact hr.elim
  | .ok .cont, hr => exact hr.elim
  | .ok (.ret o), hr =>
    obtain ⟨isT, chk, run⟩ := two _ _ hr
    have look := c.init.lookup
    have bind := c.init.bind o
    repeat (any_goals (first | assumption | wp_step))
    refine codeAny_mono (codeAny_call_builtin (R := wants (fun r s2 => r = .none ∧ Q o s2) E) c.init.plain en (chk _ _ _ run)) fun r2 s2 hr2 => ?_
    match r2, hr2 with
    | .error _, hr2 => exact hr2
    | .ok .next, hr2 => exact hr2.elim
    | .ok .brk, hr2 => exact hr2.elim
    | .ok .cont, hr2 => exact hr2.elim
    | .ok (.ret _), hr2 =>
      obtain ⟨rfl, q⟩ := hr2
      repeat (any_goals (first | assumption | wp_step))
/-- a new empty set -/
abbrev set0 (w : World) : Obj := { cls := .type "set", dict := none, data := .set #[] 0 (.fresh 0 0 (!w.params.followText "set-order")) }
theorem set_of_list {l : Addr} {items : Array Value} (ns : List Int) {Q : Value → Shared → Prop} (calm : A.handled = none) (isl : s.heap.IsList l items) (hints : IntsAre items.toList ns) (few : ns.length + 1 < scanBound)
    (q : ∀ (h' : Heap) (tk c : Nat), SetR w h' s.heap.objs.size (fun j => decide (j ∈ ns)) c → c ≤ ns.length → (∀ b o, s.heap.get? b = some o → h'.get? b = some o) → Q (.ref s.heap.objs.size) { s with heap := h', toks := tk }) :
    wpAny (model P w) A (call (.type "set") [.ref l]) Q E s := by
  have size : items.size = ns.length := by
    have e := IntsAre.length hints
    rwa [Array.length_toList] at e
  have hS : (s.heap.push (set0 w)).get? s.heap.objs.size = some (set0 w) := Heap.get?_push_size _ rfl
  have hT : Shared.TypeIs { s with heap := s.heap.push (set0 w) } (.ref s.heap.objs.size) "set" := ⟨_, hS, rfl⟩
  have lt : l < s.heap.objs.size := by
    obtain ⟨o, ho, _⟩ := isl
    exact Heap.lt_size ho
  refine call_cls (N := fun obj s1 => obj = .ref s.heap.objs.size ∧ s1 = { s with heap := s.heap.push (set0 w) }) F.called_set (F.typeCall_set_1 _) F.entry_set_init (code_set_led1 (.ref l) ⟨rfl, rfl⟩) fun obj s1 hq => ?_
  obtain ⟨rfl, rfl⟩ := hq
  refine ⟨hT, fun _ _ _ k => check_set_init_1 hT k, ?_⟩
  have isl1 : (s.heap.push (set0 w)).IsList l items := isl.push _
  have sz1 : (s.heap.push (set0 w)).objs.size = s.heap.objs.size + 1 := Heap.size_push ..
  have neI : l ≠ (s.heap.push (set0 w)).objs.size := Nat.ne_of_lt (by rw [sz1]; exact Nat.lt_succ_of_lt lt)
  obtain ⟨ol, hol, hcl, nl, hdl⟩ := isl
  obtain ⟨ocls, odict, odata, oslots⟩ := ol
  simp only at hcl hdl
  subst hcl
  subst hdl
  have hol' : (s.heap.push (set0 w)).get? l = some { cls := .type "list", dict := odict, data := .seq items nl, slots := oslots } := Heap.get?_push_of_some _ hol
  have h1 := F.sub_list_set
  have h2 := F.sub_list_frozenset
  have h3 : (Value.type "list" == Value.type "dict") = false := by decide
  unfold Builtin.«set.__init__» noKeywords Builtin.Frozenset.updateFrom
  generalize hPI : pyIter = PI
  wp_walk
  subst hPI
  refine wpAny_pyIter_list isl1 ?_
  refine wpAny_bind (wpAny_runValue ?_)
  have calm3 : A.in1.in1.in1.handled = none := by simp [calm]
  have fresh : s.heap.objs.size ∉ [(s.heap.push (set0 w)).objs.size, l] := by
    rw [sz1, List.mem_cons, List.mem_singleton]
    rintro (z | z)
    · exact absurd z (Nat.ne_of_lt (Nat.lt_succ_self _))
    · exact absurd z.symm (Nat.ne_of_lt lt)
  have vals : ∀ (i : Nat) (v : Value), items[i]? = some v → ∃ k t, ns[i]? = some k ∧ v = .int k t := fun i v hv => by
    have hi : i < ns.length := by rw [← size]; exact (Array.getElem?_eq_some_iff.mp hv).1
    obtain ⟨t, e⟩ := PyProof.Rows.IntsAre.int_at hints i v (by rw [Array.getElem?_toList]; exact hv)
    refine ⟨ns[i], t, List.getElem?_eq_getElem hi, e.trans ?_⟩
    rw [List.getD_eq_getElem?_getD, List.getElem?_eq_getElem hi]
    rfl
  refine set_update_ints ((Walks.list calm3 _ l neI items).toS) s.heap.objs.size fresh ns size few vals (items.size - 0) 0 _ (by omega) (Nat.zero_le _) ⟨⟨_, Heap.get?_push_size _ rfl, rfl, rfl⟩, isl1.push _⟩ ⟨0, Nat.le_refl 0, setR_new_at (Heap.get?_push_of_some _ hS)⟩ fun s2 c2 mv le2 set2 => ?_
  obtain ⟨h2', g2, d2, tk2, os2⟩ := s2
  have eg : g2 = s.gens := mv.gens
  have ed : d2 = s.drawn := mv.drawn
  have eo : os2 = s.os := mv.os
  subst eg
  subst ed
  subst eo
  show wpAny _ _ _ _ _ _
  refine wpAny_pure ?_
  show wpAny _ _ (ret Value.none) _ _ _
  refine wpAny_pure ⟨rfl, q h2' tk2 c2 set2 (by rw [← size]; exact le2) fun b o e => ?_⟩
  have b0 : b < s.heap.objs.size := Heap.lt_size e
  refine mv.heap b o ?_ (Heap.get?_push_of_some _ (Heap.get?_push_of_some _ e))
  rw [List.mem_cons, List.mem_singleton, sz1]
  rintro (z | z)
  · exact absurd z (Nat.ne_of_lt b0)
  · exact absurd z (Nat.ne_of_lt (Nat.lt_succ_of_lt b0))
/-- set(xs), xs a list of whole numbers -/
def rSetI (K : PySem.W.Frag) (w : World) : List V → Hp → VK → Prop := fun xs H Q => ∃ (p : Addr) (ns : List Int), xs = [.ref p] ∧ SqL K H p (ns.map V.int) ∧ ns.length ≤ 1000 ∧ ∀ q n, H q = none → n ≤ ns.length → Q (.ref q) (upd H q (SetO w q (fun j => decide (j ∈ ns)) n))
theorem call_setI {X : Cx} (hc : X.calm = true) : CallR X (.type "set") (rSetI X.K X.w) := by
  intro pins s σ H xs us Q I r h
  obtain ⟨p, ns, rfl, hs, hl, k⟩ := h
  cases Vals.ref1 r
  obtain ⟨its, rv, il, hz⟩ := I.list hs
  refine set_of_list ns (I.ok.hd hc) il.isList rv.ints (by unfold scanBound; omega) fun h' tk c R le keep => ?_
  exact ⟨.ref s.heap.objs.size, upd H s.heap.objs.size (SetO X.w s.heap.objs.size (fun j => decide (j ∈ ns)) c), I.laid keep (Nat.le_refl _) (setO_new R), rfl, k _ c (I.hok.fresh (Nat.le_refl _)) le⟩
theorem r_setI {K : PySem.W.Frag} {H : Hp} {Q : VK} {p : Addr} {ns : List Int} (hs : SqL K H p (ns.map V.int)) (hl : ns.length ≤ 1000) (h : ∀ q n, H q = none → n ≤ ns.length → Q (.ref q) (upd H q (SetO w q (fun j => decide (j ∈ ns)) n))) : rSetI K w [.ref p] H Q := ⟨p, ns, rfl, hs, hl, h⟩
theorem r_sortS {H : Hp} {Q : VK} {a : Addr} {S : Int → Bool} {n : Nat} (e : H a = some (SetO w a S n)) (hl : n < 64) (h : ∀ (ns : List Int) (p : Addr), ns.Pairwise (· < ·) → (∀ k : Int, k ∈ ns ↔ S k = true) → ns.length = n → H p = none → Q (.ref p) (upd H p (.lst (ns.map V.int)))) : rSortedSet w [.ref a] H Q := ⟨a, S, n, rfl, e, hl, h⟩
end
end Ax
/-! ### rows read back -/
namespace Ax
open PySem L2
theorem r_cutP {t u : TS} {D : Ends} {σ : L2.St} {H : Hp} (P : L2.St → Hp → Prop) (rest : ∀ σ' H', P σ' H' → u D σ' H') (h : ∀ N : L2.St → Hp → Prop, (∀ σ' H', P σ' H' → N σ' H') → t { D with nx := N } σ H) : tSeq t u D σ H := h (u D) rest
theorem apI_iff {f s m x : Int} (hs : 1 ≤ s) (hf : f % s = 0) : x ∈ apI f s 0 m ↔ x % s = 0 ∧ f ≤ x ∧ x ≤ f + s * (m - 1) := by
  constructor
  · intro h
    obtain ⟨k, k1, k2, rfl⟩ := apI_mem h
    have q1 := Int.mul_le_mul_of_nonneg_left (show 0 ≤ k from k1) (show 0 ≤ s by omega)
    have q2 := Int.mul_le_mul_of_nonneg_left (show k ≤ m - 1 by omega) (show 0 ≤ s by omega)
    rw [Int.mul_zero] at q1
    refine ⟨?_, by omega, by omega⟩
    rw [Int.add_mul_emod_self_left]
    exact hf
  · rintro ⟨h1, h2, h3⟩
    have d1 := Int.emod_add_mul_ediv x s
    have d2 := Int.emod_add_mul_ediv f s
    rw [h1] at d1
    rw [hf] at d2
    have e : x = f + s * (x / s - f / s) := by rw [Int.mul_sub]; omega
    have g1 : 0 ≤ x / s - f / s := by
      have := Int.ediv_le_ediv (show 0 < s by omega) h2
      omega
    have g2 : x / s - f / s < m := by
      have : s * (x / s - f / s) < s * m := by
        have : s * m = s * (m - 1) + s := by rw [Int.mul_sub, Int.mul_one]; omega
        omega
      exact Int.lt_of_mul_lt_mul_left this (by omega)
    rw [e]
    exact List.mem_map.mpr ⟨_, rgI_mem.mpr ⟨g1, g2⟩, rfl⟩
theorem tried_asc (lo hi s : Int) : Asc (triedL lo hi s) := by
  unfold triedL Asc
  refine List.Pairwise.filter _ (List.Pairwise.map _ (fun (a b : Nat) h => ?_) List.pairwise_lt_range)
  omega
theorem tried_eq {f s m a b : Int} (hs : 1 ≤ s) (hf : f % s = 0) : triedL a b s = apI f s 0 m ↔ ∀ x, x % s = 0 → ((a ≤ x ∧ x ≤ b) ↔ (f ≤ x ∧ x ≤ f + s * (m - 1))) := by
  constructor
  · intro e x hx
    have h1 := tried_mem a b s x
    rw [e, apI_iff hs hf] at h1
    exact ⟨fun z => (h1.mpr ⟨z, hx⟩).2, fun z => (h1.mp ⟨hx, z⟩).1⟩
  · intro h
    refine asc_same (tried_asc _ _ _) (apI_asc hs) fun x => ?_
    rw [tried_mem, apI_iff hs hf]
    exact ⟨fun ⟨z, y⟩ => ⟨y, (h x y).mp z⟩, fun ⟨y, z⟩ => ⟨(h x y).mpr z, y⟩⟩
theorem mod_sub {f s : Int} (hf : f % s = 0) : (f - s) % s = 0 := by
  have : f - s = f + s * (-1) := by omega
  rw [this, Int.add_mul_emod_self_left]
  exact hf
theorem mod_next {x f s : Int} (hs : 1 ≤ s) (hx : x % s = 0) (hf : f % s = 0) (h : f - s < x) : f ≤ x := by
  by_cases c : f ≤ x
  · exact c
  · have := near_eq (st := s) (by omega) hx hf (by omega) (by omega)
    omega
theorem tried_low {f s m low : Int} (hs : 1 ≤ s) (hf : f % s = 0) (hm : 0 < m) : triedL low (f + s * (m - 1)) s = apI f s 0 m ↔ (f - s + 1 ≤ low ∧ low ≤ f) := by
  have q := Int.mul_le_mul_of_nonneg_left (show 0 ≤ m - 1 by omega) (show 0 ≤ s by omega)
  rw [Int.mul_zero] at q
  rw [tried_eq hs hf]
  constructor
  · intro h
    have h1 := (h f hf).mpr ⟨Int.le_refl _, by omega⟩
    refine ⟨?_, h1.1⟩
    by_cases c : f - s + 1 ≤ low
    · exact c
    · have := (h (f - s) (mod_sub hf)).mp ⟨by omega, by omega⟩
      omega
  · rintro ⟨h1, h2⟩ x hx
    exact ⟨fun ⟨z1, z2⟩ => ⟨mod_next hs hx hf (by omega), z2⟩, fun ⟨z1, z2⟩ => ⟨by omega, z2⟩⟩
theorem tried_high {f s m high : Int} (hs : 1 ≤ s) (hf : f % s = 0) (hm : 0 < m) : triedL f high s = apI f s 0 m ↔ (f + s * (m - 1) ≤ high ∧ high ≤ f + s * (m - 1) + s - 1) := by
  have q := Int.mul_le_mul_of_nonneg_left (show 0 ≤ m - 1 by omega) (show 0 ≤ s by omega)
  rw [Int.mul_zero] at q
  have hL : (f + s * (m - 1)) % s = 0 := by
    rw [Int.add_mul_emod_self_left]
    exact hf
  have hN : (f + s * (m - 1) + s) % s = 0 := by
    have : f + s * (m - 1) + s = f + s * m := by rw [Int.mul_sub, Int.mul_one]; omega
    rw [this, Int.add_mul_emod_self_left]
    exact hf
  rw [tried_eq hs hf]
  constructor
  · intro h
    have h1 := (h _ hL).mpr ⟨by omega, Int.le_refl _⟩
    refine ⟨h1.2, ?_⟩
    by_cases c : high ≤ f + s * (m - 1) + s - 1
    · exact c
    · have := (h _ hN).mp ⟨by omega, by omega⟩
      omega
  · rintro ⟨h1, h2⟩ x hx
    refine ⟨fun ⟨z1, z2⟩ => ⟨z1, ?_⟩, fun ⟨z1, z2⟩ => ⟨z1, by omega⟩⟩
    by_cases c : x ≤ f + s * (m - 1)
    · exact c
    · have := mod_next hs hN hx (by omega)
      have e := near_eq (st := s) (by omega) hx hN (by omega) (by omega)
      omega
theorem marks_ap (lo hi st : Int) (h : 1 ≤ st) (r : lo ≤ hi + 1) : marksL lo hi st = apI (fst lo st) st 0 (cnt lo hi st) := by
  unfold marksL apI rgI
  rw [List.map_map]
  have e : cnt lo hi st - 0 = cnt lo hi st := by omega
  rw [e]
  refine List.map_congr_left fun k _ => ?_
  show fst lo st + (k : Int) * st = fst lo st + st * (0 + (k : Int))
  rw [Int.zero_add, Int.mul_comm]
end Ax
namespace Ax
theorem rgI_hd {a b : Int} (h : a < b) : hdI (rgI a b) = a := by
  rw [rgI_cons h]
  rfl
theorem rgI_lt {a b : Int} (h : a < b) : ltI (rgI a b) = b - 1 := by
  have e : b = b - 1 + 1 := by omega
  unfold ltI
  rw [e, rgI_snoc (by omega), List.getLastD_eq_getLast?]
  simp
theorem rgI_ne {a b : Int} (h : a < b) : rgI a b ≠ [] := by
  rw [rgI_cons h]
  exact List.cons_ne_nil _ _
end Ax
/-! ### facts of a class with methods, one record a class, one a method -/
namespace Ax
open PySem L2
structure Kl (K : PySem.W.Frag) (mg : Str → Option Value) (x : Str) : Type where
  C : Addr
  g : mg x = some (.ref C)
  cl : Cls K C
structure Md (K : PySem.W.Frag) (C : Addr) (x q : Str) (st : Stmt) (ps : List Str) : Type where
  f : Addr
  fd : FuncData
  F : Fun K x q st f fd
  b : Binds K fd ps []
  m : Meth K C x f
/-! ### an axis: at x, its list of past ranges at l -/
def AxAt (K : PySem.W.Frag) (C : Addr) (H : Hp) (x l : Addr) (cur : Int × Int) (most : Int) (past : List (Int × Int)) : Prop :=
  ∃ dx now us, H x = some (.ins C dx (axF (.ref now) (.int most) (.ref l))) ∧ H l = some (.lst us) ∧ SqT K H now [.int cur.1, .int cur.2] ∧ DpAll K H us (past.map pairD) ∧ Rg cur.1 cur.2 ∧ ∀ q, q ∈ past → Rg q.1 q.2
def Fx (x l : Addr) (H H' : Hp) : Prop := ∀ b o, H b = some o → b ≠ x → b ≠ l → H' b = some o
section
variable {K : PySem.W.Frag} {C : Addr} {H H1 H' : Hp} {x l a d n p : Addr} {cur : Int × Int} {most : Int} {past : List (Int × Int)} {xs : List V} {o : HO} {ps : List (Int × Int)} {us : List V}
theorem AxAt.same (s : Same H H') (h : AxAt K C H x l cur most past) : AxAt K C H' x l cur most past := by
  obtain ⟨dx, now, us, h1, h2, h3, h4, h5, h6⟩ := h
  exact ⟨dx, now, us, s _ _ h1, s _ _ h2, Same.seqT s h3, DpAll.to s h4, h5, h6⟩
theorem Fx.of (s : Same H H') : Fx x l H H' := fun b o e _ _ => s b o e
theorem Fx.refl : Fx x l H H := fun _ _ e _ _ => e
theorem Fx.trans (a : Fx x l H H1) (b : Fx x l H1 H') : Fx x l H H' := fun c o e h1 h2 => b c o (a c o e h1 h2) h1 h2
theorem Fx.same (a : Fx x l H H1) (s : Same H1 H') : Fx x l H H' := a.trans (Fx.of s)
theorem Fx.seqT (k : Fx x l H H') (h : AxAt K C H x l cur most past) (s : SqT K H a xs) : SqT K H' a xs := by
  obtain ⟨dx, now, us, h1, h2, _⟩ := h
  have ne : ∀ u, H a = some u → (∀ ws, u ≠ .lst ws) → (∀ c dx fs, u ≠ .ins c dx fs) → H' a = some u := fun u e z y => k a u e (ne_of e h1 (y _ _ _)) (ne_of e h2 (z _))
  rcases s with (s | ⟨o, s⟩) | s
  · exact .inl (.inl (ne _ s (fun _ z => by cases z) fun _ _ _ z => by cases z))
  · exact .inl (.inr ⟨o, ne _ s (fun _ z => by cases z) fun _ _ _ z => by cases z⟩)
  · exact .inr s
theorem Fx.pairs (k : Fx x l H H') (h : AxAt K C H x l cur most past) (da : DpAll K H us (ps.map pairD)) : DpAll K H' us (ps.map pairD) := dpa_tups (fun _ _ q => Fx.seqT k h q) _ _ (noPairs ps) da
/-- from a heap in which the axis was not yet -/
theorem Fx.old {H0 : Hp} (s : Same H0 H) (k : Fx x l H H') (nx : H0 x = none) (nl : H0 l = none) : Same H0 H' := fun b o e => k b o (s b o e) (ne_of_none e nx) (ne_of_none e nl)
/-- draws do not touch the axis -/
theorem AxAt.kp (k : Kp d n H H') (r : Dr H d n) (ol : Of d n l) (h : AxAt K C H x l cur most past) : AxAt K C H' x l cur most past := by
  obtain ⟨dx, now, us, h1, h2, h3, h4, h5, h6⟩ := h
  obtain ⟨ys, zs, e1, e2⟩ := r.lst
  have ox : Of d n x := ⟨ne_of h1 e1 (fun z => by cases z), ne_of h1 e2 (fun z => by cases z)⟩
  exact ⟨dx, now, us, k.at ox h1, k.at ol h2, Kp.seqT k r h3, Kp.pairs k r h4, h5, h6⟩
/-- one more -/
theorem AxAt.push {q : Int × Int} (h : AxAt K C H x l cur most past) (s : SqT K H p [.int q.1, .int q.2]) (r : Rg q.1 q.2) : ∃ dx now us, H x = some (.ins C dx (axF (.ref now) (.int most) (.ref l))) ∧ H l = some (.lst us) ∧ SqT K H now [.int cur.1, .int cur.2] ∧ us.length = past.length ∧ x ≠ l ∧
    ∀ H2, H2 = upd (upd H l (.lst (us ++ [.ref now]))) x (.ins C dx (axF (.ref p) (.int most) (.ref l))) → Fx x l H H2 ∧ AxAt K C H2 x l q most (past ++ [cur]) ∧ SqT K H2 p [.int q.1, .int q.2] := by
  have h0 := h
  obtain ⟨dx, now, us, h1, h2, h3, h4, h5, h6⟩ := h
  have ne : x ≠ l := ne_of h1 h2 fun z => by cases z
  have ul := dpa_len h4
  rw [List.length_map] at ul
  refine ⟨dx, now, us, h1, h2, h3, ul, ne, fun H2 e => ?_⟩
  have fx : Fx x l H H2 := fun b o eb b1 b2 => by
    rw [e, upd_ne b1, upd_ne b2]
    exact eb
  have sp := Fx.seqT fx h0 s
  have sn := Fx.seqT fx h0 h3
  refine ⟨fx, ⟨dx, p, us ++ [.ref now], by rw [e, upd_same], by rw [e, upd_ne ne.symm, upd_same], sp, ?_, r, fun z hz => ?_⟩, sp⟩
  · rw [List.map_append]
    exact DpAll.app (Fx.pairs fx h0 h4) (.cons (.tup sn (.cons (.int _) (.cons (.int _) .nil))) .nil)
  · rcases List.mem_append.mp hz with hz | hz
    · exact h6 z hz
    · rw [List.mem_singleton] at hz
      subst hz
      exact h5
end
end Ax
namespace Ax
open PySem L2
theorem putF_len (f : Str) (v : V) : ∀ fs : List (Str × V), (putF f v fs).length ≤ fs.length + 1
  | [] => Nat.le_refl _
  | (g, x) :: r => by
    have ih := putF_len f v r
    show (if g = f then (g, v) :: r else (g, x) :: putF f v r).length ≤ _
    split
    · simp
    · simp only [List.length_cons]
      omega
theorem axF_no {x y z : V} {m : Str} (h1 : ¬ m = "now") (h2 : ¬ m = "most") (h3 : ¬ m = "past") : (axF x y z).lookup m = none := by
  rw [← axF_make, lookup_putF, if_neg h3, lookup_putF, if_neg h2, lookup_putF, if_neg h1]
  rfl
theorem axF_lnow (x y z : V) : (axF x y z).lookup ("now" : Str) = some x := by
  rw [← axF_make, lookup_putF, if_neg ax_n2, lookup_putF, if_neg ax_n1, lookup_putF, if_pos rfl]
theorem axF_lmost (x y z : V) : (axF x y z).lookup ("most" : Str) = some y := by
  rw [← axF_make, lookup_putF, if_neg ax_n3, lookup_putF, if_pos rfl]
theorem axF_lpast (x y z : V) : (axF x y z).lookup ("past" : Str) = some z := by
  rw [← axF_make, lookup_putF, if_pos rfl]
end Ax
namespace Ax
open PySem L2
theorem pe_fldK {X : Cx} {K : PySem.W.Frag} {e : Expr} {f : Str} {pos : Pos} {ta : TE} (ek : X.K = K) (he : PE X e ta) (hb : attributeBase e f X.env (eval e X.env) = eval e X.env) : PE X (.Attribute e f pos) (tFld K ta f) := ek ▸ pe_fld he hb
end Ax
namespace Ax
open PySem L2
section
variable {K : PySem.W.Frag} {H : Hp} {σ : L2.St} {Q : VK} {to : TE} {p l : Addr} {xs : List V} {y : V}
theorem r_bm0 {T : String} {r : V → List V → Hp → VK → Prop} (h : to σ H fun x H1 => tyV K T x H1 ∧ r x [] H1 Q) : tBM0 K T r to σ H Q := h
theorem r_bm0L {r : V → List V → Hp → VK → Prop} (s : SqL K H p xs) (h : r (.ref p) [] H Q) : tyV K "list" (.ref p) H ∧ r (.ref p) [] H Q := ⟨.inl ⟨rfl, _, s⟩, h⟩
theorem r_pop (h : H l = some (.lst (xs ++ [y]))) (q : Q y (upd H l (.lst xs))) : rPop (.ref l) [] H Q := by
  refine ⟨l, xs ++ [y], y, rfl, rfl, h, ?_, ?_⟩
  · rw [List.length_append, List.length_singleton, Nat.add_sub_cancel, List.getElem?_append_right (Nat.le_refl _), Nat.sub_self]
    rfl
  · rw [List.dropLast_concat]
    exact q
end
theorem dpa_split {K : PySem.W.Frag} {H : Hp} : ∀ {ds : List PyData} {us : List V} {d : PyData}, DpAll K H us (ds ++ [d]) → ∃ ws v, us = ws ++ [v] ∧ DpAll K H ws ds ∧ Dp K H v d
  | [], us, d, h => by
    cases h with
    | cons q r =>
      cases r
      exact ⟨[], _, rfl, .nil, q⟩
  | e :: ds, us, d, h => by
    cases h with
    | cons q r =>
      obtain ⟨ws, v, e1, e2, e3⟩ := dpa_split (ds := ds) r
      exact ⟨_ :: ws, v, by rw [e1]; rfl, .cons q e2, e3⟩
end Ax
/-! ### marks kept, marks that come -/
namespace Ax
open PySem L2
theorem marks_asc {lo hi st : Int} (h : 1 ≤ st) : Asc (marksL lo hi st) := by
  unfold marksL Asc
  refine List.Pairwise.map _ (fun (a b : Nat) hab => ?_) List.pairwise_lt_range
  have : (a : Int) * st < (b : Int) * st := Int.mul_lt_mul_of_pos_right (by omega) (by omega)
  omega
theorem kept_sub {lo hi lo2 hi2 st far : Int} (h : 1 ≤ st) (r : lo ≤ hi) (a : lo2 ≤ lo) (b : hi ≤ hi2) : keptL lo hi lo2 hi2 st far = (marksL lo hi st).filter fun v => decide (v % far = 0) := by
  unfold keptL
  refine List.filter_congr fun v hv => ?_
  rw [marks_mem (by omega) (by omega)] at hv
  have e1 : decide (lo2 ≤ v) = true := decide_eq_true (by omega)
  have e2 : decide (v ≤ hi2) = true := decide_eq_true (by omega)
  rw [e1, e2]
  rfl
theorem mod_of {v st far : Int} (h1 : v % st = 0) (h2 : st % far = 0) : v % far = 0 :=
  Int.emod_eq_zero_of_dvd (Int.dvd_trans (Int.dvd_of_emod_eq_zero h2) (Int.dvd_of_emod_eq_zero h1))
theorem kept_all {lo hi st far : Int} (h : 1 ≤ st) (r : lo ≤ hi) (d : st % far = 0) : (marksL lo hi st).filter (fun v => decide (v % far = 0)) = marksL lo hi st :=
  List.filter_eq_self.mpr fun v hv => by
    rw [marks_mem (by omega) (by omega)] at hv
    exact decide_eq_true (mod_of hv.2 d)
theorem kept_mult {lo hi st less : Int} (h : 1 ≤ st) (h2 : 1 ≤ less) (r : lo ≤ hi) (d : st % less = 0) : (marksL lo hi less).filter (fun v => decide (v % st = 0)) = marksL lo hi st := by
  refine asc_same ((marks_asc h2).filter _) (marks_asc h) fun x => ?_
  rw [List.mem_filter, marks_mem (by omega) (by omega), marks_mem (by omega) (by omega), decide_eq_true_eq]
  exact ⟨fun ⟨⟨z1, _⟩, z2⟩ => ⟨z1, z2⟩, fun ⟨z1, z2⟩ => ⟨⟨z1, mod_of z2 d⟩, z2⟩⟩
theorem come_len {lo hi lo2 hi2 st : Int} (h : 1 ≤ st) (r : lo ≤ hi) (a : lo2 ≤ lo) (b : hi ≤ hi2) : ((comeL lo hi lo2 hi2 st).length : Int) = cnt lo2 hi2 st - cnt lo hi st := by
  have p : (marksL lo hi st ++ comeL lo hi lo2 hi2 st).Perm (marksL lo2 hi2 st) := by
    refine (List.perm_ext_iff_of_nodup ?_ (marks_asc h).nodup).mpr fun x => ?_
    · rw [List.nodup_append]
      refine ⟨(marks_asc h).nodup, (marks_asc h).nodup.filter _, fun y hy z hz e => ?_⟩
      subst e
      have := (List.mem_filter.mp hz).2
      rw [Bool.not_eq_true', decide_eq_false_iff_not] at this
      exact this hy
    · unfold comeL
      rw [List.mem_append, List.mem_filter]
      constructor
      · rintro (z | ⟨z, _⟩)
        · rw [marks_mem (by omega) (by omega)] at z ⊢
          exact ⟨by omega, z.2⟩
        · exact z
      · intro z
        by_cases c : x ∈ marksL lo hi st
        · exact .inl c
        · exact .inr ⟨z, by simp [c]⟩
  have l := p.length_eq
  rw [List.length_append, marks_len, marks_len] at l
  have c0 : 0 ≤ cnt lo hi st := by
    unfold cnt
    have : (lo - 1) / st ≤ hi / st := Int.ediv_le_ediv (by omega) (by omega)
    omega
  have c1 : 0 ≤ cnt lo2 hi2 st := by
    unfold cnt
    have : (lo2 - 1) / st ≤ hi2 / st := Int.ediv_le_ediv (by omega) (by omega)
    omega
  omega
def bothN (st : Int) : Int := if st * 2 ∈ steps then st * 2 else st * 10
theorem both_in : ∀ s, s ∈ steps.take 6 → bothN s ∈ steps := by decide
theorem zoom_back (lo hi t : Int) (h : 1 ≤ t) : inLo (lo - (hi - lo) * (t - 1) / 2) (hi + (hi - lo) * (t - 1) - (hi - lo) * (t - 1) / 2) t = lo ∧ (hi + (hi - lo) * (t - 1) - (hi - lo) * (t - 1) / 2 - (lo - (hi - lo) * (t - 1) / 2)) / t = hi - lo := by
  have w3 : (hi - lo) * t = (hi - lo) * (t - 1) + (hi - lo) := by
    rw [Int.mul_sub, Int.mul_one]
    omega
  have w6 : (hi - lo) * t / t = hi - lo := Int.mul_ediv_cancel _ (by omega)
  have e : hi + (hi - lo) * (t - 1) - (hi - lo) * (t - 1) / 2 - (lo - (hi - lo) * (t - 1) / 2) = (hi - lo) * t := by omega
  unfold inLo
  rw [e, w6]
  omega
end Ax
/-! ### an axis by turns -/
namespace Ax
open PySem L2
instance (a b : Int) : Decidable (Rg a b) := inferInstanceAs (Decidable (_ ∧ _ ∧ _))
theorem cut_init (xs : List V) : cutV xs none (some (-1)) = xs.dropLast := by
  unfold cutV
  have e1 : HT.sIx xs.length 0 none = 0 := rfl
  have e2 : HT.sIx xs.length xs.length (some (-1)) = xs.length - 1 := by
    unfold HT.sIx
    simp
    omega
  rw [e1, e2, List.dropLast_eq_take, List.drop_zero]
  first | rfl | simp
end Ax
/-! ### texts of labels -/
namespace Ax
open PySem L2 TL
/-- a constant tuple of the module -/
structure Ctp (K : PySem.W.Frag) (mg : Str → Option Value) (x : Str) (xs : List V) : Type where
  a : Addr
  g : mg x = some (.ref a)
  s : ∀ H, SqT K H a xs
/-- so many thousandths are one digit's worth -/
def pw10 (d : Nat) : Nat := if d = 0 then 1000 else if d = 1 then 100 else if d = 2 then 10 else 1
/-- the last d digits of n -/
def digs (d n : Nat) : List Nat := match d with
  | 0 => []
  | 1 => [48 + n % 10]
  | 2 => [48 + n / 10 % 10, 48 + n % 10]
  | _ => [48 + n / 100 % 10, 48 + n / 10 % 10, 48 + n % 10]
def padL (d q : Nat) : List Nat := List.replicate (d + 1 - (numL q).length) 48 ++ numL q
theorem numL_pos (n : Nat) : 1 ≤ (numL n).length := by
  cases h : numL n with
  | nil => exact absurd h (numL_ne n)
  | cons a l => simp
theorem padL_1 (q : Nat) : padL 1 q = numL (q / 10) ++ digs 1 q := by
  unfold padL digs
  by_cases h : q < 10
  · rw [Nat.div_eq_of_lt h, numL_lt h, numL_lt (by decide : 0 < 10), Nat.mod_eq_of_lt h]
    rfl
  · rw [numL_step (n := q) (by omega)]
    have p := numL_pos (q / 10)
    rw [show 1 + 1 - (numL (q / 10) ++ [48 + q % 10]).length = 0 by simp; omega]
    rfl
theorem padL_2 (q : Nat) : padL 2 q = numL (q / 100) ++ digs 2 q := by
  have e := padL_1 (q / 10)
  have ed : q / 10 / 10 = q / 100 := Nat.div_div_eq_div_mul q 10 10
  rw [ed] at e
  by_cases h : q < 10
  · have h1 : q / 100 = 0 := by omega
    have h2 : q / 10 = 0 := by omega
    unfold padL digs
    rw [h1, h2, numL_lt h, numL_lt (by decide : 0 < 10), Nat.mod_eq_of_lt h]
    rfl
  · have e2 : padL 2 q = padL 1 (q / 10) ++ [48 + q % 10] := by
      unfold padL
      rw [numL_step (n := q) (by omega)]
      rw [show 2 + 1 - (numL (q / 10) ++ [48 + q % 10]).length = 1 + 1 - (numL (q / 10)).length by simp, List.append_assoc]
    rw [e2, e]
    unfold digs
    rw [List.append_assoc]
    rfl
theorem padL_3 (q : Nat) : padL 3 q = numL (q / 1000) ++ digs 3 q := by
  have e := padL_2 (q / 10)
  have ed : q / 10 / 100 = q / 1000 := Nat.div_div_eq_div_mul q 10 100
  have ef : q / 10 / 10 = q / 100 := Nat.div_div_eq_div_mul q 10 10
  rw [ed] at e
  by_cases h : q < 10
  · have h1 : q / 1000 = 0 := by omega
    have h2 : q / 10 = 0 := by omega
    have h3 : q / 100 = 0 := by omega
    unfold padL digs
    rw [h1, h2, h3, numL_lt h, numL_lt (by decide : 0 < 10), Nat.mod_eq_of_lt h]
    rfl
  · have e2 : padL 3 q = padL 2 (q / 10) ++ [48 + q % 10] := by
      unfold padL
      rw [numL_step (n := q) (by omega)]
      rw [show 3 + 1 - (numL (q / 10) ++ [48 + q % 10]).length = 2 + 1 - (numL (q / 10)).length by simp, List.append_assoc]
    rw [e2, e]
    unfold digs
    rw [List.append_assoc, ef]
    rfl
/-- the label of a number of thousandths with d digits -/
def labL (v : Int) (d : Nat) : List Nat := (if v < 0 then [45] else []) ++ (numL (v.natAbs / 1000) ++ (if d = 0 then [] else 46 :: digs d (v.natAbs / pw10 d)))
theorem digs_len {d : Nat} (n : Nat) (h : d ≤ 3) : (digs d n).length = d := by
  match d, h with
  | 0, _ => rfl
  | 1, _ => rfl
  | 2, _ => rfl
  | 3, _ => rfl
theorem padL_eq {d : Nat} (q : Nat) (h0 : 0 < d) (h : d ≤ 3) : padL d q = numL (q / 10 ^ d) ++ digs d q := by
  match d, h0, h with
  | 1, _, _ => exact padL_1 q
  | 2, _, _ => exact padL_2 q
  | 3, _, _ => exact padL_3 q
open PySem.NumText in
theorem val_snoc (l : List Nat) (r : Nat) : digitsVal (l ++ [48 + r]) = digitsVal l * 10 + r := by
  unfold digitsVal
  rw [List.foldl_append]
  show _ * 10 + (48 + r - 48) = _
  omega
open PySem.NumText in
theorem val_lab {d : Nat} (q : Nat) (h : d ≤ 3) : digitsVal (numL (q / 10 ^ d) ++ digs d q) = q := by
  match d, h with
  | 0, _ =>
    show digitsVal (numL (q / 1) ++ []) = q
    rw [List.append_nil, Nat.div_one, numL_val]
  | 1, _ =>
    show digitsVal (numL (q / 10) ++ [48 + q % 10]) = q
    rw [val_snoc, numL_val]; omega
  | 2, _ =>
    show digitsVal (numL (q / 100) ++ ([48 + q / 10 % 10] ++ [48 + q % 10])) = q
    rw [← List.append_assoc, val_snoc, val_snoc, numL_val]; omega
  | 3, _ =>
    show digitsVal (numL (q / 1000) ++ ([48 + q / 100 % 10] ++ ([48 + q / 10 % 10] ++ [48 + q % 10]))) = q
    rw [← List.append_assoc, ← List.append_assoc, val_snoc, val_snoc, val_snoc, numL_val]; omega
open PySem.NumText in
theorem digs_all (d n : Nat) : AllDigits (digs d n) := by
  unfold digs
  intro c hc
  split at hc <;> simp at hc <;> omega
theorem digs_free {d n s : Nat} (h : s < 48 ∨ 57 < s) : s ∉ digs d n := fun m => by
  have := digs_all d n s m
  omega
/-- v / POWERS[d] and v / 1000 -/
theorem q_split {v : Nat} {d : Nat} (h : d ≤ 3) : v / pw10 d / 10 ^ d = v / 1000 := by
  match d, h with
  | 0, _ => show v / 1000 / 1 = _; rw [Nat.div_one]
  | 1, _ => show v / 100 / 10 = _; rw [Nat.div_div_eq_div_mul]
  | 2, _ => show v / 10 / 100 = _; rw [Nat.div_div_eq_div_mul]
  | 3, _ => show v / 1 / 1000 = _; rw [Nat.div_one]
def cutL (l : List Nat) : List Nat × Bool × List Nat := match par [46] [] l with
  | some (a, b) => (a, true, b)
  | none => (l, false, [])
open PySem.NumText in
/-- what parse_label answers, on lists of signs -/
def parseL (t : List Nat) : Option (Int × Nat) :=
  let p := if t.take 1 = [45] then t.drop 1 else t
  let c := cutL p
  let n : Int := ((digitsVal (c.1 ++ c.2.2) * pw10 c.2.2.length : Nat) : Int)
  let v : Int := if t.take 1 = [45] then -n else n
  if (c.2.1 = true → 1 ≤ c.2.2.length ∧ c.2.2.length ≤ 3) ∧ c.1 ≠ [] ∧ c.1.length ≤ 4 ∧ (∀ x ∈ c.1 ++ c.2.2, 48 ≤ x ∧ x ≤ 57) ∧ (-1000000 ≤ v ∧ v ≤ 1000000) ∧ labL v c.2.2.length = t then some (v, c.2.2.length) else none
theorem cut_lab (n d q : Nat) : cutL (numL n ++ (if d = 0 then [] else 46 :: digs d q)) = (numL n, decide (d ≠ 0), if d = 0 then [] else digs d q) := by
  have f : 46 ∉ numL n := numL_free (by omega)
  unfold cutL
  by_cases h : d = 0
  · subst h
    rw [if_pos rfl, List.append_nil, par_none1 f]
    rfl
  · rw [if_neg h, if_neg h, show (46 :: digs d q) = [46] ++ digs d q from rfl, par_part1 f]
    simp [h]
theorem head_num (n : Nat) (l : List Nat) : ∃ c r, numL n ++ l = c :: r ∧ 48 ≤ c := by
  cases h : numL n with
  | nil => exact absurd h (numL_ne n)
  | cons c r => exact ⟨c, r ++ l, rfl, (numL_digits n c (by rw [h]; exact List.mem_cons_self)).1⟩
theorem lab_head (v : Int) (d : Nat) : ((labL v d).take 1 = [45]) ↔ v < 0 := by
  unfold labL
  by_cases h : v < 0
  · simp [h]
  · obtain ⟨c, r, e, hc⟩ := head_num (v.natAbs / 1000) (if d = 0 then [] else 46 :: digs d (v.natAbs / pw10 d))
    rw [if_neg h, List.nil_append, e]
    simp [h]; omega
theorem lab_tail (v : Int) (d : Nat) : (if (labL v d).take 1 = [45] then (labL v d).drop 1 else labL v d) = numL (v.natAbs / 1000) ++ (if d = 0 then [] else 46 :: digs d (v.natAbs / pw10 d)) := by
  by_cases h : v < 0
  · rw [if_pos ((lab_head v d).2 h)]
    unfold labL
    rw [if_pos h]
    rfl
  · rw [if_neg (fun e => h ((lab_head v d).1 e))]
    unfold labL
    rw [if_neg h]
    rfl
theorem parse_lab {v : Int} {d : Nat} (hd : d ≤ 3) (hv : v.natAbs % pw10 d = 0) (hm : v.natAbs ≤ 1000000) : parseL (labL v d) = some (v, d) := by
  have hl : (if d = 0 then [] else digs d (v.natAbs / pw10 d)) = digs d (v.natAbs / pw10 d) := by
    by_cases h : d = 0
    · subst h; rfl
    · rw [if_neg h]
  have hn : (digs d (v.natAbs / pw10 d)).length = d := digs_len _ hd
  have hval : PySem.NumText.digitsVal (numL (v.natAbs / 1000) ++ digs d (v.natAbs / pw10 d)) = v.natAbs / pw10 d := by
    have e := val_lab (v.natAbs / pw10 d) hd
    rw [q_split hd] at e
    exact e
  have hq : v.natAbs / pw10 d * pw10 d = v.natAbs := Nat.div_mul_cancel (Nat.dvd_of_mod_eq_zero hv)
  have hsg : (if v < 0 then -((v.natAbs : Nat) : Int) else ((v.natAbs : Nat) : Int)) = v := by split <;> omega
  have hif : ∀ a b : Int, (if (labL v d).take 1 = [45] then a else b) = if v < 0 then a else b := fun a b => by
    by_cases h : v < 0
    · rw [if_pos ((lab_head v d).2 h), if_pos h]
    · rw [if_neg (fun e => h ((lab_head v d).1 e)), if_neg h]
  have hlen : (numL (v.natAbs / 1000)).length ≤ 4 := numL_len (k := 4) (by decide) (by omega)
  unfold parseL
  simp only [lab_tail, cut_lab, hl, hn, hval, hq, hif, hsg]
  rw [if_pos]
  refine ⟨fun h => ⟨?_, hd⟩, numL_ne _, hlen, fun x hx => ?_, ⟨by omega, by omega⟩, trivial⟩
  · have : d ≠ 0 := by simpa using h
    omega
  · rcases List.mem_append.1 hx with hx | hx
    · exact numL_digits _ x hx
    · exact digs_all _ _ x hx
/-- v can be written with d digits behind the point -/
def Lab (v : Int) (d : Nat) : Prop := d ≤ 3 ∧ v.natAbs % pw10 d = 0 ∧ v.natAbs ≤ 1000000
theorem cut_len3 {l : List Nat} (h : (cutL l).2.1 = true → 1 ≤ (cutL l).2.2.length ∧ (cutL l).2.2.length ≤ 3) : (cutL l).2.2.length ≤ 3 := by
  unfold cutL at h ⊢
  cases e : par [46] [] l with
  | none => simp
  | some x => rw [e] at h; exact (h rfl).2
theorem if_some {c : Prop} [Decidable c] {α : Type} {x y : α} (h : (if c then some x else none) = some y) : c ∧ x = y := by
  by_cases k : c
  · rw [if_pos k] at h; exact ⟨k, Option.some.inj h⟩
  · rw [if_neg k] at h; exact absurd h (by simp)
theorem parse_ok {t : List Nat} {v : Int} {d : Nat} (h : parseL t = some (v, d)) : Lab v d ∧ t = labL v d := by
  unfold parseL at h
  obtain ⟨⟨c1, c2, c3, c4, c5, c6⟩, h⟩ := if_some h
  obtain ⟨h1, h2⟩ := Prod.mk.inj h
  rw [h2] at h1 c6
  rw [h1] at c6
  have hd : d ≤ 3 := by rw [← h2]; exact cut_len3 c1
  refine ⟨⟨hd, ?_, ?_⟩, c6.symm⟩
  · rw [← h1]
    by_cases k : t.take 1 = [45]
    · rw [if_pos k, Int.natAbs_neg]; exact Nat.mul_mod_left _ _
    · rw [if_neg k]; exact Nat.mul_mod_left _ _
  · rw [h2, h1] at c5
    omega
theorem parse_iff {t : List Nat} {v : Int} {d : Nat} : parseL t = some (v, d) ↔ Lab v d ∧ t = labL v d :=
  ⟨parse_ok, fun ⟨⟨a, b, c⟩, e⟩ => by rw [e]; exact parse_lab a b c⟩
theorem lab_inj {v w : Int} {d e : Nat} (h1 : Lab v d) (h2 : Lab w e) (h : labL v d = labL w e) : v = w ∧ d = e := by
  have a := parse_iff.2 ⟨h1, rfl⟩
  have b := parse_iff.2 ⟨h2, rfl⟩
  rw [h, b] at a
  simp only [Option.some.injEq, Prod.mk.injEq] at a
  exact ⟨a.1.symm, a.2.symm⟩
/-! digits that a row needs -/
def divs (d : Nat) (ns : List Int) : Bool := ns.all fun x => decide (x % (pw10 d : Int) = 0)
def dOf (ns : List Int) : Nat := if divs 0 ns = true then 0 else if divs 1 ns = true then 1 else if divs 2 ns = true then 2 else 3
theorem dOf_le (ns : List Int) : dOf ns ≤ 3 := by unfold dOf; repeat' split
                                                  all_goals omega
theorem divs_3 (ns : List Int) : divs 3 ns = true := by
  unfold divs
  rw [List.all_eq_true]
  intro x _
  have : (pw10 3 : Int) = 1 := rfl
  rw [this]; simp
theorem dOf_at (ns : List Int) : divs (dOf ns) ns = true := by
  unfold dOf
  split
  · assumption
  · split
    · assumption
    · split
      · assumption
      · exact divs_3 ns
theorem dOf_lt {ns : List Int} {i : Nat} (h : i < dOf ns) : divs i ns = false := by
  unfold dOf at h
  split at h
  · omega
  · split at h
    · rename_i a _
      have : i = 0 := by omega
      subst this; simpa using a
    · split at h
      · rename_i a b _
        have : i = 0 ∨ i = 1 := by omega
        rcases this with rfl | rfl
        · simpa using a
        · simpa using b
      · rename_i a b c
        have : i = 0 ∨ i = 1 ∨ i = 2 := by omega
        rcases this with rfl | rfl | rfl
        · simpa using a
        · simpa using b
        · simpa using c
theorem pow_at {i : Nat} (h : i < 4) : atI [V.int 1000, .int 100, .int 10, .int 1] (0 + (i : Int)) = some (.int (pw10 i)) := by
  have : i = 0 ∨ i = 1 ∨ i = 2 ∨ i = 3 := by omega
  rcases this with rfl | rfl | rfl | rfl <;> rfl
theorem pow_at' {i : Nat} (h : i < 4) : atI [V.int 1000, .int 100, .int 10, .int 1] (i : Int) = some (.int (pw10 i)) := by
  have : i = 0 ∨ i = 1 ∨ i = 2 ∨ i = 3 := by omega
  rcases this with rfl | rfl | rfl | rfl <;> rfl
theorem pw10_le (d : Nat) : pw10 d ≤ 1000 := by unfold pw10; repeat' split
                                                all_goals decide
theorem pw10_pos (d : Nat) : 0 < pw10 d := by unfold pw10; repeat' split
                                              all_goals decide
/-! a text so many times -/
def repS (a : Str) (n : Int) : Str := ⟨(List.replicate n.toNat a.cps).foldl (· ++ ·) #[]⟩
theorem rep_fold : ∀ (k : Nat) (c z : Array Nat), ((List.replicate k c).foldl (· ++ ·) z).toList = z.toList ++ (List.replicate k c.toList).flatten
  | 0, c, z => by simp
  | k + 1, c, z => by
    rw [List.replicate_succ, List.foldl_cons, rep_fold k c, Array.toList_append, List.replicate_succ, List.flatten_cons, List.append_assoc]
theorem tl_repS (a : Str) (n : Int) : tl (repS a n) = (List.replicate n.toNat (tl a)).flatten := by
  show ((List.replicate n.toNat a.cps).foldl (· ++ ·) #[]).toList = _
  rw [rep_fold]
  rfl
theorem repS_len (a : Str) (n : Int) : (repS a n).length = n.toNat * a.length := by
  rw [len_tl, tl_repS, List.length_flatten, List.map_replicate, List.sum_replicate_nat, ← len_tl]
def rMulS (x y : V) (H : Hp) (Q : VK) : Prop := ∃ (a : Str) (n : Int), x = .str a ∧ y = .int n ∧ (-1000 ≤ n ∧ n ≤ 1000) ∧ a.length ≤ 1000 ∧ ∀ t, tl t = (List.replicate n.toNat (tl a)).flatten → Q (.str t) H
open PySem.Spec PyProof.Rows in
theorem op_mulS {X : Cx} : OpR X (binaryOp .Mult) rMulS := by
  intro pins s σ H x y v u Q I rx ry h
  obtain ⟨a, n, rfl, rfl, ⟨n1, n2⟩, hz, q⟩ := h
  obtain ⟨t, rfl⟩ := rx
  obtain ⟨t', rfl⟩ := ry
  have hb : (repS a n).length ≤ sizeLine := by
    rw [repS_len]
    have : n.toNat * a.length ≤ 1000 * 1000 := Nat.mul_le_mul (by omega) hz
    exact Nat.le_trans this (by decide)
  refine PySem.P.mul_str (by simp; omega) (fun h1 h2 h3 => ?_) (fun h1 h2 => ?_) ?_
  · have : (1000 : Int) ≤ (2 ^ 63 - 1) / n := by rw [Int.le_ediv_iff_mul_le (by omega)]; omega
    omega
  · rw [repS_len] at hb
    unfold PySem.Builtin.Str.tooLong
    rw [Nat.mul_comm] at hb
    simpa using hb
  · split
    · rename_i c
      exact ⟨by decide, .str Str.empty, H, I.tok _, ⟨_, rfl⟩, q _ (by rw [show n.toNat = 0 by omega]; rfl)⟩
    · split
      · rename_i c2
        refine ⟨.str a, H, I, ⟨t, rfl⟩, q a ?_⟩
        rw [Bool.or_eq_true] at c2
        rcases c2 with c2 | c2
        · have : n = 1 := by simpa using c2
          subst this
          simp
        · have e : tl a = [] := (len0_tl a).1 (by simpa using c2)
          rw [e]
          simp
      · exact ⟨hb, .str (repS a n), H, I.tok _, ⟨_, rfl⟩, q _ (tl_repS a n)⟩
end Ax
/-! ### texts by their signs -/
namespace Ax
open PySem L2 TL
def mkS (l : List Nat) : Str := ⟨l.toArray⟩
theorem tl_mkS (l : List Nat) : tl (mkS l) = l := tl_mk l
theorem mkS_tl (x : Str) : mkS (tl x) = x := mk_tl x
theorem mkS_of {x : Str} {l : List Nat} (h : tl x = l) : x = mkS l := by rw [← h, mkS_tl]
theorem mkS_len (l : List Nat) : (mkS l).length = l.length := len_tl _
theorem mkS_app (a b : List Nat) : mkS a ++ mkS b = mkS (a ++ b) := ext_tl (tl_append _ _)
theorem mkS_iff {a b : List Nat} : mkS a = mkS b ↔ a = b := ⟨fun h => congrArg tl h, fun h => by rw [h]⟩
theorem mkS_dec (a b : List Nat) : decide (mkS a = mkS b) = decide (a = b) := decide_eq_decide.mpr mkS_iff
/-- the label of v with d digits behind the point -/
def lab (v : Int) (d : Nat) : Str := mkS (labL v d)
theorem labL_len (v : Int) {d : Nat} (h : d ≤ 3) (b : v.natAbs ≤ 1000000000) : (labL v d).length ≤ 20 := by
  unfold labL
  have e := digs_len (v.natAbs / pw10 d) h
  have n := numL_len (n := v.natAbs / 1000) (k := 7) (by decide) (by omega)
  rw [List.length_append, List.length_append]
  have s1 : (if v < 0 then [45] else ([] : List Nat)).length ≤ 1 := by split <;> simp
  have s2 : (if d = 0 then [] else 46 :: digs d (v.natAbs / pw10 d)).length ≤ 4 := by
    split
    · simp
    · rw [List.length_cons]
      omega
  omega
theorem padL_len (d q : Nat) (h0 : 0 < d) (h : d ≤ 3) : (padL d q).length = (numL (q / 10 ^ d)).length + d := by
  rw [padL_eq q h0 h, List.length_append, digs_len q h]
/-- the signs of a whole number -/
def intL (i : Int) : List Nat := (if i < 0 then [45] else []) ++ numL i.natAbs
theorem tl_int (i : Int) : tl (Str.ofString (toString i)) = intL i := by
  cases i with
  | ofNat n =>
    have e := tl_num n
    unfold intL
    rw [if_neg (by simp)]
    exact e
  | negSucc n =>
    unfold intL
    rw [if_pos (Int.negSucc_lt_zero n), tl_ofString]
    show (("-" ++ Nat.repr (n + 1) : String)).toList.map Char.toNat = 45 :: numL (n + 1)
    rw [String.toList_append, List.map_append, Nat.toList_repr]
    rfl
theorem int_mkS (i : Int) : Str.ofString (toString i) = mkS (intL i) := mkS_of (tl_int i)
theorem intL_nat (n : Nat) : intL (n : Int) = numL n := by
  unfold intL
  rw [if_neg (by omega)]
  rfl
theorem log_ok {n : Nat} (h : n < 2 ^ 64) : n.log2 < 1920 := by
  by_cases z : n = 0
  · subst z
    decide
  · have := (Nat.log2_lt z).mpr h
    omega
section
variable {H H1 : Hp} {Q : VK} {σ : L2.St} {K : PySem.W.Frag} {a b : List Nat} {te : TE} {R : It → Hp → Prop}
theorem sz_ok {n : Nat} (h : n ≤ 1000000) : n ≤ sizeLine := by rw [sizeLine_eq]; omega
theorem r_addM (z : a.length + b.length ≤ 1000000) (h : Q (.str (mkS (a ++ b))) H) : rAddS (.str (mkS a)) (.str (mkS b)) H Q :=
  r_addS (by rw [mkS_len, mkS_len]; exact sz_ok z) (by rw [mkS_app]; exact h)
theorem r_lenSM (z : a.length ≤ 1000000) (h : Q (.int a.length) H) : rLenS [.str (mkS a)] H Q :=
  r_lenS (by rw [mkS_len]; exact sz_ok z) (by rw [mkS_len]; exact h)
theorem r_strI {i : Int} (b : -1000000000000 ≤ i ∧ i ≤ 1000000000000) (h : Q (.str (mkS (intL i))) H) : rStrI [.int i] H Q :=
  ⟨i, rfl, log_ok (by omega), by rw [int_mkS]; exact h⟩
theorem r_strN {n : Nat} (b : n ≤ 1000000000000) (h : Q (.str (mkS (numL n))) H) : rStrI [.int (n : Int)] H Q :=
  r_strI ⟨by omega, by omega⟩ (by rw [intL_nat]; exact h)
theorem r_mulM {n : Int} (z : -1000 ≤ n ∧ n ≤ 1000) (l : a.length ≤ 1000) (h : Q (.str (mkS (List.replicate n.toNat a).flatten)) H) : rMulS (.str (mkS a)) (.int n) H Q :=
  ⟨_, n, rfl, rfl, z, by rw [mkS_len]; exact l, fun t e => by rw [mkS_of e]; exact h⟩
theorem cut_from (l : List Nat) {i : Int} (h : 0 ≤ i) : cutS (mkS l) (some i) none = mkS (l.drop i.toNat) := by
  refine mkS_of ?_
  show (((mkS l).cps.toList.drop (HT.sIx (mkS l).length 0 (some i))).take ((mkS l).length - HT.sIx (mkS l).length 0 (some i))) = _
  have e : HT.sIx (mkS l).length 0 (some i) = min i.toNat l.length := by
    unfold HT.sIx
    simp only [if_neg (show ¬ i < 0 by omega), mkS_len]
  rw [e, mkS_len]
  show (l.drop _).take _ = _
  by_cases c : i.toNat ≤ l.length
  · rw [Nat.min_eq_left c]
    exact List.take_of_length_le (by rw [List.length_drop]; exact Nat.le_refl _)
  · rw [Nat.min_eq_right (by omega), List.drop_of_length_le (Nat.le_refl _), List.drop_of_length_le (by omega)]
    simp
theorem cut_to (l : List Nat) {i : Int} (h : 0 ≤ i) : cutS (mkS l) none (some i) = mkS (l.take i.toNat) := by
  refine mkS_of ?_
  show (((mkS l).cps.toList.drop 0).take (HT.sIx (mkS l).length (mkS l).length (some i) - 0)) = _
  have e : HT.sIx (mkS l).length (mkS l).length (some i) = min i.toNat l.length := by
    unfold HT.sIx
    simp only [if_neg (show ¬ i < 0 by omega), mkS_len]
  rw [e]
  show l.take _ = _
  rw [Nat.sub_zero]
  by_cases c : i.toNat ≤ l.length
  · rw [Nat.min_eq_left c]
  · rw [Nat.min_eq_right (by omega), List.take_of_length_le (Nat.le_refl _), List.take_of_length_le (by omega)]
theorem r_slFrom {i : Int} (h0 : 0 ≤ i) (z : a.length ≤ 1000000) (h : Q (.str (mkS (a.drop i.toNat))) H) : rSlS (.str (mkS a)) (some i) none H Q :=
  ⟨_, rfl, by rw [mkS_len]; exact sz_ok z, by rw [cut_from a h0]; exact h⟩
theorem r_slTo {i : Int} (h0 : 0 ≤ i) (z : a.length ≤ 1000000) (h : Q (.str (mkS (a.take i.toNat))) H) : rSlS (.str (mkS a)) none (some i) H Q :=
  ⟨_, rfl, by rw [mkS_len]; exact sz_ok z, by rw [cut_to a h0]; exact h⟩
theorem r_ixM {i : Int} {c : Nat} (z : a.length ≤ 1000000) (e : atI a i = some c) (h : Q (.str (mkS [c])) H) : rIxS (.str (mkS a)) (.int i) H Q :=
  ⟨mkS a, i, c, rfl, rfl, by rw [mkS_len]; exact sz_ok z, e, h⟩
theorem r_inM {c : Nat} {z : Str} (h : Q (.bl (decide (c ∈ tl z))) H) : rInS (.str (mkS [c])) (.str z) H Q := ⟨c, z, rfl, rfl, h⟩
def IsG (v : V) (R : It → Hp → Prop) (H1 : Hp) : Prop := ∃ x, v = .str x ∧ R (Its x) H1
theorem r_iS (h : te σ H fun v H1 => IsG v R H1) : iStr te σ H R := h
theorem r_is {x : Str} (h : R (Its x) H1) : IsG (.str x) R H1 := ⟨x, rfl, h⟩
/-- [f(c) for c in a text], truth values -/
theorem lc_strB {ix : Nat} {f : Nat → Bool} (hz : a.length ≤ 1000000)
    (he : ∀ c H2 (Q' : VK), c ∈ a → Same H1 H2 → (∀ H3, Same H2 H3 → Q' (.bl (f c)) H3) → te ((wipe σ [ix]).set ix (some (.str (mkS [c])))) H2 Q')
    (hd : ∀ D H', Same H1 H' → H1 D = none → H' D = some (.lst ((a.map f).map V.bl)) → Q (.ref D) H') : LcG (Its (mkS a)) (gName ix) tYes te [ix] σ H1 Q := by
  have w := walk_str (z := mkS a)
  have es : (mkS a).cps.size = a.length := by
    show a.toArray.size = a.length
    rw [List.size_toArray]
  rw [es] at w
  have mem : ∀ i, i < a.length → a.getD i 0 ∈ a := fun i hi => by
    rw [List.getD_eq_getElem?_getD, List.getElem?_eq_getElem hi]
    exact List.getElem_mem hi
  refine lc_core' (n := a.length) (Y := fun i => .str (mkS [a.getD i 0])) (p := fun _ => true) (f := fun i => .bl (f (a.getD i 0))) (w.mono (fun _ _ => trivial) fun i H x H' hi _ y => ⟨y.1, ?_⟩) hz (fun _ _ => trivial) (fun _ _ _ _ _ q => q _ (Same.refl _)) (fun i H2 Q' hi _ s q => he _ H2 Q' (mem i hi) s q) fun D H' s n e => hd D H' s n ?_
  · obtain ⟨_, c, ec, rfl⟩ := y
    have e2 : a[i]? = some c := by
      have : (mkS a).cps[i]? = a[i]? := by
        show a.toArray[i]? = a[i]?
        rw [List.getElem?_toArray]
      rw [← this]
      exact ec
    rw [List.getD_eq_getElem?_getD, e2]
    rfl
  · rw [filter_yes] at e
    rw [e]
    congr 2
    refine List.ext_getElem (by simp) fun i h1 h2 => ?_
    simp only [List.getElem_map, List.getElem_range]
    rw [List.getD_eq_getElem?_getD, List.getElem?_eq_getElem (by simpa using h1)]
    rfl
/-- text.partition(..), text.split(..) -/
def TmG (r : V → List V → Hp → VK → Prop) (ty : TE) (σ : L2.St) (x : V) (Q : VK) (H1 : Hp) : Prop := (∃ a, x = .str a) ∧ ty σ H1 fun y H2 => r x [y] H2 Q
theorem r_tm {r : V → List V → Hp → VK → Prop} {to ty : TE} (h : to σ H fun x H1 => TmG r ty σ x Q H1) : tM1 r to ty σ H Q := h
theorem r_tmS {r : V → List V → Hp → VK → Prop} {ty : TE} {x : Str} (h : ty σ H fun y H2 => r (.str x) [y] H2 Q) : TmG r ty σ (.str x) Q H := ⟨⟨x, rfl⟩, h⟩
def rPartn : V → List V → Hp → VK → Prop := fun x xs H Q => ∃ a b, x = .str a ∧ xs = [.str b] ∧ (b.length == 0) = false ∧ a.length ≤ sizeLine ∧
      ∀ p, H p = none → Q (.ref p) (upd H p (.tup [.str (Txt.partition a b).1, .str (Txt.partition a b).2.1, .str (Txt.partition a b).2.2]))
/-- what a partition at a sign gives -/
def cutM (s : Nat) (l : List Nat) : List Nat × List Nat × List Nat := match par [s] [] l with
  | some (a, b) => (a, [s], b)
  | none => (l, [], [])
theorem cutM_part (s : Nat) : Txt.partition (mkS a) (mkS [s]) = (mkS (cutM s a).1, mkS (cutM s a).2.1, mkS (cutM s a).2.2) := by
  rw [partition_par (mkS a) (mkS [s]) (List.cons_ne_nil s [])]
  unfold cutM
  show (match par [s] [] a with | some (a, b) => _ | none => _) = _
  cases par [s] [] a with
  | none => rfl
  | some z => rfl
theorem r_partM {s : Nat} (z : a.length ≤ 1000000) (h : ∀ p, H p = none → Q (.ref p) (upd H p (.tup [.str (mkS (cutM s a).1), .str (mkS (cutM s a).2.1), .str (mkS (cutM s a).2.2)]))) : rPartn (.str (mkS a)) [.str (mkS [s])] H Q :=
  ⟨_, _, rfl, rfl, rfl, by rw [mkS_len]; exact sz_ok z, by rw [cutM_part]; exact h⟩
def rSplitn : V → List V → Hp → VK → Prop := fun x xs H Q => ∃ a b, x = .str a ∧ xs = [.str b] ∧ (b.length == 0) = false ∧ a.length + 2 ≤ sizeLine ∧ rNewStrs (Txt.split a b) H Q
theorem split_mkS {S : List Nat} (hS : S ≠ []) (low : S.all (· < 256) = true) : Txt.split (mkS a) (mkS S) = (spl S 0 [] a).map mkS := by
  refine map_tl_inj ?_
  rw [split_spl (mkS a) (mkS S) hS (kind_ok (by show S.toArray.all _ = true; rw [List.all_toArray]; exact low)), List.map_map]
  exact (List.map_id _).symm
theorem r_splM {S : List Nat} (hS : S ≠ []) (low : S.all (· < 256) = true) (z : a.length ≤ 1000000) (h : ∀ p, H p = none → Q (.ref p) (upd H p (.lst ((spl S 0 [] a).map fun l => .str (mkS l))))) : rSplitn (.str (mkS a)) [.str (mkS S)] H Q := by
  refine ⟨_, _, rfl, rfl, ?_, by rw [mkS_len, sizeLine_eq]; omega, fun p np => ?_⟩
  · rw [mkS_len]
    cases S with
    | nil => exact absurd rfl hS
    | cons x r => rfl
  · rw [split_mkS hS low, List.map_map]
    exact h p np
theorem r_intM {l : List Nat} (h : PySem.NumText.AllDigits l) (h1 : l ≠ []) (h2 : l.length ≤ 600) (q : Q (.int ((PySem.NumText.digitsVal l : Nat) : Int)) H) : rIntS [.str (mkS l)] H Q :=
  ⟨mkS l, _, rfl, intText_digits (x := mkS l) h h1 (by rw [mkS_len]; omega), by rw [mkS_len]; omega, q⟩
theorem r_intMN {l : List Nat} (h : PySem.NumText.AllDigits l) (h1 : l ≠ []) (h2 : l.length ≤ 600) (q : Q (.int (-((PySem.NumText.digitsVal l : Nat) : Int))) H) : rIntS [.str (mkS (45 :: l))] H Q :=
  ⟨mkS (45 :: l), _, rfl, intText_neg (x := mkS (45 :: l)) rfl h h1 (by rw [mkS_len, List.length_cons]; omega), by rw [mkS_len, List.length_cons]; omega, q⟩
end
section
variable {X : Cx} {o e : Expr} {to te : TE}
theorem pe_partN {apos pos : Pos} (ho : PE X o to) (he : PE X e te) (hs : starEach [e] X.env = [(false, eval e X.env)] := by rfl) (hb : attributeBase o "partition" X.env (eval o X.env) = eval o X.env := by rfl) (hl : (apos.endLine == pos.line) = true := by rfl) : PE X (.Call (.Attribute o "partition" apos) [e] [] pos) (tM1 rPartn to te) := pe_partition ho he hs hb hl
theorem pe_splitN {apos pos : Pos} (ho : PE X o to) (he : PE X e te) (hs : starEach [e] X.env = [(false, eval e X.env)] := by rfl) (hb : attributeBase o "split" X.env (eval o X.env) = eval o X.env := by rfl) (hl : (apos.endLine == pos.line) = true := by rfl) : PE X (.Call (.Attribute o "split" apos) [e] [] pos) (tM1 rSplitn to te) := pe_split ho he hs hb hl
end
theorem s_dash : Str.ofString "-" = mkS [45] := rfl
theorem s_dot : Str.ofString "." = mkS [46] := rfl
theorem s_zero : Str.ofString "0" = mkS [48] := rfl
theorem s_none : Str.ofString "" = mkS [] := rfl
theorem s_dots : Str.ofString ".." = mkS [46, 46] := rfl
theorem s_by : Str.ofString " by " = mkS [32, 98, 121, 32] := rfl
theorem s_seven : Str.ofString "7" = mkS [55] := rfl
theorem s_one : Str.ofString "1" = mkS [49] := rfl
theorem s_five : Str.ofString "5" = mkS [53] := rfl
theorem s_blank : Str.ofString " " = mkS [32] := rfl
theorem s_x : Str.ofString "x" = mkS [120] := rfl
theorem s_b : Str.ofString "b" = mkS [98] := rfl
theorem s_text : Str.ofString "text" = mkS [116, 101, 120, 116] := rfl
theorem s_digits : tl (Str.ofString "0123456789") = [48, 49, 50, 51, 52, 53, 54, 55, 56, 57] := rfl
theorem dig_mem (c : Nat) : decide (c ∈ tl (Str.ofString "0123456789")) = decide (48 ≤ c ∧ c ≤ 57) := by
  rw [s_digits]
  refine decide_eq_decide.mpr ?_
  simp only [List.mem_cons, List.not_mem_nil, or_false]
  omega
end Ax
/-! ### a comprehension that an exception leaves -/
namespace Ax
open PySem PySem.Spec PyProof.Rows L2
theorem noteFrame_eq {e : Value} {u v : Env} (h : u.frame = v.frame) : noteFrame e u = noteFrame e v := by
  unfold noteFrame PySem.frameOf
  rw [h]
/-- passed on, its flight being this frame's -/
theorem passOn_held {M : Model} {A : Around} {E : Value → Shared → Prop} {s : Shared} {B : Heap} {l : List Env} {a L : Addr} {Z : Obj → Prop} {u : Env} {what : String} {Q : Value → Shared → Prop} (fr : u.frame = some L) (held : HandSPX.HeldZ B l a Z L s.heap)
    (h : ∀ h', HandSPX.HeldZ B l a Z L h' → s.heap.UpToSlots h' → E (.ref a) { s with heap := h' }) : wpAny M A (passOn what (.ref a) u : Sem Value) Q E s := by
  obtain ⟨_, _, _, oa, va, T, _, _, ea, _, da, v1, _⟩ := id held
  unfold PySem.passOn
  refine wpAny_bind (wpAny_field ea da v1 ?_)
  have nt : ¬ ((Value.ref T == Value.none) = true) := by simp
  rw [if_neg nt]
  have go : wpAny M A (setFlight (.ref a) u.frame) (fun _ s2 => wpAny M A (throw (.ref a) : Sem Value) Q E s2) E s := by
    rw [fr]
    exact HandSPX.setFlight_onZ held fun h2 held2 up2 => wpAny_throw (h h2 held2 up2)
  first
    | exact wpAny_bind (wpAny_pure (wpAny_bind go))
    | exact wpAny_bind go
section
variable {X : Cx} {W : WX} {E : XK} {pins pins' : List (Addr × Obj)} {σ σ' : L2.St} {H3 H1 : Hp} {s3 s1 s2 : Shared} {scope : Scope} {ce : Env} {fp : List Addr} {xe : Value → Shared → Prop} {e : Value}
/-- what a call within a comprehension's block raised goes on in the frame around -/
theorem block_raised (I3 : Inv X pins σ H3 s3) (stk : X.stack = X.env :: X.outer) (fr : X.env.frame = some X.env.locals) (tk : Takes X W) (hW : ∀ cls d σ H, E cls d H → W cls d σ H) (cf : ce.frame = X.env.frame) (cL : ce.locals = s3.heap.objs.size)
    (f3 : ∀ b ∈ fp, FpOk X pins H3 b ∧ b < s3.heap.objs.size) (I : Inv ((X.blk s3 H3 scope ce fp).tr [] xe) pins' σ' H1 s1) (c : L2.CX X.prog X.w X.stack H1 s1 E e s2) :
    notedBy (model X.prog X.w) X.A ce (CompFails (model X.prog X.w) X.A X.xe ce) e s2 := by
  have frames : X.A.frames = some (X.env :: X.outer) := I3.ok.frames.trans (congrArg some stk)
  obtain ⟨a0, B0, _, _, _, e0, fl0, _⟩ := id c
  obtain ⟨a, B, sI, pins2, σ2, H2, cls, d, ea, J, ground, up, sky, na, os, ag, w⟩ := XE.of_call (W := fun cls d _ H => E cls d H) I (fun _ _ _ z => z) c
  have aa : a0 = a := Value.ref.inj (e0.symm.trans ea)
  rw [aa] at fl0
  subst ea
  have fl : HandSPX.FlyingZ B (X.env :: X.outer) a (Zc cls d) s2.heap := by
    obtain ⟨_, _, _, ob, vs, T, oT, ts, g1, _, g3, g4, _, _, g7, g8, g9⟩ := fl0
    have sky : Sky B X.stack a (Zc cls d) ce.locals s2.heap := sky
    rw [stk] at sky
    rcases sky with ⟨_, _, _, ob', vs', q1, _, q3, q4⟩ | fl | ⟨_, _, _, ob', vs', T', oT', ts', q1, _, q3, q4, _, _, q7, q8, q9⟩
    · rw [g1] at q1
      cases q1
      rw [g3] at q3
      cases q3
      rw [g4] at q4
      cases q4
    · exact fl
    · rw [g1] at q1
      cases q1
      rw [g3] at q3
      cases q3
      rw [g4] at q4
      cases q4
      rw [g7] at q7
      cases q7
      rw [g8] at q8
      cases q8
      rw [g9] at q9
      cases q9
  show wpAny _ _ (noteFrame (.ref a) ce) _ _ s2
  rw [noteFrame_eq cf]
  refine HandSPX.looks_onZ Zc.steady frames fr fl fun h' held up' => ?_
  -- the block's names
  have C0 : s3.heap.get? ce.locals = none := Heap.get?_none_of_le (by rw [cL]; exact Nat.le_refl _)
  obtain ⟨m, hn, _⟩ := J.loc
  have hn : sI.heap.Ns ce.locals m := hn
  have cst : ce.locals ∉ frs X.stack := fun hm => by
    obtain ⟨_, o, ho, _⟩ := I3.stack.mem hm
    rw [C0] at ho
    cases ho
  obtain ⟨oC, es, ep, ho, r⟩ := hn
  have hB : B.get? ce.locals = some oC := ground _ _ ho cst
  refine ⟨m, ⟨oC, es, ep, held.1 _ _ hB, r⟩, fun h'' m'' hn'' sb => ?_⟩
  obtain ⟨G, g1, g2⟩ := restrict sI.heap fun b => decide (b ≠ ce.locals)
  obtain ⟨B', b1, b2⟩ := restrict B fun b => decide (b ≠ ce.locals)
  have gE : ∀ b, b ≠ ce.locals → G.get? b = sI.heap.get? b := fun b n => g1 b (decide_eq_true n)
  have gC : G.get? ce.locals = none := g2 _ (by simp)
  have bE : ∀ b, b ≠ ce.locals → B'.get? b = B.get? b := fun b n => b1 b (decide_eq_true n)
  have bC : B'.get? ce.locals = none := b2 _ (by simp)
  have bN : ∀ b, B.get? b = none → B'.get? b = none := fun b z => by
    by_cases n : b = ce.locals
    · rw [n]
      exact bC
    · rw [bE b n]
      exact z
  have held2 : HandSPX.HeldZ B' (X.env :: X.outer) a (Zc cls d) X.env.locals h'' := by
    obtain ⟨k1, k2, k3, ob, vs, T, oT, ts, q1, q2, q3, q4, q5, q6, q7, q8, q9⟩ := held
    have nea : a ≠ ce.locals := fun z => by
      rw [z, hB] at k2
      cases k2
    have neT : T ≠ ce.locals := fun z => by
      rw [z, hB] at q5
      cases q5
    refine ⟨fun b o eb => ?_, bN _ k2, funFrames_none (Heap.FunFrames.sameBut sb hn'' k3) fun b hb => bN b (k3.mem hb).1, ob, vs, T, oT, ts, (sb.2 a nea).trans q1, q2, q3, q4, bN _ q5, q6, (sb.2 T neT).trans q7, q8, q9⟩
    by_cases n : b = ce.locals
    · rw [n, bC] at eb
      cases eb
    · rw [bE b n] at eb
      exact (sb.2 b n).trans (k1 b o eb)
  refine passOn_held (L := X.env.locals) (cf.trans fr) held2 fun h3 held3 up3 => tk _ _ ?_
  have ne3 : ∀ b o, s3.heap.get? b = some o → b ≠ ce.locals := fun b o eb z => by
    rw [z, C0] at eb
    cases eb
  have un : Un (frs X.stack) fp H3 H2 s3.heap sI.heap := J.base
  have inv : Inv X pins σ H2 { sI with heap := G } := by
    refine I3.call' (s' := { sI with heap := G }) (ch := fp) J.os ⟨fun b o eb n h1 h2 => (gE b (ne3 b o eb)).trans (un.keep b o eb n h1 h2), fun b o eb n h1 h2 => ?_, un.free, fun b o eb h2 => ?_, un.tups, un.frzs, un.tbls⟩ (fun b o q => ?_) J.bare fun b hb => ⟨(f3 b hb).1.2.2.2.1, (f3 b hb).1.2.1, (f3 b hb).1.2.2.2.2.1, (f3 b hb).1.2.2.2.2.2⟩
    · obtain ⟨sl, z⟩ := un.slot b o eb n h1 h2
      exact ⟨sl, (gE b (ne3 b o eb)).trans z⟩
    · obtain ⟨o', z⟩ := un.there b o eb h2
      exact ⟨o', (gE b (ne3 b o eb)).trans z⟩
    · have fC : H2 ce.locals = none := J.free
      refine (J.hok b o q).stay (fun c u hc z => (gE c fun n => ?_).trans z) (fun _ z => z) fun _ _ z => z
      rw [n] at hc
      rcases hc with hc | hc
      · rw [← hc, fC] at q
        cases q
      · rw [fC] at hc
        cases hc
  refine ⟨a, B', { sI with heap := G }, pins, σ, H2, cls, d, rfl, inv, fun b o eb hb => ?_, fun b o eb nf => ?_, .inr (.inr (by rw [stk]; exact held3)), na, os, ag, hW _ _ _ _ w⟩
  · by_cases n : b = ce.locals
    · have eb : G.get? b = some o := eb
      rw [n, gC] at eb
      cases eb
    · have eb : G.get? b = some o := eb
      rw [gE b n] at eb
      exact (bE b n).trans (ground b o eb hb)
  · by_cases n : b = ce.locals
    · have eb : G.get? b = some o := eb
      rw [n, gC] at eb
      cases eb
    · have eb : G.get? b = some o := eb
      rw [gE b n] at eb
      obtain ⟨x1, z1⟩ := up b o eb nf
      obtain ⟨x2, z2⟩ := up' b _ z1 nf
      have z3 : h''.get? b = some { o with slots := x2 } := (sb.2 b n).trans z2
      obtain ⟨x4, z4⟩ := up3 b _ z3 nf
      exact ⟨x4, z4⟩
end
end Ax
namespace Ax
open PySem PySem.Spec PyProof.Rows L2
section
variable {X : Cx}
/-- the context of a block whose exceptions go to xe -/
abbrev blkX (X : Cx) (s : Shared) (H : Hp) (scope : Scope) (C : Addr) (cl : List (Str × Addr)) (fp : List Addr) (xe : Value → Shared → Prop) : Cx := (X.blk s H scope (compEnvC scope cl C X.env) fp).tr [] xe
theorem lcx_run {W : WX} {E : XK} {pins : List (Addr × Obj)} {s : Shared} {σ : L2.St} {H : Hp} {Q : VK} {elt tg iter : Expr} {scope : Scope} {own : List (Str × Nat)} {pos : Pos} {p2 : Pos} {wi : TI} {g : TG} {te : TE}
    (stk : X.stack = X.env :: X.outer) (fr : X.env.frame = some X.env.locals) (tk : Takes X W) (hW : ∀ cls d σ H, E cls d H → W cls d σ H) (calm : X.calm = true) (nd : X.N.Nodup) (I : Inv X pins σ H s) (hi : PI X tg iter wi) (ok : BlkOk X.N X.env.scope scope own)
    (hg : ∀ s H C cl fp, PG (X.blk s H scope (compEnvC scope cl C X.env) fp) tg g) (he : ∀ s H C cl fp xe, Passes (L2.CX X.prog X.w) (blkX X s H scope C cl fp xe) E → PE (blkX X s H scope C cl fp xe) elt te)
    (fs : ∀ x, foldedSetIterable iter X.env x = pure x) (h : tLc wi g tYes te (own.map (·.2)) σ H Q) :
    wpAny (model X.prog X.w) X.A (comprehension (.ListComp elt [⟨tg, iter, [], 0⟩] scope pos) scope X.env p2 (newList []) false (eval iter X.env) none) (EP X pins σ Q) X.xe s := by
  have caught : ∀ y ∈ scope.names, y.2 = .free → ∃ c, X.env.cells.lookup y.1 = some c := fun y hy e => (ok.free y hy e).elim (fun k => I.ok.has _ (.inl k)) fun k => I.ok.has _ (.inr k)
  refine comprehension_at (use := none) rfl fs (closure_ok caught) ok.kind (fun y hy e => (ok.uniq y hy).trans (congrArg some e)) (thn (hi.run pins s σ H _ I h) fun xv s1 hx => thn hx fun itv s2 got => ?_)
  obtain ⟨it, fp, tn, J, H2, ev, I2, T, t2, f2, q⟩ := got
  subst ev
  refine wpAny_newObj_type (newEnv_comp ?_) (Nat.zero_le _)
  generalize eD : s2.heap.objs.size = D
  have nD : H2 D = none := I2.hok.fresh (Nat.le_of_eq eD)
  obtain ⟨V0, ⟨m0, v0⟩, turn⟩ := q D nD
  generalize e3 : ({ s2 with heap := s2.heap.push { cls := .type "list", data := .seq ([] : List Value).toArray } } : Shared) = s3
  have hp3 : s3.heap = s2.heap.push { cls := .type "list", data := .seq ([] : List Value).toArray } := by rw [← e3]
  have I3 : Inv X pins σ (upd H2 D (.lst [])) s3 := by
    rw [← e3]
    refine I2.laid (t' := s2.toks) (fun b o e => Heap.get?_push_of_some _ e) (Nat.le_of_eq eD) ⟨Nat.zero_le _, [], 0, .nil, ?_⟩
    rw [← eD]
    exact Heap.get?_push_size _ rfl
  have f3 : ∀ b ∈ fp, FpOk X pins (upd H2 D (.lst [])) b ∧ b < s3.heap.objs.size := fun b hb => by
    obtain ⟨o, e, _⟩ := T.obj _ _ t2 b hb
    have lt := Heap.lt_size e
    refine ⟨⟨?_, (f2 b hb).2⟩, by rw [hp3, Heap.size_push]; exact Nat.lt_succ_of_lt lt⟩
    rw [upd_ne (by rw [← eD]; exact Nat.ne_of_lt lt)]
    exact (f2 b hb).1
  have t3 : tn 0 s3.heap := T.keep _ _ _ t2 fun b _ o e => by
    rw [hp3]
    exact Heap.get?_push_of_some _ e
  have I4 := block_start I3 ok nd f3
  obtain ⟨H3, eH⟩ : ∃ H3, upd H2 D (.lst []) = H3 := ⟨_, rfl⟩
  obtain ⟨cl, ecl⟩ : ∃ cl, cellsFrom (s3.heap.objs.size + 1) scope.names (cloFrom X.env.cells scope.names []) = cl := ⟨_, rfl⟩
  rw [eH] at I3 I4 f3 v0
  rw [ecl] at I4
  have pg := hg s3 H3 s3.heap.objs.size cl fp
  obtain ⟨ce, ece⟩ : ∃ ce, compEnvC scope cl s3.heap.objs.size X.env = ce := ⟨_, rfl⟩
  have cL : ce.locals = s3.heap.objs.size := by rw [← ece]; rfl
  have cf : ce.frame = X.env.frame := by rw [← ece]; rfl
  have pe := he s3 H3 s3.heap.objs.size cl fp (notedBy (model X.prog X.w) X.A ce (CompFails (model X.prog X.w) X.A X.xe ce)) (fun pins' σ' H1 s1 e s2 I c => by
    have I : Inv ((X.blk s3 H3 scope (compEnvC scope cl s3.heap.objs.size X.env) fp).tr [] (notedBy (model X.prog X.w) X.A ce (CompFails (model X.prog X.w) X.A X.xe ce))) pins' σ' H1 s1 := I
    rw [ece] at I
    exact block_raised I3 stk fr tk hW cf cL f3 I c)
  have pe : PE ((X.blk s3 H3 scope (compEnvC scope cl s3.heap.objs.size X.env) fp).tr [] (notedBy (model X.prog X.w) X.A ce (CompFails (model X.prog X.w) X.A X.xe ce))) elt te := pe
  rw [ece] at pg pe I4
  show codeAny _ _ (.compStart (.ListComp elt [⟨tg, iter, [], 0⟩] scope pos) 0 (.ref it) (.ref D) (compEnvC scope (cellsFrom (s3.heap.objs.size + 1) scope.names (cloFrom X.env.cells scope.names [])) s3.heap.objs.size X.env)) (compEnds (model X.prog X.w) X.A X.xe none (EP X pins σ Q) (.ref D) (compEnvC scope (cellsFrom (s3.heap.objs.size + 1) scope.names (cloFrom X.env.cells scope.names [])) s3.heap.objs.size X.env)) { s3 with heap := pushCells (s3.heap.push { cls := .type "dict", data := .dict #[] }) scope.names }
  rw [ecl, ece]
  have n3 : ∀ b ∈ fp, H3 b = none := fun b hb => (f3 b hb).1.1
  have t4 : tn 0 (pushCells (s3.heap.push { cls := .type "dict", data := .dict #[] }) scope.names) := T.keep _ _ _ t3 fun b _ o e => pushCells_keeps _ _ _ _ (Heap.get?_push_of_some _ e)
  obtain ⟨s4, e4⟩ : ∃ s4 : Shared, ({ s3 with heap := pushCells (s3.heap.push { cls := .type "dict", data := .dict #[] }) scope.names } : Shared) = s4 := ⟨_, rfl⟩
  have t4 : tn 0 s4.heap := by rw [← e4]; exact t4
  rw [e4] at I4 ⊢
  have fpo : ∀ {σ' : L2.St} {H' : Hp} {s' : Shared}, Inv (X.blk s3 H3 scope ce fp) [] σ' H' s' → (∀ b ∈ fp, H' b = none) → ∀ b ∈ fp, FpOk (X.blk s3 H3 scope ce fp) [] H' b := fun {σ' H' s'} I' hn b hb =>
    ⟨hn b hb, (I'.ok.exf b hb).1, I'.ok.exfs b hb, .inl hb, (I'.ok.exf b hb).2, fun p hp => absurd (show p ∈ ([] : List (Addr × Obj)) ++ [] from hp) (by simp)⟩
  have loop : codeAny (model X.prog X.w) X.A (.compLoop (.ListComp elt [⟨tg, iter, [], 0⟩] scope pos) 0 (.ref it) (.ref D) ce) (compEnds (model X.prog X.w) X.A X.xe none (EP X pins σ Q) (.ref D) ce) s4 := by
    refine compLoop_any (fun n s' => ∃ i H', Inv (X.blk s3 H3 scope ce fp) [] (wipe σ (own.map (·.2))) H' s' ∧ tn i s'.heap ∧ (∀ b ∈ fp, H' b = none) ∧ V0 i n H') ?_ m0 ⟨0, H3, I4, t4, n3, v0⟩
    rintro n s5 ⟨i, H5, I5, t5, n5, w5⟩
    rcases turn i n H5 w5 with ⟨stop, qq⟩ | ⟨go, Nx, nxt, step⟩
    · refine thnF (T.done (X.blk s3 H3 scope ce fp) rfl rfl rfl calm i [] s5 _ H5 (fun _ _ => False) I5 (fpo I5 n5) t5 stop) fun r s6 ⟨er, I6⟩ => ?_
      subst er
      have I7 : Inv X pins σ H5 s6 := I3.call' (ch := fp) I6.os I6.base I6.hok I6.bare fun b hb => ⟨(f3 b hb).1.2.2.2.1, (f3 b hb).1.2.1, (f3 b hb).1.2.2.2.2.1, (f3 b hb).1.2.2.2.2.2⟩
      have nC : H5 ce.locals = none := I6.free
      obtain ⟨m, hn, _⟩ := I6.loc
      have hn : s6.heap.Ns ce.locals m := hn
      have fC : FpOk X pins H5 ce.locals := I3.fpOk (by rw [cL]; exact Nat.le_refl _) nC
      obtain ⟨f0, f1, _, f4, f5, f6⟩ := fC
      exact ⟨m, hn, fun h' sb => ⟨.ref D, H5, I7.turned (t' := s6.toks) (fun b o hb e => (sb.2 b hb).trans e) f0 f1 f4 f5 f6, rfl, qq⟩⟩
    · refine thnF (T.item (X.blk s3 H3 scope ce fp) rfl rfl rfl calm i [] s5 _ H5 (fun _ _ => False) I5 (fpo I5 n5) t5 go) fun r s6 ⟨u, er, h6⟩ => ?_
      subst er
      refine thnF h6 fun _ s7 ⟨x, H7, I7, r7, y7, t7, n7⟩ => ?_
      refine thnF (pg.run _ s7 _ H7 x u _ (I7.pinned (fpo I7 n7) (T.obj _ _ t7)) r7 (step x H7 y7)) fun _ s8 ⟨σ8, H8, I8, w8, q8⟩ => ?_
      refine wpAny_tests_nil ?_
      show (if true = true then _ else _)
      rw [if_pos rfl]
      have q8 : te σ8 H8 fun y H4 => ∃ acc, H4 D = some (.lst acc) ∧ acc.length < sizeLine ∧ Nx (upd H4 D (.lst (acc ++ [y]))) := by
        have z : (if true = true then te σ8 H8 fun y H4 => ∃ acc, H4 D = some (.lst acc) ∧ acc.length < sizeLine ∧ Nx (upd H4 D (.lst (acc ++ [y]))) else Nx H8) := q8
        rw [if_pos rfl] at z
        exact z
      have I8x : Inv ((X.blk s3 H3 scope ce fp).tr [] (notedBy (model X.prog X.w) X.A ce (CompFails (model X.prog X.w) X.A X.xe ce))) ([] ++ pinsAt fp s7.heap) σ8 H8 s8 :=
        ⟨I8.ok.toTry _ _, I8.os, I8.bare, I8.base, I8.loc, I8.cell, I8.free, I8.freeC, I8.pin, I8.hok, I8.len⟩
      refine wpAny_mono (pe.run _ s8 σ8 H8 _ I8x q8) (fun z s9 got => ?_) fun _ _ z => z
      obtain ⟨y, H9, I9x, r9, acc, d9, z9, nx9⟩ := got
      have I9 : Inv (X.blk s3 H3 scope ce fp) ([] ++ pinsAt fp s7.heap) σ8 H9 s9 := ⟨I9x.ok.ofTry, I9x.os, I9x.bare, I9x.base, I9x.loc, I9x.cell, I9x.free, I9x.freeC, I9x.pin, I9x.hok, I9x.len⟩
      refine app_ok (X := X.blk s3 H3 scope ce fp) I9 d9 z9 r9 fun s10 I10 => ?_
      obtain ⟨m', lt, w'⟩ := nxt _ nx9
      have kept : ∀ b ∈ fp, ∀ o, s7.heap.get? b = some o → s10.heap.get? b = some o ∧ (upd H9 D (.lst (acc ++ [y]))) b = none := fun b hb o e =>
        let z := I10.pin (b, o) (List.mem_append_right _ (List.mem_append_right _ (mem_pinsAt hb e)))
        ⟨z.1, z.2.1⟩
      have len : (wipe σ (own.map (·.2))).length = σ8.length := by rw [← w8, wipe_length]
      refine ⟨m', lt, i + 1, _, (I10.unpinned (pins := [])).weak len (fun j v e => ?_), T.keep _ _ _ t7 fun b hb o e => (kept b hb o e).1, fun b hb => ?_, w'⟩
      · rw [← w8] at e
        exact (wipe_some e).1
      · obtain ⟨o, e, _⟩ := T.obj _ _ t7 b hb
        exact (kept b hb o e).2
  exact codeAny_compStart_list loop (T.self X.A 0 _ _ _ t4 loop)
/-- [e for x in xs], e a call that may raise: the exception goes out of the def -/
theorem pe_lcX {W : WX} {E : XK} {elt tg iter : Expr} {scope : Scope} {own : List (Str × Nat)} {pos : Pos} {wi : TI} {g : TG} {te : TE} (stk : X.stack = X.env :: X.outer) (fr : X.env.frame = some X.env.locals) (tk : Takes X W) (hW : ∀ cls d σ H, E cls d H → W cls d σ H)
    (calm : X.calm = true) (nd : X.N.Nodup) (hi : PI X tg iter wi) (ok : BlkOk X.N X.env.scope scope own) (hg : ∀ s H C cl fp, PG (X.blk s H scope (compEnvC scope cl C X.env) fp) tg g)
    (he : ∀ s H C cl fp xe, Passes (L2.CX X.prog X.w) (blkX X s H scope C cl fp xe) E → PE (blkX X s H scope C cl fp xe) elt te) (fs : ∀ x, foldedSetIterable iter X.env x = pure x := by intro _; rfl) : PE X (.ListComp elt [⟨tg, iter, [], 0⟩] scope pos) (tLc wi g tYes te (own.map (·.2))) := by
  refine ⟨fun pins s σ H Q I h => ?_⟩
  rw [eval_ListComp]
  exact lcx_run stk fr tk hW calm nd I hi ok hg he fs h
end
end Ax
/-! ### labels, as the program reads and writes them -/
namespace Ax
open PySem L2 TL PySem.NumText
theorem mod_nat (v : Int) (m : Nat) : v % (m : Int) = 0 ↔ v.natAbs % m = 0 := by
  rw [← Int.dvd_iff_emod_eq_zero, ← Nat.dvd_iff_mod_eq_zero]
  exact Int.ofNat_dvd_left
theorem row_lab {ns : List Int} (r : Row ns) {x : Int} (h : x ∈ ns) : Lab x (dOf ns) := by
  have b := r.2.2.1 x h
  have d := dOf_at ns
  unfold divs at d
  have d := of_decide_eq_true (List.all_eq_true.mp d x h)
  exact ⟨dOf_le ns, (mod_nat x _).mp d, by omega⟩
/-- the labels of a row -/
def labsL (ns : List Int) : List (List Nat) := ns.map fun v => labL v (dOf ns)
def labsV (ns : List Int) : List V := ns.map fun v => V.str (lab v (dOf ns))
def mostI (l : List Int) : Int := l.max?.getD 0
theorem mostI_spec {l : List Int} (h : l ≠ []) : mostI l ∈ l ∧ ∀ y, y ∈ l → y ≤ mostI l := by
  unfold mostI
  cases e : l.max? with
  | none => exact absurd (List.max?_eq_none_iff.mp e) h
  | some m =>
    have := List.max?_eq_some_iff.mp e
    exact ⟨this.1, fun y hy => this.2 y hy⟩
def widthI (ns : List Int) : Int := mostI ((labsL ns).map fun l => (l.length : Int))
/-- without a leading minus -/
def tailM (l : List Nat) : List Nat := if l.take 1 = [45] then l.drop 1 else l
theorem cutM_cutL (l : List Nat) : cutM 46 l = ((cutL l).1, (if (cutL l).2.1 = true then [46] else []), (cutL l).2.2) := by
  unfold cutM cutL
  cases par [46] [] l with
  | none => rfl
  | some z => rfl
theorem parse_by {l A B : List Nat} {pt : Bool} (hc : cutL (tailM l) = (A, pt, B)) {v : Int} (hv : v = if l.take 1 = [45] then -((digitsVal (A ++ B) * pw10 B.length : Nat) : Int) else ((digitsVal (A ++ B) * pw10 B.length : Nat) : Int)) :
    parseL l = if (pt = true → 1 ≤ B.length ∧ B.length ≤ 3) ∧ A ≠ [] ∧ A.length ≤ 4 ∧ (∀ x ∈ A ++ B, 48 ≤ x ∧ x ≤ 57) ∧ (-1000000 ≤ v ∧ v ≤ 1000000) ∧ labL v B.length = l then some (v, B.length) else none := by
  unfold parseL
  unfold tailM at hc
  simp only [hc, hv]
theorem val_fold : ∀ (l : List Nat) (a : Nat), AllDigits l → l.foldl (fun acc c => acc * 10 + (c - 48)) a < (a + 1) * 10 ^ l.length
  | [], a, _ => by simp
  | c :: r, a, h => by
    have hc := h c List.mem_cons_self
    have ih := val_fold r (a * 10 + (c - 48)) fun x hx => h x (List.mem_cons_of_mem _ hx)
    rw [List.foldl_cons, List.length_cons, Nat.pow_succ]
    refine Nat.lt_of_lt_of_le ih ?_
    have e : (a + 1) * (10 ^ r.length * 10) = (a * 10 + 10) * 10 ^ r.length := by
      rw [Nat.mul_comm (10 ^ r.length) 10, ← Nat.mul_assoc, Nat.add_mul, Nat.one_mul]
    rw [e]
    exact Nat.mul_le_mul_right _ (by omega)
theorem val_lt {l : List Nat} (h : AllDigits l) : digitsVal l < 10 ^ l.length := by
  have := val_fold l 0 h
  rw [Nat.zero_add, Nat.one_mul] at this
  exact this
theorem val_lt7 {l : List Nat} (h : AllDigits l) (hl : l.length ≤ 7) : digitsVal l < 10000000 :=
  Nat.lt_of_lt_of_le (val_lt h) (Nat.pow_le_pow_right (by decide) hl)
/-- what parse_label answers of a value -/
def parseV : V → Option (Int × Nat)
  | .str t => parseL (tl t)
  | _ => none
/-- a value of a known kind, no text too long -/
def Tx (K : PySem.W.Frag) (H : Hp) (x : V) : Prop := Known K H x ∧ ∀ t, x = .str t → t.length ≤ 1000
theorem Tx.same {K : PySem.W.Frag} {H H' : Hp} {x : V} (s : Same H H') (h : Tx K H x) : Tx K H' x := ⟨h.1.same s, h.2⟩
theorem Tx.txt {K : PySem.W.Frag} {H : Hp} {t : Str} (h : t.length ≤ 1000) : Tx K H (.str t) := ⟨.inr (.str t), fun u e => by cases e; exact h⟩
end Ax
namespace Ax
open PySem L2
/-- behind a statement that leaves slots as they are: what it knows by then -/
theorem r_cutC {t u : TS} {D : Ends} {σ : L2.St} {H : Hp} (C : Prop) (rest : C → ∀ H', Same H H' → u D σ H') (h : ∀ N : L2.St → Hp → Prop, (C → ∀ H', Same H H' → N σ H') → t { D with nx := N } σ H) : tSeq t u D σ H := h (u D) rest
theorem cut_pt {l A B : List Nat} {pt : Bool} (h : cutL l = (A, pt, B)) (c : pt = false) : B = [] := by
  unfold cutL at h
  cases e : TL.par [46] [] l with
  | none =>
    rw [e] at h
    cases h
    rfl
  | some z =>
    rw [e] at h
    cases h
    cases c
theorem par_len {S : List Nat} : ∀ {l acc A B : List Nat}, TL.par S acc l = some (A, B) → A.length ≤ acc.length + l.length ∧ B.length ≤ l.length
  | [], _, _, _, h => by cases h
  | c :: r, acc, A, B, h => by
    have h : (if TL.pre S (c :: r) = true then some (acc, (c :: r).drop S.length) else TL.par S (acc ++ [c]) r) = some (A, B) := h
    by_cases p : TL.pre S (c :: r) = true
    · rw [if_pos p] at h
      cases h
      rw [List.length_drop]
      omega
    · rw [if_neg p] at h
      have ih := par_len h
      rw [List.length_append, List.length_singleton] at ih
      rw [List.length_cons]
      omega
theorem cut_len {l A B : List Nat} {pt : Bool} (h : cutL l = (A, pt, B)) : A.length ≤ l.length ∧ B.length ≤ l.length := by
  unfold cutL at h
  cases e : TL.par [46] [] l with
  | none =>
    rw [e] at h
    cases h
    exact ⟨Nat.le_refl _, Nat.zero_le _⟩
  | some z =>
    rw [e] at h
    cases h
    have := par_len e
    simp only [List.length_nil, Nat.zero_add] at this
    exact this
end Ax
/-! ### text.index, first digits -/
namespace Ax
open PySem L2 TL
def rSix : V → List V → Hp → VK → Prop := fun x xs H Q => ∃ a b i rest, x = .str a ∧ xs = [.str b] ∧ Builtin.Str.occurrences a b 0 a.length 1 = i :: rest ∧ Q (.int (i : Nat)) H
theorem mt_six {X : Cx} : MtR X "str.index" rSix := mt_sindex
theorem r_six {H : Hp} {Q : VK} {a p r : List Nat} {s : Nat} (e0 : a = p ++ s :: r) (h : s ∉ p) (q : Q (.int (p.length : Nat)) H) : rSix (.str (mkS a)) [.str (mkS [s])] H Q := by
  rw [e0]
  have at0 : (p ++ s :: r)[p.length]? = some s := by rw [List.getElem?_append_right (Nat.le_refl _), Nat.sub_self]; rfl
  rcases StrLaws.occ_head (mkS (p ++ s :: r)) ⟨#[s]⟩ 1 (Nat.le_refl 1) with ⟨_, hn⟩ | ⟨i, t, ho, hi, hn⟩
  · exact absurd ((StrLaws.subAt_one (mkS (p ++ s :: r)) s p.length).mpr at0) (hn p.length)
  · have hi : (p ++ s :: r)[i]? = some s := (StrLaws.subAt_one (mkS (p ++ s :: r)) s i).mp hi
    have e : i = p.length := by
      by_cases c : i < p.length
      · rw [List.getElem?_append_left c] at hi
        exact absurd (List.mem_of_getElem? hi) h
      · by_cases c2 : p.length < i
        · exact absurd ((StrLaws.subAt_one (mkS (p ++ s :: r)) s p.length).mpr at0) (hn p.length c2)
        · omega
    subst e
    exact ⟨_, _, p.length, t, rfl, rfl, ho, q⟩
theorem numL_head : ∀ (m n : Nat), n ≤ m → 1 ≤ n → ∃ c r, numL n = c :: r ∧ 49 ≤ c
  | 0, n, h, h1 => by omega
  | m + 1, n, h, h1 => by
    by_cases c : n < 10
    · exact ⟨48 + n, [], numL_lt c, by omega⟩
    · obtain ⟨x, r, e, hx⟩ := numL_head m (n / 10) (by omega) (by omega)
      exact ⟨x, r ++ [48 + n % 10], by rw [numL_step (by omega), e]; rfl, hx⟩
/-- no number of two digits or more begins with a zero -/
theorem numL_zero {n : Nat} {r : List Nat} (h : numL n = 48 :: r) : r = [] := by
  by_cases c : n < 10
  · rw [numL_lt c] at h
    injection h with _ h2
    exact h2.symm
  · obtain ⟨x, t, e, hx⟩ := numL_head n n (Nat.le_refl _) (by omega)
    rw [e] at h
    injection h with h1 _
    omega
theorem lab_dot (v : Int) (d : Nat) : 46 ∈ labL v d ↔ 0 < d := by
  have f : 46 ∉ numL (v.natAbs / 1000) := numL_free (by omega)
  have s : 46 ∉ (if v < 0 then [45] else ([] : List Nat)) := by split <;> simp
  unfold labL
  rw [List.mem_append, List.mem_append]
  by_cases h : d = 0
  · subst h
    simp [f, s]
  · rw [if_neg h]
    simp [show 0 < d by omega]
theorem dp_bool_ne {a b : Bool} (h : a = b) : (!decide (a = b)) = false := by rw [decide_eq_true h]; rfl
end Ax
namespace Ax
open PySem L2 TL
/-- signs that can be laid out -/
def Low (l : List Nat) : Prop := ∀ c ∈ l, c < 1000
theorem Low.app {a b : List Nat} (h : Low a) (h2 : Low b) : Low (a ++ b) := fun c hc => (List.mem_append.mp hc).elim (h c) (h2 c)
theorem Low.take {a : List Nat} (n : Nat) (h : Low a) : Low (a.take n) := fun c hc => h c (List.mem_of_mem_take hc)
theorem Low.drop {a : List Nat} (n : Nat) (h : Low a) : Low (a.drop n) := fun c hc => h c (List.mem_of_mem_drop hc)
theorem low_num (n : Nat) : Low (numL n) := fun c hc => by have := numL_digits n c hc; omega
theorem low_digs (d n : Nat) : Low (digs d n) := fun c hc => by have := digs_all d n c hc; omega
theorem low_lab (v : Int) (d : Nat) : Low (labL v d) := by
  unfold labL
  refine Low.app ?_ (Low.app (low_num _) ?_)
  · split
    · intro c hc
      rw [List.mem_singleton] at hc
      omega
    · intro c hc
      cases hc
  · split
    · intro c hc
      cases hc
    · intro c hc
      rcases List.mem_cons.mp hc with rfl | hc
      · decide
      · exact low_digs _ _ c hc
theorem sd_str {n : Nat} {l : List Nat} (h : Low l) : Sd (n + 1) (.str (mkS l)) := by
  refine ⟨?_, by simp only [PyData.depth]; omega⟩
  simp only [PyData.canLay0, PyData.strOk]
  show l.toArray.all _ = true
  rw [List.all_toArray, List.all_eq_true]
  intro c hc
  have := h c hc
  exact decide_eq_true (by omega)
theorem shp_str {l : List Nat} (h : Low l) : SeqAt.shaped (.str (mkS l)) = true := shp_of (n := 1) (sd_str h) (by decide)
section
variable {K : PySem.W.Frag} {H H1 : Hp} {σ : L2.St} {Q : VK} {te : TE} {a : Addr}
/-- [f(v) for v in xs], xs of any known things -/
theorem lc_valsM {xs : List V} {ix : Nat} {f : V → V} (hz : xs.length ≤ 1000000) (hs : SqL K H1 a xs)
    (he : ∀ v H2 (Q' : VK), v ∈ xs → Same H1 H2 → (∀ H3, Same H2 H3 → Q' (f v) H3) → te ((wipe σ [ix]).set ix (some v)) H2 Q')
    (hd : ∀ D H', Same H1 H' → H1 D = none → H' D = some (.lst (xs.map f)) → Q (.ref D) H') : LcG (Itl K a) (gName ix) tYes te [ix] σ H1 Q := by
  have mem : ∀ i, i < xs.length → xs.getD i .non ∈ xs := fun i hi => by
    rw [List.getD_eq_getElem?_getD, List.getElem?_eq_getElem hi]
    exact List.getElem_mem hi
  refine lc_core' (n := xs.length) (Y := fun i => xs.getD i .non) (p := fun _ => true) (f := fun i => f (xs.getD i .non)) walk_listY hz (fun _ s => Same.seq s hs) (fun _ _ _ _ _ q => q _ (Same.refl _)) (fun i H2 Q' hi _ s q => he _ H2 Q' (mem i hi) s q) fun D H' s n e => hd D H' s n ?_
  rw [filter_yes] at e
  rw [e]
  congr 2
  refine List.ext_getElem (by simp) fun i h1 h2 => ?_
  simp only [List.getElem_map, List.getElem_range]
  rw [List.getD_eq_getElem?_getD, List.getElem?_eq_getElem (by simpa using h1)]
  rfl
theorem dpa_rep (x : Str) : ∀ n : Nat, DpAll K H (List.replicate n (V.str x)) (List.replicate n (PyData.str x))
  | 0 => .nil
  | n + 1 => .cons (.str x) (dpa_rep x n)
theorem map_const_rep {α β : Type} (l : List α) (b : β) : l.map (fun _ => b) = List.replicate l.length b := List.map_const' ..
theorem flat_rep {α : Type} (x : α) : ∀ n : Nat, (List.replicate n [x]).flatten = List.replicate n x
  | 0 => rfl
  | n + 1 => by rw [List.replicate_succ, List.flatten_cons, flat_rep x n]; rfl
theorem shp_rep {n : Nat} {l : List Nat} (h : Low l) : SeqAt.shaped (.list (List.replicate n (.str (mkS l)))) = true := shp_of (n := 2) (sd_list fun d hd => by
  rw [List.mem_replicate] at hd
  rw [hd.2]
  exact sd_str h) (by decide)
end
end Ax
/-! ### texts of ranges and steps -/
namespace Ax
open PySem L2 TL PySem.NumText
def numP (w : List Nat) : Option Int :=
  if (1 ≤ (tailM w).length ∧ (tailM w).length ≤ 7) ∧ (∀ x ∈ tailM w, 48 ≤ x ∧ x ≤ 57) ∧ intL (if w.take 1 = [45] then -((digitsVal (tailM w) : Nat) : Int) else ((digitsVal (tailM w) : Nat) : Int)) = w then some (if w.take 1 = [45] then -((digitsVal (tailM w) : Nat) : Int) else ((digitsVal (tailM w) : Nat) : Int)) else none
theorem numP_by {w : List Nat} {v : Int} (hv : (if w.take 1 = [45] then -((digitsVal (tailM w) : Nat) : Int) else ((digitsVal (tailM w) : Nat) : Int)) = v) :
    numP w = if (1 ≤ (tailM w).length ∧ (tailM w).length ≤ 7) ∧ (∀ x ∈ tailM w, 48 ≤ x ∧ x ≤ 57) ∧ intL v = w then some v else none := by
  unfold numP
  simp only [hv]
theorem intL_head (n : Int) : ((intL n).take 1 = [45]) ↔ n < 0 := by
  unfold intL
  by_cases h : n < 0
  · simp [h]
  · obtain ⟨c, r, e, hc⟩ := head_num n.natAbs []
    rw [List.append_nil] at e
    rw [if_neg h, List.nil_append, e]
    simp [h]; omega
theorem intL_tail (n : Int) : tailM (intL n) = numL n.natAbs := by
  unfold tailM
  by_cases h : n < 0
  · rw [if_pos ((intL_head n).2 h)]
    unfold intL
    rw [if_pos h]
    rfl
  · rw [if_neg (fun e => h ((intL_head n).1 e))]
    unfold intL
    rw [if_neg h]
    rfl
theorem num_int {n : Int} (h : n.natAbs < 10000000) : numP (intL n) = some n := by
  have e : (if (intL n).take 1 = [45] then -((digitsVal (tailM (intL n)) : Nat) : Int) else ((digitsVal (tailM (intL n)) : Nat) : Int)) = n := by
    rw [intL_tail, numL_val]
    by_cases k : n < 0
    · rw [if_pos ((intL_head n).2 k)]
      omega
    · rw [if_neg (fun e => k ((intL_head n).1 e))]
      omega
  rw [numP_by e, intL_tail, if_pos]
  exact ⟨⟨numL_pos _, numL_len (k := 7) (by decide) (by omega)⟩, numL_digits _, rfl⟩
theorem num_ok {w : List Nat} {n : Int} (h : numP w = some n) : w = intL n ∧ n.natAbs < 10000000 := by
  obtain ⟨v, hv⟩ : ∃ v : Int, (if w.take 1 = [45] then -((digitsVal (tailM w) : Nat) : Int) else ((digitsVal (tailM w) : Nat) : Int)) = v := ⟨_, rfl⟩
  rw [numP_by hv] at h
  obtain ⟨⟨⟨_, c1⟩, c2, c3⟩, h⟩ := if_some h
  subst h
  refine ⟨c3.symm, ?_⟩
  have := val_lt7 c2 c1
  rw [← hv]
  split <;> omega
theorem num_iff {w : List Nat} {n : Int} : numP w = some n ↔ w = intL n ∧ n.natAbs < 10000000 := ⟨num_ok, fun ⟨e, b⟩ => by rw [e]; exact num_int b⟩
theorem intL_len {n : Int} (h : n.natAbs < 10000000) : (intL n).length ≤ 8 := by
  unfold intL
  have := numL_len (n := n.natAbs) (k := 7) (by decide) (by omega)
  rw [List.length_append]
  split <;> simp <;> omega
theorem intL_free {n : Int} {s : Nat} (h : s < 45 ∨ (45 < s ∧ s < 48) ∨ 57 < s) : s ∉ intL n := by
  unfold intL
  intro m
  rcases List.mem_append.mp m with m | m
  · split at m
    · rw [List.mem_singleton] at m
      omega
    · cases m
  · exact numL_free (by omega) m
theorem low_int (n : Int) : Low (intL n) := by
  unfold intL
  refine Low.app ?_ (low_num _)
  split
  · intro c hc
    rw [List.mem_singleton] at hc
    omega
  · intro c hc
    cases hc
/-! a text cut at each separator -/
theorem spl_len1 (S : List Nat) (acc l : List Nat) : spl S 0 acc l ≠ [] := by
  induction l generalizing acc with
  | nil => rw [spl_nil]; exact List.cons_ne_nil _ _
  | cons c r ih =>
    cases h : pre S (c :: r) with
    | true => rw [spl_hit h]; exact List.cons_ne_nil _ _
    | false => rw [spl_miss h]; exact ih _
theorem spl_back {S : List Nat} (hS : S ≠ []) : ∀ (n : Nat) (l acc : List Nat), l.length ≤ n → joinL S (spl S 0 acc l) = acc ++ l
  | 0, l, acc, h => by
    have : l = [] := List.length_eq_zero_iff.mp (by omega)
    subst this
    rw [spl_nil, List.append_nil]
    rfl
  | n + 1, [], acc, _ => by
    rw [spl_nil, List.append_nil]
    rfl
  | n + 1, c :: r, acc, h => by
    rw [List.length_cons] at h
    cases hp : pre S (c :: r) with
    | false =>
      rw [spl_miss hp, spl_back hS n r _ (by omega), List.append_assoc]
      rfl
    | true =>
      obtain ⟨s, T, rfl⟩ : ∃ s T, S = s :: T := by
        cases S with
        | nil => exact absurd rfl hS
        | cons s T => exact ⟨s, T, rfl⟩
      rw [spl_hit hp, spl_pass]
      have ih := spl_back hS n (r.drop ((s :: T).length - 1)) [] (by rw [List.length_drop]; omega)
      rw [List.nil_append] at ih
      have e : (c :: r).take (s :: T).length = s :: T := by
        unfold pre at hp
        exact eq_of_beq hp
      have e2 : (s :: T) ++ r.drop ((s :: T).length - 1) = c :: r := by
        rw [← List.take_append_drop (s :: T).length (c :: r), e]
        rfl
      cases hq : spl (s :: T) 0 [] (r.drop ((s :: T).length - 1)) with
      | nil => exact absurd hq (spl_len1 _ _ _)
      | cons q rs =>
        rw [hq] at ih
        show acc ++ ((s :: T) ++ joinL (s :: T) (q :: rs)) = _
        rw [ih, e2]
theorem spl_two {S t a b : List Nat} (hS : S ≠ []) (h : spl S 0 [] t = [a, b]) : t = a ++ (S ++ b) := by
  have := spl_back hS t.length t [] (Nat.le_refl _)
  rw [h, List.nil_append] at this
  exact this.symm
theorem joinL_len {S : List Nat} : ∀ {l : List (List Nat)} {x : List Nat}, x ∈ l → x.length ≤ (joinL S l).length
  | [p], x, h => by
    rw [List.mem_singleton] at h
    subst h
    exact Nat.le_refl _
  | p :: q :: r, x, h => by
    show _ ≤ (p ++ (S ++ joinL S (q :: r))).length
    rw [List.length_append, List.length_append]
    rcases List.mem_cons.mp h with rfl | h
    · omega
    · have := joinL_len (S := S) h
      omega
theorem spl_parts {S t x : List Nat} (hS : S ≠ []) (h : x ∈ spl S 0 [] t) : x.length ≤ t.length := by
  have := spl_back hS t.length t [] (Nat.le_refl _)
  rw [List.nil_append] at this
  have l := joinL_len (S := S) h
  rw [this] at l
  exact l
theorem spl_count {S : List Nat} (hS : S ≠ []) : ∀ (n : Nat) (l acc : List Nat), l.length ≤ n → (spl S 0 acc l).length ≤ l.length + 1
  | 0, l, acc, h => by
    have : l = [] := List.length_eq_zero_iff.mp (by omega)
    subst this
    rw [spl_nil]
    exact Nat.le_refl _
  | n + 1, [], acc, _ => by
    rw [spl_nil]
    exact Nat.le_refl _
  | n + 1, c :: r, acc, h => by
    rw [List.length_cons] at h
    cases hp : pre S (c :: r) with
    | false =>
      rw [spl_miss hp, List.length_cons]
      have := spl_count hS n r (acc ++ [c]) (by omega)
      omega
    | true =>
      rw [spl_hit hp, spl_pass, List.length_cons, List.length_cons]
      have := spl_count hS n (r.drop (S.length - 1)) [] (by rw [List.length_drop]; omega)
      rw [List.length_drop] at this
      omega
def rgL (lo hi : Int) : List Nat := intL lo ++ ([46, 46] ++ intL hi)
def axL (lo hi st : Int) : List Nat := rgL lo hi ++ ([32, 98, 121, 32] ++ intL st)
def two (S t : List Nat) : Option (List Nat × List Nat) := match spl S 0 [] t with
  | [a, b] => some (a, b)
  | _ => none
theorem two_some {S t : List Nat} {a b : List Nat} (h : two S t = some (a, b)) : spl S 0 [] t = [a, b] := by
  unfold two at h
  split at h
  · rename_i a' b' e
    cases h
    exact e
  · cases h
theorem two_none {S t : List Nat} (h : two S t = none) : (spl S 0 [] t).length ≠ 2 := by
  unfold two at h
  intro l
  match e : spl S 0 [] t, l with
  | [a, b], _ =>
    rw [e] at h
    cases h
/-- what parsed answers -/
def rgP (t : List Nat) : Option (Int × Int) := match two [46, 46] t with
  | some (a, b) => match numP a, numP b with
    | some x, some y => if -1000000 ≤ x ∧ x ≤ y ∧ y ≤ 1000000 then some (x, y) else none
    | _, _ => none
  | none => none
def axP (t : List Nat) : Option ((Int × Int) × Int) := match two [32, 98, 121, 32] t with
  | some (a, b) => match rgP a, numP b with
    | some s, some n => if n ∈ steps then some (s, n) else none
    | _, _ => none
  | none => none
theorem two_dots (a b : Int) : two [46, 46] (rgL a b) = some (intL a, intL b) := by
  unfold two rgL
  rw [spl_part1 (intL_free (by omega)), spl_last1 (intL_free (by omega))]
  rfl
theorem rgL_free (a b : Int) : 32 ∉ rgL a b := by
  unfold rgL
  intro h
  rcases List.mem_append.mp h with h | h
  · exact intL_free (by omega) h
  · rcases List.mem_append.mp h with h | h
    · simp at h
    · exact intL_free (by omega) h
theorem two_by (a b s : Int) : two [32, 98, 121, 32] (axL a b s) = some (rgL a b, intL s) := by
  unfold two axL
  rw [spl_part1 (rgL_free _ _), spl_last1 (intL_free (by omega))]
  rfl
theorem rg_int {a b : Int} (h : -1000000 ≤ a ∧ a ≤ b ∧ b ≤ 1000000) : rgP (rgL a b) = some (a, b) := by
  unfold rgP
  rw [two_dots]
  simp only [num_int (show a.natAbs < 10000000 by omega), num_int (show b.natAbs < 10000000 by omega), if_pos h]
theorem rg_ok {t : List Nat} {a b : Int} (h : rgP t = some (a, b)) : (-1000000 ≤ a ∧ a ≤ b ∧ b ≤ 1000000) ∧ t = rgL a b := by
  unfold rgP at h
  split at h
  · rename_i x y e
    split at h
    · rename_i n m en em
      obtain ⟨c, h⟩ := if_some h
      cases h
      have := spl_two (by simp) (two_some e)
      refine ⟨c, ?_⟩
      rw [this, (num_ok en).1, (num_ok em).1]
      rfl
    · cases h
  · cases h
theorem step_b {n : Int} (h : n ∈ steps) : 1 ≤ n ∧ n ≤ 500000 := by
  revert n
  decide
theorem ax_int {a b s : Int} (h : -1000000 ≤ a ∧ a ≤ b ∧ b ≤ 1000000) (hs : s ∈ steps) : axP (axL a b s) = some ((a, b), s) := by
  have b' := step_b hs
  unfold axP
  rw [two_by]
  simp only [rg_int h, num_int (show s.natAbs < 10000000 by omega), if_pos hs]
theorem ax_ok {t : List Nat} {a b s : Int} (h : axP t = some ((a, b), s)) : (-1000000 ≤ a ∧ a ≤ b ∧ b ≤ 1000000) ∧ s ∈ steps ∧ t = axL a b s := by
  unfold axP at h
  split at h
  · rename_i x y e
    split at h
    · rename_i n m en em
      obtain ⟨c, h⟩ := if_some h
      cases h
      have := spl_two (by simp) (two_some e)
      obtain ⟨r1, r2⟩ := rg_ok en
      refine ⟨r1, c, ?_⟩
      rw [this, r2, (num_ok em).1]
      rfl
    · cases h
  · cases h
theorem rgL_len {a b : Int} (h : -1000000 ≤ a ∧ a ≤ b ∧ b ≤ 1000000) : (rgL a b).length ≤ 18 := by
  have x := intL_len (n := a) (by omega)
  have y := intL_len (n := b) (by omega)
  unfold rgL
  simp only [List.length_append, List.length_cons, List.length_nil]
  omega
theorem axL_len {a b s : Int} (h : -1000000 ≤ a ∧ a ≤ b ∧ b ≤ 1000000) (hs : s ∈ steps) : (axL a b s).length ≤ 30 := by
  have b' := step_b hs
  have x := rgL_len h
  have y := intL_len (n := s) (by omega)
  unfold axL
  simp only [List.length_append, List.length_cons, List.length_nil]
  omega
theorem low_rg (a b : Int) : Low (rgL a b) := Low.app (low_int _) (Low.app (by intro c hc; simp at hc; omega) (low_int _))
theorem low_ax (a b s : Int) : Low (axL a b s) := Low.app (low_rg _ _) (Low.app (by intro c hc; simp at hc; omega) (low_int _))
/-- what parse_range and parse_axis answer of a value -/
def rgV : V → Option (Int × Int)
  | .str t => rgP (tl t)
  | _ => none
def axV : V → Option ((Int × Int) × Int)
  | .str t => axP (tl t)
  | _ => none
end Ax
/-! ### f-strings -/
namespace Ax
open PySem L2 TL
section
variable {H : Hp} {Q : VK} {σ : L2.St} {te : TE} {ts : List TE} {a b : List Nat} {QS : Str → Hp → Prop}
def FmtG (Q : VK) (x : V) (H1 : Hp) : Prop := (∃ y : Str, x = .str y ∧ y.length ≤ sizeLine ∧ Q (.str y) H1) ∨ ∃ i : Int, x = .int i ∧ i.natAbs.log2 < 1920 ∧ Q (.str (toString i)) H1
theorem r_fmt (h : te σ H fun x H1 => FmtG Q x H1) : tFmt te σ H Q := h
theorem r_fmtI {i : Int} (b : -1000000000000 ≤ i ∧ i ≤ 1000000000000) (h : Q (.str (mkS (intL i))) H) : FmtG Q (.int i) H := .inr ⟨i, rfl, log_ok (by omega), by
  have e : (toString i : Str) = mkS (intL i) := int_mkS i
  rw [e]; exact h⟩
def JsG (ts : List TE) (a : List Nat) (σ : L2.St) (QS : Str → Hp → Prop) (x : V) (H1 : Hp) : Prop := ∃ y : Str, x = .str y ∧ (mkS a ++ y).length ≤ sizeLine ∧ tJs ts (mkS a ++ y) σ H1 QS
theorem r_js0 (h : tJs ts (mkS []) σ H QS) : tJs ts Str.empty σ H QS := h
theorem r_js (h : te σ H fun x H1 => JsG ts a σ QS x H1) : tJs (te :: ts) (mkS a) σ H QS := h
theorem r_jsM (z : a.length + b.length ≤ 1000000) (h : tJs ts (mkS (a ++ b)) σ H QS) : JsG ts a σ QS (.str (mkS b)) H := ⟨_, rfl, by rw [mkS_app, mkS_len, List.length_append]; exact sz_ok z, by rw [mkS_app]; exact h⟩
theorem r_jsN (h : QS (mkS a) H) : tJs [] (mkS a) σ H QS := h
end
end Ax
namespace Ax
open PySem L2 TL PySem.NumText
theorem tailM_neg {l : List Nat} (h : l.take 1 = [45]) : l = 45 :: tailM l := by
  unfold tailM
  rw [if_pos h]
  cases l with
  | nil => cases h
  | cons c r =>
    have : c = 45 := by simpa using h
    subst this
    rfl
theorem tailM_pos {l : List Nat} (h : ¬ l.take 1 = [45]) : tailM l = l := by
  unfold tailM
  rw [if_neg h]
theorem r_intW {l : List Nat} {v : Int} {H : Hp} {Q : VK} (hd : AllDigits (tailM l)) (h1 : 1 ≤ (tailM l).length) (h2 : (tailM l).length ≤ 7) (hv : (if l.take 1 = [45] then -((digitsVal (tailM l) : Nat) : Int) else ((digitsVal (tailM l) : Nat) : Int)) = v) (q : Q (.int v) H) : rIntS [.str (mkS l)] H Q := by
  have ne : tailM l ≠ [] := fun z => by
    rw [z] at h1
    exact absurd h1 (by decide)
  subst hv
  by_cases c : l.take 1 = [45]
  · rw [if_pos c] at q
    have := r_intMN hd ne (by omega) q
    rw [← tailM_neg c] at this
    exact this
  · rw [if_neg c] at q
    have := r_intM hd ne (by omega) q
    rw [tailM_pos c] at this q
    exact this
theorem rgL_eq (lo hi : Int) : [] ++ intL lo ++ [46, 46] ++ intL hi = rgL lo hi := by
  unfold rgL
  rw [List.nil_append, List.append_assoc]
theorem axL_eq (lo hi st : Int) : [] ++ intL lo ++ [46, 46] ++ intL hi ++ [32, 98, 121, 32] ++ intL st = axL lo hi st := by
  unfold axL
  rw [rgL_eq, List.append_assoc]
end Ax
namespace Ax
open PySem L2 TL PySem.NumText
theorem rgP_none {l : List Nat} (h : two [46, 46] l = none) : rgP l = none := by
  unfold rgP
  rw [h]
theorem rgP_na {l a b : List Nat} (h : two [46, 46] l = some (a, b)) (e : numP a = none) : rgP l = none := by
  unfold rgP
  rw [h]
  simp only [e]
theorem rgP_nb {l a b : List Nat} (h : two [46, 46] l = some (a, b)) (e : numP b = none) : rgP l = none := by
  unfold rgP
  rw [h]
  simp only [e]
  cases numP a <;> rfl
theorem rgP_some {l a b : List Nat} {x y : Int} (h : two [46, 46] l = some (a, b)) (e : numP a = some x) (f : numP b = some y) : rgP l = if -1000000 ≤ x ∧ x ≤ y ∧ y ≤ 1000000 then some (x, y) else none := by
  unfold rgP
  rw [h]
  simp only [e, f]
theorem axP_none {l : List Nat} (h : two [32, 98, 121, 32] l = none) : axP l = none := by
  unfold axP
  rw [h]
theorem axP_na {l a b : List Nat} (h : two [32, 98, 121, 32] l = some (a, b)) (e : rgP a = none) : axP l = none := by
  unfold axP
  rw [h]
  simp only [e]
theorem axP_nb {l a b : List Nat} (h : two [32, 98, 121, 32] l = some (a, b)) (e : numP b = none) : axP l = none := by
  unfold axP
  rw [h]
  simp only [e]
  cases rgP a <;> rfl
theorem axP_some {l a b : List Nat} {x : Int × Int} {y : Int} (h : two [32, 98, 121, 32] l = some (a, b)) (e : rgP a = some x) (f : numP b = some y) : axP l = if y ∈ steps then some (x, y) else none := by
  unfold axP
  rw [h]
  simp only [e, f]
theorem two_len {S l a b : List Nat} (hS : S ≠ []) (h : two S l = some (a, b)) (z : l.length ≤ 1000) : a.length ≤ 1000 ∧ b.length ≤ 1000 := by
  have e := two_some h
  have x := spl_parts (S := S) (t := l) (x := a) hS (by rw [e]; simp)
  have y := spl_parts (S := S) (t := l) (x := b) hS (by rw [e]; simp)
  omega
end Ax
namespace Ax
open PySem L2
theorem NotRg.ints {K : PySem.W.Frag} {H : Hp} {a : Addr} {x y : Int} (h : SqT K H a [.int x, .int y]) (n : ¬ Rg x y) : NotRg K H (.ref a) := by
  unfold Rg at n
  by_cases c : -1000000 ≤ x ∧ x ≤ 1000000
  · exact .high h (by omega)
  · exact .low h c
end Ax
namespace Ax
open PySem L2
theorem Same.bk {H H1 : Hp} {p : Addr} (s : Same H H1) (n : H1 p = none) : H p = none := by
  cases e : H p with
  | none => rfl
  | some u =>
    rw [s _ _ e] at n
    cases n
end Ax
/-! ### rows of labels, read back -/
namespace Ax
open PySem L2 TL PySem.NumText
section
variable {K : PySem.W.Frag} {H H1 : Hp} {σ : L2.St} {Q : VK} {te : TE} {a : Addr}
/-- [f(v) for v in xs], where f may raise: what is known of each v behind it -/
theorem lc_valsP {xs : List V} {ix : Nat} {f : V → V} (P : V → Prop) (hz : xs.length ≤ 1000000) (hs : SqL K H1 a xs)
    (he : ∀ v H2 (Q' : VK), v ∈ xs → Same H1 H2 → (P v → ∀ H3, Same H2 H3 → Q' (f v) H3) → te ((wipe σ [ix]).set ix (some v)) H2 Q')
    (hd : (∀ v, v ∈ xs → P v) → ∀ D H', Same H1 H' → H1 D = none → H' D = some (.lst (xs.map f)) → Q (.ref D) H') : LcG (Itl K a) (gName ix) tYes te [ix] σ H1 Q := by
  have mem : ∀ i, i < xs.length → xs.getD i .non ∈ xs := fun i hi => by
    rw [List.getD_eq_getElem?_getD, List.getElem?_eq_getElem hi]
    exact List.getElem_mem hi
  intro D nD
  refine lc_it walk_listY (fun i H' => Same H1 H' ∧ H' D = some (.lst ((List.range i).map fun j => f (xs.getD j .non))) ∧ ∀ j, j < i → P (xs.getD j .non)) ⟨same_new nD, upd_same, fun j h => absurd h (Nat.not_lt_zero _)⟩ (fun i H' _ q => Same.seq q.1 hs) ?_ (fun H' q => hd (fun v hv => ?_) D H' q.1 nD ?_)
  · rintro i x H2 H2' hi ⟨sm, hD, hP⟩ ⟨rfl, rfl⟩
    refine ⟨wipe_one σ ix _, ?_⟩
    refine r_yes (r_t (he _ H2' _ (mem i hi) sm fun p H4 s4 => ?_))
    refine ⟨_, s4 _ _ hD, ?_, fun b u e => ?_, ?_, fun j hj => ?_⟩
    · rw [List.length_map, List.length_range, sizeLine_eq]
      omega
    · rw [upd_ne (ne_of_none e nD)]
      exact s4 _ _ (sm _ _ e)
    · rw [upd_same, List.range_succ, List.map_append]
      rfl
    · by_cases c : j = i
      · rw [c]
        exact p
      · exact hP j (by omega)
  · obtain ⟨j, hj, e⟩ := List.mem_iff_getElem.mp hv
    have z := q.2.2 j hj
    rw [List.getD_eq_getElem?_getD, List.getElem?_eq_getElem hj] at z
    rw [← e]
    exact z
  · rw [q.2.1]
    congr 2
    refine List.ext_getElem (by simp) fun i h1 h2 => ?_
    simp only [List.getElem_map, List.getElem_range]
    rw [List.getD_eq_getElem?_getD, List.getElem?_eq_getElem (by simpa using h1)]
    rfl
end
def fv (v : V) : Int := ((parseV v).getD (0, 0)).1
def strV (l : List Nat) : V := .str (mkS l)
def strD (l : List Nat) : PyData := .str (mkS l)
theorem labsV_L (ns : List Int) : labsV ns = (labsL ns).map strV := by
  unfold labsV labsL
  rw [List.map_map]
  rfl
theorem fv_labs {ns : List Int} (r : Row ns) : (labsV ns).map fv = ns := by
  unfold labsV
  rw [List.map_map]
  have : ∀ x ∈ ns, (fv ∘ fun v => V.str (lab v (dOf ns))) x = id x := fun x hx => by
    show ((parseV (.str (lab x (dOf ns)))).getD (0, 0)).1 = x
    have e : parseV (.str (lab x (dOf ns))) = some (x, dOf ns) := by
      show parseL (tl (mkS (labL x (dOf ns)))) = _
      rw [tl_mkS]
      exact parse_iff.mpr ⟨row_lab r hx, rfl⟩
    rw [e]
    rfl
  rw [List.map_congr_left this, List.map_id]
theorem parse_labs {ns : List Int} (r : Row ns) {v : V} (h : v ∈ labsV ns) : ∃ q, parseV v = some q := by
  obtain ⟨x, hx, rfl⟩ := List.mem_map.mp h
  refine ⟨(x, dOf ns), ?_⟩
  show parseL (tl (mkS (labL x (dOf ns)))) = _
  rw [tl_mkS]
  exact parse_iff.mpr ⟨row_lab r hx, rfl⟩
theorem fv_b {v : V} {q : Int × Nat} (h : parseV v = some q) : -1000000 ≤ fv v ∧ fv v ≤ 1000000 := by
  cases v with
  | str t =>
    have h' : parseL (tl t) = some (q.1, q.2) := h
    have b := (parse_ok h').1.2.2
    unfold fv
    rw [h]
    show -1000000 ≤ q.1 ∧ q.1 ≤ 1000000
    omega
  | _ => cases h
theorem strs_of : ∀ {xs : List V}, (∀ v, v ∈ xs → ∃ q, parseV v = some q) → ∃ ts : List (List Nat), xs = ts.map strV ∧ ∀ l ∈ ts, Low l
  | [], _ => ⟨[], rfl, fun _ h => absurd h List.not_mem_nil⟩
  | v :: r, h => by
    obtain ⟨ts, e, lw⟩ := strs_of fun w hw => h w (List.mem_cons_of_mem _ hw)
    obtain ⟨q, hq⟩ := h v List.mem_cons_self
    cases v with
    | str t =>
      have h' : parseL (tl t) = some (q.1, q.2) := hq
      refine ⟨tl t :: ts, ?_, fun l hl => ?_⟩
      · rw [List.map_cons, ← e]
        show V.str t :: r = V.str (mkS (tl t)) :: r
        rw [mkS_tl]
      · rcases List.mem_cons.mp hl with rfl | hl
        · rw [(parse_ok h').2]
          exact low_lab _ _
        · exact lw l hl
    | _ => cases hq
theorem dpa_strs {K : PySem.W.Frag} {H : Hp} : ∀ ts : List (List Nat), DpAll K H (ts.map strV) (ts.map strD)
  | [] => .nil
  | t :: r => .cons (.str (mkS t)) (dpa_strs r)
theorem shp_strs {ts : List (List Nat)} (h : ∀ l ∈ ts, Low l) : SeqAt.shaped (.list (ts.map strD)) = true := shp_of (n := 2) (sd_list fun d hd => by
  obtain ⟨l, hl, rfl⟩ := List.mem_map.mp hd
  exact sd_str (h l hl)) (by decide)
theorem low_labs (ns : List Int) : ∀ l ∈ labsL ns, Low l := fun l hl => by
  obtain ⟨x, _, rfl⟩ := List.mem_map.mp hl
  exact low_lab _ _
theorem eqv_strs : ∀ xs ys : List (List Nat), PyData.eqvAll (xs.map strD) (ys.map strD) = decide (xs = ys)
  | [], [] => by simp [PyData.eqvAll]
  | [], _ :: _ => by simp [PyData.eqvAll]
  | _ :: _, [] => by simp [PyData.eqvAll]
  | x :: xs, y :: ys => by
    rw [List.map_cons, List.map_cons, PyData.eqvAll, eqv_strs xs ys]
    show ((mkS x == mkS y) && decide (xs = ys)) = decide (x :: xs = y :: ys)
    rw [Bool.beq_eq_decide_eq, mkS_dec, Bool.eq_iff_iff]
    simp
theorem eqv_listS (xs ys : List (List Nat)) : PyData.eqv (.list (xs.map strD)) (.list (ys.map strD)) = decide (xs = ys) := by
  rw [PyData.eqv]
  exact eqv_strs xs ys
theorem strV_inj {a b : List (List Nat)} (h : a.map strV = b.map strV) : a = b := by
  refine (List.map_inj_right (f := strV) fun x y e => ?_).mp h
  unfold strV at e
  injection e with e
  exact mkS_iff.mp e
/-- no list -/
inductive NotLst (K : PySem.W.Frag) (H : Hp) : V → Prop
  | non : NotLst K H .non
  | bl (b : Bool) : NotLst K H (.bl b)
  | int (i : Int) : NotLst K H (.int i)
  | str (x : Str) : NotLst K H (.str x)
  | tup {a : Addr} {xs : List V} (h : SqT K H a xs) : NotLst K H (.ref a)
theorem NotLst.same {K : PySem.W.Frag} {H H' : Hp} {v : V} (s : Same H H') (h : NotLst K H v) : NotLst K H' v := by
  cases h with
  | non => exact .non
  | bl b => exact .bl b
  | int i => exact .int i
  | str x => exact .str x
  | tup h => exact .tup (Same.seqT s h)
end Ax
namespace Ax
open PySem L2
/-- a cell that was not there before may be written over -/
theorem Same.over {H H1 : Hp} {p : Addr} {o : HO} (s : Same H H1) (n : H p = none) : Same H (upd H1 p o) := fun b u e => by
  rw [upd_ne (ne_of_none e n)]
  exact s b u e
end Ax
namespace Ax
open PySem L2
theorem cutV_to (xs : List V) {i : Int} (h : 0 ≤ i) : cutV xs none (some i) = xs.take i.toNat := by
  have e : HT.sIx xs.length xs.length (some i) = min i.toNat xs.length := by
    unfold HT.sIx
    simp only [if_neg (show ¬ i < 0 by omega)]
  unfold cutV
  rw [e]
  show (xs.drop 0).take (_ - 0) = _
  rw [List.drop_zero, Nat.sub_zero]
  by_cases c : i.toNat ≤ xs.length
  · rw [Nat.min_eq_left c]
  · rw [Nat.min_eq_right (by omega), List.take_of_length_le (Nat.le_refl _), List.take_of_length_le (by omega)]
end Ax
/-! ### len(set(..)) of a list of texts, no two alike -/
namespace Ax
open PySem PySem.Spec PyProof.Rows L2
section
variable {P : Program} {w : World} {A : Around} {E : Value → Shared → Prop} {xs : List Str} {S : Addr}
/-- so many of the texts are in -/
def TxIn (P : Program) (w : World) (xs : List Str) (S : Addr) (i : Nat) (h : Heap) : Prop := h.SetOf (PySem.strKind P w) S (fun t => (xs.take i).any (· == t)) i
theorem TxIn.keep {i : Nat} {h h2 : Heap} (T : TxIn P w xs S i h) (k : ∀ o, h.get? S = some o → h2.get? S = some o) : TxIn P w xs S i h2 := by
  obtain ⟨ob, es, ep, tab, at_, more⟩ := T
  exact ⟨ob, es, ep, tab, k _ at_, more⟩
theorem not_yet {i : Nat} (nd : xs.Nodup) (hi : i < xs.length) : ((xs.take i).any (· == xs.getD i Str.empty)) = false := by
  have g : xs.getD i Str.empty = xs[i] := by rw [List.getD_eq_getElem?_getD, List.getElem?_eq_getElem hi]; rfl
  rw [g]
  cases c : (xs.take i).any (· == xs[i]) with
  | false => rfl
  | true =>
    obtain ⟨y, hy, ey⟩ := List.any_eq_true.mp c
    have ey : y = xs[i] := eq_of_beq ey
    subst ey
    obtain ⟨j, hj, ej⟩ := List.mem_iff_getElem.mp hy
    rw [List.length_take] at hj
    rw [List.getElem_take] at ej
    exact absurd ej (List.pairwise_iff_getElem.mp nd j i (by omega) hi (by omega))
theorem TxIn.next {i : Nat} {h : Heap} (nd : xs.Nodup) (hi : i < xs.length) (T : h.SetOf (PySem.strKind P w) S (fun t => ((xs.take i).any (· == t)) || decide (t = xs.getD i Str.empty)) (if ((xs.take i).any (· == xs.getD i Str.empty)) = true then i else i + 1)) : TxIn P w xs S (i + 1) h := by
  rw [not_yet nd hi] at T
  refine SetOf_congr T (fun t => ?_) rfl
  have g : xs.getD i Str.empty = xs[i] := by rw [List.getD_eq_getElem?_getD, List.getElem?_eq_getElem hi]; rfl
  rw [List.take_add_one, List.getElem?_eq_getElem hi, List.any_append, g]
  congr 1
  show decide (t = xs[i]) = ([xs[i]].any (· == t))
  rw [List.any_cons, List.any_nil, Bool.or_false, Bool.beq_eq_decide_eq]
  exact decide_eq_decide.mpr ⟨Eq.symm, Eq.symm⟩
theorem texts_in {I : Addr} {fp wr : List Addr} {G : Array GenState → Array GenState → Prop} {Pv : Nat → Value → Prop} {St : Nat → Shared → Prop} {R : Result → Shared → Prop} {n : Nat}
    (W : WalksS P w A.in1 I fp wr G n Pv St) (hn : n = xs.length) (out : S ∉ fp) (nd : xs.Nodup) (few : xs.length + 1 < scanBound) (val : ∀ i v, Pv i v → ∃ t, v = .str (xs.getD i Str.empty) t) :
    ∀ (m i : Nat) (u : Shared), xs.length - i = m → i ≤ xs.length → St i u → TxIn P w xs S i u.heap → (∀ u2, Moved (S :: wr) G u u2 → TxIn P w xs S xs.length u2.heap → R (.ok (.ret .none)) u2) →
      codeAny (model P w) A (.builtin "set.update.loop" ⟨[.ref S, .ref I], []⟩) R u := by
  subst hn
  have own : S ∉ wr := fun z => out (W.sub _ z)
  have more : ∀ b, b ∈ wr → b ∈ S :: wr := fun b z => List.mem_cons_of_mem _ z
  intro m
  induction m with
  | zero =>
    intro i u em le st T fin
    obtain rfl : i = xs.length := by omega
    refine codeAny_builtin F.entry_set_update_loop ?_
    rw [Around.under_plainId F.plain_set_update_loop _]
    show wpAny _ A.in1 (pyNext (.ref I) >>= _) _ _ u
    refine wpAny_bind (W.done u _ _ st fun u2 mv => ?_)
    show wpAny _ A.in1 (ret Value.none) _ _ u2
    exact wpAny_pure (fin u2 (mv.mono more) (T.keep fun o z => mv.heap S o own z))
  | succ m ih =>
    intro i u em le st T fin
    have lt : i < xs.length := by omega
    refine codeAny_builtin F.entry_set_update_loop ?_
    rw [Around.under_plainId F.plain_set_update_loop _]
    show wpAny _ A.in1 (pyNext (.ref I) >>= _) _ _ u
    refine wpAny_bind (W.item i u _ _ lt st fun v u2 pv st2 mv => ?_)
    obtain ⟨tok, rfl⟩ := val i v pv
    have T2 := T.keep (h2 := u2.heap) fun o z => mv.heap S o own z
    show wpAny _ A.in1 (holding [Value.str (xs.getD i Str.empty) tok] (setAdd S (.str (xs.getD i Str.empty) tok)) >>= _) _ _ u2
    refine wpAny_bind (wpAny_holding ?_)
    unfold setAdd
    refine wpAny_holding (wpAny_bind ((PySem.strKind P w).pyHash (k := xs.getD i Str.empty) (strKind_is _ _ _ _) ?_))
    refine wpAny_setAddHashed_of (knd := PySem.strKind P w) (s := { u2 with toks := u2.toks + 1 }) (strKind_is _ _ _ _) rfl T2 (by omega) fun h3 same T3 => ?_
    have off : ∀ b o, b ≠ S → u2.heap.get? b = some o → h3.get? b = some o := fun b o n z => (same.2 b n).trans z
    refine wpAny_pure ⟨plainId_quiet F.plain_set_update_loop _, ih (i + 1) _ (by omega) lt (W.frame _ u2 _ _ st2 (Nat.le_succ _) fun b hb o z => off b o (fun q => out (q ▸ hb)) z) (TxIn.next nd lt T3) fun u4 mv4 T4 => ?_⟩
    refine fin u4 (Moved.trans W.gtrans ((mv.mono more).then_heap (Nat.le_succ _) fun b o hb z => off b o (fun q => hb ?_) z) mv4) T4
    rw [q]
    exact List.mem_cons_self
end
end Ax
namespace Ax
open PySem PySem.Spec PyProof.Rows L2
section
variable {P : Program} {w : World} {A : Around} {E : Value → Shared → Prop} {s : Shared}
theorem txt_at : ∀ {us : List Value} {xs : List Str}, Vals (xs.map V.str) us → ∀ (i : Nat) (v : Value), us[i]? = some v → ∃ t, v = .str (xs.getD i Str.empty) t
  | [], [], _, i, v, h => by simp at h
  | _ :: _, _ :: _, .cons r rest, 0, v, h => by
    obtain ⟨t, rfl⟩ := r
    exact ⟨t, by simpa using h.symm⟩
  | _ :: _, _ :: _, .cons _ rest, i + 1, v, h => by
    obtain ⟨t, e⟩ := txt_at rest i v (by simpa using h)
    exact ⟨t, by rw [e]; rfl⟩
theorem set_of_texts {l : Addr} {items : Array Value} (xs : List Str) {Q : Value → Shared → Prop} (calm : A.handled = none) (isl : s.heap.IsList l items) (vals : Vals (xs.map V.str) items.toList) (nd : xs.Nodup) (few : xs.length + 1 < scanBound)
    (q : ∀ (h' : Heap) (tk : Nat), TxIn P w xs s.heap.objs.size xs.length h' → (∀ b o, s.heap.get? b = some o → h'.get? b = some o) → Q (.ref s.heap.objs.size) { s with heap := h', toks := tk }) :
    wpAny (model P w) A (call (.type "set") [.ref l]) Q E s := by
  have size : items.size = xs.length := by
    have e := vals.length
    rw [List.length_map, Array.length_toList] at e
    exact e.symm
  have hS : (s.heap.push (set0 w)).get? s.heap.objs.size = some (set0 w) := Heap.get?_push_size _ rfl
  have hT : Shared.TypeIs { s with heap := s.heap.push (set0 w) } (.ref s.heap.objs.size) "set" := ⟨_, hS, rfl⟩
  have lt : l < s.heap.objs.size := by
    obtain ⟨o, ho, _⟩ := isl
    exact Heap.lt_size ho
  refine call_cls (N := fun obj s1 => obj = .ref s.heap.objs.size ∧ s1 = { s with heap := s.heap.push (set0 w) }) F.called_set (F.typeCall_set_1 _) F.entry_set_init (code_set_led1 (.ref l) ⟨rfl, rfl⟩) fun obj s1 hq => ?_
  obtain ⟨rfl, rfl⟩ := hq
  refine ⟨hT, fun _ _ _ k => check_set_init_1 hT k, ?_⟩
  have isl1 : (s.heap.push (set0 w)).IsList l items := isl.push _
  have sz1 : (s.heap.push (set0 w)).objs.size = s.heap.objs.size + 1 := Heap.size_push ..
  have neI : l ≠ (s.heap.push (set0 w)).objs.size := Nat.ne_of_lt (by rw [sz1]; exact Nat.lt_succ_of_lt lt)
  obtain ⟨ol, hol, hcl, nl, hdl⟩ := isl
  obtain ⟨ocls, odict, odata, oslots⟩ := ol
  simp only at hcl hdl
  subst hcl
  subst hdl
  have hol' : (s.heap.push (set0 w)).get? l = some { cls := .type "list", dict := odict, data := .seq items nl, slots := oslots } := Heap.get?_push_of_some _ hol
  have h1 := F.sub_list_set
  have h2 := F.sub_list_frozenset
  have h3 : (Value.type "list" == Value.type "dict") = false := by decide
  unfold Builtin.«set.__init__» noKeywords Builtin.Frozenset.updateFrom
  generalize hPI : pyIter = PI
  wp_walk
  subst hPI
  refine wpAny_pyIter_list isl1 ?_
  refine wpAny_bind (wpAny_runValue ?_)
  have calm3 : A.in1.in1.in1.handled = none := by simp [calm]
  have fresh : s.heap.objs.size ∉ [(s.heap.push (set0 w)).objs.size, l] := by
    rw [sz1, List.mem_cons, List.mem_singleton]
    rintro (z | z)
    · exact absurd z (Nat.ne_of_lt (Nat.lt_succ_self _))
    · exact absurd z.symm (Nat.ne_of_lt lt)
  have val : ∀ (i : Nat) (v : Value), items[i]? = some v → ∃ t, v = .str (xs.getD i Str.empty) t := fun i v hv => txt_at vals i v (by rw [Array.getElem?_toList]; exact hv)
  have got : (((s.heap.push (set0 w)).push { cls := .type "list_iterator", data := .fields #[.ref l, .int 0 0] }).get? s.heap.objs.size) = some (set0 w) := Heap.get?_push_of_some _ hS
  refine texts_in ((Walks.list calm3 _ l neI items).toS) size fresh nd few val (xs.length - 0) 0 _ rfl (Nat.zero_le _) ⟨⟨_, Heap.get?_push_size _ rfl, rfl, rfl⟩, isl1.push _⟩ (SetOf_congr ((setObjOf_fresh (knd := PySem.strKind P w) (!w.params.followText "set-order")).setOf got (by unfold scanBound; omega)) (fun _ => rfl) rfl) fun s2 mv set2 => ?_
  obtain ⟨h2', g2, d2, tk2, os2⟩ := s2
  have eg : g2 = s.gens := mv.gens
  have ed : d2 = s.drawn := mv.drawn
  have eo : os2 = s.os := mv.os
  subst eg
  subst ed
  subst eo
  show wpAny _ _ _ _ _ _
  refine wpAny_pure ?_
  show wpAny _ _ (ret Value.none) _ _ _
  refine wpAny_pure ⟨rfl, q h2' tk2 set2 fun b o e => ?_⟩
  have b0 : b < s.heap.objs.size := Heap.lt_size e
  refine mv.heap b o ?_ (Heap.get?_push_of_some _ (Heap.get?_push_of_some _ e))
  rw [List.mem_cons, List.mem_singleton, sz1]
  rintro (z | z)
  · exact absurd z (Nat.ne_of_lt b0)
  · exact absurd z (Nat.ne_of_lt (Nat.lt_succ_of_lt b0))
end
/-- len(set(xs)), xs a list of texts, no two alike -/
def LsG (K : PySem.W.Frag) (Q : VK) (x : V) (H1 : Hp) : Prop := ∃ (l : Addr) (xs : List Str), x = .ref l ∧ SqL K H1 l (xs.map V.str) ∧ xs.Nodup ∧ xs.length ≤ 1000 ∧ Q (.int (xs.length : Nat)) H1
def tLenTxt (K : PySem.W.Frag) (ta : TE) : TE := fun σ H Q => ta σ H fun x H1 => LsG K Q x H1
theorem r_lenTxt {K : PySem.W.Frag} {ta : TE} {σ : L2.St} {H : Hp} {Q : VK} (h : ta σ H fun x H1 => LsG K Q x H1) : tLenTxt K ta σ H Q := h
theorem pe_lenTxt {X : Cx} {e : Expr} {te : TE} {p p2 q pos : Pos} (hg : Gl X "len") (hm : X.mg "len" = none) (hg2 : Gl X "set") (hm2 : X.mg "set" = none) (he : PE X e te) (hc : X.calm = true := by rfl)
    (na : starEach [e] X.env = (false, eval e X.env) :: starEach [] X.env := by rfl) : PE X (.Call (.Name "len" p) [.Call (.Name "set" p2) [e] [] q] [] pos) (tLenTxt X.K te) := by
  refine ⟨fun pins s σ H Q I h => Call_ (ld_blt I hg hm boot_len (callWith_builtin1 (args_cons ?_ rfl) rfl rfl))⟩
  refine Call_ (ld_blt I hg2 hm2 boot_set (callWith_type1 (args_cons (thn (he.run pins s σ H _ I h) fun v s1 got => args_nil ?_) na) na rfl))
  obtain ⟨x, H1, I1, r1, l, xs, rfl, hs, nd, hl, k⟩ := got
  cases r1
  obtain ⟨its, rv, pl, hz⟩ := I1.list hs
  refine set_of_texts xs (I1.ok.hd hc) pl.isList (by simpa using rv) nd (by unfold scanBound; omega) fun h' tk T keep => args_nil ?_
  obtain ⟨o, es, ep, tab, at_, ex, dat, _, _, _, fit, num⟩ := T
  exact call_len_set at_ ex dat fit (by rw [num] <;> omega) ⟨.int xs.length, H1, (I1.kept (t' := tk) keep).tok _, ⟨_, by rw [num]⟩, k⟩
end Ax
namespace Ax
open PySem L2 TL
theorem cut_mid (l : List Nat) {i j : Int} (hi : 0 ≤ i) (hj : i ≤ j) : cutS (mkS l) (some i) (some j) = mkS ((l.drop i.toNat).take (j - i).toNat) := by
  refine mkS_of ?_
  show (((mkS l).cps.toList.drop (HT.sIx (mkS l).length 0 (some i))).take (HT.sIx (mkS l).length (mkS l).length (some j) - HT.sIx (mkS l).length 0 (some i))) = _
  have e1 : HT.sIx (mkS l).length 0 (some i) = min i.toNat l.length := by
    unfold HT.sIx
    simp only [if_neg (show ¬ i < 0 by omega), mkS_len]
  have e2 : HT.sIx (mkS l).length (mkS l).length (some j) = min j.toNat l.length := by
    unfold HT.sIx
    simp only [if_neg (show ¬ j < 0 by omega), mkS_len]
  rw [e1, e2]
  show (l.drop _).take _ = _
  by_cases c : i.toNat ≤ l.length
  · rw [Nat.min_eq_left c]
    by_cases c2 : j.toNat ≤ l.length
    · rw [Nat.min_eq_left c2]
      congr 1
      omega
    · rw [Nat.min_eq_right (by omega), List.take_of_length_le (by rw [List.length_drop]; omega), List.take_of_length_le (by rw [List.length_drop]; omega)]
  · rw [show min i.toNat l.length = l.length by omega, List.drop_of_length_le (Nat.le_refl _), List.drop_of_length_le (show l.length ≤ i.toNat by omega)]
    simp
theorem r_slMid {l : List Nat} {i j : Int} {H : Hp} {Q : VK} (hi : 0 ≤ i) (hj : i ≤ j) (z : l.length ≤ 1000000) (h : Q (.str (mkS ((l.drop i.toNat).take (j - i).toNat))) H) : rSlS (.str (mkS l)) (some i) (some j) H Q :=
  ⟨_, rfl, by rw [mkS_len]; exact sz_ok z, by rw [cut_mid l hi hj]; exact h⟩
theorem numL_1000 {m : Nat} (h : m < 1000) : numL (m + 1000) = 49 :: digs 3 m := by
  rw [numL_step (n := m + 1000) (by omega), numL_step (n := (m + 1000) / 10) (by omega), numL_step (n := (m + 1000) / 10 / 10) (by omega), numL_lt (n := (m + 1000) / 10 / 10 / 10) (by omega)]
  unfold digs
  simp only [List.cons_append, List.nil_append, List.cons.injEq, and_true]
  omega
theorem rest_eq {n d : Nat} (h : d ≤ 3) : ((numL (n % 1000 + 1000)).drop 1).take d = digs d (n / pw10 d) := by
  rw [numL_1000 (Nat.mod_lt _ (by decide))]
  match d, h with
  | 0, _ => rfl
  | 1, _ =>
    show [48 + n % 1000 / 100 % 10] = [48 + n / 100 % 10]
    congr 1
    omega
  | 2, _ =>
    show [48 + n % 1000 / 100 % 10, 48 + n % 1000 / 10 % 10] = [48 + n / 10 / 10 % 10, 48 + n / 10 % 10]
    rw [show 48 + n % 1000 / 100 % 10 = 48 + n / 10 / 10 % 10 by omega, show 48 + n % 1000 / 10 % 10 = 48 + n / 10 % 10 by omega]
  | 3, _ =>
    show [48 + n % 1000 / 100 % 10, 48 + n % 1000 / 10 % 10, 48 + n % 1000 % 10] = [48 + n / 1 / 100 % 10, 48 + n / 1 / 10 % 10, 48 + n / 1 % 10]
    rw [Nat.div_one, show 48 + n % 1000 / 100 % 10 = 48 + n / 100 % 10 by omega, show 48 + n % 1000 / 10 % 10 = 48 + n / 10 % 10 by omega, show 48 + n % 1000 % 10 = 48 + n % 10 by omega]
theorem labs_nodup {ns : List Int} (r : Row ns) : (labsL ns).Nodup := by
  unfold labsL
  refine List.pairwise_map.mpr ?_
  refine (row_asc r).nodup.imp_of_mem ?_
  intro a b ha hb ne e
  exact ne (lab_inj (row_lab r ha) (row_lab r hb) e).1
end Ax
namespace Ax
open PySem L2
/-- a while loop: its measure and invariant W, what holds behind it P -/
theorem r_whileI {c : TT} {tb : TS} {D : Ends} {σ : L2.St} {H : Hp} (W : Nat → L2.St → Hp → Prop) (P : L2.St → Hp → Prop) (m0 : Nat) (h0 : W m0 σ H) (rest : ∀ σ' H', P σ' H' → D.nx σ' H')
    (step : ∀ m σ' H' (Nx : L2.St → Hp → Prop), W m σ' H' → (∀ σ2 H2, P σ2 H2 → Nx σ2 H2) → c σ' H' fun b H1 => if b = true then ∃ N : L2.St → Hp → Prop, (∀ σ2 H2, N σ2 H2 → ∃ m', m' < m ∧ W m' σ2 H2) ∧ tb { D with nx := N, ct := N, bk := Nx } σ' H1 else Nx σ' H1) : tWhile c tb D σ H :=
  ⟨W, ⟨m0, h0⟩, fun m σ' H' w => step m σ' H' D.nx w rest⟩
end Ax

namespace AxL
open PySem L2 Ax
open TL (tl numL numL_len numL_digits numL_ne numL_free numL_val spl joinL par len_tl ext_tl)
open PySem.NumText (digitsVal AllDigits)
/-! the words of this proof, as local rules of walk_at -/
local macro_rules | `(tactic| walk_at "ax_seq") => `(tactic| first
  | assumption
  | exact SqT.of (by assumption)
  | exact SqL.of (by assumption)
  | exact SqT.of upd_same
  | exact SqL.of upd_same
  | exact upd_same
  | (refine' SqT.updn ?np ?h; (case np => assumption); (case h => walk_at "ax_seq"))
  | (refine' SqL.updn ?np ?h; (case np => assumption); (case h => walk_at "ax_seq"))
  | (refine' at_updn ?np ?h; (case np => assumption); (case h => walk_at "ax_seq"))
  | (refine' Same.seqT ?s ?h; (case s => assumption); (case h => walk_at "ax_seq"))
  | (refine' Same.seq ?s ?h; (case s => assumption); (case h => walk_at "ax_seq"))
  | (refine' same_at ?s ?h; (case s => assumption); (case h => walk_at "ax_seq"))
  | (refine' Kp.seqT ?s ?r ?h; (case s => assumption); (case r => assumption); (case h => walk_at "ax_seq"))
  | (refine' Kp.seqL ?s ?o ?h; (case s => assumption); (case o => assumption); (case h => walk_at "ax_seq"))
  | (refine' Kp.at ?s ?o ?h; (case s => assumption); (case o => assumption); (case h => walk_at "ax_seq")))
local macro_rules | `(tactic| walk_at "ax_get") => `(tactic| first
  | ((with_reducible refine' get_ne ?n ?h); (case n => decide); (case h => walk_at "ax_get"))
  | ((with_reducible refine' get_eq ?l); (case l => walk_at "ax_len"))
  | ((with_reducible refine' get_wipe ?n ?h); (case n => rfl); (case h => walk_at "ax_get"))
  | rfl)
local macro_rules | `(tactic| walk_at "ax_len") => `(tactic| first
  | ((with_reducible refine' len_set ?h); (case h => walk_at "ax_len"))
  | ((with_reducible refine' len_wipe ?h); (case h => walk_at "ax_len"))
  | exact Nat.le_of_ble_eq_true rfl)
local macro_rules | `(tactic| walk_at "ax_dr") => `(tactic| first
  | assumption
  | (refine' Dr.updn ?np ?h; (case np => assumption); (case h => walk_at "ax_dr"))
  | (refine' Dr.same ?s ?h; (case s => assumption); (case h => walk_at "ax_dr")))
local macro_rules | `(tactic| walk_at "ax_dp") => `(tactic| first
  | exact Dp.int _
  | exact Dp.bl _
  | exact Dp.non
  | exact Dp.str _
  | (refine' dp_ints ?s; (case s => walk_at "ax_seq"))
  | (refine' Dp.tup ?s ?a; (case s => walk_at "ax_seq"); (case a => walk_at "ax_dpa"))
  | (refine' Dp.lst ?s ?a; (case s => walk_at "ax_seq"); (case a => walk_at "ax_dpa")))
local macro_rules | `(tactic| walk_at "ax_dpa") => `(tactic| first
  | exact DpAll.nil
  | (refine' DpAll.cons ?x ?y; (case x => walk_at "ax_dp"); (case y => walk_at "ax_dpa"))
  | exact dpa_ints _)
local macro_rules | `(tactic| walk_at "ax_isA") => `(tactic| ((with_reducible refine' r_isA ?ha ?C ?kc ?e ?_); (case kc => first | exact ClsV.own _ | exact ClsV.ty _); (case ha => walk_at "ax_seq"); (case C => assumption); (case e => assumption)))
local macro_rules | `(tactic| walk_at "ax_same") => `(tactic| first
  | assumption
  | exact Same.refl _
  | (refine' Same.updn ?s ?np; (case np => assumption); (case s => walk_at "ax_same"))
  | (refine' Same.trans ?s ?t; (case t => assumption); (case s => walk_at "ax_same")))
local macro_rules | `(tactic| walk_at "ax_side") => `(tactic| first
  | assumption
  | omega
  | (show (0 : Int) < _; omega)
  | exact ⟨by omega, by omega⟩
  | exact Or.inl ⟨by omega, by omega⟩
  | exact Or.inr ⟨by omega, by omega⟩
  | exact ⟨by omega, by omega, by omega⟩)
local macro_rules | `(tactic| walk_at "ax_ix") => `(tactic| ((fail_if_success with_reducible refine at_map ?_); first
  | rfl
  | exact atI_nat rfl))
local macro_rules | `(tactic| walk_at "ax_1") => `(tactic| first
  | with_reducible refine r_seqAsg ?_
  | with_reducible refine r_seqDrop ?_
  | with_reducible refine r_seqIf ?_
  | with_reducible refine r_seqIf2 ?_
  | with_reducible refine r_seq ?_
  | with_reducible refine r_ret ?_
  | with_reducible refine r_op ?_
  | ((with_reducible refine' r_var ?e ?_); (case e => walk_at "ax_get"))
  | with_reducible refine r_c ?_
  | with_reducible refine r_I0 ?_
  | ((with_reducible refine' r_I ?c ?_); (case c => walk_at "ax_side"))
  | with_reducible refine r_un ?_
  | with_reducible refine r_U ?_
  | with_reducible refine r_test ?_
  | with_reducible refine r_tB ?_
  | with_reducible refine r_bk ?_
  | with_reducible refine r_bk' ?_
  | with_reducible refine r_eqI ?_
  | with_reducible refine r_neI ?_
  | with_reducible refine r_eqS ?_
  | with_reducible refine r_eqB ?_
  | with_reducible refine r_neB ?_
  | with_reducible refine r_neS ?_
  | with_reducible refine r_t ?_
  | with_reducible refine r_f ?_
  | with_reducible refine r_nnt ?_
  | with_reducible refine r_nnf ?_
  | with_reducible refine r_cons ?_
  | with_reducible refine r_nil ?_
  | with_reducible refine r_call ?_
  | with_reducible refine r_callS ?_
  | with_reducible refine r_cb ?_
  | with_reducible refine r_not ?_
  | with_reducible refine r_and ?_
  | with_reducible refine r_or ?_
  | with_reducible refine r_andV ?_
  | with_reducible refine r_orV ?_
  | with_reducible refine r_notV ?_
  | with_reducible refine r_ifE ?_
  | with_reducible refine r_ifS ?_
  | with_reducible refine r_chain ?_
  | with_reducible refine r_chain3 ?_
  | with_reducible refine r_revL ?_
  | ((with_reducible refine' r_rev ?s ?_); (case s => walk_at "ax_seq"))
  | with_reducible refine r_tup ?_
  | with_reducible refine r_lst ?_
  | ((with_reducible refine' r_new ?e ?_); (case e => rfl))
  | ((with_reducible refine' r_ixT ?s ?a ?_); (case s => walk_at "ax_seq"); (case a => walk_at "ax_ix"))
  | ((with_reducible refine' r_ixL ?s ?a ?_); (case s => walk_at "ax_seq"); (case a => walk_at "ax_ix"))
  | with_reducible refine r_asg ?_
  | with_reducible refine r_drop ?_
  | with_reducible refine r_gname ?_
  | ((with_reducible refine' r_aug ?e ?_); (case e => walk_at "ax_get"))
  | with_reducible refine r_ipI ?_
  | with_reducible refine r_next ?_
  | ((with_reducible refine' r_lenT2 ?s ?_); (case s => walk_at "ax_seq"))
  | ((with_reducible refine' r_lenT ?s ?_); (case s => walk_at "ax_seq"))
  | ((with_reducible refine' r_lenL ?s ?_); (case s => walk_at "ax_seq"))
  | with_reducible refine r_try ?_
  | ((with_reducible refine' r_keep1 ?m ?e ?_); (case m => assumption); (case e => exact fun _ => rfl))
  | ((with_reducible refine' r_gtup2 ?s ?_); (case s => walk_at "ax_seq"))
  | ((with_reducible refine' r_gtup3 ?s ?_); (case s => walk_at "ax_seq"))
  | ((with_reducible refine' r_gtup4 ?s ?_); (case s => walk_at "ax_seq"))
  | with_reducible refine r_iR3 ?_
  | with_reducible refine r_lstR3 ?_
  | with_reducible refine r_notB ?_
  | with_reducible refine r_isB ?_
  | with_reducible refine r_parS ?_
  | with_reducible refine r_par ?_
  | with_reducible refine r_parS3 ?_
  | with_reducible refine r_par3 ?_
  | ((with_reducible refine' r_inI ?s ?_); (case s => walk_at "ax_seq"))
  | ((with_reducible refine' r_notInI ?s ?_); (case s => walk_at "ax_seq"))
  | ((with_reducible refine' r_eqNil ?s ?n ?_); (case n => exact SqL.of upd_same); (case s => walk_at "ax_seq"))
  | ((with_reducible refine' r_neNil ?s ?n ?_); (case n => exact SqL.of upd_same); (case s => walk_at "ax_seq"))
  | ((with_reducible refine' r_eqInts ?s ?t ?_); (case s => walk_at "ax_seq"); (case t => walk_at "ax_seq"))
  | ((with_reducible refine' r_neInts ?s ?t ?_); (case s => walk_at "ax_seq"); (case t => walk_at "ax_seq"))
  | with_reducible refine r_abs ?_
  | with_reducible refine r_gsub ?_
  | with_reducible refine r_fldX ?_
  | with_reducible refine r_putX ?_
  | with_reducible refine r_seqPut ?_
  | with_reducible refine r_methX ?_
  | with_reducible refine r_methT ?_
  | with_reducible refine r_make ?_
  | with_reducible refine r_seqAsgG ?_
  | with_reducible refine r_bm ?_
  | ((with_reducible refine' r_bmL ?s ?_); (case s => walk_at "ax_seq"))
  | with_reducible refine r_bm0 ?_
  | walk_at "ax_isA"
  | with_reducible refine r_lc ?_
  | with_reducible refine r_for ?_
  | with_reducible refine r_iR1 ?_
  | with_reducible refine r_iR2 ?_
  | with_reducible refine r_iL ?_
  | with_reducible refine r_iT ?_
  | with_reducible refine r_yes ?_
  | with_reducible refine r_sl ?_
  | with_reducible refine r_noPart ?_
  | with_reducible refine r_part ?_
  | with_reducible refine r_partI ?_
  | ((with_reducible refine' r_slL ?s ?_); (case s => walk_at "ax_seq"))
  | ((with_reducible refine' r_isLsL ?s ?_); (case s => walk_at "ax_seq"))
  | with_reducible refine r_iZip ?_
  | ((with_reducible refine' r_zip ?s ?t ?_); (case s => walk_at "ax_seq"); (case t => walk_at "ax_seq"))
  | with_reducible refine r_dget ?_
  | with_reducible refine r_dget2 ?_
  | with_reducible refine r_dnew ?_
  | with_reducible refine r_dput ?_
  | ((with_reducible refine' r_sumL ?s ?_); (case s => walk_at "ax_seq"))
  | ((with_reducible refine' r_cntI ?s ?_); (case s => walk_at "ax_seq"))
  | with_reducible refine r_lstRg1 ?_
  | with_reducible refine r_lstRg2 ?_
  | ((with_reducible refine' r_lrg1 ?b ?_); (case b => exact ⟨by omega, by omega⟩))
  | ((with_reducible refine' r_lrg2 ?b ?_); (case b => exact ⟨by omega, by omega, by omega, by omega⟩))
  | ((with_reducible refine' r_rn1 ?b ?_); (case b => exact ⟨by omega, by omega⟩))
  | ((with_reducible refine' r_rn2 ?b ?_); (case b => exact ⟨by omega, by omega, by omega, by omega⟩))
  | ((with_reducible refine' r_il ?s ?_); (case s => walk_at "ax_seq"))
  | ((with_reducible refine' r_it ?s ?_); (case s => walk_at "ax_seq"))
  | with_reducible refine r_max2 ?_
  | with_reducible refine r_min2 ?_
  | with_reducible refine r_isNN ?_
  | with_reducible refine r_isNR ?_
  | with_reducible refine r_isInt ?_
  | with_reducible refine r_isBlI ?_
  | ((with_reducible refine' r_isTpT ?s ?_); (case s => walk_at "ax_seq"))
  | with_reducible refine r_nxmk ?_
  | with_reducible refine r_rtmk ?_
  | ((with_reducible refine' r_addM ?z ?_); (case z => walk_at "ax_tz"))
  | ((with_reducible refine' r_lenSM ?z ?_); (case z => walk_at "ax_tz"))
  | ((with_reducible refine' r_strN ?b ?_); (case b => omega))
  | ((with_reducible refine' r_strI ?b ?_); (case b => exact ⟨by omega, by omega⟩))
  | ((with_reducible refine' r_slFrom ?n ?z ?_); (case n => omega); (case z => walk_at "ax_tz"))
  | ((with_reducible refine' r_slTo ?n ?z ?_); (case n => omega); (case z => walk_at "ax_tz"))
  | with_reducible refine r_tm ?_
  | with_reducible refine r_tmS ?_
  | ((with_reducible refine' r_partM ?z ?_); (case z => walk_at "ax_tz"))
  | with_reducible refine r_iS ?_
  | with_reducible refine r_is ?_
  | with_reducible refine r_inM ?_
  | with_reducible refine r_js0 ?_
  | with_reducible refine r_js ?_
  | with_reducible refine r_jsN ?_
  | with_reducible refine r_fmt ?_
  | ((with_reducible refine' r_fmtI ?b ?_); (case b => exact ⟨by omega, by omega⟩))
  | ((with_reducible refine' r_jsM ?z ?_); (case z => walk_at "ax_tz"))
  | walk_at "ax_call"
  | walk_at "ax_if")
local macro_rules | `(tactic| walk_at "ax_tz") => `(tactic| first
  | assumption
  | omega
  | ((simp only [List.length_append, List.length_cons, List.length_nil, List.length_drop, List.length_take, List.length_replicate]); omega))
local macro_rules | `(tactic| walk_at "ax_if") => `(tactic| first
  | ((with_reducible refine' r_dt ?hp ?_); (case hp => first | assumption | omega))
  | ((with_reducible refine' r_df ?hp ?_); (case hp => first | assumption | omega))
  | ((with_reducible refine' r_ndf ?hp ?_); (case hp => first | assumption | omega))
  | ((with_reducible refine' r_ndt ?hp ?_); (case hp => first | assumption | omega))
  | ((with_reducible refine' r_ndf ?hp ?_); (case hp => with_reducible rfl))
  | ((with_reducible refine' r_dt ?hp ?_); (case hp => with_reducible rfl)))
local macro_rules | `(tactic| walk_at "ax_call") => `(tactic| fail)
local macro_rules | `(tactic| walk_at "ax_go") => `(tactic| repeat walk_at "ax_1")
local macro_rules | `(tactic| walk_at "ax_rg") => `(tactic| first | assumption | exact ⟨by omega, by omega, by omega⟩)
local macro_rules | `(tactic| walk_at "ax_st") => `(tactic| first | assumption | decide)
local macro_rules | `(tactic| walk_at "ax_goI") => `(tactic| repeat ((fail_if_success with_reducible refine r_seqIf ?_); walk_at "ax_1"))
local macro_rules | `(tactic| walk_at "ax_goJ") => `(tactic| repeat ((fail_if_success with_reducible refine r_seqIf2 ?_); walk_at "ax_1"))

def topS (i : Nat) : Stmt := PySem.Challenge.pw_axissteps_k10_whole_labels.main.body.getD i (.Pass ⟨0, 0, 0, 0⟩)
abbrev s_is_int : Stmt := topS 9
abbrev s_check_marks : Stmt := topS 10
abbrev s_digits_of : Stmt := topS 14
abbrev s_digits_needed : Stmt := topS 15
abbrev s_written : Stmt := topS 16
abbrev s_label : Stmt := topS 17
abbrev s_labels : Stmt := topS 18
abbrev s_parse_label : Stmt := topS 19
abbrev s_label_width : Stmt := topS 20
abbrev s_parse_labels : Stmt := topS 21
abbrev s__law_start : Stmt := topS 23
abbrev s__law_draw : Stmt := topS 24
abbrev s__law_pick : Stmt := topS 25
abbrev s__law_error : Stmt := topS 26
abbrev s__law_steps : Stmt := topS 27
abbrev s__law_step : Stmt := topS 28
abbrev s__law_written : Stmt := topS 29
abbrev s__law_call : Stmt := topS 30
abbrev s_law : Stmt := topS 31
theorem sc_is_int : FnScope ["value", "low", "high"] ["value", "low", "high"] (defScope s_is_int) := ⟨rfl, rfl, rfl, by decide +kernel, rfl, by decide +kernel, by decide +kernel⟩
theorem sc_check_marks : FnScope ["value", "a", "b", "one"] ["value"] (defScope s_check_marks) := ⟨rfl, rfl, rfl, by decide +kernel, rfl, by decide +kernel, by decide +kernel⟩
theorem sc_digits_of : FnScope ["row", "digits", "value"] ["row"] (defScope s_digits_of) := ⟨rfl, rfl, rfl, by decide +kernel, rfl, by decide +kernel, by decide +kernel⟩
theorem sc_digits_needed : FnScope ["row"] ["row"] (defScope s_digits_needed) := ⟨rfl, rfl, rfl, by decide +kernel, rfl, by decide +kernel, by decide +kernel⟩
theorem sc_written : FnScope ["value", "digits", "plain", "sign", "text"] ["value", "digits"] (defScope s_written) := ⟨rfl, rfl, rfl, by decide +kernel, rfl, by decide +kernel, by decide +kernel⟩
theorem sc_label : FnScope ["value", "digits"] ["value", "digits"] (defScope s_label) := ⟨rfl, rfl, rfl, by decide +kernel, rfl, by decide +kernel, by decide +kernel⟩
theorem sc_labels : FnScope ["row", "value"] ["row"] (defScope s_labels) := ⟨rfl, rfl, rfl, by decide +kernel, rfl, by decide +kernel, by decide +kernel⟩
theorem sc_parse_label : FnScope ["text", "plain", "whole", "point", "rest", "value", "sign"] ["text"] (defScope s_parse_label) := ⟨rfl, rfl, rfl, by decide +kernel, rfl, by decide +kernel, by decide +kernel⟩
theorem sc_label_width : FnScope ["row", "value"] ["row"] (defScope s_label_width) := ⟨rfl, rfl, rfl, by decide +kernel, rfl, by decide +kernel, by decide +kernel⟩
theorem sc_parse_labels : FnScope ["texts", "found", "text", "value", "a", "b"] ["texts"] (defScope s_parse_labels) := ⟨rfl, rfl, rfl, by decide +kernel, rfl, by decide +kernel, by decide +kernel⟩
theorem sc__law_start : FnScope ["_law_script"] ["_law_script"] (defScope s__law_start) := ⟨rfl, rfl, rfl, by decide +kernel, rfl, by decide +kernel, by decide +kernel⟩
theorem sc__law_draw : FnScope ["_law_draws", "_law_limit", "_law_numbers", "_law_at", "_law_cell", "_law_mixed"] ["_law_draws", "_law_limit"] (defScope s__law_draw) := ⟨rfl, rfl, rfl, by decide +kernel, rfl, by decide +kernel, by decide +kernel⟩
theorem sc__law_pick : FnScope ["_law_draws", "_law_choices"] ["_law_draws", "_law_choices"] (defScope s__law_pick) := ⟨rfl, rfl, rfl, by decide +kernel, rfl, by decide +kernel, by decide +kernel⟩
theorem sc__law_error : FnScope ["_law_caught", "_law_kinds"] ["_law_caught"] (defScope s__law_error) := ⟨rfl, rfl, rfl, by decide +kernel, rfl, by decide +kernel, by decide +kernel⟩
theorem sc__law_steps : FnScope ["_law_found", "_law_power", "_law_turn"] [] (defScope s__law_steps) := ⟨rfl, rfl, rfl, by decide +kernel, rfl, by decide +kernel, by decide +kernel⟩
theorem sc__law_step : FnScope ["_law_draws", "_law_many"] ["_law_draws", "_law_many"] (defScope s__law_step) := ⟨rfl, rfl, rfl, by decide +kernel, rfl, by decide +kernel, by decide +kernel⟩
theorem sc__law_written : FnScope ["_law_value", "_law_digits", "_law_under", "_law_whole", "_law_rest"] ["_law_value", "_law_digits"] (defScope s__law_written) := ⟨rfl, rfl, rfl, by decide +kernel, rfl, by decide +kernel, by decide +kernel⟩
theorem sc__law_call : FnScope ["_law_kind", "_law_one", "_law_two", "_law_found", "_law_caught", "e"] ["_law_kind", "_law_one", "_law_two"] (defScope s__law_call) := ⟨rfl, rfl, rfl, by decide +kernel, rfl, by decide +kernel, by decide +kernel⟩
theorem sc_law : FnScope ["_law_script", "_law_draws", "_law_step_here", "_law_first", "_law_row", "_law_digits", "_law_value", "_law_due", "_law_text", "_law_many", "_law_wrong", "_law_told", "_law_k"] ["_law_script"] (defScope s_law) := ⟨rfl, rfl, rfl, by decide +kernel, rfl, by decide +kernel, by decide +kernel⟩
structure Txt (K : PySem.W.Frag) (mg : Str → Option Value) : Type where
  z_ValueError : mg "ValueError" = none
  z_abs : mg "abs" = none
  z_all : mg "all" = none
  z_bool : mg "bool" = none
  z_int : mg "int" = none
  z_isinstance : mg "isinstance" = none
  z_len : mg "len" = none
  z_list : mg "list" = none
  z_max : mg "max" = none
  z_range : mg "range" = none
  z_set : mg "set" = none
  z_str : mg "str" = none
  z_zip : mg "zip" = none
  DIGITS : Cst K mg "DIGITS" (.str "0123456789")
  MOST : Cst K mg "MOST" (.int 1000000)
  POWERS : Ctp K mg "POWERS" [.int 1000, .int 100, .int 10, .int 1]
  AxisError : Exn K mg "AxisError"
  BadMarks : Exn K mg "BadMarks"
  BadNumber : Exn K mg "BadNumber"
  BadRange : Exn K mg "BadRange"
  BadStep : Exn K mg "BadStep"
  BadText : Exn K mg "BadText"
  NotFound : Exn K mg "NotFound"
  m_BadMarks : PySem.W.exmOne K (.ref BadMarks.C) (.ref AxisError.C) = some true
  m_BadNumber : PySem.W.exmOne K (.ref BadNumber.C) (.ref AxisError.C) = some true
  m_BadRange : PySem.W.exmOne K (.ref BadRange.C) (.ref AxisError.C) = some true
  m_BadStep : PySem.W.exmOne K (.ref BadStep.C) (.ref AxisError.C) = some true
  m_BadText : PySem.W.exmOne K (.ref BadText.C) (.ref AxisError.C) = some true
  m_NotFound : PySem.W.exmOne K (.ref NotFound.C) (.ref AxisError.C) = some true
  q_BadMarks_AxisError : PySem.W.kitOne K (.ref BadMarks.C) (.ref AxisError.C) = some true
  q_BadMarks_BadMarks : PySem.W.kitOne K (.ref BadMarks.C) (.ref BadMarks.C) = some true
  q_BadMarks_BadNumber : PySem.W.kitOne K (.ref BadMarks.C) (.ref BadNumber.C) = some false
  q_BadMarks_BadRange : PySem.W.kitOne K (.ref BadMarks.C) (.ref BadRange.C) = some false
  q_BadMarks_BadStep : PySem.W.kitOne K (.ref BadMarks.C) (.ref BadStep.C) = some false
  q_BadMarks_BadText : PySem.W.kitOne K (.ref BadMarks.C) (.ref BadText.C) = some false
  q_BadMarks_NotFound : PySem.W.kitOne K (.ref BadMarks.C) (.ref NotFound.C) = some false
  q_BadMarks_ValueError : PySem.W.kitOne K (.ref BadMarks.C) (.type "ValueError") = some true
  q_BadNumber_AxisError : PySem.W.kitOne K (.ref BadNumber.C) (.ref AxisError.C) = some true
  q_BadNumber_BadMarks : PySem.W.kitOne K (.ref BadNumber.C) (.ref BadMarks.C) = some false
  q_BadNumber_BadNumber : PySem.W.kitOne K (.ref BadNumber.C) (.ref BadNumber.C) = some true
  q_BadNumber_BadRange : PySem.W.kitOne K (.ref BadNumber.C) (.ref BadRange.C) = some false
  q_BadNumber_BadStep : PySem.W.kitOne K (.ref BadNumber.C) (.ref BadStep.C) = some false
  q_BadNumber_BadText : PySem.W.kitOne K (.ref BadNumber.C) (.ref BadText.C) = some false
  q_BadNumber_NotFound : PySem.W.kitOne K (.ref BadNumber.C) (.ref NotFound.C) = some false
  q_BadNumber_ValueError : PySem.W.kitOne K (.ref BadNumber.C) (.type "ValueError") = some true
  q_BadRange_AxisError : PySem.W.kitOne K (.ref BadRange.C) (.ref AxisError.C) = some true
  q_BadRange_BadMarks : PySem.W.kitOne K (.ref BadRange.C) (.ref BadMarks.C) = some false
  q_BadRange_BadNumber : PySem.W.kitOne K (.ref BadRange.C) (.ref BadNumber.C) = some false
  q_BadRange_BadRange : PySem.W.kitOne K (.ref BadRange.C) (.ref BadRange.C) = some true
  q_BadRange_BadStep : PySem.W.kitOne K (.ref BadRange.C) (.ref BadStep.C) = some false
  q_BadRange_BadText : PySem.W.kitOne K (.ref BadRange.C) (.ref BadText.C) = some false
  q_BadRange_NotFound : PySem.W.kitOne K (.ref BadRange.C) (.ref NotFound.C) = some false
  q_BadRange_ValueError : PySem.W.kitOne K (.ref BadRange.C) (.type "ValueError") = some true
  q_BadStep_AxisError : PySem.W.kitOne K (.ref BadStep.C) (.ref AxisError.C) = some true
  q_BadStep_BadMarks : PySem.W.kitOne K (.ref BadStep.C) (.ref BadMarks.C) = some false
  q_BadStep_BadNumber : PySem.W.kitOne K (.ref BadStep.C) (.ref BadNumber.C) = some false
  q_BadStep_BadRange : PySem.W.kitOne K (.ref BadStep.C) (.ref BadRange.C) = some false
  q_BadStep_BadStep : PySem.W.kitOne K (.ref BadStep.C) (.ref BadStep.C) = some true
  q_BadStep_BadText : PySem.W.kitOne K (.ref BadStep.C) (.ref BadText.C) = some false
  q_BadStep_NotFound : PySem.W.kitOne K (.ref BadStep.C) (.ref NotFound.C) = some false
  q_BadStep_ValueError : PySem.W.kitOne K (.ref BadStep.C) (.type "ValueError") = some true
  q_BadText_AxisError : PySem.W.kitOne K (.ref BadText.C) (.ref AxisError.C) = some true
  q_BadText_BadMarks : PySem.W.kitOne K (.ref BadText.C) (.ref BadMarks.C) = some false
  q_BadText_BadNumber : PySem.W.kitOne K (.ref BadText.C) (.ref BadNumber.C) = some false
  q_BadText_BadRange : PySem.W.kitOne K (.ref BadText.C) (.ref BadRange.C) = some false
  q_BadText_BadStep : PySem.W.kitOne K (.ref BadText.C) (.ref BadStep.C) = some false
  q_BadText_BadText : PySem.W.kitOne K (.ref BadText.C) (.ref BadText.C) = some true
  q_BadText_NotFound : PySem.W.kitOne K (.ref BadText.C) (.ref NotFound.C) = some false
  q_BadText_ValueError : PySem.W.kitOne K (.ref BadText.C) (.type "ValueError") = some true
  q_NotFound_AxisError : PySem.W.kitOne K (.ref NotFound.C) (.ref AxisError.C) = some true
  q_NotFound_BadMarks : PySem.W.kitOne K (.ref NotFound.C) (.ref BadMarks.C) = some false
  q_NotFound_BadNumber : PySem.W.kitOne K (.ref NotFound.C) (.ref BadNumber.C) = some false
  q_NotFound_BadRange : PySem.W.kitOne K (.ref NotFound.C) (.ref BadRange.C) = some false
  q_NotFound_BadStep : PySem.W.kitOne K (.ref NotFound.C) (.ref BadStep.C) = some false
  q_NotFound_BadText : PySem.W.kitOne K (.ref NotFound.C) (.ref BadText.C) = some false
  q_NotFound_NotFound : PySem.W.kitOne K (.ref NotFound.C) (.ref NotFound.C) = some true
  q_NotFound_ValueError : PySem.W.kitOne K (.ref NotFound.C) (.type "ValueError") = some true
  is_int : Df K mg "is_int" s_is_int ["value", "low", "high"]
  check_marks : Df K mg "check_marks" s_check_marks ["value"]
  digits_of : Df K mg "digits_of" s_digits_of ["row"]
  digits_needed : Df K mg "digits_needed" s_digits_needed ["row"]
  written : Df K mg "written" s_written ["value", "digits"]
  label : Df K mg "label" s_label ["value", "digits"]
  labels : Df K mg "labels" s_labels ["row"]
  parse_label : Df K mg "parse_label" s_parse_label ["text"]
  label_width : Df K mg "label_width" s_label_width ["row"]
  parse_labels : Df K mg "parse_labels" s_parse_labels ["texts"]
  _law_start : Df K mg "_law_start" s__law_start ["_law_script"]
  _law_draw : Df K mg "_law_draw" s__law_draw ["_law_draws", "_law_limit"]
  _law_pick : Df K mg "_law_pick" s__law_pick ["_law_draws", "_law_choices"]
  _law_error : Df K mg "_law_error" s__law_error ["_law_caught"]
  _law_steps : Df K mg "_law_steps" s__law_steps []
  _law_step : Df K mg "_law_step" s__law_step ["_law_draws", "_law_many"]
  _law_written : Df K mg "_law_written" s__law_written ["_law_value", "_law_digits"]
  _law_call : Df K mg "_law_call" s__law_call ["_law_kind", "_law_one", "_law_two"]
  law : Df K mg "law" s_law ["_law_script"]
section
variable {P : Program} {w : World} {K : PySem.W.Frag} {mg : Str → Option Value} {base : Heap}
/-! ### is_int -/
def sp_is_int (_ : Txt K mg) : Sp := fun vs H Q _ => ∃ (v : V) (lo hi : Int), vs = [v, .int lo, .int hi] ∧
  ((∃ i, v = .int i ∧ Q (.bl (decide (lo ≤ i ∧ i ≤ hi))) H) ∨ (NotInt K H v ∧ Q (.bl false) H))
theorem ok_is_int (T : Txt K mg) : FnOk P w K mg base CX0 1 T.is_int.f T.is_int.fd ["value", "low", "high"] (sp_is_int T) := by
  refine T.is_int.F.ok sc_is_int (fun vs H Q E h => ?_) (fun cdv A outer s H vs Q E hr h => ?_)
  · obtain ⟨v, lo, hi, rfl, _⟩ := h; rfl
  · refine ⟨_, (pss_one (ps_ret (pe_and (pe_callB call_isi (by rfl) T.z_isinstance (by decide +kernel) (pa_cons (pv 0) (pa_cons (pe_bltn (v := .ty "int") rfl T.z_int (by decide +kernel) rfl) pa_nil))) (pe_and (pe_not (pe_callB call_isi (by rfl) T.z_isinstance (by decide +kernel) (pa_cons (pv 0) (pa_cons (pe_bltn (v := .ty "bool") rfl T.z_bool (by decide +kernel) rfl) pa_nil)))) (pe_one (pe_chain op_le op_le (pv 1) (pv 0) (pv 2))))))), ?_⟩
    try dsimp only [cxOf]
    obtain ⟨v, lo, hi, rfl, k⟩ := h
    walk_at "ax_go"
    rcases k with ⟨i, rfl, k⟩ | ⟨n, k⟩
    · walk_at "ax_go"
      by_cases c : lo ≤ i
      · refine r_dt c ?_
        walk_at "ax_go"
        have e : decide (lo ≤ i ∧ i ≤ hi) = decide (i ≤ hi) := by simp [c]
        rw [e] at k
        exact k
      · refine r_df c ?_
        have e : decide (lo ≤ i ∧ i ≤ hi) = false := by simp [c]
        rw [e] at k
        exact k
    · cases n with
      | non => exact r_isIntN ⟨_, rfl, r_f k⟩
      | str x => exact r_isIntS ⟨_, rfl, r_f k⟩
      | lst s => exact r_isIntL s ⟨_, rfl, r_f k⟩
      | tup s => exact r_isIntT s ⟨_, rfl, r_f k⟩
      | bl b =>
        refine r_isIntB ?_
        walk_at "ax_go"
        refine r_isBlB ?_
        walk_at "ax_go"
        exact k
theorem c_is_intI {T : Txt K mg} {H : Hp} {Q : VK} {E : XK} {i lo hi : Int} (h : Q (.bl (decide (lo ≤ i ∧ i ≤ hi))) H) : sp_is_int T [.int i, .int lo, .int hi] H Q E := ⟨_, lo, hi, rfl, .inl ⟨i, rfl, h⟩⟩
theorem c_is_intN {T : Txt K mg} {H : Hp} {Q : VK} {E : XK} {v : V} {lo hi : Int} (n : NotInt K H v) (h : Q (.bl false) H) : sp_is_int T [v, .int lo, .int hi] H Q E := ⟨v, lo, hi, rfl, .inr ⟨n, h⟩⟩
local macro_rules | `(tactic| walk_at "ax_call") => `(tactic| with_reducible refine c_is_intI ?_)
local macro_rules | `(tactic| walk_at "ax_call") => `(tactic| ((with_reducible refine' c_is_intN ?n ?_); (case n => assumption)))
/-! ### check_marks -/
def sp_check_marks (T : Txt K mg) : Sp := fun vs H Q E => ∃ (v : V), vs = [v] ∧ ((∃ ns, IsRow K H v ns ∧ ∀ H', Same H H' → Q .non H') ∨ (NotRow K H v ∧ ∀ H', Same H H' → E (.ref T.BadMarks.C) none H'))
theorem ok_check_marks (T : Txt K mg) : FnOk P w K mg base (L2.CX P w) 2 T.check_marks.f T.check_marks.fd ["value"] (sp_check_marks T) := by
  refine T.check_marks.F.okX sc_check_marks (fun vs H Q E h => ?_) (fun cdv A outer s H vs Q E hr h => ?_)
  · obtain ⟨v, rfl, _⟩ := h; rfl
  · refine ⟨_, (pss_cons (ps_if (PW.pt (pw_or (pt_not (pt_val (pe_callB call_isi (by rfl) T.z_isinstance (by decide +kernel) (pa_cons (pv 0) (pa_cons (pe_bltn (v := .ty "list") rfl T.z_list (by decide +kernel) rfl) pa_nil))))) (pw_or (pt_not (pt_chain op_le op_le pe_int (pe_callB xc_len (by rfl) T.z_len PySem.boot_len (pa_cons (pv 0) pa_nil)) pe_int)) (pw_or1 (pt_not (pt_val (pe_callB (cr_all rfl) (by rfl) T.z_all (by decide +kernel) (pa_cons (pe_lc (own := [("one", 3)]) rfl sc_check_marks.nd (pi_list (pv 0)) (blkOk_by (N := ["value", "a", "b", "one"]) (sc := defScope s_check_marks) (by decide +kernel)) (fun _ _ _ _ _ => (pg_name (i := 3) sc_check_marks.nd rfl (Or.inl rfl))) (fun _ _ _ _ _ => pts_nil) (fun _ _ _ _ _ => (pe_call (ok_is_int T) (hr.mono (by decide)) rfl T.is_int.g T.is_int.F.kp T.is_int.b .nil pass0 (pa_cons (pv 3) (pa_cons (pe_un un_neg (pe_glob rfl T.MOST.g T.MOST.r)) (pa_cons (pe_glob rfl T.MOST.g T.MOST.r) pa_nil)))))) pa_nil))))))))
          (pss_one (ps_raise rfl (takes_of rfl rfl rfl rfl) (pmk_own PySem.F.excBase_ValueError T.BadMarks.x T.BadMarks.g T.BadMarks.k (raises_own T.BadMarks.b T.BadMarks.t) rfl)))
          pss_nil)
        (pss_one (ps_if (pt_not (pt_val (pe_callB (cr_all rfl) (by rfl) T.z_all (by decide +kernel) (pa_cons (pe_lc (own := [("a", 1), ("b", 2)]) rfl sc_check_marks.nd (pi_zip (by rfl) T.z_zip (pa_cons (pv 0) (pa_cons (pe_slice sl_list (pv 0) (po_some pe_int) po_none) pa_nil))) (blkOk_by (N := ["value", "a", "b", "one"]) (sc := defScope s_check_marks) (by decide +kernel)) (fun _ _ _ _ _ => (pg_tupK (K := K) (n := 2) rfl rfl (pgs_cons (pg_name (i := 1) sc_check_marks.nd rfl (Or.inl rfl) (Or.inr rfl)) (pgs_cons (pg_name (i := 2) sc_check_marks.nd rfl (Or.inl rfl) (Or.inr rfl)) pgs_nil)))) (fun _ _ _ _ _ => pts_nil) (fun _ _ _ _ _ => (pe_cmpR op_lt (pv 1) (pv 2) (nomark _)))) pa_nil))))
          (pss_one (ps_raise rfl (takes_of rfl rfl rfl rfl) (pmk_own PySem.F.excBase_ValueError T.BadMarks.x T.BadMarks.g T.BadMarks.k (raises_own T.BadMarks.b T.BadMarks.t) rfl)))
          pss_nil))), ?_⟩
    try dsimp only [cxOf]
    obtain ⟨v, rfl, k⟩ := h
    rcases k with ⟨ns, ⟨a, rfl, s, r⟩, k⟩ | ⟨n, k⟩
    · have rr := row_iff.mp r
      obtain ⟨⟨r1, r2⟩, r3, r4⟩ := rr
      have r3' := inB_iff.mp r3
      walk_at "ax_go"
      rw [List.length_map]
      walk_at "ax_go"
      refine lc_intsB (f := fun x => decide (-1000000 ≤ x ∧ x ≤ 1000000)) (by omega) s (fun i H1 Q' hi s1 q => ?_) (fun D H1 s1 nD hD => ?_)
      · walk_at "ax_go"
        exact q _ (Same.refl _)
      walk_at "ax_go"
      refine r_allB (SqL.of hD) ?_
      rw [all_map]
      have e3 : (ns.all fun x => decide (-1000000 ≤ x ∧ x ≤ 1000000)) = true := r3
      rw [e3]
      have s' := Same.seq s1 s
      walk_at "ax_go"
      intro p np
      rw [cut_tail, ← List.map_drop]
      have s1' := SqL.updn (o := .lst ((ns.drop 1).map V.int)) np s'
      have s2' : SqL K (upd H1 p (.lst ((ns.drop 1).map V.int))) p ((ns.drop 1).map V.int) := SqL.of upd_same
      have sm := Same.updn (o := .lst ((ns.drop 1).map V.int)) s1 np
      generalize upd H1 p _ = H2 at s1' s2' sm ⊢
      walk_at "ax_go"
      refine lc_zipB (f := fun q => decide (q.1 < q.2)) (by decide) (by omega) s1' s2' (fun i x y H3 Q' e1 e2 s3 q => ?_) (fun D2 H3 s3 nD2 hD2 => ?_)
      · walk_at "ax_go"
        exact q _ (Same.refl _)
      walk_at "ax_go"
      refine r_allB (SqL.of hD2) ?_
      rw [all_map]
      have e4 : ((ns.zip (ns.drop 1)).all fun q => decide (q.1 < q.2)) = true := r4
      rw [e4]
      walk_at "ax_go"
      exact k _ (sm.trans s3)
    · cases n with
      | non =>
        walk_at "ax_go"
        refine r_isi (b := false) (.ty _) (.base .non) (kit_ty (by decide +kernel)) ?_
        walk_at "ax_go"
        exact k _ (Same.refl _)
      | bl b =>
        walk_at "ax_go"
        refine r_isi (b := false) (.ty _) (.base (.bl b)) (kit_ty (by decide +kernel)) ?_
        walk_at "ax_go"
        exact k _ (Same.refl _)
      | int i =>
        walk_at "ax_go"
        refine r_isi (b := false) (.ty _) (.base (.int i)) (kit_ty (by decide +kernel)) ?_
        walk_at "ax_go"
        exact k _ (Same.refl _)
      | str x =>
        walk_at "ax_go"
        refine r_isi (b := false) (.ty _) (.base (.str x)) (kit_ty (by decide +kernel)) ?_
        walk_at "ax_go"
        exact k _ (Same.refl _)
      | tup st =>
        walk_at "ax_go"
        refine r_isi (b := false) (.ty _) (tyx_T st) (kit_ty (by decide +kernel)) ?_
        walk_at "ax_go"
        exact k _ (Same.refl _)
      | @len a xs s hl =>
        walk_at "ax_go"
        by_cases c : 1 ≤ xs.length
        · walk_at "ax_go"
          exact k _ (Same.refl _)
        · walk_at "ax_go"
          exact k _ (Same.refl _)
      | @num a xs s hl hk hx =>
        obtain ⟨r1, r2⟩ := hl
        walk_at "ax_go"
        refine lc_valsB (f := numB (-1000000) 1000000) (by omega) s (fun v H1 Q' hv s1 q => ?_) (fun D H1 s1 nD hD => ?_)
        · rcases hk v hv with ⟨i, rfl⟩ | nv
          · walk_at "ax_go"
            exact q _ (Same.refl _)
          · have nv' := nv.same s1
            have eN : numB (-1000000) 1000000 v = false := by cases nv <;> rfl
            rw [eN] at q
            walk_at "ax_go"
            exact q _ (Same.refl _)
        walk_at "ax_go"
        refine r_allB (SqL.of hD) ?_
        rw [all_map, hx]
        walk_at "ax_go"
        exact k _ s1
      | @asc a ns s hl hb hu =>
        obtain ⟨r1, r2⟩ := hl
        walk_at "ax_go"
        rw [List.length_map]
        walk_at "ax_go"
        refine lc_intsB (f := fun x => decide (-1000000 ≤ x ∧ x ≤ 1000000)) (by omega) s (fun i H1 Q' hi s1 q => ?_) (fun D H1 s1 nD hD => ?_)
        · walk_at "ax_go"
          exact q _ (Same.refl _)
        walk_at "ax_go"
        refine r_allB (SqL.of hD) ?_
        rw [all_map]
        have e3 : (ns.all fun x => decide (-1000000 ≤ x ∧ x ≤ 1000000)) = true := hb
        rw [e3]
        have s' := Same.seq s1 s
        walk_at "ax_go"
        intro p np
        rw [cut_tail, ← List.map_drop]
        have s1' := SqL.updn (o := .lst ((ns.drop 1).map V.int)) np s'
        have s2' : SqL K (upd H1 p (.lst ((ns.drop 1).map V.int))) p ((ns.drop 1).map V.int) := SqL.of upd_same
        have sm := Same.updn (o := .lst ((ns.drop 1).map V.int)) s1 np
        generalize upd H1 p _ = H2 at s1' s2' sm ⊢
        walk_at "ax_go"
        refine lc_zipB (f := fun q => decide (q.1 < q.2)) (by decide) (by omega) s1' s2' (fun i x y H3 Q' e1 e2 s3 q => ?_) (fun D2 H3 s3 nD2 hD2 => ?_)
        · walk_at "ax_go"
          exact q _ (Same.refl _)
        walk_at "ax_go"
        refine r_allB (SqL.of hD2) ?_
        rw [all_map]
        have e4 : ((ns.zip (ns.drop 1)).all fun q => decide (q.1 < q.2)) = false := hu
        rw [e4]
        walk_at "ax_go"
        exact k _ (sm.trans s3)
theorem c_check_marks {T : Txt K mg} {H : Hp} {Q : VK} {E : XK} {a : Addr} {ns : List Int} (s : SqL K H a (ns.map V.int)) (r : Row ns) (h : ∀ H', Same H H' → Q .non H') : sp_check_marks T [.ref a] H Q E := ⟨_, rfl, .inl ⟨ns, ⟨a, rfl, s, r⟩, h⟩⟩
theorem c_check_marksN {T : Txt K mg} {H : Hp} {Q : VK} {E : XK} {v : V} (n : NotRow K H v) (h : ∀ H', Same H H' → E (.ref T.BadMarks.C) none H') : sp_check_marks T [v] H Q E := ⟨v, rfl, .inr ⟨n, h⟩⟩
local macro_rules | `(tactic| walk_at "ax_call") => `(tactic| ((with_reducible refine' c_check_marks ?s ?r ?_); (case s => walk_at "ax_seq"); (case r => assumption)))
local macro_rules | `(tactic| walk_at "ax_call") => `(tactic| ((with_reducible refine' c_check_marksN ?n ?_); (case n => assumption)))
/-! ### digits_of -/
def sp_digits_of (_ : Txt K mg) : Sp := fun vs H Q _ => ∃ (a : Addr) (ns : List Int), vs = [.ref a] ∧ SqL K H a (ns.map V.int) ∧ ns.length ≤ 1000 ∧ ∀ H', Same H H' → Q (.int (dOf ns)) H'
theorem ok_digits_of (T : Txt K mg) : FnOk P w K mg base CX0 1 T.digits_of.f T.digits_of.fd ["row"] (sp_digits_of T) := by
  refine T.digits_of.F.ok sc_digits_of (fun vs H Q E h => ?_) (fun cdv A outer s H vs Q E hr h => ?_)
  · obtain ⟨a, ns, rfl, _⟩ := h; rfl
  · refine ⟨_, (pss_cons (ps_for PassesOwn.never rfl (pi_range1 rfl T.z_range (pa_cons pe_int pa_nil)) (pg_name (i := 1) sc_digits_of.nd rfl (Or.inr rfl))
          (pss_one (ps_if (pt_val (pe_callB (cr_all rfl) (by rfl) T.z_all (by decide +kernel) (pa_cons (pe_lc (own := [("value", 2)]) rfl sc_digits_of.nd (pi_list (pv 0)) (blkOk_by (N := ["row", "digits", "value"]) (sc := defScope s_digits_of) (by decide +kernel)) (fun _ _ _ _ _ => (pg_name (i := 2) sc_digits_of.nd rfl (Or.inl rfl))) (fun _ _ _ _ _ => pts_nil) (fun _ _ _ _ _ => (pe_cmpR op_eq (pe_op op_mod (pv 2) (pe_ix (ix_tupK (K := K) rfl) (pe_glob (v := .ref T.POWERS.a) rfl T.POWERS.g rfl) (pv 1) (fun _ _ => rfl))) pe_int (nomark _)))) pa_nil)))
          (pss_one (ps_ret (pv 1)))
          pss_nil)))
        (pss_one (ps_ret pe_int))), ?_⟩
    try dsimp only [cxOf]
    obtain ⟨a, ns, rfl, s, hl, k⟩ := h
    walk_at "ax_go"
    refine for_range (lo := 0) (n := 4) (fun i σ' H' => i ≤ dOf ns ∧ Same H H' ∧ ∃ y z, σ' = [some (.ref a), y, z]) ⟨Nat.zero_le _, Same.refl _, _, _, rfl⟩ ?_ ?_
    rotate_left
    · rintro σ' H' ⟨c, _⟩
      have := dOf_le ns
      omega
    rintro i σ' H' hi ⟨c, s1, y, z, rfl⟩
    have sa := Same.seq s1 s
    walk_at "ax_go"
    refine lc_intsB (f := fun x => decide (x % (pw10 i : Int) = 0)) (by omega) sa (fun j H2 Q' hj s2 q => ?_) (fun D H2 s2 nD hD => ?_)
    · walk_at "ax_go"
      refine r_ixT (T.POWERS.s _) (pow_at hi) ?_
      have pp : (0 : Int) < (pw10 i : Int) := by exact_mod_cast pw10_pos i
      walk_at "ax_go"
      exact q _ (Same.refl _)
    walk_at "ax_go"
    refine r_allB (SqL.of hD) ?_
    rw [all_map]
    have e0 : (ns.all fun x => decide (x % (pw10 i : Int) = 0)) = divs i ns := rfl
    rw [e0]
    by_cases e : i = dOf ns
    · have e1 : divs i ns = true := by rw [e]; exact dOf_at ns
      rw [e1]
      walk_at "ax_go"
      rw [e, Int.zero_add]
      exact k _ (s1.trans s2)
    · have e1 : divs i ns = false := dOf_lt (by omega)
      rw [e1]
      walk_at "ax_go"
      exact ⟨by omega, s1.trans s2, _, _, rfl⟩
theorem c_digits_of {T : Txt K mg} {H : Hp} {Q : VK} {E : XK} {a : Addr} {ns : List Int} (s : SqL K H a (ns.map V.int)) (l : ns.length ≤ 1000) (h : ∀ H', Same H H' → Q (.int (dOf ns)) H') : sp_digits_of T [.ref a] H Q E := ⟨a, ns, rfl, s, l, h⟩
local macro_rules | `(tactic| walk_at "ax_call") => `(tactic| ((with_reducible refine' c_digits_of ?s ?l ?_); (case s => walk_at "ax_seq"); (case l => omega)))
/-! ### digits_needed -/
def sp_digits_needed (T : Txt K mg) : Sp := fun vs H Q E => ∃ (v : V), vs = [v] ∧ ((∃ ns, IsRow K H v ns ∧ ∀ H', Same H H' → Q (.int (dOf ns)) H') ∨ (NotRow K H v ∧ ∀ H', Same H H' → E (.ref T.BadMarks.C) none H'))
theorem ok_digits_needed (T : Txt K mg) : FnOk P w K mg base (L2.CX P w) 3 T.digits_needed.f T.digits_needed.fd ["row"] (sp_digits_needed T) := by
  refine T.digits_needed.F.okX sc_digits_needed (fun vs H Q E h => ?_) (fun cdv A outer s H vs Q E hr h => ?_)
  · obtain ⟨v, rfl, _⟩ := h; rfl
  · refine ⟨_, (pss_cons (ps_expr (pe_call (ok_check_marks T) (hr.mono (by decide)) rfl T.check_marks.g T.check_marks.F.kp T.check_marks.b .nil (passes_call (takes_of rfl rfl rfl rfl) (fun _ _ _ _ h => h)) (pa_cons (pv 0) pa_nil)))
        (pss_one (ps_ret (pe_call (ok_digits_of T) (hr.mono (by decide)) rfl T.digits_of.g T.digits_of.F.kp T.digits_of.b .nil pass0 (pa_cons (pv 0) pa_nil))))), ?_⟩
    try dsimp only [cxOf]
    obtain ⟨v, rfl, k⟩ := h
    rcases k with ⟨ns, ⟨a, rfl, s, r⟩, k⟩ | ⟨n, k⟩
    · have r2 := r.2.1
      walk_at "ax_go"
      intro H1 s1
      walk_at "ax_go"
      intro H2 s2
      exact k _ (s1.trans s2)
    · walk_at "ax_go"
      exact k
theorem c_digits_needed {T : Txt K mg} {H : Hp} {Q : VK} {E : XK} {a : Addr} {ns : List Int} (s : SqL K H a (ns.map V.int)) (r : Row ns) (h : ∀ H', Same H H' → Q (.int (dOf ns)) H') : sp_digits_needed T [.ref a] H Q E := ⟨_, rfl, .inl ⟨ns, ⟨a, rfl, s, r⟩, h⟩⟩
local macro_rules | `(tactic| walk_at "ax_call") => `(tactic| ((with_reducible refine' c_digits_needed ?s ?r ?_); (case s => walk_at "ax_seq"); (case r => assumption)))
/-! ### written -/
def sp_written (_ : Txt K mg) : Sp := fun vs H Q _ => ∃ (v : Int) (d : Nat), vs = [.int v, .int d] ∧ d ≤ 3 ∧ v.natAbs ≤ 1000000000 ∧ Q (.str (lab v d)) H
theorem ok_written (T : Txt K mg) : FnOk P w K mg base CX0 1 T.written.f T.written.fd ["value", "digits"] (sp_written T) := by
  refine T.written.F.ok sc_written (fun vs H Q E h => ?_) (fun cdv A outer s H vs Q E hr h => ?_)
  · obtain ⟨v, d, rfl, _⟩ := h; rfl
  · refine ⟨_, (pss_cons (ps_set (i := 2) sc_written.nd rfl (Or.inl rfl) (pe_op op_fdiv (pe_callB xc_abs (by rfl) T.z_abs (by decide +kernel) (pa_cons (pv 0) pa_nil)) (pe_ix ix_tup (pe_glob (v := .ref T.POWERS.a) rfl T.POWERS.g rfl) (pv 1) (fun _ _ => rfl))))
        (pss_cons (ps_set (i := 3) sc_written.nd rfl (Or.inl rfl) (pe_ifExp (pt_cmpR op_lt (pv 0) pe_int (nomark _)) pe_str pe_str))
        (pss_cons (ps_if (pt_cmpR op_eq (pv 1) pe_int (nomark _))
          (pss_one (ps_ret (pe_op xo_addS (pv 3) (pe_callTy xc_str (by rfl) T.z_str (by decide +kernel) (pa_cons (pv 2) pa_nil)))))
          pss_nil)
        (pss_cons (ps_set (i := 4) sc_written.nd rfl (Or.inl rfl) (pe_callTy xc_str (by rfl) T.z_str (by decide +kernel) (pa_cons (pv 2) pa_nil)))
        (pss_cons (ps_set (i := 4) sc_written.nd rfl (Or.inl rfl) (pe_op xo_addS (pe_op op_mulS pe_str (pe_op op_sub (pe_op op_add (pv 1) pe_int) (pe_callB xc_lenS (by rfl) T.z_len PySem.boot_len (pa_cons (pv 4) pa_nil)))) (pv 4)))
        (pss_one (ps_ret (pe_op xo_addS (pe_op xo_addS (pe_op xo_addS (pv 3) (pe_slice sl_str (pv 4) po_none (po_some (pe_op op_sub (pe_callB xc_lenS (by rfl) T.z_len PySem.boot_len (pa_cons (pv 4) pa_nil)) (pv 1))))) pe_str) (pe_slice sl_str (pv 4) (po_some (pe_op op_sub (pe_callB xc_lenS (by rfl) T.z_len PySem.boot_len (pa_cons (pv 4) pa_nil)) (pv 1))) po_none))))))))), ?_⟩
    try dsimp only [cxOf]
    obtain ⟨v, d, rfl, hd, hv, k⟩ := h
    walk_at "ax_go"
    refine r_ixT (T.POWERS.s _) (pow_at' (by omega)) ?_
    have pp : (0 : Int) < (pw10 d : Int) ∧ (pw10 d : Int) ≤ 1000 := ⟨by exact_mod_cast pw10_pos d, by exact_mod_cast pw10_le d⟩
    refine r_I ⟨pp.1, by omega⟩ ?_
    have eq : (if v < 0 then -v else v) / (pw10 d : Int) = ((v.natAbs / pw10 d : Nat) : Int) := by
      rw [show (if v < 0 then -v else v) = (v.natAbs : Int) by split <;> omega]
      rfl
    rw [eq]
    have hq : v.natAbs / pw10 d ≤ 1000000000 := Nat.le_trans (Nat.div_le_self _ _) hv
    obtain ⟨sg, esg⟩ : ∃ sg : List Nat, (if v < 0 then [45] else []) = sg := ⟨_, rfl⟩
    have lsg : sg.length ≤ 1 := by
      rw [← esg]
      split <;> simp
    obtain ⟨q, eqq⟩ : ∃ q : Nat, v.natAbs / pw10 d = q := ⟨_, rfl⟩
    have qs := q_split (v := v.natAbs) hd
    rw [eqq] at hq qs ⊢
    have el : labL v d = sg ++ (numL (q / 10 ^ d) ++ (if d = 0 then [] else 46 :: digs d q)) := by
      unfold labL
      rw [esg, eqq, qs]
    unfold lab at k
    rw [el] at k
    refine r_cutP (fun σ' H' => H' = H ∧ ∃ y, σ' = [some (.int v), some (.int d), some (.int (q : Int)), some (.str (mkS sg)), y]) ?_ ?_
    rotate_left
    · intro N hN
      walk_at "ax_go"
      refine r_if (fun c => ?_) (fun c => ?_)
      · walk_at "ax_go"
        rw [if_pos c] at esg
        exact hN _ _ ⟨rfl, _, by rw [← esg]; rfl⟩
      · walk_at "ax_go"
        rw [if_neg c] at esg
        exact hN _ _ ⟨rfl, _, by rw [← esg]; rfl⟩
    rintro σ' H' ⟨rfl, y, rfl⟩
    have nl := numL_len (n := q) (k := 10) (by decide) (by omega)
    by_cases c0 : d = 0
    · subst c0
      rw [if_pos rfl, List.append_nil, Nat.pow_zero, Nat.div_one] at k
      walk_at "ax_go"
      exact k
    have pl := padL_len d q (by omega) hd
    have pe := padL_eq q (by omega : 0 < d) hd
    have nl2 := numL_len (n := q / 10 ^ d) (k := 10) (by decide) (by have := Nat.div_le_self q (10 ^ d); omega)
    rw [if_neg c0] at k
    walk_at "ax_go"
    rw [s_zero]
    refine r_mulM ⟨by omega, by omega⟩ (by decide) ?_
    have ep : (List.replicate ((d : Int) + 1 - ((numL q).length : Int)).toNat [48]).flatten ++ numL q = padL d q := by
      unfold padL
      rw [show ((d : Int) + 1 - ((numL q).length : Int)).toNat = d + 1 - (numL q).length by omega]
      congr 1
      generalize d + 1 - (numL q).length = n
      induction n with
      | zero => rfl
      | succ n ih => rw [List.replicate_succ, List.flatten_cons, ih, List.replicate_succ]; rfl
    have lr : (List.replicate ((d : Int) + 1 - ((numL q).length : Int)).toNat [48]).flatten.length ≤ 20 := by
      have := congrArg List.length ep
      rw [List.length_append] at this
      omega
    walk_at "ax_go"
    rw [ep]
    walk_at "ax_go"
    have e1 : ((((padL d q).length : Int) - (d : Int)).toNat) = (numL (q / 10 ^ d)).length := by omega
    have et : (padL d q).take (numL (q / 10 ^ d)).length = numL (q / 10 ^ d) := by rw [pe, List.take_left]
    have ed : (padL d q).drop (numL (q / 10 ^ d)).length = digs d q := by rw [pe, List.drop_left]
    have dl := digs_len q hd
    rw [e1, et, s_dot]
    walk_at "ax_go"
    rw [e1, ed]
    walk_at "ax_go"
    rw [show sg ++ numL (q / 10 ^ d) ++ [46] ++ digs d q = sg ++ (numL (q / 10 ^ d) ++ 46 :: digs d q) by simp]
    exact k
theorem c_written {T : Txt K mg} {H : Hp} {Q : VK} {E : XK} {v : Int} {d : Nat} (hd : d ≤ 3) (hv : v.natAbs ≤ 1000000000) (h : Q (.str (lab v d)) H) : sp_written T [.int v, .int d] H Q E := ⟨v, d, rfl, hd, hv, h⟩
local macro_rules | `(tactic| walk_at "ax_call") => `(tactic| ((with_reducible refine' c_written ?d ?v ?_); (case d => first | assumption | omega | exact dOf_le _); (case v => omega)))
/-! ### label -/
def sp_label (T : Txt K mg) : Sp := fun vs H Q E => ∃ (x y : V), vs = [x, y] ∧ ((∃ (v : Int) (d : Nat), x = .int v ∧ y = .int d ∧ Lab v d ∧ Q (.str (lab v d)) H) ∨
  ((NotNum K H x (-1000000) 1000000 ∨ (∃ v, x = .int v ∧ (-1000000 ≤ v ∧ v ≤ 1000000)) ∧ (NotNum K H y 0 3 ∨ ∃ (v : Int) (d : Nat), x = .int v ∧ y = .int d ∧ d ≤ 3 ∧ ¬ v.natAbs % pw10 d = 0)) ∧ E (.ref T.BadNumber.C) none H))
theorem ok_label (T : Txt K mg) : FnOk P w K mg base (L2.CX P w) 2 T.label.f T.label.fd ["value", "digits"] (sp_label T) := by
  refine T.label.F.okX sc_label (fun vs H Q E h => ?_) (fun cdv A outer s H vs Q E hr h => ?_)
  · obtain ⟨x, y, rfl, _⟩ := h; rfl
  · refine ⟨_, (pss_cons (ps_if (pt_not (pt_val (pe_call (ok_is_int T) (hr.mono (by decide)) rfl T.is_int.g T.is_int.F.kp T.is_int.b .nil pass0 (pa_cons (pv 0) (pa_cons (pe_un un_neg (pe_glob rfl T.MOST.g T.MOST.r)) (pa_cons (pe_glob rfl T.MOST.g T.MOST.r) pa_nil))))))
          (pss_one (ps_raise rfl (takes_of rfl rfl rfl rfl) (pmk_own PySem.F.excBase_ValueError T.BadNumber.x T.BadNumber.g T.BadNumber.k (raises_own T.BadNumber.b T.BadNumber.t) rfl)))
          pss_nil)
        (pss_cons (ps_if (PW.pt (pw_or (pt_not (pt_val (pe_call (ok_is_int T) (hr.mono (by decide)) rfl T.is_int.g T.is_int.F.kp T.is_int.b .nil pass0 (pa_cons (pv 1) (pa_cons pe_int (pa_cons pe_int pa_nil)))))) (pw_or1 (pt_cmpR op_ne (pe_op op_mod (pv 0) (pe_ix ix_tup (pe_glob (v := .ref T.POWERS.a) rfl T.POWERS.g rfl) (pv 1) (fun _ _ => rfl))) pe_int (nomark _)))))
          (pss_one (ps_raise rfl (takes_of rfl rfl rfl rfl) (pmk_own PySem.F.excBase_ValueError T.BadNumber.x T.BadNumber.g T.BadNumber.k (raises_own T.BadNumber.b T.BadNumber.t) rfl)))
          pss_nil)
        (pss_one (ps_ret (pe_call (ok_written T) (hr.mono (by decide)) rfl T.written.g T.written.F.kp T.written.b .nil pass0 (pa_cons (pv 0) (pa_cons (pv 1) pa_nil))))))), ?_⟩
    try dsimp only [cxOf]
    obtain ⟨x, y, rfl, k⟩ := h
    rcases k with ⟨v, d, rfl, rfl, ⟨l1, l2, l3⟩, k⟩ | ⟨(⟨i, rfl, c⟩ | n) | ⟨⟨v, rfl, b⟩, (⟨i, rfl, c⟩ | n) | ⟨v', d, e, rfl, hd, nz⟩⟩, k⟩
    · walk_at "ax_go"
      refine r_ixT (T.POWERS.s _) (pow_at' (by omega)) ?_
      have pp : (0 : Int) < (pw10 d : Int) := by exact_mod_cast pw10_pos d
      have mz := (mod_nat v (pw10 d)).mpr l2
      walk_at "ax_go"
      exact k
    · walk_at "ax_go"
      exact k
    · walk_at "ax_go"
      exact k
    · walk_at "ax_go"
      exact k
    · walk_at "ax_go"
      exact k
    · cases e
      walk_at "ax_go"
      refine r_ixT (T.POWERS.s _) (pow_at' (by omega)) ?_
      have pp : (0 : Int) < (pw10 d : Int) := by exact_mod_cast pw10_pos d
      have mz : ¬ v % (pw10 d : Int) = 0 := fun z => nz ((mod_nat v (pw10 d)).mp z)
      walk_at "ax_go"
      exact k
theorem c_label {T : Txt K mg} {H : Hp} {Q : VK} {E : XK} {v : Int} {d : Nat} (l : Lab v d) (h : Q (.str (lab v d)) H) : sp_label T [.int v, .int d] H Q E := ⟨_, _, rfl, .inl ⟨v, d, rfl, rfl, l, h⟩⟩
/-! ### labels -/
def sp_labels (T : Txt K mg) : Sp := fun vs H Q E => ∃ (v : V), vs = [v] ∧ ((∃ ns, IsRow K H v ns ∧ ∀ p H', Same H H' → H p = none → H' p = some (.lst (labsV ns)) → Q (.ref p) H') ∨ (NotRow K H v ∧ ∀ H', Same H H' → E (.ref T.BadMarks.C) none H'))
theorem ok_labels (T : Txt K mg) : FnOk P w K mg base (L2.CX P w) 3 T.labels.f T.labels.fd ["row"] (sp_labels T) := by
  refine T.labels.F.okX sc_labels (fun vs H Q E h => ?_) (fun cdv A outer s H vs Q E hr h => ?_)
  · obtain ⟨v, rfl, _⟩ := h; rfl
  · refine ⟨_, (pss_cons (ps_expr (pe_call (ok_check_marks T) (hr.mono (by decide)) rfl T.check_marks.g T.check_marks.F.kp T.check_marks.b .nil (passes_call (takes_of rfl rfl rfl rfl) (fun _ _ _ _ h => h)) (pa_cons (pv 0) pa_nil)))
        (pss_one (ps_ret (pe_lc (own := [("value", 1)]) rfl sc_labels.nd (pi_list (pv 0)) (blkOk_by (N := ["row", "value"]) (sc := defScope s_labels) (by decide +kernel)) (fun _ _ _ _ _ => (pg_name (i := 1) sc_labels.nd rfl (Or.inl rfl))) (fun _ _ _ _ _ => pts_nil) (fun _ _ _ _ _ => (pe_call (ok_written T) (hr.mono (by decide)) rfl T.written.g T.written.F.kp T.written.b .nil pass0 (pa_cons (pv 1) (pa_cons (pe_call (ok_digits_of T) (hr.mono (by decide)) rfl T.digits_of.g T.digits_of.F.kp T.digits_of.b .nil pass0 (pa_cons (pv 0) pa_nil)) pa_nil)))))))), ?_⟩
    try dsimp only [cxOf]
    obtain ⟨v, rfl, k⟩ := h
    rcases k with ⟨ns, ⟨a, rfl, s, r⟩, k⟩ | ⟨n, k⟩
    · have r2 := r.2.1
      walk_at "ax_go"
      intro H1 s1
      have sa := Same.seq s1 s
      walk_at "ax_go"
      refine lc_intsM (f := fun v => .str (lab v (dOf ns))) (by omega) sa (fun i H2 Q' hi s2 q => ?_) (fun D H2 s2 nD hD => ?_)
      · have sa2 := Same.seq s2 sa
        have lb := (row_lab r hi).2.2
        walk_at "ax_go"
        intro H3 s3
        walk_at "ax_go"
        exact q _ s3
      exact k D H2 (s1.trans s2) (s1.free nD) hD
    · walk_at "ax_go"
      exact k
theorem c_labels {T : Txt K mg} {H : Hp} {Q : VK} {E : XK} {a : Addr} {ns : List Int} (s : SqL K H a (ns.map V.int)) (r : Row ns) (h : ∀ p H', Same H H' → H p = none → H' p = some (.lst (labsV ns)) → Q (.ref p) H') : sp_labels T [.ref a] H Q E := ⟨_, rfl, .inl ⟨ns, ⟨a, rfl, s, r⟩, h⟩⟩
local macro_rules | `(tactic| walk_at "ax_call") => `(tactic| ((with_reducible refine' c_labels ?s ?r ?_); (case s => walk_at "ax_seq"); (case r => assumption)))
/-! ### parse_label -/
def sp_parse_label (T : Txt K mg) : Sp := fun vs H Q E => ∃ (x : V), vs = [x] ∧ Tx K H x ∧ ((∃ (v : Int) (d : Nat), parseV x = some (v, d) ∧ ∀ p H', Same H H' → H p = none → H' p = some (.tup [.int v, .int d]) → Q (.ref p) H') ∨ (parseV x = none ∧ ∀ H', Same H H' → E (.ref T.BadText.C) none H'))
theorem ok_parse_label (T : Txt K mg) : FnOk P w K mg base (L2.CX P w) 2 T.parse_label.f T.parse_label.fd ["text"] (sp_parse_label T) := by
  refine T.parse_label.F.okX sc_parse_label (fun vs H Q E h => ?_) (fun cdv A outer s H vs Q E hr h => ?_)
  · obtain ⟨x, rfl, _⟩ := h; rfl
  · refine ⟨_, (pss_cons (ps_if (pt_not (pt_val (pe_callB call_isi (by rfl) T.z_isinstance (by decide +kernel) (pa_cons (pv 0) (pa_cons (pe_bltn (v := .ty "str") rfl T.z_str (by decide +kernel) rfl) pa_nil)))))
          (pss_one (ps_raise rfl (takes_of rfl rfl rfl rfl) (pmk_own PySem.F.excBase_ValueError T.BadText.x T.BadText.g T.BadText.k (raises_own T.BadText.b T.BadText.t) rfl)))
          pss_nil)
        (pss_cons (ps_set (i := 1) sc_parse_label.nd rfl (Or.inl rfl) (pe_ifExp (pt_cmpR op_eq (pe_slice sl_str (pv 0) po_none (po_some pe_int)) pe_str (nomark _)) (pe_slice sl_str (pv 0) (po_some pe_int) po_none) (pv 0)))
        (pss_cons (ps_asg (pe_partN (pv 1) pe_str) (pg_tup (n := 3) rfl (pgs_cons (pg_name (i := 2) sc_parse_label.nd rfl (Or.inl rfl)) (pgs_cons (pg_name (i := 3) sc_parse_label.nd rfl (Or.inl rfl)) (pgs_cons (pg_name (i := 4) sc_parse_label.nd rfl (Or.inl rfl)) pgs_nil)))))
        (pss_cons (ps_if (PW.pt (pw_and (pt_cmpR op_ne (pv 3) pe_str (nomark _)) (pw_and1 (pt_not (pt_chain op_le op_le pe_int (pe_callB xc_lenS (by rfl) T.z_len PySem.boot_len (pa_cons (pv 4) pa_nil)) pe_int)))))
          (pss_one (ps_raise rfl (takes_of rfl rfl rfl rfl) (pmk_own PySem.F.excBase_ValueError T.BadText.x T.BadText.g T.BadText.k (raises_own T.BadText.b T.BadText.t) rfl)))
          pss_nil)
        (pss_cons (ps_if (PW.pt (pw_or (pt_cmpR op_eq (pv 2) pe_str (nomark _)) (pw_or (pt_cmpR op_gt (pe_callB xc_lenS (by rfl) T.z_len PySem.boot_len (pa_cons (pv 2) pa_nil)) pe_int (nomark _)) (pw_or1 (pt_not (pt_val (pe_callB (cr_all rfl) (by rfl) T.z_all (by decide +kernel) (pa_cons (pe_lc (own := [("sign", 6)]) rfl sc_parse_label.nd (pi_str (pe_op xo_addS (pv 2) (pv 4))) (blkOk_by (N := ["text", "plain", "whole", "point", "rest", "value", "sign"]) (sc := defScope s_parse_label) (by decide +kernel)) (fun _ _ _ _ _ => (pg_name (i := 6) sc_parse_label.nd rfl (Or.inl rfl))) (fun _ _ _ _ _ => pts_nil) (fun _ _ _ _ _ => (pe_cmpR xo_inS (pv 6) (pe_glob rfl T.DIGITS.g T.DIGITS.r) rfl))) pa_nil))))))))
          (pss_one (ps_raise rfl (takes_of rfl rfl rfl rfl) (pmk_own PySem.F.excBase_ValueError T.BadText.x T.BadText.g T.BadText.k (raises_own T.BadText.b T.BadText.t) rfl)))
          pss_nil)
        (pss_cons (ps_set (i := 5) sc_parse_label.nd rfl (Or.inl rfl) (pe_op op_mul (pe_callTy xc_intS (by rfl) T.z_int (by decide +kernel) (pa_cons (pe_op xo_addS (pv 2) (pv 4)) pa_nil)) (pe_ix ix_tup (pe_glob (v := .ref T.POWERS.a) rfl T.POWERS.g rfl) (pe_callB xc_lenS (by rfl) T.z_len PySem.boot_len (pa_cons (pv 4) pa_nil)) (fun _ _ => rfl))))
        (pss_cons (ps_set (i := 5) sc_parse_label.nd rfl (Or.inl rfl) (pe_ifExp (pt_cmpR op_eq (pe_slice sl_str (pv 0) po_none (po_some pe_int)) pe_str (nomark _)) (pe_un un_neg (pv 5)) (pv 5)))
        (pss_cons (ps_if (PW.pt (pw_or (pt_not (pt_chain op_le op_le (pe_un un_neg (pe_glob rfl T.MOST.g T.MOST.r)) (pv 5) (pe_glob rfl T.MOST.g T.MOST.r))) (pw_or1 (pt_cmpR op_ne (pe_call (ok_written T) (hr.mono (by decide)) rfl T.written.g T.written.F.kp T.written.b .nil pass0 (pa_cons (pv 5) (pa_cons (pe_callB xc_lenS (by rfl) T.z_len PySem.boot_len (pa_cons (pv 4) pa_nil)) pa_nil))) (pv 0) (nomark _)))))
          (pss_one (ps_raise rfl (takes_of rfl rfl rfl rfl) (pmk_own PySem.F.excBase_ValueError T.BadText.x T.BadText.g T.BadText.k (raises_own T.BadText.b T.BadText.t) rfl)))
          pss_nil)
        (pss_one (ps_ret (pe_tup (pa_cons (pv 5) (pa_cons (pe_callB xc_lenS (by rfl) T.z_len PySem.boot_len (pa_cons (pv 4) pa_nil)) pa_nil))))))))))))), ?_⟩
    try dsimp only [cxOf]
    obtain ⟨x, rfl, ⟨kn, sz⟩, k⟩ := h
    have kN : parseV x = none → ∀ H', Same H H' → E (.ref T.BadText.C) none H' := fun e => by
      rcases k with ⟨v, d, e2, _⟩ | ⟨_, k⟩
      · rw [e] at e2
        cases e2
      · exact k
    have kS : ∀ (v : Int) (d : Nat), parseV x = some (v, d) → ∀ p H', Same H H' → H p = none → H' p = some (.tup [.int v, .int d]) → Q (.ref p) H' := fun v d e => by
      rcases k with ⟨v', d', e2, k⟩ | ⟨e2, _⟩
      · rw [e] at e2
        cases e2
        exact k
      · rw [e] at e2
        cases e2
    clear k
    rcases kn with ⟨i, rfl⟩ | n
    · walk_at "ax_go"
      refine r_isi (b := false) (.ty _) (.base (.int i)) (kit_ty (by decide +kernel)) ?_
      walk_at "ax_go"
      exact kN rfl _ (Same.refl _)
    cases n with
    | non =>
      walk_at "ax_go"
      refine r_isi (b := false) (.ty _) (.base .non) (kit_ty (by decide +kernel)) ?_
      walk_at "ax_go"
      exact kN rfl _ (Same.refl _)
    | bl b =>
      walk_at "ax_go"
      refine r_isi (b := false) (.ty _) (.base (.bl b)) (kit_ty (by decide +kernel)) ?_
      walk_at "ax_go"
      exact kN rfl _ (Same.refl _)
    | lst s =>
      walk_at "ax_go"
      refine r_isi (b := false) (.ty _) (tyx_L s) (kit_ty (by decide +kernel)) ?_
      walk_at "ax_go"
      exact kN rfl _ (Same.refl _)
    | tup s =>
      walk_at "ax_go"
      refine r_isi (b := false) (.ty _) (tyx_T s) (kit_ty (by decide +kernel)) ?_
      walk_at "ax_go"
      exact kN rfl _ (Same.refl _)
    | str t =>
      have sz := sz t rfl
      obtain ⟨l, rfl⟩ : ∃ l, t = mkS l := ⟨tl t, (mkS_tl t).symm⟩
      rw [mkS_len] at sz
      have kN : parseL l = none → _ := kN
      have kS : ∀ (v : Int) (d : Nat), parseL l = some (v, d) → _ := kS
      walk_at "ax_go"
      refine r_isi (b := true) (.ty _) (.base (.str _)) (kit_ty (by decide +kernel)) ?_
      walk_at "ax_go"
      rw [show Int.toNat 1 = 1 from rfl, s_dash, mkS_dec]
      obtain ⟨ng, hng⟩ : ∃ ng : Prop, (l.take 1 = [45]) = ng := ⟨_, rfl⟩
      refine r_ifJ (.str (mkS (tailM l))) (fun c Q' q => ?_) (fun c Q' q => ?_) ?_
      · unfold tailM at q
        rw [if_pos c] at q
        walk_at "ax_go"
        exact q
      · unfold tailM at q
        rw [if_neg c] at q
        walk_at "ax_go"
        exact q
      have tlen : (tailM l).length ≤ 1000 := by
        unfold tailM
        split
        · rw [List.length_drop]
          omega
        · exact sz
      rw [s_dot, s_none]
      walk_at "ax_go"
      intro p1 np1
      obtain ⟨A, pt, B, hc⟩ : ∃ A pt B, cutL (tailM l) = (A, pt, B) := ⟨_, _, _, rfl⟩
      have hM := cutM_cutL (tailM l)
      rw [hc] at hM
      have hM1 : (cutM 46 (tailM l)).1 = A := by rw [hM]
      have hM2 : (cutM 46 (tailM l)).2.1 = if pt = true then [46] else [] := by rw [hM]
      have hM3 : (cutM 46 (tailM l)).2.2 = B := by rw [hM]
      rw [hM1, hM2, hM3]
      obtain ⟨P, eP⟩ : ∃ P : List Nat, (if pt = true then [46] else []) = P := ⟨_, rfl⟩
      rw [eP]
      have hP : (mkS P = mkS []) ↔ pt = false := by
        rw [mkS_iff, ← eP]
        cases pt <;> simp
      have hpb := parse_by hc rfl
      have cl := cut_len hc
      have s1 := same_new (o := .tup [V.str (mkS A), V.str (mkS P), V.str (mkS B)]) np1
      refine r_gtup3 (SqT.of upd_same) ?_
      generalize upd H p1 _ = H1 at s1 ⊢
      refine r_nxmk ?_
      refine r_cutC (pt = true → 1 ≤ B.length ∧ B.length ≤ 3) ?_ ?_
      rotate_left
      · intro N hN
        walk_at "ax_go"
        have kE : ¬ (pt = true → 1 ≤ B.length ∧ B.length ≤ 3) → E (.ref T.BadText.C) none H1 := fun z => kN (by rw [hpb, if_neg (fun y => z y.1)]) _ s1
        refine r_ifn (fun c => ?_) (fun c => ?_)
        · have c : pt = true := by
            cases pt with
            | true => rfl
            | false => exact absurd (hP.mpr rfl) c
          walk_at "ax_go"
          refine r_if (fun c1 => ?_) (fun c1 => ?_)
          · walk_at "ax_go"
            refine r_ifn (fun c2 => ?_) (fun c2 => ?_)
            · exact kE fun z => by have := z c; omega
            · walk_at "ax_go"
              exact hN (fun _ => ⟨by omega, by omega⟩) _ (Same.refl _)
          · walk_at "ax_go"
            exact kE fun z => by have := z c; omega
        · walk_at "ax_go"
          exact hN (fun z => by rw [hP.mp c] at z; cases z) _ (Same.refl _)
      intro c1 H2 h2
      have s2 := s1.trans h2
      have B3 : B.length ≤ 3 := by
        cases pt with
        | true => exact (c1 rfl).2
        | false =>
          rw [cut_pt hc rfl]
          exact Nat.zero_le _
      refine r_cutC (A ≠ [] ∧ A.length ≤ 4 ∧ AllDigits (A ++ B)) ?_ ?_
      rotate_left
      · intro N hN
        have kE : ¬ (A ≠ [] ∧ A.length ≤ 4 ∧ ∀ x ∈ A ++ B, 48 ≤ x ∧ x ≤ 57) → ∀ H', Same H2 H' → E (.ref T.BadText.C) none H' := fun z H' s => kN (by rw [hpb, if_neg (fun y => z ⟨y.2.1, y.2.2.1, y.2.2.2.1⟩)]) _ (s2.trans s)
        walk_at "ax_go"
        refine r_if (fun c => ?_) (fun c => ?_)
        · rw [mkS_iff] at c
          walk_at "ax_go"
          exact kE (fun z => z.1 c) _ (Same.refl _)
        · rw [mkS_iff] at c
          walk_at "ax_go"
          refine r_if (fun c2 => ?_) (fun c2 => ?_)
          · walk_at "ax_go"
            exact kE (fun z => by have := z.2.1; omega) _ (Same.refl _)
          · walk_at "ax_go"
            refine lc_strB (f := fun c => decide (48 ≤ c ∧ c ≤ 57)) (by rw [List.length_append]; omega) (fun c H3 Q' hc' s3 q => ?_) (fun D H3 s3 nD hD => ?_)
            · walk_at "ax_go"
              rw [dig_mem]
              exact q _ (Same.refl _)
            walk_at "ax_go"
            refine r_allB (SqL.of hD) ?_
            rw [all_map]
            cases ca : (A ++ B).all fun c => decide (48 ≤ c ∧ c ≤ 57) with
            | true =>
              walk_at "ax_go"
              refine hN ⟨c, by omega, fun x hx => of_decide_eq_true (List.all_eq_true.mp ca x hx)⟩ _ s3
            | false =>
              walk_at "ax_go"
              refine kE (fun z => ?_) _ s3
              have := List.all_eq_true.mpr (fun x hx => decide_eq_true (z.2.2 x hx))
              rw [ca] at this
              cases this
      rintro ⟨d1, d2, d3⟩ H3 h3
      have s3 := s2.trans h3
      have ab : (A ++ B).length ≤ 7 := by rw [List.length_append]; omega
      have abn : A ++ B ≠ [] := fun z => d1 (List.append_eq_nil_iff.mp z).1
      have vb := val_lt7 d3 ab
      have pp : (0 : Int) < (pw10 B.length : Int) ∧ (pw10 B.length : Int) ≤ 1000 := ⟨by exact_mod_cast pw10_pos _, by exact_mod_cast pw10_le _⟩
      walk_at "ax_go"
      refine r_intM d3 abn (by omega) ?_
      walk_at "ax_go"
      refine r_ixT (T.POWERS.s _) (pow_at' (by omega)) ?_
      refine r_I (.inl ⟨by omega, by omega⟩) ?_
      obtain ⟨m, em⟩ : ∃ m : Nat, digitsVal (A ++ B) * pw10 B.length = m := ⟨_, rfl⟩
      have em' : ((digitsVal (A ++ B) : Nat) : Int) * ((pw10 B.length : Nat) : Int) = (m : Int) := by rw [← em, Int.natCast_mul]
      rw [em']
      rw [em] at hpb
      have mb : m ≤ 10000000 * 1000 := by
        rw [← em]
        exact Nat.mul_le_mul (by omega) (pw10_le _)
      obtain ⟨v, ev⟩ : ∃ v : Int, (if l.take 1 = [45] then -(m : Int) else (m : Int)) = v := ⟨_, rfl⟩
      rw [ev] at hpb
      have vb2 : v.natAbs = m := by
        rw [← ev]
        split <;> omega
      walk_at "ax_go"
      rw [show Int.toNat 1 = 1 from rfl, mkS_dec]
      refine r_ifJ (.int v) (fun c Q' q => ?_) (fun c Q' q => ?_) ?_
      · rw [if_pos c] at ev
        walk_at "ax_go"
        rw [ev]
        exact q
      · rw [if_neg c] at ev
        walk_at "ax_go"
        rw [ev]
        exact q
      walk_at "ax_goI"
      refine r_cutC (parseL l = some (v, B.length)) ?_ ?_
      rotate_left
      · intro N hN
        have kE : ¬ ((-1000000 ≤ v ∧ v ≤ 1000000) ∧ labL v B.length = l) → ∀ H', Same H3 H' → E (.ref T.BadText.C) none H' := fun z H' s => kN (by rw [hpb, if_neg (fun y => z ⟨y.2.2.2.2.1, y.2.2.2.2.2⟩)]) _ (s3.trans s)
        walk_at "ax_go"
        refine r_if (fun c => ?_) (fun c => ?_)
        · walk_at "ax_go"
          refine r_ifn (fun c2 => ?_) (fun c2 => ?_)
          · walk_at "ax_go"
            exact kE (fun z => by have := z.1; omega) _ (Same.refl _)
          · walk_at "ax_go"
            unfold lab
            rw [mkS_dec]
            refine r_ifn (fun c4 => ?_) (fun c4 => ?_)
            · walk_at "ax_go"
              exact kE (fun z => c4 z.2) _ (Same.refl _)
            · walk_at "ax_go"
              exact hN (by rw [hpb, if_pos ⟨c1, d1, d2, d3, ⟨by omega, by omega⟩, c4⟩]) _ (Same.refl _)
        · walk_at "ax_go"
          exact kE (fun z => by have := z.1; omega) _ (Same.refl _)
      intro hS H4 h4
      have s4 := s3.trans h4
      walk_at "ax_go"
      intro p5 np5
      exact kS v B.length hS p5 _ (Same.updn s4 np5) (s4.free np5) upd_same
theorem c_parse_label {T : Txt K mg} {H : Hp} {Q : VK} {E : XK} {x : V} {v : Int} {d : Nat} (t : Tx K H x) (e : parseV x = some (v, d)) (h : ∀ p H', Same H H' → H p = none → H' p = some (.tup [.int v, .int d]) → Q (.ref p) H') : sp_parse_label T [x] H Q E := ⟨x, rfl, t, .inl ⟨v, d, e, h⟩⟩
theorem c_parse_labelN {T : Txt K mg} {H : Hp} {Q : VK} {E : XK} {x : V} (t : Tx K H x) (e : parseV x = none) (h : ∀ H', Same H H' → E (.ref T.BadText.C) none H') : sp_parse_label T [x] H Q E := ⟨x, rfl, t, .inr ⟨e, h⟩⟩
/-! ### label_width -/
def sp_label_width (T : Txt K mg) : Sp := fun vs H Q E => ∃ (v : V), vs = [v] ∧ ((∃ ns, IsRow K H v ns ∧ ∀ H', Same H H' → Q (.int (widthI ns)) H') ∨ (NotRow K H v ∧ ∀ H', Same H H' → E (.ref T.BadMarks.C) none H'))
theorem ok_label_width (T : Txt K mg) : FnOk P w K mg base (L2.CX P w) 3 T.label_width.f T.label_width.fd ["row"] (sp_label_width T) := by
  refine T.label_width.F.okX sc_label_width (fun vs H Q E h => ?_) (fun cdv A outer s H vs Q E hr h => ?_)
  · obtain ⟨v, rfl, _⟩ := h; rfl
  · refine ⟨_, (pss_cons (ps_expr (pe_call (ok_check_marks T) (hr.mono (by decide)) rfl T.check_marks.g T.check_marks.F.kp T.check_marks.b .nil (passes_call (takes_of rfl rfl rfl rfl) (fun _ _ _ _ h => h)) (pa_cons (pv 0) pa_nil)))
        (pss_one (ps_ret (pe_callB (cr_max rfl) (by rfl) T.z_max (by decide +kernel) (pa_cons (pe_lc (own := [("value", 1)]) rfl sc_label_width.nd (pi_list (pv 0)) (blkOk_by (N := ["row", "value"]) (sc := defScope s_label_width) (by decide +kernel)) (fun _ _ _ _ _ => (pg_name (i := 1) sc_label_width.nd rfl (Or.inl rfl))) (fun _ _ _ _ _ => pts_nil) (fun _ _ _ _ _ => (pe_callB xc_lenS (by rfl) T.z_len PySem.boot_len (pa_cons (pe_call (ok_written T) (hr.mono (by decide)) rfl T.written.g T.written.F.kp T.written.b .nil pass0 (pa_cons (pv 1) (pa_cons (pe_call (ok_digits_of T) (hr.mono (by decide)) rfl T.digits_of.g T.digits_of.F.kp T.digits_of.b .nil pass0 (pa_cons (pv 0) pa_nil)) pa_nil))) pa_nil)))) pa_nil))))), ?_⟩
    try dsimp only [cxOf]
    obtain ⟨v, rfl, k⟩ := h
    rcases k with ⟨ns, ⟨a, rfl, s, r⟩, k⟩ | ⟨n, k⟩
    · have r2 := r.2.1
      have ne := row_ne r
      walk_at "ax_go"
      intro H1 s1
      have sa := Same.seq s1 s
      walk_at "ax_go"
      refine lc_intsM (f := fun v => .int ((labL v (dOf ns)).length : Int)) (by omega) sa (fun i H2 Q' hi s2 q => ?_) (fun D H2 s2 nD hD => ?_)
      · have sa2 := Same.seq s2 sa
        have lb := (row_lab r hi).2.2
        have ll := labL_len i (dOf_le ns) (by omega)
        walk_at "ax_go"
        intro H3 s3
        walk_at "ax_go"
        unfold lab
        walk_at "ax_go"
        exact q _ s3
      have eD : H2 D = some (.lst (((labsL ns).map fun l => (l.length : Int)).map V.int)) := by
        rw [hD]
        unfold labsL
        rw [List.map_map, List.map_map]
        rfl
      have nl : (labsL ns).map (fun l => (l.length : Int)) ≠ [] := fun z => ne (by
        unfold labsL at z
        rw [List.map_map] at z
        exact List.map_eq_nil_iff.mp z)
      obtain ⟨m1, m2⟩ := mostI_spec nl
      walk_at "ax_go"
      refine r_maxL _ (SqL.of eD) m1 m2 ?_
      exact k _ (s1.trans s2)
    · walk_at "ax_go"
      exact k
theorem c_label_width {T : Txt K mg} {H : Hp} {Q : VK} {E : XK} {a : Addr} {ns : List Int} (s : SqL K H a (ns.map V.int)) (r : Row ns) (h : ∀ H', Same H H' → Q (.int (widthI ns)) H') : sp_label_width T [.ref a] H Q E := ⟨_, rfl, .inl ⟨ns, ⟨a, rfl, s, r⟩, h⟩⟩
local macro_rules | `(tactic| walk_at "ax_call") => `(tactic| ((with_reducible refine' c_label_width ?s ?r ?_); (case s => walk_at "ax_seq"); (case r => assumption)))
/-! ### parse_labels -/
def sp_parse_labels (T : Txt K mg) : Sp := fun vs H Q E => ∃ (x : V), vs = [x] ∧ ((∃ (a : Addr) (xs : List V), x = .ref a ∧ SqL K H a xs ∧ (∀ v, v ∈ xs → Tx K H v) ∧ xs.length ≤ 1000000 ∧ (∀ ns, Row ns → xs = labsV ns → ∀ p H', Same H H' → H p = none → H' p = some (.lst (ns.map V.int)) → Q (.ref p) H') ∧ ((∀ ns, Row ns → xs ≠ labsV ns) → ∀ H', Same H H' → E (.ref T.BadText.C) none H')) ∨ (NotLst K H x ∧ ∀ H', Same H H' → E (.ref T.BadText.C) none H'))
theorem ok_parse_labels (T : Txt K mg) : FnOk P w K mg base (L2.CX P w) 3 T.parse_labels.f T.parse_labels.fd ["texts"] (sp_parse_labels T) := by
  refine T.parse_labels.F.okX sc_parse_labels (fun vs H Q E h => ?_) (fun cdv A outer s H vs Q E hr h => ?_)
  · obtain ⟨x, rfl, _⟩ := h; rfl
  · refine ⟨_, (pss_cons (ps_if (PW.pt (pw_or (pt_not (pt_val (pe_callB call_isi (by rfl) T.z_isinstance (by decide +kernel) (pa_cons (pv 0) (pa_cons (pe_bltn (v := .ty "list") rfl T.z_list (by decide +kernel) rfl) pa_nil))))) (pw_or1 (pt_not (pt_chain op_le op_le pe_int (pe_callB xc_len (by rfl) T.z_len PySem.boot_len (pa_cons (pv 0) pa_nil)) pe_int)))))
          (pss_one (ps_raise rfl (takes_of rfl rfl rfl rfl) (pmk_own PySem.F.excBase_ValueError T.BadText.x T.BadText.g T.BadText.k (raises_own T.BadText.b T.BadText.t) rfl)))
          pss_nil)
        (pss_cons (ps_set (i := 1) sc_parse_labels.nd rfl (Or.inr rfl) (pe_lcX (own := [("text", 2)]) rfl rfl (takes_of rfl rfl rfl rfl) (fun _ _ _ _ h => h) rfl sc_parse_labels.nd (pi_list (pv 0)) (blkOk_by (N := ["texts", "found", "text", "value", "a", "b"]) (sc := defScope s_parse_labels) (by decide +kernel)) (fun _ _ _ _ _ => (pg_name (i := 2) sc_parse_labels.nd rfl (Or.inl rfl))) (fun _ _ _ _ _ _ px => (pe_ix (ix_tupK (K := K) rfl) (pe_call (ok_parse_label T) (hr.mono (by decide)) rfl T.parse_label.g T.parse_label.F.kp T.parse_label.b .nil px (pa_cons (pv 2) pa_nil)) pe_int (fun _ _ => rfl)))))
        (pss_cons (ps_if (pt_not (pt_val (pe_callB (cr_all rfl) (by rfl) T.z_all (by decide +kernel) (pa_cons (pe_lc (own := [("a", 4), ("b", 5)]) rfl sc_parse_labels.nd (pi_zip (by rfl) T.z_zip (pa_cons (pv 1) (pa_cons (pe_slice sl_list (pv 1) (po_some pe_int) po_none) pa_nil))) (blkOk_by (N := ["texts", "found", "text", "value", "a", "b"]) (sc := defScope s_parse_labels) (by decide +kernel)) (fun _ _ _ _ _ => (pg_tupK (K := K) (n := 2) rfl rfl (pgs_cons (pg_name (i := 4) sc_parse_labels.nd rfl (Or.inl rfl) (Or.inr rfl)) (pgs_cons (pg_name (i := 5) sc_parse_labels.nd rfl (Or.inl rfl) (Or.inr rfl)) pgs_nil)))) (fun _ _ _ _ _ => pts_nil) (fun _ _ _ _ _ => (pe_cmpR op_lt (pv 4) (pv 5) (nomark _)))) pa_nil))))
          (pss_one (ps_raise rfl (takes_of rfl rfl rfl rfl) (pmk_own PySem.F.excBase_ValueError T.BadText.x T.BadText.g T.BadText.k (raises_own T.BadText.b T.BadText.t) rfl)))
          pss_nil)
        (pss_cons (ps_if (pt_cmpR (op_neD hr.units) (pe_lc (own := [("value", 3)]) rfl sc_parse_labels.nd (pi_list (pv 1)) (blkOk_by (N := ["texts", "found", "text", "value", "a", "b"]) (sc := defScope s_parse_labels) (by decide +kernel)) (fun _ _ _ _ _ => (pg_name (i := 3) sc_parse_labels.nd rfl (Or.inl rfl))) (fun _ _ _ _ _ => pts_nil) (fun _ _ _ _ _ => (pe_call (ok_written T) (hr.mono (by decide)) rfl T.written.g T.written.F.kp T.written.b .nil pass0 (pa_cons (pv 3) (pa_cons (pe_call (ok_digits_of T) (hr.mono (by decide)) rfl T.digits_of.g T.digits_of.F.kp T.digits_of.b .nil pass0 (pa_cons (pv 1) pa_nil)) pa_nil))))) (pv 0) (nomark _))
          (pss_one (ps_raise rfl (takes_of rfl rfl rfl rfl) (pmk_own PySem.F.excBase_ValueError T.BadText.x T.BadText.g T.BadText.k (raises_own T.BadText.b T.BadText.t) rfl)))
          pss_nil)
        (pss_one (ps_ret (pv 1))))))), ?_⟩
    try dsimp only [cxOf]
    obtain ⟨x, rfl, ⟨a, xs, rfl, s, tx, lz, kS, kN⟩ | ⟨nl, k⟩⟩ := h
    rotate_left
    · cases nl with
      | non =>
        walk_at "ax_go"
        refine r_isi (b := false) (.ty _) (.base .non) (kit_ty (by decide +kernel)) ?_
        walk_at "ax_go"
        exact k _ (Same.refl _)
      | bl b =>
        walk_at "ax_go"
        refine r_isi (b := false) (.ty _) (.base (.bl b)) (kit_ty (by decide +kernel)) ?_
        walk_at "ax_go"
        exact k _ (Same.refl _)
      | int i =>
        walk_at "ax_go"
        refine r_isi (b := false) (.ty _) (.base (.int i)) (kit_ty (by decide +kernel)) ?_
        walk_at "ax_go"
        exact k _ (Same.refl _)
      | str x =>
        walk_at "ax_go"
        refine r_isi (b := false) (.ty _) (.base (.str x)) (kit_ty (by decide +kernel)) ?_
        walk_at "ax_go"
        exact k _ (Same.refl _)
      | tup st =>
        walk_at "ax_go"
        refine r_isi (b := false) (.ty _) (tyx_T st) (kit_ty (by decide +kernel)) ?_
        walk_at "ax_go"
        exact k _ (Same.refl _)
    have lenL : ∀ ns : List Int, (labsV ns).length = ns.length := fun ns => by unfold labsV; rw [List.length_map]
    by_cases cl : 1 ≤ xs.length ∧ xs.length ≤ 50
    rotate_left
    · have kN := kN fun ns r e => by
        have := lenL ns
        rw [← e] at this
        have r1 := r.1
        have r2 := r.2.1
        omega
      walk_at "ax_go"
      by_cases c : 1 ≤ xs.length
      · walk_at "ax_go"
        exact kN _ (Same.refl _)
      · walk_at "ax_go"
        exact kN _ (Same.refl _)
    obtain ⟨c1, c2⟩ := cl
    walk_at "ax_go"
    refine lc_valsP (f := fun v => .int (fv v)) (fun v => ∃ q, parseV v = some q) (by omega) s (fun v H1 Q' hv s1 q => ?_) (fun hP D H1 s1 nD hD => ?_)
    · walk_at "ax_go"
      cases e : parseV v with
      | none =>
        refine c_parse_labelN ((tx v hv).same s1) e fun H2 s2 => ?_
        refine kN (fun ns r e2 => ?_) _ (s1.trans s2)
        rw [e2] at hv
        obtain ⟨q, hq⟩ := parse_labs r hv
        rw [e] at hq
        cases hq
      | some w =>
        refine c_parse_label (v := w.1) (d := w.2) ((tx v hv).same s1) e fun p H2 s2 np hp => ?_
        have q := q ⟨w, e⟩ _ s2
        have ew : fv v = w.1 := by unfold fv; rw [e]; rfl
        rw [ew] at q
        walk_at "ax_go"
        exact q
    obtain ⟨fs, ef⟩ : ∃ fs : List Int, xs.map fv = fs := ⟨_, rfl⟩
    have hD : H1 D = some (.lst (fs.map V.int)) := by
      rw [← ef, List.map_map]
      exact hD
    have lf : fs.length = xs.length := by rw [← ef, List.length_map]
    have s' := Same.seq s1 s
    have sD := SqL.of (K := K) hD
    walk_at "ax_go"
    have fsE : ∀ ns, Row ns → xs = labsV ns → fs = ns := fun ns r e => by rw [← ef, e, fv_labs r]
    have nD0 := nD
    intro p np
    rw [cut_tail, ← List.map_drop]
    have sD' := SqL.updn (o := .lst ((fs.drop 1).map V.int)) np sD
    have hD' : (upd H1 p (.lst ((fs.drop 1).map V.int))) D = some (.lst (fs.map V.int)) := at_updn np hD
    have s2' : SqL K (upd H1 p (.lst ((fs.drop 1).map V.int))) p ((fs.drop 1).map V.int) := SqL.of upd_same
    have sm := Same.updn (o := .lst ((fs.drop 1).map V.int)) s1 np
    generalize upd H1 p _ = H2 at sD' hD' s2' sm ⊢
    walk_at "ax_go"
    refine lc_zipB (f := fun q => decide (q.1 < q.2)) (by decide) (by omega) sD' s2' (fun i x y H3 Q' e1 e2 s3 q => ?_) (fun D2 H3 s3 nD2 hD2 => ?_)
    · walk_at "ax_go"
      exact q _ (Same.refl _)
    walk_at "ax_go"
    refine r_allB (SqL.of hD2) ?_
    rw [all_map]
    have up : upB fs = ((fs.zip (fs.drop 1)).all fun q => decide (q.1 < q.2)) := rfl
    rw [← up]
    cases eu : upB fs with
    | false =>
      walk_at "ax_go"
      refine kN (fun ns r e => ?_) _ (sm.trans s3)
      have z := (row_iff.mp r).2.2
      rw [← fsE ns r e, eu] at z
      cases z
    | true =>
      have rowF : Row fs := row_iff.mpr ⟨⟨by omega, by omega⟩, inB_iff.mpr fun x hx => by
        rw [← ef] at hx
        obtain ⟨v, hv, rfl⟩ := List.mem_map.mp hx
        obtain ⟨q, hq⟩ := hP v hv
        exact fv_b hq, eu⟩
      have sD3 := Same.seq s3 sD'
      have hD3 := s3 _ _ hD'
      walk_at "ax_go"
      refine lc_intsM (f := fun v => .str (lab v (dOf fs))) (by omega) sD3 (fun i H4 Q' hi s4 q => ?_) (fun D4 H4 s4 nD4 hD4 => ?_)
      · have sa2 := Same.seq s4 sD3
        have lb := (row_lab rowF hi).2.2
        walk_at "ax_go"
        intro H5 s5
        walk_at "ax_go"
        exact q _ s5
      have sH4 := (sm.trans s3).trans s4
      obtain ⟨ts, ets, lts⟩ := strs_of hP
      have sx4 := Same.seq sH4 s
      have hD4 : H4 D4 = some (.lst (labsV fs)) := hD4
      rw [labsV_L] at hD4
      have sx4' : SqL K H4 a (ts.map strV) := by rw [← ets]; exact sx4
      walk_at "ax_go"
      refine r_neD (d := .list ((labsL fs).map strD)) (e := .list (ts.map strD)) (b := decide (labsL fs = ts)) (.lst (SqL.of hD4) (dpa_strs _)) (.lst sx4' (dpa_strs _)) (shp_strs (low_labs fs)) (shp_strs lts) (eqv_listS _ _) ?_
      walk_at "ax_go"
      refine r_ifn (fun c => ?_) (fun c => ?_)
      · refine kN (fun ns r e => c ?_) _ sH4
        have z := fsE ns r e
        rw [z]
        rw [ets, labsV_L] at e
        exact (strV_inj e).symm
      · walk_at "ax_go"
        refine kS fs rowF ?_ D _ sH4 nD0 (s4 _ _ hD3)
        rw [ets, labsV_L, c]
theorem c_parse_labels {T : Txt K mg} {H : Hp} {Q : VK} {E : XK} {a : Addr} {ns : List Int} (r : Row ns) (s : SqL K H a (labsV ns)) (h : ∀ p H', Same H H' → H p = none → H' p = some (.lst (ns.map V.int)) → Q (.ref p) H') : sp_parse_labels T [.ref a] H Q E := by
  have lz : (labsV ns).length = ns.length := by unfold labsV; rw [List.length_map]
  refine ⟨_, rfl, .inl ⟨a, labsV ns, rfl, s, fun v hv => ?_, by have := r.2.1; omega, fun ms r2 e => ?_, fun z => absurd rfl (z ns r)⟩⟩
  · obtain ⟨x, hx, rfl⟩ := List.mem_map.mp hv
    refine Tx.txt ?_
    have lb := row_lab r hx
    show (mkS (labL x (dOf ns))).length ≤ 1000
    rw [mkS_len]
    have := labL_len x (d := dOf ns) lb.1 (by have := lb.2.2; omega)
    omega
  · have z := fv_labs r2
    rw [← e, fv_labs r] at z
    subst z
    exact h
theorem c_parse_labelsX {T : Txt K mg} {H : Hp} {Q : VK} {E : XK} {a : Addr} {xs : List V} (s : SqL K H a xs) (tx : ∀ v, v ∈ xs → Tx K H v) (lz : xs.length ≤ 1000000) (h1 : ∀ ns, Row ns → xs = labsV ns → ∀ p H', Same H H' → H p = none → H' p = some (.lst (ns.map V.int)) → Q (.ref p) H') (h2 : (∀ ns, Row ns → xs ≠ labsV ns) → ∀ H', Same H H' → E (.ref T.BadText.C) none H') : sp_parse_labels T [.ref a] H Q E := ⟨_, rfl, .inl ⟨a, xs, rfl, s, tx, lz, h1, h2⟩⟩
theorem c_parse_labelsN {T : Txt K mg} {H : Hp} {Q : VK} {E : XK} {x : V} (n : NotLst K H x) (h : ∀ H', Same H H' → E (.ref T.BadText.C) none H') : sp_parse_labels T [x] H Q E := ⟨x, rfl, .inr ⟨n, h⟩⟩
/-! ### _law_start -/
def sp__law_start (_ : Txt K mg) : Sp := fun vs H Q _ => ∃ (a : Addr) (ns : List Int), vs = [.ref a] ∧ SqL K H a (ns.map V.int) ∧ ns.length ≤ 63 ∧ ∀ d n H', Same H H' → Dr H' d n → H d = none → H n = none → Q (.ref d) H'
theorem ok__law_start (T : Txt K mg) : FnOk P w K mg base CX0 1 T._law_start.f T._law_start.fd ["_law_script"] (sp__law_start T) := by
  refine T._law_start.F.ok sc__law_start (fun vs H Q E h => ?_) (fun cdv A outer s H vs Q E hr h => ?_)
  · obtain ⟨a, ns, rfl, _⟩ := h; rfl
  · refine ⟨_, (pss_one (ps_ret (pe_lst (pa_cons (pe_ifExp (pt_cmpR (op_neD hr.units) (pv 0) (pe_lst pa_nil) (nomark _)) (pe_callTy xc_list (by rfl) T.z_list (by decide +kernel) (pa_cons (pv 0) pa_nil)) (pe_lst (pa_cons pe_int pa_nil))) (pa_cons pe_int pa_nil))))), ?_⟩
    try dsimp only [cxOf]
    obtain ⟨a, ns, rfl, s, hl, k⟩ := h
    walk_at "ax_go"
    intro e ne
    have s2 : SqL K (upd H e (.lst [])) a (ns.map V.int) := SqL.updn ne s
    refine r_neD (b := decide (ns = [])) (dp_ints s2) (.lst (SqL.of upd_same) .nil) (shp_ints ns) (by rfl) (by rw [← eqv_listI]; rfl) ?_
    walk_at "ax_go"
    refine r_ifn (fun c => ?_) (fun c => ?_)
    · walk_at "ax_go"
      refine r_listL s2 ?_
      intro l nl
      walk_at "ax_go"
      intro d nd
      refine k d l _ (Same.updn (Same.updn (same_new ne) nl) nd) ⟨ns, 0, upd_same, at_updn nd upd_same, ?_, by omega⟩ ((same_new ne).free (Same.free (same_new nl) nd)) ((same_new ne).free nl)
      cases ns with
      | nil => exact absurd rfl c
      | cons x r => simp
    · subst c
      walk_at "ax_go"
      intro l nl
      walk_at "ax_go"
      intro d nd
      exact k d l _ (Same.updn (Same.updn (same_new ne) nl) nd) ⟨[0], 0, upd_same, at_updn nd upd_same, by decide, by decide⟩ ((same_new ne).free (Same.free (same_new nl) nd)) ((same_new ne).free nl)
theorem c__law_start {T : Txt K mg} {H : Hp} {Q : VK} {E : XK} {a : Addr} {ns : List Int} (s : SqL K H a (ns.map V.int)) (l : ns.length ≤ 63) (h : ∀ d n H', Same H H' → Dr H' d n → H d = none → H n = none → Q (.ref d) H') : sp__law_start T [.ref a] H Q E := ⟨a, ns, rfl, s, l, h⟩
local macro_rules | `(tactic| walk_at "ax_call") => `(tactic| ((with_reducible refine' c__law_start ?s ?l ?_); (case s => walk_at "ax_seq"); (case l => assumption)))
/-! ### _law_draw -/
def sp__law_draw (_ : Txt K mg) : Sp := fun vs H Q _ => ∃ (d n : Addr) (lim : Int), vs = [.ref d, .int lim] ∧ Dr H d n ∧ (0 < lim ∧ lim < 1073741824) ∧ ∀ v H', 0 ≤ v → v < lim → Kp d n H H' → Dr H' d n → Q (.int v) H'
theorem ok__law_draw (T : Txt K mg) : FnOk P w K mg base CX0 1 T._law_draw.f T._law_draw.fd ["_law_draws", "_law_limit"] (sp__law_draw T) := by
  refine T._law_draw.F.ok sc__law_draw (fun vs H Q E h => ?_) (fun cdv A outer s H vs Q E hr h => ?_)
  · obtain ⟨d, n, lim, rfl, _⟩ := h; rfl
  · refine ⟨_, (pss_cons (ps_set (i := 2) sc__law_draw.nd rfl (Or.inl rfl) (pe_ix ix_list (pv 0) pe_int (fun _ _ => rfl)))
        (pss_cons (ps_asg (pe_op op_add (pe_ix ix_list (pv 0) pe_int (fun _ _ => rfl)) pe_int) (pg_sub (pv 0) pe_int set_list))
        (pss_cons (ps_set (i := 3) sc__law_draw.nd rfl (Or.inl rfl) (pe_op op_mod (pe_ix ix_list (pv 0) pe_int (fun _ _ => rfl)) (pe_callB xc_len (by rfl) T.z_len PySem.boot_len (pa_cons (pv 2) pa_nil))))
        (pss_cons (ps_set (i := 4) sc__law_draw.nd rfl (Or.inl rfl) (pe_ix ix_list (pv 2) (pv 3) (fun _ _ => rfl)))
        (pss_cons (ps_if (pt_cmpR op_ge (pv 4) pe_int (nomark _))
          (pss_cons (ps_asg (pe_op op_fdiv (pv 4) (pv 1)) (pg_sub (pv 2) (pv 3) set_list))
        (pss_one (ps_ret (pe_op op_mod (pv 4) (pv 1)))))
          pss_nil)
        (pss_cons (ps_set (i := 5) sc__law_draw.nd rfl (Or.inl rfl) (pe_op op_mod (pe_op op_add (pv 4) (pe_op op_mul pe_int (pe_ix ix_list (pv 0) pe_int (fun _ _ => rfl)))) pe_int))
        (pss_cons (ps_set (i := 5) sc__law_draw.nd rfl (Or.inl rfl) (pe_op op_mod (pe_op op_pow (pv 5) pe_int) pe_int))
        (pss_one (ps_ret (pe_op op_mod (pe_op op_fdiv (pe_op op_mod (pe_op op_add (pe_op op_mul (pe_op op_fdiv (pv 5) pe_int) pe_int) (pv 5)) pe_int) pe_int) (pv 1))))))))))), ?_⟩
    try dsimp only [cxOf]
    obtain ⟨d, n, lim, rfl, dr, ⟨b1, b2⟩, k⟩ := h
    have hnd := dr.ne
    obtain ⟨ns, c, e1, e2, h1, h2⟩ := dr
    walk_at "ax_go"
    refine r_setL (j := 1) e1 rfl ?_
    have f1 : (upd H d (.lst ([V.ref n, V.int c].set 1 (.int (c + 1))))) d = some (.lst [V.ref n, .int (c + 1)]) := upd_same
    have f2 : (upd H d (.lst ([V.ref n, V.int c].set 1 (.int (c + 1))))) n = some (.lst (ns.map V.int)) := by
      rw [upd_ne hnd]
      exact e2
    have s1 := SqL.of (K := K) f1
    have s2 := SqL.of (K := K) f2
    have keep : Kp d n H (upd H d (.lst ([V.ref n, V.int c].set 1 (.int (c + 1))))) := fun b o e q1 q2 => by
      rw [upd_ne q1]
      exact e
    generalize upd H d (.lst ([V.ref n, V.int c].set 1 (.int (c + 1)))) = H2 at f1 f2 s1 s2 keep ⊢
    walk_at "ax_go"
    rw [List.length_map]
    refine r_I (by show (0 : Int) < _; omega) ?_
    have m0 : 0 ≤ (c + 1) % (ns.length : Int) := Int.emod_nonneg _ (by omega)
    have m1 : (c + 1) % (ns.length : Int) < ns.length := Int.emod_lt_of_pos _ (by omega)
    generalize (c + 1) % (ns.length : Int) = at_ at m0 m1 ⊢
    obtain ⟨x, hx⟩ : ∃ x, ns[at_.toNat]? = some x := ⟨ns[at_.toNat]'(by omega), List.getElem?_eq_getElem (by omega)⟩
    walk_at "ax_go"
    refine r_ixL s2 (atI_ok m0 (v := .int x) (by rw [List.getElem?_map, hx]; rfl)) ?_
    walk_at "ax_go"
    have dr2 : Dr H2 d n := ⟨ns, c + 1, f1, f2, h1, h2⟩
    refine r_if (fun q => ?_) (fun q => ?_)
    · walk_at "ax_go"
      refine r_setL (j := at_.toNat) f2 (ixN_ok m0 (by rw [List.length_map]; exact m1)) ?_
      walk_at "ax_go"
      refine k _ _ (Int.emod_nonneg _ (by omega)) (Int.emod_lt_of_pos _ b1) (fun b o e q1 q2 => ?_) ⟨ns.set at_.toNat (x / lim), c + 1, ?_, ?_, ?_, ?_⟩
      · rw [upd_ne q2]
        exact keep b o e q1 q2
      · rw [upd_ne hnd.symm]
        exact f1
      · rw [upd_same, List.map_set]
      · rw [List.length_set]; exact h1
      · rw [List.length_set]; exact h2
    · walk_at "ax_go"
      have p0 : 0 ≤ (x + 104729 * (c + 1)) % 4294967291 := Int.emod_nonneg _ (by omega)
      have p1 : (x + 104729 * (c + 1)) % 4294967291 < 4294967291 := Int.emod_lt_of_pos _ (by omega)
      generalize (x + 104729 * (c + 1)) % 4294967291 = m at p0 p1 ⊢
      walk_at "ax_go"
      have r0 : 0 ≤ m ^ (5 : Int).toNat % 4294967279 := Int.emod_nonneg _ (by omega)
      have r1 : m ^ (5 : Int).toNat % 4294967279 < 4294967279 := Int.emod_lt_of_pos _ (by omega)
      generalize m ^ (5 : Int).toNat % 4294967279 = w at r0 r1 ⊢
      walk_at "ax_go"
      exact k _ _ (Int.emod_nonneg _ (by omega)) (Int.emod_lt_of_pos _ b1) keep dr2
theorem c__law_draw {T : Txt K mg} {H : Hp} {Q : VK} {E : XK} {d n : Addr} {lim : Int} (r : Dr H d n) (b : 0 < lim ∧ lim < 1073741824) (h : ∀ v H', 0 ≤ v → v < lim → Kp d n H H' → Dr H' d n → Q (.int v) H') : sp__law_draw T [.ref d, .int lim] H Q E := ⟨d, n, lim, rfl, r, b, h⟩
local macro_rules | `(tactic| walk_at "ax_call") => `(tactic| ((with_reducible refine' c__law_draw ?r ?b ?_); (case r => walk_at "ax_dr"); (case b => exact ⟨by omega, by omega⟩)))
/-! ### _law_pick -/
def sp__law_pick (_ : Txt K mg) : Sp := fun vs H Q _ => ∃ (d n c : Addr) (xs : List V), vs = [.ref d, .ref c] ∧ Dr H d n ∧ SqL K H c xs ∧ Of d n c ∧ (0 < xs.length ∧ xs.length ≤ 1000) ∧ ∀ x H', x ∈ xs → Kp d n H H' → Dr H' d n → Q x H'
theorem ok__law_pick (T : Txt K mg) : FnOk P w K mg base CX0 2 T._law_pick.f T._law_pick.fd ["_law_draws", "_law_choices"] (sp__law_pick T) := by
  refine T._law_pick.F.ok sc__law_pick (fun vs H Q E h => ?_) (fun cdv A outer s H vs Q E hr h => ?_)
  · obtain ⟨d, n, c, xs, rfl, _⟩ := h; rfl
  · refine ⟨_, (pss_one (ps_ret (pe_ix ix_list (pv 1) (pe_call (ok__law_draw T) (hr.mono (by decide)) rfl T._law_draw.g T._law_draw.F.kp T._law_draw.b .nil pass0 (pa_cons (pv 0) (pa_cons (pe_callB xc_len (by rfl) T.z_len PySem.boot_len (pa_cons (pv 1) pa_nil)) pa_nil))) (fun _ _ => rfl)))), ?_⟩
    try dsimp only [cxOf]
    obtain ⟨d, n, c, xs, rfl, dr, s, o, ⟨h1, h2⟩, k⟩ := h
    walk_at "ax_go"
    intro v H1 v0 v1 kp dr1
    have hv : v.toNat < xs.length := by omega
    refine r_ixL (v := xs[v.toNat]) (Kp.seqL kp o s) (atI_ok v0 (List.getElem?_eq_getElem hv)) ?_
    exact k _ _ (List.getElem_mem hv) kp dr1
theorem c__law_pick {T : Txt K mg} {H : Hp} {Q : VK} {E : XK} {d n c : Addr} {xs : List V} (r : Dr H d n) (s : SqL K H c xs) (o : Of d n c) (b : 0 < xs.length ∧ xs.length ≤ 1000) (h : ∀ x H', x ∈ xs → Kp d n H H' → Dr H' d n → Q x H') : sp__law_pick T [.ref d, .ref c] H Q E := ⟨d, n, c, xs, rfl, r, s, o, b, h⟩
/-! ### _law_error -/
def sp__law_error (T : Txt K mg) : Sp := fun vs H Q _ => ∃ (a : Addr), vs = [.ref a] ∧ (
    (H a = some (Kept (.ref T.BadRange.C) a) ∧ ∀ H', Same H H' → Q (.str "range") H') ∨ (H a = some (Kept (.ref T.BadStep.C) a) ∧ ∀ H', Same H H' → Q (.str "step") H') ∨
    (H a = some (Kept (.ref T.BadMarks.C) a) ∧ ∀ H', Same H H' → Q (.str "marks") H') ∨ (H a = some (Kept (.ref T.BadNumber.C) a) ∧ ∀ H', Same H H' → Q (.str "number") H') ∨
    (H a = some (Kept (.ref T.BadText.C) a) ∧ ∀ H', Same H H' → Q (.str "text") H') ∨ (H a = some (Kept (.ref T.NotFound.C) a) ∧ ∀ H', Same H H' → Q (.str "none") H'))
theorem ok__law_error (T : Txt K mg) : FnOk P w K mg base CX0 1 T._law_error.f T._law_error.fd ["_law_caught"] (sp__law_error T) := by
  refine T._law_error.F.ok sc__law_error (fun vs H Q E h => ?_) (fun cdv A outer s H vs Q E hr h => ?_)
  · obtain ⟨a, rfl, _⟩ := h; rfl
  · refine ⟨_, (pss_cons (ps_set (i := 1) sc__law_error.nd rfl (Or.inl rfl) (pe_lst (pa_cons (pe_callB call_isA (by rfl) T.z_isinstance (by decide +kernel) (pa_cons (pv 0) (pa_cons (pe_glob (v := .ref T.BadRange.C) rfl T.BadRange.g rfl) pa_nil))) (pa_cons (pe_callB call_isA (by rfl) T.z_isinstance (by decide +kernel) (pa_cons (pv 0) (pa_cons (pe_glob (v := .ref T.BadStep.C) rfl T.BadStep.g rfl) pa_nil))) (pa_cons (pe_callB call_isA (by rfl) T.z_isinstance (by decide +kernel) (pa_cons (pv 0) (pa_cons (pe_glob (v := .ref T.BadMarks.C) rfl T.BadMarks.g rfl) pa_nil))) pa_nil)))))
        (pss_cons (ps_set (i := 1) sc__law_error.nd rfl (Or.inl rfl) (pe_op op_cat (pv 1) (pe_lst (pa_cons (pe_callB call_isA (by rfl) T.z_isinstance (by decide +kernel) (pa_cons (pv 0) (pa_cons (pe_glob (v := .ref T.BadNumber.C) rfl T.BadNumber.g rfl) pa_nil))) (pa_cons (pe_callB call_isA (by rfl) T.z_isinstance (by decide +kernel) (pa_cons (pv 0) (pa_cons (pe_glob (v := .ref T.BadText.C) rfl T.BadText.g rfl) pa_nil))) (pa_cons (pe_callB call_isA (by rfl) T.z_isinstance (by decide +kernel) (pa_cons (pv 0) (pa_cons (pe_glob (v := .ref T.NotFound.C) rfl T.NotFound.g rfl) pa_nil))) pa_nil))))))
        (pss_cons (ps_if (PW.pt (pw_or (pt_cmpR op_ne (pe_bm PySem.F.plainAttrs_list PySem.F.slot_list_count PySem.F.type_list_count xm_countV (pv 1) (pa_cons pe_bl pa_nil)) pe_int (nomark _)) (pw_or (pt_not (pt_val (pe_callB call_isA (by rfl) T.z_isinstance (by decide +kernel) (pa_cons (pv 0) (pa_cons (pe_glob (v := .ref T.AxisError.C) rfl T.AxisError.g rfl) pa_nil))))) (pw_or1 (pt_not (pt_val (pe_callB call_isA (by rfl) T.z_isinstance (by decide +kernel) (pa_cons (pv 0) (pa_cons (pe_bltn (v := .ty "ValueError") rfl T.z_ValueError (by decide +kernel) rfl) pa_nil)))))))))
          (pss_one (ps_ret pe_str))
          pss_nil)
        (pss_one (ps_ret (pe_ix ix_list (pe_lst (pa_cons pe_str (pa_cons pe_str (pa_cons pe_str (pa_cons pe_str (pa_cons pe_str (pa_cons pe_str pa_nil))))))) (pe_bm PySem.F.plainAttrs_list PySem.F.slot_list_index PySem.F.type_list_index mt_index (pv 1) (pa_cons pe_bl pa_nil)) (fun _ _ => rfl))))))), ?_⟩
    try dsimp only [cxOf]
    obtain ⟨a, rfl, k⟩ := h
    rcases k with ⟨e, k⟩ | ⟨e, k⟩ | ⟨e, k⟩ | ⟨e, k⟩ | ⟨e, k⟩ | ⟨e, k⟩
    · have q0 := T.BadRange.i; have q1 := T.q_BadRange_BadRange; have q2 := T.q_BadRange_BadStep; have q3 := T.q_BadRange_BadMarks; have q4 := T.q_BadRange_BadNumber; have q5 := T.q_BadRange_BadText; have q6 := T.q_BadRange_NotFound; have q7 := T.q_BadRange_AxisError; have q8 := T.q_BadRange_ValueError
      walk_at "ax_go"
      intro l nl
      walk_at "ax_go"
      intro l2 nl2
      refine r_cat (at_updn nl2 upd_same) upd_same (by decide) fun l3 nl3 => ?_
      walk_at "ax_go"
      refine r_cntV 1 (SqL.of upd_same) rfl rfl rfl ?_
      walk_at "ax_go"
      intro l4 nl4
      walk_at "ax_go"
      refine r_index 0 (SqL.of (at_updn nl4 upd_same)) rfl rfl rfl rfl (fun m z' hm => absurd hm (Nat.not_lt_zero _)) ?_
      walk_at "ax_go"
      exact k _ (Same.updn (Same.updn (Same.updn (same_new nl) nl2) nl3) nl4)
    · have q0 := T.BadStep.i; have q1 := T.q_BadStep_BadRange; have q2 := T.q_BadStep_BadStep; have q3 := T.q_BadStep_BadMarks; have q4 := T.q_BadStep_BadNumber; have q5 := T.q_BadStep_BadText; have q6 := T.q_BadStep_NotFound; have q7 := T.q_BadStep_AxisError; have q8 := T.q_BadStep_ValueError
      walk_at "ax_go"
      intro l nl
      walk_at "ax_go"
      intro l2 nl2
      refine r_cat (at_updn nl2 upd_same) upd_same (by decide) fun l3 nl3 => ?_
      walk_at "ax_go"
      refine r_cntV 1 (SqL.of upd_same) rfl rfl rfl ?_
      walk_at "ax_go"
      intro l4 nl4
      walk_at "ax_go"
      refine r_index 1 (SqL.of (at_updn nl4 upd_same)) rfl rfl rfl rfl (by intro m z' hm; match m, hm with | 0, _ => (intro z; cases z; rfl)) ?_
      walk_at "ax_go"
      exact k _ (Same.updn (Same.updn (Same.updn (same_new nl) nl2) nl3) nl4)
    · have q0 := T.BadMarks.i; have q1 := T.q_BadMarks_BadRange; have q2 := T.q_BadMarks_BadStep; have q3 := T.q_BadMarks_BadMarks; have q4 := T.q_BadMarks_BadNumber; have q5 := T.q_BadMarks_BadText; have q6 := T.q_BadMarks_NotFound; have q7 := T.q_BadMarks_AxisError; have q8 := T.q_BadMarks_ValueError
      walk_at "ax_go"
      intro l nl
      walk_at "ax_go"
      intro l2 nl2
      refine r_cat (at_updn nl2 upd_same) upd_same (by decide) fun l3 nl3 => ?_
      walk_at "ax_go"
      refine r_cntV 1 (SqL.of upd_same) rfl rfl rfl ?_
      walk_at "ax_go"
      intro l4 nl4
      walk_at "ax_go"
      refine r_index 2 (SqL.of (at_updn nl4 upd_same)) rfl rfl rfl rfl (by intro m z' hm; match m, hm with | 0, _ => (intro z; cases z; rfl) | 1, _ => (intro z; cases z; rfl)) ?_
      walk_at "ax_go"
      exact k _ (Same.updn (Same.updn (Same.updn (same_new nl) nl2) nl3) nl4)
    · have q0 := T.BadNumber.i; have q1 := T.q_BadNumber_BadRange; have q2 := T.q_BadNumber_BadStep; have q3 := T.q_BadNumber_BadMarks; have q4 := T.q_BadNumber_BadNumber; have q5 := T.q_BadNumber_BadText; have q6 := T.q_BadNumber_NotFound; have q7 := T.q_BadNumber_AxisError; have q8 := T.q_BadNumber_ValueError
      walk_at "ax_go"
      intro l nl
      walk_at "ax_go"
      intro l2 nl2
      refine r_cat (at_updn nl2 upd_same) upd_same (by decide) fun l3 nl3 => ?_
      walk_at "ax_go"
      refine r_cntV 1 (SqL.of upd_same) rfl rfl rfl ?_
      walk_at "ax_go"
      intro l4 nl4
      walk_at "ax_go"
      refine r_index 3 (SqL.of (at_updn nl4 upd_same)) rfl rfl rfl rfl (by intro m z' hm; match m, hm with | 0, _ => (intro z; cases z; rfl) | 1, _ => (intro z; cases z; rfl) | 2, _ => (intro z; cases z; rfl)) ?_
      walk_at "ax_go"
      exact k _ (Same.updn (Same.updn (Same.updn (same_new nl) nl2) nl3) nl4)
    · have q0 := T.BadText.i; have q1 := T.q_BadText_BadRange; have q2 := T.q_BadText_BadStep; have q3 := T.q_BadText_BadMarks; have q4 := T.q_BadText_BadNumber; have q5 := T.q_BadText_BadText; have q6 := T.q_BadText_NotFound; have q7 := T.q_BadText_AxisError; have q8 := T.q_BadText_ValueError
      walk_at "ax_go"
      intro l nl
      walk_at "ax_go"
      intro l2 nl2
      refine r_cat (at_updn nl2 upd_same) upd_same (by decide) fun l3 nl3 => ?_
      walk_at "ax_go"
      refine r_cntV 1 (SqL.of upd_same) rfl rfl rfl ?_
      walk_at "ax_go"
      intro l4 nl4
      walk_at "ax_go"
      refine r_index 4 (SqL.of (at_updn nl4 upd_same)) rfl rfl rfl rfl (by intro m z' hm; match m, hm with | 0, _ => (intro z; cases z; rfl) | 1, _ => (intro z; cases z; rfl) | 2, _ => (intro z; cases z; rfl) | 3, _ => (intro z; cases z; rfl)) ?_
      walk_at "ax_go"
      exact k _ (Same.updn (Same.updn (Same.updn (same_new nl) nl2) nl3) nl4)
    · have q0 := T.NotFound.i; have q1 := T.q_NotFound_BadRange; have q2 := T.q_NotFound_BadStep; have q3 := T.q_NotFound_BadMarks; have q4 := T.q_NotFound_BadNumber; have q5 := T.q_NotFound_BadText; have q6 := T.q_NotFound_NotFound; have q7 := T.q_NotFound_AxisError; have q8 := T.q_NotFound_ValueError
      walk_at "ax_go"
      intro l nl
      walk_at "ax_go"
      intro l2 nl2
      refine r_cat (at_updn nl2 upd_same) upd_same (by decide) fun l3 nl3 => ?_
      walk_at "ax_go"
      refine r_cntV 1 (SqL.of upd_same) rfl rfl rfl ?_
      walk_at "ax_go"
      intro l4 nl4
      walk_at "ax_go"
      refine r_index 5 (SqL.of (at_updn nl4 upd_same)) rfl rfl rfl rfl (by intro m z' hm; match m, hm with | 0, _ => (intro z; cases z; rfl) | 1, _ => (intro z; cases z; rfl) | 2, _ => (intro z; cases z; rfl) | 3, _ => (intro z; cases z; rfl) | 4, _ => (intro z; cases z; rfl)) ?_
      walk_at "ax_go"
      exact k _ (Same.updn (Same.updn (Same.updn (same_new nl) nl2) nl3) nl4)
theorem c__law_error_BadRange {T : Txt K mg} {H : Hp} {Q : VK} {E : XK} {a : Addr} (e : H a = some (Kept (.ref T.BadRange.C) a)) (h : ∀ H', Same H H' → Q (.str "range") H') : sp__law_error T [.ref a] H Q E := ⟨a, rfl, .inl ⟨e, h⟩⟩
local macro_rules | `(tactic| walk_at "ax_call") => `(tactic| ((with_reducible refine' c__law_error_BadRange ?e ?_); (case e => walk_at "ax_seq")))
theorem c__law_error_BadStep {T : Txt K mg} {H : Hp} {Q : VK} {E : XK} {a : Addr} (e : H a = some (Kept (.ref T.BadStep.C) a)) (h : ∀ H', Same H H' → Q (.str "step") H') : sp__law_error T [.ref a] H Q E := ⟨a, rfl, (.inr (.inl ⟨e, h⟩))⟩
local macro_rules | `(tactic| walk_at "ax_call") => `(tactic| ((with_reducible refine' c__law_error_BadStep ?e ?_); (case e => walk_at "ax_seq")))
theorem c__law_error_BadMarks {T : Txt K mg} {H : Hp} {Q : VK} {E : XK} {a : Addr} (e : H a = some (Kept (.ref T.BadMarks.C) a)) (h : ∀ H', Same H H' → Q (.str "marks") H') : sp__law_error T [.ref a] H Q E := ⟨a, rfl, (.inr (.inr (.inl ⟨e, h⟩)))⟩
local macro_rules | `(tactic| walk_at "ax_call") => `(tactic| ((with_reducible refine' c__law_error_BadMarks ?e ?_); (case e => walk_at "ax_seq")))
theorem c__law_error_BadNumber {T : Txt K mg} {H : Hp} {Q : VK} {E : XK} {a : Addr} (e : H a = some (Kept (.ref T.BadNumber.C) a)) (h : ∀ H', Same H H' → Q (.str "number") H') : sp__law_error T [.ref a] H Q E := ⟨a, rfl, (.inr (.inr (.inr (.inl ⟨e, h⟩))))⟩
local macro_rules | `(tactic| walk_at "ax_call") => `(tactic| ((with_reducible refine' c__law_error_BadNumber ?e ?_); (case e => walk_at "ax_seq")))
theorem c__law_error_BadText {T : Txt K mg} {H : Hp} {Q : VK} {E : XK} {a : Addr} (e : H a = some (Kept (.ref T.BadText.C) a)) (h : ∀ H', Same H H' → Q (.str "text") H') : sp__law_error T [.ref a] H Q E := ⟨a, rfl, (.inr (.inr (.inr (.inr (.inl ⟨e, h⟩)))))⟩
local macro_rules | `(tactic| walk_at "ax_call") => `(tactic| ((with_reducible refine' c__law_error_BadText ?e ?_); (case e => walk_at "ax_seq")))
theorem c__law_error_NotFound {T : Txt K mg} {H : Hp} {Q : VK} {E : XK} {a : Addr} (e : H a = some (Kept (.ref T.NotFound.C) a)) (h : ∀ H', Same H H' → Q (.str "none") H') : sp__law_error T [.ref a] H Q E := ⟨a, rfl, (.inr (.inr (.inr (.inr (.inr ⟨e, h⟩)))))⟩
local macro_rules | `(tactic| walk_at "ax_call") => `(tactic| ((with_reducible refine' c__law_error_NotFound ?e ?_); (case e => walk_at "ax_seq")))
/-! ### _law_steps -/
def sp__law_steps (_ : Txt K mg) : Sp := fun vs H Q _ => vs = [] ∧ ∀ (p : Addr) (H' : Hp), Same H H' → H p = none → H' p = some (.lst (steps.map V.int)) → Q (.ref p) H'
theorem ok__law_steps (T : Txt K mg) : FnOk P w K mg base CX0 1 T._law_steps.f T._law_steps.fd [] (sp__law_steps T) := by
  refine T._law_steps.F.ok sc__law_steps (fun vs H Q E h => ?_) (fun cdv A outer s H vs Q E hr h => ?_)
  · obtain ⟨rfl, _⟩ := h; rfl
  · refine ⟨_, (pss_cons (ps_set (i := 0) sc__law_steps.nd rfl (Or.inl rfl) (pe_lst pa_nil))
        (pss_cons (ps_set (i := 1) sc__law_steps.nd rfl (Or.inl rfl) pe_int)
        (pss_cons (ps_for PassesOwn.never rfl (pi_range1 rfl T.z_range (pa_cons pe_int pa_nil)) (pg_name (i := 2) sc__law_steps.nd rfl (Or.inl rfl))
          (pss_cons (ps_set (i := 0) sc__law_steps.nd rfl (Or.inl rfl) (pe_op op_cat (pv 0) (pe_lst (pa_cons (pv 1) (pa_cons (pe_op op_mul pe_int (pv 1)) (pa_cons (pe_op op_mul pe_int (pv 1)) pa_nil))))))
        (pss_one (ps_set (i := 1) sc__law_steps.nd rfl (Or.inl rfl) (pe_op op_mul (pv 1) pe_int)))))
        (pss_one (ps_ret (pv 0)))))), ?_⟩
    try dsimp only [cxOf]
    obtain ⟨rfl, k⟩ := h
    walk_at "ax_go"
    intro o no
    walk_at "ax_go"
    refine for_range (lo := 0) (n := 6) (fun j σ' H' => ∃ (q : Addr) (x : Option V), σ' = [some (.ref q), some (.int (ten j)), x] ∧ Same H H' ∧ H q = none ∧ H' q = some (.lst ((steps.take (3 * j)).map V.int))) ⟨o, none, rfl, same_new no, no, upd_same⟩ ?_ ?_
    · rintro j σ' H' hj ⟨q, x, rfl, sm, nq, hq⟩
      obtain ⟨t1, t2, t3, t4⟩ := ten_le j hj
      walk_at "ax_go"
      intro l nl
      refine r_cat (at_updn nl hq) upd_same (small_le (by rw [List.length_map]; exact Nat.le_trans (List.length_take_le _ _) (by omega)) (Nat.le_of_ble_eq_true rfl)) fun l2 nl2 => ?_
      walk_at "ax_go"
      refine ⟨l2, some (.int (0 + j)), by rw [← t3]; rfl, Same.updn (Same.updn sm nl) nl2, sm.free (Same.free (same_new nl) nl2), ?_⟩
      rw [upd_same, t4, List.map_append]
      rfl
    · rintro σ' H' ⟨q, x, rfl, sm, nq, hq⟩
      walk_at "ax_go"
      exact k q H' sm nq hq
theorem c__law_steps {T : Txt K mg} {H : Hp} {Q : VK} {E : XK} (h : ∀ (p : Addr) (H' : Hp), Same H H' → H p = none → H' p = some (.lst (steps.map V.int)) → Q (.ref p) H') : sp__law_steps T [] H Q E := ⟨rfl, h⟩
local macro_rules | `(tactic| walk_at "ax_call") => `(tactic| with_reducible refine c__law_steps ?_)
/-! ### _law_step -/
theorem step_at (m : Int) (h0 : 0 ≤ m) (h1 : m < 18) : ∃ s, s ∈ steps ∧ atI (steps.map V.int) m = some (.int s) ∧ ∀ k : Nat, m < k → s ∈ steps.take k := by
  obtain ⟨j, rfl⟩ : ∃ j : Nat, m = (j : Int) := ⟨m.toNat, by omega⟩
  have q : ∀ j, j < 18 → ∃ s, s ∈ steps ∧ (steps.map V.int)[j]? = some (.int s) ∧ steps[j]? = some s := by
    intro j hj
    have hl : j < steps.length := hj
    exact ⟨steps[j], List.getElem_mem hl, by rw [List.getElem?_map, List.getElem?_eq_getElem hl]; rfl, List.getElem?_eq_getElem hl⟩
  obtain ⟨s, h2, h3, h4⟩ := q j (by omega)
  refine ⟨s, h2, atI_nat h3, fun k hk => ?_⟩
  refine List.mem_of_getElem? (i := j) ?_
  rw [List.getElem?_take_of_lt (by omega)]
  exact h4
def sp__law_step (_ : Txt K mg) : Sp := fun vs H Q _ => ∃ (d n : Addr) (m : Nat), vs = [.ref d, .int m] ∧ Dr H d n ∧ (0 < m ∧ m ≤ 18) ∧ ∀ s H', s ∈ steps → s ∈ steps.take m → Kp d n H H' → Dr H' d n → Q (.int s) H'
theorem ok__law_step (T : Txt K mg) : FnOk P w K mg base CX0 2 T._law_step.f T._law_step.fd ["_law_draws", "_law_many"] (sp__law_step T) := by
  refine T._law_step.F.ok sc__law_step (fun vs H Q E h => ?_) (fun cdv A outer s H vs Q E hr h => ?_)
  · obtain ⟨d, n, m, rfl, _⟩ := h; rfl
  · refine ⟨_, (pss_one (ps_ret (pe_ix ix_list (pe_call0 (ok__law_steps T) (hr.mono (by decide)) rfl T._law_steps.g T._law_steps.F.kp T._law_steps.b .nil pass0) (pe_call (ok__law_draw T) (hr.mono (by decide)) rfl T._law_draw.g T._law_draw.F.kp T._law_draw.b .nil pass0 (pa_cons (pv 0) (pa_cons (pv 1) pa_nil))) (fun _ _ => rfl)))), ?_⟩
    try dsimp only [cxOf]
    obtain ⟨d, n, m, rfl, dr, ⟨b1, b2⟩, k⟩ := h
    walk_at "ax_go"
    intro p H1 sm np hp
    have dr1 := dr.same sm
    walk_at "ax_go"
    intro v H2 h0 h1 kp dr2
    obtain ⟨s, q1, q2, q3⟩ := step_at v h0 (by omega)
    refine r_ixL (SqL.of (kp p _ hp ?_ ?_)) q2 ?_
    · exact (dr.off np).1
    · exact (dr.off np).2
    exact k s H2 q1 (q3 m h1) (Kp.trans (Kp.of sm) kp) dr2
theorem c__law_step {T : Txt K mg} {H : Hp} {Q : VK} {E : XK} {d n : Addr} {z : Int} (m : Nat) (e : z = (m : Int)) (r : Dr H d n) (b : 0 < m ∧ m ≤ 18) (h : ∀ s H', s ∈ steps → s ∈ steps.take m → Kp d n H H' → Dr H' d n → Q (.int s) H') : sp__law_step T [.ref d, .int z] H Q E := by
  subst e
  exact ⟨d, n, m, rfl, r, b, h⟩
/-! ### _law_written -/
/-- the label, or none -/
def wrV (v : Int) (d : Nat) : V := if v.natAbs % pw10 d = 0 then .str (lab v d) else .non
def sp__law_written (_ : Txt K mg) : Sp := fun vs H Q _ => ∃ (v : Int) (d : Nat), vs = [.int v, .int d] ∧ d ≤ 3 ∧ v.natAbs ≤ 1000000 ∧ ∀ H', Same H H' → Q (wrV v d) H'
theorem ok__law_written (T : Txt K mg) : FnOk P w K mg base CX0 1 T._law_written.f T._law_written.fd ["_law_value", "_law_digits"] (sp__law_written T) := by
  refine T._law_written.F.ok sc__law_written (fun vs H Q E h => ?_) (fun cdv A outer s H vs Q E hr h => ?_)
  · obtain ⟨_, _, rfl, _⟩ := h; rfl
  · refine ⟨_, (pss_cons (ps_set (i := 2) sc__law_written.nd rfl (Or.inl rfl) (pe_ix ix_list (pe_lst (pa_cons pe_int (pa_cons pe_int (pa_cons pe_int (pa_cons pe_int pa_nil))))) (pv 1) (fun _ _ => rfl)))
        (pss_cons (ps_set (i := 3) sc__law_written.nd rfl (Or.inl rfl) (pe_callTy xc_str (by rfl) T.z_str (by decide +kernel) (pa_cons (pe_op op_fdiv (pe_callB xc_abs (by rfl) T.z_abs (by decide +kernel) (pa_cons (pv 0) pa_nil)) pe_int) pa_nil)))
        (pss_cons (ps_set (i := 4) sc__law_written.nd rfl (Or.inl rfl) (pe_slice sl_str (pe_callTy xc_str (by rfl) T.z_str (by decide +kernel) (pa_cons (pe_op op_add (pe_op op_mod (pe_callB xc_abs (by rfl) T.z_abs (by decide +kernel) (pa_cons (pv 0) pa_nil)) pe_int) pe_int) pa_nil)) (po_some pe_int) (po_some (pe_op op_add pe_int (pv 1)))))
        (pss_cons (ps_if (pt_cmpR op_ne (pe_op op_mod (pv 0) (pv 2)) pe_int (nomark _))
          (pss_one (ps_ret pe_non))
          pss_nil)
        (pss_one (ps_ret (pe_op xo_addS (pe_op xo_addS (pe_ifExp (pt_cmpR op_lt (pv 0) pe_int (nomark _)) pe_str pe_str) (pv 3)) (pe_ifExp (pt_cmpR op_gt (pv 1) pe_int (nomark _)) (pe_op xo_addS pe_str (pv 4)) pe_str)))))))), ?_⟩
    try dsimp only [cxOf]
    obtain ⟨v, d, rfl, hd, hv, k⟩ := h
    walk_at "ax_go"
    intro l nl
    have s1 := same_new (o := .lst [V.int 1000, V.int 100, V.int 10, V.int 1]) nl
    have sl : SqL K (upd H l (.lst [V.int 1000, V.int 100, V.int 10, V.int 1])) l [V.int 1000, V.int 100, V.int 10, V.int 1] := SqL.of upd_same
    generalize upd H l _ = H1 at s1 sl ⊢
    walk_at "ax_go"
    refine r_ixL sl (pow_at' (by omega)) ?_
    have k := k H1 s1
    have ab : (if v < 0 then -v else v) = (v.natAbs : Int) := by split <;> omega
    walk_at "ax_go"
    rw [ab, show ((v.natAbs : Int) / 1000) = ((v.natAbs / 1000 : Nat) : Int) from rfl, intL_nat]
    walk_at "ax_go"
    rw [show ((v.natAbs : Int) % 1000 + 1000) = ((v.natAbs % 1000 + 1000 : Nat) : Int) from rfl, intL_nat]
    have nl2 := numL_len (n := v.natAbs % 1000 + 1000) (k := 10) (by decide) (by omega)
    have nl3 := numL_len (n := v.natAbs / 1000) (k := 10) (by decide) (by omega)
    have dl := digs_len (v.natAbs / pw10 d) hd
    refine r_slMid (by omega) (by omega) (by omega) ?_
    rw [show (1 + (d : Int) - 1).toNat = d by omega, show (1 : Int).toNat = 1 from rfl, rest_eq hd]
    have pp : (0 : Int) < (pw10 d : Int) := by exact_mod_cast pw10_pos d
    have mz := mod_nat v (pw10 d)
    unfold wrV at k
    walk_at "ax_go"
    refine r_ifn (fun c => ?_) (fun c => ?_)
    · rw [if_neg (fun z => c (mz.mpr z))] at k
      walk_at "ax_go"
      exact k
    rw [if_pos (mz.mp c)] at k
    unfold lab labL at k
    walk_at "ax_go"
    obtain ⟨sg, esg⟩ : ∃ sg : List Nat, (if v < 0 then [45] else []) = sg := ⟨_, rfl⟩
    have lsg : sg.length ≤ 1 := by
      rw [← esg]
      split <;> simp
    rw [esg] at k
    refine r_ifJ (.str (mkS sg)) (fun c Q' q => ?_) (fun c Q' q => ?_) ?_
    · rw [if_pos c] at esg
      rw [← esg] at q
      walk_at "ax_go"
      exact q
    · rw [if_neg c] at esg
      rw [← esg] at q
      walk_at "ax_go"
      exact q
    walk_at "ax_go"
    by_cases d0 : d = 0
    · subst d0
      rw [if_pos rfl] at k
      walk_at "ax_go"
      rw [s_none]
      walk_at "ax_go"
      rw [List.append_assoc]
      exact k
    · rw [if_neg d0] at k
      walk_at "ax_go"
      rw [s_dot]
      walk_at "ax_go"
      rw [List.append_assoc]
      exact k
theorem c__law_written {T : Txt K mg} {H : Hp} {Q : VK} {E : XK} {v : Int} {d : Nat} (hd : d ≤ 3) (hv : v.natAbs ≤ 1000000) (h : ∀ H', Same H H' → Q (wrV v d) H') : sp__law_written T [.int v, .int d] H Q E := ⟨v, d, rfl, hd, hv, h⟩
/-! ### _law_call -/
def sp__law_call (_ : Txt K mg) : Sp := fun vs H Q _ => ∃ (k : Int) (x y : V), vs = [.int k, x, y] ∧
  ((k = 0 ∧ ∃ (v : Int) (d : Nat), x = .int v ∧ y = .int d ∧ d ≤ 3 ∧ v.natAbs ≤ 1000000 ∧ ∀ H', Same H H' → Q (if v.natAbs % pw10 d = 0 then .str (lab v d) else .str (Str.ofString "number")) H') ∨
   (k = 1 ∧ ∃ (v : Int) (d : Nat), x = .str (lab v d) ∧ Lab v d ∧ ∀ p H', Same H H' → H p = none → H' p = some (.tup [.int v, .int d]) → Q (.ref p) H') ∨
   (k = 2 ∧ ∃ (a : Addr) (xs : List V), x = .ref a ∧ SqL K H a xs ∧ (∀ v, v ∈ xs → Tx K H v) ∧ xs.length ≤ 1000000 ∧ (∀ ns, Row ns → xs = labsV ns → ∀ p H', Same H H' → H p = none → H' p = some (.lst (ns.map V.int)) → Q (.ref p) H') ∧ ((∀ ns, Row ns → xs ≠ labsV ns) → ∀ H', Same H H' → Q (.str (Str.ofString "text")) H')))
theorem ok__law_call (T : Txt K mg) : FnOk P w K mg base CX0 4 T._law_call.f T._law_call.fd ["_law_kind", "_law_one", "_law_two"] (sp__law_call T) := by
  refine T._law_call.F.ok sc__law_call (fun vs H Q E h => ?_) (fun cdv A outer s H vs Q E hr h => ?_)
  · obtain ⟨k, x, y, rfl, _⟩ := h; rfl
  · refine ⟨_, (pss_cons (ps_set (i := 3) sc__law_call.nd rfl (Or.inl rfl) pe_non)
        (pss_cons (ps_set (i := 4) sc__law_call.nd rfl (Or.inl rfl) pe_non)
        (pss_cons (ps_try_keep (i := 5) rfl rfl rfl sc__law_call.nd rfl rfl ⟨rfl, by decide, .inl T.AxisError.g⟩ (fun W pn xe tk _ => (pss_one (ps_if (pt_cmpR op_eq (pv 0) pe_int (nomark _))
          (pss_one (ps_set (i := 3) sc__law_call.nd rfl (Or.inl rfl) (pe_callS (ok_label T) (hr.mono (by decide)) rfl T.label.g T.label.F.kp T.label.b (fun σ => passAt tk σ) (pa_cons (pv 1) (pa_cons (pv 2) pa_nil)))))
          (pss_one (ps_set (i := 3) sc__law_call.nd rfl (Or.inl rfl) (pe_ifExp (pt_cmpR op_eq (pv 0) pe_int (nomark _)) (pe_callS (ok_parse_label T) (hr.mono (by decide)) rfl T.parse_label.g T.parse_label.F.kp T.parse_label.b (fun σ => passAt tk σ) (pa_cons (pv 1) pa_nil)) (pe_callS (ok_parse_labels T) (hr.mono (by decide)) rfl T.parse_labels.g T.parse_labels.F.kp T.parse_labels.b (fun σ => passAt tk σ) (pa_cons (pv 1) pa_nil))))))))
          (fun a oe cls d pn _ _ => (pss_one (ps_set (i := 4) sc__law_call.nd rfl (Or.inl rfl) (pv 5)))))
        (pss_one (ps_ret (pe_ifExp (pt_cmpR xo_isN (pv 4) pe_non (nomark _)) (pv 3) (pe_call (ok__law_error T) (hr.mono (by decide)) rfl T._law_error.g T._law_error.F.kp T._law_error.b .nil pass0 (pa_cons (pv 4) pa_nil)))))))), ?_⟩
    try dsimp only [cxOf]
    obtain ⟨kd, x, y, rfl, k⟩ := h
    have m1 := T.m_BadText
    have m2 := T.m_BadNumber
    rcases k with ⟨rfl, v, d, rfl, rfl, hd, hv, k⟩ | ⟨rfl, v, d, rfl, lb, k⟩ | ⟨rfl, a, xs, rfl, s, tx, lz, kS, kN⟩
    · by_cases c : v.natAbs % pw10 d = 0
      · rw [if_pos c] at k
        walk_at "ax_go"
        refine c_label ⟨hd, c, hv⟩ ?_
        walk_at "ax_go"
        exact k _ (Same.refl _)
      · rw [if_neg c] at k
        walk_at "ax_go"
        refine ⟨_, _, rfl, .inr ⟨.inr ⟨⟨v, rfl, by omega⟩, .inr ⟨v, d, rfl, rfl, hd, c⟩⟩, ?_⟩⟩
        walk_at "ax_go"
        intro e' ne
        walk_at "ax_go"
        intro H2 s2
        exact k _ ((same_new ne).trans s2)
    · have tx : Tx K H (.str (lab v d)) := Tx.txt (by
        show (mkS (labL v d)).length ≤ 1000
        rw [mkS_len]
        have := labL_len v lb.1 (by have := lb.2.2; omega)
        omega)
      have e : parseV (.str (lab v d)) = some (v, d) := by
        show parseL (tl (mkS (labL v d))) = _
        rw [tl_mkS]
        exact parse_iff.mpr ⟨lb, rfl⟩
      walk_at "ax_go"
      refine c_parse_label tx e fun p H1 s1 np hp => ?_
      walk_at "ax_go"
      exact k p H1 s1 np hp
    · walk_at "ax_go"
      refine c_parse_labelsX s tx lz (fun ns r e p H1 s1 np hp => ?_) (fun n H1 s1 => ?_)
      · walk_at "ax_go"
        exact kS ns r e p H1 s1 np hp
      · walk_at "ax_go"
        intro e' ne
        walk_at "ax_go"
        intro H2 s2
        exact kN n _ ((Same.updn s1 ne).trans s2)
theorem c__law_call0 {T : Txt K mg} {H : Hp} {Q : VK} {E : XK} {v : Int} {d : Nat} (hd : d ≤ 3) (hv : v.natAbs ≤ 1000000) (h : ∀ H', Same H H' → Q (if v.natAbs % pw10 d = 0 then .str (lab v d) else .str (Str.ofString "number")) H') : sp__law_call T [.int 0, .int v, .int d] H Q E := ⟨0, _, _, rfl, .inl ⟨rfl, v, d, rfl, rfl, hd, hv, h⟩⟩
theorem c__law_call1 {T : Txt K mg} {H : Hp} {Q : VK} {E : XK} {v : Int} {d : Nat} {y : V} (l : Lab v d) (h : ∀ p H', Same H H' → H p = none → H' p = some (.tup [.int v, .int d]) → Q (.ref p) H') : sp__law_call T [.int 1, .str (lab v d), y] H Q E := ⟨1, _, _, rfl, .inr (.inl ⟨rfl, v, d, rfl, l, h⟩)⟩
theorem c__law_call2 {T : Txt K mg} {H : Hp} {Q : VK} {E : XK} {a : Addr} {xs : List V} {y : V} (s : SqL K H a xs) (tx : ∀ v, v ∈ xs → Tx K H v) (lz : xs.length ≤ 1000000) (h1 : ∀ ns, Row ns → xs = labsV ns → ∀ p H', Same H H' → H p = none → H' p = some (.lst (ns.map V.int)) → Q (.ref p) H') (h2 : (∀ ns, Row ns → xs ≠ labsV ns) → ∀ H', Same H H' → Q (.str (Str.ofString "text")) H') : sp__law_call T [.int 2, .ref a, y] H Q E := ⟨2, _, _, rfl, .inr (.inr ⟨rfl, a, xs, rfl, s, tx, lz, h1, h2⟩)⟩
/-! ### law -/
def sp_lawK (K : PySem.W.Frag) : Sp := fun vs H Q _ => ∃ (a : Addr) (ns : List Int), vs = [.ref a] ∧ SqL K H a (ns.map V.int) ∧ ns.length ≤ 63 ∧ Only H ∧ ∀ H', Q (.bl true) H'
def sp_law (_ : Txt K mg) : Sp := sp_lawK K
theorem ok_law (T : Txt K mg) : FnOk P w K mg base CX0 5 T.law.f T.law.fd ["_law_script"] (sp_law T) := by
  refine T.law.F.ok sc_law (fun vs H Q E h => ?_) (fun cdv A outer s H vs Q E hr h => ?_)
  · obtain ⟨_, _, rfl, _⟩ := h; rfl
  · refine ⟨_, (pss_cons (ps_set (i := 1) sc_law.nd rfl (Or.inl rfl) (pe_call (ok__law_start T) (hr.mono (by decide)) rfl T._law_start.g T._law_start.F.kp T._law_start.b .nil pass0 (pa_cons (pv 0) pa_nil)))
        (pss_cons (ps_set (i := 2) sc_law.nd rfl (Or.inr rfl) (pe_call (ok__law_step T) (hr.mono (by decide)) rfl T._law_step.g T._law_step.F.kp T._law_step.b .nil pass0 (pa_cons (pv 1) (pa_cons pe_int pa_nil))))
        (pss_cons (ps_set (i := 3) sc_law.nd rfl (Or.inr rfl) (pe_op op_mul (pv 2) (pe_op op_sub (pe_call (ok__law_draw T) (hr.mono (by decide)) rfl T._law_draw.g T._law_draw.F.kp T._law_draw.b .nil pass0 (pa_cons (pv 1) (pa_cons pe_int pa_nil))) pe_int)))
        (pss_cons (ps_setLc (i := 4) (own := [("_law_k", 12)]) rfl sc_law.nd rfl rfl (sw_true rfl rfl rfl (by decide +kernel)) (pi_range1 rfl T.z_range (pa_cons (pe_op op_add pe_int (pe_call (ok__law_draw T) (hr.mono (by decide)) rfl T._law_draw.g T._law_draw.F.kp T._law_draw.b .nil pass0 (pa_cons (pv 1) (pa_cons pe_int pa_nil)))) pa_nil)) (blkOk_by (N := ["_law_script", "_law_draws", "_law_step_here", "_law_first", "_law_row", "_law_digits", "_law_value", "_law_due", "_law_text", "_law_many", "_law_wrong", "_law_told", "_law_k"]) (sc := defScope s_law) (by decide +kernel)) (fun _ _ _ _ _ => (pg_name (i := 12) sc_law.nd rfl (Or.inl rfl))) (fun _ _ _ _ _ => pts_nil) (fun _ _ _ _ _ => (pe_op op_add (pv 3) (pe_op op_mul (pv 2) (pv 12)))))
        (pss_cons (ps_if (PW.pt (pw_or (pt_cmpR op_gt (pe_ix ix_list (pv 4) (pe_un un_neg pe_int) (fun _ _ => rfl)) pe_int (nomark _)) (pw_or1 (pt_cmpR op_lt (pe_ix ix_list (pv 4) pe_int (fun _ _ => rfl)) (pe_op op_sub pe_int pe_int) (nomark _)))))
          (pss_one (ps_set (i := 4) sc_law.nd rfl (Or.inl rfl) (pe_lst (pa_cons pe_int (pa_cons pe_int pa_nil)))))
          pss_nil)
        (pss_cons (ps_set (i := 5) sc_law.nd rfl (Or.inr rfl) pe_int)
        (pss_cons (ps_while PassesOwn.never (PW.pt (pw_and (pt_cmpR op_lt (pv 5) pe_int (nomark _)) (pw_and1 (pt_cmpR (op_neD hr.units) (pe_lc (own := [("_law_value", 6)]) rfl sc_law.nd (pi_list (pv 4)) (blkOk_by (N := ["_law_script", "_law_draws", "_law_step_here", "_law_first", "_law_row", "_law_digits", "_law_value", "_law_due", "_law_text", "_law_many", "_law_wrong", "_law_told", "_law_k"]) (sc := defScope s_law) (by decide +kernel)) (fun _ _ _ _ _ => (pg_name (i := 6) sc_law.nd rfl (Or.inl rfl))) (fun _ _ _ _ _ => (pts_one (pt_cmpR xo_isN (pe_call (ok__law_written T) (hr.mono (by decide)) rfl T._law_written.g T._law_written.F.kp T._law_written.b .nil pass0 (pa_cons (pv 6) (pa_cons (pv 5) pa_nil))) pe_non (nomark _)))) (fun _ _ _ _ _ => (pv 6))) (pe_lst pa_nil) (nomark _)))))
          (pss_one (ps_set (i := 5) sc_law.nd rfl (Or.inr rfl) (pe_op op_add (pv 5) pe_int))))
        (pss_cons (ps_setLc (i := 7) (own := [("_law_value", 6)]) rfl sc_law.nd rfl rfl (sw_true rfl rfl rfl (by decide +kernel)) (pi_list (pv 4)) (blkOk_by (N := ["_law_script", "_law_draws", "_law_step_here", "_law_first", "_law_row", "_law_digits", "_law_value", "_law_due", "_law_text", "_law_many", "_law_wrong", "_law_told", "_law_k"]) (sc := defScope s_law) (by decide +kernel)) (fun _ _ _ _ _ => (pg_name (i := 6) sc_law.nd rfl (Or.inl rfl))) (fun _ _ _ _ _ => pts_nil) (fun _ _ _ _ _ => (pe_call (ok__law_written T) (hr.mono (by decide)) rfl T._law_written.g T._law_written.F.kp T._law_written.b .nil pass0 (pa_cons (pv 6) (pa_cons (pv 5) pa_nil)))))
        (pss_cons (ps_if (PW.pt (pw_or (pt_cmpR op_ne (pe_call (ok_digits_needed T) (hr.mono (by decide)) rfl T.digits_needed.g T.digits_needed.F.kp T.digits_needed.b .nil passL (pa_cons (pv 4) pa_nil)) (pv 5) (nomark _)) (pw_or (pt_cmpR (op_neD hr.units) (pe_call (ok_labels T) (hr.mono (by decide)) rfl T.labels.g T.labels.F.kp T.labels.b .nil passL (pa_cons (pv 4) pa_nil)) (pv 7) (nomark _)) (pw_or1 (pt_cmpR op_ne (pe_call (ok_label_width T) (hr.mono (by decide)) rfl T.label_width.g T.label_width.F.kp T.label_width.b .nil passL (pa_cons (pv 4) pa_nil)) (pe_callB (cr_max rfl) (by rfl) T.z_max (by decide +kernel) (pa_cons (pe_lc (own := [("_law_text", 8)]) rfl sc_law.nd (pi_list (pv 7)) (blkOk_by (N := ["_law_script", "_law_draws", "_law_step_here", "_law_first", "_law_row", "_law_digits", "_law_value", "_law_due", "_law_text", "_law_many", "_law_wrong", "_law_told", "_law_k"]) (sc := defScope s_law) (by decide +kernel)) (fun _ _ _ _ _ => (pg_name (i := 8) sc_law.nd rfl (Or.inl rfl))) (fun _ _ _ _ _ => pts_nil) (fun _ _ _ _ _ => (pe_callB xc_lenS (by rfl) T.z_len PySem.boot_len (pa_cons (pv 8) pa_nil)))) pa_nil)) (nomark _))))))
          (pss_one (ps_ret pe_bl))
          pss_nil)
        (pss_cons (ps_if (PW.pt (pw_or (pt_cmpR op_ne (pe_lenTxt rfl T.z_len rfl T.z_set (pv 7)) (pe_callB xc_len (by rfl) T.z_len PySem.boot_len (pa_cons (pv 7) pa_nil)) (nomark _)) (pw_or1 (pt_cmpR (op_neD hr.units) (pe_call (ok__law_call T) (hr.mono (by decide)) rfl T._law_call.g T._law_call.F.kp T._law_call.b .nil pass0 (pa_cons pe_int (pa_cons (pv 7) (pa_cons pe_int pa_nil)))) (pv 4) (nomark _)))))
          (pss_one (ps_ret pe_bl))
          pss_nil)
        (pss_cons (ps_set (i := 6) sc_law.nd rfl (Or.inl rfl) (pe_call (ok__law_pick T) (hr.mono (by decide)) rfl T._law_pick.g T._law_pick.F.kp T._law_pick.b .nil pass0 (pa_cons (pv 1) (pa_cons (pe_lst (pa_cons (pe_op op_sub (pe_call (ok__law_draw T) (hr.mono (by decide)) rfl T._law_draw.g T._law_draw.F.kp T._law_draw.b .nil pass0 (pa_cons (pv 1) (pa_cons pe_int pa_nil))) pe_int) (pa_cons (pe_call (ok__law_pick T) (hr.mono (by decide)) rfl T._law_pick.g T._law_pick.F.kp T._law_pick.b .nil pass0 (pa_cons (pv 1) (pa_cons (pv 4) pa_nil))) pa_nil))) pa_nil))))
        (pss_cons (ps_for PassesOwn.never rfl (pi_range1 rfl T.z_range (pa_cons pe_int pa_nil)) (pg_name (i := 9) sc_law.nd rfl (Or.inl rfl))
          (pss_cons (ps_set (i := 8) sc_law.nd rfl (Or.inl rfl) (pe_call (ok__law_written T) (hr.mono (by decide)) rfl T._law_written.g T._law_written.F.kp T._law_written.b .nil pass0 (pa_cons (pv 6) (pa_cons (pv 9) pa_nil))))
        (pss_cons (ps_if (pt_cmpR (op_neD hr.units) (pe_call (ok__law_call T) (hr.mono (by decide)) rfl T._law_call.g T._law_call.F.kp T._law_call.b .nil pass0 (pa_cons pe_int (pa_cons (pv 6) (pa_cons (pv 9) pa_nil)))) (pe_ifExp (pt_cmpR xo_notN (pv 8) pe_non (nomark _)) (pv 8) pe_str) (nomark _))
          (pss_one (ps_ret pe_bl))
          pss_nil)
        (pss_one (ps_if (PW.pt (pw_and (pt_cmpR xo_notN (pv 8) pe_non (nomark _)) (pw_and1 (pt_cmpR (op_neD hr.units) (pe_call (ok__law_call T) (hr.mono (by decide)) rfl T._law_call.g T._law_call.F.kp T._law_call.b .nil pass0 (pa_cons pe_int (pa_cons (pv 8) (pa_cons pe_int pa_nil)))) (pe_tup (pa_cons (pv 6) (pa_cons (pv 9) pa_nil))) (nomark _)))))
          (pss_one (ps_ret pe_bl))
          pss_nil)))))
        (pss_cons (ps_set (i := 10) sc_law.nd rfl (Or.inl rfl) (pe_callTy xc_list (by rfl) T.z_list (by decide +kernel) (pa_cons (pv 7) pa_nil)))
        (pss_cons (ps_asg (pe_call (ok__law_pick T) (hr.mono (by decide)) rfl T._law_pick.g T._law_pick.F.kp T._law_pick.b .nil pass0 (pa_cons (pv 1) (pa_cons (pe_lst (pa_cons pe_str (pa_cons pe_str (pa_cons pe_str (pa_cons pe_str (pa_cons pe_str (pa_cons pe_str (pa_cons pe_str (pa_cons pe_str (pa_cons pe_str pa_nil)))))))))) pa_nil))) (pg_sub (pv 10) (pe_call (ok__law_draw T) (hr.mono (by decide)) rfl T._law_draw.g T._law_draw.F.kp T._law_draw.b .nil pass0 (pa_cons (pv 1) (pa_cons (pe_callB xc_len (by rfl) T.z_len PySem.boot_len (pa_cons (pv 10) pa_nil)) pa_nil))) set_list))
        (pss_cons (ps_set (i := 11) sc_law.nd rfl (Or.inl rfl) (pe_call (ok__law_call T) (hr.mono (by decide)) rfl T._law_call.g T._law_call.F.kp T._law_call.b .nil pass0 (pa_cons pe_int (pa_cons (pv 10) (pa_cons pe_int pa_nil)))))
        (pss_one (ps_ret (pe_or (pe_cmpR (op_eqD hr.units) (pv 11) pe_str (nomark _)) (pe_one (pe_cmpR (op_eqD hr.units) (pe_call (ok_labels T) (hr.mono (by decide)) rfl T.labels.g T.labels.F.kp T.labels.b .nil passL (pa_cons (pv 11) pa_nil)) (pv 10) (nomark _))))))))))))))))))))), ?_⟩
    try dsimp only [cxOf]
    obtain ⟨a, ns, rfl, sS, hl, _, k⟩ := h
    walk_at "ax_go"
    intro d n H1 s1 dr1 _ _
    walk_at "ax_go"
    refine c__law_step 14 rfl (by walk_at "ax_dr") (by decide) fun st H2 m mt kp2 dr2 => ?_
    obtain ⟨b1, b2⟩ := step_bounds st m
    have st20 : st ≤ 20000 := (by decide : ∀ s, s ∈ steps.take 14 → s ≤ 20000) st mt
    walk_at "ax_go"
    intro g H3 g0 g1 kp3 dr3
    walk_at "ax_go"
    intro z H4 z0 z1 kp4 dr4
    obtain ⟨c, ec⟩ : ∃ c : Int, g - 10 = c := ⟨_, rfl⟩
    rw [ec]
    obtain ⟨f, ef⟩ : ∃ f : Int, st * c = f := ⟨_, rfl⟩
    rw [ef]
    obtain ⟨nn, en⟩ : ∃ nn : Nat, 1 + z = (nn : Int) := ⟨(1 + z).toNat, by omega⟩
    have n1 : 1 ≤ nn ∧ nn ≤ 8 := by omega
    have f1 : -200000 ≤ f ∧ f ≤ 200000 := by
      have c1 : -10 ≤ c ∧ c ≤ 10 := by omega
      rw [← ef]
      have u1 : st * c ≤ st * 10 := Int.mul_le_mul_of_nonneg_left c1.2 (by omega)
      have u2 : st * (-10) ≤ st * c := Int.mul_le_mul_of_nonneg_left c1.1 (by omega)
      omega
    walk_at "ax_go"
    rw [en]
    rw [Int.toNat_natCast]
    have bst : ∀ i : Nat, i < nn → -10000000 ≤ st * (i : Int) ∧ st * (i : Int) ≤ 10000000 := fun i hi => by
      have u1 : st * (i : Int) ≤ st * 8 := Int.mul_le_mul_of_nonneg_left (by omega) (by omega)
      have u2 : 0 ≤ st * (i : Int) := Int.mul_nonneg (by omega) (by omega)
      omega
    obtain ⟨b3, b4⟩ : (0 : Int) ≤ st ∧ st ≤ 1000000 := ⟨by omega, by omega⟩
    walk_at "ax_go"
    refine lc_rngM (f := fun i => .int (f + st * (i : Int))) (by omega) (fun i H5 Q' hi s5 q => ?_) (fun D H5 s5 nD hD => ?_)
    · obtain ⟨w1, w2⟩ := bst i hi
      walk_at "ax_go"
      rw [Int.zero_add]
      exact q _ (Same.refl _)
    have eap : (List.range nn).map (fun (i : Nat) => V.int (f + st * (i : Int))) = (apI f st 0 (nn : Int)).map V.int := by
      rw [← show (List.range nn).map (fun (i : Nat) => f + st * (i : Int)) = apI f st 0 (nn : Int) from ?_, List.map_map]
      · rfl
      · refine List.ext_getElem? fun i => ?_
        by_cases hi : i < nn
        · rw [apI_get (by omega), List.getElem?_map, List.getElem?_range hi, Int.zero_add]
          rfl
        · rw [List.getElem?_eq_none (by rw [List.length_map, List.length_range]; omega), List.getElem?_eq_none (by rw [apI_len]; omega)]
    rw [eap] at hD
    obtain ⟨ro, ero⟩ : ∃ ro : List Int, apI f st 0 (nn : Int) = ro := ⟨_, rfl⟩
    have rowR : Row ro := by
      rw [← ero]
      refine apI_row b1 (by omega) (by omega) (by rw [Int.mul_zero]; omega) ?_
      have u1 : st * ((nn : Int) - 1) ≤ st * 7 := Int.mul_le_mul_of_nonneg_left (by omega) (by omega)
      omega
    rw [ero] at hD
    clear eap ero bst ef ec en
    have neR := row_ne rowR
    have rlen := rowR.2.1
    have rlen1 := rowR.1
    have bh := rowR.2.2.1 _ (hd_mem neR)
    have bt := rowR.2.2.1 _ (lt_mem neR)
    have sD5 := SqL.of (K := K) hD
    have dr5 := Dr.same s5 dr4
    have oD := dr4.off nD
    walk_at "ax_goI"
    refine r_cutC True ?_ ?_
    rotate_left
    · intro N hN
      walk_at "ax_go"
      refine r_ixL sD5 (lt_at neR) ?_
      walk_at "ax_go"
      refine r_ixL sD5 (hd_at neR) ?_
      walk_at "ax_go"
      exact hN trivial _ (Same.refl _)
    intro _ H6 s6
    walk_at "ax_go"
    have sD6 := Same.seq s6 sD5
    have dr6 := Dr.same s6 dr5
    refine r_whileI (fun m σ' H' => ∃ i : Nat, m = 3 - i ∧ i ≤ dOf ro ∧ Same H6 H' ∧ σ' = [some (.ref a), some (.ref d), some (.int st), some (.int f), some (.ref D), some (.int (i : Nat)), none, none, none, none, none, none, none]) (fun σ' H' => Same H6 H' ∧ σ' = [some (.ref a), some (.ref d), some (.int st), some (.int f), some (.ref D), some (.int (dOf ro : Nat)), none, none, none, none, none, none, none]) 3 ⟨0, rfl, Nat.zero_le _, Same.refl _, rfl⟩ ?_ ?_
    rotate_left
    · rintro m' σ' H7 Nx ⟨i, em, hi, s7, rfl⟩ out
      have d3 := dOf_le ro
      have sD7 := Same.seq s7 sD6
      walk_at "ax_go"
      refine r_if (fun c => ?_) (fun c => ?_)
      · walk_at "ax_go"
        refine lc_ints (p := fun v => decide (¬ v.natAbs % pw10 i = 0)) (f := V.int) (by omega) sD7 (fun v H8 Qt hv s8 q => ?_) (fun v H8 Q' hv hp s8 q => ?_) (fun D2 H8 s8 nD2 hD2 => ?_)
        · have bv := rowR.2.2.1 v hv
          walk_at "ax_go"
          refine c__law_written (by omega) (by omega) fun H9 s9 => ?_
          have q := q _ s9
          by_cases z : v.natAbs % pw10 i = 0
          · unfold wrV
            rw [if_pos z]
            rw [decide_eq_false (fun y => y z)] at q
            walk_at "ax_go"
            refine r_isN (v := .str (lab v i)) (fun z => nomatch z) ?_
            walk_at "ax_go"
            exact q
          · unfold wrV
            rw [if_neg z]
            rw [decide_eq_true z] at q
            walk_at "ax_go"
            exact q
        · walk_at "ax_go"
          exact q _ (Same.refl _)
        walk_at "ax_go"
        intro e ne
        refine r_neNil (SqL.updn ne (SqL.of hD2)) (SqL.of upd_same) ?_
        have s9 := Same.updn (o := .lst []) (s7.trans s8) ne
        have ediv : (ro.filter fun v => decide (¬ v.natAbs % pw10 i = 0)) = [] ↔ divs i ro = true := by
          rw [List.filter_eq_nil_iff]
          unfold divs
          rw [List.all_eq_true]
          refine forall_congr' fun v => forall_congr' fun _ => ?_
          rw [decide_eq_true_iff, decide_eq_true_iff, mod_nat, Classical.not_not]
        walk_at "ax_go"
        refine r_ifn (fun c2 => ?_) (fun c2 => ?_)
        · have lt : i < dOf ro := by
            refine Nat.lt_of_le_of_ne hi fun z => c2 (ediv.mpr ?_)
            rw [z]
            exact dOf_at ro
          refine ⟨_, fun σ2 H2 z => z, ?_⟩
          walk_at "ax_go"
          exact ⟨3 - (i + 1), by omega, i + 1, rfl, lt, s9, rfl⟩
        · have eq : i = dOf ro := by
            refine Nat.le_antisymm hi (Nat.le_of_not_lt fun z => ?_)
            rw [dOf_lt z] at ediv
            exact absurd (ediv.mp c2) (by simp)
          rw [eq]
          exact out _ _ ⟨s9, rfl⟩
      · have eq : i = dOf ro := by omega
        walk_at "ax_go"
        rw [eq]
        exact out _ _ ⟨s7, rfl⟩
    rintro σ' H7 ⟨s7, rfl⟩
    have sD7 := Same.seq s7 sD6
    have dr7 := Dr.same s7 dr6
    walk_at "ax_go"
    obtain ⟨dg, edg⟩ : ∃ dg : Nat, dOf ro = dg := ⟨_, rfl⟩
    have dg3 : dg ≤ 3 := by rw [← edg]; exact dOf_le ro
    rw [edg]
    refine lc_intsM (f := fun v => .str (lab v dg)) (by omega) sD7 (fun v H8 Q' hv s8 q => ?_) (fun E8 H8 s8 nE8 hE8 => ?_)
    · have lb := row_lab rowR hv
      rw [edg] at lb
      walk_at "ax_go"
      refine c__law_written dg3 lb.2.2 fun H9 s9 => ?_
      unfold wrV
      rw [if_pos lb.2.1]
      exact q _ s9
    have hE8 : H8 E8 = some (.lst (labsV ro)) := by
      unfold labsV
      rw [edg]
      exact hE8
    have sD8 := Same.seq s8 sD7
    have dr8 := Dr.same s8 dr7
    have oE := dr7.off nE8
    have sE8 := SqL.of (K := K) hE8
    have lenE : (labsV ro).length = ro.length := by unfold labsV; rw [List.length_map]
    walk_at "ax_goI"
    refine r_cutC True ?_ ?_
    rotate_left
    · intro N hN
      walk_at "ax_go"
      intro H9 s9
      have sD9 := Same.seq s9 sD8
      have sE9 := Same.seq s9 sE8
      walk_at "ax_go"
      intro p10 H10 s10 np10 hp10
      have sD10 := Same.seq s10 sD9
      have sE10 := Same.seq s10 sE9
      rw [labsV_L] at hp10
      have sE10' := sE10
      rw [labsV_L] at sE10'
      walk_at "ax_go"
      refine r_neD1 (d := .list ((labsL ro).map strD)) (.lst (SqL.of hp10) (dpa_strs _)) (.lst sE10' (dpa_strs _)) (shp_strs (low_labs _)) ?_
      walk_at "ax_go"
      intro H11 s11
      have sE11 := Same.seq s11 sE10
      walk_at "ax_go"
      refine lc_valsM (f := fun v => .int (match v with | .str t => (t.length : Int) | _ => 0)) (by omega) sE11 (fun v H12 Q' hv s12 q => ?_) (fun D12 H12 s12 nD12 hD12 => ?_)
      · obtain ⟨x, hx, rfl⟩ := List.mem_map.mp hv
        have lb := row_lab rowR hx
        have ll := labL_len x lb.1 (by have := lb.2.2; omega)
        have q : ∀ H3, Same H12 H3 → Q' (.int ((lab x (dOf ro)).length : Int)) H3 := q
        rw [show (lab x (dOf ro)).length = (labL x (dOf ro)).length from mkS_len _] at q
        rw [show lab x (dOf ro) = mkS (labL x (dOf ro)) from rfl]
        walk_at "ax_go"
        exact q _ (Same.refl _)
      have hD12 : H12 D12 = some (.lst (((labsL ro).map fun l => (l.length : Int)).map V.int)) := by
        rw [hD12]
        unfold labsV labsL
        rw [List.map_map, List.map_map, List.map_map]
        congr 2
      have nl : (labsL ro).map (fun l => (l.length : Int)) ≠ [] := fun z => neR (by
        unfold labsL at z
        rw [List.map_map] at z
        exact List.map_eq_nil_iff.mp z)
      obtain ⟨x1, x2⟩ := mostI_spec nl
      walk_at "ax_go"
      refine r_maxL _ (SqL.of hD12) x1 x2 ?_
      walk_at "ax_go"
      refine r_ifn (fun c => absurd rfl c) (fun _ => ?_)
      exact hN trivial _ (((s9.trans s10).trans s11).trans s12)
    intro _ H9 s9
    walk_at "ax_goI"
    have sD9 := Same.seq s9 sD8
    have sE9 := Same.seq s9 sE8
    have dr9 := Dr.same s9 dr8
    refine r_cutC True ?_ ?_
    rotate_left
    · intro N hN
      walk_at "ax_go"
      refine r_lenTxt ?_
      walk_at "ax_go"
      have sEs : SqL K H9 E8 (((labsL ro).map mkS).map V.str) := by
        rw [List.map_map]
        rw [labsV_L] at sE9
        exact sE9
      have lenS : (labsL ro).length = ro.length := by unfold labsL; rw [List.length_map]
      refine ⟨E8, (labsL ro).map mkS, rfl, sEs, List.pairwise_map.mpr ((labs_nodup rowR).imp fun ne e => ne (mkS_iff.mp e)), by rw [List.length_map]; omega, ?_⟩
      walk_at "ax_go"
      simp only [List.length_map, lenS]
      refine r_ifn (fun c => absurd trivial c) (fun _ => ?_)
      walk_at "ax_go"
      refine c__law_call2 sE9 (fun v hv => ?_) (by omega) (fun ms r e p10 H10 s10 np10 hp10 => ?_) (fun z => absurd rfl (z ro rowR))
      · obtain ⟨x, hx, rfl⟩ := List.mem_map.mp hv
        have lb := row_lab rowR hx
        have ll := labL_len x lb.1 (by have := lb.2.2; omega)
        refine Tx.txt ?_
        rw [show (lab x (dOf ro)).length = (labL x (dOf ro)).length from mkS_len _]
        omega
      have em : ms = ro := by rw [← fv_labs r, ← e, fv_labs rowR]
      subst em
      have sD10 := Same.seq s10 sD9
      walk_at "ax_go"
      exact hN trivial _ s10
    intro _ H10 s10
    have sD10 := Same.seq s10 sD9
    have sE10 := Same.seq s10 sE9
    have dr10 := Dr.same s10 dr9
    walk_at "ax_go"
    intro v0 H11 v00 v01 kp11 dr11
    have sD11 := Kp.seqL kp11 oD sD10
    have sE11 := Kp.seqL kp11 oE sE10
    walk_at "ax_go"
    refine c__law_pick dr11 sD11 oD ⟨by rw [List.length_map]; omega, by rw [List.length_map]; omega⟩ fun x H12 xm kp12 dr12 => ?_
    obtain ⟨w, hw, rfl⟩ := List.mem_map.mp xm
    have bw := rowR.2.2.1 w hw
    have sD12 := Kp.seqL kp12 oD sD11
    have sE12 := Kp.seqL kp12 oE sE11
    walk_at "ax_go"
    intro lp nlp
    walk_at "ax_go"
    have slp : SqL K (upd H12 lp (.lst [V.int (v0 - 1000000), V.int w])) lp [V.int (v0 - 1000000), V.int w] := SqL.of upd_same
    have dr12' := Dr.updn (o := .lst [V.int (v0 - 1000000), V.int w]) nlp dr12
    have sD12' := SqL.updn (o := .lst [V.int (v0 - 1000000), V.int w]) nlp sD12
    have sE12' := SqL.updn (o := .lst [V.int (v0 - 1000000), V.int w]) nlp sE12
    refine c__law_pick dr12' slp (dr12.off nlp) ⟨Nat.succ_pos _, Nat.le_of_ble_eq_true rfl⟩ fun x H13 xm kp13 dr13 => ?_
    have sD13 := Kp.seqL kp13 oD sD12'
    have sE13 := Kp.seqL kp13 oE sE12'
    obtain ⟨v, rfl, bv⟩ : ∃ v : Int, x = .int v ∧ v.natAbs ≤ 1000000 := by
      simp only [List.mem_cons, List.not_mem_nil, or_false] at xm
      rcases xm with rfl | rfl
      · exact ⟨_, rfl, by omega⟩
      · exact ⟨_, rfl, by omega⟩
    walk_at "ax_go"
    refine for_range (lo := 0) (n := 4) (fun i σ' H' => Same H13 H' ∧ ∃ y8 y9, σ' = [some (.ref a), some (.ref d), some (.int st), some (.int f), some (.ref D), some (.int dg), some (.int v), some (.ref E8), y8, y9, none, none, none]) ⟨Same.refl _, _, _, rfl⟩ ?_ ?_
    · rintro i σ' H14 hi ⟨s14, y8, y9, rfl⟩
      rw [Int.zero_add]
      walk_at "ax_go"
      refine c__law_written (by omega) bv fun H15 s15 => ?_
      walk_at "ax_go"
      refine c__law_call0 (by omega) bv fun H16 s16 => ?_
      have sm16 := (s14.trans s15).trans s16
      by_cases z : v.natAbs % pw10 i = 0
      · have lb : Lab v i := ⟨by omega, z, bv⟩
        have low := low_lab v i
        unfold wrV
        simp only [if_pos z]
        walk_at "ax_go"
        refine ⟨rfl, ?_⟩
        rw [decide_eq_false (fun z => nomatch z)]
        walk_at "ax_go"
        refine r_neD1 (d := .str (lab v i)) (.str _) (.str _) (shp_str (l := labL v i) low) ?_
        walk_at "ax_go"
        refine ⟨rfl, ?_⟩
        rw [decide_eq_false (fun z => nomatch z)]
        walk_at "ax_go"
        refine c__law_call1 lb fun p17 H17 s17 np17 hp17 => ?_
        walk_at "ax_go"
        intro t17 nt17
        refine r_neD1 (d := .tuple [.int v, .int i]) (.tup (SqT.updn nt17 (SqT.of hp17)) (dpa_ints [v, i])) (.tup (SqT.of upd_same) (dpa_ints [v, i])) rfl ?_
        walk_at "ax_go"
        exact ⟨Same.updn (sm16.trans s17) nt17, _, _, rfl⟩
      · unfold wrV
        simp only [if_neg z]
        walk_at "ax_go"
        refine ⟨rfl, ?_⟩
        rw [decide_eq_true rfl]
        walk_at "ax_go"
        refine r_neD1 (d := .str (Str.ofString "number")) (.str _) (.str _) (by decide +kernel) ?_
        walk_at "ax_go"
        refine ⟨rfl, ?_⟩
        rw [decide_eq_true rfl]
        walk_at "ax_go"
        exact ⟨sm16, _, _, rfl⟩
    rintro σ' H14 ⟨s14, y8, y9, rfl⟩
    have sD14 := Same.seq s14 sD13
    have sE14 := Same.seq s14 sE13
    have dr14 := Dr.same s14 dr13
    walk_at "ax_go"
    refine r_listL sE14 fun wl nwl => ?_
    have dr15 := Dr.updn (o := .lst (labsV ro)) nwl dr14
    have hw15 : (upd H14 wl (.lst (labsV ro))) wl = some (.lst (labsV ro)) := upd_same
    have owl := dr14.off nwl
    generalize upd H14 wl _ = H15 at dr15 hw15 ⊢
    walk_at "ax_go"
    intro lq nlq
    walk_at "ax_go"
    obtain ⟨qs, eqs⟩ : ∃ qs : List V, [V.str (Str.ofString "1"), .str (Str.ofString "0.5"), .str (Str.ofString "x"), .str (Str.ofString "-0"), .str (Str.ofString "00"), .str (Str.ofString "1."), .str (Str.ofString ".5"), .str (Str.ofString "0.5000"), .str (Str.ofString " 1")] = qs := ⟨_, rfl⟩
    have lqs : qs.length = 9 := by rw [← eqs]; rfl
    rw [eqs]
    have tqs : ∀ x, x ∈ qs → ∃ l : List Nat, x = .str (mkS l) ∧ l.length ≤ 1000 ∧ Low l := fun x hx => by
      rw [← eqs] at hx
      simp only [List.mem_cons, List.not_mem_nil, or_false] at hx
      rcases hx with rfl | rfl | rfl | rfl | rfl | rfl | rfl | rfl | rfl <;> exact ⟨_, rfl, by decide +kernel, fun c hc => (by decide +kernel : ∀ c ∈ _, c < 1000) c hc⟩
    have slq : SqL K (upd H15 lq (.lst qs)) lq qs := SqL.of upd_same
    have dr16 := Dr.updn (o := .lst qs) nlq dr15
    have hw16 := at_updn (o' := .lst qs) nlq hw15
    refine c__law_pick dr16 slq (dr15.off nlq) ⟨by omega, by omega⟩ fun x H17 xm kp17 dr17 => ?_
    have hw17 := Kp.at kp17 owl hw16
    obtain ⟨tl_, rfl, tq1, tq2⟩ := tqs x xm
    have sw17 := SqL.of (K := K) hw17
    walk_at "ax_go"
    intro z_ H18 z0 z1 kp18 dr18
    have hw18 := Kp.at kp18 owl hw17
    obtain ⟨j, rfl⟩ : ∃ j : Nat, z_ = (j : Int) := ⟨z_.toNat, by omega⟩
    walk_at "ax_go"
    have jl : j < (labsV ro).length := by omega
    refine r_setL (j := j) hw18 (by rw [ixN_ok (by omega) (by omega)]; rfl) ?_
    obtain ⟨ws, ews⟩ : ∃ ws : List V, (labsV ro).set j (.str (mkS tl_)) = ws := ⟨_, rfl⟩
    have tws : ∀ v, v ∈ ws → ∃ l : List Nat, v = .str (mkS l) ∧ l.length ≤ 1000 ∧ Low l := fun v hv => by
      rw [← ews] at hv
      rcases List.mem_or_eq_of_mem_set hv with hv | rfl
      · obtain ⟨x, hx, rfl⟩ := List.mem_map.mp hv
        have lb := row_lab rowR hx
        have ll := labL_len x lb.1 (by have := lb.2.2; omega)
        exact ⟨_, rfl, by omega, low_lab _ _⟩
      · exact ⟨tl_, rfl, tq1, tq2⟩
    have lws : ws.length ≤ 50 := by rw [← ews, List.length_set]; omega
    rw [ews]
    have hw19 : (upd H18 wl (.lst ws)) wl = some (.lst ws) := upd_same
    generalize upd H18 wl _ = H19 at hw19 ⊢
    have sw19 := SqL.of (K := K) hw19
    walk_at "ax_go"
    refine c__law_call2 sw19 (fun v hv => ?_) (by omega) (fun ms r e p20 H20 s20 np20 hp20 => ?_) (fun nn H20 s20 => ?_)
    · obtain ⟨l, rfl, h1, _⟩ := tws v hv
      exact Tx.txt (by rw [mkS_len]; exact h1)
    · have sw20 := Same.seq s20 sw19
      walk_at "ax_go"
      refine r_eqD (d := .list (ms.map PyData.int)) (e := .str (Str.ofString "text")) (b := false) (.lst (SqL.of hp20) (dpa_ints _)) (.str _) (shp_ints _) (by decide +kernel) rfl ?_
      have sm20 := SqL.of (K := K) hp20
      walk_at "ax_go"
      intro p21 H21 s21 np21 hp21
      have sw21 := Same.seq s21 sw20
      rw [e, labsV_L] at sw21
      rw [labsV_L] at hp21
      walk_at "ax_go"
      refine r_eqD1 (d := .list ((labsL ms).map strD)) (.lst (SqL.of hp21) (dpa_strs _)) (.lst sw21 (dpa_strs _)) (shp_strs (low_labs _)) ?_
      exact k _
    · walk_at "ax_go"
      refine r_eqD1 (d := .str (Str.ofString "text")) (.str _) (.str _) (by decide +kernel) ?_
      walk_at "ax_go"
      exact k _
end
end AxL
namespace AxL
open PySem L2 Ax
def mkT {K : PySem.W.Frag} {h : Heap} {mg : Str → Option Value} (X : K.In h) (G : h.Ns mainGlobals mg)
    {tk_DIGITS : Tok}
    {tk_MOST : Tok}
    {a_POWERS : Addr} {od_POWERS : Option Addr} {nn_POWERS : Nat} {sl_POWERS : Array (Option Value)} {tk_POWERS_0 tk_POWERS_1 tk_POWERS_2 tk_POWERS_3 : Tok}
    {C_AxisError : Addr}
    {C_BadMarks : Addr}
    {C_BadNumber : Addr}
    {C_BadRange : Addr}
    {C_BadStep : Addr}
    {C_BadText : Addr}
    {C_NotFound : Addr}
    {a_is_int : Addr} {od_is_int an_is_int : Option Addr} {sl_is_int : Array (Option Value)} {oc_is_int kV_is_int dc_is_int pm_is_int cd_is_int ct_is_int : Value}
    {a_check_marks : Addr} {od_check_marks an_check_marks : Option Addr} {sl_check_marks : Array (Option Value)} {oc_check_marks kV_check_marks dc_check_marks pm_check_marks cd_check_marks ct_check_marks : Value}
    {a_digits_of : Addr} {od_digits_of an_digits_of : Option Addr} {sl_digits_of : Array (Option Value)} {oc_digits_of kV_digits_of dc_digits_of pm_digits_of cd_digits_of ct_digits_of : Value}
    {a_digits_needed : Addr} {od_digits_needed an_digits_needed : Option Addr} {sl_digits_needed : Array (Option Value)} {oc_digits_needed kV_digits_needed dc_digits_needed pm_digits_needed cd_digits_needed ct_digits_needed : Value}
    {a_written : Addr} {od_written an_written : Option Addr} {sl_written : Array (Option Value)} {oc_written kV_written dc_written pm_written cd_written ct_written : Value}
    {a_label : Addr} {od_label an_label : Option Addr} {sl_label : Array (Option Value)} {oc_label kV_label dc_label pm_label cd_label ct_label : Value}
    {a_labels : Addr} {od_labels an_labels : Option Addr} {sl_labels : Array (Option Value)} {oc_labels kV_labels dc_labels pm_labels cd_labels ct_labels : Value}
    {a_parse_label : Addr} {od_parse_label an_parse_label : Option Addr} {sl_parse_label : Array (Option Value)} {oc_parse_label kV_parse_label dc_parse_label pm_parse_label cd_parse_label ct_parse_label : Value}
    {a_label_width : Addr} {od_label_width an_label_width : Option Addr} {sl_label_width : Array (Option Value)} {oc_label_width kV_label_width dc_label_width pm_label_width cd_label_width ct_label_width : Value}
    {a_parse_labels : Addr} {od_parse_labels an_parse_labels : Option Addr} {sl_parse_labels : Array (Option Value)} {oc_parse_labels kV_parse_labels dc_parse_labels pm_parse_labels cd_parse_labels ct_parse_labels : Value}
    {a__law_start : Addr} {od__law_start an__law_start : Option Addr} {sl__law_start : Array (Option Value)} {oc__law_start kV__law_start dc__law_start pm__law_start cd__law_start ct__law_start : Value}
    {a__law_draw : Addr} {od__law_draw an__law_draw : Option Addr} {sl__law_draw : Array (Option Value)} {oc__law_draw kV__law_draw dc__law_draw pm__law_draw cd__law_draw ct__law_draw : Value}
    {a__law_pick : Addr} {od__law_pick an__law_pick : Option Addr} {sl__law_pick : Array (Option Value)} {oc__law_pick kV__law_pick dc__law_pick pm__law_pick cd__law_pick ct__law_pick : Value}
    {a__law_error : Addr} {od__law_error an__law_error : Option Addr} {sl__law_error : Array (Option Value)} {oc__law_error kV__law_error dc__law_error pm__law_error cd__law_error ct__law_error : Value}
    {a__law_steps : Addr} {od__law_steps an__law_steps : Option Addr} {sl__law_steps : Array (Option Value)} {oc__law_steps kV__law_steps dc__law_steps pm__law_steps cd__law_steps ct__law_steps : Value}
    {a__law_step : Addr} {od__law_step an__law_step : Option Addr} {sl__law_step : Array (Option Value)} {oc__law_step kV__law_step dc__law_step pm__law_step cd__law_step ct__law_step : Value}
    {a__law_written : Addr} {od__law_written an__law_written : Option Addr} {sl__law_written : Array (Option Value)} {oc__law_written kV__law_written dc__law_written pm__law_written cd__law_written ct__law_written : Value}
    {a__law_call : Addr} {od__law_call an__law_call : Option Addr} {sl__law_call : Array (Option Value)} {oc__law_call kV__law_call dc__law_call pm__law_call cd__law_call ct__law_call : Value}
    {a_law : Addr} {od_law an_law : Option Addr} {sl_law : Array (Option Value)} {oc_law kV_law dc_law pm_law cd_law ct_law : Value}
    (z_ValueError : PySem.W.nsIn K mainGlobals "ValueError" = some none)
    (z_abs : PySem.W.nsIn K mainGlobals "abs" = some none)
    (z_all : PySem.W.nsIn K mainGlobals "all" = some none)
    (z_bool : PySem.W.nsIn K mainGlobals "bool" = some none)
    (z_int : PySem.W.nsIn K mainGlobals "int" = some none)
    (z_isinstance : PySem.W.nsIn K mainGlobals "isinstance" = some none)
    (z_len : PySem.W.nsIn K mainGlobals "len" = some none)
    (z_list : PySem.W.nsIn K mainGlobals "list" = some none)
    (z_max : PySem.W.nsIn K mainGlobals "max" = some none)
    (z_range : PySem.W.nsIn K mainGlobals "range" = some none)
    (z_set : PySem.W.nsIn K mainGlobals "set" = some none)
    (z_str : PySem.W.nsIn K mainGlobals "str" = some none)
    (z_zip : PySem.W.nsIn K mainGlobals "zip" = some none)
    (c_DIGITS : PySem.W.nsIn K mainGlobals "DIGITS" = some (some (.str "0123456789" tk_DIGITS)))
    (c_MOST : PySem.W.nsIn K mainGlobals "MOST" = some (some (.int 1000000 tk_MOST)))
    (g_POWERS : PySem.W.nsIn K mainGlobals "POWERS" = some (some (.ref a_POWERS))) (l_POWERS : K.lookup a_POWERS = some ⟨.type "tuple", od_POWERS, .seq #[.int 1000 tk_POWERS_0, .int 100 tk_POWERS_1, .int 10 tk_POWERS_2, .int 1 tk_POWERS_3] nn_POWERS, sl_POWERS⟩)
    (cn : PySem.W.specialIn K (.builtin "object.__class__") "__get__" = some (some (.builtin "getset_descriptor.__get__"))) (ct : PySem.W.takesIn K (.builtin "object.__class__") = some true)
    (g_AxisError : PySem.W.nsIn K mainGlobals "AxisError" = some (some (.ref C_AxisError))) (k_AxisError : PySem.W.keepIn K (.ref C_AxisError) = true) (x_AxisError : PySem.W.excIn K C_AxisError [.type "ValueError", .type "Exception", .type "BaseException", .type "object"] "ValueError.__new__" = true) (b_AxisError : PySem.W.subIn K (.ref C_AxisError) (.type "BaseException") = some true) (t_AxisError : PySem.W.typeIn K (.ref C_AxisError) = some (.type "type"))
    (ig_AxisError : PySem.W.findIn K (.ref C_AxisError) "__getattribute__" = some (some (.builtin "BaseException.__getattribute__"))) (ik_AxisError : PySem.W.findIn K (.ref C_AxisError) "__getattr__" = some none) (id_AxisError : PySem.W.hasDictIn K C_AxisError = true) (ia_AxisError : PySem.W.findIn K (.ref C_AxisError) "__class__" = some (some (.builtin "object.__class__"))) (im_AxisError : PySem.W.mroIn K C_AxisError (.type "object") = some true)
    (g_BadMarks : PySem.W.nsIn K mainGlobals "BadMarks" = some (some (.ref C_BadMarks))) (k_BadMarks : PySem.W.keepIn K (.ref C_BadMarks) = true) (x_BadMarks : PySem.W.excIn K C_BadMarks [.type "ValueError", .type "Exception", .type "BaseException", .type "object"] "ValueError.__new__" = true) (b_BadMarks : PySem.W.subIn K (.ref C_BadMarks) (.type "BaseException") = some true) (t_BadMarks : PySem.W.typeIn K (.ref C_BadMarks) = some (.type "type"))
    (ig_BadMarks : PySem.W.findIn K (.ref C_BadMarks) "__getattribute__" = some (some (.builtin "BaseException.__getattribute__"))) (ik_BadMarks : PySem.W.findIn K (.ref C_BadMarks) "__getattr__" = some none) (id_BadMarks : PySem.W.hasDictIn K C_BadMarks = true) (ia_BadMarks : PySem.W.findIn K (.ref C_BadMarks) "__class__" = some (some (.builtin "object.__class__"))) (im_BadMarks : PySem.W.mroIn K C_BadMarks (.type "object") = some true)
    (g_BadNumber : PySem.W.nsIn K mainGlobals "BadNumber" = some (some (.ref C_BadNumber))) (k_BadNumber : PySem.W.keepIn K (.ref C_BadNumber) = true) (x_BadNumber : PySem.W.excIn K C_BadNumber [.type "ValueError", .type "Exception", .type "BaseException", .type "object"] "ValueError.__new__" = true) (b_BadNumber : PySem.W.subIn K (.ref C_BadNumber) (.type "BaseException") = some true) (t_BadNumber : PySem.W.typeIn K (.ref C_BadNumber) = some (.type "type"))
    (ig_BadNumber : PySem.W.findIn K (.ref C_BadNumber) "__getattribute__" = some (some (.builtin "BaseException.__getattribute__"))) (ik_BadNumber : PySem.W.findIn K (.ref C_BadNumber) "__getattr__" = some none) (id_BadNumber : PySem.W.hasDictIn K C_BadNumber = true) (ia_BadNumber : PySem.W.findIn K (.ref C_BadNumber) "__class__" = some (some (.builtin "object.__class__"))) (im_BadNumber : PySem.W.mroIn K C_BadNumber (.type "object") = some true)
    (g_BadRange : PySem.W.nsIn K mainGlobals "BadRange" = some (some (.ref C_BadRange))) (k_BadRange : PySem.W.keepIn K (.ref C_BadRange) = true) (x_BadRange : PySem.W.excIn K C_BadRange [.type "ValueError", .type "Exception", .type "BaseException", .type "object"] "ValueError.__new__" = true) (b_BadRange : PySem.W.subIn K (.ref C_BadRange) (.type "BaseException") = some true) (t_BadRange : PySem.W.typeIn K (.ref C_BadRange) = some (.type "type"))
    (ig_BadRange : PySem.W.findIn K (.ref C_BadRange) "__getattribute__" = some (some (.builtin "BaseException.__getattribute__"))) (ik_BadRange : PySem.W.findIn K (.ref C_BadRange) "__getattr__" = some none) (id_BadRange : PySem.W.hasDictIn K C_BadRange = true) (ia_BadRange : PySem.W.findIn K (.ref C_BadRange) "__class__" = some (some (.builtin "object.__class__"))) (im_BadRange : PySem.W.mroIn K C_BadRange (.type "object") = some true)
    (g_BadStep : PySem.W.nsIn K mainGlobals "BadStep" = some (some (.ref C_BadStep))) (k_BadStep : PySem.W.keepIn K (.ref C_BadStep) = true) (x_BadStep : PySem.W.excIn K C_BadStep [.type "ValueError", .type "Exception", .type "BaseException", .type "object"] "ValueError.__new__" = true) (b_BadStep : PySem.W.subIn K (.ref C_BadStep) (.type "BaseException") = some true) (t_BadStep : PySem.W.typeIn K (.ref C_BadStep) = some (.type "type"))
    (ig_BadStep : PySem.W.findIn K (.ref C_BadStep) "__getattribute__" = some (some (.builtin "BaseException.__getattribute__"))) (ik_BadStep : PySem.W.findIn K (.ref C_BadStep) "__getattr__" = some none) (id_BadStep : PySem.W.hasDictIn K C_BadStep = true) (ia_BadStep : PySem.W.findIn K (.ref C_BadStep) "__class__" = some (some (.builtin "object.__class__"))) (im_BadStep : PySem.W.mroIn K C_BadStep (.type "object") = some true)
    (g_BadText : PySem.W.nsIn K mainGlobals "BadText" = some (some (.ref C_BadText))) (k_BadText : PySem.W.keepIn K (.ref C_BadText) = true) (x_BadText : PySem.W.excIn K C_BadText [.type "ValueError", .type "Exception", .type "BaseException", .type "object"] "ValueError.__new__" = true) (b_BadText : PySem.W.subIn K (.ref C_BadText) (.type "BaseException") = some true) (t_BadText : PySem.W.typeIn K (.ref C_BadText) = some (.type "type"))
    (ig_BadText : PySem.W.findIn K (.ref C_BadText) "__getattribute__" = some (some (.builtin "BaseException.__getattribute__"))) (ik_BadText : PySem.W.findIn K (.ref C_BadText) "__getattr__" = some none) (id_BadText : PySem.W.hasDictIn K C_BadText = true) (ia_BadText : PySem.W.findIn K (.ref C_BadText) "__class__" = some (some (.builtin "object.__class__"))) (im_BadText : PySem.W.mroIn K C_BadText (.type "object") = some true)
    (g_NotFound : PySem.W.nsIn K mainGlobals "NotFound" = some (some (.ref C_NotFound))) (k_NotFound : PySem.W.keepIn K (.ref C_NotFound) = true) (x_NotFound : PySem.W.excIn K C_NotFound [.type "ValueError", .type "Exception", .type "BaseException", .type "object"] "ValueError.__new__" = true) (b_NotFound : PySem.W.subIn K (.ref C_NotFound) (.type "BaseException") = some true) (t_NotFound : PySem.W.typeIn K (.ref C_NotFound) = some (.type "type"))
    (ig_NotFound : PySem.W.findIn K (.ref C_NotFound) "__getattribute__" = some (some (.builtin "BaseException.__getattribute__"))) (ik_NotFound : PySem.W.findIn K (.ref C_NotFound) "__getattr__" = some none) (id_NotFound : PySem.W.hasDictIn K C_NotFound = true) (ia_NotFound : PySem.W.findIn K (.ref C_NotFound) "__class__" = some (some (.builtin "object.__class__"))) (im_NotFound : PySem.W.mroIn K C_NotFound (.type "object") = some true)
    (u_BadMarks_AxisError : PySem.W.subIn K (.ref C_BadMarks) (.ref C_AxisError) = some true)
    (u_BadMarks_BadMarks : PySem.W.subIn K (.ref C_BadMarks) (.ref C_BadMarks) = some true)
    (u_BadMarks_BadNumber : PySem.W.subIn K (.ref C_BadMarks) (.ref C_BadNumber) = some false)
    (u_BadMarks_BadRange : PySem.W.subIn K (.ref C_BadMarks) (.ref C_BadRange) = some false)
    (u_BadMarks_BadStep : PySem.W.subIn K (.ref C_BadMarks) (.ref C_BadStep) = some false)
    (u_BadMarks_BadText : PySem.W.subIn K (.ref C_BadMarks) (.ref C_BadText) = some false)
    (u_BadMarks_NotFound : PySem.W.subIn K (.ref C_BadMarks) (.ref C_NotFound) = some false)
    (v_BadMarks : PySem.W.subIn K (.ref C_BadMarks) (.type "ValueError") = some true)
    (u_BadNumber_AxisError : PySem.W.subIn K (.ref C_BadNumber) (.ref C_AxisError) = some true)
    (u_BadNumber_BadMarks : PySem.W.subIn K (.ref C_BadNumber) (.ref C_BadMarks) = some false)
    (u_BadNumber_BadNumber : PySem.W.subIn K (.ref C_BadNumber) (.ref C_BadNumber) = some true)
    (u_BadNumber_BadRange : PySem.W.subIn K (.ref C_BadNumber) (.ref C_BadRange) = some false)
    (u_BadNumber_BadStep : PySem.W.subIn K (.ref C_BadNumber) (.ref C_BadStep) = some false)
    (u_BadNumber_BadText : PySem.W.subIn K (.ref C_BadNumber) (.ref C_BadText) = some false)
    (u_BadNumber_NotFound : PySem.W.subIn K (.ref C_BadNumber) (.ref C_NotFound) = some false)
    (v_BadNumber : PySem.W.subIn K (.ref C_BadNumber) (.type "ValueError") = some true)
    (u_BadRange_AxisError : PySem.W.subIn K (.ref C_BadRange) (.ref C_AxisError) = some true)
    (u_BadRange_BadMarks : PySem.W.subIn K (.ref C_BadRange) (.ref C_BadMarks) = some false)
    (u_BadRange_BadNumber : PySem.W.subIn K (.ref C_BadRange) (.ref C_BadNumber) = some false)
    (u_BadRange_BadRange : PySem.W.subIn K (.ref C_BadRange) (.ref C_BadRange) = some true)
    (u_BadRange_BadStep : PySem.W.subIn K (.ref C_BadRange) (.ref C_BadStep) = some false)
    (u_BadRange_BadText : PySem.W.subIn K (.ref C_BadRange) (.ref C_BadText) = some false)
    (u_BadRange_NotFound : PySem.W.subIn K (.ref C_BadRange) (.ref C_NotFound) = some false)
    (v_BadRange : PySem.W.subIn K (.ref C_BadRange) (.type "ValueError") = some true)
    (u_BadStep_AxisError : PySem.W.subIn K (.ref C_BadStep) (.ref C_AxisError) = some true)
    (u_BadStep_BadMarks : PySem.W.subIn K (.ref C_BadStep) (.ref C_BadMarks) = some false)
    (u_BadStep_BadNumber : PySem.W.subIn K (.ref C_BadStep) (.ref C_BadNumber) = some false)
    (u_BadStep_BadRange : PySem.W.subIn K (.ref C_BadStep) (.ref C_BadRange) = some false)
    (u_BadStep_BadStep : PySem.W.subIn K (.ref C_BadStep) (.ref C_BadStep) = some true)
    (u_BadStep_BadText : PySem.W.subIn K (.ref C_BadStep) (.ref C_BadText) = some false)
    (u_BadStep_NotFound : PySem.W.subIn K (.ref C_BadStep) (.ref C_NotFound) = some false)
    (v_BadStep : PySem.W.subIn K (.ref C_BadStep) (.type "ValueError") = some true)
    (u_BadText_AxisError : PySem.W.subIn K (.ref C_BadText) (.ref C_AxisError) = some true)
    (u_BadText_BadMarks : PySem.W.subIn K (.ref C_BadText) (.ref C_BadMarks) = some false)
    (u_BadText_BadNumber : PySem.W.subIn K (.ref C_BadText) (.ref C_BadNumber) = some false)
    (u_BadText_BadRange : PySem.W.subIn K (.ref C_BadText) (.ref C_BadRange) = some false)
    (u_BadText_BadStep : PySem.W.subIn K (.ref C_BadText) (.ref C_BadStep) = some false)
    (u_BadText_BadText : PySem.W.subIn K (.ref C_BadText) (.ref C_BadText) = some true)
    (u_BadText_NotFound : PySem.W.subIn K (.ref C_BadText) (.ref C_NotFound) = some false)
    (v_BadText : PySem.W.subIn K (.ref C_BadText) (.type "ValueError") = some true)
    (u_NotFound_AxisError : PySem.W.subIn K (.ref C_NotFound) (.ref C_AxisError) = some true)
    (u_NotFound_BadMarks : PySem.W.subIn K (.ref C_NotFound) (.ref C_BadMarks) = some false)
    (u_NotFound_BadNumber : PySem.W.subIn K (.ref C_NotFound) (.ref C_BadNumber) = some false)
    (u_NotFound_BadRange : PySem.W.subIn K (.ref C_NotFound) (.ref C_BadRange) = some false)
    (u_NotFound_BadStep : PySem.W.subIn K (.ref C_NotFound) (.ref C_BadStep) = some false)
    (u_NotFound_BadText : PySem.W.subIn K (.ref C_NotFound) (.ref C_BadText) = some false)
    (u_NotFound_NotFound : PySem.W.subIn K (.ref C_NotFound) (.ref C_NotFound) = some true)
    (v_NotFound : PySem.W.subIn K (.ref C_NotFound) (.type "ValueError") = some true)
    (n_is_int : PySem.W.nsIn K mainGlobals "is_int" = some (some (.ref a_is_int))) (l_is_int : K.lookup a_is_int = some ⟨oc_is_int, od_is_int, .func (PySem.W.fnOf "is_int" "is_int" (defArgs s_is_int) (defBody s_is_int) (defScope s_is_int) .none kV_is_int dc_is_int pm_is_int an_is_int cd_is_int ct_is_int), sl_is_int⟩) (c_is_int : PySem.W.codeIn K cd_is_int "is_int" = true) (k_is_int : PySem.W.keepIn K (.ref a_is_int) = true)
    (n_check_marks : PySem.W.nsIn K mainGlobals "check_marks" = some (some (.ref a_check_marks))) (l_check_marks : K.lookup a_check_marks = some ⟨oc_check_marks, od_check_marks, .func (PySem.W.fnOf "check_marks" "check_marks" (defArgs s_check_marks) (defBody s_check_marks) (defScope s_check_marks) .none kV_check_marks dc_check_marks pm_check_marks an_check_marks cd_check_marks ct_check_marks), sl_check_marks⟩) (c_check_marks : PySem.W.codeIn K cd_check_marks "check_marks" = true) (k_check_marks : PySem.W.keepIn K (.ref a_check_marks) = true)
    (n_digits_of : PySem.W.nsIn K mainGlobals "digits_of" = some (some (.ref a_digits_of))) (l_digits_of : K.lookup a_digits_of = some ⟨oc_digits_of, od_digits_of, .func (PySem.W.fnOf "digits_of" "digits_of" (defArgs s_digits_of) (defBody s_digits_of) (defScope s_digits_of) .none kV_digits_of dc_digits_of pm_digits_of an_digits_of cd_digits_of ct_digits_of), sl_digits_of⟩) (c_digits_of : PySem.W.codeIn K cd_digits_of "digits_of" = true) (k_digits_of : PySem.W.keepIn K (.ref a_digits_of) = true)
    (n_digits_needed : PySem.W.nsIn K mainGlobals "digits_needed" = some (some (.ref a_digits_needed))) (l_digits_needed : K.lookup a_digits_needed = some ⟨oc_digits_needed, od_digits_needed, .func (PySem.W.fnOf "digits_needed" "digits_needed" (defArgs s_digits_needed) (defBody s_digits_needed) (defScope s_digits_needed) .none kV_digits_needed dc_digits_needed pm_digits_needed an_digits_needed cd_digits_needed ct_digits_needed), sl_digits_needed⟩) (c_digits_needed : PySem.W.codeIn K cd_digits_needed "digits_needed" = true) (k_digits_needed : PySem.W.keepIn K (.ref a_digits_needed) = true)
    (n_written : PySem.W.nsIn K mainGlobals "written" = some (some (.ref a_written))) (l_written : K.lookup a_written = some ⟨oc_written, od_written, .func (PySem.W.fnOf "written" "written" (defArgs s_written) (defBody s_written) (defScope s_written) .none kV_written dc_written pm_written an_written cd_written ct_written), sl_written⟩) (c_written : PySem.W.codeIn K cd_written "written" = true) (k_written : PySem.W.keepIn K (.ref a_written) = true)
    (n_label : PySem.W.nsIn K mainGlobals "label" = some (some (.ref a_label))) (l_label : K.lookup a_label = some ⟨oc_label, od_label, .func (PySem.W.fnOf "label" "label" (defArgs s_label) (defBody s_label) (defScope s_label) .none kV_label dc_label pm_label an_label cd_label ct_label), sl_label⟩) (c_label : PySem.W.codeIn K cd_label "label" = true) (k_label : PySem.W.keepIn K (.ref a_label) = true)
    (n_labels : PySem.W.nsIn K mainGlobals "labels" = some (some (.ref a_labels))) (l_labels : K.lookup a_labels = some ⟨oc_labels, od_labels, .func (PySem.W.fnOf "labels" "labels" (defArgs s_labels) (defBody s_labels) (defScope s_labels) .none kV_labels dc_labels pm_labels an_labels cd_labels ct_labels), sl_labels⟩) (c_labels : PySem.W.codeIn K cd_labels "labels" = true) (k_labels : PySem.W.keepIn K (.ref a_labels) = true)
    (n_parse_label : PySem.W.nsIn K mainGlobals "parse_label" = some (some (.ref a_parse_label))) (l_parse_label : K.lookup a_parse_label = some ⟨oc_parse_label, od_parse_label, .func (PySem.W.fnOf "parse_label" "parse_label" (defArgs s_parse_label) (defBody s_parse_label) (defScope s_parse_label) .none kV_parse_label dc_parse_label pm_parse_label an_parse_label cd_parse_label ct_parse_label), sl_parse_label⟩) (c_parse_label : PySem.W.codeIn K cd_parse_label "parse_label" = true) (k_parse_label : PySem.W.keepIn K (.ref a_parse_label) = true)
    (n_label_width : PySem.W.nsIn K mainGlobals "label_width" = some (some (.ref a_label_width))) (l_label_width : K.lookup a_label_width = some ⟨oc_label_width, od_label_width, .func (PySem.W.fnOf "label_width" "label_width" (defArgs s_label_width) (defBody s_label_width) (defScope s_label_width) .none kV_label_width dc_label_width pm_label_width an_label_width cd_label_width ct_label_width), sl_label_width⟩) (c_label_width : PySem.W.codeIn K cd_label_width "label_width" = true) (k_label_width : PySem.W.keepIn K (.ref a_label_width) = true)
    (n_parse_labels : PySem.W.nsIn K mainGlobals "parse_labels" = some (some (.ref a_parse_labels))) (l_parse_labels : K.lookup a_parse_labels = some ⟨oc_parse_labels, od_parse_labels, .func (PySem.W.fnOf "parse_labels" "parse_labels" (defArgs s_parse_labels) (defBody s_parse_labels) (defScope s_parse_labels) .none kV_parse_labels dc_parse_labels pm_parse_labels an_parse_labels cd_parse_labels ct_parse_labels), sl_parse_labels⟩) (c_parse_labels : PySem.W.codeIn K cd_parse_labels "parse_labels" = true) (k_parse_labels : PySem.W.keepIn K (.ref a_parse_labels) = true)
    (n__law_start : PySem.W.nsIn K mainGlobals "_law_start" = some (some (.ref a__law_start))) (l__law_start : K.lookup a__law_start = some ⟨oc__law_start, od__law_start, .func (PySem.W.fnOf "_law_start" "_law_start" (defArgs s__law_start) (defBody s__law_start) (defScope s__law_start) .none kV__law_start dc__law_start pm__law_start an__law_start cd__law_start ct__law_start), sl__law_start⟩) (c__law_start : PySem.W.codeIn K cd__law_start "_law_start" = true) (k__law_start : PySem.W.keepIn K (.ref a__law_start) = true)
    (n__law_draw : PySem.W.nsIn K mainGlobals "_law_draw" = some (some (.ref a__law_draw))) (l__law_draw : K.lookup a__law_draw = some ⟨oc__law_draw, od__law_draw, .func (PySem.W.fnOf "_law_draw" "_law_draw" (defArgs s__law_draw) (defBody s__law_draw) (defScope s__law_draw) .none kV__law_draw dc__law_draw pm__law_draw an__law_draw cd__law_draw ct__law_draw), sl__law_draw⟩) (c__law_draw : PySem.W.codeIn K cd__law_draw "_law_draw" = true) (k__law_draw : PySem.W.keepIn K (.ref a__law_draw) = true)
    (n__law_pick : PySem.W.nsIn K mainGlobals "_law_pick" = some (some (.ref a__law_pick))) (l__law_pick : K.lookup a__law_pick = some ⟨oc__law_pick, od__law_pick, .func (PySem.W.fnOf "_law_pick" "_law_pick" (defArgs s__law_pick) (defBody s__law_pick) (defScope s__law_pick) .none kV__law_pick dc__law_pick pm__law_pick an__law_pick cd__law_pick ct__law_pick), sl__law_pick⟩) (c__law_pick : PySem.W.codeIn K cd__law_pick "_law_pick" = true) (k__law_pick : PySem.W.keepIn K (.ref a__law_pick) = true)
    (n__law_error : PySem.W.nsIn K mainGlobals "_law_error" = some (some (.ref a__law_error))) (l__law_error : K.lookup a__law_error = some ⟨oc__law_error, od__law_error, .func (PySem.W.fnOf "_law_error" "_law_error" (defArgs s__law_error) (defBody s__law_error) (defScope s__law_error) .none kV__law_error dc__law_error pm__law_error an__law_error cd__law_error ct__law_error), sl__law_error⟩) (c__law_error : PySem.W.codeIn K cd__law_error "_law_error" = true) (k__law_error : PySem.W.keepIn K (.ref a__law_error) = true)
    (n__law_steps : PySem.W.nsIn K mainGlobals "_law_steps" = some (some (.ref a__law_steps))) (l__law_steps : K.lookup a__law_steps = some ⟨oc__law_steps, od__law_steps, .func (PySem.W.fnOf "_law_steps" "_law_steps" (defArgs s__law_steps) (defBody s__law_steps) (defScope s__law_steps) .none kV__law_steps dc__law_steps pm__law_steps an__law_steps cd__law_steps ct__law_steps), sl__law_steps⟩) (c__law_steps : PySem.W.codeIn K cd__law_steps "_law_steps" = true) (k__law_steps : PySem.W.keepIn K (.ref a__law_steps) = true)
    (n__law_step : PySem.W.nsIn K mainGlobals "_law_step" = some (some (.ref a__law_step))) (l__law_step : K.lookup a__law_step = some ⟨oc__law_step, od__law_step, .func (PySem.W.fnOf "_law_step" "_law_step" (defArgs s__law_step) (defBody s__law_step) (defScope s__law_step) .none kV__law_step dc__law_step pm__law_step an__law_step cd__law_step ct__law_step), sl__law_step⟩) (c__law_step : PySem.W.codeIn K cd__law_step "_law_step" = true) (k__law_step : PySem.W.keepIn K (.ref a__law_step) = true)
    (n__law_written : PySem.W.nsIn K mainGlobals "_law_written" = some (some (.ref a__law_written))) (l__law_written : K.lookup a__law_written = some ⟨oc__law_written, od__law_written, .func (PySem.W.fnOf "_law_written" "_law_written" (defArgs s__law_written) (defBody s__law_written) (defScope s__law_written) .none kV__law_written dc__law_written pm__law_written an__law_written cd__law_written ct__law_written), sl__law_written⟩) (c__law_written : PySem.W.codeIn K cd__law_written "_law_written" = true) (k__law_written : PySem.W.keepIn K (.ref a__law_written) = true)
    (n__law_call : PySem.W.nsIn K mainGlobals "_law_call" = some (some (.ref a__law_call))) (l__law_call : K.lookup a__law_call = some ⟨oc__law_call, od__law_call, .func (PySem.W.fnOf "_law_call" "_law_call" (defArgs s__law_call) (defBody s__law_call) (defScope s__law_call) .none kV__law_call dc__law_call pm__law_call an__law_call cd__law_call ct__law_call), sl__law_call⟩) (c__law_call : PySem.W.codeIn K cd__law_call "_law_call" = true) (k__law_call : PySem.W.keepIn K (.ref a__law_call) = true)
    (n_law : PySem.W.nsIn K mainGlobals "law" = some (some (.ref a_law))) (l_law : K.lookup a_law = some ⟨oc_law, od_law, .func (PySem.W.fnOf "law" "law" (defArgs s_law) (defBody s_law) (defScope s_law) .none kV_law dc_law pm_law an_law cd_law ct_law), sl_law⟩) (c_law : PySem.W.codeIn K cd_law "law" = true) (k_law : PySem.W.keepIn K (.ref a_law) = true)
    : Txt K mg where
  z_ValueError := PySem.W.mg_none_of X G z_ValueError
  z_abs := PySem.W.mg_none_of X G z_abs
  z_all := PySem.W.mg_none_of X G z_all
  z_bool := PySem.W.mg_none_of X G z_bool
  z_int := PySem.W.mg_none_of X G z_int
  z_isinstance := PySem.W.mg_none_of X G z_isinstance
  z_len := PySem.W.mg_none_of X G z_len
  z_list := PySem.W.mg_none_of X G z_list
  z_max := PySem.W.mg_none_of X G z_max
  z_range := PySem.W.mg_none_of X G z_range
  z_set := PySem.W.mg_none_of X G z_set
  z_str := PySem.W.mg_none_of X G z_str
  z_zip := PySem.W.mg_none_of X G z_zip
  DIGITS := ⟨_, PySem.W.mg_of X G c_DIGITS, ⟨_, rfl⟩⟩
  MOST := ⟨_, PySem.W.mg_of X G c_MOST, ⟨_, rfl⟩⟩
  POWERS := ⟨a_POWERS, PySem.W.mg_of X G g_POWERS, fun _ => .inr ⟨_, _, _, l_POWERS, rfl, rfl, (by rw [sizeLine_eq]; exact Nat.le_of_ble_eq_true rfl), (.cons ⟨_, rfl⟩ (.cons ⟨_, rfl⟩ (.cons ⟨_, rfl⟩ (.cons ⟨_, rfl⟩ .nil))))⟩⟩
  AxisError := ⟨C_AxisError, PySem.W.mg_of X G g_AxisError, k_AxisError, x_AxisError, b_AxisError, t_AxisError, ⟨ig_AxisError, ik_AxisError, b_AxisError, id_AxisError, ia_AxisError, cn, ct, im_AxisError⟩⟩
  BadMarks := ⟨C_BadMarks, PySem.W.mg_of X G g_BadMarks, k_BadMarks, x_BadMarks, b_BadMarks, t_BadMarks, ⟨ig_BadMarks, ik_BadMarks, b_BadMarks, id_BadMarks, ia_BadMarks, cn, ct, im_BadMarks⟩⟩
  BadNumber := ⟨C_BadNumber, PySem.W.mg_of X G g_BadNumber, k_BadNumber, x_BadNumber, b_BadNumber, t_BadNumber, ⟨ig_BadNumber, ik_BadNumber, b_BadNumber, id_BadNumber, ia_BadNumber, cn, ct, im_BadNumber⟩⟩
  BadRange := ⟨C_BadRange, PySem.W.mg_of X G g_BadRange, k_BadRange, x_BadRange, b_BadRange, t_BadRange, ⟨ig_BadRange, ik_BadRange, b_BadRange, id_BadRange, ia_BadRange, cn, ct, im_BadRange⟩⟩
  BadStep := ⟨C_BadStep, PySem.W.mg_of X G g_BadStep, k_BadStep, x_BadStep, b_BadStep, t_BadStep, ⟨ig_BadStep, ik_BadStep, b_BadStep, id_BadStep, ia_BadStep, cn, ct, im_BadStep⟩⟩
  BadText := ⟨C_BadText, PySem.W.mg_of X G g_BadText, k_BadText, x_BadText, b_BadText, t_BadText, ⟨ig_BadText, ik_BadText, b_BadText, id_BadText, ia_BadText, cn, ct, im_BadText⟩⟩
  NotFound := ⟨C_NotFound, PySem.W.mg_of X G g_NotFound, k_NotFound, x_NotFound, b_NotFound, t_NotFound, ⟨ig_NotFound, ik_NotFound, b_NotFound, id_NotFound, ia_NotFound, cn, ct, im_NotFound⟩⟩
  m_BadMarks := PySem.W.exm_ref b_AxisError id_AxisError t_AxisError u_BadMarks_AxisError
  q_BadMarks_AxisError := kit_true id_AxisError t_AxisError u_BadMarks_AxisError
  q_BadMarks_BadMarks := kit_true id_BadMarks t_BadMarks u_BadMarks_BadMarks
  q_BadMarks_BadNumber := kit_false u_BadMarks_BadMarks id_BadNumber t_BadNumber u_BadMarks_BadNumber
  q_BadMarks_BadRange := kit_false u_BadMarks_BadMarks id_BadRange t_BadRange u_BadMarks_BadRange
  q_BadMarks_BadStep := kit_false u_BadMarks_BadMarks id_BadStep t_BadStep u_BadMarks_BadStep
  q_BadMarks_BadText := kit_false u_BadMarks_BadMarks id_BadText t_BadText u_BadMarks_BadText
  q_BadMarks_NotFound := kit_false u_BadMarks_BadMarks id_NotFound t_NotFound u_BadMarks_NotFound
  q_BadMarks_ValueError := kit_ve v_BadMarks
  m_BadNumber := PySem.W.exm_ref b_AxisError id_AxisError t_AxisError u_BadNumber_AxisError
  q_BadNumber_AxisError := kit_true id_AxisError t_AxisError u_BadNumber_AxisError
  q_BadNumber_BadMarks := kit_false u_BadNumber_BadNumber id_BadMarks t_BadMarks u_BadNumber_BadMarks
  q_BadNumber_BadNumber := kit_true id_BadNumber t_BadNumber u_BadNumber_BadNumber
  q_BadNumber_BadRange := kit_false u_BadNumber_BadNumber id_BadRange t_BadRange u_BadNumber_BadRange
  q_BadNumber_BadStep := kit_false u_BadNumber_BadNumber id_BadStep t_BadStep u_BadNumber_BadStep
  q_BadNumber_BadText := kit_false u_BadNumber_BadNumber id_BadText t_BadText u_BadNumber_BadText
  q_BadNumber_NotFound := kit_false u_BadNumber_BadNumber id_NotFound t_NotFound u_BadNumber_NotFound
  q_BadNumber_ValueError := kit_ve v_BadNumber
  m_BadRange := PySem.W.exm_ref b_AxisError id_AxisError t_AxisError u_BadRange_AxisError
  q_BadRange_AxisError := kit_true id_AxisError t_AxisError u_BadRange_AxisError
  q_BadRange_BadMarks := kit_false u_BadRange_BadRange id_BadMarks t_BadMarks u_BadRange_BadMarks
  q_BadRange_BadNumber := kit_false u_BadRange_BadRange id_BadNumber t_BadNumber u_BadRange_BadNumber
  q_BadRange_BadRange := kit_true id_BadRange t_BadRange u_BadRange_BadRange
  q_BadRange_BadStep := kit_false u_BadRange_BadRange id_BadStep t_BadStep u_BadRange_BadStep
  q_BadRange_BadText := kit_false u_BadRange_BadRange id_BadText t_BadText u_BadRange_BadText
  q_BadRange_NotFound := kit_false u_BadRange_BadRange id_NotFound t_NotFound u_BadRange_NotFound
  q_BadRange_ValueError := kit_ve v_BadRange
  m_BadStep := PySem.W.exm_ref b_AxisError id_AxisError t_AxisError u_BadStep_AxisError
  q_BadStep_AxisError := kit_true id_AxisError t_AxisError u_BadStep_AxisError
  q_BadStep_BadMarks := kit_false u_BadStep_BadStep id_BadMarks t_BadMarks u_BadStep_BadMarks
  q_BadStep_BadNumber := kit_false u_BadStep_BadStep id_BadNumber t_BadNumber u_BadStep_BadNumber
  q_BadStep_BadRange := kit_false u_BadStep_BadStep id_BadRange t_BadRange u_BadStep_BadRange
  q_BadStep_BadStep := kit_true id_BadStep t_BadStep u_BadStep_BadStep
  q_BadStep_BadText := kit_false u_BadStep_BadStep id_BadText t_BadText u_BadStep_BadText
  q_BadStep_NotFound := kit_false u_BadStep_BadStep id_NotFound t_NotFound u_BadStep_NotFound
  q_BadStep_ValueError := kit_ve v_BadStep
  m_BadText := PySem.W.exm_ref b_AxisError id_AxisError t_AxisError u_BadText_AxisError
  q_BadText_AxisError := kit_true id_AxisError t_AxisError u_BadText_AxisError
  q_BadText_BadMarks := kit_false u_BadText_BadText id_BadMarks t_BadMarks u_BadText_BadMarks
  q_BadText_BadNumber := kit_false u_BadText_BadText id_BadNumber t_BadNumber u_BadText_BadNumber
  q_BadText_BadRange := kit_false u_BadText_BadText id_BadRange t_BadRange u_BadText_BadRange
  q_BadText_BadStep := kit_false u_BadText_BadText id_BadStep t_BadStep u_BadText_BadStep
  q_BadText_BadText := kit_true id_BadText t_BadText u_BadText_BadText
  q_BadText_NotFound := kit_false u_BadText_BadText id_NotFound t_NotFound u_BadText_NotFound
  q_BadText_ValueError := kit_ve v_BadText
  m_NotFound := PySem.W.exm_ref b_AxisError id_AxisError t_AxisError u_NotFound_AxisError
  q_NotFound_AxisError := kit_true id_AxisError t_AxisError u_NotFound_AxisError
  q_NotFound_BadMarks := kit_false u_NotFound_NotFound id_BadMarks t_BadMarks u_NotFound_BadMarks
  q_NotFound_BadNumber := kit_false u_NotFound_NotFound id_BadNumber t_BadNumber u_NotFound_BadNumber
  q_NotFound_BadRange := kit_false u_NotFound_NotFound id_BadRange t_BadRange u_NotFound_BadRange
  q_NotFound_BadStep := kit_false u_NotFound_NotFound id_BadStep t_BadStep u_NotFound_BadStep
  q_NotFound_BadText := kit_false u_NotFound_NotFound id_BadText t_BadText u_NotFound_BadText
  q_NotFound_NotFound := kit_true id_NotFound t_NotFound u_NotFound_NotFound
  q_NotFound_ValueError := kit_ve v_NotFound
  is_int := ⟨a_is_int, _, fun_mk (st := s_is_int) l_is_int c_is_int k_is_int, PySem.W.mg_of X G n_is_int, (fun_mk (st := s_is_int) l_is_int c_is_int k_is_int).binds (ps := ["value", "low", "high"]) fun _ _ _ _ _ _ us hl => match us, hl with | [_, _, _], _ => rfl⟩
  check_marks := ⟨a_check_marks, _, fun_mk (st := s_check_marks) l_check_marks c_check_marks k_check_marks, PySem.W.mg_of X G n_check_marks, (fun_mk (st := s_check_marks) l_check_marks c_check_marks k_check_marks).binds (ps := ["value"]) fun _ _ _ _ _ _ us hl => match us, hl with | [_], _ => rfl⟩
  digits_of := ⟨a_digits_of, _, fun_mk (st := s_digits_of) l_digits_of c_digits_of k_digits_of, PySem.W.mg_of X G n_digits_of, (fun_mk (st := s_digits_of) l_digits_of c_digits_of k_digits_of).binds (ps := ["row"]) fun _ _ _ _ _ _ us hl => match us, hl with | [_], _ => rfl⟩
  digits_needed := ⟨a_digits_needed, _, fun_mk (st := s_digits_needed) l_digits_needed c_digits_needed k_digits_needed, PySem.W.mg_of X G n_digits_needed, (fun_mk (st := s_digits_needed) l_digits_needed c_digits_needed k_digits_needed).binds (ps := ["row"]) fun _ _ _ _ _ _ us hl => match us, hl with | [_], _ => rfl⟩
  written := ⟨a_written, _, fun_mk (st := s_written) l_written c_written k_written, PySem.W.mg_of X G n_written, (fun_mk (st := s_written) l_written c_written k_written).binds (ps := ["value", "digits"]) fun _ _ _ _ _ _ us hl => match us, hl with | [_, _], _ => rfl⟩
  label := ⟨a_label, _, fun_mk (st := s_label) l_label c_label k_label, PySem.W.mg_of X G n_label, (fun_mk (st := s_label) l_label c_label k_label).binds (ps := ["value", "digits"]) fun _ _ _ _ _ _ us hl => match us, hl with | [_, _], _ => rfl⟩
  labels := ⟨a_labels, _, fun_mk (st := s_labels) l_labels c_labels k_labels, PySem.W.mg_of X G n_labels, (fun_mk (st := s_labels) l_labels c_labels k_labels).binds (ps := ["row"]) fun _ _ _ _ _ _ us hl => match us, hl with | [_], _ => rfl⟩
  parse_label := ⟨a_parse_label, _, fun_mk (st := s_parse_label) l_parse_label c_parse_label k_parse_label, PySem.W.mg_of X G n_parse_label, (fun_mk (st := s_parse_label) l_parse_label c_parse_label k_parse_label).binds (ps := ["text"]) fun _ _ _ _ _ _ us hl => match us, hl with | [_], _ => rfl⟩
  label_width := ⟨a_label_width, _, fun_mk (st := s_label_width) l_label_width c_label_width k_label_width, PySem.W.mg_of X G n_label_width, (fun_mk (st := s_label_width) l_label_width c_label_width k_label_width).binds (ps := ["row"]) fun _ _ _ _ _ _ us hl => match us, hl with | [_], _ => rfl⟩
  parse_labels := ⟨a_parse_labels, _, fun_mk (st := s_parse_labels) l_parse_labels c_parse_labels k_parse_labels, PySem.W.mg_of X G n_parse_labels, (fun_mk (st := s_parse_labels) l_parse_labels c_parse_labels k_parse_labels).binds (ps := ["texts"]) fun _ _ _ _ _ _ us hl => match us, hl with | [_], _ => rfl⟩
  _law_start := ⟨a__law_start, _, fun_mk (st := s__law_start) l__law_start c__law_start k__law_start, PySem.W.mg_of X G n__law_start, (fun_mk (st := s__law_start) l__law_start c__law_start k__law_start).binds (ps := ["_law_script"]) fun _ _ _ _ _ _ us hl => match us, hl with | [_], _ => rfl⟩
  _law_draw := ⟨a__law_draw, _, fun_mk (st := s__law_draw) l__law_draw c__law_draw k__law_draw, PySem.W.mg_of X G n__law_draw, (fun_mk (st := s__law_draw) l__law_draw c__law_draw k__law_draw).binds (ps := ["_law_draws", "_law_limit"]) fun _ _ _ _ _ _ us hl => match us, hl with | [_, _], _ => rfl⟩
  _law_pick := ⟨a__law_pick, _, fun_mk (st := s__law_pick) l__law_pick c__law_pick k__law_pick, PySem.W.mg_of X G n__law_pick, (fun_mk (st := s__law_pick) l__law_pick c__law_pick k__law_pick).binds (ps := ["_law_draws", "_law_choices"]) fun _ _ _ _ _ _ us hl => match us, hl with | [_, _], _ => rfl⟩
  _law_error := ⟨a__law_error, _, fun_mk (st := s__law_error) l__law_error c__law_error k__law_error, PySem.W.mg_of X G n__law_error, (fun_mk (st := s__law_error) l__law_error c__law_error k__law_error).binds (ps := ["_law_caught"]) fun _ _ _ _ _ _ us hl => match us, hl with | [_], _ => rfl⟩
  _law_steps := ⟨a__law_steps, _, fun_mk (st := s__law_steps) l__law_steps c__law_steps k__law_steps, PySem.W.mg_of X G n__law_steps, (fun_mk (st := s__law_steps) l__law_steps c__law_steps k__law_steps).binds (ps := []) fun _ _ _ _ _ _ us hl => match us, hl with | [], _ => rfl⟩
  _law_step := ⟨a__law_step, _, fun_mk (st := s__law_step) l__law_step c__law_step k__law_step, PySem.W.mg_of X G n__law_step, (fun_mk (st := s__law_step) l__law_step c__law_step k__law_step).binds (ps := ["_law_draws", "_law_many"]) fun _ _ _ _ _ _ us hl => match us, hl with | [_, _], _ => rfl⟩
  _law_written := ⟨a__law_written, _, fun_mk (st := s__law_written) l__law_written c__law_written k__law_written, PySem.W.mg_of X G n__law_written, (fun_mk (st := s__law_written) l__law_written c__law_written k__law_written).binds (ps := ["_law_value", "_law_digits"]) fun _ _ _ _ _ _ us hl => match us, hl with | [_, _], _ => rfl⟩
  _law_call := ⟨a__law_call, _, fun_mk (st := s__law_call) l__law_call c__law_call k__law_call, PySem.W.mg_of X G n__law_call, (fun_mk (st := s__law_call) l__law_call c__law_call k__law_call).binds (ps := ["_law_kind", "_law_one", "_law_two"]) fun _ _ _ _ _ _ us hl => match us, hl with | [_, _, _], _ => rfl⟩
  law := ⟨a_law, _, fun_mk (st := s_law) l_law c_law k_law, PySem.W.mg_of X G n_law, (fun_mk (st := s_law) l_law c_law k_law).binds (ps := ["_law_script"]) fun _ _ _ _ _ _ us hl => match us, hl with | [_], _ => rfl⟩
theorem all_mk {l : PySem.W.OpenLaw} {w : World} {K : PySem.W.Frag} {mg : Str → Option Value} {fa : Addr} (hfa : mg "law" = some (.ref fa)) (T : Txt K mg)
    (hb : ∀ (s : Shared) (v : Value), BindsTo s T.law.fd ⟨[v], []⟩ [("_law_script", v)]) :
    ∃ fd : FuncData, (∀ (s : Shared) (v : Value), BindsTo s fd ⟨[v], []⟩ [("_law_script", v)]) ∧ ∀ base : Heap, K.In base → base.Ns mainGlobals mg → FnOk l.prog w K mg base CX0 5 fa fd ["_law_script"] (sp_lawK K) := by
  have e : fa = T.law.f := by
    have q := hfa.symm.trans T.law.g
    cases q
    rfl
  subst e
  exact ⟨T.law.fd, hb, fun base _ _ => ok_law T⟩
end AxL
open PySem PySem.W PyProof.Rows
set_option maxHeartbeats 0 in
theorem PySem.Challenge.cw_axissteps_k10_whole_labels_holds : PySem.Challenge.rw_axissteps_k10_whole_labels.Holds := by
  w_on; o_law; k_head; (case hw => w_witness2)
  k_fill
  refine L2.walk_ofK (l := PySem.Challenge.rw_axissteps_k10_whole_labels) (n := 63) (k := 5) (x := "_law_script") (CX := L2.CX0) (sp := AxL.sp_lawK) rfl (by decide) rfl ⟨rfl, by decide, by decide⟩ (fun w h Y => PySem.W.kIn_of Y) ?F (fun K H a ns hl hO hS => ⟨a, ns, rfl, hS, hl, hO, fun _ => rfl⟩) (fun _ _ _ _ h => h)
  case F =>
    intro w mg fa h KX G hmg
    refine' AxL.all_mk hmg (AxL.mkT KX G ?z_ValueError ?z_abs ?z_all ?z_bool ?z_int ?z_isinstance ?z_len ?z_list ?z_max ?z_range ?z_set ?z_str ?z_zip ?c_DIGITS ?c_MOST ?g_POWERS ?l_POWERS ?cn ?ct ?g_AxisError ?k_AxisError ?x_AxisError ?b_AxisError ?t_AxisError ?ig_AxisError ?ik_AxisError ?id_AxisError ?ia_AxisError ?im_AxisError ?g_BadMarks ?k_BadMarks ?x_BadMarks ?b_BadMarks ?t_BadMarks ?ig_BadMarks ?ik_BadMarks ?id_BadMarks ?ia_BadMarks ?im_BadMarks ?g_BadNumber ?k_BadNumber ?x_BadNumber ?b_BadNumber ?t_BadNumber ?ig_BadNumber ?ik_BadNumber ?id_BadNumber ?ia_BadNumber ?im_BadNumber ?g_BadRange ?k_BadRange ?x_BadRange ?b_BadRange ?t_BadRange ?ig_BadRange ?ik_BadRange ?id_BadRange ?ia_BadRange ?im_BadRange ?g_BadStep ?k_BadStep ?x_BadStep ?b_BadStep ?t_BadStep ?ig_BadStep ?ik_BadStep ?id_BadStep ?ia_BadStep ?im_BadStep ?g_BadText ?k_BadText ?x_BadText ?b_BadText ?t_BadText ?ig_BadText ?ik_BadText ?id_BadText ?ia_BadText ?im_BadText ?g_NotFound ?k_NotFound ?x_NotFound ?b_NotFound ?t_NotFound ?ig_NotFound ?ik_NotFound ?id_NotFound ?ia_NotFound ?im_NotFound ?u_BadMarks_AxisError ?u_BadMarks_BadMarks ?u_BadMarks_BadNumber ?u_BadMarks_BadRange ?u_BadMarks_BadStep ?u_BadMarks_BadText ?u_BadMarks_NotFound ?v_BadMarks ?u_BadNumber_AxisError ?u_BadNumber_BadMarks ?u_BadNumber_BadNumber ?u_BadNumber_BadRange ?u_BadNumber_BadStep ?u_BadNumber_BadText ?u_BadNumber_NotFound ?v_BadNumber ?u_BadRange_AxisError ?u_BadRange_BadMarks ?u_BadRange_BadNumber ?u_BadRange_BadRange ?u_BadRange_BadStep ?u_BadRange_BadText ?u_BadRange_NotFound ?v_BadRange ?u_BadStep_AxisError ?u_BadStep_BadMarks ?u_BadStep_BadNumber ?u_BadStep_BadRange ?u_BadStep_BadStep ?u_BadStep_BadText ?u_BadStep_NotFound ?v_BadStep ?u_BadText_AxisError ?u_BadText_BadMarks ?u_BadText_BadNumber ?u_BadText_BadRange ?u_BadText_BadStep ?u_BadText_BadText ?u_BadText_NotFound ?v_BadText ?u_NotFound_AxisError ?u_NotFound_BadMarks ?u_NotFound_BadNumber ?u_NotFound_BadRange ?u_NotFound_BadStep ?u_NotFound_BadText ?u_NotFound_NotFound ?v_NotFound ?n_is_int ?l_is_int ?c_is_int ?k_is_int ?n_check_marks ?l_check_marks ?c_check_marks ?k_check_marks ?n_digits_of ?l_digits_of ?c_digits_of ?k_digits_of ?n_digits_needed ?l_digits_needed ?c_digits_needed ?k_digits_needed ?n_written ?l_written ?c_written ?k_written ?n_label ?l_label ?c_label ?k_label ?n_labels ?l_labels ?c_labels ?k_labels ?n_parse_label ?l_parse_label ?c_parse_label ?k_parse_label ?n_label_width ?l_label_width ?c_label_width ?k_label_width ?n_parse_labels ?l_parse_labels ?c_parse_labels ?k_parse_labels ?n__law_start ?l__law_start ?c__law_start ?k__law_start ?n__law_draw ?l__law_draw ?c__law_draw ?k__law_draw ?n__law_pick ?l__law_pick ?c__law_pick ?k__law_pick ?n__law_error ?l__law_error ?c__law_error ?k__law_error ?n__law_steps ?l__law_steps ?c__law_steps ?k__law_steps ?n__law_step ?l__law_step ?c__law_step ?k__law_step ?n__law_written ?l__law_written ?c__law_written ?k__law_written ?n__law_call ?l__law_call ?c__law_call ?k__law_call ?n_law ?l_law ?c_law ?k_law) (fun s v => .of_eq rfl)
    (case z_ValueError => k_is)
    (case z_abs => k_is)
    (case z_all => k_is)
    (case z_bool => k_is)
    (case z_int => k_is)
    (case z_isinstance => k_is)
    (case z_len => k_is)
    (case z_list => k_is)
    (case z_max => k_is)
    (case z_range => k_is)
    (case z_set => k_is)
    (case z_str => k_is)
    (case z_zip => k_is)
    (case c_DIGITS => k_is)
    (case c_MOST => k_is)
    (case g_POWERS => k_is)
    (case l_POWERS => k_is)
    (case cn => k_is)
    (case ct => k_is)
    (case g_AxisError => k_is)
    (case k_AxisError => k_is)
    (case x_AxisError => k_exc)
    (case b_AxisError => k_is)
    (case t_AxisError => k_is)
    (case ig_AxisError => k_is)
    (case ik_AxisError => k_is)
    (case id_AxisError => k_is)
    (case ia_AxisError => k_is)
    (case im_AxisError => k_is)
    (case g_BadMarks => k_is)
    (case k_BadMarks => k_is)
    (case x_BadMarks => k_exc)
    (case b_BadMarks => k_is)
    (case t_BadMarks => k_is)
    (case ig_BadMarks => k_is)
    (case ik_BadMarks => k_is)
    (case id_BadMarks => k_is)
    (case ia_BadMarks => k_is)
    (case im_BadMarks => k_is)
    (case g_BadNumber => k_is)
    (case k_BadNumber => k_is)
    (case x_BadNumber => k_exc)
    (case b_BadNumber => k_is)
    (case t_BadNumber => k_is)
    (case ig_BadNumber => k_is)
    (case ik_BadNumber => k_is)
    (case id_BadNumber => k_is)
    (case ia_BadNumber => k_is)
    (case im_BadNumber => k_is)
    (case g_BadRange => k_is)
    (case k_BadRange => k_is)
    (case x_BadRange => k_exc)
    (case b_BadRange => k_is)
    (case t_BadRange => k_is)
    (case ig_BadRange => k_is)
    (case ik_BadRange => k_is)
    (case id_BadRange => k_is)
    (case ia_BadRange => k_is)
    (case im_BadRange => k_is)
    (case g_BadStep => k_is)
    (case k_BadStep => k_is)
    (case x_BadStep => k_exc)
    (case b_BadStep => k_is)
    (case t_BadStep => k_is)
    (case ig_BadStep => k_is)
    (case ik_BadStep => k_is)
    (case id_BadStep => k_is)
    (case ia_BadStep => k_is)
    (case im_BadStep => k_is)
    (case g_BadText => k_is)
    (case k_BadText => k_is)
    (case x_BadText => k_exc)
    (case b_BadText => k_is)
    (case t_BadText => k_is)
    (case ig_BadText => k_is)
    (case ik_BadText => k_is)
    (case id_BadText => k_is)
    (case ia_BadText => k_is)
    (case im_BadText => k_is)
    (case g_NotFound => k_is)
    (case k_NotFound => k_is)
    (case x_NotFound => k_exc)
    (case b_NotFound => k_is)
    (case t_NotFound => k_is)
    (case ig_NotFound => k_is)
    (case ik_NotFound => k_is)
    (case id_NotFound => k_is)
    (case ia_NotFound => k_is)
    (case im_NotFound => k_is)
    (case u_BadMarks_AxisError => first | k_is | rfl)
    (case u_BadMarks_BadMarks => first | k_is | rfl)
    (case u_BadMarks_BadNumber => first | k_is | rfl)
    (case u_BadMarks_BadRange => first | k_is | rfl)
    (case u_BadMarks_BadStep => first | k_is | rfl)
    (case u_BadMarks_BadText => first | k_is | rfl)
    (case u_BadMarks_NotFound => first | k_is | rfl)
    (case v_BadMarks => k_is)
    (case u_BadNumber_AxisError => first | k_is | rfl)
    (case u_BadNumber_BadMarks => first | k_is | rfl)
    (case u_BadNumber_BadNumber => first | k_is | rfl)
    (case u_BadNumber_BadRange => first | k_is | rfl)
    (case u_BadNumber_BadStep => first | k_is | rfl)
    (case u_BadNumber_BadText => first | k_is | rfl)
    (case u_BadNumber_NotFound => first | k_is | rfl)
    (case v_BadNumber => k_is)
    (case u_BadRange_AxisError => first | k_is | rfl)
    (case u_BadRange_BadMarks => first | k_is | rfl)
    (case u_BadRange_BadNumber => first | k_is | rfl)
    (case u_BadRange_BadRange => first | k_is | rfl)
    (case u_BadRange_BadStep => first | k_is | rfl)
    (case u_BadRange_BadText => first | k_is | rfl)
    (case u_BadRange_NotFound => first | k_is | rfl)
    (case v_BadRange => k_is)
    (case u_BadStep_AxisError => first | k_is | rfl)
    (case u_BadStep_BadMarks => first | k_is | rfl)
    (case u_BadStep_BadNumber => first | k_is | rfl)
    (case u_BadStep_BadRange => first | k_is | rfl)
    (case u_BadStep_BadStep => first | k_is | rfl)
    (case u_BadStep_BadText => first | k_is | rfl)
    (case u_BadStep_NotFound => first | k_is | rfl)
    (case v_BadStep => k_is)
    (case u_BadText_AxisError => first | k_is | rfl)
    (case u_BadText_BadMarks => first | k_is | rfl)
    (case u_BadText_BadNumber => first | k_is | rfl)
    (case u_BadText_BadRange => first | k_is | rfl)
    (case u_BadText_BadStep => first | k_is | rfl)
    (case u_BadText_BadText => first | k_is | rfl)
    (case u_BadText_NotFound => first | k_is | rfl)
    (case v_BadText => k_is)
    (case u_NotFound_AxisError => first | k_is | rfl)
    (case u_NotFound_BadMarks => first | k_is | rfl)
    (case u_NotFound_BadNumber => first | k_is | rfl)
    (case u_NotFound_BadRange => first | k_is | rfl)
    (case u_NotFound_BadStep => first | k_is | rfl)
    (case u_NotFound_BadText => first | k_is | rfl)
    (case u_NotFound_NotFound => first | k_is | rfl)
    (case v_NotFound => k_is)
    (case n_is_int => k_is)
    (case l_is_int => k_is)
    (case c_is_int => k_is)
    (case k_is_int => k_is)
    (case n_check_marks => k_is)
    (case l_check_marks => k_is)
    (case c_check_marks => k_is)
    (case k_check_marks => k_is)
    (case n_digits_of => k_is)
    (case l_digits_of => k_is)
    (case c_digits_of => k_is)
    (case k_digits_of => k_is)
    (case n_digits_needed => k_is)
    (case l_digits_needed => k_is)
    (case c_digits_needed => k_is)
    (case k_digits_needed => k_is)
    (case n_written => k_is)
    (case l_written => k_is)
    (case c_written => k_is)
    (case k_written => k_is)
    (case n_label => k_is)
    (case l_label => k_is)
    (case c_label => k_is)
    (case k_label => k_is)
    (case n_labels => k_is)
    (case l_labels => k_is)
    (case c_labels => k_is)
    (case k_labels => k_is)
    (case n_parse_label => k_is)
    (case l_parse_label => k_is)
    (case c_parse_label => k_is)
    (case k_parse_label => k_is)
    (case n_label_width => k_is)
    (case l_label_width => k_is)
    (case c_label_width => k_is)
    (case k_label_width => k_is)
    (case n_parse_labels => k_is)
    (case l_parse_labels => k_is)
    (case c_parse_labels => k_is)
    (case k_parse_labels => k_is)
    (case n__law_start => k_is)
    (case l__law_start => k_is)
    (case c__law_start => k_is)
    (case k__law_start => k_is)
    (case n__law_draw => k_is)
    (case l__law_draw => k_is)
    (case c__law_draw => k_is)
    (case k__law_draw => k_is)
    (case n__law_pick => k_is)
    (case l__law_pick => k_is)
    (case c__law_pick => k_is)
    (case k__law_pick => k_is)
    (case n__law_error => k_is)
    (case l__law_error => k_is)
    (case c__law_error => k_is)
    (case k__law_error => k_is)
    (case n__law_steps => k_is)
    (case l__law_steps => k_is)
    (case c__law_steps => k_is)
    (case k__law_steps => k_is)
    (case n__law_step => k_is)
    (case l__law_step => k_is)
    (case c__law_step => k_is)
    (case k__law_step => k_is)
    (case n__law_written => k_is)
    (case l__law_written => k_is)
    (case c__law_written => k_is)
    (case k__law_written => k_is)
    (case n__law_call => k_is)
    (case l__law_call => k_is)
    (case c__law_call => k_is)
    (case k__law_call => k_is)
    (case n_law => k_is)
    (case l_law => k_is)
    (case c_law => k_is)
    (case k_law => k_is)
