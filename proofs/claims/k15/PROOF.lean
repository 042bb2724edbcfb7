import PyProof.Rows.All
import Wide.All
import OpenK.AllK
import Wide.FinOn
import HandS.ForMost
import HandS.ForExc
import HandS.IsInst
import HandS.ExcIs
import HandS.Wide
import HandS.Walk
import HandS.Style
import HandS.Conv
import HandS.FStr
import HandS.Words
import HandS.SortInts
import HandS.SetFor
import KE.KEqSeq
import HandS.OwnEq
import HandS.Strs
import HandS.Text
import HandS.Replace
import KE.GoesComp
import KE.KAsSuite
import PySem.Challenge.RW_axissteps_k15_errors
set_option Elab.async false
set_option linter.all false
set_option maxRecDepth 100000
set_option maxHeartbeats 4000000
/-! Common part: reading rules as introduction lemmas, heaps that grow, draws. -/
namespace Ax
open PySem L2

/-! ### facts of the text, one record a def -/
structure Df (K : PySem.W.Frag) (mg : Str → Option Value) (x : Str) (st : Stmt) (ps : List Str) : Type where
  f : Addr
  fd : FuncData
  F : Fun K x x st f fd
  g : mg x = some (.ref f)
  b : Binds K fd ps []
/-- an own exception class -/
structure Exn (K : PySem.W.Frag) (mg : Str → Option Value) (x : Str) : Type where
  C : Addr
  g : mg x = some (.ref C)
  k : PySem.W.keepIn K (.ref C) = true
  x : PySem.W.excIn K C [.type "ValueError", .type "Exception", .type "BaseException", .type "object"] "ValueError.__new__" = true
  b : PySem.W.subIn K (.ref C) (.type "BaseException") = some true
  t : PySem.W.typeIn K (.ref C) = some (.type "type")
  i : ExcC K C
/-- a constant of the module -/
structure Cst (K : PySem.W.Frag) (mg : Str → Option Value) (x : Str) (v : V) : Type where
  u : Value
  g : mg x = some u
  r : RelV v u

/-! ### reading rules -/
section
variable {D : Ends} {σ : L2.St} {H : Hp} {Q : VK} {K : PySem.W.Frag}
theorem r_var {i : Nat} {v : V} (e : σ[i]? = some (some v)) (h : Q v H) : tVar i σ H Q := ⟨v, e, h⟩
theorem r_c {v : V} (h : Q v H) : tC v σ H Q := h
theorem r_op {r : R2} {ta tb : TE} (h : ta σ H fun x H1 => tb σ H1 fun y H2 => r x y H2 Q) : tOp r ta tb σ H Q := h
theorem r_un {r : V → Hp → VK → Prop} {ta : TE} (h : ta σ H fun x H1 => r x H1 Q) : tUn r ta σ H Q := h
theorem r_I0 {g : Int → Int → V} {i j : Int} (h : Q (g i j) H) : rI0 g (.int i) (.int j) H Q := ⟨i, j, rfl, rfl, h⟩
theorem r_I {C : Int → Int → Prop} {g : Int → Int → V} {i j : Int} (c : C i j) (h : Q (g i j) H) : rI C g (.int i) (.int j) H Q := ⟨i, j, rfl, rfl, c, h⟩
theorem r_U {g : Int → V} {i : Int} (h : Q (g i) H) : rU g (.int i) H Q := ⟨i, rfl, h⟩
theorem r_eqI {i j : Int} (h : Q (.bl (decide (i = j))) H) : rEq (.int i) (.int j) H Q := ⟨rfl, by rw [dec_int, Bool.beq_eq_decide_eq]; exact h⟩
theorem r_neI {i j : Int} (h : Q (.bl (!decide (i = j))) H) : rNe (.int i) (.int j) H Q := ⟨rfl, by rw [dec_int, Bool.beq_eq_decide_eq]; exact h⟩
theorem r_eqB {i j : Bool} (h : Q (.bl (decide (i = j))) H) : rEq (.bl i) (.bl j) H Q := ⟨rfl, by rw [dec_bl, Bool.beq_eq_decide_eq]; exact h⟩
theorem r_neB {i j : Bool} (h : Q (.bl (!decide (i = j))) H) : rNe (.bl i) (.bl j) H Q := ⟨rfl, by rw [dec_bl, Bool.beq_eq_decide_eq]; exact h⟩
theorem r_eqS {i j : Str} (h : Q (.bl (decide (i = j))) H) : rEq (.str i) (.str j) H Q := ⟨rfl, by rw [dec_str, Bool.beq_eq_decide_eq]; exact h⟩
theorem r_neS {i j : Str} (h : Q (.bl (!decide (i = j))) H) : rNe (.str i) (.str j) H Q := ⟨rfl, by rw [dec_str, Bool.beq_eq_decide_eq]; exact h⟩
theorem r_test {t : TE} {Q : Bool → Hp → Prop} (h : t σ H fun x H' => ∃ k, x = .bl k ∧ Q k H') : tTest t σ H Q := h
theorem r_tB {t : TE} {Q : Bool → Hp → Prop} (h : t σ H fun x H' => ∃ k, x = .bl k ∧ Q k H') : tB t σ H Q := h
theorem r_bk {b : Bool} {Q : Bool → Hp → Prop} (h : Q b H) : ∃ k, V.bl b = V.bl k ∧ Q k H := ⟨b, rfl, h⟩
theorem r_bk' {b : Bool} {P : Bool → Prop} (h : P b) : ∃ k, V.bl b = V.bl k ∧ P k := ⟨b, rfl, h⟩
theorem r_not {t : TT} {Q : Bool → Hp → Prop} (h : t σ H fun c H1 => Q (!c) H1) : tNot t σ H Q := h
theorem r_and {t u : TT} {Q : Bool → Hp → Prop} (h : t σ H fun c H1 => if c = true then u σ H1 Q else Q false H1) : tAnd t u σ H Q := h
theorem r_or {t u : TT} {Q : Bool → Hp → Prop} (h : t σ H fun c H1 => if c = true then Q true H1 else u σ H1 Q) : tOr t u σ H Q := h
theorem r_andV {ta tb : TE} (h : ta σ H fun x H1 => ∃ c, x = .bl c ∧ if c = true then tb σ H1 Q else Q (.bl false) H1) : tAndV ta tb σ H Q := h
theorem r_orV {ta tb : TE} (h : ta σ H fun x H1 => ∃ c, x = .bl c ∧ if c = true then Q (.bl true) H1 else tb σ H1 Q) : tOrV ta tb σ H Q := h
theorem r_notV {ta : TE} (h : ta σ H fun x H1 => ∃ c, x = .bl c ∧ Q (.bl (!c)) H1) : tNotV ta σ H Q := h
theorem r_ifE {t : TT} {ta tb : TE} (h : t σ H fun c H1 => if c = true then ta σ H1 Q else tb σ H1 Q) : tIf t ta tb σ H Q := h
theorem r_chain {r r' : R2} {ta tb tc : TE} (h : ta σ H fun x H1 => tb σ H1 fun y H2 => r x y H2 fun z H3 => ∃ k, z = .bl k ∧ (if k = true then tc σ H3 fun w' H4 => r' y w' H4 Q else Q (.bl false) H3)) : tChain r r' ta tb tc σ H Q := h
theorem r_cons {ta : TE} {tr : TA} {Q : List V → Hp → Prop} (h : ta σ H fun x H1 => tr σ H1 fun xs H2 => Q (x :: xs) H2) : tCons ta tr σ H Q := h
theorem r_nil {Q : List V → Hp → Prop} (h : Q [] H) : tNil σ H Q := h
theorem r_tup {t : TA} (h : t σ H fun xs H1 => xs.length ≤ sizeLine ∧ ∀ p, H1 p = none → Q (.ref p) (upd H1 p (.tup xs))) : tTup t σ H Q := h
theorem r_lst {t : TA} (h : t σ H fun xs H1 => xs.length ≤ sizeLine ∧ ∀ p, H1 p = none → Q (.ref p) (upd H1 p (.lst xs))) : tLst t σ H Q := h
theorem r_new {xs : List V} {P : Prop} (hl : Nat.ble xs.length 1000 = true) (h : P) : xs.length ≤ sizeLine ∧ P :=
  ⟨Nat.le_trans (Nat.le_of_ble_eq_true hl) (by rw [sizeLine_eq]; decide), h⟩
theorem r_call {sp : Sp} {E : XK} {t : TA} (h : t σ H fun vs H1 => sp vs H1 Q E) : tCall sp [] E t σ H Q := by
  show t σ H fun vs H1 => sp (vs ++ []) H1 Q E
  have e : (fun (vs : List V) (H1 : Hp) => sp (vs ++ []) H1 Q E) = fun vs H1 => sp vs H1 Q E := by
    funext vs H1
    rw [List.append_nil]
  rw [e]
  exact h
theorem r_callS {sp : Sp} {E : L2.St → XK} {t : TA} (h : t σ H fun vs H1 => sp vs H1 Q (E σ)) : tCallS sp E t σ H Q := h
theorem r_cb {r : List V → Hp → VK → Prop} {t : TA} (h : t σ H fun vs H1 => r vs H1 Q) : tCB r t σ H Q := h
theorem r_ixT {p : Addr} {xs : List V} {i : Int} {v : V} (s : SqT K H p xs) (a : atI xs i = some v) (h : Q v H) : rIxT K (.ref p) (.int i) H Q := ⟨p, xs, i, v, rfl, rfl, s, a, h⟩
theorem r_ixL {p : Addr} {xs : List V} {i : Int} {v : V} (s : SqL K H p xs) (a : atI xs i = some v) (h : Q v H) : rIxL K (.ref p) (.int i) H Q := ⟨p, xs, i, v, rfl, rfl, s, a, h⟩
-- statements
theorem r_seq {t u : TS} (h : t { D with nx := u D } σ H) : tSeq t u D σ H := h
theorem r_seqAsg {te : TE} {i : Nat} {u : TS} (h : te σ H fun x H1 => u D (σ.set i (some x)) H1) : tSeq (tAsg te (gName i)) u D σ H := h
theorem r_seqDrop {te : TE} {u : TS} (h : te σ H fun _ H1 => u D σ H1) : tSeq (tDrop te) u D σ H := h
theorem r_seqIf {c : TT} {t u : TS} (h : c σ H fun b H1 => if b = true then t { D with nx := u D } σ H1 else u D σ H1) : tSeq (tIfS c t tNext) u D σ H := h
theorem r_seqIf2 {c : TT} {t t' u : TS} (h : c σ H fun b H1 => if b = true then t { D with nx := u D } σ H1 else t' { D with nx := u D } σ H1) : tSeq (tIfS c t t') u D σ H := h
theorem r_ifS {c : TT} {t t' : TS} (h : c σ H fun b H1 => if b = true then t D σ H1 else t' D σ H1) : tIfS c t t' D σ H := h
theorem r_asg {te : TE} {g : TG} (h : te σ H fun x H1 => g x σ H1 D.nx) : tAsg te g D σ H := h
theorem r_drop {te : TE} (h : te σ H fun _ H1 => D.nx σ H1) : tDrop te D σ H := h
theorem r_ret {te : TE} (h : te σ H D.rt) : tRet te D σ H := h
theorem r_next (h : D.nx σ H) : tNext D σ H := h
theorem r_gname {i : Nat} {v : V} {Q : L2.St → Hp → Prop} (h : Q (σ.set i (some v)) H) : gName i v σ H Q := h
theorem r_aug {i : Nat} {te : TE} {ti : TIp} {x : V} (e : σ[i]? = some (some x)) (h : te σ H fun y H1 => ti x y H1 fun z H2 => D.nx (σ.set i (some z)) H2) : tAug i te ti D σ H := ⟨x, e, h⟩
theorem r_ipI {f : Int → Int → Int} {i j : Int} (h : Q (.int (f i j)) H) : ipI f (.int i) (.int j) H Q := ⟨i, j, rfl, rfl, h⟩
theorem r_nxmk {nx : L2.St → Hp → Prop} {rt : VK} {bk ct : L2.St → Hp → Prop} (h : nx σ H) : Ends.nx ⟨nx, rt, bk, ct⟩ σ H := h
theorem r_rtmk {nx : L2.St → Hp → Prop} {rt : VK} {bk ct : L2.St → Hp → Prop} {v : V} (h : rt v H) : Ends.rt ⟨nx, rt, bk, ct⟩ v H := h
theorem r_t {A B : Prop} (h : A) : if true = true then A else B := by rw [if_pos rfl]; exact h
theorem r_f {A B : Prop} (h : B) : if false = true then A else B := by rw [if_neg Bool.false_ne_true]; exact h
theorem r_dt {p : Prop} [Decidable p] {A B : Prop} (hp : p) (h : A) : if decide p = true then A else B := by rw [decide_eq_true hp]; exact r_t h
theorem r_df {p : Prop} [Decidable p] {A B : Prop} (hp : ¬ p) (h : B) : if decide p = true then A else B := by rw [decide_eq_false hp]; exact r_f h
theorem r_ndt {p : Prop} [Decidable p] {A B : Prop} (hp : ¬ p) (h : A) : if (!decide p) = true then A else B := by rw [decide_eq_false hp]; exact r_t h
theorem r_ndf {p : Prop} [Decidable p] {A B : Prop} (hp : p) (h : B) : if (!decide p) = true then A else B := by rw [decide_eq_true hp]; exact r_f h
theorem r_if {p : Prop} [Decidable p] {A B : Prop} (h1 : p → A) (h2 : ¬ p → B) : if decide p = true then A else B := by
  by_cases h : p
  · exact r_dt h (h1 h)
  · exact r_df h (h2 h)
theorem r_ifn {p : Prop} [Decidable p] {A B : Prop} (h1 : ¬ p → A) (h2 : p → B) : if (!decide p) = true then A else B := by
  by_cases h : p
  · exact r_ndf h (h2 h)
  · exact r_ndt h (h1 h)
theorem r_ifb {b : Bool} {A B : Prop} (h1 : b = true → A) (h2 : b = false → B) : if b = true then A else B := by
  cases b with
  | true => exact r_t (h1 rfl)
  | false => exact r_f (h2 rfl)
theorem r_nnt {A B : Prop} (h : A) : if (!false) = true then A else B := r_t h
theorem r_nnf {A B : Prop} (h : B) : if (!true) = true then A else B := r_f h
end

/-! ### heaps that grow -/
section
variable {K : PySem.W.Frag} {H H1 H' : Hp} {p a : Addr} {o o' : HO} {xs : List V}
theorem Same.updn (s : Same H H1) (np : H1 p = none) : Same H (upd H1 p o) := fun b u e => by
  have e1 := s b u e
  rw [upd_ne (ne_of_none e1 np)]
  exact e1
theorem Same.seqT (e : Same H H') (h : SqT K H a xs) : SqT K H' a xs := by
  rcases h with (h | ⟨o, h⟩) | h
  · exact .inl (.inl (e _ _ h))
  · exact .inl (.inr ⟨o, e _ _ h⟩)
  · exact .inr h
theorem same_new (np : H p = none) : Same H (upd H p o) := Same.updn (Same.refl H) np
theorem SqT.updn (np : H p = none) (h : SqT K H a xs) : SqT K (upd H p o) a xs := Same.seqT (same_new np) h
theorem SqL.updn (np : H p = none) (h : SqL K H a xs) : SqL K (upd H p o) a xs := Same.seq (same_new np) h
theorem same_at (s : Same H H') (h : H a = some o) : H' a = some o := s a o h
theorem at_updn (np : H p = none) (h : H a = some o) : upd H p o' a = some o := (same_new np) a o h
end

/-! ### kinds of values -/
section
variable {K : PySem.W.Frag} {H H' : Hp} {a : Addr} {xs : List V} {v : V}
theorem tyx_L (h : SqL K H a xs) : TyX K H (.ref a) (.type "list") := by
  rcases h with (h | ⟨o, h⟩) | ⟨o, _, _, hk, hc, _⟩
  · exact .base (.lst h)
  · exact .base (.frz h)
  · exact .kList hk hc
theorem tyx_T (h : SqT K H a xs) : TyX K H (.ref a) (.type "tuple") := by
  rcases h with (h | ⟨o, h⟩) | ⟨o, _, _, hk, hc, _⟩
  · exact .base (.tup h)
  · exact .fTuple h
  · exact .kTuple hk hc
/-- no whole number (a bool is none here) -/
inductive NotInt (K : PySem.W.Frag) (H : Hp) : V → Prop
  | non : NotInt K H .non
  | bl (b : Bool) : NotInt K H (.bl b)
  | str (x : Str) : NotInt K H (.str x)
  | lst {a : Addr} {xs : List V} (h : SqL K H a xs) : NotInt K H (.ref a)
  | tup {a : Addr} {xs : List V} (h : SqT K H a xs) : NotInt K H (.ref a)
theorem NotInt.same (s : Same H H') (h : NotInt K H v) : NotInt K H' v := by
  cases h with
  | non => exact .non
  | bl b => exact .bl b
  | str x => exact .str x
  | lst h => exact .lst (Same.seq s h)
  | tup h => exact .tup (Same.seqT s h)
/-- a whole number, or none -/
def Known (K : PySem.W.Frag) (H : Hp) (v : V) : Prop := (∃ i, v = .int i) ∨ NotInt K H v
theorem Known.same (s : Same H H') (h : Known K H v) : Known K H' v := h.imp id (NotInt.same s)
/-- the bounds of a range -/
def Rg (lo hi : Int) : Prop := -1000000 ≤ lo ∧ lo ≤ hi ∧ hi ≤ 1000000
/-- the value is the range lo .. hi -/
def IsRg (K : PySem.W.Frag) (H : Hp) (v : V) (lo hi : Int) : Prop := ∃ a, v = .ref a ∧ SqT K H a [.int lo, .int hi] ∧ Rg lo hi
/-- the value is no range -/
inductive NotRg (K : PySem.W.Frag) (H : Hp) : V → Prop
  | non : NotRg K H .non
  | bl (b : Bool) : NotRg K H (.bl b)
  | int (i : Int) : NotRg K H (.int i)
  | str (x : Str) : NotRg K H (.str x)
  | lst {a : Addr} {xs : List V} (h : SqL K H a xs) : NotRg K H (.ref a)
  | len {a : Addr} {xs : List V} (h : SqT K H a xs) (hl : xs.length ≠ 2) : NotRg K H (.ref a)
  | fst {a : Addr} {x y : V} (h : SqT K H a [x, y]) (hx : NotInt K H x) : NotRg K H (.ref a)
  | low {a : Addr} {i : Int} {y : V} (h : SqT K H a [.int i, y]) (hx : ¬ (-1000000 ≤ i ∧ i ≤ 1000000)) : NotRg K H (.ref a)
  | snd {a : Addr} {i : Int} {y : V} (h : SqT K H a [.int i, y]) (hy : NotInt K H y) : NotRg K H (.ref a)
  | high {a : Addr} {i j : Int} (h : SqT K H a [.int i, .int j]) (hx : ¬ (i ≤ j ∧ j ≤ 1000000)) : NotRg K H (.ref a)
/-- all steps -/
def steps : List Int := [1, 2, 5, 10, 20, 50, 100, 200, 500, 1000, 2000, 5000, 10000, 20000, 50000, 100000, 200000, 500000]
theorem kit_tt {K : PySem.W.Frag} {t : String} : PySem.W.kitOne K (.type t) (.type t) = some true := by
  unfold PySem.W.kitOne
  rw [if_pos (by simp)]
theorem r_isi {x c : V} {t u : Value} {b : Bool} {Q : VK} (k : ClsV c u) (ty : TyX K H x t) (e : PySem.W.kitOne K t u = some b) (h : Q (.bl b) H) : rIsi K [x, c] H Q := ⟨x, c, t, u, b, rfl, k, ty, e, h⟩
/-- isinstance(v, int): False for what is no whole number and no bool -/
theorem r_isInt {i : Int} {Q : VK} (h : Q (.bl true) H) : rIsi K [.int i, .ty "int"] H Q := r_isi (.ty _) (.base (.int i)) (kit_ty (by decide +kernel)) h
theorem r_isIntB {i : Bool} {Q : VK} (h : Q (.bl true) H) : rIsi K [.bl i, .ty "int"] H Q := r_isi (.ty _) (.base (.bl i)) (kit_ty (by decide +kernel)) h
theorem r_isIntN {Q : VK} (h : Q (.bl false) H) : rIsi K [.non, .ty "int"] H Q := r_isi (.ty _) (.base .non) (kit_ty (by decide +kernel)) h
theorem r_isIntS {x : Str} {Q : VK} (h : Q (.bl false) H) : rIsi K [.str x, .ty "int"] H Q := r_isi (.ty _) (.base (.str x)) (kit_ty (by decide +kernel)) h
theorem r_isIntL {Q : VK} (s : SqL K H a xs) (h : Q (.bl false) H) : rIsi K [.ref a, .ty "int"] H Q := r_isi (.ty _) (tyx_L s) (kit_ty (by decide +kernel)) h
theorem r_isIntT {Q : VK} (s : SqT K H a xs) (h : Q (.bl false) H) : rIsi K [.ref a, .ty "int"] H Q := r_isi (.ty _) (tyx_T s) (kit_ty (by decide +kernel)) h
theorem r_isBlI {i : Int} {Q : VK} (h : Q (.bl false) H) : rIsi K [.int i, .ty "bool"] H Q := r_isi (.ty _) (.base (.int i)) (kit_ty (by decide +kernel)) h
theorem r_isBlB {i : Bool} {Q : VK} (h : Q (.bl true) H) : rIsi K [.bl i, .ty "bool"] H Q := r_isi (.ty _) (.base (.bl i)) (kit_ty (by decide +kernel)) h
theorem r_isTpT {Q : VK} (s : SqT K H a xs) (h : Q (.bl true) H) : rIsi K [.ref a, .ty "tuple"] H Q := r_isi (.ty _) (tyx_T s) (kit_ty (by decide +kernel)) h
theorem r_isTpL {Q : VK} (s : SqL K H a xs) (h : Q (.bl false) H) : rIsi K [.ref a, .ty "tuple"] H Q := r_isi (.ty _) (tyx_L s) (kit_ty (by decide +kernel)) h
theorem r_isTpN {Q : VK} (h : Q (.bl false) H) : rIsi K [.non, .ty "tuple"] H Q := r_isi (.ty _) (.base .non) (kit_ty (by decide +kernel)) h
theorem r_isTpI {i : Int} {Q : VK} (h : Q (.bl false) H) : rIsi K [.int i, .ty "tuple"] H Q := r_isi (.ty _) (.base (.int i)) (kit_ty (by decide +kernel)) h
theorem r_isTpB {i : Bool} {Q : VK} (h : Q (.bl false) H) : rIsi K [.bl i, .ty "tuple"] H Q := r_isi (.ty _) (.base (.bl i)) (kit_ty (by decide +kernel)) h
theorem r_isTpS {x : Str} {Q : VK} (h : Q (.bl false) H) : rIsi K [.str x, .ty "tuple"] H Q := r_isi (.ty _) (.base (.str x)) (kit_ty (by decide +kernel)) h
end
end Ax
namespace Ax
open PySem L2
section
variable {K : PySem.W.Frag} {H H' : Hp} {a l b p : Addr} {xs zs : List V} {v x : V} {Q : VK}
theorem r_ext (hl : H l = some (.lst xs)) (hb : H b = some (.lst zs)) (hz : xs.length + zs.length ≤ sizeLine) (h : Q (.ref l) (upd H l (.lst (xs ++ zs)))) : rExt2 (.ref l) (.ref b) H Q := ⟨l, b, xs, zs, rfl, rfl, hl, hb, hz, h⟩
theorem r_cat (hl : H l = some (.lst xs)) (hb : H b = some (.lst zs)) (hz : xs.length + zs.length ≤ sizeLine) (h : ∀ p, H p = none → Q (.ref p) (upd H p (.lst (xs ++ zs)))) : rCat (.ref l) (.ref b) H Q := ⟨l, b, xs, zs, rfl, rfl, hl, hb, hz, h⟩
theorem r_inL (s : SqL K H p xs) (fx : flatV x = true) (fs : xs.all flatV = true) (h : Q (.bl (inV x xs)) H) : rIn K false x (.ref p) H Q := ⟨p, xs, rfl, .inl s, fx, fs, h⟩
theorem r_notInL (s : SqL K H p xs) (fx : flatV x = true) (fs : xs.all flatV = true) (h : Q (.bl (!inV x xs)) H) : rIn K true x (.ref p) H Q := ⟨p, xs, rfl, .inl s, fx, fs, h⟩
theorem flat_ints : ∀ ns : List Int, (ns.map V.int).all flatV = true
  | [] => rfl
  | _ :: r => by
    rw [List.map_cons, List.all_cons, flat_ints r]
    rfl
theorem inV_ints (i : Int) : ∀ ns : List Int, inV (.int i) (ns.map V.int) = decide (i ∈ ns)
  | [] => by simp [inV]
  | j :: r => by
    have ih := inV_ints i r
    unfold inV at ih ⊢
    rw [List.map_cons, List.any_cons, ih]
    have e : eqV (.int j) (.int i) = decide (i = j) := by
      show (j == i) = decide (i = j)
      rw [Bool.beq_eq_decide_eq]
      exact decide_eq_decide.mpr ⟨Eq.symm, Eq.symm⟩
    rw [e]
    by_cases c : i = j
    · rw [decide_eq_true c, decide_eq_true (List.mem_cons.mpr (.inl c))]
      rfl
    · rw [decide_eq_false c, Bool.false_or]
      exact decide_eq_decide.mpr ⟨fun h => List.mem_cons_of_mem _ h, fun h => (List.mem_cons.mp h).resolve_left c⟩
theorem r_inI {i : Int} {ns : List Int} (s : SqL K H p (ns.map V.int)) (h : Q (.bl (decide (i ∈ ns))) H) : rIn K false (.int i) (.ref p) H Q := r_inL s rfl (flat_ints ns) (by rw [inV_ints]; exact h)
theorem r_notInI {i : Int} {ns : List Int} (s : SqL K H p (ns.map V.int)) (h : Q (.bl (!decide (i ∈ ns))) H) : rIn K true (.int i) (.ref p) H Q := r_notInL s rfl (flat_ints ns) (by rw [inV_ints]; exact h)
theorem small_le {n m : Nat} (h : n ≤ 1000000) (k : m ≤ 1000000) : n + m ≤ sizeLine := by
  rw [sizeLine_eq]
  omega
/-- powers of ten, three steps each -/
def ten (k : Nat) : Int := 10 ^ k
theorem ten_le : ∀ k, k < 6 → 1 ≤ ten k ∧ ten k ≤ 100000 ∧ ten k * 10 = ten (k + 1) ∧ steps.take (3 * (k + 1)) = steps.take (3 * k) ++ [ten k, 2 * ten k, 5 * ten k] := by decide
/-- a step -/
theorem step_bounds : ∀ s, s ∈ steps → 1 ≤ s ∧ s ≤ 500000 := by decide
/-- no step -/
def NotStep (K : PySem.W.Frag) (H : Hp) (v : V) : Prop := (∃ i, v = .int i ∧ i ∉ steps) ∨ NotInt K H v
theorem NotStep.same (s : Same H H') (h : NotStep K H v) : NotStep K H' v := h.imp id (NotInt.same s)
/-- the numbers of marks, the first and the last -/
def cnt (lo hi st : Int) : Int := hi / st - (lo - 1) / st
def fst (lo st : Int) : Int := -(-lo / st) * st
def lst (hi st : Int) : Int := hi / st * st
end
end Ax

/-! ### rules under names of their own (so that what follows is found) -/
namespace Ax
open PySem L2
section
variable {X : Cx} {K : PySem.W.Frag} {H : Hp} {Q : VK} {a l : Addr} {xs : List V} {x y : Str} {i j : Int}
def rLen (K : PySem.W.Frag) : List V → Hp → VK → Prop := fun xs H Q => ∃ p ys, xs = [.ref p] ∧ (SqL K H p ys ∨ SqT K H p ys) ∧ Q (.int ys.length) H
theorem xc_len : CallR X (.builtin "len") (rLen X.K) := call_len_seq
theorem r_lenT (s : SqT K H a xs) (h : Q (.int xs.length) H) : rLen K [.ref a] H Q := ⟨a, xs, rfl, .inr s, h⟩
theorem r_lenT2 {x y : V} (s : SqT K H a [x, y]) (h : Q (.int 2) H) : rLen K [.ref a] H Q := ⟨a, [x, y], rfl, .inr s, h⟩
theorem r_lenL (s : SqL K H a xs) (h : Q (.int xs.length) H) : rLen K [.ref a] H Q := ⟨a, xs, rfl, .inl s, h⟩
def rLenS : List V → Hp → VK → Prop := fun xs H Q => ∃ z, xs = [.str z] ∧ z.length ≤ sizeLine ∧ Q (.int z.length) H
theorem xc_lenS : CallR X (.builtin "len") rLenS := call_len_str
theorem r_lenS (z : x.length ≤ sizeLine) (h : Q (.int x.length) H) : rLenS [.str x] H Q := ⟨x, rfl, z, h⟩
def rAbs : List V → Hp → VK → Prop := fun xs H Q => ∃ i, xs = [.int i] ∧ Q (.int (if i < 0 then -i else i)) H
theorem xc_abs : CallR X (.builtin "abs") rAbs := call_abs
theorem r_abs (h : Q (.int (if i < 0 then -i else i)) H) : rAbs [.int i] H Q := ⟨i, rfl, h⟩
def rMax2 : List V → Hp → VK → Prop := fun xs H Q => ∃ i j, xs = [.int i, .int j] ∧ Q (.int (if j > i then j else i)) H
theorem xc_max2 (hc : X.calm = true) : CallR X (.builtin "max") rMax2 := call_max2 hc
theorem r_max2 (h : Q (.int (max i j)) H) : rMax2 [.int i, .int j] H Q := ⟨i, j, rfl, by
  have e : (if j > i then j else i) = max i j := by split <;> omega
  rw [e]
  exact h⟩
def rMin2 : List V → Hp → VK → Prop := fun xs H Q => ∃ i j, xs = [.int i, .int j] ∧ Q (.int (if j < i then j else i)) H
theorem xc_min2 (hc : X.calm = true) : CallR X (.builtin "min") rMin2 := call_min2 hc
theorem r_min2 (h : Q (.int (min i j)) H) : rMin2 [.int i, .int j] H Q := ⟨i, j, rfl, by
  have e : (if j < i then j else i) = min i j := by split <;> omega
  rw [e]
  exact h⟩
def rStrI : List V → Hp → VK → Prop := fun xs H Q => ∃ i, xs = [.int i] ∧ i.natAbs.log2 < 1920 ∧ Q (.str (toString i)) H
theorem xc_str : CallR X (.type "str") rStrI := call_str_int
def rIntS : List V → Hp → VK → Prop := fun xs H Q => ∃ a n, xs = [.str a] ∧ PySem.intText? a = some n ∧ a.length ≤ 640 ∧ Q (.int n) H
theorem xc_intS : CallR X (.type "int") rIntS := call_int_str
def rListOf (K : PySem.W.Frag) : List V → Hp → VK → Prop := fun xs H Q => ∃ p ys, xs = [.ref p] ∧ (SqL K H p ys ∨ SqT K H p ys) ∧ ∀ l, H l = none → Q (.ref l) (upd H l (.lst ys))
theorem xc_list : CallR X (.type "list") (rListOf X.K) := call_list_of
theorem r_listL (s : SqL K H a xs) (h : ∀ l, H l = none → Q (.ref l) (upd H l (.lst xs))) : rListOf K [.ref a] H Q := ⟨a, xs, rfl, .inl s, h⟩
def rIsN : R2 := fun x y H Q => y = .non ∧ Q (.bl (decide (x = .non))) H
theorem xo_isN : OpR X (compareOp .Is) rIsN := op_isN
theorem r_isNN (h : Q (.bl true) H) : rIsN .non .non H Q := ⟨rfl, h⟩
theorem r_isN {v : V} (n : v ≠ .non) (h : Q (.bl false) H) : rIsN v .non H Q := ⟨rfl, by rw [decide_eq_false n]; exact h⟩
theorem r_isNR {p : Addr} (h : Q (.bl false) H) : rIsN (.ref p) .non H Q := r_isN (fun z => nomatch z) h
def rNotN : R2 := fun x y H Q => y = .non ∧ Q (.bl (!decide (x = .non))) H
theorem xo_notN : OpR X (compareOp .IsNot) rNotN := op_notN
def rAddS : R2 := fun x y H Q => ∃ i j, x = .str i ∧ y = .str j ∧ i.length + j.length ≤ sizeLine ∧ Q (.str (i ++ j)) H
theorem xo_addS : OpR X (binaryOp .Add) rAddS := op_add_str
theorem r_addS (z : x.length + y.length ≤ sizeLine) (h : Q (.str (x ++ y)) H) : rAddS (.str x) (.str y) H Q := ⟨x, y, rfl, rfl, z, h⟩
def rInS : R2 := fun x y H Q => ∃ (c : Nat) (z : Str), x = .str ⟨#[c]⟩ ∧ y = .str z ∧ Q (.bl (decide (c ∈ z.cps.toList))) H
theorem xo_inS : OpR X (compareOp .In) rInS := op_in_sign
def rNotInS : R2 := fun x y H Q => ∃ (c : Nat) (z : Str), x = .str ⟨#[c]⟩ ∧ y = .str z ∧ Q (.bl (!decide (c ∈ z.cps.toList))) H
theorem xo_notInS : OpR X (compareOp .NotIn) rNotInS := op_notIn_sign
end
end Ax

/-! ### comprehensions and loops -/
namespace Ax
open PySem L2
section
variable {K : PySem.W.Frag} {H H1 : Hp} {σ : L2.St} {Q : VK} {g : TG} {tt : TT} {te : TE} {tb : TS} {ta : TA} {tl : TE} {wi : TI} {vs : List Nat} {R : It → Hp → Prop} {D : Ends} {a : Addr} {xs : List V}
def LcG (J : It) (g : TG) (tt : TT) (te : TE) (vs : List Nat) (σ : L2.St) (H1 : Hp) (Q : VK) : Prop := ∀ D, H1 D = none → ∃ W : Nat → Nat → Hp → Prop, (∃ m, W 0 m (upd H1 D (.lst []))) ∧ ∀ i m H, W i m H →
  (J.stop i H ∧ Q (.ref D) H) ∨ (J.go i H ∧ ∃ Nx : Hp → Prop, (∀ H', Nx H' → ∃ m', m' < m ∧ W (i + 1) m' H') ∧ ∀ x H', J.yld i H x H' → g x (wipe σ vs) H' fun σ2 H2 => wipe σ2 vs = wipe σ vs ∧ tt σ2 H2 fun b H3 =>
    if b = true then te σ2 H3 fun y H4 => ∃ acc, H4 D = some (.lst acc) ∧ acc.length < sizeLine ∧ Nx (upd H4 D (.lst (acc ++ [y]))) else Nx H3)
theorem r_lc (h : wi σ H fun J H1 => LcG J g tt te vs σ H1 Q) : tLc wi g tt te vs σ H Q := h
def ForG (J : It) (g : TG) (tb : TS) (D : Ends) (σ : L2.St) (H1 : Hp) : Prop := ∃ W : Nat → Nat → L2.St → Hp → Prop, (∃ m, W 0 m σ H1) ∧ ∀ i m σ H, W i m σ H →
  (J.stop i H ∧ D.nx σ H) ∨ (J.go i H ∧ ∃ N : L2.St → Hp → Prop, (∀ σ' H', N σ' H' → ∃ m', m' < m ∧ W (i + 1) m' σ' H') ∧ ∀ x H', J.yld i H x H' → g x σ H' fun σ2 H2 => tb { D with nx := N, ct := N, bk := D.nx } σ2 H2)
theorem r_for (h : wi σ H fun J H1 => ForG J g tb D σ H1) : tFor wi g tb D σ H := h
def Rn1 (vs : List V) (R : It → Hp → Prop) (H1 : Hp) : Prop := ∃ j : Int, vs = [.int j] ∧ -(2 ^ 62) ≤ j ∧ j < 2 ^ 62 ∧ R (Itr 0 j.toNat) H1
theorem r_iR1 (h : ta σ H fun vs H1 => Rn1 vs R H1) : iRng1 ta σ H R := h
theorem r_rn1 {j : Int} (b : -(2 ^ 62) ≤ j ∧ j < 2 ^ 62) (h : R (Itr 0 j.toNat) H1) : Rn1 [.int j] R H1 := ⟨j, rfl, b.1, b.2, h⟩
def Rn2 (vs : List V) (R : It → Hp → Prop) (H1 : Hp) : Prop := ∃ i j : Int, vs = [.int i, .int j] ∧ (-(2 ^ 62) ≤ i ∧ i < 2 ^ 62 ∧ -(2 ^ 62) ≤ j ∧ j < 2 ^ 62) ∧ R (Itr i (j - i).toNat) H1
theorem r_iR2 (h : ta σ H fun vs H1 => Rn2 vs R H1) : iRng2 ta σ H R := h
theorem r_rn2 {i j : Int} (b : -(2 ^ 62) ≤ i ∧ i < 2 ^ 62 ∧ -(2 ^ 62) ≤ j ∧ j < 2 ^ 62) (h : R (Itr i (j - i).toNat) H1) : Rn2 [.int i, .int j] R H1 := ⟨i, j, rfl, b, h⟩
def Il (K : PySem.W.Frag) (x : V) (R : It → Hp → Prop) (H1 : Hp) : Prop := ∃ a, x = .ref a ∧ (∃ xs, SqL K H1 a xs) ∧ R (Itl K a) H1
theorem r_iL (h : tl σ H fun x H1 => Il K x R H1) : iList K tl σ H R := h
theorem r_il (s : SqL K H1 a xs) (h : R (Itl K a) H1) : Il K (.ref a) R H1 := ⟨a, rfl, ⟨xs, s⟩, h⟩
def Itp (K : PySem.W.Frag) (x : V) (R : It → Hp → Prop) (H1 : Hp) : Prop := ∃ a, x = .ref a ∧ (∃ xs, SqT K H1 a xs) ∧ R (Itt K a) H1
theorem r_iT (h : tl σ H fun x H1 => Itp K x R H1) : iTup K tl σ H R := h
theorem r_it (s : SqT K H1 a xs) (h : R (Itt K a) H1) : Itp K (.ref a) R H1 := ⟨a, rfl, ⟨xs, s⟩, h⟩
theorem r_yes {Q : Bool → Hp → Prop} (h : Q true H) : tYes σ H Q := h
theorem wipe_one (σ : L2.St) (ix : Nat) (v : V) : wipe ((wipe σ [ix]).set ix (some v)) [ix] = wipe σ [ix] := by
  show (((σ.set ix none).set ix (some v)).set ix none) = σ.set ix none
  rw [List.set_set, List.set_set]
/-- [f x for x in xs if p x] over what yields the items ys one by one, the heap growing within -/
theorem lc_core' {J : It} {n : Nat} {G : Hp → Prop} {Y : Nat → V} (w : Walk J n G fun i H x H' => H' = H ∧ x = Y i) {ix : Nat} {p : Nat → Bool} {f : Nat → V} (hz : n ≤ 1000000) (hG : ∀ H', Same H1 H' → G H')
    (ht : ∀ i H2 (Qt : Bool → Hp → Prop), i < n → Same H1 H2 → (∀ H3, Same H2 H3 → Qt (p i) H3) → tt ((wipe σ [ix]).set ix (some (Y i))) H2 Qt)
    (he : ∀ i H2 (Q' : VK), i < n → p i = true → Same H1 H2 → (∀ H3, Same H2 H3 → Q' (f i) H3) → te ((wipe σ [ix]).set ix (some (Y i))) H2 Q')
    (hd : ∀ D H', Same H1 H' → H1 D = none → H' D = some (.lst (((List.range n).filter p).map f)) → Q (.ref D) H') : LcG J (gName ix) tt te [ix] σ H1 Q := by
  intro D nD
  refine lc_it w (fun i H' => Same H1 H' ∧ H' D = some (.lst (((List.range i).filter p).map f))) ⟨same_new nD, upd_same⟩ (fun i H' _ q => hG H' q.1) ?_ (fun H' q => hd D H' q.1 nD q.2)
  rintro i x H2 H2' hi ⟨sm, hD⟩ ⟨rfl, rfl⟩
  refine ⟨wipe_one σ ix _, ht i H2' _ hi sm fun H3 s3 => ?_⟩
  cases hp : p i with
  | true =>
    refine r_t (he i H3 _ hi hp (sm.trans s3) fun H4 s4 => ?_)
    refine ⟨_, s4 _ _ (s3 _ _ hD), ?_, fun b u e => ?_, ?_⟩
    · rw [List.length_map, sizeLine_eq]
      have l1 := List.length_filter_le p (List.range i)
      rw [List.length_range] at l1
      omega
    · rw [upd_ne (ne_of_none e nD)]
      exact s4 _ _ (s3 _ _ (sm _ _ e))
    · rw [upd_same, List.range_succ, List.filter_append, List.map_append]
      simp [hp]
  | false =>
    refine r_f ⟨sm.trans s3, ?_⟩
    rw [s3 _ _ hD, List.range_succ, List.filter_append]
    simp [hp]
theorem walk_listY {ys : List V} {a : Addr} : Walk (Itl K a) ys.length (fun H => SqL K H a ys) (fun i H x H' => H' = H ∧ x = ys.getD i .non) :=
  walk_list.mono (fun _ h => h) fun i H x H' hi _ y => ⟨y.1, by
    have e := y.2
    rw [List.getD_eq_getElem?_getD, e]
    rfl⟩
theorem walk_tupY {ys : List V} {a : Addr} : Walk (Itt K a) ys.length (fun H => SqT K H a ys) (fun i H x H' => H' = H ∧ x = ys.getD i .non) :=
  walk_tup.mono (fun _ h => h) fun i H x H' hi _ y => ⟨y.1, by
    have e := y.2
    rw [List.getD_eq_getElem?_getD, e]
    rfl⟩
/-- over range(lo, lo + n) -/
theorem lc_rng {lo : Int} {n ix : Nat} {p : Nat → Bool} {f : Nat → V} (hz : n ≤ 1000000)
    (ht : ∀ i H2 (Qt : Bool → Hp → Prop), i < n → Same H1 H2 → (∀ H3, Same H2 H3 → Qt (p i) H3) → tt ((wipe σ [ix]).set ix (some (.int (lo + i)))) H2 Qt)
    (he : ∀ i H2 (Q' : VK), i < n → p i = true → Same H1 H2 → (∀ H3, Same H2 H3 → Q' (f i) H3) → te ((wipe σ [ix]).set ix (some (.int (lo + i)))) H2 Q')
    (hd : ∀ D H', Same H1 H' → H1 D = none → H' D = some (.lst (((List.range n).filter p).map f)) → Q (.ref D) H') : LcG (Itr lo n) (gName ix) tt te [ix] σ H1 Q :=
  lc_core' (Y := fun i => .int (lo + i)) (walk_range.mono (fun _ h => h) fun _ _ _ _ _ _ y => y) hz (fun _ _ => trivial) ht he hd
theorem filter_yes {α : Type} (l : List α) : l.filter (fun _ => true) = l := by simp
/-- the same, without a test -/
theorem lc_rngM {lo : Int} {n ix : Nat} {f : Nat → V} (hz : n ≤ 1000000)
    (he : ∀ i H2 (Q' : VK), i < n → Same H1 H2 → (∀ H3, Same H2 H3 → Q' (f i) H3) → te ((wipe σ [ix]).set ix (some (.int (lo + i)))) H2 Q')
    (hd : ∀ D H', Same H1 H' → H1 D = none → H' D = some (.lst ((List.range n).map f)) → Q (.ref D) H') : LcG (Itr lo n) (gName ix) tYes te [ix] σ H1 Q :=
  lc_rng (p := fun _ => true) hz (fun _ _ _ _ _ q => q _ (Same.refl _)) (fun i H2 Q' hi _ => he i H2 Q' hi) fun D H' s n e => hd D H' s n (by rw [filter_yes] at e; exact e)
theorem range_getD (ns : List Int) (f : Int → V) (p : Int → Bool) : ((List.range ns.length).filter (fun i => p (ns.getD i 0))).map (fun i => f (ns.getD i 0)) = (ns.filter p).map f := by
  have e : (List.range ns.length).map (fun i => ns.getD i 0) = ns := by
    apply List.ext_getElem
    · simp
    · intro i h1 h2
      simp only [List.getElem_map, List.getElem_range]
      rw [List.getD_eq_getElem?_getD, List.getElem?_eq_getElem h2]
      rfl
  have e2 : ((List.range ns.length).filter (fun i => p (ns.getD i 0))).map (fun i => ns.getD i 0) = ns.filter p := by
    have := List.filter_map (f := fun i => ns.getD i 0) (p := p) (l := List.range ns.length)
    rw [e] at this
    exact this.symm
  rw [← e2, List.map_map]
  rfl
/-- over a list of whole numbers -/
theorem lc_ints {ns : List Int} {ix : Nat} {p : Int → Bool} {f : Int → V} (hz : ns.length ≤ 1000000) (hs : SqL K H1 a (ns.map V.int))
    (ht : ∀ i H2 (Qt : Bool → Hp → Prop), i ∈ ns → Same H1 H2 → (∀ H3, Same H2 H3 → Qt (p i) H3) → tt ((wipe σ [ix]).set ix (some (.int i))) H2 Qt)
    (he : ∀ i H2 (Q' : VK), i ∈ ns → p i = true → Same H1 H2 → (∀ H3, Same H2 H3 → Q' (f i) H3) → te ((wipe σ [ix]).set ix (some (.int i))) H2 Q')
    (hd : ∀ D H', Same H1 H' → H1 D = none → H' D = some (.lst ((ns.filter p).map f)) → Q (.ref D) H') : LcG (Itl K a) (gName ix) tt te [ix] σ H1 Q := by
  have gd : ∀ i, i < ns.length → (ns.map V.int).getD i .non = .int (ns.getD i 0) ∧ ns.getD i 0 ∈ ns := fun i hi => by
    have hm : ns.getD i 0 ∈ ns := by
      rw [List.getD_eq_getElem?_getD, List.getElem?_eq_getElem hi]
      exact List.getElem_mem hi
    refine ⟨?_, hm⟩
    rw [List.getD_eq_getElem?_getD, List.getD_eq_getElem?_getD, List.getElem?_map, List.getElem?_eq_getElem hi]
    rfl
  have w := walk_listY (K := K) (ys := ns.map V.int) (a := a)
  rw [List.length_map] at w
  refine lc_core' (n := ns.length) (Y := fun i => .int (ns.getD i 0)) (p := fun i => p (ns.getD i 0)) (f := fun i => f (ns.getD i 0)) (w.mono (fun _ h => h) fun i H x H' hi _ y => ⟨y.1, by rw [y.2]; exact (gd i hi).1⟩) hz (fun _ s => Same.seq s hs)
    (fun i H2 Qt hi => ht _ H2 Qt (gd i hi).2) (fun i H2 Q' hi => he _ H2 Q' (gd i hi).2) fun D H' s n e => hd D H' s n ?_
  rw [range_getD] at e
  exact e
theorem lc_intsM {ns : List Int} {ix : Nat} {f : Int → V} (hz : ns.length ≤ 1000000) (hs : SqL K H1 a (ns.map V.int))
    (he : ∀ i H2 (Q' : VK), i ∈ ns → Same H1 H2 → (∀ H3, Same H2 H3 → Q' (f i) H3) → te ((wipe σ [ix]).set ix (some (.int i))) H2 Q')
    (hd : ∀ D H', Same H1 H' → H1 D = none → H' D = some (.lst (ns.map f)) → Q (.ref D) H') : LcG (Itl K a) (gName ix) tYes te [ix] σ H1 Q :=
  lc_ints (p := fun _ => true) hz hs (fun _ _ _ _ _ q => q _ (Same.refl _)) (fun i H2 Q' hi _ => he i H2 Q' hi) fun D H' s n e => hd D H' s n (by rw [filter_yes] at e; exact e)
end
/-- range, step: what most functions check first; what follows if one is none -/
def errRS (K : PySem.W.Frag) (H : Hp) (x y : V) (cR cS : Addr) (E : XK) : Prop :=
  (NotRg K H x ∧ E (.ref cR) none H) ∨ ((∃ lo hi, IsRg K H x lo hi) ∧ NotStep K H y ∧ ∀ H', Same H H' → E (.ref cS) none H')
end Ax

/-! ### numbers of marks -/
namespace Ax
theorem cnt_nonneg (lo hi st : Int) (r : Rg lo hi) (h : 1 ≤ st) : 0 ≤ cnt lo hi st := by
  unfold cnt
  have e : (lo - 1) / st ≤ hi / st := Int.ediv_le_ediv (by omega) (by have := r.2.1; omega)
  omega
end Ax

/-! ### an exception that a suite hands on -/
namespace Ax
open PySem PySem.Spec PyProof.Rows L2
/-- the exception object of the class cls stands at a -/
def Kept (cls : Value) (a : Addr) : HO := .ext fun h => ∃ (oe : Obj) (vs : Array Value), h.get? a = some oe ∧ Zc cls none oe ∧ oe.data = .fields vs
theorem inv_keep {X : Cx} {pins : List (Addr × Obj)} {σ : L2.St} {H : Hp} {s : Shared} {a : Addr} {oe : Obj} {vs : Array Value} {cls : Value} (I : Inv X pins σ H s) (ga : s.heap.get? a = some oe) (zc : Zc cls none oe) (dt : oe.data = .fields vs)
    (na : H a = none) (n0 : X.s_0.heap.get? a = none) (nl : a ≠ X.env.locals) (np : ∀ p ∈ X.pn ++ pins, p.1 ≠ a) : Inv X pins σ (upd H a (Kept cls a)) s := by
  have ne0 : ∀ b o, X.s_0.heap.get? b = some o → b ≠ a := fun b o e z => by
    subst z
    rw [n0] at e
    cases e
  have neH : ∀ b o, H b = some o → b ≠ a := fun b o e => ne_of_none e na
  have neC : ∀ x c, X.env.cells.lookup x = some c → c ≠ a := fun x c e z => by
    subst z
    obtain ⟨v, o, g, d⟩ := I.cell x c e
    rw [ga] at g
    cases g
    rw [dt] at d
    cases d
  refine ⟨I.ok, I.os, I.bare, ⟨I.base.keep, I.base.slot, ?_, I.base.there, ?_, ?_, ?_⟩, I.loc, I.cell, ?_, ?_, ?_, ?_, I.len⟩
  · intro b o e n hx
    rw [upd_ne (ne0 b o e)]
    exact I.base.free b o e n hx
  · intro b xs e
    have q := I.base.tups b xs e
    rw [upd_ne (neH b _ q)]
    exact q
  · intro b o u e
    have q := I.base.frzs b o u e
    rw [upd_ne (neH b _ q)]
    exact q
  · intro b ps e
    obtain ⟨more, q⟩ := I.base.tbls b ps e
    exact ⟨more, by rw [upd_ne (neH b _ q)]; exact q⟩
  · rw [upd_ne nl.symm]
    exact I.free
  · intro x c e
    rw [upd_ne (neC x c e)]
    exact I.freeC x c e
  · intro p hp
    obtain ⟨q1, q2, q3⟩ := I.pin p hp
    exact ⟨q1, by rw [upd_ne (np p hp)]; exact q2, q3⟩
  · intro b u e
    by_cases hb : b = a
    · subst hb
      rw [upd_same] at e
      cases e
      exact ⟨⟨oe, vs, ga, zc, dt⟩, ⟨oe, ga⟩, fun _ _ ⟨o, v, g, r⟩ k => ⟨o, v, k o g, r⟩⟩
    · rw [upd_ne hb] at e
      exact (I.hok b u e).stay (fun _ _ _ q => q) (fun c q => by rw [upd_ne (neH c _ q)]; exact q) fun c xs q => by rw [upd_ne (neH c _ q)]; exact q
/-- what the clause wishes of an exception: it is the clause's, and the suite hands on -/
def wKeep (K : PySem.W.Frag) (c : Value) (i : Nat) (ts : TS) (D : Ends) : WX := fun cls d σ H => d = none ∧ PySem.W.exmOne K cls c = some true ∧
  ∀ a, H a = none → ts { nx := fun σ' H' => H' a = none → D.nx (σ'.set i none) (upd H' a (Kept cls a)), rt := fun _ _ => False } (σ.set i (some (.ref a))) H
def tTry (K : PySem.W.Frag) (c : Value) (i : Nat) (ts : TS) (tb : WX → TS) : TS := fun D σ H => tb (wKeep K c i ts D) D σ H
section
variable {X : Cx} {x n : Str} {c : Value} {i : Nat} {body suite : List Stmt} {first : Stmt} {np hp tp : Pos} {tb : WX → TS} {ts : TS}
theorem ps_try_keep (sk : X.stack = X.env :: X.outer) (fr : X.env.frame = some X.env.locals) (ex : X.ex = []) (nd : X.N.Nodup) (ix : X.N[i]? = some n) (lc : X.env.kindOf n = some .local) (nm : Names X x c)
    (run : ∀ (W : WX) (pn : List (Addr × Obj)) (xe : Value → Shared → Prop), Takes (X.tr pn xe) W → PassesOwn (model X.prog X.w) X.A X.env xe → PSs (X.tr pn xe) body (tb W))
    (after : ∀ (a : Addr) (oe : Obj) (cls : Value) (d : Option Addr) (pn : List (Addr × Obj)), Zc cls d oe → (∃ vs, oe.data = .fields vs) → PSs (X.suite a ((a, oe) :: pn)) (first :: suite) ts) :
    PS X (.Try body [.ExceptHandler (some (.Name x np)) (some n) (first :: suite) hp] [] [] tp) (tTry X.K c i ts tb) := by
  constructor
  intro pins s σ H D I h
  have ok := I.ok
  have frames : X.A.frames = some (X.env :: X.outer) := ok.frames.trans (congrArg some sk)
  have onLocal : Loc X.env.scope n := Or.inl lc
  apply wpAny_Try_except
  let catch_ : Value → Shared → Prop := fun e s₁ => wpAny (model X.prog X.w) X.A (noteFrame e X.env) (fun _ s₂ => wpAny (model X.prog X.w) X.A (setFlight e none)
    (fun _ s₃ => wpAny (model X.prog X.w) X.A (handleBy e X.env [.ExceptHandler (some (.Name x np)) (some n) (first :: suite) hp]) (SP X pins D) X.xe s₃) X.xe s₂) X.xe s₁
  have takes : Takes (X.tr (X.pn ++ pins) catch_) (wKeep X.K c i ts D) := by
    rintro u sC ⟨a, B, s0, pins0, σ0, H0, cls, d, rfl, J0, ground, slots, sky, na, os, bare, dn, mt, go⟩
    subst dn
    have J : Inv X pins σ0 H0 s0 := J0.ofTry ok
    have sky2 : Sky B (X.env :: X.outer) a (Zc cls none) X.env.locals sC.heap := sk ▸ sky
    refine Sky.land Zc.steady frames fr sky2 fun h1 f1 u1 => ?_
    have J1 : Inv X pins σ0 H0 { sC with heap := h1 } := J.landed ground f1.1 (slots.trans u1) os bare
    obtain ⟨o1, v1, g1, z1, d1⟩ := f1.there
    have outside : a ∉ frs (X.env :: X.outer) := fun hm => by
      obtain ⟨_, oF, gF, nF⟩ := f1.2.2.1.mem hm
      rw [g1] at gF
      cases gF
      exact nF _ d1
    have nl : a ≠ X.env.locals := fun z => outside (List.mem_filterMap.mpr ⟨X.env, List.mem_cons_self, by rw [fr, z]⟩)
    have nf : a ∉ X.fs := fun hm => by
      obtain ⟨e, he, q⟩ := List.mem_filterMap.mp hm
      exact outside (List.mem_filterMap.mpr ⟨e, List.mem_cons_of_mem _ he, q⟩)
    have S1 := J1.suite g1 d1 na nl nf
    -- the exception is younger than the entry, and no pin's
    have gone : s0.heap.get? a = none := by
      cases q : s0.heap.get? a with
      | none => rfl
      | some o =>
        have z := ground a o q (by rw [sk]; exact outside)
        rw [f1.2.1] at z
        cases z
    have n0 : X.s_0.heap.get? a = none := by
      cases q : X.s_0.heap.get? a with
      | none => rfl
      | some o =>
        obtain ⟨o', z⟩ := J.base.there a o q (by rw [ex]; exact List.not_mem_nil)
        rw [gone] at z
        cases z
    have np' : ∀ p ∈ X.pn ++ pins, p.1 ≠ a := fun p hp z => by
      have q := (J.pin p hp).1
      rw [z, gone] at q
      cases q
    refine wpAny_handleBy_cons (codeAny_handlers_test ?_) (by intro q; cases q)
    have LT : PySem.W.Looks (model X.prog X.w) h1 (typeOf (.ref a)) cls := fun A Q E s k q => wpAny_typeOf_ref (k _ _ g1) (z1.1.symm ▸ q)
    have LM := PySem.W.exm_one (M := model X.prog X.w) J1.kIn LT mt
    have asks : ∀ {Q E : Value → Shared → Prop}, Q c { sC with heap := h1 } → wpAny (model X.prog X.w) (X.A.mark (some (.ref a))) (eval (.Name x np) X.env) Q E { sC with heap := h1 } := by
      intro Q E q
      rcases nm with ⟨hg, hdb, hm | ⟨hm, hv, hn⟩⟩
      · exact ld_glob (X := X.suite a ((a, o1) :: (X.pn ++ pins))) S1 hg hm q hdb
      · exact ld_blt (X := X.suite a ((a, o1) :: (X.pn ++ pins))) S1 hg hm hv q hn hdb
    refine asks (LM.here (codeAny_handlers_suite_as ?_))
    refine HandSPX.lands_againZ f1 fun h2 f2 u2 => ?_
    have J2 : Inv X pins σ0 H0 { sC with heap := h2 } := J.landed ground f2.1 ((slots.trans u1).trans u2) os bare
    obtain ⟨o2, v2, g2, z2, d2⟩ := f2.there
    have S2 := J2.suite g2 d2 na nl nf
    refine store_ok (X := X.suite a ((a, o2) :: (X.pn ++ pins))) (v := .ref a) S2 nd ix onLocal rfl (fun s3 S3 => ?_) (.inr lc)
    refine wpAny_mono ((after a o2 cls none (X.pn ++ pins) z2 ⟨_, d2⟩).run [] s3 _ H0 _ S3 (go a na)) (fun f s4 out => ?_) (fun _ _ z => False.elim z)
    cases f with
    | next =>
      obtain ⟨σ4, H4, S4, q4⟩ := out
      have pinned := S4.pin (a, o2) (List.mem_append.mpr (.inl List.mem_cons_self))
      have K4 := inv_keep (S4.unsuite ok) pinned.1 z2 d2 pinned.2.1 n0 nl np'
      exact gone_ok K4 nd ix lc fun s5 J5 => ⟨_, _, J5, q4 pinned.2.1⟩
    | brk =>
      obtain ⟨_, _, _, q⟩ := out
      exact False.elim q
    | cont =>
      obtain ⟨_, _, _, q⟩ := out
      exact False.elim q
    | ret v =>
      obtain ⟨_, _, _, _, _, q⟩ := out
      exact False.elim q
  refine wpAny_mono ((run (wKeep X.K c i ts D) (X.pn ++ pins) catch_ takes PassesOwn.looking).run [] s σ H D (I.toTry _) h) (fun f s1 out => ?_) (fun _ _ z => z)
  cases f with
  | next =>
    obtain ⟨σ1, H1, J, q⟩ := out
    exact wpAny_execs_nil ⟨σ1, H1, J.ofTry ok, q⟩
  | brk =>
    obtain ⟨σ1, H1, J, q⟩ := out
    exact ⟨σ1, H1, J.ofTry ok, q⟩
  | cont =>
    obtain ⟨σ1, H1, J, q⟩ := out
    exact ⟨σ1, H1, J.ofTry ok, q⟩
  | ret v =>
    obtain ⟨y, σ1, H1, J, r, q⟩ := out
    exact ⟨y, σ1, H1, J.ofTry ok, r, q⟩
theorem r_try {K : PySem.W.Frag} {D : Ends} {σ : L2.St} {H : Hp} (h : tb (wKeep K c i ts D) D σ H) : tTry K c i ts tb D σ H := h
theorem r_seqTry {K : PySem.W.Frag} {u : TS} {D : Ends} {σ : L2.St} {H : Hp} (h : tb (wKeep K c i ts { D with nx := u D }) { D with nx := u D } σ H) : tSeq (tTry K c i ts tb) u D σ H := h
/-- the suite is caught = e -/
theorem r_keep1 {K : PySem.W.Frag} {j : Nat} {D : Ends} {σ : L2.St} {H : Hp} {cls : Value} (m : PySem.W.exmOne K cls c = some true) (e : ∀ a : Addr, (σ.set i (some (.ref a)))[i]? = some (some (.ref a)))
    (h : ∀ a, H a = none → D.nx (((σ.set i (some (.ref a))).set j (some (.ref a))).set i none) (upd H a (Kept cls a))) : wKeep K c i (tAsg (tVar i) (gName j)) D cls none σ H :=
  ⟨rfl, m, fun a na => ⟨.ref a, e a, fun z => h a z⟩⟩
/-- isinstance(e, C), e a kept exception; and of every other value -/
def rIsA (K : PySem.W.Frag) : List V → Hp → VK → Prop := fun xs H Q => rIsi K xs H Q ∨ ∃ (a D : Addr) (c : V) (cv : Value) (b : Bool), xs = [.ref a, c] ∧ H a = some (Kept (.ref D) a) ∧ ExcC K D ∧ ClsV c cv ∧ PySem.W.kitOne K (.ref D) cv = some b ∧ Q (.bl b) H
theorem call_isA : CallR X (.builtin "isinstance") (rIsA X.K) := by
  intro pins s σ H xs us Q I r h
  rcases h with h | ⟨a, D, c, cv, b, rfl, ha, C, kc, e, q⟩
  · exact call_isi pins s σ H xs us Q I r h
  · obtain ⟨u1, u2, rfl, r1, r2⟩ := vals2 r
    cases (show u1 = Value.ref a from r1)
    have e2 := kc.eq r2
    subst e2
    obtain ⟨⟨oe, vs, g, z, d⟩, _⟩ := (show ObjOk X.prog X.w H s.heap a (Kept (.ref D) a) from I.hok a _ ha)
    have J : PySem.W.InstAt s.heap a oe D none := by
      obtain ⟨o1, o2, o3, o4⟩ := oe
      obtain ⟨y1, y2⟩ := z
      dsimp only at y1 y2 d
      subst y1 y2 d
      exact ⟨g, rfl, rfl, trivial⟩
    exact PySem.W.kia_one (PySem.W.handS_kitx_exc C.hg C.hk C.hs C.hd C.ha C.hn C.ht C.hm) I.kIn J e (fun q => nomatch q) fun tk => ⟨.bl b, H, I.kept (t' := tk) fun _ _ z => z, rfl, q⟩
theorem r_isA {K : PySem.W.Frag} {a D : Addr} {c : V} {cv : Value} {b : Bool} {H : Hp} {Q : VK} (ha : H a = some (Kept (.ref D) a)) (C : ExcC K D) (kc : ClsV c cv) (e : PySem.W.kitOne K (.ref D) cv = some b) (q : Q (.bl b) H) : rIsA K [.ref a, c] H Q :=
  .inr ⟨a, D, c, cv, b, rfl, ha, C, kc, e, q⟩
/-- list.count of flat things -/
def rCntV (K : PySem.W.Frag) : V → List V → Hp → VK → Prop := fun x vs H Q => ∃ (p : Addr) (ys : List V) (y : V), x = .ref p ∧ vs = [y] ∧ SqL K H p ys ∧ flatV y = true ∧ ys.all flatV = true ∧ Q (.int ((ys.countP fun z => eqV z y : Nat) : Int)) H
theorem count_eqU {y : V} : ∀ {ys : List V} {us : List Value}, Vals ys us → ys.all flatV = true → us.countP (eqU y) = ys.countP fun z => eqV z y
  | _, _, .nil, _ => rfl
  | z :: ys, u :: us, .cons r t, f => by
    rw [List.all_cons, Bool.and_eq_true] at f
    rw [List.countP_cons, List.countP_cons, count_eqU t f.2, eqU_of r f.1]
theorem xm_countV : MtR X "list.count" (rCntV X.K) := by
  intro pins s σ H x xs v us Q I rx rxs h
  obtain ⟨p, ys, y, rfl, rfl, hs, fy, fys, q⟩ := h
  cases (show v = Value.ref p from rx)
  obtain ⟨u, rfl, ru⟩ := rxs.one
  obtain ⟨its, rv, ⟨⟨o1, o2, o3, o4⟩, n, go, c1, c2, c3⟩, hlen⟩ := I.list hs
  simp only at c1 c3
  subst c1 c3
  refine call_meets PySem.F.slot_list_count ⟨_, go, rfl⟩ PySem.F.entry_list_count (PySem.F.args_list_count_2 _ _)
    (SeqAt.list_countAt p its.toArray n o2 o4 u (eqU y)) ⟨go, fun z hz => mem_eqAt ru fy rv fys z (by simpa using hz), ?_⟩
  have ec : its.toArray.toList.countP (eqU y) = ys.countP fun z => eqV z y := count_eqU rv fys
  rw [ec]
  exact ⟨.int ((ys.countP fun z => eqV z y : Nat) : Int), H, I.tok _, ⟨s.toks, rfl⟩, q⟩
end
end Ax

/-! ### data that is compared -/
namespace Ax
open PySem L2
section
variable {K : PySem.W.Frag} {H : Hp} {Q : VK} {a p : Addr} {xs : List V} {x y : V} {d e : PyData}
theorem dpa_ints : ∀ ns : List Int, DpAll K H (ns.map V.int) (ns.map PyData.int)
  | [] => .nil
  | i :: r => .cons (.int i) (dpa_ints r)
theorem dp_ints {ns : List Int} (s : SqL K H a (ns.map V.int)) : Dp K H (.ref a) (.list (ns.map PyData.int)) := .lst s (dpa_ints ns)
theorem eqv_same (s : SeqAt.shaped d = true) : PyData.eqv d d = true := SeqAt.eqv_refl d (SeqAt.canLay_of_shaped s)
theorem r_neD {b : Bool} (hx : Dp K H x d) (hy : Dp K H y e) (sx : SeqAt.shaped d = true) (sy : SeqAt.shaped e = true) (v : PyData.eqv d e = b) (h : Q (.bl (!b)) H) : rNeD K x y H Q := ⟨d, e, hx, hy, sx, sy, by rw [v]; exact h⟩
theorem r_eqD {b : Bool} (hx : Dp K H x d) (hy : Dp K H y e) (sx : SeqAt.shaped d = true) (sy : SeqAt.shaped e = true) (v : PyData.eqv d e = b) (h : Q (.bl b) H) : rEqD K x y H Q := ⟨d, e, hx, hy, sx, sy, by rw [v]; exact h⟩
/-- two values of one content -/
theorem r_neD1 (hx : Dp K H x d) (hy : Dp K H y d) (sx : SeqAt.shaped d = true) (h : Q (.bl false) H) : rNeD K x y H Q := r_neD hx hy sx sx (eqv_same sx) h
theorem r_eqD1 (hx : Dp K H x d) (hy : Dp K H y d) (sx : SeqAt.shaped d = true) (h : Q (.bl true) H) : rEqD K x y H Q := r_eqD hx hy sx sx (eqv_same sx) h
theorem eqv_ints : ∀ xs ys : List Int, PyData.eqvAll (xs.map PyData.int) (ys.map PyData.int) = decide (xs = ys)
  | [], [] => by simp [PyData.eqvAll]
  | [], _ :: _ => by simp [PyData.eqvAll]
  | _ :: _, [] => by simp [PyData.eqvAll]
  | x :: xs, y :: ys => by
    rw [List.map_cons, List.map_cons, PyData.eqvAll, eqv_ints xs ys]
    show ((x == y) && decide (xs = ys)) = decide (x :: xs = y :: ys)
    rw [Bool.beq_eq_decide_eq, Bool.eq_iff_iff]
    simp
theorem eqv_listI (xs ys : List Int) : PyData.eqv (.list (xs.map PyData.int)) (.list (ys.map PyData.int)) = decide (xs = ys) := by
  rw [PyData.eqv]
  exact eqv_ints xs ys
theorem eqv_nil (ns : List Int) : PyData.eqv (.list (ns.map PyData.int)) (.list []) = decide (ns = []) := by
  rw [← eqv_listI]
  rfl
theorem shp_ints (ns : List Int) : SeqAt.shaped (.list (ns.map PyData.int)) = true := PySem.W.ke_shaped_ints ns
end
section
variable {K : PySem.W.Frag} {H : Hp} {Q : VK} {a b : Addr} {xs ys : List Int}
theorem r_eqNil (s : SqL K H a (xs.map V.int)) (n : SqL K H b []) (h : Q (.bl (decide (xs = []))) H) : rEqD K (.ref a) (.ref b) H Q := r_eqD (dp_ints s) (.lst n .nil) (shp_ints xs) rfl (eqv_nil xs) h
theorem r_neNil (s : SqL K H a (xs.map V.int)) (n : SqL K H b []) (h : Q (.bl (!decide (xs = []))) H) : rNeD K (.ref a) (.ref b) H Q := r_neD (dp_ints s) (.lst n .nil) (shp_ints xs) rfl (eqv_nil xs) h
theorem r_eqInts (s : SqL K H a (xs.map V.int)) (t : SqL K H b (ys.map V.int)) (h : Q (.bl (decide (xs = ys))) H) : rEqD K (.ref a) (.ref b) H Q := r_eqD (dp_ints s) (dp_ints t) (shp_ints xs) (shp_ints ys) (eqv_listI xs ys) h
theorem r_neInts (s : SqL K H a (xs.map V.int)) (t : SqL K H b (ys.map V.int)) (h : Q (.bl (!decide (xs = ys))) H) : rNeD K (.ref a) (.ref b) H Q := r_neD (dp_ints s) (dp_ints t) (shp_ints xs) (shp_ints ys) (eqv_listI xs ys) h
end
/-! ### the state of the draws: a list of numbers at n, held with a counter by the list at d -/
section
variable {K : PySem.W.Frag} {H H1 H' : Hp} {d n a p : Addr} {o : HO} {xs : List V} {v : V} {Q : VK}
def Dr (H : Hp) (d n : Addr) : Prop := ∃ (ns : List Int) (c : Int), H d = some (.lst [.ref n, .int c]) ∧ H n = some (.lst (ns.map V.int)) ∧ 0 < ns.length ∧ ns.length ≤ 1000
def Kp (d n : Addr) (H H' : Hp) : Prop := ∀ b o, H b = some o → b ≠ d → b ≠ n → H' b = some o
def Of (d n a : Addr) : Prop := a ≠ d ∧ a ≠ n
theorem Dr.ne (h : Dr H d n) : n ≠ d := by
  obtain ⟨ns, c, e1, e2, h1, _⟩ := h
  refine ne_of e2 e1 fun z => ?_
  cases ns with
  | nil => simp at h1
  | cons x r =>
    have q : (x :: r).map V.int = [V.ref n, .int c] := by
      injection z
    rw [List.map_cons] at q
    cases q
theorem Dr.same (s : Same H H') (h : Dr H d n) : Dr H' d n := by
  obtain ⟨ns, c, e1, e2, h1, h2⟩ := h
  exact ⟨ns, c, s _ _ e1, s _ _ e2, h1, h2⟩
theorem Dr.updn (np : H p = none) (h : Dr H d n) : Dr (upd H p o) d n := h.same (same_new np)
theorem Dr.off (h : Dr H d n) (np : H p = none) : Of d n p := by
  obtain ⟨ns, c, e1, e2, _⟩ := h
  exact ⟨(ne_of_none e1 np).symm, (ne_of_none e2 np).symm⟩
theorem Kp.of (s : Same H H') : Kp d n H H' := fun b o e _ _ => s b o e
theorem Kp.refl (H : Hp) : Kp d n H H := fun _ _ e _ _ => e
theorem Kp.trans (a : Kp d n H H1) (b : Kp d n H1 H') : Kp d n H H' := fun c o e h1 h2 => b c o (a c o e h1 h2) h1 h2
theorem Kp.at (k : Kp d n H H') (o' : Of d n a) (h : H a = some o) : H' a = some o := k a o h o'.1 o'.2
theorem Dr.lst (h : Dr H d n) : ∃ xs ys, H d = some (.lst xs) ∧ H n = some (.lst ys) := by
  obtain ⟨ns, c, e1, e2, _⟩ := h
  exact ⟨_, _, e1, e2⟩
theorem Kp.seqT (k : Kp d n H H') (r : Dr H d n) (h : SqT K H a xs) : SqT K H' a xs := by
  obtain ⟨ys, zs, e1, e2⟩ := r.lst
  have ne : ∀ u, H a = some u → (∀ ws, u ≠ .lst ws) → H' a = some u := fun u e z => k a u e (ne_of e e1 (z _)) (ne_of e e2 (z _))
  rcases h with (h | ⟨o, h⟩) | h
  · exact .inl (.inl (ne _ h fun _ z => by cases z))
  · exact .inl (.inr ⟨o, ne _ h fun _ z => by cases z⟩)
  · exact .inr h
theorem Kp.seqL (k : Kp d n H H') (o : Of d n a) (h : SqL K H a xs) : SqL K H' a xs := by
  rcases h with (h | ⟨u, h⟩) | h
  · exact .inl (.inl (k.at o h))
  · exact .inl (.inr ⟨u, k.at o h⟩)
  · exact .inr h
/-- a list of the script's kind: known to the object, or written: no draw changes it -/
theorem r_gsub {σ : L2.St} {to ti : TE} {t : TSet} {Q : L2.St → Hp → Prop} (h : to σ H fun o H1 => ti σ H1 fun i H2 => t o i v H2 fun H3 => Q σ H3) : gSub to ti t v σ H Q := h
theorem r_setL {k : Int} {j : Nat} {Q : Hp → Prop} (h : H p = some (.lst xs)) (e : ixN xs.length k = some j) (q : Q (upd H p (.lst (xs.set j v)))) : rSetL (.ref p) (.int k) v H Q := ⟨p, xs, k, j, rfl, rfl, h, e, q⟩
theorem r_seqAsgG {te : TE} {g : TG} {u : TS} {D : Ends} {σ : L2.St} (h : te σ H fun x H1 => g x σ H1 (u D)) : tSeq (tAsg te g) u D σ H := h
theorem ixN_ok {n : Nat} {i : Int} (h0 : 0 ≤ i) (h1 : i < n) : ixN n i = some i.toNat := by
  unfold ixN
  rw [if_pos h0, if_pos h1]
theorem atI_ok {α : Type} {xs : List α} {i : Int} {v : α} (h0 : 0 ≤ i) (h : xs[i.toNat]? = some v) : atI xs i = some v := by
  have h1 : i.toNat < xs.length := (List.getElem?_eq_some_iff.mp h).1
  unfold atI
  rw [ixN_ok h0 (by omega)]
  exact h
/-- a method of a list -/
def BmG (K : PySem.W.Frag) (T : String) (r : V → List V → Hp → VK → Prop) (t : TA) (σ : L2.St) (x : V) (H1 : Hp) (Q : VK) : Prop := tyV K T x H1 ∧ t σ H1 fun xs H2 => r x xs H2 Q
theorem r_bm {T : String} {r : V → List V → Hp → VK → Prop} {to : TE} {t : TA} {σ : L2.St} (h : to σ H fun x H1 => BmG K T r t σ x H1 Q) : tBM K T r to t σ H Q := h
theorem r_bmL {r : V → List V → Hp → VK → Prop} {t : TA} {σ : L2.St} (s : SqL K H p xs) (h : t σ H fun ys H2 => r (.ref p) ys H2 Q) : BmG K "list" r t σ (.ref p) H Q := ⟨.inl ⟨rfl, _, s⟩, h⟩
theorem r_append {l : Addr} {y : V} (h : H l = some (.lst xs)) (z : xs.length < sizeLine) (q : Q .non (upd H l (.lst (xs ++ [y])))) : rAppend (.ref l) [y] H Q := ⟨l, xs, y, rfl, rfl, h, z, q⟩
theorem r_cntV {y : V} (m : Nat) (s : SqL K H p xs) (fy : flatV y = true) (fs : xs.all flatV = true) (e : (xs.countP fun z => eqV z y) = m) (h : Q (.int (m : Int)) H) : rCntV K (.ref p) [y] H Q := ⟨p, xs, y, rfl, rfl, s, fy, fs, by rw [e]; exact h⟩
theorem r_index {y z : V} (j : Nat) (s : SqL K H p xs) (fy : flatV y = true) (fs : xs.all flatV = true) (e : xs[j]? = some z) (q : eqV z y = true) (no : ∀ (m : Nat) (z' : V), m < j → xs[m]? = some z' → eqV z' y = false) (h : Q (.int (j : Nat)) H) : rIndex K (.ref p) [y] H Q :=
  ⟨p, xs, y, j, z, rfl, rfl, s, fy, fs, e, q, no, h⟩
theorem mixed_bound (m : Int) (h0 : 0 ≤ m) (h1 : m < 4294967291) : m.natAbs < 2 ^ 64 := by omega
end
end Ax

namespace Ax
open PySem L2
section
variable {K : PySem.W.Frag} {H H1 H' : Hp} {σ : L2.St} {Q : VK} {p a : Addr} {xs : List V} {x y z : V} {D : Ends} {ta : TA} {i j l : Nat} {u : TS}
theorem r_gtup2 {Q : L2.St → Hp → Prop} (s : SqT K H p [x, y]) (h : Q ((σ.set i (some x)).set j (some y)) H) : gTup K 2 (gCons (gName i) (gCons (gName j) gNil)) (.ref p) σ H Q := ⟨p, _, rfl, s, rfl, x, _, rfl, y, _, rfl, rfl, h⟩
theorem r_gtup3 {Q : L2.St → Hp → Prop} (s : SqT K H p [x, y, z]) (h : Q (((σ.set i (some x)).set j (some y)).set l (some z)) H) : gTup K 3 (gCons (gName i) (gCons (gName j) (gCons (gName l) gNil))) (.ref p) σ H Q := ⟨p, _, rfl, s, rfl, x, _, rfl, y, _, rfl, z, _, rfl, rfl, h⟩
theorem r_notB {a b : Bool} (h : Q (.bl (!decide (a = b))) H) : rNotB (.bl a) (.bl b) H Q := ⟨a, b, rfl, rfl, h⟩
theorem r_isB {a b : Bool} (h : Q (.bl (decide (a = b))) H) : rIsB (.bl a) (.bl b) H Q := ⟨a, b, rfl, rfl, h⟩
theorem r_rep {k : Nat} (h : H p = some (.lst xs)) (e : xs.length * k ≤ 1000000) (k1 : k ≤ 1000000) (q : ∀ p, H p = none → Q (.ref p) (upd H p (.lst (List.replicate k xs).flatten))) : rRep (.ref p) (.int (k : Int)) H Q :=
  ⟨p, k, xs, rfl, rfl, h, by omega, by omega, by rw [Int.toNat_natCast, sizeLine_eq]; omega, by rw [Int.toNat_natCast]; exact q⟩
def ParG (i j : Nat) (vs : List V) (Q : L2.St → Hp → Prop) (σ : L2.St) (H1 : Hp) : Prop := ∃ v w, vs = [v, w] ∧ Q ((σ.set i (some v)).set j (some w)) H1
theorem r_parS (h : ta σ H fun vs H1 => ParG i j vs D.nx σ H1) : tPar i j ta D σ H := h
theorem r_seqPar (h : ta σ H fun vs H1 => ParG i j vs (u D) σ H1) : tSeq (tPar i j ta) u D σ H := h
theorem r_par {Q : L2.St → Hp → Prop} (h : Q ((σ.set i (some x)).set j (some y)) H) : ParG i j [x, y] Q σ H := ⟨x, y, rfl, h⟩
def ParG3 (i j l : Nat) (vs : List V) (Q : L2.St → Hp → Prop) (σ : L2.St) (H1 : Hp) : Prop := ∃ u v w, vs = [u, v, w] ∧ Q (((σ.set i (some u)).set j (some v)).set l (some w)) H1
theorem r_parS3 (h : ta σ H fun vs H1 => ParG3 i j l vs D.nx σ H1) : tPar3 i j l ta D σ H := h
theorem r_seqPar3 (h : ta σ H fun vs H1 => ParG3 i j l vs (u D) σ H1) : tSeq (tPar3 i j l ta) u D σ H := h
theorem r_par3 {Q : L2.St → Hp → Prop} (h : Q (((σ.set i (some x)).set j (some y)).set l (some z)) H) : ParG3 i j l [x, y, z] Q σ H := ⟨x, y, z, rfl, h⟩
/-- what stands behind a statement, told once: for all slots of the kind S and all grown heaps -/
theorem r_cut {t u : TS} (S : L2.St → Prop) (rest : ∀ σ' H', S σ' → Same H H' → u D σ' H') (h : (∀ σ' H', S σ' → Same H H' → u D σ' H') → t { D with nx := u D } σ H) : tSeq t u D σ H := h rest
theorem r_cut0 {t u : TS} (rest : ∀ H', Same H H' → u D σ H') (h : (∀ H', Same H H' → u D σ H') → t { D with nx := u D } σ H) : tSeq t u D σ H := h rest
theorem r_cutS (i : Nat) {t u : TS} (rest : ∀ y H', Same H H' → u D (σ.set i y) H') (h : (∀ y H', Same H H' → u D (σ.set i y) H') → t { D with nx := u D } σ H) : tSeq t u D σ H := h rest
mutual
theorem Dp.same (s : Same H H') : ∀ (d : PyData) (v : V), Dp K H v d → Dp K H' v d
  | .none, _, h => by cases h; exact .non
  | .bool _, _, h => by cases h; exact .bl _
  | .int _, _, h => by cases h; exact .int _
  | .str _, _, h => by cases h; exact .str _
  | .list ds, _, h => by
    cases h with
    | lst q r => exact .lst (Same.seq s q) (DpAll.same s ds _ r)
  | .tuple ds, _, h => by
    cases h with
    | tup q r => exact .tup (Same.seqT s q) (DpAll.same s ds _ r)
  | .dict _, _, h => by cases h
theorem DpAll.same (s : Same H H') : ∀ (ds : List PyData) (vs : List V), DpAll K H vs ds → DpAll K H' vs ds
  | [], _, h => by cases h; exact .nil
  | d :: ds, _, h => by
    cases h with
    | cons q r => exact .cons (Dp.same s d _ q) (DpAll.same s ds _ r)
end
theorem Dp.to {d : PyData} {v : V} (s : Same H H') (h : Dp K H v d) : Dp K H' v d := Dp.same s d v h
theorem DpAll.to {ds : List PyData} {vs : List V} (s : Same H H') (h : DpAll K H vs ds) : DpAll K H' vs ds := DpAll.same s ds vs h
theorem DpAll.app : ∀ {vs ws : List V} {ds es : List PyData}, DpAll K H vs ds → DpAll K H ws es → DpAll K H (vs ++ ws) (ds ++ es)
  | _, _, _, _, .nil, h => h
  | _, _, _, _, .cons q r, h => .cons q (DpAll.app r h)
theorem dpa_len : ∀ {vs : List V} {ds : List PyData}, DpAll K H vs ds → vs.length = ds.length
  | _, _, .nil => rfl
  | _, _, .cons _ r => by rw [List.length_cons, List.length_cons, dpa_len r]
mutual
def noList : PyData → Bool
  | .list _ => false
  | .dict _ => false
  | .tuple ds => noLists ds
  | _ => true
def noLists : List PyData → Bool
  | [] => true
  | d :: ds => noList d && noLists ds
end
mutual
theorem dp_tups (s : ∀ a xs, SqT K H a xs → SqT K H' a xs) : ∀ (d : PyData) (v : V), noList d = true → Dp K H v d → Dp K H' v d
  | .none, _, _, h => by cases h; exact .non
  | .bool _, _, _, h => by cases h; exact .bl _
  | .int _, _, _, h => by cases h; exact .int _
  | .str _, _, _, h => by cases h; exact .str _
  | .list ds, _, n, h => by
    rw [noList] at n
    cases n
  | .tuple ds, _, n, h => by
    rw [noList] at n
    cases h with
    | tup q r => exact .tup (s _ _ q) (dpa_tups s ds _ n r)
  | .dict _, _, _, h => by cases h
theorem dpa_tups (s : ∀ a xs, SqT K H a xs → SqT K H' a xs) : ∀ (ds : List PyData) (vs : List V), noLists ds = true → DpAll K H vs ds → DpAll K H' vs ds
  | [], _, _, h => by cases h; exact .nil
  | d :: ds, _, n, h => by
    rw [noLists, Bool.and_eq_true] at n
    cases h with
    | cons q r => exact .cons (dp_tups s d _ n.1 q) (dpa_tups s ds _ n.2 r)
end
theorem seqT_lst {ys zs : List V} (h : H p = some (.lst ys)) (s : SqT K H a xs) : SqT K (upd H p (.lst zs)) a xs := by
  have ne : ∀ u, H a = some u → (∀ ws, u ≠ .lst ws) → upd H p (.lst zs) a = some u := fun u e z => by
    rw [upd_ne (ne_of e h (z _))]
    exact e
  rcases s with (s | ⟨o, s⟩) | s
  · exact .inl (.inl (ne _ s fun _ z => by cases z))
  · exact .inl (.inr ⟨o, ne _ s fun _ z => by cases z⟩)
  · exact .inr s
/-- [e for x in ..], each of a known content (without lists) -/
theorem lc_coreD {J : It} {n : Nat} {G : Hp → Prop} {Y : Nat → V} (w : Walk J n G fun i H x H' => H' = H ∧ x = Y i) {ix : Nat} {te : TE} {f : Nat → PyData} (hz : n ≤ 1000000) (hn : ∀ i, i < n → noList (f i) = true) (hG : ∀ H', Same H1 H' → G H')
    (he : ∀ i H2 (Q' : VK), i < n → Same H1 H2 → (∀ v H3, Same H2 H3 → Dp K H3 v (f i) → Q' v H3) → te ((wipe σ [ix]).set ix (some (Y i))) H2 Q')
    (hd : ∀ D H' vs, Same H1 H' → H1 D = none → H' D = some (.lst vs) → DpAll K H' vs ((List.range n).map f) → Q (.ref D) H') : LcG J (gName ix) tYes te [ix] σ H1 Q := by
  intro D nD
  have nl : ∀ i, i ≤ n → noLists ((List.range i).map f) = true := by
    intro i
    induction i with
    | zero => intro _; rfl
    | succ i ih =>
      intro hi
      have ih := ih (by omega)
      rw [List.range_succ, List.map_append]
      have app : ∀ ds es : List PyData, noLists ds = true → noLists es = true → noLists (ds ++ es) = true := by
        intro ds
        induction ds with
        | nil => intro es _ h; exact h
        | cons d r ihr =>
          intro es h1 h2
          rw [noLists, Bool.and_eq_true] at h1
          show noLists (d :: (r ++ es)) = true
          rw [noLists, Bool.and_eq_true]
          exact ⟨h1.1, ihr es h1.2 h2⟩
      refine app _ _ ih ?_
      show (noList (f i) && true) = true
      rw [hn i (by omega)]
      rfl
  refine lc_it w (fun i H' => Same H1 H' ∧ ∃ vs, H' D = some (.lst vs) ∧ DpAll K H' vs ((List.range i).map f)) ⟨same_new nD, [], upd_same, .nil⟩ (fun i H' _ q => hG H' q.1) ?_ (fun H' ⟨q1, vs, q2, q3⟩ => hd D H' vs q1 nD q2 q3)
  rintro i x H2 H2' hi ⟨sm, vs, hD, da⟩ ⟨rfl, rfl⟩
  refine ⟨wipe_one σ ix _, ?_⟩
  refine r_yes ?_
  rw [if_pos rfl]
  refine he i H2' _ hi sm fun v H4 s4 dv => ?_
  have hD4 := s4 _ _ hD
  refine ⟨vs, hD4, ?_, fun b u e => ?_, vs ++ [v], upd_same, ?_⟩
  · have e1 := dpa_len da
    rw [List.length_map, List.length_range] at e1
    rw [sizeLine_eq]
    omega
  · rw [upd_ne (ne_of_none e nD)]
    exact s4 _ _ (sm _ _ e)
  · rw [List.range_succ, List.map_append]
    exact DpAll.app (dpa_tups (fun a xs q => seqT_lst hD4 q) _ _ (nl i (by omega)) (DpAll.to s4 da)) (.cons (dp_tups (fun a xs q => seqT_lst hD4 q) _ _ (hn i hi) dv) .nil)
theorem lc_rngD {lo : Int} {n ix : Nat} {te : TE} {f : Nat → PyData} (hz : n ≤ 1000000) (hn : ∀ i, i < n → noList (f i) = true)
    (he : ∀ i H2 (Q' : VK), i < n → Same H1 H2 → (∀ v H3, Same H2 H3 → Dp K H3 v (f i) → Q' v H3) → te ((wipe σ [ix]).set ix (some (.int (lo + i)))) H2 Q')
    (hd : ∀ D H' vs, Same H1 H' → H1 D = none → H' D = some (.lst vs) → DpAll K H' vs ((List.range n).map f) → Q (.ref D) H') : LcG (Itr lo n) (gName ix) tYes te [ix] σ H1 Q :=
  lc_coreD (Y := fun i => .int (lo + i)) (walk_range.mono (fun _ h => h) fun _ _ _ _ _ _ y => y) hz hn (fun _ _ => trivial) he hd
end
end Ax

/-! ### the mathematics of marks -/
namespace Ax
open PySem L2
theorem div_pred (m st : Int) (h : 0 < st) : m / st = (m - 1) / st + if m % st = 0 then 1 else 0 := by
  have q1 := Int.emod_add_mul_ediv (m - 1) st
  have q2 := Int.emod_nonneg (m - 1) (show st ≠ 0 by omega)
  have q3 := Int.emod_lt_of_pos (m - 1) h
  generalize (m - 1) / st = q at q1 ⊢
  generalize (m - 1) % st = r at q1 q2 q3
  by_cases c : r + 1 < st
  · have u := (Int.ediv_emod_unique h (a := m) (q := q) (r := r + 1)).mpr ⟨by omega, by omega, c⟩
    rw [u.1, u.2, if_neg (by omega)]
    omega
  · have e : r + 1 = st := by omega
    have e2 : st * (q + 1) = st * q + st := by rw [Int.mul_add, Int.mul_one]
    have u := (Int.ediv_emod_unique h (a := m) (q := q + 1) (r := 0)).mpr ⟨by omega, by omega, h⟩
    rw [u.1, u.2, if_pos rfl]
theorem ceil_eq (lo st : Int) (h : 0 < st) : -(-lo / st) = (lo - 1) / st + 1 := by
  have q1 := Int.emod_add_mul_ediv (lo - 1) st
  have q2 := Int.emod_nonneg (lo - 1) (show st ≠ 0 by omega)
  have q3 := Int.emod_lt_of_pos (lo - 1) h
  generalize (lo - 1) / st = q at q1 ⊢
  generalize (lo - 1) % st = r at q1 q2 q3
  have e2 : st * (-q - 1) = -(st * q) - st := by rw [Int.mul_sub, Int.mul_neg, Int.mul_one]
  have u := (Int.ediv_emod_unique h (a := -lo) (q := -q - 1) (r := st - 1 - r)).mpr ⟨by omega, by omega, by omega⟩
  rw [u.1]
  omega
theorem fst_eq (lo st : Int) (h : 0 < st) : fst lo st = ((lo - 1) / st + 1) * st := by
  unfold fst
  rw [ceil_eq lo st h]
def marksL (lo hi st : Int) : List Int := (List.range (cnt lo hi st).toNat).map fun (k : Nat) => fst lo st + (k : Int) * st
/-- the multiples among lo .. hi, by trying all -/
def triedL (lo hi st : Int) : List Int := ((List.range (hi + 1 - lo).toNat).map fun (k : Nat) => lo + (k : Int)).filter fun v => decide (v % st = 0)
theorem tried_ap (lo st : Int) (h : 0 < st) : ∀ n : Nat, ((List.range n).map fun (k : Nat) => lo + (k : Int)).filter (fun v => decide (v % st = 0)) = (List.range ((lo + n - 1) / st - (lo - 1) / st).toNat).map fun (k : Nat) => fst lo st + (k : Int) * st
  | 0 => by
    have e : (lo + ((0 : Nat) : Int) - 1) / st - (lo - 1) / st = 0 := by
      have : lo + ((0 : Nat) : Int) - 1 = lo - 1 := by omega
      rw [this]
      omega
    rw [e]
    rfl
  | n + 1 => by
    rw [List.range_succ, List.map_append, List.filter_append, tried_ap lo st h n]
    have d := div_pred (lo + n) st h
    have e1 : lo + ((n + 1 : Nat) : Int) - 1 = lo + n := by omega
    have mono : (lo - 1) / st ≤ (lo + n - 1) / st := Int.ediv_le_ediv h (by omega)
    rw [e1, d]
    by_cases c : (lo + n) % st = 0
    · rw [if_pos c]
      have e2 : ((lo + n - 1) / st + 1 - (lo - 1) / st).toNat = ((lo + n - 1) / st - (lo - 1) / st).toNat + 1 := by omega
      rw [e2, List.range_succ, List.map_append]
      congr 1
      have e3 : ((((lo + n - 1) / st - (lo - 1) / st).toNat : Nat) : Int) = (lo + n - 1) / st - (lo - 1) / st := by omega
      have e4 : fst lo st + ((((lo + n - 1) / st - (lo - 1) / st).toNat : Nat) : Int) * st = lo + n := by
        rw [e3, fst_eq lo st h, ← Int.add_mul]
        have e5 : (lo - 1) / st + 1 + ((lo + n - 1) / st - (lo - 1) / st) = (lo + n) / st := by
          rw [d, if_pos c]
          omega
        rw [e5]
        have := Int.emod_add_mul_ediv (lo + n) st
        rw [Int.mul_comm]
        omega
      have e6 : List.filter (fun v => decide (v % st = 0)) (List.map (fun (k : Nat) => lo + (k : Int)) [n]) = [lo + (n : Int)] := by simp [c]
      rw [e6]
      show [lo + (n : Int)] = [fst lo st + ((((lo + n - 1) / st - (lo - 1) / st).toNat : Nat) : Int) * st]
      rw [e4]
    · rw [if_neg c, Int.add_zero]
      simp [c]
theorem tried_marks (lo hi st : Int) (h : 0 < st) (r : lo ≤ hi + 1) : triedL lo hi st = marksL lo hi st := by
  unfold triedL marksL cnt
  rw [tried_ap lo st h]
  have e : lo + (((hi + 1 - lo).toNat : Nat) : Int) - 1 = hi := by omega
  rw [e]
theorem marks_len (lo hi st : Int) : (marksL lo hi st).length = (cnt lo hi st).toNat := by
  unfold marksL
  rw [List.length_map, List.length_range]
theorem tried_mem (lo hi st v : Int) : v ∈ triedL lo hi st ↔ (lo ≤ v ∧ v ≤ hi) ∧ v % st = 0 := by
  unfold triedL
  rw [List.mem_filter, List.mem_map]
  constructor
  · rintro ⟨⟨k, hk, rfl⟩, e⟩
    rw [List.mem_range] at hk
    exact ⟨by omega, of_decide_eq_true e⟩
  · rintro ⟨⟨h1, h2⟩, e⟩
    exact ⟨⟨(v - lo).toNat, List.mem_range.mpr (by omega), by omega⟩, decide_eq_true e⟩
theorem marks_get (lo hi st : Int) (k : Nat) (h : (k : Int) < cnt lo hi st) : (marksL lo hi st)[k]? = some (fst lo st + (k : Int) * st) := by
  unfold marksL
  rw [List.getElem?_map, List.getElem?_range (by omega)]
  rfl
theorem lst_fst (lo hi st : Int) (h : 0 < st) : fst lo st + (cnt lo hi st - 1) * st = lst hi st := by
  rw [fst_eq lo st h, ← Int.add_mul]
  unfold cnt lst
  congr 1
  omega
theorem fst_ge (lo hi st : Int) (h : 0 < st) (c : cnt lo hi st ≠ 0) (r : lo ≤ hi + 1) : marksL lo hi st ≠ [] := fun e => by
  have l := marks_len lo hi st
  rw [e] at l
  have q : 0 ≤ cnt lo hi st := by
    unfold cnt
    have : (lo - 1) / st ≤ hi / st := Int.ediv_le_ediv h (by omega)
    omega
  have l0 : ([] : List Int).length = 0 := rfl
  rw [l0] at l
  omega
theorem marks_nil (lo hi st : Int) (h : 0 < st) (r : lo ≤ hi + 1) : marksL lo hi st = [] ↔ cnt lo hi st = 0 := by
  have l := marks_len lo hi st
  have q : 0 ≤ cnt lo hi st := by
    unfold cnt
    have : (lo - 1) / st ≤ hi / st := Int.ediv_le_ediv h (by omega)
    omega
  constructor
  · intro e
    rw [e] at l
    have l0 : ([] : List Int).length = 0 := rfl
    omega
  · intro e
    exact List.eq_nil_of_length_eq_zero (by omega)
/-- the first and the last mark stand at the list's ends -/
theorem marks_ends (lo hi st : Int) (h : 0 < st) (c : 0 < cnt lo hi st) : atI ((marksL lo hi st).map V.int) 0 = some (.int (fst lo st)) ∧ atI ((marksL lo hi st).map V.int) (-1) = some (.int (lst hi st)) := by
  have l := marks_len lo hi st
  have g0 := marks_get lo hi st 0 c
  have g1 := marks_get lo hi st ((cnt lo hi st - 1).toNat) (by omega)
  have e1 : (((cnt lo hi st - 1).toNat : Nat) : Int) = cnt lo hi st - 1 := by omega
  rw [e1, lst_fst lo hi st h] at g1
  constructor
  · refine atI_nat (j := 0) ?_
    rw [List.getElem?_map, g0]
    show some (V.int (fst lo st + ((0 : Nat) : Int) * st)) = _
    have : fst lo st + ((0 : Nat) : Int) * st = fst lo st := by simp
    rw [this]
  · unfold atI ixN
    rw [List.length_map, if_neg (by decide), if_pos (by omega)]
    show (List.map V.int (marksL lo hi st))[(-1 + ((marksL lo hi st).length : Int)).toNat]? = _
    have e2 : (-1 + ((marksL lo hi st).length : Int)).toNat = (cnt lo hi st - 1).toNat := by omega
    rw [e2, List.getElem?_map, g1]
    rfl
theorem cnt_le (lo hi st : Int) (r : Rg lo hi) (h : 1 ≤ st) : cnt lo hi st ≤ 2000001 := by
  obtain ⟨r1, r2, r3⟩ := r
  unfold cnt
  have h1 : hi / st ≤ 1000000 := by
    have := Int.ediv_le_ediv (c := st) (by omega) r3
    have h2 : (1000000 : Int) / st ≤ 1000000 := Int.ediv_le_self _ (by decide)
    omega
  have h3 : -1000001 ≤ (lo - 1) / st := by
    refine (Int.le_ediv_iff_mul_le (by omega)).mpr ?_
    have : (-1000001 : Int) * st ≤ -1000001 * 1 := Int.mul_le_mul_of_nonpos_left (by decide) h
    omega
  omega
theorem nearest_ok (v st : Int) (h : 0 < st) : ((2 * v + st) / (2 * st) * st) % st = 0 ∧ 0 - st < 2 * ((2 * v + st) / (2 * st) * st - v) ∧ 2 * ((2 * v + st) / (2 * st) * st - v) ≤ st := by
  have q1 := Int.emod_add_mul_ediv (2 * v + st) (2 * st)
  have q2 := Int.emod_nonneg (2 * v + st) (show 2 * st ≠ 0 by omega)
  have q3 := Int.emod_lt_of_pos (2 * v + st) (show 0 < 2 * st by omega)
  generalize (2 * v + st) / (2 * st) = q at q1 ⊢
  generalize (2 * v + st) % (2 * st) = r at q1 q2 q3
  have e : 2 * st * q = 2 * (q * st) := by rw [Int.mul_assoc, Int.mul_comm st q]
  exact ⟨Int.mul_emod_left _ _, by omega, by omega⟩
end Ax

/-! ### classes: isinstance, except, by the facts of the written part -/
namespace Ax
open PySem PySem.W L2
section
variable {K : Frag} {A B : Addr}
theorem kit_cls_ref {b : Bool} (hd : hasDictIn K B = true) (ht : typeIn K (.ref B) = some (.type "type")) (h : subIn K (.ref A) (.ref B) = some b) : kitCls K (.ref A) (.ref B) = some b := by
  obtain ⟨cd, hc, _⟩ := any_some hd
  have e : ((clsIn K B).isSome && typeIn K (.ref B) == some (.type "type")) = true := by rw [hc, ht] <;> rfl
  show (if ((clsIn K B).isSome && typeIn K (.ref B) == some (.type "type")) = true then subIn K (.ref A) (.ref B) else none) = some b
  rw [if_pos e]
  exact h
theorem kit_true (hd : hasDictIn K B = true) (ht : typeIn K (.ref B) = some (.type "type")) (h : subIn K (.ref A) (.ref B) = some true) : kitOne K (.ref A) (.ref B) = some true := by
  unfold kitOne
  by_cases c : ((.ref A : Value) == .ref B) = true
  · rw [if_pos c]
  · rw [if_neg c]
    exact kit_cls_ref hd ht h
theorem kit_false (hs : subIn K (.ref A) (.ref A) = some true) (hd : hasDictIn K B = true) (ht : typeIn K (.ref B) = some (.type "type")) (h : subIn K (.ref A) (.ref B) = some false) : kitOne K (.ref A) (.ref B) = some false := by
  unfold kitOne
  by_cases c : ((.ref A : Value) == .ref B) = true
  · have e : A = B := Value.ref.inj (beq_iff_eq.mp c)
    subst e
    rw [hs] at h
    cases h
  · rw [if_neg c]
    exact kit_cls_ref hd ht h
theorem kit_ve (h : subIn K (.ref A) (.type "ValueError") = some true) : kitOne K (.ref A) (.type "ValueError") = some true := by
  unfold kitOne
  rw [if_neg (by simp)]
  show (if kitMeta "ValueError" = true then subIn K (.ref A) (.type "ValueError") else none) = some true
  rw [if_pos (by decide +kernel)]
  exact h
end
end Ax

/-! ### steps by their order -/
namespace Ax
open PySem L2
def nextS (st : Int) : List Int := steps.filter fun x => decide (st < x)
def prevS (st : Int) : List Int := steps.filter fun x => decide (x < st)
def geS (w : Int) : List Int := steps.filter fun x => decide (w ≤ x)
def leS (w : Int) : List Int := steps.filter fun x => decide (x ≤ w)
def bothS (a b : Int) : List Int := steps.filter fun x => decide (x % a = 0) && decide (x % b = 0)
def partsL (st : Int) : List Int := ((List.range 9).map fun (k : Nat) => 2 + (k : Int)).filter fun m => decide (st % m = 0) && decide (st / m ∈ steps)
/-- no whole number from lo to hi -/
def NotNum (K : PySem.W.Frag) (H : Hp) (v : V) (lo hi : Int) : Prop := (∃ i, v = .int i ∧ ¬ (lo ≤ i ∧ i ≤ hi)) ∨ NotInt K H v
section
variable {K : PySem.W.Frag} {H H' : Hp} {a : Addr} {Q : VK} {xs : List Int} {x : Int}
theorem NotNum.same {v : V} {lo hi : Int} (s : Same H H') (h : NotNum K H v lo hi) : NotNum K H' v lo hi := h.imp id (NotInt.same s)
theorem at_head (h : xs.head? = some x) : atI (xs.map V.int) 0 = some (.int x) := by
  cases xs with
  | nil => cases h
  | cons y r =>
    cases h
    exact atI_nat (j := 0) rfl
theorem at_lastI (h : xs.getLast? = some x) : atI (xs.map V.int) (-1) = some (.int x) := by
  obtain ⟨ys, rfl⟩ := List.getLast?_eq_some_iff.mp h
  rw [List.map_append]
  exact atI_last _ _
theorem head_some (h : xs ≠ []) : ∃ x, xs.head? = some x := by
  cases xs with
  | nil => exact absurd rfl h
  | cons y r => exact ⟨y, rfl⟩
theorem last_some (h : xs ≠ []) : ∃ x, xs.getLast? = some x := ⟨_, List.getLast?_eq_some_getLast h⟩
theorem flt_le (p : Int → Bool) : (steps.filter p).length ≤ 1000000 := Nat.le_trans (List.length_filter_le _ _) (by decide)
theorem at_stepN (j : Nat) (h : steps[j]? = some x) : atI (steps.map V.int) (j : Int) = some (.int x) := atI_nat (by rw [List.getElem?_map, h]; rfl)
end
section
variable {X : Cx} {K : PySem.W.Frag}
theorem op_in_seqK (e : X.K = K) : OpR X (compareOp .In) (rIn K false) := e ▸ op_in_seq
theorem op_notIn_seqK (e : X.K = K) : OpR X (compareOp .NotIn) (rIn K true) := e ▸ op_notIn_seq
theorem ix_listK (e : X.K = K) : IxR X (rIxL K) := e ▸ ix_list
theorem ix_tupK (e : X.K = K) : IxR X (rIxT K) := e ▸ ix_tup
theorem sl_listK (e : X.K = K) : SlR X (rSlL K) := e ▸ sl_list
theorem op_eqDK (e : X.K = K) (hu : X.A.units + 64 < cLine) : OpR X (compareOp .Eq) (rEqD K) := e ▸ op_eqD hu
theorem op_neDK (e : X.K = K) (hu : X.A.units + 64 < cLine) : OpR X (compareOp .NotEq) (rNeD K) := e ▸ op_neD hu
theorem xc_lenK (e : X.K = K) : CallR X (.builtin "len") (rLen K) := e ▸ xc_len
end
section
variable {K : PySem.W.Frag} {H : Hp} {Q : VK} {σ : L2.St} {ta tb : TE}
def rgI (a b : Int) : List Int := (List.range (b - a).toNat).map fun (i : Nat) => a + (i : Int)
theorem rgV_I (a b : Int) : rgV a b = (rgI a b).map V.int := by
  unfold rgV rgI
  rw [List.map_map]
  rfl
def LrG (a b : Int) (Q : VK) (H1 : Hp) : Prop := RgOk a b ∧ ∀ q, H1 q = none → Q (.ref q) (upd H1 q (.lst (rgV a b)))
def LrG1 (x : V) (Q : VK) (H1 : Hp) : Prop := ∃ n, x = .int n ∧ LrG 0 n Q H1
def LrG2 (x y : V) (Q : VK) (H1 : Hp) : Prop := ∃ i j, x = .int i ∧ y = .int j ∧ LrG i j Q H1
theorem r_lstRg1 (h : ta σ H fun x H1 => LrG1 x Q H1) : tLstRg (tRg1 ta) σ H Q := h
theorem r_lstRg2 (h : ta σ H fun x H1 => tb σ H1 fun y H2 => LrG2 x y Q H2) : tLstRg (tRg2 ta tb) σ H Q := h
theorem r_lrg1 {j : Int} (b : -1000000 ≤ j ∧ j ≤ 16000000) (h : ∀ q, H q = none → Q (.ref q) (upd H q (.lst ((rgI 0 j).map V.int)))) : LrG1 (.int j) Q H := ⟨j, rfl, ⟨by omega, by omega, by omega, by omega, by omega⟩, by rw [rgV_I]; exact h⟩
theorem r_lrg2 {i j : Int} (b : -4000000 ≤ i ∧ i ≤ 4000000 ∧ -4000000 ≤ j ∧ j ≤ 4000000) (h : ∀ q, H q = none → Q (.ref q) (upd H q (.lst ((rgI i j).map V.int)))) : LrG2 (.int i) (.int j) Q H := ⟨i, j, rfl, rfl, ⟨by omega, by omega, by omega, by omega, by omega⟩, by rw [rgV_I]; exact h⟩
end
/-- the value of an expression, told once -/
theorem r_cutE {te : TE} {σ : L2.St} {H : Hp} {Q : VK} (P : V → Hp → Prop) (rest : ∀ v H', P v H' → Q v H') (h : ∀ Q' : VK, (∀ v H', P v H' → Q' v H') → te σ H Q') : te σ H Q := h Q rest
/-- the same, of a value of known content, the heap as it was -/
theorem r_cutD {K : PySem.W.Frag} {te : TE} {σ : L2.St} {H : Hp} {Q : VK} (d : PyData) (h : ∀ Q' : VK, (∀ v H', Same H H' → Dp K H' v d → Q' v H') → te σ H Q') (rest : ∀ v H', Same H H' → Dp K H' v d → Q v H') : te σ H Q := h Q rest
/-! ### rounding -/
theorem step_dvd : ∀ s, s ∈ steps → (1000000 / s) * s = 1000000 := by decide
theorem lst_sub (lo st : Int) : lo - lo % st = lst lo st := by
  unfold lst
  have := Int.emod_add_mul_ediv lo st
  rw [Int.mul_comm] at this
  omega
theorem fst_sub (hi st : Int) (h : 0 < st) : fst hi st = if lst hi st = hi then lst hi st else lst hi st + st := by
  rw [fst_eq hi st h, Int.add_mul, Int.one_mul]
  have d := div_pred hi st h
  have e := lst_sub hi st
  unfold lst at e ⊢
  by_cases c : hi % st = 0
  · rw [if_pos c] at d
    rw [if_pos (by omega), d, Int.add_mul, Int.one_mul]
  · rw [if_neg c, Int.add_zero] at d
    rw [if_neg (by omega), ← d]
theorem lst_mul (q st : Int) (h : 0 < st) : lst (q * st) st = q * st := by
  unfold lst
  rw [Int.mul_ediv_cancel _ (by omega)]
theorem fst_mul (q st : Int) (h : 0 < st) : fst (q * st) st = q * st := by
  rw [fst_sub _ _ h, lst_mul q st h, if_pos rfl]
theorem lst_lst (lo st : Int) (h : 0 < st) : lst (lst lo st) st = lst lo st := lst_mul _ _ h
theorem fst_lst (lo st : Int) (h : 0 < st) : fst (lst lo st) st = lst lo st := fst_mul _ _ h
theorem lst_fst' (lo st : Int) (h : 0 < st) : lst (fst lo st) st = fst lo st := lst_mul _ _ h
theorem fst_fst (lo st : Int) (h : 0 < st) : fst (fst lo st) st = fst lo st := fst_mul _ _ h
theorem mul_pred (q st : Int) (h : 0 < st) : (q * st - 1) / st = q - 1 := by
  have d := div_pred (q * st) st h
  rw [Int.mul_emod_left, if_pos rfl, Int.mul_ediv_cancel _ (by omega)] at d
  omega
theorem cnt_mul (p q st : Int) (h : 0 < st) : cnt (p * st) (q * st) st = q - p + 1 := by
  unfold cnt
  rw [mul_pred p st h, Int.mul_ediv_cancel _ (by omega)]
  omega
theorem lst_le (lo st : Int) (h : 0 < st) : lst lo st ≤ lo ∧ lo < lst lo st + st := by
  have := lst_sub lo st
  have := Int.emod_nonneg lo (show st ≠ 0 by omega)
  have := Int.emod_lt_of_pos lo h
  omega
theorem fst_ge' (hi st : Int) (h : 0 < st) : hi ≤ fst hi st ∧ fst hi st < hi + st := by
  have := lst_le hi st h
  rw [fst_sub hi st h]
  split <;> omega
theorem rg_round {lo hi st : Int} (r : Rg lo hi) (m : st ∈ steps) : Rg (lst lo st) (fst hi st) := by
  obtain ⟨b1, b2⟩ := step_bounds st m
  have d := step_dvd st m
  obtain ⟨r1, r2, r3⟩ := r
  have l1 := lst_le lo st (by omega)
  have l2 := fst_ge' hi st (by omega)
  refine ⟨?_, by omega, ?_⟩
  · have e : lst (-(1000000 / st) * st) st = -(1000000 / st) * st := lst_mul _ _ (by omega)
    have h1 : -(1000000 / st) * st = -1000000 := by rw [Int.neg_mul, d]
    rw [h1] at e
    have h2 : lst (-1000000) st ≤ lst lo st := by
      unfold lst
      exact Int.mul_le_mul_of_nonneg_right (Int.ediv_le_ediv (by omega) r1) (by omega)
    omega
  · have e : fst (1000000 / st * st) st = 1000000 / st * st := fst_mul _ _ (by omega)
    rw [d] at e
    have h2 : fst hi st ≤ fst 1000000 st := by
      rw [fst_eq _ _ (by omega), fst_eq _ _ (by omega)]
      have := Int.ediv_le_ediv (show 0 < st by omega) (show hi - 1 ≤ 1000000 - 1 by omega)
      exact Int.mul_le_mul_of_nonneg_right (by omega) (by omega)
    omega
/-- the first and last mark stand in the wrong order where there is none -/
theorem cnt_zero_iff (lo hi st : Int) (h : 0 < st) (r : lo ≤ hi + 1) : cnt lo hi st = 0 ↔ lst hi st < fst lo st := by
  rw [fst_eq lo st h]
  unfold cnt lst
  have mono : (lo - 1) / st ≤ hi / st := Int.ediv_le_ediv h (by omega)
  constructor
  · intro e
    have : hi / st < (lo - 1) / st + 1 := by omega
    exact Int.mul_lt_mul_of_pos_right this h
  · intro e
    have := Int.lt_of_mul_lt_mul_right e (by omega)
    omega
/-- a conditional whose both sides give one value -/
theorem r_ifJ {p : Prop} [Decidable p] {te1 te2 : TE} {σ : L2.St} {H : Hp} {Q : VK} (v : V) (h1 : p → ∀ Q' : VK, Q' v H → te1 σ H Q') (h2 : ¬ p → ∀ Q' : VK, Q' v H → te2 σ H Q') (h : Q v H) : if decide p = true then te1 σ H Q else te2 σ H Q :=
  r_if (fun c => h1 c Q h) (fun c => h2 c Q h)
theorem rg_of2 {K : PySem.W.Frag} {H : Hp} {x : V} {p1 p2 : Addr} {lo1 hi1 lo2 hi2 : Int} (mx : x ∈ [V.ref p1, V.ref p2]) (s1 : SqT K H p1 [.int lo1, .int hi1]) (s2 : SqT K H p2 [.int lo2, .int hi2]) (g1 : Rg lo1 hi1) (g2 : Rg lo2 hi2) : ∃ lo hi p, x = .ref p ∧ SqT K H p [.int lo, .int hi] ∧ Rg lo hi := by
  rcases List.mem_cons.mp mx with rfl | mx
  · exact ⟨lo1, hi1, p1, rfl, s1, g1⟩
  · rcases List.mem_cons.mp mx with rfl | mx
    · exact ⟨lo2, hi2, p2, rfl, s2, g2⟩
    · cases mx
theorem rg_of3 {K : PySem.W.Frag} {H : Hp} {x : V} {p1 p2 p3 : Addr} {lo1 hi1 lo2 hi2 lo3 hi3 : Int} (mx : x ∈ [V.ref p1, V.ref p2, V.ref p3]) (s1 : SqT K H p1 [.int lo1, .int hi1]) (s2 : SqT K H p2 [.int lo2, .int hi2]) (s3 : SqT K H p3 [.int lo3, .int hi3]) (g1 : Rg lo1 hi1) (g2 : Rg lo2 hi2) (g3 : Rg lo3 hi3) : ∃ lo hi p, x = .ref p ∧ SqT K H p [.int lo, .int hi] ∧ Rg lo hi := by
  rcases List.mem_cons.mp mx with rfl | mx
  · exact ⟨lo1, hi1, p1, rfl, s1, g1⟩
  · exact rg_of2 mx s2 s3 g2 g3
/-! ### moving -/
theorem notRg_of {K : PySem.W.Frag} {H : Hp} {a : Addr} {lo hi : Int} (s : SqT K H a [.int lo, .int hi]) (n : ¬ Rg lo hi) : NotRg K H (.ref a) := by
  by_cases c : -1000000 ≤ lo ∧ lo ≤ 1000000
  · exact .high s fun z => n ⟨c.1, z.1, z.2⟩
  · exact .low s c
def comeL (lo hi lo2 hi2 st : Int) : List Int := (marksL lo2 hi2 st).filter fun v => !decide (v ∈ marksL lo hi st)
def keptL (lo hi lo2 hi2 st far : Int) : List Int := (marksL lo hi st).filter fun v => (decide (lo2 ≤ v) && decide (v ≤ hi2)) && decide (v % far = 0)
def inLo (lo hi by_ : Int) : Int := lo + (hi - lo - (hi - lo) / by_) / 2
theorem rg_in {lo hi b : Int} (r : Rg lo hi) (h : 1 ≤ b) : Rg (inLo lo hi b) (inLo lo hi b + (hi - lo) / b) := by
  obtain ⟨r1, r2, r3⟩ := r
  have q1 : 0 ≤ (hi - lo) / b := Int.ediv_nonneg (by omega) (by omega)
  have q2 : (hi - lo) / b ≤ hi - lo := Int.ediv_le_self _ (by omega)
  unfold inLo
  exact ⟨by omega, by omega, by omega⟩
theorem rg_over {lo hi : Int} (r : Rg lo hi) : Rg (-hi) (-lo) := by
  obtain ⟨r1, r2, r3⟩ := r
  exact ⟨by omega, by omega, by omega⟩
def p10 (k : Nat) : Int := 10 ^ k
theorem p10_succ (k : Nat) : p10 k * 10 = p10 (k + 1) := rfl
section
variable {K : PySem.W.Frag} {H : Hp} {Q : VK} {a : Addr} {ns : List Int} {m : Int}
theorem r_minL (m : Int) (s : SqL K H a (ns.map V.int)) (hm : m ∈ ns) (le : ∀ y, y ∈ ns → m ≤ y) (h : Q (.int m) H) : rMin K [.ref a] H Q := ⟨a, ns, rfl, s, List.length_pos_of_mem hm, fun m' hm' le' => by
  have e : m' = m := Int.le_antisymm (le' m hm) (le m' hm')
  rw [e]
  exact h⟩
theorem r_maxL (m : Int) (s : SqL K H a (ns.map V.int)) (hm : m ∈ ns) (le : ∀ y, y ∈ ns → y ≤ m) (h : Q (.int m) H) : rMax K [.ref a] H Q := ⟨a, ns, rfl, s, List.length_pos_of_mem hm, fun m' hm' le' => by
  have e : m' = m := Int.le_antisymm (le m' hm') (le' m hm)
  rw [e]
  exact h⟩
theorem r_sumL (s : SqL K H a (ns.map V.int)) (h : Q (.int ns.sum) H) : rSum K [.ref a] H Q := ⟨a, ns, rfl, s, h⟩
theorem r_cntI {k : Int} (s : SqL K H a (ns.map V.int)) (h : Q (.int (ns.count k : Nat)) H) : rCntI K (.ref a) [.int k] H Q := ⟨a, ns, k, rfl, rfl, s, h⟩
end
/-! ### windows of one width -/
/-- the numbers of marks of the windows of w + 1 numbers from at, at + 1, .. -/
def winL (at_ w st : Int) (n : Nat) : List Int := (List.range n).map fun (k : Nat) => cnt (at_ + (k : Int)) (at_ + (k : Int) + w) st
theorem sum_append (xs ys : List Int) : (xs ++ ys).sum = xs.sum + ys.sum := by
  induction xs with
  | nil => simp
  | cons x r ih =>
    rw [List.cons_append, List.sum_cons, List.sum_cons, ih]
    omega
/-- sum of g(k + 1) - g(k) shapes: told for the shifted sums -/
theorem shift_sum (g : Int → Int) : ∀ n : Nat, ((List.range n).map fun (k : Nat) => g ((k : Int) + 1)).sum = ((List.range n).map fun (k : Nat) => g (k : Int)).sum + g n - g 0
  | 0 => by simp
  | n + 1 => by
    rw [List.range_succ, List.map_append, List.map_append, sum_append, sum_append, shift_sum g n]
    simp
    omega
theorem win_sum0 (a st : Int) (h : 0 < st) : ∀ n : Nat, ((List.range st.toNat).map fun (k : Nat) => (a + (k : Int) + (n : Int)) / st).sum = ((List.range st.toNat).map fun (k : Nat) => (a + (k : Int)) / st).sum + n
  | 0 => by simp
  | n + 1 => by
    have ih := win_sum0 a st h n
    have e := shift_sum (fun x => (a + x + n) / st) st.toNat
    have e1 : (fun (k : Nat) => (a + (k : Int) + ((n + 1 : Nat) : Int)) / st) = fun (k : Nat) => (a + ((k : Int) + 1) + (n : Int)) / st := by
      funext k
      have : a + (k : Int) + ((n + 1 : Nat) : Int) = a + ((k : Int) + 1) + (n : Int) := by omega
      rw [this]
    rw [e1, e, ih]
    have e2 : ((st.toNat : Nat) : Int) = st := by omega
    rw [e2]
    have e3 : (a + st + n) / st = (a + 0 + n) / st + 1 := by
      have : a + st + (n : Int) = a + 0 + n + 1 * st := by omega
      rw [this, Int.add_mul_ediv_right _ _ (by omega)]
    rw [e3]
    omega
theorem map_sub_sum (f g : Nat → Int) : ∀ l : List Nat, (l.map fun k => f k - g k).sum = (l.map f).sum - (l.map g).sum
  | [] => by simp
  | k :: r => by
    rw [List.map_cons, List.map_cons, List.map_cons, List.sum_cons, List.sum_cons, List.sum_cons, map_sub_sum f g r]
    omega
theorem win_sum (at_ w st : Int) (h : 0 < st) (hw : 0 ≤ w) : (winL at_ w st st.toNat).sum = w + 1 := by
  unfold winL cnt
  rw [map_sub_sum]
  have e := win_sum0 (at_ - 1) st h (w + 1).toNat
  have e1 : (((w + 1).toNat : Nat) : Int) = w + 1 := by omega
  rw [e1] at e
  have f1 : (fun (k : Nat) => (at_ + (k : Int) + w) / st) = fun (k : Nat) => (at_ - 1 + (k : Int) + (w + 1)) / st := by
    funext k
    have : at_ + (k : Int) + w = at_ - 1 + (k : Int) + (w + 1) := by omega
    rw [this]
  have f2 : (fun (k : Nat) => (at_ + (k : Int) - 1) / st) = fun (k : Nat) => (at_ - 1 + (k : Int)) / st := by
    funext k
    have : at_ + (k : Int) - 1 = at_ - 1 + (k : Int) := by omega
    rw [this]
  rw [f1, f2, e]
  omega
/-- each window has q or q + 1 marks -/
theorem cnt_win (lo w st : Int) (h : 0 < st) : cnt lo (lo + w) st = (w + 1) / st ∨ cnt lo (lo + w) st = (w + 1) / st + 1 := by
  unfold cnt
  have a1 := Int.emod_add_mul_ediv (lo - 1) st
  have a2 := Int.emod_nonneg (lo - 1) (show st ≠ 0 by omega)
  have a3 := Int.emod_lt_of_pos (lo - 1) h
  have b1 := Int.emod_add_mul_ediv (w + 1) st
  have b2 := Int.emod_nonneg (w + 1) (show st ≠ 0 by omega)
  have b3 := Int.emod_lt_of_pos (w + 1) h
  generalize (lo - 1) / st = p at *
  generalize (w + 1) / st = q at *
  generalize (lo - 1) % st = r at *
  generalize (w + 1) % st = t at *
  have e : st * (p + q) = st * p + st * q := Int.mul_add _ _ _
  by_cases c : r + t < st
  · have u := (Int.ediv_emod_unique h (a := lo + w) (q := p + q) (r := r + t)).mpr ⟨by omega, by omega, c⟩
    rw [u.1]
    omega
  · have e2 : st * (p + q + 1) = st * p + st * q + st := by rw [Int.mul_add, e, Int.mul_one]
    have u := (Int.ediv_emod_unique h (a := lo + w) (q := p + q + 1) (r := r + t - st)).mpr ⟨by omega, by omega, by omega⟩
    rw [u.1]
    omega
theorem sum_two (q : Int) : ∀ l : List Int, (∀ y, y ∈ l → y = q ∨ y = q + 1) → l.sum = q * l.length + l.count (q + 1)
  | [], _ => by simp
  | x :: r, hm => by
    have ih := sum_two q r fun y hy => hm y (List.mem_cons_of_mem _ hy)
    rw [List.sum_cons, ih, List.length_cons, List.count_cons]
    have e : q * ((r.length + 1 : Nat) : Int) = q * (r.length : Int) + q := by
      rw [Int.natCast_add, Int.mul_add]
      simp
    rw [e]
    rcases hm x List.mem_cons_self with rfl | rfl
    · have : (x == x + 1) = false := beq_eq_false_iff_ne.mpr (by omega)
      rw [this]
      simp
      omega
    · simp
      omega
theorem win_mem (at_ w st : Int) (n : Nat) (h : 0 < st) : ∀ y, y ∈ winL at_ w st n → y = (w + 1) / st ∨ y = (w + 1) / st + 1 := by
  intro y hy
  obtain ⟨k, _, rfl⟩ := List.mem_map.mp hy
  exact cnt_win _ w st h
theorem win_cnt (at_ w st : Int) (h : 0 < st) (hw : 0 ≤ w) : ((winL at_ w st st.toNat).count ((w + 1) / st + 1) : Int) = (w + 1) % st := by
  have e := sum_two ((w + 1) / st) _ (win_mem at_ w st st.toNat h)
  rw [win_sum at_ w st h hw] at e
  have l : (winL at_ w st st.toNat).length = st.toNat := by
    unfold winL
    rw [List.length_map, List.length_range]
  rw [l] at e
  have e2 : ((st.toNat : Nat) : Int) = st := by omega
  rw [e2] at e
  have b1 := Int.emod_add_mul_ediv (w + 1) st
  rw [Int.mul_comm] at b1
  omega
theorem win_high (w st : Int) (h : 0 < st) : w / st + 1 = (w + 1) / st + if (w + 1) % st = 0 then 0 else 1 := by
  have d := div_pred (w + 1) st h
  have : w + 1 - 1 = w := by omega
  rw [this] at d
  rw [d]
  split <;> omega
theorem win_low_mem (at_ w st : Int) (h : 0 < st) (hw : 0 ≤ w) : (w + 1) / st ∈ winL at_ w st st.toNat := by
  by_cases c : (w + 1) / st ∈ winL at_ w st st.toNat
  · exact c
  · exfalso
    have e := win_cnt at_ w st h hw
    have l : (winL at_ w st st.toNat).length = st.toNat := by
      unfold winL
      rw [List.length_map, List.length_range]
    have all : ∀ y, y ∈ winL at_ w st st.toNat → (w + 1) / st + 1 = y := fun y hy => by
      rcases win_mem at_ w st st.toNat h y hy with z | z
      · rw [z] at hy
        exact absurd hy c
      · exact z.symm
    have := List.count_eq_length.mpr all
    have b3 := Int.emod_lt_of_pos (w + 1) h
    omega
theorem win_high_mem (at_ w st : Int) (h : 0 < st) (hw : 0 ≤ w) : w / st + 1 ∈ winL at_ w st st.toNat := by
  rw [win_high w st h]
  have e := win_cnt at_ w st h hw
  by_cases c : (w + 1) % st = 0
  · rw [if_pos c, Int.add_zero]
    exact win_low_mem at_ w st h hw
  · rw [if_neg c]
    have b2 := Int.emod_nonneg (w + 1) (show st ≠ 0 by omega)
    exact List.count_pos_iff.mp (by omega)
theorem win_le (at_ w st : Int) (h : 0 < st) (hw : 0 ≤ w) : ∀ y, y ∈ winL at_ w st st.toNat → (w + 1) / st ≤ y ∧ y ≤ w / st + 1 := by
  intro y hy
  rw [win_high w st h]
  have e := win_cnt at_ w st h hw
  rcases win_mem at_ w st st.toNat h y hy with z | z
  · rw [z]
    split <;> omega
  · have p : 0 < (winL at_ w st st.toNat).count ((w + 1) / st + 1) := List.count_pos_iff.mpr (z ▸ hy)
    rw [if_neg (by omega)]
    omega
/-- a window moved by one -/
theorem cnt_next (lo hi st : Int) (h : 0 < st) : cnt (lo + 1) (hi + 1) st = cnt lo hi st + (if (hi + 1) % st = 0 then 1 else 0) - if lo % st = 0 then 1 else 0 := by
  have d1 := div_pred (hi + 1) st h
  have d2 := div_pred lo st h
  have e1 : hi + 1 - 1 = hi := by omega
  have e2 : lo + 1 - 1 = lo := by omega
  rw [e1] at d1
  unfold cnt
  rw [e2, d1, d2]
  omega
theorem cnt_shift (lo hi st : Int) (h : 0 < st) : cnt (lo + st) (hi + st) st = cnt lo hi st := by
  have e1 : hi + st = hi + 1 * st := by omega
  have e2 : lo + st - 1 = lo - 1 + 1 * st := by omega
  unfold cnt
  rw [e1, e2, Int.add_mul_ediv_right _ _ (by omega), Int.add_mul_ediv_right _ _ (by omega)]
  omega
theorem cnt_wide (lo hi st : Int) (h : 0 < st) : cnt lo (hi + st) st = cnt lo hi st + 1 := by
  have e1 : hi + st = hi + 1 * st := by omega
  unfold cnt
  rw [e1, Int.add_mul_ediv_right _ _ (by omega)]
  omega
end Ax
/-! ### a chain of three comparisons -/
namespace Ax
open PySem PySem.Spec PyProof.Rows L2
section
variable {X : Cx} {a b c e : Expr} {ta tb tc td : TE} {pos : Pos}
/-- a op1 b op2 c op3 e -/
def tChain3 (r r' r'' : R2) (ta tb tc td : TE) : TE := fun σ H Q => ta σ H fun x H1 => tb σ H1 fun y H2 => r x y H2 fun z H3 => ∃ k, z = .bl k ∧
  (if k = true then tc σ H3 fun w' H4 => r' y w' H4 fun z2 H5 => ∃ k2, z2 = .bl k2 ∧ (if k2 = true then td σ H5 fun u H6 => r'' w' u H6 Q else Q (.bl false) H5) else Q (.bl false) H3)
theorem pt_chain3 {op op' op'' : CmpOp} {r r' r'' : R2} (ho : OpR X (compareOp op) r) (ho' : OpR X (compareOp op') r') (ho'' : OpR X (compareOp op'') r'') (ha : PE X a ta) (hb : PE X b tb) (hc : PE X c tc) (hd : PE X e td)
    (hm : lastMarks [op, op', op''] [b, c, e] = false := by with_unfolding_all rfl) : PT X (.Compare a [op, op', op''] [b, c, e] pos) (tTest (tChain3 r r' r'' ta tb tc td)) := by
  refine ⟨fun pins s σ H Q I h => ?_⟩
  refine isTrue_chain (thn (ha.run pins s σ H _ I h) fun v s1 ⟨x, H1, I1, r1, q1⟩ => test_link (thn (hb.run pins s1 σ H1 _ I1 q1) fun u s2 ⟨y, H2, I2, r2, q2⟩ =>
    thn (ho pins s2 σ H2 x y v u _ I2 r1 r2 q2) fun d s3 ⟨z, H3, I3, r3, k, e, q3⟩ => ?_)) hm
  subst e
  cases r3
  refine wpAny_truthy_bool ?_
  cases k with
  | false =>
    obtain ⟨k', e', q'⟩ := q3
    cases e'
    exact ite_ff ⟨H3, I3, q'⟩
  | true =>
    refine ite_tt (test_link (thn (hc.run pins s3 σ H3 _ I3 q3) fun w' s4 ⟨z', H4, I4, r4, q4⟩ => thn (ho' pins s4 σ H4 y z' u w' _ I4 r2 r4 q4) fun d' s5 ⟨z2, H5, I5, r5, k2, e2, q5⟩ => ?_))
    subst e2
    cases r5
    refine wpAny_truthy_bool ?_
    cases k2 with
    | false =>
      obtain ⟨k', e', q'⟩ := q5
      cases e'
      exact ite_ff ⟨H5, I5, q'⟩
    | true =>
      refine ite_tt (test_last (thn (hd.run pins s5 σ H5 _ I5 q5) fun w2 s6 ⟨z3, H6, I6, r6, q6⟩ => thn (ho'' pins s6 σ H6 z' z3 w' w2 _ I6 r4 r6 q6) fun d2 s7 ⟨z4, H7, I7, r7, k4, e4, q7⟩ => ?_))
      subst e4
      cases r7
      exact wpAny_truthy_bool ⟨H7, I7, q7⟩
variable {D : Ends} {σ : L2.St} {H : Hp} {Q : VK} {K : PySem.W.Frag} {xs : List V} {p : Addr}
theorem r_chain3 {r r' r'' : R2} (h : ta σ H fun x H1 => tb σ H1 fun y H2 => r x y H2 fun z H3 => ∃ k, z = .bl k ∧
  (if k = true then tc σ H3 fun w' H4 => r' y w' H4 fun z2 H5 => ∃ k2, z2 = .bl k2 ∧ (if k2 = true then td σ H5 fun u H6 => r'' w' u H6 Q else Q (.bl false) H5) else Q (.bl false) H3)) : tChain3 r r' r'' ta tb tc td σ H Q := h
def RevG (K : PySem.W.Frag) (x : V) (Q : VK) (H1 : Hp) : Prop := ∃ a xs, x = .ref a ∧ SqL K H1 a xs ∧ ∀ p, H1 p = none → Q (.ref p) (upd H1 p (.lst xs.reverse))
theorem r_revL (h : ta σ H fun x H1 => RevG K x Q H1) : tRevL K ta σ H Q := h
theorem r_rev (s : SqL K H p xs) (h : ∀ q, H q = none → Q (.ref q) (upd H q (.lst xs.reverse))) : RevG K (.ref p) Q H := ⟨p, xs, rfl, s, h⟩
end
end Ax
namespace Ax
open PySem L2
/-! ### marks of other ranges -/
theorem marks_mem {lo hi st v : Int} (h : 0 < st) (r : lo ≤ hi + 1) : v ∈ marksL lo hi st ↔ (lo ≤ v ∧ v ≤ hi) ∧ v % st = 0 := by
  rw [← tried_marks lo hi st h r]
  exact tried_mem lo hi st v
theorem marks_nodup (lo hi st : Int) (h : 0 < st) : (marksL lo hi st).Nodup := by
  unfold marksL
  refine List.Pairwise.map _ (fun (i j : Nat) (ne : i ≠ j) e => ?_) List.nodup_range
  have e2 : (i : Int) * st = (j : Int) * st := by omega
  have := Int.eq_of_mul_eq_mul_right (show st ≠ 0 by omega) e2
  omega
theorem nodup_le1 {l : List Int} (nd : l.Nodup) (h : ∀ x y, x ∈ l → y ∈ l → x = y) : l.length ≤ 1 := by
  match l, nd, h with
  | [], _, _ => exact Nat.zero_le _
  | [_], _, _ => exact Nat.le_refl _
  | x :: y :: r, nd, h =>
    have e := h x y List.mem_cons_self (List.mem_cons_of_mem _ List.mem_cons_self)
    subst e
    rw [List.nodup_cons] at nd
    exact absurd List.mem_cons_self nd.1
/-- two multiples nearer than a step are one -/
theorem near_eq {x y st : Int} (h : 0 < st) (hx : x % st = 0) (hy : y % st = 0) (n1 : x - y < st) (n2 : y - x < st) : x = y := by
  have e1 := Int.emod_add_mul_ediv x st
  have e2 := Int.emod_add_mul_ediv y st
  have d : (x - y) % st = 0 := by rw [Int.sub_emod, hx, hy]; simp
  have e3 := Int.emod_add_mul_ediv (x - y) st
  rw [d] at e3
  generalize (x - y) / st = q at e3
  have q1 : q < 1 := Int.lt_of_mul_lt_mul_left (a := st) (by omega) (by omega)
  have q2 : -1 < q := Int.lt_of_mul_lt_mul_left (a := st) (by omega) (by omega)
  have q0 : q = 0 := by omega
  subst q0
  omega
theorem come_le1 (lo hi by_ st : Int) (h : 0 < st) (r : lo ≤ hi) (n1 : -st < by_) (n2 : by_ < st) : (comeL lo hi (lo + by_) (hi + by_) st).length ≤ 1 := by
  refine nodup_le1 ((marks_nodup _ _ _ h).filter _) fun x y hx hy => ?_
  obtain ⟨mx, nx⟩ := List.mem_filter.mp hx
  obtain ⟨my, ny⟩ := List.mem_filter.mp hy
  rw [Bool.not_eq_true', decide_eq_false_iff_not, marks_mem h (by omega)] at nx ny
  rw [marks_mem h (by omega)] at mx my
  refine near_eq h mx.2 my.2 ?_ ?_ <;> omega
theorem come_le1' (lo hi by_ st : Int) (h : 0 < st) (r : lo ≤ hi) (n1 : -st < by_) (n2 : by_ < st) : (comeL (lo + by_) (hi + by_) lo hi st).length ≤ 1 := by
  have e := come_le1 (lo + by_) (hi + by_) (-by_) st h (by omega) (by omega) (by omega)
  have e1 : lo + by_ + -by_ = lo := by omega
  have e2 : hi + by_ + -by_ = hi := by omega
  rw [e1, e2] at e
  exact e
/-- no mark of the smaller range is missed by the wider one -/
theorem come_nil (lo hi lo2 hi2 st : Int) (h : 0 < st) (r : lo ≤ hi) (a : lo2 ≤ lo) (b : hi ≤ hi2) : comeL lo2 hi2 lo hi st = [] := by
  unfold comeL
  refine List.filter_eq_nil_iff.mpr fun v hv => ?_
  rw [marks_mem h (by omega)] at hv
  rw [Bool.not_eq_true, Bool.not_eq_false', decide_eq_true_eq, marks_mem h (by omega)]
  omega
theorem kept_self (lo hi st : Int) (h : 0 < st) (r : lo ≤ hi) : keptL lo hi lo hi st st = marksL lo hi st := by
  unfold keptL
  refine List.filter_eq_self.mpr fun v hv => ?_
  rw [marks_mem h (by omega)] at hv
  simp [hv.1.1, hv.1.2, hv.2]
theorem cnt_over (lo hi st : Int) (h : 0 < st) : cnt (-hi) (-lo) st = cnt lo hi st := by
  have c1 := ceil_eq lo st h
  have c2 := ceil_eq (hi + 1) st h
  have e1 : hi + 1 - 1 = hi := by omega
  have e2 : -(hi + 1) = -hi - 1 := by omega
  rw [e1, e2] at c2
  unfold cnt
  omega
theorem fst_over (hi st : Int) : fst (-hi) st = -(lst hi st) := by
  unfold fst lst
  rw [Int.neg_neg, Int.neg_mul]
theorem marks_over (lo hi st : Int) (h : 0 < st) : marksL (-hi) (-lo) st = ((marksL lo hi st).map fun v => 0 - v).reverse := by
  have l1 := marks_len (-hi) (-lo) st
  have l2 := marks_len lo hi st
  rw [cnt_over lo hi st h] at l1
  refine List.ext_getElem? fun k => ?_
  by_cases c : (k : Int) < cnt lo hi st
  · rw [marks_get _ _ _ k (by rw [cnt_over lo hi st h]; exact c), List.getElem?_reverse (by rw [List.length_map]; omega), List.getElem?_map]
    have g := marks_get lo hi st ((cnt lo hi st).toNat - 1 - k) (by omega)
    rw [List.length_map, l2, g, fst_over]
    have e : (((cnt lo hi st).toNat - 1 - k : Nat) : Int) = cnt lo hi st - 1 - k := by omega
    rw [e]
    have f := lst_fst lo hi st h
    have e2 : (cnt lo hi st - 1 - (k : Int)) * st = (cnt lo hi st - 1) * st - k * st := Int.sub_mul _ _ _
    rw [e2]
    show some (-(lst hi st) + (k : Int) * st) = some (0 - (fst lo st + ((cnt lo hi st - 1) * st - (k : Int) * st)))
    congr 1
    omega
  · rw [List.getElem?_eq_none (by omega), List.getElem?_eq_none (by rw [List.length_reverse, List.length_map]; omega)]
theorem cnt_scale (lo hi st t : Int) (h : 0 < st) (ht : 0 < t) : cnt (lo * t) (hi * t) (st * t) = cnt lo hi st := by
  unfold cnt
  have e1 : hi * t / (st * t) = hi / st := Int.mul_ediv_mul_of_pos_left _ _ ht
  have e2 : (lo * t - 1) / (st * t) = (lo - 1) / st := by
    rw [Int.mul_comm st t, ← Int.ediv_ediv_of_nonneg (by omega), mul_pred lo t ht]
  rw [e1, e2]
theorem cnt_width (lo hi st : Int) (h : 0 < st) (r : lo ≤ hi + 1) : cnt lo hi st ≤ hi + 1 - lo := by
  have l1 := tried_marks lo hi st h r
  have l2 : (triedL lo hi st).length ≤ (hi + 1 - lo).toNat := by
    unfold triedL
    refine Nat.le_trans (List.length_filter_le _ _) ?_
    rw [List.length_map, List.length_range]
    exact Nat.le_refl _
  rw [l1, marks_len] at l2
  omega
/-! ### data that can be compared: by its depth -/
def Sd (n : Nat) (d : PyData) : Prop := d.canLay0 = true ∧ d.depth ≤ n
def Sds (n : Nat) (ds : List PyData) : Prop := ∀ d, d ∈ ds → Sd n d
theorem sds_lay {n : Nat} : ∀ {ds : List PyData}, Sds n ds → PyData.canLayAll0 ds = true ∧ PyData.depthAll ds ≤ n
  | [], _ => ⟨by simp only [PyData.canLayAll0], by simp only [PyData.depthAll]; exact Nat.zero_le _⟩
  | d :: r, h => by
    have h1 := h d List.mem_cons_self
    have h2 := sds_lay (ds := r) fun e he => h e (List.mem_cons_of_mem _ he)
    refine ⟨?_, ?_⟩
    · simp only [PyData.canLayAll0, h1.1, h2.1, Bool.and_self]
    · simp only [PyData.depthAll]
      have := h1.2
      have := h2.2
      omega
theorem sd_list {n : Nat} {ds : List PyData} (h : Sds n ds) : Sd (n + 1) (.list ds) := by
  have q := sds_lay h
  refine ⟨by simp only [PyData.canLay0]; exact q.1, ?_⟩
  simp only [PyData.depth]
  have := q.2
  omega
theorem sd_tup {n : Nat} {ds : List PyData} (h : Sds n ds) : Sd (n + 1) (.tuple ds) := by
  have q := sds_lay h
  refine ⟨by simp only [PyData.canLay0]; exact q.1, ?_⟩
  simp only [PyData.depth]
  have := q.2
  omega
theorem sd_int {n : Nat} (i : Int) : Sd (n + 1) (.int i) := ⟨by simp only [PyData.canLay0], by simp only [PyData.depth]; omega⟩
theorem sd_ints {n : Nat} (ns : List Int) : Sds (n + 1) (ns.map PyData.int) := fun d hd => by
  obtain ⟨i, _, rfl⟩ := List.mem_map.mp hd
  exact sd_int i
theorem sds_nil {n : Nat} : Sds n [] := fun _ h => absurd h List.not_mem_nil
theorem sds_cons {n : Nat} {d : PyData} {ds : List PyData} (h : Sd n d) (t : Sds n ds) : Sds n (d :: ds) := fun e he => by
  rcases List.mem_cons.mp he with rfl | he
  · exact h
  · exact t e he
theorem shp_of {n : Nat} {d : PyData} (h : Sd n d) (hn : n ≤ 64) : SeqAt.shaped d = true := Bool.and_eq_true_iff.mpr ⟨h.1, decide_eq_true (Nat.le_trans h.2 hn)⟩
/-! ### comprehensions over anything that yields, the heap growing: what comes out told as content -/
section
variable {K : PySem.W.Frag} {H H1 H' : Hp} {σ : L2.St} {Q : VK} {g : TG} {tt : TT} {te : TE} {tb : TS} {D : Ends} {a : Addr}
theorem noLists_of : ∀ {ds : List PyData}, (∀ d, d ∈ ds → noList d = true) → noLists ds = true
  | [], _ => rfl
  | d :: r, h => by
    rw [noLists, Bool.and_eq_true]
    exact ⟨h d List.mem_cons_self, noLists_of fun e he => h e (List.mem_cons_of_mem _ he)⟩
theorem dpa_lst {vs ws : List V} {ds : List PyData} {b : Addr} (hl : H b = some (.lst vs)) (n : noLists ds = true) (h : DpAll K H ws ds) {o : HO} (ho : ∃ us, o = .lst us) : DpAll K (upd H b o) ws ds := by
  obtain ⟨us, rfl⟩ := ho
  exact dpa_tups (fun a xs q => seqT_lst hl q) _ _ n h
theorem lc_coreG {J : It} {n : Nat} {G : Hp → Prop} {Y : Nat → Hp → V → Hp → Prop} (w : Walk J n G Y) {vx : List Nat} {Z : Nat → L2.St} {p : Nat → Bool} {f : Nat → PyData} (hz : n ≤ 1000000) (hn : ∀ i, i < n → noList (f i) = true) (hG : ∀ H', Same H1 H' → G H')
    (hY : ∀ i H x H', Y i H x H' → Same H H') (hw : ∀ i, wipe (Z i) vx = wipe σ vx)
    (hg : ∀ i x H2 H3 (Q' : L2.St → Hp → Prop), i < n → Same H1 H2 → Y i H2 x H3 → Q' (Z i) H3 → g x (wipe σ vx) H3 Q')
    (ht : ∀ i H2 (Qt : Bool → Hp → Prop), i < n → Same H1 H2 → (∀ H3, Same H2 H3 → Qt (p i) H3) → tt (Z i) H2 Qt)
    (he : ∀ i H2 (Q' : VK), i < n → p i = true → Same H1 H2 → (∀ v H3, Same H2 H3 → Dp K H3 v (f i) → Q' v H3) → te (Z i) H2 Q')
    (hd : ∀ D H' vs, Same H1 H' → H1 D = none → H' D = some (.lst vs) → DpAll K H' vs (((List.range n).filter p).map f) → Q (.ref D) H') : LcG J g tt te vx σ H1 Q := by
  intro D nD
  have nl : ∀ i, i ≤ n → noLists (((List.range i).filter p).map f) = true := fun i hi => noLists_of fun d hd => by
    obtain ⟨k, hk, rfl⟩ := List.mem_map.mp hd
    have := List.mem_range.mp (List.mem_filter.mp hk).1
    exact hn k (by omega)
  refine lc_it w (fun i H' => Same H1 H' ∧ ∃ vs, H' D = some (.lst vs) ∧ DpAll K H' vs (((List.range i).filter p).map f)) ⟨same_new nD, [], upd_same, .nil⟩ (fun i H' _ q => hG H' q.1) ?_ (fun H' ⟨q1, vs, q2, q3⟩ => hd D H' vs q1 nD q2 q3)
  rintro i x H2 H2' hi ⟨sm, vs, hD, da⟩ y
  have s2 := hY i H2 x H2' y
  refine hg i x H2 H2' _ hi sm y ⟨hw i, ht i H2' _ hi (sm.trans s2) fun H3 s3 => ?_⟩
  have s23 := s2.trans s3
  cases hp : p i with
  | true =>
    refine r_t (he i H3 _ hi hp (sm.trans s23) fun v H4 s4 dv => ?_)
    have s24 := s23.trans s4
    have hD4 := s24 _ _ hD
    refine ⟨vs, hD4, ?_, fun b u e => ?_, vs ++ [v], upd_same, ?_⟩
    · have e1 := dpa_len da
      have l1 := List.length_filter_le p (List.range i)
      rw [List.length_map] at e1
      rw [List.length_range] at l1
      rw [sizeLine_eq]
      omega
    · rw [upd_ne (ne_of_none e nD)]
      exact s24 _ _ (sm _ _ e)
    · rw [List.range_succ, List.filter_append, List.map_append]
      have e1 : List.filter p [i] = [i] := by simp [hp]
      rw [e1]
      exact DpAll.app (dpa_lst hD4 (nl i (by omega)) (DpAll.to s24 da) ⟨_, rfl⟩) (.cons (dp_tups (fun a xs q => seqT_lst hD4 q) _ _ (hn i hi) dv) .nil)
  | false =>
    refine r_f ⟨sm.trans s23, vs, s23 _ _ hD, ?_⟩
    rw [List.range_succ, List.filter_append, List.map_append]
    have e1 : List.filter p [i] = [] := by simp [hp]
    rw [e1, List.map_nil, List.append_nil]
    exact DpAll.to s23 da
theorem dpa_ints_inv : ∀ {ns : List Int} {vs : List V}, DpAll K H vs (ns.map PyData.int) → vs = ns.map V.int
  | [], _, h => by cases h; rfl
  | i :: r, _, h => by
    cases h with
    | cons q t =>
      cases q
      rw [dpa_ints_inv t]
      rfl
theorem dpa_get : ∀ {vs : List V} {ds : List PyData} {i : Nat} {d : PyData}, DpAll K H vs ds → ds[i]? = some d → ∃ v, vs[i]? = some v ∧ Dp K H v d
  | _, _, _, _, .nil, h => by simp at h
  | _, _, 0, _, .cons q _, h => by
    simp at h
    subst h
    exact ⟨_, rfl, q⟩
  | _, _, i + 1, _, .cons _ t, h => by
    obtain ⟨v, e, d⟩ := dpa_get t (by simpa using h)
    exact ⟨v, by simpa using e, d⟩
/-- pairs of whole numbers -/
def pairD (q : Int × Int) : PyData := .tuple [.int q.1, .int q.2]
theorem dp_pair {v : V} {q : Int × Int} (h : Dp K H v (pairD q)) : ∃ a, v = .ref a ∧ SqT K H a [.int q.1, .int q.2] := by
  cases h with
  | tup s r =>
    cases r with
    | cons q1 r =>
      cases q1
      cases r with
      | cons q2 r =>
        cases q2
        cases r
        exact ⟨_, rfl, s⟩
theorem range_getP {α : Type} [Inhabited α] (ns : List α) {β : Type} (f : α → β) (p : α → Bool) : ((List.range ns.length).filter (fun i => p (ns.getD i default))).map (fun i => f (ns.getD i default)) = (ns.filter p).map f := by
  have e : (List.range ns.length).map (fun i => ns.getD i default) = ns := by
    apply List.ext_getElem
    · simp
    · intro i h1 h2
      simp only [List.getElem_map, List.getElem_range]
      rw [List.getD_eq_getElem?_getD, List.getElem?_eq_getElem h2]
      rfl
  have e2 : ((List.range ns.length).filter (fun i => p (ns.getD i default))).map (fun i => ns.getD i default) = ns.filter p := by
    have := List.filter_map (f := fun i => ns.getD i default) (p := p) (l := List.range ns.length)
    rw [e] at this
    exact this.symm
  rw [← e2, List.map_map]
  rfl
theorem getD_mem {α : Type} [Inhabited α] (ns : List α) {i : Nat} (h : i < ns.length) : ns[i]? = some (ns.getD i default) ∧ ns.getD i default ∈ ns := by
  have e : ns[i]? = some (ns.getD i default) := by
    rw [List.getD_eq_getElem?_getD, List.getElem?_eq_getElem h]
    rfl
  exact ⟨e, List.mem_of_getElem? e⟩
/-- over a list of whole numbers: [e for x in ns if t], each of a content -/
theorem lc_intsD {ns : List Int} {ix : Nat} {p : Int → Bool} {f : Int → PyData} (hz : ns.length ≤ 1000000) (hs : SqL K H1 a (ns.map V.int)) (hn : ∀ i, i ∈ ns → noList (f i) = true)
    (ht : ∀ i H2 (Qt : Bool → Hp → Prop), i ∈ ns → Same H1 H2 → (∀ H3, Same H2 H3 → Qt (p i) H3) → tt ((wipe σ [ix]).set ix (some (.int i))) H2 Qt)
    (he : ∀ i H2 (Q' : VK), i ∈ ns → p i = true → Same H1 H2 → (∀ v H3, Same H2 H3 → Dp K H3 v (f i) → Q' v H3) → te ((wipe σ [ix]).set ix (some (.int i))) H2 Q')
    (hd : ∀ D H' vs, Same H1 H' → H1 D = none → H' D = some (.lst vs) → DpAll K H' vs ((ns.filter p).map f) → Q (.ref D) H') : LcG (Itl K a) (gName ix) tt te [ix] σ H1 Q := by
  have w := walk_list (K := K) (xs := ns.map V.int) (a := a)
  rw [List.length_map] at w
  refine lc_coreG (n := ns.length) (Z := fun i => (wipe σ [ix]).set ix (some (.int (ns.getD i default)))) (p := fun i => p (ns.getD i default)) (f := fun i => f (ns.getD i default)) w hz (fun i hi => hn _ (getD_mem ns hi).2) (fun _ s => Same.seq s hs) (fun i H x H' y => by rw [y.1]; exact Same.refl _) (fun i => wipe_one σ ix _) ?_
    (fun i H2 Qt hi => ht _ H2 Qt (getD_mem ns hi).2) (fun i H2 Q' hi => he _ H2 Q' (getD_mem ns hi).2) fun D H' vs s n e da => hd D H' vs s n e ?_
  · rintro i x H2 H3 Q' hi s ⟨rfl, y⟩ q
    rw [List.getElem?_map, (getD_mem ns hi).1] at y
    cases y
    exact q
  · rw [range_getP ns f p] at da
    exact da
theorem wipe_two (σ : L2.St) (ix jx : Nat) (v u : V) (ne : ix ≠ jx) : wipe (((wipe σ [ix, jx]).set ix (some v)).set jx (some u)) [ix, jx] = wipe σ [ix, jx] := by
  show ((((((σ.set jx none).set ix none).set ix (some v)).set jx (some u)).set jx none).set ix none) = (σ.set jx none).set ix none
  refine List.ext_getElem? fun k => ?_
  simp only [List.getElem?_set, List.length_set]
  by_cases c1 : jx = k
  · subst c1
    simp
  · by_cases c2 : ix = k
    · subst c2
      simp [c1]
    · simp [c1, c2]
/-- over a list of pairs -/
theorem lc_pairsD {ps : List (Int × Int)} {vs : List V} {ix jx : Nat} {p : Int × Int → Bool} {f : Int × Int → PyData} (ne : ix ≠ jx) (hz : ps.length ≤ 1000000) (hs : SqL K H1 a vs) (da : DpAll K H1 vs (ps.map pairD)) (hn : ∀ q, q ∈ ps → noList (f q) = true)
    (ht : ∀ x y H2 (Qt : Bool → Hp → Prop), (x, y) ∈ ps → Same H1 H2 → (∀ H3, Same H2 H3 → Qt (p (x, y)) H3) → tt (((wipe σ [ix, jx]).set ix (some (.int x))).set jx (some (.int y))) H2 Qt)
    (he : ∀ x y H2 (Q' : VK), (x, y) ∈ ps → p (x, y) = true → Same H1 H2 → (∀ v H3, Same H2 H3 → Dp K H3 v (f (x, y)) → Q' v H3) → te (((wipe σ [ix, jx]).set ix (some (.int x))).set jx (some (.int y))) H2 Q')
    (hd : ∀ D H' us, Same H1 H' → H1 D = none → H' D = some (.lst us) → DpAll K H' us ((ps.filter p).map f) → Q (.ref D) H') : LcG (Itl K a) (gTup K 2 (gCons (gName ix) (gCons (gName jx) gNil))) tt te [ix, jx] σ H1 Q := by
  have w := walk_list (K := K) (xs := vs) (a := a)
  have len := dpa_len da
  rw [List.length_map] at len
  rw [len] at w
  refine lc_coreG (n := ps.length) (Z := fun i => ((wipe σ [ix, jx]).set ix (some (.int (ps.getD i default).1))).set jx (some (.int (ps.getD i default).2))) (p := fun i => p (ps.getD i default)) (f := fun i => f (ps.getD i default)) w hz (fun i hi => hn _ (getD_mem ps hi).2) (fun _ s => Same.seq s hs) (fun i H x H' y => by rw [y.1]; exact Same.refl _) (fun i => wipe_two σ ix jx _ _ ne) ?_
    (fun i H2 Qt hi => ht _ _ H2 Qt (getD_mem ps hi).2) (fun i H2 Q' hi => he _ _ H2 Q' (getD_mem ps hi).2) fun D H' us s n e da => hd D H' us s n e ?_
  · rintro i x H2 H3 Q' hi s ⟨rfl, y⟩ q
    obtain ⟨v, hv, dv⟩ := dpa_get da (i := i) (d := pairD (ps.getD i default)) (by rw [List.getElem?_map, (getD_mem ps hi).1]; rfl)
    rw [hv] at y
    cases y
    obtain ⟨b, rfl, sb⟩ := dp_pair dv
    exact r_gtup2 (Same.seqT s sb) q
  · rw [range_getP ps f p] at da
    exact da
/-- the same, whole numbers coming out -/
theorem lc_pairs {ps : List (Int × Int)} {vs : List V} {ix jx : Nat} {p : Int × Int → Bool} {f : Int × Int → Int} (ne : ix ≠ jx) (hz : ps.length ≤ 1000000) (hs : SqL K H1 a vs) (da : DpAll K H1 vs (ps.map pairD))
    (ht : ∀ x y H2 (Qt : Bool → Hp → Prop), (x, y) ∈ ps → Same H1 H2 → (∀ H3, Same H2 H3 → Qt (p (x, y)) H3) → tt (((wipe σ [ix, jx]).set ix (some (.int x))).set jx (some (.int y))) H2 Qt)
    (he : ∀ x y H2 (Q' : VK), (x, y) ∈ ps → p (x, y) = true → Same H1 H2 → (∀ H3, Same H2 H3 → Q' (.int (f (x, y))) H3) → te (((wipe σ [ix, jx]).set ix (some (.int x))).set jx (some (.int y))) H2 Q')
    (hd : ∀ D H', Same H1 H' → H1 D = none → H' D = some (.lst (((ps.filter p).map f).map V.int)) → Q (.ref D) H') : LcG (Itl K a) (gTup K 2 (gCons (gName ix) (gCons (gName jx) gNil))) tt te [ix, jx] σ H1 Q :=
  lc_pairsD ne hz hs da (f := fun q => .int (f q)) (fun _ _ => rfl) ht (fun x y H2 Q' m hp s q => he x y H2 Q' m hp s fun H3 s3 => q _ H3 s3 (.int _)) fun D H' us s n e da => hd D H' s n (by
    have e2 : (ps.filter p).map (fun q => PyData.int (f q)) = (((ps.filter p).map f).map PyData.int) := by
      rw [List.map_map]
      rfl
    rw [e2] at da
    rw [dpa_ints_inv da] at e
    exact e)
theorem shp_pairs (ps : List (Int × Int)) : SeqAt.shaped (.list (ps.map pairD)) = true := shp_of (n := 3) (sd_list fun d hd => by
  obtain ⟨q, _, rfl⟩ := List.mem_map.mp hd
  exact sd_tup (sds_cons (sd_int _) (sds_cons (sd_int _) sds_nil))) (by decide)
end
/-! ### choosing steps -/
def cntP (lo hi : Int) : List (Int × Int) := steps.map fun s => (s, cnt lo hi s)
def mostL (lo hi m : Int) : List Int := steps.filter fun s => decide (cnt lo hi s ≤ m)
def leastL (lo hi m : Int) : List Int := steps.filter fun s => decide (m ≤ cnt lo hi s)
def betweenL (lo hi l m : Int) : List Int := steps.filter fun s => decide (l ≤ cnt lo hi s) && decide (cnt lo hi s ≤ m)
def emptyL (lo hi : Int) : List Int := steps.filter fun s => decide (cnt lo hi s = 0)
def absI (x : Int) : Int := if x < 0 then -x else x
def gapI (lo hi w s : Int) : Int := absI (cnt lo hi s - w)
/-- the first with the least -/
def Near (g : Int → Int) (l : List Int) (s : Int) : Prop := ∃ pre post, l = pre ++ s :: post ∧ (∀ x, x ∈ pre → g s < g x) ∧ ∀ x, x ∈ post → g s ≤ g x
theorem near_one (g : Int → Int) (y : Int) : Near g [y] y := ⟨[], [], rfl, fun _ h => absurd h List.not_mem_nil, fun _ h => absurd h List.not_mem_nil⟩
theorem near_le {g : Int → Int} {l : List Int} {s : Int} (h : Near g l s) : ∀ x, x ∈ l → g s ≤ g x := by
  obtain ⟨pre, post, rfl, h1, h2⟩ := h
  intro x hx
  rcases List.mem_append.mp hx with hx | hx
  · exact Int.le_of_lt (h1 x hx)
  · rcases List.mem_cons.mp hx with rfl | hx
    · exact Int.le_refl _
    · exact h2 x hx
theorem near_mem {g : Int → Int} {l : List Int} {s : Int} (h : Near g l s) : s ∈ l := by
  obtain ⟨pre, post, rfl, h1, h2⟩ := h
  exact List.mem_append_right _ List.mem_cons_self
theorem near_lt {g : Int → Int} {l : List Int} {s y : Int} (h : Near g l s) (c : g y < g s) : Near g (l ++ [y]) y :=
  ⟨l, [], rfl, fun x hx => Int.lt_of_lt_of_le c (near_le h x hx), fun _ h => absurd h List.not_mem_nil⟩
theorem near_ge {g : Int → Int} {l : List Int} {s y : Int} (h : Near g l s) (c : ¬ g y < g s) : Near g (l ++ [y]) s := by
  obtain ⟨pre, post, rfl, h1, h2⟩ := h
  refine ⟨pre, post ++ [y], by simp, h1, fun x hx => ?_⟩
  rcases List.mem_append.mp hx with hx | hx
  · exact h2 x hx
  · rcases List.mem_cons.mp hx with rfl | hx
    · omega
    · cases hx
theorem near_head {g : Int → Int} {l : List Int} {s : Int} (h : Near g l s) : (l.filter fun x => decide (g x = g s)).head? = some s := by
  obtain ⟨pre, post, rfl, h1, h2⟩ := h
  have e : pre.filter (fun x => decide (g x = g s)) = [] := List.filter_eq_nil_iff.mpr fun x hx => by
    have := h1 x hx
    simp
    omega
  rw [List.filter_append, e, List.filter_cons]
  simp
/-- the pairs out of order -/
def rowP (lo hi s : Int) (l : List Int) : List (Int × Int) := (l.filter fun o => decide (s < o) && decide (cnt lo hi s < cnt lo hi o)).map fun o => (s, o)
def oooP (lo hi : Int) (l : List Int) : List (Int × Int) := l.flatMap fun s => rowP lo hi s steps
theorem div_part (a b k : Int) (h : 1 ≤ k) (r : b ≤ a) : a / k - b / k ≤ a - b := by
  have e1 := Int.emod_add_mul_ediv a k
  have e2 := Int.emod_add_mul_ediv b k
  have r1 := Int.emod_nonneg a (show k ≠ 0 by omega)
  have r2 := Int.emod_lt_of_pos b (show 0 < k by omega)
  have r3 := Int.emod_nonneg b (show k ≠ 0 by omega)
  have m : b / k ≤ a / k := Int.ediv_le_ediv (by omega) r
  generalize a / k = p at *
  generalize b / k = q at *
  generalize a % k = x at *
  generalize b % k = y at *
  have e : k * p = k * q + k * (p - q) := by rw [← Int.mul_add]; congr 1; omega
  have z : (p - q) ≤ k * (p - q) := by
    have := Int.mul_le_mul_of_nonneg_right h (show 0 ≤ p - q by omega)
    omega
  by_cases c : p = q
  · omega
  · have z2 : k - 1 + (p - q) ≤ k * (p - q) := by
      have u : 0 ≤ (k - 1) * (p - q - 1) := Int.mul_nonneg (by omega) (by omega)
      rw [Int.mul_sub, Int.sub_mul, Int.mul_one] at u
      omega
    omega
theorem cnt_mult (lo hi st k : Int) (h : 0 < st) (hk : 1 ≤ k) (r : lo ≤ hi + 1) : cnt lo hi (st * k) ≤ cnt lo hi st := by
  unfold cnt
  rw [← Int.ediv_ediv_of_nonneg (by omega), ← Int.ediv_ediv_of_nonneg (by omega)]
  exact div_part _ _ k hk (Int.ediv_le_ediv h (by omega))
theorem ooo_odd {lo hi s o : Int} (h : 0 < s) (ho : s < o) (c : cnt lo hi s < cnt lo hi o) (r : lo ≤ hi + 1) : ¬ o % s = 0 := fun e => by
  have d := Int.emod_add_mul_ediv o s
  rw [e] at d
  have k1 : 1 ≤ o / s := Int.ediv_pos_of_pos_of_dvd (by omega) (by omega) (Int.dvd_of_emod_eq_zero e)
  have := cnt_mult lo hi s (o / s) h k1 r
  have e2 : s * (o / s) = o := by omega
  rw [e2] at this
  omega
theorem pg_tupK {X : Cx} {K : PySem.W.Frag} {es : List Expr} {kk : Nat} {t : TGs} {n : Nat} {pos : Pos} (e : X.K = K) (hc : X.calm = true) (h : PGs X es t)
    (hn : (PySem.assignEach es X.env).length = n := by rfl) (hst : (PySem.assignEach es X.env).findIdx? (·.1) = none := by rfl) : PG X (.Tuple es kk pos) (gTup K n t) := e ▸ pg_tup hc h hn hst
theorem near_ex (g : Int → Int) : ∀ l : List Int, l = [] ∨ ∃ z, Near g l z
  | [] => .inl rfl
  | y :: l => .inr (by
    rcases near_ex g l with rfl | ⟨z, hz⟩
    · exact ⟨y, near_one g y⟩
    · by_cases c : g z < g y
      · obtain ⟨pre, post, rfl, h1, h2⟩ := hz
        refine ⟨z, y :: pre, post, rfl, fun x hx => ?_, h2⟩
        rcases List.mem_cons.mp hx with rfl | hx
        · exact c
        · exact h1 x hx
      · refine ⟨y, [], l, rfl, fun _ h => absurd h List.not_mem_nil, fun x hx => ?_⟩
        have := near_le hz x hx
        omega)
theorem near_same {g : Int → Int} {l : List Int} {s z : Int} (h1 : Near g l s) (h2 : Near g l z) : g s = g z := Int.le_antisymm (near_le h1 z (near_mem h2)) (near_le h2 s (near_mem h1))
theorem cntP_fst (lo hi : Int) (p : Int × Int → Bool) : ((cntP lo hi).filter p).map Prod.fst = steps.filter fun s => p (s, cnt lo hi s) := by
  unfold cntP
  rw [List.filter_map, List.map_map]
  have e : (Prod.fst ∘ fun s => (s, cnt lo hi s)) = id := by
    funext s
    rfl
  rw [e, List.map_id]
  rfl
theorem cntP_map (lo hi : Int) (f : Int × Int → Int) : ((cntP lo hi).filter fun _ => true).map f = steps.map fun s => f (s, cnt lo hi s) := by
  rw [filter_yes]
  unfold cntP
  rw [List.map_map]
  rfl
theorem cntP_len (lo hi : Int) : (cntP lo hi).length = 18 := rfl
theorem cntP_mem {lo hi : Int} {q : Int × Int} (h : q ∈ cntP lo hi) : q.1 ∈ steps ∧ q.2 = cnt lo hi q.1 := by
  obtain ⟨s, hs, rfl⟩ := List.mem_map.mp h
  exact ⟨hs, rfl⟩
section
variable {K : PySem.W.Frag} {H H1 H' : Hp} {σ : L2.St} {Q : VK} {tt : TT} {te : TE} {a d n : Addr}
/-- over a list of pairs, by one name -/
theorem lc_pairN {ps : List (Int × Int)} {vs : List V} {ix : Nat} {p : Int × Int → Bool} {f : Int × Int → PyData} (hz : ps.length ≤ 1000000) (hs : SqL K H1 a vs) (da : DpAll K H1 vs (ps.map pairD)) (hn : ∀ q, q ∈ ps → noList (f q) = true)
    (ht : ∀ b x y H2 (Qt : Bool → Hp → Prop), (x, y) ∈ ps → Same H1 H2 → SqT K H2 b [.int x, .int y] → (∀ H3, Same H2 H3 → Qt (p (x, y)) H3) → tt ((wipe σ [ix]).set ix (some (.ref b))) H2 Qt)
    (he : ∀ b x y H2 (Q' : VK), (x, y) ∈ ps → p (x, y) = true → Same H1 H2 → SqT K H2 b [.int x, .int y] → (∀ v H3, Same H2 H3 → Dp K H3 v (f (x, y)) → Q' v H3) → te ((wipe σ [ix]).set ix (some (.ref b))) H2 Q')
    (hd : ∀ D H' us, Same H1 H' → H1 D = none → H' D = some (.lst us) → DpAll K H' us ((ps.filter p).map f) → Q (.ref D) H') : LcG (Itl K a) (gName ix) tt te [ix] σ H1 Q := by
  have w := walk_list (K := K) (xs := vs) (a := a)
  have len := dpa_len da
  rw [List.length_map] at len
  rw [len] at w
  have at_ : ∀ i, i < ps.length → ∃ b, vs.getD i .non = .ref b ∧ SqT K H1 b [.int (ps.getD i default).1, .int (ps.getD i default).2] := fun i hi => by
    obtain ⟨v, hv, dv⟩ := dpa_get da (i := i) (d := pairD (ps.getD i default)) (by rw [List.getElem?_map, (getD_mem ps hi).1]; rfl)
    obtain ⟨b, rfl, sb⟩ := dp_pair dv
    refine ⟨b, ?_, sb⟩
    rw [List.getD_eq_getElem?_getD, hv]
    rfl
  refine lc_coreG (K := K) (n := ps.length) (Z := fun i => (wipe σ [ix]).set ix (some (vs.getD i .non))) (p := fun i => p (ps.getD i default)) (f := fun i => f (ps.getD i default)) w hz (fun i hi => hn _ (getD_mem ps hi).2) (fun _ s => Same.seq s hs) (fun i H x H' y => by rw [y.1]; exact Same.refl _) (fun i => wipe_one σ ix _) ?_
    (fun i H2 Qt hi s q => ?_) (fun i H2 Q' hi hp s q => ?_) fun D H' us s n e da => hd D H' us s n e ?_
  · rintro i x H2 H3 Q' hi s ⟨rfl, y⟩ q
    rw [List.getD_eq_getElem?_getD, y] at q
    exact q
  · obtain ⟨b, e, sb⟩ := at_ i hi
    rw [e]
    exact ht b _ _ H2 Qt (getD_mem ps hi).2 s (Same.seqT s sb) q
  · obtain ⟨b, e, sb⟩ := at_ i hi
    rw [e]
    exact he b _ _ H2 Q' (getD_mem ps hi).2 hp s (Same.seqT s sb) q
  · rw [range_getP ps f p] at da
    exact da
theorem noPairs (l : List (Int × Int)) : noLists (l.map pairD) = true := noLists_of fun d hd => by
  obtain ⟨q, _, rfl⟩ := List.mem_map.mp hd
  rfl
theorem Kp.pairs {us : List V} {l : List (Int × Int)} (k : Kp d n H H') (r : Dr H d n) (h : DpAll K H us (l.map pairD)) : DpAll K H' us (l.map pairD) := dpa_tups (fun _ _ q => Kp.seqT k r q) _ _ (noPairs l) h
/-- the i-th pair -/
theorem pair_at {us : List V} {l : List (Int × Int)} {i : Nat} {q : Int × Int} (h : DpAll K H us (l.map pairD)) (e : l[i]? = some q) : ∃ b, us[i]? = some (.ref b) ∧ SqT K H b [.int q.1, .int q.2] := by
  obtain ⟨v, hv, dv⟩ := dpa_get h (i := i) (d := pairD q) (by rw [List.getElem?_map, e]; rfl)
  obtain ⟨b, rfl, sb⟩ := dp_pair dv
  exact ⟨b, hv, sb⟩
end
theorem row_len (lo hi y : Int) : (rowP lo hi y steps).length ≤ 18 := by
  have h : (rowP lo hi y steps).length ≤ steps.length := by
    unfold rowP
    rw [List.length_map]
    exact List.length_filter_le _ _
  exact h
theorem ooo_len (lo hi : Int) : ∀ l : List Int, (oooP lo hi l).length ≤ 18 * l.length
  | [] => Nat.le_refl _
  | y :: t => by
    have e : oooP lo hi (y :: t) = rowP lo hi y steps ++ oooP lo hi t := rfl
    have h1 := row_len lo hi y
    have h2 := ooo_len lo hi t
    rw [e, List.length_append, List.length_cons]
    omega
theorem ooo_all (lo hi : Int) : (oooP lo hi steps).length ≤ 324 := ooo_len lo hi steps
theorem ooo_mem {lo hi : Int} {q : Int × Int} (hq : q ∈ oooP lo hi steps) : q.1 ∈ steps ∧ q.2 ∈ steps ∧ q.1 < q.2 ∧ cnt lo hi q.1 < cnt lo hi q.2 := by
  obtain ⟨s, hs, hq⟩ := List.mem_flatMap.mp hq
  obtain ⟨o, ho, rfl⟩ := List.mem_map.mp hq
  obtain ⟨h1, h2⟩ := List.mem_filter.mp ho
  rw [Bool.and_eq_true, decide_eq_true_eq, decide_eq_true_eq] at h2
  exact ⟨hs, h1, h2.1, h2.2⟩
/-- the cut, what follows being opaque -/
theorem r_cutN {t u : TS} {D : Ends} {σ : L2.St} {H : Hp} (rest : ∀ H', Same H H' → u D σ H') (h : ∀ N : L2.St → Hp → Prop, (∀ H', Same H H' → N σ H') → t { D with nx := N } σ H) : tSeq t u D σ H := h (u D) rest
theorem r_cutNS {t u : TS} {D : Ends} {σ : L2.St} {H : Hp} (S : L2.St → Prop) (rest : ∀ σ' H', S σ' → Same H H' → u D σ' H') (h : ∀ N : L2.St → Hp → Prop, (∀ σ' H', S σ' → Same H H' → N σ' H') → t { D with nx := N } σ H) : tSeq t u D σ H := h (u D) rest
/-! ### the greatest common divisor of two steps, by turns -/
def gst (p : Int × Int) : Int × Int := if p.2 = 0 then p else (p.2, p.1 % p.2)
def gsi : Nat → Int × Int → Int × Int
  | 0, p => p
  | n + 1, p => gst (gsi n p)
theorem gsi_all : (steps.all fun s => steps.all fun o => ((List.range 31).all fun j => decide (0 < (gsi j (s, o)).1 ∧ (gsi j (s, o)).1 ≤ 500000 ∧ 0 ≤ (gsi j (s, o)).2 ∧ (gsi j (s, o)).2 ≤ 500000)) && decide ((gsi 30 (s, o)).2 = 0 ∧ s * o % (gsi 30 (s, o)).1 = 0 ∧ s * o / (gsi 30 (s, o)).1 % s = 0 ∧ s * o / (gsi 30 (s, o)).1 % o = 0 ∧ 0 < s * o / (gsi 30 (s, o)).1 ∧ s * o / (gsi 30 (s, o)).1 ≤ 1000000)) = true := by decide +kernel
theorem gsi_pair {s o : Int} (hs : s ∈ steps) (ho : o ∈ steps) : (∀ j, j ≤ 30 → 0 < (gsi j (s, o)).1 ∧ (gsi j (s, o)).1 ≤ 500000 ∧ 0 ≤ (gsi j (s, o)).2 ∧ (gsi j (s, o)).2 ≤ 500000) ∧ (gsi 30 (s, o)).2 = 0 ∧ s * o % (gsi 30 (s, o)).1 = 0 ∧ s * o / (gsi 30 (s, o)).1 % s = 0 ∧ s * o / (gsi 30 (s, o)).1 % o = 0 ∧ 0 < s * o / (gsi 30 (s, o)).1 ∧ s * o / (gsi 30 (s, o)).1 ≤ 1000000 := by
  have h := List.all_eq_true.mp (List.all_eq_true.mp gsi_all s hs) o ho
  rw [Bool.and_eq_true] at h
  exact ⟨fun j hj => of_decide_eq_true (List.all_eq_true.mp h.1 j (List.mem_range.mpr (by omega))), of_decide_eq_true h.2⟩
/-- the least common multiple of two steps -/
def lcmS (s o : Int) : Int := s * o / (gsi 30 (s, o)).1
theorem gsi_fix {p : Int × Int} {j : Nat} (h : (gsi j p).2 = 0) : ∀ d, gsi (j + d) p = gsi j p
  | 0 => rfl
  | d + 1 => by
    have e : gsi (j + (d + 1)) p = gst (gsi (j + d) p) := rfl
    rw [e, gsi_fix h d]
    unfold gst
    rw [if_pos h]
/-- a multiple of a step has a part of its marks, rounded down or up -/
theorem cnt_part (lo hi s k : Int) (h : 0 < s) (hk : 0 < k) : cnt lo hi (s * k) = cnt lo hi s / k ∨ cnt lo hi (s * k) = (cnt lo hi s + k - 1) / k := by
  have e1 : hi / (s * k) = hi / s / k := (Int.ediv_ediv_of_nonneg (by omega)).symm
  have e2 : (lo - 1) / (s * k) = (lo - 1) / s / k := (Int.ediv_ediv_of_nonneg (by omega)).symm
  unfold cnt
  rw [e1, e2]
  generalize hi / s = a
  generalize (lo - 1) / s = b
  have a1 := Int.emod_add_mul_ediv a k
  have a2 := Int.emod_nonneg a (show k ≠ 0 by omega)
  have a3 := Int.emod_lt_of_pos a hk
  have b1 := Int.emod_add_mul_ediv b k
  have b2 := Int.emod_nonneg b (show k ≠ 0 by omega)
  have b3 := Int.emod_lt_of_pos b hk
  generalize a / k = p at *
  generalize b / k = q at *
  generalize a % k = x at *
  generalize b % k = y at *
  have e : k * (p - q) = k * p - k * q := Int.mul_sub _ _ _
  by_cases c : y ≤ x
  · left
    have u := (Int.ediv_emod_unique hk (a := a - b) (q := p - q) (r := x - y)).mpr ⟨by omega, by omega, by omega⟩
    exact u.1.symm
  · right
    have u := (Int.ediv_emod_unique hk (a := a - b + k - 1) (q := p - q) (r := x - y + k - 1)).mpr ⟨by omega, by omega, by omega⟩
    exact u.1.symm
/-! ### dicts with whole numbers as keys -/
section
variable {H : Hp} {Q : VK} {σ : L2.St} {D : Ends} {a : Addr} {td ty tv : TE} {kvs : List (Key × V)} {i : Int} {v w : V}
def DgG (x y : V) (Q : VK) (H : Hp) : Prop := ∃ a v, x = .ref a ∧ DGet H a y (some v) ∧ Q v H
theorem r_dget (h : td σ H fun x H1 => ty σ H1 fun y H2 => DgG x y Q H2) : tDGet td ty σ H Q := h
theorem r_dgI (e : H a = some (.dK kvs)) (q : valV kvs (Sum.inl i) = some w) (h : Q w H) : DgG (.ref a) (.int i) Q H := ⟨a, w, rfl, by rw [← q]; exact DGet.k (k := Sum.inl i) e, h⟩
def DpG (x y v : V) (D : Ends) (σ : L2.St) (H : Hp) : Prop := ∃ a H4, x = .ref a ∧ DPut H a y v H4 ∧ D.nx σ H4
theorem r_dput (h : tv σ H fun v H1 => td σ H1 fun x H2 => ty σ H2 fun y H3 => DpG x y v D σ H3) : sDPut td ty tv D σ H := h
theorem r_dpI (e : H a = some (.dK kvs)) (hl : kvs.length ≤ 1000000) (h : D.nx σ (upd H a (.dK (putK kvs (Sum.inl i) v)))) : DpG (.ref a) (.int i) v D σ H := ⟨a, _, rfl, DPut.k (k := Sum.inl i) e (by rw [sizeLine_eq]; omega), h⟩
theorem r_dnew (h : ∀ p, H p = none → Q (.ref p) (upd H p (.dK []))) : tDNewK σ H Q := h
/-- a table over a list of numbers -/
def tabK (g : Int → V) (l : List Int) : List (Key × V) := l.map fun s => (Sum.inl s, g s)
theorem tabK_val (g : Int → V) (s : Int) : ∀ l : List Int, valV (tabK g l) (Sum.inl s) = if s ∈ l then some (g s) else none
  | [] => rfl
  | y :: r => by
    have ih := tabK_val g s r
    show valV ((Sum.inl y, g y) :: tabK g r) (Sum.inl s) = _
    by_cases c : y = s
    · subst c
      rw [valV_pos rfl, if_pos List.mem_cons_self]
    · rw [valV_neg (fun z => c (Sum.inl.inj z)), ih]
      by_cases d : s ∈ r
      · rw [if_pos d, if_pos (List.mem_cons_of_mem _ d)]
      · rw [if_neg d, if_neg (fun z => by rcases List.mem_cons.mp z with z | z; exact c z.symm; exact d z)]
theorem tabK_put (g : Int → V) (s : Int) (l : List Int) (h : s ∉ l) : putK (tabK g l) (Sum.inl s) (g s) = tabK g (l ++ [s]) := by
  have e : ((tabK g l).any fun kv => decide (kv.1 = Sum.inl s)) = false := by
    rw [valV_any, tabK_val, if_neg h]
    rfl
  unfold putK
  rw [if_neg (by rw [e]; decide)]
  unfold tabK
  rw [List.map_append]
  rfl
end
theorem r_notInT {K : PySem.W.Frag} {H : Hp} {Q : VK} {p : Addr} {i : Int} {ns : List Int} (s : SqT K H p (ns.map V.int)) (h : Q (.bl (!decide (i ∈ ns))) H) : rIn K true (.int i) (.ref p) H Q := ⟨p, _, rfl, .inr s, rfl, flat_ints ns, by
  show Q (.bl (!inV (.int i) (ns.map V.int))) H
  rw [inV_ints]
  exact h⟩
theorem cntP_over (lo hi : Int) : cntP (-hi) (-lo) = cntP lo hi := by
  unfold cntP
  refine List.map_congr_left fun s hs => ?_
  rw [cnt_over lo hi s (by have := (step_bounds s hs).1; omega)]
theorem cnt_one (lo hi : Int) : cnt lo hi 1 = hi - lo + 1 := by
  unfold cnt
  rw [Int.ediv_one, Int.ediv_one]
  omega
theorem cnt_between (lo w s : Int) (h : 0 < s) (hw : 0 ≤ w) : (w + 1) / s ≤ cnt lo (lo + w) s ∧ cnt lo (lo + w) s ≤ w / s + 1 := by
  refine win_le lo w s h hw _ (List.mem_map.mpr ⟨0, List.mem_range.mpr (by omega), ?_⟩)
  have e : lo + ((0 : Nat) : Int) = lo := by omega
  rw [e]
/-! ### a heap that changed at one dict only -/
section
variable {K : PySem.W.Frag} {H H1 H' : Hp} {kd a d n : Addr} {kvs : List (Key × V)} {xs : List V} {o : HO}
def Off (kd : Addr) (H H' : Hp) : Prop := ∀ b o, H b = some o → b ≠ kd → H' b = some o
theorem Off.refl : Off kd H H := fun _ _ e _ => e
theorem Off.put (k : Off kd H H') : Off kd H (upd H' kd o) := fun b u e ne => by
  rw [upd_ne ne]
  exact k b u e ne
theorem Off.same (k : Off kd H H1) (s : Same H1 H') : Off kd H H' := fun b u e ne => s _ _ (k b u e ne)
theorem Off.seqT (k : Off kd H H') (e : H kd = some (.dK kvs)) (h : SqT K H a xs) : SqT K H' a xs := by
  have ne : ∀ u, H a = some u → (∀ ws, u ≠ .dK ws) → H' a = some u := fun u e1 z => k a u e1 (ne_of e1 e (z _))
  rcases h with (h | ⟨o, h⟩) | h
  · exact .inl (.inl (ne _ h fun _ z => by cases z))
  · exact .inl (.inr ⟨o, ne _ h fun _ z => by cases z⟩)
  · exact .inr h
theorem Off.seqL (k : Off kd H H') (e : H kd = some (.dK kvs)) (h : SqL K H a xs) : SqL K H' a xs := by
  have ne : ∀ u, H a = some u → (∀ ws, u ≠ .dK ws) → H' a = some u := fun u e1 z => k a u e1 (ne_of e1 e (z _))
  rcases h with (h | ⟨o, h⟩) | h
  · exact .inl (.inl (ne _ h fun _ z => by cases z))
  · exact .inl (.inr ⟨o, ne _ h fun _ z => by cases z⟩)
  · exact .inr h
theorem Off.dr (k : Off kd H H') (e : H kd = some (.dK kvs)) (h : Dr H d n) : Dr H' d n := by
  obtain ⟨ns, c, e1, e2, h1, h2⟩ := h
  exact ⟨ns, c, k _ _ e1 (ne_of e1 e fun z => by cases z), k _ _ e2 (ne_of e2 e fun z => by cases z), h1, h2⟩
end
theorem take_not {i : Nat} {st : Int} (e : steps[i]? = some st) : st ∉ steps.take i := fun h => by
  obtain ⟨j, hj, q⟩ := List.mem_iff_getElem.mp h
  rw [List.length_take] at hj
  rw [List.getElem_take] at q
  have e2 : steps[j]? = some st := by rw [List.getElem?_eq_getElem (by omega), q]
  have := nd_ix (show steps.Nodup by decide) e2 e
  omega
/-! ### zip of two lists of whole numbers -/
section
variable {K : PySem.W.Frag} {H H1 H' : Hp} {σ : L2.St} {Q : VK} {tt : TT} {te : TE} {a b : Addr} {ta : TA} {R : It → Hp → Prop}
def ZipG (K : PySem.W.Frag) (vs : List V) (R : It → Hp → Prop) (H1 : Hp) : Prop := ∃ a b xs ys, vs = [.ref a, .ref b] ∧ SqL K H1 a xs ∧ SqL K H1 b ys ∧ R (Itz K a b) H1
theorem r_iZip (h : ta σ H fun vs H1 => ZipG K vs R H1) : iZip K ta σ H R := h
theorem r_zip {xs ys : List V} (s : SqL K H a xs) (t : SqL K H b ys) (h : R (Itz K a b) H) : ZipG K [.ref a, .ref b] R H := ⟨a, b, xs, ys, rfl, s, t, h⟩
/-- over zip(xs, ys): [e for x, y in zip(xs, ys) if t] -/
theorem lc_zipD {xs ys : List Int} {n ix jx : Nat} {p : Int × Int → Bool} {f : Int × Int → PyData} (hn' : n = min xs.length ys.length) (ne : ix ≠ jx) (hz : n ≤ 1000000) (hs : SqL K H1 a (xs.map V.int)) (hs2 : SqL K H1 b (ys.map V.int)) (hn : ∀ q, noList (f q) = true)
    (ht : ∀ (i : Nat) x y H2 (Qt : Bool → Hp → Prop), xs[i]? = some x → ys[i]? = some y → Same H1 H2 → (∀ H3, Same H2 H3 → Qt (p (x, y)) H3) → tt (((wipe σ [ix, jx]).set ix (some (.int x))).set jx (some (.int y))) H2 Qt)
    (he : ∀ (i : Nat) x y H2 (Q' : VK), xs[i]? = some x → ys[i]? = some y → p (x, y) = true → Same H1 H2 → (∀ v H3, Same H2 H3 → Dp K H3 v (f (x, y)) → Q' v H3) → te (((wipe σ [ix, jx]).set ix (some (.int x))).set jx (some (.int y))) H2 Q')
    (hd : ∀ D H' us, Same H1 H' → H1 D = none → H' D = some (.lst us) → DpAll K H' us (((xs.zip ys).filter p).map f) → Q (.ref D) H') : LcG (Itz K a b) (gTup K 2 (gCons (gName ix) (gCons (gName jx) gNil))) tt te [ix, jx] σ H1 Q := by
  have w := walk_zip (K := K) (xs := xs.map V.int) (ys := ys.map V.int) (a := a) (b := b) (n := n) (by rw [List.length_map, List.length_map]; exact hn')
  have zl : (xs.zip ys).length = n := by rw [List.length_zip, hn']
  have g : ∀ i, i < n → xs[i]? = some ((xs.zip ys).getD i default).1 ∧ ys[i]? = some ((xs.zip ys).getD i default).2 := fun i hi => by
    have e := (getD_mem (xs.zip ys) (i := i) (by omega)).1
    have := List.getElem?_zip_eq_some.mp e
    exact this
  refine lc_coreG (K := K) (n := n) (Z := fun i => ((wipe σ [ix, jx]).set ix (some (.int ((xs.zip ys).getD i default).1))).set jx (some (.int ((xs.zip ys).getD i default).2))) (p := fun i => p ((xs.zip ys).getD i default)) (f := fun i => f ((xs.zip ys).getD i default)) w hz (fun i hi => hn _) (fun _ s => ⟨Same.seq s hs, Same.seq s hs2⟩) ?_ (fun i => wipe_two σ ix jx _ _ ne) ?_
    (fun i H2 Qt hi => ht i _ _ H2 Qt (g i hi).1 (g i hi).2) (fun i H2 Q' hi => he i _ _ H2 Q' (g i hi).1 (g i hi).2) fun D H' us s n e da => hd D H' us s n e ?_
  · rintro i H x H' ⟨T, u, v, rfl, nT, rfl, _, _⟩
    exact same_new nT
  · rintro i x H2 H3 Q' hi s ⟨T, u, v, rfl, nT, rfl, e1, e2⟩ q
    dsimp only at e1 e2
    rw [List.getElem?_map, (g i hi).1] at e1
    rw [List.getElem?_map, (g i hi).2] at e2
    cases e1
    cases e2
    exact r_gtup2 (SqT.of upd_same) q
  · have := range_getP (xs.zip ys) f p
    rw [zl] at this
    rw [this] at da
    exact da
end
section
variable {K : PySem.W.Frag} {H : Hp} {Q : VK} {a : Addr} {xs : List V} {bs : List Bool}
theorem r_isLsL (s : SqL K H a xs) (h : Q (.bl true) H) : rIsi K [.ref a, .ty "list"] H Q := r_isi (.ty _) (tyx_L s) kit_tt h
theorem r_allB (s : SqL K H a (bs.map V.bl)) (h : Q (.bl (bs.all id)) H) : rAll K [.ref a] H Q := ⟨a, bs, rfl, s, h⟩
end
/-! ### slices of lists -/
section
variable {K : PySem.W.Frag} {H : Hp} {Q : VK} {σ : L2.St} {a : Addr} {xs : List V} {te : TE} {tl th : TO} {r : V → Option Int → Option Int → Hp → VK → Prop} {Qo : Option Int → Hp → Prop}
theorem r_sl (h : te σ H fun x H1 => tl σ H1 fun l H2 => th σ H2 fun u H3 => r x l u H3 Q) : L2.tSl r te tl th σ H Q := h
theorem r_noPart (h : Qo none H) : tNoPart σ H Qo := h
def PartG (x : V) (Qo : Option Int → Hp → Prop) (H : Hp) : Prop := ∃ i, x = .int i ∧ Qo (some i) H
theorem r_part (h : te σ H fun x H1 => PartG x Qo H1) : tPart te σ H Qo := h
theorem r_partI {i : Int} (h : Qo (some i) H) : PartG (.int i) Qo H := ⟨i, rfl, h⟩
theorem r_slL {lo hi : Option Int} (s : SqL K H a xs) (h : ∀ p, H p = none → Q (.ref p) (upd H p (.lst (cutV xs lo hi)))) : rSlL K (.ref a) lo hi H Q := ⟨a, xs, rfl, s, h⟩
theorem cut_tail (xs : List V) : cutV xs (some 1) none = xs.drop 1 := by
  unfold cutV
  cases xs with
  | nil => simp
  | cons x r =>
    have e1 : HT.sIx (x :: r).length 0 (some 1) = 1 := by
      unfold HT.sIx
      simp
    have e2 : HT.sIx (x :: r).length (x :: r).length none = (x :: r).length := rfl
    rw [e1, e2]
    exact List.take_of_length_le (by rw [List.length_drop]; exact Nat.le_refl _)
end
/-! ### comprehensions that give truth values -/
section
variable {K : PySem.W.Frag} {H H1 H' : Hp} {σ : L2.St} {Q : VK} {te : TE} {a b : Addr}
theorem all_map {α : Type} (f : α → Bool) (l : List α) : (l.map f).all id = l.all f := by
  rw [List.all_map]
  rfl
theorem lc_intsB {ns : List Int} {ix : Nat} {f : Int → Bool} (hz : ns.length ≤ 1000000) (hs : SqL K H1 a (ns.map V.int))
    (he : ∀ i H2 (Q' : VK), i ∈ ns → Same H1 H2 → (∀ H3, Same H2 H3 → Q' (.bl (f i)) H3) → te ((wipe σ [ix]).set ix (some (.int i))) H2 Q')
    (hd : ∀ D H', Same H1 H' → H1 D = none → H' D = some (.lst ((ns.map f).map V.bl)) → Q (.ref D) H') : LcG (Itl K a) (gName ix) tYes te [ix] σ H1 Q :=
  lc_intsM (f := fun x => .bl (f x)) hz hs he fun D H' s n e => hd D H' s n (by rw [e, List.map_map]; rfl)
theorem dpa_bools_inv : ∀ {bs : List Bool} {vs : List V}, DpAll K H vs (bs.map PyData.bool) → vs = bs.map V.bl
  | [], _, h => by cases h; rfl
  | i :: r, _, h => by
    cases h with
    | cons q t =>
      cases q
      rw [dpa_bools_inv t]
      rfl
theorem lc_zipB {xs ys : List Int} {ix jx : Nat} {f : Int × Int → Bool} (ne : ix ≠ jx) (hz : xs.length ≤ 1000000) (hs : SqL K H1 a (xs.map V.int)) (hs2 : SqL K H1 b (ys.map V.int))
    (he : ∀ (i : Nat) x y H2 (Q' : VK), xs[i]? = some x → ys[i]? = some y → Same H1 H2 → (∀ H3, Same H2 H3 → Q' (.bl (f (x, y))) H3) → te (((wipe σ [ix, jx]).set ix (some (.int x))).set jx (some (.int y))) H2 Q')
    (hd : ∀ D H', Same H1 H' → H1 D = none → H' D = some (.lst (((xs.zip ys).map f).map V.bl)) → Q (.ref D) H') : LcG (Itz K a b) (gTup K 2 (gCons (gName ix) (gCons (gName jx) gNil))) tYes te [ix, jx] σ H1 Q :=
  lc_zipD (p := fun _ => true) (f := fun q => .bool (f q)) (n := min xs.length ys.length) rfl ne (Nat.le_trans (Nat.min_le_left _ _) hz) hs hs2 (fun _ => rfl) (fun i x y H3 Qt e1 e2 s3 q => q _ (Same.refl _)) (fun i x y H3 Q' e1 e2 _ s3 q => he i x y H3 Q' e1 e2 s3 fun H4 s4 => q _ H4 s4 (.bl _)) fun D H' us s n e d => hd D H' s n (by
    rw [filter_yes] at d
    have e2 : (xs.zip ys).map (fun q => PyData.bool (f q)) = ((xs.zip ys).map f).map PyData.bool := by
      rw [List.map_map]
      rfl
    rw [e2] at d
    rw [e, dpa_bools_inv d])
end
end Ax
/-! ### ranges with a step, tuples of four, rows -/
namespace Ax
open PySem PySem.Spec PyProof.Rows L2
/-- a def that goes by another global name -/
structure DfA (K : PySem.W.Frag) (mg : Str → Option Value) (gn x : Str) (st : Stmt) (ps : List Str) : Type where
  f : Addr
  fd : FuncData
  F : Fun K x x st f fd
  g : mg gn = some (.ref f)
  b : Binds K fd ps []
section
variable {K : PySem.W.Frag} {H H1 : Hp} {σ : L2.St} {Q : VK} {p a : Addr} {x y z u : V} {i j l m : Nat} {ta : TA} {R : It → Hp → Prop} {vs : List V}
theorem r_gtup4 {Q : L2.St → Hp → Prop} (s : SqT K H p [x, y, z, u]) (h : Q ((((σ.set i (some x)).set j (some y)).set l (some z)).set m (some u)) H) : gTup K 4 (gCons (gName i) (gCons (gName j) (gCons (gName l) (gCons (gName m) gNil)))) (.ref p) σ H Q := ⟨p, _, rfl, s, rfl, x, _, rfl, y, _, rfl, z, _, rfl, u, _, rfl, rfl, h⟩
def Rn3 (vs : List V) (R : It → Hp → Prop) (H1 : Hp) : Prop := ∃ (i j c : Int) (n : Nat), vs = [.int i, .int j, .int c] ∧ RgC i j c n ∧ R (Itc i c n) H1
theorem r_iR3 (h : ta σ H fun vs H1 => Rn3 vs R H1) : iRng3 ta σ H R := h
theorem r_rn3 {i j c : Int} {n : Nat} (b : RgC i j c n) (h : R (Itc i c n) H1) : Rn3 [.int i, .int j, .int c] R H1 := ⟨i, j, c, n, rfl, b, h⟩
end
/-- how many numbers range(i, j, c) has, c positive -/
def rgN (i j c : Int) : Nat := (if i < j then (j - i - 1) / c + 1 else 0).toNat
def rgS (i j c : Int) : List Int := (List.range (rgN i j c)).map fun (k : Nat) => i + (k : Int) * c
theorem rgN_le {i j c : Int} (hc : 1 ≤ c) : (rgN i j c : Int) ≤ max 0 (j - i) := by
  unfold rgN
  split
  · have h1 : (j - i - 1) / c ≤ j - i - 1 := Int.ediv_le_self _ (by omega)
    omega
  · omega
theorem rgc_pos {i j c : Int} (hc : 1 ≤ c) (hc2 : c ≤ 1000000) (hi : -4000000 ≤ i ∧ i ≤ 4000000) (hj : -4000000 ≤ j ∧ j ≤ 4000000) : RgC i j c (rgN i j c) := by
  have e : Builtin.Range.rangeSize i j c = (rgN i j c : Int) := by
    unfold Builtin.Range.rangeSize rgN
    rw [if_pos (show c > 0 by omega)]
    by_cases h : i < j
    · rw [if_pos h]
      have h1 : 0 ≤ (j - i - 1) / c := Int.ediv_nonneg (by omega) (by omega)
      omega
    · rw [if_neg h]
      rfl
  have le := rgN_le (i := i) (j := j) hc
  refine ⟨by omega, by omega, ?_, e⟩
  unfold Builtin.Range.small Builtin.Range.rangeFitsLong
  rw [e, if_pos (show c > 0 by omega)]
  simp only [Bool.and_eq_true, Bool.or_eq_true, decide_eq_true_eq]
  exact ⟨⟨⟨⟨⟨by omega, by omega⟩, by omega, by omega⟩, by omega, by omega⟩, by omega, by omega⟩, .inr ⟨by omega, by omega⟩⟩
section
variable {K : PySem.W.Frag} {H1 : Hp} {σ : L2.St} {Q : VK} {tt : TT} {te : TE}
/-- over range(lo, .., c) -/
theorem lc_rngC {lo c : Int} {n ix : Nat} {p : Nat → Bool} {f : Nat → V} (hz : n ≤ 1000000)
    (ht : ∀ i H2 (Qt : Bool → Hp → Prop), i < n → Same H1 H2 → (∀ H3, Same H2 H3 → Qt (p i) H3) → tt ((wipe σ [ix]).set ix (some (.int (lo + (i : Nat) * c)))) H2 Qt)
    (he : ∀ i H2 (Q' : VK), i < n → p i = true → Same H1 H2 → (∀ H3, Same H2 H3 → Q' (f i) H3) → te ((wipe σ [ix]).set ix (some (.int (lo + (i : Nat) * c)))) H2 Q')
    (hd : ∀ D H', Same H1 H' → H1 D = none → H' D = some (.lst (((List.range n).filter p).map f)) → Q (.ref D) H') : LcG (Itc lo c n) (gName ix) tt te [ix] σ H1 Q :=
  lc_core' (Y := fun i => .int (lo + (i : Nat) * c)) (walk_rangeC.mono (fun _ h => h) fun _ _ _ _ _ _ y => y) hz (fun _ _ => trivial) ht he hd
theorem lc_rngCM {lo c : Int} {n ix : Nat} {f : Nat → V} (hz : n ≤ 1000000)
    (he : ∀ i H2 (Q' : VK), i < n → Same H1 H2 → (∀ H3, Same H2 H3 → Q' (f i) H3) → te ((wipe σ [ix]).set ix (some (.int (lo + (i : Nat) * c)))) H2 Q')
    (hd : ∀ D H', Same H1 H' → H1 D = none → H' D = some (.lst ((List.range n).map f)) → Q (.ref D) H') : LcG (Itc lo c n) (gName ix) tYes te [ix] σ H1 Q :=
  lc_rngC (p := fun _ => true) hz (fun _ _ _ _ _ q => q _ (Same.refl _)) (fun i H2 Q' hi _ => he i H2 Q' hi) fun D H' s n e => hd D H' s n (by rw [filter_yes] at e; exact e)
end
section
variable {X : Cx} {a b c : Expr} {ta tb tc : TE}
/-- list(range(i, j, c)), c positive -/
def tLstR3 (ta tb tc : TE) : TE := fun σ H Q => ta σ H fun x H1 => tb σ H1 fun y H2 => tc σ H2 fun z H3 => ∃ i j k, x = .int i ∧ y = .int j ∧ z = .int k ∧ (1 ≤ k ∧ k ≤ 1000000 ∧ (-4000000 ≤ i ∧ i ≤ 4000000) ∧ (-4000000 ≤ j ∧ j ≤ 4000000)) ∧ ∀ q, H3 q = none → Q (.ref q) (upd H3 q (.lst ((rgS i j k).map V.int)))
theorem pe_listR3 {p pos q pos2 : Pos} (hc : X.calm = true) (hg : Gl X "list") (hm : X.mg "list" = none) (hg2 : Gl X "range") (hm2 : X.mg "range" = none) (ha : PE X a ta) (hb : PE X b tb) (hk : PE X c tc)
    (na : starEach [a, b, c] X.env = (false, eval a X.env) :: starEach [b, c] X.env := by rfl) (nb : starEach [b, c] X.env = (false, eval b X.env) :: starEach [c] X.env := by rfl) (nc : starEach [c] X.env = (false, eval c X.env) :: starEach [] X.env := by rfl)
    (hp : (backTo q (starEach [b, c] X.env)).any (·.1) = false := by rfl) (hp2 : (backTo q (starEach [c] X.env)).any (·.1) = false := by rfl)
    (nl : starEach [.Call (.Name "range" pos2) [a, b, c] [] q] X.env = (false, eval (.Call (.Name "range" pos2) [a, b, c] [] q) X.env) :: starEach [] X.env := by rfl) :
    PE X (.Call (.Name "list" p) [.Call (.Name "range" pos2) [a, b, c] [] q] [] pos) (tLstR3 ta tb tc) := by
  refine ⟨fun pins s σ H Q I h => ?_⟩
  have mkR : wpAny (model X.prog X.w) X.A (eval (.Call (.Name "range" pos2) [a, b, c] [] q) X.env) (fun x s' => ∃ r i j k t u v H3, x = .ref r ∧ IsRange s'.heap r i j k t u v ∧ Inv X pins σ H3 s' ∧ (1 ≤ k ∧ k ≤ 1000000 ∧ (-4000000 ≤ i ∧ i ≤ 4000000) ∧ (-4000000 ≤ j ∧ j ≤ 4000000)) ∧ ∀ q, H3 q = none → Q (.ref q) (upd H3 q (.lst ((rgS i j k).map V.int)))) X.xe s := by
    refine Call_ (ld_blt I hg2 hm2 boot_range (PyProof.Rows.callWith_type1 (args_cons (thn (ha.run pins s σ H _ I h) fun v1 s1 ⟨x1, H1, I1, r1, q1⟩ => args_cons (thn (hb.run pins s1 σ H1 _ I1 q1) fun v2 s2 ⟨x2, H2, I2, r2, q2⟩ => one_arg hk I2 q2 (fun v3 s3 x3 H3 I3 r3 q3 => ?_) nc) nb) na) na hp))
    obtain ⟨i, j, k, rfl, rfl, rfl, bd, q3⟩ := q3
    obtain ⟨t1, rfl⟩ := r1
    obtain ⟨t2, rfl⟩ := r2
    obtain ⟨t3, rfl⟩ := r3
    exact call_range_3 (by omega) ⟨_, i, j, k, _, _, _, H3, rfl, IsRange.new _ _ _ _ _ _ _, I3.kept fun b u e => Heap.get?_push_of_some _ e, bd, q3⟩
  refine Call_ (ld_blt I hg hm boot_list (PyProof.Rows.callWith_type1 (args_cons (thn mkR fun x s1 ⟨r, i, j, k, t, u, v, H1, ex, hr, I1, bd, q1⟩ => args_nil ?_) nl) nl))
  subst ex
  obtain ⟨b1, b2, b3, b4⟩ := bd
  obtain ⟨g1, g2, g3, g4⟩ := rgc_pos b1 b2 b3 b4
  have le := rgN_le (i := i) (j := j) b1
  refine call_list_range (n := rgN i j k) (I1.ok.hd hc) hr g3 g4 (by omega) fun h' tk acc cc hkeep e' hi => ?_
  refine ⟨.ref s1.heap.objs.size, upd H1 s1.heap.objs.size (.lst ((rgS i j k).map V.int)), I1.laid hkeep (Nat.le_refl _) (show ObjOk X.prog X.w _ _ _ (.lst ((rgS i j k).map V.int)) from ⟨?_, acc.toList, cc, ?_, ?_⟩), rfl, q1 _ (I1.hok.fresh (Nat.le_refl _))⟩
  · unfold rgS
    rw [List.length_map, List.length_map, List.length_range, sizeLine_eq]
    omega
  · have e0 : acc.toList.length = rgN i j k := by rw [Array.length_toList]; exact hi.1
    unfold rgS
    rw [List.map_map, ← e0]
    refine vals_of_get acc.toList _ fun m u' hm' => ?_
    obtain ⟨t', rfl⟩ := hi.2 m u' (by rw [← hm', Array.getElem?_toList])
    exact ⟨t', rfl⟩
  · rw [Array.toArray_toList]
    exact e'
theorem r_lstR3 {H : Hp} {σ : L2.St} {Q : VK} (h : ta σ H fun x H1 => tb σ H1 fun y H2 => tc σ H2 fun z H3 => ∃ i j k, x = .int i ∧ y = .int j ∧ z = .int k ∧ (1 ≤ k ∧ k ≤ 1000000 ∧ (-4000000 ≤ i ∧ i ≤ 4000000) ∧ (-4000000 ≤ j ∧ j ≤ 4000000)) ∧ ∀ q, H3 q = none → Q (.ref q) (upd H3 q (.lst ((rgS i j k).map V.int)))) : tLstR3 ta tb tc σ H Q := h
end
/-! ### rows of marks -/
/-- a row of marks: ascending numbers -/
def Row (ns : List Int) : Prop := 1 ≤ ns.length ∧ ns.length ≤ 50 ∧ (∀ x, x ∈ ns → -1000000 ≤ x ∧ x ≤ 1000000) ∧ ∀ (i : Nat) x y, ns[i]? = some x → ns[i + 1]? = some y → x < y
def upB (ns : List Int) : Bool := (ns.zip (ns.drop 1)).all fun q => decide (q.1 < q.2)
def inB (ns : List Int) : Bool := ns.all fun x => decide (-1000000 ≤ x ∧ x ≤ 1000000)
theorem zip_tail_get {ns : List Int} {i : Nat} {q : Int × Int} : (ns.zip (ns.drop 1))[i]? = some q ↔ ns[i]? = some q.1 ∧ ns[i + 1]? = some q.2 := by
  rw [List.getElem?_zip_eq_some, List.getElem?_drop, Nat.add_comm 1 i]
theorem zip_tail_mem {ns : List Int} {q : Int × Int} : q ∈ ns.zip (ns.drop 1) ↔ ∃ i : Nat, ns[i]? = some q.1 ∧ ns[i + 1]? = some q.2 := by
  rw [List.mem_iff_getElem?]
  exact exists_congr fun i => zip_tail_get
theorem upB_iff {ns : List Int} : upB ns = true ↔ ∀ (i : Nat) x y, ns[i]? = some x → ns[i + 1]? = some y → x < y := by
  unfold upB
  rw [List.all_eq_true]
  constructor
  · intro h i x y e1 e2
    exact of_decide_eq_true (h (x, y) (zip_tail_mem.mpr ⟨i, e1, e2⟩))
  · intro h q hq
    obtain ⟨i, e1, e2⟩ := zip_tail_mem.mp hq
    exact decide_eq_true (h i _ _ e1 e2)
theorem inB_iff {ns : List Int} : inB ns = true ↔ ∀ x, x ∈ ns → -1000000 ≤ x ∧ x ≤ 1000000 := by
  unfold inB
  rw [List.all_eq_true]
  exact forall_congr' fun x => forall_congr' fun _ => decide_eq_true_iff
theorem row_iff {ns : List Int} : Row ns ↔ (1 ≤ ns.length ∧ ns.length ≤ 50) ∧ inB ns = true ∧ upB ns = true := by
  unfold Row
  rw [inB_iff, upB_iff]
  exact ⟨fun ⟨a, b, c, d⟩ => ⟨⟨a, b⟩, c, d⟩, fun ⟨⟨a, b⟩, c, d⟩ => ⟨a, b, c, d⟩⟩
instance (ns : List Int) : Decidable (Row ns) := decidable_of_iff _ row_iff.symm
/-- a whole number within bounds -/
def numB (lo hi : Int) : V → Bool
  | .int i => decide (lo ≤ i ∧ i ≤ hi)
  | _ => false
/-- no row -/
inductive NotRow (K : PySem.W.Frag) (H : Hp) : V → Prop
  | non : NotRow K H .non
  | bl (b : Bool) : NotRow K H (.bl b)
  | int (i : Int) : NotRow K H (.int i)
  | str (x : Str) : NotRow K H (.str x)
  | tup {a : Addr} {xs : List V} (h : SqT K H a xs) : NotRow K H (.ref a)
  | len {a : Addr} {xs : List V} (h : SqL K H a xs) (hl : ¬ (1 ≤ xs.length ∧ xs.length ≤ 50)) : NotRow K H (.ref a)
  | num {a : Addr} {xs : List V} (h : SqL K H a xs) (hl : 1 ≤ xs.length ∧ xs.length ≤ 50) (hk : ∀ x, x ∈ xs → Known K H x) (hx : xs.all (numB (-1000000) 1000000) = false) : NotRow K H (.ref a)
  | asc {a : Addr} {ns : List Int} (h : SqL K H a (ns.map V.int)) (hl : 1 ≤ ns.length ∧ ns.length ≤ 50) (hb : inB ns = true) (hu : upB ns = false) : NotRow K H (.ref a)
theorem numB_ints (lo hi : Int) : ∀ ns : List Int, (ns.map V.int).all (numB lo hi) = ns.all fun x => decide (lo ≤ x ∧ x ≤ hi)
  | [] => rfl
  | x :: r => by
    rw [List.map_cons, List.all_cons, List.all_cons, numB_ints lo hi r]
    rfl
theorem known_ints {K : PySem.W.Frag} {H : Hp} (ns : List Int) : ∀ x, x ∈ ns.map V.int → Known K H x := fun x hx => by
  obtain ⟨i, _, rfl⟩ := List.mem_map.mp hx
  exact .inl ⟨i, rfl⟩
theorem NotRow.of {K : PySem.W.Frag} {H : Hp} {a : Addr} {ns : List Int} (h : SqL K H a (ns.map V.int)) (n : ¬ Row ns) : NotRow K H (.ref a) := by
  by_cases hl : 1 ≤ ns.length ∧ ns.length ≤ 50
  · cases hb : inB ns with
    | false => exact .num h (by rw [List.length_map]; exact hl) (known_ints ns) (by rw [numB_ints]; exact hb)
    | true =>
      cases hu : upB ns with
      | false => exact .asc h hl hb hu
      | true => exact absurd (row_iff.mpr ⟨hl, hb, hu⟩) n
  · exact .len h (by rw [List.length_map]; exact hl)
theorem NotRow.same {K : PySem.W.Frag} {H H' : Hp} {v : V} (s : Same H H') (h : NotRow K H v) : NotRow K H' v := by
  cases h with
  | non => exact .non
  | bl b => exact .bl b
  | int i => exact .int i
  | str x => exact .str x
  | tup h => exact .tup (Same.seqT s h)
  | len h hl => exact .len (Same.seq s h) hl
  | num h hl hk hx => exact .num (Same.seq s h) hl (fun x hm => (hk x hm).same s) hx
  | asc h hl hb hu => exact .asc (Same.seq s h) hl hb hu
/-- the value is the row ns -/
def IsRow (K : PySem.W.Frag) (H : Hp) (v : V) (ns : List Int) : Prop := ∃ a, v = .ref a ∧ SqL K H a (ns.map V.int) ∧ Row ns
def hdI (ns : List Int) : Int := ns.headD 0
def ltI (ns : List Int) : Int := ns.getLastD 0
theorem hd_at {ns : List Int} (h : ns ≠ []) : atI (ns.map V.int) 0 = some (.int (hdI ns)) := by
  cases ns with
  | nil => exact absurd rfl h
  | cons y r => exact atI_nat (j := 0) rfl
theorem lt_at {ns : List Int} (h : ns ≠ []) : atI (ns.map V.int) (-1) = some (.int (ltI ns)) := by
  refine at_lastI ?_
  unfold ltI
  rw [List.getLastD_eq_getLast?, List.getLast?_eq_some_getLast h]
  rfl
theorem hd_mem {ns : List Int} (h : ns ≠ []) : hdI ns ∈ ns := by
  cases ns with
  | nil => exact absurd rfl h
  | cons y r => exact List.mem_cons_self
theorem lt_mem {ns : List Int} (h : ns ≠ []) : ltI ns ∈ ns := by
  unfold ltI
  rw [List.getLastD_eq_getLast?, List.getLast?_eq_some_getLast h]
  exact List.getLast_mem h
theorem row_ne {ns : List Int} (h : Row ns) : ns ≠ [] := fun z => by
  subst z
  exact absurd h.1 (by decide)
/-- the steps of a row -/
def stepOk (ns : List Int) (s : Int) : Bool := (ns.all fun v => decide (v % s = 0)) && ((ns.zip (ns.drop 1)).all fun q => decide (q.2 - q.1 = s))
def stepsOf (ns : List Int) : List Int := steps.filter fun s => stepOk ns s
theorem stepsOf_len (ns : List Int) (l : List Int) (h : l.length ≤ 18) : (l.filter fun s => stepOk ns s).length ≤ 18 := Nat.le_trans (List.length_filter_le _ _) h
/-- rows and steps: what a function of both raises -/
def errMS (K : PySem.W.Frag) (H : Hp) (x y : V) (cM cS cN : Addr) (E : XK) : Prop :=
  (NotRow K H x ∧ ∀ H', Same H H' → E (.ref cM) none H') ∨ ((∃ ns, IsRow K H x ns) ∧ NotStep K H y ∧ ∀ H', Same H H' → E (.ref cS) none H') ∨
    (∃ ns st, IsRow K H x ns ∧ y = .int st ∧ st ∈ steps ∧ st ∉ stepsOf ns ∧ ∀ H', Same H H' → E (.ref cN) none H')
section
variable {K : PySem.W.Frag} {H H1 : Hp} {σ : L2.St} {Q : VK} {te : TE} {a : Addr}
/-- [t(v) for v in xs], truth values, xs of any known things -/
theorem lc_valsB {xs : List V} {ix : Nat} {f : V → Bool} (hz : xs.length ≤ 1000000) (hs : SqL K H1 a xs)
    (he : ∀ v H2 (Q' : VK), v ∈ xs → Same H1 H2 → (∀ H3, Same H2 H3 → Q' (.bl (f v)) H3) → te ((wipe σ [ix]).set ix (some v)) H2 Q')
    (hd : ∀ D H', Same H1 H' → H1 D = none → H' D = some (.lst ((xs.map f).map V.bl)) → Q (.ref D) H') : LcG (Itl K a) (gName ix) tYes te [ix] σ H1 Q := by
  have mem : ∀ i, i < xs.length → xs.getD i .non ∈ xs := fun i hi => by
    rw [List.getD_eq_getElem?_getD, List.getElem?_eq_getElem hi]
    exact List.getElem_mem hi
  refine lc_core' (n := xs.length) (Y := fun i => xs.getD i .non) (p := fun _ => true) (f := fun i => .bl (f (xs.getD i .non))) walk_listY hz (fun _ s => Same.seq s hs) (fun _ _ _ _ _ q => q _ (Same.refl _)) (fun i H2 Q' hi _ s q => he _ H2 Q' (mem i hi) s q) fun D H' s n e => hd D H' s n ?_
  rw [filter_yes] at e
  rw [e]
  congr 2
  refine List.ext_getElem (by simp) fun i h1 h2 => ?_
  simp only [List.getElem_map, List.getElem_range]
  rw [List.getD_eq_getElem?_getD, List.getElem?_eq_getElem (by simpa using h1)]
  rfl
end
end Ax
/-! ### ranges within bounds, by their numbers of marks -/
namespace Ax
open PySem L2
theorem rgI_len (a b : Int) : (rgI a b).length = (b - a).toNat := by
  unfold rgI
  rw [List.length_map, List.length_range]
theorem rgI_get {a b : Int} {i : Nat} (h : i < (b - a).toNat) : (rgI a b)[i]? = some (a + i) := by
  unfold rgI
  rw [List.getElem?_map, List.getElem?_range h]
  rfl
theorem rgI_mem {a b x : Int} : x ∈ rgI a b ↔ a ≤ x ∧ x < b := by
  unfold rgI
  rw [List.mem_map]
  constructor
  · rintro ⟨k, hk, rfl⟩
    rw [List.mem_range] at hk
    omega
  · intro h
    exact ⟨(x - a).toNat, List.mem_range.mpr (by omega), by omega⟩
theorem rgI_nil {a b : Int} (h : b ≤ a) : rgI a b = [] := by
  unfold rgI
  have : (b - a).toNat = 0 := by omega
  rw [this]
  rfl
theorem rgI_cons {a b : Int} (h : a < b) : rgI a b = a :: rgI (a + 1) b := by
  unfold rgI
  have e : (b - a).toNat = (b - (a + 1)).toNat + 1 := by omega
  rw [e, List.range_succ_eq_map, List.map_cons, List.map_map]
  congr 1
  · simp
  · refine List.map_congr_left fun k _ => ?_
    show a + ((k + 1 : Nat) : Int) = a + 1 + (k : Int)
    omega
theorem rgI_snoc {a b : Int} (h : a ≤ b) : rgI a (b + 1) = rgI a b ++ [b] := by
  unfold rgI
  have e : (b + 1 - a).toNat = (b - a).toNat + 1 := by omega
  rw [e, List.range_succ, List.map_append]
  congr 1
  show [a + (((b - a).toNat : Nat) : Int)] = [b]
  congr 1
  omega
/-- those between A and B -/
theorem rgI_filter (A B : Int) : ∀ (n : Nat) (a b : Int), (b - a).toNat = n → (rgI a b).filter (fun x => decide (A ≤ x ∧ x ≤ B)) = rgI (max a A) (min b (B + 1))
  | 0, a, b, hn => by
    rw [rgI_nil (by omega), rgI_nil (by omega)]
    rfl
  | n + 1, a, b, hn => by
    rw [rgI_cons (by omega), List.filter_cons, rgI_filter A B n (a + 1) b (by omega)]
    by_cases c : A ≤ a ∧ a ≤ B
    · rw [decide_eq_true c, if_pos rfl, rgI_cons (a := max a A) (by omega)]
      have e1 : max a A = a := by omega
      have e2 : max (a + 1) A = a + 1 := by omega
      rw [e1, e2]
    · rw [decide_eq_false c, if_neg Bool.false_ne_true]
      by_cases c1 : A ≤ a
      · rw [rgI_nil (by omega), rgI_nil (by omega)]
      · have e1 : max (a + 1) A = max a A := by omega
        rw [e1]
/-- m marks: the last one stands right -/
theorem cnt_eq_iff (lo hi st m : Int) (h : 0 < st) : cnt lo hi st = m ↔ fst lo st + (m - 1) * st ≤ hi ∧ hi ≤ fst lo st + m * st - 1 := by
  rw [fst_eq lo st h]
  unfold cnt
  generalize (lo - 1) / st = q
  have e1 : (q + 1) * st + (m - 1) * st = (q + m) * st := by rw [← Int.add_mul]; congr 1; omega
  have e2 : (q + 1) * st + m * st = (q + m + 1) * st := by rw [← Int.add_mul]; congr 1; omega
  rw [e1, e2]
  have d1 := Int.emod_add_mul_ediv hi st
  have d2 := Int.emod_nonneg hi (show st ≠ 0 by omega)
  have d3 := Int.emod_lt_of_pos hi h
  rw [Int.mul_comm] at d1
  constructor
  · intro e
    have e3 : hi / st = q + m := by omega
    rw [e3] at d1
    have e4 : (q + m + 1) * st = (q + m) * st + st := by rw [Int.add_mul, Int.one_mul]
    omega
  · rintro ⟨h1, h2⟩
    have l1 : q + m ≤ hi / st := (Int.le_ediv_iff_mul_le h).mpr h1
    have l2 : hi / st < q + m + 1 := (Int.ediv_lt_iff_lt_mul h).mpr (by omega)
    omega
/-- the high ends, for one low end -/
def rowR (lo b st m : Int) : List Int := (rgI lo (b + 1)).filter fun hi => decide (cnt lo hi st = m)
theorem rowR_eq (lo b st m : Int) (h : 0 < st) : rowR lo b st m = rgI (max lo (fst lo st + (m - 1) * st)) (min (b + 1) (fst lo st + m * st)) := by
  unfold rowR
  have e : (fun hi => decide (cnt lo hi st = m)) = fun hi => decide (fst lo st + (m - 1) * st ≤ hi ∧ hi ≤ fst lo st + m * st - 1) := by
    funext hi
    exact decide_eq_decide.mpr (cnt_eq_iff lo hi st m h)
  rw [e, rgI_filter _ _ _ _ _ rfl]
  congr 2
  omega
/-- all ranges within bounds, and those with m marks -/
def pairsR (a b : Int) : List (Int × Int) := (rgI a (b + 1)).flatMap fun lo => (rgI lo (b + 1)).map fun hi => (lo, hi)
def goodR (a b st m : Int) : List (Int × Int) := (pairsR a b).filter fun q => decide (cnt q.1 q.2 st = m)
theorem goodR_eq (a b st m : Int) : goodR a b st m = (rgI a (b + 1)).flatMap fun lo => (rowR lo b st m).map fun hi => (lo, hi) := by
  unfold goodR pairsR rowR
  rw [List.filter_flatMap]
  congr 1
  funext lo
  rw [List.filter_map]
  rfl
theorem pairsR_mem {a b : Int} {q : Int × Int} : q ∈ pairsR a b ↔ a ≤ q.1 ∧ q.1 ≤ q.2 ∧ q.2 ≤ b := by
  unfold pairsR
  rw [List.mem_flatMap]
  constructor
  · rintro ⟨lo, hlo, hq⟩
    obtain ⟨hi, hhi, rfl⟩ := List.mem_map.mp hq
    rw [rgI_mem] at hlo hhi
    exact ⟨hlo.1, hhi.1, by have := hhi.2; show hi ≤ b; omega⟩
  · rintro ⟨h1, h2, h3⟩
    exact ⟨q.1, rgI_mem.mpr ⟨h1, by omega⟩, List.mem_map.mpr ⟨q.2, rgI_mem.mpr ⟨h2, by omega⟩, rfl⟩⟩
/-- the sizes of all rows -/
theorem flat_len {α β : Type} (f : α → List β) : ∀ l : List α, ((l.flatMap f).length : Int) = (l.map fun x => ((f x).length : Int)).sum
  | [] => rfl
  | x :: r => by
    rw [List.flatMap_cons, List.length_append, List.map_cons, List.sum_cons, ← flat_len f r]
    omega
theorem pairs_len : ∀ (n : Nat) (a b : Int), (b + 1 - a).toNat = n → 2 * ((pairsR a b).length : Int) = (n : Int) * ((n : Int) + 1)
  | 0, a, b, hn => by
    unfold pairsR
    rw [rgI_nil (by omega)]
    rfl
  | n + 1, a, b, hn => by
    have ih := pairs_len n (a + 1) b (by omega)
    have e : pairsR a b = ((rgI a (b + 1)).map fun hi => (a, hi)) ++ pairsR (a + 1) b := by
      unfold pairsR
      rw [rgI_cons (a := a) (b := b + 1) (by omega), List.flatMap_cons, ← rgI_cons (a := a) (b := b + 1) (by omega)]
    rw [e, List.length_append, List.length_map, rgI_len]
    have e2 : (b + 1 - a).toNat = n + 1 := hn
    rw [e2]
    have e3 : ((n + 1 : Nat) : Int) * (((n + 1 : Nat) : Int) + 1) = (n : Int) * ((n : Int) + 1) + 2 * (n + 1) := by
      have : ((n + 1 : Nat) : Int) = (n : Int) + 1 := by omega
      rw [this, Int.add_mul, Int.mul_add, Int.mul_add, Int.mul_add]
      omega
    rw [e3]
    omega
theorem pairs_half (a b : Int) (h : a ≤ b + 1) : (b - a + 1) * (b - a + 1 + 1) / 2 = ((pairsR a b).length : Int) := by
  have e := pairs_len _ a b rfl
  have e2 : (((b + 1 - a).toNat : Nat) : Int) = b - a + 1 := by omega
  rw [e2] at e
  rw [← e]
  omega
/-- sums by the number of marks -/
theorem part_sum {α : Type} (f : α → Int) (l : List α) : ∀ n : Nat, ((List.range n).map fun (m : Nat) => ((l.filter fun x => decide (f x = (m : Int))).length : Int)).sum = ((l.filter fun x => decide (0 ≤ f x ∧ f x < (n : Int))).length : Int)
  | 0 => by
    have e : l.filter (fun x => decide (0 ≤ f x ∧ f x < ((0 : Nat) : Int))) = [] := List.filter_eq_nil_iff.mpr fun x _ => by
      rw [decide_eq_true_eq]
      omega
    rw [e]
    rfl
  | n + 1 => by
    rw [List.range_succ, List.map_append, sum_append, part_sum f l n]
    have e : ∀ l : List α, ((l.filter fun x => decide (0 ≤ f x ∧ f x < (n : Int))).length : Int) + ((l.filter fun x => decide (f x = (n : Int))).length : Int) = ((l.filter fun x => decide (0 ≤ f x ∧ f x < ((n + 1 : Nat) : Int))).length : Int) := by
      intro l
      induction l with
      | nil => rfl
      | cons x r ih =>
        rw [List.filter_cons, List.filter_cons, List.filter_cons]
        by_cases c1 : f x = (n : Int)
        · rw [if_neg (by simp; omega), if_pos (by simp [c1]), if_pos (by simp; omega), List.length_cons, List.length_cons]
          omega
        · by_cases c2 : 0 ≤ f x ∧ f x < (n : Int)
          · rw [if_pos (decide_eq_true c2), if_neg (by simp [c1]), if_pos (by simp; omega), List.length_cons, List.length_cons]
            omega
          · rw [if_neg (by simp; omega), if_neg (by simp [c1]), if_neg (by simp; omega)]
            exact ih
    show _ + (((l.filter fun x => decide (f x = (n : Int))).length : Int) + 0) = _
    rw [Int.add_zero]
    exact e l
theorem fst_mono_self (lo st : Int) (h : 0 < st) : lo ≤ fst lo st := (fst_ge' lo st h).1
/-- the size of a row, as the program counts it -/
theorem rowR_len0 (lo b st : Int) (h : 0 < st) : ((rowR lo b st 0).length : Int) = max 0 (min (fst lo st - 1) b - lo + 1) := by
  rw [rowR_eq lo b st 0 h, rgI_len]
  have e1 : fst lo st + 0 * st = fst lo st := by rw [Int.zero_mul, Int.add_zero]
  have e2 : fst lo st + (0 - 1) * st = fst lo st - st := by rw [Int.sub_mul, Int.zero_mul, Int.one_mul]; omega
  rw [e1, e2]
  have := fst_ge' lo st h
  omega
theorem rowR_len1 (lo b st m : Int) (h : 0 < st) (hm : 1 ≤ m) : ((rowR lo b st m).length : Int) = max 0 (min (fst lo st + (m - 1) * st + st - 1) b - max (fst lo st + (m - 1) * st) lo + 1) := by
  rw [rowR_eq lo b st m h, rgI_len]
  have e1 : fst lo st + m * st = fst lo st + (m - 1) * st + st := by rw [Int.sub_mul, Int.one_mul]; omega
  rw [e1]
  omega
/-- the first of a row -/
theorem rowR_head (lo b st m hi : Int) (h : 0 < st) (hm : 0 ≤ m) (hb : lo ≤ b) (e : hi = if m = 0 then lo else fst lo st + (m - 1) * st) : (hi ≤ b ∧ cnt lo hi st = m → (rowR lo b st m).head? = some hi) ∧ (¬ (hi ≤ b ∧ cnt lo hi st = m) → rowR lo b st m = []) := by
  have f := fst_ge' lo st h
  have e0 : max lo (fst lo st + (m - 1) * st) = hi := by
    by_cases c : m = 0
    · subst c
      rw [if_pos rfl] at e
      have e2 : fst lo st + (0 - 1) * st = fst lo st - st := by rw [Int.sub_mul, Int.zero_mul, Int.one_mul]; omega
      rw [e2]
      omega
    · rw [if_neg c] at e
      have : 0 ≤ (m - 1) * st := Int.mul_nonneg (by omega) (by omega)
      omega
  rw [rowR_eq lo b st m h, e0]
  rw [cnt_eq_iff lo hi st m h]
  constructor
  · rintro ⟨h1, h2, h3⟩
    rw [rgI_cons (by omega)]
    rfl
  · intro n
    refine rgI_nil ?_
    by_cases c : hi ≤ b
    · have : ¬ hi ≤ fst lo st + m * st - 1 := fun z => n ⟨c, by omega, z⟩
      omega
    · omega
theorem pairs_rows (a b : Int) (h : a ≤ b) : pairsR a b = ((rgI a (b + 1)).map fun hi => (a, hi)) ++ pairsR (a + 1) b := by
  unfold pairsR
  rw [rgI_cons (a := a) (b := b + 1) (by omega), List.flatMap_cons, ← rgI_cons (a := a) (b := b + 1) (by omega)]
/-- a dict at kd: by a number its list of the pairs that give this number -/
def KD (K : PySem.W.Frag) (H : Hp) (kd : Addr) (g : Int × Int → Int) (ps : List (Int × Int)) : Prop := ∃ kvs, H kd = some (.dK kvs) ∧ kvs.length ≤ ps.length ∧ ∀ m : Int, let l := ps.filter fun q => decide (g q = m); (l = [] ∧ valV kvs (Sum.inl m) = none) ∨ (l ≠ [] ∧ ∃ a us, valV kvs (Sum.inl m) = some (.ref a) ∧ H a = some (.lst us) ∧ DpAll K H us (l.map pairD))
theorem putK_len {kvs : List (Key × V)} {k : Key} {v : V} : (putK kvs k v).length ≤ kvs.length + 1 := by
  unfold putK
  split
  · rw [List.length_map]
    omega
  · rw [List.length_append]
    exact Nat.le_refl _
section
variable {K : PySem.W.Frag} {H H' : Hp} {kd : Addr} {g : Int × Int → Int} {ps : List (Int × Int)} {σ : L2.St} {Q : VK} {td ty tx : TE}
theorem kd_new (e : H kd = some (.dK [])) : KD K H kd g [] := ⟨[], e, Nat.le_refl _, fun _ => .inl ⟨rfl, rfl⟩⟩
theorem KD.same (s : Same H H') (h : KD K H kd g ps) : KD K H' kd g ps := by
  obtain ⟨kvs, e, hl, f⟩ := h
  refine ⟨kvs, s _ _ e, hl, fun m => ?_⟩
  rcases f m with f | ⟨ne, a, us, f1, f2, f3⟩
  · exact .inl f
  · exact .inr ⟨ne, a, us, f1, s _ _ f2, DpAll.to s f3⟩
theorem dpa_notD {us : List V} {l : List (Int × Int)} {kvs : List (Key × V)} {o : HO} (e : H kd = some (.dK kvs)) (h : DpAll K H us (l.map pairD)) : DpAll K (upd H kd o) us (l.map pairD) :=
  dpa_tups (fun _ _ q => Off.seqT (kd := kd) (Off.put Off.refl) e q) _ _ (noPairs l) h
/-- one more pair -/
theorem KD.put {q : Int × Int} {a : Addr} {us : List V} (h : KD K H kd g ps) (ha : H a = some (.lst us)) (da : DpAll K H us ((ps.filter fun z => decide (g z = g q)).map pairD ++ [pairD q])) : ∃ kvs, H kd = some (.dK kvs) ∧ kvs.length ≤ ps.length ∧ KD K (upd H kd (.dK (putK kvs (Sum.inl (g q)) (.ref a)))) kd g (ps ++ [q]) := by
  obtain ⟨kvs, e, hl, f⟩ := h
  have ne : ∀ b vs, H b = some (.lst vs) → b ≠ kd := fun b vs eb => ne_of eb e fun z => by cases z
  refine ⟨kvs, e, hl, _, upd_same, ?_, fun m => ?_⟩
  · have := putK_len (kvs := kvs) (k := Sum.inl (g q)) (v := .ref a)
    rw [List.length_append, List.length_singleton]
    omega
  · by_cases c : g q = m
    · subst c
      have el : ((ps ++ [q]).filter fun z => decide (g z = g q)) = (ps.filter fun z => decide (g z = g q)) ++ [q] := by
        rw [List.filter_append]
        simp
      refine .inr ⟨by rw [el]; simp, a, us, ?_, ?_, ?_⟩
      · rw [valV_put, if_pos rfl]
      · rw [upd_ne (ne a us ha)]
        exact ha
      · rw [el]
        refine dpa_notD e ?_
        rw [List.map_append]
        exact da
    · have el : ((ps ++ [q]).filter fun z => decide (g z = m)) = ps.filter fun z => decide (g z = m) := by
        rw [List.filter_append]
        simp [c]
      have ev : valV (putK kvs (Sum.inl (g q)) (.ref a)) (Sum.inl m) = valV kvs (Sum.inl m) := by
        rw [valV_put, if_neg fun z => c (Sum.inl.inj z).symm]
      show (((ps ++ [q]).filter fun z => decide (g z = m)) = [] ∧ _) ∨ _
      rw [el, ev]
      rcases f m with f | ⟨n0, b, vs, f1, f2, f3⟩
      · exact .inl f
      · exact .inr ⟨n0, b, vs, f1, by rw [upd_ne (ne b vs f2)]; exact f2, dpa_notD e f3⟩
def DgG2 (ty tx : TE) (σ : L2.St) (x : V) (Q : VK) (H1 : Hp) : Prop := ∃ a, x = .ref a ∧ IsD H1 a ∧ ty σ H1 fun y H2 => tx σ H2 fun z H3 => ∃ o, DGet H3 a y o ∧ Q (o.getD z) H3
theorem r_dget2 (h : td σ H fun x H1 => DgG2 ty tx σ x Q H1) : tDGet2 td ty tx σ H Q := h
theorem r_dg2 {kvs : List (Key × V)} (e : H kd = some (.dK kvs)) (h : ty σ H fun y H2 => tx σ H2 fun z H3 => ∃ o, DGet H3 kd y o ∧ Q (o.getD z) H3) : DgG2 ty tx σ (.ref kd) Q H := ⟨kd, rfl, .inl ⟨kvs, .inl e⟩, h⟩
theorem r_dgO {kvs : List (Key × V)} {i : Int} {z : V} (e : H kd = some (.dK kvs)) (h : Q ((valV kvs (Sum.inl i)).getD z) H) : ∃ o, DGet H kd (.int i) o ∧ Q (o.getD z) H := ⟨_, DGet.k (k := Sum.inl i) e, h⟩
theorem eqv_pairsNil : ∀ l : List (Int × Int), PyData.eqv (.list (l.map pairD)) (.list []) = decide (l = [])
  | [] => rfl
  | q :: r => by
    rw [decide_eq_false (List.cons_ne_nil q r)]
    rfl
/-- the list by a number, or a new empty one -/
theorem KD.get {m : Int} {b : Addr} (h : KD K H kd g ps) (hb : H b = some (.lst [])) : ∃ kvs a us, H kd = some (.dK kvs) ∧ (valV kvs (Sum.inl m)).getD (.ref b) = .ref a ∧ H a = some (.lst us) ∧ DpAll K H us ((ps.filter fun z => decide (g z = m)).map pairD) := by
  obtain ⟨kvs, e, hl, f⟩ := h
  rcases f m with ⟨f1, f2⟩ | ⟨_, a, us, f1, f2, f3⟩
  · exact ⟨kvs, b, [], e, by rw [f2]; rfl, hb, by rw [f1]; exact .nil⟩
  · exact ⟨kvs, a, us, e, by rw [f1]; rfl, f2, f3⟩
end
end Ax
/-! ### comprehensions that draw -/
namespace Ax
open PySem L2
section
variable {K : PySem.W.Frag} {H H1 H' : Hp} {σ : L2.St} {Q : VK} {tt : TT} {te : TE} {a d n : Addr}
theorem Kp.updn {o : HO} {p : Addr} (k : Kp d n H H') (np : H p = none) : Kp d n H (upd H' p o) := fun b u e h1 h2 => by
  rw [upd_ne (ne_of_none e np)]
  exact k b u e h1 h2
/-- over a list of whole numbers, drawing within: what is made is told by Pv -/
theorem lc_intsK {ns : List Int} {ix : Nat} (Pv : Nat → List Int → Prop) (hz : ns.length ≤ 1000) (hs : SqL K H1 a (ns.map V.int)) (oa : Of d n a) (dr : Dr H1 d n) (h0 : Pv 0 [])
    (ht : ∀ i x acc H2 (N : Hp → Prop) (M : VK), ns[i]? = some x → Kp d n H1 H2 → Dr H2 d n → Pv i acc → (Pv (i + 1) acc → ∀ H3, Kp d n H2 H3 → Dr H3 d n → N H3) → (∀ y H3, Pv (i + 1) (acc ++ [y]) → Kp d n H2 H3 → Dr H3 d n → M (.int y) H3) →
      tt ((wipe σ [ix]).set ix (some (.int x))) H2 fun b H3 => if b = true then te ((wipe σ [ix]).set ix (some (.int x))) H3 M else N H3)
    (hd : ∀ D H' acc, Kp d n H1 H' → Dr H' d n → H1 D = none → Of d n D → H' D = some (.lst (acc.map V.int)) → Pv ns.length acc → Q (.ref D) H') : LcG (Itl K a) (gName ix) tt te [ix] σ H1 Q := by
  intro D nD
  have oD := dr.off nD
  have w := walk_list (K := K) (xs := ns.map V.int) (a := a)
  rw [List.length_map] at w
  have nda := dr.lst
  refine lc_it w (fun i H' => Kp d n H1 H' ∧ Dr H' d n ∧ ∃ acc : List Int, H' D = some (.lst (acc.map V.int)) ∧ Pv i acc ∧ acc.length ≤ i) ⟨(Kp.refl H1).updn nD, dr.updn nD, [], upd_same, h0, Nat.le_refl _⟩ (fun i H' _ q => Kp.seqL q.1 oa hs) ?_ ?_
  · rintro i x H2 H2' hi ⟨kp, dr2, acc, hD, pv, hl⟩ ⟨rfl, e⟩
    rw [List.getElem?_map] at e
    obtain ⟨z, ez, rfl⟩ := Option.map_eq_some_iff.mp e
    refine ⟨wipe_one σ ix _, ?_⟩
    refine ht i z acc H2' _ _ ez kp dr2 pv (fun pv' H3 kp3 dr3 => ⟨kp.trans kp3, dr3, acc, kp3.at oD hD, pv', by omega⟩)
      (fun y H3 pv' kp3 dr3 => ⟨acc.map V.int, kp3.at oD hD, by rw [List.length_map, sizeLine_eq]; omega, fun b u e h1 h2 => ?_, ?_, acc ++ [y], by rw [upd_same, List.map_append]; rfl, pv', by rw [List.length_append]; simp; omega⟩)
    · rw [upd_ne (ne_of_none e nD)]
      exact kp3 b u (kp b u e h1 h2) h1 h2
    · obtain ⟨ms, c, f1, f2, f3, f4⟩ := dr3
      exact ⟨ms, c, by rw [upd_ne oD.1.symm]; exact f1, by rw [upd_ne oD.2.symm]; exact f2, f3, f4⟩
  · rintro H' ⟨kp, dr2, acc, hD, pv, _⟩
    exact hd D H' acc kp dr2 nD oD hD pv
end
end Ax
/-! ### objects: methods in a try's body, len by an own __len__ -/
namespace Ax
open PySem PySem.Spec PyProof.Rows L2
section
variable {X : Cx} {CX : CXT} {k : Nat} {f C : Addr} {fd : FuncData} {ps : List Str} {sp : Sp} {E : L2.St → XK} {m : Str} {pos apos : Pos} {e o : Expr} {es : List Expr} {ta : TE} {t : TA}
/-- o.m(..) where an except stands around -/
def tMethT (C : Addr) (m : Str) (sp : Sp) (E : L2.St → XK) (ta : TE) (t : TA) : TE := fun σ H Q => ta σ H fun x H1 => ∃ a dx fs, x = .ref a ∧ H1 a = some (.ins C dx fs) ∧ fs.lookup m = none ∧ t σ H1 fun vs H2 => sp (x :: vs) H2 Q (E σ)
theorem pe_methT {pl : Sem Bool} (he : PE X o ta) (c : Cls X.K C) (hm : Meth X.K C m f) (F : FnOk X.prog X.w X.K X.mg X.base CX k f fd ps sp) (hr : Room k X.A) (hb : Binds X.K fd ps []) (hx : ∀ σ, PassesAt CX X σ (E σ)) (ha : PA X (e :: es) t)
    (hst : starEach (e :: es) X.env = (false, eval e X.env) :: starEach es X.env := by rfl) (hpl : (backTo pos (starEach es X.env)).any (·.1) = false := by rfl)
    (ht : eval (.Call (.Attribute o m apos) (e :: es) [] pos) X.env = (do
      let obj ← eval o X.env
      standAt apos.atName
      let (g, one) ← holding [obj] (getMethod obj m pl)
      callWith pos g one (backTo pos (starEach (e :: es) X.env)) (backToKw pos (keywordEach [] X.env))) := by rfl) : PE X (.Call (.Attribute o m apos) (e :: es) [] pos) (tMethT C m sp E ta t) :=
  ⟨fun pins s σ H Q I h => PySem.W.methodCall_KW (pl := pl) (thn (he.run pins s σ H _ I h) fun u s1 ⟨x, H1, I1, rx, a, dx, fs, ex, ea, l, q⟩ => by
    subst ex
    cases (show u = Value.ref a from rx)
    exact getmeth_ok I1 ea c hm l (PySem.W.callWith_K (first := [.ref a]) (h₀ := X.base) I.ok.mod.kin hm.kp (thn (ha.run pos pins s1 σ H1 _ I1 q) fun us s2 ⟨vs, H2, I2, r, q2⟩ => ⟨I2.kIn, run_fnS F hr hb (hx σ) I2 (Paired.cons (show L2.RelV (V.ref a) (Value.ref a) from rfl) r) q2⟩) hst hpl)) ht⟩
theorem pe_methT0 {pl : Sem Bool} (he : PE X o ta) (c : Cls X.K C) (hm : Meth X.K C m f) (F : FnOk X.prog X.w X.K X.mg X.base CX k f fd ps sp) (hr : Room k X.A) (hb : Binds X.K fd ps []) (hx : ∀ σ, PassesAt CX X σ (E σ))
    (ht : eval (.Call (.Attribute o m apos) [] [] pos) X.env = (do
      let obj ← eval o X.env
      standAt apos.atName
      let (g, one) ← holding [obj] (getMethod obj m pl)
      callWith pos g one (backTo pos (starEach [] X.env)) (backToKw pos (keywordEach [] X.env))) := by rfl) : PE X (.Call (.Attribute o m apos) [] [] pos) (tMethT C m sp E ta tNil) :=
  ⟨fun pins s σ H Q I h => PySem.W.methodCall_KW (pl := pl) (thn (he.run pins s σ H _ I h) fun u s1 ⟨x, H1, I1, rx, a, dx, fs, ex, ea, l, q⟩ => by
    subst ex
    cases (show u = Value.ref a from rx)
    exact getmeth_ok I1 ea c hm l (PySem.W.callWith_K0 (first := [.ref a]) I1.kIn hm.kp (run_fnS (us := [.ref a]) (vs := [.ref a]) F hr hb (hx σ) I1 (Paired.cons (show L2.RelV (V.ref a) (Value.ref a) from rfl) .nil) q))) ht⟩
/-- len(o), by __len__ -/
def rLenM (C : Addr) (sp : Sp) : List V → Hp → VK → Prop := fun xs H Q => ∃ a dx fs, xs = [.ref a] ∧ H a = some (.ins C dx fs) ∧ sp [.ref a] H (fun v H' => ∃ n : Int, v = .int n ∧ (0 ≤ n ∧ n < 2 ^ 63) ∧ Q (.int n) H') (fun _ _ _ => False)
theorem call_lenM {f : Addr} {fd : FuncData} (FN : FnOk X.prog X.w X.K X.mg X.base CX0 k f fd ["self"] sp) (hr : Room (k + 1) X.A) (b : Binds X.K fd ["self"] []) (hm : Meth X.K C "__len__" f) : CallR X (.builtin "len") (rLenM C sp) := by
  intro pins s σ H vs us Q I r h
  obtain ⟨a, dx, fs, rfl, ha, hsp⟩ := h
  cases Vals.ref1 r
  obtain ⟨mA, J, _⟩ := ins_get I.hok ha
  obtain ⟨od, J, _⟩ := J.look
  obtain ⟨m', hF⟩ := I.fr
  refine PySem.W.len_K hF I.ok.mod.kin J hm.at_ hm.fn ?_
  have sb : Sub X k X.A.in1 := Sub.in1 ⟨hr, rfl⟩
  have e0 : Env0 X.prog X.w X.K X.mg X.base X.A.in1 X.stack s H := by
    have e := I.env0
    exact ⟨by rw [sb.fr]; exact e.frames, e.mod, e.bs, e.bsz, e.funs, e.frf, e.hok, e.bare⟩
  have hb := b s [.ref a] I.kIn rfl
  refine wpAny_call (codeAny_mono (FN.run X.A.in1 X.stack s H ⟨[.ref a], []⟩ [.ref a] [.ref a] _ _ sb.room e0 (by simpa using hb) (Paired.cons (show L2.RelV (V.ref a) (Value.ref a) from rfl) .nil) hsp) fun r2 s' hq => ?_)
  cases r2 with
  | error e => exact False.elim hq
  | ok fl =>
    cases fl with
    | ret u =>
      obtain ⟨v, H', I', rv, n, rfl, bn, q⟩ := I.after hq
      obtain ⟨t, rfl⟩ := rv
      exact ⟨bn, .int n, H', I'.tok _, ⟨_, rfl⟩, q⟩
    | next => exact False.elim hq
    | brk => exact False.elim hq
    | cont => exact False.elim hq
end
/-! ### readings of objects -/
section
variable {D : Ends} {σ : L2.St} {H : Hp} {Q : VK} {K : PySem.W.Frag} {a C dx : Addr} {fs : List (Str × V)} {f m : Str} {ta tv : TE} {t : TA} {sp : Sp} {E : XK} {v y : V} {u : TS}
def FldG (K : PySem.W.Frag) (f : Str) (x : V) (Q : VK) (H1 : Hp) : Prop := ∃ a C dx fs v, x = .ref a ∧ H1 a = some (.ins C dx fs) ∧ Cls K C ∧ NoAttr K C f ∧ fs.lookup f = some v ∧ Q v H1
theorem r_fldX (h : ta σ H fun x H1 => FldG K f x Q H1) : tFld K ta f σ H Q := h
theorem r_fld (e : H a = some (.ins C dx fs)) (c : Cls K C) (n : NoAttr K C f) (l : fs.lookup f = some v) (h : Q v H) : FldG K f (.ref a) Q H := ⟨a, C, dx, fs, v, rfl, e, c, n, l, h⟩
def PutG (K : PySem.W.Frag) (f : Str) (x y : V) (N : Hp → Prop) (H2 : Hp) : Prop := ∃ a C dx fs, x = .ref a ∧ H2 a = some (.ins C dx fs) ∧ Cls K C ∧ NoAttr K C f ∧ fs.length < 1000 ∧ N (upd H2 a (.ins C dx (putF f y fs)))
theorem r_putX (h : tv σ H fun y H1 => ta σ H1 fun x H2 => PutG K f x y (fun H3 => D.nx σ H3) H2) : sFld K ta tv f D σ H := h
theorem r_seqPut (h : tv σ H fun y H1 => ta σ H1 fun x H2 => PutG K f x y (fun H3 => u D σ H3) H2) : tSeq (sFld K ta tv f) u D σ H := h
theorem r_put {N : Hp → Prop} (e : H a = some (.ins C dx fs)) (c : Cls K C) (n : NoAttr K C f) (l : fs.length < 1000) (h : N (upd H a (.ins C dx (putF f y fs)))) : PutG K f (.ref a) y N H := ⟨a, C, dx, fs, rfl, e, c, n, l, h⟩
def MethG (C : Addr) (m : Str) (sp : Sp) (E : XK) (t : TA) (σ : L2.St) (x : V) (Q : VK) (H1 : Hp) : Prop := ∃ a dx fs, x = .ref a ∧ H1 a = some (.ins C dx fs) ∧ fs.lookup m = none ∧ t σ H1 fun vs H2 => sp (x :: vs) H2 Q E
theorem r_methX (h : ta σ H fun x H1 => MethG C m sp E t σ x Q H1) : tMeth C m sp [] E ta t σ H Q := by
  have e : tMeth C m sp [] E ta t σ H Q = ta σ H fun x H1 => MethG C m sp E t σ x Q H1 := by
    unfold tMeth MethG
    congr 1
    funext x H1
    simp only [List.append_nil]
  rw [e]
  exact h
theorem r_methT {E : L2.St → XK} (h : ta σ H fun x H1 => MethG C m sp (E σ) t σ x Q H1) : tMethT C m sp E ta t σ H Q := h
theorem r_meth (e : H a = some (.ins C dx fs)) (l : fs.lookup m = none) (h : t σ H fun vs H2 => sp (.ref a :: vs) H2 Q E) : MethG C m sp E t σ (.ref a) Q H := ⟨a, dx, fs, rfl, e, l, h⟩
abbrev MkQ (Q : VK) (x : Addr) : VK := fun v H2 => v = .non ∧ Q (.ref x) H2
theorem r_make (h : t σ H fun vs H1 => ∀ x dx, H1 x = none → H1 dx = none → dx ≠ x → sp (.ref x :: vs) (upd (upd H1 dx (.own x)) x (.ins C dx [])) (MkQ Q x) E) : tMake C sp [] E t σ H Q := by
  have e : tMake C sp [] E t σ H Q = t σ H fun vs H1 => ∀ x dx, H1 x = none → H1 dx = none → dx ≠ x → sp (.ref x :: vs) (upd (upd H1 dx (.own x)) x (.ins C dx [])) (MkQ Q x) E := by
    unfold tMake
    simp only [List.append_nil]
  rw [e]
  exact h
theorem r_lenM (e : H a = some (.ins C dx fs)) (h : sp [.ref a] H (fun v H' => ∃ n : Int, v = .int n ∧ (0 ≤ n ∧ n < 2 ^ 63) ∧ Q (.int n) H') (fun _ _ _ => False)) : rLenM C sp [.ref a] H Q := ⟨a, dx, fs, rfl, e, h⟩
end
/-- the fields of an axis -/
def axF (now most past : V) : List (Str × V) := [("now", now), ("most", most), ("past", past)]
theorem ax_n1 : ¬ (("now" : Str) = "most") := by decide +kernel
theorem ax_n2 : ¬ (("now" : Str) = "past") := by decide +kernel
theorem ax_n3 : ¬ (("most" : Str) = "past") := by decide +kernel
theorem axF_make (x y z : V) : putF "past" z (putF "most" y (putF "now" x [])) = axF x y z := by
  simp only [putF, axF, if_neg ax_n1, if_neg ax_n2, if_neg ax_n3]
theorem axF_now (x y z u : V) : putF "now" u (axF x y z) = axF u y z := by
  simp only [putF, axF, if_pos]
end Ax
/-! ### rows continued, rows with gaps -/
namespace Ax
open PySem L2
section
variable {K : PySem.W.Frag} {H H1 H' : Hp} {σ : L2.St} {Q : VK} {te : TE} {a b : Addr}
theorem lc_zipI {xs ys : List Int} {ix jx : Nat} {f : Int × Int → Int} (ne : ix ≠ jx) (hz : xs.length ≤ 1000000) (hs : SqL K H1 a (xs.map V.int)) (hs2 : SqL K H1 b (ys.map V.int))
    (he : ∀ (i : Nat) x y H2 (Q' : VK), xs[i]? = some x → ys[i]? = some y → Same H1 H2 → (∀ H3, Same H2 H3 → Q' (.int (f (x, y))) H3) → te (((wipe σ [ix, jx]).set ix (some (.int x))).set jx (some (.int y))) H2 Q')
    (hd : ∀ D H', Same H1 H' → H1 D = none → H' D = some (.lst (((xs.zip ys).map f).map V.int)) → Q (.ref D) H') : LcG (Itz K a b) (gTup K 2 (gCons (gName ix) (gCons (gName jx) gNil))) tYes te [ix, jx] σ H1 Q :=
  lc_zipD (p := fun _ => true) (f := fun q => .int (f q)) (n := min xs.length ys.length) rfl ne (Nat.le_trans (Nat.min_le_left _ _) hz) hs hs2 (fun _ => rfl) (fun i x y H3 Qt e1 e2 s3 q => q _ (Same.refl _)) (fun i x y H3 Q' e1 e2 _ s3 q => he i x y H3 Q' e1 e2 s3 fun H4 s4 => q _ H4 s4 (.int _)) fun D H' us s n e d => hd D H' s n (by
    rw [filter_yes] at d
    have e2 : (xs.zip ys).map (fun q => PyData.int (f q)) = ((xs.zip ys).map f).map PyData.int := by
      rw [List.map_map]
      rfl
    rw [e2] at d
    rw [e, dpa_ints_inv d])
end
def contL (ns : List Int) (st b c : Int) : List Int := ((List.range b.toNat).map fun (i : Nat) => hdI ns - st * (b + (i : Int) * -1)) ++ ns ++ (List.range c.toNat).map fun (i : Nat) => ltI ns + st * (1 + (i : Int))
def diffsI (ns : List Int) : List Int := (ns.zip (ns.drop 1)).map fun q => q.2 - q.1
def leastI (l : List Int) : Int := l.min?.getD 0
theorem leastI_spec {l : List Int} (h : l ≠ []) : leastI l ∈ l ∧ ∀ y, y ∈ l → leastI l ≤ y := by
  unfold leastI
  cases e : l.min? with
  | none => exact absurd (List.min?_eq_none_iff.mp e) h
  | some m =>
    have := List.min?_eq_some_iff.mp e
    exact ⟨this.1, fun y hy => this.2 y hy⟩
theorem rgN_le2 {i j c k : Int} (hc : 1 ≤ c) (hk : 0 ≤ k) (h : j - i ≤ k * c) : (rgN i j c : Int) ≤ k := by
  unfold rgN
  split
  · have h1 : (j - i - 1) / c < k := (Int.ediv_lt_iff_lt_mul (by omega)).mpr (by omega)
    omega
  · omega
def missL (ns : List Int) : List Int := (rgS (hdI ns) (ltI ns) (leastI (diffsI ns))).filter fun v => !decide (v ∈ ns)
def missOk (ns : List Int) : Prop := diffsI ns ≠ [] ∧ leastI (diffsI ns) ∈ steps ∧ (ns.all fun v => decide (v % leastI (diffsI ns) = 0)) = true ∧ ltI ns - hdI ns ≤ 1000 * leastI (diffsI ns)
instance (ns : List Int) : Decidable (missOk ns) := inferInstanceAs (Decidable (_ ∧ _ ∧ _ ∧ _))
/-- an arithmetic progression -/
def apI (f s a b : Int) : List Int := (rgI a b).map fun k => f + s * k
theorem rgI_app {a b c : Int} (h1 : a ≤ b) (h2 : b ≤ c) : rgI a c = rgI a b ++ rgI b c := by
  unfold rgI
  have e : (c - a).toNat = (b - a).toNat + (c - b).toNat := by omega
  rw [e, List.range_add, List.map_append, List.map_map]
  congr 1
  refine List.map_congr_left fun i _ => ?_
  show a + (((b - a).toNat + i : Nat) : Int) = b + (i : Int)
  omega
theorem apI_app {f s a b c : Int} (h1 : a ≤ b) (h2 : b ≤ c) : apI f s a c = apI f s a b ++ apI f s b c := by
  unfold apI
  rw [rgI_app h1 h2, List.map_append]
theorem apI_len (f s a b : Int) : (apI f s a b).length = (b - a).toNat := by
  unfold apI
  rw [List.length_map, rgI_len]
theorem apI_get {f s a b : Int} {i : Nat} (h : i < (b - a).toNat) : (apI f s a b)[i]? = some (f + s * (a + i)) := by
  unfold apI
  rw [List.getElem?_map, rgI_get h]
  rfl
theorem apI_mem {f s a b x : Int} (h : x ∈ apI f s a b) : ∃ k, a ≤ k ∧ k < b ∧ x = f + s * k := by
  obtain ⟨k, hk, rfl⟩ := List.mem_map.mp h
  rw [rgI_mem] at hk
  exact ⟨k, hk.1, hk.2, rfl⟩
theorem apI_hd {f s a b : Int} (h : a < b) : hdI (apI f s a b) = f + s * a := by
  unfold apI
  rw [rgI_cons h]
  rfl
theorem apI_lt {f s a b : Int} (h : a < b) : ltI (apI f s a b) = f + s * (b - 1) := by
  have e : b = b - 1 + 1 := by omega
  unfold apI ltI
  rw [e, rgI_snoc (by omega), List.map_append, List.getLastD_eq_getLast?]
  simp
theorem apI_row {f s a b : Int} (hs : 1 ≤ s) (h : a < b) (hl : b - a ≤ 50) (h1 : -1000000 ≤ f + s * a) (h2 : f + s * (b - 1) ≤ 1000000) : Row (apI f s a b) := by
  have mono : ∀ k l : Int, k ≤ l → s * k ≤ s * l := fun k l h => Int.mul_le_mul_of_nonneg_left h (by omega)
  refine ⟨by rw [apI_len]; omega, by rw [apI_len]; omega, fun x hx => ?_, fun i x y e1 e2 => ?_⟩
  · obtain ⟨k, k1, k2, rfl⟩ := apI_mem hx
    have := mono a k k1
    have := mono k (b - 1) (by omega)
    omega
  · have l2 := (List.getElem?_eq_some_iff.mp e2).1
    rw [apI_len] at l2
    rw [apI_get (by omega)] at e1
    rw [apI_get (by omega)] at e2
    cases e1
    cases e2
    have e : s * (a + ((i + 1 : Nat) : Int)) = s * (a + (i : Int)) + s := by
      have : a + ((i + 1 : Nat) : Int) = a + (i : Int) + 1 := by omega
      rw [this, Int.mul_add, Int.mul_one]
    omega
theorem apI_step {f s a b : Int} (hs : 1 ≤ s) (hf : f % s = 0) : stepOk (apI f s a b) s = true := by
  unfold stepOk
  rw [Bool.and_eq_true, List.all_eq_true, List.all_eq_true]
  refine ⟨fun x hx => ?_, fun q hq => ?_⟩
  · obtain ⟨k, _, _, rfl⟩ := apI_mem hx
    rw [decide_eq_true_eq, Int.add_mul_emod_self_left]
    exact hf
  · obtain ⟨i, e1, e2⟩ := zip_tail_mem.mp hq
    have l2 := (List.getElem?_eq_some_iff.mp e2).1
    rw [apI_len] at l2
    rw [apI_get (by omega)] at e1
    rw [apI_get (by omega)] at e2
    cases e1' : q.1
    all_goals
      have h1 := Option.some.inj e1
      have h2 := Option.some.inj e2
      have e : s * (a + ((i + 1 : Nat) : Int)) = s * (a + (i : Int)) + s := by
        have : a + ((i + 1 : Nat) : Int) = a + (i : Int) + 1 := by omega
        rw [this, Int.mul_add, Int.mul_one]
      rw [decide_eq_true_eq]
      omega
theorem stepOk_diff {ns : List Int} {o : Int} (h : stepOk ns o = true) {i : Nat} {x y : Int} (e1 : ns[i]? = some x) (e2 : ns[i + 1]? = some y) : y - x = o := by
  unfold stepOk at h
  rw [Bool.and_eq_true, List.all_eq_true, List.all_eq_true] at h
  exact of_decide_eq_true (h.2 (x, y) (zip_tail_mem.mpr ⟨i, e1, e2⟩))
theorem stepsOf_mem {ns : List Int} {o : Int} : o ∈ stepsOf ns ↔ o ∈ steps ∧ stepOk ns o = true := List.mem_filter
/-- a row continued -/
theorem cont_ap {f s m b c : Int} (hm : 0 < m) (hb : 0 ≤ b) (hc : 0 ≤ c) : contL (apI f s 0 m) s b c = apI f s (-b) (m + c) := by
  rw [apI_app (a := -b) (b := 0) (c := m + c) (by omega) (by omega), apI_app (a := 0) (b := m) (c := m + c) (by omega) (by omega)]
  unfold contL
  rw [apI_hd hm, apI_lt hm, List.append_assoc]
  congr 1
  · unfold apI rgI
    rw [List.map_map]
    have e : (0 - -b).toNat = b.toNat := by omega
    rw [e]
    refine List.map_congr_left fun i _ => ?_
    show f + s * 0 - s * (b + (i : Int) * -1) = f + s * (-b + (i : Int))
    have e1 : b + (i : Int) * -1 = -(-b + (i : Int)) := by omega
    rw [e1, Int.mul_neg, Int.mul_zero]
    omega
  · congr 1
    unfold apI rgI
    rw [List.map_map]
    have e : (m + c - m).toNat = c.toNat := by omega
    rw [e]
    refine List.map_congr_left fun i _ => ?_
    show f + s * (m - 1) + s * (1 + (i : Int)) = f + s * (m + (i : Int))
    have e1 : m + (i : Int) = m - 1 + (1 + (i : Int)) := by omega
    rw [e1, Int.mul_add s (m - 1)]
    omega
end Ax
/-! ### rows with some taken out -/
namespace Ax
open PySem L2
def Asc (l : List Int) : Prop := l.Pairwise (· < ·)
theorem Asc.nodup {l : List Int} (h : Asc l) : l.Nodup := h.imp fun h => by omega
theorem Asc.le {l : List Int} (h : Asc l) : l.Pairwise (· ≤ ·) := h.imp fun h => by omega
theorem asc_eq {l m : List Int} (h1 : l.Pairwise (· ≤ ·)) (h2 : m.Pairwise (· ≤ ·)) (p : l.Perm m) : l = m :=
  List.Perm.eq_of_pairwise (le := fun a b => a ≤ b) (fun _ _ _ _ h h' => Int.le_antisymm h h') h1 h2 p
theorem asc_same {l m : List Int} (h1 : Asc l) (h2 : Asc m) (e : ∀ x, x ∈ l ↔ x ∈ m) : l = m :=
  asc_eq h1.le h2.le ((List.perm_ext_iff_of_nodup h1.nodup h2.nodup).mpr e)
theorem asc_get {l : List Int} (h : Asc l) {i j : Nat} {x y : Int} (ij : i < j) (e1 : l[i]? = some x) (e2 : l[j]? = some y) : x < y := by
  obtain ⟨h1, rfl⟩ := List.getElem?_eq_some_iff.mp e1
  obtain ⟨h2, rfl⟩ := List.getElem?_eq_some_iff.mp e2
  exact List.pairwise_iff_getElem.mp h i j h1 h2 ij
theorem asc_of {l : List Int} (h : upB l = true) : Asc l := by
  rw [upB_iff] at h
  refine List.pairwise_iff_getElem.mpr fun i j hi hj ij => ?_
  have step : ∀ d : Nat, i + d + 1 < l.length → ∀ (h1 : i + d + 1 < l.length), l[i] < l[i + d + 1] := fun d => by
    induction d with
    | zero => exact fun _ h1 => h i _ _ (List.getElem?_eq_getElem hi) (List.getElem?_eq_getElem h1)
    | succ d ih =>
      intro _ h1
      have h0 := ih (by omega) (by omega)
      have h2 := h (i + d + 1) _ _ (List.getElem?_eq_getElem (by omega)) (List.getElem?_eq_getElem (by omega))
      exact Int.lt_trans h0 h2
  have e : i + (j - i - 1) + 1 = j := by omega
  have q := step (j - i - 1) (by omega) (by omega)
  simp only [e] at q
  exact q
theorem row_asc {l : List Int} (h : Row l) : Asc l := asc_of (row_iff.mp h).2.2
theorem row_of {l : List Int} (h : Asc l) (h1 : 1 ≤ l.length) (h2 : l.length ≤ 50) (b : ∀ x, x ∈ l → -1000000 ≤ x ∧ x ≤ 1000000) : Row l :=
  ⟨h1, h2, b, fun i _ _ e1 e2 => asc_get h (Nat.lt_succ_self i) e1 e2⟩
theorem rgS_asc {i j c : Int} (hc : 1 ≤ c) : Asc (rgS i j c) := by
  unfold rgS Asc
  refine List.Pairwise.map _ (fun (a b : Nat) h => ?_) List.pairwise_lt_range
  have : (a : Int) * c < (b : Int) * c := Int.mul_lt_mul_of_pos_right (by omega) (by omega)
  omega
theorem rgS_mem {i j c x : Int} (hc : 1 ≤ c) : x ∈ rgS i j c ↔ i ≤ x ∧ x < j ∧ (x - i) % c = 0 := by
  unfold rgS
  rw [List.mem_map]
  constructor
  · rintro ⟨k, hk, rfl⟩
    rw [List.mem_range] at hk
    unfold rgN at hk
    have e : i + (k : Int) * c - i = (k : Int) * c := by omega
    have nn : 0 ≤ (k : Int) * c := Int.mul_nonneg (by omega) (by omega)
    rw [e, Int.mul_emod_left]
    split at hk
    · have h1 : (k : Int) ≤ (j - i - 1) / c := by omega
      have h2 := (Int.le_ediv_iff_mul_le (show 0 < c by omega)).mp h1
      exact ⟨by omega, by omega, rfl⟩
    · omega
  · rintro ⟨h1, h2, h3⟩
    have d := Int.emod_add_mul_ediv (x - i) c
    rw [h3, Int.mul_comm] at d
    have q0 : 0 ≤ (x - i) / c := Int.ediv_nonneg (by omega) (by omega)
    refine ⟨((x - i) / c).toNat, List.mem_range.mpr ?_, ?_⟩
    · unfold rgN
      rw [if_pos (by omega)]
      have : (x - i) / c ≤ (j - i - 1) / c := Int.ediv_le_ediv (by omega) (by omega)
      omega
    · have e : ((((x - i) / c).toNat : Nat) : Int) = (x - i) / c := by omega
      rw [e]
      omega
theorem hd_le {l : List Int} (h : Asc l) {x : Int} (hx : x ∈ l) : hdI l ≤ x ∧ x ≤ ltI l := by
  have ne : l ≠ [] := fun z => by
    rw [z] at hx
    cases hx
  obtain ⟨i, hi⟩ := List.mem_iff_getElem?.mp hx
  have hl := (List.getElem?_eq_some_iff.mp hi).1
  have e0 : l[0]? = some (hdI l) := by
    cases l with
    | nil => exact absurd rfl ne
    | cons y r => rfl
  have e1 : l[l.length - 1]? = some (ltI l) := by
    unfold ltI
    rw [List.getLastD_eq_getLast?, List.getLast?_eq_getElem?, List.getElem?_eq_getElem (by omega)]
    rfl
  constructor
  · by_cases c : i = 0
    · subst c
      rw [e0] at hi
      cases hi
      exact Int.le_refl _
    · exact Int.le_of_lt (asc_get h (by omega) e0 hi)
  · by_cases c : i = l.length - 1
    · subst c
      rw [e1] at hi
      cases hi
      exact Int.le_refl _
    · exact Int.le_of_lt (asc_get h (by omega) hi e1)
theorem diffs_mem {l : List Int} {x : Int} : x ∈ diffsI l ↔ ∃ (i : Nat) (y z : Int), l[i]? = some y ∧ l[i + 1]? = some z ∧ x = z - y := by
  unfold diffsI
  rw [List.mem_map]
  constructor
  · rintro ⟨q, hq, rfl⟩
    obtain ⟨i, e1, e2⟩ := zip_tail_mem.mp hq
    exact ⟨i, q.1, q.2, e1, e2, rfl⟩
  · rintro ⟨i, y, z, e1, e2, rfl⟩
    exact ⟨(y, z), zip_tail_mem.mpr ⟨i, e1, e2⟩, rfl⟩
theorem diffs_ne {l : List Int} (h : 2 ≤ l.length) : diffsI l ≠ [] := fun e => by
  have := congrArg List.length e
  unfold diffsI at this
  rw [List.length_map, List.length_zip, List.length_drop] at this
  have l0 : ([] : List Int).length = 0 := rfl
  omega
theorem diffs_nil {l : List Int} (h : l.length < 2) : diffsI l = [] := by
  refine List.eq_nil_of_length_eq_zero ?_
  unfold diffsI
  rw [List.length_map, List.length_zip, List.length_drop]
  omega
/-- the differences, as by places -/
theorem diffs_range (l : List Int) : (List.range (l.length - 1)).map (fun (k : Nat) => l.getD (k + 1) 0 - l.getD k 0) = diffsI l := by
  unfold diffsI
  refine List.ext_getElem? fun i => ?_
  rw [List.getElem?_map, List.getElem?_map]
  by_cases c : i < l.length - 1
  · rw [List.getElem?_range c]
    have e1 : l[i]? = some (l.getD i 0) := by
      rw [List.getD_eq_getElem?_getD, List.getElem?_eq_getElem (by omega)]
      rfl
    have e2 : l[i + 1]? = some (l.getD (i + 1) 0) := by
      rw [List.getD_eq_getElem?_getD, List.getElem?_eq_getElem (by omega)]
      rfl
    rw [zip_tail_get (q := (l.getD i 0, l.getD (i + 1) 0)) |>.mpr ⟨e1, e2⟩]
    rfl
  · rw [List.getElem?_eq_none (by rw [List.length_range]; omega), List.getElem?_eq_none (by rw [List.length_zip, List.length_drop]; omega)]
    rfl
/-- the whole row: those there and those missing -/
theorem miss_all {l : List Int} (h : Asc l) (ne : l ≠ []) {m : Int} (hm : 1 ≤ m) (dv : ∀ x, x ∈ l → x % m = 0) (em : leastI (diffsI l) = m) : ∀ x, x ∈ l ++ missL l ↔ x ∈ rgS (hdI l) (ltI l + 1) m := by
  intro x
  have d0 := dv _ (hd_mem ne)
  unfold missL
  rw [em, List.mem_append, List.mem_filter, rgS_mem hm, rgS_mem hm]
  constructor
  · rintro (hx | ⟨⟨h1, h2, h3⟩, _⟩)
    · have := hd_le h hx
      refine ⟨this.1, by omega, ?_⟩
      rw [Int.sub_emod, dv x hx, d0]
      simp
    · exact ⟨h1, by omega, h3⟩
  · rintro ⟨h1, h2, h3⟩
    by_cases c : x ∈ l
    · exact .inl c
    · have : x ≠ ltI l := fun z => c (z ▸ lt_mem ne)
      exact .inr ⟨⟨h1, by omega, h3⟩, by simp [c]⟩
theorem miss_nodup {l : List Int} (h : Asc l) {m : Int} (hm : 1 ≤ m) (em : leastI (diffsI l) = m) : (l ++ missL l).Nodup := by
  rw [List.nodup_append]
  refine ⟨h.nodup, ?_, fun a ha b hb e => ?_⟩
  · unfold missL
    rw [em]
    exact (rgS_asc hm).nodup.filter _
  · subst e
    have := (List.mem_filter.mp hb).2
    rw [Bool.not_eq_true', decide_eq_false_iff_not] at this
    exact this ha
theorem miss_sort {l ns : List Int} (h : Asc l) (ne : l ≠ []) {m : Int} (hm : 1 ≤ m) (dv : ∀ x, x ∈ l → x % m = 0) (em : leastI (diffsI l) = m) (p : ns.Perm (l ++ missL l)) (s : ns.Pairwise (· ≤ ·)) : ns = rgS (hdI l) (ltI l + 1) m :=
  asc_eq s (rgS_asc hm).le (p.trans ((List.perm_ext_iff_of_nodup (miss_nodup h hm em) (rgS_asc hm).nodup).mpr (miss_all h ne hm dv em)))
/-- all marks from the first number on -/
theorem rgS_marks {lo hi st : Int} (h : 1 ≤ st) (r : lo ≤ hi) (d : lo % st = 0) : rgS lo (hi + 1) st = marksL lo hi st := by
  refine asc_same (rgS_asc h) ?_ fun x => ?_
  · unfold marksL Asc
    refine List.Pairwise.map _ (fun (a b : Nat) h => ?_) List.pairwise_lt_range
    have : (a : Int) * st < (b : Int) * st := Int.mul_lt_mul_of_pos_right (by omega) (by omega)
    omega
  · rw [rgS_mem h, marks_mem (by omega) (by omega)]
    have e : (x - lo) % st = x % st := by
      have d1 := Int.emod_add_mul_ediv lo st
      rw [d] at d1
      have : x - lo = x + st * (-(lo / st)) := by rw [Int.mul_neg]; omega
      rw [this, Int.add_mul_emod_self_left]
    rw [e]
    constructor
    · rintro ⟨h1, h2, h3⟩
      exact ⟨⟨h1, by omega⟩, h3⟩
    · rintro ⟨⟨h1, h2⟩, h3⟩
      exact ⟨h1, by omega, h3⟩
/-- a row by one step: an arithmetic progression -/
theorem step_ap {l : List Int} {s : Int} (h : stepOk l s = true) (ne : l ≠ []) : l = apI (hdI l) s 0 l.length := by
  have e0 : l[0]? = some (hdI l) := by
    cases l with
    | nil => exact absurd rfl ne
    | cons y r => rfl
  have at_ : ∀ i : Nat, i < l.length → l[i]? = some (hdI l + s * (0 + (i : Int))) := fun i => by
    induction i with
    | zero =>
      intro _
      rw [e0]
      simp
    | succ i ih =>
      intro hi
      have e1 := ih (by omega)
      obtain ⟨y, e2⟩ : ∃ y, l[i + 1]? = some y := ⟨_, List.getElem?_eq_getElem hi⟩
      have d := stepOk_diff h e1 e2
      have e : s * (0 + ((i + 1 : Nat) : Int)) = s * (0 + (i : Int)) + s := by
        have : 0 + ((i + 1 : Nat) : Int) = 0 + (i : Int) + 1 := by omega
        rw [this, Int.mul_add, Int.mul_one]
      rw [e2, e]
      congr 1
      omega
  refine List.ext_getElem? fun i => ?_
  by_cases c : i < l.length
  · rw [at_ i c, apI_get (by omega)]
  · rw [List.getElem?_eq_none (by omega), List.getElem?_eq_none (by rw [apI_len]; omega)]
theorem can_iff {l : List Int} (h : Asc l) (h2 : 2 ≤ l.length) {m : Int} (ms : m ∈ steps) (dv : ∀ x, x ∈ l → x % m = 0) (em : leastI (diffsI l) = m) : (stepsOf l ≠ []) ↔ missL l = [] := by
  have hm := (step_bounds m ms).1
  have ne : l ≠ [] := fun z => by
    rw [z] at h2
    exact absurd h2 (by decide)
  have all := miss_all h ne hm dv em
  constructor
  · intro hs
    obtain ⟨s, hs⟩ := List.exists_mem_of_ne_nil _ hs
    obtain ⟨s1, s2⟩ := stepsOf_mem.mp hs
    have b1 := (step_bounds s s1).1
    -- the least difference is s
    have es : leastI (diffsI l) = s := by
      obtain ⟨h3, _⟩ := leastI_spec (diffs_ne h2)
      obtain ⟨i, y, z, e1, e2, e3⟩ := diffs_mem.mp h3
      rw [e3]
      exact stepOk_diff s2 e1 e2
    have ap := step_ap s2 ne
    unfold missL
    rw [es]
    refine List.filter_eq_nil_iff.mpr fun x hx => ?_
    rw [rgS_mem b1] at hx
    obtain ⟨h4, h5, h6⟩ := hx
    rw [Bool.not_eq_true, Bool.not_eq_false', decide_eq_true_eq]
    have d := Int.emod_add_mul_ediv (x - hdI l) s
    rw [h6] at d
    have lt : ltI l = hdI l + s * ((l.length : Int) - 1) := by
      have q := apI_lt (f := hdI l) (s := s) (a := 0) (b := (l.length : Int)) (by omega)
      rw [← ap] at q
      exact q
    have q0 : 0 ≤ (x - hdI l) / s := Int.ediv_nonneg (by omega) (by omega)
    have q1 : (x - hdI l) / s < (l.length : Int) - 1 := Int.lt_of_mul_lt_mul_left (a := s) (by omega) (by omega)
    rw [ap]
    refine List.mem_map.mpr ⟨(x - hdI l) / s, rgI_mem.mpr ⟨q0, by omega⟩, by omega⟩
  · intro e
    rw [e, List.append_nil] at all
    have el : l = rgS (hdI l) (ltI l + 1) m := asc_same h (rgS_asc hm) all
    have ea : rgS (hdI l) (ltI l + 1) m = apI (hdI l) m 0 (rgN (hdI l) (ltI l + 1) m) := by
      unfold rgS apI rgI
      rw [List.map_map]
      have e1 : ((rgN (hdI l) (ltI l + 1) m : Int) - 0).toNat = rgN (hdI l) (ltI l + 1) m := by omega
      rw [e1]
      refine List.map_congr_left fun k _ => ?_
      show hdI l + (k : Int) * m = hdI l + m * (0 + (k : Int))
      rw [Int.zero_add, Int.mul_comm]
    intro z
    have : m ∈ stepsOf l := stepsOf_mem.mpr ⟨ms, by
      rw [el, ea]
      exact apI_step hm (dv _ (hd_mem ne))⟩
    rw [z] at this
    cases this
theorem apI_asc {f s a b : Int} (hs : 1 ≤ s) : Asc (apI f s a b) := by
  unfold apI rgI Asc
  rw [List.map_map]
  refine List.Pairwise.map _ (fun (x y : Nat) h => ?_) List.pairwise_lt_range
  show f + s * (a + (x : Int)) < f + s * (a + (y : Int))
  have : s * (a + (x : Int)) < s * (a + (y : Int)) := Int.mul_lt_mul_of_pos_left (by omega) (by omega)
  omega
end Ax
namespace Ax
open PySem L2
section
variable {K : PySem.W.Frag} {H : Hp} {Q : VK} {a : Addr} {ns : List Int}
theorem r_sortedI (s : SqL K H a (ns.map V.int)) (h : ∀ (ns' : List Int) (p : Addr), ns'.Perm ns → ns'.Pairwise (· ≤ ·) → H p = none → Q (.ref p) (upd H p (.lst (ns'.map V.int)))) : rSortedI K [.ref a] H Q := ⟨a, ns, rfl, s, h⟩
theorem at_getN {j : Int} {i : Nat} (e : j = (i : Int)) (h : i < ns.length) : atI (ns.map V.int) j = some (.int (ns.getD i 0)) := by
  subst e
  refine atI_nat ?_
  rw [List.getElem?_map, List.getElem?_eq_getElem h, List.getD_eq_getElem?_getD, List.getElem?_eq_getElem h]
  rfl
end
end Ax
/-! ### slots, looked up by their places -/
namespace Ax
open PySem L2
theorem get_ne {σ : L2.St} {i j : Nat} {x : Option V} {r : Option (Option V)} (h : i ≠ j) (e : σ[j]? = r) : (σ.set i x)[j]? = r := by
  rw [List.getElem?_set_ne h]
  exact e
theorem get_eq {σ : L2.St} {i : Nat} {x : Option V} (h : i < σ.length) : (σ.set i x)[i]? = some x := by
  rw [List.getElem?_set_self h]
theorem len_set {σ : L2.St} {i j : Nat} {x : Option V} (h : j < σ.length) : j < (σ.set i x).length := by
  rw [List.length_set]
  exact h
theorem wipe_len : ∀ (vs : List Nat) (σ : L2.St), (wipe σ vs).length = σ.length
  | [], _ => rfl
  | v :: r, σ => by
    show ((wipe σ r).set v none).length = σ.length
    rw [List.length_set, wipe_len r σ]
theorem len_wipe {σ : L2.St} {j : Nat} {vs : List Nat} (h : j < σ.length) : j < (wipe σ vs).length := by
  rw [wipe_len]
  exact h
theorem get_wipe {σ : L2.St} {j : Nat} {r : Option (Option V)} : ∀ {vs : List Nat}, (vs.all fun v => !decide (v = j)) = true → σ[j]? = r → (wipe σ vs)[j]? = r
  | [], _, e => e
  | v :: t, h, e => by
    rw [List.all_cons, Bool.and_eq_true, Bool.not_eq_true', decide_eq_false_iff_not] at h
    show ((wipe σ t).set v none)[j]? = r
    rw [List.getElem?_set_ne h.1]
    exact get_wipe h.2 e
end Ax
namespace Ax
open PySem L2
theorem at_map {α : Type} {f : α → V} {xs : List α} {i : Int} {o : Option V} (h : atI (xs.map f) i = o) : atI (xs.map f) i = o := h
end Ax
/-! ### set(..) of a list of whole numbers -/
namespace Ax
open PySem PySem.Spec PyProof.Rows L2
section
variable {P : Program} {w : World} {A : Around} {E : Value → Shared → Prop} {s : Shared}
/-- a built-in class is called: its __init__'s check is told as a run -/
theorem call_cls {T mk ini : String} {B : Builtin} {vs : List Value} {Q N : Value → Shared → Prop} (c : TypeCalled T mk ini) (ck : checkTypeCall T ⟨vs, []⟩ = pure ()) (en : entryFor table ini = some B)
    (one : codeAny (model P w) A.in1 (.call (.builtin mk) ⟨.type T :: vs, []⟩) (wants N E) s)
    (two : ∀ o s1, N o s1 → s1.TypeIs o T ∧ (∀ (A1 : Around) (R : Unit → Shared → Prop) (E1 : Value → Shared → Prop), R () s1 → wpAny (model P w) A1 (checkBuiltinCall ini ⟨o :: vs, []⟩) R E1 s1) ∧
      wpAny (model P w) A.in1.in1 (B ⟨o :: vs, []⟩) (fun fin s' => match fin with
        | .done f => wants (fun r s2 => r = .none ∧ Q o s2) E (.ok f) s'
        | .again c' => c'.quiet = true ∧ codeAny (model P w) A.in1 c' (wants (fun r s2 => r = .none ∧ Q o s2) E) s') (fun e s' => E e s') s1) : wpAny (model P w) A (call (.type T) vs) Q E s := by
  have ⟨k0, k1, mro⟩ := c.mro
  have made := c.made
  have sb := c.sub
  have nt := c.notType
  have cc := c.canCreate
  refine wpAny_call (codeAny_of_tree (show wpAny _ _ (callAny (.type T) _) _ _ _ from wpAny_pure ⟨Code.quiet_builtin _ (by decide +kernel), codeAny_builtin PySem.F.entry_type_call ?_⟩))
  rw [Around.under_plain (weight_type_call_type T vs []) rfl]
  repeat (any_goals (first | assumption | wp_step))
  refine codeAny_mono one fun r s1 hr => ?_
  match r, hr with
  | .error _, hr => exact hr
  | .ok .next, hr => exact hr.elim
  | .ok .brk, hr => exact hr.elim
  | .ok .cont, hr => exact hr.elim
  | .ok (.ret o), hr =>
    obtain ⟨isT, chk, run⟩ := two _ _ hr
    have look := c.init.lookup
    have bind := c.init.bind o
    repeat (any_goals (first | assumption | wp_step))
    refine codeAny_mono (codeAny_call_builtin (R := wants (fun r s2 => r = .none ∧ Q o s2) E) c.init.plain en (chk _ _ _ run)) fun r2 s2 hr2 => ?_
    match r2, hr2 with
    | .error _, hr2 => exact hr2
    | .ok .next, hr2 => exact hr2.elim
    | .ok .brk, hr2 => exact hr2.elim
    | .ok .cont, hr2 => exact hr2.elim
    | .ok (.ret _), hr2 =>
      obtain ⟨rfl, q⟩ := hr2
      repeat (any_goals (first | assumption | wp_step))
/-- a new empty set -/
abbrev set0 (w : World) : Obj := { cls := .type "set", dict := none, data := .set #[] 0 (.fresh 0 0 (!w.params.followText "set-order")) }
theorem set_of_list {l : Addr} {items : Array Value} (ns : List Int) {Q : Value → Shared → Prop} (calm : A.handled = none) (isl : s.heap.IsList l items) (hints : IntsAre items.toList ns) (few : ns.length + 1 < scanBound)
    (q : ∀ (h' : Heap) (tk c : Nat), SetR w h' s.heap.objs.size (fun j => decide (j ∈ ns)) c → c ≤ ns.length → (∀ b o, s.heap.get? b = some o → h'.get? b = some o) → Q (.ref s.heap.objs.size) { s with heap := h', toks := tk }) :
    wpAny (model P w) A (call (.type "set") [.ref l]) Q E s := by
  have size : items.size = ns.length := by
    have e := IntsAre.length hints
    rwa [Array.length_toList] at e
  have hS : (s.heap.push (set0 w)).get? s.heap.objs.size = some (set0 w) := Heap.get?_push_size _ rfl
  have hT : Shared.TypeIs { s with heap := s.heap.push (set0 w) } (.ref s.heap.objs.size) "set" := ⟨_, hS, rfl⟩
  have lt : l < s.heap.objs.size := by
    obtain ⟨o, ho, _⟩ := isl
    exact Heap.lt_size ho
  refine call_cls (N := fun obj s1 => obj = .ref s.heap.objs.size ∧ s1 = { s with heap := s.heap.push (set0 w) }) F.called_set (F.typeCall_set_1 _) F.entry_set_init (code_set_led1 (.ref l) ⟨rfl, rfl⟩) fun obj s1 hq => ?_
  obtain ⟨rfl, rfl⟩ := hq
  refine ⟨hT, fun _ _ _ k => check_set_init_1 hT k, ?_⟩
  have isl1 : (s.heap.push (set0 w)).IsList l items := isl.push _
  have sz1 : (s.heap.push (set0 w)).objs.size = s.heap.objs.size + 1 := Heap.size_push ..
  have neI : l ≠ (s.heap.push (set0 w)).objs.size := Nat.ne_of_lt (by rw [sz1]; exact Nat.lt_succ_of_lt lt)
  obtain ⟨ol, hol, hcl, nl, hdl⟩ := isl
  obtain ⟨ocls, odict, odata, oslots⟩ := ol
  simp only at hcl hdl
  subst hcl
  subst hdl
  have hol' : (s.heap.push (set0 w)).get? l = some { cls := .type "list", dict := odict, data := .seq items nl, slots := oslots } := Heap.get?_push_of_some _ hol
  have h1 := F.sub_list_set
  have h2 := F.sub_list_frozenset
  have h3 : (Value.type "list" == Value.type "dict") = false := by decide
  unfold Builtin.«set.__init__» noKeywords Builtin.Frozenset.updateFrom
  generalize hPI : pyIter = PI
  wp_walk
  subst hPI
  refine wpAny_pyIter_list isl1 ?_
  refine wpAny_bind (wpAny_runValue ?_)
  have calm3 : A.in1.in1.in1.handled = none := by simp [calm]
  have fresh : s.heap.objs.size ∉ [(s.heap.push (set0 w)).objs.size, l] := by
    rw [sz1, List.mem_cons, List.mem_singleton]
    rintro (z | z)
    · exact absurd z (Nat.ne_of_lt (Nat.lt_succ_self _))
    · exact absurd z.symm (Nat.ne_of_lt lt)
  have vals : ∀ (i : Nat) (v : Value), items[i]? = some v → ∃ k t, ns[i]? = some k ∧ v = .int k t := fun i v hv => by
    have hi : i < ns.length := by rw [← size]; exact (Array.getElem?_eq_some_iff.mp hv).1
    obtain ⟨t, e⟩ := PyProof.Rows.IntsAre.int_at hints i v (by rw [Array.getElem?_toList]; exact hv)
    refine ⟨ns[i], t, List.getElem?_eq_getElem hi, e.trans ?_⟩
    rw [List.getD_eq_getElem?_getD, List.getElem?_eq_getElem hi]
    rfl
  refine set_update_ints ((Walks.list calm3 _ l neI items).toS) s.heap.objs.size fresh ns size few vals (items.size - 0) 0 _ (by omega) (Nat.zero_le _) ⟨⟨_, Heap.get?_push_size _ rfl, rfl, rfl⟩, isl1.push _⟩ ⟨0, Nat.le_refl 0, setR_new_at (Heap.get?_push_of_some _ hS)⟩ fun s2 c2 mv le2 set2 => ?_
  obtain ⟨h2', g2, d2, tk2, os2⟩ := s2
  have eg : g2 = s.gens := mv.gens
  have ed : d2 = s.drawn := mv.drawn
  have eo : os2 = s.os := mv.os
  subst eg
  subst ed
  subst eo
  show wpAny _ _ _ _ _ _
  refine wpAny_pure ?_
  show wpAny _ _ (ret Value.none) _ _ _
  refine wpAny_pure ⟨rfl, q h2' tk2 c2 set2 (by rw [← size]; exact le2) fun b o e => ?_⟩
  have b0 : b < s.heap.objs.size := Heap.lt_size e
  refine mv.heap b o ?_ (Heap.get?_push_of_some _ (Heap.get?_push_of_some _ e))
  rw [List.mem_cons, List.mem_singleton, sz1]
  rintro (z | z)
  · exact absurd z (Nat.ne_of_lt b0)
  · exact absurd z (Nat.ne_of_lt (Nat.lt_succ_of_lt b0))
/-- set(xs), xs a list of whole numbers -/
def rSetI (K : PySem.W.Frag) (w : World) : List V → Hp → VK → Prop := fun xs H Q => ∃ (p : Addr) (ns : List Int), xs = [.ref p] ∧ SqL K H p (ns.map V.int) ∧ ns.length ≤ 1000 ∧ ∀ q n, H q = none → n ≤ ns.length → Q (.ref q) (upd H q (SetO w q (fun j => decide (j ∈ ns)) n))
theorem call_setI {X : Cx} (hc : X.calm = true) : CallR X (.type "set") (rSetI X.K X.w) := by
  intro pins s σ H xs us Q I r h
  obtain ⟨p, ns, rfl, hs, hl, k⟩ := h
  cases Vals.ref1 r
  obtain ⟨its, rv, il, hz⟩ := I.list hs
  refine set_of_list ns (I.ok.hd hc) il.isList rv.ints (by unfold scanBound; omega) fun h' tk c R le keep => ?_
  exact ⟨.ref s.heap.objs.size, upd H s.heap.objs.size (SetO X.w s.heap.objs.size (fun j => decide (j ∈ ns)) c), I.laid keep (Nat.le_refl _) (setO_new R), rfl, k _ c (I.hok.fresh (Nat.le_refl _)) le⟩
theorem r_setI {K : PySem.W.Frag} {H : Hp} {Q : VK} {p : Addr} {ns : List Int} (hs : SqL K H p (ns.map V.int)) (hl : ns.length ≤ 1000) (h : ∀ q n, H q = none → n ≤ ns.length → Q (.ref q) (upd H q (SetO w q (fun j => decide (j ∈ ns)) n))) : rSetI K w [.ref p] H Q := ⟨p, ns, rfl, hs, hl, h⟩
theorem r_sortS {H : Hp} {Q : VK} {a : Addr} {S : Int → Bool} {n : Nat} (e : H a = some (SetO w a S n)) (hl : n < 64) (h : ∀ (ns : List Int) (p : Addr), ns.Pairwise (· < ·) → (∀ k : Int, k ∈ ns ↔ S k = true) → ns.length = n → H p = none → Q (.ref p) (upd H p (.lst (ns.map V.int)))) : rSortedSet w [.ref a] H Q := ⟨a, S, n, rfl, e, hl, h⟩
end
end Ax
/-! ### rows read back -/
namespace Ax
open PySem L2
theorem r_cutP {t u : TS} {D : Ends} {σ : L2.St} {H : Hp} (P : L2.St → Hp → Prop) (rest : ∀ σ' H', P σ' H' → u D σ' H') (h : ∀ N : L2.St → Hp → Prop, (∀ σ' H', P σ' H' → N σ' H') → t { D with nx := N } σ H) : tSeq t u D σ H := h (u D) rest
theorem apI_iff {f s m x : Int} (hs : 1 ≤ s) (hf : f % s = 0) : x ∈ apI f s 0 m ↔ x % s = 0 ∧ f ≤ x ∧ x ≤ f + s * (m - 1) := by
  constructor
  · intro h
    obtain ⟨k, k1, k2, rfl⟩ := apI_mem h
    have q1 := Int.mul_le_mul_of_nonneg_left (show 0 ≤ k from k1) (show 0 ≤ s by omega)
    have q2 := Int.mul_le_mul_of_nonneg_left (show k ≤ m - 1 by omega) (show 0 ≤ s by omega)
    rw [Int.mul_zero] at q1
    refine ⟨?_, by omega, by omega⟩
    rw [Int.add_mul_emod_self_left]
    exact hf
  · rintro ⟨h1, h2, h3⟩
    have d1 := Int.emod_add_mul_ediv x s
    have d2 := Int.emod_add_mul_ediv f s
    rw [h1] at d1
    rw [hf] at d2
    have e : x = f + s * (x / s - f / s) := by rw [Int.mul_sub]; omega
    have g1 : 0 ≤ x / s - f / s := by
      have := Int.ediv_le_ediv (show 0 < s by omega) h2
      omega
    have g2 : x / s - f / s < m := by
      have : s * (x / s - f / s) < s * m := by
        have : s * m = s * (m - 1) + s := by rw [Int.mul_sub, Int.mul_one]; omega
        omega
      exact Int.lt_of_mul_lt_mul_left this (by omega)
    rw [e]
    exact List.mem_map.mpr ⟨_, rgI_mem.mpr ⟨g1, g2⟩, rfl⟩
theorem tried_asc (lo hi s : Int) : Asc (triedL lo hi s) := by
  unfold triedL Asc
  refine List.Pairwise.filter _ (List.Pairwise.map _ (fun (a b : Nat) h => ?_) List.pairwise_lt_range)
  omega
theorem tried_eq {f s m a b : Int} (hs : 1 ≤ s) (hf : f % s = 0) : triedL a b s = apI f s 0 m ↔ ∀ x, x % s = 0 → ((a ≤ x ∧ x ≤ b) ↔ (f ≤ x ∧ x ≤ f + s * (m - 1))) := by
  constructor
  · intro e x hx
    have h1 := tried_mem a b s x
    rw [e, apI_iff hs hf] at h1
    exact ⟨fun z => (h1.mpr ⟨z, hx⟩).2, fun z => (h1.mp ⟨hx, z⟩).1⟩
  · intro h
    refine asc_same (tried_asc _ _ _) (apI_asc hs) fun x => ?_
    rw [tried_mem, apI_iff hs hf]
    exact ⟨fun ⟨z, y⟩ => ⟨y, (h x y).mp z⟩, fun ⟨y, z⟩ => ⟨(h x y).mpr z, y⟩⟩
theorem mod_sub {f s : Int} (hf : f % s = 0) : (f - s) % s = 0 := by
  have : f - s = f + s * (-1) := by omega
  rw [this, Int.add_mul_emod_self_left]
  exact hf
theorem mod_next {x f s : Int} (hs : 1 ≤ s) (hx : x % s = 0) (hf : f % s = 0) (h : f - s < x) : f ≤ x := by
  by_cases c : f ≤ x
  · exact c
  · have := near_eq (st := s) (by omega) hx hf (by omega) (by omega)
    omega
theorem tried_low {f s m low : Int} (hs : 1 ≤ s) (hf : f % s = 0) (hm : 0 < m) : triedL low (f + s * (m - 1)) s = apI f s 0 m ↔ (f - s + 1 ≤ low ∧ low ≤ f) := by
  have q := Int.mul_le_mul_of_nonneg_left (show 0 ≤ m - 1 by omega) (show 0 ≤ s by omega)
  rw [Int.mul_zero] at q
  rw [tried_eq hs hf]
  constructor
  · intro h
    have h1 := (h f hf).mpr ⟨Int.le_refl _, by omega⟩
    refine ⟨?_, h1.1⟩
    by_cases c : f - s + 1 ≤ low
    · exact c
    · have := (h (f - s) (mod_sub hf)).mp ⟨by omega, by omega⟩
      omega
  · rintro ⟨h1, h2⟩ x hx
    exact ⟨fun ⟨z1, z2⟩ => ⟨mod_next hs hx hf (by omega), z2⟩, fun ⟨z1, z2⟩ => ⟨by omega, z2⟩⟩
theorem tried_high {f s m high : Int} (hs : 1 ≤ s) (hf : f % s = 0) (hm : 0 < m) : triedL f high s = apI f s 0 m ↔ (f + s * (m - 1) ≤ high ∧ high ≤ f + s * (m - 1) + s - 1) := by
  have q := Int.mul_le_mul_of_nonneg_left (show 0 ≤ m - 1 by omega) (show 0 ≤ s by omega)
  rw [Int.mul_zero] at q
  have hL : (f + s * (m - 1)) % s = 0 := by
    rw [Int.add_mul_emod_self_left]
    exact hf
  have hN : (f + s * (m - 1) + s) % s = 0 := by
    have : f + s * (m - 1) + s = f + s * m := by rw [Int.mul_sub, Int.mul_one]; omega
    rw [this, Int.add_mul_emod_self_left]
    exact hf
  rw [tried_eq hs hf]
  constructor
  · intro h
    have h1 := (h _ hL).mpr ⟨by omega, Int.le_refl _⟩
    refine ⟨h1.2, ?_⟩
    by_cases c : high ≤ f + s * (m - 1) + s - 1
    · exact c
    · have := (h _ hN).mp ⟨by omega, by omega⟩
      omega
  · rintro ⟨h1, h2⟩ x hx
    refine ⟨fun ⟨z1, z2⟩ => ⟨z1, ?_⟩, fun ⟨z1, z2⟩ => ⟨z1, by omega⟩⟩
    by_cases c : x ≤ f + s * (m - 1)
    · exact c
    · have := mod_next hs hN hx (by omega)
      have e := near_eq (st := s) (by omega) hx hN (by omega) (by omega)
      omega
theorem marks_ap (lo hi st : Int) (h : 1 ≤ st) (r : lo ≤ hi + 1) : marksL lo hi st = apI (fst lo st) st 0 (cnt lo hi st) := by
  unfold marksL apI rgI
  rw [List.map_map]
  have e : cnt lo hi st - 0 = cnt lo hi st := by omega
  rw [e]
  refine List.map_congr_left fun k _ => ?_
  show fst lo st + (k : Int) * st = fst lo st + st * (0 + (k : Int))
  rw [Int.zero_add, Int.mul_comm]
end Ax
namespace Ax
theorem rgI_hd {a b : Int} (h : a < b) : hdI (rgI a b) = a := by
  rw [rgI_cons h]
  rfl
theorem rgI_lt {a b : Int} (h : a < b) : ltI (rgI a b) = b - 1 := by
  have e : b = b - 1 + 1 := by omega
  unfold ltI
  rw [e, rgI_snoc (by omega), List.getLastD_eq_getLast?]
  simp
theorem rgI_ne {a b : Int} (h : a < b) : rgI a b ≠ [] := by
  rw [rgI_cons h]
  exact List.cons_ne_nil _ _
end Ax
/-! ### facts of a class with methods, one record a class, one a method -/
namespace Ax
open PySem L2
structure Kl (K : PySem.W.Frag) (mg : Str → Option Value) (x : Str) : Type where
  C : Addr
  g : mg x = some (.ref C)
  cl : Cls K C
structure Md (K : PySem.W.Frag) (C : Addr) (x q : Str) (st : Stmt) (ps : List Str) : Type where
  f : Addr
  fd : FuncData
  F : Fun K x q st f fd
  b : Binds K fd ps []
  m : Meth K C x f
/-! ### an axis: at x, its list of past ranges at l -/
def AxAt (K : PySem.W.Frag) (C : Addr) (H : Hp) (x l : Addr) (cur : Int × Int) (most : Int) (past : List (Int × Int)) : Prop :=
  ∃ dx now us, H x = some (.ins C dx (axF (.ref now) (.int most) (.ref l))) ∧ H l = some (.lst us) ∧ SqT K H now [.int cur.1, .int cur.2] ∧ DpAll K H us (past.map pairD) ∧ Rg cur.1 cur.2 ∧ ∀ q, q ∈ past → Rg q.1 q.2
def Fx (x l : Addr) (H H' : Hp) : Prop := ∀ b o, H b = some o → b ≠ x → b ≠ l → H' b = some o
section
variable {K : PySem.W.Frag} {C : Addr} {H H1 H' : Hp} {x l a d n p : Addr} {cur : Int × Int} {most : Int} {past : List (Int × Int)} {xs : List V} {o : HO} {ps : List (Int × Int)} {us : List V}
theorem AxAt.same (s : Same H H') (h : AxAt K C H x l cur most past) : AxAt K C H' x l cur most past := by
  obtain ⟨dx, now, us, h1, h2, h3, h4, h5, h6⟩ := h
  exact ⟨dx, now, us, s _ _ h1, s _ _ h2, Same.seqT s h3, DpAll.to s h4, h5, h6⟩
theorem Fx.of (s : Same H H') : Fx x l H H' := fun b o e _ _ => s b o e
theorem Fx.refl : Fx x l H H := fun _ _ e _ _ => e
theorem Fx.trans (a : Fx x l H H1) (b : Fx x l H1 H') : Fx x l H H' := fun c o e h1 h2 => b c o (a c o e h1 h2) h1 h2
theorem Fx.same (a : Fx x l H H1) (s : Same H1 H') : Fx x l H H' := a.trans (Fx.of s)
theorem Fx.seqT (k : Fx x l H H') (h : AxAt K C H x l cur most past) (s : SqT K H a xs) : SqT K H' a xs := by
  obtain ⟨dx, now, us, h1, h2, _⟩ := h
  have ne : ∀ u, H a = some u → (∀ ws, u ≠ .lst ws) → (∀ c dx fs, u ≠ .ins c dx fs) → H' a = some u := fun u e z y => k a u e (ne_of e h1 (y _ _ _)) (ne_of e h2 (z _))
  rcases s with (s | ⟨o, s⟩) | s
  · exact .inl (.inl (ne _ s (fun _ z => by cases z) fun _ _ _ z => by cases z))
  · exact .inl (.inr ⟨o, ne _ s (fun _ z => by cases z) fun _ _ _ z => by cases z⟩)
  · exact .inr s
theorem Fx.pairs (k : Fx x l H H') (h : AxAt K C H x l cur most past) (da : DpAll K H us (ps.map pairD)) : DpAll K H' us (ps.map pairD) := dpa_tups (fun _ _ q => Fx.seqT k h q) _ _ (noPairs ps) da
/-- from a heap in which the axis was not yet -/
theorem Fx.old {H0 : Hp} (s : Same H0 H) (k : Fx x l H H') (nx : H0 x = none) (nl : H0 l = none) : Same H0 H' := fun b o e => k b o (s b o e) (ne_of_none e nx) (ne_of_none e nl)
/-- draws do not touch the axis -/
theorem AxAt.kp (k : Kp d n H H') (r : Dr H d n) (ol : Of d n l) (h : AxAt K C H x l cur most past) : AxAt K C H' x l cur most past := by
  obtain ⟨dx, now, us, h1, h2, h3, h4, h5, h6⟩ := h
  obtain ⟨ys, zs, e1, e2⟩ := r.lst
  have ox : Of d n x := ⟨ne_of h1 e1 (fun z => by cases z), ne_of h1 e2 (fun z => by cases z)⟩
  exact ⟨dx, now, us, k.at ox h1, k.at ol h2, Kp.seqT k r h3, Kp.pairs k r h4, h5, h6⟩
/-- one more -/
theorem AxAt.push {q : Int × Int} (h : AxAt K C H x l cur most past) (s : SqT K H p [.int q.1, .int q.2]) (r : Rg q.1 q.2) : ∃ dx now us, H x = some (.ins C dx (axF (.ref now) (.int most) (.ref l))) ∧ H l = some (.lst us) ∧ SqT K H now [.int cur.1, .int cur.2] ∧ us.length = past.length ∧ x ≠ l ∧
    ∀ H2, H2 = upd (upd H l (.lst (us ++ [.ref now]))) x (.ins C dx (axF (.ref p) (.int most) (.ref l))) → Fx x l H H2 ∧ AxAt K C H2 x l q most (past ++ [cur]) ∧ SqT K H2 p [.int q.1, .int q.2] := by
  have h0 := h
  obtain ⟨dx, now, us, h1, h2, h3, h4, h5, h6⟩ := h
  have ne : x ≠ l := ne_of h1 h2 fun z => by cases z
  have ul := dpa_len h4
  rw [List.length_map] at ul
  refine ⟨dx, now, us, h1, h2, h3, ul, ne, fun H2 e => ?_⟩
  have fx : Fx x l H H2 := fun b o eb b1 b2 => by
    rw [e, upd_ne b1, upd_ne b2]
    exact eb
  have sp := Fx.seqT fx h0 s
  have sn := Fx.seqT fx h0 h3
  refine ⟨fx, ⟨dx, p, us ++ [.ref now], by rw [e, upd_same], by rw [e, upd_ne ne.symm, upd_same], sp, ?_, r, fun z hz => ?_⟩, sp⟩
  · rw [List.map_append]
    exact DpAll.app (Fx.pairs fx h0 h4) (.cons (.tup sn (.cons (.int _) (.cons (.int _) .nil))) .nil)
  · rcases List.mem_append.mp hz with hz | hz
    · exact h6 z hz
    · rw [List.mem_singleton] at hz
      subst hz
      exact h5
end
end Ax
namespace Ax
open PySem L2
theorem putF_len (f : Str) (v : V) : ∀ fs : List (Str × V), (putF f v fs).length ≤ fs.length + 1
  | [] => Nat.le_refl _
  | (g, x) :: r => by
    have ih := putF_len f v r
    show (if g = f then (g, v) :: r else (g, x) :: putF f v r).length ≤ _
    split
    · simp
    · simp only [List.length_cons]
      omega
theorem axF_no {x y z : V} {m : Str} (h1 : ¬ m = "now") (h2 : ¬ m = "most") (h3 : ¬ m = "past") : (axF x y z).lookup m = none := by
  rw [← axF_make, lookup_putF, if_neg h3, lookup_putF, if_neg h2, lookup_putF, if_neg h1]
  rfl
theorem axF_lnow (x y z : V) : (axF x y z).lookup ("now" : Str) = some x := by
  rw [← axF_make, lookup_putF, if_neg ax_n2, lookup_putF, if_neg ax_n1, lookup_putF, if_pos rfl]
theorem axF_lmost (x y z : V) : (axF x y z).lookup ("most" : Str) = some y := by
  rw [← axF_make, lookup_putF, if_neg ax_n3, lookup_putF, if_pos rfl]
theorem axF_lpast (x y z : V) : (axF x y z).lookup ("past" : Str) = some z := by
  rw [← axF_make, lookup_putF, if_pos rfl]
end Ax
namespace Ax
open PySem L2
theorem pe_fldK {X : Cx} {K : PySem.W.Frag} {e : Expr} {f : Str} {pos : Pos} {ta : TE} (ek : X.K = K) (he : PE X e ta) (hb : attributeBase e f X.env (eval e X.env) = eval e X.env) : PE X (.Attribute e f pos) (tFld K ta f) := ek ▸ pe_fld he hb
end Ax
namespace Ax
open PySem L2
section
variable {K : PySem.W.Frag} {H : Hp} {σ : L2.St} {Q : VK} {to : TE} {p l : Addr} {xs : List V} {y : V}
theorem r_bm0 {T : String} {r : V → List V → Hp → VK → Prop} (h : to σ H fun x H1 => tyV K T x H1 ∧ r x [] H1 Q) : tBM0 K T r to σ H Q := h
theorem r_bm0L {r : V → List V → Hp → VK → Prop} (s : SqL K H p xs) (h : r (.ref p) [] H Q) : tyV K "list" (.ref p) H ∧ r (.ref p) [] H Q := ⟨.inl ⟨rfl, _, s⟩, h⟩
theorem r_pop (h : H l = some (.lst (xs ++ [y]))) (q : Q y (upd H l (.lst xs))) : rPop (.ref l) [] H Q := by
  refine ⟨l, xs ++ [y], y, rfl, rfl, h, ?_, ?_⟩
  · rw [List.length_append, List.length_singleton, Nat.add_sub_cancel, List.getElem?_append_right (Nat.le_refl _), Nat.sub_self]
    rfl
  · rw [List.dropLast_concat]
    exact q
end
theorem dpa_split {K : PySem.W.Frag} {H : Hp} : ∀ {ds : List PyData} {us : List V} {d : PyData}, DpAll K H us (ds ++ [d]) → ∃ ws v, us = ws ++ [v] ∧ DpAll K H ws ds ∧ Dp K H v d
  | [], us, d, h => by
    cases h with
    | cons q r =>
      cases r
      exact ⟨[], _, rfl, .nil, q⟩
  | e :: ds, us, d, h => by
    cases h with
    | cons q r =>
      obtain ⟨ws, v, e1, e2, e3⟩ := dpa_split (ds := ds) r
      exact ⟨_ :: ws, v, by rw [e1]; rfl, .cons q e2, e3⟩
end Ax
/-! ### marks kept, marks that come -/
namespace Ax
open PySem L2
theorem marks_asc {lo hi st : Int} (h : 1 ≤ st) : Asc (marksL lo hi st) := by
  unfold marksL Asc
  refine List.Pairwise.map _ (fun (a b : Nat) hab => ?_) List.pairwise_lt_range
  have : (a : Int) * st < (b : Int) * st := Int.mul_lt_mul_of_pos_right (by omega) (by omega)
  omega
theorem kept_sub {lo hi lo2 hi2 st far : Int} (h : 1 ≤ st) (r : lo ≤ hi) (a : lo2 ≤ lo) (b : hi ≤ hi2) : keptL lo hi lo2 hi2 st far = (marksL lo hi st).filter fun v => decide (v % far = 0) := by
  unfold keptL
  refine List.filter_congr fun v hv => ?_
  rw [marks_mem (by omega) (by omega)] at hv
  have e1 : decide (lo2 ≤ v) = true := decide_eq_true (by omega)
  have e2 : decide (v ≤ hi2) = true := decide_eq_true (by omega)
  rw [e1, e2]
  rfl
theorem mod_of {v st far : Int} (h1 : v % st = 0) (h2 : st % far = 0) : v % far = 0 :=
  Int.emod_eq_zero_of_dvd (Int.dvd_trans (Int.dvd_of_emod_eq_zero h2) (Int.dvd_of_emod_eq_zero h1))
theorem kept_all {lo hi st far : Int} (h : 1 ≤ st) (r : lo ≤ hi) (d : st % far = 0) : (marksL lo hi st).filter (fun v => decide (v % far = 0)) = marksL lo hi st :=
  List.filter_eq_self.mpr fun v hv => by
    rw [marks_mem (by omega) (by omega)] at hv
    exact decide_eq_true (mod_of hv.2 d)
theorem kept_mult {lo hi st less : Int} (h : 1 ≤ st) (h2 : 1 ≤ less) (r : lo ≤ hi) (d : st % less = 0) : (marksL lo hi less).filter (fun v => decide (v % st = 0)) = marksL lo hi st := by
  refine asc_same ((marks_asc h2).filter _) (marks_asc h) fun x => ?_
  rw [List.mem_filter, marks_mem (by omega) (by omega), marks_mem (by omega) (by omega), decide_eq_true_eq]
  exact ⟨fun ⟨⟨z1, _⟩, z2⟩ => ⟨z1, z2⟩, fun ⟨z1, z2⟩ => ⟨⟨z1, mod_of z2 d⟩, z2⟩⟩
theorem come_len {lo hi lo2 hi2 st : Int} (h : 1 ≤ st) (r : lo ≤ hi) (a : lo2 ≤ lo) (b : hi ≤ hi2) : ((comeL lo hi lo2 hi2 st).length : Int) = cnt lo2 hi2 st - cnt lo hi st := by
  have p : (marksL lo hi st ++ comeL lo hi lo2 hi2 st).Perm (marksL lo2 hi2 st) := by
    refine (List.perm_ext_iff_of_nodup ?_ (marks_asc h).nodup).mpr fun x => ?_
    · rw [List.nodup_append]
      refine ⟨(marks_asc h).nodup, (marks_asc h).nodup.filter _, fun y hy z hz e => ?_⟩
      subst e
      have := (List.mem_filter.mp hz).2
      rw [Bool.not_eq_true', decide_eq_false_iff_not] at this
      exact this hy
    · unfold comeL
      rw [List.mem_append, List.mem_filter]
      constructor
      · rintro (z | ⟨z, _⟩)
        · rw [marks_mem (by omega) (by omega)] at z ⊢
          exact ⟨by omega, z.2⟩
        · exact z
      · intro z
        by_cases c : x ∈ marksL lo hi st
        · exact .inl c
        · exact .inr ⟨z, by simp [c]⟩
  have l := p.length_eq
  rw [List.length_append, marks_len, marks_len] at l
  have c0 : 0 ≤ cnt lo hi st := by
    unfold cnt
    have : (lo - 1) / st ≤ hi / st := Int.ediv_le_ediv (by omega) (by omega)
    omega
  have c1 : 0 ≤ cnt lo2 hi2 st := by
    unfold cnt
    have : (lo2 - 1) / st ≤ hi2 / st := Int.ediv_le_ediv (by omega) (by omega)
    omega
  omega
def bothN (st : Int) : Int := if st * 2 ∈ steps then st * 2 else st * 10
theorem both_in : ∀ s, s ∈ steps.take 6 → bothN s ∈ steps := by decide
theorem zoom_back (lo hi t : Int) (h : 1 ≤ t) : inLo (lo - (hi - lo) * (t - 1) / 2) (hi + (hi - lo) * (t - 1) - (hi - lo) * (t - 1) / 2) t = lo ∧ (hi + (hi - lo) * (t - 1) - (hi - lo) * (t - 1) / 2 - (lo - (hi - lo) * (t - 1) / 2)) / t = hi - lo := by
  have w3 : (hi - lo) * t = (hi - lo) * (t - 1) + (hi - lo) := by
    rw [Int.mul_sub, Int.mul_one]
    omega
  have w6 : (hi - lo) * t / t = hi - lo := Int.mul_ediv_cancel _ (by omega)
  have e : hi + (hi - lo) * (t - 1) - (hi - lo) * (t - 1) / 2 - (lo - (hi - lo) * (t - 1) / 2) = (hi - lo) * t := by omega
  unfold inLo
  rw [e, w6]
  omega
end Ax
/-! ### an axis by turns -/
namespace Ax
open PySem L2
instance (a b : Int) : Decidable (Rg a b) := inferInstanceAs (Decidable (_ ∧ _ ∧ _))
theorem cut_init (xs : List V) : cutV xs none (some (-1)) = xs.dropLast := by
  unfold cutV
  have e1 : HT.sIx xs.length 0 none = 0 := rfl
  have e2 : HT.sIx xs.length xs.length (some (-1)) = xs.length - 1 := by
    unfold HT.sIx
    simp
    omega
  rw [e1, e2, List.dropLast_eq_take, List.drop_zero]
  first | rfl | simp
end Ax
/-! ### texts of labels -/
namespace Ax
open PySem L2 TL
/-- a constant tuple of the module -/
structure Ctp (K : PySem.W.Frag) (mg : Str → Option Value) (x : Str) (xs : List V) : Type where
  a : Addr
  g : mg x = some (.ref a)
  s : ∀ H, SqT K H a xs
/-- so many thousandths are one digit's worth -/
def pw10 (d : Nat) : Nat := if d = 0 then 1000 else if d = 1 then 100 else if d = 2 then 10 else 1
/-- the last d digits of n -/
def digs (d n : Nat) : List Nat := match d with
  | 0 => []
  | 1 => [48 + n % 10]
  | 2 => [48 + n / 10 % 10, 48 + n % 10]
  | _ => [48 + n / 100 % 10, 48 + n / 10 % 10, 48 + n % 10]
def padL (d q : Nat) : List Nat := List.replicate (d + 1 - (numL q).length) 48 ++ numL q
theorem numL_pos (n : Nat) : 1 ≤ (numL n).length := by
  cases h : numL n with
  | nil => exact absurd h (numL_ne n)
  | cons a l => simp
theorem padL_1 (q : Nat) : padL 1 q = numL (q / 10) ++ digs 1 q := by
  unfold padL digs
  by_cases h : q < 10
  · rw [Nat.div_eq_of_lt h, numL_lt h, numL_lt (by decide : 0 < 10), Nat.mod_eq_of_lt h]
    rfl
  · rw [numL_step (n := q) (by omega)]
    have p := numL_pos (q / 10)
    rw [show 1 + 1 - (numL (q / 10) ++ [48 + q % 10]).length = 0 by simp; omega]
    rfl
theorem padL_2 (q : Nat) : padL 2 q = numL (q / 100) ++ digs 2 q := by
  have e := padL_1 (q / 10)
  have ed : q / 10 / 10 = q / 100 := Nat.div_div_eq_div_mul q 10 10
  rw [ed] at e
  by_cases h : q < 10
  · have h1 : q / 100 = 0 := by omega
    have h2 : q / 10 = 0 := by omega
    unfold padL digs
    rw [h1, h2, numL_lt h, numL_lt (by decide : 0 < 10), Nat.mod_eq_of_lt h]
    rfl
  · have e2 : padL 2 q = padL 1 (q / 10) ++ [48 + q % 10] := by
      unfold padL
      rw [numL_step (n := q) (by omega)]
      rw [show 2 + 1 - (numL (q / 10) ++ [48 + q % 10]).length = 1 + 1 - (numL (q / 10)).length by simp, List.append_assoc]
    rw [e2, e]
    unfold digs
    rw [List.append_assoc]
    rfl
theorem padL_3 (q : Nat) : padL 3 q = numL (q / 1000) ++ digs 3 q := by
  have e := padL_2 (q / 10)
  have ed : q / 10 / 100 = q / 1000 := Nat.div_div_eq_div_mul q 10 100
  have ef : q / 10 / 10 = q / 100 := Nat.div_div_eq_div_mul q 10 10
  rw [ed] at e
  by_cases h : q < 10
  · have h1 : q / 1000 = 0 := by omega
    have h2 : q / 10 = 0 := by omega
    have h3 : q / 100 = 0 := by omega
    unfold padL digs
    rw [h1, h2, h3, numL_lt h, numL_lt (by decide : 0 < 10), Nat.mod_eq_of_lt h]
    rfl
  · have e2 : padL 3 q = padL 2 (q / 10) ++ [48 + q % 10] := by
      unfold padL
      rw [numL_step (n := q) (by omega)]
      rw [show 3 + 1 - (numL (q / 10) ++ [48 + q % 10]).length = 2 + 1 - (numL (q / 10)).length by simp, List.append_assoc]
    rw [e2, e]
    unfold digs
    rw [List.append_assoc, ef]
    rfl
/-- the label of a number of thousandths with d digits -/
def labL (v : Int) (d : Nat) : List Nat := (if v < 0 then [45] else []) ++ (numL (v.natAbs / 1000) ++ (if d = 0 then [] else 46 :: digs d (v.natAbs / pw10 d)))
theorem digs_len {d : Nat} (n : Nat) (h : d ≤ 3) : (digs d n).length = d := by
  match d, h with
  | 0, _ => rfl
  | 1, _ => rfl
  | 2, _ => rfl
  | 3, _ => rfl
theorem padL_eq {d : Nat} (q : Nat) (h0 : 0 < d) (h : d ≤ 3) : padL d q = numL (q / 10 ^ d) ++ digs d q := by
  match d, h0, h with
  | 1, _, _ => exact padL_1 q
  | 2, _, _ => exact padL_2 q
  | 3, _, _ => exact padL_3 q
open PySem.NumText in
theorem val_snoc (l : List Nat) (r : Nat) : digitsVal (l ++ [48 + r]) = digitsVal l * 10 + r := by
  unfold digitsVal
  rw [List.foldl_append]
  show _ * 10 + (48 + r - 48) = _
  omega
open PySem.NumText in
theorem val_lab {d : Nat} (q : Nat) (h : d ≤ 3) : digitsVal (numL (q / 10 ^ d) ++ digs d q) = q := by
  match d, h with
  | 0, _ =>
    show digitsVal (numL (q / 1) ++ []) = q
    rw [List.append_nil, Nat.div_one, numL_val]
  | 1, _ =>
    show digitsVal (numL (q / 10) ++ [48 + q % 10]) = q
    rw [val_snoc, numL_val]; omega
  | 2, _ =>
    show digitsVal (numL (q / 100) ++ ([48 + q / 10 % 10] ++ [48 + q % 10])) = q
    rw [← List.append_assoc, val_snoc, val_snoc, numL_val]; omega
  | 3, _ =>
    show digitsVal (numL (q / 1000) ++ ([48 + q / 100 % 10] ++ ([48 + q / 10 % 10] ++ [48 + q % 10]))) = q
    rw [← List.append_assoc, ← List.append_assoc, val_snoc, val_snoc, val_snoc, numL_val]; omega
open PySem.NumText in
theorem digs_all (d n : Nat) : AllDigits (digs d n) := by
  unfold digs
  intro c hc
  split at hc <;> simp at hc <;> omega
theorem digs_free {d n s : Nat} (h : s < 48 ∨ 57 < s) : s ∉ digs d n := fun m => by
  have := digs_all d n s m
  omega
/-- v / POWERS[d] and v / 1000 -/
theorem q_split {v : Nat} {d : Nat} (h : d ≤ 3) : v / pw10 d / 10 ^ d = v / 1000 := by
  match d, h with
  | 0, _ => show v / 1000 / 1 = _; rw [Nat.div_one]
  | 1, _ => show v / 100 / 10 = _; rw [Nat.div_div_eq_div_mul]
  | 2, _ => show v / 10 / 100 = _; rw [Nat.div_div_eq_div_mul]
  | 3, _ => show v / 1 / 1000 = _; rw [Nat.div_one]
def cutL (l : List Nat) : List Nat × Bool × List Nat := match par [46] [] l with
  | some (a, b) => (a, true, b)
  | none => (l, false, [])
open PySem.NumText in
/-- what parse_label answers, on lists of signs -/
def parseL (t : List Nat) : Option (Int × Nat) :=
  let p := if t.take 1 = [45] then t.drop 1 else t
  let c := cutL p
  let n : Int := ((digitsVal (c.1 ++ c.2.2) * pw10 c.2.2.length : Nat) : Int)
  let v : Int := if t.take 1 = [45] then -n else n
  if (c.2.1 = true → 1 ≤ c.2.2.length ∧ c.2.2.length ≤ 3) ∧ c.1 ≠ [] ∧ c.1.length ≤ 4 ∧ (∀ x ∈ c.1 ++ c.2.2, 48 ≤ x ∧ x ≤ 57) ∧ (-1000000 ≤ v ∧ v ≤ 1000000) ∧ labL v c.2.2.length = t then some (v, c.2.2.length) else none
theorem cut_lab (n d q : Nat) : cutL (numL n ++ (if d = 0 then [] else 46 :: digs d q)) = (numL n, decide (d ≠ 0), if d = 0 then [] else digs d q) := by
  have f : 46 ∉ numL n := numL_free (by omega)
  unfold cutL
  by_cases h : d = 0
  · subst h
    rw [if_pos rfl, List.append_nil, par_none1 f]
    rfl
  · rw [if_neg h, if_neg h, show (46 :: digs d q) = [46] ++ digs d q from rfl, par_part1 f]
    simp [h]
theorem head_num (n : Nat) (l : List Nat) : ∃ c r, numL n ++ l = c :: r ∧ 48 ≤ c := by
  cases h : numL n with
  | nil => exact absurd h (numL_ne n)
  | cons c r => exact ⟨c, r ++ l, rfl, (numL_digits n c (by rw [h]; exact List.mem_cons_self)).1⟩
theorem lab_head (v : Int) (d : Nat) : ((labL v d).take 1 = [45]) ↔ v < 0 := by
  unfold labL
  by_cases h : v < 0
  · simp [h]
  · obtain ⟨c, r, e, hc⟩ := head_num (v.natAbs / 1000) (if d = 0 then [] else 46 :: digs d (v.natAbs / pw10 d))
    rw [if_neg h, List.nil_append, e]
    simp [h]; omega
theorem lab_tail (v : Int) (d : Nat) : (if (labL v d).take 1 = [45] then (labL v d).drop 1 else labL v d) = numL (v.natAbs / 1000) ++ (if d = 0 then [] else 46 :: digs d (v.natAbs / pw10 d)) := by
  by_cases h : v < 0
  · rw [if_pos ((lab_head v d).2 h)]
    unfold labL
    rw [if_pos h]
    rfl
  · rw [if_neg (fun e => h ((lab_head v d).1 e))]
    unfold labL
    rw [if_neg h]
    rfl
theorem parse_lab {v : Int} {d : Nat} (hd : d ≤ 3) (hv : v.natAbs % pw10 d = 0) (hm : v.natAbs ≤ 1000000) : parseL (labL v d) = some (v, d) := by
  have hl : (if d = 0 then [] else digs d (v.natAbs / pw10 d)) = digs d (v.natAbs / pw10 d) := by
    by_cases h : d = 0
    · subst h; rfl
    · rw [if_neg h]
  have hn : (digs d (v.natAbs / pw10 d)).length = d := digs_len _ hd
  have hval : PySem.NumText.digitsVal (numL (v.natAbs / 1000) ++ digs d (v.natAbs / pw10 d)) = v.natAbs / pw10 d := by
    have e := val_lab (v.natAbs / pw10 d) hd
    rw [q_split hd] at e
    exact e
  have hq : v.natAbs / pw10 d * pw10 d = v.natAbs := Nat.div_mul_cancel (Nat.dvd_of_mod_eq_zero hv)
  have hsg : (if v < 0 then -((v.natAbs : Nat) : Int) else ((v.natAbs : Nat) : Int)) = v := by split <;> omega
  have hif : ∀ a b : Int, (if (labL v d).take 1 = [45] then a else b) = if v < 0 then a else b := fun a b => by
    by_cases h : v < 0
    · rw [if_pos ((lab_head v d).2 h), if_pos h]
    · rw [if_neg (fun e => h ((lab_head v d).1 e)), if_neg h]
  have hlen : (numL (v.natAbs / 1000)).length ≤ 4 := numL_len (k := 4) (by decide) (by omega)
  unfold parseL
  simp only [lab_tail, cut_lab, hl, hn, hval, hq, hif, hsg]
  rw [if_pos]
  refine ⟨fun h => ⟨?_, hd⟩, numL_ne _, hlen, fun x hx => ?_, ⟨by omega, by omega⟩, trivial⟩
  · have : d ≠ 0 := by simpa using h
    omega
  · rcases List.mem_append.1 hx with hx | hx
    · exact numL_digits _ x hx
    · exact digs_all _ _ x hx
/-- v can be written with d digits behind the point -/
def Lab (v : Int) (d : Nat) : Prop := d ≤ 3 ∧ v.natAbs % pw10 d = 0 ∧ v.natAbs ≤ 1000000
theorem cut_len3 {l : List Nat} (h : (cutL l).2.1 = true → 1 ≤ (cutL l).2.2.length ∧ (cutL l).2.2.length ≤ 3) : (cutL l).2.2.length ≤ 3 := by
  unfold cutL at h ⊢
  cases e : par [46] [] l with
  | none => simp
  | some x => rw [e] at h; exact (h rfl).2
theorem if_some {c : Prop} [Decidable c] {α : Type} {x y : α} (h : (if c then some x else none) = some y) : c ∧ x = y := by
  by_cases k : c
  · rw [if_pos k] at h; exact ⟨k, Option.some.inj h⟩
  · rw [if_neg k] at h; exact absurd h (by simp)
theorem parse_ok {t : List Nat} {v : Int} {d : Nat} (h : parseL t = some (v, d)) : Lab v d ∧ t = labL v d := by
  unfold parseL at h
  obtain ⟨⟨c1, c2, c3, c4, c5, c6⟩, h⟩ := if_some h
  obtain ⟨h1, h2⟩ := Prod.mk.inj h
  rw [h2] at h1 c6
  rw [h1] at c6
  have hd : d ≤ 3 := by rw [← h2]; exact cut_len3 c1
  refine ⟨⟨hd, ?_, ?_⟩, c6.symm⟩
  · rw [← h1]
    by_cases k : t.take 1 = [45]
    · rw [if_pos k, Int.natAbs_neg]; exact Nat.mul_mod_left _ _
    · rw [if_neg k]; exact Nat.mul_mod_left _ _
  · rw [h2, h1] at c5
    omega
theorem parse_iff {t : List Nat} {v : Int} {d : Nat} : parseL t = some (v, d) ↔ Lab v d ∧ t = labL v d :=
  ⟨parse_ok, fun ⟨⟨a, b, c⟩, e⟩ => by rw [e]; exact parse_lab a b c⟩
theorem lab_inj {v w : Int} {d e : Nat} (h1 : Lab v d) (h2 : Lab w e) (h : labL v d = labL w e) : v = w ∧ d = e := by
  have a := parse_iff.2 ⟨h1, rfl⟩
  have b := parse_iff.2 ⟨h2, rfl⟩
  rw [h, b] at a
  simp only [Option.some.injEq, Prod.mk.injEq] at a
  exact ⟨a.1.symm, a.2.symm⟩
/-! digits that a row needs -/
def divs (d : Nat) (ns : List Int) : Bool := ns.all fun x => decide (x % (pw10 d : Int) = 0)
def dOf (ns : List Int) : Nat := if divs 0 ns = true then 0 else if divs 1 ns = true then 1 else if divs 2 ns = true then 2 else 3
theorem dOf_le (ns : List Int) : dOf ns ≤ 3 := by unfold dOf; repeat' split
                                                  all_goals omega
theorem divs_3 (ns : List Int) : divs 3 ns = true := by
  unfold divs
  rw [List.all_eq_true]
  intro x _
  have : (pw10 3 : Int) = 1 := rfl
  rw [this]; simp
theorem dOf_at (ns : List Int) : divs (dOf ns) ns = true := by
  unfold dOf
  split
  · assumption
  · split
    · assumption
    · split
      · assumption
      · exact divs_3 ns
theorem dOf_lt {ns : List Int} {i : Nat} (h : i < dOf ns) : divs i ns = false := by
  unfold dOf at h
  split at h
  · omega
  · split at h
    · rename_i a _
      have : i = 0 := by omega
      subst this; simpa using a
    · split at h
      · rename_i a b _
        have : i = 0 ∨ i = 1 := by omega
        rcases this with rfl | rfl
        · simpa using a
        · simpa using b
      · rename_i a b c
        have : i = 0 ∨ i = 1 ∨ i = 2 := by omega
        rcases this with rfl | rfl | rfl
        · simpa using a
        · simpa using b
        · simpa using c
theorem pow_at {i : Nat} (h : i < 4) : atI [V.int 1000, .int 100, .int 10, .int 1] (0 + (i : Int)) = some (.int (pw10 i)) := by
  have : i = 0 ∨ i = 1 ∨ i = 2 ∨ i = 3 := by omega
  rcases this with rfl | rfl | rfl | rfl <;> rfl
theorem pow_at' {i : Nat} (h : i < 4) : atI [V.int 1000, .int 100, .int 10, .int 1] (i : Int) = some (.int (pw10 i)) := by
  have : i = 0 ∨ i = 1 ∨ i = 2 ∨ i = 3 := by omega
  rcases this with rfl | rfl | rfl | rfl <;> rfl
theorem pw10_le (d : Nat) : pw10 d ≤ 1000 := by unfold pw10; repeat' split
                                                all_goals decide
theorem pw10_pos (d : Nat) : 0 < pw10 d := by unfold pw10; repeat' split
                                              all_goals decide
/-! a text so many times -/
def repS (a : Str) (n : Int) : Str := ⟨(List.replicate n.toNat a.cps).foldl (· ++ ·) #[]⟩
theorem rep_fold : ∀ (k : Nat) (c z : Array Nat), ((List.replicate k c).foldl (· ++ ·) z).toList = z.toList ++ (List.replicate k c.toList).flatten
  | 0, c, z => by simp
  | k + 1, c, z => by
    rw [List.replicate_succ, List.foldl_cons, rep_fold k c, Array.toList_append, List.replicate_succ, List.flatten_cons, List.append_assoc]
theorem tl_repS (a : Str) (n : Int) : tl (repS a n) = (List.replicate n.toNat (tl a)).flatten := by
  show ((List.replicate n.toNat a.cps).foldl (· ++ ·) #[]).toList = _
  rw [rep_fold]
  rfl
theorem repS_len (a : Str) (n : Int) : (repS a n).length = n.toNat * a.length := by
  rw [len_tl, tl_repS, List.length_flatten, List.map_replicate, List.sum_replicate_nat, ← len_tl]
def rMulS (x y : V) (H : Hp) (Q : VK) : Prop := ∃ (a : Str) (n : Int), x = .str a ∧ y = .int n ∧ (-1000 ≤ n ∧ n ≤ 1000) ∧ a.length ≤ 1000 ∧ ∀ t, tl t = (List.replicate n.toNat (tl a)).flatten → Q (.str t) H
open PySem.Spec PyProof.Rows in
theorem op_mulS {X : Cx} : OpR X (binaryOp .Mult) rMulS := by
  intro pins s σ H x y v u Q I rx ry h
  obtain ⟨a, n, rfl, rfl, ⟨n1, n2⟩, hz, q⟩ := h
  obtain ⟨t, rfl⟩ := rx
  obtain ⟨t', rfl⟩ := ry
  have hb : (repS a n).length ≤ sizeLine := by
    rw [repS_len]
    have : n.toNat * a.length ≤ 1000 * 1000 := Nat.mul_le_mul (by omega) hz
    exact Nat.le_trans this (by decide)
  refine PySem.P.mul_str (by simp; omega) (fun h1 h2 h3 => ?_) (fun h1 h2 => ?_) ?_
  · have : (1000 : Int) ≤ (2 ^ 63 - 1) / n := by rw [Int.le_ediv_iff_mul_le (by omega)]; omega
    omega
  · rw [repS_len] at hb
    unfold PySem.Builtin.Str.tooLong
    rw [Nat.mul_comm] at hb
    simpa using hb
  · split
    · rename_i c
      exact ⟨by decide, .str Str.empty, H, I.tok _, ⟨_, rfl⟩, q _ (by rw [show n.toNat = 0 by omega]; rfl)⟩
    · split
      · rename_i c2
        refine ⟨.str a, H, I, ⟨t, rfl⟩, q a ?_⟩
        rw [Bool.or_eq_true] at c2
        rcases c2 with c2 | c2
        · have : n = 1 := by simpa using c2
          subst this
          simp
        · have e : tl a = [] := (len0_tl a).1 (by simpa using c2)
          rw [e]
          simp
      · exact ⟨hb, .str (repS a n), H, I.tok _, ⟨_, rfl⟩, q _ (tl_repS a n)⟩
end Ax
/-! ### texts by their signs -/
namespace Ax
open PySem L2 TL
def mkS (l : List Nat) : Str := ⟨l.toArray⟩
theorem tl_mkS (l : List Nat) : tl (mkS l) = l := tl_mk l
theorem mkS_tl (x : Str) : mkS (tl x) = x := mk_tl x
theorem mkS_of {x : Str} {l : List Nat} (h : tl x = l) : x = mkS l := by rw [← h, mkS_tl]
theorem mkS_len (l : List Nat) : (mkS l).length = l.length := len_tl _
theorem mkS_app (a b : List Nat) : mkS a ++ mkS b = mkS (a ++ b) := ext_tl (tl_append _ _)
theorem mkS_iff {a b : List Nat} : mkS a = mkS b ↔ a = b := ⟨fun h => congrArg tl h, fun h => by rw [h]⟩
theorem mkS_dec (a b : List Nat) : decide (mkS a = mkS b) = decide (a = b) := decide_eq_decide.mpr mkS_iff
/-- the label of v with d digits behind the point -/
def lab (v : Int) (d : Nat) : Str := mkS (labL v d)
theorem labL_len (v : Int) {d : Nat} (h : d ≤ 3) (b : v.natAbs ≤ 1000000000) : (labL v d).length ≤ 20 := by
  unfold labL
  have e := digs_len (v.natAbs / pw10 d) h
  have n := numL_len (n := v.natAbs / 1000) (k := 7) (by decide) (by omega)
  rw [List.length_append, List.length_append]
  have s1 : (if v < 0 then [45] else ([] : List Nat)).length ≤ 1 := by split <;> simp
  have s2 : (if d = 0 then [] else 46 :: digs d (v.natAbs / pw10 d)).length ≤ 4 := by
    split
    · simp
    · rw [List.length_cons]
      omega
  omega
theorem padL_len (d q : Nat) (h0 : 0 < d) (h : d ≤ 3) : (padL d q).length = (numL (q / 10 ^ d)).length + d := by
  rw [padL_eq q h0 h, List.length_append, digs_len q h]
/-- the signs of a whole number -/
def intL (i : Int) : List Nat := (if i < 0 then [45] else []) ++ numL i.natAbs
theorem tl_int (i : Int) : tl (Str.ofString (toString i)) = intL i := by
  cases i with
  | ofNat n =>
    have e := tl_num n
    unfold intL
    rw [if_neg (by simp)]
    exact e
  | negSucc n =>
    unfold intL
    rw [if_pos (Int.negSucc_lt_zero n), tl_ofString]
    show (("-" ++ Nat.repr (n + 1) : String)).toList.map Char.toNat = 45 :: numL (n + 1)
    rw [String.toList_append, List.map_append, Nat.toList_repr]
    rfl
theorem int_mkS (i : Int) : Str.ofString (toString i) = mkS (intL i) := mkS_of (tl_int i)
theorem intL_nat (n : Nat) : intL (n : Int) = numL n := by
  unfold intL
  rw [if_neg (by omega)]
  rfl
theorem log_ok {n : Nat} (h : n < 2 ^ 64) : n.log2 < 1920 := by
  by_cases z : n = 0
  · subst z
    decide
  · have := (Nat.log2_lt z).mpr h
    omega
section
variable {H H1 : Hp} {Q : VK} {σ : L2.St} {K : PySem.W.Frag} {a b : List Nat} {te : TE} {R : It → Hp → Prop}
theorem sz_ok {n : Nat} (h : n ≤ 1000000) : n ≤ sizeLine := by rw [sizeLine_eq]; omega
theorem r_addM (z : a.length + b.length ≤ 1000000) (h : Q (.str (mkS (a ++ b))) H) : rAddS (.str (mkS a)) (.str (mkS b)) H Q :=
  r_addS (by rw [mkS_len, mkS_len]; exact sz_ok z) (by rw [mkS_app]; exact h)
theorem r_lenSM (z : a.length ≤ 1000000) (h : Q (.int a.length) H) : rLenS [.str (mkS a)] H Q :=
  r_lenS (by rw [mkS_len]; exact sz_ok z) (by rw [mkS_len]; exact h)
theorem r_strI {i : Int} (b : -1000000000000 ≤ i ∧ i ≤ 1000000000000) (h : Q (.str (mkS (intL i))) H) : rStrI [.int i] H Q :=
  ⟨i, rfl, log_ok (by omega), by rw [int_mkS]; exact h⟩
theorem r_strN {n : Nat} (b : n ≤ 1000000000000) (h : Q (.str (mkS (numL n))) H) : rStrI [.int (n : Int)] H Q :=
  r_strI ⟨by omega, by omega⟩ (by rw [intL_nat]; exact h)
theorem r_mulM {n : Int} (z : -1000 ≤ n ∧ n ≤ 1000) (l : a.length ≤ 1000) (h : Q (.str (mkS (List.replicate n.toNat a).flatten)) H) : rMulS (.str (mkS a)) (.int n) H Q :=
  ⟨_, n, rfl, rfl, z, by rw [mkS_len]; exact l, fun t e => by rw [mkS_of e]; exact h⟩
theorem cut_from (l : List Nat) {i : Int} (h : 0 ≤ i) : cutS (mkS l) (some i) none = mkS (l.drop i.toNat) := by
  refine mkS_of ?_
  show (((mkS l).cps.toList.drop (HT.sIx (mkS l).length 0 (some i))).take ((mkS l).length - HT.sIx (mkS l).length 0 (some i))) = _
  have e : HT.sIx (mkS l).length 0 (some i) = min i.toNat l.length := by
    unfold HT.sIx
    simp only [if_neg (show ¬ i < 0 by omega), mkS_len]
  rw [e, mkS_len]
  show (l.drop _).take _ = _
  by_cases c : i.toNat ≤ l.length
  · rw [Nat.min_eq_left c]
    exact List.take_of_length_le (by rw [List.length_drop]; exact Nat.le_refl _)
  · rw [Nat.min_eq_right (by omega), List.drop_of_length_le (Nat.le_refl _), List.drop_of_length_le (by omega)]
    simp
theorem cut_to (l : List Nat) {i : Int} (h : 0 ≤ i) : cutS (mkS l) none (some i) = mkS (l.take i.toNat) := by
  refine mkS_of ?_
  show (((mkS l).cps.toList.drop 0).take (HT.sIx (mkS l).length (mkS l).length (some i) - 0)) = _
  have e : HT.sIx (mkS l).length (mkS l).length (some i) = min i.toNat l.length := by
    unfold HT.sIx
    simp only [if_neg (show ¬ i < 0 by omega), mkS_len]
  rw [e]
  show l.take _ = _
  rw [Nat.sub_zero]
  by_cases c : i.toNat ≤ l.length
  · rw [Nat.min_eq_left c]
  · rw [Nat.min_eq_right (by omega), List.take_of_length_le (Nat.le_refl _), List.take_of_length_le (by omega)]
theorem r_slFrom {i : Int} (h0 : 0 ≤ i) (z : a.length ≤ 1000000) (h : Q (.str (mkS (a.drop i.toNat))) H) : rSlS (.str (mkS a)) (some i) none H Q :=
  ⟨_, rfl, by rw [mkS_len]; exact sz_ok z, by rw [cut_from a h0]; exact h⟩
theorem r_slTo {i : Int} (h0 : 0 ≤ i) (z : a.length ≤ 1000000) (h : Q (.str (mkS (a.take i.toNat))) H) : rSlS (.str (mkS a)) none (some i) H Q :=
  ⟨_, rfl, by rw [mkS_len]; exact sz_ok z, by rw [cut_to a h0]; exact h⟩
theorem r_ixM {i : Int} {c : Nat} (z : a.length ≤ 1000000) (e : atI a i = some c) (h : Q (.str (mkS [c])) H) : rIxS (.str (mkS a)) (.int i) H Q :=
  ⟨mkS a, i, c, rfl, rfl, by rw [mkS_len]; exact sz_ok z, e, h⟩
theorem r_inM {c : Nat} {z : Str} (h : Q (.bl (decide (c ∈ tl z))) H) : rInS (.str (mkS [c])) (.str z) H Q := ⟨c, z, rfl, rfl, h⟩
def IsG (v : V) (R : It → Hp → Prop) (H1 : Hp) : Prop := ∃ x, v = .str x ∧ R (Its x) H1
theorem r_iS (h : te σ H fun v H1 => IsG v R H1) : iStr te σ H R := h
theorem r_is {x : Str} (h : R (Its x) H1) : IsG (.str x) R H1 := ⟨x, rfl, h⟩
/-- [f(c) for c in a text], truth values -/
theorem lc_strB {ix : Nat} {f : Nat → Bool} (hz : a.length ≤ 1000000)
    (he : ∀ c H2 (Q' : VK), c ∈ a → Same H1 H2 → (∀ H3, Same H2 H3 → Q' (.bl (f c)) H3) → te ((wipe σ [ix]).set ix (some (.str (mkS [c])))) H2 Q')
    (hd : ∀ D H', Same H1 H' → H1 D = none → H' D = some (.lst ((a.map f).map V.bl)) → Q (.ref D) H') : LcG (Its (mkS a)) (gName ix) tYes te [ix] σ H1 Q := by
  have w := walk_str (z := mkS a)
  have es : (mkS a).cps.size = a.length := by
    show a.toArray.size = a.length
    rw [List.size_toArray]
  rw [es] at w
  have mem : ∀ i, i < a.length → a.getD i 0 ∈ a := fun i hi => by
    rw [List.getD_eq_getElem?_getD, List.getElem?_eq_getElem hi]
    exact List.getElem_mem hi
  refine lc_core' (n := a.length) (Y := fun i => .str (mkS [a.getD i 0])) (p := fun _ => true) (f := fun i => .bl (f (a.getD i 0))) (w.mono (fun _ _ => trivial) fun i H x H' hi _ y => ⟨y.1, ?_⟩) hz (fun _ _ => trivial) (fun _ _ _ _ _ q => q _ (Same.refl _)) (fun i H2 Q' hi _ s q => he _ H2 Q' (mem i hi) s q) fun D H' s n e => hd D H' s n ?_
  · obtain ⟨_, c, ec, rfl⟩ := y
    have e2 : a[i]? = some c := by
      have : (mkS a).cps[i]? = a[i]? := by
        show a.toArray[i]? = a[i]?
        rw [List.getElem?_toArray]
      rw [← this]
      exact ec
    rw [List.getD_eq_getElem?_getD, e2]
    rfl
  · rw [filter_yes] at e
    rw [e]
    congr 2
    refine List.ext_getElem (by simp) fun i h1 h2 => ?_
    simp only [List.getElem_map, List.getElem_range]
    rw [List.getD_eq_getElem?_getD, List.getElem?_eq_getElem (by simpa using h1)]
    rfl
/-- text.partition(..), text.split(..) -/
def TmG (r : V → List V → Hp → VK → Prop) (ty : TE) (σ : L2.St) (x : V) (Q : VK) (H1 : Hp) : Prop := (∃ a, x = .str a) ∧ ty σ H1 fun y H2 => r x [y] H2 Q
theorem r_tm {r : V → List V → Hp → VK → Prop} {to ty : TE} (h : to σ H fun x H1 => TmG r ty σ x Q H1) : tM1 r to ty σ H Q := h
theorem r_tmS {r : V → List V → Hp → VK → Prop} {ty : TE} {x : Str} (h : ty σ H fun y H2 => r (.str x) [y] H2 Q) : TmG r ty σ (.str x) Q H := ⟨⟨x, rfl⟩, h⟩
def rPartn : V → List V → Hp → VK → Prop := fun x xs H Q => ∃ a b, x = .str a ∧ xs = [.str b] ∧ (b.length == 0) = false ∧ a.length ≤ sizeLine ∧
      ∀ p, H p = none → Q (.ref p) (upd H p (.tup [.str (Txt.partition a b).1, .str (Txt.partition a b).2.1, .str (Txt.partition a b).2.2]))
/-- what a partition at a sign gives -/
def cutM (s : Nat) (l : List Nat) : List Nat × List Nat × List Nat := match par [s] [] l with
  | some (a, b) => (a, [s], b)
  | none => (l, [], [])
theorem cutM_part (s : Nat) : Txt.partition (mkS a) (mkS [s]) = (mkS (cutM s a).1, mkS (cutM s a).2.1, mkS (cutM s a).2.2) := by
  rw [partition_par (mkS a) (mkS [s]) (List.cons_ne_nil s [])]
  unfold cutM
  show (match par [s] [] a with | some (a, b) => _ | none => _) = _
  cases par [s] [] a with
  | none => rfl
  | some z => rfl
theorem r_partM {s : Nat} (z : a.length ≤ 1000000) (h : ∀ p, H p = none → Q (.ref p) (upd H p (.tup [.str (mkS (cutM s a).1), .str (mkS (cutM s a).2.1), .str (mkS (cutM s a).2.2)]))) : rPartn (.str (mkS a)) [.str (mkS [s])] H Q :=
  ⟨_, _, rfl, rfl, rfl, by rw [mkS_len]; exact sz_ok z, by rw [cutM_part]; exact h⟩
def rSplitn : V → List V → Hp → VK → Prop := fun x xs H Q => ∃ a b, x = .str a ∧ xs = [.str b] ∧ (b.length == 0) = false ∧ a.length + 2 ≤ sizeLine ∧ rNewStrs (Txt.split a b) H Q
theorem split_mkS {S : List Nat} (hS : S ≠ []) (low : S.all (· < 256) = true) : Txt.split (mkS a) (mkS S) = (spl S 0 [] a).map mkS := by
  refine map_tl_inj ?_
  rw [split_spl (mkS a) (mkS S) hS (kind_ok (by show S.toArray.all _ = true; rw [List.all_toArray]; exact low)), List.map_map]
  exact (List.map_id _).symm
theorem r_splM {S : List Nat} (hS : S ≠ []) (low : S.all (· < 256) = true) (z : a.length ≤ 1000000) (h : ∀ p, H p = none → Q (.ref p) (upd H p (.lst ((spl S 0 [] a).map fun l => .str (mkS l))))) : rSplitn (.str (mkS a)) [.str (mkS S)] H Q := by
  refine ⟨_, _, rfl, rfl, ?_, by rw [mkS_len, sizeLine_eq]; omega, fun p np => ?_⟩
  · rw [mkS_len]
    cases S with
    | nil => exact absurd rfl hS
    | cons x r => rfl
  · rw [split_mkS hS low, List.map_map]
    exact h p np
theorem r_intM {l : List Nat} (h : PySem.NumText.AllDigits l) (h1 : l ≠ []) (h2 : l.length ≤ 600) (q : Q (.int ((PySem.NumText.digitsVal l : Nat) : Int)) H) : rIntS [.str (mkS l)] H Q :=
  ⟨mkS l, _, rfl, intText_digits (x := mkS l) h h1 (by rw [mkS_len]; omega), by rw [mkS_len]; omega, q⟩
theorem r_intMN {l : List Nat} (h : PySem.NumText.AllDigits l) (h1 : l ≠ []) (h2 : l.length ≤ 600) (q : Q (.int (-((PySem.NumText.digitsVal l : Nat) : Int))) H) : rIntS [.str (mkS (45 :: l))] H Q :=
  ⟨mkS (45 :: l), _, rfl, intText_neg (x := mkS (45 :: l)) rfl h h1 (by rw [mkS_len, List.length_cons]; omega), by rw [mkS_len, List.length_cons]; omega, q⟩
end
section
variable {X : Cx} {o e : Expr} {to te : TE}
theorem pe_partN {apos pos : Pos} (ho : PE X o to) (he : PE X e te) (hs : starEach [e] X.env = [(false, eval e X.env)] := by rfl) (hb : attributeBase o "partition" X.env (eval o X.env) = eval o X.env := by rfl) (hl : (apos.endLine == pos.line) = true := by rfl) : PE X (.Call (.Attribute o "partition" apos) [e] [] pos) (tM1 rPartn to te) := pe_partition ho he hs hb hl
theorem pe_splitN {apos pos : Pos} (ho : PE X o to) (he : PE X e te) (hs : starEach [e] X.env = [(false, eval e X.env)] := by rfl) (hb : attributeBase o "split" X.env (eval o X.env) = eval o X.env := by rfl) (hl : (apos.endLine == pos.line) = true := by rfl) : PE X (.Call (.Attribute o "split" apos) [e] [] pos) (tM1 rSplitn to te) := pe_split ho he hs hb hl
end
theorem s_dash : Str.ofString "-" = mkS [45] := rfl
theorem s_dot : Str.ofString "." = mkS [46] := rfl
theorem s_zero : Str.ofString "0" = mkS [48] := rfl
theorem s_none : Str.ofString "" = mkS [] := rfl
theorem s_dots : Str.ofString ".." = mkS [46, 46] := rfl
theorem s_by : Str.ofString " by " = mkS [32, 98, 121, 32] := rfl
theorem s_seven : Str.ofString "7" = mkS [55] := rfl
theorem s_one : Str.ofString "1" = mkS [49] := rfl
theorem s_five : Str.ofString "5" = mkS [53] := rfl
theorem s_blank : Str.ofString " " = mkS [32] := rfl
theorem s_x : Str.ofString "x" = mkS [120] := rfl
theorem s_b : Str.ofString "b" = mkS [98] := rfl
theorem s_text : Str.ofString "text" = mkS [116, 101, 120, 116] := rfl
theorem s_digits : tl (Str.ofString "0123456789") = [48, 49, 50, 51, 52, 53, 54, 55, 56, 57] := rfl
theorem dig_mem (c : Nat) : decide (c ∈ tl (Str.ofString "0123456789")) = decide (48 ≤ c ∧ c ≤ 57) := by
  rw [s_digits]
  refine decide_eq_decide.mpr ?_
  simp only [List.mem_cons, List.not_mem_nil, or_false]
  omega
end Ax
/-! ### a comprehension that an exception leaves -/
namespace Ax
open PySem PySem.Spec PyProof.Rows L2
theorem noteFrame_eq {e : Value} {u v : Env} (h : u.frame = v.frame) : noteFrame e u = noteFrame e v := by
  unfold noteFrame PySem.frameOf
  rw [h]
/-- passed on, its flight being this frame's -/
theorem passOn_held {M : Model} {A : Around} {E : Value → Shared → Prop} {s : Shared} {B : Heap} {l : List Env} {a L : Addr} {Z : Obj → Prop} {u : Env} {what : String} {Q : Value → Shared → Prop} (fr : u.frame = some L) (held : HandSPX.HeldZ B l a Z L s.heap)
    (h : ∀ h', HandSPX.HeldZ B l a Z L h' → s.heap.UpToSlots h' → E (.ref a) { s with heap := h' }) : wpAny M A (passOn what (.ref a) u : Sem Value) Q E s := by
  obtain ⟨_, _, _, oa, va, T, _, _, ea, _, da, v1, _⟩ := id held
  unfold PySem.passOn
  refine wpAny_bind (wpAny_field ea da v1 ?_)
  have nt : ¬ ((Value.ref T == Value.none) = true) := by simp
  rw [if_neg nt]
  have go : wpAny M A (setFlight (.ref a) u.frame) (fun _ s2 => wpAny M A (throw (.ref a) : Sem Value) Q E s2) E s := by
    rw [fr]
    exact HandSPX.setFlight_onZ held fun h2 held2 up2 => wpAny_throw (h h2 held2 up2)
  first
    | exact wpAny_bind (wpAny_pure (wpAny_bind go))
    | exact wpAny_bind go
section
variable {X : Cx} {W : WX} {E : XK} {pins pins' : List (Addr × Obj)} {σ σ' : L2.St} {H3 H1 : Hp} {s3 s1 s2 : Shared} {scope : Scope} {ce : Env} {fp : List Addr} {xe : Value → Shared → Prop} {e : Value}
/-- what a call within a comprehension's block raised goes on in the frame around -/
theorem block_raised (I3 : Inv X pins σ H3 s3) (stk : X.stack = X.env :: X.outer) (fr : X.env.frame = some X.env.locals) (tk : Takes X W) (hW : ∀ cls d σ H, E cls d H → W cls d σ H) (cf : ce.frame = X.env.frame) (cL : ce.locals = s3.heap.objs.size)
    (f3 : ∀ b ∈ fp, FpOk X pins H3 b ∧ b < s3.heap.objs.size) (I : Inv ((X.blk s3 H3 scope ce fp).tr [] xe) pins' σ' H1 s1) (c : L2.CX X.prog X.w X.stack H1 s1 E e s2) :
    notedBy (model X.prog X.w) X.A ce (CompFails (model X.prog X.w) X.A X.xe ce) e s2 := by
  have frames : X.A.frames = some (X.env :: X.outer) := I3.ok.frames.trans (congrArg some stk)
  obtain ⟨a0, B0, _, _, _, e0, fl0, _⟩ := id c
  obtain ⟨a, B, sI, pins2, σ2, H2, cls, d, ea, J, ground, up, sky, na, os, ag, w⟩ := XE.of_call (W := fun cls d _ H => E cls d H) I (fun _ _ _ z => z) c
  have aa : a0 = a := Value.ref.inj (e0.symm.trans ea)
  rw [aa] at fl0
  subst ea
  have fl : HandSPX.FlyingZ B (X.env :: X.outer) a (Zc cls d) s2.heap := by
    obtain ⟨_, _, _, ob, vs, T, oT, ts, g1, _, g3, g4, _, _, g7, g8, g9⟩ := fl0
    have sky : Sky B X.stack a (Zc cls d) ce.locals s2.heap := sky
    rw [stk] at sky
    rcases sky with ⟨_, _, _, ob', vs', q1, _, q3, q4⟩ | fl | ⟨_, _, _, ob', vs', T', oT', ts', q1, _, q3, q4, _, _, q7, q8, q9⟩
    · rw [g1] at q1
      cases q1
      rw [g3] at q3
      cases q3
      rw [g4] at q4
      cases q4
    · exact fl
    · rw [g1] at q1
      cases q1
      rw [g3] at q3
      cases q3
      rw [g4] at q4
      cases q4
      rw [g7] at q7
      cases q7
      rw [g8] at q8
      cases q8
      rw [g9] at q9
      cases q9
  show wpAny _ _ (noteFrame (.ref a) ce) _ _ s2
  rw [noteFrame_eq cf]
  refine HandSPX.looks_onZ Zc.steady frames fr fl fun h' held up' => ?_
  -- the block's names
  have C0 : s3.heap.get? ce.locals = none := Heap.get?_none_of_le (by rw [cL]; exact Nat.le_refl _)
  obtain ⟨m, hn, _⟩ := J.loc
  have hn : sI.heap.Ns ce.locals m := hn
  have cst : ce.locals ∉ frs X.stack := fun hm => by
    obtain ⟨_, o, ho, _⟩ := I3.stack.mem hm
    rw [C0] at ho
    cases ho
  obtain ⟨oC, es, ep, ho, r⟩ := hn
  have hB : B.get? ce.locals = some oC := ground _ _ ho cst
  refine ⟨m, ⟨oC, es, ep, held.1 _ _ hB, r⟩, fun h'' m'' hn'' sb => ?_⟩
  obtain ⟨G, g1, g2⟩ := restrict sI.heap fun b => decide (b ≠ ce.locals)
  obtain ⟨B', b1, b2⟩ := restrict B fun b => decide (b ≠ ce.locals)
  have gE : ∀ b, b ≠ ce.locals → G.get? b = sI.heap.get? b := fun b n => g1 b (decide_eq_true n)
  have gC : G.get? ce.locals = none := g2 _ (by simp)
  have bE : ∀ b, b ≠ ce.locals → B'.get? b = B.get? b := fun b n => b1 b (decide_eq_true n)
  have bC : B'.get? ce.locals = none := b2 _ (by simp)
  have bN : ∀ b, B.get? b = none → B'.get? b = none := fun b z => by
    by_cases n : b = ce.locals
    · rw [n]
      exact bC
    · rw [bE b n]
      exact z
  have held2 : HandSPX.HeldZ B' (X.env :: X.outer) a (Zc cls d) X.env.locals h'' := by
    obtain ⟨k1, k2, k3, ob, vs, T, oT, ts, q1, q2, q3, q4, q5, q6, q7, q8, q9⟩ := held
    have nea : a ≠ ce.locals := fun z => by
      rw [z, hB] at k2
      cases k2
    have neT : T ≠ ce.locals := fun z => by
      rw [z, hB] at q5
      cases q5
    refine ⟨fun b o eb => ?_, bN _ k2, funFrames_none (Heap.FunFrames.sameBut sb hn'' k3) fun b hb => bN b (k3.mem hb).1, ob, vs, T, oT, ts, (sb.2 a nea).trans q1, q2, q3, q4, bN _ q5, q6, (sb.2 T neT).trans q7, q8, q9⟩
    by_cases n : b = ce.locals
    · rw [n, bC] at eb
      cases eb
    · rw [bE b n] at eb
      exact (sb.2 b n).trans (k1 b o eb)
  refine passOn_held (L := X.env.locals) (cf.trans fr) held2 fun h3 held3 up3 => tk _ _ ?_
  have ne3 : ∀ b o, s3.heap.get? b = some o → b ≠ ce.locals := fun b o eb z => by
    rw [z, C0] at eb
    cases eb
  have un : Un (frs X.stack) fp H3 H2 s3.heap sI.heap := J.base
  have inv : Inv X pins σ H2 { sI with heap := G } := by
    refine I3.call' (s' := { sI with heap := G }) (ch := fp) J.os ⟨fun b o eb n h1 h2 => (gE b (ne3 b o eb)).trans (un.keep b o eb n h1 h2), fun b o eb n h1 h2 => ?_, un.free, fun b o eb h2 => ?_, un.tups, un.frzs, un.tbls⟩ (fun b o q => ?_) J.bare fun b hb => ⟨(f3 b hb).1.2.2.2.1, (f3 b hb).1.2.1, (f3 b hb).1.2.2.2.2.1, (f3 b hb).1.2.2.2.2.2⟩
    · obtain ⟨sl, z⟩ := un.slot b o eb n h1 h2
      exact ⟨sl, (gE b (ne3 b o eb)).trans z⟩
    · obtain ⟨o', z⟩ := un.there b o eb h2
      exact ⟨o', (gE b (ne3 b o eb)).trans z⟩
    · have fC : H2 ce.locals = none := J.free
      refine (J.hok b o q).stay (fun c u hc z => (gE c fun n => ?_).trans z) (fun _ z => z) fun _ _ z => z
      rw [n] at hc
      rcases hc with hc | hc
      · rw [← hc, fC] at q
        cases q
      · rw [fC] at hc
        cases hc
  refine ⟨a, B', { sI with heap := G }, pins, σ, H2, cls, d, rfl, inv, fun b o eb hb => ?_, fun b o eb nf => ?_, .inr (.inr (by rw [stk]; exact held3)), na, os, ag, hW _ _ _ _ w⟩
  · by_cases n : b = ce.locals
    · have eb : G.get? b = some o := eb
      rw [n, gC] at eb
      cases eb
    · have eb : G.get? b = some o := eb
      rw [gE b n] at eb
      exact (bE b n).trans (ground b o eb hb)
  · by_cases n : b = ce.locals
    · have eb : G.get? b = some o := eb
      rw [n, gC] at eb
      cases eb
    · have eb : G.get? b = some o := eb
      rw [gE b n] at eb
      obtain ⟨x1, z1⟩ := up b o eb nf
      obtain ⟨x2, z2⟩ := up' b _ z1 nf
      have z3 : h''.get? b = some { o with slots := x2 } := (sb.2 b n).trans z2
      obtain ⟨x4, z4⟩ := up3 b _ z3 nf
      exact ⟨x4, z4⟩
end
end Ax
namespace Ax
open PySem PySem.Spec PyProof.Rows L2
section
variable {X : Cx}
/-- the context of a block whose exceptions go to xe -/
abbrev blkX (X : Cx) (s : Shared) (H : Hp) (scope : Scope) (C : Addr) (cl : List (Str × Addr)) (fp : List Addr) (xe : Value → Shared → Prop) : Cx := (X.blk s H scope (compEnvC scope cl C X.env) fp).tr [] xe
theorem lcx_run {W : WX} {E : XK} {pins : List (Addr × Obj)} {s : Shared} {σ : L2.St} {H : Hp} {Q : VK} {elt tg iter : Expr} {scope : Scope} {own : List (Str × Nat)} {pos : Pos} {p2 : Pos} {wi : TI} {g : TG} {te : TE}
    (stk : X.stack = X.env :: X.outer) (fr : X.env.frame = some X.env.locals) (tk : Takes X W) (hW : ∀ cls d σ H, E cls d H → W cls d σ H) (calm : X.calm = true) (nd : X.N.Nodup) (I : Inv X pins σ H s) (hi : PI X tg iter wi) (ok : BlkOk X.N X.env.scope scope own)
    (hg : ∀ s H C cl fp, PG (X.blk s H scope (compEnvC scope cl C X.env) fp) tg g) (he : ∀ s H C cl fp xe, Passes (L2.CX X.prog X.w) (blkX X s H scope C cl fp xe) E → PE (blkX X s H scope C cl fp xe) elt te)
    (fs : ∀ x, foldedSetIterable iter X.env x = pure x) (h : tLc wi g tYes te (own.map (·.2)) σ H Q) :
    wpAny (model X.prog X.w) X.A (comprehension (.ListComp elt [⟨tg, iter, [], 0⟩] scope pos) scope X.env p2 (newList []) false (eval iter X.env) none) (EP X pins σ Q) X.xe s := by
  have caught : ∀ y ∈ scope.names, y.2 = .free → ∃ c, X.env.cells.lookup y.1 = some c := fun y hy e => (ok.free y hy e).elim (fun k => I.ok.has _ (.inl k)) fun k => I.ok.has _ (.inr k)
  refine comprehension_at (use := none) rfl fs (closure_ok caught) ok.kind (fun y hy e => (ok.uniq y hy).trans (congrArg some e)) (thn (hi.run pins s σ H _ I h) fun xv s1 hx => thn hx fun itv s2 got => ?_)
  obtain ⟨it, fp, tn, J, H2, ev, I2, T, t2, f2, q⟩ := got
  subst ev
  refine wpAny_newObj_type (newEnv_comp ?_) (Nat.zero_le _)
  generalize eD : s2.heap.objs.size = D
  have nD : H2 D = none := I2.hok.fresh (Nat.le_of_eq eD)
  obtain ⟨V0, ⟨m0, v0⟩, turn⟩ := q D nD
  generalize e3 : ({ s2 with heap := s2.heap.push { cls := .type "list", data := .seq ([] : List Value).toArray } } : Shared) = s3
  have hp3 : s3.heap = s2.heap.push { cls := .type "list", data := .seq ([] : List Value).toArray } := by rw [← e3]
  have I3 : Inv X pins σ (upd H2 D (.lst [])) s3 := by
    rw [← e3]
    refine I2.laid (t' := s2.toks) (fun b o e => Heap.get?_push_of_some _ e) (Nat.le_of_eq eD) ⟨Nat.zero_le _, [], 0, .nil, ?_⟩
    rw [← eD]
    exact Heap.get?_push_size _ rfl
  have f3 : ∀ b ∈ fp, FpOk X pins (upd H2 D (.lst [])) b ∧ b < s3.heap.objs.size := fun b hb => by
    obtain ⟨o, e, _⟩ := T.obj _ _ t2 b hb
    have lt := Heap.lt_size e
    refine ⟨⟨?_, (f2 b hb).2⟩, by rw [hp3, Heap.size_push]; exact Nat.lt_succ_of_lt lt⟩
    rw [upd_ne (by rw [← eD]; exact Nat.ne_of_lt lt)]
    exact (f2 b hb).1
  have t3 : tn 0 s3.heap := T.keep _ _ _ t2 fun b _ o e => by
    rw [hp3]
    exact Heap.get?_push_of_some _ e
  have I4 := block_start I3 ok nd f3
  obtain ⟨H3, eH⟩ : ∃ H3, upd H2 D (.lst []) = H3 := ⟨_, rfl⟩
  obtain ⟨cl, ecl⟩ : ∃ cl, cellsFrom (s3.heap.objs.size + 1) scope.names (cloFrom X.env.cells scope.names []) = cl := ⟨_, rfl⟩
  rw [eH] at I3 I4 f3 v0
  rw [ecl] at I4
  have pg := hg s3 H3 s3.heap.objs.size cl fp
  obtain ⟨ce, ece⟩ : ∃ ce, compEnvC scope cl s3.heap.objs.size X.env = ce := ⟨_, rfl⟩
  have cL : ce.locals = s3.heap.objs.size := by rw [← ece]; rfl
  have cf : ce.frame = X.env.frame := by rw [← ece]; rfl
  have pe := he s3 H3 s3.heap.objs.size cl fp (notedBy (model X.prog X.w) X.A ce (CompFails (model X.prog X.w) X.A X.xe ce)) (fun pins' σ' H1 s1 e s2 I c => by
    have I : Inv ((X.blk s3 H3 scope (compEnvC scope cl s3.heap.objs.size X.env) fp).tr [] (notedBy (model X.prog X.w) X.A ce (CompFails (model X.prog X.w) X.A X.xe ce))) pins' σ' H1 s1 := I
    rw [ece] at I
    exact block_raised I3 stk fr tk hW cf cL f3 I c)
  have pe : PE ((X.blk s3 H3 scope (compEnvC scope cl s3.heap.objs.size X.env) fp).tr [] (notedBy (model X.prog X.w) X.A ce (CompFails (model X.prog X.w) X.A X.xe ce))) elt te := pe
  rw [ece] at pg pe I4
  show codeAny _ _ (.compStart (.ListComp elt [⟨tg, iter, [], 0⟩] scope pos) 0 (.ref it) (.ref D) (compEnvC scope (cellsFrom (s3.heap.objs.size + 1) scope.names (cloFrom X.env.cells scope.names [])) s3.heap.objs.size X.env)) (compEnds (model X.prog X.w) X.A X.xe none (EP X pins σ Q) (.ref D) (compEnvC scope (cellsFrom (s3.heap.objs.size + 1) scope.names (cloFrom X.env.cells scope.names [])) s3.heap.objs.size X.env)) { s3 with heap := pushCells (s3.heap.push { cls := .type "dict", data := .dict #[] }) scope.names }
  rw [ecl, ece]
  have n3 : ∀ b ∈ fp, H3 b = none := fun b hb => (f3 b hb).1.1
  have t4 : tn 0 (pushCells (s3.heap.push { cls := .type "dict", data := .dict #[] }) scope.names) := T.keep _ _ _ t3 fun b _ o e => pushCells_keeps _ _ _ _ (Heap.get?_push_of_some _ e)
  obtain ⟨s4, e4⟩ : ∃ s4 : Shared, ({ s3 with heap := pushCells (s3.heap.push { cls := .type "dict", data := .dict #[] }) scope.names } : Shared) = s4 := ⟨_, rfl⟩
  have t4 : tn 0 s4.heap := by rw [← e4]; exact t4
  rw [e4] at I4 ⊢
  have fpo : ∀ {σ' : L2.St} {H' : Hp} {s' : Shared}, Inv (X.blk s3 H3 scope ce fp) [] σ' H' s' → (∀ b ∈ fp, H' b = none) → ∀ b ∈ fp, FpOk (X.blk s3 H3 scope ce fp) [] H' b := fun {σ' H' s'} I' hn b hb =>
    ⟨hn b hb, (I'.ok.exf b hb).1, I'.ok.exfs b hb, .inl hb, (I'.ok.exf b hb).2, fun p hp => absurd (show p ∈ ([] : List (Addr × Obj)) ++ [] from hp) (by simp)⟩
  have loop : codeAny (model X.prog X.w) X.A (.compLoop (.ListComp elt [⟨tg, iter, [], 0⟩] scope pos) 0 (.ref it) (.ref D) ce) (compEnds (model X.prog X.w) X.A X.xe none (EP X pins σ Q) (.ref D) ce) s4 := by
    refine compLoop_any (fun n s' => ∃ i H', Inv (X.blk s3 H3 scope ce fp) [] (wipe σ (own.map (·.2))) H' s' ∧ tn i s'.heap ∧ (∀ b ∈ fp, H' b = none) ∧ V0 i n H') ?_ m0 ⟨0, H3, I4, t4, n3, v0⟩
    rintro n s5 ⟨i, H5, I5, t5, n5, w5⟩
    rcases turn i n H5 w5 with ⟨stop, qq⟩ | ⟨go, Nx, nxt, step⟩
    · refine thnF (T.done (X.blk s3 H3 scope ce fp) rfl rfl rfl calm i [] s5 _ H5 (fun _ _ => False) I5 (fpo I5 n5) t5 stop) fun r s6 ⟨er, I6⟩ => ?_
      subst er
      have I7 : Inv X pins σ H5 s6 := I3.call' (ch := fp) I6.os I6.base I6.hok I6.bare fun b hb => ⟨(f3 b hb).1.2.2.2.1, (f3 b hb).1.2.1, (f3 b hb).1.2.2.2.2.1, (f3 b hb).1.2.2.2.2.2⟩
      have nC : H5 ce.locals = none := I6.free
      obtain ⟨m, hn, _⟩ := I6.loc
      have hn : s6.heap.Ns ce.locals m := hn
      have fC : FpOk X pins H5 ce.locals := I3.fpOk (by rw [cL]; exact Nat.le_refl _) nC
      obtain ⟨f0, f1, _, f4, f5, f6⟩ := fC
      exact ⟨m, hn, fun h' sb => ⟨.ref D, H5, I7.turned (t' := s6.toks) (fun b o hb e => (sb.2 b hb).trans e) f0 f1 f4 f5 f6, rfl, qq⟩⟩
    · refine thnF (T.item (X.blk s3 H3 scope ce fp) rfl rfl rfl calm i [] s5 _ H5 (fun _ _ => False) I5 (fpo I5 n5) t5 go) fun r s6 ⟨u, er, h6⟩ => ?_
      subst er
      refine thnF h6 fun _ s7 ⟨x, H7, I7, r7, y7, t7, n7⟩ => ?_
      refine thnF (pg.run _ s7 _ H7 x u _ (I7.pinned (fpo I7 n7) (T.obj _ _ t7)) r7 (step x H7 y7)) fun _ s8 ⟨σ8, H8, I8, w8, q8⟩ => ?_
      refine wpAny_tests_nil ?_
      show (if true = true then _ else _)
      rw [if_pos rfl]
      have q8 : te σ8 H8 fun y H4 => ∃ acc, H4 D = some (.lst acc) ∧ acc.length < sizeLine ∧ Nx (upd H4 D (.lst (acc ++ [y]))) := by
        have z : (if true = true then te σ8 H8 fun y H4 => ∃ acc, H4 D = some (.lst acc) ∧ acc.length < sizeLine ∧ Nx (upd H4 D (.lst (acc ++ [y]))) else Nx H8) := q8
        rw [if_pos rfl] at z
        exact z
      have I8x : Inv ((X.blk s3 H3 scope ce fp).tr [] (notedBy (model X.prog X.w) X.A ce (CompFails (model X.prog X.w) X.A X.xe ce))) ([] ++ pinsAt fp s7.heap) σ8 H8 s8 :=
        ⟨I8.ok.toTry _ _, I8.os, I8.bare, I8.base, I8.loc, I8.cell, I8.free, I8.freeC, I8.pin, I8.hok, I8.len⟩
      refine wpAny_mono (pe.run _ s8 σ8 H8 _ I8x q8) (fun z s9 got => ?_) fun _ _ z => z
      obtain ⟨y, H9, I9x, r9, acc, d9, z9, nx9⟩ := got
      have I9 : Inv (X.blk s3 H3 scope ce fp) ([] ++ pinsAt fp s7.heap) σ8 H9 s9 := ⟨I9x.ok.ofTry, I9x.os, I9x.bare, I9x.base, I9x.loc, I9x.cell, I9x.free, I9x.freeC, I9x.pin, I9x.hok, I9x.len⟩
      refine app_ok (X := X.blk s3 H3 scope ce fp) I9 d9 z9 r9 fun s10 I10 => ?_
      obtain ⟨m', lt, w'⟩ := nxt _ nx9
      have kept : ∀ b ∈ fp, ∀ o, s7.heap.get? b = some o → s10.heap.get? b = some o ∧ (upd H9 D (.lst (acc ++ [y]))) b = none := fun b hb o e =>
        let z := I10.pin (b, o) (List.mem_append_right _ (List.mem_append_right _ (mem_pinsAt hb e)))
        ⟨z.1, z.2.1⟩
      have len : (wipe σ (own.map (·.2))).length = σ8.length := by rw [← w8, wipe_length]
      refine ⟨m', lt, i + 1, _, (I10.unpinned (pins := [])).weak len (fun j v e => ?_), T.keep _ _ _ t7 fun b hb o e => (kept b hb o e).1, fun b hb => ?_, w'⟩
      · rw [← w8] at e
        exact (wipe_some e).1
      · obtain ⟨o, e, _⟩ := T.obj _ _ t7 b hb
        exact (kept b hb o e).2
  exact codeAny_compStart_list loop (T.self X.A 0 _ _ _ t4 loop)
/-- [e for x in xs], e a call that may raise: the exception goes out of the def -/
theorem pe_lcX {W : WX} {E : XK} {elt tg iter : Expr} {scope : Scope} {own : List (Str × Nat)} {pos : Pos} {wi : TI} {g : TG} {te : TE} (stk : X.stack = X.env :: X.outer) (fr : X.env.frame = some X.env.locals) (tk : Takes X W) (hW : ∀ cls d σ H, E cls d H → W cls d σ H)
    (calm : X.calm = true) (nd : X.N.Nodup) (hi : PI X tg iter wi) (ok : BlkOk X.N X.env.scope scope own) (hg : ∀ s H C cl fp, PG (X.blk s H scope (compEnvC scope cl C X.env) fp) tg g)
    (he : ∀ s H C cl fp xe, Passes (L2.CX X.prog X.w) (blkX X s H scope C cl fp xe) E → PE (blkX X s H scope C cl fp xe) elt te) (fs : ∀ x, foldedSetIterable iter X.env x = pure x := by intro _; rfl) : PE X (.ListComp elt [⟨tg, iter, [], 0⟩] scope pos) (tLc wi g tYes te (own.map (·.2))) := by
  refine ⟨fun pins s σ H Q I h => ?_⟩
  rw [eval_ListComp]
  exact lcx_run stk fr tk hW calm nd I hi ok hg he fs h
end
end Ax
/-! ### labels, as the program reads and writes them -/
namespace Ax
open PySem L2 TL PySem.NumText
theorem mod_nat (v : Int) (m : Nat) : v % (m : Int) = 0 ↔ v.natAbs % m = 0 := by
  rw [← Int.dvd_iff_emod_eq_zero, ← Nat.dvd_iff_mod_eq_zero]
  exact Int.ofNat_dvd_left
theorem row_lab {ns : List Int} (r : Row ns) {x : Int} (h : x ∈ ns) : Lab x (dOf ns) := by
  have b := r.2.2.1 x h
  have d := dOf_at ns
  unfold divs at d
  have d := of_decide_eq_true (List.all_eq_true.mp d x h)
  exact ⟨dOf_le ns, (mod_nat x _).mp d, by omega⟩
/-- the labels of a row -/
def labsL (ns : List Int) : List (List Nat) := ns.map fun v => labL v (dOf ns)
def labsV (ns : List Int) : List V := ns.map fun v => V.str (lab v (dOf ns))
def mostI (l : List Int) : Int := l.max?.getD 0
theorem mostI_spec {l : List Int} (h : l ≠ []) : mostI l ∈ l ∧ ∀ y, y ∈ l → y ≤ mostI l := by
  unfold mostI
  cases e : l.max? with
  | none => exact absurd (List.max?_eq_none_iff.mp e) h
  | some m =>
    have := List.max?_eq_some_iff.mp e
    exact ⟨this.1, fun y hy => this.2 y hy⟩
def widthI (ns : List Int) : Int := mostI ((labsL ns).map fun l => (l.length : Int))
/-- without a leading minus -/
def tailM (l : List Nat) : List Nat := if l.take 1 = [45] then l.drop 1 else l
theorem cutM_cutL (l : List Nat) : cutM 46 l = ((cutL l).1, (if (cutL l).2.1 = true then [46] else []), (cutL l).2.2) := by
  unfold cutM cutL
  cases par [46] [] l with
  | none => rfl
  | some z => rfl
theorem parse_by {l A B : List Nat} {pt : Bool} (hc : cutL (tailM l) = (A, pt, B)) {v : Int} (hv : v = if l.take 1 = [45] then -((digitsVal (A ++ B) * pw10 B.length : Nat) : Int) else ((digitsVal (A ++ B) * pw10 B.length : Nat) : Int)) :
    parseL l = if (pt = true → 1 ≤ B.length ∧ B.length ≤ 3) ∧ A ≠ [] ∧ A.length ≤ 4 ∧ (∀ x ∈ A ++ B, 48 ≤ x ∧ x ≤ 57) ∧ (-1000000 ≤ v ∧ v ≤ 1000000) ∧ labL v B.length = l then some (v, B.length) else none := by
  unfold parseL
  unfold tailM at hc
  simp only [hc, hv]
theorem val_fold : ∀ (l : List Nat) (a : Nat), AllDigits l → l.foldl (fun acc c => acc * 10 + (c - 48)) a < (a + 1) * 10 ^ l.length
  | [], a, _ => by simp
  | c :: r, a, h => by
    have hc := h c List.mem_cons_self
    have ih := val_fold r (a * 10 + (c - 48)) fun x hx => h x (List.mem_cons_of_mem _ hx)
    rw [List.foldl_cons, List.length_cons, Nat.pow_succ]
    refine Nat.lt_of_lt_of_le ih ?_
    have e : (a + 1) * (10 ^ r.length * 10) = (a * 10 + 10) * 10 ^ r.length := by
      rw [Nat.mul_comm (10 ^ r.length) 10, ← Nat.mul_assoc, Nat.add_mul, Nat.one_mul]
    rw [e]
    exact Nat.mul_le_mul_right _ (by omega)
theorem val_lt {l : List Nat} (h : AllDigits l) : digitsVal l < 10 ^ l.length := by
  have := val_fold l 0 h
  rw [Nat.zero_add, Nat.one_mul] at this
  exact this
theorem val_lt7 {l : List Nat} (h : AllDigits l) (hl : l.length ≤ 7) : digitsVal l < 10000000 :=
  Nat.lt_of_lt_of_le (val_lt h) (Nat.pow_le_pow_right (by decide) hl)
/-- what parse_label answers of a value -/
def parseV : V → Option (Int × Nat)
  | .str t => parseL (tl t)
  | _ => none
/-- a value of a known kind, no text too long -/
def Tx (K : PySem.W.Frag) (H : Hp) (x : V) : Prop := Known K H x ∧ ∀ t, x = .str t → t.length ≤ 1000
theorem Tx.same {K : PySem.W.Frag} {H H' : Hp} {x : V} (s : Same H H') (h : Tx K H x) : Tx K H' x := ⟨h.1.same s, h.2⟩
theorem Tx.txt {K : PySem.W.Frag} {H : Hp} {t : Str} (h : t.length ≤ 1000) : Tx K H (.str t) := ⟨.inr (.str t), fun u e => by cases e; exact h⟩
end Ax
namespace Ax
open PySem L2
/-- behind a statement that leaves slots as they are: what it knows by then -/
theorem r_cutC {t u : TS} {D : Ends} {σ : L2.St} {H : Hp} (C : Prop) (rest : C → ∀ H', Same H H' → u D σ H') (h : ∀ N : L2.St → Hp → Prop, (C → ∀ H', Same H H' → N σ H') → t { D with nx := N } σ H) : tSeq t u D σ H := h (u D) rest
theorem cut_pt {l A B : List Nat} {pt : Bool} (h : cutL l = (A, pt, B)) (c : pt = false) : B = [] := by
  unfold cutL at h
  cases e : TL.par [46] [] l with
  | none =>
    rw [e] at h
    cases h
    rfl
  | some z =>
    rw [e] at h
    cases h
    cases c
theorem par_len {S : List Nat} : ∀ {l acc A B : List Nat}, TL.par S acc l = some (A, B) → A.length ≤ acc.length + l.length ∧ B.length ≤ l.length
  | [], _, _, _, h => by cases h
  | c :: r, acc, A, B, h => by
    have h : (if TL.pre S (c :: r) = true then some (acc, (c :: r).drop S.length) else TL.par S (acc ++ [c]) r) = some (A, B) := h
    by_cases p : TL.pre S (c :: r) = true
    · rw [if_pos p] at h
      cases h
      rw [List.length_drop]
      omega
    · rw [if_neg p] at h
      have ih := par_len h
      rw [List.length_append, List.length_singleton] at ih
      rw [List.length_cons]
      omega
theorem cut_len {l A B : List Nat} {pt : Bool} (h : cutL l = (A, pt, B)) : A.length ≤ l.length ∧ B.length ≤ l.length := by
  unfold cutL at h
  cases e : TL.par [46] [] l with
  | none =>
    rw [e] at h
    cases h
    exact ⟨Nat.le_refl _, Nat.zero_le _⟩
  | some z =>
    rw [e] at h
    cases h
    have := par_len e
    simp only [List.length_nil, Nat.zero_add] at this
    exact this
end Ax
/-! ### text.index, first digits -/
namespace Ax
open PySem L2 TL
def rSix : V → List V → Hp → VK → Prop := fun x xs H Q => ∃ a b i rest, x = .str a ∧ xs = [.str b] ∧ Builtin.Str.occurrences a b 0 a.length 1 = i :: rest ∧ Q (.int (i : Nat)) H
theorem mt_six {X : Cx} : MtR X "str.index" rSix := mt_sindex
theorem r_six {H : Hp} {Q : VK} {a p r : List Nat} {s : Nat} (e0 : a = p ++ s :: r) (h : s ∉ p) (q : Q (.int (p.length : Nat)) H) : rSix (.str (mkS a)) [.str (mkS [s])] H Q := by
  rw [e0]
  have at0 : (p ++ s :: r)[p.length]? = some s := by rw [List.getElem?_append_right (Nat.le_refl _), Nat.sub_self]; rfl
  rcases StrLaws.occ_head (mkS (p ++ s :: r)) ⟨#[s]⟩ 1 (Nat.le_refl 1) with ⟨_, hn⟩ | ⟨i, t, ho, hi, hn⟩
  · exact absurd ((StrLaws.subAt_one (mkS (p ++ s :: r)) s p.length).mpr at0) (hn p.length)
  · have hi : (p ++ s :: r)[i]? = some s := (StrLaws.subAt_one (mkS (p ++ s :: r)) s i).mp hi
    have e : i = p.length := by
      by_cases c : i < p.length
      · rw [List.getElem?_append_left c] at hi
        exact absurd (List.mem_of_getElem? hi) h
      · by_cases c2 : p.length < i
        · exact absurd ((StrLaws.subAt_one (mkS (p ++ s :: r)) s p.length).mpr at0) (hn p.length c2)
        · omega
    subst e
    exact ⟨_, _, p.length, t, rfl, rfl, ho, q⟩
theorem numL_head : ∀ (m n : Nat), n ≤ m → 1 ≤ n → ∃ c r, numL n = c :: r ∧ 49 ≤ c
  | 0, n, h, h1 => by omega
  | m + 1, n, h, h1 => by
    by_cases c : n < 10
    · exact ⟨48 + n, [], numL_lt c, by omega⟩
    · obtain ⟨x, r, e, hx⟩ := numL_head m (n / 10) (by omega) (by omega)
      exact ⟨x, r ++ [48 + n % 10], by rw [numL_step (by omega), e]; rfl, hx⟩
/-- no number of two digits or more begins with a zero -/
theorem numL_zero {n : Nat} {r : List Nat} (h : numL n = 48 :: r) : r = [] := by
  by_cases c : n < 10
  · rw [numL_lt c] at h
    injection h with _ h2
    exact h2.symm
  · obtain ⟨x, t, e, hx⟩ := numL_head n n (Nat.le_refl _) (by omega)
    rw [e] at h
    injection h with h1 _
    omega
theorem lab_dot (v : Int) (d : Nat) : 46 ∈ labL v d ↔ 0 < d := by
  have f : 46 ∉ numL (v.natAbs / 1000) := numL_free (by omega)
  have s : 46 ∉ (if v < 0 then [45] else ([] : List Nat)) := by split <;> simp
  unfold labL
  rw [List.mem_append, List.mem_append]
  by_cases h : d = 0
  · subst h
    simp [f, s]
  · rw [if_neg h]
    simp [show 0 < d by omega]
theorem dp_bool_ne {a b : Bool} (h : a = b) : (!decide (a = b)) = false := by rw [decide_eq_true h]; rfl
end Ax
namespace Ax
open PySem L2 TL
/-- signs that can be laid out -/
def Low (l : List Nat) : Prop := ∀ c ∈ l, c < 1000
theorem Low.app {a b : List Nat} (h : Low a) (h2 : Low b) : Low (a ++ b) := fun c hc => (List.mem_append.mp hc).elim (h c) (h2 c)
theorem Low.take {a : List Nat} (n : Nat) (h : Low a) : Low (a.take n) := fun c hc => h c (List.mem_of_mem_take hc)
theorem Low.drop {a : List Nat} (n : Nat) (h : Low a) : Low (a.drop n) := fun c hc => h c (List.mem_of_mem_drop hc)
theorem low_num (n : Nat) : Low (numL n) := fun c hc => by have := numL_digits n c hc; omega
theorem low_digs (d n : Nat) : Low (digs d n) := fun c hc => by have := digs_all d n c hc; omega
theorem low_lab (v : Int) (d : Nat) : Low (labL v d) := by
  unfold labL
  refine Low.app ?_ (Low.app (low_num _) ?_)
  · split
    · intro c hc
      rw [List.mem_singleton] at hc
      omega
    · intro c hc
      cases hc
  · split
    · intro c hc
      cases hc
    · intro c hc
      rcases List.mem_cons.mp hc with rfl | hc
      · decide
      · exact low_digs _ _ c hc
theorem sd_str {n : Nat} {l : List Nat} (h : Low l) : Sd (n + 1) (.str (mkS l)) := by
  refine ⟨?_, by simp only [PyData.depth]; omega⟩
  simp only [PyData.canLay0, PyData.strOk]
  show l.toArray.all _ = true
  rw [List.all_toArray, List.all_eq_true]
  intro c hc
  have := h c hc
  exact decide_eq_true (by omega)
theorem shp_str {l : List Nat} (h : Low l) : SeqAt.shaped (.str (mkS l)) = true := shp_of (n := 1) (sd_str h) (by decide)
section
variable {K : PySem.W.Frag} {H H1 : Hp} {σ : L2.St} {Q : VK} {te : TE} {a : Addr}
/-- [f(v) for v in xs], xs of any known things -/
theorem lc_valsM {xs : List V} {ix : Nat} {f : V → V} (hz : xs.length ≤ 1000000) (hs : SqL K H1 a xs)
    (he : ∀ v H2 (Q' : VK), v ∈ xs → Same H1 H2 → (∀ H3, Same H2 H3 → Q' (f v) H3) → te ((wipe σ [ix]).set ix (some v)) H2 Q')
    (hd : ∀ D H', Same H1 H' → H1 D = none → H' D = some (.lst (xs.map f)) → Q (.ref D) H') : LcG (Itl K a) (gName ix) tYes te [ix] σ H1 Q := by
  have mem : ∀ i, i < xs.length → xs.getD i .non ∈ xs := fun i hi => by
    rw [List.getD_eq_getElem?_getD, List.getElem?_eq_getElem hi]
    exact List.getElem_mem hi
  refine lc_core' (n := xs.length) (Y := fun i => xs.getD i .non) (p := fun _ => true) (f := fun i => f (xs.getD i .non)) walk_listY hz (fun _ s => Same.seq s hs) (fun _ _ _ _ _ q => q _ (Same.refl _)) (fun i H2 Q' hi _ s q => he _ H2 Q' (mem i hi) s q) fun D H' s n e => hd D H' s n ?_
  rw [filter_yes] at e
  rw [e]
  congr 2
  refine List.ext_getElem (by simp) fun i h1 h2 => ?_
  simp only [List.getElem_map, List.getElem_range]
  rw [List.getD_eq_getElem?_getD, List.getElem?_eq_getElem (by simpa using h1)]
  rfl
theorem dpa_rep (x : Str) : ∀ n : Nat, DpAll K H (List.replicate n (V.str x)) (List.replicate n (PyData.str x))
  | 0 => .nil
  | n + 1 => .cons (.str x) (dpa_rep x n)
theorem map_const_rep {α β : Type} (l : List α) (b : β) : l.map (fun _ => b) = List.replicate l.length b := List.map_const' ..
theorem flat_rep {α : Type} (x : α) : ∀ n : Nat, (List.replicate n [x]).flatten = List.replicate n x
  | 0 => rfl
  | n + 1 => by rw [List.replicate_succ, List.flatten_cons, flat_rep x n]; rfl
theorem shp_rep {n : Nat} {l : List Nat} (h : Low l) : SeqAt.shaped (.list (List.replicate n (.str (mkS l)))) = true := shp_of (n := 2) (sd_list fun d hd => by
  rw [List.mem_replicate] at hd
  rw [hd.2]
  exact sd_str h) (by decide)
end
end Ax
/-! ### texts of ranges and steps -/
namespace Ax
open PySem L2 TL PySem.NumText
def numP (w : List Nat) : Option Int :=
  if (1 ≤ (tailM w).length ∧ (tailM w).length ≤ 7) ∧ (∀ x ∈ tailM w, 48 ≤ x ∧ x ≤ 57) ∧ intL (if w.take 1 = [45] then -((digitsVal (tailM w) : Nat) : Int) else ((digitsVal (tailM w) : Nat) : Int)) = w then some (if w.take 1 = [45] then -((digitsVal (tailM w) : Nat) : Int) else ((digitsVal (tailM w) : Nat) : Int)) else none
theorem numP_by {w : List Nat} {v : Int} (hv : (if w.take 1 = [45] then -((digitsVal (tailM w) : Nat) : Int) else ((digitsVal (tailM w) : Nat) : Int)) = v) :
    numP w = if (1 ≤ (tailM w).length ∧ (tailM w).length ≤ 7) ∧ (∀ x ∈ tailM w, 48 ≤ x ∧ x ≤ 57) ∧ intL v = w then some v else none := by
  unfold numP
  simp only [hv]
theorem intL_head (n : Int) : ((intL n).take 1 = [45]) ↔ n < 0 := by
  unfold intL
  by_cases h : n < 0
  · simp [h]
  · obtain ⟨c, r, e, hc⟩ := head_num n.natAbs []
    rw [List.append_nil] at e
    rw [if_neg h, List.nil_append, e]
    simp [h]; omega
theorem intL_tail (n : Int) : tailM (intL n) = numL n.natAbs := by
  unfold tailM
  by_cases h : n < 0
  · rw [if_pos ((intL_head n).2 h)]
    unfold intL
    rw [if_pos h]
    rfl
  · rw [if_neg (fun e => h ((intL_head n).1 e))]
    unfold intL
    rw [if_neg h]
    rfl
theorem num_int {n : Int} (h : n.natAbs < 10000000) : numP (intL n) = some n := by
  have e : (if (intL n).take 1 = [45] then -((digitsVal (tailM (intL n)) : Nat) : Int) else ((digitsVal (tailM (intL n)) : Nat) : Int)) = n := by
    rw [intL_tail, numL_val]
    by_cases k : n < 0
    · rw [if_pos ((intL_head n).2 k)]
      omega
    · rw [if_neg (fun e => k ((intL_head n).1 e))]
      omega
  rw [numP_by e, intL_tail, if_pos]
  exact ⟨⟨numL_pos _, numL_len (k := 7) (by decide) (by omega)⟩, numL_digits _, rfl⟩
theorem num_ok {w : List Nat} {n : Int} (h : numP w = some n) : w = intL n ∧ n.natAbs < 10000000 := by
  obtain ⟨v, hv⟩ : ∃ v : Int, (if w.take 1 = [45] then -((digitsVal (tailM w) : Nat) : Int) else ((digitsVal (tailM w) : Nat) : Int)) = v := ⟨_, rfl⟩
  rw [numP_by hv] at h
  obtain ⟨⟨⟨_, c1⟩, c2, c3⟩, h⟩ := if_some h
  subst h
  refine ⟨c3.symm, ?_⟩
  have := val_lt7 c2 c1
  rw [← hv]
  split <;> omega
theorem num_iff {w : List Nat} {n : Int} : numP w = some n ↔ w = intL n ∧ n.natAbs < 10000000 := ⟨num_ok, fun ⟨e, b⟩ => by rw [e]; exact num_int b⟩
theorem intL_len {n : Int} (h : n.natAbs < 10000000) : (intL n).length ≤ 8 := by
  unfold intL
  have := numL_len (n := n.natAbs) (k := 7) (by decide) (by omega)
  rw [List.length_append]
  split <;> simp <;> omega
theorem intL_free {n : Int} {s : Nat} (h : s < 45 ∨ (45 < s ∧ s < 48) ∨ 57 < s) : s ∉ intL n := by
  unfold intL
  intro m
  rcases List.mem_append.mp m with m | m
  · split at m
    · rw [List.mem_singleton] at m
      omega
    · cases m
  · exact numL_free (by omega) m
theorem low_int (n : Int) : Low (intL n) := by
  unfold intL
  refine Low.app ?_ (low_num _)
  split
  · intro c hc
    rw [List.mem_singleton] at hc
    omega
  · intro c hc
    cases hc
/-! a text cut at each separator -/
theorem spl_len1 (S : List Nat) (acc l : List Nat) : spl S 0 acc l ≠ [] := by
  induction l generalizing acc with
  | nil => rw [spl_nil]; exact List.cons_ne_nil _ _
  | cons c r ih =>
    cases h : pre S (c :: r) with
    | true => rw [spl_hit h]; exact List.cons_ne_nil _ _
    | false => rw [spl_miss h]; exact ih _
theorem spl_back {S : List Nat} (hS : S ≠ []) : ∀ (n : Nat) (l acc : List Nat), l.length ≤ n → joinL S (spl S 0 acc l) = acc ++ l
  | 0, l, acc, h => by
    have : l = [] := List.length_eq_zero_iff.mp (by omega)
    subst this
    rw [spl_nil, List.append_nil]
    rfl
  | n + 1, [], acc, _ => by
    rw [spl_nil, List.append_nil]
    rfl
  | n + 1, c :: r, acc, h => by
    rw [List.length_cons] at h
    cases hp : pre S (c :: r) with
    | false =>
      rw [spl_miss hp, spl_back hS n r _ (by omega), List.append_assoc]
      rfl
    | true =>
      obtain ⟨s, T, rfl⟩ : ∃ s T, S = s :: T := by
        cases S with
        | nil => exact absurd rfl hS
        | cons s T => exact ⟨s, T, rfl⟩
      rw [spl_hit hp, spl_pass]
      have ih := spl_back hS n (r.drop ((s :: T).length - 1)) [] (by rw [List.length_drop]; omega)
      rw [List.nil_append] at ih
      have e : (c :: r).take (s :: T).length = s :: T := by
        unfold pre at hp
        exact eq_of_beq hp
      have e2 : (s :: T) ++ r.drop ((s :: T).length - 1) = c :: r := by
        rw [← List.take_append_drop (s :: T).length (c :: r), e]
        rfl
      cases hq : spl (s :: T) 0 [] (r.drop ((s :: T).length - 1)) with
      | nil => exact absurd hq (spl_len1 _ _ _)
      | cons q rs =>
        rw [hq] at ih
        show acc ++ ((s :: T) ++ joinL (s :: T) (q :: rs)) = _
        rw [ih, e2]
theorem spl_two {S t a b : List Nat} (hS : S ≠ []) (h : spl S 0 [] t = [a, b]) : t = a ++ (S ++ b) := by
  have := spl_back hS t.length t [] (Nat.le_refl _)
  rw [h, List.nil_append] at this
  exact this.symm
theorem joinL_len {S : List Nat} : ∀ {l : List (List Nat)} {x : List Nat}, x ∈ l → x.length ≤ (joinL S l).length
  | [p], x, h => by
    rw [List.mem_singleton] at h
    subst h
    exact Nat.le_refl _
  | p :: q :: r, x, h => by
    show _ ≤ (p ++ (S ++ joinL S (q :: r))).length
    rw [List.length_append, List.length_append]
    rcases List.mem_cons.mp h with rfl | h
    · omega
    · have := joinL_len (S := S) h
      omega
theorem spl_parts {S t x : List Nat} (hS : S ≠ []) (h : x ∈ spl S 0 [] t) : x.length ≤ t.length := by
  have := spl_back hS t.length t [] (Nat.le_refl _)
  rw [List.nil_append] at this
  have l := joinL_len (S := S) h
  rw [this] at l
  exact l
theorem spl_count {S : List Nat} (hS : S ≠ []) : ∀ (n : Nat) (l acc : List Nat), l.length ≤ n → (spl S 0 acc l).length ≤ l.length + 1
  | 0, l, acc, h => by
    have : l = [] := List.length_eq_zero_iff.mp (by omega)
    subst this
    rw [spl_nil]
    exact Nat.le_refl _
  | n + 1, [], acc, _ => by
    rw [spl_nil]
    exact Nat.le_refl _
  | n + 1, c :: r, acc, h => by
    rw [List.length_cons] at h
    cases hp : pre S (c :: r) with
    | false =>
      rw [spl_miss hp, List.length_cons]
      have := spl_count hS n r (acc ++ [c]) (by omega)
      omega
    | true =>
      rw [spl_hit hp, spl_pass, List.length_cons, List.length_cons]
      have := spl_count hS n (r.drop (S.length - 1)) [] (by rw [List.length_drop]; omega)
      rw [List.length_drop] at this
      omega
def rgL (lo hi : Int) : List Nat := intL lo ++ ([46, 46] ++ intL hi)
def axL (lo hi st : Int) : List Nat := rgL lo hi ++ ([32, 98, 121, 32] ++ intL st)
def two (S t : List Nat) : Option (List Nat × List Nat) := match spl S 0 [] t with
  | [a, b] => some (a, b)
  | _ => none
theorem two_some {S t : List Nat} {a b : List Nat} (h : two S t = some (a, b)) : spl S 0 [] t = [a, b] := by
  unfold two at h
  split at h
  · rename_i a' b' e
    cases h
    exact e
  · cases h
theorem two_none {S t : List Nat} (h : two S t = none) : (spl S 0 [] t).length ≠ 2 := by
  unfold two at h
  intro l
  match e : spl S 0 [] t, l with
  | [a, b], _ =>
    rw [e] at h
    cases h
/-- what parsed answers -/
def rgP (t : List Nat) : Option (Int × Int) := match two [46, 46] t with
  | some (a, b) => match numP a, numP b with
    | some x, some y => if -1000000 ≤ x ∧ x ≤ y ∧ y ≤ 1000000 then some (x, y) else none
    | _, _ => none
  | none => none
def axP (t : List Nat) : Option ((Int × Int) × Int) := match two [32, 98, 121, 32] t with
  | some (a, b) => match rgP a, numP b with
    | some s, some n => if n ∈ steps then some (s, n) else none
    | _, _ => none
  | none => none
theorem two_dots (a b : Int) : two [46, 46] (rgL a b) = some (intL a, intL b) := by
  unfold two rgL
  rw [spl_part1 (intL_free (by omega)), spl_last1 (intL_free (by omega))]
  rfl
theorem rgL_free (a b : Int) : 32 ∉ rgL a b := by
  unfold rgL
  intro h
  rcases List.mem_append.mp h with h | h
  · exact intL_free (by omega) h
  · rcases List.mem_append.mp h with h | h
    · simp at h
    · exact intL_free (by omega) h
theorem two_by (a b s : Int) : two [32, 98, 121, 32] (axL a b s) = some (rgL a b, intL s) := by
  unfold two axL
  rw [spl_part1 (rgL_free _ _), spl_last1 (intL_free (by omega))]
  rfl
theorem rg_int {a b : Int} (h : -1000000 ≤ a ∧ a ≤ b ∧ b ≤ 1000000) : rgP (rgL a b) = some (a, b) := by
  unfold rgP
  rw [two_dots]
  simp only [num_int (show a.natAbs < 10000000 by omega), num_int (show b.natAbs < 10000000 by omega), if_pos h]
theorem rg_ok {t : List Nat} {a b : Int} (h : rgP t = some (a, b)) : (-1000000 ≤ a ∧ a ≤ b ∧ b ≤ 1000000) ∧ t = rgL a b := by
  unfold rgP at h
  split at h
  · rename_i x y e
    split at h
    · rename_i n m en em
      obtain ⟨c, h⟩ := if_some h
      cases h
      have := spl_two (by simp) (two_some e)
      refine ⟨c, ?_⟩
      rw [this, (num_ok en).1, (num_ok em).1]
      rfl
    · cases h
  · cases h
theorem step_b {n : Int} (h : n ∈ steps) : 1 ≤ n ∧ n ≤ 500000 := by
  revert n
  decide
theorem ax_int {a b s : Int} (h : -1000000 ≤ a ∧ a ≤ b ∧ b ≤ 1000000) (hs : s ∈ steps) : axP (axL a b s) = some ((a, b), s) := by
  have b' := step_b hs
  unfold axP
  rw [two_by]
  simp only [rg_int h, num_int (show s.natAbs < 10000000 by omega), if_pos hs]
theorem ax_ok {t : List Nat} {a b s : Int} (h : axP t = some ((a, b), s)) : (-1000000 ≤ a ∧ a ≤ b ∧ b ≤ 1000000) ∧ s ∈ steps ∧ t = axL a b s := by
  unfold axP at h
  split at h
  · rename_i x y e
    split at h
    · rename_i n m en em
      obtain ⟨c, h⟩ := if_some h
      cases h
      have := spl_two (by simp) (two_some e)
      obtain ⟨r1, r2⟩ := rg_ok en
      refine ⟨r1, c, ?_⟩
      rw [this, r2, (num_ok em).1]
      rfl
    · cases h
  · cases h
theorem rgL_len {a b : Int} (h : -1000000 ≤ a ∧ a ≤ b ∧ b ≤ 1000000) : (rgL a b).length ≤ 18 := by
  have x := intL_len (n := a) (by omega)
  have y := intL_len (n := b) (by omega)
  unfold rgL
  simp only [List.length_append, List.length_cons, List.length_nil]
  omega
theorem axL_len {a b s : Int} (h : -1000000 ≤ a ∧ a ≤ b ∧ b ≤ 1000000) (hs : s ∈ steps) : (axL a b s).length ≤ 30 := by
  have b' := step_b hs
  have x := rgL_len h
  have y := intL_len (n := s) (by omega)
  unfold axL
  simp only [List.length_append, List.length_cons, List.length_nil]
  omega
theorem low_rg (a b : Int) : Low (rgL a b) := Low.app (low_int _) (Low.app (by intro c hc; simp at hc; omega) (low_int _))
theorem low_ax (a b s : Int) : Low (axL a b s) := Low.app (low_rg _ _) (Low.app (by intro c hc; simp at hc; omega) (low_int _))
/-- what parse_range and parse_axis answer of a value -/
def rgV : V → Option (Int × Int)
  | .str t => rgP (tl t)
  | _ => none
def axV : V → Option ((Int × Int) × Int)
  | .str t => axP (tl t)
  | _ => none
end Ax
/-! ### f-strings -/
namespace Ax
open PySem L2 TL
section
variable {H : Hp} {Q : VK} {σ : L2.St} {te : TE} {ts : List TE} {a b : List Nat} {QS : Str → Hp → Prop}
def FmtG (Q : VK) (x : V) (H1 : Hp) : Prop := (∃ y : Str, x = .str y ∧ y.length ≤ sizeLine ∧ Q (.str y) H1) ∨ ∃ i : Int, x = .int i ∧ i.natAbs.log2 < 1920 ∧ Q (.str (toString i)) H1
theorem r_fmt (h : te σ H fun x H1 => FmtG Q x H1) : tFmt te σ H Q := h
theorem r_fmtI {i : Int} (b : -1000000000000 ≤ i ∧ i ≤ 1000000000000) (h : Q (.str (mkS (intL i))) H) : FmtG Q (.int i) H := .inr ⟨i, rfl, log_ok (by omega), by
  have e : (toString i : Str) = mkS (intL i) := int_mkS i
  rw [e]; exact h⟩
def JsG (ts : List TE) (a : List Nat) (σ : L2.St) (QS : Str → Hp → Prop) (x : V) (H1 : Hp) : Prop := ∃ y : Str, x = .str y ∧ (mkS a ++ y).length ≤ sizeLine ∧ tJs ts (mkS a ++ y) σ H1 QS
theorem r_js0 (h : tJs ts (mkS []) σ H QS) : tJs ts Str.empty σ H QS := h
theorem r_js (h : te σ H fun x H1 => JsG ts a σ QS x H1) : tJs (te :: ts) (mkS a) σ H QS := h
theorem r_jsM (z : a.length + b.length ≤ 1000000) (h : tJs ts (mkS (a ++ b)) σ H QS) : JsG ts a σ QS (.str (mkS b)) H := ⟨_, rfl, by rw [mkS_app, mkS_len, List.length_append]; exact sz_ok z, by rw [mkS_app]; exact h⟩
theorem r_jsN (h : QS (mkS a) H) : tJs [] (mkS a) σ H QS := h
end
end Ax
namespace Ax
open PySem L2 TL PySem.NumText
theorem tailM_neg {l : List Nat} (h : l.take 1 = [45]) : l = 45 :: tailM l := by
  unfold tailM
  rw [if_pos h]
  cases l with
  | nil => cases h
  | cons c r =>
    have : c = 45 := by simpa using h
    subst this
    rfl
theorem tailM_pos {l : List Nat} (h : ¬ l.take 1 = [45]) : tailM l = l := by
  unfold tailM
  rw [if_neg h]
theorem r_intW {l : List Nat} {v : Int} {H : Hp} {Q : VK} (hd : AllDigits (tailM l)) (h1 : 1 ≤ (tailM l).length) (h2 : (tailM l).length ≤ 7) (hv : (if l.take 1 = [45] then -((digitsVal (tailM l) : Nat) : Int) else ((digitsVal (tailM l) : Nat) : Int)) = v) (q : Q (.int v) H) : rIntS [.str (mkS l)] H Q := by
  have ne : tailM l ≠ [] := fun z => by
    rw [z] at h1
    exact absurd h1 (by decide)
  subst hv
  by_cases c : l.take 1 = [45]
  · rw [if_pos c] at q
    have := r_intMN hd ne (by omega) q
    rw [← tailM_neg c] at this
    exact this
  · rw [if_neg c] at q
    have := r_intM hd ne (by omega) q
    rw [tailM_pos c] at this q
    exact this
theorem rgL_eq (lo hi : Int) : [] ++ intL lo ++ [46, 46] ++ intL hi = rgL lo hi := by
  unfold rgL
  rw [List.nil_append, List.append_assoc]
theorem axL_eq (lo hi st : Int) : [] ++ intL lo ++ [46, 46] ++ intL hi ++ [32, 98, 121, 32] ++ intL st = axL lo hi st := by
  unfold axL
  rw [rgL_eq, List.append_assoc]
end Ax
namespace Ax
open PySem L2 TL PySem.NumText
theorem rgP_none {l : List Nat} (h : two [46, 46] l = none) : rgP l = none := by
  unfold rgP
  rw [h]
theorem rgP_na {l a b : List Nat} (h : two [46, 46] l = some (a, b)) (e : numP a = none) : rgP l = none := by
  unfold rgP
  rw [h]
  simp only [e]
theorem rgP_nb {l a b : List Nat} (h : two [46, 46] l = some (a, b)) (e : numP b = none) : rgP l = none := by
  unfold rgP
  rw [h]
  simp only [e]
  cases numP a <;> rfl
theorem rgP_some {l a b : List Nat} {x y : Int} (h : two [46, 46] l = some (a, b)) (e : numP a = some x) (f : numP b = some y) : rgP l = if -1000000 ≤ x ∧ x ≤ y ∧ y ≤ 1000000 then some (x, y) else none := by
  unfold rgP
  rw [h]
  simp only [e, f]
theorem axP_none {l : List Nat} (h : two [32, 98, 121, 32] l = none) : axP l = none := by
  unfold axP
  rw [h]
theorem axP_na {l a b : List Nat} (h : two [32, 98, 121, 32] l = some (a, b)) (e : rgP a = none) : axP l = none := by
  unfold axP
  rw [h]
  simp only [e]
theorem axP_nb {l a b : List Nat} (h : two [32, 98, 121, 32] l = some (a, b)) (e : numP b = none) : axP l = none := by
  unfold axP
  rw [h]
  simp only [e]
  cases rgP a <;> rfl
theorem axP_some {l a b : List Nat} {x : Int × Int} {y : Int} (h : two [32, 98, 121, 32] l = some (a, b)) (e : rgP a = some x) (f : numP b = some y) : axP l = if y ∈ steps then some (x, y) else none := by
  unfold axP
  rw [h]
  simp only [e, f]
theorem two_len {S l a b : List Nat} (hS : S ≠ []) (h : two S l = some (a, b)) (z : l.length ≤ 1000) : a.length ≤ 1000 ∧ b.length ≤ 1000 := by
  have e := two_some h
  have x := spl_parts (S := S) (t := l) (x := a) hS (by rw [e]; simp)
  have y := spl_parts (S := S) (t := l) (x := b) hS (by rw [e]; simp)
  omega
end Ax
namespace Ax
open PySem L2
theorem NotRg.ints {K : PySem.W.Frag} {H : Hp} {a : Addr} {x y : Int} (h : SqT K H a [.int x, .int y]) (n : ¬ Rg x y) : NotRg K H (.ref a) := by
  unfold Rg at n
  by_cases c : -1000000 ≤ x ∧ x ≤ 1000000
  · exact .high h (by omega)
  · exact .low h c
end Ax
namespace Ax
open PySem L2
theorem Same.bk {H H1 : Hp} {p : Addr} (s : Same H H1) (n : H1 p = none) : H p = none := by
  cases e : H p with
  | none => rfl
  | some u =>
    rw [s _ _ e] at n
    cases n
end Ax
/-! ### rows of labels, read back -/
namespace Ax
open PySem L2 TL PySem.NumText
section
variable {K : PySem.W.Frag} {H H1 : Hp} {σ : L2.St} {Q : VK} {te : TE} {a : Addr}
/-- [f(v) for v in xs], where f may raise: what is known of each v behind it -/
theorem lc_valsP {xs : List V} {ix : Nat} {f : V → V} (P : V → Prop) (hz : xs.length ≤ 1000000) (hs : SqL K H1 a xs)
    (he : ∀ v H2 (Q' : VK), v ∈ xs → Same H1 H2 → (P v → ∀ H3, Same H2 H3 → Q' (f v) H3) → te ((wipe σ [ix]).set ix (some v)) H2 Q')
    (hd : (∀ v, v ∈ xs → P v) → ∀ D H', Same H1 H' → H1 D = none → H' D = some (.lst (xs.map f)) → Q (.ref D) H') : LcG (Itl K a) (gName ix) tYes te [ix] σ H1 Q := by
  have mem : ∀ i, i < xs.length → xs.getD i .non ∈ xs := fun i hi => by
    rw [List.getD_eq_getElem?_getD, List.getElem?_eq_getElem hi]
    exact List.getElem_mem hi
  intro D nD
  refine lc_it walk_listY (fun i H' => Same H1 H' ∧ H' D = some (.lst ((List.range i).map fun j => f (xs.getD j .non))) ∧ ∀ j, j < i → P (xs.getD j .non)) ⟨same_new nD, upd_same, fun j h => absurd h (Nat.not_lt_zero _)⟩ (fun i H' _ q => Same.seq q.1 hs) ?_ (fun H' q => hd (fun v hv => ?_) D H' q.1 nD ?_)
  · rintro i x H2 H2' hi ⟨sm, hD, hP⟩ ⟨rfl, rfl⟩
    refine ⟨wipe_one σ ix _, ?_⟩
    refine r_yes (r_t (he _ H2' _ (mem i hi) sm fun p H4 s4 => ?_))
    refine ⟨_, s4 _ _ hD, ?_, fun b u e => ?_, ?_, fun j hj => ?_⟩
    · rw [List.length_map, List.length_range, sizeLine_eq]
      omega
    · rw [upd_ne (ne_of_none e nD)]
      exact s4 _ _ (sm _ _ e)
    · rw [upd_same, List.range_succ, List.map_append]
      rfl
    · by_cases c : j = i
      · rw [c]
        exact p
      · exact hP j (by omega)
  · obtain ⟨j, hj, e⟩ := List.mem_iff_getElem.mp hv
    have z := q.2.2 j hj
    rw [List.getD_eq_getElem?_getD, List.getElem?_eq_getElem hj] at z
    rw [← e]
    exact z
  · rw [q.2.1]
    congr 2
    refine List.ext_getElem (by simp) fun i h1 h2 => ?_
    simp only [List.getElem_map, List.getElem_range]
    rw [List.getD_eq_getElem?_getD, List.getElem?_eq_getElem (by simpa using h1)]
    rfl
end
def fv (v : V) : Int := ((parseV v).getD (0, 0)).1
def strV (l : List Nat) : V := .str (mkS l)
def strD (l : List Nat) : PyData := .str (mkS l)
theorem labsV_L (ns : List Int) : labsV ns = (labsL ns).map strV := by
  unfold labsV labsL
  rw [List.map_map]
  rfl
theorem fv_labs {ns : List Int} (r : Row ns) : (labsV ns).map fv = ns := by
  unfold labsV
  rw [List.map_map]
  have : ∀ x ∈ ns, (fv ∘ fun v => V.str (lab v (dOf ns))) x = id x := fun x hx => by
    show ((parseV (.str (lab x (dOf ns)))).getD (0, 0)).1 = x
    have e : parseV (.str (lab x (dOf ns))) = some (x, dOf ns) := by
      show parseL (tl (mkS (labL x (dOf ns)))) = _
      rw [tl_mkS]
      exact parse_iff.mpr ⟨row_lab r hx, rfl⟩
    rw [e]
    rfl
  rw [List.map_congr_left this, List.map_id]
theorem parse_labs {ns : List Int} (r : Row ns) {v : V} (h : v ∈ labsV ns) : ∃ q, parseV v = some q := by
  obtain ⟨x, hx, rfl⟩ := List.mem_map.mp h
  refine ⟨(x, dOf ns), ?_⟩
  show parseL (tl (mkS (labL x (dOf ns)))) = _
  rw [tl_mkS]
  exact parse_iff.mpr ⟨row_lab r hx, rfl⟩
theorem fv_b {v : V} {q : Int × Nat} (h : parseV v = some q) : -1000000 ≤ fv v ∧ fv v ≤ 1000000 := by
  cases v with
  | str t =>
    have h' : parseL (tl t) = some (q.1, q.2) := h
    have b := (parse_ok h').1.2.2
    unfold fv
    rw [h]
    show -1000000 ≤ q.1 ∧ q.1 ≤ 1000000
    omega
  | _ => cases h
theorem strs_of : ∀ {xs : List V}, (∀ v, v ∈ xs → ∃ q, parseV v = some q) → ∃ ts : List (List Nat), xs = ts.map strV ∧ ∀ l ∈ ts, Low l
  | [], _ => ⟨[], rfl, fun _ h => absurd h List.not_mem_nil⟩
  | v :: r, h => by
    obtain ⟨ts, e, lw⟩ := strs_of fun w hw => h w (List.mem_cons_of_mem _ hw)
    obtain ⟨q, hq⟩ := h v List.mem_cons_self
    cases v with
    | str t =>
      have h' : parseL (tl t) = some (q.1, q.2) := hq
      refine ⟨tl t :: ts, ?_, fun l hl => ?_⟩
      · rw [List.map_cons, ← e]
        show V.str t :: r = V.str (mkS (tl t)) :: r
        rw [mkS_tl]
      · rcases List.mem_cons.mp hl with rfl | hl
        · rw [(parse_ok h').2]
          exact low_lab _ _
        · exact lw l hl
    | _ => cases hq
theorem dpa_strs {K : PySem.W.Frag} {H : Hp} : ∀ ts : List (List Nat), DpAll K H (ts.map strV) (ts.map strD)
  | [] => .nil
  | t :: r => .cons (.str (mkS t)) (dpa_strs r)
theorem shp_strs {ts : List (List Nat)} (h : ∀ l ∈ ts, Low l) : SeqAt.shaped (.list (ts.map strD)) = true := shp_of (n := 2) (sd_list fun d hd => by
  obtain ⟨l, hl, rfl⟩ := List.mem_map.mp hd
  exact sd_str (h l hl)) (by decide)
theorem low_labs (ns : List Int) : ∀ l ∈ labsL ns, Low l := fun l hl => by
  obtain ⟨x, _, rfl⟩ := List.mem_map.mp hl
  exact low_lab _ _
theorem eqv_strs : ∀ xs ys : List (List Nat), PyData.eqvAll (xs.map strD) (ys.map strD) = decide (xs = ys)
  | [], [] => by simp [PyData.eqvAll]
  | [], _ :: _ => by simp [PyData.eqvAll]
  | _ :: _, [] => by simp [PyData.eqvAll]
  | x :: xs, y :: ys => by
    rw [List.map_cons, List.map_cons, PyData.eqvAll, eqv_strs xs ys]
    show ((mkS x == mkS y) && decide (xs = ys)) = decide (x :: xs = y :: ys)
    rw [Bool.beq_eq_decide_eq, mkS_dec, Bool.eq_iff_iff]
    simp
theorem eqv_listS (xs ys : List (List Nat)) : PyData.eqv (.list (xs.map strD)) (.list (ys.map strD)) = decide (xs = ys) := by
  rw [PyData.eqv]
  exact eqv_strs xs ys
theorem strV_inj {a b : List (List Nat)} (h : a.map strV = b.map strV) : a = b := by
  refine (List.map_inj_right (f := strV) fun x y e => ?_).mp h
  unfold strV at e
  injection e with e
  exact mkS_iff.mp e
/-- no list -/
inductive NotLst (K : PySem.W.Frag) (H : Hp) : V → Prop
  | non : NotLst K H .non
  | bl (b : Bool) : NotLst K H (.bl b)
  | int (i : Int) : NotLst K H (.int i)
  | str (x : Str) : NotLst K H (.str x)
  | tup {a : Addr} {xs : List V} (h : SqT K H a xs) : NotLst K H (.ref a)
theorem NotLst.same {K : PySem.W.Frag} {H H' : Hp} {v : V} (s : Same H H') (h : NotLst K H v) : NotLst K H' v := by
  cases h with
  | non => exact .non
  | bl b => exact .bl b
  | int i => exact .int i
  | str x => exact .str x
  | tup h => exact .tup (Same.seqT s h)
end Ax
namespace Ax
open PySem L2
/-- a cell that was not there before may be written over -/
theorem Same.over {H H1 : Hp} {p : Addr} {o : HO} (s : Same H H1) (n : H p = none) : Same H (upd H1 p o) := fun b u e => by
  rw [upd_ne (ne_of_none e n)]
  exact s b u e
end Ax
namespace Ax
open PySem L2
theorem cutV_to (xs : List V) {i : Int} (h : 0 ≤ i) : cutV xs none (some i) = xs.take i.toNat := by
  have e : HT.sIx xs.length xs.length (some i) = min i.toNat xs.length := by
    unfold HT.sIx
    simp only [if_neg (show ¬ i < 0 by omega)]
  unfold cutV
  rw [e]
  show (xs.drop 0).take (_ - 0) = _
  rw [List.drop_zero, Nat.sub_zero]
  by_cases c : i.toNat ≤ xs.length
  · rw [Nat.min_eq_left c]
  · rw [Nat.min_eq_right (by omega), List.take_of_length_le (Nat.le_refl _), List.take_of_length_le (by omega)]
end Ax
/-! ### len(set(..)) of a list of texts, no two alike -/
namespace Ax
open PySem PySem.Spec PyProof.Rows L2
section
variable {P : Program} {w : World} {A : Around} {E : Value → Shared → Prop} {xs : List Str} {S : Addr}
/-- so many of the texts are in -/
def TxIn (P : Program) (w : World) (xs : List Str) (S : Addr) (i : Nat) (h : Heap) : Prop := h.SetOf (PySem.strKind P w) S (fun t => (xs.take i).any (· == t)) i
theorem TxIn.keep {i : Nat} {h h2 : Heap} (T : TxIn P w xs S i h) (k : ∀ o, h.get? S = some o → h2.get? S = some o) : TxIn P w xs S i h2 := by
  obtain ⟨ob, es, ep, tab, at_, more⟩ := T
  exact ⟨ob, es, ep, tab, k _ at_, more⟩
theorem not_yet {i : Nat} (nd : xs.Nodup) (hi : i < xs.length) : ((xs.take i).any (· == xs.getD i Str.empty)) = false := by
  have g : xs.getD i Str.empty = xs[i] := by rw [List.getD_eq_getElem?_getD, List.getElem?_eq_getElem hi]; rfl
  rw [g]
  cases c : (xs.take i).any (· == xs[i]) with
  | false => rfl
  | true =>
    obtain ⟨y, hy, ey⟩ := List.any_eq_true.mp c
    have ey : y = xs[i] := eq_of_beq ey
    subst ey
    obtain ⟨j, hj, ej⟩ := List.mem_iff_getElem.mp hy
    rw [List.length_take] at hj
    rw [List.getElem_take] at ej
    exact absurd ej (List.pairwise_iff_getElem.mp nd j i (by omega) hi (by omega))
theorem TxIn.next {i : Nat} {h : Heap} (nd : xs.Nodup) (hi : i < xs.length) (T : h.SetOf (PySem.strKind P w) S (fun t => ((xs.take i).any (· == t)) || decide (t = xs.getD i Str.empty)) (if ((xs.take i).any (· == xs.getD i Str.empty)) = true then i else i + 1)) : TxIn P w xs S (i + 1) h := by
  rw [not_yet nd hi] at T
  refine SetOf_congr T (fun t => ?_) rfl
  have g : xs.getD i Str.empty = xs[i] := by rw [List.getD_eq_getElem?_getD, List.getElem?_eq_getElem hi]; rfl
  rw [List.take_add_one, List.getElem?_eq_getElem hi, List.any_append, g]
  congr 1
  show decide (t = xs[i]) = ([xs[i]].any (· == t))
  rw [List.any_cons, List.any_nil, Bool.or_false, Bool.beq_eq_decide_eq]
  exact decide_eq_decide.mpr ⟨Eq.symm, Eq.symm⟩
theorem texts_in {I : Addr} {fp wr : List Addr} {G : Array GenState → Array GenState → Prop} {Pv : Nat → Value → Prop} {St : Nat → Shared → Prop} {R : Result → Shared → Prop} {n : Nat}
    (W : WalksS P w A.in1 I fp wr G n Pv St) (hn : n = xs.length) (out : S ∉ fp) (nd : xs.Nodup) (few : xs.length + 1 < scanBound) (val : ∀ i v, Pv i v → ∃ t, v = .str (xs.getD i Str.empty) t) :
    ∀ (m i : Nat) (u : Shared), xs.length - i = m → i ≤ xs.length → St i u → TxIn P w xs S i u.heap → (∀ u2, Moved (S :: wr) G u u2 → TxIn P w xs S xs.length u2.heap → R (.ok (.ret .none)) u2) →
      codeAny (model P w) A (.builtin "set.update.loop" ⟨[.ref S, .ref I], []⟩) R u := by
  subst hn
  have own : S ∉ wr := fun z => out (W.sub _ z)
  have more : ∀ b, b ∈ wr → b ∈ S :: wr := fun b z => List.mem_cons_of_mem _ z
  intro m
  induction m with
  | zero =>
    intro i u em le st T fin
    obtain rfl : i = xs.length := by omega
    refine codeAny_builtin F.entry_set_update_loop ?_
    rw [Around.under_plainId F.plain_set_update_loop _]
    show wpAny _ A.in1 (pyNext (.ref I) >>= _) _ _ u
    refine wpAny_bind (W.done u _ _ st fun u2 mv => ?_)
    show wpAny _ A.in1 (ret Value.none) _ _ u2
    exact wpAny_pure (fin u2 (mv.mono more) (T.keep fun o z => mv.heap S o own z))
  | succ m ih =>
    intro i u em le st T fin
    have lt : i < xs.length := by omega
    refine codeAny_builtin F.entry_set_update_loop ?_
    rw [Around.under_plainId F.plain_set_update_loop _]
    show wpAny _ A.in1 (pyNext (.ref I) >>= _) _ _ u
    refine wpAny_bind (W.item i u _ _ lt st fun v u2 pv st2 mv => ?_)
    obtain ⟨tok, rfl⟩ := val i v pv
    have T2 := T.keep (h2 := u2.heap) fun o z => mv.heap S o own z
    show wpAny _ A.in1 (holding [Value.str (xs.getD i Str.empty) tok] (setAdd S (.str (xs.getD i Str.empty) tok)) >>= _) _ _ u2
    refine wpAny_bind (wpAny_holding ?_)
    unfold setAdd
    refine wpAny_holding (wpAny_bind ((PySem.strKind P w).pyHash (k := xs.getD i Str.empty) (strKind_is _ _ _ _) ?_))
    refine wpAny_setAddHashed_of (knd := PySem.strKind P w) (s := { u2 with toks := u2.toks + 1 }) (strKind_is _ _ _ _) rfl T2 (by omega) fun h3 same T3 => ?_
    have off : ∀ b o, b ≠ S → u2.heap.get? b = some o → h3.get? b = some o := fun b o n z => (same.2 b n).trans z
    refine wpAny_pure ⟨plainId_quiet F.plain_set_update_loop _, ih (i + 1) _ (by omega) lt (W.frame _ u2 _ _ st2 (Nat.le_succ _) fun b hb o z => off b o (fun q => out (q ▸ hb)) z) (TxIn.next nd lt T3) fun u4 mv4 T4 => ?_⟩
    refine fin u4 (Moved.trans W.gtrans ((mv.mono more).then_heap (Nat.le_succ _) fun b o hb z => off b o (fun q => hb ?_) z) mv4) T4
    rw [q]
    exact List.mem_cons_self
end
end Ax
namespace Ax
open PySem PySem.Spec PyProof.Rows L2
section
variable {P : Program} {w : World} {A : Around} {E : Value → Shared → Prop} {s : Shared}
theorem txt_at : ∀ {us : List Value} {xs : List Str}, Vals (xs.map V.str) us → ∀ (i : Nat) (v : Value), us[i]? = some v → ∃ t, v = .str (xs.getD i Str.empty) t
  | [], [], _, i, v, h => by simp at h
  | _ :: _, _ :: _, .cons r rest, 0, v, h => by
    obtain ⟨t, rfl⟩ := r
    exact ⟨t, by simpa using h.symm⟩
  | _ :: _, _ :: _, .cons _ rest, i + 1, v, h => by
    obtain ⟨t, e⟩ := txt_at rest i v (by simpa using h)
    exact ⟨t, by rw [e]; rfl⟩
theorem set_of_texts {l : Addr} {items : Array Value} (xs : List Str) {Q : Value → Shared → Prop} (calm : A.handled = none) (isl : s.heap.IsList l items) (vals : Vals (xs.map V.str) items.toList) (nd : xs.Nodup) (few : xs.length + 1 < scanBound)
    (q : ∀ (h' : Heap) (tk : Nat), TxIn P w xs s.heap.objs.size xs.length h' → (∀ b o, s.heap.get? b = some o → h'.get? b = some o) → Q (.ref s.heap.objs.size) { s with heap := h', toks := tk }) :
    wpAny (model P w) A (call (.type "set") [.ref l]) Q E s := by
  have size : items.size = xs.length := by
    have e := vals.length
    rw [List.length_map, Array.length_toList] at e
    exact e.symm
  have hS : (s.heap.push (set0 w)).get? s.heap.objs.size = some (set0 w) := Heap.get?_push_size _ rfl
  have hT : Shared.TypeIs { s with heap := s.heap.push (set0 w) } (.ref s.heap.objs.size) "set" := ⟨_, hS, rfl⟩
  have lt : l < s.heap.objs.size := by
    obtain ⟨o, ho, _⟩ := isl
    exact Heap.lt_size ho
  refine call_cls (N := fun obj s1 => obj = .ref s.heap.objs.size ∧ s1 = { s with heap := s.heap.push (set0 w) }) F.called_set (F.typeCall_set_1 _) F.entry_set_init (code_set_led1 (.ref l) ⟨rfl, rfl⟩) fun obj s1 hq => ?_
  obtain ⟨rfl, rfl⟩ := hq
  refine ⟨hT, fun _ _ _ k => check_set_init_1 hT k, ?_⟩
  have isl1 : (s.heap.push (set0 w)).IsList l items := isl.push _
  have sz1 : (s.heap.push (set0 w)).objs.size = s.heap.objs.size + 1 := Heap.size_push ..
  have neI : l ≠ (s.heap.push (set0 w)).objs.size := Nat.ne_of_lt (by rw [sz1]; exact Nat.lt_succ_of_lt lt)
  obtain ⟨ol, hol, hcl, nl, hdl⟩ := isl
  obtain ⟨ocls, odict, odata, oslots⟩ := ol
  simp only at hcl hdl
  subst hcl
  subst hdl
  have hol' : (s.heap.push (set0 w)).get? l = some { cls := .type "list", dict := odict, data := .seq items nl, slots := oslots } := Heap.get?_push_of_some _ hol
  have h1 := F.sub_list_set
  have h2 := F.sub_list_frozenset
  have h3 : (Value.type "list" == Value.type "dict") = false := by decide
  unfold Builtin.«set.__init__» noKeywords Builtin.Frozenset.updateFrom
  generalize hPI : pyIter = PI
  wp_walk
  subst hPI
  refine wpAny_pyIter_list isl1 ?_
  refine wpAny_bind (wpAny_runValue ?_)
  have calm3 : A.in1.in1.in1.handled = none := by simp [calm]
  have fresh : s.heap.objs.size ∉ [(s.heap.push (set0 w)).objs.size, l] := by
    rw [sz1, List.mem_cons, List.mem_singleton]
    rintro (z | z)
    · exact absurd z (Nat.ne_of_lt (Nat.lt_succ_self _))
    · exact absurd z.symm (Nat.ne_of_lt lt)
  have val : ∀ (i : Nat) (v : Value), items[i]? = some v → ∃ t, v = .str (xs.getD i Str.empty) t := fun i v hv => txt_at vals i v (by rw [Array.getElem?_toList]; exact hv)
  have got : (((s.heap.push (set0 w)).push { cls := .type "list_iterator", data := .fields #[.ref l, .int 0 0] }).get? s.heap.objs.size) = some (set0 w) := Heap.get?_push_of_some _ hS
  refine texts_in ((Walks.list calm3 _ l neI items).toS) size fresh nd few val (xs.length - 0) 0 _ rfl (Nat.zero_le _) ⟨⟨_, Heap.get?_push_size _ rfl, rfl, rfl⟩, isl1.push _⟩ (SetOf_congr ((setObjOf_fresh (knd := PySem.strKind P w) (!w.params.followText "set-order")).setOf got (by unfold scanBound; omega)) (fun _ => rfl) rfl) fun s2 mv set2 => ?_
  obtain ⟨h2', g2, d2, tk2, os2⟩ := s2
  have eg : g2 = s.gens := mv.gens
  have ed : d2 = s.drawn := mv.drawn
  have eo : os2 = s.os := mv.os
  subst eg
  subst ed
  subst eo
  show wpAny _ _ _ _ _ _
  refine wpAny_pure ?_
  show wpAny _ _ (ret Value.none) _ _ _
  refine wpAny_pure ⟨rfl, q h2' tk2 set2 fun b o e => ?_⟩
  have b0 : b < s.heap.objs.size := Heap.lt_size e
  refine mv.heap b o ?_ (Heap.get?_push_of_some _ (Heap.get?_push_of_some _ e))
  rw [List.mem_cons, List.mem_singleton, sz1]
  rintro (z | z)
  · exact absurd z (Nat.ne_of_lt b0)
  · exact absurd z (Nat.ne_of_lt (Nat.lt_succ_of_lt b0))
end
/-- len(set(xs)), xs a list of texts, no two alike -/
def LsG (K : PySem.W.Frag) (Q : VK) (x : V) (H1 : Hp) : Prop := ∃ (l : Addr) (xs : List Str), x = .ref l ∧ SqL K H1 l (xs.map V.str) ∧ xs.Nodup ∧ xs.length ≤ 1000 ∧ Q (.int (xs.length : Nat)) H1
def tLenTxt (K : PySem.W.Frag) (ta : TE) : TE := fun σ H Q => ta σ H fun x H1 => LsG K Q x H1
theorem r_lenTxt {K : PySem.W.Frag} {ta : TE} {σ : L2.St} {H : Hp} {Q : VK} (h : ta σ H fun x H1 => LsG K Q x H1) : tLenTxt K ta σ H Q := h
theorem pe_lenTxt {X : Cx} {e : Expr} {te : TE} {p p2 q pos : Pos} (hg : Gl X "len") (hm : X.mg "len" = none) (hg2 : Gl X "set") (hm2 : X.mg "set" = none) (he : PE X e te) (hc : X.calm = true := by rfl)
    (na : starEach [e] X.env = (false, eval e X.env) :: starEach [] X.env := by rfl) : PE X (.Call (.Name "len" p) [.Call (.Name "set" p2) [e] [] q] [] pos) (tLenTxt X.K te) := by
  refine ⟨fun pins s σ H Q I h => Call_ (ld_blt I hg hm boot_len (callWith_builtin1 (args_cons ?_ rfl) rfl rfl))⟩
  refine Call_ (ld_blt I hg2 hm2 boot_set (callWith_type1 (args_cons (thn (he.run pins s σ H _ I h) fun v s1 got => args_nil ?_) na) na rfl))
  obtain ⟨x, H1, I1, r1, l, xs, rfl, hs, nd, hl, k⟩ := got
  cases r1
  obtain ⟨its, rv, pl, hz⟩ := I1.list hs
  refine set_of_texts xs (I1.ok.hd hc) pl.isList (by simpa using rv) nd (by unfold scanBound; omega) fun h' tk T keep => args_nil ?_
  obtain ⟨o, es, ep, tab, at_, ex, dat, _, _, _, fit, num⟩ := T
  exact call_len_set at_ ex dat fit (by rw [num] <;> omega) ⟨.int xs.length, H1, (I1.kept (t' := tk) keep).tok _, ⟨_, by rw [num]⟩, k⟩
end Ax
namespace Ax
open PySem L2 TL
theorem cut_mid (l : List Nat) {i j : Int} (hi : 0 ≤ i) (hj : i ≤ j) : cutS (mkS l) (some i) (some j) = mkS ((l.drop i.toNat).take (j - i).toNat) := by
  refine mkS_of ?_
  show (((mkS l).cps.toList.drop (HT.sIx (mkS l).length 0 (some i))).take (HT.sIx (mkS l).length (mkS l).length (some j) - HT.sIx (mkS l).length 0 (some i))) = _
  have e1 : HT.sIx (mkS l).length 0 (some i) = min i.toNat l.length := by
    unfold HT.sIx
    simp only [if_neg (show ¬ i < 0 by omega), mkS_len]
  have e2 : HT.sIx (mkS l).length (mkS l).length (some j) = min j.toNat l.length := by
    unfold HT.sIx
    simp only [if_neg (show ¬ j < 0 by omega), mkS_len]
  rw [e1, e2]
  show (l.drop _).take _ = _
  by_cases c : i.toNat ≤ l.length
  · rw [Nat.min_eq_left c]
    by_cases c2 : j.toNat ≤ l.length
    · rw [Nat.min_eq_left c2]
      congr 1
      omega
    · rw [Nat.min_eq_right (by omega), List.take_of_length_le (by rw [List.length_drop]; omega), List.take_of_length_le (by rw [List.length_drop]; omega)]
  · rw [show min i.toNat l.length = l.length by omega, List.drop_of_length_le (Nat.le_refl _), List.drop_of_length_le (show l.length ≤ i.toNat by omega)]
    simp
theorem r_slMid {l : List Nat} {i j : Int} {H : Hp} {Q : VK} (hi : 0 ≤ i) (hj : i ≤ j) (z : l.length ≤ 1000000) (h : Q (.str (mkS ((l.drop i.toNat).take (j - i).toNat))) H) : rSlS (.str (mkS l)) (some i) (some j) H Q :=
  ⟨_, rfl, by rw [mkS_len]; exact sz_ok z, by rw [cut_mid l hi hj]; exact h⟩
theorem numL_1000 {m : Nat} (h : m < 1000) : numL (m + 1000) = 49 :: digs 3 m := by
  rw [numL_step (n := m + 1000) (by omega), numL_step (n := (m + 1000) / 10) (by omega), numL_step (n := (m + 1000) / 10 / 10) (by omega), numL_lt (n := (m + 1000) / 10 / 10 / 10) (by omega)]
  unfold digs
  simp only [List.cons_append, List.nil_append, List.cons.injEq, and_true]
  omega
theorem rest_eq {n d : Nat} (h : d ≤ 3) : ((numL (n % 1000 + 1000)).drop 1).take d = digs d (n / pw10 d) := by
  rw [numL_1000 (Nat.mod_lt _ (by decide))]
  match d, h with
  | 0, _ => rfl
  | 1, _ =>
    show [48 + n % 1000 / 100 % 10] = [48 + n / 100 % 10]
    congr 1
    omega
  | 2, _ =>
    show [48 + n % 1000 / 100 % 10, 48 + n % 1000 / 10 % 10] = [48 + n / 10 / 10 % 10, 48 + n / 10 % 10]
    rw [show 48 + n % 1000 / 100 % 10 = 48 + n / 10 / 10 % 10 by omega, show 48 + n % 1000 / 10 % 10 = 48 + n / 10 % 10 by omega]
  | 3, _ =>
    show [48 + n % 1000 / 100 % 10, 48 + n % 1000 / 10 % 10, 48 + n % 1000 % 10] = [48 + n / 1 / 100 % 10, 48 + n / 1 / 10 % 10, 48 + n / 1 % 10]
    rw [Nat.div_one, show 48 + n % 1000 / 100 % 10 = 48 + n / 100 % 10 by omega, show 48 + n % 1000 / 10 % 10 = 48 + n / 10 % 10 by omega, show 48 + n % 1000 % 10 = 48 + n % 10 by omega]
theorem labs_nodup {ns : List Int} (r : Row ns) : (labsL ns).Nodup := by
  unfold labsL
  refine List.pairwise_map.mpr ?_
  refine (row_asc r).nodup.imp_of_mem ?_
  intro a b ha hb ne e
  exact ne (lab_inj (row_lab r ha) (row_lab r hb) e).1
end Ax
namespace Ax
open PySem L2
/-- a while loop: its measure and invariant W, what holds behind it P -/
theorem r_whileI {c : TT} {tb : TS} {D : Ends} {σ : L2.St} {H : Hp} (W : Nat → L2.St → Hp → Prop) (P : L2.St → Hp → Prop) (m0 : Nat) (h0 : W m0 σ H) (rest : ∀ σ' H', P σ' H' → D.nx σ' H')
    (step : ∀ m σ' H' (Nx : L2.St → Hp → Prop), W m σ' H' → (∀ σ2 H2, P σ2 H2 → Nx σ2 H2) → c σ' H' fun b H1 => if b = true then ∃ N : L2.St → Hp → Prop, (∀ σ2 H2, N σ2 H2 → ∃ m', m' < m ∧ W m' σ2 H2) ∧ tb { D with nx := N, ct := N, bk := Nx } σ' H1 else Nx σ' H1) : tWhile c tb D σ H :=
  ⟨W, ⟨m0, h0⟩, fun m σ' H' w => step m σ' H' D.nx w rest⟩
end Ax
namespace Ax
open PySem L2
section
variable {K : PySem.W.Frag} {H H1 : Hp} {σ : L2.St} {Q : VK} {te : TE} {a : Addr}
/-- [f(v) for v in t], t a tuple of any known things -/
theorem lc_valsT {xs : List V} {ix : Nat} {f : V → V} (hz : xs.length ≤ 1000000) (hs : SqT K H1 a xs)
    (he : ∀ v H2 (Q' : VK), v ∈ xs → Same H1 H2 → (∀ H3, Same H2 H3 → Q' (f v) H3) → te ((wipe σ [ix]).set ix (some v)) H2 Q')
    (hd : ∀ D H', Same H1 H' → H1 D = none → H' D = some (.lst (xs.map f)) → Q (.ref D) H') : LcG (Itt K a) (gName ix) tYes te [ix] σ H1 Q := by
  have mem : ∀ i, i < xs.length → xs.getD i .non ∈ xs := fun i hi => by
    rw [List.getD_eq_getElem?_getD, List.getElem?_eq_getElem hi]
    exact List.getElem_mem hi
  refine lc_core' (n := xs.length) (Y := fun i => xs.getD i .non) (p := fun _ => true) (f := fun i => f (xs.getD i .non)) walk_tupY hz (fun _ s => Same.seqT s hs) (fun _ _ _ _ _ q => q _ (Same.refl _)) (fun i H2 Q' hi _ s q => he _ H2 Q' (mem i hi) s q) fun D H' s n e => hd D H' s n ?_
  rw [filter_yes] at e
  rw [e]
  congr 2
  refine List.ext_getElem (by simp) fun i h1 h2 => ?_
  simp only [List.getElem_map, List.getElem_range]
  rw [List.getD_eq_getElem?_getD, List.getElem?_eq_getElem (by simpa using h1)]
  rfl
end
end Ax
namespace Ax
open PySem L2
theorem wipe_three (σ : L2.St) (ix jx kx : Nat) (v u w : V) (n1 : ix ≠ jx) (n2 : ix ≠ kx) (n3 : jx ≠ kx) : wipe ((((wipe σ [ix, jx, kx]).set ix (some v)).set jx (some u)).set kx (some w)) [ix, jx, kx] = wipe σ [ix, jx, kx] := by
  show ((((((((σ.set kx none).set jx none).set ix none).set ix (some v)).set jx (some u)).set kx (some w)).set kx none).set jx none).set ix none = ((σ.set kx none).set jx none).set ix none
  refine List.ext_getElem? fun k => ?_
  simp only [List.getElem?_set, List.length_set]
  by_cases c1 : kx = k
  · subst c1
    simp [n2, n3]
  · by_cases c2 : jx = k
    · subst c2
      simp [c1, n1]
    · by_cases c3 : ix = k
      · subst c3
        simp [c1, c2]
      · simp [c1, c2, c3]
section
variable {K : PySem.W.Frag} {H H1 : Hp} {σ : L2.St} {Q : VK} {te : TE} {a : Addr}
/-- over a list of triples -/
theorem lc_tripD {xs : List V} {ix jx kx : Nat} {A B C : Nat → V} {f : Nat → PyData} (n1 : ix ≠ jx) (n2 : ix ≠ kx) (n3 : jx ≠ kx) (hz : xs.length ≤ 1000000) (hs : SqL K H1 a xs) (hn : ∀ i, noList (f i) = true) (tr : ∀ i v, xs[i]? = some v → ∃ p, v = .ref p ∧ SqT K H1 p [A i, B i, C i])
    (he : ∀ i H2 (Q' : VK), i < xs.length → Same H1 H2 → (∀ v H3, Same H2 H3 → Dp K H3 v (f i) → Q' v H3) → te ((((wipe σ [ix, jx, kx]).set ix (some (A i))).set jx (some (B i))).set kx (some (C i))) H2 Q')
    (hd : ∀ D H' us, Same H1 H' → H1 D = none → H' D = some (.lst us) → DpAll K H' us ((List.range xs.length).map f) → Q (.ref D) H') : LcG (Itl K a) (gTup K 3 (gCons (gName ix) (gCons (gName jx) (gCons (gName kx) gNil)))) tYes te [ix, jx, kx] σ H1 Q := by
  refine lc_coreG (n := xs.length) (Z := fun i => (((wipe σ [ix, jx, kx]).set ix (some (A i))).set jx (some (B i))).set kx (some (C i))) (p := fun _ => true) (f := f) walk_list hz (fun i _ => hn i) (fun _ s => Same.seq s hs) (fun i H x H' y => by rw [y.1]; exact Same.refl _) (fun i => wipe_three σ ix jx kx _ _ _ n1 n2 n3) ?_
    (fun i H2 Qt hi s q => q _ (Same.refl _)) (fun i H2 Q' hi _ s q => he i H2 Q' hi s q) fun D H' us s n e da => hd D H' us s n e (by rw [filter_yes] at da; exact da)
  rintro i x H2 H3 Q' hi s ⟨rfl, y⟩ q
  obtain ⟨p, rfl, sp⟩ := tr i x y
  exact r_gtup3 (Same.seqT s sp) q
/-- over a tuple of pairs -/
theorem lc_twoD {xs : List V} {ix jx : Nat} {A B : Nat → V} {f : Nat → PyData} (n1 : ix ≠ jx) (hz : xs.length ≤ 1000000) (hs : SqT K H1 a xs) (hn : ∀ i, noList (f i) = true) (tr : ∀ i v, xs[i]? = some v → ∃ p, v = .ref p ∧ SqT K H1 p [A i, B i])
    (he : ∀ i H2 (Q' : VK), i < xs.length → Same H1 H2 → (∀ v H3, Same H2 H3 → Dp K H3 v (f i) → Q' v H3) → te (((wipe σ [ix, jx]).set ix (some (A i))).set jx (some (B i))) H2 Q')
    (hd : ∀ D H' us, Same H1 H' → H1 D = none → H' D = some (.lst us) → DpAll K H' us ((List.range xs.length).map f) → Q (.ref D) H') : LcG (Itt K a) (gTup K 2 (gCons (gName ix) (gCons (gName jx) gNil))) tYes te [ix, jx] σ H1 Q := by
  refine lc_coreG (n := xs.length) (Z := fun i => ((wipe σ [ix, jx]).set ix (some (A i))).set jx (some (B i))) (p := fun _ => true) (f := f) walk_tup hz (fun i _ => hn i) (fun _ s => Same.seqT s hs) (fun i H x H' y => by rw [y.1]; exact Same.refl _) (fun i => wipe_two σ ix jx _ _ n1) ?_
    (fun i H2 Qt hi s q => q _ (Same.refl _)) (fun i H2 Q' hi _ s q => he i H2 Q' hi s q) fun D H' us s n e da => hd D H' us s n e (by rw [filter_yes] at da; exact da)
  rintro i x H2 H3 Q' hi s ⟨rfl, y⟩ q
  obtain ⟨p, rfl, sp⟩ := tr i x y
  exact r_gtup2 (Same.seqT s sp) q
end
end Ax

namespace AxL
open PySem L2 Ax
open TL (tl numL numL_len numL_digits numL_ne numL_free numL_val spl joinL par len_tl ext_tl)
open PySem.NumText (digitsVal AllDigits)
/-! the words of this proof, as local rules of walk_at -/
local macro_rules | `(tactic| walk_at "ax_seq") => `(tactic| first
  | assumption
  | exact SqT.of (by assumption)
  | exact SqL.of (by assumption)
  | exact SqT.of upd_same
  | exact SqL.of upd_same
  | exact upd_same
  | (refine' SqT.updn ?np ?h; (case np => assumption); (case h => walk_at "ax_seq"))
  | (refine' SqL.updn ?np ?h; (case np => assumption); (case h => walk_at "ax_seq"))
  | (refine' at_updn ?np ?h; (case np => assumption); (case h => walk_at "ax_seq"))
  | (refine' Same.seqT ?s ?h; (case s => assumption); (case h => walk_at "ax_seq"))
  | (refine' Same.seq ?s ?h; (case s => assumption); (case h => walk_at "ax_seq"))
  | (refine' same_at ?s ?h; (case s => assumption); (case h => walk_at "ax_seq"))
  | (refine' Kp.seqT ?s ?r ?h; (case s => assumption); (case r => assumption); (case h => walk_at "ax_seq"))
  | (refine' Kp.seqL ?s ?o ?h; (case s => assumption); (case o => assumption); (case h => walk_at "ax_seq"))
  | (refine' Kp.at ?s ?o ?h; (case s => assumption); (case o => assumption); (case h => walk_at "ax_seq")))
local macro_rules | `(tactic| walk_at "ax_get") => `(tactic| first
  | ((with_reducible refine' get_ne ?n ?h); (case n => decide); (case h => walk_at "ax_get"))
  | ((with_reducible refine' get_eq ?l); (case l => walk_at "ax_len"))
  | ((with_reducible refine' get_wipe ?n ?h); (case n => rfl); (case h => walk_at "ax_get"))
  | rfl)
local macro_rules | `(tactic| walk_at "ax_len") => `(tactic| first
  | ((with_reducible refine' len_set ?h); (case h => walk_at "ax_len"))
  | ((with_reducible refine' len_wipe ?h); (case h => walk_at "ax_len"))
  | exact Nat.le_of_ble_eq_true rfl)
local macro_rules | `(tactic| walk_at "ax_dr") => `(tactic| first
  | assumption
  | (refine' Dr.updn ?np ?h; (case np => assumption); (case h => walk_at "ax_dr"))
  | (refine' Dr.same ?s ?h; (case s => assumption); (case h => walk_at "ax_dr")))
local macro_rules | `(tactic| walk_at "ax_dp") => `(tactic| first
  | exact Dp.int _
  | exact Dp.bl _
  | exact Dp.non
  | exact Dp.str _
  | (refine' dp_ints ?s; (case s => walk_at "ax_seq"))
  | (refine' Dp.tup ?s ?a; (case s => walk_at "ax_seq"); (case a => walk_at "ax_dpa"))
  | (refine' Dp.lst ?s ?a; (case s => walk_at "ax_seq"); (case a => walk_at "ax_dpa")))
local macro_rules | `(tactic| walk_at "ax_dpa") => `(tactic| first
  | exact DpAll.nil
  | (refine' DpAll.cons ?x ?y; (case x => walk_at "ax_dp"); (case y => walk_at "ax_dpa"))
  | exact dpa_ints _)
local macro_rules | `(tactic| walk_at "ax_isA") => `(tactic| ((with_reducible refine' r_isA ?ha ?C ?kc ?e ?_); (case kc => first | exact ClsV.own _ | exact ClsV.ty _); (case ha => walk_at "ax_seq"); (case C => assumption); (case e => assumption)))
local macro_rules | `(tactic| walk_at "ax_same") => `(tactic| first
  | assumption
  | exact Same.refl _
  | (refine' Same.updn ?s ?np; (case np => assumption); (case s => walk_at "ax_same"))
  | (refine' Same.trans ?s ?t; (case t => assumption); (case s => walk_at "ax_same")))
local macro_rules | `(tactic| walk_at "ax_side") => `(tactic| first
  | assumption
  | omega
  | (show (0 : Int) < _; omega)
  | exact ⟨by omega, by omega⟩
  | exact Or.inl ⟨by omega, by omega⟩
  | exact Or.inr ⟨by omega, by omega⟩
  | exact ⟨by omega, by omega, by omega⟩)
local macro_rules | `(tactic| walk_at "ax_ix") => `(tactic| ((fail_if_success with_reducible refine at_map ?_); first
  | rfl
  | exact atI_nat rfl))
local macro_rules | `(tactic| walk_at "ax_1") => `(tactic| first
  | with_reducible refine r_seqAsg ?_
  | with_reducible refine r_seqDrop ?_
  | with_reducible refine r_seqIf ?_
  | with_reducible refine r_seqIf2 ?_
  | with_reducible refine r_seq ?_
  | with_reducible refine r_ret ?_
  | with_reducible refine r_op ?_
  | ((with_reducible refine' r_var ?e ?_); (case e => walk_at "ax_get"))
  | with_reducible refine r_c ?_
  | with_reducible refine r_I0 ?_
  | ((with_reducible refine' r_I ?c ?_); (case c => walk_at "ax_side"))
  | with_reducible refine r_un ?_
  | with_reducible refine r_U ?_
  | with_reducible refine r_test ?_
  | with_reducible refine r_tB ?_
  | with_reducible refine r_bk ?_
  | with_reducible refine r_bk' ?_
  | with_reducible refine r_eqI ?_
  | with_reducible refine r_neI ?_
  | with_reducible refine r_eqS ?_
  | with_reducible refine r_eqB ?_
  | with_reducible refine r_neB ?_
  | with_reducible refine r_neS ?_
  | with_reducible refine r_t ?_
  | with_reducible refine r_f ?_
  | with_reducible refine r_nnt ?_
  | with_reducible refine r_nnf ?_
  | with_reducible refine r_cons ?_
  | with_reducible refine r_nil ?_
  | with_reducible refine r_call ?_
  | with_reducible refine r_callS ?_
  | with_reducible refine r_cb ?_
  | with_reducible refine r_not ?_
  | with_reducible refine r_and ?_
  | with_reducible refine r_or ?_
  | with_reducible refine r_andV ?_
  | with_reducible refine r_orV ?_
  | with_reducible refine r_notV ?_
  | with_reducible refine r_ifE ?_
  | with_reducible refine r_ifS ?_
  | with_reducible refine r_chain ?_
  | with_reducible refine r_chain3 ?_
  | with_reducible refine r_revL ?_
  | ((with_reducible refine' r_rev ?s ?_); (case s => walk_at "ax_seq"))
  | with_reducible refine r_tup ?_
  | with_reducible refine r_lst ?_
  | ((with_reducible refine' r_new ?e ?_); (case e => rfl))
  | ((with_reducible refine' r_ixT ?s ?a ?_); (case s => walk_at "ax_seq"); (case a => walk_at "ax_ix"))
  | ((with_reducible refine' r_ixL ?s ?a ?_); (case s => walk_at "ax_seq"); (case a => walk_at "ax_ix"))
  | with_reducible refine r_asg ?_
  | with_reducible refine r_drop ?_
  | with_reducible refine r_gname ?_
  | ((with_reducible refine' r_aug ?e ?_); (case e => walk_at "ax_get"))
  | with_reducible refine r_ipI ?_
  | with_reducible refine r_next ?_
  | ((with_reducible refine' r_lenT2 ?s ?_); (case s => walk_at "ax_seq"))
  | ((with_reducible refine' r_lenT ?s ?_); (case s => walk_at "ax_seq"))
  | ((with_reducible refine' r_lenL ?s ?_); (case s => walk_at "ax_seq"))
  | with_reducible refine r_try ?_
  | ((with_reducible refine' r_keep1 ?m ?e ?_); (case m => assumption); (case e => exact fun _ => rfl))
  | ((with_reducible refine' r_gtup2 ?s ?_); (case s => walk_at "ax_seq"))
  | ((with_reducible refine' r_gtup3 ?s ?_); (case s => walk_at "ax_seq"))
  | ((with_reducible refine' r_gtup4 ?s ?_); (case s => walk_at "ax_seq"))
  | with_reducible refine r_iR3 ?_
  | with_reducible refine r_lstR3 ?_
  | with_reducible refine r_notB ?_
  | with_reducible refine r_isB ?_
  | with_reducible refine r_parS ?_
  | with_reducible refine r_par ?_
  | with_reducible refine r_parS3 ?_
  | with_reducible refine r_par3 ?_
  | ((with_reducible refine' r_inI ?s ?_); (case s => walk_at "ax_seq"))
  | ((with_reducible refine' r_notInI ?s ?_); (case s => walk_at "ax_seq"))
  | ((with_reducible refine' r_eqNil ?s ?n ?_); (case n => exact SqL.of upd_same); (case s => walk_at "ax_seq"))
  | ((with_reducible refine' r_neNil ?s ?n ?_); (case n => exact SqL.of upd_same); (case s => walk_at "ax_seq"))
  | ((with_reducible refine' r_eqInts ?s ?t ?_); (case s => walk_at "ax_seq"); (case t => walk_at "ax_seq"))
  | ((with_reducible refine' r_neInts ?s ?t ?_); (case s => walk_at "ax_seq"); (case t => walk_at "ax_seq"))
  | with_reducible refine r_abs ?_
  | with_reducible refine r_gsub ?_
  | with_reducible refine r_fldX ?_
  | with_reducible refine r_putX ?_
  | with_reducible refine r_seqPut ?_
  | with_reducible refine r_methX ?_
  | with_reducible refine r_methT ?_
  | with_reducible refine r_make ?_
  | with_reducible refine r_seqAsgG ?_
  | with_reducible refine r_bm ?_
  | ((with_reducible refine' r_bmL ?s ?_); (case s => walk_at "ax_seq"))
  | with_reducible refine r_bm0 ?_
  | walk_at "ax_isA"
  | with_reducible refine r_lc ?_
  | with_reducible refine r_for ?_
  | with_reducible refine r_iR1 ?_
  | with_reducible refine r_iR2 ?_
  | with_reducible refine r_iL ?_
  | with_reducible refine r_iT ?_
  | with_reducible refine r_yes ?_
  | with_reducible refine r_sl ?_
  | with_reducible refine r_noPart ?_
  | with_reducible refine r_part ?_
  | with_reducible refine r_partI ?_
  | ((with_reducible refine' r_slL ?s ?_); (case s => walk_at "ax_seq"))
  | ((with_reducible refine' r_isLsL ?s ?_); (case s => walk_at "ax_seq"))
  | with_reducible refine r_iZip ?_
  | ((with_reducible refine' r_zip ?s ?t ?_); (case s => walk_at "ax_seq"); (case t => walk_at "ax_seq"))
  | with_reducible refine r_dget ?_
  | with_reducible refine r_dget2 ?_
  | with_reducible refine r_dnew ?_
  | with_reducible refine r_dput ?_
  | ((with_reducible refine' r_sumL ?s ?_); (case s => walk_at "ax_seq"))
  | ((with_reducible refine' r_cntI ?s ?_); (case s => walk_at "ax_seq"))
  | with_reducible refine r_lstRg1 ?_
  | with_reducible refine r_lstRg2 ?_
  | ((with_reducible refine' r_lrg1 ?b ?_); (case b => exact ⟨by omega, by omega⟩))
  | ((with_reducible refine' r_lrg2 ?b ?_); (case b => exact ⟨by omega, by omega, by omega, by omega⟩))
  | ((with_reducible refine' r_rn1 ?b ?_); (case b => exact ⟨by omega, by omega⟩))
  | ((with_reducible refine' r_rn2 ?b ?_); (case b => exact ⟨by omega, by omega, by omega, by omega⟩))
  | ((with_reducible refine' r_il ?s ?_); (case s => walk_at "ax_seq"))
  | ((with_reducible refine' r_it ?s ?_); (case s => walk_at "ax_seq"))
  | with_reducible refine r_max2 ?_
  | with_reducible refine r_min2 ?_
  | with_reducible refine r_isNN ?_
  | with_reducible refine r_isNR ?_
  | with_reducible refine r_isInt ?_
  | with_reducible refine r_isBlI ?_
  | ((with_reducible refine' r_isTpT ?s ?_); (case s => walk_at "ax_seq"))
  | with_reducible refine r_nxmk ?_
  | with_reducible refine r_rtmk ?_
  | ((with_reducible refine' r_addM ?z ?_); (case z => walk_at "ax_tz"))
  | ((with_reducible refine' r_lenSM ?z ?_); (case z => walk_at "ax_tz"))
  | ((with_reducible refine' r_strN ?b ?_); (case b => omega))
  | ((with_reducible refine' r_strI ?b ?_); (case b => exact ⟨by omega, by omega⟩))
  | ((with_reducible refine' r_slFrom ?n ?z ?_); (case n => omega); (case z => walk_at "ax_tz"))
  | ((with_reducible refine' r_slTo ?n ?z ?_); (case n => omega); (case z => walk_at "ax_tz"))
  | with_reducible refine r_tm ?_
  | with_reducible refine r_tmS ?_
  | ((with_reducible refine' r_partM ?z ?_); (case z => walk_at "ax_tz"))
  | with_reducible refine r_iS ?_
  | with_reducible refine r_is ?_
  | with_reducible refine r_inM ?_
  | with_reducible refine r_js0 ?_
  | with_reducible refine r_js ?_
  | with_reducible refine r_jsN ?_
  | with_reducible refine r_fmt ?_
  | ((with_reducible refine' r_fmtI ?b ?_); (case b => exact ⟨by omega, by omega⟩))
  | ((with_reducible refine' r_jsM ?z ?_); (case z => walk_at "ax_tz"))
  | walk_at "ax_call"
  | walk_at "ax_if")
local macro_rules | `(tactic| walk_at "ax_tz") => `(tactic| first
  | assumption
  | omega
  | ((simp only [List.length_append, List.length_cons, List.length_nil, List.length_drop, List.length_take, List.length_replicate]); omega))
local macro_rules | `(tactic| walk_at "ax_if") => `(tactic| first
  | ((with_reducible refine' r_dt ?hp ?_); (case hp => first | assumption | omega))
  | ((with_reducible refine' r_df ?hp ?_); (case hp => first | assumption | omega))
  | ((with_reducible refine' r_ndf ?hp ?_); (case hp => first | assumption | omega))
  | ((with_reducible refine' r_ndt ?hp ?_); (case hp => first | assumption | omega))
  | ((with_reducible refine' r_ndf ?hp ?_); (case hp => with_reducible rfl))
  | ((with_reducible refine' r_dt ?hp ?_); (case hp => with_reducible rfl)))
local macro_rules | `(tactic| walk_at "ax_call") => `(tactic| fail)
local macro_rules | `(tactic| walk_at "ax_go") => `(tactic| repeat walk_at "ax_1")
local macro_rules | `(tactic| walk_at "ax_rg") => `(tactic| first | assumption | exact ⟨by omega, by omega, by omega⟩)
local macro_rules | `(tactic| walk_at "ax_st") => `(tactic| first | assumption | decide)
local macro_rules | `(tactic| walk_at "ax_goI") => `(tactic| repeat ((fail_if_success with_reducible refine r_seqIf ?_); walk_at "ax_1"))
local macro_rules | `(tactic| walk_at "ax_goJ") => `(tactic| repeat ((fail_if_success with_reducible refine r_seqIf2 ?_); walk_at "ax_1"))

def topS (i : Nat) : Stmt := PySem.Challenge.pw_axissteps_k15_errors.main.body.getD i (.Pass ⟨0, 0, 0, 0⟩)
abbrev s_is_int : Stmt := topS 10
abbrev s_is_range : Stmt := topS 11
abbrev s_check_range : Stmt := topS 12
abbrev s_nice_steps : Stmt := topS 13
abbrev s_is_nice : Stmt := topS 14
abbrev s_check_step : Stmt := topS 15
abbrev s_count_of : Stmt := topS 17
abbrev s_count_marks : Stmt := topS 18
abbrev s_first_of : Stmt := topS 19
abbrev s_first_mark : Stmt := topS 20
abbrev s_last_mark : Stmt := topS 21
abbrev s_mark_at : Stmt := topS 22
abbrev s_marks : Stmt := topS 24
abbrev s_gaps : Stmt := topS 25
abbrev s_is_mark : Stmt := topS 26
abbrev s_check_many_choosing : Stmt := topS 28
abbrev s_counts : Stmt := topS 30
abbrev s_with_most : Stmt := topS 31
abbrev s_with_least : Stmt := topS 32
abbrev s_steps_between : Stmt := topS 33
abbrev s_nearest_to : Stmt := topS 34
abbrev s_out_of_order : Stmt := topS 35
abbrev s_empty_steps : Stmt := topS 36
abbrev s_outward : Stmt := topS 38
abbrev s_inward : Stmt := topS 39
abbrev s_is_round : Stmt := topS 40
abbrev s_joined : Stmt := topS 41
abbrev s_met : Stmt := topS 42
abbrev s_spare : Stmt := topS 43
abbrev s_shared_marks : Stmt := topS 44
abbrev s_check_many_counting : Stmt := topS 46
abbrev s_check_bounds : Stmt := topS 48
abbrev s_ranges_with : Stmt := topS 49
abbrev s_count_ranges_of : Stmt := topS 50
abbrev s_first_range : Stmt := topS 51
abbrev s_checked : Stmt := topS 53
abbrev s_moved : Stmt := topS 54
abbrev s_widened : Stmt := topS 55
abbrev s_listed : Stmt := topS 56
abbrev s_check_short : Stmt := topS 57
abbrev s_come_and_go : Stmt := topS 58
abbrev s_kept : Stmt := topS 59
abbrev s_zoomed_in : Stmt := topS 60
abbrev s_zoomed_out : Stmt := topS 61
abbrev s_turned_over : Stmt := topS 62
abbrev s_scaled : Stmt := topS 63
abbrev s_Axis___init__ : Stmt := inClass (topS 65) 0
abbrev s_Axis_step : Stmt := inClass (topS 65) 1
abbrev s_Axis_marks : Stmt := inClass (topS 65) 2
abbrev s_Axis___len__ : Stmt := inClass (topS 65) 8
abbrev s_format_range : Stmt := topS 67
abbrev s_format_axis : Stmt := topS 68
abbrev s__law_start : Stmt := topS 70
abbrev s__law_draw : Stmt := topS 71
abbrev s__law_error : Stmt := topS 72
abbrev s__law_one : Stmt := topS 73
abbrev s__law_two : Stmt := topS 74
abbrev s__law_three : Stmt := topS 75
abbrev s__law_asked : Stmt := topS 76
abbrev s__law_numbers : Stmt := topS 77
abbrev s_law : Stmt := topS 78
theorem sc_is_int : FnScope ["value", "low", "high"] ["value", "low", "high"] (defScope s_is_int) := ⟨rfl, rfl, rfl, by decide +kernel, rfl, by decide +kernel, by decide +kernel⟩
theorem sc_is_range : FnScope ["value"] ["value"] (defScope s_is_range) := ⟨rfl, rfl, rfl, by decide +kernel, rfl, by decide +kernel, by decide +kernel⟩
theorem sc_check_range : FnScope ["value"] ["value"] (defScope s_check_range) := ⟨rfl, rfl, rfl, by decide +kernel, rfl, by decide +kernel, by decide +kernel⟩
theorem sc_nice_steps : FnScope ["found", "power"] [] (defScope s_nice_steps) := ⟨rfl, rfl, rfl, by decide +kernel, rfl, by decide +kernel, by decide +kernel⟩
theorem sc_is_nice : FnScope ["value"] ["value"] (defScope s_is_nice) := ⟨rfl, rfl, rfl, by decide +kernel, rfl, by decide +kernel, by decide +kernel⟩
theorem sc_check_step : FnScope ["value"] ["value"] (defScope s_check_step) := ⟨rfl, rfl, rfl, by decide +kernel, rfl, by decide +kernel, by decide +kernel⟩
theorem sc_count_of : FnScope ["span", "step"] ["span", "step"] (defScope s_count_of) := ⟨rfl, rfl, rfl, by decide +kernel, rfl, by decide +kernel, by decide +kernel⟩
theorem sc_count_marks : FnScope ["span", "step"] ["span", "step"] (defScope s_count_marks) := ⟨rfl, rfl, rfl, by decide +kernel, rfl, by decide +kernel, by decide +kernel⟩
theorem sc_first_of : FnScope ["span", "step"] ["span", "step"] (defScope s_first_of) := ⟨rfl, rfl, rfl, by decide +kernel, rfl, by decide +kernel, by decide +kernel⟩
theorem sc_first_mark : FnScope ["span", "step"] ["span", "step"] (defScope s_first_mark) := ⟨rfl, rfl, rfl, by decide +kernel, rfl, by decide +kernel, by decide +kernel⟩
theorem sc_last_mark : FnScope ["span", "step"] ["span", "step"] (defScope s_last_mark) := ⟨rfl, rfl, rfl, by decide +kernel, rfl, by decide +kernel, by decide +kernel⟩
theorem sc_mark_at : FnScope ["span", "step", "place"] ["span", "step", "place"] (defScope s_mark_at) := ⟨rfl, rfl, rfl, by decide +kernel, rfl, by decide +kernel, by decide +kernel⟩
theorem sc_marks : FnScope ["span", "step", "k"] ["span", "step"] (defScope s_marks) := ⟨rfl, rfl, rfl, by decide +kernel, rfl, by decide +kernel, by decide +kernel⟩
theorem sc_gaps : FnScope ["span", "step"] ["span", "step"] (defScope s_gaps) := ⟨rfl, rfl, rfl, by decide +kernel, rfl, by decide +kernel, by decide +kernel⟩
theorem sc_is_mark : FnScope ["span", "step", "value"] ["span", "step", "value"] (defScope s_is_mark) := ⟨rfl, rfl, rfl, by decide +kernel, rfl, by decide +kernel, by decide +kernel⟩
theorem sc_check_many_choosing : FnScope ["value"] ["value"] (defScope s_check_many_choosing) := ⟨rfl, rfl, rfl, by decide +kernel, rfl, by decide +kernel, by decide +kernel⟩
theorem sc_counts : FnScope ["span", "step"] ["span"] (defScope s_counts) := ⟨rfl, rfl, rfl, by decide +kernel, rfl, by decide +kernel, by decide +kernel⟩
theorem sc_with_most : FnScope ["span", "most", "found", "step"] ["span", "most"] (defScope s_with_most) := ⟨rfl, rfl, rfl, by decide +kernel, rfl, by decide +kernel, by decide +kernel⟩
theorem sc_with_least : FnScope ["span", "least", "found", "step"] ["span", "least"] (defScope s_with_least) := ⟨rfl, rfl, rfl, by decide +kernel, rfl, by decide +kernel, by decide +kernel⟩
theorem sc_steps_between : FnScope ["span", "least", "most", "step"] ["span", "least", "most"] (defScope s_steps_between) := ⟨rfl, rfl, rfl, by decide +kernel, rfl, by decide +kernel, by decide +kernel⟩
theorem sc_nearest_to : FnScope ["span", "wanted", "best", "step", "gap"] ["span", "wanted"] (defScope s_nearest_to) := ⟨rfl, rfl, rfl, by decide +kernel, rfl, by decide +kernel, by decide +kernel⟩
theorem sc_out_of_order : FnScope ["span", "found", "step", "other"] ["span"] (defScope s_out_of_order) := ⟨rfl, rfl, rfl, by decide +kernel, rfl, by decide +kernel, by decide +kernel⟩
theorem sc_empty_steps : FnScope ["span", "step"] ["span"] (defScope s_empty_steps) := ⟨rfl, rfl, rfl, by decide +kernel, rfl, by decide +kernel, by decide +kernel⟩
theorem sc_outward : FnScope ["span", "step"] ["span", "step"] (defScope s_outward) := ⟨rfl, rfl, rfl, by decide +kernel, rfl, by decide +kernel, by decide +kernel⟩
theorem sc_inward : FnScope ["span", "step"] ["span", "step"] (defScope s_inward) := ⟨rfl, rfl, rfl, by decide +kernel, rfl, by decide +kernel, by decide +kernel⟩
theorem sc_is_round : FnScope ["span", "step"] ["span", "step"] (defScope s_is_round) := ⟨rfl, rfl, rfl, by decide +kernel, rfl, by decide +kernel, by decide +kernel⟩
theorem sc_joined : FnScope ["span", "other"] ["span", "other"] (defScope s_joined) := ⟨rfl, rfl, rfl, by decide +kernel, rfl, by decide +kernel, by decide +kernel⟩
theorem sc_met : FnScope ["span", "other"] ["span", "other"] (defScope s_met) := ⟨rfl, rfl, rfl, by decide +kernel, rfl, by decide +kernel, by decide +kernel⟩
theorem sc_spare : FnScope ["span", "step", "wide"] ["span", "step"] (defScope s_spare) := ⟨rfl, rfl, rfl, by decide +kernel, rfl, by decide +kernel, by decide +kernel⟩
theorem sc_shared_marks : FnScope ["span", "step", "other", "a", "b"] ["span", "step", "other"] (defScope s_shared_marks) := ⟨rfl, rfl, rfl, by decide +kernel, rfl, by decide +kernel, by decide +kernel⟩
theorem sc_check_many_counting : FnScope ["value"] ["value"] (defScope s_check_many_counting) := ⟨rfl, rfl, rfl, by decide +kernel, rfl, by decide +kernel, by decide +kernel⟩
theorem sc_check_bounds : FnScope ["bounds"] ["bounds"] (defScope s_check_bounds) := ⟨rfl, rfl, rfl, by decide +kernel, rfl, by decide +kernel, by decide +kernel⟩
theorem sc_ranges_with : FnScope ["bounds", "step", "many"] ["bounds", "step", "many"] (defScope s_ranges_with) := ⟨rfl, rfl, rfl, by decide +kernel, rfl, by decide +kernel, by decide +kernel⟩
theorem sc_count_ranges_of : FnScope ["bounds", "step", "many", "found", "low", "first", "last"] ["bounds", "step", "many"] (defScope s_count_ranges_of) := ⟨rfl, rfl, rfl, by decide +kernel, rfl, by decide +kernel, by decide +kernel⟩
theorem sc_first_range : FnScope ["bounds", "step", "many", "low", "first", "high"] ["bounds", "step", "many"] (defScope s_first_range) := ⟨rfl, rfl, rfl, by decide +kernel, rfl, by decide +kernel, by decide +kernel⟩
theorem sc_checked : FnScope ["span"] ["span"] (defScope s_checked) := ⟨rfl, rfl, rfl, by decide +kernel, rfl, by decide +kernel, by decide +kernel⟩
theorem sc_moved : FnScope ["span", "by"] ["span", "by"] (defScope s_moved) := ⟨rfl, rfl, rfl, by decide +kernel, rfl, by decide +kernel, by decide +kernel⟩
theorem sc_widened : FnScope ["span", "low", "high"] ["span", "low", "high"] (defScope s_widened) := ⟨rfl, rfl, rfl, by decide +kernel, rfl, by decide +kernel, by decide +kernel⟩
theorem sc_listed : FnScope ["span", "step", "k"] ["span", "step"] (defScope s_listed) := ⟨rfl, rfl, rfl, by decide +kernel, rfl, by decide +kernel, by decide +kernel⟩
theorem sc_check_short : FnScope ["span", "step"] ["span", "step"] (defScope s_check_short) := ⟨rfl, rfl, rfl, by decide +kernel, rfl, by decide +kernel, by decide +kernel⟩
theorem sc_come_and_go : FnScope ["span", "other", "step", "one", "far", "value"] ["span", "other", "step"] (defScope s_come_and_go) := ⟨rfl, rfl, rfl, by decide +kernel, rfl, by decide +kernel, by decide +kernel⟩
theorem sc_kept : FnScope ["span", "other", "step", "far_step", "value"] ["span", "other", "step", "far_step"] (defScope s_kept) := ⟨rfl, rfl, rfl, by decide +kernel, rfl, by decide +kernel, by decide +kernel⟩
theorem sc_zoomed_in : FnScope ["span", "by", "width", "low"] ["span", "by"] (defScope s_zoomed_in) := ⟨rfl, rfl, rfl, by decide +kernel, rfl, by decide +kernel, by decide +kernel⟩
theorem sc_zoomed_out : FnScope ["span", "by", "more"] ["span", "by"] (defScope s_zoomed_out) := ⟨rfl, rfl, rfl, by decide +kernel, rfl, by decide +kernel, by decide +kernel⟩
theorem sc_turned_over : FnScope ["span"] ["span"] (defScope s_turned_over) := ⟨rfl, rfl, rfl, by decide +kernel, rfl, by decide +kernel, by decide +kernel⟩
theorem sc_scaled : FnScope ["span", "power", "factor", "turn"] ["span", "power"] (defScope s_scaled) := ⟨rfl, rfl, rfl, by decide +kernel, rfl, by decide +kernel, by decide +kernel⟩
theorem sc_Axis___init__ : FnScope ["self", "span", "most"] ["self", "span", "most"] (defScope s_Axis___init__) := ⟨rfl, rfl, rfl, by decide +kernel, rfl, by decide +kernel, by decide +kernel⟩
theorem sc_Axis_step : FnScope ["self", "found", "step"] ["self"] (defScope s_Axis_step) := ⟨rfl, rfl, rfl, by decide +kernel, rfl, by decide +kernel, by decide +kernel⟩
theorem sc_Axis_marks : FnScope ["self", "step", "k"] ["self"] (defScope s_Axis_marks) := ⟨rfl, rfl, rfl, by decide +kernel, rfl, by decide +kernel, by decide +kernel⟩
theorem sc_Axis___len__ : FnScope ["self"] ["self"] (defScope s_Axis___len__) := ⟨rfl, rfl, rfl, by decide +kernel, rfl, by decide +kernel, by decide +kernel⟩
theorem sc_format_range : FnScope ["span"] ["span"] (defScope s_format_range) := ⟨rfl, rfl, rfl, by decide +kernel, rfl, by decide +kernel, by decide +kernel⟩
theorem sc_format_axis : FnScope ["span", "step"] ["span", "step"] (defScope s_format_axis) := ⟨rfl, rfl, rfl, by decide +kernel, rfl, by decide +kernel, by decide +kernel⟩
theorem sc__law_start : FnScope ["_law_script"] ["_law_script"] (defScope s__law_start) := ⟨rfl, rfl, rfl, by decide +kernel, rfl, by decide +kernel, by decide +kernel⟩
theorem sc__law_draw : FnScope ["_law_draws", "_law_limit", "_law_numbers_here", "_law_at", "_law_cell", "_law_mixed"] ["_law_draws", "_law_limit"] (defScope s__law_draw) := ⟨rfl, rfl, rfl, by decide +kernel, rfl, by decide +kernel, by decide +kernel⟩
theorem sc__law_error : FnScope ["_law_caught", "_law_kinds"] ["_law_caught"] (defScope s__law_error) := ⟨rfl, rfl, rfl, by decide +kernel, rfl, by decide +kernel, by decide +kernel⟩
theorem sc__law_one : FnScope ["_law_kind", "_law_span"] ["_law_kind", "_law_span"] (defScope s__law_one) := ⟨rfl, rfl, rfl, by decide +kernel, rfl, by decide +kernel, by decide +kernel⟩
theorem sc__law_two : FnScope ["_law_kind", "_law_span", "_law_step"] ["_law_kind", "_law_span", "_law_step"] (defScope s__law_two) := ⟨rfl, rfl, rfl, by decide +kernel, rfl, by decide +kernel, by decide +kernel⟩
theorem sc__law_three : FnScope ["_law_kind", "_law_span", "_law_thing"] ["_law_kind", "_law_span", "_law_thing"] (defScope s__law_three) := ⟨rfl, rfl, rfl, by decide +kernel, rfl, by decide +kernel, by decide +kernel⟩
theorem sc__law_asked : FnScope ["_law_group", "_law_kind", "_law_span", "_law_thing", "_law_caught", "e"] ["_law_group", "_law_kind", "_law_span", "_law_thing"] (defScope s__law_asked) := ⟨rfl, rfl, rfl, by decide +kernel, rfl, by decide +kernel, by decide +kernel⟩
theorem sc__law_numbers : FnScope ["_law_limits", "_law_kind", "_law_low", "_law_high", "_law_told", "_law_by", "_law_far", "_law_bad"] [] (defScope s__law_numbers) := ⟨rfl, rfl, rfl, by decide +kernel, rfl, by decide +kernel, by decide +kernel⟩
theorem sc_law : FnScope ["_law_script", "_law_draws", "_law_bad", "_law_span", "_law_k"] ["_law_script"] (defScope s_law) := ⟨rfl, rfl, rfl, by decide +kernel, rfl, by decide +kernel, by decide +kernel⟩
structure Txt (K : PySem.W.Frag) (mg : Str → Option Value) : Type where
  z_ValueError : mg "ValueError" = none
  z_abs : mg "abs" = none
  z_bool : mg "bool" = none
  z_int : mg "int" = none
  z_isinstance : mg "isinstance" = none
  z_len : mg "len" = none
  z_list : mg "list" = none
  z_max : mg "max" = none
  z_min : mg "min" = none
  z_range : mg "range" = none
  z_str : mg "str" = none
  z_tuple : mg "tuple" = none
  MOST : Cst K mg "MOST" (.int 1000000)
  MOST_LISTED : Cst K mg "MOST_LISTED" (.int 1000)
  AxisError : Exn K mg "AxisError"
  BadMarks : Exn K mg "BadMarks"
  BadNumber : Exn K mg "BadNumber"
  BadRange : Exn K mg "BadRange"
  BadStep : Exn K mg "BadStep"
  BadText : Exn K mg "BadText"
  NotFound : Exn K mg "NotFound"
  m_BadMarks : PySem.W.exmOne K (.ref BadMarks.C) (.ref AxisError.C) = some true
  m_BadNumber : PySem.W.exmOne K (.ref BadNumber.C) (.ref AxisError.C) = some true
  m_BadRange : PySem.W.exmOne K (.ref BadRange.C) (.ref AxisError.C) = some true
  m_BadStep : PySem.W.exmOne K (.ref BadStep.C) (.ref AxisError.C) = some true
  m_BadText : PySem.W.exmOne K (.ref BadText.C) (.ref AxisError.C) = some true
  m_NotFound : PySem.W.exmOne K (.ref NotFound.C) (.ref AxisError.C) = some true
  q_BadMarks_AxisError : PySem.W.kitOne K (.ref BadMarks.C) (.ref AxisError.C) = some true
  q_BadMarks_BadMarks : PySem.W.kitOne K (.ref BadMarks.C) (.ref BadMarks.C) = some true
  q_BadMarks_BadNumber : PySem.W.kitOne K (.ref BadMarks.C) (.ref BadNumber.C) = some false
  q_BadMarks_BadRange : PySem.W.kitOne K (.ref BadMarks.C) (.ref BadRange.C) = some false
  q_BadMarks_BadStep : PySem.W.kitOne K (.ref BadMarks.C) (.ref BadStep.C) = some false
  q_BadMarks_BadText : PySem.W.kitOne K (.ref BadMarks.C) (.ref BadText.C) = some false
  q_BadMarks_NotFound : PySem.W.kitOne K (.ref BadMarks.C) (.ref NotFound.C) = some false
  q_BadMarks_ValueError : PySem.W.kitOne K (.ref BadMarks.C) (.type "ValueError") = some true
  q_BadNumber_AxisError : PySem.W.kitOne K (.ref BadNumber.C) (.ref AxisError.C) = some true
  q_BadNumber_BadMarks : PySem.W.kitOne K (.ref BadNumber.C) (.ref BadMarks.C) = some false
  q_BadNumber_BadNumber : PySem.W.kitOne K (.ref BadNumber.C) (.ref BadNumber.C) = some true
  q_BadNumber_BadRange : PySem.W.kitOne K (.ref BadNumber.C) (.ref BadRange.C) = some false
  q_BadNumber_BadStep : PySem.W.kitOne K (.ref BadNumber.C) (.ref BadStep.C) = some false
  q_BadNumber_BadText : PySem.W.kitOne K (.ref BadNumber.C) (.ref BadText.C) = some false
  q_BadNumber_NotFound : PySem.W.kitOne K (.ref BadNumber.C) (.ref NotFound.C) = some false
  q_BadNumber_ValueError : PySem.W.kitOne K (.ref BadNumber.C) (.type "ValueError") = some true
  q_BadRange_AxisError : PySem.W.kitOne K (.ref BadRange.C) (.ref AxisError.C) = some true
  q_BadRange_BadMarks : PySem.W.kitOne K (.ref BadRange.C) (.ref BadMarks.C) = some false
  q_BadRange_BadNumber : PySem.W.kitOne K (.ref BadRange.C) (.ref BadNumber.C) = some false
  q_BadRange_BadRange : PySem.W.kitOne K (.ref BadRange.C) (.ref BadRange.C) = some true
  q_BadRange_BadStep : PySem.W.kitOne K (.ref BadRange.C) (.ref BadStep.C) = some false
  q_BadRange_BadText : PySem.W.kitOne K (.ref BadRange.C) (.ref BadText.C) = some false
  q_BadRange_NotFound : PySem.W.kitOne K (.ref BadRange.C) (.ref NotFound.C) = some false
  q_BadRange_ValueError : PySem.W.kitOne K (.ref BadRange.C) (.type "ValueError") = some true
  q_BadStep_AxisError : PySem.W.kitOne K (.ref BadStep.C) (.ref AxisError.C) = some true
  q_BadStep_BadMarks : PySem.W.kitOne K (.ref BadStep.C) (.ref BadMarks.C) = some false
  q_BadStep_BadNumber : PySem.W.kitOne K (.ref BadStep.C) (.ref BadNumber.C) = some false
  q_BadStep_BadRange : PySem.W.kitOne K (.ref BadStep.C) (.ref BadRange.C) = some false
  q_BadStep_BadStep : PySem.W.kitOne K (.ref BadStep.C) (.ref BadStep.C) = some true
  q_BadStep_BadText : PySem.W.kitOne K (.ref BadStep.C) (.ref BadText.C) = some false
  q_BadStep_NotFound : PySem.W.kitOne K (.ref BadStep.C) (.ref NotFound.C) = some false
  q_BadStep_ValueError : PySem.W.kitOne K (.ref BadStep.C) (.type "ValueError") = some true
  q_BadText_AxisError : PySem.W.kitOne K (.ref BadText.C) (.ref AxisError.C) = some true
  q_BadText_BadMarks : PySem.W.kitOne K (.ref BadText.C) (.ref BadMarks.C) = some false
  q_BadText_BadNumber : PySem.W.kitOne K (.ref BadText.C) (.ref BadNumber.C) = some false
  q_BadText_BadRange : PySem.W.kitOne K (.ref BadText.C) (.ref BadRange.C) = some false
  q_BadText_BadStep : PySem.W.kitOne K (.ref BadText.C) (.ref BadStep.C) = some false
  q_BadText_BadText : PySem.W.kitOne K (.ref BadText.C) (.ref BadText.C) = some true
  q_BadText_NotFound : PySem.W.kitOne K (.ref BadText.C) (.ref NotFound.C) = some false
  q_BadText_ValueError : PySem.W.kitOne K (.ref BadText.C) (.type "ValueError") = some true
  q_NotFound_AxisError : PySem.W.kitOne K (.ref NotFound.C) (.ref AxisError.C) = some true
  q_NotFound_BadMarks : PySem.W.kitOne K (.ref NotFound.C) (.ref BadMarks.C) = some false
  q_NotFound_BadNumber : PySem.W.kitOne K (.ref NotFound.C) (.ref BadNumber.C) = some false
  q_NotFound_BadRange : PySem.W.kitOne K (.ref NotFound.C) (.ref BadRange.C) = some false
  q_NotFound_BadStep : PySem.W.kitOne K (.ref NotFound.C) (.ref BadStep.C) = some false
  q_NotFound_BadText : PySem.W.kitOne K (.ref NotFound.C) (.ref BadText.C) = some false
  q_NotFound_NotFound : PySem.W.kitOne K (.ref NotFound.C) (.ref NotFound.C) = some true
  q_NotFound_ValueError : PySem.W.kitOne K (.ref NotFound.C) (.type "ValueError") = some true
  is_int : Df K mg "is_int" s_is_int ["value", "low", "high"]
  is_range : Df K mg "is_range" s_is_range ["value"]
  check_range : Df K mg "check_range" s_check_range ["value"]
  nice_steps : Df K mg "nice_steps" s_nice_steps []
  is_nice : Df K mg "is_nice" s_is_nice ["value"]
  check_step : Df K mg "check_step" s_check_step ["value"]
  count_of : Df K mg "count_of" s_count_of ["span", "step"]
  count_marks : Df K mg "count_marks" s_count_marks ["span", "step"]
  first_of : Df K mg "first_of" s_first_of ["span", "step"]
  first_mark : Df K mg "first_mark" s_first_mark ["span", "step"]
  last_mark : Df K mg "last_mark" s_last_mark ["span", "step"]
  mark_at : Df K mg "mark_at" s_mark_at ["span", "step", "place"]
  marks : Df K mg "marks" s_marks ["span", "step"]
  gaps : Df K mg "gaps" s_gaps ["span", "step"]
  is_mark : Df K mg "is_mark" s_is_mark ["span", "step", "value"]
  check_many_choosing : DfA K mg "check_many_choosing" "check_many" s_check_many_choosing ["value"]
  counts : Df K mg "counts" s_counts ["span"]
  with_most : Df K mg "with_most" s_with_most ["span", "most"]
  with_least : Df K mg "with_least" s_with_least ["span", "least"]
  steps_between : Df K mg "steps_between" s_steps_between ["span", "least", "most"]
  nearest_to : Df K mg "nearest_to" s_nearest_to ["span", "wanted"]
  out_of_order : Df K mg "out_of_order" s_out_of_order ["span"]
  empty_steps : Df K mg "empty_steps" s_empty_steps ["span"]
  outward : Df K mg "outward" s_outward ["span", "step"]
  inward : Df K mg "inward" s_inward ["span", "step"]
  is_round : Df K mg "is_round" s_is_round ["span", "step"]
  joined : Df K mg "joined" s_joined ["span", "other"]
  met : Df K mg "met" s_met ["span", "other"]
  spare : Df K mg "spare" s_spare ["span", "step"]
  shared_marks : Df K mg "shared_marks" s_shared_marks ["span", "step", "other"]
  check_many_counting : DfA K mg "check_many_counting" "check_many" s_check_many_counting ["value"]
  check_bounds : Df K mg "check_bounds" s_check_bounds ["bounds"]
  ranges_with : Df K mg "ranges_with" s_ranges_with ["bounds", "step", "many"]
  count_ranges_of : Df K mg "count_ranges_of" s_count_ranges_of ["bounds", "step", "many"]
  first_range : Df K mg "first_range" s_first_range ["bounds", "step", "many"]
  checked : Df K mg "checked" s_checked ["span"]
  moved : Df K mg "moved" s_moved ["span", "by"]
  widened : Df K mg "widened" s_widened ["span", "low", "high"]
  listed : Df K mg "listed" s_listed ["span", "step"]
  check_short : Df K mg "check_short" s_check_short ["span", "step"]
  come_and_go : Df K mg "come_and_go" s_come_and_go ["span", "other", "step"]
  kept : Df K mg "kept" s_kept ["span", "other", "step", "far_step"]
  zoomed_in : Df K mg "zoomed_in" s_zoomed_in ["span", "by"]
  zoomed_out : Df K mg "zoomed_out" s_zoomed_out ["span", "by"]
  turned_over : Df K mg "turned_over" s_turned_over ["span"]
  scaled : Df K mg "scaled" s_scaled ["span", "power"]
  format_range : Df K mg "format_range" s_format_range ["span"]
  format_axis : Df K mg "format_axis" s_format_axis ["span", "step"]
  _law_start : Df K mg "_law_start" s__law_start ["_law_script"]
  _law_draw : Df K mg "_law_draw" s__law_draw ["_law_draws", "_law_limit"]
  _law_error : Df K mg "_law_error" s__law_error ["_law_caught"]
  _law_one : Df K mg "_law_one" s__law_one ["_law_kind", "_law_span"]
  _law_two : Df K mg "_law_two" s__law_two ["_law_kind", "_law_span", "_law_step"]
  _law_three : Df K mg "_law_three" s__law_three ["_law_kind", "_law_span", "_law_thing"]
  _law_asked : Df K mg "_law_asked" s__law_asked ["_law_group", "_law_kind", "_law_span", "_law_thing"]
  _law_numbers : Df K mg "_law_numbers" s__law_numbers []
  law : Df K mg "law" s_law ["_law_script"]
  Axis : Kl K mg "Axis"
  Axis_n_now : NoAttr K Axis.C "now"
  Axis_n_most : NoAttr K Axis.C "most"
  Axis_n_past : NoAttr K Axis.C "past"
  Axis___init__ : Md K Axis.C "__init__" "Axis.__init__" s_Axis___init__ ["self", "span", "most"]
  Axis_mk : Mk K Axis.C Axis___init__.f
  Axis_step : Md K Axis.C "step" "Axis.step" s_Axis_step ["self"]
  Axis_marks : Md K Axis.C "marks" "Axis.marks" s_Axis_marks ["self"]
  Axis___len__ : Md K Axis.C "__len__" "Axis.__len__" s_Axis___len__ ["self"]
section
variable {P : Program} {w : World} {K : PySem.W.Frag} {mg : Str → Option Value} {base : Heap}
/-! ### is_int -/
def sp_is_int (_ : Txt K mg) : Sp := fun vs H Q _ => ∃ (v : V) (lo hi : Int), vs = [v, .int lo, .int hi] ∧
  ((∃ i, v = .int i ∧ Q (.bl (decide (lo ≤ i ∧ i ≤ hi))) H) ∨ (NotInt K H v ∧ Q (.bl false) H))
theorem ok_is_int (T : Txt K mg) : FnOk P w K mg base CX0 1 T.is_int.f T.is_int.fd ["value", "low", "high"] (sp_is_int T) := by
  refine T.is_int.F.ok sc_is_int (fun vs H Q E h => ?_) (fun cdv A outer s H vs Q E hr h => ?_)
  · obtain ⟨v, lo, hi, rfl, _⟩ := h; rfl
  · refine ⟨_, (pss_one (ps_ret (pe_and (pe_callB call_isi (by rfl) T.z_isinstance (by decide +kernel) (pa_cons (pv 0) (pa_cons (pe_bltn (v := .ty "int") rfl T.z_int (by decide +kernel) rfl) pa_nil))) (pe_and (pe_not (pe_callB call_isi (by rfl) T.z_isinstance (by decide +kernel) (pa_cons (pv 0) (pa_cons (pe_bltn (v := .ty "bool") rfl T.z_bool (by decide +kernel) rfl) pa_nil)))) (pe_one (pe_chain op_le op_le (pv 1) (pv 0) (pv 2))))))), ?_⟩
    try dsimp only [cxOf]
    obtain ⟨v, lo, hi, rfl, k⟩ := h
    walk_at "ax_go"
    rcases k with ⟨i, rfl, k⟩ | ⟨n, k⟩
    · walk_at "ax_go"
      by_cases c : lo ≤ i
      · refine r_dt c ?_
        walk_at "ax_go"
        have e : decide (lo ≤ i ∧ i ≤ hi) = decide (i ≤ hi) := by simp [c]
        rw [e] at k
        exact k
      · refine r_df c ?_
        have e : decide (lo ≤ i ∧ i ≤ hi) = false := by simp [c]
        rw [e] at k
        exact k
    · cases n with
      | non => exact r_isIntN ⟨_, rfl, r_f k⟩
      | str x => exact r_isIntS ⟨_, rfl, r_f k⟩
      | lst s => exact r_isIntL s ⟨_, rfl, r_f k⟩
      | tup s => exact r_isIntT s ⟨_, rfl, r_f k⟩
      | bl b =>
        refine r_isIntB ?_
        walk_at "ax_go"
        refine r_isBlB ?_
        walk_at "ax_go"
        exact k
theorem c_is_intI {T : Txt K mg} {H : Hp} {Q : VK} {E : XK} {i lo hi : Int} (h : Q (.bl (decide (lo ≤ i ∧ i ≤ hi))) H) : sp_is_int T [.int i, .int lo, .int hi] H Q E := ⟨_, lo, hi, rfl, .inl ⟨i, rfl, h⟩⟩
theorem c_is_intN {T : Txt K mg} {H : Hp} {Q : VK} {E : XK} {v : V} {lo hi : Int} (n : NotInt K H v) (h : Q (.bl false) H) : sp_is_int T [v, .int lo, .int hi] H Q E := ⟨v, lo, hi, rfl, .inr ⟨n, h⟩⟩
local macro_rules | `(tactic| walk_at "ax_call") => `(tactic| with_reducible refine c_is_intI ?_)
local macro_rules | `(tactic| walk_at "ax_call") => `(tactic| ((with_reducible refine' c_is_intN ?n ?_); (case n => assumption)))
/-! ### is_range -/
def sp_is_range (_ : Txt K mg) : Sp := fun vs H Q _ => ∃ (v : V), vs = [v] ∧ ((∃ lo hi, IsRg K H v lo hi ∧ Q (.bl true) H) ∨ (NotRg K H v ∧ Q (.bl false) H))
theorem ok_is_range (T : Txt K mg) : FnOk P w K mg base CX0 2 T.is_range.f T.is_range.fd ["value"] (sp_is_range T) := by
  refine T.is_range.F.ok sc_is_range (fun vs H Q E h => ?_) (fun cdv A outer s H vs Q E hr h => ?_)
  · obtain ⟨v, rfl, _⟩ := h; rfl
  · refine ⟨_, (pss_cons (ps_if (PW.pt (pw_or (pt_not (pt_val (pe_callB call_isi (by rfl) T.z_isinstance (by decide +kernel) (pa_cons (pv 0) (pa_cons (pe_bltn (v := .ty "tuple") rfl T.z_tuple (by decide +kernel) rfl) pa_nil))))) (pw_or1 (pt_cmpR op_ne (pe_callB xc_len (by rfl) T.z_len PySem.boot_len (pa_cons (pv 0) pa_nil)) pe_int (nomark _)))))
          (pss_one (ps_ret pe_bl))
          pss_nil)
        (pss_one (ps_ret (pe_and (pe_call (ok_is_int T) (hr.mono (by decide)) rfl T.is_int.g T.is_int.F.kp T.is_int.b .nil pass0 (pa_cons (pe_ix ix_tup (pv 0) pe_int (fun _ _ => rfl)) (pa_cons (pe_un un_neg (pe_glob rfl T.MOST.g T.MOST.r)) (pa_cons (pe_glob rfl T.MOST.g T.MOST.r) pa_nil)))) (pe_one (pe_call (ok_is_int T) (hr.mono (by decide)) rfl T.is_int.g T.is_int.F.kp T.is_int.b .nil pass0 (pa_cons (pe_ix ix_tup (pv 0) pe_int (fun _ _ => rfl)) (pa_cons (pe_ix ix_tup (pv 0) pe_int (fun _ _ => rfl)) (pa_cons (pe_glob rfl T.MOST.g T.MOST.r) pa_nil))))))))), ?_⟩
    try dsimp only [cxOf]
    obtain ⟨v, rfl, k⟩ := h
    walk_at "ax_go"
    rcases k with ⟨lo, hi, ⟨a, rfl, s, h1, h2, h3⟩, k⟩ | ⟨n, k⟩
    · walk_at "ax_go"
      have e2 : decide (lo ≤ hi ∧ hi ≤ 1000000) = true := decide_eq_true ⟨h2, h3⟩
      rw [e2]
      exact k
    · cases n with
      | non => exact r_isTpN ⟨_, rfl, r_t k⟩
      | bl b => exact r_isTpB ⟨_, rfl, r_t k⟩
      | int i => exact r_isTpI ⟨_, rfl, r_t k⟩
      | str x => exact r_isTpS ⟨_, rfl, r_t k⟩
      | lst s => exact r_isTpL s ⟨_, rfl, r_t k⟩
      | @len a xs s hl =>
        walk_at "ax_go"
        have hl' : ¬ ((xs.length : Int) = 2) := by omega
        walk_at "ax_go"
        exact k
      | @fst a x y s n =>
        walk_at "ax_go"
        exact k
      | @low a i y s n =>
        walk_at "ax_go"
        exact k
      | @snd a i y s n =>
        walk_at "ax_go"
        refine r_ifb (fun c => ?_) (fun _ => k)
        walk_at "ax_go"
        exact k
      | @high a i j s n =>
        walk_at "ax_go"
        refine r_ifb (fun c => ?_) (fun _ => k)
        walk_at "ax_go"
        rw [decide_eq_false n]
        exact k
theorem c_is_range {T : Txt K mg} {H : Hp} {Q : VK} {E : XK} {a : Addr} {lo hi : Int} (s : SqT K H a [.int lo, .int hi]) (r : Rg lo hi) (h : Q (.bl true) H) : sp_is_range T [.ref a] H Q E := ⟨_, rfl, .inl ⟨lo, hi, ⟨a, rfl, s, r⟩, h⟩⟩
theorem c_is_rangeN {T : Txt K mg} {H : Hp} {Q : VK} {E : XK} {v : V} (n : NotRg K H v) (h : Q (.bl false) H) : sp_is_range T [v] H Q E := ⟨v, rfl, .inr ⟨n, h⟩⟩
local macro_rules | `(tactic| walk_at "ax_call") => `(tactic| ((with_reducible refine' c_is_range ?s ?r ?_); (case s => walk_at "ax_seq"); (case r => walk_at "ax_rg")))
local macro_rules | `(tactic| walk_at "ax_call") => `(tactic| ((with_reducible refine' c_is_rangeN ?n ?_); (case n => walk_at "ax_seq")))
/-! ### check_range -/
def sp_check_range (T : Txt K mg) : Sp := fun vs H Q E => ∃ (v : V), vs = [v] ∧ ((∃ lo hi, IsRg K H v lo hi ∧ Q .non H) ∨ (NotRg K H v ∧ E (.ref T.BadRange.C) none H))
theorem ok_check_range (T : Txt K mg) : FnOk P w K mg base (L2.CX P w) 3 T.check_range.f T.check_range.fd ["value"] (sp_check_range T) := by
  refine T.check_range.F.okX sc_check_range (fun vs H Q E h => ?_) (fun cdv A outer s H vs Q E hr h => ?_)
  · obtain ⟨v, rfl, _⟩ := h; rfl
  · refine ⟨_, (pss_one (ps_if (pt_not (pt_val (pe_call (ok_is_range T) (hr.mono (by decide)) rfl T.is_range.g T.is_range.F.kp T.is_range.b .nil pass0 (pa_cons (pv 0) pa_nil))))
          (pss_one (ps_raise rfl (takes_of rfl rfl rfl rfl) (pmk_own PySem.F.excBase_ValueError T.BadRange.x T.BadRange.g T.BadRange.k (raises_own T.BadRange.b T.BadRange.t) rfl)))
          pss_nil)), ?_⟩
    try dsimp only [cxOf]
    obtain ⟨v, rfl, k⟩ := h
    walk_at "ax_go"
    rcases k with ⟨lo, hi, ⟨a, rfl, s, r⟩, k⟩ | ⟨n, k⟩
    · walk_at "ax_go"
      exact k
    · walk_at "ax_go"
      exact k
theorem c_check_range {T : Txt K mg} {H : Hp} {Q : VK} {E : XK} {a : Addr} {lo hi : Int} (s : SqT K H a [.int lo, .int hi]) (r : Rg lo hi) (h : Q .non H) : sp_check_range T [.ref a] H Q E := ⟨_, rfl, .inl ⟨lo, hi, ⟨a, rfl, s, r⟩, h⟩⟩
theorem c_check_rangeN {T : Txt K mg} {H : Hp} {Q : VK} {E : XK} {v : V} (n : NotRg K H v) (h : E (.ref T.BadRange.C) none H) : sp_check_range T [v] H Q E := ⟨v, rfl, .inr ⟨n, h⟩⟩
local macro_rules | `(tactic| walk_at "ax_call") => `(tactic| ((with_reducible refine' c_check_range ?s ?r ?_); (case s => walk_at "ax_seq"); (case r => walk_at "ax_rg")))
local macro_rules | `(tactic| walk_at "ax_call") => `(tactic| ((with_reducible refine' c_check_rangeN ?n ?_); (case n => walk_at "ax_seq")))
/-! ### nice_steps -/
def sp_nice_steps (_ : Txt K mg) : Sp := fun vs H Q _ => vs = [] ∧ ∀ (p : Addr) (H' : Hp), Same H H' → H p = none → H' p = some (.lst (steps.map V.int)) → Q (.ref p) H'
theorem ok_nice_steps (T : Txt K mg) : FnOk P w K mg base CX0 1 T.nice_steps.f T.nice_steps.fd [] (sp_nice_steps T) := by
  refine T.nice_steps.F.ok sc_nice_steps (fun vs H Q E h => ?_) (fun cdv A outer s H vs Q E hr h => ?_)
  · obtain ⟨rfl, _⟩ := h; rfl
  · refine ⟨_, (pss_cons (ps_set (i := 0) sc_nice_steps.nd rfl (Or.inl rfl) (pe_lst pa_nil))
        (pss_cons (ps_set (i := 1) sc_nice_steps.nd rfl (Or.inl rfl) pe_int)
        (pss_cons (ps_while PassesOwn.never (pt_cmpR op_le (pv 1) pe_int (nomark _))
          (pss_cons (ps_aug (i := 0) sc_nice_steps.nd rfl (Or.inl rfl) (pe_lst (pa_cons (pv 1) (pa_cons (pe_op op_mul pe_int (pv 1)) (pa_cons (pe_op op_mul pe_int (pv 1)) pa_nil)))) iop_ext)
        (pss_one (ps_aug (i := 1) sc_nice_steps.nd rfl (Or.inl rfl) pe_int iop_mul))))
        (pss_one (ps_ret (pv 0)))))), ?_⟩
    try dsimp only [cxOf]
    obtain ⟨rfl, k⟩ := h
    walk_at "ax_go"
    intro o no
    walk_at "ax_go"
    refine ⟨fun m σ' H' => ∃ j : Nat, m = 6 - j ∧ j ≤ 6 ∧ σ' = [some (.ref o), some (.int (ten j))] ∧ Same H H' ∧ H' o = some (.lst ((steps.take (3 * j)).map V.int)), ⟨6, 0, rfl, by omega, rfl, same_new no, upd_same⟩, ?_⟩
    rintro m σ' H' ⟨j, rfl, hj, rfl, sm, ho⟩
    walk_at "ax_go"
    by_cases c : j < 6
    · obtain ⟨t1, t2, t3, t4⟩ := ten_le j c
      refine r_dt t2 ?_
      refine ⟨fun σ2 H2 => σ2 = [some (.ref o), some (.int (ten (j + 1)))] ∧ Same H H2 ∧ H2 o = some (.lst ((steps.take (3 * (j + 1))).map V.int)), fun σ2 H2 hN => ⟨6 - (j + 1), by omega, j + 1, rfl, by omega, hN⟩, ?_⟩
      walk_at "ax_go"
      intro q nq
      have ho2 := at_updn (o' := .lst [.int (ten j), .int (2 * ten j), .int (5 * ten j)]) nq ho
      refine r_ext ho2 upd_same (small_le (by rw [List.length_map]; exact Nat.le_trans (List.length_take_le _ _) (by omega)) (Nat.le_of_ble_eq_true rfl)) ?_
      walk_at "ax_go"
      refine ⟨by rw [← t3]; rfl, ?_, ?_⟩
      · intro b u e
        have nb : b ≠ o := ne_of_none e no
        rw [upd_ne nb]
        exact at_updn nq (sm b u e)
      · rw [upd_same, t4, List.map_append]
        rfl
    · have e6 : j = 6 := by omega
      subst e6
      refine r_df (by decide) ?_
      walk_at "ax_go"
      exact k o H' sm no ho
theorem c_nice_steps {T : Txt K mg} {H : Hp} {Q : VK} {E : XK} (h : ∀ (p : Addr) (H' : Hp), Same H H' → H p = none → H' p = some (.lst (steps.map V.int)) → Q (.ref p) H') : sp_nice_steps T [] H Q E := ⟨rfl, h⟩
local macro_rules | `(tactic| walk_at "ax_call") => `(tactic| with_reducible refine c_nice_steps ?_)
/-! ### is_nice -/
def sp_is_nice (_ : Txt K mg) : Sp := fun vs H Q _ => ∃ (v : V), vs = [v] ∧ ((∃ i, v = .int i ∧ ∀ H', Same H H' → Q (.bl (decide (i ∈ steps))) H') ∨ (NotInt K H v ∧ Q (.bl false) H))
theorem ok_is_nice (T : Txt K mg) : FnOk P w K mg base CX0 2 T.is_nice.f T.is_nice.fd ["value"] (sp_is_nice T) := by
  refine T.is_nice.F.ok sc_is_nice (fun vs H Q E h => ?_) (fun cdv A outer s H vs Q E hr h => ?_)
  · obtain ⟨v, rfl, _⟩ := h; rfl
  · refine ⟨_, (pss_one (ps_ret (pe_and (pe_call (ok_is_int T) (hr.mono (by decide)) rfl T.is_int.g T.is_int.F.kp T.is_int.b .nil pass0 (pa_cons (pv 0) (pa_cons pe_int (pa_cons pe_int pa_nil)))) (pe_one (pe_cmpR op_in_seq (pv 0) (pe_call0 (ok_nice_steps T) (hr.mono (by decide)) rfl T.nice_steps.g T.nice_steps.F.kp T.nice_steps.b .nil pass0) (by rfl)))))), ?_⟩
    try dsimp only [cxOf]
    obtain ⟨v, rfl, k⟩ := h
    walk_at "ax_go"
    rcases k with ⟨i, rfl, k⟩ | ⟨n, k⟩
    · walk_at "ax_go"
      by_cases c : 1 ≤ i ∧ i ≤ 500000
      · refine r_dt c ?_
        walk_at "ax_go"
        intro p H' sm np hp
        refine r_inI (SqL.of hp) ?_
        exact k H' sm
      · refine r_df c ?_
        have e : decide (i ∈ steps) = false := decide_eq_false fun m => c (step_bounds i m)
        have k2 := k H (Same.refl _)
        rw [e] at k2
        exact k2
    · walk_at "ax_go"
      exact k
theorem c_is_niceI {T : Txt K mg} {H : Hp} {Q : VK} {E : XK} {i : Int} (h : ∀ H', Same H H' → Q (.bl (decide (i ∈ steps))) H') : sp_is_nice T [.int i] H Q E := ⟨_, rfl, .inl ⟨i, rfl, h⟩⟩
theorem c_is_niceN {T : Txt K mg} {H : Hp} {Q : VK} {E : XK} {v : V} (n : NotInt K H v) (h : Q (.bl false) H) : sp_is_nice T [v] H Q E := ⟨v, rfl, .inr ⟨n, h⟩⟩
local macro_rules | `(tactic| walk_at "ax_call") => `(tactic| with_reducible refine c_is_niceI ?_)
local macro_rules | `(tactic| walk_at "ax_call") => `(tactic| ((with_reducible refine' c_is_niceN ?n ?_); (case n => assumption)))
/-! ### check_step -/
def sp_check_step (T : Txt K mg) : Sp := fun vs H Q E => ∃ (v : V), vs = [v] ∧ ((∃ i, v = .int i ∧ i ∈ steps ∧ ∀ H', Same H H' → Q .non H') ∨ (NotStep K H v ∧ ∀ H', Same H H' → E (.ref T.BadStep.C) none H'))
theorem ok_check_step (T : Txt K mg) : FnOk P w K mg base (L2.CX P w) 3 T.check_step.f T.check_step.fd ["value"] (sp_check_step T) := by
  refine T.check_step.F.okX sc_check_step (fun vs H Q E h => ?_) (fun cdv A outer s H vs Q E hr h => ?_)
  · obtain ⟨v, rfl, _⟩ := h; rfl
  · refine ⟨_, (pss_one (ps_if (pt_not (pt_val (pe_call (ok_is_nice T) (hr.mono (by decide)) rfl T.is_nice.g T.is_nice.F.kp T.is_nice.b .nil pass0 (pa_cons (pv 0) pa_nil))))
          (pss_one (ps_raise rfl (takes_of rfl rfl rfl rfl) (pmk_own PySem.F.excBase_ValueError T.BadStep.x T.BadStep.g T.BadStep.k (raises_own T.BadStep.b T.BadStep.t) rfl)))
          pss_nil)), ?_⟩
    try dsimp only [cxOf]
    obtain ⟨v, rfl, k⟩ := h
    walk_at "ax_go"
    rcases k with ⟨i, rfl, m, k⟩ | ⟨⟨i, rfl, m⟩ | n, k⟩
    · walk_at "ax_go"
      intro H' sm
      rw [decide_eq_true m]
      walk_at "ax_go"
      exact k H' sm
    · walk_at "ax_go"
      intro H' sm
      rw [decide_eq_false m]
      walk_at "ax_go"
      exact k H' sm
    · walk_at "ax_go"
      exact k H (Same.refl _)
theorem c_check_step {T : Txt K mg} {H : Hp} {Q : VK} {E : XK} {i : Int} (m : i ∈ steps) (h : ∀ H', Same H H' → Q .non H') : sp_check_step T [.int i] H Q E := ⟨_, rfl, .inl ⟨i, rfl, m, h⟩⟩
theorem c_check_stepN {T : Txt K mg} {H : Hp} {Q : VK} {E : XK} {v : V} (n : NotStep K H v) (h : ∀ H', Same H H' → E (.ref T.BadStep.C) none H') : sp_check_step T [v] H Q E := ⟨v, rfl, .inr ⟨n, h⟩⟩
local macro_rules | `(tactic| walk_at "ax_call") => `(tactic| ((with_reducible refine' c_check_step ?m ?_); (case m => assumption)))
local macro_rules | `(tactic| walk_at "ax_call") => `(tactic| ((with_reducible refine' c_check_stepN ?n ?_); (case n => assumption)))
/-! ### count_of -/
def sp_count_of (_ : Txt K mg) : Sp := fun vs H Q _ => ∃ (a : Addr) (lo hi st : Int), vs = [.ref a, .int st] ∧ SqT K H a [.int lo, .int hi] ∧ (0 < st ∧ st < 1073741824) ∧ Q (.int (cnt lo hi st)) H
theorem ok_count_of (T : Txt K mg) : FnOk P w K mg base CX0 1 T.count_of.f T.count_of.fd ["span", "step"] (sp_count_of T) := by
  refine T.count_of.F.ok sc_count_of (fun vs H Q E h => ?_) (fun cdv A outer s H vs Q E hr h => ?_)
  · obtain ⟨a, lo, hi, st, rfl, _⟩ := h; rfl
  · refine ⟨_, (pss_one (ps_ret (pe_op op_sub (pe_op op_fdiv (pe_ix ix_tup (pv 0) pe_int (fun _ _ => rfl)) (pv 1)) (pe_op op_fdiv (pe_op op_sub (pe_ix ix_tup (pv 0) pe_int (fun _ _ => rfl)) pe_int) (pv 1))))), ?_⟩
    try dsimp only [cxOf]
    obtain ⟨a, lo, hi, st, rfl, s, ⟨h1, h2⟩, k⟩ := h
    walk_at "ax_go"
    exact k
theorem c_count_of {T : Txt K mg} {H : Hp} {Q : VK} {E : XK} {a : Addr} {lo hi st : Int} (s : SqT K H a [.int lo, .int hi]) (b : 0 < st ∧ st < 1073741824) (h : Q (.int (cnt lo hi st)) H) : sp_count_of T [.ref a, .int st] H Q E := ⟨a, lo, hi, st, rfl, s, b, h⟩
local macro_rules | `(tactic| walk_at "ax_call") => `(tactic| ((with_reducible refine' c_count_of ?s ?b ?_); (case s => walk_at "ax_seq"); (case b => exact ⟨by omega, by omega⟩)))
/-! ### count_marks -/
def sp_count_marks (T : Txt K mg) : Sp := fun vs H Q E => ∃ (x y : V), vs = [x, y] ∧ ((∃ lo hi st, IsRg K H x lo hi ∧ y = .int st ∧ st ∈ steps ∧ ∀ H', Same H H' → Q (.int (cnt lo hi st)) H') ∨ errRS K H x y T.BadRange.C T.BadStep.C E)
theorem ok_count_marks (T : Txt K mg) : FnOk P w K mg base (L2.CX P w) 4 T.count_marks.f T.count_marks.fd ["span", "step"] (sp_count_marks T) := by
  refine T.count_marks.F.okX sc_count_marks (fun vs H Q E h => ?_) (fun cdv A outer s H vs Q E hr h => ?_)
  · obtain ⟨x, y, rfl, _⟩ := h; rfl
  · refine ⟨_, (pss_cons (ps_expr (pe_call (ok_check_range T) (hr.mono (by decide)) rfl T.check_range.g T.check_range.F.kp T.check_range.b .nil (passes_call (takes_of rfl rfl rfl rfl) (fun _ _ _ _ h => h)) (pa_cons (pv 0) pa_nil)))
        (pss_cons (ps_expr (pe_call (ok_check_step T) (hr.mono (by decide)) rfl T.check_step.g T.check_step.F.kp T.check_step.b .nil (passes_call (takes_of rfl rfl rfl rfl) (fun _ _ _ _ h => h)) (pa_cons (pv 1) pa_nil)))
        (pss_one (ps_ret (pe_call (ok_count_of T) (hr.mono (by decide)) rfl T.count_of.g T.count_of.F.kp T.count_of.b .nil pass0 (pa_cons (pv 0) (pa_cons (pv 1) pa_nil))))))), ?_⟩
    try dsimp only [cxOf]
    obtain ⟨x, y, rfl, k⟩ := h
    rcases k with ⟨lo, hi, st, ⟨a, rfl, s, r⟩, rfl, m, k⟩ | ⟨n, k⟩ | ⟨⟨lo, hi, a, rfl, s, r⟩, n, k⟩
    · obtain ⟨b1, b2⟩ := step_bounds st m
      walk_at "ax_go"
      intro H' sm
      walk_at "ax_go"
      exact k H' sm
    · walk_at "ax_go"
      exact k
    · walk_at "ax_go"
      exact k
theorem c_count_marks {T : Txt K mg} {H : Hp} {Q : VK} {E : XK} {a : Addr} {lo hi st : Int} (s : SqT K H a [.int lo, .int hi]) (r : Rg lo hi) (m : st ∈ steps) (h : ∀ H', Same H H' → Q (.int (cnt lo hi st)) H') : sp_count_marks T [.ref a, .int st] H Q E := ⟨_, _, rfl, .inl ⟨lo, hi, st, ⟨a, rfl, s, r⟩, rfl, m, h⟩⟩
local macro_rules | `(tactic| walk_at "ax_call") => `(tactic| ((with_reducible refine' c_count_marks ?s ?r ?m ?_); (case s => walk_at "ax_seq"); (case r => walk_at "ax_rg"); (case m => walk_at "ax_st")))
/-! ### first_of -/
def sp_first_of (_ : Txt K mg) : Sp := fun vs H Q _ => ∃ (a : Addr) (lo st : Int) (y : V), vs = [.ref a, .int st] ∧ SqT K H a [.int lo, y] ∧ (0 < st ∧ st < 1073741824) ∧ Q (.int (fst lo st)) H
theorem ok_first_of (T : Txt K mg) : FnOk P w K mg base CX0 1 T.first_of.f T.first_of.fd ["span", "step"] (sp_first_of T) := by
  refine T.first_of.F.ok sc_first_of (fun vs H Q E h => ?_) (fun cdv A outer s H vs Q E hr h => ?_)
  · obtain ⟨a, lo, st, y, rfl, _⟩ := h; rfl
  · refine ⟨_, (pss_one (ps_ret (pe_op op_mul (pe_un un_neg (pe_op op_fdiv (pe_un un_neg (pe_ix ix_tup (pv 0) pe_int (fun _ _ => rfl))) (pv 1))) (pv 1)))), ?_⟩
    try dsimp only [cxOf]
    obtain ⟨a, lo, st, y, rfl, s, ⟨h1, h2⟩, k⟩ := h
    walk_at "ax_go"
    exact k
theorem c_first_of {T : Txt K mg} {H : Hp} {Q : VK} {E : XK} {a : Addr} {lo st : Int} {y : V} (s : SqT K H a [.int lo, y]) (b : 0 < st ∧ st < 1073741824) (h : Q (.int (fst lo st)) H) : sp_first_of T [.ref a, .int st] H Q E := ⟨a, lo, st, y, rfl, s, b, h⟩
local macro_rules | `(tactic| walk_at "ax_call") => `(tactic| ((with_reducible refine' c_first_of ?s ?b ?_); (case s => walk_at "ax_seq"); (case b => exact ⟨by omega, by omega⟩)))
/-! ### first_mark -/
def sp_first_mark (T : Txt K mg) : Sp := fun vs H Q E => ∃ (x y : V), vs = [x, y] ∧ ((∃ lo hi st, IsRg K H x lo hi ∧ y = .int st ∧ st ∈ steps ∧ ∀ H', Same H H' → if cnt lo hi st = 0 then E (.ref T.NotFound.C) none H' else Q (.int (fst lo st)) H') ∨ errRS K H x y T.BadRange.C T.BadStep.C E)
theorem ok_first_mark (T : Txt K mg) : FnOk P w K mg base (L2.CX P w) 4 T.first_mark.f T.first_mark.fd ["span", "step"] (sp_first_mark T) := by
  refine T.first_mark.F.okX sc_first_mark (fun vs H Q E h => ?_) (fun cdv A outer s H vs Q E hr h => ?_)
  · obtain ⟨x, y, rfl, _⟩ := h; rfl
  · refine ⟨_, (pss_cons (ps_expr (pe_call (ok_check_range T) (hr.mono (by decide)) rfl T.check_range.g T.check_range.F.kp T.check_range.b .nil (passes_call (takes_of rfl rfl rfl rfl) (fun _ _ _ _ h => h)) (pa_cons (pv 0) pa_nil)))
        (pss_cons (ps_expr (pe_call (ok_check_step T) (hr.mono (by decide)) rfl T.check_step.g T.check_step.F.kp T.check_step.b .nil (passes_call (takes_of rfl rfl rfl rfl) (fun _ _ _ _ h => h)) (pa_cons (pv 1) pa_nil)))
        (pss_cons (ps_if (pt_cmpR op_eq (pe_call (ok_count_of T) (hr.mono (by decide)) rfl T.count_of.g T.count_of.F.kp T.count_of.b .nil pass0 (pa_cons (pv 0) (pa_cons (pv 1) pa_nil))) pe_int (nomark _))
          (pss_one (ps_raise rfl (takes_of rfl rfl rfl rfl) (pmk_own PySem.F.excBase_ValueError T.NotFound.x T.NotFound.g T.NotFound.k (raises_own T.NotFound.b T.NotFound.t) rfl)))
          pss_nil)
        (pss_one (ps_ret (pe_call (ok_first_of T) (hr.mono (by decide)) rfl T.first_of.g T.first_of.F.kp T.first_of.b .nil pass0 (pa_cons (pv 0) (pa_cons (pv 1) pa_nil)))))))), ?_⟩
    try dsimp only [cxOf]
    obtain ⟨x, y, rfl, k⟩ := h
    rcases k with ⟨lo, hi, st, ⟨a, rfl, s, r⟩, rfl, m, k⟩ | ⟨n, k⟩ | ⟨⟨lo, hi, a, rfl, s, r⟩, n, k⟩
    · obtain ⟨b1, b2⟩ := step_bounds st m
      walk_at "ax_go"
      intro H' sm
      have k2 := k H' sm
      walk_at "ax_go"
      refine r_if (fun c => ?_) (fun c => ?_)
      · walk_at "ax_go"
        rw [if_pos c] at k2
        exact k2
      · walk_at "ax_go"
        rw [if_neg c] at k2
        exact k2
    · walk_at "ax_go"
      exact k
    · walk_at "ax_go"
      exact k
theorem c_first_mark {T : Txt K mg} {H : Hp} {Q : VK} {E : XK} {a : Addr} {lo hi st : Int} (s : SqT K H a [.int lo, .int hi]) (r : Rg lo hi) (m : st ∈ steps) (h1 : cnt lo hi st = 0 → ∀ H', Same H H' → E (.ref T.NotFound.C) none H') (h2 : cnt lo hi st ≠ 0 → ∀ H', Same H H' → Q (.int (fst lo st)) H') : sp_first_mark T [.ref a, .int st] H Q E := by
  refine ⟨_, _, rfl, .inl ⟨lo, hi, st, ⟨a, rfl, s, r⟩, rfl, m, fun H' sm => ?_⟩⟩
  by_cases c : cnt lo hi st = 0
  · rw [if_pos c]
    exact h1 c H' sm
  · rw [if_neg c]
    exact h2 c H' sm
/-! ### last_mark -/
def sp_last_mark (T : Txt K mg) : Sp := fun vs H Q E => ∃ (x y : V), vs = [x, y] ∧ ((∃ lo hi st, IsRg K H x lo hi ∧ y = .int st ∧ st ∈ steps ∧ ∀ H', Same H H' → if cnt lo hi st = 0 then E (.ref T.NotFound.C) none H' else Q (.int (lst hi st)) H') ∨ errRS K H x y T.BadRange.C T.BadStep.C E)
theorem ok_last_mark (T : Txt K mg) : FnOk P w K mg base (L2.CX P w) 4 T.last_mark.f T.last_mark.fd ["span", "step"] (sp_last_mark T) := by
  refine T.last_mark.F.okX sc_last_mark (fun vs H Q E h => ?_) (fun cdv A outer s H vs Q E hr h => ?_)
  · obtain ⟨x, y, rfl, _⟩ := h; rfl
  · refine ⟨_, (pss_cons (ps_expr (pe_call (ok_check_range T) (hr.mono (by decide)) rfl T.check_range.g T.check_range.F.kp T.check_range.b .nil (passes_call (takes_of rfl rfl rfl rfl) (fun _ _ _ _ h => h)) (pa_cons (pv 0) pa_nil)))
        (pss_cons (ps_expr (pe_call (ok_check_step T) (hr.mono (by decide)) rfl T.check_step.g T.check_step.F.kp T.check_step.b .nil (passes_call (takes_of rfl rfl rfl rfl) (fun _ _ _ _ h => h)) (pa_cons (pv 1) pa_nil)))
        (pss_cons (ps_if (pt_cmpR op_eq (pe_call (ok_count_of T) (hr.mono (by decide)) rfl T.count_of.g T.count_of.F.kp T.count_of.b .nil pass0 (pa_cons (pv 0) (pa_cons (pv 1) pa_nil))) pe_int (nomark _))
          (pss_one (ps_raise rfl (takes_of rfl rfl rfl rfl) (pmk_own PySem.F.excBase_ValueError T.NotFound.x T.NotFound.g T.NotFound.k (raises_own T.NotFound.b T.NotFound.t) rfl)))
          pss_nil)
        (pss_one (ps_ret (pe_op op_mul (pe_op op_fdiv (pe_ix ix_tup (pv 0) pe_int (fun _ _ => rfl)) (pv 1)) (pv 1))))))), ?_⟩
    try dsimp only [cxOf]
    obtain ⟨x, y, rfl, k⟩ := h
    rcases k with ⟨lo, hi, st, ⟨a, rfl, s, r⟩, rfl, m, k⟩ | ⟨n, k⟩ | ⟨⟨lo, hi, a, rfl, s, r⟩, n, k⟩
    · obtain ⟨b1, b2⟩ := step_bounds st m
      walk_at "ax_go"
      intro H' sm
      have k2 := k H' sm
      walk_at "ax_go"
      refine r_if (fun c => ?_) (fun c => ?_)
      · walk_at "ax_go"
        rw [if_pos c] at k2
        exact k2
      · walk_at "ax_go"
        rw [if_neg c] at k2
        exact k2
    · walk_at "ax_go"
      exact k
    · walk_at "ax_go"
      exact k
theorem c_last_mark {T : Txt K mg} {H : Hp} {Q : VK} {E : XK} {a : Addr} {lo hi st : Int} (s : SqT K H a [.int lo, .int hi]) (r : Rg lo hi) (m : st ∈ steps) (h1 : cnt lo hi st = 0 → ∀ H', Same H H' → E (.ref T.NotFound.C) none H') (h2 : cnt lo hi st ≠ 0 → ∀ H', Same H H' → Q (.int (lst hi st)) H') : sp_last_mark T [.ref a, .int st] H Q E := by
  refine ⟨_, _, rfl, .inl ⟨lo, hi, st, ⟨a, rfl, s, r⟩, rfl, m, fun H' sm => ?_⟩⟩
  by_cases c : cnt lo hi st = 0
  · rw [if_pos c]
    exact h1 c H' sm
  · rw [if_neg c]
    exact h2 c H' sm
/-! ### mark_at -/
def sp_mark_at (T : Txt K mg) : Sp := fun vs H Q E => ∃ (x y z : V), vs = [x, y, z] ∧ ((∃ lo hi st, IsRg K H x lo hi ∧ y = .int st ∧ st ∈ steps ∧
    ((∃ i, z = .int i ∧ ∀ H', Same H H' → if 0 ≤ i ∧ i < cnt lo hi st then Q (.int (fst lo st + i * st)) H' else E (.ref T.NotFound.C) none H') ∨ (NotInt K H z ∧ ∀ H', Same H H' → E (.ref T.NotFound.C) none H'))) ∨ errRS K H x y T.BadRange.C T.BadStep.C E)
theorem ok_mark_at (T : Txt K mg) : FnOk P w K mg base (L2.CX P w) 4 T.mark_at.f T.mark_at.fd ["span", "step", "place"] (sp_mark_at T) := by
  refine T.mark_at.F.okX sc_mark_at (fun vs H Q E h => ?_) (fun cdv A outer s H vs Q E hr h => ?_)
  · obtain ⟨x, y, z, rfl, _⟩ := h; rfl
  · refine ⟨_, (pss_cons (ps_expr (pe_call (ok_check_range T) (hr.mono (by decide)) rfl T.check_range.g T.check_range.F.kp T.check_range.b .nil (passes_call (takes_of rfl rfl rfl rfl) (fun _ _ _ _ h => h)) (pa_cons (pv 0) pa_nil)))
        (pss_cons (ps_expr (pe_call (ok_check_step T) (hr.mono (by decide)) rfl T.check_step.g T.check_step.F.kp T.check_step.b .nil (passes_call (takes_of rfl rfl rfl rfl) (fun _ _ _ _ h => h)) (pa_cons (pv 1) pa_nil)))
        (pss_cons (ps_if (PW.pt (pw_or (pt_not (pt_val (pe_callB call_isi (by rfl) T.z_isinstance (by decide +kernel) (pa_cons (pv 2) (pa_cons (pe_bltn (v := .ty "int") rfl T.z_int (by decide +kernel) rfl) pa_nil))))) (pw_or (pt_val (pe_callB call_isi (by rfl) T.z_isinstance (by decide +kernel) (pa_cons (pv 2) (pa_cons (pe_bltn (v := .ty "bool") rfl T.z_bool (by decide +kernel) rfl) pa_nil)))) (pw_or1 (pt_not (pt_chain op_le op_lt pe_int (pv 2) (pe_call (ok_count_of T) (hr.mono (by decide)) rfl T.count_of.g T.count_of.F.kp T.count_of.b .nil pass0 (pa_cons (pv 0) (pa_cons (pv 1) pa_nil)))))))))
          (pss_one (ps_raise rfl (takes_of rfl rfl rfl rfl) (pmk_own PySem.F.excBase_ValueError T.NotFound.x T.NotFound.g T.NotFound.k (raises_own T.NotFound.b T.NotFound.t) rfl)))
          pss_nil)
        (pss_one (ps_ret (pe_op op_add (pe_call (ok_first_of T) (hr.mono (by decide)) rfl T.first_of.g T.first_of.F.kp T.first_of.b .nil pass0 (pa_cons (pv 0) (pa_cons (pv 1) pa_nil))) (pe_op op_mul (pv 2) (pv 1)))))))), ?_⟩
    try dsimp only [cxOf]
    obtain ⟨x, y, z, rfl, k⟩ := h
    rcases k with ⟨lo, hi, st, ⟨a, rfl, s, r⟩, rfl, m, ⟨i, rfl, k⟩ | ⟨n, k⟩⟩ | ⟨n, k⟩ | ⟨⟨lo, hi, a, rfl, s, r⟩, n, k⟩
    · obtain ⟨b1, b2⟩ := step_bounds st m
      walk_at "ax_go"
      intro H' sm
      have k2 := k H' sm
      walk_at "ax_go"
      refine r_if (fun c => ?_) (fun c => ?_)
      · walk_at "ax_go"
        refine r_ifn (fun d => ?_) (fun d => ?_)
        · walk_at "ax_go"
          rw [if_neg (fun z => d z.2)] at k2
          exact k2
        · rw [if_pos ⟨c, d⟩] at k2
          walk_at "ax_go"
          exact k2
      · walk_at "ax_go"
        rw [if_neg (fun z => c z.1)] at k2
        exact k2
    · walk_at "ax_go"
      intro H' sm
      have k2 := k H' sm
      walk_at "ax_go"
      cases n with
      | non => exact r_isIntN ⟨_, rfl, r_t k2⟩
      | str x => exact r_isIntS ⟨_, rfl, r_t k2⟩
      | lst s => exact r_isIntL (Same.seq sm s) ⟨_, rfl, r_t k2⟩
      | tup s => exact r_isIntT (Same.seqT sm s) ⟨_, rfl, r_t k2⟩
      | bl b =>
        refine r_isIntB ?_
        walk_at "ax_go"
        refine r_isBlB ?_
        walk_at "ax_go"
        exact k2
    · walk_at "ax_go"
      exact k
    · walk_at "ax_go"
      exact k
/-! ### marks -/
def sp_marks (T : Txt K mg) : Sp := fun vs H Q E => ∃ (x y : V), vs = [x, y] ∧ ((∃ lo hi st, IsRg K H x lo hi ∧ y = .int st ∧ st ∈ steps ∧ ((1000 < cnt lo hi st ∧ ∀ H', Same H H' → E (.ref T.NotFound.C) none H') ∨ (cnt lo hi st ≤ 1000 ∧ ∀ p H', Same H H' → H p = none → H' p = some (.lst ((marksL lo hi st).map V.int)) → Q (.ref p) H'))) ∨ errRS K H x y T.BadRange.C T.BadStep.C E)
theorem ok_marks (T : Txt K mg) : FnOk P w K mg base (L2.CX P w) 4 T.marks.f T.marks.fd ["span", "step"] (sp_marks T) := by
  refine T.marks.F.okX sc_marks (fun vs H Q E h => ?_) (fun cdv A outer s H vs Q E hr h => ?_)
  · obtain ⟨x, y, rfl, _⟩ := h; rfl
  · refine ⟨_, (pss_cons (ps_expr (pe_call (ok_check_range T) (hr.mono (by decide)) rfl T.check_range.g T.check_range.F.kp T.check_range.b .nil (passes_call (takes_of rfl rfl rfl rfl) (fun _ _ _ _ h => h)) (pa_cons (pv 0) pa_nil)))
        (pss_cons (ps_expr (pe_call (ok_check_step T) (hr.mono (by decide)) rfl T.check_step.g T.check_step.F.kp T.check_step.b .nil (passes_call (takes_of rfl rfl rfl rfl) (fun _ _ _ _ h => h)) (pa_cons (pv 1) pa_nil)))
        (pss_cons (ps_if (pt_cmpR op_gt (pe_call (ok_count_of T) (hr.mono (by decide)) rfl T.count_of.g T.count_of.F.kp T.count_of.b .nil pass0 (pa_cons (pv 0) (pa_cons (pv 1) pa_nil))) (pe_glob rfl T.MOST_LISTED.g T.MOST_LISTED.r) (nomark _))
          (pss_one (ps_raise rfl (takes_of rfl rfl rfl rfl) (pmk_own PySem.F.excBase_ValueError T.NotFound.x T.NotFound.g T.NotFound.k (raises_own T.NotFound.b T.NotFound.t) rfl)))
          pss_nil)
        (pss_one (ps_ret (pe_lc (own := [("k", 2)]) rfl sc_marks.nd (pi_range1 rfl T.z_range (pa_cons (pe_call (ok_count_of T) (hr.mono (by decide)) rfl T.count_of.g T.count_of.F.kp T.count_of.b .nil pass0 (pa_cons (pv 0) (pa_cons (pv 1) pa_nil))) pa_nil)) (blkOk_by (N := ["span", "step", "k"]) (sc := defScope s_marks) (by decide +kernel)) (fun _ _ _ _ _ => (pg_name (i := 2) sc_marks.nd rfl (Or.inl rfl))) (fun _ _ _ _ _ => pts_nil) (fun _ _ _ _ _ => (pe_op op_add (pe_call (ok_first_of T) (hr.mono (by decide)) rfl T.first_of.g T.first_of.F.kp T.first_of.b .nil pass0 (pa_cons (pv 0) (pa_cons (pv 1) pa_nil))) (pe_op op_mul (pv 2) (pv 1)))))))))), ?_⟩
    try dsimp only [cxOf]
    obtain ⟨x, y, rfl, k⟩ := h
    rcases k with ⟨lo, hi, st, ⟨a, rfl, s, r⟩, rfl, m, ⟨c, k⟩ | ⟨c, k⟩⟩ | ⟨n, k⟩ | ⟨⟨lo, hi, a, rfl, s, r⟩, n, k⟩
    · obtain ⟨b1, b2⟩ := step_bounds st m
      walk_at "ax_go"
      intro H' sm
      walk_at "ax_go"
      exact k H' sm
    · obtain ⟨b1, b2⟩ := step_bounds st m
      have cn := cnt_nonneg lo hi st r b1
      walk_at "ax_go"
      intro H' sm
      walk_at "ax_go"
      refine lc_rngM (f := fun k => .int (fst lo st + ((k : Nat) : Int) * st)) (by omega) (fun i H2 Q' hi s2 q => ?_) (fun D H2 s2 nD hD => ?_)
      · walk_at "ax_go"
        have e : (0 : Int) + (i : Int) = i := by omega
        rw [e]
        exact q H2 (Same.refl _)
      · refine k D H2 (sm.trans s2) (sm.free nD) ?_
        rw [hD]
        unfold marksL
        rw [List.map_map]
        rfl
    · walk_at "ax_go"
      exact k
    · walk_at "ax_go"
      exact k
theorem c_marks {T : Txt K mg} {H : Hp} {Q : VK} {E : XK} {a : Addr} {lo hi st : Int} (s : SqT K H a [.int lo, .int hi]) (r : Rg lo hi) (m : st ∈ steps) (c : cnt lo hi st ≤ 1000) (h : ∀ p H', Same H H' → H p = none → H' p = some (.lst ((marksL lo hi st).map V.int)) → Q (.ref p) H') : sp_marks T [.ref a, .int st] H Q E := ⟨_, _, rfl, .inl ⟨lo, hi, st, ⟨a, rfl, s, r⟩, rfl, m, .inr ⟨c, h⟩⟩⟩
local macro_rules | `(tactic| walk_at "ax_call") => `(tactic| ((with_reducible refine' c_marks ?s ?r ?m ?c ?_); (case s => walk_at "ax_seq"); (case r => walk_at "ax_rg"); (case m => walk_at "ax_st"); (case c => first | assumption | omega)))
/-! ### gaps -/
def sp_gaps (T : Txt K mg) : Sp := fun vs H Q E => ∃ (x y : V), vs = [x, y] ∧ ((∃ lo hi st, IsRg K H x lo hi ∧ y = .int st ∧ st ∈ steps ∧ ((cnt lo hi st = 0 ∧ ∀ H', Same H H' → E (.ref T.NotFound.C) none H') ∨ (cnt lo hi st ≠ 0 ∧ ∀ p H', Same H H' → H p = none → H' p = some (.tup [.int (fst lo st - lo), .int (hi - lst hi st)]) → Q (.ref p) H'))) ∨ errRS K H x y T.BadRange.C T.BadStep.C E)
theorem ok_gaps (T : Txt K mg) : FnOk P w K mg base (L2.CX P w) 4 T.gaps.f T.gaps.fd ["span", "step"] (sp_gaps T) := by
  refine T.gaps.F.okX sc_gaps (fun vs H Q E h => ?_) (fun cdv A outer s H vs Q E hr h => ?_)
  · obtain ⟨x, y, rfl, _⟩ := h; rfl
  · refine ⟨_, (pss_cons (ps_expr (pe_call (ok_check_range T) (hr.mono (by decide)) rfl T.check_range.g T.check_range.F.kp T.check_range.b .nil (passes_call (takes_of rfl rfl rfl rfl) (fun _ _ _ _ h => h)) (pa_cons (pv 0) pa_nil)))
        (pss_cons (ps_expr (pe_call (ok_check_step T) (hr.mono (by decide)) rfl T.check_step.g T.check_step.F.kp T.check_step.b .nil (passes_call (takes_of rfl rfl rfl rfl) (fun _ _ _ _ h => h)) (pa_cons (pv 1) pa_nil)))
        (pss_cons (ps_if (pt_cmpR op_eq (pe_call (ok_count_of T) (hr.mono (by decide)) rfl T.count_of.g T.count_of.F.kp T.count_of.b .nil pass0 (pa_cons (pv 0) (pa_cons (pv 1) pa_nil))) pe_int (nomark _))
          (pss_one (ps_raise rfl (takes_of rfl rfl rfl rfl) (pmk_own PySem.F.excBase_ValueError T.NotFound.x T.NotFound.g T.NotFound.k (raises_own T.NotFound.b T.NotFound.t) rfl)))
          pss_nil)
        (pss_one (ps_ret (pe_tup (pa_cons (pe_op op_sub (pe_call (ok_first_of T) (hr.mono (by decide)) rfl T.first_of.g T.first_of.F.kp T.first_of.b .nil pass0 (pa_cons (pv 0) (pa_cons (pv 1) pa_nil))) (pe_ix ix_tup (pv 0) pe_int (fun _ _ => rfl))) (pa_cons (pe_op op_sub (pe_ix ix_tup (pv 0) pe_int (fun _ _ => rfl)) (pe_op op_mul (pe_op op_fdiv (pe_ix ix_tup (pv 0) pe_int (fun _ _ => rfl)) (pv 1)) (pv 1))) pa_nil)))))))), ?_⟩
    try dsimp only [cxOf]
    obtain ⟨x, y, rfl, k⟩ := h
    rcases k with ⟨lo, hi, st, ⟨a, rfl, s, r⟩, rfl, m, ⟨c, k⟩ | ⟨c, k⟩⟩ | ⟨n, k⟩ | ⟨⟨lo, hi, a, rfl, s, r⟩, n, k⟩
    · obtain ⟨b1, b2⟩ := step_bounds st m
      walk_at "ax_go"
      intro H' sm
      walk_at "ax_go"
      exact k H' sm
    · obtain ⟨b1, b2⟩ := step_bounds st m
      walk_at "ax_go"
      intro H' sm
      walk_at "ax_go"
      intro p np
      exact k p _ (Same.updn sm np) (sm.free np) upd_same
    · walk_at "ax_go"
      exact k
    · walk_at "ax_go"
      exact k
/-! ### is_mark -/
def sp_is_mark (T : Txt K mg) : Sp := fun vs H Q E => ∃ (x y z : V), vs = [x, y, z] ∧ ((∃ lo hi st, IsRg K H x lo hi ∧ y = .int st ∧ st ∈ steps ∧
    ((∃ i, z = .int i ∧ ∀ H', Same H H' → Q (.bl (decide ((lo ≤ i ∧ i ≤ hi) ∧ i % st = 0))) H') ∨ (NotInt K H z ∧ ∀ H', Same H H' → Q (.bl false) H'))) ∨ errRS K H x y T.BadRange.C T.BadStep.C E)
theorem ok_is_mark (T : Txt K mg) : FnOk P w K mg base (L2.CX P w) 4 T.is_mark.f T.is_mark.fd ["span", "step", "value"] (sp_is_mark T) := by
  refine T.is_mark.F.okX sc_is_mark (fun vs H Q E h => ?_) (fun cdv A outer s H vs Q E hr h => ?_)
  · obtain ⟨x, y, z, rfl, _⟩ := h; rfl
  · refine ⟨_, (pss_cons (ps_expr (pe_call (ok_check_range T) (hr.mono (by decide)) rfl T.check_range.g T.check_range.F.kp T.check_range.b .nil (passes_call (takes_of rfl rfl rfl rfl) (fun _ _ _ _ h => h)) (pa_cons (pv 0) pa_nil)))
        (pss_cons (ps_expr (pe_call (ok_check_step T) (hr.mono (by decide)) rfl T.check_step.g T.check_step.F.kp T.check_step.b .nil (passes_call (takes_of rfl rfl rfl rfl) (fun _ _ _ _ h => h)) (pa_cons (pv 1) pa_nil)))
        (pss_cons (ps_if (PW.pt (pw_or (pt_not (pt_val (pe_callB call_isi (by rfl) T.z_isinstance (by decide +kernel) (pa_cons (pv 2) (pa_cons (pe_bltn (v := .ty "int") rfl T.z_int (by decide +kernel) rfl) pa_nil))))) (pw_or1 (pt_val (pe_callB call_isi (by rfl) T.z_isinstance (by decide +kernel) (pa_cons (pv 2) (pa_cons (pe_bltn (v := .ty "bool") rfl T.z_bool (by decide +kernel) rfl) pa_nil)))))))
          (pss_one (ps_ret pe_bl))
          pss_nil)
        (pss_one (ps_ret (pe_and (pe_chain op_le op_le (pe_ix ix_tup (pv 0) pe_int (fun _ _ => rfl)) (pv 2) (pe_ix ix_tup (pv 0) pe_int (fun _ _ => rfl))) (pe_one (pe_cmpR op_eq (pe_op op_mod (pv 2) (pv 1)) pe_int (nomark _))))))))), ?_⟩
    try dsimp only [cxOf]
    obtain ⟨x, y, z, rfl, k⟩ := h
    rcases k with ⟨lo, hi, st, ⟨a, rfl, s, r⟩, rfl, m, ⟨i, rfl, k⟩ | ⟨n, k⟩⟩ | ⟨n, k⟩ | ⟨⟨lo, hi, a, rfl, s, r⟩, n, k⟩
    · obtain ⟨b1, b2⟩ := step_bounds st m
      walk_at "ax_go"
      intro H' sm
      have k2 := k H' sm
      walk_at "ax_go"
      by_cases c : lo ≤ i
      · refine r_dt c ?_
        walk_at "ax_go"
        by_cases d : i ≤ hi
        · refine r_dt d ?_
          walk_at "ax_go"
          have e : decide ((lo ≤ i ∧ i ≤ hi) ∧ i % st = 0) = decide (i % st = 0) := by simp [c, d]
          rw [e] at k2
          exact k2
        · refine r_df d ?_
          have e : decide ((lo ≤ i ∧ i ≤ hi) ∧ i % st = 0) = false := by simp [d]
          rw [e] at k2
          exact k2
      · refine r_df c ?_
        walk_at "ax_go"
        have e : decide ((lo ≤ i ∧ i ≤ hi) ∧ i % st = 0) = false := by simp [c]
        rw [e] at k2
        exact k2
    · walk_at "ax_go"
      intro H' sm
      have k2 := k H' sm
      walk_at "ax_go"
      cases n with
      | non => exact r_isIntN ⟨_, rfl, r_t k2⟩
      | str x => exact r_isIntS ⟨_, rfl, r_t k2⟩
      | lst s => exact r_isIntL (Same.seq sm s) ⟨_, rfl, r_t k2⟩
      | tup s => exact r_isIntT (Same.seqT sm s) ⟨_, rfl, r_t k2⟩
      | bl b =>
        refine r_isIntB ?_
        walk_at "ax_go"
        refine r_isBlB ?_
        walk_at "ax_go"
        exact k2
    · walk_at "ax_go"
      exact k
    · walk_at "ax_go"
      exact k
theorem c_is_mark {T : Txt K mg} {H : Hp} {Q : VK} {E : XK} {a : Addr} {lo hi st i : Int} (s : SqT K H a [.int lo, .int hi]) (r : Rg lo hi) (m : st ∈ steps) (h : ∀ H', Same H H' → Q (.bl (decide ((lo ≤ i ∧ i ≤ hi) ∧ i % st = 0))) H') : sp_is_mark T [.ref a, .int st, .int i] H Q E := ⟨_, _, _, rfl, .inl ⟨lo, hi, st, ⟨a, rfl, s, r⟩, rfl, m, .inl ⟨i, rfl, h⟩⟩⟩
theorem c_is_markN {T : Txt K mg} {H : Hp} {Q : VK} {E : XK} {a : Addr} {lo hi st : Int} {v : V} (s : SqT K H a [.int lo, .int hi]) (r : Rg lo hi) (m : st ∈ steps) (n : NotInt K H v) (h : ∀ H', Same H H' → Q (.bl false) H') : sp_is_mark T [.ref a, .int st, v] H Q E := ⟨_, _, _, rfl, .inl ⟨lo, hi, st, ⟨a, rfl, s, r⟩, rfl, m, .inr ⟨n, h⟩⟩⟩
local macro_rules | `(tactic| walk_at "ax_call") => `(tactic| ((with_reducible refine' c_is_mark ?s ?r ?m ?_); (case s => walk_at "ax_seq"); (case r => walk_at "ax_rg"); (case m => walk_at "ax_st")))
/-! ### check_many_choosing -/
def sp_check_many_choosing (T : Txt K mg) : Sp := fun vs H Q E => ∃ (v : V), vs = [v] ∧ ((∃ i, v = .int i ∧ (0 ≤ i ∧ i ≤ 3000000) ∧ Q .non H) ∨ (NotNum K H v 0 3000000 ∧ E (.ref T.BadNumber.C) none H))
theorem ok_check_many_choosing (T : Txt K mg) : FnOk P w K mg base (L2.CX P w) 2 T.check_many_choosing.f T.check_many_choosing.fd ["value"] (sp_check_many_choosing T) := by
  refine T.check_many_choosing.F.okX sc_check_many_choosing (fun vs H Q E h => ?_) (fun cdv A outer s H vs Q E hr h => ?_)
  · obtain ⟨v, rfl, _⟩ := h; rfl
  · refine ⟨_, (pss_one (ps_if (pt_not (pt_val (pe_call (ok_is_int T) (hr.mono (by decide)) rfl T.is_int.g T.is_int.F.kp T.is_int.b .nil pass0 (pa_cons (pv 0) (pa_cons pe_int (pa_cons pe_int pa_nil))))))
          (pss_one (ps_raise rfl (takes_of rfl rfl rfl rfl) (pmk_own PySem.F.excBase_ValueError T.BadNumber.x T.BadNumber.g T.BadNumber.k (raises_own T.BadNumber.b T.BadNumber.t) rfl)))
          pss_nil)), ?_⟩
    try dsimp only [cxOf]
    obtain ⟨v, rfl, k⟩ := h
    rcases k with ⟨i, rfl, ⟨b1, b2⟩, k⟩ | ⟨⟨i, rfl, c⟩ | n, k⟩
    · walk_at "ax_go"
      have b : 0 ≤ i ∧ i ≤ 3000000 := ⟨b1, b2⟩
      walk_at "ax_go"
      exact k
    · walk_at "ax_go"
      exact k
    · walk_at "ax_go"
      exact k
theorem c_check_many_choosing {T : Txt K mg} {H : Hp} {Q : VK} {E : XK} {i : Int} (b : 0 ≤ i ∧ i ≤ 3000000) (h : Q .non H) : sp_check_many_choosing T [.int i] H Q E := ⟨_, rfl, .inl ⟨i, rfl, b, h⟩⟩
theorem c_check_many_choosingN {T : Txt K mg} {H : Hp} {Q : VK} {E : XK} {v : V} (n : NotNum K H v 0 3000000) (h : E (.ref T.BadNumber.C) none H) : sp_check_many_choosing T [v] H Q E := ⟨v, rfl, .inr ⟨n, h⟩⟩
local macro_rules | `(tactic| walk_at "ax_call") => `(tactic| ((with_reducible refine' c_check_many_choosing ?b ?_); (case b => exact ⟨by omega, by omega⟩)))
local macro_rules | `(tactic| walk_at "ax_call") => `(tactic| ((with_reducible refine' c_check_many_choosingN ?n ?_); (case n => assumption)))
/-! ### counts -/
def sp_counts (T : Txt K mg) : Sp := fun vs H Q E => ∃ (x : V), vs = [x] ∧ ((∃ lo hi, IsRg K H x lo hi ∧ ∀ D us H', Same H H' → H D = none → H' D = some (.lst us) → DpAll K H' us ((cntP lo hi).map pairD) → Q (.ref D) H') ∨ (NotRg K H x ∧ E (.ref T.BadRange.C) none H))
theorem ok_counts (T : Txt K mg) : FnOk P w K mg base (L2.CX P w) 4 T.counts.f T.counts.fd ["span"] (sp_counts T) := by
  refine T.counts.F.okX sc_counts (fun vs H Q E h => ?_) (fun cdv A outer s H vs Q E hr h => ?_)
  · obtain ⟨x, rfl, _⟩ := h; rfl
  · refine ⟨_, (pss_cons (ps_expr (pe_call (ok_check_range T) (hr.mono (by decide)) rfl T.check_range.g T.check_range.F.kp T.check_range.b .nil (passes_call (takes_of rfl rfl rfl rfl) (fun _ _ _ _ h => h)) (pa_cons (pv 0) pa_nil)))
        (pss_one (ps_ret (pe_lc (own := [("step", 1)]) rfl sc_counts.nd (pi_list (pe_call0 (ok_nice_steps T) (hr.mono (by decide)) rfl T.nice_steps.g T.nice_steps.F.kp T.nice_steps.b .nil pass0)) (blkOk_by (N := ["span", "step"]) (sc := defScope s_counts) (by decide +kernel)) (fun _ _ _ _ _ => (pg_name (i := 1) sc_counts.nd rfl (Or.inl rfl))) (fun _ _ _ _ _ => pts_nil) (fun _ _ _ _ _ => (pe_tup (pa_cons (pv 1) (pa_cons (pe_call (ok_count_of T) (hr.mono (by decide)) rfl T.count_of.g T.count_of.F.kp T.count_of.b .nil pass0 (pa_cons (pv 0) (pa_cons (pv 1) pa_nil))) pa_nil)))))))), ?_⟩
    try dsimp only [cxOf]
    obtain ⟨x, rfl, k⟩ := h
    rcases k with ⟨lo, hi, ⟨a, rfl, s, r⟩, k⟩ | ⟨n, k⟩
    · walk_at "ax_go"
      intro p H1 s1 np hp
      walk_at "ax_go"
      refine lc_intsD (p := fun _ => true) (f := fun st => pairD (st, cnt lo hi st)) (by decide) (SqL.of (K := K) hp) (fun _ _ => rfl) (fun i H2 Qt hi s2 q => q _ (Same.refl _)) (fun i H2 Q' hi hp s2 q => ?_) (fun D H2 us s2 nD hD da => ?_)
      · obtain ⟨b1, b2⟩ := step_bounds i hi
        have sa := Same.seqT (s1.trans s2) s
        walk_at "ax_go"
        intro t nt
        exact q _ _ (same_new nt) (.tup (SqT.of upd_same) (.cons (.int _) (.cons (.int _) .nil)))
      · rw [filter_yes] at da
        refine k D us H2 (s1.trans s2) (s1.free nD) hD ?_
        unfold cntP
        rw [List.map_map]
        exact da
    · walk_at "ax_go"
      exact k
theorem c_counts {T : Txt K mg} {H : Hp} {Q : VK} {E : XK} {a : Addr} {lo hi : Int} (s : SqT K H a [.int lo, .int hi]) (r : Rg lo hi) (h : ∀ D us H', Same H H' → H D = none → H' D = some (.lst us) → DpAll K H' us ((cntP lo hi).map pairD) → Q (.ref D) H') : sp_counts T [.ref a] H Q E := ⟨_, rfl, .inl ⟨lo, hi, ⟨a, rfl, s, r⟩, h⟩⟩
local macro_rules | `(tactic| walk_at "ax_call") => `(tactic| ((with_reducible refine' c_counts ?s ?r ?_); (case s => walk_at "ax_seq"); (case r => walk_at "ax_rg")))
/-! ### with_most -/
def sp_with_most (T : Txt K mg) : Sp := fun vs H Q E => ∃ (x y : V), vs = [x, y] ∧ ((∃ lo hi w, IsRg K H x lo hi ∧ y = .int w ∧ (0 ≤ w ∧ w ≤ 3000000) ∧ ((mostL lo hi w = [] ∧ ∀ H', Same H H' → E (.ref T.NotFound.C) none H') ∨ ∃ z, (mostL lo hi w).head? = some z ∧ ∀ H', Same H H' → Q (.int z) H')) ∨ (NotRg K H x ∧ E (.ref T.BadRange.C) none H) ∨ ((∃ lo hi, IsRg K H x lo hi) ∧ NotNum K H y 0 3000000 ∧ E (.ref T.BadNumber.C) none H))
theorem ok_with_most (T : Txt K mg) : FnOk P w K mg base (L2.CX P w) 4 T.with_most.f T.with_most.fd ["span", "most"] (sp_with_most T) := by
  refine T.with_most.F.okX sc_with_most (fun vs H Q E h => ?_) (fun cdv A outer s H vs Q E hr h => ?_)
  · obtain ⟨x, y, rfl, _⟩ := h; rfl
  · refine ⟨_, (pss_cons (ps_expr (pe_call (ok_check_range T) (hr.mono (by decide)) rfl T.check_range.g T.check_range.F.kp T.check_range.b .nil (passes_call (takes_of rfl rfl rfl rfl) (fun _ _ _ _ h => h)) (pa_cons (pv 0) pa_nil)))
        (pss_cons (ps_expr (pe_call (ok_check_many_choosing T) (hr.mono (by decide)) rfl T.check_many_choosing.g T.check_many_choosing.F.kp T.check_many_choosing.b .nil (passes_call (takes_of rfl rfl rfl rfl) (fun _ _ _ _ h => h)) (pa_cons (pv 1) pa_nil)))
        (pss_cons (ps_setLc (i := 2) (own := [("step", 3)]) rfl sc_with_most.nd rfl rfl (sw_true rfl rfl rfl (by decide +kernel)) (pi_list (pe_call0 (ok_nice_steps T) (hr.mono (by decide)) rfl T.nice_steps.g T.nice_steps.F.kp T.nice_steps.b .nil pass0)) (blkOk_by (N := ["span", "most", "found", "step"]) (sc := defScope s_with_most) (by decide +kernel)) (fun _ _ _ _ _ => (pg_name (i := 3) sc_with_most.nd rfl (Or.inl rfl))) (fun _ _ _ _ _ => (pts_one (pt_cmpR op_le (pe_call (ok_count_of T) (hr.mono (by decide)) rfl T.count_of.g T.count_of.F.kp T.count_of.b .nil pass0 (pa_cons (pv 0) (pa_cons (pv 3) pa_nil))) (pv 1) (nomark _)))) (fun _ _ _ _ _ => (pv 3)))
        (pss_cons (ps_if (pt_cmpR (op_eqD hr.units) (pv 2) (pe_lst pa_nil) (nomark _))
          (pss_one (ps_raise rfl (takes_of rfl rfl rfl rfl) (pmk_own PySem.F.excBase_ValueError T.NotFound.x T.NotFound.g T.NotFound.k (raises_own T.NotFound.b T.NotFound.t) rfl)))
          pss_nil)
        (pss_one (ps_ret (pe_ix ix_list (pv 2) pe_int (fun _ _ => rfl)))))))), ?_⟩
    try dsimp only [cxOf]
    obtain ⟨x, y, rfl, k⟩ := h
    rcases k with ⟨lo, hi, w, ⟨a, rfl, s, r⟩, rfl, ⟨c1, c2⟩, k⟩ | ⟨n, k⟩ | ⟨⟨lo, hi, a, rfl, s, r⟩, n, k⟩
    · walk_at "ax_go"
      intro p H1 s1 np hp
      walk_at "ax_go"
      refine lc_ints (p := fun x => decide (cnt lo hi x ≤ w)) (f := V.int) (by decide) (SqL.of hp) (fun i H3 Qt hi s3 q => ?_) (fun i H3 Q' hi hp s3 q => ?_) (fun D H3 s3 nD hD => ?_)
      · obtain ⟨b1, b2⟩ := step_bounds i hi
        have sa := Same.seqT (s1.trans s3) s
        walk_at "ax_go"
        exact q _ (Same.refl _)
      · walk_at "ax_go"
        exact q _ (Same.refl _)
      have hD : H3 D = some (.lst ((mostL lo hi w).map V.int)) := hD
      walk_at "ax_go"
      intro l nl
      walk_at "ax_go"
      have sm3 := s1.trans s3
      rcases k with ⟨e, k⟩ | ⟨x, e, k⟩
      · walk_at "ax_go"
        exact k _ (Same.updn sm3 nl)
      · have ne : ¬ mostL lo hi w = [] := fun z => by rw [z] at e; cases e
        walk_at "ax_go"
        refine r_ixL (SqL.of (at_updn nl hD)) (at_head e) ?_
        exact k _ (Same.updn sm3 nl)
    · walk_at "ax_go"
      exact k
    · walk_at "ax_go"
      exact k
theorem c_with_most {T : Txt K mg} {H : Hp} {Q : VK} {E : XK} {a : Addr} {lo hi w z : Int} (s : SqT K H a [.int lo, .int hi]) (r : Rg lo hi) (b : 0 ≤ w ∧ w ≤ 3000000) (e : (mostL lo hi w).head? = some z) (h : ∀ H', Same H H' → Q (.int z) H') : sp_with_most T [.ref a, .int w] H Q E := ⟨_, _, rfl, .inl ⟨lo, hi, w, ⟨a, rfl, s, r⟩, rfl, b, .inr ⟨z, e, h⟩⟩⟩
theorem c_with_mostN {T : Txt K mg} {H : Hp} {Q : VK} {E : XK} {a : Addr} {lo hi w : Int} (s : SqT K H a [.int lo, .int hi]) (r : Rg lo hi) (b : 0 ≤ w ∧ w ≤ 3000000) (e : mostL lo hi w = []) (h : ∀ H', Same H H' → E (.ref T.NotFound.C) none H') : sp_with_most T [.ref a, .int w] H Q E := ⟨_, _, rfl, .inl ⟨lo, hi, w, ⟨a, rfl, s, r⟩, rfl, b, .inl ⟨e, h⟩⟩⟩
/-! ### with_least -/
def sp_with_least (T : Txt K mg) : Sp := fun vs H Q E => ∃ (x y : V), vs = [x, y] ∧ ((∃ lo hi w, IsRg K H x lo hi ∧ y = .int w ∧ (0 ≤ w ∧ w ≤ 3000000) ∧ ((leastL lo hi w = [] ∧ ∀ H', Same H H' → E (.ref T.NotFound.C) none H') ∨ ∃ z, (leastL lo hi w).getLast? = some z ∧ ∀ H', Same H H' → Q (.int z) H')) ∨ (NotRg K H x ∧ E (.ref T.BadRange.C) none H) ∨ ((∃ lo hi, IsRg K H x lo hi) ∧ NotNum K H y 0 3000000 ∧ E (.ref T.BadNumber.C) none H))
theorem ok_with_least (T : Txt K mg) : FnOk P w K mg base (L2.CX P w) 4 T.with_least.f T.with_least.fd ["span", "least"] (sp_with_least T) := by
  refine T.with_least.F.okX sc_with_least (fun vs H Q E h => ?_) (fun cdv A outer s H vs Q E hr h => ?_)
  · obtain ⟨x, y, rfl, _⟩ := h; rfl
  · refine ⟨_, (pss_cons (ps_expr (pe_call (ok_check_range T) (hr.mono (by decide)) rfl T.check_range.g T.check_range.F.kp T.check_range.b .nil (passes_call (takes_of rfl rfl rfl rfl) (fun _ _ _ _ h => h)) (pa_cons (pv 0) pa_nil)))
        (pss_cons (ps_expr (pe_call (ok_check_many_choosing T) (hr.mono (by decide)) rfl T.check_many_choosing.g T.check_many_choosing.F.kp T.check_many_choosing.b .nil (passes_call (takes_of rfl rfl rfl rfl) (fun _ _ _ _ h => h)) (pa_cons (pv 1) pa_nil)))
        (pss_cons (ps_setLc (i := 2) (own := [("step", 3)]) rfl sc_with_least.nd rfl rfl (sw_true rfl rfl rfl (by decide +kernel)) (pi_list (pe_call0 (ok_nice_steps T) (hr.mono (by decide)) rfl T.nice_steps.g T.nice_steps.F.kp T.nice_steps.b .nil pass0)) (blkOk_by (N := ["span", "least", "found", "step"]) (sc := defScope s_with_least) (by decide +kernel)) (fun _ _ _ _ _ => (pg_name (i := 3) sc_with_least.nd rfl (Or.inl rfl))) (fun _ _ _ _ _ => (pts_one (pt_cmpR op_ge (pe_call (ok_count_of T) (hr.mono (by decide)) rfl T.count_of.g T.count_of.F.kp T.count_of.b .nil pass0 (pa_cons (pv 0) (pa_cons (pv 3) pa_nil))) (pv 1) (nomark _)))) (fun _ _ _ _ _ => (pv 3)))
        (pss_cons (ps_if (pt_cmpR (op_eqD hr.units) (pv 2) (pe_lst pa_nil) (nomark _))
          (pss_one (ps_raise rfl (takes_of rfl rfl rfl rfl) (pmk_own PySem.F.excBase_ValueError T.NotFound.x T.NotFound.g T.NotFound.k (raises_own T.NotFound.b T.NotFound.t) rfl)))
          pss_nil)
        (pss_one (ps_ret (pe_ix ix_list (pv 2) (pe_un un_neg pe_int) (fun _ _ => rfl)))))))), ?_⟩
    try dsimp only [cxOf]
    obtain ⟨x, y, rfl, k⟩ := h
    rcases k with ⟨lo, hi, w, ⟨a, rfl, s, r⟩, rfl, ⟨c1, c2⟩, k⟩ | ⟨n, k⟩ | ⟨⟨lo, hi, a, rfl, s, r⟩, n, k⟩
    · walk_at "ax_go"
      intro p H1 s1 np hp
      walk_at "ax_go"
      refine lc_ints (p := fun x => decide (w ≤ cnt lo hi x)) (f := V.int) (by decide) (SqL.of hp) (fun i H3 Qt hi s3 q => ?_) (fun i H3 Q' hi hp s3 q => ?_) (fun D H3 s3 nD hD => ?_)
      · obtain ⟨b1, b2⟩ := step_bounds i hi
        have sa := Same.seqT (s1.trans s3) s
        walk_at "ax_go"
        exact q _ (Same.refl _)
      · walk_at "ax_go"
        exact q _ (Same.refl _)
      have hD : H3 D = some (.lst ((leastL lo hi w).map V.int)) := hD
      walk_at "ax_go"
      intro l nl
      walk_at "ax_go"
      have sm3 := s1.trans s3
      rcases k with ⟨e, k⟩ | ⟨x, e, k⟩
      · walk_at "ax_go"
        exact k _ (Same.updn sm3 nl)
      · have ne : ¬ leastL lo hi w = [] := fun z => by rw [z] at e; cases e
        walk_at "ax_go"
        refine r_ixL (SqL.of (at_updn nl hD)) (at_lastI e) ?_
        exact k _ (Same.updn sm3 nl)
    · walk_at "ax_go"
      exact k
    · walk_at "ax_go"
      exact k
theorem c_with_least {T : Txt K mg} {H : Hp} {Q : VK} {E : XK} {a : Addr} {lo hi w z : Int} (s : SqT K H a [.int lo, .int hi]) (r : Rg lo hi) (b : 0 ≤ w ∧ w ≤ 3000000) (e : (leastL lo hi w).getLast? = some z) (h : ∀ H', Same H H' → Q (.int z) H') : sp_with_least T [.ref a, .int w] H Q E := ⟨_, _, rfl, .inl ⟨lo, hi, w, ⟨a, rfl, s, r⟩, rfl, b, .inr ⟨z, e, h⟩⟩⟩
theorem c_with_leastN {T : Txt K mg} {H : Hp} {Q : VK} {E : XK} {a : Addr} {lo hi w : Int} (s : SqT K H a [.int lo, .int hi]) (r : Rg lo hi) (b : 0 ≤ w ∧ w ≤ 3000000) (e : leastL lo hi w = []) (h : ∀ H', Same H H' → E (.ref T.NotFound.C) none H') : sp_with_least T [.ref a, .int w] H Q E := ⟨_, _, rfl, .inl ⟨lo, hi, w, ⟨a, rfl, s, r⟩, rfl, b, .inl ⟨e, h⟩⟩⟩
/-! ### steps_between -/
def sp_steps_between (T : Txt K mg) : Sp := fun vs H Q E => ∃ (x y z : V), vs = [x, y, z] ∧ ((∃ lo hi l w, IsRg K H x lo hi ∧ y = .int l ∧ (0 ≤ l ∧ l ≤ 3000000) ∧ z = .int w ∧ (0 ≤ w ∧ w ≤ 3000000) ∧ ∀ p H', Same H H' → H p = none → H' p = some (.lst ((betweenL lo hi l w).map V.int)) → Q (.ref p) H') ∨ (NotRg K H x ∧ E (.ref T.BadRange.C) none H) ∨ ((∃ lo hi, IsRg K H x lo hi) ∧ NotNum K H y 0 3000000 ∧ E (.ref T.BadNumber.C) none H) ∨ ((∃ lo hi, IsRg K H x lo hi) ∧ (∃ l, y = .int l ∧ (0 ≤ l ∧ l ≤ 3000000)) ∧ NotNum K H z 0 3000000 ∧ E (.ref T.BadNumber.C) none H))
theorem ok_steps_between (T : Txt K mg) : FnOk P w K mg base (L2.CX P w) 4 T.steps_between.f T.steps_between.fd ["span", "least", "most"] (sp_steps_between T) := by
  refine T.steps_between.F.okX sc_steps_between (fun vs H Q E h => ?_) (fun cdv A outer s H vs Q E hr h => ?_)
  · obtain ⟨x, y, z, rfl, _⟩ := h; rfl
  · refine ⟨_, (pss_cons (ps_expr (pe_call (ok_check_range T) (hr.mono (by decide)) rfl T.check_range.g T.check_range.F.kp T.check_range.b .nil (passes_call (takes_of rfl rfl rfl rfl) (fun _ _ _ _ h => h)) (pa_cons (pv 0) pa_nil)))
        (pss_cons (ps_expr (pe_call (ok_check_many_choosing T) (hr.mono (by decide)) rfl T.check_many_choosing.g T.check_many_choosing.F.kp T.check_many_choosing.b .nil (passes_call (takes_of rfl rfl rfl rfl) (fun _ _ _ _ h => h)) (pa_cons (pv 1) pa_nil)))
        (pss_cons (ps_expr (pe_call (ok_check_many_choosing T) (hr.mono (by decide)) rfl T.check_many_choosing.g T.check_many_choosing.F.kp T.check_many_choosing.b .nil (passes_call (takes_of rfl rfl rfl rfl) (fun _ _ _ _ h => h)) (pa_cons (pv 2) pa_nil)))
        (pss_one (ps_ret (pe_lc (own := [("step", 3)]) rfl sc_steps_between.nd (pi_list (pe_call0 (ok_nice_steps T) (hr.mono (by decide)) rfl T.nice_steps.g T.nice_steps.F.kp T.nice_steps.b .nil pass0)) (blkOk_by (N := ["span", "least", "most", "step"]) (sc := defScope s_steps_between) (by decide +kernel)) (fun _ _ _ _ _ => (pg_name (i := 3) sc_steps_between.nd rfl (Or.inl rfl))) (fun _ _ _ _ _ => (pts_one (pt_chain op_le op_le (pv 1) (pe_call (ok_count_of T) (hr.mono (by decide)) rfl T.count_of.g T.count_of.F.kp T.count_of.b .nil pass0 (pa_cons (pv 0) (pa_cons (pv 3) pa_nil))) (pv 2)))) (fun _ _ _ _ _ => (pv 3)))))))), ?_⟩
    try dsimp only [cxOf]
    obtain ⟨x, y, z, rfl, k⟩ := h
    rcases k with ⟨lo, hi, l, w, ⟨a, rfl, s, r⟩, rfl, ⟨c1, c2⟩, rfl, ⟨d1, d2⟩, k⟩ | ⟨n, k⟩ | ⟨⟨lo, hi, a, rfl, s, r⟩, n, k⟩ | ⟨⟨lo, hi, a, rfl, s, r⟩, ⟨l, rfl, c1, c2⟩, n, k⟩
    · walk_at "ax_go"
      intro p H1 s1 np hp
      walk_at "ax_go"
      refine lc_ints (p := fun x => decide (l ≤ cnt lo hi x) && decide (cnt lo hi x ≤ w)) (f := V.int) (by decide) (SqL.of hp) (fun i H3 Qt hi s3 q => ?_) (fun i H3 Q' hi hp s3 q => ?_) (fun D H3 s3 nD hD => ?_)
      · obtain ⟨b1, b2⟩ := step_bounds i hi
        have sa := Same.seqT (s1.trans s3) s
        have q1 := q _ (Same.refl _)
        walk_at "ax_go"
        refine r_if (fun c => ?_) (fun c => ?_)
        · walk_at "ax_go"
          rw [decide_eq_true c, Bool.true_and] at q1
          exact q1
        · walk_at "ax_go"
          rw [decide_eq_false c, Bool.false_and] at q1
          exact q1
      · walk_at "ax_go"
        exact q _ (Same.refl _)
      exact k D H3 (s1.trans s3) (s1.free nD) hD
    · walk_at "ax_go"
      exact k
    · walk_at "ax_go"
      exact k
    · walk_at "ax_go"
      exact k
theorem c_steps_between {T : Txt K mg} {H : Hp} {Q : VK} {E : XK} {a : Addr} {lo hi l w : Int} (s : SqT K H a [.int lo, .int hi]) (r : Rg lo hi) (b : 0 ≤ l ∧ l ≤ 3000000) (c : 0 ≤ w ∧ w ≤ 3000000) (h : ∀ p H', Same H H' → H p = none → H' p = some (.lst ((betweenL lo hi l w).map V.int)) → Q (.ref p) H') : sp_steps_between T [.ref a, .int l, .int w] H Q E := ⟨_, _, _, rfl, .inl ⟨lo, hi, l, w, ⟨a, rfl, s, r⟩, rfl, b, rfl, c, h⟩⟩
local macro_rules | `(tactic| walk_at "ax_call") => `(tactic| ((with_reducible refine' c_steps_between ?s ?r ?b ?c ?_); (case s => walk_at "ax_seq"); (case r => walk_at "ax_rg"); (case b => exact ⟨by omega, by omega⟩); (case c => exact ⟨by omega, by omega⟩)))
/-! ### nearest_to -/
def sp_nearest_to (T : Txt K mg) : Sp := fun vs H Q E => ∃ (x y : V), vs = [x, y] ∧ ((∃ lo hi w, IsRg K H x lo hi ∧ y = .int w ∧ (0 ≤ w ∧ w ≤ 3000000) ∧ ∀ z H', Near (gapI lo hi w) steps z → Same H H' → Q (.int z) H') ∨ (NotRg K H x ∧ E (.ref T.BadRange.C) none H) ∨ ((∃ lo hi, IsRg K H x lo hi) ∧ NotNum K H y 0 3000000 ∧ E (.ref T.BadNumber.C) none H))
theorem ok_nearest_to (T : Txt K mg) : FnOk P w K mg base (L2.CX P w) 4 T.nearest_to.f T.nearest_to.fd ["span", "wanted"] (sp_nearest_to T) := by
  refine T.nearest_to.F.okX sc_nearest_to (fun vs H Q E h => ?_) (fun cdv A outer s H vs Q E hr h => ?_)
  · obtain ⟨x, y, rfl, _⟩ := h; rfl
  · refine ⟨_, (pss_cons (ps_expr (pe_call (ok_check_range T) (hr.mono (by decide)) rfl T.check_range.g T.check_range.F.kp T.check_range.b .nil (passes_call (takes_of rfl rfl rfl rfl) (fun _ _ _ _ h => h)) (pa_cons (pv 0) pa_nil)))
        (pss_cons (ps_expr (pe_call (ok_check_many_choosing T) (hr.mono (by decide)) rfl T.check_many_choosing.g T.check_many_choosing.F.kp T.check_many_choosing.b .nil (passes_call (takes_of rfl rfl rfl rfl) (fun _ _ _ _ h => h)) (pa_cons (pv 1) pa_nil)))
        (pss_cons (ps_set (i := 2) sc_nearest_to.nd rfl (Or.inl rfl) pe_non)
        (pss_cons (ps_for (passes_of rfl) rfl (pi_list (pe_call0 (ok_nice_steps T) (hr.mono (by decide)) rfl T.nice_steps.g T.nice_steps.F.kp T.nice_steps.b .nil pass0)) (pg_name (i := 3) sc_nearest_to.nd rfl (Or.inl rfl))
          (pss_cons (ps_set (i := 4) sc_nearest_to.nd rfl (Or.inl rfl) (pe_callB xc_abs (by rfl) T.z_abs (by decide +kernel) (pa_cons (pe_op op_sub (pe_call (ok_count_of T) (hr.mono (by decide)) rfl T.count_of.g T.count_of.F.kp T.count_of.b .nil pass0 (pa_cons (pv 0) (pa_cons (pv 3) pa_nil))) (pv 1)) pa_nil)))
        (pss_one (ps_if (PW.pt (pw_or (pt_cmpR xo_isN (pv 2) pe_non (nomark _)) (pw_or1 (pt_cmpR op_lt (pv 4) (pe_ix ix_tup (pv 2) pe_int (fun _ _ => rfl)) (nomark _)))))
          (pss_one (ps_set (i := 2) sc_nearest_to.nd rfl (Or.inl rfl) (pe_tup (pa_cons (pv 4) (pa_cons (pv 3) pa_nil)))))
          pss_nil))))
        (pss_one (ps_ret (pe_ix ix_tup (pv 2) pe_int (fun _ _ => rfl)))))))), ?_⟩
    try dsimp only [cxOf]
    obtain ⟨x, y, rfl, k⟩ := h
    rcases k with ⟨lo, hi, w, ⟨a, rfl, s, r⟩, rfl, ⟨c1, c2⟩, k⟩ | ⟨n, k⟩ | ⟨⟨lo, hi, a, rfl, s, r⟩, n, k⟩
    · walk_at "ax_go"
      intro p H1 s1 np hp
      have sa := Same.seqT s1 s
      have sp := SqL.of (K := K) hp
      walk_at "ax_go"
      refine for_list (xs := steps.map V.int) (fun i σ' H' => Same H1 H' ∧ ∃ b y1 y2, σ' = [some (.ref a), some (.int w), some b, y1, y2] ∧ ((i = 0 ∧ b = .non) ∨ ∃ t z, b = .ref t ∧ SqT K H' t [.int (gapI lo hi w z), .int z] ∧ Near (gapI lo hi w) (steps.take i) z)) ⟨Same.refl _, .non, none, none, rfl, .inl ⟨rfl, rfl⟩⟩ (fun i σ' H' hi q => Same.seq q.1 sp) ?_ ?_
      · rintro i x σ' H' hx ⟨sm, b, y1, y2, rfl, bb⟩
        rw [List.getElem?_map] at hx
        cases e : steps[i]? with
        | none =>
          rw [e] at hx
          cases hx
        | some st =>
          rw [e] at hx
          cases hx
          have tk : steps.take (i + 1) = steps.take i ++ [st] := by
            rw [List.take_succ, e]
            rfl
          obtain ⟨b1, b2⟩ := step_bounds st (List.mem_of_getElem? e)
          have sa' := Same.seqT sm sa
          walk_at "ax_go"
          have eg : (if cnt lo hi st - w < 0 then -(cnt lo hi st - w) else cnt lo hi st - w) = gapI lo hi w st := rfl
          rw [eg]
          rcases bb with ⟨rfl, rfl⟩ | ⟨t, z, rfl, st', nr⟩
          · walk_at "ax_go"
            intro t nt
            refine ⟨Same.updn sm nt, _, _, _, rfl, .inr ⟨t, st, rfl, SqT.of upd_same, ?_⟩⟩
            rw [tk]
            exact near_one _ _
          · walk_at "ax_go"
            refine r_if (fun c => ?_) (fun c => ?_)
            · walk_at "ax_go"
              intro t2 nt
              refine ⟨Same.updn sm nt, _, _, _, rfl, .inr ⟨t2, st, rfl, SqT.of upd_same, ?_⟩⟩
              rw [tk]
              exact near_lt nr c
            · walk_at "ax_go"
              refine ⟨sm, _, _, _, rfl, .inr ⟨t, z, rfl, st', ?_⟩⟩
              rw [tk]
              exact near_ge nr c
      · rintro σ' H' ⟨sm, b, y1, y2, rfl, ⟨z, _⟩ | ⟨t, z, rfl, st', nr⟩⟩
        · cases z
        · walk_at "ax_go"
          exact k z H' nr (s1.trans sm)
    · walk_at "ax_go"
      exact k
    · walk_at "ax_go"
      exact k
theorem c_nearest_to {T : Txt K mg} {H : Hp} {Q : VK} {E : XK} {a : Addr} {lo hi w : Int} (s : SqT K H a [.int lo, .int hi]) (r : Rg lo hi) (b : 0 ≤ w ∧ w ≤ 3000000) (h : ∀ z H', Near (gapI lo hi w) steps z → Same H H' → Q (.int z) H') : sp_nearest_to T [.ref a, .int w] H Q E := ⟨_, _, rfl, .inl ⟨lo, hi, w, ⟨a, rfl, s, r⟩, rfl, b, h⟩⟩
local macro_rules | `(tactic| walk_at "ax_call") => `(tactic| ((with_reducible refine' c_nearest_to ?s ?r ?b ?_); (case s => walk_at "ax_seq"); (case r => walk_at "ax_rg"); (case b => exact ⟨by omega, by omega⟩)))
/-! ### out_of_order -/
def sp_out_of_order (T : Txt K mg) : Sp := fun vs H Q E => ∃ (x : V), vs = [x] ∧ ((∃ lo hi, IsRg K H x lo hi ∧ ∀ D us H', Same H H' → H D = none → H' D = some (.lst us) → DpAll K H' us ((oooP lo hi steps).map pairD) → Q (.ref D) H') ∨ (NotRg K H x ∧ E (.ref T.BadRange.C) none H))
theorem ok_out_of_order (T : Txt K mg) : FnOk P w K mg base (L2.CX P w) 4 T.out_of_order.f T.out_of_order.fd ["span"] (sp_out_of_order T) := by
  refine T.out_of_order.F.okX sc_out_of_order (fun vs H Q E h => ?_) (fun cdv A outer s H vs Q E hr h => ?_)
  · obtain ⟨x, rfl, _⟩ := h; rfl
  · refine ⟨_, (pss_cons (ps_expr (pe_call (ok_check_range T) (hr.mono (by decide)) rfl T.check_range.g T.check_range.F.kp T.check_range.b .nil (passes_call (takes_of rfl rfl rfl rfl) (fun _ _ _ _ h => h)) (pa_cons (pv 0) pa_nil)))
        (pss_cons (ps_set (i := 1) sc_out_of_order.nd rfl (Or.inl rfl) (pe_lst pa_nil))
        (pss_cons (ps_for (passes_of rfl) rfl (pi_list (pe_call0 (ok_nice_steps T) (hr.mono (by decide)) rfl T.nice_steps.g T.nice_steps.F.kp T.nice_steps.b .nil pass0)) (pg_name (i := 2) sc_out_of_order.nd rfl (Or.inl rfl))
          (pss_one (ps_for (passes_of rfl) rfl (pi_list (pe_call0 (ok_nice_steps T) (hr.mono (by decide)) rfl T.nice_steps.g T.nice_steps.F.kp T.nice_steps.b .nil pass0)) (pg_name (i := 3) sc_out_of_order.nd rfl (Or.inl rfl))
          (pss_one (ps_if (PW.pt (pw_and (pt_cmpR op_lt (pv 2) (pv 3) (nomark _)) (pw_and1 (pt_cmpR op_lt (pe_call (ok_count_of T) (hr.mono (by decide)) rfl T.count_of.g T.count_of.F.kp T.count_of.b .nil pass0 (pa_cons (pv 0) (pa_cons (pv 2) pa_nil))) (pe_call (ok_count_of T) (hr.mono (by decide)) rfl T.count_of.g T.count_of.F.kp T.count_of.b .nil pass0 (pa_cons (pv 0) (pa_cons (pv 3) pa_nil))) (nomark _)))))
          (pss_one (ps_expr (pe_bm PySem.F.plainAttrs_list PySem.F.slot_list_append PySem.F.type_list_append mt_append (pv 1) (pa_cons (pe_tup (pa_cons (pv 2) (pa_cons (pv 3) pa_nil))) pa_nil))))
          pss_nil)))))
        (pss_one (ps_ret (pv 1)))))), ?_⟩
    try dsimp only [cxOf]
    obtain ⟨x, rfl, k⟩ := h
    rcases k with ⟨lo, hi, ⟨a, rfl, s, r⟩, k⟩ | ⟨n, k⟩
    · walk_at "ax_go"
      intro D nD
      have pn : ∀ l : List (Int × Int), noLists (l.map pairD) = true := fun l => noLists_of fun d hd => by
        obtain ⟨q, _, rfl⟩ := List.mem_map.mp hd
        rfl
      have row_s : ∀ st (j : Nat) (o : Int), steps[j]? = some o → rowP lo hi st (steps.take (j + 1)) = rowP lo hi st (steps.take j) ++ (if st < o ∧ cnt lo hi st < cnt lo hi o then [(st, o)] else []) := fun st j o e => by
        rw [List.take_succ, e]
        unfold rowP
        rw [List.filter_append, List.map_append]
        congr 1
        by_cases c1 : st < o
        · by_cases c2 : cnt lo hi st < cnt lo hi o
          · simp [c1, c2]
          · simp [c1, c2]
        · simp [c1]
      have row_l : ∀ st (l : List Int), (rowP lo hi st l).length ≤ l.length := fun st l => by
        unfold rowP
        rw [List.length_map]
        exact List.length_filter_le _ _
      have ooo_s : ∀ (i : Nat) (st : Int), steps[i]? = some st → oooP lo hi (steps.take (i + 1)) = oooP lo hi (steps.take i) ++ rowP lo hi st steps := fun i st e => by
        rw [List.take_succ, e]
        unfold oooP
        rw [List.flatMap_append]
        simp
      have ooo_l : ∀ l : List Int, (oooP lo hi l).length ≤ 18 * l.length := fun l => by
        induction l with
        | nil => exact Nat.le_refl _
        | cons y t ih =>
          have e : oooP lo hi (y :: t) = rowP lo hi y steps ++ oooP lo hi t := rfl
          have h1 := row_l y steps
          have h2 : steps.length = 18 := rfl
          rw [e, List.length_append, List.length_cons]
          omega
      walk_at "ax_go"
      intro p H1 s1 np hp
      have s01 := (same_new (o := .lst []) nD).trans s1
      have nDp : p ≠ D := fun z => by
        subst z
        rw [upd_same] at np
        cases np
      walk_at "ax_go"
      refine for_list (xs := steps.map V.int) (fun i σ' H' => Same H H' ∧ H' p = some (.lst (steps.map V.int)) ∧ (∃ y1 y2, σ' = [some (.ref a), some (.ref D), y1, y2]) ∧ ∃ us, H' D = some (.lst us) ∧ DpAll K H' us ((oooP lo hi (steps.take i)).map pairD)) ⟨s01, hp, ⟨none, none, rfl⟩, [], s1 _ _ upd_same, .nil⟩ (fun i σ' H' hi q => SqL.of q.2.1) ?_ ?_
      · rintro i x σ' H' hx ⟨sm, hp', ⟨y1, y2, rfl⟩, us, hD, da⟩
        rw [List.getElem?_map] at hx
        cases e : steps[i]? with
        | none =>
          rw [e] at hx
          cases hx
        | some st =>
          rw [e] at hx
          cases hx
          obtain ⟨b1, b2⟩ := step_bounds st (List.mem_of_getElem? e)
          have hi18 : i < 18 := (List.getElem?_eq_some_iff.mp e).1
          have lt : (oooP lo hi (steps.take i)).length ≤ 18 * 18 := by
            have h1 := ooo_l (steps.take i)
            have h2 : (steps.take i).length ≤ 18 := by
              rw [List.length_take]
              omega
            omega
          walk_at "ax_go"
          intro p2 H2 s2 np2 hp2
          have nD2 : p2 ≠ D := fun z => by
            subst z
            rw [hD] at np2
            cases np2
          walk_at "ax_go"
          refine for_list (xs := steps.map V.int) (fun j σ2 H3 => Same H H3 ∧ H3 p = some (.lst (steps.map V.int)) ∧ H3 p2 = some (.lst (steps.map V.int)) ∧ (∃ y2, σ2 = [some (.ref a), some (.ref D), some (.int st), y2]) ∧ ∃ us, H3 D = some (.lst us) ∧ DpAll K H3 us ((oooP lo hi (steps.take i) ++ rowP lo hi st (steps.take j)).map pairD)) ⟨sm.trans s2, s2 _ _ hp', hp2, ⟨y2, rfl⟩, us, s2 _ _ hD, ?_⟩ (fun j σ2 H3 hj q => SqL.of q.2.2.1) ?_ ?_
          · have e0 : rowP lo hi st (steps.take 0) = [] := rfl
            rw [e0, List.append_nil]
            exact DpAll.to s2 da
          · rintro j x σ2 H3 hx ⟨sm3, hp3, hp23, ⟨y2', rfl⟩, us3, hD3, da3⟩
            rw [List.getElem?_map] at hx
            cases e2 : steps[j]? with
            | none =>
              rw [e2] at hx
              cases hx
            | some o =>
              rw [e2] at hx
              cases hx
              obtain ⟨c1, c2⟩ := step_bounds o (List.mem_of_getElem? e2)
              have sa := Same.seqT sm3 s
              have len3 := dpa_len da3
              rw [List.length_map, List.length_append] at len3
              have rl := row_l st (steps.take j)
              have rl2 : (steps.take j).length ≤ 18 := by
                rw [List.length_take]
                exact Nat.min_le_right _ _
              have rs := row_s st j o e2
              walk_at "ax_go"
              refine r_if (fun c => ?_) (fun c => ?_)
              · walk_at "ax_go"
                refine r_if (fun c' => ?_) (fun c' => ?_)
                · walk_at "ax_go"
                  intro t nt
                  rw [if_pos ⟨c, c'⟩] at rs
                  walk_at "ax_go"
                  have hDt : upd H3 t (.tup [V.int st, V.int o]) D = some (.lst us3) := at_updn nt hD3
                  refine r_append hDt (by rw [sizeLine_eq]; omega) ?_
                  walk_at "ax_go"
                  have ntD : t ≠ D := fun z => by
                    subst z
                    rw [hD3] at nt
                    cases nt
                  refine ⟨fun b u eb => ?_, ?_, ?_, ⟨_, rfl⟩, us3 ++ [.ref t], upd_same, ?_⟩
                  · have nb : b ≠ D := ne_of_none eb nD
                    rw [upd_ne nb]
                    exact at_updn nt (sm3 b u eb)
                  · rw [upd_ne nDp]
                    exact at_updn nt hp3
                  · rw [upd_ne nD2]
                    exact at_updn nt hp23
                  · rw [rs, ← List.append_assoc, List.map_append]
                    refine DpAll.app ?_ (.cons ?_ .nil)
                    · exact dpa_lst hDt (pn _) (DpAll.to (same_new nt) da3) ⟨_, rfl⟩
                    · exact .tup (seqT_lst hDt (SqT.of upd_same)) (.cons (.int _) (.cons (.int _) .nil))
                · rw [if_neg (fun z => c' z.2)] at rs
                  walk_at "ax_go"
                  refine ⟨sm3, hp3, hp23, ⟨_, rfl⟩, us3, hD3, ?_⟩
                  rw [rs, List.append_nil]
                  exact da3
              · rw [if_neg (fun z => c z.1)] at rs
                walk_at "ax_go"
                refine ⟨sm3, hp3, hp23, ⟨_, rfl⟩, us3, hD3, ?_⟩
                rw [rs, List.append_nil]
                exact da3
          · rintro σ2 H3 ⟨sm3, hp3, hp23, ⟨y2', rfl⟩, us3, hD3, da3⟩
            refine ⟨sm3, hp3, ⟨_, _, rfl⟩, us3, hD3, ?_⟩
            rw [ooo_s i st e]
            exact da3
      · rintro σ' H' ⟨sm, hp', ⟨y1, y2, rfl⟩, us, hD, da⟩
        walk_at "ax_go"
        exact k D us H' sm nD hD da
    · walk_at "ax_go"
      exact k
theorem c_out_of_order {T : Txt K mg} {H : Hp} {Q : VK} {E : XK} {a : Addr} {lo hi : Int} (s : SqT K H a [.int lo, .int hi]) (r : Rg lo hi) (h : ∀ D us H', Same H H' → H D = none → H' D = some (.lst us) → DpAll K H' us ((oooP lo hi steps).map pairD) → Q (.ref D) H') : sp_out_of_order T [.ref a] H Q E := ⟨_, rfl, .inl ⟨lo, hi, ⟨a, rfl, s, r⟩, h⟩⟩
local macro_rules | `(tactic| walk_at "ax_call") => `(tactic| ((with_reducible refine' c_out_of_order ?s ?r ?_); (case s => walk_at "ax_seq"); (case r => walk_at "ax_rg")))
/-! ### empty_steps -/
def sp_empty_steps (T : Txt K mg) : Sp := fun vs H Q E => ∃ (x : V), vs = [x] ∧ ((∃ lo hi, IsRg K H x lo hi ∧ ∀ p H', Same H H' → H p = none → H' p = some (.lst ((emptyL lo hi).map V.int)) → Q (.ref p) H') ∨ (NotRg K H x ∧ E (.ref T.BadRange.C) none H))
theorem ok_empty_steps (T : Txt K mg) : FnOk P w K mg base (L2.CX P w) 4 T.empty_steps.f T.empty_steps.fd ["span"] (sp_empty_steps T) := by
  refine T.empty_steps.F.okX sc_empty_steps (fun vs H Q E h => ?_) (fun cdv A outer s H vs Q E hr h => ?_)
  · obtain ⟨x, rfl, _⟩ := h; rfl
  · refine ⟨_, (pss_cons (ps_expr (pe_call (ok_check_range T) (hr.mono (by decide)) rfl T.check_range.g T.check_range.F.kp T.check_range.b .nil (passes_call (takes_of rfl rfl rfl rfl) (fun _ _ _ _ h => h)) (pa_cons (pv 0) pa_nil)))
        (pss_one (ps_ret (pe_lc (own := [("step", 1)]) rfl sc_empty_steps.nd (pi_list (pe_call0 (ok_nice_steps T) (hr.mono (by decide)) rfl T.nice_steps.g T.nice_steps.F.kp T.nice_steps.b .nil pass0)) (blkOk_by (N := ["span", "step"]) (sc := defScope s_empty_steps) (by decide +kernel)) (fun _ _ _ _ _ => (pg_name (i := 1) sc_empty_steps.nd rfl (Or.inl rfl))) (fun _ _ _ _ _ => (pts_one (pt_cmpR op_eq (pe_call (ok_count_of T) (hr.mono (by decide)) rfl T.count_of.g T.count_of.F.kp T.count_of.b .nil pass0 (pa_cons (pv 0) (pa_cons (pv 1) pa_nil))) pe_int (nomark _)))) (fun _ _ _ _ _ => (pv 1)))))), ?_⟩
    try dsimp only [cxOf]
    obtain ⟨x, rfl, k⟩ := h
    rcases k with ⟨lo, hi, ⟨a, rfl, s, r⟩, k⟩ | ⟨n, k⟩
    · walk_at "ax_go"
      intro p H1 s1 np hp
      walk_at "ax_go"
      refine lc_ints (p := fun x => decide (cnt lo hi x = 0)) (f := V.int) (by decide) (SqL.of hp) (fun i H3 Qt hi s3 q => ?_) (fun i H3 Q' hi hp s3 q => ?_) (fun D H3 s3 nD hD => ?_)
      · obtain ⟨b1, b2⟩ := step_bounds i hi
        have sa := Same.seqT (s1.trans s3) s
        walk_at "ax_go"
        exact q _ (Same.refl _)
      · walk_at "ax_go"
        exact q _ (Same.refl _)
      exact k D H3 (s1.trans s3) (s1.free nD) hD
    · walk_at "ax_go"
      exact k
theorem c_empty_steps {T : Txt K mg} {H : Hp} {Q : VK} {E : XK} {a : Addr} {lo hi : Int} (s : SqT K H a [.int lo, .int hi]) (r : Rg lo hi) (h : ∀ p H', Same H H' → H p = none → H' p = some (.lst ((emptyL lo hi).map V.int)) → Q (.ref p) H') : sp_empty_steps T [.ref a] H Q E := ⟨_, rfl, .inl ⟨lo, hi, ⟨a, rfl, s, r⟩, h⟩⟩
local macro_rules | `(tactic| walk_at "ax_call") => `(tactic| ((with_reducible refine' c_empty_steps ?s ?r ?_); (case s => walk_at "ax_seq"); (case r => walk_at "ax_rg")))
/-! ### outward -/
def sp_outward (T : Txt K mg) : Sp := fun vs H Q E => ∃ (x y : V), vs = [x, y] ∧ ((∃ lo hi st, IsRg K H x lo hi ∧ y = .int st ∧ st ∈ steps ∧ ∀ p H', Same H H' → H p = none → H' p = some (.tup [.int (lst lo st), .int (fst hi st)]) → Q (.ref p) H') ∨ errRS K H x y T.BadRange.C T.BadStep.C E)
theorem ok_outward (T : Txt K mg) : FnOk P w K mg base (L2.CX P w) 4 T.outward.f T.outward.fd ["span", "step"] (sp_outward T) := by
  refine T.outward.F.okX sc_outward (fun vs H Q E h => ?_) (fun cdv A outer s H vs Q E hr h => ?_)
  · obtain ⟨x, y, rfl, _⟩ := h; rfl
  · refine ⟨_, (pss_cons (ps_expr (pe_call (ok_check_range T) (hr.mono (by decide)) rfl T.check_range.g T.check_range.F.kp T.check_range.b .nil (passes_call (takes_of rfl rfl rfl rfl) (fun _ _ _ _ h => h)) (pa_cons (pv 0) pa_nil)))
        (pss_cons (ps_expr (pe_call (ok_check_step T) (hr.mono (by decide)) rfl T.check_step.g T.check_step.F.kp T.check_step.b .nil (passes_call (takes_of rfl rfl rfl rfl) (fun _ _ _ _ h => h)) (pa_cons (pv 1) pa_nil)))
        (pss_one (ps_ret (pe_tup (pa_cons (pe_op op_mul (pe_op op_fdiv (pe_ix ix_tup (pv 0) pe_int (fun _ _ => rfl)) (pv 1)) (pv 1)) (pa_cons (pe_op op_mul (pe_un un_neg (pe_op op_fdiv (pe_un un_neg (pe_ix ix_tup (pv 0) pe_int (fun _ _ => rfl))) (pv 1))) (pv 1)) pa_nil))))))), ?_⟩
    try dsimp only [cxOf]
    obtain ⟨x, y, rfl, k⟩ := h
    rcases k with ⟨lo, hi, st, ⟨a, rfl, s, r⟩, rfl, m, k⟩ | ⟨n, k⟩ | ⟨⟨lo, hi, a, rfl, s, r⟩, n, k⟩
    · obtain ⟨b1, b2⟩ := step_bounds st m
      walk_at "ax_go"
      intro H' sm
      walk_at "ax_go"
      intro p np
      exact k p _ (Same.updn sm np) (sm.free np) upd_same
    · walk_at "ax_go"
      exact k
    · walk_at "ax_go"
      exact k
theorem c_outward {T : Txt K mg} {H : Hp} {Q : VK} {E : XK} {a : Addr} {lo hi st : Int} (s : SqT K H a [.int lo, .int hi]) (r : Rg lo hi) (m : st ∈ steps) (h : ∀ p H', Same H H' → H p = none → H' p = some (.tup [.int (lst lo st), .int (fst hi st)]) → Q (.ref p) H') : sp_outward T [.ref a, .int st] H Q E := ⟨_, _, rfl, .inl ⟨lo, hi, st, ⟨a, rfl, s, r⟩, rfl, m, h⟩⟩
local macro_rules | `(tactic| walk_at "ax_call") => `(tactic| ((with_reducible refine' c_outward ?s ?r ?m ?_); (case s => walk_at "ax_seq"); (case r => walk_at "ax_rg"); (case m => walk_at "ax_st")))
/-! ### inward -/
def sp_inward (T : Txt K mg) : Sp := fun vs H Q E => ∃ (x y : V), vs = [x, y] ∧ ((∃ lo hi st, IsRg K H x lo hi ∧ y = .int st ∧ st ∈ steps ∧ ((cnt lo hi st = 0 ∧ ∀ H', Same H H' → E (.ref T.NotFound.C) none H') ∨ (cnt lo hi st ≠ 0 ∧ ∀ p H', Same H H' → H p = none → H' p = some (.tup [.int (fst lo st), .int (lst hi st)]) → Q (.ref p) H'))) ∨ errRS K H x y T.BadRange.C T.BadStep.C E)
theorem ok_inward (T : Txt K mg) : FnOk P w K mg base (L2.CX P w) 4 T.inward.f T.inward.fd ["span", "step"] (sp_inward T) := by
  refine T.inward.F.okX sc_inward (fun vs H Q E h => ?_) (fun cdv A outer s H vs Q E hr h => ?_)
  · obtain ⟨x, y, rfl, _⟩ := h; rfl
  · refine ⟨_, (pss_cons (ps_expr (pe_call (ok_check_range T) (hr.mono (by decide)) rfl T.check_range.g T.check_range.F.kp T.check_range.b .nil (passes_call (takes_of rfl rfl rfl rfl) (fun _ _ _ _ h => h)) (pa_cons (pv 0) pa_nil)))
        (pss_cons (ps_expr (pe_call (ok_check_step T) (hr.mono (by decide)) rfl T.check_step.g T.check_step.F.kp T.check_step.b .nil (passes_call (takes_of rfl rfl rfl rfl) (fun _ _ _ _ h => h)) (pa_cons (pv 1) pa_nil)))
        (pss_cons (ps_if (pt_cmpR op_eq (pe_call (ok_count_of T) (hr.mono (by decide)) rfl T.count_of.g T.count_of.F.kp T.count_of.b .nil pass0 (pa_cons (pv 0) (pa_cons (pv 1) pa_nil))) pe_int (nomark _))
          (pss_one (ps_raise rfl (takes_of rfl rfl rfl rfl) (pmk_own PySem.F.excBase_ValueError T.NotFound.x T.NotFound.g T.NotFound.k (raises_own T.NotFound.b T.NotFound.t) rfl)))
          pss_nil)
        (pss_one (ps_ret (pe_tup (pa_cons (pe_call (ok_first_of T) (hr.mono (by decide)) rfl T.first_of.g T.first_of.F.kp T.first_of.b .nil pass0 (pa_cons (pv 0) (pa_cons (pv 1) pa_nil))) (pa_cons (pe_op op_mul (pe_op op_fdiv (pe_ix ix_tup (pv 0) pe_int (fun _ _ => rfl)) (pv 1)) (pv 1)) pa_nil)))))))), ?_⟩
    try dsimp only [cxOf]
    obtain ⟨x, y, rfl, k⟩ := h
    rcases k with ⟨lo, hi, st, ⟨a, rfl, s, r⟩, rfl, m, ⟨c, k⟩ | ⟨c, k⟩⟩ | ⟨n, k⟩ | ⟨⟨lo, hi, a, rfl, s, r⟩, n, k⟩
    · obtain ⟨b1, b2⟩ := step_bounds st m
      walk_at "ax_go"
      intro H' sm
      walk_at "ax_go"
      exact k H' sm
    · obtain ⟨b1, b2⟩ := step_bounds st m
      walk_at "ax_go"
      intro H' sm
      walk_at "ax_go"
      intro p np
      exact k p _ (Same.updn sm np) (sm.free np) upd_same
    · walk_at "ax_go"
      exact k
    · walk_at "ax_go"
      exact k
theorem c_inward {T : Txt K mg} {H : Hp} {Q : VK} {E : XK} {a : Addr} {lo hi st : Int} (s : SqT K H a [.int lo, .int hi]) (r : Rg lo hi) (m : st ∈ steps) (c : cnt lo hi st ≠ 0) (h : ∀ p H', Same H H' → H p = none → H' p = some (.tup [.int (fst lo st), .int (lst hi st)]) → Q (.ref p) H') : sp_inward T [.ref a, .int st] H Q E := ⟨_, _, rfl, .inl ⟨lo, hi, st, ⟨a, rfl, s, r⟩, rfl, m, .inr ⟨c, h⟩⟩⟩
theorem c_inwardN {T : Txt K mg} {H : Hp} {Q : VK} {E : XK} {a : Addr} {lo hi st : Int} (s : SqT K H a [.int lo, .int hi]) (r : Rg lo hi) (m : st ∈ steps) (c : cnt lo hi st = 0) (h : ∀ H', Same H H' → E (.ref T.NotFound.C) none H') : sp_inward T [.ref a, .int st] H Q E := ⟨_, _, rfl, .inl ⟨lo, hi, st, ⟨a, rfl, s, r⟩, rfl, m, .inl ⟨c, h⟩⟩⟩
/-! ### is_round -/
def sp_is_round (T : Txt K mg) : Sp := fun vs H Q E => ∃ (x y : V), vs = [x, y] ∧ ((∃ lo hi st, IsRg K H x lo hi ∧ y = .int st ∧ st ∈ steps ∧ ∀ H', Same H H' → Q (.bl (decide (lo % st = 0 ∧ hi % st = 0))) H') ∨ errRS K H x y T.BadRange.C T.BadStep.C E)
theorem ok_is_round (T : Txt K mg) : FnOk P w K mg base (L2.CX P w) 4 T.is_round.f T.is_round.fd ["span", "step"] (sp_is_round T) := by
  refine T.is_round.F.okX sc_is_round (fun vs H Q E h => ?_) (fun cdv A outer s H vs Q E hr h => ?_)
  · obtain ⟨x, y, rfl, _⟩ := h; rfl
  · refine ⟨_, (pss_cons (ps_expr (pe_call (ok_check_range T) (hr.mono (by decide)) rfl T.check_range.g T.check_range.F.kp T.check_range.b .nil (passes_call (takes_of rfl rfl rfl rfl) (fun _ _ _ _ h => h)) (pa_cons (pv 0) pa_nil)))
        (pss_cons (ps_expr (pe_call (ok_check_step T) (hr.mono (by decide)) rfl T.check_step.g T.check_step.F.kp T.check_step.b .nil (passes_call (takes_of rfl rfl rfl rfl) (fun _ _ _ _ h => h)) (pa_cons (pv 1) pa_nil)))
        (pss_one (ps_ret (pe_and (pe_cmpR op_eq (pe_op op_mod (pe_ix ix_tup (pv 0) pe_int (fun _ _ => rfl)) (pv 1)) pe_int (nomark _)) (pe_one (pe_cmpR op_eq (pe_op op_mod (pe_ix ix_tup (pv 0) pe_int (fun _ _ => rfl)) (pv 1)) pe_int (nomark _)))))))), ?_⟩
    try dsimp only [cxOf]
    obtain ⟨x, y, rfl, k⟩ := h
    rcases k with ⟨lo, hi, st, ⟨a, rfl, s, r⟩, rfl, m, k⟩ | ⟨n, k⟩ | ⟨⟨lo, hi, a, rfl, s, r⟩, n, k⟩
    · obtain ⟨b1, b2⟩ := step_bounds st m
      walk_at "ax_go"
      intro H' sm
      have k2 := k H' sm
      walk_at "ax_go"
      by_cases c : lo % st = 0
      · refine r_dt c ?_
        walk_at "ax_go"
        have e : decide (lo % st = 0 ∧ hi % st = 0) = decide (hi % st = 0) := by simp [c]
        rw [e] at k2
        exact k2
      · refine r_df c ?_
        have e : decide (lo % st = 0 ∧ hi % st = 0) = false := by simp [c]
        rw [e] at k2
        exact k2
    · walk_at "ax_go"
      exact k
    · walk_at "ax_go"
      exact k
theorem c_is_round {T : Txt K mg} {H : Hp} {Q : VK} {E : XK} {a : Addr} {lo hi st : Int} (s : SqT K H a [.int lo, .int hi]) (r : Rg lo hi) (m : st ∈ steps) (h : ∀ H', Same H H' → Q (.bl (decide (lo % st = 0 ∧ hi % st = 0))) H') : sp_is_round T [.ref a, .int st] H Q E := ⟨_, _, rfl, .inl ⟨lo, hi, st, ⟨a, rfl, s, r⟩, rfl, m, h⟩⟩
local macro_rules | `(tactic| walk_at "ax_call") => `(tactic| ((with_reducible refine' c_is_round ?s ?r ?m ?_); (case s => walk_at "ax_seq"); (case r => walk_at "ax_rg"); (case m => walk_at "ax_st")))
/-! ### joined -/
def sp_joined (T : Txt K mg) : Sp := fun vs H Q E => ∃ (x y : V), vs = [x, y] ∧ ((∃ lo hi lo2 hi2, IsRg K H x lo hi ∧ IsRg K H y lo2 hi2 ∧ ∀ p, H p = none → Q (.ref p) (upd H p (.tup [.int (min lo lo2), .int (max hi hi2)]))) ∨ (NotRg K H x ∧ E (.ref T.BadRange.C) none H) ∨ ((∃ lo hi, IsRg K H x lo hi) ∧ NotRg K H y ∧ E (.ref T.BadRange.C) none H))
theorem ok_joined (T : Txt K mg) : FnOk P w K mg base (L2.CX P w) 4 T.joined.f T.joined.fd ["span", "other"] (sp_joined T) := by
  refine T.joined.F.okX sc_joined (fun vs H Q E h => ?_) (fun cdv A outer s H vs Q E hr h => ?_)
  · obtain ⟨x, y, rfl, _⟩ := h; rfl
  · refine ⟨_, (pss_cons (ps_expr (pe_call (ok_check_range T) (hr.mono (by decide)) rfl T.check_range.g T.check_range.F.kp T.check_range.b .nil (passes_call (takes_of rfl rfl rfl rfl) (fun _ _ _ _ h => h)) (pa_cons (pv 0) pa_nil)))
        (pss_cons (ps_expr (pe_call (ok_check_range T) (hr.mono (by decide)) rfl T.check_range.g T.check_range.F.kp T.check_range.b .nil (passes_call (takes_of rfl rfl rfl rfl) (fun _ _ _ _ h => h)) (pa_cons (pv 1) pa_nil)))
        (pss_one (ps_ret (pe_tup (pa_cons (pe_callB (xc_min2 rfl) (by rfl) T.z_min (by decide +kernel) (pa_cons (pe_ix ix_tup (pv 0) pe_int (fun _ _ => rfl)) (pa_cons (pe_ix ix_tup (pv 1) pe_int (fun _ _ => rfl)) pa_nil))) (pa_cons (pe_callB (xc_max2 rfl) (by rfl) T.z_max (by decide +kernel) (pa_cons (pe_ix ix_tup (pv 0) pe_int (fun _ _ => rfl)) (pa_cons (pe_ix ix_tup (pv 1) pe_int (fun _ _ => rfl)) pa_nil))) pa_nil))))))), ?_⟩
    try dsimp only [cxOf]
    obtain ⟨x, y, rfl, k⟩ := h
    rcases k with ⟨lo, hi, lo2, hi2, ⟨a, rfl, s, r⟩, ⟨b, rfl, s2, r2⟩, k⟩ | ⟨n, k⟩ | ⟨⟨lo, hi, a, rfl, s, r⟩, n, k⟩
    · walk_at "ax_go"
      intro p np
      exact k p np
    · walk_at "ax_go"
      exact k
    · walk_at "ax_go"
      exact k
theorem c_joined {T : Txt K mg} {H : Hp} {Q : VK} {E : XK} {a b : Addr} {lo hi lo2 hi2 : Int} (s : SqT K H a [.int lo, .int hi]) (s2 : SqT K H b [.int lo2, .int hi2]) (r : Rg lo hi) (r2 : Rg lo2 hi2) (h : ∀ p, H p = none → Q (.ref p) (upd H p (.tup [.int (min lo lo2), .int (max hi hi2)]))) : sp_joined T [.ref a, .ref b] H Q E := ⟨_, _, rfl, .inl ⟨lo, hi, lo2, hi2, ⟨a, rfl, s, r⟩, ⟨b, rfl, s2, r2⟩, h⟩⟩
local macro_rules | `(tactic| walk_at "ax_call") => `(tactic| ((with_reducible refine' c_joined ?s ?t ?r ?q ?_); (case s => walk_at "ax_seq"); (case t => walk_at "ax_seq"); (case r => walk_at "ax_rg"); (case q => walk_at "ax_rg")))
/-! ### met -/
def sp_met (T : Txt K mg) : Sp := fun vs H Q E => ∃ (x y : V), vs = [x, y] ∧ ((∃ lo hi lo2 hi2, IsRg K H x lo hi ∧ IsRg K H y lo2 hi2 ∧ ((max lo lo2 ≤ min hi hi2 ∧ ∀ p, H p = none → Q (.ref p) (upd H p (.tup [.int (max lo lo2), .int (min hi hi2)]))) ∨ (min hi hi2 < max lo lo2 ∧ E (.ref T.NotFound.C) none H))) ∨ (NotRg K H x ∧ E (.ref T.BadRange.C) none H) ∨ ((∃ lo hi, IsRg K H x lo hi) ∧ NotRg K H y ∧ E (.ref T.BadRange.C) none H))
theorem ok_met (T : Txt K mg) : FnOk P w K mg base (L2.CX P w) 4 T.met.f T.met.fd ["span", "other"] (sp_met T) := by
  refine T.met.F.okX sc_met (fun vs H Q E h => ?_) (fun cdv A outer s H vs Q E hr h => ?_)
  · obtain ⟨x, y, rfl, _⟩ := h; rfl
  · refine ⟨_, (pss_cons (ps_expr (pe_call (ok_check_range T) (hr.mono (by decide)) rfl T.check_range.g T.check_range.F.kp T.check_range.b .nil (passes_call (takes_of rfl rfl rfl rfl) (fun _ _ _ _ h => h)) (pa_cons (pv 0) pa_nil)))
        (pss_cons (ps_expr (pe_call (ok_check_range T) (hr.mono (by decide)) rfl T.check_range.g T.check_range.F.kp T.check_range.b .nil (passes_call (takes_of rfl rfl rfl rfl) (fun _ _ _ _ h => h)) (pa_cons (pv 1) pa_nil)))
        (pss_cons (ps_if (pt_cmpR op_gt (pe_callB (xc_max2 rfl) (by rfl) T.z_max (by decide +kernel) (pa_cons (pe_ix ix_tup (pv 0) pe_int (fun _ _ => rfl)) (pa_cons (pe_ix ix_tup (pv 1) pe_int (fun _ _ => rfl)) pa_nil))) (pe_callB (xc_min2 rfl) (by rfl) T.z_min (by decide +kernel) (pa_cons (pe_ix ix_tup (pv 0) pe_int (fun _ _ => rfl)) (pa_cons (pe_ix ix_tup (pv 1) pe_int (fun _ _ => rfl)) pa_nil))) (nomark _))
          (pss_one (ps_raise rfl (takes_of rfl rfl rfl rfl) (pmk_own PySem.F.excBase_ValueError T.NotFound.x T.NotFound.g T.NotFound.k (raises_own T.NotFound.b T.NotFound.t) rfl)))
          pss_nil)
        (pss_one (ps_ret (pe_tup (pa_cons (pe_callB (xc_max2 rfl) (by rfl) T.z_max (by decide +kernel) (pa_cons (pe_ix ix_tup (pv 0) pe_int (fun _ _ => rfl)) (pa_cons (pe_ix ix_tup (pv 1) pe_int (fun _ _ => rfl)) pa_nil))) (pa_cons (pe_callB (xc_min2 rfl) (by rfl) T.z_min (by decide +kernel) (pa_cons (pe_ix ix_tup (pv 0) pe_int (fun _ _ => rfl)) (pa_cons (pe_ix ix_tup (pv 1) pe_int (fun _ _ => rfl)) pa_nil))) pa_nil)))))))), ?_⟩
    try dsimp only [cxOf]
    obtain ⟨x, y, rfl, k⟩ := h
    rcases k with ⟨lo, hi, lo2, hi2, ⟨a, rfl, s, r⟩, ⟨b, rfl, s2, r2⟩, ⟨c, k⟩ | ⟨c, k⟩⟩ | ⟨n, k⟩ | ⟨⟨lo, hi, a, rfl, s, r⟩, n, k⟩
    · walk_at "ax_go"
      intro p np
      exact k p np
    · walk_at "ax_go"
      exact k
    · walk_at "ax_go"
      exact k
    · walk_at "ax_go"
      exact k
theorem c_met {T : Txt K mg} {H : Hp} {Q : VK} {E : XK} {a b : Addr} {lo hi lo2 hi2 : Int} (s : SqT K H a [.int lo, .int hi]) (s2 : SqT K H b [.int lo2, .int hi2]) (r : Rg lo hi) (r2 : Rg lo2 hi2) (c : max lo lo2 ≤ min hi hi2) (h : ∀ p, H p = none → Q (.ref p) (upd H p (.tup [.int (max lo lo2), .int (min hi hi2)]))) : sp_met T [.ref a, .ref b] H Q E := ⟨_, _, rfl, .inl ⟨lo, hi, lo2, hi2, ⟨a, rfl, s, r⟩, ⟨b, rfl, s2, r2⟩, .inl ⟨c, h⟩⟩⟩
theorem c_metN {T : Txt K mg} {H : Hp} {Q : VK} {E : XK} {a b : Addr} {lo hi lo2 hi2 : Int} (s : SqT K H a [.int lo, .int hi]) (s2 : SqT K H b [.int lo2, .int hi2]) (r : Rg lo hi) (r2 : Rg lo2 hi2) (c : min hi hi2 < max lo lo2) (h : E (.ref T.NotFound.C) none H) : sp_met T [.ref a, .ref b] H Q E := ⟨_, _, rfl, .inl ⟨lo, hi, lo2, hi2, ⟨a, rfl, s, r⟩, ⟨b, rfl, s2, r2⟩, .inr ⟨c, h⟩⟩⟩
/-! ### spare -/
def sp_spare (T : Txt K mg) : Sp := fun vs H Q E => ∃ (x y : V), vs = [x, y] ∧ ((∃ lo hi st, IsRg K H x lo hi ∧ y = .int st ∧ st ∈ steps ∧ ∀ H', Same H H' → Q (.int (fst hi st - lst lo st - (hi - lo))) H') ∨ errRS K H x y T.BadRange.C T.BadStep.C E)
theorem ok_spare (T : Txt K mg) : FnOk P w K mg base (L2.CX P w) 5 T.spare.f T.spare.fd ["span", "step"] (sp_spare T) := by
  refine T.spare.F.okX sc_spare (fun vs H Q E h => ?_) (fun cdv A outer s H vs Q E hr h => ?_)
  · obtain ⟨x, y, rfl, _⟩ := h; rfl
  · refine ⟨_, (pss_cons (ps_set (i := 2) sc_spare.nd rfl (Or.inl rfl) (pe_call (ok_outward T) (hr.mono (by decide)) rfl T.outward.g T.outward.F.kp T.outward.b .nil (passes_call (takes_of rfl rfl rfl rfl) (fun _ _ _ _ h => h)) (pa_cons (pv 0) (pa_cons (pv 1) pa_nil))))
        (pss_one (ps_ret (pe_op op_sub (pe_op op_sub (pe_ix ix_tup (pv 2) pe_int (fun _ _ => rfl)) (pe_ix ix_tup (pv 2) pe_int (fun _ _ => rfl))) (pe_op op_sub (pe_ix ix_tup (pv 0) pe_int (fun _ _ => rfl)) (pe_ix ix_tup (pv 0) pe_int (fun _ _ => rfl))))))), ?_⟩
    try dsimp only [cxOf]
    obtain ⟨x, y, rfl, k⟩ := h
    rcases k with ⟨lo, hi, st, ⟨a, rfl, s, r⟩, rfl, m, k⟩ | k
    · walk_at "ax_go"
      intro p H' sm np hp
      walk_at "ax_go"
      exact k H' sm
    · walk_at "ax_go"
      exact ⟨_, _, rfl, .inr k⟩
theorem c_spare {T : Txt K mg} {H : Hp} {Q : VK} {E : XK} {a : Addr} {lo hi st : Int} (s : SqT K H a [.int lo, .int hi]) (r : Rg lo hi) (m : st ∈ steps) (h : ∀ H', Same H H' → Q (.int (fst hi st - lst lo st - (hi - lo))) H') : sp_spare T [.ref a, .int st] H Q E := ⟨_, _, rfl, .inl ⟨lo, hi, st, ⟨a, rfl, s, r⟩, rfl, m, h⟩⟩
local macro_rules | `(tactic| walk_at "ax_call") => `(tactic| ((with_reducible refine' c_spare ?s ?r ?m ?_); (case s => walk_at "ax_seq"); (case r => walk_at "ax_rg"); (case m => walk_at "ax_st")))
/-! ### shared_marks -/
def sp_shared_marks (T : Txt K mg) : Sp := fun vs H Q E => ∃ (x y z : V), vs = [x, y, z] ∧ ((∃ lo hi s o, IsRg K H x lo hi ∧ y = .int s ∧ s ∈ steps ∧ z = .int o ∧ o ∈ steps ∧ ∀ H', Same H H' → Q (.int (cnt lo hi (lcmS s o))) H') ∨ errRS K H x y T.BadRange.C T.BadStep.C E ∨ ((∃ lo hi, IsRg K H x lo hi) ∧ (∃ s, y = .int s ∧ s ∈ steps) ∧ NotStep K H z ∧ ∀ H', Same H H' → E (.ref T.BadStep.C) none H'))
theorem ok_shared_marks (T : Txt K mg) : FnOk P w K mg base (L2.CX P w) 4 T.shared_marks.f T.shared_marks.fd ["span", "step", "other"] (sp_shared_marks T) := by
  refine T.shared_marks.F.okX sc_shared_marks (fun vs H Q E h => ?_) (fun cdv A outer s H vs Q E hr h => ?_)
  · obtain ⟨x, y, z, rfl, _⟩ := h; rfl
  · refine ⟨_, (pss_cons (ps_expr (pe_call (ok_check_range T) (hr.mono (by decide)) rfl T.check_range.g T.check_range.F.kp T.check_range.b .nil (passes_call (takes_of rfl rfl rfl rfl) (fun _ _ _ _ h => h)) (pa_cons (pv 0) pa_nil)))
        (pss_cons (ps_expr (pe_call (ok_check_step T) (hr.mono (by decide)) rfl T.check_step.g T.check_step.F.kp T.check_step.b .nil (passes_call (takes_of rfl rfl rfl rfl) (fun _ _ _ _ h => h)) (pa_cons (pv 1) pa_nil)))
        (pss_cons (ps_expr (pe_call (ok_check_step T) (hr.mono (by decide)) rfl T.check_step.g T.check_step.F.kp T.check_step.b .nil (passes_call (takes_of rfl rfl rfl rfl) (fun _ _ _ _ h => h)) (pa_cons (pv 2) pa_nil)))
        (pss_cons (ps_par (i := 3) (j := 4) rfl sc_shared_marks.nd rfl rfl (by decide) rfl rfl (pa_cons (pv 1) (pa_cons (pv 2) pa_nil)) (by rfl))
        (pss_cons (ps_while (passes_of rfl) (pt_cmpR op_ne (pv 4) pe_int (nomark _))
          (pss_one (ps_par (i := 3) (j := 4) rfl sc_shared_marks.nd rfl rfl (by decide) rfl rfl (pa_cons (pv 4) (pa_cons (pe_op op_mod (pv 3) (pv 4)) pa_nil)) (by rfl))))
        (pss_one (ps_ret (pe_call (ok_count_of T) (hr.mono (by decide)) rfl T.count_of.g T.count_of.F.kp T.count_of.b .nil pass0 (pa_cons (pv 0) (pa_cons (pe_op op_fdiv (pe_op op_mul (pv 1) (pv 2)) (pv 3)) pa_nil)))))))))), ?_⟩
    try dsimp only [cxOf]
    obtain ⟨x, y, z, rfl, k⟩ := h
    rcases k with ⟨lo, hi, st, o, ⟨a, rfl, s, r⟩, rfl, m, rfl, mo, k⟩ | (⟨n, k⟩ | ⟨⟨lo, hi, a, rfl, s, r⟩, n, k⟩) | ⟨⟨lo, hi, a, rfl, s, r⟩, ⟨st, rfl, m⟩, n, k⟩
    · obtain ⟨b1, b2⟩ := step_bounds st m
      obtain ⟨b3, b4⟩ := step_bounds o mo
      obtain ⟨g, g0, g1, g2, g3, g4, g5⟩ := gsi_pair m mo
      walk_at "ax_go"
      intro H1 s1
      walk_at "ax_go"
      intro H2 s2
      walk_at "ax_go"
      refine ⟨fun mm σ' H' => ∃ j : Nat, mm = 30 - j ∧ j ≤ 30 ∧ σ' = [some (.ref a), some (.int st), some (.int o), some (.int (gsi j (st, o)).1), some (.int (gsi j (st, o)).2)] ∧ H' = H2, ⟨30, 0, rfl, by omega, rfl, rfl⟩, ?_⟩
      rintro mm σ' H' ⟨j, rfl, hj, rfl, rfl⟩
      obtain ⟨p1, p2, p3, p4⟩ := g j hj
      walk_at "ax_go"
      by_cases c : (gsi j (st, o)).2 = 0
      · have e : gsi 30 (st, o) = gsi j (st, o) := by
          have := gsi_fix c (30 - j)
          rw [show j + (30 - j) = 30 by omega] at this
          exact this
        refine r_ndf c ?_
        have s' := Same.seqT (s1.trans s2) s
        rw [← e]
        rw [← e] at p1 p2
        unfold lcmS at k
        walk_at "ax_go"
        exact k _ (s1.trans s2)
      · have hj2 : j < 30 := by
          refine Nat.lt_of_le_of_ne hj fun z => ?_
          subst z
          exact c g0
        refine r_ndt c ?_
        have e : gsi (j + 1) (st, o) = ((gsi j (st, o)).2, (gsi j (st, o)).1 % (gsi j (st, o)).2) := by
          show gst (gsi j (st, o)) = _
          unfold gst
          rw [if_neg c]
        refine ⟨fun σ2 H2' => σ2 = [some (.ref a), some (.int st), some (.int o), some (.int (gsi (j + 1) (st, o)).1), some (.int (gsi (j + 1) (st, o)).2)] ∧ H2' = H', fun σ2 H3 hN => ⟨30 - (j + 1), by omega, j + 1, rfl, by omega, hN⟩, ?_⟩
        walk_at "ax_go"
        exact ⟨by rw [e]; rfl, rfl⟩
    · walk_at "ax_go"
      exact k
    · walk_at "ax_go"
      exact k
    · walk_at "ax_go"
      intro H1 s1
      have n := NotStep.same s1 n
      walk_at "ax_go"
      intro H2 s2
      exact k _ (s1.trans s2)
theorem c_shared_marks {T : Txt K mg} {H : Hp} {Q : VK} {E : XK} {a : Addr} {lo hi s o : Int} (sq : SqT K H a [.int lo, .int hi]) (r : Rg lo hi) (m : s ∈ steps) (m2 : o ∈ steps) (h : ∀ H', Same H H' → Q (.int (cnt lo hi (lcmS s o))) H') : sp_shared_marks T [.ref a, .int s, .int o] H Q E := ⟨_, _, _, rfl, .inl ⟨lo, hi, s, o, ⟨a, rfl, sq, r⟩, rfl, m, rfl, m2, h⟩⟩
local macro_rules | `(tactic| walk_at "ax_call") => `(tactic| ((with_reducible refine' c_shared_marks ?s ?r ?m ?n ?_); (case s => walk_at "ax_seq"); (case r => walk_at "ax_rg"); (case m => walk_at "ax_st"); (case n => walk_at "ax_st")))
/-! ### check_many_counting -/
def sp_check_many_counting (T : Txt K mg) : Sp := fun vs H Q E => ∃ (v : V), vs = [v] ∧ ((∃ i, v = .int i ∧ (0 ≤ i ∧ i ≤ 1000) ∧ Q .non H) ∨ (NotNum K H v 0 1000 ∧ E (.ref T.BadNumber.C) none H))
theorem ok_check_many_counting (T : Txt K mg) : FnOk P w K mg base (L2.CX P w) 2 T.check_many_counting.f T.check_many_counting.fd ["value"] (sp_check_many_counting T) := by
  refine T.check_many_counting.F.okX sc_check_many_counting (fun vs H Q E h => ?_) (fun cdv A outer s H vs Q E hr h => ?_)
  · obtain ⟨v, rfl, _⟩ := h; rfl
  · refine ⟨_, (pss_one (ps_if (pt_not (pt_val (pe_call (ok_is_int T) (hr.mono (by decide)) rfl T.is_int.g T.is_int.F.kp T.is_int.b .nil pass0 (pa_cons (pv 0) (pa_cons pe_int (pa_cons pe_int pa_nil))))))
          (pss_one (ps_raise rfl (takes_of rfl rfl rfl rfl) (pmk_own PySem.F.excBase_ValueError T.BadNumber.x T.BadNumber.g T.BadNumber.k (raises_own T.BadNumber.b T.BadNumber.t) rfl)))
          pss_nil)), ?_⟩
    try dsimp only [cxOf]
    obtain ⟨v, rfl, k⟩ := h
    rcases k with ⟨i, rfl, ⟨b1, b2⟩, k⟩ | ⟨⟨i, rfl, c⟩ | n, k⟩
    · walk_at "ax_go"
      have b : 0 ≤ i ∧ i ≤ 1000 := ⟨b1, b2⟩
      walk_at "ax_go"
      exact k
    · walk_at "ax_go"
      exact k
    · walk_at "ax_go"
      exact k
theorem c_check_many_counting {T : Txt K mg} {H : Hp} {Q : VK} {E : XK} {i : Int} (b : 0 ≤ i ∧ i ≤ 1000) (h : Q .non H) : sp_check_many_counting T [.int i] H Q E := ⟨_, rfl, .inl ⟨i, rfl, b, h⟩⟩
theorem c_check_many_countingN {T : Txt K mg} {H : Hp} {Q : VK} {E : XK} {v : V} (n : NotNum K H v 0 1000) (h : E (.ref T.BadNumber.C) none H) : sp_check_many_counting T [v] H Q E := ⟨v, rfl, .inr ⟨n, h⟩⟩
local macro_rules | `(tactic| walk_at "ax_call") => `(tactic| ((with_reducible refine' c_check_many_counting ?b ?_); (case b => exact ⟨by omega, by omega⟩)))
local macro_rules | `(tactic| walk_at "ax_call") => `(tactic| ((with_reducible refine' c_check_many_countingN ?n ?_); (case n => assumption)))
/-! ### check_bounds -/
def sp_check_bounds (T : Txt K mg) : Sp := fun vs H Q E => ∃ (v : V), vs = [v] ∧ ((∃ lo hi, IsRg K H v lo hi ∧ ((hi - lo ≤ 2000 ∧ Q .non H) ∨ (2000 < hi - lo ∧ E (.ref T.BadNumber.C) none H))) ∨ (NotRg K H v ∧ E (.ref T.BadRange.C) none H))
theorem ok_check_bounds (T : Txt K mg) : FnOk P w K mg base (L2.CX P w) 4 T.check_bounds.f T.check_bounds.fd ["bounds"] (sp_check_bounds T) := by
  refine T.check_bounds.F.okX sc_check_bounds (fun vs H Q E h => ?_) (fun cdv A outer s H vs Q E hr h => ?_)
  · obtain ⟨v, rfl, _⟩ := h; rfl
  · refine ⟨_, (pss_cons (ps_expr (pe_call (ok_check_range T) (hr.mono (by decide)) rfl T.check_range.g T.check_range.F.kp T.check_range.b .nil (passes_call (takes_of rfl rfl rfl rfl) (fun _ _ _ _ h => h)) (pa_cons (pv 0) pa_nil)))
        (pss_one (ps_if (pt_cmpR op_gt (pe_op op_sub (pe_ix ix_tup (pv 0) pe_int (fun _ _ => rfl)) (pe_ix ix_tup (pv 0) pe_int (fun _ _ => rfl))) pe_int (nomark _))
          (pss_one (ps_raise rfl (takes_of rfl rfl rfl rfl) (pmk_own PySem.F.excBase_ValueError T.BadNumber.x T.BadNumber.g T.BadNumber.k (raises_own T.BadNumber.b T.BadNumber.t) rfl)))
          pss_nil))), ?_⟩
    try dsimp only [cxOf]
    obtain ⟨v, rfl, k⟩ := h
    rcases k with ⟨lo, hi, ⟨a, rfl, s, r⟩, ⟨c, k⟩ | ⟨c, k⟩⟩ | ⟨n, k⟩
    · walk_at "ax_go"
      exact k
    · walk_at "ax_go"
      exact k
    · walk_at "ax_go"
      exact k
theorem c_check_bounds {T : Txt K mg} {H : Hp} {Q : VK} {E : XK} {a : Addr} {lo hi : Int} (s : SqT K H a [.int lo, .int hi]) (r : Rg lo hi) (c : hi - lo ≤ 2000) (h : Q .non H) : sp_check_bounds T [.ref a] H Q E := ⟨_, rfl, .inl ⟨lo, hi, ⟨a, rfl, s, r⟩, .inl ⟨c, h⟩⟩⟩
theorem c_check_boundsW {T : Txt K mg} {H : Hp} {Q : VK} {E : XK} {a : Addr} {lo hi : Int} (s : SqT K H a [.int lo, .int hi]) (r : Rg lo hi) (c : 2000 < hi - lo) (h : E (.ref T.BadNumber.C) none H) : sp_check_bounds T [.ref a] H Q E := ⟨_, rfl, .inl ⟨lo, hi, ⟨a, rfl, s, r⟩, .inr ⟨c, h⟩⟩⟩
theorem c_check_boundsN {T : Txt K mg} {H : Hp} {Q : VK} {E : XK} {v : V} (n : NotRg K H v) (h : E (.ref T.BadRange.C) none H) : sp_check_bounds T [v] H Q E := ⟨v, rfl, .inr ⟨n, h⟩⟩
local macro_rules | `(tactic| walk_at "ax_call") => `(tactic| ((with_reducible refine' c_check_bounds ?s ?r ?c ?_); (case s => walk_at "ax_seq"); (case r => walk_at "ax_rg"); (case c => omega)))
local macro_rules | `(tactic| walk_at "ax_call") => `(tactic| ((with_reducible refine' c_check_boundsW ?s ?r ?c ?_); (case s => walk_at "ax_seq"); (case r => walk_at "ax_rg"); (case c => omega)))
local macro_rules | `(tactic| walk_at "ax_call") => `(tactic| ((with_reducible refine' c_check_boundsN ?n ?_); (case n => walk_at "ax_seq")))
/-! ### count_ranges_of -/
def sp_count_ranges_of (_ : Txt K mg) : Sp := fun vs H Q _ => ∃ (a : Addr) (lo hi st m : Int), vs = [.ref a, .int st, .int m] ∧ SqT K H a [.int lo, .int hi] ∧ Rg lo hi ∧ hi - lo ≤ 2000 ∧ (0 < st ∧ st ≤ 500000) ∧ (0 ≤ m ∧ m ≤ 1000) ∧ Q (.int (goodR lo hi st m).length) H
theorem ok_count_ranges_of (T : Txt K mg) : FnOk P w K mg base CX0 1 T.count_ranges_of.f T.count_ranges_of.fd ["bounds", "step", "many"] (sp_count_ranges_of T) := by
  refine T.count_ranges_of.F.ok sc_count_ranges_of (fun vs H Q E h => ?_) (fun cdv A outer s H vs Q E hr h => ?_)
  · obtain ⟨a, lo, hi, st, m, rfl, _⟩ := h; rfl
  · refine ⟨_, (pss_cons (ps_set (i := 3) sc_count_ranges_of.nd rfl (Or.inl rfl) pe_int)
        (pss_cons (ps_for PassesOwn.never rfl (pi_range2 rfl T.z_range (pa_cons (pe_ix ix_tup (pv 0) pe_int (fun _ _ => rfl)) (pa_cons (pe_op op_add (pe_ix ix_tup (pv 0) pe_int (fun _ _ => rfl)) pe_int) pa_nil))) (pg_name (i := 4) sc_count_ranges_of.nd rfl (Or.inl rfl))
          (pss_cons (ps_set (i := 5) sc_count_ranges_of.nd rfl (Or.inl rfl) (pe_op op_mul (pe_un un_neg (pe_op op_fdiv (pe_un un_neg (pv 4)) (pv 1))) (pv 1)))
        (pss_one (ps_if (pt_cmpR op_eq (pv 2) pe_int (nomark _))
          (pss_one (ps_aug (i := 3) sc_count_ranges_of.nd rfl (Or.inl rfl) (pe_callB (xc_max2 rfl) (by rfl) T.z_max (by decide +kernel) (pa_cons pe_int (pa_cons (pe_op op_add (pe_op op_sub (pe_callB (xc_min2 rfl) (by rfl) T.z_min (by decide +kernel) (pa_cons (pe_op op_sub (pv 5) pe_int) (pa_cons (pe_ix ix_tup (pv 0) pe_int (fun _ _ => rfl)) pa_nil))) (pv 4)) pe_int) pa_nil))) ip_add))
          (pss_cons (ps_set (i := 6) sc_count_ranges_of.nd rfl (Or.inl rfl) (pe_op op_add (pv 5) (pe_op op_mul (pe_op op_sub (pv 2) pe_int) (pv 1))))
        (pss_one (ps_aug (i := 3) sc_count_ranges_of.nd rfl (Or.inl rfl) (pe_callB (xc_max2 rfl) (by rfl) T.z_max (by decide +kernel) (pa_cons pe_int (pa_cons (pe_op op_add (pe_op op_sub (pe_callB (xc_min2 rfl) (by rfl) T.z_min (by decide +kernel) (pa_cons (pe_op op_sub (pe_op op_add (pv 6) (pv 1)) pe_int) (pa_cons (pe_ix ix_tup (pv 0) pe_int (fun _ _ => rfl)) pa_nil))) (pe_callB (xc_max2 rfl) (by rfl) T.z_max (by decide +kernel) (pa_cons (pv 6) (pa_cons (pv 4) pa_nil)))) pe_int) pa_nil))) ip_add)))))))
        (pss_one (ps_ret (pv 3))))), ?_⟩
    try dsimp only [cxOf]
    obtain ⟨a, lo, hi, st, m, rfl, s, ⟨g1, g2, g3⟩, w, ⟨b1, b2⟩, ⟨m1, m2⟩, k⟩ := h
    walk_at "ax_go"
    refine for_range (lo := lo) (n := (hi + 1 - lo).toNat) (fun i σ' H' => H' = H ∧ ∃ y1 y2 y3, σ' = [some (.ref a), some (.int st), some (.int m), some (.int (((rgI lo (lo + i)).flatMap fun l => (rowR l hi st m).map fun h => (l, h)).length : Nat)), y1, y2, y3]) ⟨rfl, none, none, none, ?_⟩ ?_ ?_
    · rw [rgI_nil (by omega)]
      rfl
    · rintro i σ' H' hi' ⟨rfl, y1, y2, y3, rfl⟩
      have e1 : lo + ((i + 1 : Nat) : Int) = lo + (i : Int) + 1 := by omega
      have nx : (((rgI lo (lo + ((i + 1 : Nat) : Int))).flatMap fun l => (rowR l hi st m).map fun h => (l, h)).length : Int) = (((rgI lo (lo + i)).flatMap fun l => (rowR l hi st m).map fun h => (l, h)).length : Int) + ((rowR (lo + i) hi st m).length : Int) := by
        rw [e1, rgI_snoc (by omega), List.flatMap_append, List.length_append]
        have e2 : (List.flatMap (fun l => (rowR l hi st m).map fun h => (l, h)) [lo + (i : Int)]).length = (rowR (lo + (i : Int)) hi st m).length := by
          rw [List.flatMap_cons, List.flatMap_nil, List.append_nil, List.length_map]
        rw [e2]
        omega
      walk_at "ax_go"
      refine r_if (fun c => ?_) (fun c => ?_)
      · subst c
        have r0 := rowR_len0 (lo + i) hi st b1
        have f0 : -(-(lo + (i : Int)) / st) * st = fst (lo + i) st := rfl
        walk_at "ax_go"
        rw [nx, r0]
        exact ⟨rfl, _, _, _, rfl⟩
      · have r1 := rowR_len1 (lo + i) hi st m b1 (by omega)
        have f0 : -(-(lo + (i : Int)) / st) * st = fst (lo + i) st := rfl
        walk_at "ax_go"
        rw [nx, r1]
        exact ⟨rfl, _, _, _, rfl⟩
    rintro σ' H' ⟨rfl, y1, y2, y3, rfl⟩
    walk_at "ax_go"
    have e : lo + (((hi + 1 - lo).toNat : Nat) : Int) = hi + 1 := by omega
    rw [e, ← goodR_eq]
    exact k
theorem c_count_ranges_of {T : Txt K mg} {H : Hp} {Q : VK} {E : XK} {a : Addr} {lo hi st m : Int} (s : SqT K H a [.int lo, .int hi]) (r : Rg lo hi) (w : hi - lo ≤ 2000) (b : 0 < st ∧ st ≤ 500000) (b2 : 0 ≤ m ∧ m ≤ 1000) (h : Q (.int (goodR lo hi st m).length) H) : sp_count_ranges_of T [.ref a, .int st, .int m] H Q E := ⟨a, lo, hi, st, m, rfl, s, r, w, b, b2, h⟩
local macro_rules | `(tactic| walk_at "ax_call") => `(tactic| ((with_reducible refine' c_count_ranges_of ?s ?r ?w ?b ?c ?_); (case s => walk_at "ax_seq"); (case r => walk_at "ax_rg"); (case w => omega); (case b => exact ⟨by omega, by omega⟩); (case c => exact ⟨by omega, by omega⟩)))
/-! ### ranges_with -/
/-- bounds, a step, a number: what is raised -/
def errBSM (K : PySem.W.Frag) (H : Hp) (x y z : V) (cR cS cN : Addr) (E : XK) : Prop :=
  (NotRg K H x ∧ E (.ref cR) none H) ∨ (∃ lo hi, IsRg K H x lo hi ∧ 2000 < hi - lo ∧ E (.ref cN) none H) ∨ ((∃ lo hi, IsRg K H x lo hi ∧ hi - lo ≤ 2000) ∧ NotStep K H y ∧ ∀ H', Same H H' → E (.ref cS) none H') ∨
    ((∃ lo hi st, IsRg K H x lo hi ∧ hi - lo ≤ 2000 ∧ y = .int st ∧ st ∈ steps) ∧ NotNum K H z 0 1000 ∧ ∀ H', Same H H' → E (.ref cN) none H')
def sp_ranges_with (T : Txt K mg) : Sp := fun vs H Q E => ∃ (x y z : V), vs = [x, y, z] ∧ ((∃ lo hi st m, IsRg K H x lo hi ∧ hi - lo ≤ 2000 ∧ y = .int st ∧ st ∈ steps ∧ z = .int m ∧ (0 ≤ m ∧ m ≤ 1000) ∧ ∀ H', Same H H' → Q (.int (goodR lo hi st m).length) H') ∨ errBSM K H x y z T.BadRange.C T.BadStep.C T.BadNumber.C E)
theorem ok_ranges_with (T : Txt K mg) : FnOk P w K mg base (L2.CX P w) 5 T.ranges_with.f T.ranges_with.fd ["bounds", "step", "many"] (sp_ranges_with T) := by
  refine T.ranges_with.F.okX sc_ranges_with (fun vs H Q E h => ?_) (fun cdv A outer s H vs Q E hr h => ?_)
  · obtain ⟨x, y, z, rfl, _⟩ := h; rfl
  · refine ⟨_, (pss_cons (ps_expr (pe_call (ok_check_bounds T) (hr.mono (by decide)) rfl T.check_bounds.g T.check_bounds.F.kp T.check_bounds.b .nil (passes_call (takes_of rfl rfl rfl rfl) (fun _ _ _ _ h => h)) (pa_cons (pv 0) pa_nil)))
        (pss_cons (ps_expr (pe_call (ok_check_step T) (hr.mono (by decide)) rfl T.check_step.g T.check_step.F.kp T.check_step.b .nil (passes_call (takes_of rfl rfl rfl rfl) (fun _ _ _ _ h => h)) (pa_cons (pv 1) pa_nil)))
        (pss_cons (ps_expr (pe_call (ok_check_many_counting T) (hr.mono (by decide)) rfl T.check_many_counting.g T.check_many_counting.F.kp T.check_many_counting.b .nil (passes_call (takes_of rfl rfl rfl rfl) (fun _ _ _ _ h => h)) (pa_cons (pv 2) pa_nil)))
        (pss_one (ps_ret (pe_call (ok_count_ranges_of T) (hr.mono (by decide)) rfl T.count_ranges_of.g T.count_ranges_of.F.kp T.count_ranges_of.b .nil pass0 (pa_cons (pv 0) (pa_cons (pv 1) (pa_cons (pv 2) pa_nil))))))))), ?_⟩
    try dsimp only [cxOf]
    obtain ⟨x, y, z, rfl, k⟩ := h
    rcases k with ⟨lo, hi, st, m, ⟨a, rfl, s, r⟩, w, rfl, ms, rfl, ⟨m1, m2⟩, k⟩ | ⟨n, k⟩ | ⟨lo, hi, ⟨a, rfl, s, r⟩, w, k⟩ | ⟨⟨lo, hi, ⟨a, rfl, s, r⟩, w⟩, n, k⟩ | ⟨⟨lo, hi, st, ⟨a, rfl, s, r⟩, w, rfl, ms⟩, n, k⟩
    · obtain ⟨b1, b2⟩ := step_bounds st ms
      walk_at "ax_go"
      intro H1 s1
      walk_at "ax_go"
      exact k _ s1
    · walk_at "ax_go"
      exact k
    · walk_at "ax_go"
      exact k
    · walk_at "ax_go"
      exact k
    · walk_at "ax_go"
      intro H1 s1
      have n' := n.same s1
      walk_at "ax_go"
      exact k _ s1
theorem c_ranges_with {T : Txt K mg} {H : Hp} {Q : VK} {E : XK} {a : Addr} {lo hi st m : Int} (s : SqT K H a [.int lo, .int hi]) (r : Rg lo hi) (w : hi - lo ≤ 2000) (ms : st ∈ steps) (b : 0 ≤ m ∧ m ≤ 1000) (h : ∀ H', Same H H' → Q (.int (goodR lo hi st m).length) H') : sp_ranges_with T [.ref a, .int st, .int m] H Q E := ⟨_, _, _, rfl, .inl ⟨lo, hi, st, m, ⟨a, rfl, s, r⟩, w, rfl, ms, rfl, b, h⟩⟩
local macro_rules | `(tactic| walk_at "ax_call") => `(tactic| ((with_reducible refine' c_ranges_with ?s ?r ?w ?m ?b ?_); (case s => walk_at "ax_seq"); (case r => walk_at "ax_rg"); (case w => omega); (case m => walk_at "ax_st"); (case b => exact ⟨by omega, by omega⟩)))
/-! ### first_range -/
def sp_first_range (T : Txt K mg) : Sp := fun vs H Q E => ∃ (x y z : V), vs = [x, y, z] ∧ ((∃ lo hi st m, IsRg K H x lo hi ∧ hi - lo ≤ 2000 ∧ y = .int st ∧ st ∈ steps ∧ z = .int m ∧ (0 ≤ m ∧ m ≤ 1000) ∧ ((goodR lo hi st m = [] ∧ ∀ H', Same H H' → E (.ref T.NotFound.C) none H') ∨ (∃ q, (goodR lo hi st m).head? = some q ∧ ∀ p H', Same H H' → H p = none → H' p = some (.tup [.int q.1, .int q.2]) → Q (.ref p) H'))) ∨ errBSM K H x y z T.BadRange.C T.BadStep.C T.BadNumber.C E)
theorem ok_first_range (T : Txt K mg) : FnOk P w K mg base (L2.CX P w) 5 T.first_range.f T.first_range.fd ["bounds", "step", "many"] (sp_first_range T) := by
  refine T.first_range.F.okX sc_first_range (fun vs H Q E h => ?_) (fun cdv A outer s H vs Q E hr h => ?_)
  · obtain ⟨x, y, z, rfl, _⟩ := h; rfl
  · refine ⟨_, (pss_cons (ps_expr (pe_call (ok_check_bounds T) (hr.mono (by decide)) rfl T.check_bounds.g T.check_bounds.F.kp T.check_bounds.b .nil (passes_call (takes_of rfl rfl rfl rfl) (fun _ _ _ _ h => h)) (pa_cons (pv 0) pa_nil)))
        (pss_cons (ps_expr (pe_call (ok_check_step T) (hr.mono (by decide)) rfl T.check_step.g T.check_step.F.kp T.check_step.b .nil (passes_call (takes_of rfl rfl rfl rfl) (fun _ _ _ _ h => h)) (pa_cons (pv 1) pa_nil)))
        (pss_cons (ps_expr (pe_call (ok_check_many_counting T) (hr.mono (by decide)) rfl T.check_many_counting.g T.check_many_counting.F.kp T.check_many_counting.b .nil (passes_call (takes_of rfl rfl rfl rfl) (fun _ _ _ _ h => h)) (pa_cons (pv 2) pa_nil)))
        (pss_cons (ps_for (passes_of rfl) rfl (pi_range2 rfl T.z_range (pa_cons (pe_ix ix_tup (pv 0) pe_int (fun _ _ => rfl)) (pa_cons (pe_op op_add (pe_ix ix_tup (pv 0) pe_int (fun _ _ => rfl)) pe_int) pa_nil))) (pg_name (i := 3) sc_first_range.nd rfl (Or.inl rfl))
          (pss_cons (ps_set (i := 4) sc_first_range.nd rfl (Or.inl rfl) (pe_op op_mul (pe_un un_neg (pe_op op_fdiv (pe_un un_neg (pv 3)) (pv 1))) (pv 1)))
        (pss_cons (ps_set (i := 5) sc_first_range.nd rfl (Or.inl rfl) (pe_ifExp (pt_cmpR op_eq (pv 2) pe_int (nomark _)) (pv 3) (pe_op op_add (pv 4) (pe_op op_mul (pe_op op_sub (pv 2) pe_int) (pv 1)))))
        (pss_one (ps_if (PW.pt (pw_and (pt_cmpR op_le (pv 5) (pe_ix ix_tup (pv 0) pe_int (fun _ _ => rfl)) (nomark _)) (pw_and1 (pt_cmpR op_eq (pe_call (ok_count_of T) (hr.mono (by decide)) rfl T.count_of.g T.count_of.F.kp T.count_of.b .nil pass0 (pa_cons (pe_tup (pa_cons (pv 3) (pa_cons (pv 5) pa_nil))) (pa_cons (pv 1) pa_nil))) (pv 2) (nomark _)))))
          (pss_one (ps_ret (pe_tup (pa_cons (pv 3) (pa_cons (pv 5) pa_nil)))))
          pss_nil)))))
        (pss_one (ps_raise rfl (takes_of rfl rfl rfl rfl) (pmk_own PySem.F.excBase_ValueError T.NotFound.x T.NotFound.g T.NotFound.k (raises_own T.NotFound.b T.NotFound.t) rfl))))))), ?_⟩
    try dsimp only [cxOf]
    obtain ⟨x, y, z, rfl, k⟩ := h
    rcases k with ⟨lo, hi, st, m, ⟨a, rfl, s, r⟩, w, rfl, ms, rfl, ⟨m1, m2⟩, k⟩ | ⟨n, k⟩ | ⟨lo, hi, ⟨a, rfl, s, r⟩, w, k⟩ | ⟨⟨lo, hi, ⟨a, rfl, s, r⟩, w⟩, n, k⟩ | ⟨⟨lo, hi, st, ⟨a, rfl, s, r⟩, w, rfl, ms⟩, n, k⟩
    · obtain ⟨b1, b2⟩ := step_bounds st ms
      obtain ⟨g1, g2, g3⟩ := id r
      walk_at "ax_go"
      intro H1 s1
      have sa := Same.seqT s1 s
      walk_at "ax_go"
      have split : ∀ l : Int, lo ≤ l → l ≤ hi + 1 → goodR lo hi st m = ((rgI lo l).flatMap fun l => (rowR l hi st m).map fun h => (l, h)) ++ goodR l hi st m := fun l h1 h2 => by
        rw [goodR_eq, goodR_eq, ← List.flatMap_append]
        congr 1
        unfold rgI
        have e1 : (hi + 1 - lo).toNat = (l - lo).toNat + (hi + 1 - l).toNat := by omega
        rw [e1, List.range_add, List.map_append, List.map_map]
        congr 1
        refine List.map_congr_left fun i _ => ?_
        show lo + (((l - lo).toNat + i : Nat) : Int) = l + (i : Int)
        omega
      refine for_range (lo := lo) (n := (hi + 1 - lo).toNat) (fun i σ' H' => Same H1 H' ∧ ((rgI lo (lo + i)).flatMap fun l => (rowR l hi st m).map fun h => (l, h)) = [] ∧ ∃ y1 y2 y3, σ' = [some (.ref a), some (.int st), some (.int m), y1, y2, y3]) ⟨Same.refl _, ?_, none, none, none, rfl⟩ ?_ ?_
      · rw [rgI_nil (by omega)]
        rfl
      · rintro i σ' H' hi' ⟨sm, em, y1, y2, y3, rfl⟩
        have sa' := Same.seqT sm sa
        have e1 : lo + ((i + 1 : Nat) : Int) = lo + (i : Int) + 1 := by omega
        have sp := split (lo + i) (by omega) (by omega)
        rw [em, List.nil_append, goodR_eq (lo + (i : Int)), rgI_cons (a := lo + (i : Int)) (by omega), List.flatMap_cons] at sp
        have nx : rowR (lo + i) hi st m = [] → ((rgI lo (lo + ((i + 1 : Nat) : Int))).flatMap fun l => (rowR l hi st m).map fun h => (l, h)) = [] := fun e => by
          rw [e1, rgI_snoc (by omega), List.flatMap_append, em, List.nil_append, List.flatMap_cons, e]
          rfl
        have f0 : -(-(lo + (i : Int)) / st) * st = fst (lo + i) st := rfl
        walk_at "ax_go"
        rw [f0]
        refine r_ifJ (.int (if m = 0 then lo + (i : Int) else fst (lo + i) st + (m - 1) * st)) (fun c Q' q => ?_) (fun c Q' q => ?_) ?_
        · rw [if_pos c] at q
          walk_at "ax_go"
          exact q
        · rw [if_neg c] at q
          walk_at "ax_go"
          exact q
        have rh := rowR_head (lo + i) hi st m _ (by omega) m1 (by omega) rfl
        generalize (if m = 0 then lo + (i : Int) else fst (lo + i) st + (m - 1) * st) = high at rh ⊢
        walk_at "ax_go"
        refine r_if (fun c => ?_) (fun c => ?_)
        · walk_at "ax_go"
          intro p np
          walk_at "ax_go"
          refine r_if (fun c' => ?_) (fun c' => ?_)
          · walk_at "ax_go"
            intro p2 np2
            have hh := rh.1 ⟨c, c'⟩
            have hg : (goodR lo hi st m).head? = some (lo + (i : Int), high) := by
              rw [sp]
              cases e : rowR (lo + i) hi st m with
              | nil =>
                rw [e] at hh
                cases hh
              | cons z zs =>
                rw [e] at hh
                cases hh
                rfl
            have s9 : Same H (upd (upd H' p (.tup [V.int (lo + (i : Int)), V.int high])) p2 (.tup [V.int (lo + (i : Int)), V.int high])) := Same.updn (Same.updn (s1.trans sm) np) np2
            rcases k with ⟨ek, _⟩ | ⟨q, eq, k⟩
            · rw [ek] at hg
              cases hg
            · rw [hg] at eq
              cases eq
              exact k p2 _ s9 ((s1.trans sm).free (Same.free (same_new np) np2)) upd_same
          · exact ⟨Same.updn sm np, nx (rh.2 fun z => c' z.2), _, _, _, rfl⟩
        · walk_at "ax_go"
          exact ⟨sm, nx (rh.2 fun z => c z.1), _, _, _, rfl⟩
      rintro σ' H' ⟨sm, em, y1, y2, y3, rfl⟩
      have e : lo + (((hi + 1 - lo).toNat : Nat) : Int) = hi + 1 := by omega
      rw [e, ← goodR_eq] at em
      walk_at "ax_go"
      rcases k with ⟨_, k⟩ | ⟨q, eq, _⟩
      · exact k _ (s1.trans sm)
      · rw [em] at eq
        cases eq
    · walk_at "ax_go"
      exact k
    · walk_at "ax_go"
      exact k
    · walk_at "ax_go"
      exact k
    · walk_at "ax_go"
      intro H1 s1
      have n' := n.same s1
      walk_at "ax_go"
      exact k _ s1
theorem c_first_range {T : Txt K mg} {H : Hp} {Q : VK} {E : XK} {a : Addr} {lo hi st m : Int} (s : SqT K H a [.int lo, .int hi]) (r : Rg lo hi) (w : hi - lo ≤ 2000) (ms : st ∈ steps) (b : 0 ≤ m ∧ m ≤ 1000) (h1 : goodR lo hi st m = [] → ∀ H', Same H H' → E (.ref T.NotFound.C) none H') (h2 : ∀ q, (goodR lo hi st m).head? = some q → ∀ p H', Same H H' → H p = none → H' p = some (.tup [.int q.1, .int q.2]) → Q (.ref p) H') : sp_first_range T [.ref a, .int st, .int m] H Q E := by
  refine ⟨_, _, _, rfl, .inl ⟨lo, hi, st, m, ⟨a, rfl, s, r⟩, w, rfl, ms, rfl, b, ?_⟩⟩
  cases e : goodR lo hi st m with
  | nil => exact .inl ⟨rfl, h1 e⟩
  | cons q t => exact .inr ⟨q, rfl, h2 q (by rw [e]; rfl)⟩
/-! ### checked -/
def sp_checked (T : Txt K mg) : Sp := fun vs H Q E => ∃ (a : Addr) (lo hi : Int), vs = [.ref a] ∧ SqT K H a [.int lo, .int hi] ∧ ((Rg lo hi ∧ Q (.ref a) H) ∨ (¬ Rg lo hi ∧ E (.ref T.BadRange.C) none H))
theorem ok_checked (T : Txt K mg) : FnOk P w K mg base (L2.CX P w) 3 T.checked.f T.checked.fd ["span"] (sp_checked T) := by
  refine T.checked.F.okX sc_checked (fun vs H Q E h => ?_) (fun cdv A outer s H vs Q E hr h => ?_)
  · obtain ⟨a, lo, hi, rfl, _⟩ := h; rfl
  · refine ⟨_, (pss_cons (ps_if (pt_not (pt_val (pe_call (ok_is_range T) (hr.mono (by decide)) rfl T.is_range.g T.is_range.F.kp T.is_range.b .nil pass0 (pa_cons (pv 0) pa_nil))))
          (pss_one (ps_raise rfl (takes_of rfl rfl rfl rfl) (pmk_own PySem.F.excBase_ValueError T.BadRange.x T.BadRange.g T.BadRange.k (raises_own T.BadRange.b T.BadRange.t) rfl)))
          pss_nil)
        (pss_one (ps_ret (pv 0)))), ?_⟩
    try dsimp only [cxOf]
    obtain ⟨a, lo, hi, rfl, s, ⟨r, k⟩ | ⟨r, k⟩⟩ := h
    · walk_at "ax_go"
      exact k
    · have n := notRg_of s r
      walk_at "ax_go"
      exact k
theorem c_checked {T : Txt K mg} {H : Hp} {Q : VK} {E : XK} {a : Addr} {lo hi : Int} (s : SqT K H a [.int lo, .int hi]) (r : Rg lo hi) (h : Q (.ref a) H) : sp_checked T [.ref a] H Q E := ⟨a, lo, hi, rfl, s, .inl ⟨r, h⟩⟩
theorem c_checkedN {T : Txt K mg} {H : Hp} {Q : VK} {E : XK} {a : Addr} {lo hi : Int} (s : SqT K H a [.int lo, .int hi]) (r : ¬ Rg lo hi) (h : E (.ref T.BadRange.C) none H) : sp_checked T [.ref a] H Q E := ⟨a, lo, hi, rfl, s, .inr ⟨r, h⟩⟩
/-! ### moved -/
def sp_moved (T : Txt K mg) : Sp := fun vs H Q E => ∃ (x y : V), vs = [x, y] ∧ ((∃ lo hi d, IsRg K H x lo hi ∧ y = .int d ∧ (-2000000 ≤ d ∧ d ≤ 2000000) ∧ ((Rg (lo + d) (hi + d) ∧ ∀ p, H p = none → Q (.ref p) (upd H p (.tup [.int (lo + d), .int (hi + d)]))) ∨ (¬ Rg (lo + d) (hi + d) ∧ ∀ H', Same H H' → E (.ref T.BadRange.C) none H'))) ∨ (NotRg K H x ∧ E (.ref T.BadRange.C) none H) ∨ ((∃ lo hi, IsRg K H x lo hi) ∧ NotNum K H y (-2000000) 2000000 ∧ E (.ref T.BadNumber.C) none H))
theorem ok_moved (T : Txt K mg) : FnOk P w K mg base (L2.CX P w) 4 T.moved.f T.moved.fd ["span", "by"] (sp_moved T) := by
  refine T.moved.F.okX sc_moved (fun vs H Q E h => ?_) (fun cdv A outer s H vs Q E hr h => ?_)
  · obtain ⟨x, y, rfl, _⟩ := h; rfl
  · refine ⟨_, (pss_cons (ps_expr (pe_call (ok_check_range T) (hr.mono (by decide)) rfl T.check_range.g T.check_range.F.kp T.check_range.b .nil (passes_call (takes_of rfl rfl rfl rfl) (fun _ _ _ _ h => h)) (pa_cons (pv 0) pa_nil)))
        (pss_cons (ps_if (pt_not (pt_val (pe_call (ok_is_int T) (hr.mono (by decide)) rfl T.is_int.g T.is_int.F.kp T.is_int.b .nil pass0 (pa_cons (pv 1) (pa_cons (pe_un un_neg pe_int) (pa_cons pe_int pa_nil))))))
          (pss_one (ps_raise rfl (takes_of rfl rfl rfl rfl) (pmk_own PySem.F.excBase_ValueError T.BadNumber.x T.BadNumber.g T.BadNumber.k (raises_own T.BadNumber.b T.BadNumber.t) rfl)))
          pss_nil)
        (pss_one (ps_ret (pe_call (ok_checked T) (hr.mono (by decide)) rfl T.checked.g T.checked.F.kp T.checked.b .nil (passes_call (takes_of rfl rfl rfl rfl) (fun _ _ _ _ h => h)) (pa_cons (pe_tup (pa_cons (pe_op op_add (pe_ix ix_tup (pv 0) pe_int (fun _ _ => rfl)) (pv 1)) (pa_cons (pe_op op_add (pe_ix ix_tup (pv 0) pe_int (fun _ _ => rfl)) (pv 1)) pa_nil))) pa_nil)))))), ?_⟩
    try dsimp only [cxOf]
    obtain ⟨x, y, rfl, k⟩ := h
    rcases k with ⟨lo, hi, d, ⟨a, rfl, s, r⟩, rfl, b0, ⟨g, k⟩ | ⟨g, k⟩⟩ | ⟨n, k⟩ | ⟨⟨lo, hi, a, rfl, s, r⟩, ⟨i, rfl, c⟩ | n, k⟩
    · have r0 := r
      obtain ⟨_, _, _⟩ := r0
      obtain ⟨_, _⟩ := b0
      walk_at "ax_go"
      intro p np
      walk_at "ax_go"
      refine c_checked (SqT.of upd_same) g ?_
      exact k p np
    · have r0 := r
      obtain ⟨_, _, _⟩ := r0
      obtain ⟨_, _⟩ := b0
      walk_at "ax_go"
      intro p np
      walk_at "ax_go"
      refine c_checkedN (SqT.of upd_same) g ?_
      exact k _ (same_new np)
    · walk_at "ax_go"
      exact k
    · walk_at "ax_go"
      exact k
    · walk_at "ax_go"
      exact k
theorem c_moved {T : Txt K mg} {H : Hp} {Q : VK} {E : XK} {a : Addr} {lo hi : Int} {d : Int} (s : SqT K H a [.int lo, .int hi]) (r : Rg lo hi) (b0 : -2000000 ≤ d ∧ d ≤ 2000000) (g : Rg (lo + d) (hi + d)) (h : ∀ p, H p = none → Q (.ref p) (upd H p (.tup [.int (lo + d), .int (hi + d)]))) : sp_moved T [.ref a, .int d] H Q E := ⟨_, _, rfl, .inl ⟨lo, hi, d, ⟨a, rfl, s, r⟩, rfl, b0, .inl ⟨g, h⟩⟩⟩
theorem c_movedN {T : Txt K mg} {H : Hp} {Q : VK} {E : XK} {a : Addr} {lo hi : Int} {d : Int} (s : SqT K H a [.int lo, .int hi]) (r : Rg lo hi) (b0 : -2000000 ≤ d ∧ d ≤ 2000000) (g : ¬ Rg (lo + d) (hi + d)) (h : ∀ H', Same H H' → E (.ref T.BadRange.C) none H') : sp_moved T [.ref a, .int d] H Q E := ⟨_, _, rfl, .inl ⟨lo, hi, d, ⟨a, rfl, s, r⟩, rfl, b0, .inr ⟨g, h⟩⟩⟩
/-! ### widened -/
def sp_widened (T : Txt K mg) : Sp := fun vs H Q E => ∃ (x y z : V), vs = [x, y, z] ∧ ((∃ lo hi dl dh, IsRg K H x lo hi ∧ y = .int dl ∧ (0 ≤ dl ∧ dl ≤ 2000000) ∧ z = .int dh ∧ (0 ≤ dh ∧ dh ≤ 2000000) ∧ ((Rg (lo - dl) (hi + dh) ∧ ∀ p, H p = none → Q (.ref p) (upd H p (.tup [.int (lo - dl), .int (hi + dh)]))) ∨ (¬ Rg (lo - dl) (hi + dh) ∧ ∀ H', Same H H' → E (.ref T.BadRange.C) none H'))) ∨ (NotRg K H x ∧ E (.ref T.BadRange.C) none H) ∨ ((∃ lo hi, IsRg K H x lo hi) ∧ NotNum K H y (0) 2000000 ∧ E (.ref T.BadNumber.C) none H) ∨ ((∃ lo hi, IsRg K H x lo hi) ∧ (∃ q0, y = .int q0 ∧ (0 ≤ q0 ∧ q0 ≤ 2000000)) ∧ NotNum K H z (0) 2000000 ∧ E (.ref T.BadNumber.C) none H))
theorem ok_widened (T : Txt K mg) : FnOk P w K mg base (L2.CX P w) 4 T.widened.f T.widened.fd ["span", "low", "high"] (sp_widened T) := by
  refine T.widened.F.okX sc_widened (fun vs H Q E h => ?_) (fun cdv A outer s H vs Q E hr h => ?_)
  · obtain ⟨x, y, z, rfl, _⟩ := h; rfl
  · refine ⟨_, (pss_cons (ps_expr (pe_call (ok_check_range T) (hr.mono (by decide)) rfl T.check_range.g T.check_range.F.kp T.check_range.b .nil (passes_call (takes_of rfl rfl rfl rfl) (fun _ _ _ _ h => h)) (pa_cons (pv 0) pa_nil)))
        (pss_cons (ps_if (PW.pt (pw_or (pt_not (pt_val (pe_call (ok_is_int T) (hr.mono (by decide)) rfl T.is_int.g T.is_int.F.kp T.is_int.b .nil pass0 (pa_cons (pv 1) (pa_cons pe_int (pa_cons pe_int pa_nil)))))) (pw_or1 (pt_not (pt_val (pe_call (ok_is_int T) (hr.mono (by decide)) rfl T.is_int.g T.is_int.F.kp T.is_int.b .nil pass0 (pa_cons (pv 2) (pa_cons pe_int (pa_cons pe_int pa_nil)))))))))
          (pss_one (ps_raise rfl (takes_of rfl rfl rfl rfl) (pmk_own PySem.F.excBase_ValueError T.BadNumber.x T.BadNumber.g T.BadNumber.k (raises_own T.BadNumber.b T.BadNumber.t) rfl)))
          pss_nil)
        (pss_one (ps_ret (pe_call (ok_checked T) (hr.mono (by decide)) rfl T.checked.g T.checked.F.kp T.checked.b .nil (passes_call (takes_of rfl rfl rfl rfl) (fun _ _ _ _ h => h)) (pa_cons (pe_tup (pa_cons (pe_op op_sub (pe_ix ix_tup (pv 0) pe_int (fun _ _ => rfl)) (pv 1)) (pa_cons (pe_op op_add (pe_ix ix_tup (pv 0) pe_int (fun _ _ => rfl)) (pv 2)) pa_nil))) pa_nil)))))), ?_⟩
    try dsimp only [cxOf]
    obtain ⟨x, y, z, rfl, k⟩ := h
    rcases k with ⟨lo, hi, dl, dh, ⟨a, rfl, s, r⟩, rfl, b0, rfl, b1, ⟨g, k⟩ | ⟨g, k⟩⟩ | ⟨n, k⟩ | ⟨⟨lo, hi, a, rfl, s, r⟩, ⟨i, rfl, c⟩ | n, k⟩ | ⟨⟨lo, hi, a, rfl, s, r⟩, ⟨_, rfl, _⟩, ⟨i, rfl, c⟩ | n, k⟩
    · have r0 := r
      obtain ⟨_, _, _⟩ := r0
      obtain ⟨_, _⟩ := b0
      obtain ⟨_, _⟩ := b1
      walk_at "ax_go"
      intro p np
      walk_at "ax_go"
      refine c_checked (SqT.of upd_same) g ?_
      exact k p np
    · have r0 := r
      obtain ⟨_, _, _⟩ := r0
      obtain ⟨_, _⟩ := b0
      obtain ⟨_, _⟩ := b1
      walk_at "ax_go"
      intro p np
      walk_at "ax_go"
      refine c_checkedN (SqT.of upd_same) g ?_
      exact k _ (same_new np)
    · walk_at "ax_go"
      exact k
    · walk_at "ax_go"
      exact k
    · walk_at "ax_go"
      exact k
    · walk_at "ax_go"
      exact k
    · walk_at "ax_go"
      exact k
theorem c_widened {T : Txt K mg} {H : Hp} {Q : VK} {E : XK} {a : Addr} {lo hi : Int} {dl dh : Int} (s : SqT K H a [.int lo, .int hi]) (r : Rg lo hi) (b0 : 0 ≤ dl ∧ dl ≤ 2000000) (b1 : 0 ≤ dh ∧ dh ≤ 2000000) (g : Rg (lo - dl) (hi + dh)) (h : ∀ p, H p = none → Q (.ref p) (upd H p (.tup [.int (lo - dl), .int (hi + dh)]))) : sp_widened T [.ref a, .int dl, .int dh] H Q E := ⟨_, _, _, rfl, .inl ⟨lo, hi, dl, dh, ⟨a, rfl, s, r⟩, rfl, b0, rfl, b1, .inl ⟨g, h⟩⟩⟩
theorem c_widenedN {T : Txt K mg} {H : Hp} {Q : VK} {E : XK} {a : Addr} {lo hi : Int} {dl dh : Int} (s : SqT K H a [.int lo, .int hi]) (r : Rg lo hi) (b0 : 0 ≤ dl ∧ dl ≤ 2000000) (b1 : 0 ≤ dh ∧ dh ≤ 2000000) (g : ¬ Rg (lo - dl) (hi + dh)) (h : ∀ H', Same H H' → E (.ref T.BadRange.C) none H') : sp_widened T [.ref a, .int dl, .int dh] H Q E := ⟨_, _, _, rfl, .inl ⟨lo, hi, dl, dh, ⟨a, rfl, s, r⟩, rfl, b0, rfl, b1, .inr ⟨g, h⟩⟩⟩
/-! ### listed -/
def sp_listed (_ : Txt K mg) : Sp := fun vs H Q _ => ∃ (a : Addr) (lo hi st : Int), vs = [.ref a, .int st] ∧ SqT K H a [.int lo, .int hi] ∧ (0 < st ∧ st < 1073741824) ∧ (-1000000 ≤ lo ∧ hi ≤ 1000000) ∧ (0 ≤ cnt lo hi st ∧ cnt lo hi st ≤ 1000000) ∧ ∀ p H', Same H H' → H p = none → H' p = some (.lst ((marksL lo hi st).map V.int)) → Q (.ref p) H'
theorem ok_listed (T : Txt K mg) : FnOk P w K mg base CX0 2 T.listed.f T.listed.fd ["span", "step"] (sp_listed T) := by
  refine T.listed.F.ok sc_listed (fun vs H Q E h => ?_) (fun cdv A outer s H vs Q E hr h => ?_)
  · obtain ⟨a, lo, hi, st, rfl, _⟩ := h; rfl
  · refine ⟨_, (pss_one (ps_ret (pe_lc (own := [("k", 2)]) rfl sc_listed.nd (pi_range1 rfl T.z_range (pa_cons (pe_call (ok_count_of T) (hr.mono (by decide)) rfl T.count_of.g T.count_of.F.kp T.count_of.b .nil pass0 (pa_cons (pv 0) (pa_cons (pv 1) pa_nil))) pa_nil)) (blkOk_by (N := ["span", "step", "k"]) (sc := defScope s_listed) (by decide +kernel)) (fun _ _ _ _ _ => (pg_name (i := 2) sc_listed.nd rfl (Or.inl rfl))) (fun _ _ _ _ _ => pts_nil) (fun _ _ _ _ _ => (pe_op op_add (pe_call (ok_first_of T) (hr.mono (by decide)) rfl T.first_of.g T.first_of.F.kp T.first_of.b .nil pass0 (pa_cons (pv 0) (pa_cons (pv 1) pa_nil))) (pe_op op_mul (pv 2) (pv 1))))))), ?_⟩
    try dsimp only [cxOf]
    obtain ⟨a, lo, hi, st, rfl, s, ⟨b1, b2⟩, ⟨l1, l2⟩, ⟨c1, c2⟩, k⟩ := h
    walk_at "ax_go"
    refine lc_rngM (f := fun k => .int (fst lo st + ((k : Nat) : Int) * st)) (by omega) (fun i H2 Q' hi s2 q => ?_) (fun D H2 s2 nD hD => ?_)
    · walk_at "ax_go"
      have e : (0 : Int) + (i : Int) = i := by omega
      rw [e]
      exact q H2 (Same.refl _)
    · refine k D H2 s2 nD ?_
      rw [hD]
      unfold marksL
      rw [List.map_map]
      rfl
theorem c_listed {T : Txt K mg} {H : Hp} {Q : VK} {E : XK} {a : Addr} {lo hi st : Int} (s : SqT K H a [.int lo, .int hi]) (b : 0 < st ∧ st < 1073741824) (l : -1000000 ≤ lo ∧ hi ≤ 1000000) (c : 0 ≤ cnt lo hi st ∧ cnt lo hi st ≤ 1000000) (h : ∀ p H', Same H H' → H p = none → H' p = some (.lst ((marksL lo hi st).map V.int)) → Q (.ref p) H') : sp_listed T [.ref a, .int st] H Q E := ⟨a, lo, hi, st, rfl, s, b, l, c, h⟩
local macro_rules | `(tactic| walk_at "ax_call") => `(tactic| ((with_reducible refine' c_listed ?s ?b ?l ?c ?_); (case s => walk_at "ax_seq"); (case b => exact ⟨by omega, by omega⟩); (case l => exact ⟨by omega, by omega⟩); (case c => exact ⟨by omega, by omega⟩)))
/-! ### check_short -/
def sp_check_short (T : Txt K mg) : Sp := fun vs H Q E => ∃ (a : Addr) (lo hi st : Int), vs = [.ref a, .int st] ∧ SqT K H a [.int lo, .int hi] ∧ (0 < st ∧ st < 1073741824) ∧ ((cnt lo hi st ≤ 1000 ∧ Q .non H) ∨ (1000 < cnt lo hi st ∧ E (.ref T.BadNumber.C) none H))
theorem ok_check_short (T : Txt K mg) : FnOk P w K mg base (L2.CX P w) 2 T.check_short.f T.check_short.fd ["span", "step"] (sp_check_short T) := by
  refine T.check_short.F.okX sc_check_short (fun vs H Q E h => ?_) (fun cdv A outer s H vs Q E hr h => ?_)
  · obtain ⟨a, lo, hi, st, rfl, _⟩ := h; rfl
  · refine ⟨_, (pss_one (ps_if (pt_cmpR op_gt (pe_call (ok_count_of T) (hr.mono (by decide)) rfl T.count_of.g T.count_of.F.kp T.count_of.b .nil pass0 (pa_cons (pv 0) (pa_cons (pv 1) pa_nil))) pe_int (nomark _))
          (pss_one (ps_raise rfl (takes_of rfl rfl rfl rfl) (pmk_own PySem.F.excBase_ValueError T.BadNumber.x T.BadNumber.g T.BadNumber.k (raises_own T.BadNumber.b T.BadNumber.t) rfl)))
          pss_nil)), ?_⟩
    try dsimp only [cxOf]
    obtain ⟨a, lo, hi, st, rfl, s, ⟨b1, b2⟩, ⟨c, k⟩ | ⟨c, k⟩⟩ := h
    · walk_at "ax_go"
      exact k
    · walk_at "ax_go"
      exact k
theorem c_check_short {T : Txt K mg} {H : Hp} {Q : VK} {E : XK} {a : Addr} {lo hi st : Int} (s : SqT K H a [.int lo, .int hi]) (b : 0 < st ∧ st < 1073741824) (c : cnt lo hi st ≤ 1000) (h : Q .non H) : sp_check_short T [.ref a, .int st] H Q E := ⟨a, lo, hi, st, rfl, s, b, .inl ⟨c, h⟩⟩
theorem c_check_shortN {T : Txt K mg} {H : Hp} {Q : VK} {E : XK} {a : Addr} {lo hi st : Int} (s : SqT K H a [.int lo, .int hi]) (b : 0 < st ∧ st < 1073741824) (c : 1000 < cnt lo hi st) (h : E (.ref T.BadNumber.C) none H) : sp_check_short T [.ref a, .int st] H Q E := ⟨a, lo, hi, st, rfl, s, b, .inr ⟨c, h⟩⟩
local macro_rules | `(tactic| walk_at "ax_call") => `(tactic| ((with_reducible refine' c_check_short ?s ?b ?c ?_); (case s => walk_at "ax_seq"); (case b => exact ⟨by omega, by omega⟩); (case c => first | assumption | omega)))
local macro_rules | `(tactic| walk_at "ax_call") => `(tactic| ((with_reducible refine' c_check_shortN ?s ?b ?c ?_); (case s => walk_at "ax_seq"); (case b => exact ⟨by omega, by omega⟩); (case c => first | assumption | omega)))
/-! ### come_and_go -/
def sp_come_and_go (T : Txt K mg) : Sp := fun vs H Q E => ∃ (x y z : V), vs = [x, y, z] ∧ ((∃ lo hi lo2 hi2 st, IsRg K H x lo hi ∧ IsRg K H y lo2 hi2 ∧ z = .int st ∧ st ∈ steps ∧ ((cnt lo hi st ≤ 1000 ∧ cnt lo2 hi2 st ≤ 1000 ∧ ∀ p D1 D2 H', Same H H' → H p = none → H D1 = none → H D2 = none → H' p = some (.tup [.ref D1, .ref D2]) → H' D1 = some (.lst ((comeL lo hi lo2 hi2 st).map V.int)) → H' D2 = some (.lst ((comeL lo2 hi2 lo hi st).map V.int)) → Q (.ref p) H') ∨ ((1000 < cnt lo hi st ∨ (cnt lo hi st ≤ 1000 ∧ 1000 < cnt lo2 hi2 st)) ∧ ∀ H', Same H H' → E (.ref T.BadNumber.C) none H')))
  ∨ (NotRg K H x ∧ E (.ref T.BadRange.C) none H) ∨ ((∃ lo hi, IsRg K H x lo hi) ∧ NotRg K H y ∧ E (.ref T.BadRange.C) none H) ∨ ((∃ lo hi, IsRg K H x lo hi) ∧ (∃ lo hi, IsRg K H y lo hi) ∧ NotStep K H z ∧ ∀ H', Same H H' → E (.ref T.BadStep.C) none H'))
theorem ok_come_and_go (T : Txt K mg) : FnOk P w K mg base (L2.CX P w) 4 T.come_and_go.f T.come_and_go.fd ["span", "other", "step"] (sp_come_and_go T) := by
  refine T.come_and_go.F.okX sc_come_and_go (fun vs H Q E h => ?_) (fun cdv A outer s H vs Q E hr h => ?_)
  · obtain ⟨x, y, z, rfl, _⟩ := h; rfl
  · refine ⟨_, (pss_cons (ps_expr (pe_call (ok_check_range T) (hr.mono (by decide)) rfl T.check_range.g T.check_range.F.kp T.check_range.b .nil (passes_call (takes_of rfl rfl rfl rfl) (fun _ _ _ _ h => h)) (pa_cons (pv 0) pa_nil)))
        (pss_cons (ps_expr (pe_call (ok_check_range T) (hr.mono (by decide)) rfl T.check_range.g T.check_range.F.kp T.check_range.b .nil (passes_call (takes_of rfl rfl rfl rfl) (fun _ _ _ _ h => h)) (pa_cons (pv 1) pa_nil)))
        (pss_cons (ps_expr (pe_call (ok_check_step T) (hr.mono (by decide)) rfl T.check_step.g T.check_step.F.kp T.check_step.b .nil (passes_call (takes_of rfl rfl rfl rfl) (fun _ _ _ _ h => h)) (pa_cons (pv 2) pa_nil)))
        (pss_cons (ps_expr (pe_call (ok_check_short T) (hr.mono (by decide)) rfl T.check_short.g T.check_short.F.kp T.check_short.b .nil (passes_call (takes_of rfl rfl rfl rfl) (fun _ _ _ _ h => h)) (pa_cons (pv 0) (pa_cons (pv 2) pa_nil))))
        (pss_cons (ps_expr (pe_call (ok_check_short T) (hr.mono (by decide)) rfl T.check_short.g T.check_short.F.kp T.check_short.b .nil (passes_call (takes_of rfl rfl rfl rfl) (fun _ _ _ _ h => h)) (pa_cons (pv 1) (pa_cons (pv 2) pa_nil))))
        (pss_cons (ps_asg (pe_tup (pa_cons (pe_call (ok_listed T) (hr.mono (by decide)) rfl T.listed.g T.listed.F.kp T.listed.b .nil pass0 (pa_cons (pv 0) (pa_cons (pv 2) pa_nil))) (pa_cons (pe_call (ok_listed T) (hr.mono (by decide)) rfl T.listed.g T.listed.F.kp T.listed.b .nil pass0 (pa_cons (pv 1) (pa_cons (pv 2) pa_nil))) pa_nil))) (pg_tup (n := 2) rfl (pgs_cons (pg_name (i := 3) sc_come_and_go.nd rfl (Or.inr rfl)) (pgs_cons (pg_name (i := 4) sc_come_and_go.nd rfl (Or.inr rfl)) pgs_nil))))
        (pss_one (ps_ret (pe_tup (pa_cons (pe_lc (own := [("value", 5)]) rfl sc_come_and_go.nd (pi_list (pv 4)) (blkOk_by (N := ["span", "other", "step", "one", "far", "value"]) (sc := defScope s_come_and_go) (by decide +kernel)) (fun _ _ _ _ _ => (pg_name (i := 5) sc_come_and_go.nd rfl (Or.inl rfl))) (fun _ _ _ _ _ => (pts_one (pt_cmpR (op_notIn_seqK (K := K) rfl) (pv 5) (pv 3) (by rfl)))) (fun _ _ _ _ _ => (pv 5))) (pa_cons (pe_lc (own := [("value", 5)]) rfl sc_come_and_go.nd (pi_list (pv 3)) (blkOk_by (N := ["span", "other", "step", "one", "far", "value"]) (sc := defScope s_come_and_go) (by decide +kernel)) (fun _ _ _ _ _ => (pg_name (i := 5) sc_come_and_go.nd rfl (Or.inl rfl))) (fun _ _ _ _ _ => (pts_one (pt_cmpR (op_notIn_seqK (K := K) rfl) (pv 5) (pv 4) (by rfl)))) (fun _ _ _ _ _ => (pv 5))) pa_nil))))))))))), ?_⟩
    try dsimp only [cxOf]
    obtain ⟨x, y, z, rfl, k⟩ := h
    rcases k with ⟨lo, hi, lo2, hi2, st, ⟨a, rfl, s, r⟩, ⟨b, rfl, s2, r2⟩, rfl, m, ⟨c1, c2, k⟩ | ⟨c1 | ⟨c1, c2⟩, k⟩⟩ | ⟨n, k⟩ | ⟨⟨lo, hi, a, rfl, s, r⟩, n, k⟩ | ⟨⟨lo, hi, a, rfl, s, r⟩, ⟨lo2, hi2, b, rfl, s2, r2⟩, n, k⟩
    · obtain ⟨b1, b2⟩ := step_bounds st m
      have n1 := cnt_nonneg lo hi st r b1
      have n2 := cnt_nonneg lo2 hi2 st r2 b1
      have r0 := r
      have r20 := r2
      obtain ⟨_, _, _⟩ := r0
      obtain ⟨_, _, _⟩ := r20
      walk_at "ax_go"
      intro H1 s1
      walk_at "ax_go"
      intro p1 H2 t1 np1 hp1
      walk_at "ax_go"
      intro p2 H3' t2' np2 hp2
      walk_at "ax_go"
      intro tt ntt
      walk_at "ax_go"
      have t2 := Same.updn t2' ntt (o := .tup [V.ref p1, V.ref p2])
      have l1 := marks_len lo hi st
      have l2 := marks_len lo2 hi2 st
      have h1 : SqL K (upd H3' tt (.tup [V.ref p1, V.ref p2])) p1 ((marksL lo hi st).map V.int) := SqL.of (t2 _ _ hp1)
      have h2 : SqL K (upd H3' tt (.tup [V.ref p1, V.ref p2])) p2 ((marksL lo2 hi2 st).map V.int) := SqL.updn ntt (SqL.of hp2)
      generalize upd H3' tt (.tup [V.ref p1, V.ref p2]) = H3 at t2 h1 h2 ⊢
      refine lc_ints (p := fun v => !decide (v ∈ marksL lo hi st)) (f := V.int) (by omega) h2 (fun i H4 Qt hi s4 q => ?_) (fun i H4 Q' hi hp s4 q => ?_) (fun D1 H4 s4 nD1 hD1 => ?_)
      · have h1' := Same.seq s4 h1
        walk_at "ax_go"
        exact q _ (Same.refl _)
      · walk_at "ax_go"
        exact q _ (Same.refl _)
      have h1 := Same.seq s4 h1
      have h2 := Same.seq s4 h2
      walk_at "ax_go"
      refine lc_ints (p := fun v => !decide (v ∈ marksL lo2 hi2 st)) (f := V.int) (by omega) h1 (fun i H5 Qt hi s5 q => ?_) (fun i H5 Q' hi hp s5 q => ?_) (fun D2 H5 s5 nD2 hD2 => ?_)
      · have h2' := Same.seq s5 h2
        walk_at "ax_go"
        exact q _ (Same.refl _)
      · walk_at "ax_go"
        exact q _ (Same.refl _)
      walk_at "ax_go"
      intro p np
      have s13 := (s1.trans t1).trans t2
      have s14 := s13.trans s4
      have s15 := s14.trans s5
      refine k p D1 D2 _ (Same.updn s15 np) (s15.free np) (s13.free nD1) (s14.free nD2) upd_same ?_ ?_
      · exact at_updn np (s5 _ _ hD1)
      · exact at_updn np hD2
    · obtain ⟨b1, b2⟩ := step_bounds st m
      walk_at "ax_go"
      intro H1 s1
      walk_at "ax_go"
      exact k _ s1
    · obtain ⟨b1, b2⟩ := step_bounds st m
      walk_at "ax_go"
      intro H1 s1
      walk_at "ax_go"
      exact k _ s1
    · walk_at "ax_go"
      exact k
    · walk_at "ax_go"
      exact k
    · walk_at "ax_go"
      exact k
theorem c_come_and_go {T : Txt K mg} {H : Hp} {Q : VK} {E : XK} {a b : Addr} {lo hi lo2 hi2 st : Int} (s : SqT K H a [.int lo, .int hi]) (s2 : SqT K H b [.int lo2, .int hi2]) (r : Rg lo hi) (r2 : Rg lo2 hi2) (m : st ∈ steps) (c1 : cnt lo hi st ≤ 1000) (c2 : cnt lo2 hi2 st ≤ 1000) (h : ∀ p D1 D2 H', Same H H' → H p = none → H D1 = none → H D2 = none → H' p = some (.tup [.ref D1, .ref D2]) → H' D1 = some (.lst ((comeL lo hi lo2 hi2 st).map V.int)) → H' D2 = some (.lst ((comeL lo2 hi2 lo hi st).map V.int)) → Q (.ref p) H') : sp_come_and_go T [.ref a, .ref b, .int st] H Q E := ⟨_, _, _, rfl, .inl ⟨lo, hi, lo2, hi2, st, ⟨a, rfl, s, r⟩, ⟨b, rfl, s2, r2⟩, rfl, m, .inl ⟨c1, c2, h⟩⟩⟩
/-! ### kept -/
def sp_kept (T : Txt K mg) : Sp := fun vs H Q E => ∃ (x y z u : V), vs = [x, y, z, u] ∧ ((∃ lo hi lo2 hi2 st far, IsRg K H x lo hi ∧ IsRg K H y lo2 hi2 ∧ z = .int st ∧ st ∈ steps ∧ u = .int far ∧ far ∈ steps ∧ ((cnt lo hi st ≤ 1000 ∧ ∀ H', Same H H' → Q (.int ((keptL lo hi lo2 hi2 st far).length : Nat)) H') ∨ (1000 < cnt lo hi st ∧ ∀ H', Same H H' → E (.ref T.BadNumber.C) none H')))
  ∨ (NotRg K H x ∧ E (.ref T.BadRange.C) none H) ∨ ((∃ lo hi, IsRg K H x lo hi) ∧ NotRg K H y ∧ E (.ref T.BadRange.C) none H) ∨ ((∃ lo hi, IsRg K H x lo hi) ∧ (∃ lo hi, IsRg K H y lo hi) ∧ NotStep K H z ∧ ∀ H', Same H H' → E (.ref T.BadStep.C) none H')
  ∨ ((∃ lo hi, IsRg K H x lo hi) ∧ (∃ lo hi, IsRg K H y lo hi) ∧ (∃ st, z = .int st ∧ st ∈ steps) ∧ NotStep K H u ∧ ∀ H', Same H H' → E (.ref T.BadStep.C) none H'))
theorem ok_kept (T : Txt K mg) : FnOk P w K mg base (L2.CX P w) 4 T.kept.f T.kept.fd ["span", "other", "step", "far_step"] (sp_kept T) := by
  refine T.kept.F.okX sc_kept (fun vs H Q E h => ?_) (fun cdv A outer s H vs Q E hr h => ?_)
  · obtain ⟨x, y, z, u, rfl, _⟩ := h; rfl
  · refine ⟨_, (pss_cons (ps_expr (pe_call (ok_check_range T) (hr.mono (by decide)) rfl T.check_range.g T.check_range.F.kp T.check_range.b .nil (passes_call (takes_of rfl rfl rfl rfl) (fun _ _ _ _ h => h)) (pa_cons (pv 0) pa_nil)))
        (pss_cons (ps_expr (pe_call (ok_check_range T) (hr.mono (by decide)) rfl T.check_range.g T.check_range.F.kp T.check_range.b .nil (passes_call (takes_of rfl rfl rfl rfl) (fun _ _ _ _ h => h)) (pa_cons (pv 1) pa_nil)))
        (pss_cons (ps_expr (pe_call (ok_check_step T) (hr.mono (by decide)) rfl T.check_step.g T.check_step.F.kp T.check_step.b .nil (passes_call (takes_of rfl rfl rfl rfl) (fun _ _ _ _ h => h)) (pa_cons (pv 2) pa_nil)))
        (pss_cons (ps_expr (pe_call (ok_check_step T) (hr.mono (by decide)) rfl T.check_step.g T.check_step.F.kp T.check_step.b .nil (passes_call (takes_of rfl rfl rfl rfl) (fun _ _ _ _ h => h)) (pa_cons (pv 3) pa_nil)))
        (pss_cons (ps_expr (pe_call (ok_check_short T) (hr.mono (by decide)) rfl T.check_short.g T.check_short.F.kp T.check_short.b .nil (passes_call (takes_of rfl rfl rfl rfl) (fun _ _ _ _ h => h)) (pa_cons (pv 0) (pa_cons (pv 2) pa_nil))))
        (pss_one (ps_ret (pe_callB xc_len (by rfl) T.z_len PySem.boot_len (pa_cons (pe_lc (own := [("value", 4)]) rfl sc_kept.nd (pi_list (pe_call (ok_listed T) (hr.mono (by decide)) rfl T.listed.g T.listed.F.kp T.listed.b .nil pass0 (pa_cons (pv 0) (pa_cons (pv 2) pa_nil)))) (blkOk_by (N := ["span", "other", "step", "far_step", "value"]) (sc := defScope s_kept) (by decide +kernel)) (fun _ _ _ _ _ => (pg_name (i := 4) sc_kept.nd rfl (Or.inl rfl))) (fun _ _ _ _ _ => (pts_one (PW.pt (pw_and (pt_chain op_le op_le (pe_ix (ix_tupK (K := K) rfl) (pv 1) pe_int (fun _ _ => rfl)) (pv 4) (pe_ix (ix_tupK (K := K) rfl) (pv 1) pe_int (fun _ _ => rfl))) (pw_and1 (pt_cmpR op_eq (pe_op op_mod (pv 4) (pv 3)) pe_int (nomark _))))))) (fun _ _ _ _ _ => (pv 4))) pa_nil))))))))), ?_⟩
    try dsimp only [cxOf]
    obtain ⟨x, y, z, u, rfl, k⟩ := h
    rcases k with ⟨lo, hi, lo2, hi2, st, far, ⟨a, rfl, s, r⟩, ⟨b, rfl, s2, r2⟩, rfl, m, rfl, m2, ⟨c1, k⟩ | ⟨c1, k⟩⟩ | ⟨n, k⟩ | ⟨⟨lo, hi, a, rfl, s, r⟩, n, k⟩ | ⟨⟨lo, hi, a, rfl, s, r⟩, ⟨lo2, hi2, b, rfl, s2, r2⟩, n, k⟩ | ⟨⟨lo, hi, a, rfl, s, r⟩, ⟨lo2, hi2, b, rfl, s2, r2⟩, ⟨st, rfl, m⟩, n, k⟩
    · obtain ⟨b1, b2⟩ := step_bounds st m
      obtain ⟨f1, f2⟩ := step_bounds far m2
      have n1 := cnt_nonneg lo hi st r b1
      have r0 := r
      obtain ⟨_, _, _⟩ := r0
      walk_at "ax_go"
      intro H1 s1
      walk_at "ax_go"
      intro H2 t1
      walk_at "ax_go"
      intro p1 H3 t2 np1 hp1
      walk_at "ax_go"
      have l1 := marks_len lo hi st
      have h1 : SqL K H3 p1 ((marksL lo hi st).map V.int) := SqL.of hp1
      have sb : SqT K H3 b [.int lo2, .int hi2] := Same.seqT ((s1.trans t1).trans t2) s2
      refine lc_ints (p := fun v => (decide (lo2 ≤ v) && decide (v ≤ hi2)) && decide (v % far = 0)) (f := V.int) (by omega) h1 (fun i H4 Qt hi s4 q => ?_) (fun i H4 Q' hi hp s4 q => ?_) (fun D1 H4 s4 nD1 hD1 => ?_)
      · have q1 := q _ (Same.refl _)
        have sb' := Same.seqT s4 sb
        walk_at "ax_go"
        by_cases c : lo2 ≤ i
        · refine r_dt c ?_
          walk_at "ax_go"
          by_cases d : i ≤ hi2
          · refine r_dt d ?_
            walk_at "ax_go"
            rw [decide_eq_true c, decide_eq_true d, Bool.true_and, Bool.true_and] at q1
            exact q1
          · refine r_df d ?_
            rw [decide_eq_false d, Bool.and_false, Bool.false_and] at q1
            exact q1
        · refine r_df c ?_
          walk_at "ax_go"
          rw [decide_eq_false c, Bool.false_and, Bool.false_and] at q1
          exact q1
      · walk_at "ax_go"
        exact q _ (Same.refl _)
      have hD1 : H4 D1 = some (.lst ((keptL lo hi lo2 hi2 st far).map V.int)) := hD1
      walk_at "ax_go"
      rw [List.length_map]
      exact k _ (((s1.trans t1).trans t2).trans s4)
    · obtain ⟨b1, b2⟩ := step_bounds st m
      walk_at "ax_go"
      intro H1 s1
      walk_at "ax_go"
      intro H2 s2
      walk_at "ax_go"
      exact k _ (s1.trans s2)
    · walk_at "ax_go"
      exact k
    · walk_at "ax_go"
      exact k
    · walk_at "ax_go"
      exact k
    · walk_at "ax_go"
      intro H1 s1
      have n := NotStep.same s1 n
      walk_at "ax_go"
      intro H2 s2
      exact k _ (s1.trans s2)
theorem c_kept {T : Txt K mg} {H : Hp} {Q : VK} {E : XK} {a b : Addr} {lo hi lo2 hi2 st far : Int} (s : SqT K H a [.int lo, .int hi]) (s2 : SqT K H b [.int lo2, .int hi2]) (r : Rg lo hi) (r2 : Rg lo2 hi2) (m : st ∈ steps) (m2 : far ∈ steps) (c1 : cnt lo hi st ≤ 1000) (h : ∀ H', Same H H' → Q (.int ((keptL lo hi lo2 hi2 st far).length : Nat)) H') : sp_kept T [.ref a, .ref b, .int st, .int far] H Q E := ⟨_, _, _, _, rfl, .inl ⟨lo, hi, lo2, hi2, st, far, ⟨a, rfl, s, r⟩, ⟨b, rfl, s2, r2⟩, rfl, m, rfl, m2, .inl ⟨c1, h⟩⟩⟩
/-! ### zoomed_in -/
def sp_zoomed_in (T : Txt K mg) : Sp := fun vs H Q E => ∃ (x y : V), vs = [x, y] ∧ ((∃ lo hi b, IsRg K H x lo hi ∧ y = .int b ∧ (1 ≤ b ∧ b ≤ 1000) ∧ ∀ p, H p = none → Q (.ref p) (upd H p (.tup [.int (inLo lo hi b), .int (inLo lo hi b + (hi - lo) / b)]))) ∨ (NotRg K H x ∧ E (.ref T.BadRange.C) none H) ∨ ((∃ lo hi, IsRg K H x lo hi) ∧ NotNum K H y 1 1000 ∧ E (.ref T.BadNumber.C) none H))
theorem ok_zoomed_in (T : Txt K mg) : FnOk P w K mg base (L2.CX P w) 4 T.zoomed_in.f T.zoomed_in.fd ["span", "by"] (sp_zoomed_in T) := by
  refine T.zoomed_in.F.okX sc_zoomed_in (fun vs H Q E h => ?_) (fun cdv A outer s H vs Q E hr h => ?_)
  · obtain ⟨x, y, rfl, _⟩ := h; rfl
  · refine ⟨_, (pss_cons (ps_expr (pe_call (ok_check_range T) (hr.mono (by decide)) rfl T.check_range.g T.check_range.F.kp T.check_range.b .nil (passes_call (takes_of rfl rfl rfl rfl) (fun _ _ _ _ h => h)) (pa_cons (pv 0) pa_nil)))
        (pss_cons (ps_if (pt_not (pt_val (pe_call (ok_is_int T) (hr.mono (by decide)) rfl T.is_int.g T.is_int.F.kp T.is_int.b .nil pass0 (pa_cons (pv 1) (pa_cons pe_int (pa_cons pe_int pa_nil))))))
          (pss_one (ps_raise rfl (takes_of rfl rfl rfl rfl) (pmk_own PySem.F.excBase_ValueError T.BadNumber.x T.BadNumber.g T.BadNumber.k (raises_own T.BadNumber.b T.BadNumber.t) rfl)))
          pss_nil)
        (pss_cons (ps_set (i := 2) sc_zoomed_in.nd rfl (Or.inl rfl) (pe_op op_fdiv (pe_op op_sub (pe_ix ix_tup (pv 0) pe_int (fun _ _ => rfl)) (pe_ix ix_tup (pv 0) pe_int (fun _ _ => rfl))) (pv 1)))
        (pss_cons (ps_set (i := 3) sc_zoomed_in.nd rfl (Or.inl rfl) (pe_op op_add (pe_ix ix_tup (pv 0) pe_int (fun _ _ => rfl)) (pe_op op_fdiv (pe_op op_sub (pe_op op_sub (pe_ix ix_tup (pv 0) pe_int (fun _ _ => rfl)) (pe_ix ix_tup (pv 0) pe_int (fun _ _ => rfl))) (pv 2)) pe_int)))
        (pss_one (ps_ret (pe_tup (pa_cons (pv 3) (pa_cons (pe_op op_add (pv 3) (pv 2)) pa_nil))))))))), ?_⟩
    try dsimp only [cxOf]
    obtain ⟨x, y, rfl, k⟩ := h
    rcases k with ⟨lo, hi, b, ⟨a, rfl, s, r⟩, rfl, c, k⟩ | ⟨n, k⟩ | ⟨⟨lo, hi, a, rfl, s, r⟩, ⟨i, rfl, c⟩ | n, k⟩
    · obtain ⟨_, _⟩ := c
      walk_at "ax_go"
      intro p np
      exact k p np
    · walk_at "ax_go"
      exact k
    · walk_at "ax_go"
      exact k
    · walk_at "ax_go"
      exact k
theorem c_zoomed_in {T : Txt K mg} {H : Hp} {Q : VK} {E : XK} {a : Addr} {lo hi b : Int} (s : SqT K H a [.int lo, .int hi]) (r : Rg lo hi) (c : 1 ≤ b ∧ b ≤ 1000) (h : ∀ p, H p = none → Q (.ref p) (upd H p (.tup [.int (inLo lo hi b), .int (inLo lo hi b + (hi - lo) / b)]))) : sp_zoomed_in T [.ref a, .int b] H Q E := ⟨_, _, rfl, .inl ⟨lo, hi, b, ⟨a, rfl, s, r⟩, rfl, c, h⟩⟩
local macro_rules | `(tactic| walk_at "ax_call") => `(tactic| ((with_reducible refine' c_zoomed_in ?s ?r ?c ?_); (case s => walk_at "ax_seq"); (case r => walk_at "ax_rg"); (case c => exact ⟨by omega, by omega⟩)))
/-! ### zoomed_out -/
def sp_zoomed_out (T : Txt K mg) : Sp := fun vs H Q E => ∃ (x y : V), vs = [x, y] ∧ ((∃ lo hi b, IsRg K H x lo hi ∧ y = .int b ∧ (1 ≤ b ∧ b ≤ 1000) ∧ ((Rg (lo - (hi - lo) * (b - 1) / 2) (hi + (hi - lo) * (b - 1) - (hi - lo) * (b - 1) / 2) ∧ ∀ p, H p = none → Q (.ref p) (upd H p (.tup [.int (lo - (hi - lo) * (b - 1) / 2), .int (hi + (hi - lo) * (b - 1) - (hi - lo) * (b - 1) / 2)]))) ∨ (¬ Rg (lo - (hi - lo) * (b - 1) / 2) (hi + (hi - lo) * (b - 1) - (hi - lo) * (b - 1) / 2) ∧ ∀ H', Same H H' → E (.ref T.BadRange.C) none H'))) ∨ (NotRg K H x ∧ E (.ref T.BadRange.C) none H) ∨ ((∃ lo hi, IsRg K H x lo hi) ∧ NotNum K H y (1) 1000 ∧ E (.ref T.BadNumber.C) none H))
theorem ok_zoomed_out (T : Txt K mg) : FnOk P w K mg base (L2.CX P w) 4 T.zoomed_out.f T.zoomed_out.fd ["span", "by"] (sp_zoomed_out T) := by
  refine T.zoomed_out.F.okX sc_zoomed_out (fun vs H Q E h => ?_) (fun cdv A outer s H vs Q E hr h => ?_)
  · obtain ⟨x, y, rfl, _⟩ := h; rfl
  · refine ⟨_, (pss_cons (ps_expr (pe_call (ok_check_range T) (hr.mono (by decide)) rfl T.check_range.g T.check_range.F.kp T.check_range.b .nil (passes_call (takes_of rfl rfl rfl rfl) (fun _ _ _ _ h => h)) (pa_cons (pv 0) pa_nil)))
        (pss_cons (ps_if (pt_not (pt_val (pe_call (ok_is_int T) (hr.mono (by decide)) rfl T.is_int.g T.is_int.F.kp T.is_int.b .nil pass0 (pa_cons (pv 1) (pa_cons pe_int (pa_cons pe_int pa_nil))))))
          (pss_one (ps_raise rfl (takes_of rfl rfl rfl rfl) (pmk_own PySem.F.excBase_ValueError T.BadNumber.x T.BadNumber.g T.BadNumber.k (raises_own T.BadNumber.b T.BadNumber.t) rfl)))
          pss_nil)
        (pss_cons (ps_set (i := 2) sc_zoomed_out.nd rfl (Or.inl rfl) (pe_op op_mul (pe_op op_sub (pe_ix ix_tup (pv 0) pe_int (fun _ _ => rfl)) (pe_ix ix_tup (pv 0) pe_int (fun _ _ => rfl))) (pe_op op_sub (pv 1) pe_int)))
        (pss_one (ps_ret (pe_call (ok_checked T) (hr.mono (by decide)) rfl T.checked.g T.checked.F.kp T.checked.b .nil (passes_call (takes_of rfl rfl rfl rfl) (fun _ _ _ _ h => h)) (pa_cons (pe_tup (pa_cons (pe_op op_sub (pe_ix ix_tup (pv 0) pe_int (fun _ _ => rfl)) (pe_op op_fdiv (pv 2) pe_int)) (pa_cons (pe_op op_sub (pe_op op_add (pe_ix ix_tup (pv 0) pe_int (fun _ _ => rfl)) (pv 2)) (pe_op op_fdiv (pv 2) pe_int)) pa_nil))) pa_nil))))))), ?_⟩
    try dsimp only [cxOf]
    obtain ⟨x, y, rfl, k⟩ := h
    rcases k with ⟨lo, hi, b, ⟨a, rfl, s, r⟩, rfl, b0, ⟨g, k⟩ | ⟨g, k⟩⟩ | ⟨n, k⟩ | ⟨⟨lo, hi, a, rfl, s, r⟩, ⟨i, rfl, c⟩ | n, k⟩
    · have r0 := r
      obtain ⟨_, _, _⟩ := r0
      obtain ⟨_, _⟩ := b0
      walk_at "ax_go"
      intro p np
      walk_at "ax_go"
      refine c_checked (SqT.of upd_same) g ?_
      exact k p np
    · have r0 := r
      obtain ⟨_, _, _⟩ := r0
      obtain ⟨_, _⟩ := b0
      walk_at "ax_go"
      intro p np
      walk_at "ax_go"
      refine c_checkedN (SqT.of upd_same) g ?_
      exact k _ (same_new np)
    · walk_at "ax_go"
      exact k
    · walk_at "ax_go"
      exact k
    · walk_at "ax_go"
      exact k
theorem c_zoomed_out {T : Txt K mg} {H : Hp} {Q : VK} {E : XK} {a : Addr} {lo hi : Int} {b : Int} (s : SqT K H a [.int lo, .int hi]) (r : Rg lo hi) (b0 : 1 ≤ b ∧ b ≤ 1000) (g : Rg (lo - (hi - lo) * (b - 1) / 2) (hi + (hi - lo) * (b - 1) - (hi - lo) * (b - 1) / 2)) (h : ∀ p, H p = none → Q (.ref p) (upd H p (.tup [.int (lo - (hi - lo) * (b - 1) / 2), .int (hi + (hi - lo) * (b - 1) - (hi - lo) * (b - 1) / 2)]))) : sp_zoomed_out T [.ref a, .int b] H Q E := ⟨_, _, rfl, .inl ⟨lo, hi, b, ⟨a, rfl, s, r⟩, rfl, b0, .inl ⟨g, h⟩⟩⟩
theorem c_zoomed_outN {T : Txt K mg} {H : Hp} {Q : VK} {E : XK} {a : Addr} {lo hi : Int} {b : Int} (s : SqT K H a [.int lo, .int hi]) (r : Rg lo hi) (b0 : 1 ≤ b ∧ b ≤ 1000) (g : ¬ Rg (lo - (hi - lo) * (b - 1) / 2) (hi + (hi - lo) * (b - 1) - (hi - lo) * (b - 1) / 2)) (h : ∀ H', Same H H' → E (.ref T.BadRange.C) none H') : sp_zoomed_out T [.ref a, .int b] H Q E := ⟨_, _, rfl, .inl ⟨lo, hi, b, ⟨a, rfl, s, r⟩, rfl, b0, .inr ⟨g, h⟩⟩⟩
/-! ### turned_over -/
def sp_turned_over (T : Txt K mg) : Sp := fun vs H Q E => ∃ (x : V), vs = [x] ∧ ((∃ lo hi, IsRg K H x lo hi ∧ ∀ p, H p = none → Q (.ref p) (upd H p (.tup [.int (-hi), .int (-lo)]))) ∨ (NotRg K H x ∧ E (.ref T.BadRange.C) none H))
theorem ok_turned_over (T : Txt K mg) : FnOk P w K mg base (L2.CX P w) 4 T.turned_over.f T.turned_over.fd ["span"] (sp_turned_over T) := by
  refine T.turned_over.F.okX sc_turned_over (fun vs H Q E h => ?_) (fun cdv A outer s H vs Q E hr h => ?_)
  · obtain ⟨x, rfl, _⟩ := h; rfl
  · refine ⟨_, (pss_cons (ps_expr (pe_call (ok_check_range T) (hr.mono (by decide)) rfl T.check_range.g T.check_range.F.kp T.check_range.b .nil (passes_call (takes_of rfl rfl rfl rfl) (fun _ _ _ _ h => h)) (pa_cons (pv 0) pa_nil)))
        (pss_one (ps_ret (pe_tup (pa_cons (pe_un un_neg (pe_ix ix_tup (pv 0) pe_int (fun _ _ => rfl))) (pa_cons (pe_un un_neg (pe_ix ix_tup (pv 0) pe_int (fun _ _ => rfl))) pa_nil)))))), ?_⟩
    try dsimp only [cxOf]
    obtain ⟨x, rfl, k⟩ := h
    rcases k with ⟨lo, hi, ⟨a, rfl, s, r⟩, k⟩ | ⟨n, k⟩
    · walk_at "ax_go"
      intro p np
      exact k p np
    · walk_at "ax_go"
      exact k
theorem c_turned_over {T : Txt K mg} {H : Hp} {Q : VK} {E : XK} {a : Addr} {lo hi : Int} (s : SqT K H a [.int lo, .int hi]) (r : Rg lo hi) (h : ∀ p, H p = none → Q (.ref p) (upd H p (.tup [.int (-hi), .int (-lo)]))) : sp_turned_over T [.ref a] H Q E := ⟨_, rfl, .inl ⟨lo, hi, ⟨a, rfl, s, r⟩, h⟩⟩
local macro_rules | `(tactic| walk_at "ax_call") => `(tactic| ((with_reducible refine' c_turned_over ?s ?r ?_); (case s => walk_at "ax_seq"); (case r => walk_at "ax_rg")))
/-! ### scaled -/
def sp_scaled (T : Txt K mg) : Sp := fun vs H Q E => ∃ (x y : V), vs = [x, y] ∧ ((∃ lo hi, ∃ b : Nat, IsRg K H x lo hi ∧ y = .int b ∧ b ≤ 6 ∧ ((Rg (lo * p10 b) (hi * p10 b) ∧ ∀ p, H p = none → Q (.ref p) (upd H p (.tup [.int (lo * p10 b), .int (hi * p10 b)]))) ∨ (¬ Rg (lo * p10 b) (hi * p10 b) ∧ ∀ H', Same H H' → E (.ref T.BadRange.C) none H'))) ∨ (NotRg K H x ∧ E (.ref T.BadRange.C) none H) ∨ ((∃ lo hi, IsRg K H x lo hi) ∧ NotNum K H y 0 6 ∧ E (.ref T.BadNumber.C) none H))
theorem ok_scaled (T : Txt K mg) : FnOk P w K mg base (L2.CX P w) 4 T.scaled.f T.scaled.fd ["span", "power"] (sp_scaled T) := by
  refine T.scaled.F.okX sc_scaled (fun vs H Q E h => ?_) (fun cdv A outer s H vs Q E hr h => ?_)
  · obtain ⟨x, y, rfl, _⟩ := h; rfl
  · refine ⟨_, (pss_cons (ps_expr (pe_call (ok_check_range T) (hr.mono (by decide)) rfl T.check_range.g T.check_range.F.kp T.check_range.b .nil (passes_call (takes_of rfl rfl rfl rfl) (fun _ _ _ _ h => h)) (pa_cons (pv 0) pa_nil)))
        (pss_cons (ps_if (pt_not (pt_val (pe_call (ok_is_int T) (hr.mono (by decide)) rfl T.is_int.g T.is_int.F.kp T.is_int.b .nil pass0 (pa_cons (pv 1) (pa_cons pe_int (pa_cons pe_int pa_nil))))))
          (pss_one (ps_raise rfl (takes_of rfl rfl rfl rfl) (pmk_own PySem.F.excBase_ValueError T.BadNumber.x T.BadNumber.g T.BadNumber.k (raises_own T.BadNumber.b T.BadNumber.t) rfl)))
          pss_nil)
        (pss_cons (ps_set (i := 2) sc_scaled.nd rfl (Or.inl rfl) pe_int)
        (pss_cons (ps_for (passes_of rfl) rfl (pi_range1 rfl T.z_range (pa_cons (pv 1) pa_nil)) (pg_name (i := 3) sc_scaled.nd rfl (Or.inl rfl))
          (pss_one (ps_aug (i := 2) sc_scaled.nd rfl (Or.inl rfl) pe_int iop_mul)))
        (pss_one (ps_ret (pe_call (ok_checked T) (hr.mono (by decide)) rfl T.checked.g T.checked.F.kp T.checked.b .nil (passes_call (takes_of rfl rfl rfl rfl) (fun _ _ _ _ h => h)) (pa_cons (pe_tup (pa_cons (pe_op op_mul (pe_ix ix_tup (pv 0) pe_int (fun _ _ => rfl)) (pv 2)) (pa_cons (pe_op op_mul (pe_ix ix_tup (pv 0) pe_int (fun _ _ => rfl)) (pv 2)) pa_nil))) pa_nil)))))))), ?_⟩
    try dsimp only [cxOf]
    obtain ⟨x, y, rfl, k⟩ := h
    rcases k with ⟨lo, hi, b, ⟨a, rfl, s, r⟩, rfl, hb, k⟩ | ⟨n, k⟩ | ⟨⟨lo, hi, a, rfl, s, r⟩, ⟨i, rfl, c⟩ | n, k⟩
    · walk_at "ax_go"
      have e0 : ((b : Int)).toNat = b := by omega
      rw [e0]
      refine for_range (lo := 0) (n := b) (fun i σ' H' => H' = H ∧ ∃ y, σ' = [some (.ref a), some (.int b), some (.int (p10 i)), y]) ⟨rfl, none, rfl⟩ ?_ ?_
      · rintro i σ' H' hi' ⟨rfl, y, rfl⟩
        walk_at "ax_go"
        exact ⟨rfl, _, rfl⟩
      rintro σ' H' ⟨rfl, y, rfl⟩
      have r0 := r
      obtain ⟨_, _, _⟩ := r0
      walk_at "ax_go"
      intro p np
      rcases k with ⟨g, k⟩ | ⟨g, k⟩
      · walk_at "ax_go"
        refine c_checked (SqT.of upd_same) g ?_
        exact k p np
      · walk_at "ax_go"
        refine c_checkedN (SqT.of upd_same) g ?_
        exact k _ (same_new np)
    · walk_at "ax_go"
      exact k
    · walk_at "ax_go"
      exact k
    · walk_at "ax_go"
      exact k
theorem c_scaled {T : Txt K mg} {H : Hp} {Q : VK} {E : XK} {a : Addr} {lo hi z : Int} (b : Nat) (ez : z = (b : Int)) (s : SqT K H a [.int lo, .int hi]) (r : Rg lo hi) (hb : b ≤ 6) (g : Rg (lo * p10 b) (hi * p10 b)) (h : ∀ p, H p = none → Q (.ref p) (upd H p (.tup [.int (lo * p10 b), .int (hi * p10 b)]))) : sp_scaled T [.ref a, .int z] H Q E := by
  subst ez
  exact ⟨_, _, rfl, .inl ⟨lo, hi, b, ⟨a, rfl, s, r⟩, rfl, hb, .inl ⟨g, h⟩⟩⟩
/-! ### Axis.__init__ -/
def sp_Axis___init__ (T : Txt K mg) : Sp := fun vs H Q E => ∃ (x dx : Addr) (v u : V), vs = [.ref x, v, u] ∧ H x = some (.ins T.Axis.C dx []) ∧
  ((∃ lo hi m, IsRg K H v lo hi ∧ u = .int m ∧ (1 ≤ m ∧ m ≤ 1000) ∧ ∀ l H', H l = none → (∀ b o, H b = some o → b ≠ x → H' b = some o) → AxAt K T.Axis.C H' x l (lo, hi) m [] → Q .non H') ∨
   (NotRg K H v ∧ E (.ref T.BadRange.C) none H) ∨ ((∃ lo hi, IsRg K H v lo hi) ∧ NotNum K H u 1 1000 ∧ E (.ref T.BadNumber.C) none H))
theorem ok_Axis___init__ (T : Txt K mg) : FnOk P w K mg base (L2.CX P w) 4 T.Axis___init__.f T.Axis___init__.fd ["self", "span", "most"] (sp_Axis___init__ T) := by
  refine T.Axis___init__.F.okX sc_Axis___init__ (fun vs H Q E h => ?_) (fun cdv A outer s H vs Q E hr h => ?_)
  · obtain ⟨x, dx, v, u, rfl, _⟩ := h; rfl
  · refine ⟨_, (pss_cons (ps_expr (pe_call (ok_check_range T) (hr.mono (by decide)) rfl T.check_range.g T.check_range.F.kp T.check_range.b .nil (passes_call (takes_of rfl rfl rfl rfl) (fun _ _ _ _ h => h)) (pa_cons (pv 1) pa_nil)))
        (pss_cons (ps_if (pt_not (pt_val (pe_call (ok_is_int T) (hr.mono (by decide)) rfl T.is_int.g T.is_int.F.kp T.is_int.b .nil pass0 (pa_cons (pv 2) (pa_cons pe_int (pa_cons pe_int pa_nil))))))
          (pss_one (ps_raise rfl (takes_of rfl rfl rfl rfl) (pmk_own PySem.F.excBase_ValueError T.BadNumber.x T.BadNumber.g T.BadNumber.k (raises_own T.BadNumber.b T.BadNumber.t) rfl)))
          pss_nil)
        (pss_cons (ps_fld (pv 0) (pv 1) rfl)
        (pss_cons (ps_fld (pv 0) (pv 2) rfl)
        (pss_one (ps_fld (pv 0) (pe_lst pa_nil) rfl)))))), ?_⟩
    try dsimp only [cxOf]
    obtain ⟨x, dx, v, u, rfl, hx, k⟩ := h
    rcases k with ⟨lo, hi, m, ⟨a, rfl, s, r⟩, rfl, ⟨b1, b2⟩, k⟩ | ⟨n, k⟩ | ⟨⟨lo, hi, a, rfl, s, r⟩, ⟨i, rfl, c⟩ | n, k⟩
    · have b : 1 ≤ m ∧ m ≤ 1000 := ⟨b1, b2⟩
      walk_at "ax_go"
      refine r_put hx T.Axis.cl T.Axis_n_now (by decide) ?_
      walk_at "ax_go"
      refine r_put upd_same T.Axis.cl T.Axis_n_most (by have := putF_len "now" (.ref a) []; simp at this; omega) ?_
      walk_at "ax_go"
      intro l nl
      have nl2 : H l = none := by
        by_cases e : l = x
        · subst e
          rw [upd_same] at nl
          cases nl
        · rw [upd_ne e, upd_ne e] at nl
          exact nl
      have ne : x ≠ l := ne_of_none hx nl2
      walk_at "ax_go"
      refine r_put (by rw [upd_ne ne]; exact upd_same) T.Axis.cl T.Axis_n_past (by have h1 := putF_len "now" (.ref a) []; have h2 := putF_len "most" (.int m) (putF "now" (.ref a) []); simp at h1; omega) ?_
      walk_at "ax_go"
      have kp : ∀ b o, H b = some o → b ≠ x → (upd (upd (upd (upd H x (.ins T.Axis.C dx (putF "now" (.ref a) []))) x (.ins T.Axis.C dx (putF "most" (.int m) (putF "now" (.ref a) [])))) l (.lst [])) x (.ins T.Axis.C dx (putF "past" (.ref l) (putF "most" (.int m) (putF "now" (.ref a) []))))) b = some o := fun b o e nb => by
        rw [upd_ne nb, upd_ne (ne_of_none e nl2), upd_ne nb, upd_ne nb]
        exact e
      have sa : SqT K (upd (upd (upd (upd H x (.ins T.Axis.C dx (putF "now" (.ref a) []))) x (.ins T.Axis.C dx (putF "most" (.int m) (putF "now" (.ref a) [])))) l (.lst [])) x (.ins T.Axis.C dx (putF "past" (.ref l) (putF "most" (.int m) (putF "now" (.ref a) []))))) a [.int lo, .int hi] := by
        have nea : ∀ o, H a = some o → (∀ c d f, o ≠ .ins c d f) → a ≠ x := fun o e z => ne_of e hx (z _ _ _)
        rcases s with (s | ⟨o, s⟩) | s
        · exact .inl (.inl (kp _ _ s (nea _ s fun _ _ _ z => by cases z)))
        · exact .inl (.inr ⟨o, kp _ _ s (nea _ s fun _ _ _ z => by cases z)⟩)
        · exact .inr s
      exact k l _ nl2 kp ⟨dx, a, [], by rw [upd_same, axF_make], by rw [upd_ne ne.symm, upd_same], sa, .nil, r, fun _ h => absurd h List.not_mem_nil⟩
    · walk_at "ax_go"
      exact k
    · walk_at "ax_go"
      exact k
    · walk_at "ax_go"
      exact k
theorem c_AxisI {T : Txt K mg} {H : Hp} {Q : VK} {E : XK} {a x dx : Addr} {lo hi m : Int} (s : SqT K H a [.int lo, .int hi]) (r : Rg lo hi) (b : 1 ≤ m ∧ m ≤ 1000) (nx : H x = none) (nd : H dx = none) (ne : dx ≠ x) (h : ∀ l H', Same H H' → H l = none → l ≠ x → AxAt K T.Axis.C H' x l (lo, hi) m [] → Q (.ref x) H') : sp_Axis___init__ T [.ref x, .ref a, .int m] (upd (upd H dx (.own x)) x (.ins T.Axis.C dx [])) (MkQ Q x) E := by
  have sm : Same H (upd (upd H dx (.own x)) x (.ins T.Axis.C dx [])) := Same.updn (same_new nd) (by rw [upd_ne ne.symm]; exact nx)
  refine ⟨x, dx, _, _, rfl, upd_same, .inl ⟨lo, hi, m, ⟨a, rfl, Same.seqT sm s, r⟩, rfl, b, fun l H' nl kp at_ => ⟨rfl, ?_⟩⟩⟩
  have nlx : l ≠ x := fun z => by
    subst z
    rw [upd_same] at nl
    cases nl
  refine h l H' (fun b o e => kp b o (sm b o e) (ne_of_none e nx)) (sm.free nl) nlx at_
/-! ### Axis.step -/
/-- the step of an axis -/
def stepA (lo hi m : Int) : Option Int := (betweenL lo hi 1 m).head?
def optV : Option Int → V
  | some i => .int i
  | none => .non
def sp_Axis_step (T : Txt K mg) : Sp := fun vs H Q _ => ∃ (x l : Addr) (cur : Int × Int) (m : Int) (past : List (Int × Int)), vs = [.ref x] ∧ AxAt K T.Axis.C H x l cur m past ∧ ∀ H', Same H H' → Q (optV (stepA cur.1 cur.2 m)) H'
theorem ok_Axis_step (T : Txt K mg) : FnOk P w K mg base CX0 2 T.Axis_step.f T.Axis_step.fd ["self"] (sp_Axis_step T) := by
  refine T.Axis_step.F.ok sc_Axis_step (fun vs H Q E h => ?_) (fun cdv A outer s H vs Q E hr h => ?_)
  · obtain ⟨x, l, cur, m, past, rfl, _⟩ := h; rfl
  · refine ⟨_, (pss_cons (ps_setLc (i := 1) (own := [("step", 2)]) rfl sc_Axis_step.nd rfl rfl (sw_true rfl rfl rfl (by decide +kernel)) (pi_list (pe_call0 (ok_nice_steps T) (hr.mono (by decide)) rfl T.nice_steps.g T.nice_steps.F.kp T.nice_steps.b .nil pass0)) (blkOk_by (N := ["self", "found", "step"]) (sc := defScope s_Axis_step) (by decide +kernel)) (fun _ _ _ _ _ => (pg_name (i := 2) sc_Axis_step.nd rfl (Or.inl rfl))) (fun _ _ _ _ _ => (pts_one (pt_chain op_le op_le pe_int (pe_call (ok_count_of T) (hr.mono (by decide)) rfl T.count_of.g T.count_of.F.kp T.count_of.b .nil pass0 (pa_cons (pe_fldK (K := K) rfl (pv 0) rfl) (pa_cons (pv 2) pa_nil))) (pe_fldK (K := K) rfl (pv 0) rfl)))) (fun _ _ _ _ _ => (pv 2)))
        (pss_one (ps_ret (pe_ifExp (pt_cmpR (op_neD hr.units) (pv 1) (pe_lst pa_nil) (nomark _)) (pe_ix ix_list (pv 1) pe_int (fun _ _ => rfl)) pe_non)))), ?_⟩
    try dsimp only [cxOf]
    obtain ⟨x, l, ⟨lo, hi⟩, m, past, rfl, ⟨dx, now, us, hx, hl, sn, da, rg, pr⟩, k⟩ := h
    dsimp only at sn rg k
    walk_at "ax_go"
    intro p H1 s1 np hp
    have hx1 := s1 _ _ hx
    have sn1 := Same.seqT s1 sn
    walk_at "ax_go"
    refine lc_ints (p := fun s => decide (1 ≤ cnt lo hi s) && decide (cnt lo hi s ≤ m)) (f := fun s => .int s) (by decide) (SqL.of hp) (fun st H2 Qt ms s2 q => ?_) (fun st H2 Q' ms hp2 s2 q => ?_) (fun D H2 s2 nD hD => ?_)
    · obtain ⟨b1, b2⟩ := step_bounds st ms
      have hx2 := s2 _ _ hx1
      have sn2 := Same.seqT s2 sn1
      walk_at "ax_go"
      refine r_fld hx2 T.Axis.cl T.Axis_n_now (axF_lnow _ _ _) ?_
      walk_at "ax_go"
      by_cases c : 1 ≤ cnt lo hi st
      · walk_at "ax_go"
        refine r_fld hx2 T.Axis.cl T.Axis_n_most (axF_lmost _ _ _) ?_
        walk_at "ax_go"
        have e : (decide (1 ≤ cnt lo hi st) && decide (cnt lo hi st ≤ m)) = decide (cnt lo hi st ≤ m) := by simp [c]
        rw [e] at q
        exact q _ (Same.refl _)
      · walk_at "ax_go"
        have e : (decide (1 ≤ cnt lo hi st) && decide (cnt lo hi st ≤ m)) = false := by simp [c]
        rw [e] at q
        exact q _ (Same.refl _)
    · walk_at "ax_go"
      exact q _ (Same.refl _)
    have eD : H2 D = some (.lst ((betweenL lo hi 1 m).map V.int)) := hD
    walk_at "ax_go"
    intro e ne
    have sD := SqL.updn (o := .lst []) ne (SqL.of (K := K) eD)
    refine r_neNil sD (SqL.of upd_same) ?_
    walk_at "ax_go"
    cases eb : betweenL lo hi 1 m with
    | nil =>
      refine r_ndf rfl ?_
      walk_at "ax_go"
      have k2 := k _ (Same.updn (o := .lst []) (s1.trans s2) ne)
      unfold stepA at k2
      rw [eb] at k2
      exact k2
    | cons st t =>
      refine r_ndt (List.cons_ne_nil _ _) ?_
      walk_at "ax_go"
      rw [eb] at sD
      refine r_ixL sD (at_head (xs := st :: t) rfl) ?_
      have k2 := k _ (Same.updn (o := .lst []) (s1.trans s2) ne)
      unfold stepA at k2
      rw [eb] at k2
      exact k2
theorem c_Axis_step {T : Txt K mg} {H : Hp} {Q : VK} {E : XK} {x l : Addr} {cur : Int × Int} {m : Int} {past : List (Int × Int)} (at_ : AxAt K T.Axis.C H x l cur m past) (h : ∀ H', Same H H' → Q (optV (stepA cur.1 cur.2 m)) H') : sp_Axis_step T [.ref x] H Q E := ⟨x, l, cur, m, past, rfl, at_, h⟩
/-! ### Axis.marks -/
def marksA (lo hi m : Int) : List Int := match stepA lo hi m with
  | some s => marksL lo hi s
  | none => []
theorem stepA_mem {lo hi m s : Int} (h : stepA lo hi m = some s) : s ∈ steps ∧ 1 ≤ cnt lo hi s ∧ cnt lo hi s ≤ m := by
  unfold stepA at h
  have q := List.mem_of_mem_head? h
  unfold betweenL at q
  obtain ⟨h1, h2⟩ := List.mem_filter.mp q
  rw [Bool.and_eq_true, decide_eq_true_eq, decide_eq_true_eq] at h2
  exact ⟨h1, h2⟩
def sp_Axis_marks (T : Txt K mg) : Sp := fun vs H Q _ => ∃ (x l : Addr) (cur : Int × Int) (m : Int) (past : List (Int × Int)), vs = [.ref x] ∧ AxAt K T.Axis.C H x l cur m past ∧ m ≤ 1000 ∧ ∀ p H', Same H H' → H p = none → H' p = some (.lst ((marksA cur.1 cur.2 m).map V.int)) → Q (.ref p) H'
theorem ok_Axis_marks (T : Txt K mg) : FnOk P w K mg base CX0 3 T.Axis_marks.f T.Axis_marks.fd ["self"] (sp_Axis_marks T) := by
  refine T.Axis_marks.F.ok sc_Axis_marks (fun vs H Q E h => ?_) (fun cdv A outer s H vs Q E hr h => ?_)
  · obtain ⟨x, l, cur, m, past, rfl, _⟩ := h; rfl
  · refine ⟨_, (pss_cons (ps_set (i := 1) sc_Axis_marks.nd rfl (Or.inr rfl) (pe_meth0 (pv 0) T.Axis.cl T.Axis_step.m (ok_Axis_step T) (hr.mono (by decide)) T.Axis_step.b .nil pass0))
        (pss_cons (ps_if (pt_cmpR xo_isN (pv 1) pe_non (nomark _))
          (pss_one (ps_ret (pe_lst pa_nil)))
          pss_nil)
        (pss_one (ps_ret (pe_lc (own := [("k", 2)]) rfl sc_Axis_marks.nd (pi_range1 rfl T.z_range (pa_cons (pe_call (ok_count_of T) (hr.mono (by decide)) rfl T.count_of.g T.count_of.F.kp T.count_of.b .nil pass0 (pa_cons (pe_fld (pv 0) rfl) (pa_cons (pv 1) pa_nil))) pa_nil)) (blkOk_by (N := ["self", "step", "k"]) (sc := defScope s_Axis_marks) (by decide +kernel)) (fun _ _ _ _ _ => (pg_name (i := 2) sc_Axis_marks.nd rfl (Or.inl rfl))) (fun _ _ _ _ _ => pts_nil) (fun _ _ _ _ _ => (pe_op op_add (pe_call (ok_first_of T) (hr.mono (by decide)) rfl T.first_of.g T.first_of.F.kp T.first_of.b .nil pass0 (pa_cons (pe_fldK (K := K) rfl (pv 0) rfl) (pa_cons (pv 1) pa_nil))) (pe_op op_mul (pv 2) (pv 1))))))))), ?_⟩
    try dsimp only [cxOf]
    obtain ⟨x, l, ⟨lo, hi⟩, m, past, rfl, at0, m1000, k⟩ := h
    dsimp only at k
    have at0' := at0
    obtain ⟨dx, now, us, hx, hl, sn, da, rg, pr⟩ := at0'
    dsimp only at sn rg
    walk_at "ax_go"
    refine r_meth hx (axF_no (by decide +kernel) (by decide +kernel) (by decide +kernel)) ?_
    walk_at "ax_go"
    refine c_Axis_step at0 fun H1 s1 => ?_
    dsimp only
    cases es : stepA lo hi m with
    | none =>
      dsimp only [optV]
      walk_at "ax_go"
      intro p np
      have e : marksA lo hi m = [] := by unfold marksA; rw [es]
      exact k p _ (Same.updn s1 np) (s1.free np) (by rw [e]; exact upd_same)
    | some st =>
      obtain ⟨ms, c1, c2⟩ := stepA_mem es
      obtain ⟨b1, b2⟩ := step_bounds st ms
      have hx1 := s1 _ _ hx
      have sn1 := Same.seqT s1 sn
      have e : marksA lo hi m = marksL lo hi st := by unfold marksA; rw [es]
      rw [e] at k
      dsimp only [optV]
      walk_at "ax_go"
      refine r_isN (fun z => nomatch z) ?_
      walk_at "ax_go"
      refine r_fld hx1 T.Axis.cl T.Axis_n_now (axF_lnow _ _ _) ?_
      walk_at "ax_go"
      refine lc_rngM (f := fun k => .int (fst lo st + (k : Nat) * st)) (by omega) (fun i H2 Q' hi' s2 q => ?_) (fun D H2 s2 nD hD => ?_)
      · have hx2 := s2 _ _ hx1
        have sn2 := Same.seqT s2 sn1
        walk_at "ax_go"
        refine r_fld hx2 T.Axis.cl T.Axis_n_now (axF_lnow _ _ _) ?_
        walk_at "ax_go"
        have z : (0 : Int) + (i : Int) = (i : Int) := by omega
        rw [z]
        exact q _ (Same.refl _)
      refine k D H2 (s1.trans s2) (s1.free nD) ?_
      rw [hD]
      unfold marksL
      rw [List.map_map]
      rfl
theorem c_Axis_marks {T : Txt K mg} {H : Hp} {Q : VK} {E : XK} {x l : Addr} {cur : Int × Int} {m : Int} {past : List (Int × Int)} (at_ : AxAt K T.Axis.C H x l cur m past) (b : m ≤ 1000) (h : ∀ p H', Same H H' → H p = none → H' p = some (.lst ((marksA cur.1 cur.2 m).map V.int)) → Q (.ref p) H') : sp_Axis_marks T [.ref x] H Q E := ⟨x, l, cur, m, past, rfl, at_, b, h⟩
/-! ### Axis.__len__ -/
def sp_Axis___len__ (T : Txt K mg) : Sp := fun vs H Q _ => ∃ (x l : Addr) (cur : Int × Int) (m : Int) (past : List (Int × Int)), vs = [.ref x] ∧ AxAt K T.Axis.C H x l cur m past ∧ Q (.int past.length) H
theorem ok_Axis___len__ (T : Txt K mg) : FnOk P w K mg base CX0 1 T.Axis___len__.f T.Axis___len__.fd ["self"] (sp_Axis___len__ T) := by
  refine T.Axis___len__.F.ok sc_Axis___len__ (fun vs H Q E h => ?_) (fun cdv A outer s H vs Q E hr h => ?_)
  · obtain ⟨x, l, cur, m, past, rfl, _⟩ := h; rfl
  · refine ⟨_, (pss_one (ps_ret (pe_callB xc_len (by rfl) T.z_len PySem.boot_len (pa_cons (pe_fld (pv 0) rfl) pa_nil)))), ?_⟩
    try dsimp only [cxOf]
    obtain ⟨x, l, cur, m, past, rfl, ⟨dx, now, us, hx, hl, sn, da, rg, pr⟩, k⟩ := h
    have ul := dpa_len da
    rw [List.length_map] at ul
    walk_at "ax_go"
    refine r_fld hx T.Axis.cl T.Axis_n_past (axF_lpast _ _ _) ?_
    walk_at "ax_go"
    rw [ul]
    exact k
theorem c_Axis___len__ {T : Txt K mg} {H : Hp} {Q : VK} {E : XK} {x l : Addr} {cur : Int × Int} {m : Int} {past : List (Int × Int)} (at_ : AxAt K T.Axis.C H x l cur m past) (h : Q (.int past.length) H) : sp_Axis___len__ T [.ref x] H Q E := ⟨x, l, cur, m, past, rfl, at_, h⟩
/-! ### format_range -/
def sp_format_range (T : Txt K mg) : Sp := fun vs H Q E => ∃ (v : V), vs = [v] ∧ ((∃ lo hi, IsRg K H v lo hi ∧ Q (.str (mkS (rgL lo hi))) H) ∨ (NotRg K H v ∧ E (.ref T.BadRange.C) none H))
theorem ok_format_range (T : Txt K mg) : FnOk P w K mg base (L2.CX P w) 4 T.format_range.f T.format_range.fd ["span"] (sp_format_range T) := by
  refine T.format_range.F.okX sc_format_range (fun vs H Q E h => ?_) (fun cdv A outer s H vs Q E hr h => ?_)
  · obtain ⟨v, rfl, _⟩ := h; rfl
  · refine ⟨_, (pss_cons (ps_expr (pe_call (ok_check_range T) (hr.mono (by decide)) rfl T.check_range.g T.check_range.F.kp T.check_range.b .nil (passes_call (takes_of rfl rfl rfl rfl) (fun _ _ _ _ h => h)) (pa_cons (pv 0) pa_nil)))
        (pss_one (ps_ret (pe_joined (.cons (pe_fmt (pe_ix ix_tup (pv 0) pe_int (fun _ _ => rfl))) (.cons pe_str (.cons (pe_fmt (pe_ix ix_tup (pv 0) pe_int (fun _ _ => rfl))) .nil))))))), ?_⟩
    try dsimp only [cxOf]
    obtain ⟨v, rfl, ⟨lo, hi, ⟨a, rfl, s, r⟩, k⟩ | ⟨n, k⟩⟩ := h
    · have r' := r
      obtain ⟨r1, r2, r3⟩ := r'
      have l1 := intL_len (n := lo) (by omega)
      have l2 := intL_len (n := hi) (by omega)
      walk_at "ax_go"
      rw [s_dots]
      walk_at "ax_go"
      rw [rgL_eq]
      exact k
    · walk_at "ax_go"
      exact k
theorem c_format_range {T : Txt K mg} {H : Hp} {Q : VK} {E : XK} {a : Addr} {lo hi : Int} (s : SqT K H a [.int lo, .int hi]) (r : Rg lo hi) (h : Q (.str (mkS (rgL lo hi))) H) : sp_format_range T [.ref a] H Q E := ⟨_, rfl, .inl ⟨lo, hi, ⟨a, rfl, s, r⟩, h⟩⟩
local macro_rules | `(tactic| walk_at "ax_call") => `(tactic| ((with_reducible refine' c_format_range ?s ?r ?_); (case s => walk_at "ax_seq"); (case r => walk_at "ax_rg")))
/-! ### format_axis -/
def sp_format_axis (T : Txt K mg) : Sp := fun vs H Q E => ∃ (x y : V), vs = [x, y] ∧ ((∃ lo hi st, IsRg K H x lo hi ∧ y = .int st ∧ st ∈ steps ∧ ∀ H', Same H H' → Q (.str (mkS (axL lo hi st))) H') ∨ errRS K H x y T.BadRange.C T.BadStep.C E)
theorem ok_format_axis (T : Txt K mg) : FnOk P w K mg base (L2.CX P w) 4 T.format_axis.f T.format_axis.fd ["span", "step"] (sp_format_axis T) := by
  refine T.format_axis.F.okX sc_format_axis (fun vs H Q E h => ?_) (fun cdv A outer s H vs Q E hr h => ?_)
  · obtain ⟨x, y, rfl, _⟩ := h; rfl
  · refine ⟨_, (pss_cons (ps_expr (pe_call (ok_check_range T) (hr.mono (by decide)) rfl T.check_range.g T.check_range.F.kp T.check_range.b .nil (passes_call (takes_of rfl rfl rfl rfl) (fun _ _ _ _ h => h)) (pa_cons (pv 0) pa_nil)))
        (pss_cons (ps_expr (pe_call (ok_check_step T) (hr.mono (by decide)) rfl T.check_step.g T.check_step.F.kp T.check_step.b .nil (passes_call (takes_of rfl rfl rfl rfl) (fun _ _ _ _ h => h)) (pa_cons (pv 1) pa_nil)))
        (pss_one (ps_ret (pe_joined (.cons (pe_fmt (pe_ix ix_tup (pv 0) pe_int (fun _ _ => rfl))) (.cons pe_str (.cons (pe_fmt (pe_ix ix_tup (pv 0) pe_int (fun _ _ => rfl))) (.cons pe_str (.cons (pe_fmt (pv 1)) .nil)))))))))), ?_⟩
    try dsimp only [cxOf]
    obtain ⟨x, y, rfl, ⟨lo, hi, st, ⟨a, rfl, s, r⟩, rfl, m, k⟩ | e⟩ := h
    · have r' := r
      obtain ⟨r1, r2, r3⟩ := r'
      have sb := step_b m
      obtain ⟨b1, b2⟩ := sb
      have l1 := intL_len (n := lo) (by omega)
      have l2 := intL_len (n := hi) (by omega)
      have l3 := intL_len (n := st) (by omega)
      walk_at "ax_go"
      intro H1 s1
      have s := Same.seqT s1 s
      walk_at "ax_go"
      rw [s_dots]
      walk_at "ax_go"
      rw [s_by]
      walk_at "ax_go"
      rw [axL_eq]
      exact k _ s1
    obtain ⟨n, k⟩ | ⟨⟨lo, hi, a, rfl, s, r⟩, n, k⟩ := e
    · walk_at "ax_go"
      exact k
    · walk_at "ax_go"
      exact k
theorem c_format_axis {T : Txt K mg} {H : Hp} {Q : VK} {E : XK} {a : Addr} {lo hi st : Int} (s : SqT K H a [.int lo, .int hi]) (r : Rg lo hi) (m : st ∈ steps) (h : ∀ H', Same H H' → Q (.str (mkS (axL lo hi st))) H') : sp_format_axis T [.ref a, .int st] H Q E := ⟨_, _, rfl, .inl ⟨lo, hi, st, ⟨a, rfl, s, r⟩, rfl, m, h⟩⟩
local macro_rules | `(tactic| walk_at "ax_call") => `(tactic| ((with_reducible refine' c_format_axis ?s ?r ?m ?_); (case s => walk_at "ax_seq"); (case r => walk_at "ax_rg"); (case m => walk_at "ax_st")))
/-! ### _law_start -/
def sp__law_start (_ : Txt K mg) : Sp := fun vs H Q _ => ∃ (a : Addr) (ns : List Int), vs = [.ref a] ∧ SqL K H a (ns.map V.int) ∧ ns.length ≤ 63 ∧ ∀ d n H', Same H H' → Dr H' d n → H d = none → H n = none → Q (.ref d) H'
theorem ok__law_start (T : Txt K mg) : FnOk P w K mg base CX0 1 T._law_start.f T._law_start.fd ["_law_script"] (sp__law_start T) := by
  refine T._law_start.F.ok sc__law_start (fun vs H Q E h => ?_) (fun cdv A outer s H vs Q E hr h => ?_)
  · obtain ⟨a, ns, rfl, _⟩ := h; rfl
  · refine ⟨_, (pss_one (ps_ret (pe_lst (pa_cons (pe_ifExp (pt_cmpR (op_neD hr.units) (pv 0) (pe_lst pa_nil) (nomark _)) (pe_callTy xc_list (by rfl) T.z_list (by decide +kernel) (pa_cons (pv 0) pa_nil)) (pe_lst (pa_cons pe_int pa_nil))) (pa_cons pe_int pa_nil))))), ?_⟩
    try dsimp only [cxOf]
    obtain ⟨a, ns, rfl, s, hl, k⟩ := h
    walk_at "ax_go"
    intro e ne
    have s2 : SqL K (upd H e (.lst [])) a (ns.map V.int) := SqL.updn ne s
    refine r_neD (b := decide (ns = [])) (dp_ints s2) (.lst (SqL.of upd_same) .nil) (shp_ints ns) (by rfl) (by rw [← eqv_listI]; rfl) ?_
    walk_at "ax_go"
    refine r_ifn (fun c => ?_) (fun c => ?_)
    · walk_at "ax_go"
      refine r_listL s2 ?_
      intro l nl
      walk_at "ax_go"
      intro d nd
      refine k d l _ (Same.updn (Same.updn (same_new ne) nl) nd) ⟨ns, 0, upd_same, at_updn nd upd_same, ?_, by omega⟩ ((same_new ne).free (Same.free (same_new nl) nd)) ((same_new ne).free nl)
      cases ns with
      | nil => exact absurd rfl c
      | cons x r => simp
    · subst c
      walk_at "ax_go"
      intro l nl
      walk_at "ax_go"
      intro d nd
      exact k d l _ (Same.updn (Same.updn (same_new ne) nl) nd) ⟨[0], 0, upd_same, at_updn nd upd_same, by decide, by decide⟩ ((same_new ne).free (Same.free (same_new nl) nd)) ((same_new ne).free nl)
theorem c__law_start {T : Txt K mg} {H : Hp} {Q : VK} {E : XK} {a : Addr} {ns : List Int} (s : SqL K H a (ns.map V.int)) (l : ns.length ≤ 63) (h : ∀ d n H', Same H H' → Dr H' d n → H d = none → H n = none → Q (.ref d) H') : sp__law_start T [.ref a] H Q E := ⟨a, ns, rfl, s, l, h⟩
local macro_rules | `(tactic| walk_at "ax_call") => `(tactic| ((with_reducible refine' c__law_start ?s ?l ?_); (case s => walk_at "ax_seq"); (case l => assumption)))
/-! ### _law_draw -/
def sp__law_draw (_ : Txt K mg) : Sp := fun vs H Q _ => ∃ (d n : Addr) (lim : Int), vs = [.ref d, .int lim] ∧ Dr H d n ∧ (0 < lim ∧ lim < 1073741824) ∧ ∀ v H', 0 ≤ v → v < lim → Kp d n H H' → Dr H' d n → Q (.int v) H'
theorem ok__law_draw (T : Txt K mg) : FnOk P w K mg base CX0 1 T._law_draw.f T._law_draw.fd ["_law_draws", "_law_limit"] (sp__law_draw T) := by
  refine T._law_draw.F.ok sc__law_draw (fun vs H Q E h => ?_) (fun cdv A outer s H vs Q E hr h => ?_)
  · obtain ⟨d, n, lim, rfl, _⟩ := h; rfl
  · refine ⟨_, (pss_cons (ps_set (i := 2) sc__law_draw.nd rfl (Or.inl rfl) (pe_ix ix_list (pv 0) pe_int (fun _ _ => rfl)))
        (pss_cons (ps_asg (pe_op op_add (pe_ix ix_list (pv 0) pe_int (fun _ _ => rfl)) pe_int) (pg_sub (pv 0) pe_int set_list))
        (pss_cons (ps_set (i := 3) sc__law_draw.nd rfl (Or.inl rfl) (pe_op op_mod (pe_ix ix_list (pv 0) pe_int (fun _ _ => rfl)) (pe_callB xc_len (by rfl) T.z_len PySem.boot_len (pa_cons (pv 2) pa_nil))))
        (pss_cons (ps_set (i := 4) sc__law_draw.nd rfl (Or.inl rfl) (pe_ix ix_list (pv 2) (pv 3) (fun _ _ => rfl)))
        (pss_cons (ps_if (pt_cmpR op_ge (pv 4) pe_int (nomark _))
          (pss_cons (ps_asg (pe_op op_fdiv (pv 4) (pv 1)) (pg_sub (pv 2) (pv 3) set_list))
        (pss_one (ps_ret (pe_op op_mod (pv 4) (pv 1)))))
          pss_nil)
        (pss_cons (ps_set (i := 5) sc__law_draw.nd rfl (Or.inl rfl) (pe_op op_mod (pe_op op_add (pv 4) (pe_op op_mul pe_int (pe_ix ix_list (pv 0) pe_int (fun _ _ => rfl)))) pe_int))
        (pss_cons (ps_set (i := 5) sc__law_draw.nd rfl (Or.inl rfl) (pe_op op_mod (pe_op op_pow (pv 5) pe_int) pe_int))
        (pss_one (ps_ret (pe_op op_mod (pe_op op_fdiv (pe_op op_mod (pe_op op_add (pe_op op_mul (pe_op op_fdiv (pv 5) pe_int) pe_int) (pv 5)) pe_int) pe_int) (pv 1))))))))))), ?_⟩
    try dsimp only [cxOf]
    obtain ⟨d, n, lim, rfl, dr, ⟨b1, b2⟩, k⟩ := h
    have hnd := dr.ne
    obtain ⟨ns, c, e1, e2, h1, h2⟩ := dr
    walk_at "ax_go"
    refine r_setL (j := 1) e1 rfl ?_
    have f1 : (upd H d (.lst ([V.ref n, V.int c].set 1 (.int (c + 1))))) d = some (.lst [V.ref n, .int (c + 1)]) := upd_same
    have f2 : (upd H d (.lst ([V.ref n, V.int c].set 1 (.int (c + 1))))) n = some (.lst (ns.map V.int)) := by
      rw [upd_ne hnd]
      exact e2
    have s1 := SqL.of (K := K) f1
    have s2 := SqL.of (K := K) f2
    have keep : Kp d n H (upd H d (.lst ([V.ref n, V.int c].set 1 (.int (c + 1))))) := fun b o e q1 q2 => by
      rw [upd_ne q1]
      exact e
    generalize upd H d (.lst ([V.ref n, V.int c].set 1 (.int (c + 1)))) = H2 at f1 f2 s1 s2 keep ⊢
    walk_at "ax_go"
    rw [List.length_map]
    refine r_I (by show (0 : Int) < _; omega) ?_
    have m0 : 0 ≤ (c + 1) % (ns.length : Int) := Int.emod_nonneg _ (by omega)
    have m1 : (c + 1) % (ns.length : Int) < ns.length := Int.emod_lt_of_pos _ (by omega)
    generalize (c + 1) % (ns.length : Int) = at_ at m0 m1 ⊢
    obtain ⟨x, hx⟩ : ∃ x, ns[at_.toNat]? = some x := ⟨ns[at_.toNat]'(by omega), List.getElem?_eq_getElem (by omega)⟩
    walk_at "ax_go"
    refine r_ixL s2 (atI_ok m0 (v := .int x) (by rw [List.getElem?_map, hx]; rfl)) ?_
    walk_at "ax_go"
    have dr2 : Dr H2 d n := ⟨ns, c + 1, f1, f2, h1, h2⟩
    refine r_if (fun q => ?_) (fun q => ?_)
    · walk_at "ax_go"
      refine r_setL (j := at_.toNat) f2 (ixN_ok m0 (by rw [List.length_map]; exact m1)) ?_
      walk_at "ax_go"
      refine k _ _ (Int.emod_nonneg _ (by omega)) (Int.emod_lt_of_pos _ b1) (fun b o e q1 q2 => ?_) ⟨ns.set at_.toNat (x / lim), c + 1, ?_, ?_, ?_, ?_⟩
      · rw [upd_ne q2]
        exact keep b o e q1 q2
      · rw [upd_ne hnd.symm]
        exact f1
      · rw [upd_same, List.map_set]
      · rw [List.length_set]; exact h1
      · rw [List.length_set]; exact h2
    · walk_at "ax_go"
      have p0 : 0 ≤ (x + 104729 * (c + 1)) % 4294967291 := Int.emod_nonneg _ (by omega)
      have p1 : (x + 104729 * (c + 1)) % 4294967291 < 4294967291 := Int.emod_lt_of_pos _ (by omega)
      generalize (x + 104729 * (c + 1)) % 4294967291 = m at p0 p1 ⊢
      walk_at "ax_go"
      have r0 : 0 ≤ m ^ (5 : Int).toNat % 4294967279 := Int.emod_nonneg _ (by omega)
      have r1 : m ^ (5 : Int).toNat % 4294967279 < 4294967279 := Int.emod_lt_of_pos _ (by omega)
      generalize m ^ (5 : Int).toNat % 4294967279 = w at r0 r1 ⊢
      walk_at "ax_go"
      exact k _ _ (Int.emod_nonneg _ (by omega)) (Int.emod_lt_of_pos _ b1) keep dr2
theorem c__law_draw {T : Txt K mg} {H : Hp} {Q : VK} {E : XK} {d n : Addr} {lim : Int} (r : Dr H d n) (b : 0 < lim ∧ lim < 1073741824) (h : ∀ v H', 0 ≤ v → v < lim → Kp d n H H' → Dr H' d n → Q (.int v) H') : sp__law_draw T [.ref d, .int lim] H Q E := ⟨d, n, lim, rfl, r, b, h⟩
local macro_rules | `(tactic| walk_at "ax_call") => `(tactic| ((with_reducible refine' c__law_draw ?r ?b ?_); (case r => walk_at "ax_dr"); (case b => exact ⟨by omega, by omega⟩)))
/-! ### _law_error -/
def sp__law_error (T : Txt K mg) : Sp := fun vs H Q _ => ∃ (a : Addr), vs = [.ref a] ∧ (
    (H a = some (Kept (.ref T.BadRange.C) a) ∧ ∀ H', Same H H' → Q (.str "range") H') ∨ (H a = some (Kept (.ref T.BadStep.C) a) ∧ ∀ H', Same H H' → Q (.str "step") H') ∨
    (H a = some (Kept (.ref T.BadMarks.C) a) ∧ ∀ H', Same H H' → Q (.str "marks") H') ∨ (H a = some (Kept (.ref T.BadNumber.C) a) ∧ ∀ H', Same H H' → Q (.str "number") H') ∨
    (H a = some (Kept (.ref T.BadText.C) a) ∧ ∀ H', Same H H' → Q (.str "text") H') ∨ (H a = some (Kept (.ref T.NotFound.C) a) ∧ ∀ H', Same H H' → Q (.str "none") H'))
theorem ok__law_error (T : Txt K mg) : FnOk P w K mg base CX0 1 T._law_error.f T._law_error.fd ["_law_caught"] (sp__law_error T) := by
  refine T._law_error.F.ok sc__law_error (fun vs H Q E h => ?_) (fun cdv A outer s H vs Q E hr h => ?_)
  · obtain ⟨a, rfl, _⟩ := h; rfl
  · refine ⟨_, (pss_cons (ps_set (i := 1) sc__law_error.nd rfl (Or.inl rfl) (pe_lst (pa_cons (pe_callB call_isA (by rfl) T.z_isinstance (by decide +kernel) (pa_cons (pv 0) (pa_cons (pe_glob (v := .ref T.BadRange.C) rfl T.BadRange.g rfl) pa_nil))) (pa_cons (pe_callB call_isA (by rfl) T.z_isinstance (by decide +kernel) (pa_cons (pv 0) (pa_cons (pe_glob (v := .ref T.BadStep.C) rfl T.BadStep.g rfl) pa_nil))) (pa_cons (pe_callB call_isA (by rfl) T.z_isinstance (by decide +kernel) (pa_cons (pv 0) (pa_cons (pe_glob (v := .ref T.BadMarks.C) rfl T.BadMarks.g rfl) pa_nil))) pa_nil)))))
        (pss_cons (ps_set (i := 1) sc__law_error.nd rfl (Or.inl rfl) (pe_op op_cat (pv 1) (pe_lst (pa_cons (pe_callB call_isA (by rfl) T.z_isinstance (by decide +kernel) (pa_cons (pv 0) (pa_cons (pe_glob (v := .ref T.BadNumber.C) rfl T.BadNumber.g rfl) pa_nil))) (pa_cons (pe_callB call_isA (by rfl) T.z_isinstance (by decide +kernel) (pa_cons (pv 0) (pa_cons (pe_glob (v := .ref T.BadText.C) rfl T.BadText.g rfl) pa_nil))) (pa_cons (pe_callB call_isA (by rfl) T.z_isinstance (by decide +kernel) (pa_cons (pv 0) (pa_cons (pe_glob (v := .ref T.NotFound.C) rfl T.NotFound.g rfl) pa_nil))) pa_nil))))))
        (pss_cons (ps_if (PW.pt (pw_or (pt_cmpR op_ne (pe_bm PySem.F.plainAttrs_list PySem.F.slot_list_count PySem.F.type_list_count xm_countV (pv 1) (pa_cons pe_bl pa_nil)) pe_int (nomark _)) (pw_or (pt_not (pt_val (pe_callB call_isA (by rfl) T.z_isinstance (by decide +kernel) (pa_cons (pv 0) (pa_cons (pe_glob (v := .ref T.AxisError.C) rfl T.AxisError.g rfl) pa_nil))))) (pw_or1 (pt_not (pt_val (pe_callB call_isA (by rfl) T.z_isinstance (by decide +kernel) (pa_cons (pv 0) (pa_cons (pe_bltn (v := .ty "ValueError") rfl T.z_ValueError (by decide +kernel) rfl) pa_nil)))))))))
          (pss_one (ps_ret pe_str))
          pss_nil)
        (pss_one (ps_ret (pe_ix ix_list (pe_lst (pa_cons pe_str (pa_cons pe_str (pa_cons pe_str (pa_cons pe_str (pa_cons pe_str (pa_cons pe_str pa_nil))))))) (pe_bm PySem.F.plainAttrs_list PySem.F.slot_list_index PySem.F.type_list_index mt_index (pv 1) (pa_cons pe_bl pa_nil)) (fun _ _ => rfl))))))), ?_⟩
    try dsimp only [cxOf]
    obtain ⟨a, rfl, k⟩ := h
    rcases k with ⟨e, k⟩ | ⟨e, k⟩ | ⟨e, k⟩ | ⟨e, k⟩ | ⟨e, k⟩ | ⟨e, k⟩
    · have q0 := T.BadRange.i; have q1 := T.q_BadRange_BadRange; have q2 := T.q_BadRange_BadStep; have q3 := T.q_BadRange_BadMarks; have q4 := T.q_BadRange_BadNumber; have q5 := T.q_BadRange_BadText; have q6 := T.q_BadRange_NotFound; have q7 := T.q_BadRange_AxisError; have q8 := T.q_BadRange_ValueError
      walk_at "ax_go"
      intro l nl
      walk_at "ax_go"
      intro l2 nl2
      refine r_cat (at_updn nl2 upd_same) upd_same (by decide) fun l3 nl3 => ?_
      walk_at "ax_go"
      refine r_cntV 1 (SqL.of upd_same) rfl rfl rfl ?_
      walk_at "ax_go"
      intro l4 nl4
      walk_at "ax_go"
      refine r_index 0 (SqL.of (at_updn nl4 upd_same)) rfl rfl rfl rfl (fun m z' hm => absurd hm (Nat.not_lt_zero _)) ?_
      walk_at "ax_go"
      exact k _ (Same.updn (Same.updn (Same.updn (same_new nl) nl2) nl3) nl4)
    · have q0 := T.BadStep.i; have q1 := T.q_BadStep_BadRange; have q2 := T.q_BadStep_BadStep; have q3 := T.q_BadStep_BadMarks; have q4 := T.q_BadStep_BadNumber; have q5 := T.q_BadStep_BadText; have q6 := T.q_BadStep_NotFound; have q7 := T.q_BadStep_AxisError; have q8 := T.q_BadStep_ValueError
      walk_at "ax_go"
      intro l nl
      walk_at "ax_go"
      intro l2 nl2
      refine r_cat (at_updn nl2 upd_same) upd_same (by decide) fun l3 nl3 => ?_
      walk_at "ax_go"
      refine r_cntV 1 (SqL.of upd_same) rfl rfl rfl ?_
      walk_at "ax_go"
      intro l4 nl4
      walk_at "ax_go"
      refine r_index 1 (SqL.of (at_updn nl4 upd_same)) rfl rfl rfl rfl (by intro m z' hm; match m, hm with | 0, _ => (intro z; cases z; rfl)) ?_
      walk_at "ax_go"
      exact k _ (Same.updn (Same.updn (Same.updn (same_new nl) nl2) nl3) nl4)
    · have q0 := T.BadMarks.i; have q1 := T.q_BadMarks_BadRange; have q2 := T.q_BadMarks_BadStep; have q3 := T.q_BadMarks_BadMarks; have q4 := T.q_BadMarks_BadNumber; have q5 := T.q_BadMarks_BadText; have q6 := T.q_BadMarks_NotFound; have q7 := T.q_BadMarks_AxisError; have q8 := T.q_BadMarks_ValueError
      walk_at "ax_go"
      intro l nl
      walk_at "ax_go"
      intro l2 nl2
      refine r_cat (at_updn nl2 upd_same) upd_same (by decide) fun l3 nl3 => ?_
      walk_at "ax_go"
      refine r_cntV 1 (SqL.of upd_same) rfl rfl rfl ?_
      walk_at "ax_go"
      intro l4 nl4
      walk_at "ax_go"
      refine r_index 2 (SqL.of (at_updn nl4 upd_same)) rfl rfl rfl rfl (by intro m z' hm; match m, hm with | 0, _ => (intro z; cases z; rfl) | 1, _ => (intro z; cases z; rfl)) ?_
      walk_at "ax_go"
      exact k _ (Same.updn (Same.updn (Same.updn (same_new nl) nl2) nl3) nl4)
    · have q0 := T.BadNumber.i; have q1 := T.q_BadNumber_BadRange; have q2 := T.q_BadNumber_BadStep; have q3 := T.q_BadNumber_BadMarks; have q4 := T.q_BadNumber_BadNumber; have q5 := T.q_BadNumber_BadText; have q6 := T.q_BadNumber_NotFound; have q7 := T.q_BadNumber_AxisError; have q8 := T.q_BadNumber_ValueError
      walk_at "ax_go"
      intro l nl
      walk_at "ax_go"
      intro l2 nl2
      refine r_cat (at_updn nl2 upd_same) upd_same (by decide) fun l3 nl3 => ?_
      walk_at "ax_go"
      refine r_cntV 1 (SqL.of upd_same) rfl rfl rfl ?_
      walk_at "ax_go"
      intro l4 nl4
      walk_at "ax_go"
      refine r_index 3 (SqL.of (at_updn nl4 upd_same)) rfl rfl rfl rfl (by intro m z' hm; match m, hm with | 0, _ => (intro z; cases z; rfl) | 1, _ => (intro z; cases z; rfl) | 2, _ => (intro z; cases z; rfl)) ?_
      walk_at "ax_go"
      exact k _ (Same.updn (Same.updn (Same.updn (same_new nl) nl2) nl3) nl4)
    · have q0 := T.BadText.i; have q1 := T.q_BadText_BadRange; have q2 := T.q_BadText_BadStep; have q3 := T.q_BadText_BadMarks; have q4 := T.q_BadText_BadNumber; have q5 := T.q_BadText_BadText; have q6 := T.q_BadText_NotFound; have q7 := T.q_BadText_AxisError; have q8 := T.q_BadText_ValueError
      walk_at "ax_go"
      intro l nl
      walk_at "ax_go"
      intro l2 nl2
      refine r_cat (at_updn nl2 upd_same) upd_same (by decide) fun l3 nl3 => ?_
      walk_at "ax_go"
      refine r_cntV 1 (SqL.of upd_same) rfl rfl rfl ?_
      walk_at "ax_go"
      intro l4 nl4
      walk_at "ax_go"
      refine r_index 4 (SqL.of (at_updn nl4 upd_same)) rfl rfl rfl rfl (by intro m z' hm; match m, hm with | 0, _ => (intro z; cases z; rfl) | 1, _ => (intro z; cases z; rfl) | 2, _ => (intro z; cases z; rfl) | 3, _ => (intro z; cases z; rfl)) ?_
      walk_at "ax_go"
      exact k _ (Same.updn (Same.updn (Same.updn (same_new nl) nl2) nl3) nl4)
    · have q0 := T.NotFound.i; have q1 := T.q_NotFound_BadRange; have q2 := T.q_NotFound_BadStep; have q3 := T.q_NotFound_BadMarks; have q4 := T.q_NotFound_BadNumber; have q5 := T.q_NotFound_BadText; have q6 := T.q_NotFound_NotFound; have q7 := T.q_NotFound_AxisError; have q8 := T.q_NotFound_ValueError
      walk_at "ax_go"
      intro l nl
      walk_at "ax_go"
      intro l2 nl2
      refine r_cat (at_updn nl2 upd_same) upd_same (by decide) fun l3 nl3 => ?_
      walk_at "ax_go"
      refine r_cntV 1 (SqL.of upd_same) rfl rfl rfl ?_
      walk_at "ax_go"
      intro l4 nl4
      walk_at "ax_go"
      refine r_index 5 (SqL.of (at_updn nl4 upd_same)) rfl rfl rfl rfl (by intro m z' hm; match m, hm with | 0, _ => (intro z; cases z; rfl) | 1, _ => (intro z; cases z; rfl) | 2, _ => (intro z; cases z; rfl) | 3, _ => (intro z; cases z; rfl) | 4, _ => (intro z; cases z; rfl)) ?_
      walk_at "ax_go"
      exact k _ (Same.updn (Same.updn (Same.updn (same_new nl) nl2) nl3) nl4)
theorem c__law_error_BadRange {T : Txt K mg} {H : Hp} {Q : VK} {E : XK} {a : Addr} (e : H a = some (Kept (.ref T.BadRange.C) a)) (h : ∀ H', Same H H' → Q (.str "range") H') : sp__law_error T [.ref a] H Q E := ⟨a, rfl, .inl ⟨e, h⟩⟩
local macro_rules | `(tactic| walk_at "ax_call") => `(tactic| ((with_reducible refine' c__law_error_BadRange ?e ?_); (case e => walk_at "ax_seq")))
theorem c__law_error_BadStep {T : Txt K mg} {H : Hp} {Q : VK} {E : XK} {a : Addr} (e : H a = some (Kept (.ref T.BadStep.C) a)) (h : ∀ H', Same H H' → Q (.str "step") H') : sp__law_error T [.ref a] H Q E := ⟨a, rfl, (.inr (.inl ⟨e, h⟩))⟩
local macro_rules | `(tactic| walk_at "ax_call") => `(tactic| ((with_reducible refine' c__law_error_BadStep ?e ?_); (case e => walk_at "ax_seq")))
theorem c__law_error_BadMarks {T : Txt K mg} {H : Hp} {Q : VK} {E : XK} {a : Addr} (e : H a = some (Kept (.ref T.BadMarks.C) a)) (h : ∀ H', Same H H' → Q (.str "marks") H') : sp__law_error T [.ref a] H Q E := ⟨a, rfl, (.inr (.inr (.inl ⟨e, h⟩)))⟩
local macro_rules | `(tactic| walk_at "ax_call") => `(tactic| ((with_reducible refine' c__law_error_BadMarks ?e ?_); (case e => walk_at "ax_seq")))
theorem c__law_error_BadNumber {T : Txt K mg} {H : Hp} {Q : VK} {E : XK} {a : Addr} (e : H a = some (Kept (.ref T.BadNumber.C) a)) (h : ∀ H', Same H H' → Q (.str "number") H') : sp__law_error T [.ref a] H Q E := ⟨a, rfl, (.inr (.inr (.inr (.inl ⟨e, h⟩))))⟩
local macro_rules | `(tactic| walk_at "ax_call") => `(tactic| ((with_reducible refine' c__law_error_BadNumber ?e ?_); (case e => walk_at "ax_seq")))
theorem c__law_error_BadText {T : Txt K mg} {H : Hp} {Q : VK} {E : XK} {a : Addr} (e : H a = some (Kept (.ref T.BadText.C) a)) (h : ∀ H', Same H H' → Q (.str "text") H') : sp__law_error T [.ref a] H Q E := ⟨a, rfl, (.inr (.inr (.inr (.inr (.inl ⟨e, h⟩)))))⟩
local macro_rules | `(tactic| walk_at "ax_call") => `(tactic| ((with_reducible refine' c__law_error_BadText ?e ?_); (case e => walk_at "ax_seq")))
theorem c__law_error_NotFound {T : Txt K mg} {H : Hp} {Q : VK} {E : XK} {a : Addr} (e : H a = some (Kept (.ref T.NotFound.C) a)) (h : ∀ H', Same H H' → Q (.str "none") H') : sp__law_error T [.ref a] H Q E := ⟨a, rfl, (.inr (.inr (.inr (.inr (.inr ⟨e, h⟩)))))⟩
local macro_rules | `(tactic| walk_at "ax_call") => `(tactic| ((with_reducible refine' c__law_error_NotFound ?e ?_); (case e => walk_at "ax_seq")))
/-! ### _law_one -/
/-- how a call ends -/
inductive Oc | ok | rg | st | nb | nf
  deriving DecidableEq
def Oc.str : Oc → Str
  | .ok => Str.ofString "done"
  | .rg => Str.ofString "range"
  | .st => Str.ofString "step"
  | .nb => Str.ofString "number"
  | .nf => Str.ofString "none"
def Oc.run {K : PySem.W.Frag} {mg : Str → Option Value} (T : Txt K mg) (H : Hp) (Q : VK) (E : XK) : Oc → Prop
  | .ok => ∀ r H', Same H H' → Q r H'
  | .rg => ∀ H', Same H H' → E (.ref T.BadRange.C) none H'
  | .st => ∀ H', Same H H' → E (.ref T.BadStep.C) none H'
  | .nb => ∀ H', Same H H' → E (.ref T.BadNumber.C) none H'
  | .nf => ∀ H', Same H H' → E (.ref T.NotFound.C) none H'
theorem IsRg.same {K : PySem.W.Frag} {H H' : Hp} {v : V} {lo hi : Int} (s : Same H H') (h : IsRg K H v lo hi) : IsRg K H' v lo hi := by
  obtain ⟨a, e, q, r⟩ := h
  exact ⟨a, e, Same.seqT s q, r⟩
theorem NotRg.same {K : PySem.W.Frag} {H H' : Hp} {v : V} (s : Same H H') (h : NotRg K H v) : NotRg K H' v := by
  cases h with
  | non => exact .non
  | bl b => exact .bl b
  | int i => exact .int i
  | str x => exact .str x
  | lst h => exact .lst (Same.seq s h)
  | len h hl => exact .len (Same.seqT s h) hl
  | fst h hx => exact .fst (Same.seqT s h) (hx.same s)
  | low h hx => exact .low (Same.seqT s h) hx
  | snd h hy => exact .snd (Same.seqT s h) (hy.same s)
  | high h hx => exact .high (Same.seqT s h) hx
theorem isrg_new {K : PySem.W.Frag} {H : Hp} {p : Addr} {lo hi : Int} (r : Rg lo hi) : IsRg K (upd H p (.tup [.int lo, .int hi])) (.ref p) lo hi := ⟨p, rfl, SqT.of upd_same, r⟩
theorem same_ins {H : Hp} {x dx C : Addr} (nx : H x = none) (nd : H dx = none) (ne : dx ≠ x) : Same H (upd (upd H dx (.own x)) x (.ins C dx [])) := Same.updn (same_new nd) (by rw [upd_ne ne.symm]; exact nx)
def sp__law_one (T : Txt K mg) : Sp := fun vs H Q E => ∃ (k : Nat) (v : V), vs = [.int k, v] ∧ k < 10 ∧ ((NotRg K H v ∧ Oc.rg.run T H Q E) ∨ (∃ lo hi, IsRg K H v lo hi ∧ (lo ≤ 1 ∧ 0 ≤ hi) ∧ Oc.ok.run T H Q E))
theorem ok__law_one (T : Txt K mg) : FnOk P w K mg base (L2.CX P w) 6 T._law_one.f T._law_one.fd ["_law_kind", "_law_span"] (sp__law_one T) := by
  refine T._law_one.F.okX sc__law_one (fun vs H Q E h => ?_) (fun cdv A outer s H vs Q E hr h => ?_)
  · obtain ⟨_, _, rfl, _⟩ := h; rfl
  · refine ⟨_, (pss_cons (ps_if (pt_cmpR op_eq (pv 0) pe_int (nomark _))
          (pss_one (ps_ret (pe_call (ok_counts T) (hr.mono (by decide)) rfl T.counts.g T.counts.F.kp T.counts.b .nil (passes_call (takes_of rfl rfl rfl rfl) (fun _ _ _ _ h => h)) (pa_cons (pv 1) pa_nil))))
          pss_nil)
        (pss_cons (ps_if (pt_cmpR op_eq (pv 0) pe_int (nomark _))
          (pss_one (ps_ret (pe_call (ok_empty_steps T) (hr.mono (by decide)) rfl T.empty_steps.g T.empty_steps.F.kp T.empty_steps.b .nil (passes_call (takes_of rfl rfl rfl rfl) (fun _ _ _ _ h => h)) (pa_cons (pv 1) pa_nil))))
          pss_nil)
        (pss_cons (ps_if (pt_cmpR op_eq (pv 0) pe_int (nomark _))
          (pss_one (ps_ret (pe_call (ok_out_of_order T) (hr.mono (by decide)) rfl T.out_of_order.g T.out_of_order.F.kp T.out_of_order.b .nil (passes_call (takes_of rfl rfl rfl rfl) (fun _ _ _ _ h => h)) (pa_cons (pv 1) pa_nil))))
          pss_nil)
        (pss_cons (ps_if (pt_cmpR op_eq (pv 0) pe_int (nomark _))
          (pss_one (ps_ret (pe_call (ok_turned_over T) (hr.mono (by decide)) rfl T.turned_over.g T.turned_over.F.kp T.turned_over.b .nil (passes_call (takes_of rfl rfl rfl rfl) (fun _ _ _ _ h => h)) (pa_cons (pv 1) pa_nil))))
          pss_nil)
        (pss_cons (ps_if (pt_cmpR op_eq (pv 0) pe_int (nomark _))
          (pss_one (ps_ret (pe_call (ok_format_range T) (hr.mono (by decide)) rfl T.format_range.g T.format_range.F.kp T.format_range.b .nil (passes_call (takes_of rfl rfl rfl rfl) (fun _ _ _ _ h => h)) (pa_cons (pv 1) pa_nil))))
          pss_nil)
        (pss_cons (ps_if (pt_cmpR op_eq (pv 0) pe_int (nomark _))
          (pss_one (ps_ret (pe_call (ok_joined T) (hr.mono (by decide)) rfl T.joined.g T.joined.F.kp T.joined.b .nil (passes_call (takes_of rfl rfl rfl rfl) (fun _ _ _ _ h => h)) (pa_cons (pv 1) (pa_cons (pe_tup (pa_cons pe_int (pa_cons pe_int pa_nil))) pa_nil)))))
          pss_nil)
        (pss_cons (ps_if (pt_cmpR op_eq (pv 0) pe_int (nomark _))
          (pss_one (ps_ret (pe_call (ok_joined T) (hr.mono (by decide)) rfl T.joined.g T.joined.F.kp T.joined.b .nil (passes_call (takes_of rfl rfl rfl rfl) (fun _ _ _ _ h => h)) (pa_cons (pe_tup (pa_cons pe_int (pa_cons pe_int pa_nil))) (pa_cons (pv 1) pa_nil)))))
          pss_nil)
        (pss_cons (ps_if (pt_cmpR op_eq (pv 0) pe_int (nomark _))
          (pss_one (ps_ret (pe_call (ok_met T) (hr.mono (by decide)) rfl T.met.g T.met.F.kp T.met.b .nil (passes_call (takes_of rfl rfl rfl rfl) (fun _ _ _ _ h => h)) (pa_cons (pe_tup (pa_cons pe_int (pa_cons pe_int pa_nil))) (pa_cons (pv 1) pa_nil)))))
          pss_nil)
        (pss_one (ps_ret (pe_ifExp (pt_cmpR op_eq (pv 0) pe_int (nomark _)) (pe_make T.Axis_mk (ok_Axis___init__ T) (hr.mono (by decide)) rfl T.Axis.g T.Axis___init__.b .nil (passes_call (takes_of rfl rfl rfl rfl) (fun _ _ _ _ h => h)) (pa_cons (pv 1) (pa_cons pe_int pa_nil))) (pe_call (ok_met T) (hr.mono (by decide)) rfl T.met.g T.met.F.kp T.met.b .nil (passes_call (takes_of rfl rfl rfl rfl) (fun _ _ _ _ h => h)) (pa_cons (pv 1) (pa_cons (pe_tup (pa_cons pe_int (pa_cons pe_int pa_nil))) pa_nil)))))))))))))), ?_⟩
    try dsimp only [cxOf]

    obtain ⟨k, v, rfl, hk, h⟩ := h
    walk_at "ax_go"
    refine r_if (fun c => ?_) (fun c => ?_)
    · obtain rfl : k = 0 := by omega
      walk_at "ax_go"
      rcases h with ⟨n, ke⟩ | ⟨lo, hi, g, ⟨m1, m2⟩, ko⟩
      · have ke : ∀ H', Same H H' → E (.ref T.BadRange.C) none H' := ke
        have k0 := ke H (Same.refl _)
        exact ⟨_, rfl, .inr ⟨n, k0⟩⟩
      · have ko : ∀ r H', Same H H' → Q r H' := ko
        exact ⟨_, rfl, .inl ⟨lo, hi, g, fun D us H' s _ _ _ => ko _ _ s⟩⟩
    walk_at "ax_go"
    refine r_if (fun c => ?_) (fun c => ?_)
    · obtain rfl : k = 1 := by omega
      walk_at "ax_go"
      rcases h with ⟨n, ke⟩ | ⟨lo, hi, g, ⟨m1, m2⟩, ko⟩
      · have ke : ∀ H', Same H H' → E (.ref T.BadRange.C) none H' := ke
        have k0 := ke H (Same.refl _)
        exact ⟨_, rfl, .inr ⟨n, k0⟩⟩
      · have ko : ∀ r H', Same H H' → Q r H' := ko
        exact ⟨_, rfl, .inl ⟨lo, hi, g, fun p H' s _ _ => ko _ _ s⟩⟩
    walk_at "ax_go"
    refine r_if (fun c => ?_) (fun c => ?_)
    · obtain rfl : k = 2 := by omega
      walk_at "ax_go"
      rcases h with ⟨n, ke⟩ | ⟨lo, hi, g, ⟨m1, m2⟩, ko⟩
      · have ke : ∀ H', Same H H' → E (.ref T.BadRange.C) none H' := ke
        have k0 := ke H (Same.refl _)
        exact ⟨_, rfl, .inr ⟨n, k0⟩⟩
      · have ko : ∀ r H', Same H H' → Q r H' := ko
        exact ⟨_, rfl, .inl ⟨lo, hi, g, fun D us H' s _ _ _ => ko _ _ s⟩⟩
    walk_at "ax_go"
    refine r_if (fun c => ?_) (fun c => ?_)
    · obtain rfl : k = 3 := by omega
      walk_at "ax_go"
      rcases h with ⟨n, ke⟩ | ⟨lo, hi, g, ⟨m1, m2⟩, ko⟩
      · have ke : ∀ H', Same H H' → E (.ref T.BadRange.C) none H' := ke
        have k0 := ke H (Same.refl _)
        exact ⟨_, rfl, .inr ⟨n, k0⟩⟩
      · have ko : ∀ r H', Same H H' → Q r H' := ko
        exact ⟨_, rfl, .inl ⟨lo, hi, g, fun p np => ko _ _ (same_new np)⟩⟩
    walk_at "ax_go"
    refine r_if (fun c => ?_) (fun c => ?_)
    · obtain rfl : k = 4 := by omega
      walk_at "ax_go"
      rcases h with ⟨n, ke⟩ | ⟨lo, hi, g, ⟨m1, m2⟩, ko⟩
      · have ke : ∀ H', Same H H' → E (.ref T.BadRange.C) none H' := ke
        have k0 := ke H (Same.refl _)
        exact ⟨_, rfl, .inr ⟨n, k0⟩⟩
      · have ko : ∀ r H', Same H H' → Q r H' := ko
        exact ⟨_, rfl, .inl ⟨lo, hi, g, ko _ _ (Same.refl _)⟩⟩
    walk_at "ax_go"
    refine r_if (fun c => ?_) (fun c => ?_)
    · obtain rfl : k = 5 := by omega
      walk_at "ax_go"
      intro p np
      walk_at "ax_go"
      have sm := same_new (o := .tup [V.int 0, V.int 1]) np
      rcases h with ⟨n, ke⟩ | ⟨lo, hi, g, ⟨m1, m2⟩, ko⟩
      · have ke : ∀ H', Same H H' → E (.ref T.BadRange.C) none H' := ke
        have k0 := ke H (Same.refl _)
        exact ⟨_, _, rfl, .inr (.inl ⟨NotRg.same sm n, ke _ sm⟩)⟩
      · have ko : ∀ r H', Same H H' → Q r H' := ko
        exact ⟨_, _, rfl, .inl ⟨lo, hi, 0, 1, IsRg.same sm g, isrg_new (by decide), fun q nq => ko _ _ (Same.updn sm nq)⟩⟩
    walk_at "ax_go"
    refine r_if (fun c => ?_) (fun c => ?_)
    · obtain rfl : k = 6 := by omega
      walk_at "ax_go"
      intro p np
      walk_at "ax_go"
      have sm := same_new (o := .tup [V.int 0, V.int 1]) np
      rcases h with ⟨n, ke⟩ | ⟨lo, hi, g, ⟨m1, m2⟩, ko⟩
      · have ke : ∀ H', Same H H' → E (.ref T.BadRange.C) none H' := ke
        have k0 := ke H (Same.refl _)
        exact ⟨_, _, rfl, .inr (.inr ⟨⟨0, 1, isrg_new (by decide)⟩, NotRg.same sm n, ke _ sm⟩)⟩
      · have ko : ∀ r H', Same H H' → Q r H' := ko
        exact ⟨_, _, rfl, .inl ⟨0, 1, lo, hi, isrg_new (by decide), IsRg.same sm g, fun q nq => ko _ _ (Same.updn sm nq)⟩⟩
    walk_at "ax_go"
    refine r_if (fun c => ?_) (fun c => ?_)
    · obtain rfl : k = 7 := by omega
      walk_at "ax_go"
      intro p np
      walk_at "ax_go"
      have sm := same_new (o := .tup [V.int 0, V.int 1]) np
      rcases h with ⟨n, ke⟩ | ⟨lo, hi, g, ⟨m1, m2⟩, ko⟩
      · have ke : ∀ H', Same H H' → E (.ref T.BadRange.C) none H' := ke
        have k0 := ke H (Same.refl _)
        exact ⟨_, _, rfl, .inr (.inr ⟨⟨0, 1, isrg_new (by decide)⟩, NotRg.same sm n, ke _ sm⟩)⟩
      · have ko : ∀ r H', Same H H' → Q r H' := ko
        have rr : lo ≤ hi := by obtain ⟨_, _, _, r⟩ := g; exact r.2.1
        exact ⟨_, _, rfl, .inl ⟨0, 1, lo, hi, isrg_new (by decide), IsRg.same sm g, .inl ⟨by omega, fun q nq => ko _ _ (Same.updn sm nq)⟩⟩⟩
    walk_at "ax_go"
    refine r_if (fun c => ?_) (fun c => ?_)
    · obtain rfl : k = 8 := by omega
      walk_at "ax_go"
      intro x dx nx nd ne
      have sm := same_ins (C := T.Axis.C) nx nd ne
      rcases h with ⟨n, ke⟩ | ⟨lo, hi, g, ⟨m1, m2⟩, ko⟩
      · have ke : ∀ H', Same H H' → E (.ref T.BadRange.C) none H' := ke
        have k0 := ke H (Same.refl _)
        exact ⟨x, dx, _, _, rfl, upd_same, .inr (.inl ⟨NotRg.same sm n, ke _ sm⟩)⟩
      · have ko : ∀ r H', Same H H' → Q r H' := ko
        refine ⟨x, dx, _, _, rfl, upd_same, .inl ⟨lo, hi, 5, IsRg.same sm g, rfl, by decide, fun l H' nl kp at_ => ⟨rfl, ?_⟩⟩⟩
        exact ko _ _ fun b o e => kp b o (sm b o e) (ne_of_none e nx)
    walk_at "ax_go"
    obtain rfl : k = 9 := by omega
    walk_at "ax_go"
    intro p np
    walk_at "ax_go"
    have sm := same_new (o := .tup [V.int 0, V.int 1]) np
    rcases h with ⟨n, ke⟩ | ⟨lo, hi, g, ⟨m1, m2⟩, ko⟩
    · have ke : ∀ H', Same H H' → E (.ref T.BadRange.C) none H' := ke
      have k0 := ke H (Same.refl _)
      exact ⟨_, _, rfl, .inr (.inl ⟨NotRg.same sm n, ke _ sm⟩)⟩
    · have ko : ∀ r H', Same H H' → Q r H' := ko
      have rr : lo ≤ hi := by obtain ⟨_, _, _, r⟩ := g; exact r.2.1
      exact ⟨_, _, rfl, .inl ⟨lo, hi, 0, 1, IsRg.same sm g, isrg_new (by decide), .inl ⟨by omega, fun q nq => ko _ _ (Same.updn sm nq)⟩⟩⟩
/-! ### _law_two -/
def out2 (k : Nat) (lo hi st : Int) : Oc :=
  if k = 1 ∨ k = 2 ∨ k = 3 ∨ k = 8 then (if cnt lo hi st = 0 then .nf else .ok)
  else if k = 4 then (if 1000 < cnt lo hi st then .nf else .ok)
  else if k = 5 then (if 0 < cnt lo hi st then .ok else .nf)
  else if k = 13 then (if goodR lo hi st 1 = [] then .nf else .ok)
  else if k = 14 ∨ k = 15 ∨ k = 17 then (if 1000 < cnt lo hi st then .nb else .ok)
  else .ok
theorem cnt05 {st : Int} (h : st ∈ steps) : cnt 0 5 st ≤ 6 := (by decide +kernel : ∀ s ∈ steps, cnt 0 5 s ≤ 6) st h
def sp__law_two (T : Txt K mg) : Sp := fun vs H Q E => ∃ (k : Nat) (v y : V), vs = [.int k, v, y] ∧ k < 19 ∧ ((NotRg K H v ∧ Oc.rg.run T H Q E) ∨ (∃ lo hi, IsRg K H v lo hi ∧ hi - lo ≤ 2000 ∧ NotStep K H y ∧ Oc.st.run T H Q E) ∨ (∃ lo hi st, IsRg K H v lo hi ∧ hi - lo ≤ 2000 ∧ y = .int st ∧ st ∈ steps ∧ (out2 k lo hi st).run T H Q E))
theorem ok__law_two (T : Txt K mg) : FnOk P w K mg base (L2.CX P w) 6 T._law_two.f T._law_two.fd ["_law_kind", "_law_span", "_law_step"] (sp__law_two T) := by
  refine T._law_two.F.okX sc__law_two (fun vs H Q E h => ?_) (fun cdv A outer s H vs Q E hr h => ?_)
  · obtain ⟨_, _, _, rfl, _⟩ := h; rfl
  · refine ⟨_, (pss_cons (ps_if (pt_cmpR op_eq (pv 0) pe_int (nomark _))
          (pss_one (ps_ret (pe_call (ok_count_marks T) (hr.mono (by decide)) rfl T.count_marks.g T.count_marks.F.kp T.count_marks.b .nil (passes_call (takes_of rfl rfl rfl rfl) (fun _ _ _ _ h => h)) (pa_cons (pv 1) (pa_cons (pv 2) pa_nil)))))
          pss_nil)
        (pss_cons (ps_if (pt_cmpR op_eq (pv 0) pe_int (nomark _))
          (pss_one (ps_ret (pe_call (ok_first_mark T) (hr.mono (by decide)) rfl T.first_mark.g T.first_mark.F.kp T.first_mark.b .nil (passes_call (takes_of rfl rfl rfl rfl) (fun _ _ _ _ h => h)) (pa_cons (pv 1) (pa_cons (pv 2) pa_nil)))))
          pss_nil)
        (pss_cons (ps_if (pt_cmpR op_eq (pv 0) pe_int (nomark _))
          (pss_one (ps_ret (pe_call (ok_last_mark T) (hr.mono (by decide)) rfl T.last_mark.g T.last_mark.F.kp T.last_mark.b .nil (passes_call (takes_of rfl rfl rfl rfl) (fun _ _ _ _ h => h)) (pa_cons (pv 1) (pa_cons (pv 2) pa_nil)))))
          pss_nil)
        (pss_cons (ps_if (pt_cmpR op_eq (pv 0) pe_int (nomark _))
          (pss_one (ps_ret (pe_call (ok_gaps T) (hr.mono (by decide)) rfl T.gaps.g T.gaps.F.kp T.gaps.b .nil (passes_call (takes_of rfl rfl rfl rfl) (fun _ _ _ _ h => h)) (pa_cons (pv 1) (pa_cons (pv 2) pa_nil)))))
          pss_nil)
        (pss_cons (ps_if (pt_cmpR op_eq (pv 0) pe_int (nomark _))
          (pss_one (ps_ret (pe_call (ok_marks T) (hr.mono (by decide)) rfl T.marks.g T.marks.F.kp T.marks.b .nil (passes_call (takes_of rfl rfl rfl rfl) (fun _ _ _ _ h => h)) (pa_cons (pv 1) (pa_cons (pv 2) pa_nil)))))
          pss_nil)
        (pss_cons (ps_if (pt_cmpR op_eq (pv 0) pe_int (nomark _))
          (pss_one (ps_ret (pe_call (ok_mark_at T) (hr.mono (by decide)) rfl T.mark_at.g T.mark_at.F.kp T.mark_at.b .nil (passes_call (takes_of rfl rfl rfl rfl) (fun _ _ _ _ h => h)) (pa_cons (pv 1) (pa_cons (pv 2) (pa_cons pe_int pa_nil))))))
          pss_nil)
        (pss_cons (ps_if (pt_cmpR op_eq (pv 0) pe_int (nomark _))
          (pss_one (ps_ret (pe_call (ok_is_mark T) (hr.mono (by decide)) rfl T.is_mark.g T.is_mark.F.kp T.is_mark.b .nil (passes_call (takes_of rfl rfl rfl rfl) (fun _ _ _ _ h => h)) (pa_cons (pv 1) (pa_cons (pv 2) (pa_cons pe_int pa_nil))))))
          pss_nil)
        (pss_cons (ps_if (pt_cmpR op_eq (pv 0) pe_int (nomark _))
          (pss_one (ps_ret (pe_call (ok_outward T) (hr.mono (by decide)) rfl T.outward.g T.outward.F.kp T.outward.b .nil (passes_call (takes_of rfl rfl rfl rfl) (fun _ _ _ _ h => h)) (pa_cons (pv 1) (pa_cons (pv 2) pa_nil)))))
          pss_nil)
        (pss_cons (ps_if (pt_cmpR op_eq (pv 0) pe_int (nomark _))
          (pss_one (ps_ret (pe_call (ok_inward T) (hr.mono (by decide)) rfl T.inward.g T.inward.F.kp T.inward.b .nil (passes_call (takes_of rfl rfl rfl rfl) (fun _ _ _ _ h => h)) (pa_cons (pv 1) (pa_cons (pv 2) pa_nil)))))
          pss_nil)
        (pss_cons (ps_if (pt_cmpR op_eq (pv 0) pe_int (nomark _))
          (pss_one (ps_ret (pe_call (ok_spare T) (hr.mono (by decide)) rfl T.spare.g T.spare.F.kp T.spare.b .nil (passes_call (takes_of rfl rfl rfl rfl) (fun _ _ _ _ h => h)) (pa_cons (pv 1) (pa_cons (pv 2) pa_nil)))))
          pss_nil)
        (pss_cons (ps_if (pt_cmpR op_eq (pv 0) pe_int (nomark _))
          (pss_one (ps_ret (pe_call (ok_is_round T) (hr.mono (by decide)) rfl T.is_round.g T.is_round.F.kp T.is_round.b .nil (passes_call (takes_of rfl rfl rfl rfl) (fun _ _ _ _ h => h)) (pa_cons (pv 1) (pa_cons (pv 2) pa_nil)))))
          pss_nil)
        (pss_cons (ps_if (pt_cmpR op_eq (pv 0) pe_int (nomark _))
          (pss_one (ps_ret (pe_call (ok_shared_marks T) (hr.mono (by decide)) rfl T.shared_marks.g T.shared_marks.F.kp T.shared_marks.b .nil (passes_call (takes_of rfl rfl rfl rfl) (fun _ _ _ _ h => h)) (pa_cons (pv 1) (pa_cons (pv 2) (pa_cons (pv 2) pa_nil))))))
          pss_nil)
        (pss_cons (ps_if (pt_cmpR op_eq (pv 0) pe_int (nomark _))
          (pss_one (ps_ret (pe_call (ok_ranges_with T) (hr.mono (by decide)) rfl T.ranges_with.g T.ranges_with.F.kp T.ranges_with.b .nil (passes_call (takes_of rfl rfl rfl rfl) (fun _ _ _ _ h => h)) (pa_cons (pv 1) (pa_cons (pv 2) (pa_cons pe_int pa_nil))))))
          pss_nil)
        (pss_cons (ps_if (pt_cmpR op_eq (pv 0) pe_int (nomark _))
          (pss_one (ps_ret (pe_call (ok_first_range T) (hr.mono (by decide)) rfl T.first_range.g T.first_range.F.kp T.first_range.b .nil (passes_call (takes_of rfl rfl rfl rfl) (fun _ _ _ _ h => h)) (pa_cons (pv 1) (pa_cons (pv 2) (pa_cons pe_int pa_nil))))))
          pss_nil)
        (pss_cons (ps_if (pt_cmpR op_eq (pv 0) pe_int (nomark _))
          (pss_one (ps_ret (pe_call (ok_come_and_go T) (hr.mono (by decide)) rfl T.come_and_go.g T.come_and_go.F.kp T.come_and_go.b .nil (passes_call (takes_of rfl rfl rfl rfl) (fun _ _ _ _ h => h)) (pa_cons (pv 1) (pa_cons (pe_tup (pa_cons pe_int (pa_cons pe_int pa_nil))) (pa_cons (pv 2) pa_nil))))))
          pss_nil)
        (pss_cons (ps_if (pt_cmpR op_eq (pv 0) pe_int (nomark _))
          (pss_one (ps_ret (pe_call (ok_kept T) (hr.mono (by decide)) rfl T.kept.g T.kept.F.kp T.kept.b .nil (passes_call (takes_of rfl rfl rfl rfl) (fun _ _ _ _ h => h)) (pa_cons (pv 1) (pa_cons (pe_tup (pa_cons pe_int (pa_cons pe_int pa_nil))) (pa_cons (pv 2) (pa_cons pe_int pa_nil)))))))
          pss_nil)
        (pss_cons (ps_if (pt_cmpR op_eq (pv 0) pe_int (nomark _))
          (pss_one (ps_ret (pe_call (ok_format_axis T) (hr.mono (by decide)) rfl T.format_axis.g T.format_axis.F.kp T.format_axis.b .nil (passes_call (takes_of rfl rfl rfl rfl) (fun _ _ _ _ h => h)) (pa_cons (pv 1) (pa_cons (pv 2) pa_nil)))))
          pss_nil)
        (pss_one (ps_ret (pe_ifExp (pt_cmpR op_eq (pv 0) pe_int (nomark _)) (pe_call (ok_come_and_go T) (hr.mono (by decide)) rfl T.come_and_go.g T.come_and_go.F.kp T.come_and_go.b .nil (passes_call (takes_of rfl rfl rfl rfl) (fun _ _ _ _ h => h)) (pa_cons (pe_tup (pa_cons pe_int (pa_cons pe_int pa_nil))) (pa_cons (pv 1) (pa_cons (pv 2) pa_nil)))) (pe_call (ok_kept T) (hr.mono (by decide)) rfl T.kept.g T.kept.F.kp T.kept.b .nil (passes_call (takes_of rfl rfl rfl rfl) (fun _ _ _ _ h => h)) (pa_cons (pe_tup (pa_cons pe_int (pa_cons pe_int pa_nil))) (pa_cons (pv 1) (pa_cons (pv 2) (pa_cons pe_int pa_nil))))))))))))))))))))))))), ?_⟩
    try dsimp only [cxOf]

    obtain ⟨k, v, y, rfl, hk, h⟩ := h
    walk_at "ax_go"
    refine r_if (fun c => ?_) (fun c => ?_)
    · obtain rfl : k = 0 := by omega
      walk_at "ax_go"
      rcases h with ⟨n, ke⟩ | ⟨lo, hi, g, gw, ns, ks⟩ | ⟨lo, hi, st, g, gw, rfl, m, ko⟩
      · have ke : ∀ H', Same H H' → E (.ref T.BadRange.C) none H' := ke
        have k0 := ke H (Same.refl _)
        exact ⟨_, _, rfl, .inr (.inl ⟨n, k0⟩)⟩
      · have ks : ∀ H', Same H H' → E (.ref T.BadStep.C) none H' := ks
        exact ⟨_, _, rfl, .inr (.inr ⟨⟨lo, hi, g⟩, ns, ks⟩)⟩
      · have c5 := cnt05 m
        have ko : ∀ r H', Same H H' → Q r H' := ko
        exact ⟨_, _, rfl, .inl ⟨lo, hi, st, g, rfl, m, fun H' s => ko _ _ s⟩⟩
    walk_at "ax_go"
    refine r_if (fun c => ?_) (fun c => ?_)
    · obtain rfl : k = 1 := by omega
      walk_at "ax_go"
      rcases h with ⟨n, ke⟩ | ⟨lo, hi, g, gw, ns, ks⟩ | ⟨lo, hi, st, g, gw, rfl, m, ko⟩
      · have ke : ∀ H', Same H H' → E (.ref T.BadRange.C) none H' := ke
        have k0 := ke H (Same.refl _)
        exact ⟨_, _, rfl, .inr (.inl ⟨n, k0⟩)⟩
      · have ks : ∀ H', Same H H' → E (.ref T.BadStep.C) none H' := ks
        exact ⟨_, _, rfl, .inr (.inr ⟨⟨lo, hi, g⟩, ns, ks⟩)⟩
      · have c5 := cnt05 m
        have ko : Oc.run T H Q E (if cnt lo hi st = 0 then .nf else .ok) := ko
        refine ⟨_, _, rfl, .inl ⟨lo, hi, st, g, rfl, m, fun H' s => ?_⟩⟩
        by_cases c : cnt lo hi st = 0
        · rw [if_pos c] at ko ⊢
          exact ko _ s
        · rw [if_neg c] at ko ⊢
          exact ko _ _ s
    walk_at "ax_go"
    refine r_if (fun c => ?_) (fun c => ?_)
    · obtain rfl : k = 2 := by omega
      walk_at "ax_go"
      rcases h with ⟨n, ke⟩ | ⟨lo, hi, g, gw, ns, ks⟩ | ⟨lo, hi, st, g, gw, rfl, m, ko⟩
      · have ke : ∀ H', Same H H' → E (.ref T.BadRange.C) none H' := ke
        have k0 := ke H (Same.refl _)
        exact ⟨_, _, rfl, .inr (.inl ⟨n, k0⟩)⟩
      · have ks : ∀ H', Same H H' → E (.ref T.BadStep.C) none H' := ks
        exact ⟨_, _, rfl, .inr (.inr ⟨⟨lo, hi, g⟩, ns, ks⟩)⟩
      · have c5 := cnt05 m
        have ko : Oc.run T H Q E (if cnt lo hi st = 0 then .nf else .ok) := ko
        refine ⟨_, _, rfl, .inl ⟨lo, hi, st, g, rfl, m, fun H' s => ?_⟩⟩
        by_cases c : cnt lo hi st = 0
        · rw [if_pos c] at ko ⊢
          exact ko _ s
        · rw [if_neg c] at ko ⊢
          exact ko _ _ s
    walk_at "ax_go"
    refine r_if (fun c => ?_) (fun c => ?_)
    · obtain rfl : k = 3 := by omega
      walk_at "ax_go"
      rcases h with ⟨n, ke⟩ | ⟨lo, hi, g, gw, ns, ks⟩ | ⟨lo, hi, st, g, gw, rfl, m, ko⟩
      · have ke : ∀ H', Same H H' → E (.ref T.BadRange.C) none H' := ke
        have k0 := ke H (Same.refl _)
        exact ⟨_, _, rfl, .inr (.inl ⟨n, k0⟩)⟩
      · have ks : ∀ H', Same H H' → E (.ref T.BadStep.C) none H' := ks
        exact ⟨_, _, rfl, .inr (.inr ⟨⟨lo, hi, g⟩, ns, ks⟩)⟩
      · have c5 := cnt05 m
        have ko : Oc.run T H Q E (if cnt lo hi st = 0 then .nf else .ok) := ko
        by_cases c : cnt lo hi st = 0
        · rw [if_pos c] at ko
          exact ⟨_, _, rfl, .inl ⟨lo, hi, st, g, rfl, m, .inl ⟨c, fun H' s => ko _ s⟩⟩⟩
        · rw [if_neg c] at ko
          exact ⟨_, _, rfl, .inl ⟨lo, hi, st, g, rfl, m, .inr ⟨c, fun p H' s _ _ => ko _ _ s⟩⟩⟩
    walk_at "ax_go"
    refine r_if (fun c => ?_) (fun c => ?_)
    · obtain rfl : k = 4 := by omega
      walk_at "ax_go"
      rcases h with ⟨n, ke⟩ | ⟨lo, hi, g, gw, ns, ks⟩ | ⟨lo, hi, st, g, gw, rfl, m, ko⟩
      · have ke : ∀ H', Same H H' → E (.ref T.BadRange.C) none H' := ke
        have k0 := ke H (Same.refl _)
        exact ⟨_, _, rfl, .inr (.inl ⟨n, k0⟩)⟩
      · have ks : ∀ H', Same H H' → E (.ref T.BadStep.C) none H' := ks
        exact ⟨_, _, rfl, .inr (.inr ⟨⟨lo, hi, g⟩, ns, ks⟩)⟩
      · have c5 := cnt05 m
        have ko : Oc.run T H Q E (if 1000 < cnt lo hi st then .nf else .ok) := ko
        by_cases c : 1000 < cnt lo hi st
        · rw [if_pos c] at ko
          exact ⟨_, _, rfl, .inl ⟨lo, hi, st, g, rfl, m, .inl ⟨c, fun H' s => ko _ s⟩⟩⟩
        · rw [if_neg c] at ko
          exact ⟨_, _, rfl, .inl ⟨lo, hi, st, g, rfl, m, .inr ⟨by omega, fun p H' s _ _ => ko _ _ s⟩⟩⟩
    walk_at "ax_go"
    refine r_if (fun c => ?_) (fun c => ?_)
    · obtain rfl : k = 5 := by omega
      walk_at "ax_go"
      rcases h with ⟨n, ke⟩ | ⟨lo, hi, g, gw, ns, ks⟩ | ⟨lo, hi, st, g, gw, rfl, m, ko⟩
      · have ke : ∀ H', Same H H' → E (.ref T.BadRange.C) none H' := ke
        have k0 := ke H (Same.refl _)
        exact ⟨_, _, _, rfl, .inr (.inl ⟨n, k0⟩)⟩
      · have ks : ∀ H', Same H H' → E (.ref T.BadStep.C) none H' := ks
        exact ⟨_, _, _, rfl, .inr (.inr ⟨⟨lo, hi, g⟩, ns, ks⟩)⟩
      · have c5 := cnt05 m
        have ko : Oc.run T H Q E (if 0 < cnt lo hi st then .ok else .nf) := ko
        refine ⟨_, _, _, rfl, .inl ⟨lo, hi, st, g, rfl, m, .inl ⟨0, rfl, fun H' s => ?_⟩⟩⟩
        by_cases c : 0 < cnt lo hi st
        · rw [if_pos c] at ko
          rw [if_pos ⟨Int.le_refl _, c⟩]
          exact ko _ _ s
        · rw [if_neg c] at ko
          rw [if_neg fun z => c z.2]
          exact ko _ s
    walk_at "ax_go"
    refine r_if (fun c => ?_) (fun c => ?_)
    · obtain rfl : k = 6 := by omega
      walk_at "ax_go"
      rcases h with ⟨n, ke⟩ | ⟨lo, hi, g, gw, ns, ks⟩ | ⟨lo, hi, st, g, gw, rfl, m, ko⟩
      · have ke : ∀ H', Same H H' → E (.ref T.BadRange.C) none H' := ke
        have k0 := ke H (Same.refl _)
        exact ⟨_, _, _, rfl, .inr (.inl ⟨n, k0⟩)⟩
      · have ks : ∀ H', Same H H' → E (.ref T.BadStep.C) none H' := ks
        exact ⟨_, _, _, rfl, .inr (.inr ⟨⟨lo, hi, g⟩, ns, ks⟩)⟩
      · have c5 := cnt05 m
        have ko : ∀ r H', Same H H' → Q r H' := ko
        exact ⟨_, _, _, rfl, .inl ⟨lo, hi, st, g, rfl, m, .inl ⟨0, rfl, fun H' s => ko _ _ s⟩⟩⟩
    walk_at "ax_go"
    refine r_if (fun c => ?_) (fun c => ?_)
    · obtain rfl : k = 7 := by omega
      walk_at "ax_go"
      rcases h with ⟨n, ke⟩ | ⟨lo, hi, g, gw, ns, ks⟩ | ⟨lo, hi, st, g, gw, rfl, m, ko⟩
      · have ke : ∀ H', Same H H' → E (.ref T.BadRange.C) none H' := ke
        have k0 := ke H (Same.refl _)
        exact ⟨_, _, rfl, .inr (.inl ⟨n, k0⟩)⟩
      · have ks : ∀ H', Same H H' → E (.ref T.BadStep.C) none H' := ks
        exact ⟨_, _, rfl, .inr (.inr ⟨⟨lo, hi, g⟩, ns, ks⟩)⟩
      · have c5 := cnt05 m
        have ko : ∀ r H', Same H H' → Q r H' := ko
        exact ⟨_, _, rfl, .inl ⟨lo, hi, st, g, rfl, m, fun p H' s _ _ => ko _ _ s⟩⟩
    walk_at "ax_go"
    refine r_if (fun c => ?_) (fun c => ?_)
    · obtain rfl : k = 8 := by omega
      walk_at "ax_go"
      rcases h with ⟨n, ke⟩ | ⟨lo, hi, g, gw, ns, ks⟩ | ⟨lo, hi, st, g, gw, rfl, m, ko⟩
      · have ke : ∀ H', Same H H' → E (.ref T.BadRange.C) none H' := ke
        have k0 := ke H (Same.refl _)
        exact ⟨_, _, rfl, .inr (.inl ⟨n, k0⟩)⟩
      · have ks : ∀ H', Same H H' → E (.ref T.BadStep.C) none H' := ks
        exact ⟨_, _, rfl, .inr (.inr ⟨⟨lo, hi, g⟩, ns, ks⟩)⟩
      · have c5 := cnt05 m
        have ko : Oc.run T H Q E (if cnt lo hi st = 0 then .nf else .ok) := ko
        by_cases c : cnt lo hi st = 0
        · rw [if_pos c] at ko
          exact ⟨_, _, rfl, .inl ⟨lo, hi, st, g, rfl, m, .inl ⟨c, fun H' s => ko _ s⟩⟩⟩
        · rw [if_neg c] at ko
          exact ⟨_, _, rfl, .inl ⟨lo, hi, st, g, rfl, m, .inr ⟨c, fun p H' s _ _ => ko _ _ s⟩⟩⟩
    walk_at "ax_go"
    refine r_if (fun c => ?_) (fun c => ?_)
    · obtain rfl : k = 9 := by omega
      walk_at "ax_go"
      rcases h with ⟨n, ke⟩ | ⟨lo, hi, g, gw, ns, ks⟩ | ⟨lo, hi, st, g, gw, rfl, m, ko⟩
      · have ke : ∀ H', Same H H' → E (.ref T.BadRange.C) none H' := ke
        have k0 := ke H (Same.refl _)
        exact ⟨_, _, rfl, .inr (.inl ⟨n, k0⟩)⟩
      · have ks : ∀ H', Same H H' → E (.ref T.BadStep.C) none H' := ks
        exact ⟨_, _, rfl, .inr (.inr ⟨⟨lo, hi, g⟩, ns, ks⟩)⟩
      · have c5 := cnt05 m
        have ko : ∀ r H', Same H H' → Q r H' := ko
        exact ⟨_, _, rfl, .inl ⟨lo, hi, st, g, rfl, m, fun H' s => ko _ _ s⟩⟩
    walk_at "ax_go"
    refine r_if (fun c => ?_) (fun c => ?_)
    · obtain rfl : k = 10 := by omega
      walk_at "ax_go"
      rcases h with ⟨n, ke⟩ | ⟨lo, hi, g, gw, ns, ks⟩ | ⟨lo, hi, st, g, gw, rfl, m, ko⟩
      · have ke : ∀ H', Same H H' → E (.ref T.BadRange.C) none H' := ke
        have k0 := ke H (Same.refl _)
        exact ⟨_, _, rfl, .inr (.inl ⟨n, k0⟩)⟩
      · have ks : ∀ H', Same H H' → E (.ref T.BadStep.C) none H' := ks
        exact ⟨_, _, rfl, .inr (.inr ⟨⟨lo, hi, g⟩, ns, ks⟩)⟩
      · have c5 := cnt05 m
        have ko : ∀ r H', Same H H' → Q r H' := ko
        exact ⟨_, _, rfl, .inl ⟨lo, hi, st, g, rfl, m, fun H' s => ko _ _ s⟩⟩
    walk_at "ax_go"
    refine r_if (fun c => ?_) (fun c => ?_)
    · obtain rfl : k = 11 := by omega
      walk_at "ax_go"
      rcases h with ⟨n, ke⟩ | ⟨lo, hi, g, gw, ns, ks⟩ | ⟨lo, hi, st, g, gw, rfl, m, ko⟩
      · have ke : ∀ H', Same H H' → E (.ref T.BadRange.C) none H' := ke
        have k0 := ke H (Same.refl _)
        exact ⟨_, _, _, rfl, .inr (.inl (.inl ⟨n, k0⟩))⟩
      · have ks : ∀ H', Same H H' → E (.ref T.BadStep.C) none H' := ks
        exact ⟨_, _, _, rfl, .inr (.inl (.inr ⟨⟨lo, hi, g⟩, ns, ks⟩))⟩
      · have c5 := cnt05 m
        have ko : ∀ r H', Same H H' → Q r H' := ko
        exact ⟨_, _, _, rfl, .inl ⟨lo, hi, st, st, g, rfl, m, rfl, m, fun H' s => ko _ _ s⟩⟩
    walk_at "ax_go"
    refine r_if (fun c => ?_) (fun c => ?_)
    · obtain rfl : k = 12 := by omega
      walk_at "ax_go"
      rcases h with ⟨n, ke⟩ | ⟨lo, hi, g, gw, ns, ks⟩ | ⟨lo, hi, st, g, gw, rfl, m, ko⟩
      · have ke : ∀ H', Same H H' → E (.ref T.BadRange.C) none H' := ke
        have k0 := ke H (Same.refl _)
        exact ⟨_, _, _, rfl, .inr (.inl ⟨n, k0⟩)⟩
      · have ks : ∀ H', Same H H' → E (.ref T.BadStep.C) none H' := ks
        exact ⟨_, _, _, rfl, .inr (.inr (.inr (.inl ⟨⟨lo, hi, g, gw⟩, ns, ks⟩)))⟩
      · have c5 := cnt05 m
        have ko : ∀ r H', Same H H' → Q r H' := ko
        exact ⟨_, _, _, rfl, .inl ⟨lo, hi, st, 1, g, gw, rfl, m, rfl, by decide, fun H' s => ko _ _ s⟩⟩
    walk_at "ax_go"
    refine r_if (fun c => ?_) (fun c => ?_)
    · obtain rfl : k = 13 := by omega
      walk_at "ax_go"
      rcases h with ⟨n, ke⟩ | ⟨lo, hi, g, gw, ns, ks⟩ | ⟨lo, hi, st, g, gw, rfl, m, ko⟩
      · have ke : ∀ H', Same H H' → E (.ref T.BadRange.C) none H' := ke
        have k0 := ke H (Same.refl _)
        exact ⟨_, _, _, rfl, .inr (.inl ⟨n, k0⟩)⟩
      · have ks : ∀ H', Same H H' → E (.ref T.BadStep.C) none H' := ks
        exact ⟨_, _, _, rfl, .inr (.inr (.inr (.inl ⟨⟨lo, hi, g, gw⟩, ns, ks⟩)))⟩
      · have c5 := cnt05 m
        have ko : Oc.run T H Q E (if goodR lo hi st 1 = [] then .nf else .ok) := ko
        by_cases c : goodR lo hi st 1 = []
        · rw [if_pos c] at ko
          exact ⟨_, _, _, rfl, .inl ⟨lo, hi, st, 1, g, gw, rfl, m, rfl, by decide, .inl ⟨c, fun H' s => ko _ s⟩⟩⟩
        · rw [if_neg c] at ko
          obtain ⟨q, qs, e⟩ := List.exists_cons_of_ne_nil c
          exact ⟨_, _, _, rfl, .inl ⟨lo, hi, st, 1, g, gw, rfl, m, rfl, by decide, .inr ⟨q, by rw [e]; rfl, fun p H' s _ _ => ko _ _ s⟩⟩⟩
    walk_at "ax_go"
    refine r_if (fun c => ?_) (fun c => ?_)
    · obtain rfl : k = 14 := by omega
      walk_at "ax_go"
      intro p np
      walk_at "ax_go"
      have sm := same_new (o := .tup [V.int 0, V.int 5]) np
      rcases h with ⟨n, ke⟩ | ⟨lo, hi, g, gw, ns, ks⟩ | ⟨lo, hi, st, g, gw, rfl, m, ko⟩
      · have ke : ∀ H', Same H H' → E (.ref T.BadRange.C) none H' := ke
        have k0 := ke H (Same.refl _)
        exact ⟨_, _, _, rfl, .inr (.inl ⟨NotRg.same sm n, ke _ sm⟩)⟩
      · have ks : ∀ H', Same H H' → E (.ref T.BadStep.C) none H' := ks
        exact ⟨_, _, _, rfl, .inr (.inr (.inr ⟨⟨lo, hi, IsRg.same sm g⟩, ⟨0, 5, isrg_new (by decide)⟩, NotStep.same sm ns, (fun H' s => ks _ (sm.trans s))⟩))⟩
      · have c5 := cnt05 m
        have ko : Oc.run T H Q E (if 1000 < cnt lo hi st then .nb else .ok) := ko
        by_cases c : 1000 < cnt lo hi st
        · rw [if_pos c] at ko
          exact ⟨_, _, _, rfl, .inl ⟨lo, hi, 0, 5, st, IsRg.same sm g, isrg_new (by decide), rfl, m, .inr ⟨.inl c, fun H' s => ko _ (sm.trans s)⟩⟩⟩
        · rw [if_neg c] at ko
          exact ⟨_, _, _, rfl, .inl ⟨lo, hi, 0, 5, st, IsRg.same sm g, isrg_new (by decide), rfl, m, .inl ⟨by omega, by omega, fun p D1 D2 H' s _ _ _ _ _ _ => ko _ _ (sm.trans s)⟩⟩⟩
    walk_at "ax_go"
    refine r_if (fun c => ?_) (fun c => ?_)
    · obtain rfl : k = 15 := by omega
      walk_at "ax_go"
      intro p np
      walk_at "ax_go"
      have sm := same_new (o := .tup [V.int 0, V.int 5]) np
      rcases h with ⟨n, ke⟩ | ⟨lo, hi, g, gw, ns, ks⟩ | ⟨lo, hi, st, g, gw, rfl, m, ko⟩
      · have ke : ∀ H', Same H H' → E (.ref T.BadRange.C) none H' := ke
        have k0 := ke H (Same.refl _)
        exact ⟨_, _, _, _, rfl, .inr (.inl ⟨NotRg.same sm n, ke _ sm⟩)⟩
      · have ks : ∀ H', Same H H' → E (.ref T.BadStep.C) none H' := ks
        exact ⟨_, _, _, _, rfl, .inr (.inr (.inr (.inl ⟨⟨lo, hi, IsRg.same sm g⟩, ⟨0, 5, isrg_new (by decide)⟩, NotStep.same sm ns, (fun H' s => ks _ (sm.trans s))⟩)))⟩
      · have c5 := cnt05 m
        have ko : Oc.run T H Q E (if 1000 < cnt lo hi st then .nb else .ok) := ko
        by_cases c : 1000 < cnt lo hi st
        · rw [if_pos c] at ko
          exact ⟨_, _, _, _, rfl, .inl ⟨lo, hi, 0, 5, st, 1, IsRg.same sm g, isrg_new (by decide), rfl, m, rfl, by decide, .inr ⟨c, fun H' s => ko _ (sm.trans s)⟩⟩⟩
        · rw [if_neg c] at ko
          exact ⟨_, _, _, _, rfl, .inl ⟨lo, hi, 0, 5, st, 1, IsRg.same sm g, isrg_new (by decide), rfl, m, rfl, by decide, .inl ⟨by omega, fun H' s => ko _ _ (sm.trans s)⟩⟩⟩
    walk_at "ax_go"
    refine r_if (fun c => ?_) (fun c => ?_)
    · obtain rfl : k = 16 := by omega
      walk_at "ax_go"
      rcases h with ⟨n, ke⟩ | ⟨lo, hi, g, gw, ns, ks⟩ | ⟨lo, hi, st, g, gw, rfl, m, ko⟩
      · have ke : ∀ H', Same H H' → E (.ref T.BadRange.C) none H' := ke
        have k0 := ke H (Same.refl _)
        exact ⟨_, _, rfl, .inr (.inl ⟨n, k0⟩)⟩
      · have ks : ∀ H', Same H H' → E (.ref T.BadStep.C) none H' := ks
        exact ⟨_, _, rfl, .inr (.inr ⟨⟨lo, hi, g⟩, ns, ks⟩)⟩
      · have c5 := cnt05 m
        have ko : ∀ r H', Same H H' → Q r H' := ko
        exact ⟨_, _, rfl, .inl ⟨lo, hi, st, g, rfl, m, fun H' s => ko _ _ s⟩⟩
    walk_at "ax_go"
    refine r_if (fun c => ?_) (fun c => ?_)
    · obtain rfl : k = 17 := by omega
      walk_at "ax_go"
      intro p np
      walk_at "ax_go"
      have sm := same_new (o := .tup [V.int 0, V.int 5]) np
      rcases h with ⟨n, ke⟩ | ⟨lo, hi, g, gw, ns, ks⟩ | ⟨lo, hi, st, g, gw, rfl, m, ko⟩
      · have ke : ∀ H', Same H H' → E (.ref T.BadRange.C) none H' := ke
        have k0 := ke H (Same.refl _)
        exact ⟨_, _, _, rfl, .inr (.inr (.inl ⟨⟨0, 5, isrg_new (by decide)⟩, NotRg.same sm n, ke _ sm⟩))⟩
      · have ks : ∀ H', Same H H' → E (.ref T.BadStep.C) none H' := ks
        exact ⟨_, _, _, rfl, .inr (.inr (.inr ⟨⟨0, 5, isrg_new (by decide)⟩, ⟨lo, hi, IsRg.same sm g⟩, NotStep.same sm ns, (fun H' s => ks _ (sm.trans s))⟩))⟩
      · have c5 := cnt05 m
        have ko : Oc.run T H Q E (if 1000 < cnt lo hi st then .nb else .ok) := ko
        by_cases c : 1000 < cnt lo hi st
        · rw [if_pos c] at ko
          exact ⟨_, _, _, rfl, .inl ⟨0, 5, lo, hi, st, isrg_new (by decide), IsRg.same sm g, rfl, m, .inr ⟨.inr ⟨by omega, c⟩, fun H' s => ko _ (sm.trans s)⟩⟩⟩
        · rw [if_neg c] at ko
          exact ⟨_, _, _, rfl, .inl ⟨0, 5, lo, hi, st, isrg_new (by decide), IsRg.same sm g, rfl, m, .inl ⟨by omega, by omega, fun p D1 D2 H' s _ _ _ _ _ _ => ko _ _ (sm.trans s)⟩⟩⟩
    walk_at "ax_go"
    obtain rfl : k = 18 := by omega
    walk_at "ax_go"
    intro p np
    walk_at "ax_go"
    have sm := same_new (o := .tup [V.int 0, V.int 5]) np
    rcases h with ⟨n, ke⟩ | ⟨lo, hi, g, gw, ns, ks⟩ | ⟨lo, hi, st, g, gw, rfl, m, ko⟩
    · have ke : ∀ H', Same H H' → E (.ref T.BadRange.C) none H' := ke
      have k0 := ke H (Same.refl _)
      exact ⟨_, _, _, _, rfl, .inr (.inr (.inl ⟨⟨0, 5, isrg_new (by decide)⟩, NotRg.same sm n, ke _ sm⟩))⟩
    · have ks : ∀ H', Same H H' → E (.ref T.BadStep.C) none H' := ks
      exact ⟨_, _, _, _, rfl, .inr (.inr (.inr (.inl ⟨⟨0, 5, isrg_new (by decide)⟩, ⟨lo, hi, IsRg.same sm g⟩, NotStep.same sm ns, (fun H' s => ks _ (sm.trans s))⟩)))⟩
    · have c5 := cnt05 m
      have ko : ∀ r H', Same H H' → Q r H' := ko
      exact ⟨_, _, _, _, rfl, .inl ⟨0, 5, lo, hi, st, 1, isrg_new (by decide), IsRg.same sm g, rfl, m, rfl, by decide, .inl ⟨by omega, fun H' s => ko _ _ (sm.trans s)⟩⟩⟩
/-! ### _law_three -/
/-- the bounds of the number -/
def lim3 (k : Nat) : Int × Int := if k ≤ 4 then (0, 3000000) else if k = 5 then (-2000000, 2000000) else if k ≤ 7 then (0, 2000000) else if k = 8 then (0, 6) else if k = 9 ∨ k = 10 ∨ k = 13 then (1, 1000) else (0, 1000)
def out3 (k : Nat) (lo hi w : Int) : Oc :=
  if k = 0 then (if mostL lo hi w = [] then .nf else .ok)
  else if k = 1 then (if leastL lo hi w = [] then .nf else .ok)
  else if k = 5 then (if Rg (lo + w) (hi + w) then .ok else .rg)
  else if k = 6 then (if Rg (lo - w) (hi + 0) then .ok else .rg)
  else if k = 7 then (if Rg (lo - 0) (hi + w) then .ok else .rg)
  else if k = 8 then (if Rg (lo * p10 w.toNat) (hi * p10 w.toNat) then .ok else .rg)
  else if k = 10 then (if Rg (lo - (hi - lo) * (w - 1) / 2) (hi + (hi - lo) * (w - 1) - (hi - lo) * (w - 1) / 2) then .ok else .rg)
  else if k = 11 then (if 2000 < hi - lo then .nb else .ok)
  else if k = 12 then (if 2000 < hi - lo then .nb else if goodR lo hi 1 w = [] then .nf else .ok)
  else .ok
def sp__law_three (T : Txt K mg) : Sp := fun vs H Q E => ∃ (k : Nat) (v y : V), vs = [.int k, v, y] ∧ k < 14 ∧ ((NotRg K H v ∧ Oc.rg.run T H Q E) ∨ (∃ lo hi, IsRg K H v lo hi ∧ hi - lo ≤ 2000 ∧ NotNum K H y (lim3 k).1 (lim3 k).2 ∧ Oc.nb.run T H Q E) ∨ (∃ lo hi w, IsRg K H v lo hi ∧ y = .int w ∧ ((lim3 k).1 ≤ w ∧ w ≤ (lim3 k).2) ∧ (out3 k lo hi w).run T H Q E))
theorem ok__law_three (T : Txt K mg) : FnOk P w K mg base (L2.CX P w) 6 T._law_three.f T._law_three.fd ["_law_kind", "_law_span", "_law_thing"] (sp__law_three T) := by
  refine T._law_three.F.okX sc__law_three (fun vs H Q E h => ?_) (fun cdv A outer s H vs Q E hr h => ?_)
  · obtain ⟨_, _, _, rfl, _⟩ := h; rfl
  · refine ⟨_, (pss_cons (ps_if (pt_cmpR op_eq (pv 0) pe_int (nomark _))
          (pss_one (ps_ret (pe_call (ok_with_most T) (hr.mono (by decide)) rfl T.with_most.g T.with_most.F.kp T.with_most.b .nil (passes_call (takes_of rfl rfl rfl rfl) (fun _ _ _ _ h => h)) (pa_cons (pv 1) (pa_cons (pv 2) pa_nil)))))
          pss_nil)
        (pss_cons (ps_if (pt_cmpR op_eq (pv 0) pe_int (nomark _))
          (pss_one (ps_ret (pe_call (ok_with_least T) (hr.mono (by decide)) rfl T.with_least.g T.with_least.F.kp T.with_least.b .nil (passes_call (takes_of rfl rfl rfl rfl) (fun _ _ _ _ h => h)) (pa_cons (pv 1) (pa_cons (pv 2) pa_nil)))))
          pss_nil)
        (pss_cons (ps_if (pt_cmpR op_eq (pv 0) pe_int (nomark _))
          (pss_one (ps_ret (pe_call (ok_nearest_to T) (hr.mono (by decide)) rfl T.nearest_to.g T.nearest_to.F.kp T.nearest_to.b .nil (passes_call (takes_of rfl rfl rfl rfl) (fun _ _ _ _ h => h)) (pa_cons (pv 1) (pa_cons (pv 2) pa_nil)))))
          pss_nil)
        (pss_cons (ps_if (pt_cmpR op_eq (pv 0) pe_int (nomark _))
          (pss_one (ps_ret (pe_call (ok_steps_between T) (hr.mono (by decide)) rfl T.steps_between.g T.steps_between.F.kp T.steps_between.b .nil (passes_call (takes_of rfl rfl rfl rfl) (fun _ _ _ _ h => h)) (pa_cons (pv 1) (pa_cons (pv 2) (pa_cons pe_int pa_nil))))))
          pss_nil)
        (pss_cons (ps_if (pt_cmpR op_eq (pv 0) pe_int (nomark _))
          (pss_one (ps_ret (pe_call (ok_steps_between T) (hr.mono (by decide)) rfl T.steps_between.g T.steps_between.F.kp T.steps_between.b .nil (passes_call (takes_of rfl rfl rfl rfl) (fun _ _ _ _ h => h)) (pa_cons (pv 1) (pa_cons pe_int (pa_cons (pv 2) pa_nil))))))
          pss_nil)
        (pss_cons (ps_if (pt_cmpR op_eq (pv 0) pe_int (nomark _))
          (pss_one (ps_ret (pe_call (ok_moved T) (hr.mono (by decide)) rfl T.moved.g T.moved.F.kp T.moved.b .nil (passes_call (takes_of rfl rfl rfl rfl) (fun _ _ _ _ h => h)) (pa_cons (pv 1) (pa_cons (pv 2) pa_nil)))))
          pss_nil)
        (pss_cons (ps_if (pt_cmpR op_eq (pv 0) pe_int (nomark _))
          (pss_one (ps_ret (pe_call (ok_widened T) (hr.mono (by decide)) rfl T.widened.g T.widened.F.kp T.widened.b .nil (passes_call (takes_of rfl rfl rfl rfl) (fun _ _ _ _ h => h)) (pa_cons (pv 1) (pa_cons (pv 2) (pa_cons pe_int pa_nil))))))
          pss_nil)
        (pss_cons (ps_if (pt_cmpR op_eq (pv 0) pe_int (nomark _))
          (pss_one (ps_ret (pe_call (ok_widened T) (hr.mono (by decide)) rfl T.widened.g T.widened.F.kp T.widened.b .nil (passes_call (takes_of rfl rfl rfl rfl) (fun _ _ _ _ h => h)) (pa_cons (pv 1) (pa_cons pe_int (pa_cons (pv 2) pa_nil))))))
          pss_nil)
        (pss_cons (ps_if (pt_cmpR op_eq (pv 0) pe_int (nomark _))
          (pss_one (ps_ret (pe_call (ok_scaled T) (hr.mono (by decide)) rfl T.scaled.g T.scaled.F.kp T.scaled.b .nil (passes_call (takes_of rfl rfl rfl rfl) (fun _ _ _ _ h => h)) (pa_cons (pv 1) (pa_cons (pv 2) pa_nil)))))
          pss_nil)
        (pss_cons (ps_if (pt_cmpR op_eq (pv 0) pe_int (nomark _))
          (pss_one (ps_ret (pe_call (ok_zoomed_in T) (hr.mono (by decide)) rfl T.zoomed_in.g T.zoomed_in.F.kp T.zoomed_in.b .nil (passes_call (takes_of rfl rfl rfl rfl) (fun _ _ _ _ h => h)) (pa_cons (pv 1) (pa_cons (pv 2) pa_nil)))))
          pss_nil)
        (pss_cons (ps_if (pt_cmpR op_eq (pv 0) pe_int (nomark _))
          (pss_one (ps_ret (pe_call (ok_zoomed_out T) (hr.mono (by decide)) rfl T.zoomed_out.g T.zoomed_out.F.kp T.zoomed_out.b .nil (passes_call (takes_of rfl rfl rfl rfl) (fun _ _ _ _ h => h)) (pa_cons (pv 1) (pa_cons (pv 2) pa_nil)))))
          pss_nil)
        (pss_cons (ps_if (pt_cmpR op_eq (pv 0) pe_int (nomark _))
          (pss_one (ps_ret (pe_call (ok_ranges_with T) (hr.mono (by decide)) rfl T.ranges_with.g T.ranges_with.F.kp T.ranges_with.b .nil (passes_call (takes_of rfl rfl rfl rfl) (fun _ _ _ _ h => h)) (pa_cons (pv 1) (pa_cons pe_int (pa_cons (pv 2) pa_nil))))))
          pss_nil)
        (pss_one (ps_ret (pe_ifExp (pt_cmpR op_eq (pv 0) pe_int (nomark _)) (pe_call (ok_first_range T) (hr.mono (by decide)) rfl T.first_range.g T.first_range.F.kp T.first_range.b .nil (passes_call (takes_of rfl rfl rfl rfl) (fun _ _ _ _ h => h)) (pa_cons (pv 1) (pa_cons pe_int (pa_cons (pv 2) pa_nil)))) (pe_make T.Axis_mk (ok_Axis___init__ T) (hr.mono (by decide)) rfl T.Axis.g T.Axis___init__.b .nil (passes_call (takes_of rfl rfl rfl rfl) (fun _ _ _ _ h => h)) (pa_cons (pv 1) (pa_cons (pv 2) pa_nil)))))))))))))))))), ?_⟩
    try dsimp only [cxOf]

    obtain ⟨k, v, y, rfl, hk, h⟩ := h
    walk_at "ax_go"
    refine r_if (fun c => ?_) (fun c => ?_)
    · obtain rfl : k = 0 := by omega
      walk_at "ax_go"
      rcases h with ⟨n, ke⟩ | ⟨lo, hi, g, gw, nn, kn⟩ | ⟨lo, hi, w, g, rfl, b, ko⟩
      · have ke : ∀ H', Same H H' → E (.ref T.BadRange.C) none H' := ke
        have k0 := ke H (Same.refl _)
        exact ⟨_, _, rfl, .inr (.inl ⟨n, k0⟩)⟩
      · have kn : ∀ H', Same H H' → E (.ref T.BadNumber.C) none H' := kn
        have k0 := kn H (Same.refl _)
        exact ⟨_, _, rfl, .inr (.inr ⟨⟨lo, hi, g⟩, nn, k0⟩)⟩
      · have ko : Oc.run T H Q E (if mostL lo hi w = [] then .nf else .ok) := ko
        by_cases c : mostL lo hi w = []
        · rw [if_pos c] at ko
          exact ⟨_, _, rfl, .inl ⟨lo, hi, w, g, rfl, b, .inl ⟨c, fun H' s => ko _ s⟩⟩⟩
        · rw [if_neg c] at ko
          obtain ⟨q, qs, e⟩ := List.exists_cons_of_ne_nil c
          exact ⟨_, _, rfl, .inl ⟨lo, hi, w, g, rfl, b, .inr ⟨q, by rw [e]; rfl, fun H' s => ko _ _ s⟩⟩⟩
    walk_at "ax_go"
    refine r_if (fun c => ?_) (fun c => ?_)
    · obtain rfl : k = 1 := by omega
      walk_at "ax_go"
      rcases h with ⟨n, ke⟩ | ⟨lo, hi, g, gw, nn, kn⟩ | ⟨lo, hi, w, g, rfl, b, ko⟩
      · have ke : ∀ H', Same H H' → E (.ref T.BadRange.C) none H' := ke
        have k0 := ke H (Same.refl _)
        exact ⟨_, _, rfl, .inr (.inl ⟨n, k0⟩)⟩
      · have kn : ∀ H', Same H H' → E (.ref T.BadNumber.C) none H' := kn
        have k0 := kn H (Same.refl _)
        exact ⟨_, _, rfl, .inr (.inr ⟨⟨lo, hi, g⟩, nn, k0⟩)⟩
      · have ko : Oc.run T H Q E (if leastL lo hi w = [] then .nf else .ok) := ko
        by_cases c : leastL lo hi w = []
        · rw [if_pos c] at ko
          exact ⟨_, _, rfl, .inl ⟨lo, hi, w, g, rfl, b, .inl ⟨c, fun H' s => ko _ s⟩⟩⟩
        · rw [if_neg c] at ko
          exact ⟨_, _, rfl, .inl ⟨lo, hi, w, g, rfl, b, .inr ⟨_, List.getLast?_eq_some_getLast c, fun H' s => ko _ _ s⟩⟩⟩
    walk_at "ax_go"
    refine r_if (fun c => ?_) (fun c => ?_)
    · obtain rfl : k = 2 := by omega
      walk_at "ax_go"
      rcases h with ⟨n, ke⟩ | ⟨lo, hi, g, gw, nn, kn⟩ | ⟨lo, hi, w, g, rfl, b, ko⟩
      · have ke : ∀ H', Same H H' → E (.ref T.BadRange.C) none H' := ke
        have k0 := ke H (Same.refl _)
        exact ⟨_, _, rfl, .inr (.inl ⟨n, k0⟩)⟩
      · have kn : ∀ H', Same H H' → E (.ref T.BadNumber.C) none H' := kn
        have k0 := kn H (Same.refl _)
        exact ⟨_, _, rfl, .inr (.inr ⟨⟨lo, hi, g⟩, nn, k0⟩)⟩
      · have ko : ∀ r H', Same H H' → Q r H' := ko
        exact ⟨_, _, rfl, .inl ⟨lo, hi, w, g, rfl, b, fun z H' _ s => ko _ _ s⟩⟩
    walk_at "ax_go"
    refine r_if (fun c => ?_) (fun c => ?_)
    · obtain rfl : k = 3 := by omega
      walk_at "ax_go"
      rcases h with ⟨n, ke⟩ | ⟨lo, hi, g, gw, nn, kn⟩ | ⟨lo, hi, w, g, rfl, b, ko⟩
      · have ke : ∀ H', Same H H' → E (.ref T.BadRange.C) none H' := ke
        have k0 := ke H (Same.refl _)
        exact ⟨_, _, _, rfl, .inr (.inl ⟨n, k0⟩)⟩
      · have kn : ∀ H', Same H H' → E (.ref T.BadNumber.C) none H' := kn
        have k0 := kn H (Same.refl _)
        exact ⟨_, _, _, rfl, .inr (.inr (.inl ⟨⟨lo, hi, g⟩, nn, k0⟩))⟩
      · have ko : ∀ r H', Same H H' → Q r H' := ko
        exact ⟨_, _, _, rfl, .inl ⟨lo, hi, w, 5, g, rfl, b, rfl, by decide, fun p H' s _ _ => ko _ _ s⟩⟩
    walk_at "ax_go"
    refine r_if (fun c => ?_) (fun c => ?_)
    · obtain rfl : k = 4 := by omega
      walk_at "ax_go"
      rcases h with ⟨n, ke⟩ | ⟨lo, hi, g, gw, nn, kn⟩ | ⟨lo, hi, w, g, rfl, b, ko⟩
      · have ke : ∀ H', Same H H' → E (.ref T.BadRange.C) none H' := ke
        have k0 := ke H (Same.refl _)
        exact ⟨_, _, _, rfl, .inr (.inl ⟨n, k0⟩)⟩
      · have kn : ∀ H', Same H H' → E (.ref T.BadNumber.C) none H' := kn
        have k0 := kn H (Same.refl _)
        exact ⟨_, _, _, rfl, .inr (.inr (.inr ⟨⟨lo, hi, g⟩, ⟨0, rfl, by decide⟩, nn, k0⟩))⟩
      · have ko : ∀ r H', Same H H' → Q r H' := ko
        exact ⟨_, _, _, rfl, .inl ⟨lo, hi, 0, w, g, rfl, by decide, rfl, b, fun p H' s _ _ => ko _ _ s⟩⟩
    walk_at "ax_go"
    refine r_if (fun c => ?_) (fun c => ?_)
    · obtain rfl : k = 5 := by omega
      walk_at "ax_go"
      rcases h with ⟨n, ke⟩ | ⟨lo, hi, g, gw, nn, kn⟩ | ⟨lo, hi, w, g, rfl, b, ko⟩
      · have ke : ∀ H', Same H H' → E (.ref T.BadRange.C) none H' := ke
        have k0 := ke H (Same.refl _)
        exact ⟨_, _, rfl, .inr (.inl ⟨n, k0⟩)⟩
      · have kn : ∀ H', Same H H' → E (.ref T.BadNumber.C) none H' := kn
        have k0 := kn H (Same.refl _)
        exact ⟨_, _, rfl, .inr (.inr ⟨⟨lo, hi, g⟩, nn, k0⟩)⟩
      · have ko : Oc.run T H Q E (if Rg (lo + w) (hi + w) then .ok else .rg) := ko
        by_cases c : Rg (lo + w) (hi + w)
        · rw [if_pos c] at ko
          exact ⟨_, _, rfl, .inl ⟨lo, hi, w, g, rfl, b, .inl ⟨c, fun p np => ko _ _ (same_new np)⟩⟩⟩
        · rw [if_neg c] at ko
          exact ⟨_, _, rfl, .inl ⟨lo, hi, w, g, rfl, b, .inr ⟨c, fun H' s => ko _ s⟩⟩⟩
    walk_at "ax_go"
    refine r_if (fun c => ?_) (fun c => ?_)
    · obtain rfl : k = 6 := by omega
      walk_at "ax_go"
      rcases h with ⟨n, ke⟩ | ⟨lo, hi, g, gw, nn, kn⟩ | ⟨lo, hi, w, g, rfl, b, ko⟩
      · have ke : ∀ H', Same H H' → E (.ref T.BadRange.C) none H' := ke
        have k0 := ke H (Same.refl _)
        exact ⟨_, _, _, rfl, .inr (.inl ⟨n, k0⟩)⟩
      · have kn : ∀ H', Same H H' → E (.ref T.BadNumber.C) none H' := kn
        have k0 := kn H (Same.refl _)
        exact ⟨_, _, _, rfl, .inr (.inr (.inl ⟨⟨lo, hi, g⟩, nn, k0⟩))⟩
      · have ko : Oc.run T H Q E (if Rg (lo - w) (hi + 0) then .ok else .rg) := ko
        by_cases c : Rg (lo - w) (hi + 0)
        · rw [if_pos c] at ko
          exact ⟨_, _, _, rfl, .inl ⟨lo, hi, w, 0, g, rfl, b, rfl, by decide, .inl ⟨c, fun p np => ko _ _ (same_new np)⟩⟩⟩
        · rw [if_neg c] at ko
          exact ⟨_, _, _, rfl, .inl ⟨lo, hi, w, 0, g, rfl, b, rfl, by decide, .inr ⟨c, fun H' s => ko _ s⟩⟩⟩
    walk_at "ax_go"
    refine r_if (fun c => ?_) (fun c => ?_)
    · obtain rfl : k = 7 := by omega
      walk_at "ax_go"
      rcases h with ⟨n, ke⟩ | ⟨lo, hi, g, gw, nn, kn⟩ | ⟨lo, hi, w, g, rfl, b, ko⟩
      · have ke : ∀ H', Same H H' → E (.ref T.BadRange.C) none H' := ke
        have k0 := ke H (Same.refl _)
        exact ⟨_, _, _, rfl, .inr (.inl ⟨n, k0⟩)⟩
      · have kn : ∀ H', Same H H' → E (.ref T.BadNumber.C) none H' := kn
        have k0 := kn H (Same.refl _)
        exact ⟨_, _, _, rfl, .inr (.inr (.inr ⟨⟨lo, hi, g⟩, ⟨0, rfl, by decide⟩, nn, k0⟩))⟩
      · have ko : Oc.run T H Q E (if Rg (lo - 0) (hi + w) then .ok else .rg) := ko
        by_cases c : Rg (lo - 0) (hi + w)
        · rw [if_pos c] at ko
          exact ⟨_, _, _, rfl, .inl ⟨lo, hi, 0, w, g, rfl, by decide, rfl, b, .inl ⟨c, fun p np => ko _ _ (same_new np)⟩⟩⟩
        · rw [if_neg c] at ko
          exact ⟨_, _, _, rfl, .inl ⟨lo, hi, 0, w, g, rfl, by decide, rfl, b, .inr ⟨c, fun H' s => ko _ s⟩⟩⟩
    walk_at "ax_go"
    refine r_if (fun c => ?_) (fun c => ?_)
    · obtain rfl : k = 8 := by omega
      walk_at "ax_go"
      rcases h with ⟨n, ke⟩ | ⟨lo, hi, g, gw, nn, kn⟩ | ⟨lo, hi, w, g, rfl, b, ko⟩
      · have ke : ∀ H', Same H H' → E (.ref T.BadRange.C) none H' := ke
        have k0 := ke H (Same.refl _)
        exact ⟨_, _, rfl, .inr (.inl ⟨n, k0⟩)⟩
      · have kn : ∀ H', Same H H' → E (.ref T.BadNumber.C) none H' := kn
        have k0 := kn H (Same.refl _)
        exact ⟨_, _, rfl, .inr (.inr ⟨⟨lo, hi, g⟩, nn, k0⟩)⟩
      · have ko : Oc.run T H Q E (if Rg (lo * p10 w.toNat) (hi * p10 w.toNat) then .ok else .rg) := ko
        by_cases c : Rg (lo * p10 w.toNat) (hi * p10 w.toNat)
        · rw [if_pos c] at ko
          exact ⟨_, _, rfl, .inl ⟨lo, hi, w.toNat, g, by rw [Int.toNat_of_nonneg b.1], by have := b.2; have : w ≤ 6 := this; omega, .inl ⟨c, fun p np => ko _ _ (same_new np)⟩⟩⟩
        · rw [if_neg c] at ko
          exact ⟨_, _, rfl, .inl ⟨lo, hi, w.toNat, g, by rw [Int.toNat_of_nonneg b.1], by have := b.2; have : w ≤ 6 := this; omega, .inr ⟨c, fun H' s => ko _ s⟩⟩⟩
    walk_at "ax_go"
    refine r_if (fun c => ?_) (fun c => ?_)
    · obtain rfl : k = 9 := by omega
      walk_at "ax_go"
      rcases h with ⟨n, ke⟩ | ⟨lo, hi, g, gw, nn, kn⟩ | ⟨lo, hi, w, g, rfl, b, ko⟩
      · have ke : ∀ H', Same H H' → E (.ref T.BadRange.C) none H' := ke
        have k0 := ke H (Same.refl _)
        exact ⟨_, _, rfl, .inr (.inl ⟨n, k0⟩)⟩
      · have kn : ∀ H', Same H H' → E (.ref T.BadNumber.C) none H' := kn
        have k0 := kn H (Same.refl _)
        exact ⟨_, _, rfl, .inr (.inr ⟨⟨lo, hi, g⟩, nn, k0⟩)⟩
      · have ko : ∀ r H', Same H H' → Q r H' := ko
        exact ⟨_, _, rfl, .inl ⟨lo, hi, w, g, rfl, b, fun p np => ko _ _ (same_new np)⟩⟩
    walk_at "ax_go"
    refine r_if (fun c => ?_) (fun c => ?_)
    · obtain rfl : k = 10 := by omega
      walk_at "ax_go"
      rcases h with ⟨n, ke⟩ | ⟨lo, hi, g, gw, nn, kn⟩ | ⟨lo, hi, w, g, rfl, b, ko⟩
      · have ke : ∀ H', Same H H' → E (.ref T.BadRange.C) none H' := ke
        have k0 := ke H (Same.refl _)
        exact ⟨_, _, rfl, .inr (.inl ⟨n, k0⟩)⟩
      · have kn : ∀ H', Same H H' → E (.ref T.BadNumber.C) none H' := kn
        have k0 := kn H (Same.refl _)
        exact ⟨_, _, rfl, .inr (.inr ⟨⟨lo, hi, g⟩, nn, k0⟩)⟩
      · have ko : Oc.run T H Q E (if Rg (lo - (hi - lo) * (w - 1) / 2) (hi + (hi - lo) * (w - 1) - (hi - lo) * (w - 1) / 2) then .ok else .rg) := ko
        by_cases c : Rg (lo - (hi - lo) * (w - 1) / 2) (hi + (hi - lo) * (w - 1) - (hi - lo) * (w - 1) / 2)
        · rw [if_pos c] at ko
          exact ⟨_, _, rfl, .inl ⟨lo, hi, w, g, rfl, b, .inl ⟨c, fun p np => ko _ _ (same_new np)⟩⟩⟩
        · rw [if_neg c] at ko
          exact ⟨_, _, rfl, .inl ⟨lo, hi, w, g, rfl, b, .inr ⟨c, fun H' s => ko _ s⟩⟩⟩
    walk_at "ax_go"
    refine r_if (fun c => ?_) (fun c => ?_)
    · obtain rfl : k = 11 := by omega
      walk_at "ax_go"
      rcases h with ⟨n, ke⟩ | ⟨lo, hi, g, gw, nn, kn⟩ | ⟨lo, hi, w, g, rfl, b, ko⟩
      · have ke : ∀ H', Same H H' → E (.ref T.BadRange.C) none H' := ke
        have k0 := ke H (Same.refl _)
        exact ⟨_, _, _, rfl, .inr (.inl ⟨n, k0⟩)⟩
      · have kn : ∀ H', Same H H' → E (.ref T.BadNumber.C) none H' := kn
        have k0 := kn H (Same.refl _)
        exact ⟨_, _, _, rfl, .inr (.inr (.inr (.inr ⟨⟨lo, hi, 1, g, gw, rfl, by decide⟩, nn, kn⟩)))⟩
      · have ko : Oc.run T H Q E (if 2000 < hi - lo then .nb else .ok) := ko
        by_cases c : 2000 < hi - lo
        · rw [if_pos c] at ko
          exact ⟨_, _, _, rfl, .inr (.inr (.inl ⟨lo, hi, g, c, ko _ (Same.refl _)⟩))⟩
        · rw [if_neg c] at ko
          exact ⟨_, _, _, rfl, .inl ⟨lo, hi, 1, w, g, by omega, rfl, by decide, rfl, b, fun H' s => ko _ _ s⟩⟩
    walk_at "ax_go"
    refine r_if (fun c => ?_) (fun c => ?_)
    · obtain rfl : k = 12 := by omega
      walk_at "ax_go"
      rcases h with ⟨n, ke⟩ | ⟨lo, hi, g, gw, nn, kn⟩ | ⟨lo, hi, w, g, rfl, b, ko⟩
      · have ke : ∀ H', Same H H' → E (.ref T.BadRange.C) none H' := ke
        have k0 := ke H (Same.refl _)
        exact ⟨_, _, _, rfl, .inr (.inl ⟨n, k0⟩)⟩
      · have kn : ∀ H', Same H H' → E (.ref T.BadNumber.C) none H' := kn
        have k0 := kn H (Same.refl _)
        exact ⟨_, _, _, rfl, .inr (.inr (.inr (.inr ⟨⟨lo, hi, 1, g, gw, rfl, by decide⟩, nn, kn⟩)))⟩
      · have ko : Oc.run T H Q E (if 2000 < hi - lo then .nb else if goodR lo hi 1 w = [] then .nf else .ok) := ko
        by_cases c : 2000 < hi - lo
        · rw [if_pos c] at ko
          exact ⟨_, _, _, rfl, .inr (.inr (.inl ⟨lo, hi, g, c, ko _ (Same.refl _)⟩))⟩
        · rw [if_neg c] at ko
          by_cases c2 : goodR lo hi 1 w = []
          · rw [if_pos c2] at ko
            exact ⟨_, _, _, rfl, .inl ⟨lo, hi, 1, w, g, by omega, rfl, by decide, rfl, b, .inl ⟨c2, fun H' s => ko _ s⟩⟩⟩
          · rw [if_neg c2] at ko
            obtain ⟨q, qs, e⟩ := List.exists_cons_of_ne_nil c2
            exact ⟨_, _, _, rfl, .inl ⟨lo, hi, 1, w, g, by omega, rfl, by decide, rfl, b, .inr ⟨q, by rw [e]; rfl, fun p H' s _ _ => ko _ _ s⟩⟩⟩
    walk_at "ax_go"
    obtain rfl : k = 13 := by omega
    walk_at "ax_go"
    intro x dx nx nd ne
    have sm := same_ins (C := T.Axis.C) nx nd ne
    rcases h with ⟨n, ke⟩ | ⟨lo, hi, g, gw, nn, kn⟩ | ⟨lo, hi, w, g, rfl, b, ko⟩
    · have ke : ∀ H', Same H H' → E (.ref T.BadRange.C) none H' := ke
      have k0 := ke H (Same.refl _)
      exact ⟨x, dx, _, _, rfl, upd_same, .inr (.inl ⟨NotRg.same sm n, ke _ sm⟩)⟩
    · have kn : ∀ H', Same H H' → E (.ref T.BadNumber.C) none H' := kn
      have k0 := kn H (Same.refl _)
      exact ⟨x, dx, _, _, rfl, upd_same, .inr (.inr ⟨⟨lo, hi, IsRg.same sm g⟩, NotNum.same sm nn, kn _ sm⟩)⟩
    · have ko : ∀ r H', Same H H' → Q r H' := ko
      refine ⟨x, dx, _, _, rfl, upd_same, .inl ⟨lo, hi, w, IsRg.same sm g, rfl, b, fun l H' nl kp at_ => ⟨rfl, ?_⟩⟩⟩
      exact ko _ _ fun b o e => kp b o (sm b o e) (ne_of_none e nx)
/-! ### _law_asked -/
def osV (l : List Oc) : List V := l.map fun o => V.str o.str
def osD (l : List Oc) : List PyData := l.map fun o => PyData.str o.str
theorem dpa_os {K : PySem.W.Frag} {H : Hp} : ∀ l : List Oc, DpAll K H (osV l) (osD l)
  | [] => .nil
  | o :: r => .cons (.str o.str) (dpa_os r)
def Ask1 (K : PySem.W.Frag) (H : Hp) (k : Nat) (v : V) (o : Oc) : Prop := k < 10 ∧ ((NotRg K H v ∧ o = .rg) ∨ (∃ lo hi, IsRg K H v lo hi ∧ (lo ≤ 1 ∧ 0 ≤ hi) ∧ o = .ok))
def Ask2 (K : PySem.W.Frag) (H : Hp) (k : Nat) (v y : V) (o : Oc) : Prop := k < 19 ∧ ((NotRg K H v ∧ o = .rg) ∨ (∃ lo hi, IsRg K H v lo hi ∧ hi - lo ≤ 2000 ∧ NotStep K H y ∧ o = .st) ∨ (∃ lo hi st, IsRg K H v lo hi ∧ hi - lo ≤ 2000 ∧ y = .int st ∧ st ∈ steps ∧ o = out2 k lo hi st))
def Ask3 (K : PySem.W.Frag) (H : Hp) (k : Nat) (v y : V) (o : Oc) : Prop := k < 14 ∧ ((NotRg K H v ∧ o = .rg) ∨ (∃ lo hi, IsRg K H v lo hi ∧ hi - lo ≤ 2000 ∧ NotNum K H y (lim3 k).1 (lim3 k).2 ∧ o = .nb) ∨ (∃ lo hi w, IsRg K H v lo hi ∧ y = .int w ∧ ((lim3 k).1 ≤ w ∧ w ≤ (lim3 k).2) ∧ o = out3 k lo hi w))
theorem ask1 {K : PySem.W.Frag} {mg : Str → Option Value} {T : Txt K mg} {H : Hp} {Q : VK} {E : XK} {k : Nat} {v : V} {o : Oc} (a : Ask1 K H k v o) (h : o.run T H Q E) : sp__law_one T [.int k, v] H Q E := by
  obtain ⟨hk, ⟨n, rfl⟩ | ⟨lo, hi, g, m, rfl⟩⟩ := a
  · exact ⟨k, v, rfl, hk, .inl ⟨n, h⟩⟩
  · exact ⟨k, v, rfl, hk, .inr ⟨lo, hi, g, m, h⟩⟩
theorem ask2 {K : PySem.W.Frag} {mg : Str → Option Value} {T : Txt K mg} {H : Hp} {Q : VK} {E : XK} {k : Nat} {v y : V} {o : Oc} (a : Ask2 K H k v y o) (h : o.run T H Q E) : sp__law_two T [.int k, v, y] H Q E := by
  obtain ⟨hk, ⟨n, rfl⟩ | ⟨lo, hi, g, m, ns, rfl⟩ | ⟨lo, hi, st, g, m, e, ms, rfl⟩⟩ := a
  · exact ⟨k, v, y, rfl, hk, .inl ⟨n, h⟩⟩
  · exact ⟨k, v, y, rfl, hk, .inr (.inl ⟨lo, hi, g, m, ns, h⟩)⟩
  · exact ⟨k, v, y, rfl, hk, .inr (.inr ⟨lo, hi, st, g, m, e, ms, h⟩)⟩
theorem ask3 {K : PySem.W.Frag} {mg : Str → Option Value} {T : Txt K mg} {H : Hp} {Q : VK} {E : XK} {k : Nat} {v y : V} {o : Oc} (a : Ask3 K H k v y o) (h : o.run T H Q E) : sp__law_three T [.int k, v, y] H Q E := by
  obtain ⟨hk, ⟨n, rfl⟩ | ⟨lo, hi, g, m, ns, rfl⟩ | ⟨lo, hi, w, g, e, b, rfl⟩⟩ := a
  · exact ⟨k, v, y, rfl, hk, .inl ⟨n, h⟩⟩
  · exact ⟨k, v, y, rfl, hk, .inr (.inl ⟨lo, hi, g, m, ns, h⟩)⟩
  · exact ⟨k, v, y, rfl, hk, .inr (.inr ⟨lo, hi, w, g, e, b, h⟩)⟩
def sp__law_asked (_ : Txt K mg) : Sp := fun vs H Q _ => ∃ (g : Int) (k : Nat) (v y : V) (o : Oc), vs = [.int g, .int k, v, y] ∧ ((g = 1 ∧ Ask1 K H k v o) ∨ (g = 2 ∧ Ask2 K H k v y o) ∨ (g = 3 ∧ Ask3 K H k v y o)) ∧ ∀ H', Same H H' → Q (.str o.str) H'
theorem ok__law_asked (T : Txt K mg) : FnOk P w K mg base CX0 7 T._law_asked.f T._law_asked.fd ["_law_group", "_law_kind", "_law_span", "_law_thing"] (sp__law_asked T) := by
  refine T._law_asked.F.ok sc__law_asked (fun vs H Q E h => ?_) (fun cdv A outer s H vs Q E hr h => ?_)
  · obtain ⟨_, _, _, _, _, rfl, _⟩ := h; rfl
  · refine ⟨_, (pss_cons (ps_set (i := 4) sc__law_asked.nd rfl (Or.inl rfl) pe_non)
        (pss_cons (ps_try_keep (i := 5) rfl rfl rfl sc__law_asked.nd rfl rfl ⟨rfl, by decide, .inl T.AxisError.g⟩ (fun W pn xe tk _ => (pss_one (ps_if (pt_cmpR op_eq (pv 0) pe_int (nomark _))
          (pss_one (ps_expr (pe_callS (ok__law_one T) (hr.mono (by decide)) rfl T._law_one.g T._law_one.F.kp T._law_one.b (fun σ => passAt tk σ) (pa_cons (pv 1) (pa_cons (pv 2) pa_nil)))))
          (pss_one (ps_if (pt_cmpR op_eq (pv 0) pe_int (nomark _))
          (pss_one (ps_expr (pe_callS (ok__law_two T) (hr.mono (by decide)) rfl T._law_two.g T._law_two.F.kp T._law_two.b (fun σ => passAt tk σ) (pa_cons (pv 1) (pa_cons (pv 2) (pa_cons (pv 3) pa_nil))))))
          (pss_one (ps_expr (pe_callS (ok__law_three T) (hr.mono (by decide)) rfl T._law_three.g T._law_three.F.kp T._law_three.b (fun σ => passAt tk σ) (pa_cons (pv 1) (pa_cons (pv 2) (pa_cons (pv 3) pa_nil)))))))))))
          (fun a oe cls d pn _ _ => (pss_one (ps_set (i := 4) sc__law_asked.nd rfl (Or.inl rfl) (pv 5)))))
        (pss_one (ps_ret (pe_ifExp (pt_cmpR xo_isN (pv 4) pe_non (nomark _)) pe_str (pe_call (ok__law_error T) (hr.mono (by decide)) rfl T._law_error.g T._law_error.F.kp T._law_error.b .nil pass0 (pa_cons (pv 4) pa_nil))))))), ?_⟩
    try dsimp only [cxOf]
    obtain ⟨g, k, v, y, o, rfl, a, q⟩ := h
    have mR := T.m_BadRange
    have mS := T.m_BadStep
    have mN := T.m_BadNumber
    have mF := T.m_NotFound
    rcases a with ⟨rfl, a⟩ | ⟨rfl, a⟩ | ⟨rfl, a⟩
    · walk_at "ax_go"
      refine ask1 a ?_
      cases o with
      | ok =>
        intro r H1 s1
        walk_at "ax_go"
        exact q _ s1
      | _ =>
        intro H1 s1
        walk_at "ax_go"
        intro e' ne
        walk_at "ax_go"
        intro H2 s2
        exact q _ ((Same.updn s1 ne).trans s2)
    · walk_at "ax_go"
      refine ask2 a ?_
      cases o with
      | ok =>
        intro r H1 s1
        walk_at "ax_go"
        exact q _ s1
      | _ =>
        intro H1 s1
        walk_at "ax_go"
        intro e' ne
        walk_at "ax_go"
        intro H2 s2
        exact q _ ((Same.updn s1 ne).trans s2)
    · walk_at "ax_go"
      refine ask3 a ?_
      cases o with
      | ok =>
        intro r H1 s1
        walk_at "ax_go"
        exact q _ s1
      | _ =>
        intro H1 s1
        walk_at "ax_go"
        intro e' ne
        walk_at "ax_go"
        intro H2 s2
        exact q _ ((Same.updn s1 ne).trans s2)
theorem c__law_asked1 {T : Txt K mg} {H : Hp} {Q : VK} {E : XK} {z : Int} {v y : V} (k : Nat) (o : Oc) (ez : z = (k : Int)) (a : Ask1 K H k v o) (h : ∀ H', Same H H' → Q (.str o.str) H') : sp__law_asked T [.int 1, .int z, v, y] H Q E := by
  subst ez
  exact ⟨1, k, v, y, o, rfl, .inl ⟨rfl, a⟩, h⟩
theorem c__law_asked2 {T : Txt K mg} {H : Hp} {Q : VK} {E : XK} {z : Int} {v y : V} (k : Nat) (o : Oc) (ez : z = (k : Int)) (a : Ask2 K H k v y o) (h : ∀ H', Same H H' → Q (.str o.str) H') : sp__law_asked T [.int 2, .int z, v, y] H Q E := by
  subst ez
  exact ⟨2, k, v, y, o, rfl, .inr (.inl ⟨rfl, a⟩), h⟩
theorem c__law_asked3 {T : Txt K mg} {H : Hp} {Q : VK} {E : XK} {z : Int} {v y : V} (k : Nat) (o : Oc) (ez : z = (k : Int)) (a : Ask3 K H k v y o) (h : ∀ H', Same H H' → Q (.str o.str) H') : sp__law_asked T [.int 3, .int z, v, y] H Q E := by
  subst ez
  exact ⟨3, k, v, y, o, rfl, .inr (.inr ⟨rfl, a⟩), h⟩
/-! ### _law_numbers -/
def sp__law_numbers (_ : Txt K mg) : Sp := fun vs H Q _ => vs = [] ∧ ∀ H', Same H H' → Q (.bl true) H'
theorem ok__law_numbers (T : Txt K mg) : FnOk P w K mg base CX0 8 T._law_numbers.f T._law_numbers.fd [] (sp__law_numbers T) := by
  refine T._law_numbers.F.ok sc__law_numbers (fun vs H Q E h => ?_) (fun cdv A outer s H vs Q E hr h => ?_)
  · obtain ⟨rfl, _⟩ := h; rfl
  · refine ⟨_, (pss_cons (ps_set (i := 0) sc__law_numbers.nd rfl (Or.inl rfl) (pe_lst (pa_cons (pe_tup (pa_cons pe_int (pa_cons pe_int (pa_cons pe_int pa_nil)))) (pa_cons (pe_tup (pa_cons pe_int (pa_cons pe_int (pa_cons pe_int pa_nil)))) (pa_cons (pe_tup (pa_cons pe_int (pa_cons pe_int (pa_cons pe_int pa_nil)))) (pa_cons (pe_tup (pa_cons pe_int (pa_cons pe_int (pa_cons pe_int pa_nil)))) (pa_cons (pe_tup (pa_cons pe_int (pa_cons pe_int (pa_cons pe_int pa_nil)))) (pa_cons (pe_tup (pa_cons pe_int (pa_cons (pe_op op_sub pe_int pe_int) (pa_cons pe_int pa_nil)))) (pa_cons (pe_tup (pa_cons pe_int (pa_cons pe_int (pa_cons pe_int pa_nil)))) pa_nil)))))))))
        (pss_cons (ps_set (i := 0) sc__law_numbers.nd rfl (Or.inl rfl) (pe_op op_cat (pv 0) (pe_lst (pa_cons (pe_tup (pa_cons pe_int (pa_cons pe_int (pa_cons pe_int pa_nil)))) (pa_cons (pe_tup (pa_cons pe_int (pa_cons pe_int (pa_cons pe_int pa_nil)))) (pa_cons (pe_tup (pa_cons pe_int (pa_cons pe_int (pa_cons pe_int pa_nil)))) (pa_cons (pe_tup (pa_cons pe_int (pa_cons pe_int (pa_cons pe_int pa_nil)))) (pa_cons (pe_tup (pa_cons pe_int (pa_cons pe_int (pa_cons pe_int pa_nil)))) (pa_cons (pe_tup (pa_cons pe_int (pa_cons pe_int (pa_cons pe_int pa_nil)))) (pa_cons (pe_tup (pa_cons pe_int (pa_cons pe_int (pa_cons pe_int pa_nil)))) pa_nil))))))))))
        (pss_cons (ps_for PassesOwn.never rfl (pi_list (pv 0)) (pg_tup (n := 3) rfl (pgs_cons (pg_name (i := 1) sc__law_numbers.nd rfl (Or.inr rfl)) (pgs_cons (pg_name (i := 2) sc__law_numbers.nd rfl (Or.inl rfl)) (pgs_cons (pg_name (i := 3) sc__law_numbers.nd rfl (Or.inl rfl)) pgs_nil))))
          (pss_one (ps_if (pt_cmpR (op_neD hr.units) (pe_lc (own := [("_law_bad", 7)]) rfl sc__law_numbers.nd (pi_tup (pe_tup (pa_cons pe_non (pa_cons (pe_op op_sub (pv 2) pe_int) (pa_cons (pe_op op_add (pv 3) pe_int) (pa_cons pe_bl (pa_cons (pe_callTy xc_str (by rfl) T.z_str (by decide +kernel) (pa_cons (pv 2) pa_nil)) pa_nil))))))) (blkOk_by (N := ["_law_limits", "_law_kind", "_law_low", "_law_high", "_law_told", "_law_by", "_law_far", "_law_bad"]) (sc := defScope s__law_numbers) (by decide +kernel)) (fun _ _ _ _ _ => (pg_name (i := 7) sc__law_numbers.nd rfl (Or.inl rfl))) (fun _ _ _ _ _ => pts_nil) (fun _ _ _ _ _ => (pe_call (ok__law_asked T) (hr.mono (by decide)) rfl T._law_asked.g T._law_asked.F.kp T._law_asked.b .nil pass0 (pa_cons pe_int (pa_cons (pv 1) (pa_cons (pe_tup (pa_cons pe_int (pa_cons pe_int pa_nil))) (pa_cons (pv 7) pa_nil))))))) (pe_op op_rep (pe_lst (pa_cons pe_str pa_nil)) pe_int) (nomark _))
          (pss_one (ps_ret pe_bl))
          pss_nil)))
        (pss_cons (ps_setLc (i := 4) (own := [("_law_kind", 1), ("_law_low", 2), ("_law_high", 3)]) rfl sc__law_numbers.nd rfl rfl (sw_true rfl rfl rfl (by decide +kernel)) (pi_list (pv 0)) (blkOk_by (N := ["_law_limits", "_law_kind", "_law_low", "_law_high", "_law_told", "_law_by", "_law_far", "_law_bad"]) (sc := defScope s__law_numbers) (by decide +kernel)) (fun _ _ _ _ _ => (pg_tupK (K := K) (n := 3) rfl rfl (pgs_cons (pg_name (i := 1) sc__law_numbers.nd rfl (Or.inl rfl) (Or.inr rfl)) (pgs_cons (pg_name (i := 2) sc__law_numbers.nd rfl (Or.inl rfl) (Or.inr rfl)) (pgs_cons (pg_name (i := 3) sc__law_numbers.nd rfl (Or.inl rfl) (Or.inr rfl)) pgs_nil))))) (fun _ _ _ _ _ => pts_nil) (fun _ _ _ _ _ => (pe_call (ok__law_asked T) (hr.mono (by decide)) rfl T._law_asked.g T._law_asked.F.kp T._law_asked.b .nil pass0 (pa_cons pe_int (pa_cons (pv 1) (pa_cons (pe_tup (pa_cons pe_int (pa_cons pe_int pa_nil))) (pa_cons (pv 3) pa_nil)))))))
        (pss_cons (ps_if (pt_cmpR (op_neD hr.units) (pv 4) (pe_op op_cat (pe_op op_cat (pe_op op_cat (pe_lst (pa_cons pe_str (pa_cons pe_str (pa_cons pe_str (pa_cons pe_str (pa_cons pe_str pa_nil)))))) (pe_op op_rep (pe_lst (pa_cons pe_str pa_nil)) pe_int)) (pe_op op_rep (pe_lst (pa_cons pe_str pa_nil)) pe_int)) (pe_lst (pa_cons pe_str (pa_cons pe_str pa_nil)))) (nomark _))
          (pss_one (ps_ret pe_bl))
          pss_nil)
        (pss_cons (ps_if (pt_cmpR (op_neD hr.units) (pe_lc (own := [("_law_by", 5)]) rfl sc__law_numbers.nd (pi_tup (pe_tup (pa_cons pe_int (pa_cons pe_int (pa_cons (pe_op op_sub pe_int pe_int) (pa_cons (pe_op op_sub pe_int pe_int) pa_nil)))))) (blkOk_by (N := ["_law_limits", "_law_kind", "_law_low", "_law_high", "_law_told", "_law_by", "_law_far", "_law_bad"]) (sc := defScope s__law_numbers) (by decide +kernel)) (fun _ _ _ _ _ => (pg_name (i := 5) sc__law_numbers.nd rfl (Or.inl rfl))) (fun _ _ _ _ _ => pts_nil) (fun _ _ _ _ _ => (pe_call (ok__law_asked T) (hr.mono (by decide)) rfl T._law_asked.g T._law_asked.F.kp T._law_asked.b .nil pass0 (pa_cons pe_int (pa_cons pe_int (pa_cons (pe_tup (pa_cons pe_int (pa_cons pe_int pa_nil))) (pa_cons (pv 5) pa_nil))))))) (pe_lst (pa_cons pe_str (pa_cons pe_str (pa_cons pe_str (pa_cons pe_str pa_nil))))) (nomark _))
          (pss_one (ps_ret pe_bl))
          pss_nil)
        (pss_cons (ps_if (PW.pt (pw_or (pt_cmpR (op_neD hr.units) (pe_lc (own := [("_law_kind", 1)]) rfl sc__law_numbers.nd (pi_tup (pe_tup (pa_cons pe_int (pa_cons pe_int pa_nil)))) (blkOk_by (N := ["_law_limits", "_law_kind", "_law_low", "_law_high", "_law_told", "_law_by", "_law_far", "_law_bad"]) (sc := defScope s__law_numbers) (by decide +kernel)) (fun _ _ _ _ _ => (pg_name (i := 1) sc__law_numbers.nd rfl (Or.inl rfl))) (fun _ _ _ _ _ => pts_nil) (fun _ _ _ _ _ => (pe_call (ok__law_asked T) (hr.mono (by decide)) rfl T._law_asked.g T._law_asked.F.kp T._law_asked.b .nil pass0 (pa_cons pe_int (pa_cons (pv 1) (pa_cons (pe_tup (pa_cons pe_int (pa_cons pe_int pa_nil))) (pa_cons pe_int pa_nil))))))) (pe_lst (pa_cons pe_str (pa_cons pe_str pa_nil))) (nomark _)) (pw_or1 (pt_cmpR op_ne (pe_call (ok__law_asked T) (hr.mono (by decide)) rfl T._law_asked.g T._law_asked.F.kp T._law_asked.b .nil pass0 (pa_cons pe_int (pa_cons pe_int (pa_cons (pe_tup (pa_cons (pe_op op_sub pe_int pe_int) (pa_cons pe_int pa_nil))) (pa_cons pe_int pa_nil))))) pe_str (nomark _)))))
          (pss_one (ps_ret pe_bl))
          pss_nil)
        (pss_cons (ps_if (PW.pt (pw_or (pt_cmpR (op_neD hr.units) (pe_lc (own := [("_law_far", 6)]) rfl sc__law_numbers.nd (pi_tup (pe_tup (pa_cons (pe_tup (pa_cons (pe_op op_sub pe_int pe_int) (pa_cons pe_int pa_nil))) (pa_cons (pe_tup (pa_cons pe_int (pa_cons pe_int pa_nil))) pa_nil)))) (blkOk_by (N := ["_law_limits", "_law_kind", "_law_low", "_law_high", "_law_told", "_law_by", "_law_far", "_law_bad"]) (sc := defScope s__law_numbers) (by decide +kernel)) (fun _ _ _ _ _ => (pg_name (i := 6) sc__law_numbers.nd rfl (Or.inl rfl))) (fun _ _ _ _ _ => pts_nil) (fun _ _ _ _ _ => (pe_call (ok__law_asked T) (hr.mono (by decide)) rfl T._law_asked.g T._law_asked.F.kp T._law_asked.b .nil pass0 (pa_cons pe_int (pa_cons pe_int (pa_cons (pv 6) (pa_cons pe_int pa_nil))))))) (pe_lst (pa_cons pe_str (pa_cons pe_str pa_nil))) (nomark _)) (pw_or1 (pt_cmpR op_ne (pe_call (ok__law_asked T) (hr.mono (by decide)) rfl T._law_asked.g T._law_asked.F.kp T._law_asked.b .nil pass0 (pa_cons pe_int (pa_cons pe_int (pa_cons (pe_tup (pa_cons pe_int (pa_cons pe_int pa_nil))) (pa_cons pe_int pa_nil))))) pe_str (nomark _)))))
          (pss_one (ps_ret pe_bl))
          pss_nil)
        (pss_cons (ps_if (pt_cmpR (op_neD hr.units) (pe_lc (own := [("_law_far", 6), ("_law_by", 5)]) rfl sc__law_numbers.nd (pi_tup (pe_tup (pa_cons (pe_tup (pa_cons pe_int (pa_cons (pe_op op_sub pe_int pe_int) pa_nil))) (pa_cons (pe_tup (pa_cons (pe_op op_sub pe_int pe_int) (pa_cons pe_int pa_nil))) pa_nil)))) (blkOk_by (N := ["_law_limits", "_law_kind", "_law_low", "_law_high", "_law_told", "_law_by", "_law_far", "_law_bad"]) (sc := defScope s__law_numbers) (by decide +kernel)) (fun _ _ _ _ _ => (pg_tupK (K := K) (n := 2) rfl rfl (pgs_cons (pg_name (i := 6) sc__law_numbers.nd rfl (Or.inl rfl) (Or.inr rfl)) (pgs_cons (pg_name (i := 5) sc__law_numbers.nd rfl (Or.inl rfl) (Or.inr rfl)) pgs_nil)))) (fun _ _ _ _ _ => pts_nil) (fun _ _ _ _ _ => (pe_call (ok__law_asked T) (hr.mono (by decide)) rfl T._law_asked.g T._law_asked.F.kp T._law_asked.b .nil pass0 (pa_cons pe_int (pa_cons pe_int (pa_cons (pe_tup (pa_cons (pv 6) (pa_cons (pv 6) pa_nil))) (pa_cons (pv 5) pa_nil))))))) (pe_op op_rep (pe_lst (pa_cons pe_str pa_nil)) pe_int) (nomark _))
          (pss_one (ps_ret pe_bl))
          pss_nil)
        (pss_one (ps_ret (pe_and (pe_cmpR op_eq (pe_call (ok__law_asked T) (hr.mono (by decide)) rfl T._law_asked.g T._law_asked.F.kp T._law_asked.b .nil pass0 (pa_cons pe_int (pa_cons pe_int (pa_cons (pe_tup (pa_cons pe_int (pa_cons pe_int pa_nil))) (pa_cons pe_int pa_nil))))) pe_str (nomark _)) (pe_and (pe_cmpR op_eq (pe_call (ok__law_asked T) (hr.mono (by decide)) rfl T._law_asked.g T._law_asked.F.kp T._law_asked.b .nil pass0 (pa_cons pe_int (pa_cons pe_int (pa_cons (pe_tup (pa_cons pe_int (pa_cons pe_int pa_nil))) (pa_cons pe_int pa_nil))))) pe_str (nomark _)) (pe_one (pe_cmpR op_eq (pe_call (ok__law_asked T) (hr.mono (by decide)) rfl T._law_asked.g T._law_asked.F.kp T._law_asked.b .nil pass0 (pa_cons pe_int (pa_cons pe_int (pa_cons (pe_tup (pa_cons pe_int (pa_cons pe_int pa_nil))) (pa_cons pe_int pa_nil))))) pe_str (nomark _)))))))))))))))), ?_⟩
    try dsimp only [cxOf]
    obtain ⟨rfl, k⟩ := h
    walk_at "ax_go"
    intro q0 nq0
    have e0 : Same H (upd H q0 (.tup [V.int 0, V.int 0, V.int 3000000])) := same_new nq0
    have b0 : SqT K (upd H q0 (.tup [V.int 0, V.int 0, V.int 3000000])) q0 [V.int (0 : Nat), V.int (lim3 0).1, V.int (lim3 0).2] := SqT.of upd_same
    have w0 := e0
    clear nq0
    generalize upd H q0 (.tup [V.int 0, V.int 0, V.int 3000000]) = G0 at e0 w0 b0 ⊢
    clear e0
    walk_at "ax_go"
    intro q1 nq1
    have e1 : Same G0 (upd G0 q1 (.tup [V.int 1, V.int 0, V.int 3000000])) := same_new nq1
    have b1 : SqT K (upd G0 q1 (.tup [V.int 1, V.int 0, V.int 3000000])) q1 [V.int (1 : Nat), V.int (lim3 1).1, V.int (lim3 1).2] := SqT.of upd_same
    replace b0 := Same.seqT e1 b0
    replace w0 := w0.trans e1
    clear nq1
    generalize upd G0 q1 (.tup [V.int 1, V.int 0, V.int 3000000]) = G1 at e1 w0 b0 b1 ⊢
    clear e1
    walk_at "ax_go"
    intro q2 nq2
    have e2 : Same G1 (upd G1 q2 (.tup [V.int 2, V.int 0, V.int 3000000])) := same_new nq2
    have b2 : SqT K (upd G1 q2 (.tup [V.int 2, V.int 0, V.int 3000000])) q2 [V.int (2 : Nat), V.int (lim3 2).1, V.int (lim3 2).2] := SqT.of upd_same
    replace b0 := Same.seqT e2 b0
    replace b1 := Same.seqT e2 b1
    replace w0 := w0.trans e2
    clear nq2
    generalize upd G1 q2 (.tup [V.int 2, V.int 0, V.int 3000000]) = G2 at e2 w0 b0 b1 b2 ⊢
    clear e2
    walk_at "ax_go"
    intro q3 nq3
    have e3 : Same G2 (upd G2 q3 (.tup [V.int 3, V.int 0, V.int 3000000])) := same_new nq3
    have b3 : SqT K (upd G2 q3 (.tup [V.int 3, V.int 0, V.int 3000000])) q3 [V.int (3 : Nat), V.int (lim3 3).1, V.int (lim3 3).2] := SqT.of upd_same
    replace b0 := Same.seqT e3 b0
    replace b1 := Same.seqT e3 b1
    replace b2 := Same.seqT e3 b2
    replace w0 := w0.trans e3
    clear nq3
    generalize upd G2 q3 (.tup [V.int 3, V.int 0, V.int 3000000]) = G3 at e3 w0 b0 b1 b2 b3 ⊢
    clear e3
    walk_at "ax_go"
    intro q4 nq4
    have e4 : Same G3 (upd G3 q4 (.tup [V.int 4, V.int 0, V.int 3000000])) := same_new nq4
    have b4 : SqT K (upd G3 q4 (.tup [V.int 4, V.int 0, V.int 3000000])) q4 [V.int (4 : Nat), V.int (lim3 4).1, V.int (lim3 4).2] := SqT.of upd_same
    replace b0 := Same.seqT e4 b0
    replace b1 := Same.seqT e4 b1
    replace b2 := Same.seqT e4 b2
    replace b3 := Same.seqT e4 b3
    replace w0 := w0.trans e4
    clear nq4
    generalize upd G3 q4 (.tup [V.int 4, V.int 0, V.int 3000000]) = G4 at e4 w0 b0 b1 b2 b3 b4 ⊢
    clear e4
    walk_at "ax_go"
    intro q5 nq5
    have e5 : Same G4 (upd G4 q5 (.tup [V.int 5, V.int (0 - 2000000), V.int 2000000])) := same_new nq5
    have b5 : SqT K (upd G4 q5 (.tup [V.int 5, V.int (0 - 2000000), V.int 2000000])) q5 [V.int (5 : Nat), V.int (lim3 5).1, V.int (lim3 5).2] := SqT.of upd_same
    replace b0 := Same.seqT e5 b0
    replace b1 := Same.seqT e5 b1
    replace b2 := Same.seqT e5 b2
    replace b3 := Same.seqT e5 b3
    replace b4 := Same.seqT e5 b4
    replace w0 := w0.trans e5
    clear nq5
    generalize upd G4 q5 (.tup [V.int 5, V.int (0 - 2000000), V.int 2000000]) = G5 at e5 w0 b0 b1 b2 b3 b4 b5 ⊢
    clear e5
    walk_at "ax_go"
    intro q6 nq6
    have e6 : Same G5 (upd G5 q6 (.tup [V.int 6, V.int 0, V.int 2000000])) := same_new nq6
    have b6 : SqT K (upd G5 q6 (.tup [V.int 6, V.int 0, V.int 2000000])) q6 [V.int (6 : Nat), V.int (lim3 6).1, V.int (lim3 6).2] := SqT.of upd_same
    replace b0 := Same.seqT e6 b0
    replace b1 := Same.seqT e6 b1
    replace b2 := Same.seqT e6 b2
    replace b3 := Same.seqT e6 b3
    replace b4 := Same.seqT e6 b4
    replace b5 := Same.seqT e6 b5
    replace w0 := w0.trans e6
    clear nq6
    generalize upd G5 q6 (.tup [V.int 6, V.int 0, V.int 2000000]) = G6 at e6 w0 b0 b1 b2 b3 b4 b5 b6 ⊢
    clear e6
    walk_at "ax_go"
    intro l7 nl7
    have e7l : Same G6 (upd G6 l7 (.lst [V.ref q0, V.ref q1, V.ref q2, V.ref q3, V.ref q4, V.ref q5, V.ref q6])) := same_new nl7
    have h7 : (upd G6 l7 (.lst [V.ref q0, V.ref q1, V.ref q2, V.ref q3, V.ref q4, V.ref q5, V.ref q6])) l7 = some (.lst [V.ref q0, V.ref q1, V.ref q2, V.ref q3, V.ref q4, V.ref q5, V.ref q6]) := upd_same
    replace b0 := Same.seqT e7l b0
    replace b1 := Same.seqT e7l b1
    replace b2 := Same.seqT e7l b2
    replace b3 := Same.seqT e7l b3
    replace b4 := Same.seqT e7l b4
    replace b5 := Same.seqT e7l b5
    replace b6 := Same.seqT e7l b6
    replace w0 := w0.trans e7l
    generalize upd G6 l7 _ = GL at e7l w0 h7 b0 b1 b2 b3 b4 b5 b6 ⊢
    clear e7l nl7
    walk_at "ax_go"
    intro q7 nq7
    have e7 : Same GL (upd GL q7 (.tup [V.int 7, V.int 0, V.int 2000000])) := same_new nq7
    have b7 : SqT K (upd GL q7 (.tup [V.int 7, V.int 0, V.int 2000000])) q7 [V.int (7 : Nat), V.int (lim3 7).1, V.int (lim3 7).2] := SqT.of upd_same
    replace b0 := Same.seqT e7 b0
    replace b1 := Same.seqT e7 b1
    replace b2 := Same.seqT e7 b2
    replace b3 := Same.seqT e7 b3
    replace b4 := Same.seqT e7 b4
    replace b5 := Same.seqT e7 b5
    replace b6 := Same.seqT e7 b6
    replace h7 := e7 _ _ h7
    replace w0 := w0.trans e7
    clear nq7
    generalize upd GL q7 (.tup [V.int 7, V.int 0, V.int 2000000]) = G7 at e7 w0 h7 b0 b1 b2 b3 b4 b5 b6 b7 ⊢
    clear e7
    walk_at "ax_go"
    intro q8 nq8
    have e8 : Same G7 (upd G7 q8 (.tup [V.int 8, V.int 0, V.int 6])) := same_new nq8
    have b8 : SqT K (upd G7 q8 (.tup [V.int 8, V.int 0, V.int 6])) q8 [V.int (8 : Nat), V.int (lim3 8).1, V.int (lim3 8).2] := SqT.of upd_same
    replace b0 := Same.seqT e8 b0
    replace b1 := Same.seqT e8 b1
    replace b2 := Same.seqT e8 b2
    replace b3 := Same.seqT e8 b3
    replace b4 := Same.seqT e8 b4
    replace b5 := Same.seqT e8 b5
    replace b6 := Same.seqT e8 b6
    replace b7 := Same.seqT e8 b7
    replace h7 := e8 _ _ h7
    replace w0 := w0.trans e8
    clear nq8
    generalize upd G7 q8 (.tup [V.int 8, V.int 0, V.int 6]) = G8 at e8 w0 h7 b0 b1 b2 b3 b4 b5 b6 b7 b8 ⊢
    clear e8
    walk_at "ax_go"
    intro q9 nq9
    have e9 : Same G8 (upd G8 q9 (.tup [V.int 9, V.int 1, V.int 1000])) := same_new nq9
    have b9 : SqT K (upd G8 q9 (.tup [V.int 9, V.int 1, V.int 1000])) q9 [V.int (9 : Nat), V.int (lim3 9).1, V.int (lim3 9).2] := SqT.of upd_same
    replace b0 := Same.seqT e9 b0
    replace b1 := Same.seqT e9 b1
    replace b2 := Same.seqT e9 b2
    replace b3 := Same.seqT e9 b3
    replace b4 := Same.seqT e9 b4
    replace b5 := Same.seqT e9 b5
    replace b6 := Same.seqT e9 b6
    replace b7 := Same.seqT e9 b7
    replace b8 := Same.seqT e9 b8
    replace h7 := e9 _ _ h7
    replace w0 := w0.trans e9
    clear nq9
    generalize upd G8 q9 (.tup [V.int 9, V.int 1, V.int 1000]) = G9 at e9 w0 h7 b0 b1 b2 b3 b4 b5 b6 b7 b8 b9 ⊢
    clear e9
    walk_at "ax_go"
    intro q10 nq10
    have e10 : Same G9 (upd G9 q10 (.tup [V.int 10, V.int 1, V.int 1000])) := same_new nq10
    have b10 : SqT K (upd G9 q10 (.tup [V.int 10, V.int 1, V.int 1000])) q10 [V.int (10 : Nat), V.int (lim3 10).1, V.int (lim3 10).2] := SqT.of upd_same
    replace b0 := Same.seqT e10 b0
    replace b1 := Same.seqT e10 b1
    replace b2 := Same.seqT e10 b2
    replace b3 := Same.seqT e10 b3
    replace b4 := Same.seqT e10 b4
    replace b5 := Same.seqT e10 b5
    replace b6 := Same.seqT e10 b6
    replace b7 := Same.seqT e10 b7
    replace b8 := Same.seqT e10 b8
    replace b9 := Same.seqT e10 b9
    replace h7 := e10 _ _ h7
    replace w0 := w0.trans e10
    clear nq10
    generalize upd G9 q10 (.tup [V.int 10, V.int 1, V.int 1000]) = G10 at e10 w0 h7 b0 b1 b2 b3 b4 b5 b6 b7 b8 b9 b10 ⊢
    clear e10
    walk_at "ax_go"
    intro q11 nq11
    have e11 : Same G10 (upd G10 q11 (.tup [V.int 11, V.int 0, V.int 1000])) := same_new nq11
    have b11 : SqT K (upd G10 q11 (.tup [V.int 11, V.int 0, V.int 1000])) q11 [V.int (11 : Nat), V.int (lim3 11).1, V.int (lim3 11).2] := SqT.of upd_same
    replace b0 := Same.seqT e11 b0
    replace b1 := Same.seqT e11 b1
    replace b2 := Same.seqT e11 b2
    replace b3 := Same.seqT e11 b3
    replace b4 := Same.seqT e11 b4
    replace b5 := Same.seqT e11 b5
    replace b6 := Same.seqT e11 b6
    replace b7 := Same.seqT e11 b7
    replace b8 := Same.seqT e11 b8
    replace b9 := Same.seqT e11 b9
    replace b10 := Same.seqT e11 b10
    replace h7 := e11 _ _ h7
    replace w0 := w0.trans e11
    clear nq11
    generalize upd G10 q11 (.tup [V.int 11, V.int 0, V.int 1000]) = G11 at e11 w0 h7 b0 b1 b2 b3 b4 b5 b6 b7 b8 b9 b10 b11 ⊢
    clear e11
    walk_at "ax_go"
    intro q12 nq12
    have e12 : Same G11 (upd G11 q12 (.tup [V.int 12, V.int 0, V.int 1000])) := same_new nq12
    have b12 : SqT K (upd G11 q12 (.tup [V.int 12, V.int 0, V.int 1000])) q12 [V.int (12 : Nat), V.int (lim3 12).1, V.int (lim3 12).2] := SqT.of upd_same
    replace b0 := Same.seqT e12 b0
    replace b1 := Same.seqT e12 b1
    replace b2 := Same.seqT e12 b2
    replace b3 := Same.seqT e12 b3
    replace b4 := Same.seqT e12 b4
    replace b5 := Same.seqT e12 b5
    replace b6 := Same.seqT e12 b6
    replace b7 := Same.seqT e12 b7
    replace b8 := Same.seqT e12 b8
    replace b9 := Same.seqT e12 b9
    replace b10 := Same.seqT e12 b10
    replace b11 := Same.seqT e12 b11
    replace h7 := e12 _ _ h7
    replace w0 := w0.trans e12
    clear nq12
    generalize upd G11 q12 (.tup [V.int 12, V.int 0, V.int 1000]) = G12 at e12 w0 h7 b0 b1 b2 b3 b4 b5 b6 b7 b8 b9 b10 b11 b12 ⊢
    clear e12
    walk_at "ax_go"
    intro q13 nq13
    have e13 : Same G12 (upd G12 q13 (.tup [V.int 13, V.int 1, V.int 1000])) := same_new nq13
    have b13 : SqT K (upd G12 q13 (.tup [V.int 13, V.int 1, V.int 1000])) q13 [V.int (13 : Nat), V.int (lim3 13).1, V.int (lim3 13).2] := SqT.of upd_same
    replace b0 := Same.seqT e13 b0
    replace b1 := Same.seqT e13 b1
    replace b2 := Same.seqT e13 b2
    replace b3 := Same.seqT e13 b3
    replace b4 := Same.seqT e13 b4
    replace b5 := Same.seqT e13 b5
    replace b6 := Same.seqT e13 b6
    replace b7 := Same.seqT e13 b7
    replace b8 := Same.seqT e13 b8
    replace b9 := Same.seqT e13 b9
    replace b10 := Same.seqT e13 b10
    replace b11 := Same.seqT e13 b11
    replace b12 := Same.seqT e13 b12
    replace h7 := e13 _ _ h7
    replace w0 := w0.trans e13
    clear nq13
    generalize upd G12 q13 (.tup [V.int 13, V.int 1, V.int 1000]) = G13 at e13 w0 h7 b0 b1 b2 b3 b4 b5 b6 b7 b8 b9 b10 b11 b12 b13 ⊢
    clear e13
    walk_at "ax_go"
    intro l8 nl8
    have e8 : Same G13 (upd G13 l8 (.lst [V.ref q7, V.ref q8, V.ref q9, V.ref q10, V.ref q11, V.ref q12, V.ref q13])) := same_new nl8
    have h8 : (upd G13 l8 (.lst [V.ref q7, V.ref q8, V.ref q9, V.ref q10, V.ref q11, V.ref q12, V.ref q13])) l8 = some (.lst [V.ref q7, V.ref q8, V.ref q9, V.ref q10, V.ref q11, V.ref q12, V.ref q13]) := upd_same
    replace h7 := e8 _ _ h7
    replace b0 := Same.seqT e8 b0
    replace b1 := Same.seqT e8 b1
    replace b2 := Same.seqT e8 b2
    replace b3 := Same.seqT e8 b3
    replace b4 := Same.seqT e8 b4
    replace b5 := Same.seqT e8 b5
    replace b6 := Same.seqT e8 b6
    replace b7 := Same.seqT e8 b7
    replace b8 := Same.seqT e8 b8
    replace b9 := Same.seqT e8 b9
    replace b10 := Same.seqT e8 b10
    replace b11 := Same.seqT e8 b11
    replace b12 := Same.seqT e8 b12
    replace b13 := Same.seqT e8 b13
    replace w0 := w0.trans e8
    generalize upd G13 l8 _ = GM at e8 w0 h7 h8 b0 b1 b2 b3 b4 b5 b6 b7 b8 b9 b10 b11 b12 b13 ⊢
    clear e8 nl8
    walk_at "ax_go"
    refine r_cat h7 h8 (by rw [sizeLine_eq]; exact Nat.le_of_ble_eq_true rfl) fun lx nlx => ?_
    obtain ⟨xs, exs⟩ : ∃ xs : List V, [V.ref q0, V.ref q1, V.ref q2, V.ref q3, V.ref q4, V.ref q5, V.ref q6] ++ [V.ref q7, V.ref q8, V.ref q9, V.ref q10, V.ref q11, V.ref q12, V.ref q13] = xs := ⟨_, rfl⟩
    rw [exs]
    have lxs : xs.length = 14 := by rw [← exs]; rfl
    have tr : ∀ (i : Nat) v, xs[i]? = some v → ∃ p, v = V.ref p ∧ SqT K GM p [V.int (i : Nat), V.int (lim3 i).1, V.int (lim3 i).2] := fun i v hv => by
      have hi : i < 14 := by rw [← lxs]; exact (List.getElem?_eq_some_iff.mp hv).1
      rw [← exs] at hv
      have : i = 0 ∨ i = 1 ∨ i = 2 ∨ i = 3 ∨ i = 4 ∨ i = 5 ∨ i = 6 ∨ i = 7 ∨ i = 8 ∨ i = 9 ∨ i = 10 ∨ i = 11 ∨ i = 12 ∨ i = 13 := by omega
      rcases this with rfl | rfl | rfl | rfl | rfl | rfl | rfl | rfl | rfl | rfl | rfl | rfl | rfl | rfl
      · exact ⟨q0, (Option.some.inj hv).symm, b0⟩
      · exact ⟨q1, (Option.some.inj hv).symm, b1⟩
      · exact ⟨q2, (Option.some.inj hv).symm, b2⟩
      · exact ⟨q3, (Option.some.inj hv).symm, b3⟩
      · exact ⟨q4, (Option.some.inj hv).symm, b4⟩
      · exact ⟨q5, (Option.some.inj hv).symm, b5⟩
      · exact ⟨q6, (Option.some.inj hv).symm, b6⟩
      · exact ⟨q7, (Option.some.inj hv).symm, b7⟩
      · exact ⟨q8, (Option.some.inj hv).symm, b8⟩
      · exact ⟨q9, (Option.some.inj hv).symm, b9⟩
      · exact ⟨q10, (Option.some.inj hv).symm, b10⟩
      · exact ⟨q11, (Option.some.inj hv).symm, b11⟩
      · exact ⟨q12, (Option.some.inj hv).symm, b12⟩
      · exact ⟨q13, (Option.some.inj hv).symm, b13⟩
    clear h7 h8 exs b0 b1 b2 b3 b4 b5 b6 b7 b8 b9 b10 b11 b12 b13
    have el : Same GM (upd GM lx (.lst xs)) := same_new nlx
    have slx : SqL K (upd GM lx (.lst xs)) lx xs := SqL.of upd_same
    replace tr : ∀ (i : Nat) v, xs[i]? = some v → ∃ p, v = V.ref p ∧ SqT K (upd GM lx (.lst xs)) p [V.int (i : Nat), V.int (lim3 i).1, V.int (lim3 i).2] := fun i v hv => by
      obtain ⟨p, e, s⟩ := tr i v hv
      exact ⟨p, e, Same.seqT el s⟩
    replace w0 := w0.trans el
    generalize upd GM lx (.lst xs) = G at el slx tr w0 ⊢
    clear el
    have lb : ∀ i, i < 14 → -2000000 ≤ (lim3 i).1 ∧ (lim3 i).1 ≤ 1 ∧ (lim3 i).1 ≤ (lim3 i).2 := by decide +kernel
    walk_at "ax_go"
    refine for_list (xs := xs) (fun i σ' H' => Same G H' ∧ ∃ y1 y2 y3, σ' = [some (.ref lx), y1, y2, y3, none, none, none, none]) ⟨Same.refl _, _, _, _, rfl⟩ (fun i σ' H' hi q => Same.seq q.1 slx) ?_ ?_
    · rintro i x σ' H1 hx ⟨s1, y1, y2, y3, rfl⟩
      have hi : i < 14 := by rw [← lxs]; exact (List.getElem?_eq_some_iff.mp hx).1
      obtain ⟨p, rfl, sp⟩ := tr i x hx
      obtain ⟨c1, c2, c3⟩ := lb i hi
      refine r_gtup3 (Same.seqT s1 sp) ?_
      clear sp tr slx lb
      walk_at "ax_go"
      intro t nt
      have st : SqT K (upd H1 t (.tup [V.non, V.int ((lim3 i).1 - 1), V.int ((lim3 i).2 + 1), V.bl true, V.str (mkS (intL (lim3 i).1))])) t [V.non, V.int ((lim3 i).1 - 1), V.int ((lim3 i).2 + 1), V.bl true, V.str (mkS (intL (lim3 i).1))] := SqT.of upd_same
      have s2 := Same.updn (o := .tup [V.non, V.int ((lim3 i).1 - 1), V.int ((lim3 i).2 + 1), V.bl true, V.str (mkS (intL (lim3 i).1))]) s1 nt
      generalize upd H1 t _ = H2 at st s2 ⊢
      walk_at "ax_go"
      refine lc_valsT (f := fun _ => V.str (Str.ofString "number")) (Nat.le_of_ble_eq_true rfl) st (fun v H3 Q' hv u q => ?_) (fun D H3 u nD hD => ?_)
      · have nn : ∀ H' : Hp, NotNum K H' v (lim3 i).1 (lim3 i).2 := fun H' => by
          simp only [List.mem_cons, List.not_mem_nil, or_false] at hv
          rcases hv with rfl | rfl | rfl | rfl | rfl
          · exact .inr .non
          · exact .inl ⟨_, rfl, by omega⟩
          · exact .inl ⟨_, rfl, by omega⟩
          · exact .inr (.bl true)
          · exact .inr (.str _)
        walk_at "ax_go"
        intro p9 np9
        walk_at "ax_go"
        exact c__law_asked3 i .nb rfl ⟨hi, .inr (.inl ⟨0, 9, isrg_new (by decide), by decide, nn _, rfl⟩)⟩ fun H' s => q _ ((same_new np9).trans s)
      rw [map_const_rep, show [V.non, V.int ((lim3 i).1 - 1), V.int ((lim3 i).2 + 1), V.bl true, V.str (mkS (intL (lim3 i).1))].length = 5 from rfl] at hD
      walk_at "ax_go"
      intro l3 nl3
      walk_at "ax_go"
      refine r_rep (k := 5) upd_same (by decide) (by decide) fun m3 nm3 => ?_
      rw [flat_rep]
      refine r_neD1 (d := .list (List.replicate 5 (.str (Str.ofString "number")))) (.lst (SqL.updn nm3 (SqL.updn nl3 (SqL.of hD))) (dpa_rep _ 5)) (.lst (SqL.of upd_same) (dpa_rep _ 5)) (by decide +kernel) ?_
      walk_at "ax_go"
      exact ⟨Same.updn (Same.updn (s2.trans u) nl3) nm3, _, _, _, rfl⟩
    rintro σ' H1 ⟨s1, y1, y2, y3, rfl⟩
    have tr1 : ∀ (i : Nat) v, xs[i]? = some v → ∃ p, v = V.ref p ∧ SqT K H1 p [V.int (i : Nat), V.int (lim3 i).1, V.int (lim3 i).2] := fun i v hv => by
      obtain ⟨p, e, s⟩ := tr i v hv
      exact ⟨p, e, Same.seqT s1 s⟩
    replace slx := Same.seq s1 slx
    replace w0 := w0.trans s1
    clear tr s1
    walk_at "ax_go"
    refine lc_tripD (A := fun i => V.int (i : Nat)) (B := fun i => V.int (lim3 i).1) (C := fun i => V.int (lim3 i).2) (f := fun i => .str (out3 i 0 9 (lim3 i).2).str) (by decide) (by decide) (by decide) (by omega) slx (fun _ => rfl) tr1 (fun i K1 Q' hi u q => ?_) (fun D K1 us u nD hD da => ?_)
    · have hi : i < 14 := by omega
      walk_at "ax_go"
      intro p np
      walk_at "ax_go"
      exact c__law_asked3 i _ rfl ⟨hi, .inr (.inr ⟨0, 9, _, isrg_new (by decide), rfl, ⟨(lb i hi).2.2, Int.le_refl _⟩, rfl⟩)⟩ fun H' s => q _ _ ((same_new np).trans s) (.str _)
    clear tr1 slx lb
    replace w0 := w0.trans u
    replace da : DpAll K K1 us (osD [.ok, .nf, .ok, .ok, .ok, .rg, .rg, .rg, .rg, .ok, .ok, .ok, .nf, .ok]) := by
      rw [lxs] at da
      rw [← show (List.range 14).map (fun i => out3 i 0 9 (lim3 i).2) = [.ok, .nf, .ok, .ok, .ok, .rg, .rg, .rg, .rg, .ok, .ok, .ok, .nf, .ok] from by decide +kernel]
      exact da
    have wc := w0
    clear u
    walk_at "ax_go"
    intro lc_1 nlc_1
    have slc_1 : Same K1 (upd K1 lc_1 (.lst [V.str (Str.ofString "done"), V.str (Str.ofString "none"), V.str (Str.ofString "done"), V.str (Str.ofString "done"), V.str (Str.ofString "done")])) := same_new nlc_1
    have hlc_1 : (upd K1 lc_1 (.lst [V.str (Str.ofString "done"), V.str (Str.ofString "none"), V.str (Str.ofString "done"), V.str (Str.ofString "done"), V.str (Str.ofString "done")])) lc_1 = some (.lst (osV [Oc.ok, Oc.nf, Oc.ok, Oc.ok, Oc.ok])) := upd_same
    replace hD := slc_1 _ _ hD
    replace da := DpAll.to slc_1 da
    replace wc := wc.trans slc_1
    generalize upd K1 lc_1 _ = Ac_1 at slc_1 hlc_1 wc hD da ⊢
    have hcc := hlc_1
    walk_at "ax_go"
    intro lc_2 nlc_2
    have slc_2 : Same Ac_1 (upd Ac_1 lc_2 (.lst [V.str (Str.ofString "range")])) := same_new nlc_2
    have hlc_2 : (upd Ac_1 lc_2 (.lst [V.str (Str.ofString "range")])) lc_2 = some (.lst (osV [Oc.rg])) := upd_same
    replace hD := slc_2 _ _ hD
    replace da := DpAll.to slc_2 da
    replace hcc := slc_2 _ _ hcc
    replace wc := wc.trans slc_2
    generalize upd Ac_1 lc_2 _ = Ac_2 at slc_2 hlc_2 wc hD da hcc ⊢
    walk_at "ax_go"
    refine r_rep (k := 4) hlc_2 (by decide) (by decide) fun mc_2 nmc_2 => ?_
    have hmc_2 : (upd Ac_2 mc_2 (.lst (List.replicate 4 (osV [Oc.rg])).flatten)) mc_2 = some (.lst (osV [Oc.rg, Oc.rg, Oc.rg, Oc.rg])) := upd_same
    have smc_2 : Same Ac_2 (upd Ac_2 mc_2 (.lst (List.replicate 4 (osV [Oc.rg])).flatten)) := same_new nmc_2
    replace hD := smc_2 _ _ hD
    replace da := DpAll.to smc_2 da
    replace hcc := smc_2 _ _ hcc
    replace wc := wc.trans smc_2
    generalize upd Ac_2 mc_2 _ = Bc_2 at smc_2 hmc_2 wc hD da hcc ⊢
    walk_at "ax_go"
    refine r_cat hcc hmc_2 (by rw [sizeLine_eq]; decide) fun cc_2 ncc_2 => ?_
    have scc_2 : Same Bc_2 (upd Bc_2 cc_2 (.lst (osV [Oc.ok, Oc.nf, Oc.ok, Oc.ok, Oc.ok] ++ osV [Oc.rg, Oc.rg, Oc.rg, Oc.rg]))) := same_new ncc_2
    replace hcc : (upd Bc_2 cc_2 (.lst (osV [Oc.ok, Oc.nf, Oc.ok, Oc.ok, Oc.ok] ++ osV [Oc.rg, Oc.rg, Oc.rg, Oc.rg]))) cc_2 = some (.lst (osV [Oc.ok, Oc.nf, Oc.ok, Oc.ok, Oc.ok, Oc.rg, Oc.rg, Oc.rg, Oc.rg])) := upd_same
    replace hD := scc_2 _ _ hD
    replace da := DpAll.to scc_2 da
    replace wc := wc.trans scc_2
    generalize upd Bc_2 cc_2 _ = Cc_2 at scc_2 hcc wc hD da ⊢
    walk_at "ax_go"
    intro lc_3 nlc_3
    have slc_3 : Same Cc_2 (upd Cc_2 lc_3 (.lst [V.str (Str.ofString "done")])) := same_new nlc_3
    have hlc_3 : (upd Cc_2 lc_3 (.lst [V.str (Str.ofString "done")])) lc_3 = some (.lst (osV [Oc.ok])) := upd_same
    replace hD := slc_3 _ _ hD
    replace da := DpAll.to slc_3 da
    replace hcc := slc_3 _ _ hcc
    replace wc := wc.trans slc_3
    generalize upd Cc_2 lc_3 _ = Ac_3 at slc_3 hlc_3 wc hD da hcc ⊢
    walk_at "ax_go"
    refine r_rep (k := 3) hlc_3 (by decide) (by decide) fun mc_3 nmc_3 => ?_
    have hmc_3 : (upd Ac_3 mc_3 (.lst (List.replicate 3 (osV [Oc.ok])).flatten)) mc_3 = some (.lst (osV [Oc.ok, Oc.ok, Oc.ok])) := upd_same
    have smc_3 : Same Ac_3 (upd Ac_3 mc_3 (.lst (List.replicate 3 (osV [Oc.ok])).flatten)) := same_new nmc_3
    replace hD := smc_3 _ _ hD
    replace da := DpAll.to smc_3 da
    replace hcc := smc_3 _ _ hcc
    replace wc := wc.trans smc_3
    generalize upd Ac_3 mc_3 _ = Bc_3 at smc_3 hmc_3 wc hD da hcc ⊢
    walk_at "ax_go"
    refine r_cat hcc hmc_3 (by rw [sizeLine_eq]; decide) fun cc_3 ncc_3 => ?_
    have scc_3 : Same Bc_3 (upd Bc_3 cc_3 (.lst (osV [Oc.ok, Oc.nf, Oc.ok, Oc.ok, Oc.ok, Oc.rg, Oc.rg, Oc.rg, Oc.rg] ++ osV [Oc.ok, Oc.ok, Oc.ok]))) := same_new ncc_3
    replace hcc : (upd Bc_3 cc_3 (.lst (osV [Oc.ok, Oc.nf, Oc.ok, Oc.ok, Oc.ok, Oc.rg, Oc.rg, Oc.rg, Oc.rg] ++ osV [Oc.ok, Oc.ok, Oc.ok]))) cc_3 = some (.lst (osV [Oc.ok, Oc.nf, Oc.ok, Oc.ok, Oc.ok, Oc.rg, Oc.rg, Oc.rg, Oc.rg, Oc.ok, Oc.ok, Oc.ok])) := upd_same
    replace hD := scc_3 _ _ hD
    replace da := DpAll.to scc_3 da
    replace wc := wc.trans scc_3
    generalize upd Bc_3 cc_3 _ = Cc_3 at scc_3 hcc wc hD da ⊢
    walk_at "ax_go"
    intro lc_4 nlc_4
    have slc_4 : Same Cc_3 (upd Cc_3 lc_4 (.lst [V.str (Str.ofString "none"), V.str (Str.ofString "done")])) := same_new nlc_4
    have hlc_4 : (upd Cc_3 lc_4 (.lst [V.str (Str.ofString "none"), V.str (Str.ofString "done")])) lc_4 = some (.lst (osV [Oc.nf, Oc.ok])) := upd_same
    replace hD := slc_4 _ _ hD
    replace da := DpAll.to slc_4 da
    replace hcc := slc_4 _ _ hcc
    replace wc := wc.trans slc_4
    generalize upd Cc_3 lc_4 _ = Ac_4 at slc_4 hlc_4 wc hD da hcc ⊢
    walk_at "ax_go"
    refine r_cat hcc hlc_4 (by rw [sizeLine_eq]; decide) fun cc_4 ncc_4 => ?_
    have scc_4 : Same Ac_4 (upd Ac_4 cc_4 (.lst (osV [Oc.ok, Oc.nf, Oc.ok, Oc.ok, Oc.ok, Oc.rg, Oc.rg, Oc.rg, Oc.rg, Oc.ok, Oc.ok, Oc.ok] ++ osV [Oc.nf, Oc.ok]))) := same_new ncc_4
    replace hcc : (upd Ac_4 cc_4 (.lst (osV [Oc.ok, Oc.nf, Oc.ok, Oc.ok, Oc.ok, Oc.rg, Oc.rg, Oc.rg, Oc.rg, Oc.ok, Oc.ok, Oc.ok] ++ osV [Oc.nf, Oc.ok]))) cc_4 = some (.lst (osV [Oc.ok, Oc.nf, Oc.ok, Oc.ok, Oc.ok, Oc.rg, Oc.rg, Oc.rg, Oc.rg, Oc.ok, Oc.ok, Oc.ok, Oc.nf, Oc.ok])) := upd_same
    replace hD := scc_4 _ _ hD
    replace da := DpAll.to scc_4 da
    replace wc := wc.trans scc_4
    generalize upd Ac_4 cc_4 _ = Cc_4 at scc_4 hcc wc hD da ⊢
    walk_at "ax_go"
    refine r_neD1 (d := .list (osD [.ok, .nf, .ok, .ok, .ok, .rg, .rg, .rg, .rg, .ok, .ok, .ok, .nf, .ok])) (.lst (SqL.of hD) da) (.lst (SqL.of hcc) (dpa_os _)) (by decide +kernel) ?_
    clear hD da hcc
    walk_at "ax_go"
    replace w0 := wc
    clear wc
    intro tt0 ntt0
    have stt0 : SqT K (upd Cc_4 tt0 (.tup [V.int 999991, V.int 999992, V.int (0 - 1000000), V.int (0 - 1000001)])) tt0 [V.int 999991, V.int 999992, V.int (0 - 1000000), V.int (0 - 1000001)] := SqT.of upd_same
    replace w0 := Same.updn (o := .tup [V.int 999991, V.int 999992, V.int (0 - 1000000), V.int (0 - 1000001)]) w0 ntt0
    generalize upd Cc_4 tt0 _ = T0 at stt0 w0 ⊢
    walk_at "ax_go"
    refine lc_valsT (f := fun v => match v with | .int z => V.str (out3 5 0 9 z).str | _ => .non) (by decide) stt0 (fun v U0 Q' hv u q => ?_) (fun E0 U0 u nE0 hE0 => ?_)
    · simp only [List.mem_cons, List.not_mem_nil, or_false] at hv
      walk_at "ax_go"
      intro p np
      walk_at "ax_go"
      rcases hv with rfl | rfl | rfl | rfl
      · exact c__law_asked3 5 _ rfl ⟨by decide, .inr (.inr ⟨0, 9, _, isrg_new (by decide), rfl, by decide, rfl⟩)⟩ fun H' s => q _ ((same_new np).trans s)
      · exact c__law_asked3 5 _ rfl ⟨by decide, .inr (.inr ⟨0, 9, _, isrg_new (by decide), rfl, by decide, rfl⟩)⟩ fun H' s => q _ ((same_new np).trans s)
      · exact c__law_asked3 5 _ rfl ⟨by decide, .inr (.inr ⟨0, 9, _, isrg_new (by decide), rfl, by decide, rfl⟩)⟩ fun H' s => q _ ((same_new np).trans s)
      · exact c__law_asked3 5 _ rfl ⟨by decide, .inr (.inr ⟨0, 9, _, isrg_new (by decide), rfl, by decide, rfl⟩)⟩ fun H' s => q _ ((same_new np).trans s)
    replace hE0 : U0 E0 = some (.lst (osV [Oc.ok, Oc.rg, Oc.ok, Oc.rg])) := by
      rw [hE0]
      refine congrArg (fun l => some (HO.lst l)) (?_ : _ = osV [Oc.ok, Oc.rg, Oc.ok, Oc.rg])
      exact congrArg osV (show [(out3 5 0 9 999991), (out3 5 0 9 999992), (out3 5 0 9 (0 - 1000000)), (out3 5 0 9 (0 - 1000001))] = [Oc.ok, Oc.rg, Oc.ok, Oc.rg] by decide +kernel)
    replace w0 := w0.trans u
    walk_at "ax_go"
    intro ll0 nll0
    refine r_neD1 (d := .list (osD [Oc.ok, Oc.rg, Oc.ok, Oc.rg])) (.lst (SqL.updn nll0 (SqL.of hE0)) (dpa_os _)) (.lst (xs := osV [Oc.ok, Oc.rg, Oc.ok, Oc.rg]) (SqL.of upd_same) (dpa_os _)) (by decide +kernel) ?_
    replace w0 := Same.updn (o := .lst [V.str (Str.ofString "done"), V.str (Str.ofString "range"), V.str (Str.ofString "done"), V.str (Str.ofString "range")]) w0 nll0
    generalize upd U0 ll0 _ = V0 at w0 ⊢
    clear hE0 stt0 u
    walk_at "ax_go"
    intro tt1 ntt1
    have stt1 : SqT K (upd V0 tt1 (.tup [V.int 6, V.int 7])) tt1 [V.int 6, V.int 7] := SqT.of upd_same
    replace w0 := Same.updn (o := .tup [V.int 6, V.int 7]) w0 ntt1
    generalize upd V0 tt1 _ = T1 at stt1 w0 ⊢
    walk_at "ax_go"
    refine lc_valsT (f := fun v => match v with | .int z => V.str (out3 (Int.toNat z) 0 9 1000000).str | _ => .non) (by decide) stt1 (fun v U1 Q' hv u q => ?_) (fun E1 U1 u nE1 hE1 => ?_)
    · simp only [List.mem_cons, List.not_mem_nil, or_false] at hv
      walk_at "ax_go"
      intro p np
      walk_at "ax_go"
      rcases hv with rfl | rfl
      · exact c__law_asked3 6 _ rfl ⟨by decide, .inr (.inr ⟨0, 9, _, isrg_new (by decide), rfl, by decide, rfl⟩)⟩ fun H' s => q _ ((same_new np).trans s)
      · exact c__law_asked3 7 _ rfl ⟨by decide, .inr (.inr ⟨0, 9, _, isrg_new (by decide), rfl, by decide, rfl⟩)⟩ fun H' s => q _ ((same_new np).trans s)
    replace hE1 : U1 E1 = some (.lst (osV [Oc.ok, Oc.rg])) := by
      rw [hE1]
      refine congrArg (fun l => some (HO.lst l)) (?_ : _ = osV [Oc.ok, Oc.rg])
      exact congrArg osV (show [(out3 (Int.toNat 6) 0 9 1000000), (out3 (Int.toNat 7) 0 9 1000000)] = [Oc.ok, Oc.rg] by decide +kernel)
    replace w0 := w0.trans u
    walk_at "ax_go"
    intro ll1 nll1
    refine r_neD1 (d := .list (osD [Oc.ok, Oc.rg])) (.lst (SqL.updn nll1 (SqL.of hE1)) (dpa_os _)) (.lst (xs := osV [Oc.ok, Oc.rg]) (SqL.of upd_same) (dpa_os _)) (by decide +kernel) ?_
    replace w0 := Same.updn (o := .lst [V.str (Str.ofString "done"), V.str (Str.ofString "range")]) w0 nll1
    generalize upd U1 ll1 _ = V1 at w0 ⊢
    clear hE1 stt1 u
    walk_at "ax_go"
    intro p30 np30
    walk_at "ax_go"
    refine c__law_asked3 8 .ok rfl ⟨by decide, .inr (.inr ⟨-1, 1, 6, isrg_new (by decide), rfl, by decide, by decide +kernel⟩)⟩ fun H30 s30 => ?_
    replace w0 := (Same.updn (o := .tup [V.int (0 - 1), V.int 1]) w0 np30).trans s30
    walk_at "ax_go"
    refine r_ifn (fun c => absurd rfl c) (fun _ => ?_)
    walk_at "ax_go"
    intro p31 np31
    walk_at "ax_go"
    intro p32 np32
    walk_at "ax_go"
    intro p33 np33
    have g31 : IsRg K (upd (upd (upd H30 p31 (.tup [V.int (0 - 1500), V.int 1500])) p32 (.tup [V.int 1500, V.int 1600])) p33 (.tup [V.ref p31, V.ref p32])) (.ref p31) (0 - 1500) 1500 := IsRg.same (Same.updn (same_new np32) np33) (isrg_new (by decide))
    have g32 : IsRg K (upd (upd (upd H30 p31 (.tup [V.int (0 - 1500), V.int 1500])) p32 (.tup [V.int 1500, V.int 1600])) p33 (.tup [V.ref p31, V.ref p32])) (.ref p32) 1500 1600 := IsRg.same (same_new np33) (isrg_new (by decide))
    obtain ⟨ys, eys⟩ : ∃ ys : List V, [V.ref p31, V.ref p32] = ys := ⟨_, rfl⟩
    have st33 : SqT K (upd (upd (upd H30 p31 (.tup [V.int (0 - 1500), V.int 1500])) p32 (.tup [V.int 1500, V.int 1600])) p33 (.tup [V.ref p31, V.ref p32])) p33 ys := SqT.of (by rw [← eys]; exact upd_same)
    replace w0 := Same.updn (o := .tup [V.ref p31, V.ref p32]) (Same.updn (o := .tup [V.int 1500, V.int 1600]) (Same.updn (o := .tup [V.int (0 - 1500), V.int 1500]) w0 np31) np32) np33
    generalize upd (upd (upd H30 p31 _) p32 _) p33 _ = H33 at g31 g32 st33 w0 ⊢
    have wt := walk_tupY (K := K) (ys := ys) (a := p33)
    rw [show ys.length = 2 by rw [← eys]; rfl] at wt
    walk_at "ax_go"
    refine lc_coreD (K := K) wt (f := fun i => .str (if i = 0 then Str.ofString "number" else Str.ofString "done")) (by decide) (fun _ _ => rfl) (fun _ s => Same.seqT s st33) (fun i K9 Q' hi u q => ?_) (fun D9 K9 us9 u nD9 hD9 da9 => ?_)
    · have : i = 0 ∨ i = 1 := by omega
      rw [← eys]
      rcases this with rfl | rfl
      · walk_at "ax_go"
        exact c__law_asked3 11 .nb rfl ⟨by decide, .inr (.inr ⟨_, _, 1, IsRg.same u g31, rfl, by decide, by decide⟩)⟩ fun H' s => q _ _ s (.str _)
      · walk_at "ax_go"
        exact c__law_asked3 11 .ok rfl ⟨by decide, .inr (.inr ⟨_, _, 1, IsRg.same u g32, rfl, by decide, by decide⟩)⟩ fun H' s => q _ _ s (.str _)
    replace da9 : DpAll K K9 us9 (osD [.nb, .ok]) := da9
    replace w0 := w0.trans u
    clear g31 g32 st33 wt eys
    walk_at "ax_go"
    intro l34 nl34
    refine r_neD1 (d := .list (osD [.nb, .ok])) (.lst (SqL.updn nl34 (SqL.of hD9)) (DpAll.to (same_new nl34) da9)) (.lst (xs := osV [.nb, .ok]) (SqL.of upd_same) (dpa_os _)) (by decide +kernel) ?_
    replace w0 := Same.updn (o := .lst [V.str (Str.ofString "number"), V.str (Str.ofString "done")]) w0 nl34
    generalize upd K9 l34 _ = H34 at w0 ⊢
    clear hD9 da9 u
    walk_at "ax_go"
    intro p35 np35
    walk_at "ax_go"
    refine c__law_asked3 13 .ok rfl ⟨by decide, .inr (.inr ⟨0, 9, 1, isrg_new (by decide), rfl, by decide, rfl⟩)⟩ fun H35 s35 => ?_
    replace w0 := (Same.updn (o := .tup [V.int 0, V.int 9]) w0 np35).trans s35
    clear s35 np35
    walk_at "ax_go"
    try (refine r_ifn (fun c => absurd rfl c) (fun _ => ?_))
    walk_at "ax_go"
    intro p36 np36
    walk_at "ax_go"
    intro p37 np37
    walk_at "ax_go"
    intro p38 np38
    have g36 : SqT K (upd (upd (upd H35 p36 (.tup [V.int 1000000, V.int (0 - 2000000)])) p37 (.tup [V.int (0 - 1000000), V.int 2000000])) p38 (.tup [V.ref p36, V.ref p37])) p36 [V.int 1000000, V.int (0 - 2000000)] := SqT.updn np38 (SqT.updn np37 (SqT.of upd_same))
    have g37 : SqT K (upd (upd (upd H35 p36 (.tup [V.int 1000000, V.int (0 - 2000000)])) p37 (.tup [V.int (0 - 1000000), V.int 2000000])) p38 (.tup [V.ref p36, V.ref p37])) p37 [V.int (0 - 1000000), V.int 2000000] := SqT.updn np38 (SqT.of upd_same)
    have st38 : SqT K (upd (upd (upd H35 p36 (.tup [V.int 1000000, V.int (0 - 2000000)])) p37 (.tup [V.int (0 - 1000000), V.int 2000000])) p38 (.tup [V.ref p36, V.ref p37])) p38 [V.ref p36, V.ref p37] := SqT.of upd_same
    replace w0 := Same.updn (o := .tup [V.ref p36, V.ref p37]) (Same.updn (o := .tup [V.int (0 - 1000000), V.int 2000000]) (Same.updn (o := .tup [V.int 1000000, V.int (0 - 2000000)]) w0 np36) np37) np38
    generalize upd (upd (upd H35 p36 _) p37 _) p38 _ = H38 at g36 g37 st38 w0 ⊢
    walk_at "ax_go"
    refine lc_twoD (A := fun i => V.int (if i = 0 then 1000000 else 0 - 1000000)) (B := fun i => V.int (if i = 0 then 0 - 2000000 else 2000000)) (f := fun _ => .str (Str.ofString "done")) (by decide) (Nat.le_of_ble_eq_true rfl) st38 (fun _ => rfl) (fun i v hv => ?_) (fun i K9 Q' hi u q => ?_) (fun D9 K9 us9 u nD9 hD9 da9 => ?_)
    · match i, hv with
      | 0, hv => exact ⟨p36, (Option.some.inj hv).symm, g36⟩
      | 1, hv => exact ⟨p37, (Option.some.inj hv).symm, g37⟩
    · have hi : i < 2 := hi
      have : i = 0 ∨ i = 1 := by omega
      rcases this with rfl | rfl
      · walk_at "ax_go"
        intro p np
        walk_at "ax_go"
        exact c__law_asked3 5 .ok rfl ⟨by decide, .inr (.inr ⟨1000000, 1000000, 0 - 2000000, isrg_new (by decide), rfl, by decide, by decide⟩)⟩ fun H' s => q _ _ ((same_new np).trans s) (.str _)
      · walk_at "ax_go"
        intro p np
        walk_at "ax_go"
        exact c__law_asked3 5 .ok rfl ⟨by decide, .inr (.inr ⟨0 - 1000000, 0 - 1000000, 2000000, isrg_new (by decide), rfl, by decide, by decide⟩)⟩ fun H' s => q _ _ ((same_new np).trans s) (.str _)
    replace da9 : DpAll K K9 us9 (List.replicate 2 (.str (Str.ofString "done"))) := da9
    replace w0 := w0.trans u
    clear g36 g37 st38
    walk_at "ax_go"
    intro l39 nl39
    walk_at "ax_go"
    refine r_rep (k := 2) upd_same (by decide) (by decide) fun m39 nm39 => ?_
    rw [flat_rep]
    refine r_neD1 (d := .list (List.replicate 2 (.str (Str.ofString "done")))) (.lst (SqL.updn nm39 (SqL.updn nl39 (SqL.of hD9))) (DpAll.to (Same.updn (same_new nl39) nm39) da9)) (.lst (SqL.of upd_same) (dpa_rep _ 2)) (by decide +kernel) ?_
    replace w0 := Same.updn (o := .lst (List.replicate 2 (V.str (Str.ofString "done")))) (Same.updn (o := .lst [V.str (Str.ofString "done")]) w0 nl39) nm39
    generalize upd (upd K9 l39 _) m39 _ = H39 at w0 ⊢
    clear hD9 da9 u
    walk_at "ax_go"
    intro p40 np40
    walk_at "ax_go"
    refine c__law_asked3 10 .rg rfl ⟨by decide, .inr (.inr ⟨0, 3000, 1000, isrg_new (by decide), rfl, by decide, by decide +kernel⟩)⟩ fun H40 s40 => ?_
    walk_at "ax_go"
    refine r_if (fun _ => ?_) (fun c => absurd rfl c)
    walk_at "ax_go"
    intro p41 np41
    walk_at "ax_go"
    refine c__law_asked3 11 .nb rfl ⟨by decide, .inr (.inr ⟨0, 2001, 1, isrg_new (by decide), rfl, by decide, by decide⟩)⟩ fun H41 s41 => ?_
    walk_at "ax_go"
    refine r_if (fun _ => ?_) (fun c => absurd rfl c)
    walk_at "ax_go"
    intro p42 np42
    walk_at "ax_go"
    refine c__law_asked3 11 .ok rfl ⟨by decide, .inr (.inr ⟨0, 2000, 1, isrg_new (by decide), rfl, by decide, by decide⟩)⟩ fun H42 s42 => ?_
    replace w0 := (Same.updn (o := .tup [V.int 0, V.int 2000]) ((Same.updn (o := .tup [V.int 0, V.int 2001]) ((Same.updn (o := .tup [V.int 0, V.int 3000]) w0 np40).trans s40) np41).trans s41) np42).trans s42
    walk_at "ax_go"
    exact k _ w0
theorem c__law_numbers {T : Txt K mg} {H : Hp} {Q : VK} {E : XK} (h : ∀ H', Same H H' → Q (.bl true) H') : sp__law_numbers T [] H Q E := ⟨rfl, h⟩
local macro_rules | `(tactic| walk_at "ax_call") => `(tactic| with_reducible refine c__law_numbers ?_)
/-! ### law -/
def sp_lawK (K : PySem.W.Frag) : Sp := fun vs H Q _ => ∃ (a : Addr) (ns : List Int), vs = [.ref a] ∧ SqL K H a (ns.map V.int) ∧ ns.length ≤ 63 ∧ Only H ∧ ∀ H', Q (.bl true) H'
def sp_law (_ : Txt K mg) : Sp := sp_lawK K
theorem ok_law (T : Txt K mg) : FnOk P w K mg base CX0 9 T.law.f T.law.fd ["_law_script"] (sp_law T) := by
  refine T.law.F.ok sc_law (fun vs H Q E h => ?_) (fun cdv A outer s H vs Q E hr h => ?_)
  · obtain ⟨_, _, rfl, _⟩ := h; rfl
  · refine ⟨_, (pss_cons (ps_set (i := 1) sc_law.nd rfl (Or.inl rfl) (pe_call (ok__law_start T) (hr.mono (by decide)) rfl T._law_start.g T._law_start.F.kp T._law_start.b .nil pass0 (pa_cons (pv 0) pa_nil)))
        (pss_cons (ps_for PassesOwn.never rfl (pi_list (pe_lst (pa_cons pe_non (pa_cons pe_int (pa_cons (pe_tup pa_nil) (pa_cons (pe_tup (pa_cons pe_int pa_nil)) (pa_cons (pe_lst (pa_cons pe_int (pa_cons pe_int pa_nil))) (pa_cons (pe_tup (pa_cons pe_int (pa_cons pe_int pa_nil))) (pa_cons (pe_tup (pa_cons pe_int (pa_cons pe_int pa_nil))) (pa_cons (pe_tup (pa_cons (pe_op op_sub pe_int pe_int) (pa_cons pe_int pa_nil))) (pa_cons (pe_tup (pa_cons pe_bl (pa_cons pe_int pa_nil))) (pa_cons (pe_tup (pa_cons pe_int (pa_cons pe_bl pa_nil))) (pa_cons (pe_tup (pa_cons pe_str (pa_cons pe_int pa_nil))) (pa_cons (pe_tup (pa_cons pe_int (pa_cons pe_non pa_nil))) (pa_cons (pe_tup (pa_cons pe_int (pa_cons pe_int (pa_cons pe_int pa_nil)))) pa_nil))))))))))))))) (pg_name (i := 2) sc_law.nd rfl (Or.inr rfl))
          (pss_cons (ps_if (PW.pt (pw_or (pt_cmpR op_notBl (pe_call (ok_is_range T) (hr.mono (by decide)) rfl T.is_range.g T.is_range.F.kp T.is_range.b .nil pass0 (pa_cons (pv 2) pa_nil)) pe_bl (nomark _)) (pw_or1 (pt_cmpR (op_neD hr.units) (pe_lc (own := [("_law_k", 4)]) rfl sc_law.nd (pi_range1 rfl T.z_range (pa_cons pe_int pa_nil)) (blkOk_by (N := ["_law_script", "_law_draws", "_law_bad", "_law_span", "_law_k"]) (sc := defScope s_law) (by decide +kernel)) (fun _ _ _ _ _ => (pg_name (i := 4) sc_law.nd rfl (Or.inl rfl))) (fun _ _ _ _ _ => pts_nil) (fun _ _ _ _ _ => (pe_call (ok__law_asked T) (hr.mono (by decide)) rfl T._law_asked.g T._law_asked.F.kp T._law_asked.b .nil pass0 (pa_cons pe_int (pa_cons (pv 4) (pa_cons (pv 2) (pa_cons pe_int pa_nil))))))) (pe_op op_rep (pe_lst (pa_cons pe_str pa_nil)) pe_int) (nomark _)))))
          (pss_one (ps_ret pe_bl))
          pss_nil)
        (pss_one (ps_if (PW.pt (pw_or (pt_cmpR (op_neD hr.units) (pe_lc (own := [("_law_k", 4)]) rfl sc_law.nd (pi_range1 rfl T.z_range (pa_cons pe_int pa_nil)) (blkOk_by (N := ["_law_script", "_law_draws", "_law_bad", "_law_span", "_law_k"]) (sc := defScope s_law) (by decide +kernel)) (fun _ _ _ _ _ => (pg_name (i := 4) sc_law.nd rfl (Or.inl rfl))) (fun _ _ _ _ _ => pts_nil) (fun _ _ _ _ _ => (pe_call (ok__law_asked T) (hr.mono (by decide)) rfl T._law_asked.g T._law_asked.F.kp T._law_asked.b .nil pass0 (pa_cons pe_int (pa_cons (pv 4) (pa_cons (pv 2) (pa_cons pe_non pa_nil))))))) (pe_op op_rep (pe_lst (pa_cons pe_str pa_nil)) pe_int) (nomark _)) (pw_or1 (pt_cmpR (op_neD hr.units) (pe_lc (own := [("_law_k", 4)]) rfl sc_law.nd (pi_range1 rfl T.z_range (pa_cons pe_int pa_nil)) (blkOk_by (N := ["_law_script", "_law_draws", "_law_bad", "_law_span", "_law_k"]) (sc := defScope s_law) (by decide +kernel)) (fun _ _ _ _ _ => (pg_name (i := 4) sc_law.nd rfl (Or.inl rfl))) (fun _ _ _ _ _ => pts_nil) (fun _ _ _ _ _ => (pe_call (ok__law_asked T) (hr.mono (by decide)) rfl T._law_asked.g T._law_asked.F.kp T._law_asked.b .nil pass0 (pa_cons pe_int (pa_cons (pv 4) (pa_cons (pv 2) (pa_cons pe_non pa_nil))))))) (pe_op op_rep (pe_lst (pa_cons pe_str pa_nil)) pe_int) (nomark _)))))
          (pss_one (ps_ret pe_bl))
          pss_nil))))
        (pss_cons (ps_set (i := 3) sc_law.nd rfl (Or.inr rfl) (pe_tup (pa_cons pe_int (pa_cons (pe_op op_add pe_int (pe_call (ok__law_draw T) (hr.mono (by decide)) rfl T._law_draw.g T._law_draw.F.kp T._law_draw.b .nil pass0 (pa_cons (pv 1) (pa_cons pe_int pa_nil)))) pa_nil))))
        (pss_cons (ps_for PassesOwn.never rfl (pi_list (pe_lst (pa_cons pe_non (pa_cons pe_int (pa_cons pe_int (pa_cons (pe_op op_sub pe_int pe_int) (pa_cons pe_int (pa_cons pe_int (pa_cons pe_bl (pa_cons pe_str pa_nil)))))))))) (pg_name (i := 2) sc_law.nd rfl (Or.inr rfl))
          (pss_one (ps_if (PW.pt (pw_or (pt_cmpR op_notBl (pe_call (ok_is_nice T) (hr.mono (by decide)) rfl T.is_nice.g T.is_nice.F.kp T.is_nice.b .nil pass0 (pa_cons (pv 2) pa_nil)) pe_bl (nomark _)) (pw_or1 (pt_cmpR (op_neD hr.units) (pe_lc (own := [("_law_k", 4)]) rfl sc_law.nd (pi_range1 rfl T.z_range (pa_cons pe_int pa_nil)) (blkOk_by (N := ["_law_script", "_law_draws", "_law_bad", "_law_span", "_law_k"]) (sc := defScope s_law) (by decide +kernel)) (fun _ _ _ _ _ => (pg_name (i := 4) sc_law.nd rfl (Or.inl rfl))) (fun _ _ _ _ _ => pts_nil) (fun _ _ _ _ _ => (pe_call (ok__law_asked T) (hr.mono (by decide)) rfl T._law_asked.g T._law_asked.F.kp T._law_asked.b .nil pass0 (pa_cons pe_int (pa_cons (pv 4) (pa_cons (pv 3) (pa_cons (pv 2) pa_nil))))))) (pe_op op_rep (pe_lst (pa_cons pe_str pa_nil)) pe_int) (nomark _)))))
          (pss_one (ps_ret pe_bl))
          pss_nil)))
        (pss_cons (ps_if (PW.pt (pw_or (pt_cmpR (op_neD hr.units) (pe_lc (own := [("_law_k", 4)]) rfl sc_law.nd (pi_range1 rfl T.z_range (pa_cons pe_int pa_nil)) (blkOk_by (N := ["_law_script", "_law_draws", "_law_bad", "_law_span", "_law_k"]) (sc := defScope s_law) (by decide +kernel)) (fun _ _ _ _ _ => (pg_name (i := 4) sc_law.nd rfl (Or.inl rfl))) (fun _ _ _ _ _ => pts_nil) (fun _ _ _ _ _ => (pe_call (ok__law_asked T) (hr.mono (by decide)) rfl T._law_asked.g T._law_asked.F.kp T._law_asked.b .nil pass0 (pa_cons pe_int (pa_cons (pv 4) (pa_cons (pv 3) (pa_cons pe_int pa_nil))))))) (pe_op op_rep (pe_lst (pa_cons pe_str pa_nil)) pe_int) (nomark _)) (pw_or1 (pt_cmpR (op_neD hr.units) (pe_lc (own := [("_law_k", 4)]) rfl sc_law.nd (pi_range1 rfl T.z_range (pa_cons pe_int pa_nil)) (blkOk_by (N := ["_law_script", "_law_draws", "_law_bad", "_law_span", "_law_k"]) (sc := defScope s_law) (by decide +kernel)) (fun _ _ _ _ _ => (pg_name (i := 4) sc_law.nd rfl (Or.inl rfl))) (fun _ _ _ _ _ => pts_nil) (fun _ _ _ _ _ => (pe_call (ok__law_asked T) (hr.mono (by decide)) rfl T._law_asked.g T._law_asked.F.kp T._law_asked.b .nil pass0 (pa_cons pe_int (pa_cons (pv 4) (pa_cons (pv 3) (pa_cons pe_int pa_nil))))))) (pe_op op_rep (pe_lst (pa_cons pe_str pa_nil)) pe_int) (nomark _)))))
          (pss_one (ps_ret pe_bl))
          pss_nil)
        (pss_cons (ps_if (pt_cmpR (op_neD hr.units) (pe_lc (own := [("_law_k", 4)]) rfl sc_law.nd (pi_range1 rfl T.z_range (pa_cons pe_int pa_nil)) (blkOk_by (N := ["_law_script", "_law_draws", "_law_bad", "_law_span", "_law_k"]) (sc := defScope s_law) (by decide +kernel)) (fun _ _ _ _ _ => (pg_name (i := 4) sc_law.nd rfl (Or.inl rfl))) (fun _ _ _ _ _ => pts_nil) (fun _ _ _ _ _ => (pe_call (ok__law_asked T) (hr.mono (by decide)) rfl T._law_asked.g T._law_asked.F.kp T._law_asked.b .nil pass0 (pa_cons pe_int (pa_cons (pv 4) (pa_cons (pe_tup (pa_cons pe_int (pa_cons pe_int pa_nil))) (pa_cons pe_int pa_nil))))))) (pe_op op_cat (pe_op op_cat (pe_op op_cat (pe_op op_cat (pe_op op_cat (pe_op op_cat (pe_op op_cat (pe_lst (pa_cons pe_str pa_nil)) (pe_op op_rep (pe_lst (pa_cons pe_str pa_nil)) pe_int)) (pe_lst (pa_cons pe_str (pa_cons pe_str pa_nil)))) (pe_op op_rep (pe_lst (pa_cons pe_str pa_nil)) pe_int)) (pe_lst (pa_cons pe_str pa_nil))) (pe_op op_rep (pe_lst (pa_cons pe_str pa_nil)) pe_int)) (pe_lst (pa_cons pe_str pa_nil))) (pe_op op_rep (pe_lst (pa_cons pe_str pa_nil)) pe_int)) (nomark _))
          (pss_one (ps_ret pe_bl))
          pss_nil)
        (pss_cons (ps_if (PW.pt (pw_or (pt_cmpR op_ne (pe_call (ok__law_asked T) (hr.mono (by decide)) rfl T._law_asked.g T._law_asked.F.kp T._law_asked.b .nil pass0 (pa_cons pe_int (pa_cons pe_int (pa_cons (pe_tup (pa_cons pe_int (pa_cons pe_int pa_nil))) (pa_cons pe_int pa_nil))))) pe_str (nomark _)) (pw_or (pt_cmpR op_ne (pe_call (ok__law_asked T) (hr.mono (by decide)) rfl T._law_asked.g T._law_asked.F.kp T._law_asked.b .nil pass0 (pa_cons pe_int (pa_cons pe_int (pa_cons (pe_tup (pa_cons pe_int (pa_cons pe_int pa_nil))) (pa_cons pe_int pa_nil))))) pe_str (nomark _)) (pw_or1 (pt_cmpR (op_neD hr.units) (pe_lc (own := [("_law_k", 4)]) rfl sc_law.nd (pi_tup (pe_tup (pa_cons pe_int (pa_cons pe_int (pa_cons pe_int (pa_cons pe_int pa_nil)))))) (blkOk_by (N := ["_law_script", "_law_draws", "_law_bad", "_law_span", "_law_k"]) (sc := defScope s_law) (by decide +kernel)) (fun _ _ _ _ _ => (pg_name (i := 4) sc_law.nd rfl (Or.inl rfl))) (fun _ _ _ _ _ => pts_nil) (fun _ _ _ _ _ => (pe_call (ok__law_asked T) (hr.mono (by decide)) rfl T._law_asked.g T._law_asked.F.kp T._law_asked.b .nil pass0 (pa_cons pe_int (pa_cons (pv 4) (pa_cons (pe_tup (pa_cons pe_int (pa_cons pe_int pa_nil))) (pa_cons pe_int pa_nil))))))) (pe_op op_cat (pe_op op_rep (pe_lst (pa_cons pe_str pa_nil)) pe_int) (pe_lst (pa_cons pe_str pa_nil))) (nomark _))))))
          (pss_one (ps_ret pe_bl))
          pss_nil)
        (pss_one (ps_ret (pe_and (pe_cmpR op_isBl (pe_call (ok_is_range T) (hr.mono (by decide)) rfl T.is_range.g T.is_range.F.kp T.is_range.b .nil pass0 (pa_cons (pe_tup (pa_cons (pe_op op_sub pe_int pe_int) (pa_cons pe_int pa_nil))) pa_nil)) pe_bl (nomark _)) (pe_and (pe_cmpR op_isBl (pe_call (ok_is_mark T) (hr.mono (by decide)) rfl T.is_mark.g T.is_mark.F.kp T.is_mark.b .nil passL (pa_cons (pe_tup (pa_cons pe_int (pa_cons pe_int pa_nil))) (pa_cons pe_int (pa_cons pe_bl pa_nil)))) pe_bl (nomark _)) (pe_and (pe_cmpR (op_eqD hr.units) (pe_lc (own := [("_law_k", 4)]) rfl sc_law.nd (pi_tup (pe_tup (pa_cons pe_int (pa_cons pe_int pa_nil)))) (blkOk_by (N := ["_law_script", "_law_draws", "_law_bad", "_law_span", "_law_k"]) (sc := defScope s_law) (by decide +kernel)) (fun _ _ _ _ _ => (pg_name (i := 4) sc_law.nd rfl (Or.inl rfl))) (fun _ _ _ _ _ => pts_nil) (fun _ _ _ _ _ => (pe_call (ok__law_asked T) (hr.mono (by decide)) rfl T._law_asked.g T._law_asked.F.kp T._law_asked.b .nil pass0 (pa_cons pe_int (pa_cons (pv 4) (pa_cons (pe_tup (pa_cons pe_int (pa_cons pe_int pa_nil))) (pa_cons pe_int pa_nil))))))) (pe_op op_rep (pe_lst (pa_cons pe_str pa_nil)) pe_int) (nomark _)) (pe_one (pe_call0 (ok__law_numbers T) (hr.mono (by decide)) rfl T._law_numbers.g T._law_numbers.F.kp T._law_numbers.b .nil pass0)))))))))))))), ?_⟩
    try dsimp only [cxOf]
    obtain ⟨a, ns, rfl, sS, hl, _, k⟩ := h
    walk_at "ax_go"
    intro d n H1 s1 dr1 _ _
    walk_at "ax_go"
    intro q0 nq0
    have e0 : Same H1 (upd H1 q0 (.tup [])) := same_new nq0
    have b0 : NotRg K (upd H1 q0 (.tup [])) (.ref q0) := .len (SqT.of upd_same) (by decide)
    replace dr1 := Dr.same e0 dr1
    clear nq0
    generalize upd H1 q0 (.tup []) = G0 at e0 dr1 b0 ⊢
    clear e0
    walk_at "ax_go"
    intro q1 nq1
    have e1 : Same G0 (upd G0 q1 (.tup [V.int 1])) := same_new nq1
    have b1 : NotRg K (upd G0 q1 (.tup [V.int 1])) (.ref q1) := .len (SqT.of upd_same) (by decide)
    replace b0 := NotRg.same e1 b0
    replace dr1 := Dr.same e1 dr1
    clear nq1
    generalize upd G0 q1 (.tup [V.int 1]) = G1 at e1 dr1 b0 b1 ⊢
    clear e1
    walk_at "ax_go"
    intro q2 nq2
    have e2 : Same G1 (upd G1 q2 (.lst [V.int 0, V.int 1])) := same_new nq2
    have b2 : NotRg K (upd G1 q2 (.lst [V.int 0, V.int 1])) (.ref q2) := .lst (SqL.of upd_same)
    replace b0 := NotRg.same e2 b0
    replace b1 := NotRg.same e2 b1
    replace dr1 := Dr.same e2 dr1
    clear nq2
    generalize upd G1 q2 (.lst [V.int 0, V.int 1]) = G2 at e2 dr1 b0 b1 b2 ⊢
    clear e2
    walk_at "ax_go"
    intro q3 nq3
    have e3 : Same G2 (upd G2 q3 (.tup [V.int 1, V.int 0])) := same_new nq3
    have b3 : NotRg K (upd G2 q3 (.tup [V.int 1, V.int 0])) (.ref q3) := .high (SqT.of upd_same) (by decide)
    replace b0 := NotRg.same e3 b0
    replace b1 := NotRg.same e3 b1
    replace b2 := NotRg.same e3 b2
    replace dr1 := Dr.same e3 dr1
    clear nq3
    generalize upd G2 q3 (.tup [V.int 1, V.int 0]) = G3 at e3 dr1 b0 b1 b2 b3 ⊢
    clear e3
    walk_at "ax_go"
    intro q4 nq4
    have e4 : Same G3 (upd G3 q4 (.tup [V.int 0, V.int 1000001])) := same_new nq4
    have b4 : NotRg K (upd G3 q4 (.tup [V.int 0, V.int 1000001])) (.ref q4) := .high (SqT.of upd_same) (by decide)
    replace b0 := NotRg.same e4 b0
    replace b1 := NotRg.same e4 b1
    replace b2 := NotRg.same e4 b2
    replace b3 := NotRg.same e4 b3
    replace dr1 := Dr.same e4 dr1
    clear nq4
    generalize upd G3 q4 (.tup [V.int 0, V.int 1000001]) = G4 at e4 dr1 b0 b1 b2 b3 b4 ⊢
    clear e4
    walk_at "ax_go"
    intro q5 nq5
    have e5 : Same G4 (upd G4 q5 (.tup [V.int (0 - 1000001), V.int 0])) := same_new nq5
    have b5 : NotRg K (upd G4 q5 (.tup [V.int (0 - 1000001), V.int 0])) (.ref q5) := .low (SqT.of upd_same) (by decide)
    replace b0 := NotRg.same e5 b0
    replace b1 := NotRg.same e5 b1
    replace b2 := NotRg.same e5 b2
    replace b3 := NotRg.same e5 b3
    replace b4 := NotRg.same e5 b4
    replace dr1 := Dr.same e5 dr1
    clear nq5
    generalize upd G4 q5 (.tup [V.int (0 - 1000001), V.int 0]) = G5 at e5 dr1 b0 b1 b2 b3 b4 b5 ⊢
    clear e5
    walk_at "ax_go"
    intro q6 nq6
    have e6 : Same G5 (upd G5 q6 (.tup [V.bl true, V.int 1])) := same_new nq6
    have b6 : NotRg K (upd G5 q6 (.tup [V.bl true, V.int 1])) (.ref q6) := .fst (SqT.of upd_same) (.bl true)
    replace b0 := NotRg.same e6 b0
    replace b1 := NotRg.same e6 b1
    replace b2 := NotRg.same e6 b2
    replace b3 := NotRg.same e6 b3
    replace b4 := NotRg.same e6 b4
    replace b5 := NotRg.same e6 b5
    replace dr1 := Dr.same e6 dr1
    clear nq6
    generalize upd G5 q6 (.tup [V.bl true, V.int 1]) = G6 at e6 dr1 b0 b1 b2 b3 b4 b5 b6 ⊢
    clear e6
    walk_at "ax_go"
    intro q7 nq7
    have e7 : Same G6 (upd G6 q7 (.tup [V.int 0, V.bl true])) := same_new nq7
    have b7 : NotRg K (upd G6 q7 (.tup [V.int 0, V.bl true])) (.ref q7) := .snd (SqT.of upd_same) (.bl true)
    replace b0 := NotRg.same e7 b0
    replace b1 := NotRg.same e7 b1
    replace b2 := NotRg.same e7 b2
    replace b3 := NotRg.same e7 b3
    replace b4 := NotRg.same e7 b4
    replace b5 := NotRg.same e7 b5
    replace b6 := NotRg.same e7 b6
    replace dr1 := Dr.same e7 dr1
    clear nq7
    generalize upd G6 q7 (.tup [V.int 0, V.bl true]) = G7 at e7 dr1 b0 b1 b2 b3 b4 b5 b6 b7 ⊢
    clear e7
    walk_at "ax_go"
    intro q8 nq8
    have e8 : Same G7 (upd G7 q8 (.tup [V.str (Str.ofString "0"), V.int 1])) := same_new nq8
    have b8 : NotRg K (upd G7 q8 (.tup [V.str (Str.ofString "0"), V.int 1])) (.ref q8) := .fst (SqT.of upd_same) (.str _)
    replace b0 := NotRg.same e8 b0
    replace b1 := NotRg.same e8 b1
    replace b2 := NotRg.same e8 b2
    replace b3 := NotRg.same e8 b3
    replace b4 := NotRg.same e8 b4
    replace b5 := NotRg.same e8 b5
    replace b6 := NotRg.same e8 b6
    replace b7 := NotRg.same e8 b7
    replace dr1 := Dr.same e8 dr1
    clear nq8
    generalize upd G7 q8 (.tup [V.str (Str.ofString "0"), V.int 1]) = G8 at e8 dr1 b0 b1 b2 b3 b4 b5 b6 b7 b8 ⊢
    clear e8
    walk_at "ax_go"
    intro q9 nq9
    have e9 : Same G8 (upd G8 q9 (.tup [V.int 0, V.non])) := same_new nq9
    have b9 : NotRg K (upd G8 q9 (.tup [V.int 0, V.non])) (.ref q9) := .snd (SqT.of upd_same) .non
    replace b0 := NotRg.same e9 b0
    replace b1 := NotRg.same e9 b1
    replace b2 := NotRg.same e9 b2
    replace b3 := NotRg.same e9 b3
    replace b4 := NotRg.same e9 b4
    replace b5 := NotRg.same e9 b5
    replace b6 := NotRg.same e9 b6
    replace b7 := NotRg.same e9 b7
    replace b8 := NotRg.same e9 b8
    replace dr1 := Dr.same e9 dr1
    clear nq9
    generalize upd G8 q9 (.tup [V.int 0, V.non]) = G9 at e9 dr1 b0 b1 b2 b3 b4 b5 b6 b7 b8 b9 ⊢
    clear e9
    walk_at "ax_go"
    intro q10 nq10
    have e10 : Same G9 (upd G9 q10 (.tup [V.int 0, V.int 1, V.int 2])) := same_new nq10
    have b10 : NotRg K (upd G9 q10 (.tup [V.int 0, V.int 1, V.int 2])) (.ref q10) := .len (SqT.of upd_same) (by decide)
    replace b0 := NotRg.same e10 b0
    replace b1 := NotRg.same e10 b1
    replace b2 := NotRg.same e10 b2
    replace b3 := NotRg.same e10 b3
    replace b4 := NotRg.same e10 b4
    replace b5 := NotRg.same e10 b5
    replace b6 := NotRg.same e10 b6
    replace b7 := NotRg.same e10 b7
    replace b8 := NotRg.same e10 b8
    replace b9 := NotRg.same e10 b9
    replace dr1 := Dr.same e10 dr1
    clear nq10
    generalize upd G9 q10 (.tup [V.int 0, V.int 1, V.int 2]) = G10 at e10 dr1 b0 b1 b2 b3 b4 b5 b6 b7 b8 b9 b10 ⊢
    clear e10
    walk_at "ax_go"
    obtain ⟨xs, exs⟩ : ∃ xs : List V, [V.non, .int 5, .ref q0, .ref q1, .ref q2, .ref q3, .ref q4, .ref q5, .ref q6, .ref q7, .ref q8, .ref q9, .ref q10] = xs := ⟨_, rfl⟩
    have bad : ∀ x, x ∈ xs → NotRg K G10 x := fun x hx => by
      rw [← exs] at hx
      simp only [List.mem_cons, List.not_mem_nil, or_false] at hx
      rcases hx with rfl | rfl | rfl | rfl | rfl | rfl | rfl | rfl | rfl | rfl | rfl | rfl | rfl
      · exact .non
      · exact .int 5
      all_goals assumption
    clear b0 b1 b2 b3 b4 b5 b6 b7 b8 b9 b10
    rw [exs]
    clear exs
    intro lb nlb
    have e11 : Same G10 (upd G10 lb (.lst xs)) := same_new nlb
    have slb : SqL K (upd G10 lb (.lst xs)) lb xs := SqL.of upd_same
    replace bad : ∀ x, x ∈ xs → NotRg K (upd G10 lb (.lst xs)) x := fun x hx => NotRg.same e11 (bad x hx)
    replace dr1 := Dr.same e11 dr1
    generalize upd G10 lb (.lst xs) = H2 at e11 slb bad dr1 ⊢
    walk_at "ax_go"
    refine for_list (xs := xs) (fun i σ' H' => Same H2 H' ∧ ∃ y2, σ' = [some (.ref a), some (.ref d), y2, none, none]) ⟨Same.refl _, _, rfl⟩ (fun i σ' H' hi q => Same.seq q.1 slb) ?_ ?_
    · rintro i x σ' H3 hx ⟨s3, y2, rfl⟩
      have nx := NotRg.same s3 (bad x (List.mem_of_getElem? hx))
      walk_at "ax_go"
      refine lc_rngM (f := fun _ => .str (Str.ofString "range")) (by decide) (fun i P100 Q' hi u100 q => ?_) (fun D100 P100 u100 nD100 hD100 => ?_)
      · walk_at "ax_go"
        exact c__law_asked1 i .rg (by omega) ⟨hi, .inl ⟨NotRg.same u100 nx, rfl⟩⟩ q
      rw [map_const_rep, List.length_range, show Int.toNat 10 = 10 from rfl] at hD100
      walk_at "ax_go"
      intro l100 nl100
      walk_at "ax_go"
      refine r_rep (k := 10) upd_same (by decide) (by decide) fun m100 nm100 => ?_
      rw [flat_rep]
      have sD100 : SqL K (upd (upd P100 l100 (.lst [V.str (Str.ofString "range")])) m100 (.lst (List.replicate 10 (V.str (Str.ofString "range"))))) D100 (List.replicate 10 (V.str (Str.ofString "range"))) := SqL.updn nm100 (SqL.updn nl100 (SqL.of hD100))
      have v100 : Same H3 (upd (upd P100 l100 (.lst [V.str (Str.ofString "range")])) m100 (.lst (List.replicate 10 (V.str (Str.ofString "range"))))) := Same.updn (Same.updn u100 nl100) nm100
      refine r_neD1 (d := .list (List.replicate 10 (.str (Str.ofString "range")))) (.lst sD100 (dpa_rep _ 10)) (.lst (SqL.of upd_same) (dpa_rep _ 10)) (by decide +kernel) ?_
      clear sD100 hD100
      replace nx := NotRg.same v100 nx
      generalize upd (upd P100 l100 (.lst [V.str (Str.ofString "range")])) m100 (.lst (List.replicate 10 (V.str (Str.ofString "range")))) = R100 at v100 nx ⊢
      walk_at "ax_go"
      refine lc_rngM (f := fun _ => .str (Str.ofString "range")) (by decide) (fun i P101 Q' hi u101 q => ?_) (fun D101 P101 u101 nD101 hD101 => ?_)
      · walk_at "ax_go"
        exact c__law_asked2 i .rg (by omega) ⟨hi, .inl ⟨NotRg.same u101 nx, rfl⟩⟩ q
      rw [map_const_rep, List.length_range, show Int.toNat 19 = 19 from rfl] at hD101
      walk_at "ax_go"
      intro l101 nl101
      walk_at "ax_go"
      refine r_rep (k := 19) upd_same (by decide) (by decide) fun m101 nm101 => ?_
      rw [flat_rep]
      have sD101 : SqL K (upd (upd P101 l101 (.lst [V.str (Str.ofString "range")])) m101 (.lst (List.replicate 19 (V.str (Str.ofString "range"))))) D101 (List.replicate 19 (V.str (Str.ofString "range"))) := SqL.updn nm101 (SqL.updn nl101 (SqL.of hD101))
      have v101 : Same R100 (upd (upd P101 l101 (.lst [V.str (Str.ofString "range")])) m101 (.lst (List.replicate 19 (V.str (Str.ofString "range"))))) := Same.updn (Same.updn u101 nl101) nm101
      refine r_neD1 (d := .list (List.replicate 19 (.str (Str.ofString "range")))) (.lst sD101 (dpa_rep _ 19)) (.lst (SqL.of upd_same) (dpa_rep _ 19)) (by decide +kernel) ?_
      clear sD101 hD101
      replace nx := NotRg.same v101 nx
      generalize upd (upd P101 l101 (.lst [V.str (Str.ofString "range")])) m101 (.lst (List.replicate 19 (V.str (Str.ofString "range")))) = R101 at v101 nx ⊢
      walk_at "ax_go"
      refine lc_rngM (f := fun _ => .str (Str.ofString "range")) (by decide) (fun i P102 Q' hi u102 q => ?_) (fun D102 P102 u102 nD102 hD102 => ?_)
      · walk_at "ax_go"
        exact c__law_asked3 i .rg (by omega) ⟨hi, .inl ⟨NotRg.same u102 nx, rfl⟩⟩ q
      rw [map_const_rep, List.length_range, show Int.toNat 14 = 14 from rfl] at hD102
      walk_at "ax_go"
      intro l102 nl102
      walk_at "ax_go"
      refine r_rep (k := 14) upd_same (by decide) (by decide) fun m102 nm102 => ?_
      rw [flat_rep]
      have sD102 : SqL K (upd (upd P102 l102 (.lst [V.str (Str.ofString "range")])) m102 (.lst (List.replicate 14 (V.str (Str.ofString "range"))))) D102 (List.replicate 14 (V.str (Str.ofString "range"))) := SqL.updn nm102 (SqL.updn nl102 (SqL.of hD102))
      have v102 : Same R101 (upd (upd P102 l102 (.lst [V.str (Str.ofString "range")])) m102 (.lst (List.replicate 14 (V.str (Str.ofString "range"))))) := Same.updn (Same.updn u102 nl102) nm102
      refine r_neD1 (d := .list (List.replicate 14 (.str (Str.ofString "range")))) (.lst sD102 (dpa_rep _ 14)) (.lst (SqL.of upd_same) (dpa_rep _ 14)) (by decide +kernel) ?_
      clear sD102 hD102
      replace nx := NotRg.same v102 nx
      generalize upd (upd P102 l102 (.lst [V.str (Str.ofString "range")])) m102 (.lst (List.replicate 14 (V.str (Str.ofString "range")))) = R102 at v102 nx ⊢
      walk_at "ax_go"
      exact ⟨((s3.trans v100).trans v101).trans v102, _, rfl⟩
    rintro σ' H3 ⟨s3, y2, rfl⟩
    replace dr1 := Dr.same s3 dr1
    clear slb bad s3
    walk_at "ax_go"
    intro dd H4 d0 d1 kp4 dr4
    walk_at "ax_go"
    intro sp nsp
    have g4 : IsRg K (upd H4 sp (.tup [V.int 0, V.int (5 + dd)])) (.ref sp) 0 (5 + dd) := isrg_new ⟨by omega, by omega, by omega⟩
    generalize upd H4 sp _ = H5 at g4 ⊢
    walk_at "ax_go"
    intro lc nlc
    obtain ⟨ys, eys⟩ : ∃ ys : List V, [V.non, .int 0, .int 3, .int (0 - 1), .int 25, .int 1000000, .bl true, .str (Str.ofString "5")] = ys := ⟨_, rfl⟩
    have bads : ∀ y, y ∈ ys → ∀ H' : Hp, NotStep K H' y := fun y hy H' => by
      rw [← eys] at hy
      simp only [List.mem_cons, List.not_mem_nil, or_false] at hy
      rcases hy with rfl | rfl | rfl | rfl | rfl | rfl | rfl | rfl
      · exact .inr .non
      · exact .inl ⟨_, rfl, by decide⟩
      · exact .inl ⟨_, rfl, by decide⟩
      · exact .inl ⟨_, rfl, by decide⟩
      · exact .inl ⟨_, rfl, by decide⟩
      · exact .inl ⟨_, rfl, by decide⟩
      · exact .inr (.bl true)
      · exact .inr (.str _)
    rw [eys]
    clear eys
    replace g4 := IsRg.same (same_new (o := .lst ys) nlc) g4
    have slc : SqL K (upd H5 lc (.lst ys)) lc ys := SqL.of upd_same
    generalize upd H5 lc (.lst ys) = H6 at g4 slc ⊢
    walk_at "ax_go"
    refine for_list (xs := ys) (fun i σ' H' => Same H6 H' ∧ ∃ y2, σ' = [some (.ref a), some (.ref d), y2, some (.ref sp), none]) ⟨Same.refl _, _, rfl⟩ (fun i σ' H' hi q => Same.seq q.1 slc) ?_ ?_
    · rintro i y σ' H7 hy ⟨s7, y2, rfl⟩
      have ny := bads y (List.mem_of_getElem? hy)
      have g7 := IsRg.same s7 g4
      rcases ny H7 with ⟨i', rfl, hni⟩ | ni
      · walk_at "ax_go"
        intro H8 s8
        rw [decide_eq_false hni]
        replace g7 := IsRg.same s8 g7
        walk_at "ax_go"
        refine lc_rngM (f := fun _ => .str (Str.ofString "step")) (by decide) (fun i P103 Q' hi u103 q => ?_) (fun D103 P103 u103 nD103 hD103 => ?_)
        · walk_at "ax_go"
          exact c__law_asked2 i .st (by omega) ⟨hi, .inr (.inl ⟨_, _, IsRg.same u103 g7, by omega, .inl ⟨_, rfl, hni⟩, rfl⟩)⟩ q
        rw [map_const_rep, List.length_range, show Int.toNat 19 = 19 from rfl] at hD103
        walk_at "ax_go"
        intro l103 nl103
        walk_at "ax_go"
        refine r_rep (k := 19) upd_same (by decide) (by decide) fun m103 nm103 => ?_
        rw [flat_rep]
        have sD103 : SqL K (upd (upd P103 l103 (.lst [V.str (Str.ofString "step")])) m103 (.lst (List.replicate 19 (V.str (Str.ofString "step"))))) D103 (List.replicate 19 (V.str (Str.ofString "step"))) := SqL.updn nm103 (SqL.updn nl103 (SqL.of hD103))
        have v103 : Same H8 (upd (upd P103 l103 (.lst [V.str (Str.ofString "step")])) m103 (.lst (List.replicate 19 (V.str (Str.ofString "step"))))) := Same.updn (Same.updn u103 nl103) nm103
        refine r_neD1 (d := .list (List.replicate 19 (.str (Str.ofString "step")))) (.lst sD103 (dpa_rep _ 19)) (.lst (SqL.of upd_same) (dpa_rep _ 19)) (by decide +kernel) ?_
        clear sD103 hD103
        generalize upd (upd P103 l103 (.lst [V.str (Str.ofString "step")])) m103 (.lst (List.replicate 19 (V.str (Str.ofString "step")))) = R103 at v103 ⊢
        walk_at "ax_go"
        exact ⟨(s7.trans s8).trans v103, _, rfl⟩
      · walk_at "ax_go"
        refine lc_rngM (f := fun _ => .str (Str.ofString "step")) (by decide) (fun i P104 Q' hi u104 q => ?_) (fun D104 P104 u104 nD104 hD104 => ?_)
        · walk_at "ax_go"
          exact c__law_asked2 i .st (by omega) ⟨hi, .inr (.inl ⟨_, _, IsRg.same u104 g7, by omega, .inr (NotInt.same u104 ni), rfl⟩)⟩ q
        rw [map_const_rep, List.length_range, show Int.toNat 19 = 19 from rfl] at hD104
        walk_at "ax_go"
        intro l104 nl104
        walk_at "ax_go"
        refine r_rep (k := 19) upd_same (by decide) (by decide) fun m104 nm104 => ?_
        rw [flat_rep]
        have sD104 : SqL K (upd (upd P104 l104 (.lst [V.str (Str.ofString "step")])) m104 (.lst (List.replicate 19 (V.str (Str.ofString "step"))))) D104 (List.replicate 19 (V.str (Str.ofString "step"))) := SqL.updn nm104 (SqL.updn nl104 (SqL.of hD104))
        have v104 : Same H7 (upd (upd P104 l104 (.lst [V.str (Str.ofString "step")])) m104 (.lst (List.replicate 19 (V.str (Str.ofString "step"))))) := Same.updn (Same.updn u104 nl104) nm104
        refine r_neD1 (d := .list (List.replicate 19 (.str (Str.ofString "step")))) (.lst sD104 (dpa_rep _ 19)) (.lst (SqL.of upd_same) (dpa_rep _ 19)) (by decide +kernel) ?_
        clear sD104 hD104
        generalize upd (upd P104 l104 (.lst [V.str (Str.ofString "step")])) m104 (.lst (List.replicate 19 (V.str (Str.ofString "step")))) = R104 at v104 ⊢
        walk_at "ax_go"
        exact ⟨s7.trans v104, _, rfl⟩
    rintro σ' H7 ⟨s7, y2, rfl⟩
    have g7 := IsRg.same s7 g4
    have cv : 2 ≤ cnt 0 (5 + dd) 5 ∧ cnt 0 (5 + dd) 5 ≤ 12 := by unfold cnt; omega
    have gv : goodR 0 (5 + dd) 5 1 ≠ [] := fun z => by
      have mm : ((0 : Int), (0 : Int)) ∈ goodR 0 (5 + dd) 5 1 := List.mem_filter.mpr ⟨pairsR_mem.mpr ⟨Int.le_refl _, Int.le_refl _, by show (0 : Int) ≤ 5 + dd; omega⟩, by decide⟩
      rw [z] at mm
      cases mm
    have ok2 : ∀ i, i < 19 → out2 i 0 (5 + dd) 5 = .ok := fun i hi => by
      unfold out2
      repeat' split
      all_goals first | rfl | (exfalso; omega) | (exfalso; exact gv ‹_›)
    clear slc bads s7 g4
    walk_at "ax_go"
    refine lc_rngM (f := fun _ => .str (Str.ofString "done")) (by decide) (fun i P105 Q' hi u105 q => ?_) (fun D105 P105 u105 nD105 hD105 => ?_)
    · walk_at "ax_go"
      exact c__law_asked1 i .ok (by omega) ⟨hi, .inr ⟨_, _, IsRg.same u105 g7, ⟨by omega, by omega⟩, rfl⟩⟩ q
    rw [map_const_rep, List.length_range, show Int.toNat 10 = 10 from rfl] at hD105
    walk_at "ax_go"
    intro l105 nl105
    walk_at "ax_go"
    refine r_rep (k := 10) upd_same (by decide) (by decide) fun m105 nm105 => ?_
    rw [flat_rep]
    have sD105 : SqL K (upd (upd P105 l105 (.lst [V.str (Str.ofString "done")])) m105 (.lst (List.replicate 10 (V.str (Str.ofString "done"))))) D105 (List.replicate 10 (V.str (Str.ofString "done"))) := SqL.updn nm105 (SqL.updn nl105 (SqL.of hD105))
    have v105 : Same H7 (upd (upd P105 l105 (.lst [V.str (Str.ofString "done")])) m105 (.lst (List.replicate 10 (V.str (Str.ofString "done"))))) := Same.updn (Same.updn u105 nl105) nm105
    refine r_neD1 (d := .list (List.replicate 10 (.str (Str.ofString "done")))) (.lst sD105 (dpa_rep _ 10)) (.lst (SqL.of upd_same) (dpa_rep _ 10)) (by decide +kernel) ?_
    clear sD105 hD105
    replace g7 := IsRg.same v105 g7
    generalize upd (upd P105 l105 (.lst [V.str (Str.ofString "done")])) m105 (.lst (List.replicate 10 (V.str (Str.ofString "done")))) = R105 at v105 g7 ⊢
    walk_at "ax_go"
    refine lc_rngM (f := fun _ => .str (Str.ofString "done")) (by decide) (fun i P106 Q' hi u106 q => ?_) (fun D106 P106 u106 nD106 hD106 => ?_)
    · walk_at "ax_go"
      exact c__law_asked2 i .ok (by omega) ⟨hi, .inr (.inr ⟨_, _, 5, IsRg.same u106 g7, by omega, rfl, by decide, (ok2 i hi).symm⟩)⟩ q
    rw [map_const_rep, List.length_range, show Int.toNat 19 = 19 from rfl] at hD106
    walk_at "ax_go"
    intro l106 nl106
    walk_at "ax_go"
    refine r_rep (k := 19) upd_same (by decide) (by decide) fun m106 nm106 => ?_
    rw [flat_rep]
    have sD106 : SqL K (upd (upd P106 l106 (.lst [V.str (Str.ofString "done")])) m106 (.lst (List.replicate 19 (V.str (Str.ofString "done"))))) D106 (List.replicate 19 (V.str (Str.ofString "done"))) := SqL.updn nm106 (SqL.updn nl106 (SqL.of hD106))
    have v106 : Same R105 (upd (upd P106 l106 (.lst [V.str (Str.ofString "done")])) m106 (.lst (List.replicate 19 (V.str (Str.ofString "done"))))) := Same.updn (Same.updn u106 nl106) nm106
    refine r_neD1 (d := .list (List.replicate 19 (.str (Str.ofString "done")))) (.lst sD106 (dpa_rep _ 19)) (.lst (SqL.of upd_same) (dpa_rep _ 19)) (by decide +kernel) ?_
    clear sD106 hD106
    generalize upd (upd P106 l106 (.lst [V.str (Str.ofString "done")])) m106 (.lst (List.replicate 19 (V.str (Str.ofString "done")))) = R106 at v106 ⊢
    walk_at "ax_go"
    clear g7 ok2 gv cv
    refine lc_rngM (f := fun i => .str (out2 i 1 4 5).str) (by decide) (fun i K1 Q' hi u q => ?_) (fun D K1 u nD hD => ?_)
    · walk_at "ax_go"
      intro p np
      walk_at "ax_go"
      exact c__law_asked2 i _ (by omega) ⟨Nat.lt_trans hi (by decide), .inr (.inr ⟨1, 4, 5, isrg_new (by decide), by decide, rfl, by decide, rfl⟩)⟩ fun H' s => q _ ((same_new np).trans s)
    have wa : Same R106 K1 := u
    replace hD : K1 D = some (.lst (osV [.ok, .nf, .nf, .nf, .ok, .nf, .ok, .ok, .nf, .ok, .ok, .ok, .ok, .nf, .ok, .ok, .ok])) := by
      rw [hD, show (List.range (Int.toNat 17)).map (fun i => V.str (out2 i 1 4 5).str) = osV ((List.range 17).map fun i => out2 i 1 4 5) from rfl, show (List.range 17).map (fun i => out2 i 1 4 5) = [.ok, .nf, .nf, .nf, .ok, .nf, .ok, .ok, .nf, .ok, .ok, .ok, .ok, .nf, .ok, .ok, .ok] by decide +kernel]
    walk_at "ax_go"
    intro la_1 nla_1
    have sla_1 : Same K1 (upd K1 la_1 (.lst [V.str (Str.ofString "done")])) := same_new nla_1
    have hla_1 : (upd K1 la_1 (.lst [V.str (Str.ofString "done")])) la_1 = some (.lst (osV [Oc.ok])) := upd_same
    replace hD := sla_1 _ _ hD
    replace wa := wa.trans sla_1
    generalize upd K1 la_1 _ = Aa_1 at sla_1 hla_1 wa hD ⊢
    have hca := hla_1
    walk_at "ax_go"
    intro la_2 nla_2
    have sla_2 : Same Aa_1 (upd Aa_1 la_2 (.lst [V.str (Str.ofString "none")])) := same_new nla_2
    have hla_2 : (upd Aa_1 la_2 (.lst [V.str (Str.ofString "none")])) la_2 = some (.lst (osV [Oc.nf])) := upd_same
    replace hD := sla_2 _ _ hD
    replace hca := sla_2 _ _ hca
    replace wa := wa.trans sla_2
    generalize upd Aa_1 la_2 _ = Aa_2 at sla_2 hla_2 wa hD hca ⊢
    walk_at "ax_go"
    refine r_rep (k := 3) hla_2 (by decide) (by decide) fun ma_2 nma_2 => ?_
    have hma_2 : (upd Aa_2 ma_2 (.lst (List.replicate 3 (osV [Oc.nf])).flatten)) ma_2 = some (.lst (osV [Oc.nf, Oc.nf, Oc.nf])) := upd_same
    have sma_2 : Same Aa_2 (upd Aa_2 ma_2 (.lst (List.replicate 3 (osV [Oc.nf])).flatten)) := same_new nma_2
    replace hD := sma_2 _ _ hD
    replace hca := sma_2 _ _ hca
    replace wa := wa.trans sma_2
    generalize upd Aa_2 ma_2 _ = Ba_2 at sma_2 hma_2 wa hD hca ⊢
    walk_at "ax_go"
    refine r_cat hca hma_2 (by rw [sizeLine_eq]; decide) fun ca_2 nca_2 => ?_
    have sca_2 : Same Ba_2 (upd Ba_2 ca_2 (.lst (osV [Oc.ok] ++ osV [Oc.nf, Oc.nf, Oc.nf]))) := same_new nca_2
    replace hca : (upd Ba_2 ca_2 (.lst (osV [Oc.ok] ++ osV [Oc.nf, Oc.nf, Oc.nf]))) ca_2 = some (.lst (osV [Oc.ok, Oc.nf, Oc.nf, Oc.nf])) := upd_same
    replace hD := sca_2 _ _ hD
    replace wa := wa.trans sca_2
    generalize upd Ba_2 ca_2 _ = Ca_2 at sca_2 hca wa hD ⊢
    walk_at "ax_go"
    intro la_3 nla_3
    have sla_3 : Same Ca_2 (upd Ca_2 la_3 (.lst [V.str (Str.ofString "done"), V.str (Str.ofString "none")])) := same_new nla_3
    have hla_3 : (upd Ca_2 la_3 (.lst [V.str (Str.ofString "done"), V.str (Str.ofString "none")])) la_3 = some (.lst (osV [Oc.ok, Oc.nf])) := upd_same
    replace hD := sla_3 _ _ hD
    replace hca := sla_3 _ _ hca
    replace wa := wa.trans sla_3
    generalize upd Ca_2 la_3 _ = Aa_3 at sla_3 hla_3 wa hD hca ⊢
    walk_at "ax_go"
    refine r_cat hca hla_3 (by rw [sizeLine_eq]; decide) fun ca_3 nca_3 => ?_
    have sca_3 : Same Aa_3 (upd Aa_3 ca_3 (.lst (osV [Oc.ok, Oc.nf, Oc.nf, Oc.nf] ++ osV [Oc.ok, Oc.nf]))) := same_new nca_3
    replace hca : (upd Aa_3 ca_3 (.lst (osV [Oc.ok, Oc.nf, Oc.nf, Oc.nf] ++ osV [Oc.ok, Oc.nf]))) ca_3 = some (.lst (osV [Oc.ok, Oc.nf, Oc.nf, Oc.nf, Oc.ok, Oc.nf])) := upd_same
    replace hD := sca_3 _ _ hD
    replace wa := wa.trans sca_3
    generalize upd Aa_3 ca_3 _ = Ca_3 at sca_3 hca wa hD ⊢
    walk_at "ax_go"
    intro la_4 nla_4
    have sla_4 : Same Ca_3 (upd Ca_3 la_4 (.lst [V.str (Str.ofString "done")])) := same_new nla_4
    have hla_4 : (upd Ca_3 la_4 (.lst [V.str (Str.ofString "done")])) la_4 = some (.lst (osV [Oc.ok])) := upd_same
    replace hD := sla_4 _ _ hD
    replace hca := sla_4 _ _ hca
    replace wa := wa.trans sla_4
    generalize upd Ca_3 la_4 _ = Aa_4 at sla_4 hla_4 wa hD hca ⊢
    walk_at "ax_go"
    refine r_rep (k := 2) hla_4 (by decide) (by decide) fun ma_4 nma_4 => ?_
    have hma_4 : (upd Aa_4 ma_4 (.lst (List.replicate 2 (osV [Oc.ok])).flatten)) ma_4 = some (.lst (osV [Oc.ok, Oc.ok])) := upd_same
    have sma_4 : Same Aa_4 (upd Aa_4 ma_4 (.lst (List.replicate 2 (osV [Oc.ok])).flatten)) := same_new nma_4
    replace hD := sma_4 _ _ hD
    replace hca := sma_4 _ _ hca
    replace wa := wa.trans sma_4
    generalize upd Aa_4 ma_4 _ = Ba_4 at sma_4 hma_4 wa hD hca ⊢
    walk_at "ax_go"
    refine r_cat hca hma_4 (by rw [sizeLine_eq]; decide) fun ca_4 nca_4 => ?_
    have sca_4 : Same Ba_4 (upd Ba_4 ca_4 (.lst (osV [Oc.ok, Oc.nf, Oc.nf, Oc.nf, Oc.ok, Oc.nf] ++ osV [Oc.ok, Oc.ok]))) := same_new nca_4
    replace hca : (upd Ba_4 ca_4 (.lst (osV [Oc.ok, Oc.nf, Oc.nf, Oc.nf, Oc.ok, Oc.nf] ++ osV [Oc.ok, Oc.ok]))) ca_4 = some (.lst (osV [Oc.ok, Oc.nf, Oc.nf, Oc.nf, Oc.ok, Oc.nf, Oc.ok, Oc.ok])) := upd_same
    replace hD := sca_4 _ _ hD
    replace wa := wa.trans sca_4
    generalize upd Ba_4 ca_4 _ = Ca_4 at sca_4 hca wa hD ⊢
    walk_at "ax_go"
    intro la_5 nla_5
    have sla_5 : Same Ca_4 (upd Ca_4 la_5 (.lst [V.str (Str.ofString "none")])) := same_new nla_5
    have hla_5 : (upd Ca_4 la_5 (.lst [V.str (Str.ofString "none")])) la_5 = some (.lst (osV [Oc.nf])) := upd_same
    replace hD := sla_5 _ _ hD
    replace hca := sla_5 _ _ hca
    replace wa := wa.trans sla_5
    generalize upd Ca_4 la_5 _ = Aa_5 at sla_5 hla_5 wa hD hca ⊢
    walk_at "ax_go"
    refine r_cat hca hla_5 (by rw [sizeLine_eq]; decide) fun ca_5 nca_5 => ?_
    have sca_5 : Same Aa_5 (upd Aa_5 ca_5 (.lst (osV [Oc.ok, Oc.nf, Oc.nf, Oc.nf, Oc.ok, Oc.nf, Oc.ok, Oc.ok] ++ osV [Oc.nf]))) := same_new nca_5
    replace hca : (upd Aa_5 ca_5 (.lst (osV [Oc.ok, Oc.nf, Oc.nf, Oc.nf, Oc.ok, Oc.nf, Oc.ok, Oc.ok] ++ osV [Oc.nf]))) ca_5 = some (.lst (osV [Oc.ok, Oc.nf, Oc.nf, Oc.nf, Oc.ok, Oc.nf, Oc.ok, Oc.ok, Oc.nf])) := upd_same
    replace hD := sca_5 _ _ hD
    replace wa := wa.trans sca_5
    generalize upd Aa_5 ca_5 _ = Ca_5 at sca_5 hca wa hD ⊢
    walk_at "ax_go"
    intro la_6 nla_6
    have sla_6 : Same Ca_5 (upd Ca_5 la_6 (.lst [V.str (Str.ofString "done")])) := same_new nla_6
    have hla_6 : (upd Ca_5 la_6 (.lst [V.str (Str.ofString "done")])) la_6 = some (.lst (osV [Oc.ok])) := upd_same
    replace hD := sla_6 _ _ hD
    replace hca := sla_6 _ _ hca
    replace wa := wa.trans sla_6
    generalize upd Ca_5 la_6 _ = Aa_6 at sla_6 hla_6 wa hD hca ⊢
    walk_at "ax_go"
    refine r_rep (k := 4) hla_6 (by decide) (by decide) fun ma_6 nma_6 => ?_
    have hma_6 : (upd Aa_6 ma_6 (.lst (List.replicate 4 (osV [Oc.ok])).flatten)) ma_6 = some (.lst (osV [Oc.ok, Oc.ok, Oc.ok, Oc.ok])) := upd_same
    have sma_6 : Same Aa_6 (upd Aa_6 ma_6 (.lst (List.replicate 4 (osV [Oc.ok])).flatten)) := same_new nma_6
    replace hD := sma_6 _ _ hD
    replace hca := sma_6 _ _ hca
    replace wa := wa.trans sma_6
    generalize upd Aa_6 ma_6 _ = Ba_6 at sma_6 hma_6 wa hD hca ⊢
    walk_at "ax_go"
    refine r_cat hca hma_6 (by rw [sizeLine_eq]; decide) fun ca_6 nca_6 => ?_
    have sca_6 : Same Ba_6 (upd Ba_6 ca_6 (.lst (osV [Oc.ok, Oc.nf, Oc.nf, Oc.nf, Oc.ok, Oc.nf, Oc.ok, Oc.ok, Oc.nf] ++ osV [Oc.ok, Oc.ok, Oc.ok, Oc.ok]))) := same_new nca_6
    replace hca : (upd Ba_6 ca_6 (.lst (osV [Oc.ok, Oc.nf, Oc.nf, Oc.nf, Oc.ok, Oc.nf, Oc.ok, Oc.ok, Oc.nf] ++ osV [Oc.ok, Oc.ok, Oc.ok, Oc.ok]))) ca_6 = some (.lst (osV [Oc.ok, Oc.nf, Oc.nf, Oc.nf, Oc.ok, Oc.nf, Oc.ok, Oc.ok, Oc.nf, Oc.ok, Oc.ok, Oc.ok, Oc.ok])) := upd_same
    replace hD := sca_6 _ _ hD
    replace wa := wa.trans sca_6
    generalize upd Ba_6 ca_6 _ = Ca_6 at sca_6 hca wa hD ⊢
    walk_at "ax_go"
    intro la_7 nla_7
    have sla_7 : Same Ca_6 (upd Ca_6 la_7 (.lst [V.str (Str.ofString "none")])) := same_new nla_7
    have hla_7 : (upd Ca_6 la_7 (.lst [V.str (Str.ofString "none")])) la_7 = some (.lst (osV [Oc.nf])) := upd_same
    replace hD := sla_7 _ _ hD
    replace hca := sla_7 _ _ hca
    replace wa := wa.trans sla_7
    generalize upd Ca_6 la_7 _ = Aa_7 at sla_7 hla_7 wa hD hca ⊢
    walk_at "ax_go"
    refine r_cat hca hla_7 (by rw [sizeLine_eq]; decide) fun ca_7 nca_7 => ?_
    have sca_7 : Same Aa_7 (upd Aa_7 ca_7 (.lst (osV [Oc.ok, Oc.nf, Oc.nf, Oc.nf, Oc.ok, Oc.nf, Oc.ok, Oc.ok, Oc.nf, Oc.ok, Oc.ok, Oc.ok, Oc.ok] ++ osV [Oc.nf]))) := same_new nca_7
    replace hca : (upd Aa_7 ca_7 (.lst (osV [Oc.ok, Oc.nf, Oc.nf, Oc.nf, Oc.ok, Oc.nf, Oc.ok, Oc.ok, Oc.nf, Oc.ok, Oc.ok, Oc.ok, Oc.ok] ++ osV [Oc.nf]))) ca_7 = some (.lst (osV [Oc.ok, Oc.nf, Oc.nf, Oc.nf, Oc.ok, Oc.nf, Oc.ok, Oc.ok, Oc.nf, Oc.ok, Oc.ok, Oc.ok, Oc.ok, Oc.nf])) := upd_same
    replace hD := sca_7 _ _ hD
    replace wa := wa.trans sca_7
    generalize upd Aa_7 ca_7 _ = Ca_7 at sca_7 hca wa hD ⊢
    walk_at "ax_go"
    intro la_8 nla_8
    have sla_8 : Same Ca_7 (upd Ca_7 la_8 (.lst [V.str (Str.ofString "done")])) := same_new nla_8
    have hla_8 : (upd Ca_7 la_8 (.lst [V.str (Str.ofString "done")])) la_8 = some (.lst (osV [Oc.ok])) := upd_same
    replace hD := sla_8 _ _ hD
    replace hca := sla_8 _ _ hca
    replace wa := wa.trans sla_8
    generalize upd Ca_7 la_8 _ = Aa_8 at sla_8 hla_8 wa hD hca ⊢
    walk_at "ax_go"
    refine r_rep (k := 3) hla_8 (by decide) (by decide) fun ma_8 nma_8 => ?_
    have hma_8 : (upd Aa_8 ma_8 (.lst (List.replicate 3 (osV [Oc.ok])).flatten)) ma_8 = some (.lst (osV [Oc.ok, Oc.ok, Oc.ok])) := upd_same
    have sma_8 : Same Aa_8 (upd Aa_8 ma_8 (.lst (List.replicate 3 (osV [Oc.ok])).flatten)) := same_new nma_8
    replace hD := sma_8 _ _ hD
    replace hca := sma_8 _ _ hca
    replace wa := wa.trans sma_8
    generalize upd Aa_8 ma_8 _ = Ba_8 at sma_8 hma_8 wa hD hca ⊢
    walk_at "ax_go"
    refine r_cat hca hma_8 (by rw [sizeLine_eq]; decide) fun ca_8 nca_8 => ?_
    have sca_8 : Same Ba_8 (upd Ba_8 ca_8 (.lst (osV [Oc.ok, Oc.nf, Oc.nf, Oc.nf, Oc.ok, Oc.nf, Oc.ok, Oc.ok, Oc.nf, Oc.ok, Oc.ok, Oc.ok, Oc.ok, Oc.nf] ++ osV [Oc.ok, Oc.ok, Oc.ok]))) := same_new nca_8
    replace hca : (upd Ba_8 ca_8 (.lst (osV [Oc.ok, Oc.nf, Oc.nf, Oc.nf, Oc.ok, Oc.nf, Oc.ok, Oc.ok, Oc.nf, Oc.ok, Oc.ok, Oc.ok, Oc.ok, Oc.nf] ++ osV [Oc.ok, Oc.ok, Oc.ok]))) ca_8 = some (.lst (osV [Oc.ok, Oc.nf, Oc.nf, Oc.nf, Oc.ok, Oc.nf, Oc.ok, Oc.ok, Oc.nf, Oc.ok, Oc.ok, Oc.ok, Oc.ok, Oc.nf, Oc.ok, Oc.ok, Oc.ok])) := upd_same
    replace hD := sca_8 _ _ hD
    replace wa := wa.trans sca_8
    generalize upd Ba_8 ca_8 _ = Ca_8 at sca_8 hca wa hD ⊢
    walk_at "ax_go"
    refine r_neD1 (d := .list (osD [.ok, .nf, .nf, .nf, .ok, .nf, .ok, .ok, .nf, .ok, .ok, .ok, .ok, .nf, .ok, .ok, .ok])) (.lst (SqL.of hD) (dpa_os _)) (.lst (SqL.of hca) (dpa_os _)) (by decide +kernel) ?_
    clear hD hca
    walk_at "ax_go"
    clear sca_8 sma_8 hma_8 hla_8 sla_8 sca_7 hla_7 sla_7 sca_6 sma_6 hma_6 hla_6 sla_6 sca_5 hla_5 sla_5 sca_4 sma_4 hma_4 hla_4 sla_4 sca_3 hla_3 sla_3 sca_2 sma_2 hma_2 hla_2 sla_2 hla_1 sla_1
    intro p20 np20
    walk_at "ax_go"
    refine c__law_asked2 4 .nf rfl ⟨by decide, .inr (.inr ⟨0, 1000, 1, isrg_new (by decide), by decide, rfl, by decide, by decide +kernel⟩)⟩ fun H20 s20 => ?_
    walk_at "ax_go"
    refine r_ifn (fun c => absurd rfl c) (fun _ => ?_)
    walk_at "ax_go"
    intro p21 np21
    walk_at "ax_go"
    refine c__law_asked2 4 .ok rfl ⟨by decide, .inr (.inr ⟨0, 999, 1, isrg_new (by decide), by decide, rfl, by decide, by decide +kernel⟩)⟩ fun H21 s21 => ?_
    walk_at "ax_go"
    refine r_ifn (fun c => absurd rfl c) (fun _ => ?_)
    walk_at "ax_go"
    intro t22 nt22
    have st22 : SqT K (upd H21 t22 (.tup [V.int 14, V.int 15, V.int 17, V.int 18])) t22 [V.int 14, V.int 15, V.int 17, V.int 18] := SqT.of upd_same
    generalize upd H21 t22 _ = H22 at st22 ⊢
    walk_at "ax_go"
    refine lc_valsT (f := fun v => match v with | .int z => V.str (out2 z.toNat 0 1000 1).str | _ => .non) (by decide) st22 (fun v K2 Q' hv u q => ?_) (fun D2 K2 u nD hD => ?_)
    · simp only [List.mem_cons, List.not_mem_nil, or_false] at hv
      walk_at "ax_go"
      intro p np
      walk_at "ax_go"
      rcases hv with rfl | rfl | rfl | rfl
      · exact c__law_asked2 14 _ rfl ⟨by decide, .inr (.inr ⟨0, 1000, 1, isrg_new (by decide), by decide, rfl, by decide, rfl⟩)⟩ fun H' s => q _ ((same_new np).trans s)
      · exact c__law_asked2 15 _ rfl ⟨by decide, .inr (.inr ⟨0, 1000, 1, isrg_new (by decide), by decide, rfl, by decide, rfl⟩)⟩ fun H' s => q _ ((same_new np).trans s)
      · exact c__law_asked2 17 _ rfl ⟨by decide, .inr (.inr ⟨0, 1000, 1, isrg_new (by decide), by decide, rfl, by decide, rfl⟩)⟩ fun H' s => q _ ((same_new np).trans s)
      · exact c__law_asked2 18 _ rfl ⟨by decide, .inr (.inr ⟨0, 1000, 1, isrg_new (by decide), by decide, rfl, by decide, rfl⟩)⟩ fun H' s => q _ ((same_new np).trans s)
    have wb : Same H22 K2 := u
    replace hD : K2 D2 = some (.lst (osV [.nb, .nb, .nb, .ok])) := by
      rw [hD, ← show [14, 15, 17, 18].map (fun k => out2 k 0 1000 1) = [.nb, .nb, .nb, .ok] from by decide +kernel]
      rfl
    walk_at "ax_go"
    intro lb_1 nlb_1
    have slb_1 : Same K2 (upd K2 lb_1 (.lst [V.str (Str.ofString "number")])) := same_new nlb_1
    have hlb_1 : (upd K2 lb_1 (.lst [V.str (Str.ofString "number")])) lb_1 = some (.lst (osV [Oc.nb])) := upd_same
    replace hD := slb_1 _ _ hD
    replace wb := wb.trans slb_1
    generalize upd K2 lb_1 _ = Ab_1 at slb_1 hlb_1 wb hD ⊢
    walk_at "ax_go"
    refine r_rep (k := 3) hlb_1 (by decide) (by decide) fun mb_1 nmb_1 => ?_
    have hmb_1 : (upd Ab_1 mb_1 (.lst (List.replicate 3 (osV [Oc.nb])).flatten)) mb_1 = some (.lst (osV [Oc.nb, Oc.nb, Oc.nb])) := upd_same
    have smb_1 : Same Ab_1 (upd Ab_1 mb_1 (.lst (List.replicate 3 (osV [Oc.nb])).flatten)) := same_new nmb_1
    replace hD := smb_1 _ _ hD
    replace wb := wb.trans smb_1
    generalize upd Ab_1 mb_1 _ = Bb_1 at smb_1 hmb_1 wb hD ⊢
    have hcb := hmb_1
    walk_at "ax_go"
    intro lb_2 nlb_2
    have slb_2 : Same Bb_1 (upd Bb_1 lb_2 (.lst [V.str (Str.ofString "done")])) := same_new nlb_2
    have hlb_2 : (upd Bb_1 lb_2 (.lst [V.str (Str.ofString "done")])) lb_2 = some (.lst (osV [Oc.ok])) := upd_same
    replace hD := slb_2 _ _ hD
    replace hcb := slb_2 _ _ hcb
    replace wb := wb.trans slb_2
    generalize upd Bb_1 lb_2 _ = Ab_2 at slb_2 hlb_2 wb hD hcb ⊢
    walk_at "ax_go"
    refine r_cat hcb hlb_2 (by rw [sizeLine_eq]; decide) fun cb_2 ncb_2 => ?_
    have scb_2 : Same Ab_2 (upd Ab_2 cb_2 (.lst (osV [Oc.nb, Oc.nb, Oc.nb] ++ osV [Oc.ok]))) := same_new ncb_2
    replace hcb : (upd Ab_2 cb_2 (.lst (osV [Oc.nb, Oc.nb, Oc.nb] ++ osV [Oc.ok]))) cb_2 = some (.lst (osV [Oc.nb, Oc.nb, Oc.nb, Oc.ok])) := upd_same
    replace hD := scb_2 _ _ hD
    replace wb := wb.trans scb_2
    generalize upd Ab_2 cb_2 _ = Cb_2 at scb_2 hcb wb hD ⊢
    walk_at "ax_go"
    refine r_neD1 (d := .list (osD [.nb, .nb, .nb, .ok])) (.lst (SqL.of hD) (dpa_os _)) (.lst (SqL.of hcb) (dpa_os _)) (by decide +kernel) ?_
    clear hD hcb
    walk_at "ax_go"
    intro p23 np23
    walk_at "ax_go"
    intro p24 np24
    walk_at "ax_go"
    refine c_is_markN (SqT.of upd_same) (by decide) (by decide) (.bl true) fun H24 s24 => ?_
    walk_at "ax_go"
    intro t25 nt25
    have st25 : SqT K (upd H24 t25 (.tup [V.int 14, V.int 17])) t25 [V.int 14, V.int 17] := SqT.of upd_same
    generalize upd H24 t25 _ = H25 at st25 ⊢
    walk_at "ax_go"
    refine lc_valsT (f := fun _ => V.str (Str.ofString "done")) (by decide) st25 (fun v K3 Q' hv u q => ?_) (fun D3 K3 u nD3 hD3 => ?_)
    · simp only [List.mem_cons, List.not_mem_nil, or_false] at hv
      walk_at "ax_go"
      intro p np
      walk_at "ax_go"
      rcases hv with rfl | rfl
      · exact c__law_asked2 14 .ok rfl ⟨by decide, .inr (.inr ⟨0, 999, 1, isrg_new (by decide), by decide, rfl, by decide, by decide +kernel⟩)⟩ fun H' s => q _ ((same_new np).trans s)
      · exact c__law_asked2 17 .ok rfl ⟨by decide, .inr (.inr ⟨0, 999, 1, isrg_new (by decide), by decide, rfl, by decide, by decide +kernel⟩)⟩ fun H' s => q _ ((same_new np).trans s)
    rw [map_const_rep, show [V.int 14, V.int 17].length = 2 from rfl] at hD3
    walk_at "ax_go"
    intro l26 nl26
    walk_at "ax_go"
    refine r_rep (k := 2) upd_same (by decide) (by decide) fun m26 nm26 => ?_
    rw [flat_rep]
    refine r_eqD1 (d := .list (List.replicate 2 (.str (Str.ofString "done")))) (.lst (SqL.updn nm26 (SqL.updn nl26 (SqL.of hD3))) (dpa_rep _ 2)) (.lst (SqL.of upd_same) (dpa_rep _ 2)) (by decide +kernel) ?_
    walk_at "ax_go"
    intro H27 s27
    exact k _
end
end AxL
namespace AxL
open PySem L2 Ax
def mkT {K : PySem.W.Frag} {h : Heap} {mg : Str → Option Value} (X : K.In h) (G : h.Ns mainGlobals mg)
    {tk_MOST : Tok}
    {tk_MOST_LISTED : Tok}
    {C_AxisError : Addr}
    {C_BadMarks : Addr}
    {C_BadNumber : Addr}
    {C_BadRange : Addr}
    {C_BadStep : Addr}
    {C_BadText : Addr}
    {C_NotFound : Addr}
    {a_is_int : Addr} {od_is_int an_is_int : Option Addr} {sl_is_int : Array (Option Value)} {oc_is_int kV_is_int dc_is_int pm_is_int cd_is_int ct_is_int : Value}
    {a_is_range : Addr} {od_is_range an_is_range : Option Addr} {sl_is_range : Array (Option Value)} {oc_is_range kV_is_range dc_is_range pm_is_range cd_is_range ct_is_range : Value}
    {a_check_range : Addr} {od_check_range an_check_range : Option Addr} {sl_check_range : Array (Option Value)} {oc_check_range kV_check_range dc_check_range pm_check_range cd_check_range ct_check_range : Value}
    {a_nice_steps : Addr} {od_nice_steps an_nice_steps : Option Addr} {sl_nice_steps : Array (Option Value)} {oc_nice_steps kV_nice_steps dc_nice_steps pm_nice_steps cd_nice_steps ct_nice_steps : Value}
    {a_is_nice : Addr} {od_is_nice an_is_nice : Option Addr} {sl_is_nice : Array (Option Value)} {oc_is_nice kV_is_nice dc_is_nice pm_is_nice cd_is_nice ct_is_nice : Value}
    {a_check_step : Addr} {od_check_step an_check_step : Option Addr} {sl_check_step : Array (Option Value)} {oc_check_step kV_check_step dc_check_step pm_check_step cd_check_step ct_check_step : Value}
    {a_count_of : Addr} {od_count_of an_count_of : Option Addr} {sl_count_of : Array (Option Value)} {oc_count_of kV_count_of dc_count_of pm_count_of cd_count_of ct_count_of : Value}
    {a_count_marks : Addr} {od_count_marks an_count_marks : Option Addr} {sl_count_marks : Array (Option Value)} {oc_count_marks kV_count_marks dc_count_marks pm_count_marks cd_count_marks ct_count_marks : Value}
    {a_first_of : Addr} {od_first_of an_first_of : Option Addr} {sl_first_of : Array (Option Value)} {oc_first_of kV_first_of dc_first_of pm_first_of cd_first_of ct_first_of : Value}
    {a_first_mark : Addr} {od_first_mark an_first_mark : Option Addr} {sl_first_mark : Array (Option Value)} {oc_first_mark kV_first_mark dc_first_mark pm_first_mark cd_first_mark ct_first_mark : Value}
    {a_last_mark : Addr} {od_last_mark an_last_mark : Option Addr} {sl_last_mark : Array (Option Value)} {oc_last_mark kV_last_mark dc_last_mark pm_last_mark cd_last_mark ct_last_mark : Value}
    {a_mark_at : Addr} {od_mark_at an_mark_at : Option Addr} {sl_mark_at : Array (Option Value)} {oc_mark_at kV_mark_at dc_mark_at pm_mark_at cd_mark_at ct_mark_at : Value}
    {a_marks : Addr} {od_marks an_marks : Option Addr} {sl_marks : Array (Option Value)} {oc_marks kV_marks dc_marks pm_marks cd_marks ct_marks : Value}
    {a_gaps : Addr} {od_gaps an_gaps : Option Addr} {sl_gaps : Array (Option Value)} {oc_gaps kV_gaps dc_gaps pm_gaps cd_gaps ct_gaps : Value}
    {a_is_mark : Addr} {od_is_mark an_is_mark : Option Addr} {sl_is_mark : Array (Option Value)} {oc_is_mark kV_is_mark dc_is_mark pm_is_mark cd_is_mark ct_is_mark : Value}
    {a_check_many_choosing : Addr} {od_check_many_choosing an_check_many_choosing : Option Addr} {sl_check_many_choosing : Array (Option Value)} {oc_check_many_choosing kV_check_many_choosing dc_check_many_choosing pm_check_many_choosing cd_check_many_choosing ct_check_many_choosing : Value}
    {a_counts : Addr} {od_counts an_counts : Option Addr} {sl_counts : Array (Option Value)} {oc_counts kV_counts dc_counts pm_counts cd_counts ct_counts : Value}
    {a_with_most : Addr} {od_with_most an_with_most : Option Addr} {sl_with_most : Array (Option Value)} {oc_with_most kV_with_most dc_with_most pm_with_most cd_with_most ct_with_most : Value}
    {a_with_least : Addr} {od_with_least an_with_least : Option Addr} {sl_with_least : Array (Option Value)} {oc_with_least kV_with_least dc_with_least pm_with_least cd_with_least ct_with_least : Value}
    {a_steps_between : Addr} {od_steps_between an_steps_between : Option Addr} {sl_steps_between : Array (Option Value)} {oc_steps_between kV_steps_between dc_steps_between pm_steps_between cd_steps_between ct_steps_between : Value}
    {a_nearest_to : Addr} {od_nearest_to an_nearest_to : Option Addr} {sl_nearest_to : Array (Option Value)} {oc_nearest_to kV_nearest_to dc_nearest_to pm_nearest_to cd_nearest_to ct_nearest_to : Value}
    {a_out_of_order : Addr} {od_out_of_order an_out_of_order : Option Addr} {sl_out_of_order : Array (Option Value)} {oc_out_of_order kV_out_of_order dc_out_of_order pm_out_of_order cd_out_of_order ct_out_of_order : Value}
    {a_empty_steps : Addr} {od_empty_steps an_empty_steps : Option Addr} {sl_empty_steps : Array (Option Value)} {oc_empty_steps kV_empty_steps dc_empty_steps pm_empty_steps cd_empty_steps ct_empty_steps : Value}
    {a_outward : Addr} {od_outward an_outward : Option Addr} {sl_outward : Array (Option Value)} {oc_outward kV_outward dc_outward pm_outward cd_outward ct_outward : Value}
    {a_inward : Addr} {od_inward an_inward : Option Addr} {sl_inward : Array (Option Value)} {oc_inward kV_inward dc_inward pm_inward cd_inward ct_inward : Value}
    {a_is_round : Addr} {od_is_round an_is_round : Option Addr} {sl_is_round : Array (Option Value)} {oc_is_round kV_is_round dc_is_round pm_is_round cd_is_round ct_is_round : Value}
    {a_joined : Addr} {od_joined an_joined : Option Addr} {sl_joined : Array (Option Value)} {oc_joined kV_joined dc_joined pm_joined cd_joined ct_joined : Value}
    {a_met : Addr} {od_met an_met : Option Addr} {sl_met : Array (Option Value)} {oc_met kV_met dc_met pm_met cd_met ct_met : Value}
    {a_spare : Addr} {od_spare an_spare : Option Addr} {sl_spare : Array (Option Value)} {oc_spare kV_spare dc_spare pm_spare cd_spare ct_spare : Value}
    {a_shared_marks : Addr} {od_shared_marks an_shared_marks : Option Addr} {sl_shared_marks : Array (Option Value)} {oc_shared_marks kV_shared_marks dc_shared_marks pm_shared_marks cd_shared_marks ct_shared_marks : Value}
    {a_check_many_counting : Addr} {od_check_many_counting an_check_many_counting : Option Addr} {sl_check_many_counting : Array (Option Value)} {oc_check_many_counting kV_check_many_counting dc_check_many_counting pm_check_many_counting cd_check_many_counting ct_check_many_counting : Value}
    {a_check_bounds : Addr} {od_check_bounds an_check_bounds : Option Addr} {sl_check_bounds : Array (Option Value)} {oc_check_bounds kV_check_bounds dc_check_bounds pm_check_bounds cd_check_bounds ct_check_bounds : Value}
    {a_ranges_with : Addr} {od_ranges_with an_ranges_with : Option Addr} {sl_ranges_with : Array (Option Value)} {oc_ranges_with kV_ranges_with dc_ranges_with pm_ranges_with cd_ranges_with ct_ranges_with : Value}
    {a_count_ranges_of : Addr} {od_count_ranges_of an_count_ranges_of : Option Addr} {sl_count_ranges_of : Array (Option Value)} {oc_count_ranges_of kV_count_ranges_of dc_count_ranges_of pm_count_ranges_of cd_count_ranges_of ct_count_ranges_of : Value}
    {a_first_range : Addr} {od_first_range an_first_range : Option Addr} {sl_first_range : Array (Option Value)} {oc_first_range kV_first_range dc_first_range pm_first_range cd_first_range ct_first_range : Value}
    {a_checked : Addr} {od_checked an_checked : Option Addr} {sl_checked : Array (Option Value)} {oc_checked kV_checked dc_checked pm_checked cd_checked ct_checked : Value}
    {a_moved : Addr} {od_moved an_moved : Option Addr} {sl_moved : Array (Option Value)} {oc_moved kV_moved dc_moved pm_moved cd_moved ct_moved : Value}
    {a_widened : Addr} {od_widened an_widened : Option Addr} {sl_widened : Array (Option Value)} {oc_widened kV_widened dc_widened pm_widened cd_widened ct_widened : Value}
    {a_listed : Addr} {od_listed an_listed : Option Addr} {sl_listed : Array (Option Value)} {oc_listed kV_listed dc_listed pm_listed cd_listed ct_listed : Value}
    {a_check_short : Addr} {od_check_short an_check_short : Option Addr} {sl_check_short : Array (Option Value)} {oc_check_short kV_check_short dc_check_short pm_check_short cd_check_short ct_check_short : Value}
    {a_come_and_go : Addr} {od_come_and_go an_come_and_go : Option Addr} {sl_come_and_go : Array (Option Value)} {oc_come_and_go kV_come_and_go dc_come_and_go pm_come_and_go cd_come_and_go ct_come_and_go : Value}
    {a_kept : Addr} {od_kept an_kept : Option Addr} {sl_kept : Array (Option Value)} {oc_kept kV_kept dc_kept pm_kept cd_kept ct_kept : Value}
    {a_zoomed_in : Addr} {od_zoomed_in an_zoomed_in : Option Addr} {sl_zoomed_in : Array (Option Value)} {oc_zoomed_in kV_zoomed_in dc_zoomed_in pm_zoomed_in cd_zoomed_in ct_zoomed_in : Value}
    {a_zoomed_out : Addr} {od_zoomed_out an_zoomed_out : Option Addr} {sl_zoomed_out : Array (Option Value)} {oc_zoomed_out kV_zoomed_out dc_zoomed_out pm_zoomed_out cd_zoomed_out ct_zoomed_out : Value}
    {a_turned_over : Addr} {od_turned_over an_turned_over : Option Addr} {sl_turned_over : Array (Option Value)} {oc_turned_over kV_turned_over dc_turned_over pm_turned_over cd_turned_over ct_turned_over : Value}
    {a_scaled : Addr} {od_scaled an_scaled : Option Addr} {sl_scaled : Array (Option Value)} {oc_scaled kV_scaled dc_scaled pm_scaled cd_scaled ct_scaled : Value}
    {a_format_range : Addr} {od_format_range an_format_range : Option Addr} {sl_format_range : Array (Option Value)} {oc_format_range kV_format_range dc_format_range pm_format_range cd_format_range ct_format_range : Value}
    {a_format_axis : Addr} {od_format_axis an_format_axis : Option Addr} {sl_format_axis : Array (Option Value)} {oc_format_axis kV_format_axis dc_format_axis pm_format_axis cd_format_axis ct_format_axis : Value}
    {a__law_start : Addr} {od__law_start an__law_start : Option Addr} {sl__law_start : Array (Option Value)} {oc__law_start kV__law_start dc__law_start pm__law_start cd__law_start ct__law_start : Value}
    {a__law_draw : Addr} {od__law_draw an__law_draw : Option Addr} {sl__law_draw : Array (Option Value)} {oc__law_draw kV__law_draw dc__law_draw pm__law_draw cd__law_draw ct__law_draw : Value}
    {a__law_error : Addr} {od__law_error an__law_error : Option Addr} {sl__law_error : Array (Option Value)} {oc__law_error kV__law_error dc__law_error pm__law_error cd__law_error ct__law_error : Value}
    {a__law_one : Addr} {od__law_one an__law_one : Option Addr} {sl__law_one : Array (Option Value)} {oc__law_one kV__law_one dc__law_one pm__law_one cd__law_one ct__law_one : Value}
    {a__law_two : Addr} {od__law_two an__law_two : Option Addr} {sl__law_two : Array (Option Value)} {oc__law_two kV__law_two dc__law_two pm__law_two cd__law_two ct__law_two : Value}
    {a__law_three : Addr} {od__law_three an__law_three : Option Addr} {sl__law_three : Array (Option Value)} {oc__law_three kV__law_three dc__law_three pm__law_three cd__law_three ct__law_three : Value}
    {a__law_asked : Addr} {od__law_asked an__law_asked : Option Addr} {sl__law_asked : Array (Option Value)} {oc__law_asked kV__law_asked dc__law_asked pm__law_asked cd__law_asked ct__law_asked : Value}
    {a__law_numbers : Addr} {od__law_numbers an__law_numbers : Option Addr} {sl__law_numbers : Array (Option Value)} {oc__law_numbers kV__law_numbers dc__law_numbers pm__law_numbers cd__law_numbers ct__law_numbers : Value}
    {a_law : Addr} {od_law an_law : Option Addr} {sl_law : Array (Option Value)} {oc_law kV_law dc_law pm_law cd_law ct_law : Value}
    {C_Axis : Addr}
    {a_Axis___init__ : Addr} {od_Axis___init__ an_Axis___init__ : Option Addr} {sl_Axis___init__ : Array (Option Value)} {oc_Axis___init__ kV_Axis___init__ dc_Axis___init__ pm_Axis___init__ cd_Axis___init__ ct_Axis___init__ : Value}
    {a_Axis_step : Addr} {od_Axis_step an_Axis_step : Option Addr} {sl_Axis_step : Array (Option Value)} {oc_Axis_step kV_Axis_step dc_Axis_step pm_Axis_step cd_Axis_step ct_Axis_step : Value}
    {a_Axis_marks : Addr} {od_Axis_marks an_Axis_marks : Option Addr} {sl_Axis_marks : Array (Option Value)} {oc_Axis_marks kV_Axis_marks dc_Axis_marks pm_Axis_marks cd_Axis_marks ct_Axis_marks : Value}
    {a_Axis___len__ : Addr} {od_Axis___len__ an_Axis___len__ : Option Addr} {sl_Axis___len__ : Array (Option Value)} {oc_Axis___len__ kV_Axis___len__ dc_Axis___len__ pm_Axis___len__ cd_Axis___len__ ct_Axis___len__ : Value}
    (z_ValueError : PySem.W.nsIn K mainGlobals "ValueError" = some none)
    (z_abs : PySem.W.nsIn K mainGlobals "abs" = some none)
    (z_bool : PySem.W.nsIn K mainGlobals "bool" = some none)
    (z_int : PySem.W.nsIn K mainGlobals "int" = some none)
    (z_isinstance : PySem.W.nsIn K mainGlobals "isinstance" = some none)
    (z_len : PySem.W.nsIn K mainGlobals "len" = some none)
    (z_list : PySem.W.nsIn K mainGlobals "list" = some none)
    (z_max : PySem.W.nsIn K mainGlobals "max" = some none)
    (z_min : PySem.W.nsIn K mainGlobals "min" = some none)
    (z_range : PySem.W.nsIn K mainGlobals "range" = some none)
    (z_str : PySem.W.nsIn K mainGlobals "str" = some none)
    (z_tuple : PySem.W.nsIn K mainGlobals "tuple" = some none)
    (c_MOST : PySem.W.nsIn K mainGlobals "MOST" = some (some (.int 1000000 tk_MOST)))
    (c_MOST_LISTED : PySem.W.nsIn K mainGlobals "MOST_LISTED" = some (some (.int 1000 tk_MOST_LISTED)))
    (cn : PySem.W.specialIn K (.builtin "object.__class__") "__get__" = some (some (.builtin "getset_descriptor.__get__"))) (ct : PySem.W.takesIn K (.builtin "object.__class__") = some true)
    (g_AxisError : PySem.W.nsIn K mainGlobals "AxisError" = some (some (.ref C_AxisError))) (k_AxisError : PySem.W.keepIn K (.ref C_AxisError) = true) (x_AxisError : PySem.W.excIn K C_AxisError [.type "ValueError", .type "Exception", .type "BaseException", .type "object"] "ValueError.__new__" = true) (b_AxisError : PySem.W.subIn K (.ref C_AxisError) (.type "BaseException") = some true) (t_AxisError : PySem.W.typeIn K (.ref C_AxisError) = some (.type "type"))
    (ig_AxisError : PySem.W.findIn K (.ref C_AxisError) "__getattribute__" = some (some (.builtin "BaseException.__getattribute__"))) (ik_AxisError : PySem.W.findIn K (.ref C_AxisError) "__getattr__" = some none) (id_AxisError : PySem.W.hasDictIn K C_AxisError = true) (ia_AxisError : PySem.W.findIn K (.ref C_AxisError) "__class__" = some (some (.builtin "object.__class__"))) (im_AxisError : PySem.W.mroIn K C_AxisError (.type "object") = some true)
    (g_BadMarks : PySem.W.nsIn K mainGlobals "BadMarks" = some (some (.ref C_BadMarks))) (k_BadMarks : PySem.W.keepIn K (.ref C_BadMarks) = true) (x_BadMarks : PySem.W.excIn K C_BadMarks [.type "ValueError", .type "Exception", .type "BaseException", .type "object"] "ValueError.__new__" = true) (b_BadMarks : PySem.W.subIn K (.ref C_BadMarks) (.type "BaseException") = some true) (t_BadMarks : PySem.W.typeIn K (.ref C_BadMarks) = some (.type "type"))
    (ig_BadMarks : PySem.W.findIn K (.ref C_BadMarks) "__getattribute__" = some (some (.builtin "BaseException.__getattribute__"))) (ik_BadMarks : PySem.W.findIn K (.ref C_BadMarks) "__getattr__" = some none) (id_BadMarks : PySem.W.hasDictIn K C_BadMarks = true) (ia_BadMarks : PySem.W.findIn K (.ref C_BadMarks) "__class__" = some (some (.builtin "object.__class__"))) (im_BadMarks : PySem.W.mroIn K C_BadMarks (.type "object") = some true)
    (g_BadNumber : PySem.W.nsIn K mainGlobals "BadNumber" = some (some (.ref C_BadNumber))) (k_BadNumber : PySem.W.keepIn K (.ref C_BadNumber) = true) (x_BadNumber : PySem.W.excIn K C_BadNumber [.type "ValueError", .type "Exception", .type "BaseException", .type "object"] "ValueError.__new__" = true) (b_BadNumber : PySem.W.subIn K (.ref C_BadNumber) (.type "BaseException") = some true) (t_BadNumber : PySem.W.typeIn K (.ref C_BadNumber) = some (.type "type"))
    (ig_BadNumber : PySem.W.findIn K (.ref C_BadNumber) "__getattribute__" = some (some (.builtin "BaseException.__getattribute__"))) (ik_BadNumber : PySem.W.findIn K (.ref C_BadNumber) "__getattr__" = some none) (id_BadNumber : PySem.W.hasDictIn K C_BadNumber = true) (ia_BadNumber : PySem.W.findIn K (.ref C_BadNumber) "__class__" = some (some (.builtin "object.__class__"))) (im_BadNumber : PySem.W.mroIn K C_BadNumber (.type "object") = some true)
    (g_BadRange : PySem.W.nsIn K mainGlobals "BadRange" = some (some (.ref C_BadRange))) (k_BadRange : PySem.W.keepIn K (.ref C_BadRange) = true) (x_BadRange : PySem.W.excIn K C_BadRange [.type "ValueError", .type "Exception", .type "BaseException", .type "object"] "ValueError.__new__" = true) (b_BadRange : PySem.W.subIn K (.ref C_BadRange) (.type "BaseException") = some true) (t_BadRange : PySem.W.typeIn K (.ref C_BadRange) = some (.type "type"))
    (ig_BadRange : PySem.W.findIn K (.ref C_BadRange) "__getattribute__" = some (some (.builtin "BaseException.__getattribute__"))) (ik_BadRange : PySem.W.findIn K (.ref C_BadRange) "__getattr__" = some none) (id_BadRange : PySem.W.hasDictIn K C_BadRange = true) (ia_BadRange : PySem.W.findIn K (.ref C_BadRange) "__class__" = some (some (.builtin "object.__class__"))) (im_BadRange : PySem.W.mroIn K C_BadRange (.type "object") = some true)
    (g_BadStep : PySem.W.nsIn K mainGlobals "BadStep" = some (some (.ref C_BadStep))) (k_BadStep : PySem.W.keepIn K (.ref C_BadStep) = true) (x_BadStep : PySem.W.excIn K C_BadStep [.type "ValueError", .type "Exception", .type "BaseException", .type "object"] "ValueError.__new__" = true) (b_BadStep : PySem.W.subIn K (.ref C_BadStep) (.type "BaseException") = some true) (t_BadStep : PySem.W.typeIn K (.ref C_BadStep) = some (.type "type"))
    (ig_BadStep : PySem.W.findIn K (.ref C_BadStep) "__getattribute__" = some (some (.builtin "BaseException.__getattribute__"))) (ik_BadStep : PySem.W.findIn K (.ref C_BadStep) "__getattr__" = some none) (id_BadStep : PySem.W.hasDictIn K C_BadStep = true) (ia_BadStep : PySem.W.findIn K (.ref C_BadStep) "__class__" = some (some (.builtin "object.__class__"))) (im_BadStep : PySem.W.mroIn K C_BadStep (.type "object") = some true)
    (g_BadText : PySem.W.nsIn K mainGlobals "BadText" = some (some (.ref C_BadText))) (k_BadText : PySem.W.keepIn K (.ref C_BadText) = true) (x_BadText : PySem.W.excIn K C_BadText [.type "ValueError", .type "Exception", .type "BaseException", .type "object"] "ValueError.__new__" = true) (b_BadText : PySem.W.subIn K (.ref C_BadText) (.type "BaseException") = some true) (t_BadText : PySem.W.typeIn K (.ref C_BadText) = some (.type "type"))
    (ig_BadText : PySem.W.findIn K (.ref C_BadText) "__getattribute__" = some (some (.builtin "BaseException.__getattribute__"))) (ik_BadText : PySem.W.findIn K (.ref C_BadText) "__getattr__" = some none) (id_BadText : PySem.W.hasDictIn K C_BadText = true) (ia_BadText : PySem.W.findIn K (.ref C_BadText) "__class__" = some (some (.builtin "object.__class__"))) (im_BadText : PySem.W.mroIn K C_BadText (.type "object") = some true)
    (g_NotFound : PySem.W.nsIn K mainGlobals "NotFound" = some (some (.ref C_NotFound))) (k_NotFound : PySem.W.keepIn K (.ref C_NotFound) = true) (x_NotFound : PySem.W.excIn K C_NotFound [.type "ValueError", .type "Exception", .type "BaseException", .type "object"] "ValueError.__new__" = true) (b_NotFound : PySem.W.subIn K (.ref C_NotFound) (.type "BaseException") = some true) (t_NotFound : PySem.W.typeIn K (.ref C_NotFound) = some (.type "type"))
    (ig_NotFound : PySem.W.findIn K (.ref C_NotFound) "__getattribute__" = some (some (.builtin "BaseException.__getattribute__"))) (ik_NotFound : PySem.W.findIn K (.ref C_NotFound) "__getattr__" = some none) (id_NotFound : PySem.W.hasDictIn K C_NotFound = true) (ia_NotFound : PySem.W.findIn K (.ref C_NotFound) "__class__" = some (some (.builtin "object.__class__"))) (im_NotFound : PySem.W.mroIn K C_NotFound (.type "object") = some true)
    (u_BadMarks_AxisError : PySem.W.subIn K (.ref C_BadMarks) (.ref C_AxisError) = some true)
    (u_BadMarks_BadMarks : PySem.W.subIn K (.ref C_BadMarks) (.ref C_BadMarks) = some true)
    (u_BadMarks_BadNumber : PySem.W.subIn K (.ref C_BadMarks) (.ref C_BadNumber) = some false)
    (u_BadMarks_BadRange : PySem.W.subIn K (.ref C_BadMarks) (.ref C_BadRange) = some false)
    (u_BadMarks_BadStep : PySem.W.subIn K (.ref C_BadMarks) (.ref C_BadStep) = some false)
    (u_BadMarks_BadText : PySem.W.subIn K (.ref C_BadMarks) (.ref C_BadText) = some false)
    (u_BadMarks_NotFound : PySem.W.subIn K (.ref C_BadMarks) (.ref C_NotFound) = some false)
    (v_BadMarks : PySem.W.subIn K (.ref C_BadMarks) (.type "ValueError") = some true)
    (u_BadNumber_AxisError : PySem.W.subIn K (.ref C_BadNumber) (.ref C_AxisError) = some true)
    (u_BadNumber_BadMarks : PySem.W.subIn K (.ref C_BadNumber) (.ref C_BadMarks) = some false)
    (u_BadNumber_BadNumber : PySem.W.subIn K (.ref C_BadNumber) (.ref C_BadNumber) = some true)
    (u_BadNumber_BadRange : PySem.W.subIn K (.ref C_BadNumber) (.ref C_BadRange) = some false)
    (u_BadNumber_BadStep : PySem.W.subIn K (.ref C_BadNumber) (.ref C_BadStep) = some false)
    (u_BadNumber_BadText : PySem.W.subIn K (.ref C_BadNumber) (.ref C_BadText) = some false)
    (u_BadNumber_NotFound : PySem.W.subIn K (.ref C_BadNumber) (.ref C_NotFound) = some false)
    (v_BadNumber : PySem.W.subIn K (.ref C_BadNumber) (.type "ValueError") = some true)
    (u_BadRange_AxisError : PySem.W.subIn K (.ref C_BadRange) (.ref C_AxisError) = some true)
    (u_BadRange_BadMarks : PySem.W.subIn K (.ref C_BadRange) (.ref C_BadMarks) = some false)
    (u_BadRange_BadNumber : PySem.W.subIn K (.ref C_BadRange) (.ref C_BadNumber) = some false)
    (u_BadRange_BadRange : PySem.W.subIn K (.ref C_BadRange) (.ref C_BadRange) = some true)
    (u_BadRange_BadStep : PySem.W.subIn K (.ref C_BadRange) (.ref C_BadStep) = some false)
    (u_BadRange_BadText : PySem.W.subIn K (.ref C_BadRange) (.ref C_BadText) = some false)
    (u_BadRange_NotFound : PySem.W.subIn K (.ref C_BadRange) (.ref C_NotFound) = some false)
    (v_BadRange : PySem.W.subIn K (.ref C_BadRange) (.type "ValueError") = some true)
    (u_BadStep_AxisError : PySem.W.subIn K (.ref C_BadStep) (.ref C_AxisError) = some true)
    (u_BadStep_BadMarks : PySem.W.subIn K (.ref C_BadStep) (.ref C_BadMarks) = some false)
    (u_BadStep_BadNumber : PySem.W.subIn K (.ref C_BadStep) (.ref C_BadNumber) = some false)
    (u_BadStep_BadRange : PySem.W.subIn K (.ref C_BadStep) (.ref C_BadRange) = some false)
    (u_BadStep_BadStep : PySem.W.subIn K (.ref C_BadStep) (.ref C_BadStep) = some true)
    (u_BadStep_BadText : PySem.W.subIn K (.ref C_BadStep) (.ref C_BadText) = some false)
    (u_BadStep_NotFound : PySem.W.subIn K (.ref C_BadStep) (.ref C_NotFound) = some false)
    (v_BadStep : PySem.W.subIn K (.ref C_BadStep) (.type "ValueError") = some true)
    (u_BadText_AxisError : PySem.W.subIn K (.ref C_BadText) (.ref C_AxisError) = some true)
    (u_BadText_BadMarks : PySem.W.subIn K (.ref C_BadText) (.ref C_BadMarks) = some false)
    (u_BadText_BadNumber : PySem.W.subIn K (.ref C_BadText) (.ref C_BadNumber) = some false)
    (u_BadText_BadRange : PySem.W.subIn K (.ref C_BadText) (.ref C_BadRange) = some false)
    (u_BadText_BadStep : PySem.W.subIn K (.ref C_BadText) (.ref C_BadStep) = some false)
    (u_BadText_BadText : PySem.W.subIn K (.ref C_BadText) (.ref C_BadText) = some true)
    (u_BadText_NotFound : PySem.W.subIn K (.ref C_BadText) (.ref C_NotFound) = some false)
    (v_BadText : PySem.W.subIn K (.ref C_BadText) (.type "ValueError") = some true)
    (u_NotFound_AxisError : PySem.W.subIn K (.ref C_NotFound) (.ref C_AxisError) = some true)
    (u_NotFound_BadMarks : PySem.W.subIn K (.ref C_NotFound) (.ref C_BadMarks) = some false)
    (u_NotFound_BadNumber : PySem.W.subIn K (.ref C_NotFound) (.ref C_BadNumber) = some false)
    (u_NotFound_BadRange : PySem.W.subIn K (.ref C_NotFound) (.ref C_BadRange) = some false)
    (u_NotFound_BadStep : PySem.W.subIn K (.ref C_NotFound) (.ref C_BadStep) = some false)
    (u_NotFound_BadText : PySem.W.subIn K (.ref C_NotFound) (.ref C_BadText) = some false)
    (u_NotFound_NotFound : PySem.W.subIn K (.ref C_NotFound) (.ref C_NotFound) = some true)
    (v_NotFound : PySem.W.subIn K (.ref C_NotFound) (.type "ValueError") = some true)
    (n_is_int : PySem.W.nsIn K mainGlobals "is_int" = some (some (.ref a_is_int))) (l_is_int : K.lookup a_is_int = some ⟨oc_is_int, od_is_int, .func (PySem.W.fnOf "is_int" "is_int" (defArgs s_is_int) (defBody s_is_int) (defScope s_is_int) .none kV_is_int dc_is_int pm_is_int an_is_int cd_is_int ct_is_int), sl_is_int⟩) (c_is_int : PySem.W.codeIn K cd_is_int "is_int" = true) (k_is_int : PySem.W.keepIn K (.ref a_is_int) = true)
    (n_is_range : PySem.W.nsIn K mainGlobals "is_range" = some (some (.ref a_is_range))) (l_is_range : K.lookup a_is_range = some ⟨oc_is_range, od_is_range, .func (PySem.W.fnOf "is_range" "is_range" (defArgs s_is_range) (defBody s_is_range) (defScope s_is_range) .none kV_is_range dc_is_range pm_is_range an_is_range cd_is_range ct_is_range), sl_is_range⟩) (c_is_range : PySem.W.codeIn K cd_is_range "is_range" = true) (k_is_range : PySem.W.keepIn K (.ref a_is_range) = true)
    (n_check_range : PySem.W.nsIn K mainGlobals "check_range" = some (some (.ref a_check_range))) (l_check_range : K.lookup a_check_range = some ⟨oc_check_range, od_check_range, .func (PySem.W.fnOf "check_range" "check_range" (defArgs s_check_range) (defBody s_check_range) (defScope s_check_range) .none kV_check_range dc_check_range pm_check_range an_check_range cd_check_range ct_check_range), sl_check_range⟩) (c_check_range : PySem.W.codeIn K cd_check_range "check_range" = true) (k_check_range : PySem.W.keepIn K (.ref a_check_range) = true)
    (n_nice_steps : PySem.W.nsIn K mainGlobals "nice_steps" = some (some (.ref a_nice_steps))) (l_nice_steps : K.lookup a_nice_steps = some ⟨oc_nice_steps, od_nice_steps, .func (PySem.W.fnOf "nice_steps" "nice_steps" (defArgs s_nice_steps) (defBody s_nice_steps) (defScope s_nice_steps) .none kV_nice_steps dc_nice_steps pm_nice_steps an_nice_steps cd_nice_steps ct_nice_steps), sl_nice_steps⟩) (c_nice_steps : PySem.W.codeIn K cd_nice_steps "nice_steps" = true) (k_nice_steps : PySem.W.keepIn K (.ref a_nice_steps) = true)
    (n_is_nice : PySem.W.nsIn K mainGlobals "is_nice" = some (some (.ref a_is_nice))) (l_is_nice : K.lookup a_is_nice = some ⟨oc_is_nice, od_is_nice, .func (PySem.W.fnOf "is_nice" "is_nice" (defArgs s_is_nice) (defBody s_is_nice) (defScope s_is_nice) .none kV_is_nice dc_is_nice pm_is_nice an_is_nice cd_is_nice ct_is_nice), sl_is_nice⟩) (c_is_nice : PySem.W.codeIn K cd_is_nice "is_nice" = true) (k_is_nice : PySem.W.keepIn K (.ref a_is_nice) = true)
    (n_check_step : PySem.W.nsIn K mainGlobals "check_step" = some (some (.ref a_check_step))) (l_check_step : K.lookup a_check_step = some ⟨oc_check_step, od_check_step, .func (PySem.W.fnOf "check_step" "check_step" (defArgs s_check_step) (defBody s_check_step) (defScope s_check_step) .none kV_check_step dc_check_step pm_check_step an_check_step cd_check_step ct_check_step), sl_check_step⟩) (c_check_step : PySem.W.codeIn K cd_check_step "check_step" = true) (k_check_step : PySem.W.keepIn K (.ref a_check_step) = true)
    (n_count_of : PySem.W.nsIn K mainGlobals "count_of" = some (some (.ref a_count_of))) (l_count_of : K.lookup a_count_of = some ⟨oc_count_of, od_count_of, .func (PySem.W.fnOf "count_of" "count_of" (defArgs s_count_of) (defBody s_count_of) (defScope s_count_of) .none kV_count_of dc_count_of pm_count_of an_count_of cd_count_of ct_count_of), sl_count_of⟩) (c_count_of : PySem.W.codeIn K cd_count_of "count_of" = true) (k_count_of : PySem.W.keepIn K (.ref a_count_of) = true)
    (n_count_marks : PySem.W.nsIn K mainGlobals "count_marks" = some (some (.ref a_count_marks))) (l_count_marks : K.lookup a_count_marks = some ⟨oc_count_marks, od_count_marks, .func (PySem.W.fnOf "count_marks" "count_marks" (defArgs s_count_marks) (defBody s_count_marks) (defScope s_count_marks) .none kV_count_marks dc_count_marks pm_count_marks an_count_marks cd_count_marks ct_count_marks), sl_count_marks⟩) (c_count_marks : PySem.W.codeIn K cd_count_marks "count_marks" = true) (k_count_marks : PySem.W.keepIn K (.ref a_count_marks) = true)
    (n_first_of : PySem.W.nsIn K mainGlobals "first_of" = some (some (.ref a_first_of))) (l_first_of : K.lookup a_first_of = some ⟨oc_first_of, od_first_of, .func (PySem.W.fnOf "first_of" "first_of" (defArgs s_first_of) (defBody s_first_of) (defScope s_first_of) .none kV_first_of dc_first_of pm_first_of an_first_of cd_first_of ct_first_of), sl_first_of⟩) (c_first_of : PySem.W.codeIn K cd_first_of "first_of" = true) (k_first_of : PySem.W.keepIn K (.ref a_first_of) = true)
    (n_first_mark : PySem.W.nsIn K mainGlobals "first_mark" = some (some (.ref a_first_mark))) (l_first_mark : K.lookup a_first_mark = some ⟨oc_first_mark, od_first_mark, .func (PySem.W.fnOf "first_mark" "first_mark" (defArgs s_first_mark) (defBody s_first_mark) (defScope s_first_mark) .none kV_first_mark dc_first_mark pm_first_mark an_first_mark cd_first_mark ct_first_mark), sl_first_mark⟩) (c_first_mark : PySem.W.codeIn K cd_first_mark "first_mark" = true) (k_first_mark : PySem.W.keepIn K (.ref a_first_mark) = true)
    (n_last_mark : PySem.W.nsIn K mainGlobals "last_mark" = some (some (.ref a_last_mark))) (l_last_mark : K.lookup a_last_mark = some ⟨oc_last_mark, od_last_mark, .func (PySem.W.fnOf "last_mark" "last_mark" (defArgs s_last_mark) (defBody s_last_mark) (defScope s_last_mark) .none kV_last_mark dc_last_mark pm_last_mark an_last_mark cd_last_mark ct_last_mark), sl_last_mark⟩) (c_last_mark : PySem.W.codeIn K cd_last_mark "last_mark" = true) (k_last_mark : PySem.W.keepIn K (.ref a_last_mark) = true)
    (n_mark_at : PySem.W.nsIn K mainGlobals "mark_at" = some (some (.ref a_mark_at))) (l_mark_at : K.lookup a_mark_at = some ⟨oc_mark_at, od_mark_at, .func (PySem.W.fnOf "mark_at" "mark_at" (defArgs s_mark_at) (defBody s_mark_at) (defScope s_mark_at) .none kV_mark_at dc_mark_at pm_mark_at an_mark_at cd_mark_at ct_mark_at), sl_mark_at⟩) (c_mark_at : PySem.W.codeIn K cd_mark_at "mark_at" = true) (k_mark_at : PySem.W.keepIn K (.ref a_mark_at) = true)
    (n_marks : PySem.W.nsIn K mainGlobals "marks" = some (some (.ref a_marks))) (l_marks : K.lookup a_marks = some ⟨oc_marks, od_marks, .func (PySem.W.fnOf "marks" "marks" (defArgs s_marks) (defBody s_marks) (defScope s_marks) .none kV_marks dc_marks pm_marks an_marks cd_marks ct_marks), sl_marks⟩) (c_marks : PySem.W.codeIn K cd_marks "marks" = true) (k_marks : PySem.W.keepIn K (.ref a_marks) = true)
    (n_gaps : PySem.W.nsIn K mainGlobals "gaps" = some (some (.ref a_gaps))) (l_gaps : K.lookup a_gaps = some ⟨oc_gaps, od_gaps, .func (PySem.W.fnOf "gaps" "gaps" (defArgs s_gaps) (defBody s_gaps) (defScope s_gaps) .none kV_gaps dc_gaps pm_gaps an_gaps cd_gaps ct_gaps), sl_gaps⟩) (c_gaps : PySem.W.codeIn K cd_gaps "gaps" = true) (k_gaps : PySem.W.keepIn K (.ref a_gaps) = true)
    (n_is_mark : PySem.W.nsIn K mainGlobals "is_mark" = some (some (.ref a_is_mark))) (l_is_mark : K.lookup a_is_mark = some ⟨oc_is_mark, od_is_mark, .func (PySem.W.fnOf "is_mark" "is_mark" (defArgs s_is_mark) (defBody s_is_mark) (defScope s_is_mark) .none kV_is_mark dc_is_mark pm_is_mark an_is_mark cd_is_mark ct_is_mark), sl_is_mark⟩) (c_is_mark : PySem.W.codeIn K cd_is_mark "is_mark" = true) (k_is_mark : PySem.W.keepIn K (.ref a_is_mark) = true)
    (n_check_many_choosing : PySem.W.nsIn K mainGlobals "check_many_choosing" = some (some (.ref a_check_many_choosing))) (l_check_many_choosing : K.lookup a_check_many_choosing = some ⟨oc_check_many_choosing, od_check_many_choosing, .func (PySem.W.fnOf "check_many" "check_many" (defArgs s_check_many_choosing) (defBody s_check_many_choosing) (defScope s_check_many_choosing) .none kV_check_many_choosing dc_check_many_choosing pm_check_many_choosing an_check_many_choosing cd_check_many_choosing ct_check_many_choosing), sl_check_many_choosing⟩) (c_check_many_choosing : PySem.W.codeIn K cd_check_many_choosing "check_many" = true) (k_check_many_choosing : PySem.W.keepIn K (.ref a_check_many_choosing) = true)
    (n_counts : PySem.W.nsIn K mainGlobals "counts" = some (some (.ref a_counts))) (l_counts : K.lookup a_counts = some ⟨oc_counts, od_counts, .func (PySem.W.fnOf "counts" "counts" (defArgs s_counts) (defBody s_counts) (defScope s_counts) .none kV_counts dc_counts pm_counts an_counts cd_counts ct_counts), sl_counts⟩) (c_counts : PySem.W.codeIn K cd_counts "counts" = true) (k_counts : PySem.W.keepIn K (.ref a_counts) = true)
    (n_with_most : PySem.W.nsIn K mainGlobals "with_most" = some (some (.ref a_with_most))) (l_with_most : K.lookup a_with_most = some ⟨oc_with_most, od_with_most, .func (PySem.W.fnOf "with_most" "with_most" (defArgs s_with_most) (defBody s_with_most) (defScope s_with_most) .none kV_with_most dc_with_most pm_with_most an_with_most cd_with_most ct_with_most), sl_with_most⟩) (c_with_most : PySem.W.codeIn K cd_with_most "with_most" = true) (k_with_most : PySem.W.keepIn K (.ref a_with_most) = true)
    (n_with_least : PySem.W.nsIn K mainGlobals "with_least" = some (some (.ref a_with_least))) (l_with_least : K.lookup a_with_least = some ⟨oc_with_least, od_with_least, .func (PySem.W.fnOf "with_least" "with_least" (defArgs s_with_least) (defBody s_with_least) (defScope s_with_least) .none kV_with_least dc_with_least pm_with_least an_with_least cd_with_least ct_with_least), sl_with_least⟩) (c_with_least : PySem.W.codeIn K cd_with_least "with_least" = true) (k_with_least : PySem.W.keepIn K (.ref a_with_least) = true)
    (n_steps_between : PySem.W.nsIn K mainGlobals "steps_between" = some (some (.ref a_steps_between))) (l_steps_between : K.lookup a_steps_between = some ⟨oc_steps_between, od_steps_between, .func (PySem.W.fnOf "steps_between" "steps_between" (defArgs s_steps_between) (defBody s_steps_between) (defScope s_steps_between) .none kV_steps_between dc_steps_between pm_steps_between an_steps_between cd_steps_between ct_steps_between), sl_steps_between⟩) (c_steps_between : PySem.W.codeIn K cd_steps_between "steps_between" = true) (k_steps_between : PySem.W.keepIn K (.ref a_steps_between) = true)
    (n_nearest_to : PySem.W.nsIn K mainGlobals "nearest_to" = some (some (.ref a_nearest_to))) (l_nearest_to : K.lookup a_nearest_to = some ⟨oc_nearest_to, od_nearest_to, .func (PySem.W.fnOf "nearest_to" "nearest_to" (defArgs s_nearest_to) (defBody s_nearest_to) (defScope s_nearest_to) .none kV_nearest_to dc_nearest_to pm_nearest_to an_nearest_to cd_nearest_to ct_nearest_to), sl_nearest_to⟩) (c_nearest_to : PySem.W.codeIn K cd_nearest_to "nearest_to" = true) (k_nearest_to : PySem.W.keepIn K (.ref a_nearest_to) = true)
    (n_out_of_order : PySem.W.nsIn K mainGlobals "out_of_order" = some (some (.ref a_out_of_order))) (l_out_of_order : K.lookup a_out_of_order = some ⟨oc_out_of_order, od_out_of_order, .func (PySem.W.fnOf "out_of_order" "out_of_order" (defArgs s_out_of_order) (defBody s_out_of_order) (defScope s_out_of_order) .none kV_out_of_order dc_out_of_order pm_out_of_order an_out_of_order cd_out_of_order ct_out_of_order), sl_out_of_order⟩) (c_out_of_order : PySem.W.codeIn K cd_out_of_order "out_of_order" = true) (k_out_of_order : PySem.W.keepIn K (.ref a_out_of_order) = true)
    (n_empty_steps : PySem.W.nsIn K mainGlobals "empty_steps" = some (some (.ref a_empty_steps))) (l_empty_steps : K.lookup a_empty_steps = some ⟨oc_empty_steps, od_empty_steps, .func (PySem.W.fnOf "empty_steps" "empty_steps" (defArgs s_empty_steps) (defBody s_empty_steps) (defScope s_empty_steps) .none kV_empty_steps dc_empty_steps pm_empty_steps an_empty_steps cd_empty_steps ct_empty_steps), sl_empty_steps⟩) (c_empty_steps : PySem.W.codeIn K cd_empty_steps "empty_steps" = true) (k_empty_steps : PySem.W.keepIn K (.ref a_empty_steps) = true)
    (n_outward : PySem.W.nsIn K mainGlobals "outward" = some (some (.ref a_outward))) (l_outward : K.lookup a_outward = some ⟨oc_outward, od_outward, .func (PySem.W.fnOf "outward" "outward" (defArgs s_outward) (defBody s_outward) (defScope s_outward) .none kV_outward dc_outward pm_outward an_outward cd_outward ct_outward), sl_outward⟩) (c_outward : PySem.W.codeIn K cd_outward "outward" = true) (k_outward : PySem.W.keepIn K (.ref a_outward) = true)
    (n_inward : PySem.W.nsIn K mainGlobals "inward" = some (some (.ref a_inward))) (l_inward : K.lookup a_inward = some ⟨oc_inward, od_inward, .func (PySem.W.fnOf "inward" "inward" (defArgs s_inward) (defBody s_inward) (defScope s_inward) .none kV_inward dc_inward pm_inward an_inward cd_inward ct_inward), sl_inward⟩) (c_inward : PySem.W.codeIn K cd_inward "inward" = true) (k_inward : PySem.W.keepIn K (.ref a_inward) = true)
    (n_is_round : PySem.W.nsIn K mainGlobals "is_round" = some (some (.ref a_is_round))) (l_is_round : K.lookup a_is_round = some ⟨oc_is_round, od_is_round, .func (PySem.W.fnOf "is_round" "is_round" (defArgs s_is_round) (defBody s_is_round) (defScope s_is_round) .none kV_is_round dc_is_round pm_is_round an_is_round cd_is_round ct_is_round), sl_is_round⟩) (c_is_round : PySem.W.codeIn K cd_is_round "is_round" = true) (k_is_round : PySem.W.keepIn K (.ref a_is_round) = true)
    (n_joined : PySem.W.nsIn K mainGlobals "joined" = some (some (.ref a_joined))) (l_joined : K.lookup a_joined = some ⟨oc_joined, od_joined, .func (PySem.W.fnOf "joined" "joined" (defArgs s_joined) (defBody s_joined) (defScope s_joined) .none kV_joined dc_joined pm_joined an_joined cd_joined ct_joined), sl_joined⟩) (c_joined : PySem.W.codeIn K cd_joined "joined" = true) (k_joined : PySem.W.keepIn K (.ref a_joined) = true)
    (n_met : PySem.W.nsIn K mainGlobals "met" = some (some (.ref a_met))) (l_met : K.lookup a_met = some ⟨oc_met, od_met, .func (PySem.W.fnOf "met" "met" (defArgs s_met) (defBody s_met) (defScope s_met) .none kV_met dc_met pm_met an_met cd_met ct_met), sl_met⟩) (c_met : PySem.W.codeIn K cd_met "met" = true) (k_met : PySem.W.keepIn K (.ref a_met) = true)
    (n_spare : PySem.W.nsIn K mainGlobals "spare" = some (some (.ref a_spare))) (l_spare : K.lookup a_spare = some ⟨oc_spare, od_spare, .func (PySem.W.fnOf "spare" "spare" (defArgs s_spare) (defBody s_spare) (defScope s_spare) .none kV_spare dc_spare pm_spare an_spare cd_spare ct_spare), sl_spare⟩) (c_spare : PySem.W.codeIn K cd_spare "spare" = true) (k_spare : PySem.W.keepIn K (.ref a_spare) = true)
    (n_shared_marks : PySem.W.nsIn K mainGlobals "shared_marks" = some (some (.ref a_shared_marks))) (l_shared_marks : K.lookup a_shared_marks = some ⟨oc_shared_marks, od_shared_marks, .func (PySem.W.fnOf "shared_marks" "shared_marks" (defArgs s_shared_marks) (defBody s_shared_marks) (defScope s_shared_marks) .none kV_shared_marks dc_shared_marks pm_shared_marks an_shared_marks cd_shared_marks ct_shared_marks), sl_shared_marks⟩) (c_shared_marks : PySem.W.codeIn K cd_shared_marks "shared_marks" = true) (k_shared_marks : PySem.W.keepIn K (.ref a_shared_marks) = true)
    (n_check_many_counting : PySem.W.nsIn K mainGlobals "check_many_counting" = some (some (.ref a_check_many_counting))) (l_check_many_counting : K.lookup a_check_many_counting = some ⟨oc_check_many_counting, od_check_many_counting, .func (PySem.W.fnOf "check_many" "check_many" (defArgs s_check_many_counting) (defBody s_check_many_counting) (defScope s_check_many_counting) .none kV_check_many_counting dc_check_many_counting pm_check_many_counting an_check_many_counting cd_check_many_counting ct_check_many_counting), sl_check_many_counting⟩) (c_check_many_counting : PySem.W.codeIn K cd_check_many_counting "check_many" = true) (k_check_many_counting : PySem.W.keepIn K (.ref a_check_many_counting) = true)
    (n_check_bounds : PySem.W.nsIn K mainGlobals "check_bounds" = some (some (.ref a_check_bounds))) (l_check_bounds : K.lookup a_check_bounds = some ⟨oc_check_bounds, od_check_bounds, .func (PySem.W.fnOf "check_bounds" "check_bounds" (defArgs s_check_bounds) (defBody s_check_bounds) (defScope s_check_bounds) .none kV_check_bounds dc_check_bounds pm_check_bounds an_check_bounds cd_check_bounds ct_check_bounds), sl_check_bounds⟩) (c_check_bounds : PySem.W.codeIn K cd_check_bounds "check_bounds" = true) (k_check_bounds : PySem.W.keepIn K (.ref a_check_bounds) = true)
    (n_ranges_with : PySem.W.nsIn K mainGlobals "ranges_with" = some (some (.ref a_ranges_with))) (l_ranges_with : K.lookup a_ranges_with = some ⟨oc_ranges_with, od_ranges_with, .func (PySem.W.fnOf "ranges_with" "ranges_with" (defArgs s_ranges_with) (defBody s_ranges_with) (defScope s_ranges_with) .none kV_ranges_with dc_ranges_with pm_ranges_with an_ranges_with cd_ranges_with ct_ranges_with), sl_ranges_with⟩) (c_ranges_with : PySem.W.codeIn K cd_ranges_with "ranges_with" = true) (k_ranges_with : PySem.W.keepIn K (.ref a_ranges_with) = true)
    (n_count_ranges_of : PySem.W.nsIn K mainGlobals "count_ranges_of" = some (some (.ref a_count_ranges_of))) (l_count_ranges_of : K.lookup a_count_ranges_of = some ⟨oc_count_ranges_of, od_count_ranges_of, .func (PySem.W.fnOf "count_ranges_of" "count_ranges_of" (defArgs s_count_ranges_of) (defBody s_count_ranges_of) (defScope s_count_ranges_of) .none kV_count_ranges_of dc_count_ranges_of pm_count_ranges_of an_count_ranges_of cd_count_ranges_of ct_count_ranges_of), sl_count_ranges_of⟩) (c_count_ranges_of : PySem.W.codeIn K cd_count_ranges_of "count_ranges_of" = true) (k_count_ranges_of : PySem.W.keepIn K (.ref a_count_ranges_of) = true)
    (n_first_range : PySem.W.nsIn K mainGlobals "first_range" = some (some (.ref a_first_range))) (l_first_range : K.lookup a_first_range = some ⟨oc_first_range, od_first_range, .func (PySem.W.fnOf "first_range" "first_range" (defArgs s_first_range) (defBody s_first_range) (defScope s_first_range) .none kV_first_range dc_first_range pm_first_range an_first_range cd_first_range ct_first_range), sl_first_range⟩) (c_first_range : PySem.W.codeIn K cd_first_range "first_range" = true) (k_first_range : PySem.W.keepIn K (.ref a_first_range) = true)
    (n_checked : PySem.W.nsIn K mainGlobals "checked" = some (some (.ref a_checked))) (l_checked : K.lookup a_checked = some ⟨oc_checked, od_checked, .func (PySem.W.fnOf "checked" "checked" (defArgs s_checked) (defBody s_checked) (defScope s_checked) .none kV_checked dc_checked pm_checked an_checked cd_checked ct_checked), sl_checked⟩) (c_checked : PySem.W.codeIn K cd_checked "checked" = true) (k_checked : PySem.W.keepIn K (.ref a_checked) = true)
    (n_moved : PySem.W.nsIn K mainGlobals "moved" = some (some (.ref a_moved))) (l_moved : K.lookup a_moved = some ⟨oc_moved, od_moved, .func (PySem.W.fnOf "moved" "moved" (defArgs s_moved) (defBody s_moved) (defScope s_moved) .none kV_moved dc_moved pm_moved an_moved cd_moved ct_moved), sl_moved⟩) (c_moved : PySem.W.codeIn K cd_moved "moved" = true) (k_moved : PySem.W.keepIn K (.ref a_moved) = true)
    (n_widened : PySem.W.nsIn K mainGlobals "widened" = some (some (.ref a_widened))) (l_widened : K.lookup a_widened = some ⟨oc_widened, od_widened, .func (PySem.W.fnOf "widened" "widened" (defArgs s_widened) (defBody s_widened) (defScope s_widened) .none kV_widened dc_widened pm_widened an_widened cd_widened ct_widened), sl_widened⟩) (c_widened : PySem.W.codeIn K cd_widened "widened" = true) (k_widened : PySem.W.keepIn K (.ref a_widened) = true)
    (n_listed : PySem.W.nsIn K mainGlobals "listed" = some (some (.ref a_listed))) (l_listed : K.lookup a_listed = some ⟨oc_listed, od_listed, .func (PySem.W.fnOf "listed" "listed" (defArgs s_listed) (defBody s_listed) (defScope s_listed) .none kV_listed dc_listed pm_listed an_listed cd_listed ct_listed), sl_listed⟩) (c_listed : PySem.W.codeIn K cd_listed "listed" = true) (k_listed : PySem.W.keepIn K (.ref a_listed) = true)
    (n_check_short : PySem.W.nsIn K mainGlobals "check_short" = some (some (.ref a_check_short))) (l_check_short : K.lookup a_check_short = some ⟨oc_check_short, od_check_short, .func (PySem.W.fnOf "check_short" "check_short" (defArgs s_check_short) (defBody s_check_short) (defScope s_check_short) .none kV_check_short dc_check_short pm_check_short an_check_short cd_check_short ct_check_short), sl_check_short⟩) (c_check_short : PySem.W.codeIn K cd_check_short "check_short" = true) (k_check_short : PySem.W.keepIn K (.ref a_check_short) = true)
    (n_come_and_go : PySem.W.nsIn K mainGlobals "come_and_go" = some (some (.ref a_come_and_go))) (l_come_and_go : K.lookup a_come_and_go = some ⟨oc_come_and_go, od_come_and_go, .func (PySem.W.fnOf "come_and_go" "come_and_go" (defArgs s_come_and_go) (defBody s_come_and_go) (defScope s_come_and_go) .none kV_come_and_go dc_come_and_go pm_come_and_go an_come_and_go cd_come_and_go ct_come_and_go), sl_come_and_go⟩) (c_come_and_go : PySem.W.codeIn K cd_come_and_go "come_and_go" = true) (k_come_and_go : PySem.W.keepIn K (.ref a_come_and_go) = true)
    (n_kept : PySem.W.nsIn K mainGlobals "kept" = some (some (.ref a_kept))) (l_kept : K.lookup a_kept = some ⟨oc_kept, od_kept, .func (PySem.W.fnOf "kept" "kept" (defArgs s_kept) (defBody s_kept) (defScope s_kept) .none kV_kept dc_kept pm_kept an_kept cd_kept ct_kept), sl_kept⟩) (c_kept : PySem.W.codeIn K cd_kept "kept" = true) (k_kept : PySem.W.keepIn K (.ref a_kept) = true)
    (n_zoomed_in : PySem.W.nsIn K mainGlobals "zoomed_in" = some (some (.ref a_zoomed_in))) (l_zoomed_in : K.lookup a_zoomed_in = some ⟨oc_zoomed_in, od_zoomed_in, .func (PySem.W.fnOf "zoomed_in" "zoomed_in" (defArgs s_zoomed_in) (defBody s_zoomed_in) (defScope s_zoomed_in) .none kV_zoomed_in dc_zoomed_in pm_zoomed_in an_zoomed_in cd_zoomed_in ct_zoomed_in), sl_zoomed_in⟩) (c_zoomed_in : PySem.W.codeIn K cd_zoomed_in "zoomed_in" = true) (k_zoomed_in : PySem.W.keepIn K (.ref a_zoomed_in) = true)
    (n_zoomed_out : PySem.W.nsIn K mainGlobals "zoomed_out" = some (some (.ref a_zoomed_out))) (l_zoomed_out : K.lookup a_zoomed_out = some ⟨oc_zoomed_out, od_zoomed_out, .func (PySem.W.fnOf "zoomed_out" "zoomed_out" (defArgs s_zoomed_out) (defBody s_zoomed_out) (defScope s_zoomed_out) .none kV_zoomed_out dc_zoomed_out pm_zoomed_out an_zoomed_out cd_zoomed_out ct_zoomed_out), sl_zoomed_out⟩) (c_zoomed_out : PySem.W.codeIn K cd_zoomed_out "zoomed_out" = true) (k_zoomed_out : PySem.W.keepIn K (.ref a_zoomed_out) = true)
    (n_turned_over : PySem.W.nsIn K mainGlobals "turned_over" = some (some (.ref a_turned_over))) (l_turned_over : K.lookup a_turned_over = some ⟨oc_turned_over, od_turned_over, .func (PySem.W.fnOf "turned_over" "turned_over" (defArgs s_turned_over) (defBody s_turned_over) (defScope s_turned_over) .none kV_turned_over dc_turned_over pm_turned_over an_turned_over cd_turned_over ct_turned_over), sl_turned_over⟩) (c_turned_over : PySem.W.codeIn K cd_turned_over "turned_over" = true) (k_turned_over : PySem.W.keepIn K (.ref a_turned_over) = true)
    (n_scaled : PySem.W.nsIn K mainGlobals "scaled" = some (some (.ref a_scaled))) (l_scaled : K.lookup a_scaled = some ⟨oc_scaled, od_scaled, .func (PySem.W.fnOf "scaled" "scaled" (defArgs s_scaled) (defBody s_scaled) (defScope s_scaled) .none kV_scaled dc_scaled pm_scaled an_scaled cd_scaled ct_scaled), sl_scaled⟩) (c_scaled : PySem.W.codeIn K cd_scaled "scaled" = true) (k_scaled : PySem.W.keepIn K (.ref a_scaled) = true)
    (n_format_range : PySem.W.nsIn K mainGlobals "format_range" = some (some (.ref a_format_range))) (l_format_range : K.lookup a_format_range = some ⟨oc_format_range, od_format_range, .func (PySem.W.fnOf "format_range" "format_range" (defArgs s_format_range) (defBody s_format_range) (defScope s_format_range) .none kV_format_range dc_format_range pm_format_range an_format_range cd_format_range ct_format_range), sl_format_range⟩) (c_format_range : PySem.W.codeIn K cd_format_range "format_range" = true) (k_format_range : PySem.W.keepIn K (.ref a_format_range) = true)
    (n_format_axis : PySem.W.nsIn K mainGlobals "format_axis" = some (some (.ref a_format_axis))) (l_format_axis : K.lookup a_format_axis = some ⟨oc_format_axis, od_format_axis, .func (PySem.W.fnOf "format_axis" "format_axis" (defArgs s_format_axis) (defBody s_format_axis) (defScope s_format_axis) .none kV_format_axis dc_format_axis pm_format_axis an_format_axis cd_format_axis ct_format_axis), sl_format_axis⟩) (c_format_axis : PySem.W.codeIn K cd_format_axis "format_axis" = true) (k_format_axis : PySem.W.keepIn K (.ref a_format_axis) = true)
    (n__law_start : PySem.W.nsIn K mainGlobals "_law_start" = some (some (.ref a__law_start))) (l__law_start : K.lookup a__law_start = some ⟨oc__law_start, od__law_start, .func (PySem.W.fnOf "_law_start" "_law_start" (defArgs s__law_start) (defBody s__law_start) (defScope s__law_start) .none kV__law_start dc__law_start pm__law_start an__law_start cd__law_start ct__law_start), sl__law_start⟩) (c__law_start : PySem.W.codeIn K cd__law_start "_law_start" = true) (k__law_start : PySem.W.keepIn K (.ref a__law_start) = true)
    (n__law_draw : PySem.W.nsIn K mainGlobals "_law_draw" = some (some (.ref a__law_draw))) (l__law_draw : K.lookup a__law_draw = some ⟨oc__law_draw, od__law_draw, .func (PySem.W.fnOf "_law_draw" "_law_draw" (defArgs s__law_draw) (defBody s__law_draw) (defScope s__law_draw) .none kV__law_draw dc__law_draw pm__law_draw an__law_draw cd__law_draw ct__law_draw), sl__law_draw⟩) (c__law_draw : PySem.W.codeIn K cd__law_draw "_law_draw" = true) (k__law_draw : PySem.W.keepIn K (.ref a__law_draw) = true)
    (n__law_error : PySem.W.nsIn K mainGlobals "_law_error" = some (some (.ref a__law_error))) (l__law_error : K.lookup a__law_error = some ⟨oc__law_error, od__law_error, .func (PySem.W.fnOf "_law_error" "_law_error" (defArgs s__law_error) (defBody s__law_error) (defScope s__law_error) .none kV__law_error dc__law_error pm__law_error an__law_error cd__law_error ct__law_error), sl__law_error⟩) (c__law_error : PySem.W.codeIn K cd__law_error "_law_error" = true) (k__law_error : PySem.W.keepIn K (.ref a__law_error) = true)
    (n__law_one : PySem.W.nsIn K mainGlobals "_law_one" = some (some (.ref a__law_one))) (l__law_one : K.lookup a__law_one = some ⟨oc__law_one, od__law_one, .func (PySem.W.fnOf "_law_one" "_law_one" (defArgs s__law_one) (defBody s__law_one) (defScope s__law_one) .none kV__law_one dc__law_one pm__law_one an__law_one cd__law_one ct__law_one), sl__law_one⟩) (c__law_one : PySem.W.codeIn K cd__law_one "_law_one" = true) (k__law_one : PySem.W.keepIn K (.ref a__law_one) = true)
    (n__law_two : PySem.W.nsIn K mainGlobals "_law_two" = some (some (.ref a__law_two))) (l__law_two : K.lookup a__law_two = some ⟨oc__law_two, od__law_two, .func (PySem.W.fnOf "_law_two" "_law_two" (defArgs s__law_two) (defBody s__law_two) (defScope s__law_two) .none kV__law_two dc__law_two pm__law_two an__law_two cd__law_two ct__law_two), sl__law_two⟩) (c__law_two : PySem.W.codeIn K cd__law_two "_law_two" = true) (k__law_two : PySem.W.keepIn K (.ref a__law_two) = true)
    (n__law_three : PySem.W.nsIn K mainGlobals "_law_three" = some (some (.ref a__law_three))) (l__law_three : K.lookup a__law_three = some ⟨oc__law_three, od__law_three, .func (PySem.W.fnOf "_law_three" "_law_three" (defArgs s__law_three) (defBody s__law_three) (defScope s__law_three) .none kV__law_three dc__law_three pm__law_three an__law_three cd__law_three ct__law_three), sl__law_three⟩) (c__law_three : PySem.W.codeIn K cd__law_three "_law_three" = true) (k__law_three : PySem.W.keepIn K (.ref a__law_three) = true)
    (n__law_asked : PySem.W.nsIn K mainGlobals "_law_asked" = some (some (.ref a__law_asked))) (l__law_asked : K.lookup a__law_asked = some ⟨oc__law_asked, od__law_asked, .func (PySem.W.fnOf "_law_asked" "_law_asked" (defArgs s__law_asked) (defBody s__law_asked) (defScope s__law_asked) .none kV__law_asked dc__law_asked pm__law_asked an__law_asked cd__law_asked ct__law_asked), sl__law_asked⟩) (c__law_asked : PySem.W.codeIn K cd__law_asked "_law_asked" = true) (k__law_asked : PySem.W.keepIn K (.ref a__law_asked) = true)
    (n__law_numbers : PySem.W.nsIn K mainGlobals "_law_numbers" = some (some (.ref a__law_numbers))) (l__law_numbers : K.lookup a__law_numbers = some ⟨oc__law_numbers, od__law_numbers, .func (PySem.W.fnOf "_law_numbers" "_law_numbers" (defArgs s__law_numbers) (defBody s__law_numbers) (defScope s__law_numbers) .none kV__law_numbers dc__law_numbers pm__law_numbers an__law_numbers cd__law_numbers ct__law_numbers), sl__law_numbers⟩) (c__law_numbers : PySem.W.codeIn K cd__law_numbers "_law_numbers" = true) (k__law_numbers : PySem.W.keepIn K (.ref a__law_numbers) = true)
    (n_law : PySem.W.nsIn K mainGlobals "law" = some (some (.ref a_law))) (l_law : K.lookup a_law = some ⟨oc_law, od_law, .func (PySem.W.fnOf "law" "law" (defArgs s_law) (defBody s_law) (defScope s_law) .none kV_law dc_law pm_law an_law cd_law ct_law), sl_law⟩) (c_law : PySem.W.codeIn K cd_law "law" = true) (k_law : PySem.W.keepIn K (.ref a_law) = true)
    (g_Axis : PySem.W.nsIn K mainGlobals "Axis" = some (some (.ref C_Axis))) (pg_Axis : PySem.W.plainGet K C_Axis Str.empty = true) (hd_Axis : PySem.W.hasDictIn K C_Axis = true) (po_Axis : PySem.W.plainOver K C_Axis = true) (sa_Axis : PySem.W.findIn K (.ref C_Axis) "__setattr__" = some (some (.builtin "object.__setattr__"))) (mk_Axis : PySem.W.makesIn K C_Axis = true) (kc_Axis : PySem.W.keepIn K (.ref C_Axis) = true)
    (na_Axis_now : PySem.W.findIn K (.ref C_Axis) "now" = some none)
    (na_Axis_most : PySem.W.findIn K (.ref C_Axis) "most" = some none)
    (na_Axis_past : PySem.W.findIn K (.ref C_Axis) "past" = some none)
    (at_Axis___init__ : PySem.W.findIn K (.ref C_Axis) "__init__" = some (some (.ref a_Axis___init__))) (if_Axis___init__ : PySem.W.isFn K (.ref a_Axis___init__) = true) (l_Axis___init__ : K.lookup a_Axis___init__ = some ⟨oc_Axis___init__, od_Axis___init__, .func (PySem.W.fnOf "__init__" "Axis.__init__" (defArgs s_Axis___init__) (defBody s_Axis___init__) (defScope s_Axis___init__) .none kV_Axis___init__ dc_Axis___init__ pm_Axis___init__ an_Axis___init__ cd_Axis___init__ ct_Axis___init__), sl_Axis___init__⟩) (c_Axis___init__ : PySem.W.codeIn K cd_Axis___init__ "Axis.__init__" = true) (k_Axis___init__ : PySem.W.keepIn K (.ref a_Axis___init__) = true)
    (at_Axis_step : PySem.W.findIn K (.ref C_Axis) "step" = some (some (.ref a_Axis_step))) (if_Axis_step : PySem.W.isFn K (.ref a_Axis_step) = true) (l_Axis_step : K.lookup a_Axis_step = some ⟨oc_Axis_step, od_Axis_step, .func (PySem.W.fnOf "step" "Axis.step" (defArgs s_Axis_step) (defBody s_Axis_step) (defScope s_Axis_step) .none kV_Axis_step dc_Axis_step pm_Axis_step an_Axis_step cd_Axis_step ct_Axis_step), sl_Axis_step⟩) (c_Axis_step : PySem.W.codeIn K cd_Axis_step "Axis.step" = true) (k_Axis_step : PySem.W.keepIn K (.ref a_Axis_step) = true)
    (at_Axis_marks : PySem.W.findIn K (.ref C_Axis) "marks" = some (some (.ref a_Axis_marks))) (if_Axis_marks : PySem.W.isFn K (.ref a_Axis_marks) = true) (l_Axis_marks : K.lookup a_Axis_marks = some ⟨oc_Axis_marks, od_Axis_marks, .func (PySem.W.fnOf "marks" "Axis.marks" (defArgs s_Axis_marks) (defBody s_Axis_marks) (defScope s_Axis_marks) .none kV_Axis_marks dc_Axis_marks pm_Axis_marks an_Axis_marks cd_Axis_marks ct_Axis_marks), sl_Axis_marks⟩) (c_Axis_marks : PySem.W.codeIn K cd_Axis_marks "Axis.marks" = true) (k_Axis_marks : PySem.W.keepIn K (.ref a_Axis_marks) = true)
    (at_Axis___len__ : PySem.W.findIn K (.ref C_Axis) "__len__" = some (some (.ref a_Axis___len__))) (if_Axis___len__ : PySem.W.isFn K (.ref a_Axis___len__) = true) (l_Axis___len__ : K.lookup a_Axis___len__ = some ⟨oc_Axis___len__, od_Axis___len__, .func (PySem.W.fnOf "__len__" "Axis.__len__" (defArgs s_Axis___len__) (defBody s_Axis___len__) (defScope s_Axis___len__) .none kV_Axis___len__ dc_Axis___len__ pm_Axis___len__ an_Axis___len__ cd_Axis___len__ ct_Axis___len__), sl_Axis___len__⟩) (c_Axis___len__ : PySem.W.codeIn K cd_Axis___len__ "Axis.__len__" = true) (k_Axis___len__ : PySem.W.keepIn K (.ref a_Axis___len__) = true)
    : Txt K mg where
  z_ValueError := PySem.W.mg_none_of X G z_ValueError
  z_abs := PySem.W.mg_none_of X G z_abs
  z_bool := PySem.W.mg_none_of X G z_bool
  z_int := PySem.W.mg_none_of X G z_int
  z_isinstance := PySem.W.mg_none_of X G z_isinstance
  z_len := PySem.W.mg_none_of X G z_len
  z_list := PySem.W.mg_none_of X G z_list
  z_max := PySem.W.mg_none_of X G z_max
  z_min := PySem.W.mg_none_of X G z_min
  z_range := PySem.W.mg_none_of X G z_range
  z_str := PySem.W.mg_none_of X G z_str
  z_tuple := PySem.W.mg_none_of X G z_tuple
  MOST := ⟨_, PySem.W.mg_of X G c_MOST, ⟨_, rfl⟩⟩
  MOST_LISTED := ⟨_, PySem.W.mg_of X G c_MOST_LISTED, ⟨_, rfl⟩⟩
  AxisError := ⟨C_AxisError, PySem.W.mg_of X G g_AxisError, k_AxisError, x_AxisError, b_AxisError, t_AxisError, ⟨ig_AxisError, ik_AxisError, b_AxisError, id_AxisError, ia_AxisError, cn, ct, im_AxisError⟩⟩
  BadMarks := ⟨C_BadMarks, PySem.W.mg_of X G g_BadMarks, k_BadMarks, x_BadMarks, b_BadMarks, t_BadMarks, ⟨ig_BadMarks, ik_BadMarks, b_BadMarks, id_BadMarks, ia_BadMarks, cn, ct, im_BadMarks⟩⟩
  BadNumber := ⟨C_BadNumber, PySem.W.mg_of X G g_BadNumber, k_BadNumber, x_BadNumber, b_BadNumber, t_BadNumber, ⟨ig_BadNumber, ik_BadNumber, b_BadNumber, id_BadNumber, ia_BadNumber, cn, ct, im_BadNumber⟩⟩
  BadRange := ⟨C_BadRange, PySem.W.mg_of X G g_BadRange, k_BadRange, x_BadRange, b_BadRange, t_BadRange, ⟨ig_BadRange, ik_BadRange, b_BadRange, id_BadRange, ia_BadRange, cn, ct, im_BadRange⟩⟩
  BadStep := ⟨C_BadStep, PySem.W.mg_of X G g_BadStep, k_BadStep, x_BadStep, b_BadStep, t_BadStep, ⟨ig_BadStep, ik_BadStep, b_BadStep, id_BadStep, ia_BadStep, cn, ct, im_BadStep⟩⟩
  BadText := ⟨C_BadText, PySem.W.mg_of X G g_BadText, k_BadText, x_BadText, b_BadText, t_BadText, ⟨ig_BadText, ik_BadText, b_BadText, id_BadText, ia_BadText, cn, ct, im_BadText⟩⟩
  NotFound := ⟨C_NotFound, PySem.W.mg_of X G g_NotFound, k_NotFound, x_NotFound, b_NotFound, t_NotFound, ⟨ig_NotFound, ik_NotFound, b_NotFound, id_NotFound, ia_NotFound, cn, ct, im_NotFound⟩⟩
  m_BadMarks := PySem.W.exm_ref b_AxisError id_AxisError t_AxisError u_BadMarks_AxisError
  q_BadMarks_AxisError := kit_true id_AxisError t_AxisError u_BadMarks_AxisError
  q_BadMarks_BadMarks := kit_true id_BadMarks t_BadMarks u_BadMarks_BadMarks
  q_BadMarks_BadNumber := kit_false u_BadMarks_BadMarks id_BadNumber t_BadNumber u_BadMarks_BadNumber
  q_BadMarks_BadRange := kit_false u_BadMarks_BadMarks id_BadRange t_BadRange u_BadMarks_BadRange
  q_BadMarks_BadStep := kit_false u_BadMarks_BadMarks id_BadStep t_BadStep u_BadMarks_BadStep
  q_BadMarks_BadText := kit_false u_BadMarks_BadMarks id_BadText t_BadText u_BadMarks_BadText
  q_BadMarks_NotFound := kit_false u_BadMarks_BadMarks id_NotFound t_NotFound u_BadMarks_NotFound
  q_BadMarks_ValueError := kit_ve v_BadMarks
  m_BadNumber := PySem.W.exm_ref b_AxisError id_AxisError t_AxisError u_BadNumber_AxisError
  q_BadNumber_AxisError := kit_true id_AxisError t_AxisError u_BadNumber_AxisError
  q_BadNumber_BadMarks := kit_false u_BadNumber_BadNumber id_BadMarks t_BadMarks u_BadNumber_BadMarks
  q_BadNumber_BadNumber := kit_true id_BadNumber t_BadNumber u_BadNumber_BadNumber
  q_BadNumber_BadRange := kit_false u_BadNumber_BadNumber id_BadRange t_BadRange u_BadNumber_BadRange
  q_BadNumber_BadStep := kit_false u_BadNumber_BadNumber id_BadStep t_BadStep u_BadNumber_BadStep
  q_BadNumber_BadText := kit_false u_BadNumber_BadNumber id_BadText t_BadText u_BadNumber_BadText
  q_BadNumber_NotFound := kit_false u_BadNumber_BadNumber id_NotFound t_NotFound u_BadNumber_NotFound
  q_BadNumber_ValueError := kit_ve v_BadNumber
  m_BadRange := PySem.W.exm_ref b_AxisError id_AxisError t_AxisError u_BadRange_AxisError
  q_BadRange_AxisError := kit_true id_AxisError t_AxisError u_BadRange_AxisError
  q_BadRange_BadMarks := kit_false u_BadRange_BadRange id_BadMarks t_BadMarks u_BadRange_BadMarks
  q_BadRange_BadNumber := kit_false u_BadRange_BadRange id_BadNumber t_BadNumber u_BadRange_BadNumber
  q_BadRange_BadRange := kit_true id_BadRange t_BadRange u_BadRange_BadRange
  q_BadRange_BadStep := kit_false u_BadRange_BadRange id_BadStep t_BadStep u_BadRange_BadStep
  q_BadRange_BadText := kit_false u_BadRange_BadRange id_BadText t_BadText u_BadRange_BadText
  q_BadRange_NotFound := kit_false u_BadRange_BadRange id_NotFound t_NotFound u_BadRange_NotFound
  q_BadRange_ValueError := kit_ve v_BadRange
  m_BadStep := PySem.W.exm_ref b_AxisError id_AxisError t_AxisError u_BadStep_AxisError
  q_BadStep_AxisError := kit_true id_AxisError t_AxisError u_BadStep_AxisError
  q_BadStep_BadMarks := kit_false u_BadStep_BadStep id_BadMarks t_BadMarks u_BadStep_BadMarks
  q_BadStep_BadNumber := kit_false u_BadStep_BadStep id_BadNumber t_BadNumber u_BadStep_BadNumber
  q_BadStep_BadRange := kit_false u_BadStep_BadStep id_BadRange t_BadRange u_BadStep_BadRange
  q_BadStep_BadStep := kit_true id_BadStep t_BadStep u_BadStep_BadStep
  q_BadStep_BadText := kit_false u_BadStep_BadStep id_BadText t_BadText u_BadStep_BadText
  q_BadStep_NotFound := kit_false u_BadStep_BadStep id_NotFound t_NotFound u_BadStep_NotFound
  q_BadStep_ValueError := kit_ve v_BadStep
  m_BadText := PySem.W.exm_ref b_AxisError id_AxisError t_AxisError u_BadText_AxisError
  q_BadText_AxisError := kit_true id_AxisError t_AxisError u_BadText_AxisError
  q_BadText_BadMarks := kit_false u_BadText_BadText id_BadMarks t_BadMarks u_BadText_BadMarks
  q_BadText_BadNumber := kit_false u_BadText_BadText id_BadNumber t_BadNumber u_BadText_BadNumber
  q_BadText_BadRange := kit_false u_BadText_BadText id_BadRange t_BadRange u_BadText_BadRange
  q_BadText_BadStep := kit_false u_BadText_BadText id_BadStep t_BadStep u_BadText_BadStep
  q_BadText_BadText := kit_true id_BadText t_BadText u_BadText_BadText
  q_BadText_NotFound := kit_false u_BadText_BadText id_NotFound t_NotFound u_BadText_NotFound
  q_BadText_ValueError := kit_ve v_BadText
  m_NotFound := PySem.W.exm_ref b_AxisError id_AxisError t_AxisError u_NotFound_AxisError
  q_NotFound_AxisError := kit_true id_AxisError t_AxisError u_NotFound_AxisError
  q_NotFound_BadMarks := kit_false u_NotFound_NotFound id_BadMarks t_BadMarks u_NotFound_BadMarks
  q_NotFound_BadNumber := kit_false u_NotFound_NotFound id_BadNumber t_BadNumber u_NotFound_BadNumber
  q_NotFound_BadRange := kit_false u_NotFound_NotFound id_BadRange t_BadRange u_NotFound_BadRange
  q_NotFound_BadStep := kit_false u_NotFound_NotFound id_BadStep t_BadStep u_NotFound_BadStep
  q_NotFound_BadText := kit_false u_NotFound_NotFound id_BadText t_BadText u_NotFound_BadText
  q_NotFound_NotFound := kit_true id_NotFound t_NotFound u_NotFound_NotFound
  q_NotFound_ValueError := kit_ve v_NotFound
  is_int := ⟨a_is_int, _, fun_mk (st := s_is_int) l_is_int c_is_int k_is_int, PySem.W.mg_of X G n_is_int, (fun_mk (st := s_is_int) l_is_int c_is_int k_is_int).binds (ps := ["value", "low", "high"]) fun _ _ _ _ _ _ us hl => match us, hl with | [_, _, _], _ => rfl⟩
  is_range := ⟨a_is_range, _, fun_mk (st := s_is_range) l_is_range c_is_range k_is_range, PySem.W.mg_of X G n_is_range, (fun_mk (st := s_is_range) l_is_range c_is_range k_is_range).binds (ps := ["value"]) fun _ _ _ _ _ _ us hl => match us, hl with | [_], _ => rfl⟩
  check_range := ⟨a_check_range, _, fun_mk (st := s_check_range) l_check_range c_check_range k_check_range, PySem.W.mg_of X G n_check_range, (fun_mk (st := s_check_range) l_check_range c_check_range k_check_range).binds (ps := ["value"]) fun _ _ _ _ _ _ us hl => match us, hl with | [_], _ => rfl⟩
  nice_steps := ⟨a_nice_steps, _, fun_mk (st := s_nice_steps) l_nice_steps c_nice_steps k_nice_steps, PySem.W.mg_of X G n_nice_steps, (fun_mk (st := s_nice_steps) l_nice_steps c_nice_steps k_nice_steps).binds (ps := []) fun _ _ _ _ _ _ us hl => match us, hl with | [], _ => rfl⟩
  is_nice := ⟨a_is_nice, _, fun_mk (st := s_is_nice) l_is_nice c_is_nice k_is_nice, PySem.W.mg_of X G n_is_nice, (fun_mk (st := s_is_nice) l_is_nice c_is_nice k_is_nice).binds (ps := ["value"]) fun _ _ _ _ _ _ us hl => match us, hl with | [_], _ => rfl⟩
  check_step := ⟨a_check_step, _, fun_mk (st := s_check_step) l_check_step c_check_step k_check_step, PySem.W.mg_of X G n_check_step, (fun_mk (st := s_check_step) l_check_step c_check_step k_check_step).binds (ps := ["value"]) fun _ _ _ _ _ _ us hl => match us, hl with | [_], _ => rfl⟩
  count_of := ⟨a_count_of, _, fun_mk (st := s_count_of) l_count_of c_count_of k_count_of, PySem.W.mg_of X G n_count_of, (fun_mk (st := s_count_of) l_count_of c_count_of k_count_of).binds (ps := ["span", "step"]) fun _ _ _ _ _ _ us hl => match us, hl with | [_, _], _ => rfl⟩
  count_marks := ⟨a_count_marks, _, fun_mk (st := s_count_marks) l_count_marks c_count_marks k_count_marks, PySem.W.mg_of X G n_count_marks, (fun_mk (st := s_count_marks) l_count_marks c_count_marks k_count_marks).binds (ps := ["span", "step"]) fun _ _ _ _ _ _ us hl => match us, hl with | [_, _], _ => rfl⟩
  first_of := ⟨a_first_of, _, fun_mk (st := s_first_of) l_first_of c_first_of k_first_of, PySem.W.mg_of X G n_first_of, (fun_mk (st := s_first_of) l_first_of c_first_of k_first_of).binds (ps := ["span", "step"]) fun _ _ _ _ _ _ us hl => match us, hl with | [_, _], _ => rfl⟩
  first_mark := ⟨a_first_mark, _, fun_mk (st := s_first_mark) l_first_mark c_first_mark k_first_mark, PySem.W.mg_of X G n_first_mark, (fun_mk (st := s_first_mark) l_first_mark c_first_mark k_first_mark).binds (ps := ["span", "step"]) fun _ _ _ _ _ _ us hl => match us, hl with | [_, _], _ => rfl⟩
  last_mark := ⟨a_last_mark, _, fun_mk (st := s_last_mark) l_last_mark c_last_mark k_last_mark, PySem.W.mg_of X G n_last_mark, (fun_mk (st := s_last_mark) l_last_mark c_last_mark k_last_mark).binds (ps := ["span", "step"]) fun _ _ _ _ _ _ us hl => match us, hl with | [_, _], _ => rfl⟩
  mark_at := ⟨a_mark_at, _, fun_mk (st := s_mark_at) l_mark_at c_mark_at k_mark_at, PySem.W.mg_of X G n_mark_at, (fun_mk (st := s_mark_at) l_mark_at c_mark_at k_mark_at).binds (ps := ["span", "step", "place"]) fun _ _ _ _ _ _ us hl => match us, hl with | [_, _, _], _ => rfl⟩
  marks := ⟨a_marks, _, fun_mk (st := s_marks) l_marks c_marks k_marks, PySem.W.mg_of X G n_marks, (fun_mk (st := s_marks) l_marks c_marks k_marks).binds (ps := ["span", "step"]) fun _ _ _ _ _ _ us hl => match us, hl with | [_, _], _ => rfl⟩
  gaps := ⟨a_gaps, _, fun_mk (st := s_gaps) l_gaps c_gaps k_gaps, PySem.W.mg_of X G n_gaps, (fun_mk (st := s_gaps) l_gaps c_gaps k_gaps).binds (ps := ["span", "step"]) fun _ _ _ _ _ _ us hl => match us, hl with | [_, _], _ => rfl⟩
  is_mark := ⟨a_is_mark, _, fun_mk (st := s_is_mark) l_is_mark c_is_mark k_is_mark, PySem.W.mg_of X G n_is_mark, (fun_mk (st := s_is_mark) l_is_mark c_is_mark k_is_mark).binds (ps := ["span", "step", "value"]) fun _ _ _ _ _ _ us hl => match us, hl with | [_, _, _], _ => rfl⟩
  check_many_choosing := ⟨a_check_many_choosing, _, fun_mk (st := s_check_many_choosing) l_check_many_choosing c_check_many_choosing k_check_many_choosing, PySem.W.mg_of X G n_check_many_choosing, (fun_mk (st := s_check_many_choosing) l_check_many_choosing c_check_many_choosing k_check_many_choosing).binds (ps := ["value"]) fun _ _ _ _ _ _ us hl => match us, hl with | [_], _ => rfl⟩
  counts := ⟨a_counts, _, fun_mk (st := s_counts) l_counts c_counts k_counts, PySem.W.mg_of X G n_counts, (fun_mk (st := s_counts) l_counts c_counts k_counts).binds (ps := ["span"]) fun _ _ _ _ _ _ us hl => match us, hl with | [_], _ => rfl⟩
  with_most := ⟨a_with_most, _, fun_mk (st := s_with_most) l_with_most c_with_most k_with_most, PySem.W.mg_of X G n_with_most, (fun_mk (st := s_with_most) l_with_most c_with_most k_with_most).binds (ps := ["span", "most"]) fun _ _ _ _ _ _ us hl => match us, hl with | [_, _], _ => rfl⟩
  with_least := ⟨a_with_least, _, fun_mk (st := s_with_least) l_with_least c_with_least k_with_least, PySem.W.mg_of X G n_with_least, (fun_mk (st := s_with_least) l_with_least c_with_least k_with_least).binds (ps := ["span", "least"]) fun _ _ _ _ _ _ us hl => match us, hl with | [_, _], _ => rfl⟩
  steps_between := ⟨a_steps_between, _, fun_mk (st := s_steps_between) l_steps_between c_steps_between k_steps_between, PySem.W.mg_of X G n_steps_between, (fun_mk (st := s_steps_between) l_steps_between c_steps_between k_steps_between).binds (ps := ["span", "least", "most"]) fun _ _ _ _ _ _ us hl => match us, hl with | [_, _, _], _ => rfl⟩
  nearest_to := ⟨a_nearest_to, _, fun_mk (st := s_nearest_to) l_nearest_to c_nearest_to k_nearest_to, PySem.W.mg_of X G n_nearest_to, (fun_mk (st := s_nearest_to) l_nearest_to c_nearest_to k_nearest_to).binds (ps := ["span", "wanted"]) fun _ _ _ _ _ _ us hl => match us, hl with | [_, _], _ => rfl⟩
  out_of_order := ⟨a_out_of_order, _, fun_mk (st := s_out_of_order) l_out_of_order c_out_of_order k_out_of_order, PySem.W.mg_of X G n_out_of_order, (fun_mk (st := s_out_of_order) l_out_of_order c_out_of_order k_out_of_order).binds (ps := ["span"]) fun _ _ _ _ _ _ us hl => match us, hl with | [_], _ => rfl⟩
  empty_steps := ⟨a_empty_steps, _, fun_mk (st := s_empty_steps) l_empty_steps c_empty_steps k_empty_steps, PySem.W.mg_of X G n_empty_steps, (fun_mk (st := s_empty_steps) l_empty_steps c_empty_steps k_empty_steps).binds (ps := ["span"]) fun _ _ _ _ _ _ us hl => match us, hl with | [_], _ => rfl⟩
  outward := ⟨a_outward, _, fun_mk (st := s_outward) l_outward c_outward k_outward, PySem.W.mg_of X G n_outward, (fun_mk (st := s_outward) l_outward c_outward k_outward).binds (ps := ["span", "step"]) fun _ _ _ _ _ _ us hl => match us, hl with | [_, _], _ => rfl⟩
  inward := ⟨a_inward, _, fun_mk (st := s_inward) l_inward c_inward k_inward, PySem.W.mg_of X G n_inward, (fun_mk (st := s_inward) l_inward c_inward k_inward).binds (ps := ["span", "step"]) fun _ _ _ _ _ _ us hl => match us, hl with | [_, _], _ => rfl⟩
  is_round := ⟨a_is_round, _, fun_mk (st := s_is_round) l_is_round c_is_round k_is_round, PySem.W.mg_of X G n_is_round, (fun_mk (st := s_is_round) l_is_round c_is_round k_is_round).binds (ps := ["span", "step"]) fun _ _ _ _ _ _ us hl => match us, hl with | [_, _], _ => rfl⟩
  joined := ⟨a_joined, _, fun_mk (st := s_joined) l_joined c_joined k_joined, PySem.W.mg_of X G n_joined, (fun_mk (st := s_joined) l_joined c_joined k_joined).binds (ps := ["span", "other"]) fun _ _ _ _ _ _ us hl => match us, hl with | [_, _], _ => rfl⟩
  met := ⟨a_met, _, fun_mk (st := s_met) l_met c_met k_met, PySem.W.mg_of X G n_met, (fun_mk (st := s_met) l_met c_met k_met).binds (ps := ["span", "other"]) fun _ _ _ _ _ _ us hl => match us, hl with | [_, _], _ => rfl⟩
  spare := ⟨a_spare, _, fun_mk (st := s_spare) l_spare c_spare k_spare, PySem.W.mg_of X G n_spare, (fun_mk (st := s_spare) l_spare c_spare k_spare).binds (ps := ["span", "step"]) fun _ _ _ _ _ _ us hl => match us, hl with | [_, _], _ => rfl⟩
  shared_marks := ⟨a_shared_marks, _, fun_mk (st := s_shared_marks) l_shared_marks c_shared_marks k_shared_marks, PySem.W.mg_of X G n_shared_marks, (fun_mk (st := s_shared_marks) l_shared_marks c_shared_marks k_shared_marks).binds (ps := ["span", "step", "other"]) fun _ _ _ _ _ _ us hl => match us, hl with | [_, _, _], _ => rfl⟩
  check_many_counting := ⟨a_check_many_counting, _, fun_mk (st := s_check_many_counting) l_check_many_counting c_check_many_counting k_check_many_counting, PySem.W.mg_of X G n_check_many_counting, (fun_mk (st := s_check_many_counting) l_check_many_counting c_check_many_counting k_check_many_counting).binds (ps := ["value"]) fun _ _ _ _ _ _ us hl => match us, hl with | [_], _ => rfl⟩
  check_bounds := ⟨a_check_bounds, _, fun_mk (st := s_check_bounds) l_check_bounds c_check_bounds k_check_bounds, PySem.W.mg_of X G n_check_bounds, (fun_mk (st := s_check_bounds) l_check_bounds c_check_bounds k_check_bounds).binds (ps := ["bounds"]) fun _ _ _ _ _ _ us hl => match us, hl with | [_], _ => rfl⟩
  ranges_with := ⟨a_ranges_with, _, fun_mk (st := s_ranges_with) l_ranges_with c_ranges_with k_ranges_with, PySem.W.mg_of X G n_ranges_with, (fun_mk (st := s_ranges_with) l_ranges_with c_ranges_with k_ranges_with).binds (ps := ["bounds", "step", "many"]) fun _ _ _ _ _ _ us hl => match us, hl with | [_, _, _], _ => rfl⟩
  count_ranges_of := ⟨a_count_ranges_of, _, fun_mk (st := s_count_ranges_of) l_count_ranges_of c_count_ranges_of k_count_ranges_of, PySem.W.mg_of X G n_count_ranges_of, (fun_mk (st := s_count_ranges_of) l_count_ranges_of c_count_ranges_of k_count_ranges_of).binds (ps := ["bounds", "step", "many"]) fun _ _ _ _ _ _ us hl => match us, hl with | [_, _, _], _ => rfl⟩
  first_range := ⟨a_first_range, _, fun_mk (st := s_first_range) l_first_range c_first_range k_first_range, PySem.W.mg_of X G n_first_range, (fun_mk (st := s_first_range) l_first_range c_first_range k_first_range).binds (ps := ["bounds", "step", "many"]) fun _ _ _ _ _ _ us hl => match us, hl with | [_, _, _], _ => rfl⟩
  checked := ⟨a_checked, _, fun_mk (st := s_checked) l_checked c_checked k_checked, PySem.W.mg_of X G n_checked, (fun_mk (st := s_checked) l_checked c_checked k_checked).binds (ps := ["span"]) fun _ _ _ _ _ _ us hl => match us, hl with | [_], _ => rfl⟩
  moved := ⟨a_moved, _, fun_mk (st := s_moved) l_moved c_moved k_moved, PySem.W.mg_of X G n_moved, (fun_mk (st := s_moved) l_moved c_moved k_moved).binds (ps := ["span", "by"]) fun _ _ _ _ _ _ us hl => match us, hl with | [_, _], _ => rfl⟩
  widened := ⟨a_widened, _, fun_mk (st := s_widened) l_widened c_widened k_widened, PySem.W.mg_of X G n_widened, (fun_mk (st := s_widened) l_widened c_widened k_widened).binds (ps := ["span", "low", "high"]) fun _ _ _ _ _ _ us hl => match us, hl with | [_, _, _], _ => rfl⟩
  listed := ⟨a_listed, _, fun_mk (st := s_listed) l_listed c_listed k_listed, PySem.W.mg_of X G n_listed, (fun_mk (st := s_listed) l_listed c_listed k_listed).binds (ps := ["span", "step"]) fun _ _ _ _ _ _ us hl => match us, hl with | [_, _], _ => rfl⟩
  check_short := ⟨a_check_short, _, fun_mk (st := s_check_short) l_check_short c_check_short k_check_short, PySem.W.mg_of X G n_check_short, (fun_mk (st := s_check_short) l_check_short c_check_short k_check_short).binds (ps := ["span", "step"]) fun _ _ _ _ _ _ us hl => match us, hl with | [_, _], _ => rfl⟩
  come_and_go := ⟨a_come_and_go, _, fun_mk (st := s_come_and_go) l_come_and_go c_come_and_go k_come_and_go, PySem.W.mg_of X G n_come_and_go, (fun_mk (st := s_come_and_go) l_come_and_go c_come_and_go k_come_and_go).binds (ps := ["span", "other", "step"]) fun _ _ _ _ _ _ us hl => match us, hl with | [_, _, _], _ => rfl⟩
  kept := ⟨a_kept, _, fun_mk (st := s_kept) l_kept c_kept k_kept, PySem.W.mg_of X G n_kept, (fun_mk (st := s_kept) l_kept c_kept k_kept).binds (ps := ["span", "other", "step", "far_step"]) fun _ _ _ _ _ _ us hl => match us, hl with | [_, _, _, _], _ => rfl⟩
  zoomed_in := ⟨a_zoomed_in, _, fun_mk (st := s_zoomed_in) l_zoomed_in c_zoomed_in k_zoomed_in, PySem.W.mg_of X G n_zoomed_in, (fun_mk (st := s_zoomed_in) l_zoomed_in c_zoomed_in k_zoomed_in).binds (ps := ["span", "by"]) fun _ _ _ _ _ _ us hl => match us, hl with | [_, _], _ => rfl⟩
  zoomed_out := ⟨a_zoomed_out, _, fun_mk (st := s_zoomed_out) l_zoomed_out c_zoomed_out k_zoomed_out, PySem.W.mg_of X G n_zoomed_out, (fun_mk (st := s_zoomed_out) l_zoomed_out c_zoomed_out k_zoomed_out).binds (ps := ["span", "by"]) fun _ _ _ _ _ _ us hl => match us, hl with | [_, _], _ => rfl⟩
  turned_over := ⟨a_turned_over, _, fun_mk (st := s_turned_over) l_turned_over c_turned_over k_turned_over, PySem.W.mg_of X G n_turned_over, (fun_mk (st := s_turned_over) l_turned_over c_turned_over k_turned_over).binds (ps := ["span"]) fun _ _ _ _ _ _ us hl => match us, hl with | [_], _ => rfl⟩
  scaled := ⟨a_scaled, _, fun_mk (st := s_scaled) l_scaled c_scaled k_scaled, PySem.W.mg_of X G n_scaled, (fun_mk (st := s_scaled) l_scaled c_scaled k_scaled).binds (ps := ["span", "power"]) fun _ _ _ _ _ _ us hl => match us, hl with | [_, _], _ => rfl⟩
  format_range := ⟨a_format_range, _, fun_mk (st := s_format_range) l_format_range c_format_range k_format_range, PySem.W.mg_of X G n_format_range, (fun_mk (st := s_format_range) l_format_range c_format_range k_format_range).binds (ps := ["span"]) fun _ _ _ _ _ _ us hl => match us, hl with | [_], _ => rfl⟩
  format_axis := ⟨a_format_axis, _, fun_mk (st := s_format_axis) l_format_axis c_format_axis k_format_axis, PySem.W.mg_of X G n_format_axis, (fun_mk (st := s_format_axis) l_format_axis c_format_axis k_format_axis).binds (ps := ["span", "step"]) fun _ _ _ _ _ _ us hl => match us, hl with | [_, _], _ => rfl⟩
  _law_start := ⟨a__law_start, _, fun_mk (st := s__law_start) l__law_start c__law_start k__law_start, PySem.W.mg_of X G n__law_start, (fun_mk (st := s__law_start) l__law_start c__law_start k__law_start).binds (ps := ["_law_script"]) fun _ _ _ _ _ _ us hl => match us, hl with | [_], _ => rfl⟩
  _law_draw := ⟨a__law_draw, _, fun_mk (st := s__law_draw) l__law_draw c__law_draw k__law_draw, PySem.W.mg_of X G n__law_draw, (fun_mk (st := s__law_draw) l__law_draw c__law_draw k__law_draw).binds (ps := ["_law_draws", "_law_limit"]) fun _ _ _ _ _ _ us hl => match us, hl with | [_, _], _ => rfl⟩
  _law_error := ⟨a__law_error, _, fun_mk (st := s__law_error) l__law_error c__law_error k__law_error, PySem.W.mg_of X G n__law_error, (fun_mk (st := s__law_error) l__law_error c__law_error k__law_error).binds (ps := ["_law_caught"]) fun _ _ _ _ _ _ us hl => match us, hl with | [_], _ => rfl⟩
  _law_one := ⟨a__law_one, _, fun_mk (st := s__law_one) l__law_one c__law_one k__law_one, PySem.W.mg_of X G n__law_one, (fun_mk (st := s__law_one) l__law_one c__law_one k__law_one).binds (ps := ["_law_kind", "_law_span"]) fun _ _ _ _ _ _ us hl => match us, hl with | [_, _], _ => rfl⟩
  _law_two := ⟨a__law_two, _, fun_mk (st := s__law_two) l__law_two c__law_two k__law_two, PySem.W.mg_of X G n__law_two, (fun_mk (st := s__law_two) l__law_two c__law_two k__law_two).binds (ps := ["_law_kind", "_law_span", "_law_step"]) fun _ _ _ _ _ _ us hl => match us, hl with | [_, _, _], _ => rfl⟩
  _law_three := ⟨a__law_three, _, fun_mk (st := s__law_three) l__law_three c__law_three k__law_three, PySem.W.mg_of X G n__law_three, (fun_mk (st := s__law_three) l__law_three c__law_three k__law_three).binds (ps := ["_law_kind", "_law_span", "_law_thing"]) fun _ _ _ _ _ _ us hl => match us, hl with | [_, _, _], _ => rfl⟩
  _law_asked := ⟨a__law_asked, _, fun_mk (st := s__law_asked) l__law_asked c__law_asked k__law_asked, PySem.W.mg_of X G n__law_asked, (fun_mk (st := s__law_asked) l__law_asked c__law_asked k__law_asked).binds (ps := ["_law_group", "_law_kind", "_law_span", "_law_thing"]) fun _ _ _ _ _ _ us hl => match us, hl with | [_, _, _, _], _ => rfl⟩
  _law_numbers := ⟨a__law_numbers, _, fun_mk (st := s__law_numbers) l__law_numbers c__law_numbers k__law_numbers, PySem.W.mg_of X G n__law_numbers, (fun_mk (st := s__law_numbers) l__law_numbers c__law_numbers k__law_numbers).binds (ps := []) fun _ _ _ _ _ _ us hl => match us, hl with | [], _ => rfl⟩
  law := ⟨a_law, _, fun_mk (st := s_law) l_law c_law k_law, PySem.W.mg_of X G n_law, (fun_mk (st := s_law) l_law c_law k_law).binds (ps := ["_law_script"]) fun _ _ _ _ _ _ us hl => match us, hl with | [_], _ => rfl⟩
  Axis := ⟨C_Axis, PySem.W.mg_of X G g_Axis, ⟨pg_Axis, hd_Axis, po_Axis, sa_Axis⟩⟩
  Axis_n_now := na_Axis_now
  Axis_n_most := na_Axis_most
  Axis_n_past := na_Axis_past
  Axis___init__ := ⟨a_Axis___init__, _, fun_mk (st := s_Axis___init__) l_Axis___init__ c_Axis___init__ k_Axis___init__, (fun_mk (st := s_Axis___init__) l_Axis___init__ c_Axis___init__ k_Axis___init__).binds (ps := ["self", "span", "most"]) fun _ _ _ _ _ _ us hl => match us, hl with | [_, _, _], _ => rfl, ⟨at_Axis___init__, if_Axis___init__, k_Axis___init__⟩⟩
  Axis_mk := ⟨mk_Axis, at_Axis___init__, if_Axis___init__, kc_Axis⟩
  Axis_step := ⟨a_Axis_step, _, fun_mk (st := s_Axis_step) l_Axis_step c_Axis_step k_Axis_step, (fun_mk (st := s_Axis_step) l_Axis_step c_Axis_step k_Axis_step).binds (ps := ["self"]) fun _ _ _ _ _ _ us hl => match us, hl with | [_], _ => rfl, ⟨at_Axis_step, if_Axis_step, k_Axis_step⟩⟩
  Axis_marks := ⟨a_Axis_marks, _, fun_mk (st := s_Axis_marks) l_Axis_marks c_Axis_marks k_Axis_marks, (fun_mk (st := s_Axis_marks) l_Axis_marks c_Axis_marks k_Axis_marks).binds (ps := ["self"]) fun _ _ _ _ _ _ us hl => match us, hl with | [_], _ => rfl, ⟨at_Axis_marks, if_Axis_marks, k_Axis_marks⟩⟩
  Axis___len__ := ⟨a_Axis___len__, _, fun_mk (st := s_Axis___len__) l_Axis___len__ c_Axis___len__ k_Axis___len__, (fun_mk (st := s_Axis___len__) l_Axis___len__ c_Axis___len__ k_Axis___len__).binds (ps := ["self"]) fun _ _ _ _ _ _ us hl => match us, hl with | [_], _ => rfl, ⟨at_Axis___len__, if_Axis___len__, k_Axis___len__⟩⟩
theorem all_mk {l : PySem.W.OpenLaw} {w : World} {K : PySem.W.Frag} {mg : Str → Option Value} {fa : Addr} (hfa : mg "law" = some (.ref fa)) (T : Txt K mg)
    (hb : ∀ (s : Shared) (v : Value), BindsTo s T.law.fd ⟨[v], []⟩ [("_law_script", v)]) :
    ∃ fd : FuncData, (∀ (s : Shared) (v : Value), BindsTo s fd ⟨[v], []⟩ [("_law_script", v)]) ∧ ∀ base : Heap, K.In base → base.Ns mainGlobals mg → FnOk l.prog w K mg base CX0 9 fa fd ["_law_script"] (sp_lawK K) := by
  have e : fa = T.law.f := by
    have q := hfa.symm.trans T.law.g
    cases q
    rfl
  subst e
  exact ⟨T.law.fd, hb, fun base _ _ => ok_law T⟩
end AxL
open PySem PySem.W PyProof.Rows
set_option maxHeartbeats 0 in
theorem PySem.Challenge.cw_axissteps_k15_errors_holds : PySem.Challenge.rw_axissteps_k15_errors.Holds := by
  w_on; o_law; k_head; (case hw => w_witness2)
  k_fill
  refine L2.walk_ofK (l := PySem.Challenge.rw_axissteps_k15_errors) (n := 63) (k := 9) (x := "_law_script") (CX := L2.CX0) (sp := AxL.sp_lawK) rfl (by decide) rfl ⟨rfl, by decide, by decide⟩ (fun w h Y => PySem.W.kIn_of Y) ?F (fun K H a ns hl hO hS => ⟨a, ns, rfl, hS, hl, hO, fun _ => rfl⟩) (fun _ _ _ _ h => h)
  case F =>
    intro w mg fa h KX G hmg
    refine' AxL.all_mk hmg (AxL.mkT KX G ?z_ValueError ?z_abs ?z_bool ?z_int ?z_isinstance ?z_len ?z_list ?z_max ?z_min ?z_range ?z_str ?z_tuple ?c_MOST ?c_MOST_LISTED ?cn ?ct ?g_AxisError ?k_AxisError ?x_AxisError ?b_AxisError ?t_AxisError ?ig_AxisError ?ik_AxisError ?id_AxisError ?ia_AxisError ?im_AxisError ?g_BadMarks ?k_BadMarks ?x_BadMarks ?b_BadMarks ?t_BadMarks ?ig_BadMarks ?ik_BadMarks ?id_BadMarks ?ia_BadMarks ?im_BadMarks ?g_BadNumber ?k_BadNumber ?x_BadNumber ?b_BadNumber ?t_BadNumber ?ig_BadNumber ?ik_BadNumber ?id_BadNumber ?ia_BadNumber ?im_BadNumber ?g_BadRange ?k_BadRange ?x_BadRange ?b_BadRange ?t_BadRange ?ig_BadRange ?ik_BadRange ?id_BadRange ?ia_BadRange ?im_BadRange ?g_BadStep ?k_BadStep ?x_BadStep ?b_BadStep ?t_BadStep ?ig_BadStep ?ik_BadStep ?id_BadStep ?ia_BadStep ?im_BadStep ?g_BadText ?k_BadText ?x_BadText ?b_BadText ?t_BadText ?ig_BadText ?ik_BadText ?id_BadText ?ia_BadText ?im_BadText ?g_NotFound ?k_NotFound ?x_NotFound ?b_NotFound ?t_NotFound ?ig_NotFound ?ik_NotFound ?id_NotFound ?ia_NotFound ?im_NotFound ?u_BadMarks_AxisError ?u_BadMarks_BadMarks ?u_BadMarks_BadNumber ?u_BadMarks_BadRange ?u_BadMarks_BadStep ?u_BadMarks_BadText ?u_BadMarks_NotFound ?v_BadMarks ?u_BadNumber_AxisError ?u_BadNumber_BadMarks ?u_BadNumber_BadNumber ?u_BadNumber_BadRange ?u_BadNumber_BadStep ?u_BadNumber_BadText ?u_BadNumber_NotFound ?v_BadNumber ?u_BadRange_AxisError ?u_BadRange_BadMarks ?u_BadRange_BadNumber ?u_BadRange_BadRange ?u_BadRange_BadStep ?u_BadRange_BadText ?u_BadRange_NotFound ?v_BadRange ?u_BadStep_AxisError ?u_BadStep_BadMarks ?u_BadStep_BadNumber ?u_BadStep_BadRange ?u_BadStep_BadStep ?u_BadStep_BadText ?u_BadStep_NotFound ?v_BadStep ?u_BadText_AxisError ?u_BadText_BadMarks ?u_BadText_BadNumber ?u_BadText_BadRange ?u_BadText_BadStep ?u_BadText_BadText ?u_BadText_NotFound ?v_BadText ?u_NotFound_AxisError ?u_NotFound_BadMarks ?u_NotFound_BadNumber ?u_NotFound_BadRange ?u_NotFound_BadStep ?u_NotFound_BadText ?u_NotFound_NotFound ?v_NotFound ?n_is_int ?l_is_int ?c_is_int ?k_is_int ?n_is_range ?l_is_range ?c_is_range ?k_is_range ?n_check_range ?l_check_range ?c_check_range ?k_check_range ?n_nice_steps ?l_nice_steps ?c_nice_steps ?k_nice_steps ?n_is_nice ?l_is_nice ?c_is_nice ?k_is_nice ?n_check_step ?l_check_step ?c_check_step ?k_check_step ?n_count_of ?l_count_of ?c_count_of ?k_count_of ?n_count_marks ?l_count_marks ?c_count_marks ?k_count_marks ?n_first_of ?l_first_of ?c_first_of ?k_first_of ?n_first_mark ?l_first_mark ?c_first_mark ?k_first_mark ?n_last_mark ?l_last_mark ?c_last_mark ?k_last_mark ?n_mark_at ?l_mark_at ?c_mark_at ?k_mark_at ?n_marks ?l_marks ?c_marks ?k_marks ?n_gaps ?l_gaps ?c_gaps ?k_gaps ?n_is_mark ?l_is_mark ?c_is_mark ?k_is_mark ?n_check_many_choosing ?l_check_many_choosing ?c_check_many_choosing ?k_check_many_choosing ?n_counts ?l_counts ?c_counts ?k_counts ?n_with_most ?l_with_most ?c_with_most ?k_with_most ?n_with_least ?l_with_least ?c_with_least ?k_with_least ?n_steps_between ?l_steps_between ?c_steps_between ?k_steps_between ?n_nearest_to ?l_nearest_to ?c_nearest_to ?k_nearest_to ?n_out_of_order ?l_out_of_order ?c_out_of_order ?k_out_of_order ?n_empty_steps ?l_empty_steps ?c_empty_steps ?k_empty_steps ?n_outward ?l_outward ?c_outward ?k_outward ?n_inward ?l_inward ?c_inward ?k_inward ?n_is_round ?l_is_round ?c_is_round ?k_is_round ?n_joined ?l_joined ?c_joined ?k_joined ?n_met ?l_met ?c_met ?k_met ?n_spare ?l_spare ?c_spare ?k_spare ?n_shared_marks ?l_shared_marks ?c_shared_marks ?k_shared_marks ?n_check_many_counting ?l_check_many_counting ?c_check_many_counting ?k_check_many_counting ?n_check_bounds ?l_check_bounds ?c_check_bounds ?k_check_bounds ?n_ranges_with ?l_ranges_with ?c_ranges_with ?k_ranges_with ?n_count_ranges_of ?l_count_ranges_of ?c_count_ranges_of ?k_count_ranges_of ?n_first_range ?l_first_range ?c_first_range ?k_first_range ?n_checked ?l_checked ?c_checked ?k_checked ?n_moved ?l_moved ?c_moved ?k_moved ?n_widened ?l_widened ?c_widened ?k_widened ?n_listed ?l_listed ?c_listed ?k_listed ?n_check_short ?l_check_short ?c_check_short ?k_check_short ?n_come_and_go ?l_come_and_go ?c_come_and_go ?k_come_and_go ?n_kept ?l_kept ?c_kept ?k_kept ?n_zoomed_in ?l_zoomed_in ?c_zoomed_in ?k_zoomed_in ?n_zoomed_out ?l_zoomed_out ?c_zoomed_out ?k_zoomed_out ?n_turned_over ?l_turned_over ?c_turned_over ?k_turned_over ?n_scaled ?l_scaled ?c_scaled ?k_scaled ?n_format_range ?l_format_range ?c_format_range ?k_format_range ?n_format_axis ?l_format_axis ?c_format_axis ?k_format_axis ?n__law_start ?l__law_start ?c__law_start ?k__law_start ?n__law_draw ?l__law_draw ?c__law_draw ?k__law_draw ?n__law_error ?l__law_error ?c__law_error ?k__law_error ?n__law_one ?l__law_one ?c__law_one ?k__law_one ?n__law_two ?l__law_two ?c__law_two ?k__law_two ?n__law_three ?l__law_three ?c__law_three ?k__law_three ?n__law_asked ?l__law_asked ?c__law_asked ?k__law_asked ?n__law_numbers ?l__law_numbers ?c__law_numbers ?k__law_numbers ?n_law ?l_law ?c_law ?k_law ?g_Axis ?pg_Axis ?hd_Axis ?po_Axis ?sa_Axis ?mk_Axis ?kc_Axis ?na_Axis_now ?na_Axis_most ?na_Axis_past ?at_Axis___init__ ?if_Axis___init__ ?l_Axis___init__ ?c_Axis___init__ ?k_Axis___init__ ?at_Axis_step ?if_Axis_step ?l_Axis_step ?c_Axis_step ?k_Axis_step ?at_Axis_marks ?if_Axis_marks ?l_Axis_marks ?c_Axis_marks ?k_Axis_marks ?at_Axis___len__ ?if_Axis___len__ ?l_Axis___len__ ?c_Axis___len__ ?k_Axis___len__) (fun s v => .of_eq rfl)
    (case z_ValueError => k_is)
    (case z_abs => k_is)
    (case z_bool => k_is)
    (case z_int => k_is)
    (case z_isinstance => k_is)
    (case z_len => k_is)
    (case z_list => k_is)
    (case z_max => k_is)
    (case z_min => k_is)
    (case z_range => k_is)
    (case z_str => k_is)
    (case z_tuple => k_is)
    (case c_MOST => k_is)
    (case c_MOST_LISTED => k_is)
    (case cn => k_is)
    (case ct => k_is)
    (case g_AxisError => k_is)
    (case k_AxisError => k_is)
    (case x_AxisError => k_exc)
    (case b_AxisError => k_is)
    (case t_AxisError => k_is)
    (case ig_AxisError => k_is)
    (case ik_AxisError => k_is)
    (case id_AxisError => k_is)
    (case ia_AxisError => k_is)
    (case im_AxisError => k_is)
    (case g_BadMarks => k_is)
    (case k_BadMarks => k_is)
    (case x_BadMarks => k_exc)
    (case b_BadMarks => k_is)
    (case t_BadMarks => k_is)
    (case ig_BadMarks => k_is)
    (case ik_BadMarks => k_is)
    (case id_BadMarks => k_is)
    (case ia_BadMarks => k_is)
    (case im_BadMarks => k_is)
    (case g_BadNumber => k_is)
    (case k_BadNumber => k_is)
    (case x_BadNumber => k_exc)
    (case b_BadNumber => k_is)
    (case t_BadNumber => k_is)
    (case ig_BadNumber => k_is)
    (case ik_BadNumber => k_is)
    (case id_BadNumber => k_is)
    (case ia_BadNumber => k_is)
    (case im_BadNumber => k_is)
    (case g_BadRange => k_is)
    (case k_BadRange => k_is)
    (case x_BadRange => k_exc)
    (case b_BadRange => k_is)
    (case t_BadRange => k_is)
    (case ig_BadRange => k_is)
    (case ik_BadRange => k_is)
    (case id_BadRange => k_is)
    (case ia_BadRange => k_is)
    (case im_BadRange => k_is)
    (case g_BadStep => k_is)
    (case k_BadStep => k_is)
    (case x_BadStep => k_exc)
    (case b_BadStep => k_is)
    (case t_BadStep => k_is)
    (case ig_BadStep => k_is)
    (case ik_BadStep => k_is)
    (case id_BadStep => k_is)
    (case ia_BadStep => k_is)
    (case im_BadStep => k_is)
    (case g_BadText => k_is)
    (case k_BadText => k_is)
    (case x_BadText => k_exc)
    (case b_BadText => k_is)
    (case t_BadText => k_is)
    (case ig_BadText => k_is)
    (case ik_BadText => k_is)
    (case id_BadText => k_is)
    (case ia_BadText => k_is)
    (case im_BadText => k_is)
    (case g_NotFound => k_is)
    (case k_NotFound => k_is)
    (case x_NotFound => k_exc)
    (case b_NotFound => k_is)
    (case t_NotFound => k_is)
    (case ig_NotFound => k_is)
    (case ik_NotFound => k_is)
    (case id_NotFound => k_is)
    (case ia_NotFound => k_is)
    (case im_NotFound => k_is)
    (case u_BadMarks_AxisError => first | k_is | rfl)
    (case u_BadMarks_BadMarks => first | k_is | rfl)
    (case u_BadMarks_BadNumber => first | k_is | rfl)
    (case u_BadMarks_BadRange => first | k_is | rfl)
    (case u_BadMarks_BadStep => first | k_is | rfl)
    (case u_BadMarks_BadText => first | k_is | rfl)
    (case u_BadMarks_NotFound => first | k_is | rfl)
    (case v_BadMarks => k_is)
    (case u_BadNumber_AxisError => first | k_is | rfl)
    (case u_BadNumber_BadMarks => first | k_is | rfl)
    (case u_BadNumber_BadNumber => first | k_is | rfl)
    (case u_BadNumber_BadRange => first | k_is | rfl)
    (case u_BadNumber_BadStep => first | k_is | rfl)
    (case u_BadNumber_BadText => first | k_is | rfl)
    (case u_BadNumber_NotFound => first | k_is | rfl)
    (case v_BadNumber => k_is)
    (case u_BadRange_AxisError => first | k_is | rfl)
    (case u_BadRange_BadMarks => first | k_is | rfl)
    (case u_BadRange_BadNumber => first | k_is | rfl)
    (case u_BadRange_BadRange => first | k_is | rfl)
    (case u_BadRange_BadStep => first | k_is | rfl)
    (case u_BadRange_BadText => first | k_is | rfl)
    (case u_BadRange_NotFound => first | k_is | rfl)
    (case v_BadRange => k_is)
    (case u_BadStep_AxisError => first | k_is | rfl)
    (case u_BadStep_BadMarks => first | k_is | rfl)
    (case u_BadStep_BadNumber => first | k_is | rfl)
    (case u_BadStep_BadRange => first | k_is | rfl)
    (case u_BadStep_BadStep => first | k_is | rfl)
    (case u_BadStep_BadText => first | k_is | rfl)
    (case u_BadStep_NotFound => first | k_is | rfl)
    (case v_BadStep => k_is)
    (case u_BadText_AxisError => first | k_is | rfl)
    (case u_BadText_BadMarks => first | k_is | rfl)
    (case u_BadText_BadNumber => first | k_is | rfl)
    (case u_BadText_BadRange => first | k_is | rfl)
    (case u_BadText_BadStep => first | k_is | rfl)
    (case u_BadText_BadText => first | k_is | rfl)
    (case u_BadText_NotFound => first | k_is | rfl)
    (case v_BadText => k_is)
    (case u_NotFound_AxisError => first | k_is | rfl)
    (case u_NotFound_BadMarks => first | k_is | rfl)
    (case u_NotFound_BadNumber => first | k_is | rfl)
    (case u_NotFound_BadRange => first | k_is | rfl)
    (case u_NotFound_BadStep => first | k_is | rfl)
    (case u_NotFound_BadText => first | k_is | rfl)
    (case u_NotFound_NotFound => first | k_is | rfl)
    (case v_NotFound => k_is)
    (case n_is_int => k_is)
    (case l_is_int => k_is)
    (case c_is_int => k_is)
    (case k_is_int => k_is)
    (case n_is_range => k_is)
    (case l_is_range => k_is)
    (case c_is_range => k_is)
    (case k_is_range => k_is)
    (case n_check_range => k_is)
    (case l_check_range => k_is)
    (case c_check_range => k_is)
    (case k_check_range => k_is)
    (case n_nice_steps => k_is)
    (case l_nice_steps => k_is)
    (case c_nice_steps => k_is)
    (case k_nice_steps => k_is)
    (case n_is_nice => k_is)
    (case l_is_nice => k_is)
    (case c_is_nice => k_is)
    (case k_is_nice => k_is)
    (case n_check_step => k_is)
    (case l_check_step => k_is)
    (case c_check_step => k_is)
    (case k_check_step => k_is)
    (case n_count_of => k_is)
    (case l_count_of => k_is)
    (case c_count_of => k_is)
    (case k_count_of => k_is)
    (case n_count_marks => k_is)
    (case l_count_marks => k_is)
    (case c_count_marks => k_is)
    (case k_count_marks => k_is)
    (case n_first_of => k_is)
    (case l_first_of => k_is)
    (case c_first_of => k_is)
    (case k_first_of => k_is)
    (case n_first_mark => k_is)
    (case l_first_mark => k_is)
    (case c_first_mark => k_is)
    (case k_first_mark => k_is)
    (case n_last_mark => k_is)
    (case l_last_mark => k_is)
    (case c_last_mark => k_is)
    (case k_last_mark => k_is)
    (case n_mark_at => k_is)
    (case l_mark_at => k_is)
    (case c_mark_at => k_is)
    (case k_mark_at => k_is)
    (case n_marks => k_is)
    (case l_marks => k_is)
    (case c_marks => k_is)
    (case k_marks => k_is)
    (case n_gaps => k_is)
    (case l_gaps => k_is)
    (case c_gaps => k_is)
    (case k_gaps => k_is)
    (case n_is_mark => k_is)
    (case l_is_mark => k_is)
    (case c_is_mark => k_is)
    (case k_is_mark => k_is)
    (case n_check_many_choosing => k_is)
    (case l_check_many_choosing => k_is)
    (case c_check_many_choosing => k_is)
    (case k_check_many_choosing => k_is)
    (case n_counts => k_is)
    (case l_counts => k_is)
    (case c_counts => k_is)
    (case k_counts => k_is)
    (case n_with_most => k_is)
    (case l_with_most => k_is)
    (case c_with_most => k_is)
    (case k_with_most => k_is)
    (case n_with_least => k_is)
    (case l_with_least => k_is)
    (case c_with_least => k_is)
    (case k_with_least => k_is)
    (case n_steps_between => k_is)
    (case l_steps_between => k_is)
    (case c_steps_between => k_is)
    (case k_steps_between => k_is)
    (case n_nearest_to => k_is)
    (case l_nearest_to => k_is)
    (case c_nearest_to => k_is)
    (case k_nearest_to => k_is)
    (case n_out_of_order => k_is)
    (case l_out_of_order => k_is)
    (case c_out_of_order => k_is)
    (case k_out_of_order => k_is)
    (case n_empty_steps => k_is)
    (case l_empty_steps => k_is)
    (case c_empty_steps => k_is)
    (case k_empty_steps => k_is)
    (case n_outward => k_is)
    (case l_outward => k_is)
    (case c_outward => k_is)
    (case k_outward => k_is)
    (case n_inward => k_is)
    (case l_inward => k_is)
    (case c_inward => k_is)
    (case k_inward => k_is)
    (case n_is_round => k_is)
    (case l_is_round => k_is)
    (case c_is_round => k_is)
    (case k_is_round => k_is)
    (case n_joined => k_is)
    (case l_joined => k_is)
    (case c_joined => k_is)
    (case k_joined => k_is)
    (case n_met => k_is)
    (case l_met => k_is)
    (case c_met => k_is)
    (case k_met => k_is)
    (case n_spare => k_is)
    (case l_spare => k_is)
    (case c_spare => k_is)
    (case k_spare => k_is)
    (case n_shared_marks => k_is)
    (case l_shared_marks => k_is)
    (case c_shared_marks => k_is)
    (case k_shared_marks => k_is)
    (case n_check_many_counting => k_is)
    (case l_check_many_counting => k_is)
    (case c_check_many_counting => k_is)
    (case k_check_many_counting => k_is)
    (case n_check_bounds => k_is)
    (case l_check_bounds => k_is)
    (case c_check_bounds => k_is)
    (case k_check_bounds => k_is)
    (case n_ranges_with => k_is)
    (case l_ranges_with => k_is)
    (case c_ranges_with => k_is)
    (case k_ranges_with => k_is)
    (case n_count_ranges_of => k_is)
    (case l_count_ranges_of => k_is)
    (case c_count_ranges_of => k_is)
    (case k_count_ranges_of => k_is)
    (case n_first_range => k_is)
    (case l_first_range => k_is)
    (case c_first_range => k_is)
    (case k_first_range => k_is)
    (case n_checked => k_is)
    (case l_checked => k_is)
    (case c_checked => k_is)
    (case k_checked => k_is)
    (case n_moved => k_is)
    (case l_moved => k_is)
    (case c_moved => k_is)
    (case k_moved => k_is)
    (case n_widened => k_is)
    (case l_widened => k_is)
    (case c_widened => k_is)
    (case k_widened => k_is)
    (case n_listed => k_is)
    (case l_listed => k_is)
    (case c_listed => k_is)
    (case k_listed => k_is)
    (case n_check_short => k_is)
    (case l_check_short => k_is)
    (case c_check_short => k_is)
    (case k_check_short => k_is)
    (case n_come_and_go => k_is)
    (case l_come_and_go => k_is)
    (case c_come_and_go => k_is)
    (case k_come_and_go => k_is)
    (case n_kept => k_is)
    (case l_kept => k_is)
    (case c_kept => k_is)
    (case k_kept => k_is)
    (case n_zoomed_in => k_is)
    (case l_zoomed_in => k_is)
    (case c_zoomed_in => k_is)
    (case k_zoomed_in => k_is)
    (case n_zoomed_out => k_is)
    (case l_zoomed_out => k_is)
    (case c_zoomed_out => k_is)
    (case k_zoomed_out => k_is)
    (case n_turned_over => k_is)
    (case l_turned_over => k_is)
    (case c_turned_over => k_is)
    (case k_turned_over => k_is)
    (case n_scaled => k_is)
    (case l_scaled => k_is)
    (case c_scaled => k_is)
    (case k_scaled => k_is)
    (case n_format_range => k_is)
    (case l_format_range => k_is)
    (case c_format_range => k_is)
    (case k_format_range => k_is)
    (case n_format_axis => k_is)
    (case l_format_axis => k_is)
    (case c_format_axis => k_is)
    (case k_format_axis => k_is)
    (case n__law_start => k_is)
    (case l__law_start => k_is)
    (case c__law_start => k_is)
    (case k__law_start => k_is)
    (case n__law_draw => k_is)
    (case l__law_draw => k_is)
    (case c__law_draw => k_is)
    (case k__law_draw => k_is)
    (case n__law_error => k_is)
    (case l__law_error => k_is)
    (case c__law_error => k_is)
    (case k__law_error => k_is)
    (case n__law_one => k_is)
    (case l__law_one => k_is)
    (case c__law_one => k_is)
    (case k__law_one => k_is)
    (case n__law_two => k_is)
    (case l__law_two => k_is)
    (case c__law_two => k_is)
    (case k__law_two => k_is)
    (case n__law_three => k_is)
    (case l__law_three => k_is)
    (case c__law_three => k_is)
    (case k__law_three => k_is)
    (case n__law_asked => k_is)
    (case l__law_asked => k_is)
    (case c__law_asked => k_is)
    (case k__law_asked => k_is)
    (case n__law_numbers => k_is)
    (case l__law_numbers => k_is)
    (case c__law_numbers => k_is)
    (case k__law_numbers => k_is)
    (case n_law => k_is)
    (case l_law => k_is)
    (case c_law => k_is)
    (case k_law => k_is)
    (case g_Axis => k_is)
    (case pg_Axis => k_is)
    (case hd_Axis => k_is)
    (case po_Axis => k_is)
    (case sa_Axis => k_is)
    (case mk_Axis => k_is)
    (case kc_Axis => k_is)
    (case na_Axis_now => k_is)
    (case na_Axis_most => k_is)
    (case na_Axis_past => k_is)
    (case at_Axis___init__ => k_is)
    (case if_Axis___init__ => k_is)
    (case l_Axis___init__ => k_is)
    (case c_Axis___init__ => k_is)
    (case k_Axis___init__ => k_is)
    (case at_Axis_step => k_is)
    (case if_Axis_step => k_is)
    (case l_Axis_step => k_is)
    (case c_Axis_step => k_is)
    (case k_Axis_step => k_is)
    (case at_Axis_marks => k_is)
    (case if_Axis_marks => k_is)
    (case l_Axis_marks => k_is)
    (case c_Axis_marks => k_is)
    (case k_Axis_marks => k_is)
    (case at_Axis___len__ => k_is)
    (case if_Axis___len__ => k_is)
    (case l_Axis___len__ => k_is)
    (case c_Axis___len__ => k_is)
    (case k_Axis___len__ => k_is)
