import PyProof.Rows.All
import Wide.All
import OpenK.AllK
import Wide.FinOn
import HandS.ForMost
import HandS.ForExc
import HandS.Wide
import HandS.Deep
import HandS.More
import HandS.IsInst
import HandS.Style
import HandS.Property
import HandS.ExcInit
import HandS.ExcField
import HandS.Codes
import HandS.Sort
import HandS.TupLen
import KE.KSortTupG
import OpenK.KOps
import HandS.Lambda
import HandS.Nested
import HandS.EndTab
import HandS.SortOrd
import HandS.SortRule
import HandS.TupLe
import KE.KMinKey
import KE.LtSeq
import HandS.TryMany
import HandS.Walk
import HandS.TupAny
import HandS.NoneIn
import HandS.ExcIs
import KE.KExcIs
import HandS.Conv
import KE.KLam
import KE.KNestM
import PyProof.DictMoreH
import KE.KDictPairs
import KE.KDictCopyH
import PyProof.IsRules
import PySem.Challenge.RW_sandthreads_k41_rows_and_boards
set_option Elab.async false
set_option linter.all false
set_option maxRecDepth 100000
set_option maxHeartbeats 4000000
namespace TK
open PySem PySem.Spec PyProof.Rows L2
section
variable {σ : L2.St} {H : Hp} {Q : VK} {QT : Bool → Hp → Prop} {K : PySem.W.Frag} {D : Ends}
theorem r_var {i : Nat} {v : V} (e : σ[i]? = some (some v)) (q : Q v H) : tVar i σ H Q := ⟨v, e, q⟩
theorem r_c {v : V} (q : Q v H) : tC v σ H Q := q
theorem r_op {r : R2} {ta tb : TE} (q : ta σ H fun x H1 => tb σ H1 fun y H2 => r x y H2 Q) : tOp r ta tb σ H Q := q
theorem r_un {r : V → Hp → VK → Prop} {ta : TE} (q : ta σ H fun x H1 => r x H1 Q) : tUn r ta σ H Q := q
theorem r_I0 {g : Int → Int → V} {i j : Int} (q : Q (g i j) H) : rI0 g (.int i) (.int j) H Q := ⟨i, j, rfl, rfl, q⟩
theorem r_I {C : Int → Int → Prop} {g : Int → Int → V} {i j : Int} (c : C i j) (q : Q (g i j) H) : rI C g (.int i) (.int j) H Q := ⟨i, j, rfl, rfl, c, q⟩
theorem r_U {g : Int → V} {i : Int} (q : Q (g i) H) : rU g (.int i) H Q := ⟨i, rfl, q⟩
theorem r_eq {x y : V} (s : scal x y = true) (q : Q (.bl (decide (x = y))) H) : rEq x y H Q := ⟨s, q⟩
theorem r_ne {x y : V} (s : scal x y = true) (q : Q (.bl (!decide (x = y))) H) : rNe x y H Q := ⟨s, q⟩
theorem r_test {t : TE} (q : t σ H fun x H' => ∃ k, x = .bl k ∧ QT k H') : tTest t σ H QT := q
theorem r_B {t : TE} (q : t σ H fun x H' => ∃ k, x = .bl k ∧ QT k H') : tB t σ H QT := q
theorem r_bl {b : Bool} {P : Bool → Prop} (q : P b) : ∃ k, V.bl b = .bl k ∧ P k := ⟨b, rfl, q⟩
theorem r_not {t : TT} (q : t σ H fun c H1 => QT (!c) H1) : tNot t σ H QT := q
theorem r_and {t u : TT} (q : t σ H fun c H1 => if c = true then u σ H1 QT else QT false H1) : tAnd t u σ H QT := q
theorem r_or {t u : TT} (q : t σ H fun c H1 => if c = true then QT true H1 else u σ H1 QT) : tOr t u σ H QT := q
theorem r_andV {ta tb : TE} (q : ta σ H fun x H1 => ∃ c, x = .bl c ∧ if c = true then tb σ H1 Q else Q (.bl false) H1) : tAndV ta tb σ H Q := q
theorem r_orV {ta tb : TE} (q : ta σ H fun x H1 => ∃ c, x = .bl c ∧ if c = true then Q (.bl true) H1 else tb σ H1 Q) : tOrV ta tb σ H Q := q
theorem r_notV {ta : TE} (q : ta σ H fun x H1 => ∃ c, x = .bl c ∧ Q (.bl (!c)) H1) : tNotV ta σ H Q := q
theorem r_ifE {t : TT} {ta tb : TE} (q : t σ H fun c H1 => if c = true then ta σ H1 Q else tb σ H1 Q) : tIf t ta tb σ H Q := q
theorem r_isN {ta : TE} (q : ta σ H fun x H1 => Q (.bl (decide (x = .non))) H1) : tIsN ta σ H Q := q
theorem r_notN {ta : TE} (q : ta σ H fun x H1 => Q (.bl (!decide (x = .non))) H1) : tNotN ta σ H Q := q
theorem r_nil {QA : List V → Hp → Prop} (q : QA [] H) : tNil σ H QA := q
theorem r_cons {ta : TE} {tr : TA} {QA : List V → Hp → Prop} (q : ta σ H fun x H1 => tr σ H1 fun xs H2 => QA (x :: xs) H2) : tCons ta tr σ H QA := q
theorem r_CB {r : List V → Hp → VK → Prop} {t : TA} (q : t σ H fun vs H1 => r vs H1 Q) : tCB r t σ H Q := q
theorem r_call {sp : Sp} {dvs : List V} {E : XK} {t : TA} (q : t σ H fun vs H1 => sp (vs ++ dvs) H1 Q E) : tCall sp dvs E t σ H Q := q
theorem r_callS {sp : Sp} {E : L2.St → XK} {t : TA} (q : t σ H fun vs H1 => sp vs H1 Q (E σ)) : tCallS sp E t σ H Q := q
theorem r_tup {t : TA} (q : t σ H fun xs H1 => xs.length ≤ sizeLine ∧ ∀ p, H1 p = none → Q (.ref p) (upd H1 p (.tup xs))) : tTup t σ H Q := q
theorem r_lst {t : TA} (q : t σ H fun xs H1 => xs.length ≤ sizeLine ∧ ∀ p, H1 p = none → Q (.ref p) (upd H1 p (.lst xs))) : tLst t σ H Q := q
theorem r_chain {r r' : R2} {ta tb tc : TE} (q : ta σ H fun x H1 => tb σ H1 fun y H2 => r x y H2 fun z H3 => ∃ k, z = .bl k ∧
    if k = true then tc σ H3 fun u H4 => r' y u H4 Q else Q (.bl false) H3) : tChain r r' ta tb tc σ H Q := q
/-- statements -/
theorem r_seq {t u : TS} (q : t { D with nx := u D } σ H) : tSeq t u D σ H := q
theorem r_next (q : D.nx σ H) : tNext D σ H := q
theorem r_ret {te : TE} (q : te σ H D.rt) : tRet te D σ H := q
theorem r_retN (q : D.rt .non H) : tRetN D σ H := q
theorem r_drop {te : TE} (q : te σ H fun _ H1 => D.nx σ H1) : tDrop te D σ H := q
theorem r_asg {te : TE} {g : TG} (q : te σ H fun x H1 => g x σ H1 D.nx) : tAsg te g D σ H := q
theorem r_ifS {c : TT} {t u : TS} (q : c σ H fun b H1 => if b = true then t D σ H1 else u D σ H1) : tIfS c t u D σ H := q
theorem r_brk (q : D.bk σ H) : tBreak D σ H := q
theorem r_cont (q : D.ct σ H) : tCont D σ H := q
variable {QG : L2.St → Hp → Prop}
theorem r_gN {i : Nat} {v : V} (q : QG (σ.set i (some v)) H) : gName i v σ H QG := q
theorem r_gT {n : Nat} {t : TGs} {a : Addr} {xs : List V} (s : H a = some (.tup xs)) (l : xs.length = n) (q : t xs σ H QG) : gTup K n t (.ref a) σ H QG := ⟨a, xs, rfl, SqT.of s, l, q⟩
theorem r_gC {t : TG} {u : TGs} {v : V} {r : List V} (q : t v σ H fun σ' H' => u r σ' H' QG) : gCons t u (v :: r) σ H QG := ⟨v, r, rfl, q⟩
theorem r_gZ (q : QG σ H) : gNil [] σ H QG := ⟨rfl, q⟩
theorem r_gS {to ti : TE} {t : TSet} {v : V} (q : to σ H fun o H1 => ti σ H1 fun i H2 => t o i v H2 fun H3 => QG σ H3) : gSub to ti t v σ H QG := q
theorem r_fld {ta : TE} {f : Str} (q : ta σ H fun x H1 => ∃ a C dx fs v, x = .ref a ∧ H1 a = some (.ins C dx fs) ∧ Cls K C ∧ NoAttr K C f ∧ fs.lookup f = some v ∧ Q v H1) : tFld K ta f σ H Q := q
end

/-! named readings -/
section
variable {X : Cx}
def rLen (K : PySem.W.Frag) : List V → Hp → VK → Prop := fun xs H Q => ∃ p ys, xs = [.ref p] ∧ (SqL K H p ys ∨ SqT K H p ys) ∧ Q (.int ys.length) H
theorem c_len : CallR X (.builtin "len") (TK.rLen X.K) := call_len_seq
def rLenS : List V → Hp → VK → Prop := fun xs H Q => ∃ z : Str, xs = [.str z] ∧ z.length ≤ sizeLine ∧ Q (.int z.length) H
theorem c_lenS : CallR X (.builtin "len") TK.rLenS := call_len_str
def rInt1 : List V → Hp → VK → Prop := fun xs H Q => (∃ i, xs = [.int i] ∧ Q (.int i) H) ∨ ∃ k, xs = [.bl k] ∧ Q (.int (if k then 1 else 0)) H
theorem c_int : CallR X (.type "int") rInt1 := call_int1
def rAbs : List V → Hp → VK → Prop := fun xs H Q => ∃ i, xs = [.int i] ∧ Q (.int (if i < 0 then -i else i)) H
theorem c_abs : CallR X (.builtin "abs") rAbs := call_abs
def rMax2 : List V → Hp → VK → Prop := fun xs H Q => ∃ i j, xs = [.int i, .int j] ∧ Q (.int (if j > i then j else i)) H
theorem c_max (hc : X.calm = true) : CallR X (.builtin "max") TK.rMax2 := call_max2 hc
def rMin2 : List V → Hp → VK → Prop := fun xs H Q => ∃ i j, xs = [.int i, .int j] ∧ Q (.int (if j < i then j else i)) H
theorem c_min (hc : X.calm = true) : CallR X (.builtin "min") TK.rMin2 := call_min2 hc
def rListOf (K : PySem.W.Frag) : List V → Hp → VK → Prop := fun xs H Q => ∃ p ys, xs = [.ref p] ∧ (SqL K H p ys ∨ SqT K H p ys) ∧ ∀ l, H l = none → Q (.ref l) (upd H l (.lst ys))
theorem c_list : CallR X (.type "list") (rListOf X.K) := call_list_of
def rInsert : V → List V → Hp → VK → Prop := fun x vs H Q => ∃ (l : Addr) (xs : List V) (i : Int) (y : V), x = .ref l ∧ vs = [.int i, y] ∧ H l = some (.lst xs) ∧ xs.length < sizeLine ∧ 0 ≤ i ∧ i < 2 ^ 63 ∧
    Q .non (upd H l (.lst (xs.take i.toNat ++ [y] ++ xs.drop i.toNat)))
theorem m_insert : MtR X "list.insert" rInsert := mt_insert
def rIsNo : R2 := fun x y H Q => y = .non ∧ Q (.bl (decide (x = .non))) H
theorem o_isN : OpR X (compareOp .Is) rIsNo := op_isN
def rNotNo : R2 := fun x y H Q => y = .non ∧ Q (.bl (!decide (x = .non))) H
theorem o_notN : OpR X (compareOp .IsNot) rNotNo := op_notN
def rAddS : R2 := fun x y H Q => ∃ i j : Str, x = .str i ∧ y = .str j ∧ i.length + j.length ≤ sizeLine ∧ Q (.str (i ++ j)) H
theorem o_addS : OpR X (binaryOp .Add) TK.rAddS := op_add_str
end
section
variable {σ : L2.St} {H : Hp} {Q : VK} {K : PySem.W.Frag} {D : Ends} {QG : L2.St → Hp → Prop}
theorem r_ixL {p : Addr} {xs : List V} {i : Int} {v : V} (h : H p = some (.lst xs)) (a : atI xs i = some v) (q : Q v H) : rIxL K (.ref p) (.int i) H Q := ⟨p, xs, i, v, rfl, rfl, SqL.of h, a, q⟩
theorem r_ixT {p : Addr} {xs : List V} {i : Int} {v : V} (h : H p = some (.tup xs)) (a : atI xs i = some v) (q : Q v H) : rIxT K (.ref p) (.int i) H Q := ⟨p, xs, i, v, rfl, rfl, SqT.of h, a, q⟩
theorem r_setL {p : Addr} {xs : List V} {k : Int} {j : Nat} {v : V} {QH : Hp → Prop} (h : H p = some (.lst xs)) (e : ixN xs.length k = some j) (q : QH (upd H p (.lst (xs.set j v)))) : rSetL (.ref p) (.int k) v H QH := ⟨p, xs, k, j, rfl, rfl, h, e, q⟩
theorem r_len {p : Addr} {xs : List V} (h : H p = some (.lst xs)) (q : Q (.int xs.length) H) : TK.rLen K [.ref p] H Q := ⟨p, xs, rfl, .inl (SqL.of h), q⟩
theorem r_lenT {p : Addr} {xs : List V} (h : H p = some (.tup xs)) (q : Q (.int xs.length) H) : TK.rLen K [.ref p] H Q := ⟨p, xs, rfl, .inr (SqT.of h), q⟩
theorem r_int1 {i : Int} (q : Q (.int i) H) : rInt1 [.int i] H Q := .inl ⟨i, rfl, q⟩
theorem r_abs {i : Int} (q : Q (.int (if i < 0 then -i else i)) H) : rAbs [.int i] H Q := ⟨i, rfl, q⟩
theorem r_max {i j : Int} (q : Q (.int (if j > i then j else i)) H) : TK.rMax2 [.int i, .int j] H Q := ⟨i, j, rfl, q⟩
theorem r_min {i j : Int} (q : Q (.int (if j < i then j else i)) H) : TK.rMin2 [.int i, .int j] H Q := ⟨i, j, rfl, q⟩
theorem r_listOf {p : Addr} {xs : List V} (h : H p = some (.lst xs)) (q : ∀ l, H l = none → Q (.ref l) (upd H l (.lst xs))) : rListOf K [.ref p] H Q := ⟨p, xs, rfl, .inl (SqL.of h), q⟩
theorem r_isNo {x : V} (q : Q (.bl (decide (x = .non))) H) : rIsNo x .non H Q := ⟨rfl, q⟩
theorem r_notNo {x : V} (q : Q (.bl (!decide (x = .non))) H) : rNotNo x .non H Q := ⟨rfl, q⟩
theorem r_bm {T : String} {r : V → List V → Hp → VK → Prop} {to : TE} {t : TA} (q : to σ H fun x H1 => tyV K T x H1 ∧ t σ H1 fun xs H2 => r x xs H2 Q) : tBM K T r to t σ H Q := q
theorem r_bm0 {T : String} {r : V → List V → Hp → VK → Prop} {to : TE} (q : to σ H fun x H1 => tyV K T x H1 ∧ r x [] H1 Q) : tBM0 K T r to σ H Q := q
theorem r_tyL {p : Addr} {xs : List V} {R : Prop} (h : H p = some (.lst xs)) (q : R) : tyV K "list" (.ref p) H ∧ R := ⟨.inl ⟨rfl, _, SqL.of h⟩, q⟩
theorem r_append {l : Addr} {xs : List V} {y : V} (h : H l = some (.lst xs)) (z : xs.length < sizeLine) (q : Q .non (upd H l (.lst (xs ++ [y])))) : rAppend (.ref l) [y] H Q := ⟨l, xs, y, rfl, rfl, h, z, q⟩
theorem r_insert {l : Addr} {xs : List V} {i : Int} {y : V} (h : H l = some (.lst xs)) (z : xs.length < sizeLine) (h0 : 0 ≤ i) (h1 : i < 2 ^ 63) (q : Q .non (upd H l (.lst (xs.take i.toNat ++ [y] ++ xs.drop i.toNat)))) : rInsert (.ref l) [.int i, y] H Q := ⟨l, xs, i, y, rfl, rfl, h, z, h0, h1, q⟩
theorem r_tupN {xs : List V} {R : Addr → Hp → Prop} (l : xs.length ≤ 1000) (q : ∀ p, H p = none → R p (upd H p (.tup xs))) : xs.length ≤ sizeLine ∧ ∀ p, H p = none → R p (upd H p (.tup xs)) := ⟨Nat.le_trans l (by decide), q⟩
theorem r_sz {n : Nat} {B : Prop} (l : n ≤ 1000) (q : B) : n ≤ sizeLine ∧ B := ⟨Nat.le_trans l (by decide), q⟩
theorem r_ret1 {te : TE} (q : te σ H D.rt) : tRet te D σ H := q
theorem r_ite {c : Prop} [Decidable c] {A B : Prop} (h1 : c → A) (h2 : ¬ c → B) : if decide c = true then A else B := by
  by_cases h : c
  · rw [if_pos (decide_eq_true h)]; exact h1 h
  · rw [if_neg (by simpa using h)]; exact h2 h
theorem r_iteN {c : Prop} [Decidable c] {A B : Prop} (h1 : ¬ c → A) (h2 : c → B) : if (!decide c) = true then A else B := by
  by_cases h : c
  · rw [if_neg (by simpa using h)]; exact h2 h
  · rw [if_pos (by simpa using h)]; exact h1 h
theorem r_iteNB {b : Bool} {A B : Prop} (h1 : b = false → A) (h2 : b = true → B) : if (!b) = true then A else B := by
  cases b
  · exact h1 rfl
  · exact h2 rfl
theorem r_iteVT {x y : V} {A B : Prop} (h : x = y) (q : A) : if decide (x = y) = true then A else B := by
  rw [if_pos (decide_eq_true h)]; exact q
theorem r_iteVF {x y : V} {A B : Prop} (h : x ≠ y) (q : B) : if decide (x = y) = true then A else B := by
  rw [if_neg (by simpa using h)]; exact q
theorem r_iteNf {A B : Prop} (q : A) : if (!false) = true then A else B := q
theorem r_iteNt {A B : Prop} (q : B) : if (!true) = true then A else B := q
theorem r_iteB {b : Bool} {A B : Prop} (h1 : b = true → A) (h2 : b = false → B) : if b = true then A else B := by
  cases b
  · exact h2 rfl
  · exact h1 rfl
end
section
variable {σ : L2.St} {H H1 : Hp} {K : PySem.W.Frag} {D : Ends}
theorem r_for {wi : TI} {g : TG} {tb : TS} (q : wi σ H fun J H1 => ∃ W : Nat → Nat → L2.St → Hp → Prop, (∃ m, W 0 m σ H1) ∧ ∀ i m σ H, W i m σ H →
  (J.stop i H ∧ D.nx σ H) ∨ (J.go i H ∧ ∃ N : L2.St → Hp → Prop, (∀ σ' H', N σ' H' → ∃ m', m' < m ∧ W (i + 1) m' σ' H') ∧ ∀ x H', J.yld i H x H' → g x σ H' fun σ2 H2 => tb { D with nx := N, ct := N, bk := D.nx } σ2 H2)) : tFor wi g tb D σ H := q
theorem r_rng1 {ta : TA} {R : It → Hp → Prop} (q : ta σ H fun vs H1 => ∃ j : Int, vs = [.int j] ∧ -(2 ^ 62) ≤ j ∧ j < 2 ^ 62 ∧ R (Itr 0 j.toNat) H1) : iRng1 ta σ H R := q
theorem r_rng2 {ta : TA} {R : It → Hp → Prop} (q : ta σ H fun vs H1 => ∃ i j : Int, vs = [.int i, .int j] ∧ (-(2 ^ 62) ≤ i ∧ i < 2 ^ 62 ∧ -(2 ^ 62) ≤ j ∧ j < 2 ^ 62) ∧ R (Itr i (j - i).toNat) H1) : iRng2 ta σ H R := q
theorem r_rng3 {ta : TA} {R : It → Hp → Prop} (q : ta σ H fun vs H1 => ∃ (i j c : Int) (n : Nat), vs = [.int i, .int j, .int c] ∧ RgC i j c n ∧ R (Itc i c n) H1) : iRng3 ta σ H R := q
theorem r_iList {tl : TE} {R : It → Hp → Prop} (q : tl σ H fun x H1 => ∃ a, x = .ref a ∧ (∃ xs, SqL K H1 a xs) ∧ R (Itl K a) H1) : iList K tl σ H R := q
theorem r_lc {wi : TI} {g : TG} {tt : TT} {te : TE} {vs : List Nat} {Q : VK} (q : wi σ H fun J H1 => ∀ D, H1 D = none → ∃ W : Nat → Nat → Hp → Prop, (∃ m, W 0 m (upd H1 D (.lst []))) ∧ ∀ i m H, W i m H →
  (J.stop i H ∧ Q (.ref D) H) ∨ (J.go i H ∧ ∃ Nx : Hp → Prop, (∀ H', Nx H' → ∃ m', m' < m ∧ W (i + 1) m' H') ∧ ∀ x H', J.yld i H x H' → g x (wipe σ vs) H' fun σ2 H2 => wipe σ2 vs = wipe σ vs ∧ tt σ2 H2 fun b H3 =>
    if b = true then te σ2 H3 fun y H4 => ∃ acc, H4 D = some (.lst acc) ∧ acc.length < sizeLine ∧ Nx (upd H4 D (.lst (acc ++ [y]))) else Nx H3)) : tLc wi g tt te vs σ H Q := q
theorem _root_.L2.Same.new {q : Addr} {o : HO} (h : H q = none) : Same H (upd H q o) := fun a u e => by
  rw [upd_ne (ne_of_none e h)]
  exact e
theorem _root_.L2.Same.mut {H' : Hp} {p : Addr} {o : HO} (e : Same H H') (h : H p = none) : Same H (upd H' p o) := fun a u ha => by
  rw [upd_ne (ne_of_none ha h)]
  exact e a u ha
end
/-! statements joined by a word -/
abbrev tCut := @C8.tCut
theorem pss_cut {X : Cx} {st : Stmt} {rest : List Stmt} {t u : TS} (h1 : PS X st t) (h2 : PSs X rest u) : PSs X (st :: rest) (C8.tCut t u) := C8.pss_cut h1 h2
theorem r_yes {σ : L2.St} {H : Hp} {Q : Bool → Hp → Prop} (q : Q true H) : tYes σ H Q := q
/-! data -/
mutual
def okD : Nat → PyData → Bool
  | _, .none => true
  | _, .bool _ => true
  | _, .int _ => true
  | _, .str x => PyData.strOk x
  | 0, .list _ => false
  | 0, .tuple _ => false
  | n + 1, .list xs => decide (xs.length ≤ 1000000) && okDs n xs
  | n + 1, .tuple xs => decide (xs.length ≤ 1000000) && okDs n xs
  | _, .dict _ => false
def okDs : Nat → List PyData → Bool
  | _, [] => true
  | n, x :: xs => okD n x && okDs n xs
end
mutual
theorem okD_lay : ∀ (n : Nat) (d : PyData), okD n d = true → d.canLay0 = true ∧ d.depth ≤ n
  | _, .none, _ => by simp [PyData.canLay0, PyData.depth]
  | _, .bool _, _ => by simp [PyData.canLay0, PyData.depth]
  | _, .int _, _ => by simp [PyData.canLay0, PyData.depth]
  | _, .str x, h => by
    have h' : PyData.strOk x = true := by simpa [okD] using h
    simp [PyData.canLay0, PyData.depth, h']
  | 0, .list _, h => by simp [okD] at h
  | 0, .tuple _, h => by simp [okD] at h
  | n + 1, .list xs, h => by
    have := okDs_lay n xs (by rw [okD, Bool.and_eq_true] at h; exact h.2)
    simp only [PyData.canLay0, PyData.depth]
    exact ⟨this.1, by omega⟩
  | n + 1, .tuple xs, h => by
    have := okDs_lay n xs (by rw [okD, Bool.and_eq_true] at h; exact h.2)
    simp only [PyData.canLay0, PyData.depth]
    exact ⟨this.1, by omega⟩
  | _, .dict _, h => by simp [okD] at h
theorem okDs_lay : ∀ (n : Nat) (ds : List PyData), okDs n ds = true → PyData.canLayAll0 ds = true ∧ PyData.depthAll ds ≤ n
  | _, [], _ => by simp [PyData.canLayAll0, PyData.depthAll]
  | n, x :: xs, h => by
    rw [okDs, Bool.and_eq_true] at h
    have h1 := okD_lay n x h.1
    have h2 := okDs_lay n xs h.2
    simp only [PyData.canLayAll0, PyData.depthAll, Bool.and_eq_true]
    exact ⟨⟨h1.1, h2.1⟩, by omega⟩
end
theorem okD_shaped {n : Nat} {d : PyData} (h : okD n d = true) (hn : n ≤ 64) : SeqAt.shaped d = true := by
  have := okD_lay n d h
  unfold SeqAt.shaped
  rw [Bool.and_eq_true]
  exact ⟨this.1, decide_eq_true (Nat.le_trans this.2 hn)⟩
theorem okD_refl {n : Nat} {d : PyData} (h : okD n d = true) : PyData.eqv d d = true := SeqAt.eqv_refl d (okD_lay n d h).1
theorem okDs_all {n : Nat} : ∀ {ds : List PyData}, (∀ d ∈ ds, okD n d = true) → okDs n ds = true
  | [], _ => rfl
  | x :: xs, h => by
    rw [okDs, Bool.and_eq_true]
    exact ⟨h x (by simp), okDs_all fun d hd => h d (by simp [hd])⟩
section
variable {σ : L2.St} {H : Hp} {Q : VK} {QT : Bool → Hp → Prop} {K : PySem.W.Frag} {D : Ends}
theorem r_din {ty td : TE} (q : ty σ H fun y H1 => td σ H1 fun x H2 => ∃ a o, x = .ref a ∧ DGet H2 a y o ∧ Q (.bl o.isSome) H2) : tDIn ty td σ H Q := q
theorem r_dnotin {ty td : TE} (q : ty σ H fun y H1 => td σ H1 fun x H2 => ∃ a o, x = .ref a ∧ DGet H2 a y o ∧ Q (.bl (!o.isSome)) H2) : tDNotIn ty td σ H Q := q
theorem r_dget1 {td ty : TE} (q : td σ H fun x H1 => ∃ a, x = .ref a ∧ IsD H1 a ∧ ty σ H1 fun y H2 => ∃ o, DGet H2 a y o ∧ Q (o.getD .non) H2) : tDGet1 td ty σ H Q := q
theorem r_dget {td ty : TE} (q : td σ H fun x H1 => ty σ H1 fun y H2 => ∃ a v, x = .ref a ∧ DGet H2 a y (some v) ∧ Q v H2) : tDGet td ty σ H Q := q
theorem r_dput {td ty tv : TE} (q : tv σ H fun v H1 => td σ H1 fun x H2 => ty σ H2 fun y H3 => ∃ a H4, x = .ref a ∧ DPut H3 a y v H4 ∧ D.nx σ H4) : sDPut td ty tv D σ H := q
theorem r_dnew (q : ∀ p, H p = none → Q (.ref p) (upd H p (.dT []))) : tDNewT σ H Q := q
theorem r_sfld {ta tv : TE} {f : Str} (q : tv σ H fun y H1 => ta σ H1 fun x H2 => ∃ a C dx fs, x = .ref a ∧ H2 a = some (.ins C dx fs) ∧ Cls K C ∧ NoAttr K C f ∧ fs.length < 1000 ∧
    D.nx σ (upd H2 a (.ins C dx (putF f y fs)))) : sFld K ta tv f D σ H := q
theorem r_mkO {C : Addr} {sp : Sp} {dvs : List V} {ta : TA} {QX : XK} (q : ta σ H fun vs H1 => vs.length ≤ 1000 ∧ ∀ a, H1 a = none → sp (.ref a :: (vs ++ dvs)) (upd H1 a (exo a C none))
    (fun v H2 => v = .non ∧ ∃ (d : Addr) (fs : List (Str × V)), H2 a = some (exo a C (some d)) ∧ H2 d = some (exd d fs) ∧ H1 d = none ∧ QX (.ref C) (some d) (upd (del H2 a) d (.xd fs))) (fun _ _ _ => False)) : tMkO C sp dvs ta σ H QX := q
theorem r_make {C : Addr} {sp : Sp} {dvs : List V} {E : XK} {t : TA} (q : t σ H fun vs H1 => ∀ x dx, H1 x = none → H1 dx = none → dx ≠ x →
    sp (.ref x :: (vs ++ dvs)) (upd (upd H1 dx (.own x)) x (.ins C dx [])) (fun v H2 => v = .non ∧ Q (.ref x) H2) E) : tMake C sp dvs E t σ H Q := q
theorem r_meth {C : Addr} {m : Str} {sp : Sp} {dvs : List V} {E : XK} {ta : TE} {t : TA} (q : ta σ H fun x H1 => ∃ a dx fs, x = .ref a ∧ H1 a = some (.ins C dx fs) ∧ fs.lookup m = none ∧
    t σ H1 fun vs H2 => sp (x :: (vs ++ dvs)) H2 Q E) : tMeth C m sp dvs E ta t σ H Q := q
end
/-! is True, is False; isinstance -/
section
variable {X : Cx}
def rIsBool : R2 := fun x y H Q => ∃ b : Bool, y = .bl b ∧ Q (.bl (decide (x = .bl b))) H
theorem o_isBool : OpR X (compareOp .Is) rIsBool := by
  intro pins s σ H x y v u Q I rx ry h
  obtain ⟨b, rfl, q⟩ := h
  cases (show u = Value.bool b from ry)
  have fin : ∀ v' : Value, plainIs v' (.bool b) = true → (v' == Value.bool b) = decide (x = .bl b) → wpAny (model X.prog X.w) X.A (compareOp .Is v' (.bool b)) (EP X pins σ Q) X.xe s := fun v' hp e => by
    refine wpAny_is_plain hp ⟨.bl (decide (x = .bl b)), H, I, ?_, q⟩
    rw [e]
    rfl
  cases x with
  | non => cases rx; exact fin _ rfl rfl
  | bl c => cases rx; exact fin _ rfl (by cases b <;> cases c <;> rfl)
  | int i => obtain ⟨t, rfl⟩ := rx; exact fin _ rfl rfl
  | str i => obtain ⟨t, rfl⟩ := rx; exact fin _ rfl rfl
  | byt i => obtain ⟨t, rfl⟩ := rx; exact fin _ rfl rfl
  | flt i => obtain ⟨t, rfl⟩ := rx; exact fin _ rfl rfl
  | ref i => cases rx; exact fin _ rfl rfl
  | ty i => cases rx; exact fin _ rfl rfl
end
theorem r_isBool {x : V} {b : Bool} {H : Hp} {Q : VK} (q : Q (.bl (decide (x = .bl b))) H) : rIsBool x (.bl b) H Q := ⟨b, rfl, q⟩
def tyD : PyData → String
  | .none => "NoneType"
  | .bool _ => "bool"
  | .int _ => "int"
  | .str _ => "str"
  | .list _ => "list"
  | .tuple _ => "tuple"
  | .dict _ => "dict"
theorem tyD_ok {K : PySem.W.Frag} {H : Hp} {x : V} {d : PyData} (h : Dp K H x d) : TyX K H x (.type (tyD d)) := by
  cases h with
  | non => exact .base .non
  | bl b => exact .base (.bl b)
  | int i => exact .base (.int i)
  | str s => exact .base (.str s)
  | lst h _ =>
    rcases h with (h | ⟨o, h⟩) | ⟨o, its, n, h, hc, _⟩
    · exact .base (.lst h)
    · exact .base (.frz h)
    · exact .kList h hc
  | tup h _ =>
    rcases h with (h | ⟨o, h⟩) | ⟨o, its, n, h, hc, _⟩
    · exact .base (.tup h)
    · exact .fTuple h
    · exact .kTuple h hc
theorem kt_NoneType_int : kitB "NoneType" "int" = some false := by decide +kernel
theorem kt_NoneType_bool : kitB "NoneType" "bool" = some false := by decide +kernel
theorem kt_NoneType_str : kitB "NoneType" "str" = some false := by decide +kernel
theorem kt_NoneType_tuple : kitB "NoneType" "tuple" = some false := by decide +kernel
theorem kt_NoneType_list : kitB "NoneType" "list" = some false := by decide +kernel
theorem kt_NoneType_dict : kitB "NoneType" "dict" = some false := by decide +kernel
theorem kt_bool_int : kitB "bool" "int" = some true := by decide +kernel
theorem kt_bool_bool : kitB "bool" "bool" = some true := by decide +kernel
theorem kt_bool_str : kitB "bool" "str" = some false := by decide +kernel
theorem kt_bool_tuple : kitB "bool" "tuple" = some false := by decide +kernel
theorem kt_bool_list : kitB "bool" "list" = some false := by decide +kernel
theorem kt_bool_dict : kitB "bool" "dict" = some false := by decide +kernel
theorem kt_int_int : kitB "int" "int" = some true := by decide +kernel
theorem kt_int_bool : kitB "int" "bool" = some false := by decide +kernel
theorem kt_int_str : kitB "int" "str" = some false := by decide +kernel
theorem kt_int_tuple : kitB "int" "tuple" = some false := by decide +kernel
theorem kt_int_list : kitB "int" "list" = some false := by decide +kernel
theorem kt_int_dict : kitB "int" "dict" = some false := by decide +kernel
theorem kt_str_int : kitB "str" "int" = some false := by decide +kernel
theorem kt_str_bool : kitB "str" "bool" = some false := by decide +kernel
theorem kt_str_str : kitB "str" "str" = some true := by decide +kernel
theorem kt_str_tuple : kitB "str" "tuple" = some false := by decide +kernel
theorem kt_str_list : kitB "str" "list" = some false := by decide +kernel
theorem kt_str_dict : kitB "str" "dict" = some false := by decide +kernel
theorem kt_list_int : kitB "list" "int" = some false := by decide +kernel
theorem kt_list_bool : kitB "list" "bool" = some false := by decide +kernel
theorem kt_list_str : kitB "list" "str" = some false := by decide +kernel
theorem kt_list_tuple : kitB "list" "tuple" = some false := by decide +kernel
theorem kt_list_list : kitB "list" "list" = some true := by decide +kernel
theorem kt_list_dict : kitB "list" "dict" = some false := by decide +kernel
theorem kt_tuple_int : kitB "tuple" "int" = some false := by decide +kernel
theorem kt_tuple_bool : kitB "tuple" "bool" = some false := by decide +kernel
theorem kt_tuple_str : kitB "tuple" "str" = some false := by decide +kernel
theorem kt_tuple_tuple : kitB "tuple" "tuple" = some true := by decide +kernel
theorem kt_tuple_list : kitB "tuple" "list" = some false := by decide +kernel
theorem kt_tuple_dict : kitB "tuple" "dict" = some false := by decide +kernel
theorem kt_dict_int : kitB "dict" "int" = some false := by decide +kernel
theorem kt_dict_bool : kitB "dict" "bool" = some false := by decide +kernel
theorem kt_dict_str : kitB "dict" "str" = some false := by decide +kernel
theorem kt_dict_tuple : kitB "dict" "tuple" = some false := by decide +kernel
theorem kt_dict_list : kitB "dict" "list" = some false := by decide +kernel
theorem kt_dict_dict : kitB "dict" "dict" = some true := by decide +kernel
theorem r_isi {K : PySem.W.Frag} {H : Hp} {Q : VK} {x : V} {d : PyData} {n : String} {b : Bool} (h : Dp K H x d) (k : kitB (tyD d) n = some b) (q : Q (.bl b) H) : rIsi K [x, .ty n] H Q := ⟨x, .ty n, _, _, b, rfl, .ty n, tyD_ok h, kit_ty k, q⟩
theorem _root_.L2.Same.rd {H H' : Hp} {a : Addr} {u : HO} (e : Same H H') (h : Rd H a u) : Rd H' a u := by
  rcases h with h | ⟨o, h⟩
  · exact .inl (e _ _ h)
  · exact .inr ⟨o, e _ _ h⟩
theorem _root_.L2.Same.seqT {K : PySem.W.Frag} {H H' : Hp} {a : Addr} {xs : List V} (e : Same H H') (h : SqT K H a xs) : SqT K H' a xs := by
  rcases h with h | h
  · exact .inl (e.rd h)
  · exact .inr h
mutual
theorem dp_same {K : PySem.W.Frag} {H H' : Hp} (e : Same H H') : ∀ (d : PyData) (x : V), Dp K H x d → Dp K H' x d
  | .none, _, h => by cases h; exact .non
  | .bool _, _, h => by cases h; exact .bl _
  | .int _, _, h => by cases h; exact .int _
  | .str _, _, h => by cases h; exact .str _
  | .list ds, _, h => by
    cases h with
    | lst h1 h2 => exact .lst (e.seq h1) (dps_same e ds _ h2)
  | .tuple ds, _, h => by
    cases h with
    | tup h1 h2 => exact .tup (e.seqT h1) (dps_same e ds _ h2)
  | .dict _, _, h => by cases h
theorem dps_same {K : PySem.W.Frag} {H H' : Hp} (e : Same H H') : ∀ (ds : List PyData) (xs : List V), DpAll K H xs ds → DpAll K H' xs ds
  | [], _, h => by cases h; exact .nil
  | d :: ds, _, h => by
    cases h with
    | cons h1 h2 => exact .cons (dp_same e d _ h1) (dps_same e ds _ h2)
end
theorem dps_len {K : PySem.W.Frag} {H : Hp} : ∀ {ds : List PyData} {xs : List V}, DpAll K H xs ds → xs.length = ds.length
  | [], _, h => by cases h; rfl
  | d :: ds, _, h => by
    cases h with
    | cons h1 h2 => simp [dps_len h2]
theorem dps_get {K : PySem.W.Frag} {H : Hp} : ∀ {ds : List PyData} {xs : List V} {i : Nat} {d : PyData}, DpAll K H xs ds → ds[i]? = some d → ∃ x, xs[i]? = some x ∧ Dp K H x d
  | [], _, i, d, h, e => by simp at e
  | d' :: ds, _, 0, d, h, e => by
    cases h with
    | cons h1 h2 =>
      simp at e
      subst e
      exact ⟨_, rfl, h1⟩
  | d' :: ds, _, i + 1, d, h, e => by
    cases h with
    | cons h1 h2 =>
      obtain ⟨x, hx, hd⟩ := dps_get (i := i) h2 (by simpa using e)
      exact ⟨x, by simpa using hx, hd⟩
/-! a method that may raise, within a try -/
section
variable {X : Cx} {CX : CXT} {k : Nat} {f C : Addr} {fd : FuncData} {ps : List Str} {sp : Sp} {E : L2.St → XK} {m : Str} {pos apos : Pos} {e o : PySem.Expr} {es : List PySem.Expr} {ta : TE} {t : TA}
def tMethE (C : Addr) (m : Str) (sp : Sp) (E : L2.St → XK) (ta : TE) (t : TA) : TE := fun σ H Q => ta σ H fun x H1 =>
  ∃ a dx fs, x = .ref a ∧ H1 a = some (.ins C dx fs) ∧ fs.lookup m = none ∧ t σ H1 fun vs H2 => sp (x :: vs) H2 Q (E σ)
theorem pe_methE {pl : Sem Bool} (he : PE X o ta) (c : Cls X.K C) (hm : Meth X.K C m f) (F : FnOk X.prog X.w X.K X.mg X.base CX k f fd ps sp) (hr : Room k X.A) (hb : Binds X.K fd ps []) (hx : ∀ σ, PassesAt CX X σ (E σ)) (ha : PA X (e :: es) t)
    (hst : starEach (e :: es) X.env = (false, eval e X.env) :: starEach es X.env := by rfl) (hpl : (backTo pos (starEach es X.env)).any (·.1) = false := by rfl)
    (ht : eval (.Call (.Attribute o m apos) (e :: es) [] pos) X.env = (do
      let ov ← eval o X.env; standAt apos.atName; let (f, first) ← holding [ov] (getMethod ov m pl)
      callWith pos f first (backTo pos (starEach (e :: es) X.env)) (backToKw pos (keywordEach [] X.env))) := by rfl) :
    PE X (.Call (.Attribute o m apos) (e :: es) [] pos) (tMethE C m sp E ta t) := by
  refine ⟨fun pins s σ H Q I h => ?_⟩
  refine PySem.W.methodCall_KW (pl := pl) (thn (he.run pins s σ H _ I h) fun u s1 hh => ?_) ht
  obtain ⟨x, H1, I1, rx, a, dx, fs, ex, ea, l, q⟩ := hh
  subst ex
  obtain rfl : u = Value.ref a := rx
  refine getmeth_ok I1 ea c hm l ?_
  refine PySem.W.callWith_K (first := [.ref a]) (h₀ := X.base) I.ok.mod.kin hm.kp (thn (ha.run pos pins s1 σ H1 _ I1 q) fun us s2 hh => ?_) hst hpl
  obtain ⟨vs, H2, I2, r, q2⟩ := hh
  exact ⟨I2.kIn, run_fnS (us := .ref a :: us) (vs := .ref a :: vs) F hr hb (hx σ) I2 (.cons rfl r) q2⟩
theorem r_methE {σ : L2.St} {H : Hp} {Q : VK} (q : ta σ H fun x H1 => ∃ a dx fs, x = .ref a ∧ H1 a = some (.ins C dx fs) ∧ fs.lookup m = none ∧ t σ H1 fun vs H2 => sp (x :: vs) H2 Q (E σ)) : tMethE C m sp E ta t σ H Q := q
theorem r_xf {σ : L2.St} {H : Hp} {Q : VK} {a : Addr} {cls : Value} {d : Option Addr} {te : TE} (q : te σ H fun x H1 => x = .ref a ∧ cls = .ref C ∧ ∃ (dd : Addr) (fs : List (Str × V)) (v : V), d = some dd ∧ H1 dd = some (.xd fs) ∧ fs.lookup m = some v ∧ Q v H1) : tXf a cls d C m te σ H Q := q
theorem r_slL {K : PySem.W.Frag} {H : Hp} {Q : VK} {a : Addr} {xs : List V} {lo hi : Option Int} (h : H a = some (.lst xs)) (q : ∀ p, H p = none → Q (.ref p) (upd H p (.lst (cutV xs lo hi)))) : rSlL K (.ref a) lo hi H Q := ⟨a, xs, rfl, SqL.of h, q⟩
theorem r_sl {σ : L2.St} {H : Hp} {Q : VK} {r : V → Option Int → Option Int → Hp → VK → Prop} {te : TE} {tl th : TO} (q : te σ H fun x H1 => tl σ H1 fun l H2 => th σ H2 fun u H3 => r x l u H3 Q) : tSl r te tl th σ H Q := q
theorem r_noPart {σ : L2.St} {H : Hp} {Q : Option Int → Hp → Prop} (q : Q none H) : tNoPart σ H Q := q
theorem r_part {σ : L2.St} {H : Hp} {te : TE} {Q : Option Int → Hp → Prop} (q : te σ H fun x H1 => ∃ i, x = .int i ∧ Q (some i) H1) : tPart te σ H Q := q
theorem r_partI {i : Int} {P : Int → Prop} (q : P i) : ∃ j, V.int i = .int j ∧ P j := ⟨i, rfl, q⟩
theorem r_extend {H : Hp} {Q : VK} {l b : Addr} {xs zs : List V} (h : H l = some (.lst xs)) (h2 : H b = some (.lst zs)) (z : xs.length + zs.length ≤ sizeLine) (q : Q .non (upd H l (.lst (xs ++ zs)))) : rExtend (.ref l) [.ref b] H Q := ⟨l, b, xs, zs, rfl, rfl, h, h2, z, q⟩
end
local macro_rules | `(tactic| walk_at "kit") => `(tactic| first
  | exact kt_NoneType_int
  | exact kt_NoneType_bool
  | exact kt_NoneType_str
  | exact kt_NoneType_tuple
  | exact kt_NoneType_list
  | exact kt_NoneType_dict
  | exact kt_bool_int
  | exact kt_bool_bool
  | exact kt_bool_str
  | exact kt_bool_tuple
  | exact kt_bool_list
  | exact kt_bool_dict
  | exact kt_int_int
  | exact kt_int_bool
  | exact kt_int_str
  | exact kt_int_tuple
  | exact kt_int_list
  | exact kt_int_dict
  | exact kt_str_int
  | exact kt_str_bool
  | exact kt_str_str
  | exact kt_str_tuple
  | exact kt_str_list
  | exact kt_str_dict
  | exact kt_list_int
  | exact kt_list_bool
  | exact kt_list_str
  | exact kt_list_tuple
  | exact kt_list_list
  | exact kt_list_dict
  | exact kt_tuple_int
  | exact kt_tuple_bool
  | exact kt_tuple_str
  | exact kt_tuple_tuple
  | exact kt_tuple_list
  | exact kt_tuple_dict
  | exact kt_dict_int
  | exact kt_dict_bool
  | exact kt_dict_str
  | exact kt_dict_tuple
  | exact kt_dict_list
  | exact kt_dict_dict)
local macro_rules | `(tactic| walk_at "ne") => `(tactic| first
  | assumption
  | (apply Ne.symm; assumption)
  | ((refine' ne_of_none ?na_ ?nb_); (case nb_ => assumption); (case na_ => walk_at "hl"))
  | ((refine' Ne.symm (ne_of_none ?na_ ?nb_)); (case nb_ => assumption); (case na_ => walk_at "hl")))
local macro_rules | `(tactic| walk_at "hl") => `(tactic| first
  | assumption
  | exact upd_same
  | ((refine Eq.trans (upd_ne ?ne_) ?_); (case ne_ => walk_at "ne"); walk_at "hl"))
local macro_rules | `(tactic| walk_at "cnd") => `(tactic| first
  | omega
  | exact ⟨by omega, by omega⟩
  | exact ⟨by decide, by decide, by decide⟩
  | exact Or.inl ⟨by omega, by omega⟩
  | exact Or.inr ⟨by omega, by omega⟩)
local macro_rules | `(tactic| walk_at "sz") => `(tactic| first
  | (refine Nat.lt_of_le_of_lt (m := 1000) ?_ (by decide); first | omega | (simp; omega)))
local macro_rules | `(tactic| walk_at "rs1") => `(tactic| first
  | ((with_reducible refine' r_var ?ee_ ?_); (case ee_ => rfl))
  | with_reducible refine r_c ?_
  | with_reducible refine r_op ?_
  | with_reducible refine r_un ?_
  | with_reducible refine r_I0 ?_
  | ((with_reducible refine' r_I ?cc_ ?_); (case cc_ => walk_at "cnd"))
  | with_reducible refine r_U ?_
  | ((with_reducible refine' r_eq ?ee_ ?_); (case ee_ => rfl))
  | ((with_reducible refine' r_ne ?ee_ ?_); (case ee_ => rfl))
  | with_reducible refine r_test ?_
  | with_reducible refine r_B ?_
  | with_reducible refine r_bl ?_
  | with_reducible refine r_seq ?_
  | with_reducible refine r_next ?_
  | with_reducible refine r_ret ?_
  | with_reducible refine r_retN ?_
  | with_reducible refine r_drop ?_
  | with_reducible refine r_asg ?_
  | with_reducible refine r_ifS ?_
  | with_reducible refine r_gN ?_
  | with_reducible refine r_gC ?_
  | ((with_reducible refine' r_gT ?ss_ ?ll_ ?_); (case ss_ => walk_at "hl"); (case ll_ => rfl))
  | with_reducible refine r_gZ ?_
  | with_reducible refine r_gS ?_
  | with_reducible refine r_nil ?_
  | with_reducible refine r_cons ?_
  | with_reducible refine r_CB ?_
  | with_reducible refine r_call ?_
  | with_reducible refine r_callS ?_
  | with_reducible refine r_tup ?_
  | with_reducible refine r_lst ?_
  | ((with_reducible refine r_sz ?ee_ ?_); (case ee_ => first | exact Nat.zero_le _ | (simp; done) | (simp; omega)))
  | with_reducible refine iteT ?_
  | with_reducible refine iteF ?_
  | with_reducible refine r_not ?_
  | with_reducible refine r_and ?_
  | with_reducible refine r_or ?_
  | with_reducible refine r_andV ?_
  | with_reducible refine r_orV ?_
  | with_reducible refine r_notV ?_
  | with_reducible refine r_ifE ?_
  | with_reducible refine r_isN ?_
  | with_reducible refine r_notN ?_
  | with_reducible refine r_chain ?_
  | with_reducible refine r_for ?_
  | with_reducible refine r_rng1 ?_
  | with_reducible refine r_rng2 ?_
  | with_reducible refine r_rng3 ?_
  | with_reducible refine r_iList ?_
  | with_reducible refine r_lc ?_
  | ((with_reducible refine r_iteVT ?hh_ ?_); (case hh_ => rfl))
  | ((with_reducible refine r_iteVF ?hh_ ?_); (case hh_ => (intro z; cases z)))
  | with_reducible refine r_isBool ?_
  | with_reducible refine r_methE ?_
  | with_reducible refine r_xf ?_
  | with_reducible refine r_sl ?_
  | with_reducible refine r_noPart ?_
  | with_reducible refine r_part ?_
  | with_reducible refine r_partI ?_
  | ((with_reducible refine' r_slL ?hh_ ?_); (case hh_ => walk_at "hl"))
  | ((with_reducible refine' r_extend ?hh_ ?jj_ ?zz_ ?_); (case hh_ => walk_at "hl"); (case jj_ => walk_at "hl"); (case zz_ => assumption))
  | with_reducible refine r_iteNf ?_
  | with_reducible refine r_iteNt ?_
  | ((with_reducible refine' r_isi ?hh_ ?kk_ ?_); (case hh_ => assumption); (case kk_ => walk_at "kit"))
  | with_reducible refine r_yes ?_
  | with_reducible refine r_din ?_
  | with_reducible refine r_dnotin ?_
  | with_reducible refine r_dget1 ?_
  | with_reducible refine r_dget ?_
  | with_reducible refine r_dput ?_
  | with_reducible refine r_sfld ?_
  | with_reducible refine r_mkO ?_
  | with_reducible refine r_make ?_
  | with_reducible refine r_meth ?_
  | with_reducible refine r_dnew ?_
  | with_reducible refine r_brk ?_
  | with_reducible refine r_cont ?_
  | with_reducible refine r_fld ?_
  | ((with_reducible refine' r_ixL ?hh_ ?aa_ ?_); (case hh_ => walk_at "hl"); (case aa_ => first | rfl | assumption))
  | ((with_reducible refine' r_ixT ?hh_ ?aa_ ?_); (case hh_ => walk_at "hl"); (case aa_ => first | rfl | assumption))
  | ((with_reducible refine' r_setL ?hh_ ?aa_ ?_); (case hh_ => walk_at "hl"); (case aa_ => first | rfl | assumption))
  | ((with_reducible refine' r_len ?hh_ ?_); (case hh_ => walk_at "hl"))
  | ((with_reducible refine' r_lenT ?hh_ ?_); (case hh_ => walk_at "hl"))
  | with_reducible refine r_int1 ?_
  | with_reducible refine r_abs ?_
  | with_reducible refine r_max ?_
  | with_reducible refine r_min ?_
  | ((with_reducible refine' r_listOf ?hh_ ?_); (case hh_ => walk_at "hl"))
  | with_reducible refine r_isNo ?_
  | with_reducible refine r_notNo ?_
  | with_reducible refine r_bm ?_
  | with_reducible refine r_bm0 ?_
  | ((with_reducible refine' r_tyL ?hh_ ?_); (case hh_ => walk_at "hl"))
  | ((with_reducible refine' r_append ?hh_ ?zz_ ?_); (case hh_ => walk_at "hl"); (case zz_ => walk_at "sz"))
  | ((with_reducible refine' r_insert ?hh_ ?zz_ ?ii_ ?jj_ ?_); (case hh_ => walk_at "hl"); (case zz_ => walk_at "sz"); (case ii_ => omega); (case jj_ => omega)))
local macro_rules | `(tactic| walk_at "rs") => `(tactic| (repeat' (walk_at "rs1")))
/-! ### the text by places -/
abbrev tabQ : Option Str := none
abbrev tabN : Str := ".<locals>.<lambda>"
def top (i : Nat) : Stmt := PySem.Challenge.pw_sandthreads_k41_rows_and_boards.main.body.getD i (.Pass ⟨0, 0, 0, 0⟩)
abbrev s_SandError___init__ : Stmt := (inClass (top 2) 0)
abbrev N_SandError___init__ : List Str := ["self", "value"]
abbrev P_SandError___init__ : List Str := ["self", "value"]
theorem sc_SandError___init__ : FnScope N_SandError___init__ P_SandError___init__ (defScope s_SandError___init__) := ⟨rfl, rfl, rfl, by decide +kernel, rfl, by decide +kernel, by decide +kernel⟩

abbrev s_is_inside : Stmt := (top 11)
abbrev N_is_inside : List Str := ["width", "height", "x", "y"]
abbrev P_is_inside : List Str := ["width", "height", "x", "y"]
theorem sc_is_inside : FnScope N_is_inside P_is_inside (defScope s_is_inside) := ⟨rfl, rfl, rfl, by decide +kernel, rfl, by decide +kernel, by decide +kernel⟩

abbrev s_check_mirror : Stmt := (top 12)
abbrev N_check_mirror : List Str := ["width", "height", "kinds", "mirror", "x", "y", "kind"]
abbrev P_check_mirror : List Str := ["width", "height", "kinds", "mirror"]
theorem sc_check_mirror : FnScope N_check_mirror P_check_mirror (defScope s_check_mirror) := ⟨rfl, rfl, rfl, by decide +kernel, rfl, by decide +kernel, by decide +kernel⟩

abbrev s_kinds_of : Stmt := (top 13)
abbrev N_kinds_of : List Str := ["width", "height", "mirrors", "kinds", "x", "y", "kind"]
abbrev P_kinds_of : List Str := ["width", "height", "mirrors"]
theorem sc_kinds_of : FnScope N_kinds_of P_kinds_of (defScope s_kinds_of) := ⟨rfl, rfl, rfl, by decide +kernel, rfl, by decide +kernel, by decide +kernel⟩

abbrev s_Board___init__ : Stmt := (inClass (top 14) 0)
abbrev N_Board___init__ : List Str := ["self", "width", "height", "mirrors"]
abbrev P_Board___init__ : List Str := ["self", "width", "height", "mirrors"]
theorem sc_Board___init__ : FnScope N_Board___init__ P_Board___init__ (defScope s_Board___init__) := ⟨rfl, rfl, rfl, by decide +kernel, rfl, by decide +kernel, by decide +kernel⟩

abbrev s_Board_width : Stmt := (inClass (top 14) 1)
abbrev N_Board_width : List Str := ["self"]
abbrev P_Board_width : List Str := ["self"]
theorem sc_Board_width : FnScope N_Board_width P_Board_width (defScope s_Board_width) := ⟨rfl, rfl, rfl, by decide +kernel, rfl, by decide +kernel, by decide +kernel⟩

abbrev s_Board_height : Stmt := (inClass (top 14) 2)
abbrev N_Board_height : List Str := ["self"]
abbrev P_Board_height : List Str := ["self"]
theorem sc_Board_height : FnScope N_Board_height P_Board_height (defScope s_Board_height) := ⟨rfl, rfl, rfl, by decide +kernel, rfl, by decide +kernel, by decide +kernel⟩

abbrev s_Board_mirrors : Stmt := (inClass (top 14) 3)
abbrev N_Board_mirrors : List Str := ["self", "x", "y"]
abbrev P_Board_mirrors : List Str := ["self"]
theorem sc_Board_mirrors : FnScope N_Board_mirrors P_Board_mirrors (defScope s_Board_mirrors) := ⟨rfl, rfl, rfl, by decide +kernel, rfl, by decide +kernel, by decide +kernel⟩

abbrev s_Board_mirror_at : Stmt := (inClass (top 14) 6)
abbrev N_Board_mirror_at : List Str := ["self", "x", "y"]
abbrev P_Board_mirror_at : List Str := ["self", "x", "y"]
theorem sc_Board_mirror_at : FnScope N_Board_mirror_at P_Board_mirror_at (defScope s_Board_mirror_at) := ⟨rfl, rfl, rfl, by decide +kernel, rfl, by decide +kernel, by decide +kernel⟩

abbrev s_check_rows : Stmt := (top 17)
abbrev N_check_rows : List Str := ["width", "rows", "inside", "below", "wrong", "char"]
abbrev P_check_rows : List Str := ["width", "rows"]
theorem sc_check_rows : FnScope N_check_rows P_check_rows (defScope s_check_rows) := ⟨rfl, rfl, rfl, by decide +kernel, rfl, by decide +kernel, by decide +kernel⟩

abbrev s_level_mirrors : Stmt := (top 18)
abbrev N_level_mirrors : List Str := ["text", "left", "y", "k", "char"]
abbrev P_level_mirrors : List Str := ["text", "left", "y"]
theorem sc_level_mirrors : FnScope N_level_mirrors P_level_mirrors (defScope s_level_mirrors) := ⟨rfl, rfl, rfl, by decide +kernel, rfl, by decide +kernel, by decide +kernel⟩

abbrev s_row_mirrors : Stmt := (top 19)
abbrev N_row_mirrors : List Str := ["rows", "mirrors", "r", "inside", "below"]
abbrev P_row_mirrors : List Str := ["rows"]
theorem sc_row_mirrors : FnScope N_row_mirrors P_row_mirrors (defScope s_row_mirrors) := ⟨rfl, rfl, rfl, by decide +kernel, rfl, by decide +kernel, by decide +kernel⟩

abbrev s_Strip___init__ : Stmt := (inClass (top 20) 0)
abbrev N_Strip___init__ : List Str := ["self", "width", "ahead", "cycle", "end"]
abbrev P_Strip___init__ : List Str := ["self", "width", "ahead", "cycle", "end"]
theorem sc_Strip___init__ : FnScope N_Strip___init__ P_Strip___init__ (defScope s_Strip___init__) := ⟨rfl, rfl, rfl, by decide +kernel, rfl, by decide +kernel, by decide +kernel⟩

abbrev s_Strip_width : Stmt := (inClass (top 20) 1)
abbrev N_Strip_width : List Str := ["self"]
abbrev P_Strip_width : List Str := ["self"]
theorem sc_Strip_width : FnScope N_Strip_width P_Strip_width (defScope s_Strip_width) := ⟨rfl, rfl, rfl, by decide +kernel, rfl, by decide +kernel, by decide +kernel⟩

abbrev s_Strip_ahead : Stmt := (inClass (top 20) 2)
abbrev N_Strip_ahead : List Str := ["self"]
abbrev P_Strip_ahead : List Str := ["self"]
theorem sc_Strip_ahead : FnScope N_Strip_ahead P_Strip_ahead (defScope s_Strip_ahead) := ⟨rfl, rfl, rfl, by decide +kernel, rfl, by decide +kernel, by decide +kernel⟩

abbrev s_Strip_cycle : Stmt := (inClass (top 20) 3)
abbrev N_Strip_cycle : List Str := ["self"]
abbrev P_Strip_cycle : List Str := ["self"]
theorem sc_Strip_cycle : FnScope N_Strip_cycle P_Strip_cycle (defScope s_Strip_cycle) := ⟨rfl, rfl, rfl, by decide +kernel, rfl, by decide +kernel, by decide +kernel⟩

abbrev s_Strip_end : Stmt := (inClass (top 20) 4)
abbrev N_Strip_end : List Str := ["self"]
abbrev P_Strip_end : List Str := ["self"]
theorem sc_Strip_end : FnScope N_Strip_end P_Strip_end (defScope s_Strip_end) := ⟨rfl, rfl, rfl, by decide +kernel, rfl, by decide +kernel, by decide +kernel⟩

abbrev s_Strip_least : Stmt := (inClass (top 20) 5)
abbrev N_Strip_least : List Str := ["self"]
abbrev P_Strip_least : List Str := ["self"]
theorem sc_Strip_least : FnScope N_Strip_least P_Strip_least (defScope s_Strip_least) := ⟨rfl, rfl, rfl, by decide +kernel, rfl, by decide +kernel, by decide +kernel⟩

abbrev s_Strip_rows : Stmt := (inClass (top 20) 6)
abbrev N_Strip_rows : List Str := ["self", "n", "told", "k"]
abbrev P_Strip_rows : List Str := ["self", "n"]
theorem sc_Strip_rows : FnScope N_Strip_rows P_Strip_rows (defScope s_Strip_rows) := ⟨rfl, rfl, rfl, by decide +kernel, rfl, by decide +kernel, by decide +kernel⟩

abbrev s_Strip_board_for : Stmt := (inClass (top 20) 7)
abbrev N_Strip_board_for : List Str := ["self", "n"]
abbrev P_Strip_board_for : List Str := ["self", "n"]
theorem sc_Strip_board_for : FnScope N_Strip_board_for P_Strip_board_for (defScope s_Strip_board_for) := ⟨rfl, rfl, rfl, by decide +kernel, rfl, by decide +kernel, by decide +kernel⟩

abbrev s__law_well : Stmt := (top 22)
abbrev N__law_well : List Str := ["_law_cell", "_law_salt", "_law_prime", "_law_seed", "_law_number", "_law_k"]
abbrev P__law_well : List Str := ["_law_cell", "_law_salt"]
theorem sc__law_well : FnScope N__law_well P__law_well (defScope s__law_well) := ⟨rfl, rfl, rfl, by decide +kernel, rfl, by decide +kernel, by decide +kernel⟩

abbrev s__law_pick : Stmt := (top 23)
abbrev N__law_pick : List Str := ["_law_well_here", "_law_many", "_law_taken"]
abbrev P__law_pick : List Str := ["_law_well_here", "_law_many"]
theorem sc__law_pick : FnScope N__law_pick P__law_pick (defScope s__law_pick) := ⟨rfl, rfl, rfl, by decide +kernel, rfl, by decide +kernel, by decide +kernel⟩

abbrev s__law_same : Stmt := (top 24)
abbrev N__law_same : List Str := ["_law_found", "_law_due_here", "_law_k"]
abbrev P__law_same : List Str := ["_law_found", "_law_due_here"]
theorem sc__law_same : FnScope N__law_same P__law_same (defScope s__law_same) := ⟨rfl, rfl, rfl, by decide +kernel, rfl, by decide +kernel, by decide +kernel⟩

abbrev s__law_rows : Stmt := (top 25)
abbrev N__law_rows : List Str := ["_law_well_here", "_law_wide", "_law_many", "_law_signs", "_law_rows_here", "_law_k", "_law_inside", "_law_j"]
abbrev P__law_rows : List Str := ["_law_well_here", "_law_wide", "_law_many"]
theorem sc__law_rows : FnScope N__law_rows P__law_rows (defScope s__law_rows) := ⟨rfl, rfl, rfl, by decide +kernel, rfl, by decide +kernel, by decide +kernel⟩

abbrev s__law_lists : Stmt := (top 26)
abbrev N__law_lists : List Str := ["_law_well_here", "_law_great", "_law_wide", "_law_counts", "_law_some", "_law_k", "_law_j"]
abbrev P__law_lists : List Str := ["_law_well_here"]
theorem sc__law_lists : FnScope N__law_lists P__law_lists (defScope s__law_lists) := ⟨rfl, rfl, rfl, by decide +kernel, rfl, by decide +kernel, by decide +kernel⟩

abbrev s__law_due : Stmt := (top 27)
abbrev N__law_due : List Str := ["_law_lists_here", "_law_size", "_law_rows_here", "_law_k"]
abbrev P__law_due : List Str := ["_law_lists_here", "_law_size"]
theorem sc__law_due : FnScope N__law_due P__law_due (defScope s__law_due) := ⟨rfl, rfl, rfl, by decide +kernel, rfl, by decide +kernel, by decide +kernel⟩

abbrev s__law_mirrors : Stmt := (top 28)
abbrev N__law_mirrors : List Str := ["_law_wide", "_law_rows_here", "_law_mirrors_here", "_law_x", "_law_y", "_law_char"]
abbrev P__law_mirrors : List Str := ["_law_wide", "_law_rows_here"]
theorem sc__law_mirrors : FnScope N__law_mirrors P__law_mirrors (defScope s__law_mirrors) := ⟨rfl, rfl, rfl, by decide +kernel, rfl, by decide +kernel, by decide +kernel⟩

abbrev s__law_refused : Stmt := (top 29)
abbrev N__law_refused : List Str := ["_law_strip", "_law_low", "_law_found", "e"]
abbrev P__law_refused : List Str := ["_law_strip", "_law_low"]
theorem sc__law_refused : FnScope N__law_refused P__law_refused (defScope s__law_refused) := ⟨rfl, rfl, rfl, by decide +kernel, rfl, by decide +kernel, by decide +kernel⟩

abbrev s__law_board_is : Stmt := (top 30)
abbrev N__law_board_is : List Str := ["_law_board", "_law_wide", "_law_rows_here", "_law_mirrors_here", "_law_x", "_law_y", "_law_char"]
abbrev P__law_board_is : List Str := ["_law_board", "_law_wide", "_law_rows_here"]
theorem sc__law_board_is : FnScope N__law_board_is P__law_board_is (defScope s__law_board_is) := ⟨rfl, rfl, rfl, by decide +kernel, rfl, by decide +kernel, by decide +kernel⟩

abbrev s_law : Stmt := (top 31)
abbrev N_law : List Str := ["_law_script", "_law_cell", "_law_well_here", "_law_picks", "_law_wide", "_law_lists_here", "_law_deep", "_law_strip", "_law_least", "_law_low", "_law_size", "_law_rows_here", "_law_told"]
abbrev P_law : List Str := ["_law_script"]
theorem sc_law : FnScope N_law P_law (defScope s_law) := ⟨rfl, rfl, rfl, by decide +kernel, rfl, by decide +kernel, by decide +kernel⟩

structure Ad where
  f_SandError___init__ : Addr
  d_SandError___init__ : FuncData
  f_is_inside : Addr
  d_is_inside : FuncData
  f_check_mirror : Addr
  d_check_mirror : FuncData
  f_kinds_of : Addr
  d_kinds_of : FuncData
  f_Board___init__ : Addr
  d_Board___init__ : FuncData
  f_Board_width : Addr
  d_Board_width : FuncData
  f_Board_height : Addr
  d_Board_height : FuncData
  f_Board_mirrors : Addr
  d_Board_mirrors : FuncData
  f_Board_mirror_at : Addr
  d_Board_mirror_at : FuncData
  f_check_rows : Addr
  d_check_rows : FuncData
  f_level_mirrors : Addr
  d_level_mirrors : FuncData
  f_row_mirrors : Addr
  d_row_mirrors : FuncData
  f_Strip___init__ : Addr
  d_Strip___init__ : FuncData
  f_Strip_width : Addr
  d_Strip_width : FuncData
  f_Strip_ahead : Addr
  d_Strip_ahead : FuncData
  f_Strip_cycle : Addr
  d_Strip_cycle : FuncData
  f_Strip_end : Addr
  d_Strip_end : FuncData
  f_Strip_least : Addr
  d_Strip_least : FuncData
  f_Strip_rows : Addr
  d_Strip_rows : FuncData
  f_Strip_board_for : Addr
  d_Strip_board_for : FuncData
  f__law_well : Addr
  d__law_well : FuncData
  f__law_pick : Addr
  d__law_pick : FuncData
  f__law_same : Addr
  d__law_same : FuncData
  f__law_rows : Addr
  d__law_rows : FuncData
  f__law_lists : Addr
  d__law_lists : FuncData
  f__law_due : Addr
  d__law_due : FuncData
  f__law_mirrors : Addr
  d__law_mirrors : FuncData
  f__law_refused : Addr
  d__law_refused : FuncData
  f__law_board_is : Addr
  d__law_board_is : FuncData
  f_law : Addr
  d_law : FuncData
  C_InvalidSize : Addr
  C_InvalidRow : Addr
  C_InvalidPoint : Addr
  C_InvalidMirror : Addr
  C_Taken : Addr
  C_NoLength : Addr
  C_Strip : Addr
  C_Board : Addr
  C_InvalidTurn : Addr
  C_NoMirror : Addr
  C_InvalidNumber : Addr
  C_InvalidSquare : Addr
  C_Course : Addr
  C_SandError : Addr
  c_KINDS : Addr
  p_Strip_width : Addr
  p_Strip_ahead : Addr
  p_Strip_cycle : Addr
  p_Strip_end : Addr
  p_Strip_least : Addr
  p_Board_width : Addr
  p_Board_height : Addr
  p_Board_mirrors : Addr
structure Txt (K : PySem.W.Frag) (mg : Str → Option Value) (A : Ad) : Prop where
  F_SandError___init__ : Fun K "__init__" "SandError.__init__" s_SandError___init__ A.f_SandError___init__ A.d_SandError___init__
  k_SandError___init__ : PySem.W.keepIn K (.ref A.f_SandError___init__) = true
  b_SandError___init__ : Binds K A.d_SandError___init__ P_SandError___init__ []
  F_is_inside : Fun K "is_inside" "is_inside" s_is_inside A.f_is_inside A.d_is_inside
  k_is_inside : PySem.W.keepIn K (.ref A.f_is_inside) = true
  b_is_inside : Binds K A.d_is_inside P_is_inside []
  g_is_inside : mg "is_inside" = some (.ref A.f_is_inside)
  F_check_mirror : Fun K "check_mirror" "check_mirror" s_check_mirror A.f_check_mirror A.d_check_mirror
  k_check_mirror : PySem.W.keepIn K (.ref A.f_check_mirror) = true
  b_check_mirror : Binds K A.d_check_mirror P_check_mirror []
  g_check_mirror : mg "check_mirror" = some (.ref A.f_check_mirror)
  F_kinds_of : Fun K "kinds_of" "kinds_of" s_kinds_of A.f_kinds_of A.d_kinds_of
  k_kinds_of : PySem.W.keepIn K (.ref A.f_kinds_of) = true
  b_kinds_of : Binds K A.d_kinds_of P_kinds_of []
  g_kinds_of : mg "kinds_of" = some (.ref A.f_kinds_of)
  F_Board___init__ : Fun K "__init__" "Board.__init__" s_Board___init__ A.f_Board___init__ A.d_Board___init__
  k_Board___init__ : PySem.W.keepIn K (.ref A.f_Board___init__) = true
  b_Board___init__ : Binds K A.d_Board___init__ P_Board___init__ []
  F_Board_width : Fun K "width" "Board.width" s_Board_width A.f_Board_width A.d_Board_width
  k_Board_width : PySem.W.keepIn K (.ref A.f_Board_width) = true
  b_Board_width : Binds K A.d_Board_width P_Board_width []
  F_Board_height : Fun K "height" "Board.height" s_Board_height A.f_Board_height A.d_Board_height
  k_Board_height : PySem.W.keepIn K (.ref A.f_Board_height) = true
  b_Board_height : Binds K A.d_Board_height P_Board_height []
  F_Board_mirrors : Fun K "mirrors" "Board.mirrors" s_Board_mirrors A.f_Board_mirrors A.d_Board_mirrors
  k_Board_mirrors : PySem.W.keepIn K (.ref A.f_Board_mirrors) = true
  b_Board_mirrors : Binds K A.d_Board_mirrors P_Board_mirrors []
  F_Board_mirror_at : Fun K "mirror_at" "Board.mirror_at" s_Board_mirror_at A.f_Board_mirror_at A.d_Board_mirror_at
  k_Board_mirror_at : PySem.W.keepIn K (.ref A.f_Board_mirror_at) = true
  b_Board_mirror_at : Binds K A.d_Board_mirror_at P_Board_mirror_at []
  F_check_rows : Fun K "check_rows" "check_rows" s_check_rows A.f_check_rows A.d_check_rows
  k_check_rows : PySem.W.keepIn K (.ref A.f_check_rows) = true
  b_check_rows : Binds K A.d_check_rows P_check_rows []
  g_check_rows : mg "check_rows" = some (.ref A.f_check_rows)
  F_level_mirrors : Fun K "level_mirrors" "level_mirrors" s_level_mirrors A.f_level_mirrors A.d_level_mirrors
  k_level_mirrors : PySem.W.keepIn K (.ref A.f_level_mirrors) = true
  b_level_mirrors : Binds K A.d_level_mirrors P_level_mirrors []
  g_level_mirrors : mg "level_mirrors" = some (.ref A.f_level_mirrors)
  F_row_mirrors : Fun K "row_mirrors" "row_mirrors" s_row_mirrors A.f_row_mirrors A.d_row_mirrors
  k_row_mirrors : PySem.W.keepIn K (.ref A.f_row_mirrors) = true
  b_row_mirrors : Binds K A.d_row_mirrors P_row_mirrors []
  g_row_mirrors : mg "row_mirrors" = some (.ref A.f_row_mirrors)
  F_Strip___init__ : Fun K "__init__" "Strip.__init__" s_Strip___init__ A.f_Strip___init__ A.d_Strip___init__
  k_Strip___init__ : PySem.W.keepIn K (.ref A.f_Strip___init__) = true
  b_Strip___init__ : Binds K A.d_Strip___init__ P_Strip___init__ []
  F_Strip_width : Fun K "width" "Strip.width" s_Strip_width A.f_Strip_width A.d_Strip_width
  k_Strip_width : PySem.W.keepIn K (.ref A.f_Strip_width) = true
  b_Strip_width : Binds K A.d_Strip_width P_Strip_width []
  F_Strip_ahead : Fun K "ahead" "Strip.ahead" s_Strip_ahead A.f_Strip_ahead A.d_Strip_ahead
  k_Strip_ahead : PySem.W.keepIn K (.ref A.f_Strip_ahead) = true
  b_Strip_ahead : Binds K A.d_Strip_ahead P_Strip_ahead []
  F_Strip_cycle : Fun K "cycle" "Strip.cycle" s_Strip_cycle A.f_Strip_cycle A.d_Strip_cycle
  k_Strip_cycle : PySem.W.keepIn K (.ref A.f_Strip_cycle) = true
  b_Strip_cycle : Binds K A.d_Strip_cycle P_Strip_cycle []
  F_Strip_end : Fun K "end" "Strip.end" s_Strip_end A.f_Strip_end A.d_Strip_end
  k_Strip_end : PySem.W.keepIn K (.ref A.f_Strip_end) = true
  b_Strip_end : Binds K A.d_Strip_end P_Strip_end []
  F_Strip_least : Fun K "least" "Strip.least" s_Strip_least A.f_Strip_least A.d_Strip_least
  k_Strip_least : PySem.W.keepIn K (.ref A.f_Strip_least) = true
  b_Strip_least : Binds K A.d_Strip_least P_Strip_least []
  F_Strip_rows : Fun K "rows" "Strip.rows" s_Strip_rows A.f_Strip_rows A.d_Strip_rows
  k_Strip_rows : PySem.W.keepIn K (.ref A.f_Strip_rows) = true
  b_Strip_rows : Binds K A.d_Strip_rows P_Strip_rows []
  F_Strip_board_for : Fun K "board_for" "Strip.board_for" s_Strip_board_for A.f_Strip_board_for A.d_Strip_board_for
  k_Strip_board_for : PySem.W.keepIn K (.ref A.f_Strip_board_for) = true
  b_Strip_board_for : Binds K A.d_Strip_board_for P_Strip_board_for []
  F__law_well : Fun K "_law_well" "_law_well" s__law_well A.f__law_well A.d__law_well
  k__law_well : PySem.W.keepIn K (.ref A.f__law_well) = true
  b__law_well : Binds K A.d__law_well P__law_well []
  g__law_well : mg "_law_well" = some (.ref A.f__law_well)
  F__law_pick : Fun K "_law_pick" "_law_pick" s__law_pick A.f__law_pick A.d__law_pick
  k__law_pick : PySem.W.keepIn K (.ref A.f__law_pick) = true
  b__law_pick : Binds K A.d__law_pick P__law_pick []
  g__law_pick : mg "_law_pick" = some (.ref A.f__law_pick)
  F__law_same : Fun K "_law_same" "_law_same" s__law_same A.f__law_same A.d__law_same
  k__law_same : PySem.W.keepIn K (.ref A.f__law_same) = true
  b__law_same : Binds K A.d__law_same P__law_same []
  g__law_same : mg "_law_same" = some (.ref A.f__law_same)
  F__law_rows : Fun K "_law_rows" "_law_rows" s__law_rows A.f__law_rows A.d__law_rows
  k__law_rows : PySem.W.keepIn K (.ref A.f__law_rows) = true
  b__law_rows : Binds K A.d__law_rows P__law_rows []
  g__law_rows : mg "_law_rows" = some (.ref A.f__law_rows)
  F__law_lists : Fun K "_law_lists" "_law_lists" s__law_lists A.f__law_lists A.d__law_lists
  k__law_lists : PySem.W.keepIn K (.ref A.f__law_lists) = true
  b__law_lists : Binds K A.d__law_lists P__law_lists []
  g__law_lists : mg "_law_lists" = some (.ref A.f__law_lists)
  F__law_due : Fun K "_law_due" "_law_due" s__law_due A.f__law_due A.d__law_due
  k__law_due : PySem.W.keepIn K (.ref A.f__law_due) = true
  b__law_due : Binds K A.d__law_due P__law_due []
  g__law_due : mg "_law_due" = some (.ref A.f__law_due)
  F__law_mirrors : Fun K "_law_mirrors" "_law_mirrors" s__law_mirrors A.f__law_mirrors A.d__law_mirrors
  k__law_mirrors : PySem.W.keepIn K (.ref A.f__law_mirrors) = true
  b__law_mirrors : Binds K A.d__law_mirrors P__law_mirrors []
  g__law_mirrors : mg "_law_mirrors" = some (.ref A.f__law_mirrors)
  F__law_refused : Fun K "_law_refused" "_law_refused" s__law_refused A.f__law_refused A.d__law_refused
  k__law_refused : PySem.W.keepIn K (.ref A.f__law_refused) = true
  b__law_refused : Binds K A.d__law_refused P__law_refused []
  g__law_refused : mg "_law_refused" = some (.ref A.f__law_refused)
  F__law_board_is : Fun K "_law_board_is" "_law_board_is" s__law_board_is A.f__law_board_is A.d__law_board_is
  k__law_board_is : PySem.W.keepIn K (.ref A.f__law_board_is) = true
  b__law_board_is : Binds K A.d__law_board_is P__law_board_is []
  g__law_board_is : mg "_law_board_is" = some (.ref A.f__law_board_is)
  F_law : Fun K "law" "law" s_law A.f_law A.d_law
  k_law : PySem.W.keepIn K (.ref A.f_law) = true
  b_law : Binds K A.d_law P_law []
  g_law : mg "law" = some (.ref A.f_law)
  g_InvalidSize : mg "InvalidSize" = some (.ref A.C_InvalidSize)
  X_InvalidSize : OexC K A.C_InvalidSize
  i_InvalidSize : PySem.W.findIn K (.ref A.C_InvalidSize) "__init__" = some (some (.ref A.f_SandError___init__))
  xf_InvalidSize : XfC K A.C_InvalidSize
  te_InvalidSize : PySem.W.exmOne K (.ref A.C_InvalidSize) (.ref A.C_InvalidSize) = some true
  no_InvalidSize : PySem.W.findIn K (.ref A.C_InvalidSize) "value" = some none
  g_InvalidRow : mg "InvalidRow" = some (.ref A.C_InvalidRow)
  X_InvalidRow : OexC K A.C_InvalidRow
  i_InvalidRow : PySem.W.findIn K (.ref A.C_InvalidRow) "__init__" = some (some (.ref A.f_SandError___init__))
  xf_InvalidRow : XfC K A.C_InvalidRow
  te_InvalidRow : PySem.W.exmOne K (.ref A.C_InvalidRow) (.ref A.C_InvalidRow) = some true
  no_InvalidRow : PySem.W.findIn K (.ref A.C_InvalidRow) "value" = some none
  g_InvalidPoint : mg "InvalidPoint" = some (.ref A.C_InvalidPoint)
  X_InvalidPoint : OexC K A.C_InvalidPoint
  i_InvalidPoint : PySem.W.findIn K (.ref A.C_InvalidPoint) "__init__" = some (some (.ref A.f_SandError___init__))
  xf_InvalidPoint : XfC K A.C_InvalidPoint
  te_InvalidPoint : PySem.W.exmOne K (.ref A.C_InvalidPoint) (.ref A.C_InvalidPoint) = some true
  no_InvalidPoint : PySem.W.findIn K (.ref A.C_InvalidPoint) "value" = some none
  g_InvalidMirror : mg "InvalidMirror" = some (.ref A.C_InvalidMirror)
  X_InvalidMirror : OexC K A.C_InvalidMirror
  i_InvalidMirror : PySem.W.findIn K (.ref A.C_InvalidMirror) "__init__" = some (some (.ref A.f_SandError___init__))
  xf_InvalidMirror : XfC K A.C_InvalidMirror
  te_InvalidMirror : PySem.W.exmOne K (.ref A.C_InvalidMirror) (.ref A.C_InvalidMirror) = some true
  no_InvalidMirror : PySem.W.findIn K (.ref A.C_InvalidMirror) "value" = some none
  g_Taken : mg "Taken" = some (.ref A.C_Taken)
  X_Taken : OexC K A.C_Taken
  i_Taken : PySem.W.findIn K (.ref A.C_Taken) "__init__" = some (some (.ref A.f_SandError___init__))
  xf_Taken : XfC K A.C_Taken
  te_Taken : PySem.W.exmOne K (.ref A.C_Taken) (.ref A.C_Taken) = some true
  no_Taken : PySem.W.findIn K (.ref A.C_Taken) "value" = some none
  g_NoLength : mg "NoLength" = some (.ref A.C_NoLength)
  X_NoLength : OexC K A.C_NoLength
  i_NoLength : PySem.W.findIn K (.ref A.C_NoLength) "__init__" = some (some (.ref A.f_SandError___init__))
  xf_NoLength : XfC K A.C_NoLength
  te_NoLength : PySem.W.exmOne K (.ref A.C_NoLength) (.ref A.C_NoLength) = some true
  no_NoLength : PySem.W.findIn K (.ref A.C_NoLength) "value" = some none
  g_SandError : mg "SandError" = some (.ref A.C_SandError)
  tb_InvalidSize : PySem.W.exmOne K (.ref A.C_InvalidSize) (.ref A.C_SandError) = some true
  tb_InvalidRow : PySem.W.exmOne K (.ref A.C_InvalidRow) (.ref A.C_SandError) = some true
  tb_InvalidPoint : PySem.W.exmOne K (.ref A.C_InvalidPoint) (.ref A.C_SandError) = some true
  tb_InvalidMirror : PySem.W.exmOne K (.ref A.C_InvalidMirror) (.ref A.C_SandError) = some true
  tb_Taken : PySem.W.exmOne K (.ref A.C_Taken) (.ref A.C_SandError) = some true
  tb_NoLength : PySem.W.exmOne K (.ref A.C_NoLength) (.ref A.C_SandError) = some true
  xc_InvalidSize : ExcC K A.C_InvalidSize
  kv_InvalidSize : PySem.W.kitOne K (.ref A.C_InvalidSize) (.type "ValueError") = some true
  ki_InvalidSize_InvalidSize : PySem.W.kitOne K (.ref A.C_InvalidSize) (.ref A.C_InvalidSize) = some true
  ki_InvalidSize_InvalidRow : PySem.W.kitOne K (.ref A.C_InvalidSize) (.ref A.C_InvalidRow) = some false
  ki_InvalidSize_NoLength : PySem.W.kitOne K (.ref A.C_InvalidSize) (.ref A.C_NoLength) = some false
  xc_InvalidRow : ExcC K A.C_InvalidRow
  kv_InvalidRow : PySem.W.kitOne K (.ref A.C_InvalidRow) (.type "ValueError") = some true
  ki_InvalidRow_InvalidSize : PySem.W.kitOne K (.ref A.C_InvalidRow) (.ref A.C_InvalidSize) = some false
  ki_InvalidRow_InvalidRow : PySem.W.kitOne K (.ref A.C_InvalidRow) (.ref A.C_InvalidRow) = some true
  ki_InvalidRow_NoLength : PySem.W.kitOne K (.ref A.C_InvalidRow) (.ref A.C_NoLength) = some false
  xc_NoLength : ExcC K A.C_NoLength
  kv_NoLength : PySem.W.kitOne K (.ref A.C_NoLength) (.type "ValueError") = some true
  ki_NoLength_InvalidSize : PySem.W.kitOne K (.ref A.C_NoLength) (.ref A.C_InvalidSize) = some false
  ki_NoLength_InvalidRow : PySem.W.kitOne K (.ref A.C_NoLength) (.ref A.C_InvalidRow) = some false
  ki_NoLength_NoLength : PySem.W.kitOne K (.ref A.C_NoLength) (.ref A.C_NoLength) = some true
  kw_Strip_rows_n : ∀ (s : Shared) (us ws : List Value), K.In s.heap → us.length = 1 → ws.length = 1 → BindsTo s A.d_Strip_rows ⟨us, (["n"] : List Str).zip ws⟩ (P_Strip_rows.zip (us ++ [0].filterMap fun i => ws[i]?))
  kw_Strip_board_for_n : ∀ (s : Shared) (us ws : List Value), K.In s.heap → us.length = 1 → ws.length = 1 → BindsTo s A.d_Strip_board_for ⟨us, (["n"] : List Str).zip ws⟩ (P_Strip_board_for.zip (us ++ [0].filterMap fun i => ws[i]?))
  ti_init : PySem.W.typeIn K (.ref A.f_SandError___init__) = some (.type "function")
  g_Strip : mg "Strip" = some (.ref A.C_Strip)
  M_Strip : Mk K A.C_Strip A.f_Strip___init__
  cl_Strip : Cls K A.C_Strip
  i1_Strip : PySem.W.findIn K (.ref A.C_Strip) "__class__" = some (some (.builtin "object.__class__"))
  i2_Strip : PySem.W.specialIn K (.builtin "object.__class__") "__get__" = some (some (.builtin "getset_descriptor.__get__"))
  i3_Strip : PySem.W.takesIn K (.builtin "object.__class__") = some true
  i4_Strip : PySem.W.mroIn K A.C_Strip (.type "object") = some true
  na_Strip_wide : NoAttr K A.C_Strip "wide"
  na_Strip_first_rows : NoAttr K A.C_Strip "first_rows"
  na_Strip_round_rows : NoAttr K A.C_Strip "round_rows"
  na_Strip_last_rows : NoAttr K A.C_Strip "last_rows"
  m_Strip_rows : Meth K A.C_Strip "rows" A.f_Strip_rows
  m_Strip_board_for : Meth K A.C_Strip "board_for" A.f_Strip_board_for
  pr_Strip_width : PropOf K A.C_Strip "width" A.p_Strip_width A.f_Strip_width
  pr_Strip_ahead : PropOf K A.C_Strip "ahead" A.p_Strip_ahead A.f_Strip_ahead
  pr_Strip_cycle : PropOf K A.C_Strip "cycle" A.p_Strip_cycle A.f_Strip_cycle
  pr_Strip_end : PropOf K A.C_Strip "end" A.p_Strip_end A.f_Strip_end
  pr_Strip_least : PropOf K A.C_Strip "least" A.p_Strip_least A.f_Strip_least
  g_Board : mg "Board" = some (.ref A.C_Board)
  M_Board : Mk K A.C_Board A.f_Board___init__
  cl_Board : Cls K A.C_Board
  i1_Board : PySem.W.findIn K (.ref A.C_Board) "__class__" = some (some (.builtin "object.__class__"))
  i2_Board : PySem.W.specialIn K (.builtin "object.__class__") "__get__" = some (some (.builtin "getset_descriptor.__get__"))
  i3_Board : PySem.W.takesIn K (.builtin "object.__class__") = some true
  i4_Board : PySem.W.mroIn K A.C_Board (.type "object") = some true
  na_Board_wide : NoAttr K A.C_Board "wide"
  na_Board_high : NoAttr K A.C_Board "high"
  na_Board_kinds : NoAttr K A.C_Board "kinds"
  m_Board_mirror_at : Meth K A.C_Board "mirror_at" A.f_Board_mirror_at
  pr_Board_width : PropOf K A.C_Board "width" A.p_Board_width A.f_Board_width
  pr_Board_height : PropOf K A.C_Board "height" A.p_Board_height A.f_Board_height
  pr_Board_mirrors : PropOf K A.C_Board "mirrors" A.p_Board_mirrors A.f_Board_mirrors
  g_KINDS : mg "KINDS" = some (.ref A.c_KINDS)
  q_KINDS : ∀ H : Hp, SqT K H A.c_KINDS [.str "-", .str "|"]
  g_CHARACTERS : ∃ t, mg "CHARACTERS" = some (.str ".-|" t)
  n_len : mg "len" = none
  n_int : mg "int" = none
  n_range : mg "range" = none
  n_list : mg "list" = none
  n_isinstance : mg "isinstance" = none
  n_bool : mg "bool" = none
  n_str : mg "str" = none
  n_tuple : mg "tuple" = none
  n_all : mg "all" = none
  n_max : mg "max" = none
  n_enumerate : mg "enumerate" = none
  n_sorted : mg "sorted" = none
/-! ### the hand: draws -/
def HandAt (H : Hp) (p c : Addr) (n : Nat) : Prop := ∃ (cs : List Int) (k : Nat) (t : Int), H p = some (.lst [.ref c, .int k, .int t]) ∧ H c = some (.lst (cs.map V.int)) ∧ c ≠ p ∧ (∀ x ∈ cs, 0 ≤ x) ∧ cs.length ≤ 63 ∧ k ≤ n
def Keep2 (p c : Addr) (H H' : Hp) : Prop := ∀ b o, H b = some o → b ≠ p → b ≠ c → H' b = some o
theorem HandAt.mono {H : Hp} {p c : Addr} {n m : Nat} (h : HandAt H p c n) (e : n ≤ m) : HandAt H p c m := by
  obtain ⟨cs, k, t, a, b, d, f, g, i⟩ := h
  exact ⟨cs, k, t, a, b, d, f, g, Nat.le_trans i e⟩
def spTake : Sp := fun vs H Q _ => ∃ (p c : Addr) (n : Nat) (lim : Int), vs = [.ref p, .int lim] ∧ HandAt H p c n ∧ n < 1000000000 ∧ 0 < lim ∧ lim < 1073741824 ∧
  ∀ (r : Int) (H' : Hp), 0 ≤ r → r < lim → HandAt H' p c (n + 1) → Keep2 p c H H' → Q (.int r) H'
section
variable {P : Program} {w : World} {K : PySem.W.Frag} {mg : Str → Option Value} {base : Heap} {A : Ad}
theorem mod_rng {a m : Int} (h : 0 < m) : 0 ≤ a % m ∧ a % m < m := ⟨Int.emod_nonneg a (by omega), Int.emod_lt_of_pos a h⟩
theorem at_mod {cs : List Int} {k : Int} (h : 0 < ((cs.map V.int).length : Int)) : ∃ (j : Nat) (z : Int), cs[j]? = some z ∧ j < cs.length ∧ ixN (cs.map V.int).length (k % ((cs.map V.int).length : Nat)) = some j ∧ atI (cs.map V.int) (k % ((cs.map V.int).length : Nat)) = some (V.int z) := by
  have r := mod_rng (a := k) h
  generalize hm : k % ((cs.map V.int).length : Nat) = m at r
  obtain ⟨r1, r2⟩ := r
  have hl : (cs.map V.int).length = cs.length := List.length_map ..
  have hj : m.toNat < cs.length := by omega
  have e : ixN (cs.map V.int).length m = some m.toNat := by
    unfold ixN
    rw [if_pos r1, if_pos r2]
  refine ⟨m.toNat, cs[m.toNat], List.getElem?_eq_getElem hj, hj, e, ?_⟩
  unfold atI
  rw [e]
  simp [hj]
theorem hand_set {cs : List Int} {j : Nat} {z : Int} (h : ∀ x ∈ cs, (0 : Int) ≤ x) (hz : 0 ≤ z) : ∀ x ∈ cs.set j z, (0 : Int) ≤ x := by
  intro x hx
  rcases List.mem_or_eq_of_mem_set hx with hx | hx
  · exact h x hx
  · omega
end
/-! ### the token of a hand -/
structure TokAt (H : Hp) (p c : Addr) (n : Nat) : Prop where
  at_ : HandAt H p c n
theorem TokAt.tokp {H : Hp} {p c : Addr} {n : Nat} (h : TokAt H p c n) : ∃ xs, H p = some (.lst xs) := by
  obtain ⟨_, _, _, e, _⟩ := h.at_
  exact ⟨_, e⟩
theorem TokAt.tokc {H : Hp} {p c : Addr} {n : Nat} (h : TokAt H p c n) : ∃ xs, H c = some (.lst xs) := by
  obtain ⟨_, _, _, _, e, _⟩ := h.at_
  exact ⟨_, e⟩
theorem TokAt.keep {H H' : Hp} {p c : Addr} {n : Nat} (h : TokAt H p c n) (hp : ∀ o, H p = some o → H' p = some o) (hc : ∀ o, H c = some o → H' c = some o) : TokAt H' p c n := by
  obtain ⟨cs, k, t, a, b, d⟩ := h.at_
  exact ⟨cs, k, t, hp _ a, hc _ b, d⟩
theorem TokAt.mono {H : Hp} {p c : Addr} {n m : Nat} (h : TokAt H p c n) (e : n ≤ m) : TokAt H p c m := ⟨h.at_.mono e⟩
/-! ### errors -/
def spErr (K : PySem.W.Frag) : Sp := fun vs H Q _ => ∃ (a C : Addr) (v : V), vs = [.ref a, v] ∧ OexC K C ∧ PySem.W.findIn K (.ref C) "value" = some none ∧ H a = some (exo a C none) ∧
  ∀ dx, H dx = none → dx ≠ a → Q .non (upd (upd H dx (exd dx [(("value" : Str), v)])) a (exo a C (some dx)))
/-- what is wanted where an error with this value is raised -/
def WishV (C : Addr) (v : V) (E : XK) (H : Hp) : Prop := ∀ (d : Addr) (H' : Hp), Same H H' → H' d = some (.xd [(("value" : Str), v)]) → E (.ref C) (some d) H'
def WishT (C : Addr) (x y : Int) (E : XK) (H : Hp) : Prop := ∀ (d q : Addr) (H' : Hp), Same H H' → H' d = some (.xd [(("value" : Str), .ref q)]) → H' q = some (.tup [.int x, .int y]) → E (.ref C) (some d) H'
theorem raise_val {K : PySem.W.Frag} {C : Addr} {v : V} {H1 : Hp} {E : XK} (X : OexC K C) (no : PySem.W.findIn K (.ref C) "value" = some none) (h : WishV C v E H1) :
    ∀ a, H1 a = none → spErr K (.ref a :: ([v] ++ [])) (upd H1 a (exo a C none)) (fun v' H2 => v' = .non ∧ ∃ (d : Addr) (fs : List (Str × V)), H2 a = some (exo a C (some d)) ∧ H2 d = some (exd d fs) ∧ H1 d = none ∧ E (.ref C) (some d) (upd (del H2 a) d (.xd fs))) (fun _ _ _ => False) := by
  intro a ha
  refine ⟨a, C, v, rfl, X, no, upd_same, fun dx hdx hne => ⟨rfl, dx, [(("value" : Str), v)], upd_same, ?_, ?_, ?_⟩⟩
  · rw [upd_ne hne, upd_same]
  · rw [upd_ne hne] at hdx
    exact hdx
  · rw [upd_ne hne] at hdx
    refine h dx _ (fun b o hb => ?_) upd_same
    have h1 := ne_of_none hb ha
    have h2 := ne_of_none hb hdx
    rw [upd_ne h2, del_ne h1, upd_ne h1, upd_ne h2, upd_ne h1]
    exact hb
section
variable {P : Program} {w : World} {K : PySem.W.Frag} {mg : Str → Option Value} {base : Heap} {A : Ad}
theorem ok_SandError___init__ (T : Txt K mg A) : FnOk P w K mg base CX0 1 A.f_SandError___init__ A.d_SandError___init__ P_SandError___init__ (spErr K) := by
  refine T.F_SandError___init__.ok sc_SandError___init__ (fun vs H Q E h => ?_) (fun cdv A' outer s H vs Q E hr h => ?_)
  · obtain ⟨a, C, v, rfl, _⟩ := h
    rfl
  · obtain ⟨a, C, v, rfl, X, no, ha, kk⟩ := h
    refine ⟨_, (pss_one (ps_ost (pv 0) (pv 1))), ?_⟩
    exact ⟨_, rfl, _, rfl, a, C, rfl, X, no, .inl ⟨ha, fun dx h1 h2 => kk dx h1 h2⟩⟩
theorem okd_SandError___init__ (T : Txt K mg A) : FnOk P w K mg base CX0 1 A.f_SandError___init__ A.d_SandError___init__ P_SandError___init__ (spErr K) := ok_SandError___init__ T
end
/-! ### data: values with what they hold -/
inductive D where
  | non | bl (b : Bool) | int (i : Int) | str (s : Str) | cls (C : Addr) | ty (n : String)
  | lst (ds : List D) | tup (ds : List D)
  /-- a list, a tuple that the frame did not make (the script; the module's) -/
  | fls (ds : List D) | ftp (ds : List D)
  | dic (es : List (List Key × D)) | dik (es : List (Key × D))
  | obj (C : Addr) (fs : List (Str × D))
mutual
def toPy : D → PyData
  | .non => .none
  | .bl b => .bool b
  | .int i => .int i
  | .str s => .str s
  | .lst ds => .list (toPys ds)
  | .tup ds => .tuple (toPys ds)
  | .fls ds => .list (toPys ds)
  | .ftp ds => .tuple (toPys ds)
  | _ => .dict []
def toPys : List D → List PyData
  | [] => []
  | d :: ds => toPy d :: toPys ds
end
mutual
/-- in the heap's part that never changes, x is d -/
inductive Rep (K : PySem.W.Frag) (I : Hp) : V → D → Prop
  | non : Rep K I .non .non
  | bl (b : Bool) : Rep K I (.bl b) (.bl b)
  | int (i : Int) : Rep K I (.int i) (.int i)
  | str (s : Str) : Rep K I (.str s) (.str s)
  | cls (C : Addr) : Rep K I (.ref C) (.cls C)
  | ty (n : String) : Rep K I (.ty n) (.ty n)
  | lst {a : Addr} {xs : List V} {ds : List D} : I a = some (.lst xs) → Reps K I xs ds → Rep K I (.ref a) (.lst ds)
  | fls {a : Addr} {xs : List V} {ds : List D} : SqL K I a xs → Reps K I xs ds → Rep K I (.ref a) (.fls ds)
  | tup {a : Addr} {xs : List V} {ds : List D} : I a = some (.tup xs) → Reps K I xs ds → Rep K I (.ref a) (.tup ds)
  | ftp {a : Addr} {xs : List V} {ds : List D} : SqT K I a xs → Reps K I xs ds → Rep K I (.ref a) (.ftp ds)
  | dic {a : Addr} {kvs : List (List Key × V)} {es : List (List Key × D)} : I a = some (.dT kvs) → kvs.map (·.1) = es.map (·.1) → Reps K I (kvs.map (·.2)) (es.map (·.2)) → Rep K I (.ref a) (.dic es)
  | dik {a : Addr} {kvs : List (Key × V)} {es : List (Key × D)} : I a = some (.dK kvs) → kvs.map (·.1) = es.map (·.1) → Reps K I (kvs.map (·.2)) (es.map (·.2)) → Rep K I (.ref a) (.dik es)
  | obj {a C dx : Addr} {fs : List (Str × V)} {es : List (Str × D)} : I a = some (.ins C dx fs) → fs.map (·.1) = es.map (·.1) → Reps K I (fs.map (·.2)) (es.map (·.2)) → Rep K I (.ref a) (.obj C es)
inductive Reps (K : PySem.W.Frag) (I : Hp) : List V → List D → Prop
  | nil : Reps K I [] []
  | cons {x : V} {xs : List V} {d : D} {ds : List D} : Rep K I x d → Reps K I xs ds → Reps K I (x :: xs) (d :: ds)
end
/-- I grows to I' -/
def Le (I I' : Hp) : Prop := ∀ a o, I a = some o → I' a = some o
theorem Le.refl {I : Hp} : Le I I := fun _ _ e => e
theorem Le.trans {I J L : Hp} (a : Le I J) (b : Le J L) : Le I L := fun x o e => b x o (a x o e)
theorem Le.new {I : Hp} {a : Addr} {o : HO} (h : I a = none) : Le I (upd I a o) := fun b u e => by
  rw [upd_ne (ne_of_none e h)]
  exact e
theorem Le.rd {I I' : Hp} {a : Addr} {u : HO} (e : Le I I') (h : Rd I a u) : Rd I' a u := by
  rcases h with h | ⟨o, h⟩
  · exact .inl (e _ _ h)
  · exact .inr ⟨o, e _ _ h⟩
theorem Le.sqL {K : PySem.W.Frag} {I I' : Hp} {a : Addr} {xs : List V} (e : Le I I') (h : SqL K I a xs) : SqL K I' a xs := by
  rcases h with h | h
  · exact .inl (e.rd h)
  · exact .inr h
theorem Le.sqT {K : PySem.W.Frag} {I I' : Hp} {a : Addr} {xs : List V} (e : Le I I') (h : SqT K I a xs) : SqT K I' a xs := by
  rcases h with h | h
  · exact .inl (e.rd h)
  · exact .inr h
mutual
theorem Rep.mono {K : PySem.W.Frag} {I I' : Hp} (e : Le I I') : ∀ {x : V} {d : D}, Rep K I x d → Rep K I' x d
  | _, _, .non => .non
  | _, _, .bl b => .bl b
  | _, _, .int i => .int i
  | _, _, .str s => .str s
  | _, _, .cls C => .cls C
  | _, _, .ty n => .ty n
  | _, _, .lst h r => .lst (e _ _ h) (Reps.mono e r)
  | _, _, .fls h r => .fls (e.sqL h) (Reps.mono e r)
  | _, _, .tup h r => .tup (e _ _ h) (Reps.mono e r)
  | _, _, .ftp h r => .ftp (e.sqT h) (Reps.mono e r)
  | _, _, .dic h k r => .dic (e _ _ h) k (Reps.mono e r)
  | _, _, .dik h k r => .dik (e _ _ h) k (Reps.mono e r)
  | _, _, .obj h k r => .obj (e _ _ h) k (Reps.mono e r)
theorem Reps.mono {K : PySem.W.Frag} {I I' : Hp} (e : Le I I') : ∀ {xs : List V} {ds : List D}, Reps K I xs ds → Reps K I' xs ds
  | _, _, .nil => .nil
  | _, _, .cons h r => .cons (Rep.mono e h) (Reps.mono e r)
end
theorem Reps.len {K : PySem.W.Frag} {I : Hp} : ∀ {xs : List V} {ds : List D}, Reps K I xs ds → xs.length = ds.length
  | _, _, .nil => rfl
  | _, _, .cons _ r => by rw [List.length_cons, List.length_cons, Reps.len r]
theorem Reps.get {K : PySem.W.Frag} {I : Hp} : ∀ {xs : List V} {ds : List D} {i : Nat} {d : D}, Reps K I xs ds → ds[i]? = some d → ∃ x, xs[i]? = some x ∧ Rep K I x d
  | _, _, i, d, .nil, e => by simp at e
  | _, _, 0, d, .cons h _, e => by
    simp at e
    subst e
    exact ⟨_, rfl, h⟩
  | _, _, i + 1, d, .cons _ r, e => by
    obtain ⟨x, h1, h2⟩ := Reps.get (i := i) (d := d) r (by simpa using e)
    exact ⟨x, by simpa using h1, h2⟩
theorem Reps.get' {K : PySem.W.Frag} {I : Hp} : ∀ {xs : List V} {ds : List D} {i : Nat} {x : V}, Reps K I xs ds → xs[i]? = some x → ∃ d, ds[i]? = some d ∧ Rep K I x d
  | _, _, i, d, .nil, e => by simp at e
  | _, _, 0, d, .cons h _, e => by
    simp at e
    subst e
    exact ⟨_, rfl, h⟩
  | _, _, i + 1, d, .cons _ r, e => by
    obtain ⟨x, h1, h2⟩ := Reps.get' (i := i) (x := d) r (by simpa using e)
    exact ⟨x, by simpa using h1, h2⟩
theorem Reps.app {K : PySem.W.Frag} {I : Hp} : ∀ {xs ys : List V} {ds es : List D}, Reps K I xs ds → Reps K I ys es → Reps K I (xs ++ ys) (ds ++ es)
  | _, _, _, _, .nil, h => h
  | _, _, _, _, .cons h r, s => .cons h (Reps.app r s)
theorem Reps.take {K : PySem.W.Frag} {I : Hp} : ∀ (n : Nat) {xs : List V} {ds : List D}, Reps K I xs ds → Reps K I (xs.take n) (ds.take n)
  | 0, _, _, _ => by rw [List.take_zero, List.take_zero]; exact .nil
  | _ + 1, _, _, .nil => .nil
  | n + 1, _, _, .cons h r => .cons h (Reps.take n r)
theorem Reps.drop {K : PySem.W.Frag} {I : Hp} : ∀ (n : Nat) {xs : List V} {ds : List D}, Reps K I xs ds → Reps K I (xs.drop n) (ds.drop n)
  | 0, _, _, h => h
  | _ + 1, _, _, .nil => .nil
  | n + 1, _, _, .cons _ r => Reps.drop n r
theorem Reps.set {K : PySem.W.Frag} {I : Hp} {x : V} {d : D} (h : Rep K I x d) : ∀ (n : Nat) {xs : List V} {ds : List D}, Reps K I xs ds → Reps K I (xs.set n x) (ds.set n d)
  | _, _, _, .nil => .nil
  | 0, _, _, .cons _ r => .cons h r
  | n + 1, _, _, .cons q r => .cons q (Reps.set h n r)
theorem Reps.rev {K : PySem.W.Frag} {I : Hp} : ∀ {xs : List V} {ds : List D}, Reps K I xs ds → Reps K I xs.reverse ds.reverse
  | _, _, .nil => .nil
  | _, _, .cons h r => by
    rw [List.reverse_cons, List.reverse_cons]
    exact (Reps.rev r).app (.cons h .nil)
mutual
theorem Rep.dp {K : PySem.W.Frag} {I : Hp} {n : Nat} : ∀ {x : V} {d : D}, Rep K I x d → okD n (toPy d) = true → Dp K I x (toPy d)
  | _, _, .non, _ => .non
  | _, _, .bl b, _ => .bl b
  | _, _, .int i, _ => .int i
  | _, _, .str s, _ => .str s
  | _, _, .cls _, h => by simp [toPy, okD] at h
  | _, _, .ty _, h => by simp [toPy, okD] at h
  | _, _, .lst h r, k => by
    cases n with
    | zero => simp [toPy, okD] at k
    | succ n =>
      rw [toPy, okD, Bool.and_eq_true] at k
      exact .lst (SqL.of h) (Reps.dp r k.2)
  | _, _, .fls h r, k => by
    cases n with
    | zero => simp [toPy, okD] at k
    | succ n =>
      rw [toPy, okD, Bool.and_eq_true] at k
      exact .lst h (Reps.dp r k.2)
  | _, _, .tup h r, k => by
    cases n with
    | zero => simp [toPy, okD] at k
    | succ n =>
      rw [toPy, okD, Bool.and_eq_true] at k
      exact .tup (SqT.of h) (Reps.dp r k.2)
  | _, _, .ftp h r, k => by
    cases n with
    | zero => simp [toPy, okD] at k
    | succ n =>
      rw [toPy, okD, Bool.and_eq_true] at k
      exact .tup h (Reps.dp r k.2)
  | _, _, .dic _ _ _, h => by simp [toPy, okD] at h
  | _, _, .dik _ _ _, h => by simp [toPy, okD] at h
  | _, _, .obj _ _ _, h => by simp [toPy, okD] at h
theorem Reps.dp {K : PySem.W.Frag} {I : Hp} {n : Nat} : ∀ {xs : List V} {ds : List D}, Reps K I xs ds → okDs n (toPys ds) = true → DpAll K I xs (toPys ds)
  | _, _, .nil, _ => .nil
  | _, _, .cons h r, k => by
    rw [toPys, okDs, Bool.and_eq_true] at k
    exact .cons (Rep.dp h k.1) (Reps.dp r k.2)
end
/-! ### what a frame's slots hold -/
inductive Ent where
  /-- a thing that never changes -/
  | imm (d : D)
  /-- a list or dict of this frame's alone, at a -/
  | own (a : Addr) (d : D)
  /-- the law's hand: what it holds is not told; drawn from at most n times -/
  | hand (p c : Addr) (n : Nat)
  /-- a list of things that are told elsewhere -/
  | raw (a : Addr) (xs : List V)
  /-- a dict of lists of this frame's alone: the dict at a; each key, where its list is, what it holds -/
  | dol (a : Addr) (ls : List (List Key × Addr × List D))
abbrev Ent.adr : Ent → List Addr
  | .imm _ => []
  | .own a _ => [a]
  | .hand p c _ => [p, c]
  | .raw a _ => [a]
  | .dol a ls => a :: ls.map (·.2.1)
abbrev En := List (Option Ent)
def adr (e : En) : List Addr := e.flatMap fun o => match o with
  | some x => x.adr
  | none => []
theorem mem_adr {e : En} {a : Addr} : a ∈ adr e ↔ ∃ (i : Nat) (x : Ent), e[i]? = some (some x) ∧ a ∈ x.adr := by
  unfold adr
  rw [List.mem_flatMap]
  constructor
  · rintro ⟨o, ho, ha⟩
    cases o with
    | none => simp at ha
    | some x =>
      obtain ⟨i, hi, e1⟩ := List.mem_iff_getElem.mp ho
      exact ⟨i, x, by rw [List.getElem?_eq_getElem hi, e1], ha⟩
  · rintro ⟨i, x, e1, ha⟩
    exact ⟨some x, List.mem_of_getElem? e1, ha⟩
def OwnR (K : PySem.W.Frag) (I H : Hp) (a : Addr) : D → Prop
  | .lst ds => ∃ xs, H a = some (.lst xs) ∧ Reps K I xs ds
  | .dic es => ∃ kvs, H a = some (.dT kvs) ∧ kvs.map (·.1) = es.map (·.1) ∧ Reps K I (kvs.map (·.2)) (es.map (·.2))
  | .dik es => ∃ kvs, H a = some (.dK kvs) ∧ kvs.map (·.1) = es.map (·.1) ∧ Reps K I (kvs.map (·.2)) (es.map (·.2))
  | .obj C es => ∃ dx fs, H a = some (.ins C dx fs) ∧ fs.map (·.1) = es.map (·.1) ∧ Reps K I (fs.map (·.2)) (es.map (·.2))
  | _ => False
def EntR (K : PySem.W.Frag) (I H : Hp) (x : V) : Ent → Prop
  | .imm d => Rep K I x d
  | .own a d => x = .ref a ∧ I a = none ∧ OwnR K I H a d
  | .hand p c n => x = .ref p ∧ I p = none ∧ I c = none ∧ TokAt H p c n
  | .raw a xs => x = .ref a ∧ I a = none ∧ H a = some (.lst xs)
  | .dol a ls => x = .ref a ∧ I a = none ∧ H a = some (.dT (ls.map fun l => (l.1, V.ref l.2.1))) ∧ (a :: ls.map (·.2.1)).Nodup ∧ ∀ l ∈ ls, I l.2.1 = none ∧ ∃ xs, H l.2.1 = some (.lst xs) ∧ Reps K I xs l.2.2
/-- I is part of H -/
def Sub (I H : Hp) : Prop := ∀ a o, I a = some o → H a = some o
/-- neither a tuple nor a code object -/
abbrev Lasts (o : HO) : Prop := (∃ xs, o = .tup xs) ∨ ∃ c q, o = LamX.CodeO c q
/-- neither a tuple nor a code object nor a table -/
abbrev Plain (o : HO) : Prop := ¬ Lasts o ∧ ∀ ps, o ≠ .tbl ps
theorem plain_of {o : HO} (h1 : ∀ xs, o ≠ .tup xs) (h2 : ∀ f, o ≠ .ext f) (h3 : ∀ ps, o ≠ .tbl ps) : Plain o := ⟨fun z => z.elim (fun ⟨xs, e⟩ => h1 xs e) (fun ⟨_, _, e⟩ => h2 _ e), h3⟩
theorem plain_lst (xs : List V) : Plain (.lst xs) := plain_of (fun _ z => by cases z) (fun _ z => by cases z) (fun _ z => by cases z)
theorem plain_dT (xs : List (List Key × V)) : Plain (.dT xs) := plain_of (fun _ z => by cases z) (fun _ z => by cases z) (fun _ z => by cases z)
theorem plain_dK (xs : List (Key × V)) : Plain (.dK xs) := plain_of (fun _ z => by cases z) (fun _ z => by cases z) (fun _ z => by cases z)
theorem plain_ins (C d : Addr) (fs : List (Str × V)) : Plain (.ins C d fs) := plain_of (fun _ z => by cases z) (fun _ z => by cases z) (fun _ z => by cases z)
theorem OwnR.has {K : PySem.W.Frag} {I H : Hp} {a : Addr} {d : D} (h : OwnR K I H a d) : ∃ o, H a = some o ∧ Plain o := by
  cases d with
  | lst ds => obtain ⟨xs, e, _⟩ := h; exact ⟨_, e, plain_lst _⟩
  | dic es => obtain ⟨xs, e, _⟩ := h; exact ⟨_, e, plain_dT _⟩
  | dik es => obtain ⟨xs, e, _⟩ := h; exact ⟨_, e, plain_dK _⟩
  | obj C es => obtain ⟨dx, xs, e, _⟩ := h; exact ⟨_, e, plain_ins _ _ _⟩
  | _ => exact False.elim h
theorem OwnR.mono {K : PySem.W.Frag} {I H I' H' : Hp} {a : Addr} {d : D} (h : OwnR K I H a d) (e : Le I I') (k : ∀ o, H a = some o → H' a = some o) : OwnR K I' H' a d := by
  cases d with
  | lst ds => obtain ⟨xs, q, r⟩ := h; exact ⟨xs, k _ q, r.mono e⟩
  | dic es => obtain ⟨xs, q, m, r⟩ := h; exact ⟨xs, k _ q, m, r.mono e⟩
  | dik es => obtain ⟨xs, q, m, r⟩ := h; exact ⟨xs, k _ q, m, r.mono e⟩
  | obj C es => obtain ⟨dx, xs, q, m, r⟩ := h; exact ⟨dx, xs, k _ q, m, r.mono e⟩
  | _ => exact False.elim h
theorem EntR.has {K : PySem.W.Frag} {I H : Hp} {x : V} {t : Ent} (h : EntR K I H x t) {a : Addr} (ha : a ∈ t.adr) : (∃ o, H a = some o ∧ Plain o) ∧ I a = none := by
  cases t with
  | imm d => simp at ha
  | own b d =>
    obtain ⟨_, h1, h2⟩ := h
    simp at ha
    subst ha
    exact ⟨h2.has, h1⟩
  | raw b xs =>
    obtain ⟨_, h1, h2⟩ := h
    simp at ha
    subst ha
    exact ⟨⟨_, h2, plain_lst _⟩, h1⟩
  | hand p c n =>
    obtain ⟨_, h1, h2, h3⟩ := h
    simp at ha
    rcases ha with rfl | rfl
    · obtain ⟨_, e⟩ := h3.tokp; exact ⟨⟨_, e, plain_lst _⟩, h1⟩
    · obtain ⟨_, e⟩ := h3.tokc; exact ⟨⟨_, e, plain_lst _⟩, h2⟩
  | dol b ls =>
    obtain ⟨_, h1, h2, _, h3⟩ := h
    rcases List.mem_cons.mp ha with rfl | ha
    · exact ⟨⟨_, h2, plain_dT _⟩, h1⟩
    · obtain ⟨l, hl, rfl⟩ := List.mem_map.mp ha
      obtain ⟨n, xs, e, _⟩ := h3 l hl
      exact ⟨⟨_, e, plain_lst _⟩, n⟩
theorem EntR.mono {K : PySem.W.Frag} {I H I' H' : Hp} {x : V} {t : Ent} (h : EntR K I H x t) (e : Le I I') (k : ∀ a ∈ t.adr, I' a = none ∧ ∀ o, H a = some o → H' a = some o) : EntR K I' H' x t := by
  cases t with
  | imm d => exact Rep.mono e h
  | own b d =>
    obtain ⟨h0, h1, h2⟩ := h
    exact ⟨h0, (k b (by simp)).1, h2.mono e (k b (by simp)).2⟩
  | raw b xs =>
    obtain ⟨h0, h1, h2⟩ := h
    exact ⟨h0, (k b (by simp)).1, (k b (by simp)).2 _ h2⟩
  | hand p c n =>
    obtain ⟨h0, h1, h2, h3⟩ := h
    exact ⟨h0, (k p (by simp)).1, (k c (by simp)).1, h3.keep (k p (by simp)).2 (k c (by simp)).2⟩
  | dol b ls =>
    obtain ⟨h0, h1, h2, nd, h3⟩ := h
    refine ⟨h0, (k b List.mem_cons_self).1, (k b List.mem_cons_self).2 _ h2, nd, fun l hl => ?_⟩
    obtain ⟨n, xs, q, r⟩ := h3 l hl
    have hm : l.2.1 ∈ (Ent.dol b ls).adr := List.mem_cons_of_mem _ (List.mem_map.mpr ⟨l, hl, rfl⟩)
    exact ⟨(k _ hm).1, xs, (k _ hm).2 _ q, r.mono e⟩
/-- the table of the def tabQ's code object (tabQ: the config's one def that makes functions) -/
def IsTab (K : PySem.W.Frag) (P : Addr) : Prop := ∃ (x : Str) (f c : Addr) (oc e : Value) (od dd : Option Addr) (fd : FuncData) (sl sl2 : Array (Option Value)) (vs : Array Value),
  tabQ = some x ∧ PySem.W.nsIn K mainGlobals x = some (some (.ref f)) ∧ K.lookup f = some ⟨oc, od, .func fd, sl⟩ ∧ fd.code = .ref c ∧ K.lookup c = some ⟨e, dd, .fields vs, sl2⟩ ∧ vs[11]? = some (.ref P)
/-- the table holds code objects that never change, of the lambda's name -/
def TabOk (K : PySem.W.Frag) (I H : Hp) : Prop := ∀ P, IsTab K P → I P = none ∧ ∃ ps : Array Value, H P = some (.tbl ps) ∧ TriplesOk ps.toList ∧ ∀ (pos : Pos) (cv : Value), codeAmong pos ps.toList = some cv → ∃ c, cv = .ref c ∧ I c = some (LamX.CodeO c tabN)
/-- no table -/
abbrev NT (o : HO) : Prop := ∀ ps, o ≠ .tbl ps
structure EnvR (K : PySem.W.Frag) (I H : Hp) (σ : L2.St) (e : En) : Prop where
  tab : TabOk K I H
  len : e.length = σ.length
  at_ : ∀ (i : Nat) (t : Ent), e[i]? = some (some t) → ∃ x, σ[i]? = some (some x) ∧ EntR K I H x t
  sep : ∀ (i j : Nat) (t u : Ent) (a : Addr), e[i]? = some (some t) → e[j]? = some (some u) → a ∈ t.adr → a ∈ u.adr → i = j
theorem TabOk.mono {K : PySem.W.Frag} {I H I' H' : Hp} (h : TabOk K I H) (le : Le I I') (hT : ∀ a ps, H a = some (.tbl ps) → I a = none → H' a = some (.tbl ps) ∧ I' a = none) : TabOk K I' H' := fun P hP => by
  obtain ⟨h1, ps, h2, h3, h4⟩ := h P hP
  obtain ⟨z1, z2⟩ := hT P ps h2 h1
  refine ⟨z2, ps, z1, h3, fun pos cv hc => ?_⟩
  obtain ⟨c, e1, e2⟩ := h4 pos cv hc
  exact ⟨c, e1, le _ _ e2⟩
/-- a thing that is no table is counted among those that never change -/
theorem TabOk.upI {K : PySem.W.Frag} {I H : Hp} {a : Addr} {o u : HO} (h : TabOk K I H) (ha : H a = some u) (nt : NT u) (n : I a = none) : TabOk K (upd I a o) H :=
  h.mono (Le.new n) fun b ps e z => ⟨e, by
    have hb : b ≠ a := fun w => by
      rw [w, ha] at e
      exact nt ps (Option.some.inj e)
    rw [upd_ne hb]
    exact z⟩
/-- a thing that is no table is changed, or laid anew -/
theorem TabOk.upH {K : PySem.W.Frag} {I H : Hp} {a : Addr} {o : HO} (h : TabOk K I H) (ha : ∀ ps, H a ≠ some (.tbl ps)) : TabOk K I (upd H a o) :=
  h.mono Le.refl fun b ps e z => ⟨by
    have hb : b ≠ a := fun w => by
      rw [w] at e
      exact ha ps e
    rw [upd_ne hb]
    exact e, z⟩
theorem EnvR.has {K : PySem.W.Frag} {I H : Hp} {σ : L2.St} {e : En} (h : EnvR K I H σ e) {a : Addr} (ha : a ∈ adr e) : (∃ o, H a = some o ∧ Plain o) ∧ I a = none := by
  obtain ⟨i, t, e1, e2⟩ := mem_adr.mp ha
  obtain ⟨x, _, r⟩ := h.at_ i t e1
  exact r.has e2
/-- free, or a thing that never changes by itself -/
def FreeT (H : Hp) (a : Addr) : Prop := ∀ o, H a = some o → Lasts o
theorem lasts_tbl {ps : Array Value} (h : Lasts (.tbl ps)) : False := h.elim (fun ⟨_, z⟩ => by cases z) fun ⟨_, _, z⟩ => by
  unfold LamX.CodeO at z
  cases z
theorem FreeT.of {H : Hp} {a : Addr} (h : H a = none) : FreeT H a := fun o q => by rw [h] at q; cases q
/-- from state to state -/
structure Step (e : En) (I H : Hp) (e' : En) (I' H' : Hp) : Prop where
  imm : Le I I'
  keep : ∀ a o, H a = some o → a ∉ adr e → NT o → H' a = some o
  tbl : ∀ a ps, H a = some (.tbl ps) → a ∉ adr e → ∃ ps', H' a = some (.tbl ps')
  own : ∀ a, a ∈ adr e' → a ∈ adr e ∨ H a = none
  new : ∀ a o, I' a = some o → I a = some o ∨ a ∈ adr e ∨ FreeT H a
theorem Step.refl {e : En} {I H : Hp} : Step e I H e I H := ⟨Le.refl, fun _ _ h _ _ => h, fun _ ps h _ => ⟨ps, h⟩, fun _ h => .inl h, fun _ _ h => .inl h⟩
/-- what is there stays there -/
theorem Step.is {e e' : En} {I H I' H' : Hp} (s : Step e I H e' I' H') {a : Addr} {o : HO} (q : H a = some o) (n : a ∉ adr e) : H' a = some o ∨ ∃ ps ps', o = .tbl ps ∧ H' a = some (.tbl ps') := by
  cases o with
  | tbl ps => exact .inr ⟨ps, (s.tbl a ps q n).elim fun ps' z => ⟨ps', rfl, z⟩⟩
  | _ => exact .inl (s.keep a _ q n fun _ z => nomatch z)
theorem Step.free {e e1 : En} {I H I1 H1 : Hp} (s : Step e I H e1 I1 H1) {a : Addr} (h : H1 a = none) : a ∈ adr e ∨ H a = none := by
  cases q : H a with
  | none => exact .inr rfl
  | some o =>
    refine Classical.byContradiction fun z => ?_
    rcases s.is q fun y => z (.inl y) with this | ⟨_, _, _, this⟩ <;> rw [h] at this <;> cases this
theorem Step.trans {e e1 e2 : En} {I H I1 H1 I2 H2 : Hp} (s : Step e I H e1 I1 H1) (t : Step e1 I1 H1 e2 I2 H2) : Step e I H e2 I2 H2 where
  imm := s.imm.trans t.imm
  keep := fun a o h n nt => t.keep a o (s.keep a o h n nt) (fun z => by
    rcases s.own a z with q | q
    · exact n q
    · rw [h] at q; cases q) nt
  tbl := fun a ps h n => by
    obtain ⟨ps', h'⟩ := s.tbl a ps h n
    exact t.tbl a ps' h' fun z => by
      rcases s.own a z with q | q
      · exact n q
      · rw [h] at q; cases q
  own := fun a h => by
    rcases t.own a h with q | q
    · exact s.own a q
    · exact s.free q
  new := fun a o h => by
    rcases t.new a o h with q | q | q
    · exact s.new a o q
    · rcases s.own a q with q | q
      · exact .inr (.inl q)
      · exact .inr (.inr (.of q))
    · refine Classical.or_iff_not_imp_left.mpr fun _ => Classical.or_iff_not_imp_left.mpr fun n u hu => ?_
      rcases s.is hu n with z | ⟨_, _, _, z⟩
      · exact q u z
      · exact (lasts_tbl (q _ z)).elim
/-- a thing beside the frame's own stays -/
theorem EntR.step {K : PySem.W.Frag} {e e' : En} {I H I' H' : Hp} {x : V} {t : Ent} (h : EntR K I H x t) (s : Step e I H e' I' H') (n : ∀ a ∈ t.adr, a ∉ adr e) : EntR K I' H' x t ∧ ∀ a ∈ t.adr, a ∉ adr e' := by
  refine ⟨h.mono s.imm fun a ha => ⟨?_, fun o q => s.keep a o q (n a ha) ((h.has ha).1.elim fun o' z => by have := q.symm.trans z.1; cases this; exact z.2.2)⟩, fun a ha z => ?_⟩
  · obtain ⟨⟨o, q1, qt⟩, q2⟩ := h.has ha
    cases q : I' a with
    | none => rfl
    | some u =>
      rcases s.new a u q with z | z | z
      · rw [q2] at z; cases z
      · exact absurd z (n a ha)
      · exact absurd (z o q1) qt.1
  · obtain ⟨⟨o, q1, qt⟩, q2⟩ := h.has ha
    rcases s.own a z with z | z
    · exact n a ha z
    · rw [q1] at z; cases z
/-! ### states -/
section
variable {K : PySem.W.Frag} {I H I' H' : Hp} {σ : L2.St} {e : En}
theorem adr_app (e c : En) : adr (e ++ c) = adr e ++ adr c := List.flatMap_append ..
theorem adr_one (o : Option Ent) : adr [o] = (match o with | some t => t.adr | none => []) := by
  unfold adr
  cases o <;> exact List.append_nil _
theorem mem_push {e : En} {o : Option Ent} {a : Addr} : a ∈ adr (e ++ [o]) ↔ a ∈ adr e ∨ ∃ t, o = some t ∧ a ∈ t.adr := by
  rw [adr_app, List.mem_append, adr_one]
  cases o with
  | none => simp
  | some t => simp
theorem EnvR.push {x : V} {t : Ent} (h : EnvR K I H σ e) (r : EntR K I H x t) (n : ∀ a ∈ t.adr, a ∉ adr e) : EnvR K I H (σ ++ [some x]) (e ++ [some t]) where
  tab := h.tab
  len := by rw [List.length_append, List.length_append, h.len]; rfl
  at_ := fun i u q => by
    by_cases hi : i < e.length
    · rw [List.getElem?_append_left hi] at q
      obtain ⟨y, e1, e2⟩ := h.at_ i u q
      exact ⟨y, by rw [List.getElem?_append_left (by rw [← h.len]; exact hi)]; exact e1, e2⟩
    · rw [List.getElem?_append_right (by omega)] at q
      have hl := (List.getElem?_eq_some_iff.mp q).1
      have h0 : i - e.length = 0 := by simp at hl; omega
      rw [h0] at q
      cases q
      exact ⟨x, by rw [List.getElem?_append_right (by rw [← h.len]; omega), ← h.len, h0]; rfl, r⟩
  sep := fun i j u v a q1 q2 m1 m2 => by
    have last : ∀ {i : Nat} {u : Ent}, (e ++ [some t])[i]? = some (some u) → (i < e.length ∧ e[i]? = some (some u)) ∨ (i = e.length ∧ u = t) := fun {i u} q => by
      by_cases hi : i < e.length
      · rw [List.getElem?_append_left hi] at q
        exact .inl ⟨hi, q⟩
      · rw [List.getElem?_append_right (by omega)] at q
        have hl := (List.getElem?_eq_some_iff.mp q).1
        have h0 : i - e.length = 0 := by simp at hl; omega
        rw [h0] at q
        cases q
        exact .inr ⟨by omega, rfl⟩
    rcases last q1 with ⟨_, c1⟩ | ⟨c1, rfl⟩ <;> rcases last q2 with ⟨_, c2⟩ | ⟨c2, rfl⟩
    · exact h.sep i j u v a c1 c2 m1 m2
    · exact absurd (mem_adr.mpr ⟨i, u, c1, m1⟩) (n a m2)
    · exact absurd (mem_adr.mpr ⟨j, v, c2, m2⟩) (n a m1)
    · omega
theorem EnvR.pushN {y : Option V} (h : EnvR K I H σ e) : EnvR K I H (σ ++ [y]) (e ++ [none]) where
  tab := h.tab
  len := by rw [List.length_append, List.length_append, h.len]; rfl
  at_ := fun i u q => by
    by_cases hi : i < e.length
    · rw [List.getElem?_append_left hi] at q
      obtain ⟨y, e1, e2⟩ := h.at_ i u q
      exact ⟨y, by rw [List.getElem?_append_left (by rw [← h.len]; exact hi)]; exact e1, e2⟩
    · rw [List.getElem?_append_right (by omega)] at q
      have hl := (List.getElem?_eq_some_iff.mp q).1
      have h0 : i - e.length = 0 := by simp at hl; omega
      rw [h0] at q
      cases q
  sep := fun i j u v a q1 q2 m1 m2 => by
    have last : ∀ {i : Nat} {u : Ent}, (e ++ [none])[i]? = some (some u) → e[i]? = some (some u) := fun {i u} q => by
      by_cases hi : i < e.length
      · rw [List.getElem?_append_left hi] at q
        exact q
      · rw [List.getElem?_append_right (by omega)] at q
        have hl := (List.getElem?_eq_some_iff.mp q).1
        have h0 : i - e.length = 0 := by simp at hl; omega
        rw [h0] at q
        cases q
    exact h.sep i j u v a (last q1) (last q2) m1 m2
/-- the first part -/
theorem EnvR.pre {σ' : L2.St} {c : En} (hl : e.length = σ.length) (h : EnvR K I H (σ ++ σ') (e ++ c)) : EnvR K I H σ e where
  tab := h.tab
  len := hl
  at_ := fun i u q => by
    have hi := (List.getElem?_eq_some_iff.mp q).1
    obtain ⟨y, e1, e2⟩ := h.at_ i u (by rw [List.getElem?_append_left hi]; exact q)
    exact ⟨y, by rw [List.getElem?_append_left (by omega)] at e1; exact e1, e2⟩
  sep := fun i j u v a q1 q2 m1 m2 => by
    have h1 := (List.getElem?_eq_some_iff.mp q1).1
    have h2 := (List.getElem?_eq_some_iff.mp q2).1
    exact h.sep i j u v a (by rw [List.getElem?_append_left h1]; exact q1) (by rw [List.getElem?_append_left h2]; exact q2) m1 m2
theorem EnvR.set {i : Nat} {x : V} {t : Ent} (h : EnvR K I H σ e) (hi : i < e.length) (r : EntR K I H x t) (n : ∀ a ∈ t.adr, ∀ j u, j ≠ i → e[j]? = some (some u) → a ∉ u.adr) : EnvR K I H (σ.set i (some x)) (e.set i (some t)) where
  tab := h.tab
  len := by rw [List.length_set, List.length_set, h.len]
  at_ := fun j u q => by
    by_cases hj : j = i
    · subst hj
      rw [List.getElem?_set_self hi] at q
      cases q
      exact ⟨x, List.getElem?_set_self (by rw [← h.len]; exact hi), r⟩
    · rw [List.getElem?_set_ne (Ne.symm hj)] at q
      obtain ⟨y, e1, e2⟩ := h.at_ j u q
      exact ⟨y, by rw [List.getElem?_set_ne (Ne.symm hj)]; exact e1, e2⟩
  sep := fun j k u v a q1 q2 m1 m2 => by
    by_cases hj : j = i <;> by_cases hk : k = i
    · omega
    · subst hj
      rw [List.getElem?_set_self hi] at q1
      cases q1
      rw [List.getElem?_set_ne (Ne.symm hk)] at q2
      exact absurd m2 (n a m1 k v hk q2)
    · subst hk
      rw [List.getElem?_set_self hi] at q2
      cases q2
      rw [List.getElem?_set_ne (Ne.symm hj)] at q1
      exact absurd m1 (n a m2 j u hj q1)
    · rw [List.getElem?_set_ne (Ne.symm hj)] at q1
      rw [List.getElem?_set_ne (Ne.symm hk)] at q2
      exact h.sep j k u v a q1 q2 m1 m2
theorem EnvR.setN {i : Nat} {y : Option V} (h : EnvR K I H σ e) : EnvR K I H (σ.set i y) (e.set i none) where
  tab := h.tab
  len := by rw [List.length_set, List.length_set, h.len]
  at_ := fun j u q => by
    by_cases hj : j = i
    · subst hj
      have hl := (List.getElem?_eq_some_iff.mp q).1
      rw [List.length_set] at hl
      rw [List.getElem?_set_self hl] at q
      cases q
    · rw [List.getElem?_set_ne (Ne.symm hj)] at q
      obtain ⟨y, e1, e2⟩ := h.at_ j u q
      exact ⟨y, by rw [List.getElem?_set_ne (Ne.symm hj)]; exact e1, e2⟩
  sep := fun j k u v a q1 q2 m1 m2 => by
    have go : ∀ {j : Nat} {u : Ent}, (e.set i none)[j]? = some (some u) → e[j]? = some (some u) := fun {j u} q => by
      by_cases hj : j = i
      · subst hj
        have hl := (List.getElem?_eq_some_iff.mp q).1
        rw [List.length_set] at hl
        rw [List.getElem?_set_self hl] at q
        cases q
      · rw [List.getElem?_set_ne (Ne.symm hj)] at q
        exact q
    exact h.sep j k u v a (go q1) (go q2) m1 m2
/-- the things held stay -/
theorem EnvR.grow (h : EnvR K I H σ e) (tb : TabOk K I' H') (le : Le I I') (k : ∀ a ∈ adr e, I' a = none ∧ ∀ o, H a = some o → H' a = some o) : EnvR K I' H' σ e :=
  ⟨tb, h.len, fun i t q => by
    obtain ⟨x, e1, e2⟩ := h.at_ i t q
    exact ⟨x, e1, e2.mono le fun a ha => k a (mem_adr.mpr ⟨i, t, q, ha⟩)⟩, h.sep⟩
end
inductive Rv where
  | ent (t : Ent) | slot (i : Nat)
abbrev Rv.o : Rv → Option Ent
  | .ent t => some t
  | .slot _ => none
abbrev Rv.im (d : D) : Rv := .ent (.imm d)
abbrev Tm := List (V × Rv)
def tv (ps : Tm) : L2.St := ps.map fun p => some p.1
def tn (ps : Tm) : En := ps.map fun p => p.2.o
theorem tv_app (ps qs : Tm) : tv (ps ++ qs) = tv ps ++ tv qs := List.map_append ..
theorem tn_app (ps qs : Tm) : tn (ps ++ qs) = tn ps ++ tn qs := List.map_append ..
/-- a frame: the start, what is wanted of an exception -/
structure Fr where
  K : PySem.W.Frag
  e0 : En
  I0 : Hp
  H0 : Hp
  W : WX
  PX : Addr → D → En → Prop
structure ST (F : Fr) (σ : L2.St) (I H : Hp) (e : En) (ps : Tm) : Prop where
  sub : Sub I H
  len : e.length = σ.length
  env : EnvR F.K I H (σ ++ tv ps) (e ++ tn ps)
  ali : ∀ p ∈ ps, ∀ i, p.2 = .slot i → σ[i]? = some (some p.1) ∧ ∃ t, e[i]? = some (some t)
  base : Step F.e0 F.I0 F.H0 (e ++ tn ps) I H
abbrev EvF := En → (Rv → En → Prop) → Prop
def DT (F : Fr) (t : TE) (f : EvF) : Prop := ∀ (σ : L2.St) (I H : Hp) (e : En) (ps : Tm) (P : Rv → En → Prop) (Q : VK), ST F σ I H e ps → f e P →
  (∀ x r e' I' H', P r e' → ST F σ I' H' e' (ps ++ [(x, r)]) → Q x H') → t σ H Q
abbrev EvT := En → (Bool → En → Prop) → Prop
def DTT (F : Fr) (t : TT) (f : EvT) : Prop := ∀ (σ : L2.St) (I H : Hp) (e : En) (ps : Tm) (P : Bool → En → Prop) (Q : Bool → Hp → Prop), ST F σ I H e ps → f e P →
  (∀ b e' I' H', P b e' → ST F σ I' H' e' ps → Q b H') → t σ H Q
abbrev EvA := En → (List Rv → En → Prop) → Prop
def DTA (F : Fr) (t : TA) (f : EvA) : Prop := ∀ (σ : L2.St) (I H : Hp) (e : En) (ps : Tm) (P : List Rv → En → Prop) (Q : List V → Hp → Prop), ST F σ I H e ps → f e P →
  (∀ xs rs e' I' H', P rs e' → xs.length = rs.length → ST F σ I' H' e' (ps ++ xs.zip rs) → Q xs H') → t σ H Q
section
variable {F : Fr} {σ : L2.St} {I H I' H' : Hp} {e : En} {ps qs : Tm}
theorem ST.weak (s : ST F σ I H e (ps ++ qs)) : ST F σ I H e ps where
  sub := s.sub
  len := s.len
  env := by
    have h := s.env
    rw [tv_app, tn_app, ← List.append_assoc, ← List.append_assoc] at h
    refine EnvR.pre ?_ h
    rw [List.length_append, List.length_append, s.len]
    unfold tv tn
    rw [List.length_map, List.length_map]
  ali := fun p hp => s.ali p (List.mem_append_left _ hp)
  base := by
    have b := s.base
    rw [tn_app, ← List.append_assoc] at b
    exact ⟨b.imm, b.keep, b.tbl, fun a h => b.own a (by rw [adr_app]; exact List.mem_append_left _ h), b.new⟩
theorem ST.pushE {x : V} {t : Ent} (s : ST F σ I H e ps) (r : EntR F.K I H x t) (n : ∀ a ∈ t.adr, a ∉ adr (e ++ tn ps) ∧ (a ∈ adr F.e0 ∨ F.H0 a = none)) : ST F σ I H e (ps ++ [(x, .ent t)]) where
  sub := s.sub
  len := s.len
  env := by
    have h := s.env.push r fun a ha => (n a ha).1
    rw [tv_app, tn_app, ← List.append_assoc, ← List.append_assoc]
    exact h
  ali := fun p hp => by
    rcases List.mem_append.mp hp with h | h
    · exact s.ali p h
    · rw [List.mem_singleton] at h
      subst h
      intro i z
      cases z
  base := by
    have b := s.base
    rw [tn_app, ← List.append_assoc]
    refine ⟨b.imm, b.keep, b.tbl, fun a h => ?_, b.new⟩
    rcases mem_push.mp h with h | ⟨u, e1, h⟩
    · exact b.own a h
    · cases e1
      exact (n a h).2
theorem ST.pushI {x : V} {d : D} (s : ST F σ I H e ps) (r : Rep F.K I x d) : ST F σ I H e (ps ++ [(x, .im d)]) := s.pushE (t := .imm d) r fun a h => by simp at h
theorem ST.pushS {x : V} {i : Nat} {t : Ent} (s : ST F σ I H e ps) (r : σ[i]? = some (some x)) (ht : e[i]? = some (some t)) : ST F σ I H e (ps ++ [(x, .slot i)]) where
  sub := s.sub
  len := s.len
  env := by
    have h := s.env.pushN (y := some x)
    rw [tv_app, tn_app, ← List.append_assoc, ← List.append_assoc]
    exact h
  ali := fun p hp => by
    rcases List.mem_append.mp hp with h | h
    · exact s.ali p h
    · rw [List.mem_singleton] at h
      subst h
      intro j z
      cases z
      exact ⟨r, t, ht⟩
  base := by
    have b := s.base
    rw [tn_app, ← List.append_assoc]
    refine ⟨b.imm, b.keep, b.tbl, fun a h => ?_, b.new⟩
    rcases mem_push.mp h with h | ⟨u, e1, h⟩
    · exact b.own a h
    · cases e1
/-- the heap grows beside -/
structure Grow (I H I' H' : Hp) : Prop where
  le : Le I I'
  same : Le H H'
  sub : Sub I' H'
  new : ∀ a o, I' a = some o → I a = some o ∨ FreeT H a
theorem Grow.refl (s : Sub I H) : Grow I H I H := ⟨Le.refl, Le.refl, s, fun _ _ h => .inl h⟩
theorem Grow.trans {I1 H1 : Hp} (g : Grow I H I1 H1) (k : Grow I1 H1 I' H') : Grow I H I' H' := ⟨g.le.trans k.le, g.same.trans k.same, k.sub, fun a o h => by
  rcases k.new a o h with q | q
  · exact g.new a o q
  · exact .inr fun u hu => q u (g.same a u hu)⟩
theorem Grow.alloc {q : Addr} {o : HO} (s : Sub I H) (h : H q = none) : Grow I H I (upd H q o) := ⟨Le.refl, Le.new h, fun a u z => Le.new h a u (s a u z), fun _ _ z => .inl z⟩
theorem Sub.none (s : Sub I H) {a : Addr} (h : H a = none) : I a = none := by
  cases q : I a with
  | none => rfl
  | some o => rw [s a o q] at h; cases h
theorem Grow.allocI {q : Addr} {o : HO} (s : Sub I H) (h : H q = none) : Grow I H (upd I q o) (upd H q o) := by
  refine ⟨Le.new (s.none h), Le.new h, fun a u z => ?_, fun a u z => ?_⟩
  · by_cases c : a = q
    · subst c
      rw [upd_same] at z ⊢
      exact z
    · rw [upd_ne c] at z ⊢
      exact s a u z
  · by_cases c : a = q
    · subst c
      exact .inr (.of h)
    · rw [upd_ne c] at z
      exact .inl z
theorem ST.grow (s : ST F σ I H e ps) (g : Grow I H I' H') : ST F σ I' H' e ps where
  sub := g.sub
  len := s.len
  env := s.env.grow (s.env.tab.mono g.le fun a ps e z => ⟨g.same a _ e, by
      cases w : I' a with
      | none => rfl
      | some u =>
        rcases g.new a u w with q | q
        · rw [z] at q; cases q
        · exact (lasts_tbl (q _ e)).elim⟩) g.le fun a ha => by
    obtain ⟨⟨o, h1, ht⟩, h2⟩ := s.env.has ha
    refine ⟨?_, fun u q => g.same a u q⟩
    cases z : I' a with
    | none => rfl
    | some u =>
      rcases g.new a u z with q | q
      · rw [h2] at q; cases q
      · exact absurd (q o h1) ht.1
  ali := s.ali
  base := s.base.trans ⟨g.le, fun a o h _ _ => g.same a o h, fun a ps h _ => ⟨ps, g.same a _ h⟩, fun a h => .inl h, fun a o h => by
    rcases g.new a o h with q | q
    · exact .inl q
    · exact .inr (.inr q)⟩
/-- a new own thing -/
theorem ST.fresh (s : ST F σ I H e ps) {a : Addr} (h : H a = none) : a ∉ adr (e ++ tn ps) ∧ (a ∈ adr F.e0 ∨ F.H0 a = none)  := by
  refine ⟨fun z => ?_, s.base.free h⟩
  obtain ⟨⟨o, q, _⟩, _⟩ := s.env.has z
  rw [h] at q; cases q
theorem ST.pushG {x : V} {t : Ent} (s : ST F σ I H e ps) (g : Grow I H I' H') (r : EntR F.K I' H' x t) (n : ∀ a ∈ t.adr, H a = none) : ST F σ I' H' e (ps ++ [(x, .ent t)]) :=
  (s.grow g).pushE r fun a ha => s.fresh (n a ha)
end
/-! ### what a value holds -/
/-- x is d, by itself or as an own thing -/
def VwR (K : PySem.W.Frag) (I H : Hp) (x : V) (d : D) : Prop := Rep K I x d ∨ ∃ a, x = .ref a ∧ OwnR K I H a d
def val (e : En) : Rv → Option D
  | .ent (.imm d) => some d
  | .ent (.own _ d) => some d
  | .slot i => match e[i]? with
    | some (some (.imm d)) => some d
    | some (some (.own _ d)) => some d
    | _ => none
  | _ => none
theorem tm_at {σ : L2.St} {e : En} {ps qs : Tm} {x : V} {r : Rv} (hl : e.length = σ.length) : (σ ++ tv (ps ++ (x, r) :: qs))[σ.length + ps.length]? = some (some x) ∧ (e ++ tn (ps ++ (x, r) :: qs))[σ.length + ps.length]? = some r.o := by
  constructor
  · rw [List.getElem?_append_right (by omega)]
    unfold tv
    rw [List.getElem?_map, show σ.length + ps.length - σ.length = ps.length by omega, List.getElem?_append_right (by omega)]
    simp
  · rw [List.getElem?_append_right (by omega)]
    unfold tn
    rw [List.getElem?_map, show σ.length + ps.length - e.length = ps.length by omega, List.getElem?_append_right (by omega)]
    simp
section
variable {F : Fr} {σ : L2.St} {I H I' H' : Hp} {e : En} {ps qs : Tm}
theorem ST.temp {x : V} {t : Ent} (s : ST F σ I H e (ps ++ (x, .ent t) :: qs)) : EntR F.K I H x t := by
  obtain ⟨h1, h2⟩ := tm_at (ps := ps) (qs := qs) (x := x) (r := .ent t) s.len
  obtain ⟨y, e1, e2⟩ := s.env.at_ _ t h2
  rw [h1] at e1
  cases e1
  exact e2
theorem ST.slot {i : Nat} {t : Ent} (s : ST F σ I H e ps) (h : e[i]? = some (some t)) : ∃ x, σ[i]? = some (some x) ∧ EntR F.K I H x t := by
  have hi := (List.getElem?_eq_some_iff.mp h).1
  obtain ⟨x, e1, e2⟩ := s.env.at_ i t (by rw [List.getElem?_append_left hi]; exact h)
  rw [List.getElem?_append_left (by rw [← s.len]; exact hi)] at e1
  exact ⟨x, e1, e2⟩
theorem EntR.vw {K : PySem.W.Frag} {x : V} {t : Ent} {d : D} (h : EntR K I H x t) (e : t = .imm d ∨ ∃ a, t = .own a d) : VwR K I H x d := by
  rcases e with rfl | ⟨a, rfl⟩
  · exact .inl h
  · exact .inr ⟨a, h.1, h.2.2⟩
theorem ST.vw {x : V} {r : Rv} {d : D} (s : ST F σ I H e (ps ++ (x, r) :: qs)) (h : val e r = some d) : VwR F.K I H x d := by
  cases r with
  | ent t =>
    refine s.temp.vw ?_
    cases t with
    | imm d' => cases h; exact .inl rfl
    | own a d' => cases h; exact .inr ⟨a, rfl⟩
    | hand p c n => cases h
    | raw a xs => cases h
    | dol a ls => cases h
  | slot i =>
    have ha := (s.ali (x, .slot i) (by simp) i rfl).1
    unfold val at h
    dsimp only at h
    split at h
    · rename_i d' q
      cases h
      obtain ⟨y, e1, e2⟩ := s.slot q
      rw [ha] at e1
      cases e1
      exact .inl e2
    · rename_i a d' q
      cases h
      obtain ⟨y, e1, e2⟩ := s.slot q
      rw [ha] at e1
      cases e1
      exact .inr ⟨a, e2.1, e2.2.2⟩
    · cases h
end
/-! ### a thing of one's own becomes one that never changes -/
def frz (e : En) : Rv → Option (D × En)
  | .ent (.imm d) => some (d, e)
  | .ent (.own _ d) => some (d, e)
  | .slot i => match e[i]? with
    | some (some (.imm d)) => some (d, e)
    | some (some (.own _ d)) => some (d, e.set i (some (.imm d)))
    | _ => none
  | _ => none
def frzs (e : En) : List Rv → Option (List D × En)
  | [] => some ([], e)
  | r :: rs => match frz e r with
    | some (d, e1) => match frzs e1 rs with
      | some (ds, e2) => some (d :: ds, e2)
      | none => none
    | none => none
theorem OwnR.frz {K : PySem.W.Frag} {I H : Hp} {a : Addr} {d : D} (h : OwnR K I H a d) (n : I a = none) : ∃ o, H a = some o ∧ Rep K (upd I a o) (.ref a) d := by
  have le : ∀ {o}, Le I (upd I a o) := Le.new n
  cases d with
  | lst ds => obtain ⟨xs, q, r⟩ := h; exact ⟨_, q, .lst upd_same (r.mono le)⟩
  | dic es => obtain ⟨xs, q, m, r⟩ := h; exact ⟨_, q, .dic upd_same m (r.mono le)⟩
  | dik es => obtain ⟨xs, q, m, r⟩ := h; exact ⟨_, q, .dik upd_same m (r.mono le)⟩
  | obj C es => obtain ⟨dx, xs, q, m, r⟩ := h; exact ⟨_, q, .obj upd_same m (r.mono le)⟩
  | _ => exact False.elim h
theorem EnvR.frz {K : PySem.W.Frag} {I H : Hp} {σ : L2.St} {c : En} {i : Nat} {x : V} {a : Addr} {d : D} (h : EnvR K I H σ c) (hx : σ[i]? = some (some x)) (q : c[i]? = some (some (.own a d))) :
    ∃ o, H a = some o ∧ I a = none ∧ EnvR K (upd I a o) H σ (c.set i (some (.imm d))) ∧ Rep K (upd I a o) x d := by
  obtain ⟨y, e1, rfl, n, w⟩ := h.at_ i _ q
  rw [hx] at e1
  cases e1
  obtain ⟨o, ho, rp⟩ := w.frz n
  have hi := (List.getElem?_eq_some_iff.mp q).1
  refine ⟨o, ho, n, ⟨h.tab.upI (o := o) ho (by obtain ⟨o', z1, z2⟩ := w.has; rw [ho] at z1; cases z1; exact z2.2) n, by rw [List.length_set]; exact h.len, fun j u z => ?_, fun j k u v b z1 z2 m1 m2 => ?_⟩, rp⟩
  · by_cases hj : j = i
    · subst hj
      rw [List.getElem?_set_self hi] at z
      cases z
      exact ⟨_, hx, rp⟩
    · rw [List.getElem?_set_ne (Ne.symm hj)] at z
      obtain ⟨y, e1, e2⟩ := h.at_ j u z
      refine ⟨y, e1, e2.mono (Le.new n) fun b hb => ⟨?_, fun _ w => w⟩⟩
      have hba : b ≠ a := fun w => by
        subst w
        exact hj (h.sep j i u _ b z q hb (by simp))
      rw [upd_ne hba]
      exact (e2.has hb).2
  · by_cases hj : j = i
    · subst hj
      rw [List.getElem?_set_self hi] at z1
      cases z1
      simp at m1
    · by_cases hk : k = i
      · subst hk
        rw [List.getElem?_set_self hi] at z2
        cases z2
        simp at m2
      · rw [List.getElem?_set_ne (Ne.symm hj)] at z1
        rw [List.getElem?_set_ne (Ne.symm hk)] at z2
        exact h.sep j k u v b z1 z2 m1 m2
theorem adr_set_imm {c : En} {i : Nat} {d : D} {b : Addr} (h : b ∈ adr (c.set i (some (.imm d)))) : b ∈ adr c := by
  obtain ⟨j, u, q, m⟩ := mem_adr.mp h
  by_cases hj : j = i
  · subst hj
    have hl := (List.getElem?_eq_some_iff.mp q).1
    rw [List.length_set] at hl
    rw [List.getElem?_set_self hl] at q
    cases q
    simp at m
  · rw [List.getElem?_set_ne (Ne.symm hj)] at q
    exact mem_adr.mpr ⟨j, u, q, m⟩
theorem Step.frz {e0 c : En} {I0 H0 I H : Hp} {i : Nat} {a : Addr} {d : D} {o : HO} (s : Step e0 I0 H0 c I H) (q : c[i]? = some (some (.own a d))) (n : I a = none) : Step e0 I0 H0 (c.set i (some (.imm d))) (upd I a o) H :=
  s.trans ⟨Le.new n, fun _ _ h _ _ => h, fun _ ps h _ => ⟨ps, h⟩, fun b h => .inl (adr_set_imm h), fun b u h => by
    by_cases hb : b = a
    · subst hb
      exact .inr (.inl (mem_adr.mpr ⟨i, _, q, by simp⟩))
    · rw [upd_ne hb] at h
      exact .inl h⟩
theorem alive_set {e : En} {i j : Nat} {u : Ent} (h : ∃ t, e[j]? = some (some t)) : ∃ t, (e.set i (some u))[j]? = some (some t) := by
  obtain ⟨t, h⟩ := h
  by_cases hj : j = i
  · subst hj
    exact ⟨u, List.getElem?_set_self (List.getElem?_eq_some_iff.mp h).1⟩
  · exact ⟨t, by rw [List.getElem?_set_ne (Ne.symm hj)]; exact h⟩
theorem tn_set {σ : L2.St} {e : En} {ps qs : Tm} {x : V} {r r' : Rv} (hl : e.length = σ.length) : (e ++ tn (ps ++ (x, r) :: qs)).set (σ.length + ps.length) r'.o = e ++ tn (ps ++ (x, r') :: qs) := by
  have z : (e ++ tn ps).length = σ.length + ps.length := by
    rw [List.length_append, hl]
    unfold tn
    rw [List.length_map]
  have k : ∀ r : Rv, tn (ps ++ (x, r) :: qs) = tn ps ++ r.o :: tn qs := fun r => by rw [tn_app]; rfl
  rw [k, k, ← List.append_assoc, ← List.append_assoc, List.set_append_right _ _ (by omega), z, Nat.sub_self]
  rfl
theorem tv_eq {ps qs : Tm} {x : V} {r r' : Rv} : tv (ps ++ (x, r) :: qs) = tv (ps ++ (x, r') :: qs) := by
  rw [tv_app, tv_app]
  rfl
section
variable {F : Fr} {σ : L2.St} {I H I' H' : Hp} {e e' : En} {ps qs : Tm}
/-- a value that never changes, in the place of what was told of it -/
theorem ST.immAt {x : V} {r : Rv} {d : D} (s : ST F σ I H e (ps ++ (x, r) :: qs)) (h : Rep F.K I x d) : ST F σ I H e (ps ++ (x, .im d) :: qs) where
  sub := s.sub
  len := s.len
  env := by
    obtain ⟨h1, h2⟩ := tm_at (ps := ps) (qs := qs) (x := x) (r := r) s.len
    have z := s.env.set (i := σ.length + ps.length) (x := x) (t := .imm d) (List.getElem?_eq_some_iff.mp h2).1 h fun a ha => by simp at ha
    rw [show some (Ent.imm d) = (Rv.im d).o from rfl, tn_set s.len] at z
    have w : (σ ++ tv (ps ++ (x, r) :: qs)).set (σ.length + ps.length) (some x) = σ ++ tv (ps ++ (x, .im d) :: qs) := by
      rw [tv_eq (r' := .im d)]
      refine List.ext_getElem? fun j => ?_
      by_cases hj : j = σ.length + ps.length
      · subst hj
        have g := (tm_at (ps := ps) (qs := qs) (x := x) (r := .im d) s.len).1
        rw [List.getElem?_set_self (List.getElem?_eq_some_iff.mp g).1, g]
      · rw [List.getElem?_set_ne (Ne.symm hj)]
    rw [w] at z
    exact z
  ali := fun p hp i q => by
    rcases List.mem_append.mp hp with m | m
    · exact s.ali p (List.mem_append_left _ m) i q
    · rcases List.mem_cons.mp m with m | m
      · subst m; cases q
      · exact s.ali p (List.mem_append_right _ (List.mem_cons_of_mem _ m)) i q
  base := by
    have b := s.base
    refine ⟨b.imm, b.keep, b.tbl, fun a ha => b.own a ?_, b.new⟩
    rw [← tn_set s.len (r := r)] at ha
    exact adr_set_imm ha
theorem ST.frz {x : V} {r : Rv} {d : D} (s : ST F σ I H e (ps ++ (x, r) :: qs)) (h : frz e r = some (d, e')) : ∃ I', Le I I' ∧ ST F σ I' H e' (ps ++ (x, .im d) :: qs) := by
  cases r with
  | ent t =>
    cases t with
    | imm d' => cases h; exact ⟨I, Le.refl, s⟩
    | hand p c n => cases h
    | raw a xs => cases h
    | dol a ls => cases h
    | own a d' =>
      cases h
      obtain ⟨h1, h2⟩ := tm_at (ps := ps) (qs := qs) (x := x) (r := .ent (.own a d)) s.len
      obtain ⟨o, ho, n, z, rp⟩ := s.env.frz h1 h2
      refine ⟨upd I a o, Le.new n, ?_⟩
      have b := s.base.frz (o := o) h2 n
      rw [show some (Ent.imm d) = (Rv.im d).o from rfl, tn_set s.len] at z b
      rw [tv_eq (r' := .im d)] at z
      refine ⟨fun b u q => ?_, s.len, z, fun p hp i q => ?_, b⟩
      · by_cases hb : b = a
        · subst hb; rw [upd_same] at q; rw [ho, q]
        · rw [upd_ne hb] at q; exact s.sub b u q
      · rcases List.mem_append.mp hp with m | m
        · exact s.ali p (List.mem_append_left _ m) i q
        · rcases List.mem_cons.mp m with m | m
          · subst m; cases q
          · exact s.ali p (List.mem_append_right _ (List.mem_cons_of_mem _ m)) i q
  | slot i =>
    have ha := (s.ali (x, .slot i) (by simp) i rfl).1
    unfold TK.frz at h
    dsimp only at h
    split at h
    · rename_i d' q
      cases h
      obtain ⟨y, e1, e2⟩ := s.slot q
      rw [ha] at e1
      cases e1
      exact ⟨I, Le.refl, s.immAt e2⟩
    · rename_i a d' q
      cases h
      have hi := (List.getElem?_eq_some_iff.mp q).1
      have q' : (e ++ tn (ps ++ (x, .slot i) :: qs))[i]? = some (some (.own a d)) := by rw [List.getElem?_append_left hi]; exact q
      have ha' : (σ ++ tv (ps ++ (x, .slot i) :: qs))[i]? = some (some x) := by rw [List.getElem?_append_left (by rw [← s.len]; exact hi)]; exact ha
      obtain ⟨o, ho, n, z, rp⟩ := s.env.frz ha' q'
      have b := s.base.frz (o := o) q' n
      rw [List.set_append_left _ _ hi] at z b
      refine ⟨upd I a o, Le.new n, ST.immAt (r := .slot i) ⟨fun b u q => ?_, by rw [List.length_set]; exact s.len, z, fun p hp j w => ⟨(s.ali p hp j w).1, alive_set (s.ali p hp j w).2⟩, b⟩ rp⟩
      by_cases hb : b = a
      · subst hb; rw [upd_same] at q; rw [ho, q]
      · rw [upd_ne hb] at q; exact s.sub b u q
    · cases h
/-- several values -/
theorem ST.frzs : ∀ {xs : List V} {rs : List Rv} {ds : List D} {e e' : En} {I : Hp} {ps : Tm}, ST F σ I H e (ps ++ xs.zip rs) → xs.length = rs.length → frzs e rs = some (ds, e') →
    ∃ I', Le I I' ∧ ST F σ I' H e' ps ∧ Reps F.K I' xs ds
  | [], [], ds, e, e', I, ps, s, _, h => by
    cases h
    simp at s
    exact ⟨I, Le.refl, s, .nil⟩
  | x :: xs, r :: rs, ds, e, e', I, ps, s, hl, h => by
    unfold TK.frzs at h
    split at h
    · rename_i d e1 h1
      split at h
      · rename_i ds' e2 h2
        cases h
        rw [List.zip_cons_cons] at s
        obtain ⟨I1, l1, s1⟩ := s.frz h1
        have s1' : ST F σ I1 H e1 ((ps ++ [(x, .im d)]) ++ xs.zip rs) := by rw [List.append_assoc]; exact s1
        obtain ⟨I2, l2, s2, r2⟩ := ST.frzs s1' (by simpa using hl) h2
        exact ⟨I2, l1.trans l2, s2.weak, .cons (ST.temp (ps := ps) (qs := []) (t := .imm d) s2) r2⟩
      · cases h
    · cases h
end
/-! ### expressions -/
structure DE (X : Cx) (F : Fr) (ex : Expr) (f : EvF) : Prop where
  ex : ∃ t, PE X ex t ∧ DT F t f
structure DA (X : Cx) (F : Fr) (es : List Expr) (f : EvA) : Prop where
  ex : ∃ t, PA X es t ∧ DTA F t f
structure DTe (X : Cx) (F : Fr) (ex : Expr) (f : EvT) : Prop where
  ex : ∃ t, PT X ex t ∧ DTT F t f
def eVar (i : Nat) : EvF := fun e P => (∃ d, e[i]? = some (some (.imm d)) ∧ P (.im d) e) ∨ ∃ t, e[i]? = some (some t) ∧ P (.slot i) e
def eC (d : D) : EvF := fun e P => P (.im d) e
def aNil : EvA := fun e P => P [] e
def aCons (f : EvF) (g : EvA) : EvA := fun e P => f e fun r e1 => g e1 fun rs e2 => P (r :: rs) e2
def eTup (g : EvA) : EvF := fun e P => g e fun rs e1 => ∃ ds e2, frzs e1 rs = some (ds, e2) ∧ ds.length ≤ 1000 ∧ P (.im (.tup ds)) e2
def eLst (g : EvA) : EvF := fun e P => g e fun rs e1 => ∃ ds e2, frzs e1 rs = some (ds, e2) ∧ ds.length ≤ 1000 ∧ ∀ a, P (.ent (.own a (.lst ds))) e2
def eDnT : EvF := fun e P => ∀ a, P (.ent (.own a (.dic []))) e
def eDnK : EvF := fun e P => ∀ a, P (.ent (.own a (.dik []))) e
section
variable {X : Cx} {F : Fr} {pos : Pos}
theorem de_var {i : Nat} {x : Str} (hN : X.N[i]? = some x) (hv : Vis X.env.scope x) (hd : (x == ("__debug__" : Str)) = false := by decide) (hcd : (x == ("__classdict__" : Str)) = false := by decide) : DE X F (.Name x pos) (eVar i) :=
  ⟨_, pe_var hN hv hd hcd, fun σ I H e ps P Q s h k => by
    rcases h with ⟨d, q, h⟩ | ⟨t, q, h⟩
    · obtain ⟨y, e1, e2⟩ := s.slot q
      exact ⟨y, e1, k y _ e I H h (s.pushI e2)⟩
    · obtain ⟨y, e1, e2⟩ := s.slot q
      exact ⟨y, e1, k y _ e I H h (s.pushS e1 q)⟩⟩
theorem DT.c {v : V} {d : D} (h : ∀ I, Rep F.K I v d) : DT F (tC v) (eC d) := fun σ I H e ps P Q s q k => k v _ e I H q (s.pushI (h I))
theorem de_int {i j} : DE X F (.Constant (.int i) j pos) (eC (.int i)) := ⟨_, pe_int, DT.c fun _ => .int i⟩
theorem de_bl {b j} : DE X F (.Constant (.bool b) j pos) (eC (.bl b)) := ⟨_, pe_bl, DT.c fun _ => .bl b⟩
theorem de_non {j} : DE X F (.Constant .none j pos) (eC .non) := ⟨_, pe_non, DT.c fun _ => .non⟩
theorem de_str {x j} : DE X F (.Constant (.str x) j pos) (eC (.str x)) := ⟨_, pe_str, DT.c fun _ => .str x⟩
theorem de_glob {x : Str} {v : V} {d : D} {u : Value} (hg : Gl X x) (hm : X.mg x = some u) (r : RelV v u) (h : ∀ I, Rep F.K I v d) (hd : (x == ("__debug__" : Str)) = false := by decide) : DE X F (.Name x pos) (eC d) := ⟨_, pe_glob hg hm r hd, DT.c h⟩
theorem de_bltn {x n : String} (hg : Gl X x) (hm : X.mg x = none) (hv : bootBuiltins x = some (.type n)) (hn : (x : Str) ≠ "__name__" := by decide) (hd : ((x : Str) == ("__debug__" : Str)) = false := by decide) : DE X F (.Name x pos) (eC (.ty n)) :=
  ⟨_, pe_bltn (v := .ty n) hg hm hv rfl hn hd, DT.c fun _ => .ty n⟩
theorem da_nil : DA X F [] aNil := ⟨_, pa_nil, fun σ I H e ps P Q s h k => k [] [] e I H h rfl (by simpa using s)⟩
theorem da_cons {ex : Expr} {es : List Expr} {f : EvF} {g : EvA} (h1 : DE X F ex f) (h2 : DA X F es g) (hs : starEach (ex :: es) X.env = (false, eval ex X.env) :: starEach es X.env := by rfl) : DA X F (ex :: es) (aCons f g) := by
  obtain ⟨t1, p1, d1⟩ := h1
  obtain ⟨t2, p2, d2⟩ := h2
  refine ⟨_, pa_cons p1 p2 hs, fun σ I H e ps P Q s h k => ?_⟩
  refine d1 σ I H e ps _ _ s h fun x r e1 I1 H1 h1 s1 => ?_
  refine d2 σ I1 H1 e1 _ _ _ s1 h1 fun xs rs e2 I2 H2 h2 hl s2 => ?_
  refine k (x :: xs) (r :: rs) e2 I2 H2 h2 (by simp [hl]) ?_
  rw [List.zip_cons_cons]
  rw [List.append_assoc] at s2
  exact s2
theorem de_tup {es : List Expr} {g : EvA} {x1} (h : DA X F es g) : DE X F (.Tuple es x1 pos) (eTup g) := by
  obtain ⟨t, p, d⟩ := h
  refine ⟨_, pe_tup p, fun σ I H e ps P Q s h k => ?_⟩
  refine d σ I H e ps _ _ s h fun xs rs e1 I1 H1 h1 hl s1 => ?_
  obtain ⟨ds, e2, hf, hz, h2⟩ := h1
  obtain ⟨I2, l2, s2, r2⟩ := s1.frzs hl hf
  refine ⟨Nat.le_trans (by rw [r2.len]; exact hz) (by decide), fun p hp => ?_⟩
  have g := Grow.allocI (o := .tup xs) s2.sub hp
  exact k _ _ e2 _ _ h2 (s2.pushG (t := .imm (.tup ds)) g (.tup upd_same (r2.mono g.le)) fun a ha => by simp at ha)
theorem de_lst {es : List Expr} {g : EvA} (h : DA X F es g) : DE X F (.List es pos) (eLst g) := by
  obtain ⟨t, p, d⟩ := h
  refine ⟨_, pe_lst p, fun σ I H e ps P Q s h k => ?_⟩
  refine d σ I H e ps _ _ s h fun xs rs e1 I1 H1 h1 hl s1 => ?_
  obtain ⟨ds, e2, hf, hz, h2⟩ := h1
  obtain ⟨I2, l2, s2, r2⟩ := s1.frzs hl hf
  refine ⟨Nat.le_trans (by rw [r2.len]; exact hz) (by decide), fun p hp => ?_⟩
  have g := Grow.alloc (o := .lst xs) s2.sub hp
  exact k _ _ e2 _ _ (h2 p) (s2.pushG (t := .own p (.lst ds)) g ⟨rfl, s2.sub.none hp, xs, upd_same, r2⟩ fun a ha => by simp at ha; subst ha; exact hp)
theorem de_dnT : DE X F (.Dict [] [] pos) eDnT := ⟨_, pe_dnewT, fun σ I H e ps P Q s h k p hp => k _ _ e _ _ (h p) (s.pushG (t := .own p (.dic [])) (Grow.alloc s.sub hp) ⟨rfl, s.sub.none hp, [], upd_same, rfl, .nil⟩ fun a ha => by simp at ha; subst ha; exact hp)⟩
theorem de_dnK : DE X F (.Dict [] [] pos) eDnK := ⟨_, pe_dnewK, fun σ I H e ps P Q s h k p hp => k _ _ e _ _ (h p) (s.pushG (t := .own p (.dik [])) (Grow.alloc s.sub hp) ⟨rfl, s.sub.none hp, [], upd_same, rfl, .nil⟩ fun a ha => by simp at ha; subst ha; exact hp)⟩
end
/-! ### operations on values -/
abbrev DO2 := D → D → (Ent → Prop) → Prop
/-- what an operation on values leaves -/
abbrev Lands (K : PySem.W.Frag) (I H : Hp) (P : Ent → Prop) (Q : VK) : Prop := ∀ z t I' H', P t → Grow I H I' H' → EntR K I' H' z t → (∀ a ∈ t.adr, H a = none) → Q z H'
def DOp (K : PySem.W.Frag) (r : R2) (g : DO2) : Prop := ∀ (I H : Hp) (x y : V) (c d : D) (P : Ent → Prop) (Q : VK), Sub I H → VwR K I H x c → VwR K I H y d → g c d P → Lands K I H P Q → r x y H Q
abbrev DO1 := D → (Ent → Prop) → Prop
def DUn (K : PySem.W.Frag) (r : V → Hp → VK → Prop) (g : DO1) : Prop := ∀ (I H : Hp) (x : V) (c : D) (P : Ent → Prop) (Q : VK), Sub I H → VwR K I H x c → g c P → Lands K I H P Q → r x H Q
inductive VwRs (K : PySem.W.Frag) (I H : Hp) : List V → List D → Prop
  | nil : VwRs K I H [] []
  | cons {x : V} {xs : List V} {d : D} {ds : List D} : VwR K I H x d → VwRs K I H xs ds → VwRs K I H (x :: xs) (d :: ds)
abbrev DON := List D → (Ent → Prop) → Prop
def DCl (K : PySem.W.Frag) (r : List V → Hp → VK → Prop) (g : DON) : Prop := ∀ (I H : Hp) (xs : List V) (ds : List D) (P : Ent → Prop) (Q : VK), Sub I H → VwRs K I H xs ds → g ds P → Lands K I H P Q → r xs H Q
def vals (e : En) : List Rv → Option (List D)
  | [] => some []
  | r :: rs => match val e r with
    | some d => match vals e rs with
      | some ds => some (d :: ds)
      | none => none
    | none => none
def eOp (g : DO2) (f1 f2 : EvF) : EvF := fun e P => f1 e fun r1 e1 => f2 e1 fun r2 e2 => ∃ c d, val e2 r1 = some c ∧ val e2 r2 = some d ∧ g c d fun t => P (.ent t) e2
def eUn (g : DO1) (f : EvF) : EvF := fun e P => f e fun r e1 => ∃ c, val e1 r = some c ∧ g c fun t => P (.ent t) e1
def eCl (g : DON) (f : EvA) : EvF := fun e P => f e fun rs e1 => ∃ ds, vals e1 rs = some ds ∧ g ds fun t => P (.ent t) e1
section
variable {F : Fr} {σ : L2.St} {I H I' H' : Hp} {e e' : En} {ps qs : Tm}
theorem ST.vws : ∀ {xs : List V} {rs : List Rv} {ds : List D} {ps : Tm}, ST F σ I H e (ps ++ xs.zip rs) → xs.length = rs.length → vals e rs = some ds → VwRs F.K I H xs ds
  | [], [], ds, ps, s, _, h => by
    cases h
    exact .nil
  | x :: xs, r :: rs, ds, ps, s, hl, h => by
    unfold TK.vals at h
    split at h
    · rename_i d h1
      split at h
      · rename_i ds' h2
        cases h
        rw [List.zip_cons_cons] at s
        have s1 : ST F σ I H e ((ps ++ [(x, r)]) ++ xs.zip rs) := by rw [List.append_assoc]; exact s
        exact .cons (s.vw h1) (ST.vws s1 (by simpa using hl) h2)
      · cases h
    · cases h
theorem DT.op {r : R2} {g : DO2} {ta tb : TE} {f1 f2 : EvF} (hr : DOp F.K r g) (d1 : DT F ta f1) (d2 : DT F tb f2) : DT F (tOp r ta tb) (eOp g f1 f2) := fun σ I H e ps P Q s h k => by
  refine d1 σ I H e ps _ _ s h fun x r1 e1 I1 H1 h1 s1 => ?_
  refine d2 σ I1 H1 e1 _ _ _ s1 h1 fun y r2 e2 I2 H2 h2 s2 => ?_
  obtain ⟨c, d, v1, v2, h3⟩ := h2
  rw [List.append_assoc] at s2
  have s2' := s2
  rw [← List.append_assoc] at s2'
  exact hr I2 H2 x y c d _ _ s2.sub (s2.vw v1) (ST.vw (ps := ps ++ [(x, r1)]) (qs := []) s2' v2) h3 fun z t I3 H3 p3 g3 r3 n3 => k z _ e2 I3 H3 p3 (s2.weak.pushG g3 r3 n3)
theorem DT.un {r : V → Hp → VK → Prop} {g : DO1} {ta : TE} {f : EvF} (hr : DUn F.K r g) (d1 : DT F ta f) : DT F (tUn r ta) (eUn g f) := fun σ I H e ps P Q s h k => by
  refine d1 σ I H e ps _ _ s h fun x r1 e1 I1 H1 h1 s1 => ?_
  obtain ⟨c, v1, h3⟩ := h1
  exact hr I1 H1 x c _ _ s1.sub (s1.vw v1) h3 fun z t I3 H3 p3 g3 r3 n3 => k z _ e1 I3 H3 p3 (s1.weak.pushG g3 r3 n3)
theorem DT.cl {r : List V → Hp → VK → Prop} {g : DON} {t : TA} {f : EvA} (hr : DCl F.K r g) (d1 : DTA F t f) : DT F (fun σ H Q => t σ H fun vs H1 => r vs H1 Q) (eCl g f) := fun σ I H e ps P Q s h k => by
  refine d1 σ I H e ps _ _ s h fun xs rs e1 I1 H1 h1 hl s1 => ?_
  obtain ⟨ds, v1, h3⟩ := h1
  exact hr I1 H1 xs ds _ _ s1.sub (s1.vws hl v1) h3 fun z t I3 H3 p3 g3 r3 n3 => k z _ e1 I3 H3 p3 (s1.weak.pushG g3 r3 n3)
end
/-! views by shape -/
section
variable {K : PySem.W.Frag} {I H : Hp} {x : V}
theorem VwR.int {i : Int} (h : VwR K I H x (.int i)) : x = .int i := by
  rcases h with h | ⟨a, _, h⟩
  · cases h; rfl
  · exact False.elim h
theorem VwR.bl {i : Bool} (h : VwR K I H x (.bl i)) : x = .bl i := by
  rcases h with h | ⟨a, _, h⟩
  · cases h; rfl
  · exact False.elim h
theorem VwR.str {i : Str} (h : VwR K I H x (.str i)) : x = .str i := by
  rcases h with h | ⟨a, _, h⟩
  · cases h; rfl
  · exact False.elim h
theorem VwR.non (h : VwR K I H x .non) : x = .non := by
  rcases h with h | ⟨a, _, h⟩
  · cases h; rfl
  · exact False.elim h
theorem VwR.ty {n : String} (h : VwR K I H x (.ty n)) : x = .ty n := by
  rcases h with h | ⟨a, _, h⟩
  · cases h; rfl
  · exact False.elim h
theorem VwR.lst {ds : List D} (s : Sub I H) (h : VwR K I H x (.lst ds)) : ∃ a xs, x = .ref a ∧ H a = some (.lst xs) ∧ Reps K I xs ds := by
  rcases h with h | ⟨a, rfl, xs, h, r⟩
  · cases h with
    | lst h r => exact ⟨_, _, rfl, s _ _ h, r⟩
  · exact ⟨a, xs, rfl, h, r⟩
theorem VwR.fls {ds : List D} (s : Sub I H) (h : VwR K I H x (.fls ds)) : ∃ a xs, x = .ref a ∧ SqL K H a xs ∧ Reps K I xs ds := by
  rcases h with h | ⟨a, _, h⟩
  · cases h with
    | fls h r => exact ⟨_, _, rfl, Le.sqL s h, r⟩
  · exact False.elim h
theorem VwR.tup {ds : List D} (s : Sub I H) (h : VwR K I H x (.tup ds)) : ∃ a xs, x = .ref a ∧ H a = some (.tup xs) ∧ Reps K I xs ds := by
  rcases h with h | ⟨a, _, h⟩
  · cases h with
    | tup h r => exact ⟨_, _, rfl, s _ _ h, r⟩
  · exact False.elim h
theorem VwR.ftp {ds : List D} (s : Sub I H) (h : VwR K I H x (.ftp ds)) : ∃ a xs, x = .ref a ∧ SqT K H a xs ∧ Reps K I xs ds := by
  rcases h with h | ⟨a, _, h⟩
  · cases h with
    | ftp h r => exact ⟨_, _, rfl, Le.sqT s h, r⟩
  · exact False.elim h
theorem VwR.dic {es : List (List Key × D)} (s : Sub I H) (h : VwR K I H x (.dic es)) : ∃ a kvs, x = .ref a ∧ H a = some (.dT kvs) ∧ kvs.map (·.1) = es.map (·.1) ∧ Reps K I (kvs.map (·.2)) (es.map (·.2)) := by
  rcases h with h | ⟨a, rfl, xs, h, m, r⟩
  · cases h with
    | dic h m r => exact ⟨_, _, rfl, s _ _ h, m, r⟩
  · exact ⟨a, xs, rfl, h, m, r⟩
theorem VwR.dik {es : List (Key × D)} (s : Sub I H) (h : VwR K I H x (.dik es)) : ∃ a kvs, x = .ref a ∧ H a = some (.dK kvs) ∧ kvs.map (·.1) = es.map (·.1) ∧ Reps K I (kvs.map (·.2)) (es.map (·.2)) := by
  rcases h with h | ⟨a, rfl, xs, h, m, r⟩
  · cases h with
    | dik h m r => exact ⟨_, _, rfl, s _ _ h, m, r⟩
  · exact ⟨a, xs, rfl, h, m, r⟩
theorem VwR.obj {C : Addr} {es : List (Str × D)} (s : Sub I H) (h : VwR K I H x (.obj C es)) : ∃ a dx fs, x = .ref a ∧ H a = some (.ins C dx fs) ∧ fs.map (·.1) = es.map (·.1) ∧ Reps K I (fs.map (·.2)) (es.map (·.2)) := by
  rcases h with h | ⟨a, q, h⟩
  · cases h with
    | obj h m r => exact ⟨_, _, _, rfl, s _ _ h, m, r⟩
  · obtain ⟨dx, fs, h1, m, r⟩ := h
    exact ⟨a, dx, fs, q, h1, m, r⟩
theorem Lands.imm {P : Ent → Prop} {Q : VK} {d : D} (k : Lands K I H P Q) (s : Sub I H) (p : P (.imm d)) (r : Rep K I x d) : Q x H := k x _ I H p (Grow.refl s) r fun a ha => by simp at ha
theorem Lands.lst {P : Ent → Prop} {Q : VK} {xs : List V} {ds : List D} (k : Lands K I H P Q) (s : Sub I H) (p : ∀ a, P (.own a (.lst ds))) (r : Reps K I xs ds) : ∀ q, H q = none → Q (.ref q) (upd H q (.lst xs)) := fun q hq =>
  k _ _ _ _ (p q) (Grow.alloc s hq) ⟨rfl, s.none hq, xs, upd_same, r⟩ fun a ha => by simp at ha; subst ha; exact hq
theorem Lands.tup {P : Ent → Prop} {Q : VK} {xs : List V} {ds : List D} (k : Lands K I H P Q) (s : Sub I H) (p : P (.imm (.tup ds))) (r : Reps K I xs ds) : ∀ q, H q = none → Q (.ref q) (upd H q (.tup xs)) := fun q hq =>
  k _ _ _ _ p (Grow.allocI s hq) (.tup upd_same (r.mono (Le.new (s.none hq)))) fun a ha => by simp at ha
end
/-! ### operators -/
def MulOk (i j : Int) : Prop := CMul i j ∨ CMulW i j
def DivOk (j : Int) : Prop := 0 < j ∧ (j < 1073741824 ∨ j.natAbs.log2 < 9000)
def oAdd : DO2
  | .int i, .int j, P => P (.imm (.int (i + j)))
  | .str x, .str y, P => x.length + y.length ≤ sizeLine ∧ P (.imm (.str (x ++ y)))
  | .lst xs, .lst ys, P => xs.length + ys.length ≤ sizeLine ∧ ∀ a, P (.own a (.lst (xs ++ ys)))
  | _, _, _ => False
def oSub : DO2
  | .int i, .int j, P => P (.imm (.int (i - j)))
  | _, _, _ => False
def oMul : DO2
  | .int i, .int j, P => MulOk i j ∧ P (.imm (.int (i * j)))
  | _, _, _ => False
def oDiv : DO2
  | .int i, .int j, P => DivOk j ∧ P (.imm (.int (i / j)))
  | _, _, _ => False
def oMod : DO2
  | .int i, .int j, P => 0 < j ∧ P (.imm (.int (i % j)))
  | _, _, _ => False
def oPow : DO2
  | .int i, .int j, P => CPow i j ∧ P (.imm (.int (i ^ j.toNat)))
  | _, _, _ => False
def oAnd : DO2
  | .int i, .int j, P => P (.imm (.int (Builtin.bitAnd i j)))
  | _, _, _ => False
def oLt : DO2
  | .int i, .int j, P => P (.imm (.bl (decide (i < j))))
  | _, _, _ => False
def oLe : DO2
  | .int i, .int j, P => P (.imm (.bl (decide (i ≤ j))))
  | _, _, _ => False
def oGt : DO2
  | .int i, .int j, P => P (.imm (.bl (decide (j < i))))
  | _, _, _ => False
def oGe : DO2
  | .int i, .int j, P => P (.imm (.bl (decide (j ≤ i))))
  | _, _, _ => False
/-- == of data -/
def eqD (c d : D) : Bool := PyData.eqv (toPy c) (toPy d)
def okP (d : D) : Prop := okD 40 (toPy d) = true
def oEq : DO2
  | .int i, .int j, P => P (.imm (.bl (decide (i = j))))
  | .str i, .str j, P => P (.imm (.bl (decide (i = j))))
  | c, d, P => okP c ∧ okP d ∧ P (.imm (.bl (eqD c d)))
def oNe : DO2
  | .int i, .int j, P => P (.imm (.bl (!decide (i = j))))
  | .str i, .str j, P => P (.imm (.bl (!decide (i = j))))
  | c, d, P => okP c ∧ okP d ∧ P (.imm (.bl (!eqD c d)))
def isNon : D → Bool
  | .non => true
  | _ => false
def isBl (b : Bool) : D → Bool
  | .bl c => c == b
  | _ => false
def oIs : DO2
  | d, .non, P => P (.imm (.bl (isNon d)))
  | d, .bl b, P => P (.imm (.bl (isBl b d)))
  | _, _, _ => False
def oIsNot : DO2
  | d, .non, P => P (.imm (.bl (!isNon d)))
  | _, _, _ => False
def oIx : DO2
  | .ftp xs, .int i, P => ∃ j d, ixN xs.length i = some j ∧ xs[j]? = some d ∧ P (.imm d)
  | .fls xs, .int i, P => ∃ j d, ixN xs.length i = some j ∧ xs[j]? = some d ∧ P (.imm d)
  | .lst xs, .int i, P => ∃ j d, ixN xs.length i = some j ∧ xs[j]? = some d ∧ P (.imm d)
  | .tup xs, .int i, P => ∃ j d, ixN xs.length i = some j ∧ xs[j]? = some d ∧ P (.imm d)
  | .str z, .int i, P => z.length ≤ sizeLine ∧ ∃ c, atI z.cps.toList i = some c ∧ P (.imm (.str ⟨#[c]⟩))
  | _, _, _ => False
theorem OpR.or {X : Cx} {f : Value → Value → Sem Value} {r r' : R2} (h : OpR X f r) (h' : OpR X f r') : OpR X f (fun x y H Q => r x y H Q ∨ r' x y H Q) := fun pins s σ H x y v u Q I rx ry q => by
  rcases q with q | q
  · exact h pins s σ H x y v u Q I rx ry q
  · exact h' pins s σ H x y v u Q I rx ry q
def IxR.or {X : Cx} {r r' : R2} (h : IxR X r) (h' : IxR X r') : IxR X (fun x y H Q => r x y H Q ∨ r' x y H Q) := fun a b pins s σ H x y v u Q I rx ry q z => by
  rcases q with q | q
  · exact h a b pins s σ H x y v u Q I rx ry q z
  · exact h' a b pins s σ H x y v u Q I rx ry q z
section
variable {K : PySem.W.Frag}
theorem dop_I0 {g : Int → Int → V} {o : DO2} (h : ∀ c d P, o c d P → ∃ i j k, c = .int i ∧ d = .int j ∧ P (.imm k) ∧ ∀ I, Rep K I (g i j) k) : DOp K (rI0 g) o := fun I H x y c d P Q s v1 v2 q k => by
  obtain ⟨i, j, w, rfl, rfl, p, r⟩ := h c d P q
  exact ⟨i, j, v1.int, v2.int, k.imm s p (r I)⟩
theorem dop_I {C : Int → Int → Prop} {g : Int → Int → V} {o : DO2} (h : ∀ c d P, o c d P → ∃ i j k, c = .int i ∧ d = .int j ∧ C i j ∧ P (.imm k) ∧ ∀ I, Rep K I (g i j) k) : DOp K (rI C g) o := fun I H x y c d P Q s v1 v2 q k => by
  obtain ⟨i, j, w, rfl, rfl, hc, p, r⟩ := h c d P q
  exact ⟨i, j, v1.int, v2.int, hc, k.imm s p (r I)⟩
end
structure DOR (X : Cx) (f : Value → Value → Sem Value) (g : DO2) : Prop where
  ex : ∃ r, OpR X f r ∧ DOp X.K r g
section
variable {X : Cx}
theorem dor_sub : DOR X (binaryOp .Sub) oSub := ⟨_, op_sub, dop_I0 fun c d P h => by
  cases c <;> cases d <;> first | exact False.elim h | exact ⟨_, _, _, rfl, rfl, h, fun _ => .int _⟩⟩
theorem dor_mul : DOR X (binaryOp .Mult) oMul := ⟨_, op_mul.or op_mulW, fun I H x y c d P Q s v1 v2 h k => by
  cases c <;> cases d <;> first
    | exact False.elim h
    | (obtain ⟨hc, p⟩ := h
       rcases hc with hc | hc
       · exact .inl ⟨_, _, v1.int, v2.int, hc, k.imm s p (.int _)⟩
       · exact .inr ⟨_, _, v1.int, v2.int, hc, k.imm s p (.int _)⟩)⟩
theorem dor_div : DOR X (binaryOp .FloorDiv) oDiv := ⟨_, op_fdiv.or op_fdivW, fun I H x y c d P Q s v1 v2 h k => by
  cases c <;> cases d <;> first
    | exact False.elim h
    | (obtain ⟨⟨h0, hc⟩, p⟩ := h
       rcases hc with hc | hc
       · exact .inl ⟨_, _, v1.int, v2.int, ⟨h0, hc⟩, k.imm s p (.int _)⟩
       · exact .inr ⟨_, _, v1.int, v2.int, ⟨h0, hc⟩, k.imm s p (.int _)⟩)⟩
theorem dor_mod : DOR X (binaryOp .Mod) oMod := ⟨_, op_mod, dop_I fun c d P h => by
  cases c <;> cases d <;> first | exact False.elim h | exact ⟨_, _, _, rfl, rfl, h.1, h.2, fun _ => .int _⟩⟩
theorem dor_pow : DOR X (binaryOp .Pow) oPow := ⟨_, op_pow, dop_I fun c d P h => by
  cases c <;> cases d <;> first | exact False.elim h | exact ⟨_, _, _, rfl, rfl, h.1, h.2, fun _ => .int _⟩⟩
theorem dor_and : DOR X (binaryOp .BitAnd) oAnd := ⟨_, op_and, dop_I0 fun c d P h => by
  cases c <;> cases d <;> first | exact False.elim h | exact ⟨_, _, _, rfl, rfl, h, fun _ => .int _⟩⟩
theorem dor_lt : DOR X (compareOp .Lt) oLt := ⟨_, op_lt, dop_I0 fun c d P h => by
  cases c <;> cases d <;> first | exact False.elim h | exact ⟨_, _, _, rfl, rfl, h, fun _ => .bl _⟩⟩
theorem dor_le : DOR X (compareOp .LtE) oLe := ⟨_, op_le, dop_I0 fun c d P h => by
  cases c <;> cases d <;> first | exact False.elim h | exact ⟨_, _, _, rfl, rfl, h, fun _ => .bl _⟩⟩
theorem dor_gt : DOR X (compareOp .Gt) oGt := ⟨_, op_gt, dop_I0 fun c d P h => by
  cases c <;> cases d <;> first | exact False.elim h | exact ⟨_, _, _, rfl, rfl, h, fun _ => .bl _⟩⟩
theorem dor_ge : DOR X (compareOp .GtE) oGe := ⟨_, op_ge, dop_I0 fun c d P h => by
  cases c <;> cases d <;> first | exact False.elim h | exact ⟨_, _, _, rfl, rfl, h, fun _ => .bl _⟩⟩
end
/-! ### further operators -/
section
variable {X : Cx}
theorem DOp.or {K : PySem.W.Frag} {r r' : R2} {g g' o : DO2} (h : DOp K r g) (h' : DOp K r' g') (m : ∀ c d P, o c d P → g c d P ∨ g' c d P) : DOp K (fun x y H Q => r x y H Q ∨ r' x y H Q) o := fun I H x y c d P Q s v1 v2 q k => by
  rcases m c d P q with q | q
  · exact .inl (h I H x y c d P Q s v1 v2 q k)
  · exact .inr (h' I H x y c d P Q s v1 v2 q k)
theorem dor_add : DOR X (binaryOp .Add) oAdd := ⟨_, op_add.or (op_add_str.or (op_cat.or op_catT)), fun I H x y c d P Q s v1 v2 h k => by
  cases c <;> cases d <;> first
    | exact False.elim h
    | exact .inl ⟨_, _, v1.int, v2.int, k.imm s h (.int _)⟩
    | exact .inr (.inl ⟨_, _, v1.str, v2.str, h.1, k.imm s h.2 (.str _)⟩)
    | (obtain ⟨a, xs, rfl, h1, r1⟩ := v1.lst s
       obtain ⟨b, ys, rfl, h2, r2⟩ := v2.lst s
       exact .inr (.inr (.inl ⟨a, b, xs, ys, rfl, rfl, h1, h2, by rw [r1.len, r2.len]; exact h.1, k.lst s h.2 (r1.app r2)⟩)))⟩
theorem Rep.dpH {K : PySem.W.Frag} {I H : Hp} {x : V} {d : D} (s : Sub I H) (h : VwR K I H x d) (ok : okP d) : Dp K H x (toPy d) := by
  have go : ∀ {y e}, Rep K I y e → okP e → Dp K H y (toPy e) := fun r o => (r.mono s).dp o
  rcases h with h | ⟨a, rfl, h⟩
  · exact go h ok
  · cases d with
    | lst ds =>
      obtain ⟨xs, h, r⟩ := h
      have ok' : okD 40 (.list (toPys ds)) = true := ok
      rw [okD, Bool.and_eq_true] at ok'
      exact .lst (SqL.of h) ((r.mono s).dp ok'.2)
    | dic es => simp [okP, toPy, okD] at ok
    | dik es => simp [okP, toPy, okD] at ok
    | obj C es => simp [okP, toPy, okD] at ok
    | _ => exact False.elim h
theorem dec_vi {i j : Int} : decide (V.int i = V.int j) = decide (i = j) := decide_eq_decide.mpr (by simp)
theorem dec_vs {i j : Str} : decide (V.str i = V.str j) = decide (i = j) := decide_eq_decide.mpr (by simp)
theorem dor_eq (hu : X.A.units + 64 < cLine) : DOR X (compareOp .Eq) oEq := ⟨_, op_eq.or (op_eqD hu), fun I H x y c d P Q s v1 v2 h k => by
  have gen : okP c ∧ okP d ∧ P (.imm (.bl (eqD c d))) → rEqD X.K x y H Q := fun h =>
    ⟨toPy c, toPy d, Rep.dpH s v1 h.1, Rep.dpH s v2 h.2.1, okD_shaped h.1 (by decide), okD_shaped h.2.1 (by decide), k.imm s h.2.2 (.bl _)⟩
  unfold oEq at h
  split at h
  · rw [v1.int, v2.int]
    refine .inl ⟨rfl, k.imm s h ?_⟩
    rw [dec_vi]
    exact .bl _
  · rw [v1.str, v2.str]
    refine .inl ⟨rfl, k.imm s h ?_⟩
    rw [dec_vs]
    exact .bl _
  · exact .inr (gen h)⟩
theorem dor_ne (hu : X.A.units + 64 < cLine) : DOR X (compareOp .NotEq) oNe := ⟨_, op_ne.or (op_neD hu), fun I H x y c d P Q s v1 v2 h k => by
  have gen : okP c ∧ okP d ∧ P (.imm (.bl (!eqD c d))) → rNeD X.K x y H Q := fun h =>
    ⟨toPy c, toPy d, Rep.dpH s v1 h.1, Rep.dpH s v2 h.2.1, okD_shaped h.1 (by decide), okD_shaped h.2.1 (by decide), k.imm s h.2.2 (.bl _)⟩
  unfold oNe at h
  split at h
  · rw [v1.int, v2.int]
    refine .inl ⟨rfl, k.imm s h ?_⟩
    rw [dec_vi]
    exact .bl _
  · rw [v1.str, v2.str]
    refine .inl ⟨rfl, k.imm s h ?_⟩
    rw [dec_vs]
    exact .bl _
  · exact .inr (gen h)⟩
theorem VwR.isN {K : PySem.W.Frag} {I H : Hp} {x : V} {d : D} (v : VwR K I H x d) : decide (x = .non) = isNon d := by
  rcases v with h | ⟨a, rfl, h⟩
  · cases h <;> rfl
  · cases d <;> first | exact False.elim h | rfl
theorem VwR.isB {K : PySem.W.Frag} {I H : Hp} {x : V} {d : D} {b : Bool} (v : VwR K I H x d) : decide (x = .bl b) = isBl b d := by
  rcases v with h | ⟨a, rfl, h⟩
  · cases h <;> first
      | rfl
      | (rename_i c; cases c <;> cases b <;> rfl)
  · cases d <;> first | exact False.elim h | rfl
theorem dor_is : DOR X (compareOp .Is) oIs := ⟨_, o_isN.or o_isBool, fun I H x y c d P Q s v1 v2 h k => by
  cases d with
  | non =>
    rw [v2.non]
    refine .inl ⟨rfl, ?_⟩
    rw [v1.isN]
    exact k.imm s (by cases c <;> exact h) (.bl _)
  | bl b =>
    rw [v2.bl]
    refine .inr ⟨b, rfl, ?_⟩
    rw [v1.isB]
    exact k.imm s (by cases c <;> exact h) (.bl _)
  | _ => cases c <;> exact False.elim h⟩
theorem dor_isNot : DOR X (compareOp .IsNot) oIsNot := ⟨_, o_notN, fun I H x y c d P Q s v1 v2 h k => by
  cases d with
  | non =>
    rw [v2.non]
    refine ⟨rfl, ?_⟩
    rw [v1.isN]
    exact k.imm s (by cases c <;> exact h) (.bl _)
  | _ => cases c <;> exact False.elim h⟩
structure DIx (X : Cx) (g : DO2) : Prop where
  ex : ∃ r, IxR X r ∧ DOp X.K r g
theorem Reps.at_ {K : PySem.W.Frag} {I : Hp} {xs : List V} {ds : List D} {i : Int} {j : Nat} {d : D} (r : Reps K I xs ds) (hj : ixN ds.length i = some j) (hd : ds[j]? = some d) : ∃ x, atI xs i = some x ∧ Rep K I x d := by
  obtain ⟨x, h1, h2⟩ := r.get hd
  refine ⟨x, ?_, h2⟩
  unfold atI
  rw [r.len, hj]
  exact h1
theorem dix : DIx X oIx := ⟨_, ix_list.or (ix_tup.or ix_str), fun I H x y c d P Q s v1 v2 h k => by
  cases c <;> cases d <;> first
    | exact False.elim h
    | (obtain ⟨j, d, h1, h2, p⟩ := h
       obtain ⟨a, xs, rfl, h3, r⟩ := v1.lst s
       obtain ⟨x, e, rx⟩ := r.at_ h1 h2
       exact .inl ⟨a, xs, _, x, rfl, v2.int, SqL.of h3, e, k.imm s p rx⟩)
    | (obtain ⟨j, d, h1, h2, p⟩ := h
       obtain ⟨a, xs, rfl, h3, r⟩ := v1.fls s
       obtain ⟨x, e, rx⟩ := r.at_ h1 h2
       exact .inl ⟨a, xs, _, x, rfl, v2.int, h3, e, k.imm s p rx⟩)
    | (obtain ⟨j, d, h1, h2, p⟩ := h
       obtain ⟨a, xs, rfl, h3, r⟩ := v1.tup s
       obtain ⟨x, e, rx⟩ := r.at_ h1 h2
       exact .inr (.inl ⟨a, xs, _, x, rfl, v2.int, SqT.of h3, e, k.imm s p rx⟩))
    | (obtain ⟨j, d, h1, h2, p⟩ := h
       obtain ⟨a, xs, rfl, h3, r⟩ := v1.ftp s
       obtain ⟨x, e, rx⟩ := r.at_ h1 h2
       exact .inr (.inl ⟨a, xs, _, x, rfl, v2.int, h3, e, k.imm s p rx⟩))
    | (obtain ⟨hz, c, e, p⟩ := h
       exact .inr (.inr ⟨_, _, c, v1.str, v2.int, hz, e, k.imm s p (.str _)⟩))⟩
end
/-! ### expressions of operators; tests -/
structure DW (X : Cx) (F : Fr) (ex : Expr) (f : EvT) : Prop where
  ex : ∃ t, PW X ex t ∧ DTT F t f
def eTest (f : EvF) : EvT := fun e P => f e fun r e1 => ∃ b, val e1 r = some (.bl b) ∧ P b e1
def sAnd (f g : EvT) : EvT := fun e P => f e fun b e1 => if b = true then g e1 P else P false e1
def sOr (f g : EvT) : EvT := fun e P => f e fun b e1 => if b = true then P true e1 else g e1 P
def sNot (f : EvT) : EvT := fun e P => f e fun b e1 => P (!b) e1
def eAnd (f g : EvF) : EvF := fun e P => f e fun r e1 => ∃ b, val e1 r = some (.bl b) ∧ if b = true then g e1 P else P (.im (.bl false)) e1
def eOr (f g : EvF) : EvF := fun e P => f e fun r e1 => ∃ b, val e1 r = some (.bl b) ∧ if b = true then P (.im (.bl true)) e1 else g e1 P
def eNot (f : EvF) : EvF := fun e P => f e fun r e1 => ∃ b, val e1 r = some (.bl b) ∧ P (.im (.bl !b)) e1
def eIf (f : EvT) (g h : EvF) : EvF := fun e P => f e fun b e1 => if b = true then g e1 P else h e1 P
def eChain (o o' : DO2) (f1 f2 f3 : EvF) : EvF := fun e P => f1 e fun r1 e1 => f2 e1 fun r2 e2 => ∃ c d, val e2 r1 = some c ∧ val e2 r2 = some d ∧ o c d fun t => ∃ b, t = .imm (.bl b) ∧
  if b = true then f3 e2 fun r3 e3 => ∃ c d, val e3 r2 = some c ∧ val e3 r3 = some d ∧ o' c d fun t => P (.ent t) e3 else P (.im (.bl false)) e2
abbrev EvO := En → (Option Int → En → Prop) → Prop
def pNo : EvO := fun e P => P none e
def pSome (f : EvF) : EvO := fun e P => f e fun r e1 => ∃ i, val e1 r = some (.int i) ∧ P (some i) e1
def cutL {α : Type} (xs : List α) (lo hi : Option Int) : List α := (xs.drop (HT.sIx xs.length 0 lo)).take (HT.sIx xs.length xs.length hi - HT.sIx xs.length 0 lo)
/-- a slice, lo and hi -/
def oSl : D → Option Int → Option Int → (Ent → Prop) → Prop
  | .lst xs, lo, hi, P => ∀ a, P (.own a (.lst (cutL xs lo hi)))
  | .fls xs, lo, hi, P => ∀ a, P (.own a (.lst (cutL xs lo hi)))
  | .tup xs, lo, hi, P => P (.imm (.tup (cutL xs lo hi)))
  | .str z, lo, hi, P => z.length ≤ sizeLine ∧ P (.imm (.str (cutS z lo hi)))
  | _, _, _, _ => False
def eSl (f : EvF) (l h : EvO) : EvF := fun e P => f e fun r e1 => l e1 fun lo e2 => h e2 fun hi e3 => ∃ c, val e3 r = some c ∧ oSl c lo hi fun t => P (.ent t) e3
def DTO (F : Fr) (t : TO) (f : EvO) : Prop := ∀ (σ : L2.St) (I H : Hp) (e : En) (ps : Tm) (P : Option Int → En → Prop) (Q : Option Int → Hp → Prop), ST F σ I H e ps → f e P →
  (∀ b e' I' H', P b e' → ST F σ I' H' e' ps → Q b H') → t σ H Q
structure DO (X : Cx) (F : Fr) (ex : Option Expr) (f : EvO) : Prop where
  ex : ∃ t, PO X ex t ∧ DTO F t f
theorem Reps.cut {K : PySem.W.Frag} {I : Hp} {xs : List V} {ds : List D} {lo hi : Option Int} (r : Reps K I xs ds) : Reps K I (cutV xs lo hi) (cutL ds lo hi) := by
  unfold cutV cutL
  rw [r.len]
  exact (r.drop _).take _
def oFld (f : Str) (C : Addr) : DO1
  | .obj D fs, P => D = C ∧ ∃ d, fs.lookup f = some d ∧ P (.imm d)
  | _, _ => False
theorem Reps.look {K : PySem.W.Frag} {I : Hp} {f : Str} {d : D} : ∀ {fs : List (Str × V)} {es : List (Str × D)}, fs.map (·.1) = es.map (·.1) → Reps K I (fs.map (·.2)) (es.map (·.2)) → es.lookup f = some d → ∃ x, fs.lookup f = some x ∧ Rep K I x d
  | [], [], _, _, h => by cases h
  | [], _ :: _, m, _, _ => by cases m
  | _ :: _, [], m, _, _ => by cases m
  | (g, x) :: fs, (g', e) :: es, m, r, h => by
    rw [List.map_cons, List.map_cons] at m r
    injection m with m1 m2
    cases r with
    | cons r1 r2 =>
      have m1' : g = g' := m1
      subst m1'
      rw [List.lookup_cons] at h ⊢
      cases q : f == g with
      | true =>
        rw [q] at h
        cases h
        exact ⟨x, rfl, r1⟩
      | false =>
        rw [q] at h
        exact Reps.look m2 r2 h
section
variable {X : Cx} {F : Fr} {pos : Pos} {a b c : Expr} {f g h : EvF}
theorem DTT.of {t : TE} (d : DT F t f) : DTT F (fun σ H Q => t σ H fun x H1 => ∃ k, x = .bl k ∧ Q k H1) (eTest f) := fun σ I H e ps P Q s q k => by
  refine d σ I H e ps _ _ s q fun x r e1 I1 H1 h1 s1 => ?_
  obtain ⟨b, v, p⟩ := h1
  exact ⟨b, VwR.bl (s1.vw (qs := []) v), k b e1 I1 H1 p s1.weak⟩
theorem de_op {op : Operator} {o : DO2} (hr : DOR X (binaryOp op) o) (h1 : DE X F a f) (h2 : DE X F b g) (hK : F.K = X.K := by first | rfl | assumption) : DE X F (.BinOp a op b pos) (eOp o f g) := by
  obtain ⟨r, p, d⟩ := hr
  obtain ⟨t1, p1, d1⟩ := h1
  obtain ⟨t2, p2, d2⟩ := h2
  exact ⟨_, pe_op p p1 p2, DT.op (by rw [hK]; exact d) d1 d2⟩
theorem de_cmp {op : CmpOp} {o : DO2} (hr : DOR X (compareOp op) o) (h1 : DE X F a f) (h2 : DE X F b g) (hm : behindInMarks op b = false) (hK : F.K = X.K := by first | rfl | assumption) : DE X F (.Compare a [op] [b] pos) (eOp o f g) := by
  obtain ⟨r, p, d⟩ := hr
  obtain ⟨t1, p1, d1⟩ := h1
  obtain ⟨t2, p2, d2⟩ := h2
  exact ⟨_, pe_cmpR p p1 p2 hm, DT.op (by rw [hK]; exact d) d1 d2⟩
theorem dt_cmp {op : CmpOp} {o : DO2} (hr : DOR X (compareOp op) o) (h1 : DE X F a f) (h2 : DE X F b g) (hm : behindInMarks op b = false) (hK : F.K = X.K := by first | rfl | assumption) : DTe X F (.Compare a [op] [b] pos) (eTest (eOp o f g)) := by
  obtain ⟨r, p, d⟩ := hr
  obtain ⟨t1, p1, d1⟩ := h1
  obtain ⟨t2, p2, d2⟩ := h2
  exact ⟨_, pt_cmpR p p1 p2 hm, DTT.of (DT.op (by rw [hK]; exact d) d1 d2)⟩
theorem dt_val (h1 : DE X F a f) (he : ∀ whole, isTrue a X.env whole = (do let v ← whole; standAt a.pos; holding [v] (truthy v)) := by intro _; rfl) : DTe X F a (eTest f) := by
  obtain ⟨t1, p1, d1⟩ := h1
  exact ⟨_, pt_val p1 he, DTT.of d1⟩
theorem chainT {r r' : R2} {o o' : DO2} {ta tb tc : TE} (hr : DOp F.K r o) (hr' : DOp F.K r' o') (d1 : DT F ta f) (d2 : DT F tb g) (d3 : DT F tc h) : DT F (tChain r r' ta tb tc) (eChain o o' f g h) := fun σ I H e ps P Q s q k => by
  refine d1 σ I H e ps _ _ s q fun x r1 e1 I1 H1 h1 s1 => ?_
  refine d2 σ I1 H1 e1 _ _ _ s1 h1 fun y r2 e2 I2 H2 h2 s2 => ?_
  obtain ⟨c, d, v1, v2, q3⟩ := h2
  have s2' := s2
  rw [List.append_assoc] at s2'
  refine hr I2 H2 x y c d _ _ s2.sub (s2'.vw v1) (s2.vw (qs := []) v2) q3 fun z t I3 H3 p3 g3 r3 n3 => ?_
  obtain ⟨b, rfl, q4⟩ := p3
  obtain rfl : z = .bl b := by cases (show Rep F.K I3 z (.bl b) from r3); rfl
  refine ⟨b, rfl, ?_⟩
  have s3 := s2.grow g3
  cases b with
  | false => exact k _ _ e2 I3 H3 q4 (s3.weak.weak.pushI (.bl false))
  | true =>
    refine d3 σ I3 H3 e2 _ _ _ s3 q4 fun w r4 e4 I4 H4 h4 s4 => ?_
    obtain ⟨c', d', v3, v4, q5⟩ := h4
    have s4' := s4
    rw [List.append_assoc] at s4'
    exact hr' I4 H4 y w c' d' _ _ s4.sub (s4'.vw v3) (s4.vw (qs := []) v4) q5 fun z t I5 H5 p5 g5 r5 n5 => k z _ e4 I5 H5 p5 (s4.weak.weak.weak.pushG g5 r5 n5)
theorem de_chain {op op' : CmpOp} {o o' : DO2} (hr : DOR X (compareOp op) o) (hr' : DOR X (compareOp op') o') (h1 : DE X F a f) (h2 : DE X F b g) (h3 : DE X F c h) (hm : lastMarks [op, op'] [b, c] = false := by with_unfolding_all rfl) (hK : F.K = X.K := by first | rfl | assumption) :
    DE X F (.Compare a [op, op'] [b, c] pos) (eChain o o' f g h) := by
  obtain ⟨r, p, d⟩ := hr
  obtain ⟨r', p', d'⟩ := hr'
  obtain ⟨t1, p1, d1⟩ := h1
  obtain ⟨t2, p2, d2⟩ := h2
  obtain ⟨t3, p3, d3⟩ := h3
  exact ⟨_, pe_chain p p' p1 p2 p3 hm, chainT (by rw [hK]; exact d) (by rw [hK]; exact d') d1 d2 d3⟩
theorem dt_chain {op op' : CmpOp} {o o' : DO2} (hr : DOR X (compareOp op) o) (hr' : DOR X (compareOp op') o') (h1 : DE X F a f) (h2 : DE X F b g) (h3 : DE X F c h) (hm : lastMarks [op, op'] [b, c] = false := by with_unfolding_all rfl) (hK : F.K = X.K := by first | rfl | assumption) :
    DTe X F (.Compare a [op, op'] [b, c] pos) (eTest (eChain o o' f g h)) := by
  obtain ⟨r, p, d⟩ := hr
  obtain ⟨r', p', d'⟩ := hr'
  obtain ⟨t1, p1, d1⟩ := h1
  obtain ⟨t2, p2, d2⟩ := h2
  obtain ⟨t3, p3, d3⟩ := h3
  exact ⟨_, pt_chain p p' p1 p2 p3 hm, DTT.of (chainT (by rw [hK]; exact d) (by rw [hK]; exact d') d1 d2 d3)⟩
variable {tA tB : EvT} {rest : List Expr}
theorem dw_and1 (ha : DTe X F a tA) : DW X F (.BoolOp .And [a] pos) tA := by
  obtain ⟨t, p, d⟩ := ha
  exact ⟨t, pw_and1 p, d⟩
theorem dw_or1 (ha : DTe X F a tA) : DW X F (.BoolOp .Or [a] pos) tA := by
  obtain ⟨t, p, d⟩ := ha
  exact ⟨t, pw_or1 p, d⟩
theorem dw_and (ha : DTe X F a tA) (hb : DW X F (.BoolOp .And (b :: rest) pos) tB) : DW X F (.BoolOp .And (a :: b :: rest) pos) (sAnd tA tB) := by
  obtain ⟨t, p, d⟩ := ha
  obtain ⟨u, q, d'⟩ := hb
  refine ⟨_, pw_and p q, fun σ I H e ps P Q s h k => ?_⟩
  refine d σ I H e ps _ _ s h fun b e1 I1 H1 h1 s1 => ?_
  cases b with
  | true => exact d' σ I1 H1 e1 ps _ _ s1 h1 k
  | false => exact k false e1 I1 H1 h1 s1
theorem dw_or (ha : DTe X F a tA) (hb : DW X F (.BoolOp .Or (b :: rest) pos) tB) : DW X F (.BoolOp .Or (a :: b :: rest) pos) (sOr tA tB) := by
  obtain ⟨t, p, d⟩ := ha
  obtain ⟨u, q, d'⟩ := hb
  refine ⟨_, pw_or p q, fun σ I H e ps P Q s h k => ?_⟩
  refine d σ I H e ps _ _ s h fun b e1 I1 H1 h1 s1 => ?_
  cases b with
  | true => exact k true e1 I1 H1 h1 s1
  | false => exact d' σ I1 H1 e1 ps _ _ s1 h1 k
theorem dt_w (h : DW X F a tA) : DTe X F a tA := by
  obtain ⟨t, p, d⟩ := h
  exact ⟨t, p.pt, d⟩
theorem dt_not (h : DTe X F a tA) : DTe X F (.UnaryOp .Not a pos) (sNot tA) := by
  obtain ⟨t, p, d⟩ := h
  refine ⟨_, pt_not p, fun σ I H e ps P Q s h k => ?_⟩
  exact d σ I H e ps _ _ s h fun b e1 I1 H1 h1 s1 => k (!b) e1 I1 H1 h1 s1
theorem de_one {op} (h : DE X F a f) : DE X F (.BoolOp op [a] pos) f := by
  obtain ⟨t, p, d⟩ := h
  exact ⟨t, pe_one p, d⟩
theorem de_and (ha : DE X F a f) (hb : DE X F (.BoolOp .And (b :: rest) pos) g) : DE X F (.BoolOp .And (a :: b :: rest) pos) (eAnd f g) := by
  obtain ⟨t, p, d⟩ := ha
  obtain ⟨u, q, d'⟩ := hb
  refine ⟨_, pe_and p q, fun σ I H e ps P Q s h k => ?_⟩
  refine d σ I H e ps _ _ s h fun x r e1 I1 H1 h1 s1 => ?_
  obtain ⟨b, v, h2⟩ := h1
  refine ⟨b, VwR.bl (s1.vw (qs := []) v), ?_⟩
  cases b with
  | true => exact d' σ I1 H1 e1 ps _ _ s1.weak h2 k
  | false => exact k _ _ e1 I1 H1 h2 (s1.weak.pushI (.bl false))
theorem de_or (ha : DE X F a f) (hb : DE X F (.BoolOp .Or (b :: rest) pos) g) : DE X F (.BoolOp .Or (a :: b :: rest) pos) (eOr f g) := by
  obtain ⟨t, p, d⟩ := ha
  obtain ⟨u, q, d'⟩ := hb
  refine ⟨_, pe_or p q, fun σ I H e ps P Q s h k => ?_⟩
  refine d σ I H e ps _ _ s h fun x r e1 I1 H1 h1 s1 => ?_
  obtain ⟨b, v, h2⟩ := h1
  refine ⟨b, VwR.bl (s1.vw (qs := []) v), ?_⟩
  cases b with
  | true => exact k _ _ e1 I1 H1 h2 (s1.weak.pushI (.bl true))
  | false => exact d' σ I1 H1 e1 ps _ _ s1.weak h2 k
theorem de_not (ha : DE X F a f) : DE X F (.UnaryOp .Not a pos) (eNot f) := by
  obtain ⟨t, p, d⟩ := ha
  refine ⟨_, pe_not p, fun σ I H e ps P Q s h k => ?_⟩
  refine d σ I H e ps _ _ s h fun x r e1 I1 H1 h1 s1 => ?_
  obtain ⟨b, v, h2⟩ := h1
  exact ⟨b, VwR.bl (s1.vw (qs := []) v), k _ _ e1 I1 H1 h2 (s1.weak.pushI (.bl _))⟩
theorem de_if {cd : Expr} (hc : DTe X F cd tA) (ha : DE X F a f) (hb : DE X F b g) : DE X F (.IfExp cd a b pos) (eIf tA f g) := by
  obtain ⟨tc, pc, dc⟩ := hc
  obtain ⟨t, p, d⟩ := ha
  obtain ⟨u, q, d'⟩ := hb
  refine ⟨_, pe_ifExp pc p q, fun σ I H e ps P Q s h k => ?_⟩
  refine dc σ I H e ps _ _ s h fun b e1 I1 H1 h1 s1 => ?_
  cases b with
  | true => exact d σ I1 H1 e1 ps _ _ s1 h1 k
  | false => exact d' σ I1 H1 e1 ps _ _ s1 h1 k
theorem de_ix {o : DO2} (hr : DIx X o) (h1 : DE X F a f) (h2 : DE X F b g) (hs : PlainIx b := by exact (fun _ _ => rfl)) (hK : F.K = X.K := by first | rfl | assumption) : DE X F (.Subscript a b pos) (eOp o f g) := by
  obtain ⟨r, p, d⟩ := hr
  obtain ⟨t1, p1, d1⟩ := h1
  obtain ⟨t2, p2, d2⟩ := h2
  exact ⟨_, pe_ix p p1 p2 hs, DT.op (by rw [hK]; exact d) d1 d2⟩
theorem dx_no : DO X F none pNo := ⟨_, po_none, fun σ I H e ps P Q s h k => k none e I H h s⟩
theorem dx_some (h : DE X F a f) : DO X F (some a) (pSome f) := by
  obtain ⟨t, p, d⟩ := h
  refine ⟨_, po_some p, fun σ I H e ps P Q s h k => ?_⟩
  refine d σ I H e ps _ _ s h fun x r e1 I1 H1 h1 s1 => ?_
  obtain ⟨i, v, h2⟩ := h1
  exact ⟨i, VwR.int (s1.vw (qs := []) v), k _ e1 I1 H1 h2 s1.weak⟩
theorem de_sl {lo hi : Option Expr} {l u : EvO} {p2 : Pos} (h1 : DE X F a f) (hl : DO X F lo l) (hu : DO X F hi u) (hK : F.K = X.K := by first | rfl | assumption) : DE X F (.Subscript a (.Slice lo hi none p2) pos) (eSl f l u) := by
  obtain ⟨t1, p1, d1⟩ := h1
  obtain ⟨tl, pl, dl⟩ := hl
  obtain ⟨tu, pu, du⟩ := hu
  refine ⟨_, pe_slice (sl_list.or (sl_tupA.or sl_str)) p1 pl pu, fun σ I H e ps P Q s h k => ?_⟩
  refine d1 σ I H e ps _ _ s h fun x r e1 I1 H1 h1 s1 => ?_
  refine dl σ I1 H1 e1 _ _ _ s1 h1 fun lo' e2 I2 H2 h2 s2 => ?_
  refine du σ I2 H2 e2 _ _ _ s2 h2 fun hi' e3 I3 H3 h3 s3 => ?_
  obtain ⟨c, v, q⟩ := h3
  have vw := s3.vw (qs := []) v
  have kk : Lands F.K I3 H3 (fun t => P (.ent t) e3) Q := fun z t I4 H4 p4 g4 r4 n4 => k z _ e3 I4 H4 p4 (s3.weak.pushG g4 r4 n4)
  cases c with
  | lst ds =>
    obtain ⟨a', xs, rfl, q1, rr⟩ := vw.lst s3.sub
    exact .inl ⟨a', xs, rfl, SqL.of q1, kk.lst s3.sub q rr.cut⟩
  | fls ds =>
    obtain ⟨a', xs, rfl, q1, rr⟩ := vw.fls s3.sub
    exact .inl ⟨a', xs, rfl, by rw [← hK]; exact q1, kk.lst s3.sub q rr.cut⟩
  | tup ds =>
    obtain ⟨a', xs, rfl, q1, rr⟩ := vw.tup s3.sub
    refine .inr (.inl ⟨a', xs, rfl, SqT.of q1, fun hw => ?_, fun _ => kk.tup s3.sub q rr.cut⟩)
    have e1 : cutL ds lo' hi' = ds := by
      unfold cutL
      rw [← rr.len, hw.1, hw.2]
      simp [rr.len]
    rw [show oSl (.tup ds) lo' hi' (fun t => P (.ent t) e3) = P (.im (.tup (cutL ds lo' hi'))) e3 from rfl, e1] at q
    rcases vw with vw | ⟨_, _, vw⟩
    · exact kk.imm s3.sub q vw
    · exact False.elim vw
  | str z => exact .inr (.inr ⟨z, vw.str, q.1, kk.imm s3.sub q.2 (.str _)⟩)
  | _ => exact False.elim q
theorem de_fld {n : Str} {C : Addr} (h1 : DE X F a f) (hc : Cls X.K C) (hn : NoAttr X.K C n) (hb : attributeBase a n X.env (eval a X.env) = eval a X.env := by rfl) : DE X F (.Attribute a n pos) (eUn (oFld n C) f) := by
  obtain ⟨t1, p1, d1⟩ := h1
  refine ⟨_, pe_fld p1 hb, fun σ I H e ps P Q s h k => ?_⟩
  refine d1 σ I H e ps _ _ s h fun x r e1 I1 H1 h1 s1 => ?_
  obtain ⟨c, v, q⟩ := h1
  have vw := s1.vw (qs := []) v
  cases c with
  | obj C' fs =>
    obtain ⟨rfl, d, hl, p⟩ := q
    obtain ⟨o, dx, gs, rfl, ho, m, rr⟩ := vw.obj s1.sub
    obtain ⟨y, hy, ry⟩ := Reps.look m rr hl
    exact ⟨o, _, dx, gs, y, rfl, ho, hc, hn, hy, k y _ e1 I1 H1 p (s1.weak.pushI ry)⟩
  | _ => exact False.elim q
end
/-! ### promises over data; calls -/
abbrev Con := List Ent → (Ent → List Ent → Prop) → (Addr → D → List Ent → Prop) → Prop
def spD (K : PySem.W.Frag) (con : Con) : Sp := fun vs H Q E => ∃ (I : Hp) (es : List Ent) (P : Ent → List Ent → Prop) (PX : Addr → D → List Ent → Prop), Sub I H ∧ EnvR K I H (vs.map some) (es.map some) ∧ con es P PX ∧
  (∀ r es' x I' H', P r es' → Sub I' H' → EnvR K I' H' (vs.map some ++ [some x]) (es'.map some ++ [some r]) → Step (es.map some) I H (es'.map some ++ [some r]) I' H' → Q x H') ∧
  (∀ C d es' x dd I' H', PX C d es' → Sub I' H' → EnvR K I' H' (vs.map some) (es'.map some) → Step (es.map some) I H (es'.map some) I' H' → Rep K I' x d → H' dd = some (.xd [(("value" : Str), x)]) → E (.ref C) (some dd) H')
inductive Ag where
  | v (d : D) | r (i : Nat)
abbrev Ag.rv : Ag → Rv
  | .v d => .im d
  | .r i => .slot i
abbrev EvG := En → (List Ag → En → Prop) → Prop
def DTG (F : Fr) (t : TA) (f : EvG) : Prop := ∀ (σ : L2.St) (I H : Hp) (e : En) (ps : Tm) (P : List Ag → En → Prop) (Q : List V → Hp → Prop), ST F σ I H e ps → f e P →
  (∀ xs as e' I' H', P as e' → xs.length = as.length → ST F σ I' H' e' (ps ++ xs.zip (as.map Ag.rv)) → Q xs H') → t σ H Q
structure DG (X : Cx) (F : Fr) (es : List Expr) (f : EvG) : Prop where
  ex : ∃ t, PA X es t ∧ DTG F t f
def gaNil : EvG := fun e P => P [] e
def gaV (f : EvF) (g : EvG) : EvG := fun e P => f e fun r e1 => ∃ d e2, frz e1 r = some (d, e2) ∧ g e2 fun as e3 => P (.v d :: as) e3
def gaR (i : Nat) (g : EvG) : EvG := fun e P => (∃ t, e[i]? = some (some t)) ∧ g e fun as e1 => P (.r i :: as) e1
section
variable {X : Cx} {F : Fr}
theorem dg_nil : DG X F [] gaNil := ⟨_, pa_nil, fun σ I H e ps P Q s h k => k [] [] e I H h rfl (by simpa using s)⟩
theorem dg_v {ex : Expr} {es : List Expr} {f : EvF} {g : EvG} (h1 : DE X F ex f) (h2 : DG X F es g) (hs : starEach (ex :: es) X.env = (false, eval ex X.env) :: starEach es X.env := by rfl) : DG X F (ex :: es) (gaV f g) := by
  obtain ⟨t1, p1, d1⟩ := h1
  obtain ⟨t2, p2, d2⟩ := h2
  refine ⟨_, pa_cons p1 p2 hs, fun σ I H e ps P Q s h k => ?_⟩
  refine d1 σ I H e ps _ _ s h fun x r e1 I1 H1 h1 s1 => ?_
  obtain ⟨d, e2, hf, h2⟩ := h1
  obtain ⟨I2, l2, s2⟩ := s1.frz hf
  refine d2 σ I2 H1 e2 _ _ _ s2 h2 fun xs as e3 I3 H3 h3 hl s3 => ?_
  refine k (x :: xs) (.v d :: as) e3 I3 H3 h3 (by simp [hl]) ?_
  rw [List.map_cons, List.zip_cons_cons]
  rw [List.append_assoc] at s3
  exact s3
theorem dg_r {i : Nat} {x : Str} {pos : Pos} {es : List Expr} {g : EvG} (hN : X.N[i]? = some x) (hv : Vis X.env.scope x) (h2 : DG X F es g) (hd : (x == ("__debug__" : Str)) = false := by decide) (hcd : (x == ("__classdict__" : Str)) = false := by decide)
    (hs : starEach (.Name x pos :: es) X.env = (false, eval (.Name x pos) X.env) :: starEach es X.env := by rfl) : DG X F (.Name x pos :: es) (gaR i g) := by
  obtain ⟨t2, p2, d2⟩ := h2
  refine ⟨_, pa_cons (pe_var hN hv hd hcd) p2 hs, fun σ I H e ps P Q s h k => ?_⟩
  obtain ⟨⟨t, ht⟩, h⟩ := h
  obtain ⟨y, e1, e2⟩ := s.slot ht
  refine ⟨y, e1, ?_⟩
  refine d2 σ I H e _ _ _ (s.pushS e1 ht) h fun xs as e3 I3 H3 h3 hl s3 => ?_
  refine k (y :: xs) (.r i :: as) e3 I3 H3 h3 (by simp [hl]) ?_
  rw [List.map_cons, List.zip_cons_cons]
  rw [List.append_assoc] at s3
  exact s3
end
/-- what is handed over -/
def entOf (e : En) : Ag → Option Ent
  | .v d => some (.imm d)
  | .r i => match e[i]? with
    | some (some t) => some t
    | _ => none
def entsOf (e : En) : List Ag → Option (List Ent)
  | [] => some []
  | a :: as => match entOf e a with
    | some t => match entsOf e as with
      | some ts => some (t :: ts)
      | none => none
    | none => none
def refsOf : List Ag → List Nat
  | [] => []
  | .v _ :: as => refsOf as
  | .r i :: as => i :: refsOf as
def oneEach : List Nat → Bool
  | [] => true
  | i :: is => !is.contains i && oneEach is
def backTo' (e : En) : List Ag → List Ent → Option En
  | [], [] => some e
  | .v _ :: as, _ :: ts => backTo' e as ts
  | .r i :: as, t :: ts => (backTo' e as ts).map fun e1 => e1.set i (some t)
  | _, _ => none
theorem entsOf_len {e : En} : ∀ {as : List Ag} {ts : List Ent}, entsOf e as = some ts → ts.length = as.length
  | [], ts, h => by cases h; rfl
  | a :: as, ts, h => by
    unfold entsOf at h
    split at h
    · split at h
      · rename_i q
        cases h
        simp [entsOf_len q]
      · cases h
    · cases h
theorem entsOf_at {e : En} : ∀ {as : List Ag} {ts : List Ent} {k : Nat} {t : Ent}, entsOf e as = some ts → ts[k]? = some t → ∃ a, as[k]? = some a ∧ entOf e a = some t
  | [], ts, k, t, h, q => by cases h; simp at q
  | a :: as, ts, k, t, h, q => by
    unfold entsOf at h
    split at h
    · rename_i t0 h0
      split at h
      · rename_i ts' h1
        cases h
        cases k with
        | zero => simp at q; subst q; exact ⟨a, rfl, h0⟩
        | succ k =>
          obtain ⟨b, z1, z2⟩ := entsOf_at (k := k) h1 (by simpa using q)
          exact ⟨b, by simpa using z1, z2⟩
      · cases h
    · cases h
theorem mem_refs : ∀ {as : List Ag} {k i : Nat}, as[k]? = some (.r i) → i ∈ refsOf as
  | [], k, i, h => by simp at h
  | .v _ :: as, 0, i, h => by simp at h
  | .v _ :: as, k + 1, i, h => mem_refs (as := as) (k := k) (by simpa using h)
  | .r j :: as, 0, i, h => by
    simp at h
    subst h
    exact List.mem_cons_self
  | .r j :: as, k + 1, i, h => List.mem_cons_of_mem _ (mem_refs (as := as) (k := k) (by simpa using h))
theorem refs_one : ∀ {as : List Ag} {k l i : Nat}, oneEach (refsOf as) = true → as[k]? = some (.r i) → as[l]? = some (.r i) → k = l
  | [], k, l, i, _, h, _ => by simp at h
  | .v _ :: as, 0, l, i, _, h, _ => by simp at h
  | .v _ :: as, k + 1, 0, i, _, _, h => by simp at h
  | .v _ :: as, k + 1, l + 1, i, o, h, h' => by
    have z := refs_one (as := as) (k := k) (l := l) o (by simpa using h) (by simpa using h')
    omega
  | .r j :: as, 0, 0, i, _, _, _ => rfl
  | .r j :: as, 0, l + 1, i, o, h, h' => by
    simp at h
    subst h
    unfold refsOf oneEach at o
    rw [Bool.and_eq_true] at o
    have m := mem_refs (as := as) (k := l) (by simpa using h')
    rw [List.contains_iff_mem.mpr m] at o
    exact absurd o.1 (by decide)
  | .r j :: as, k + 1, 0, i, o, h', h => by
    simp at h
    subst h
    unfold refsOf oneEach at o
    rw [Bool.and_eq_true] at o
    have m := mem_refs (as := as) (k := k) (by simpa using h')
    rw [List.contains_iff_mem.mpr m] at o
    exact absurd o.1 (by decide)
  | .r j :: as, k + 1, l + 1, i, o, h, h' => by
    unfold refsOf oneEach at o
    rw [Bool.and_eq_true] at o
    have z := refs_one (as := as) (k := k) (l := l) o.2 (by simpa using h) (by simpa using h')
    omega
/-- what stands in a slot behind a call -/
theorem backTo_at : ∀ {e e2 : En} {as : List Ag} {ts : List Ent} {j : Nat} {t : Ent}, backTo' e as ts = some e2 → oneEach (refsOf as) = true → e2[j]? = some (some t) → (e[j]? = some (some t) ∧ j ∉ refsOf as) ∨ ∃ k : Nat, as[k]? = some (Ag.r j) ∧ ts[k]? = some t
  | e, e2, [], [], j, t, h, _, q => by cases h; exact .inl ⟨q, by simp [refsOf]⟩
  | e, e2, [], _ :: _, j, t, h, _, q => by simp [backTo'] at h
  | e, e2, .v _ :: as, [], j, t, h, _, q => by simp [backTo'] at h
  | e, e2, .r _ :: as, [], j, t, h, _, q => by simp [backTo'] at h
  | e, e2, .v _ :: as, u :: ts, j, t, h, o, q => by
    rcases backTo_at (as := as) (ts := ts) h o q with z | ⟨k, z1, z2⟩
    · exact .inl z
    · exact .inr ⟨k + 1, by simpa using z1, by simpa using z2⟩
  | e, e2, .r i :: as, u :: ts, j, t, h, o, q => by
    unfold backTo' at h
    cases hb : backTo' e as ts with
    | none => rw [hb] at h; cases h
    | some e1 =>
      rw [hb] at h
      cases h
      unfold refsOf oneEach at o
      rw [Bool.and_eq_true] at o
      by_cases hj : j = i
      · subst hj
        have hl := (List.getElem?_eq_some_iff.mp q).1
        rw [List.length_set] at hl
        rw [List.getElem?_set_self hl] at q
        cases q
        exact .inr ⟨0, rfl, rfl⟩
      · rw [List.getElem?_set_ne (Ne.symm hj)] at q
        rcases backTo_at (as := as) (ts := ts) hb o.2 q with ⟨z, n⟩ | ⟨k, z1, z2⟩
        · refine .inl ⟨z, ?_⟩
          unfold refsOf
          rw [List.mem_cons]
          rintro (w | w)
          · exact hj w
          · exact n w
        · exact .inr ⟨k + 1, by simpa using z1, by simpa using z2⟩
theorem backTo_len : ∀ {e e2 : En} {as : List Ag} {ts : List Ent}, backTo' e as ts = some e2 → e2.length = e.length
  | e, e2, [], [], h => by cases h; rfl
  | e, e2, [], _ :: _, h => by simp [backTo'] at h
  | e, e2, .v _ :: as, [], h => by simp [backTo'] at h
  | e, e2, .r _ :: as, [], h => by simp [backTo'] at h
  | e, e2, .v _ :: as, _ :: ts, h => backTo_len (as := as) (ts := ts) h
  | e, e2, .r i :: as, u :: ts, h => by
    unfold backTo' at h
    cases hb : backTo' e as ts with
    | none => rw [hb] at h; cases h
    | some e1 =>
      rw [hb] at h
      cases h
      rw [List.length_set, backTo_len hb]
theorem backTo_alive : ∀ {e e2 : En} {as : List Ag} {ts : List Ent} {j : Nat}, backTo' e as ts = some e2 → (∃ t, e[j]? = some (some t)) → ∃ t, e2[j]? = some (some t)
  | e, e2, [], [], j, h, q => by cases h; exact q
  | e, e2, [], _ :: _, j, h, q => by simp [backTo'] at h
  | e, e2, .v _ :: as, [], j, h, q => by simp [backTo'] at h
  | e, e2, .r _ :: as, [], j, h, q => by simp [backTo'] at h
  | e, e2, .v _ :: as, _ :: ts, j, h, q => backTo_alive (as := as) (ts := ts) h q
  | e, e2, .r i :: as, u :: ts, j, h, q => by
    unfold backTo' at h
    cases hb : backTo' e as ts with
    | none => rw [hb] at h; cases h
    | some e1 =>
      rw [hb] at h
      cases h
      exact alive_set (backTo_alive hb q)
section
variable {F : Fr} {σ : L2.St} {I H I' H' : Hp} {e e2 : En} {ps : Tm} {xs : List V} {as : List Ag} {es es' : List Ent}
theorem zip_at {α β : Type} : ∀ {xs : List α} {ys : List β} {k : Nat} {x : α} {y : β}, xs[k]? = some x → ys[k]? = some y → (xs.zip ys)[k]? = some (x, y)
  | [], _, k, x, y, h, _ => by simp at h
  | _ :: _, [], k, x, y, _, h => by simp at h
  | _ :: _, _ :: _, 0, x, y, h, h' => by simp at h h'; subst h; subst h'; rfl
  | _ :: xs, _ :: ys, k + 1, x, y, h, h' => by
    have := zip_at (xs := xs) (ys := ys) (k := k) (x := x) (y := y) (by simpa using h) (by simpa using h')
    simpa using this
theorem ST.temp? {k : Nat} {x : V} {r : Rv} {qs : Tm} (s : ST F σ I H e (ps ++ qs)) (h : qs[k]? = some (x, r)) : ∃ ps' qs', ps ++ qs = ps' ++ (x, r) :: qs' := by
  obtain ⟨hk, e1⟩ := List.getElem?_eq_some_iff.mp h
  refine ⟨ps ++ qs.take k, qs.drop (k + 1), ?_⟩
  rw [List.append_assoc, ← e1, ← List.drop_eq_getElem_cons hk, List.take_append_drop]
/-- what a callee gets -/
theorem ST.give (s : ST F σ I H e (ps ++ xs.zip (as.map Ag.rv))) (hl : xs.length = as.length) (h : entsOf e as = some es) (o : oneEach (refsOf as) = true) : EnvR F.K I H (xs.map some) (es.map some) where
  tab := s.env.tab
  len := by rw [List.length_map, List.length_map, entsOf_len h, hl]
  at_ := fun k t q => by
    rw [List.getElem?_map] at q
    cases z : es[k]? with
    | none => rw [z] at q; cases q
    | some t' =>
      rw [z] at q
      cases q
      obtain ⟨a, ha, hb⟩ := entsOf_at h z
      have hk : k < xs.length := by rw [hl]; exact (List.getElem?_eq_some_iff.mp ha).1
      refine ⟨xs[k], by rw [List.getElem?_map, List.getElem?_eq_getElem hk]; rfl, ?_⟩
      have hz := zip_at (List.getElem?_eq_getElem hk) (show (as.map Ag.rv)[k]? = some a.rv by rw [List.getElem?_map, ha]; rfl)
      obtain ⟨ps', qs', e1⟩ := s.temp? hz
      rw [e1] at s
      cases a with
      | v d => cases hb; exact s.temp
      | r i =>
        have al := (s.ali (xs[k], .slot i) (by simp) i rfl).1
        unfold entOf at hb
        dsimp only at hb
        split at hb
        · rename_i t0 h0
          cases hb
          obtain ⟨y, q1, q2⟩ := s.slot h0
          rw [al] at q1
          cases q1
          exact q2
        · cases hb
  sep := fun k l t u a q1 q2 m1 m2 => by
    rw [List.getElem?_map] at q1 q2
    cases z1 : es[k]? with
    | none => rw [z1] at q1; cases q1
    | some t' =>
    cases z2 : es[l]? with
    | none => rw [z2] at q2; cases q2
    | some u' =>
    rw [z1] at q1
    rw [z2] at q2
    cases q1
    cases q2
    obtain ⟨b, b1, b2⟩ := entsOf_at h z1
    obtain ⟨c, c1, c2⟩ := entsOf_at h z2
    cases b with
    | v d => cases b2; simp at m1
    | r i =>
    cases c with
    | v d => cases c2; simp at m2
    | r j =>
      unfold entOf at b2 c2
      dsimp only at b2 c2
      split at b2
      · rename_i t0 h0
        cases b2
        split at c2
        · rename_i u0 h1
          cases c2
          have hi := (List.getElem?_eq_some_iff.mp h0).1
          have hj := (List.getElem?_eq_some_iff.mp h1).1
          have ij := s.env.sep i j t u a (by rw [List.getElem?_append_left hi]; exact h0) (by rw [List.getElem?_append_left hj]; exact h1) m1 m2
          subst ij
          exact refs_one o b1 c1
        · cases c2
      · cases b2
end
section
variable {F : Fr} {σ : L2.St} {I H I' H' : Hp} {e e2 : En} {ps : Tm} {xs : List V} {as : List Ag} {es es' : List Ent} {c : En}
theorem given_in (h : entsOf e as = some es) {a : Addr} (ha : a ∈ adr (es.map some)) : ∃ i t, i ∈ refsOf as ∧ e[i]? = some (some t) ∧ a ∈ t.adr := by
  obtain ⟨k, t, q, m⟩ := mem_adr.mp ha
  rw [List.getElem?_map] at q
  cases z : es[k]? with
  | none => rw [z] at q; cases q
  | some t' =>
    rw [z] at q
    cases q
    obtain ⟨b, b1, b2⟩ := entsOf_at h z
    cases b with
    | v d => cases b2; simp at m
    | r i =>
      unfold entOf at b2
      dsimp only at b2
      split at b2
      · rename_i t0 h0
        cases b2
        exact ⟨i, t, mem_refs b1, h0, m⟩
      · cases b2
theorem EntR.kept {K : PySem.W.Frag} {x : V} {t : Ent} (r : EntR K I H x t) (st : Step (es.map some) I H c I' H') (n : ∀ a ∈ t.adr, a ∉ adr (es.map some)) : EntR K I' H' x t :=
  r.mono st.imm fun a ha => by
    refine ⟨?_, fun o q => st.keep a o q (n a ha) ((r.has ha).1.elim fun o' z => by have := q.symm.trans z.1; cases this; exact z.2.2)⟩
    obtain ⟨⟨o, q1, qt⟩, q2⟩ := r.has ha
    cases z : I' a with
    | none => rfl
    | some u =>
      rcases st.new a u z with w | w | w
      · rw [q2] at w; cases w
      · exact absurd w (n a ha)
      · exact absurd (w o q1) qt.1
/-- behind a call -/
theorem ST.took (s : ST F σ I H e (ps ++ xs.zip (as.map Ag.rv))) (hl : xs.length = as.length) (h : entsOf e as = some es) (o : oneEach (refsOf as) = true) (hb : backTo' e as es' = some e2) (sub : Sub I' H')
    (env : EnvR F.K I' H' (xs.map some) (es'.map some)) (st : Step (es.map some) I H c I' H') (hc : ∀ a, a ∈ adr (es'.map some) → a ∈ adr c) : ST F σ I' H' e2 ps := by
  have s0 : ST F σ I H e ps := s.weak
  have l2 := backTo_len hb
  -- what is not handed over stays
  have n1 : ∀ j u a, e[j]? = some (some u) → j ∉ refsOf as → a ∈ u.adr → a ∉ adr (es.map some) := fun j u a hj nj ha z => by
    obtain ⟨i, t, hi, ht, m⟩ := given_in h z
    have li := (List.getElem?_eq_some_iff.mp ht).1
    have lj := (List.getElem?_eq_some_iff.mp hj).1
    have ij := s0.env.sep i j t u a (by rw [List.getElem?_append_left li]; exact ht) (by rw [List.getElem?_append_left lj]; exact hj) m ha
    exact nj (ij ▸ hi)
  have n2 : ∀ j u a, e.length ≤ j → (e ++ tn ps)[j]? = some (some u) → a ∈ u.adr → a ∉ adr (es.map some) := fun j u a lj hj ha z => by
    obtain ⟨i, t, hi, ht, m⟩ := given_in h z
    have li := (List.getElem?_eq_some_iff.mp ht).1
    have ij := s0.env.sep i j t u a (by rw [List.getElem?_append_left li]; exact ht) hj m ha
    omega
  have at2 : ∀ j u, (e2 ++ tn ps)[j]? = some (some u) → (∃ y, (σ ++ tv ps)[j]? = some (some y) ∧ EntR F.K I' H' y u) ∧ ((∃ k : Nat, as[k]? = some (Ag.r j) ∧ es'[k]? = some u) ∨ ((e ++ tn ps)[j]? = some (some u) ∧ ∀ a ∈ u.adr, a ∉ adr (es.map some))) := fun j u q => by
    by_cases lj : j < e2.length
    · rw [List.getElem?_append_left lj] at q
      have lj' : j < σ.length := by rw [← s0.len, ← l2]; exact lj
      rcases backTo_at hb o q with ⟨z, nz⟩ | ⟨k, z1, z2⟩
      · obtain ⟨y, y1, y2⟩ := s0.slot z
        refine ⟨⟨y, by rw [List.getElem?_append_left lj']; exact y1, y2.kept st fun a ha => n1 j u a z nz ha⟩, .inr ⟨by rw [List.getElem?_append_left (by rw [← l2]; exact lj)]; exact z, fun a ha => n1 j u a z nz ha⟩⟩
      · have hk : k < xs.length := by rw [hl]; exact (List.getElem?_eq_some_iff.mp z1).1
        obtain ⟨y, y1, y2⟩ := env.at_ k u (by rw [List.getElem?_map, z2]; rfl)
        rw [List.getElem?_map, List.getElem?_eq_getElem hk] at y1
        cases y1
        have hz := zip_at (List.getElem?_eq_getElem hk) (show (as.map Ag.rv)[k]? = some (Rv.slot j) by rw [List.getElem?_map, z1]; rfl)
        obtain ⟨ps', qs', e1⟩ := s.temp? hz
        rw [e1] at s
        have al := (s.ali (xs[k], .slot j) (by simp) j rfl).1
        exact ⟨⟨_, by rw [List.getElem?_append_left lj']; exact al, y2⟩, .inl ⟨k, z1, z2⟩⟩
    · rw [List.getElem?_append_right (by omega)] at q
      have q' : (e ++ tn ps)[j]? = some (some u) := by rw [List.getElem?_append_right (by omega), ← l2]; exact q
      obtain ⟨y, y1, y2⟩ := s0.env.at_ j u q'
      have nn : ∀ a ∈ u.adr, a ∉ adr (es.map some) := fun a ha => n2 j u a (by omega) q' ha
      exact ⟨⟨y, y1, y2.kept st nn⟩, .inr ⟨q', nn⟩⟩
  have old : ∀ j u a, (e2 ++ tn ps)[j]? = some (some u) → a ∈ u.adr → ((∃ k : Nat, as[k]? = some (Ag.r j) ∧ es'[k]? = some u) → a ∈ adr (es.map some) ∨ H a = none) := fun j u a q ha ⟨k, z1, z2⟩ =>
    st.own a (hc a (mem_adr.mpr ⟨k, u, by rw [List.getElem?_map, z2]; rfl, ha⟩))
  have oldin : ∀ a, a ∈ adr (es.map some) → a ∈ adr (e ++ tn ps) := fun a ha => by
    obtain ⟨i, t, hi, ht, m⟩ := given_in h ha
    exact mem_adr.mpr ⟨i, t, by rw [List.getElem?_append_left (List.getElem?_eq_some_iff.mp ht).1]; exact ht, m⟩
  refine ⟨sub, by rw [l2, s0.len], ⟨env.tab, ?_, fun j u q => (at2 j u q).1, fun j k u v a q1 q2 m1 m2 => ?_⟩, fun p hp j w => ⟨(s0.ali p hp j w).1, backTo_alive hb (s0.ali p hp j w).2⟩, s0.base.trans ⟨st.imm, fun a ob q n nt => st.keep a ob q (fun z => n (oldin a z)) nt, fun a ps q n => st.tbl a ps q fun z => n (oldin a z), fun a ha => ?_, fun a ob q => ?_⟩⟩
  · rw [List.length_append, List.length_append, l2, s0.len]
    unfold tn tv
    rw [List.length_map, List.length_map]
  · rcases (at2 j u q1).2 with ⟨k1, z1, z2⟩ | ⟨z1, z2⟩ <;> rcases (at2 k v q2).2 with ⟨k2, w1, w2⟩ | ⟨w1, w2⟩
    · have kk := env.sep k1 k2 u v a (by rw [List.getElem?_map, z2]; rfl) (by rw [List.getElem?_map, w2]; rfl) m1 m2
      subst kk
      rw [z1] at w1
      cases w1
      rfl
    · exfalso
      obtain ⟨⟨ob, hx, _⟩, _⟩ := s0.env.has (mem_adr.mpr ⟨k, v, w1, m2⟩)
      rcases old j u a q1 m1 ⟨k1, z1, z2⟩ with z | z
      · exact w2 a m2 z
      · rw [hx] at z; cases z
    · exfalso
      obtain ⟨⟨ob, hx, _⟩, _⟩ := s0.env.has (mem_adr.mpr ⟨j, u, z1, m1⟩)
      rcases old k v a q2 m2 ⟨k2, w1, w2⟩ with z | z
      · exact z2 a m1 z
      · rw [hx] at z; cases z
    · exact s0.env.sep j k u v a z1 w1 m1 m2
  · obtain ⟨j, u, q, m⟩ := mem_adr.mp ha
    rcases (at2 j u q).2 with z | ⟨z1, z2⟩
    · rcases old j u a q m z with w | w
      · exact .inl (oldin a w)
      · exact .inr w
    · exact .inl (mem_adr.mpr ⟨j, u, z1, m⟩)
  · rcases st.new a ob q with w | w | w
    · exact .inl w
    · exact .inr (.inl (oldin a w))
    · exact .inr (.inr w)
theorem ST.tookR {x : V} {t : Ent} (s : ST F σ I H e (ps ++ xs.zip (as.map Ag.rv))) (hl : xs.length = as.length) (h : entsOf e as = some es) (o : oneEach (refsOf as) = true) (hb : backTo' e as es' = some e2) (sub : Sub I' H')
    (env : EnvR F.K I' H' (xs.map some ++ [some x]) (es'.map some ++ [some t])) (hes : es'.length = es.length) (st : Step (es.map some) I H (es'.map some ++ [some t]) I' H') : ST F σ I' H' e2 (ps ++ [(x, .ent t)]) := by
  have lx : (es'.map some).length = (xs.map (some : V → Option V)).length := by rw [List.length_map, List.length_map, hes, entsOf_len h, hl]
  have s2 := s.took hl h o hb sub (EnvR.pre lx env) st fun a ha => by rw [adr_app]; exact List.mem_append_left _ ha
  have s0 : ST F σ I H e ps := s.weak
  have r : EntR F.K I' H' x t := by
    obtain ⟨y, y1, y2⟩ := env.at_ (es'.map some).length t (by rw [List.getElem?_append_right (Nat.le_refl _), Nat.sub_self]; rfl)
    rw [lx, List.getElem?_append_right (Nat.le_refl _), Nat.sub_self] at y1
    cases y1
    exact y2
  have frm : ∀ a ∈ t.adr, a ∈ adr (es.map some) ∨ H a = none := fun a ha => st.own a (mem_push.mpr (.inr ⟨t, rfl, ha⟩))
  refine s2.pushE r fun a ha => ⟨fun z => ?_, ?_⟩
  · obtain ⟨j, u, q, m⟩ := mem_adr.mp z
    have lj2 := backTo_len hb
    by_cases lj : j < e2.length
    · rw [List.getElem?_append_left lj] at q
      rcases backTo_at hb o q with ⟨w, nw⟩ | ⟨k, w1, w2⟩
      · obtain ⟨⟨ob, hx, _⟩, _⟩ := s0.env.has (mem_adr.mpr ⟨j, u, by rw [List.getElem?_append_left (by omega)]; exact w, m⟩)
        rcases frm a ha with y | y
        · obtain ⟨i, t', hi, ht, m'⟩ := given_in h y
          have ij := s0.env.sep i j t' u a (by rw [List.getElem?_append_left (List.getElem?_eq_some_iff.mp ht).1]; exact ht) (by rw [List.getElem?_append_left (by omega)]; exact w) m' m
          exact nw (ij ▸ hi)
        · rw [hx] at y; cases y
      · have kl : k < (es'.map some).length := by rw [List.length_map]; exact (List.getElem?_eq_some_iff.mp w2).1
        have kk := env.sep k (es'.map some).length u t a (by rw [List.getElem?_append_left kl, List.getElem?_map, w2]; rfl) (by rw [List.getElem?_append_right (Nat.le_refl _), Nat.sub_self]; rfl) m ha
        omega
    · rw [List.getElem?_append_right (by omega)] at q
      have q' : (e ++ tn ps)[j]? = some (some u) := by rw [List.getElem?_append_right (by omega), ← lj2]; exact q
      obtain ⟨⟨ob, hx, _⟩, _⟩ := s0.env.has (mem_adr.mpr ⟨j, u, q', m⟩)
      rcases frm a ha with y | y
      · obtain ⟨i, t', hi, ht, m'⟩ := given_in h y
        have ij := s0.env.sep i j t' u a (by rw [List.getElem?_append_left (List.getElem?_eq_some_iff.mp ht).1]; exact ht) q' m' m
        have := (List.getElem?_eq_some_iff.mp ht).1
        omega
      · rw [hx] at y; cases y
  · rcases frm a ha with y | y
    · obtain ⟨i, t', hi, ht, m'⟩ := given_in h y
      exact s0.base.own a (mem_adr.mpr ⟨i, t', by rw [List.getElem?_append_left (List.getElem?_eq_some_iff.mp ht).1]; exact ht, m'⟩)
    · exact s0.base.free y
end
/-- what a frame wants of an exception is what it says over data -/
def FrOk (F : Fr) : Prop := ∀ (σ : L2.St) (I H : Hp) (e : En) (ps : Tm) (C : Addr) (d : D) (x : V) (dd : Addr), ST F σ I H e ps → F.PX C d e → Rep F.K I x d → H dd = some (.xd [(("value" : Str), x)]) → F.W (.ref C) (some dd) σ H
def eCall (PX : Addr → D → En → Prop) (con : Con) (g : EvG) : EvF := fun e P => g e fun as e1 => ∃ es, entsOf e1 as = some es ∧ oneEach (refsOf as) = true ∧
  con es (fun t es' => es'.length = es.length ∧ ∃ e2, backTo' e1 as es' = some e2 ∧ P (.ent t) e2) (fun C d es' => ∃ e2, backTo' e1 as es' = some e2 ∧ PX C d e2)
section
variable {X : Cx} {F : Fr} {k : Nat} {f : Addr} {fd : FuncData} {pn : List Str} {con : Con} {x : Str} {p pos : Pos} {ex : Expr} {exs : List Expr} {g : EvG}
theorem DT.call {t : TA} (fo : FrOk F) (d : DTG F t g) : DT F (tCallS (spD F.K con) (WE F.W) t) (eCall F.PX con g) := fun σ I H e ps P Q s h k => by
  refine d σ I H e ps _ _ s h fun xs as e1 I1 H1 h1 hl s1 => ?_
  obtain ⟨es, he, o, hc⟩ := h1
  refine ⟨I1, es, _, _, s1.sub, s1.give hl he o, hc, fun r es' x I2 H2 hp sub2 env2 st2 => ?_, fun C d es' x dd I2 H2 hp sub2 env2 st2 rx hx => ?_⟩
  · obtain ⟨hes, e2, hb, hp⟩ := hp
    exact k x _ e2 I2 H2 hp (s1.tookR hl he o hb sub2 env2 hes st2)
  · obtain ⟨e2, hb, hp⟩ := hp
    exact fo σ I2 H2 e2 ps C d x dd (s1.took hl he o hb sub2 env2 st2 fun _ z => z) hp rx hx
theorem de_call (G : FnOk X.prog X.w X.K X.mg X.base (L2.CX X.prog X.w) k f fd pn (spD X.K con)) (hr : Room k X.A) (hg : Gl X x) (hm : X.mg x = some (.ref f)) (hk : PySem.W.keepIn X.K (.ref f) = true) (hb : Binds X.K fd pn []) (tk : Takes X F.W) (fo : FrOk F) (ha : DG X F (ex :: exs) g)
    (hK : F.K = X.K := by first | rfl | assumption) (hdb : (x == ("__debug__" : Str)) = false := by decide) (he : starEach (ex :: exs) X.env = (false, eval ex X.env) :: starEach exs X.env := by rfl) (hpl : (backTo pos (starEach exs X.env)).any (·.1) = false := by rfl) :
    DE X F (.Call (.Name x p) (ex :: exs) [] pos) (eCall F.PX con g) := by
  obtain ⟨t, pa, d⟩ := ha
  refine ⟨_, pe_callS G hr hg hm hk hb (fun σ => passAt tk σ) pa hdb he hpl, ?_⟩
  have z := DT.call (con := con) fo d
  rw [hK] at z
  exact z
end
/-! ### statements -/
structure Ed where
  nx : En → Prop
  rt : Rv → En → Prop
  bk : En → Prop := fun _ => False
  ct : En → Prop := fun _ => False
abbrev SvF := En → Ed → Prop
/-- no slot of the frame is held -/
def Imms (ps : Tm) : Prop := ∀ p ∈ ps, ∃ d, p.2 = Rv.ent (.imm d)
/-- .. none of these slots -/
def NoSl (sl : List Nat) (ps : Tm) : Prop := ∀ p ∈ ps, ∀ j, p.2 = Rv.slot j → j ∉ sl
theorem Imms.no {ps : Tm} (h : Imms ps) (sl : List Nat) : NoSl sl ps := fun p hp j q => by
  obtain ⟨t, ht⟩ := h p hp
  rw [ht] at q
  cases q
structure EdR (F : Fr) (ps : Tm) (d : Ed) (D : Ends) : Prop where
  nx : ∀ σ' I' H' e', d.nx e' → ST F σ' I' H' e' ps → D.nx σ' H'
  rt : ∀ x r σ' I' H' e', d.rt r e' → ST F σ' I' H' e' (ps ++ [(x, r)]) → D.rt x H'
  bk : ∀ σ' I' H' e', d.bk e' → ST F σ' I' H' e' ps → D.bk σ' H'
  ct : ∀ σ' I' H' e', d.ct e' → ST F σ' I' H' e' ps → D.ct σ' H'
def DTS (F : Fr) (t : TS) (g : SvF) : Prop := ∀ (σ : L2.St) (I H : Hp) (e : En) (ps : Tm) (d : Ed) (D : Ends), Imms ps → ST F σ I H e ps → g e d → EdR F ps d D → t D σ H
structure DS (X : Cx) (F : Fr) (st : Stmt) (g : SvF) : Prop where
  ex : ∃ t, PS X st t ∧ DTS F t g
structure DSs (X : Cx) (F : Fr) (st : List Stmt) (g : SvF) : Prop where
  ex : ∃ t, PSs X st t ∧ DTS F t g
def asg (e : En) (i : Nat) (r : Rv) : Option En := match e[i]? with
  | none => none
  | some _ => match r with
    | .ent t => some (e.set i (some t))
    | .slot j => match frz e (.slot j) with
      | some (d, e1) => some (e1.set i (some (.imm d)))
      | none => none
def mov (e : En) : Rv → Option (Ent × En)
  | .ent t => some (t, e)
  | .slot i => match e[i]? with
    | some (some (.imm d)) => some (.imm d, e)
    | some (some (.own a d)) => some (.own a d, e.set i none)
    | _ => none
section
variable {F : Fr} {σ : L2.St} {I H I' H' : Hp} {e e' : En} {ps qs : Tm} {i : Nat} {x : V}
theorem ST.asgE {t : Ent} (s : ST F σ I H e (ps ++ [(x, .ent t)])) (hps : NoSl [i] ps) (hi : i < e.length) : ST F (σ.set i (some x)) I H (e.set i (some t)) ps := by
  have s0 : ST F σ I H e ps := s.weak
  have r : EntR F.K I H x t := ST.temp (qs := []) s
  have lst := tm_at (ps := ps) (qs := []) (x := x) (r := .ent t) s.len
  have hlen : (e ++ tn ps).length = σ.length + ps.length := by
    rw [List.length_append, s.len]
    unfold tn
    rw [List.length_map]
  refine ⟨s.sub, by rw [List.length_set, List.length_set, s.len], ?_, fun p hp j q => ?_, ?_⟩
  · have z := s0.env.set (i := i) (x := x) (t := t) (by rw [List.length_append]; omega) r fun a ha j u hj hu m => by
      have lj := (List.getElem?_eq_some_iff.mp hu).1
      have z := s.env.sep j (σ.length + ps.length) u t a (by rw [tn_app, ← List.append_assoc, List.getElem?_append_left lj]; exact hu) lst.2 m ha
      omega
    rw [List.set_append_left _ _ (by rw [← s.len]; exact hi), List.set_append_left _ _ hi] at z
    exact z
  · have hj : j ≠ i := fun z => hps p hp j q (by simp [z])
    rw [List.getElem?_set_ne (Ne.symm hj)]
    exact ⟨(s0.ali p hp j q).1, alive_set (s0.ali p hp j q).2⟩
  · have b := s.base
    refine ⟨b.imm, b.keep, b.tbl, fun a ha => b.own a ?_, b.new⟩
    obtain ⟨j, u, q, m⟩ := mem_adr.mp ha
    rw [← List.set_append_left _ _ hi] at q
    by_cases hj : j = i
    · subst hj
      have l1 := (List.getElem?_eq_some_iff.mp q).1
      rw [List.length_set] at l1
      rw [List.getElem?_set_self l1] at q
      cases q
      exact mem_adr.mpr ⟨_, t, lst.2, m⟩
    · rw [List.getElem?_set_ne (Ne.symm hj)] at q
      have lj := (List.getElem?_eq_some_iff.mp q).1
      exact mem_adr.mpr ⟨j, u, by rw [tn_app, ← List.append_assoc, List.getElem?_append_left lj]; exact q, m⟩
theorem frz_len {e e1 : En} {r : Rv} {d : D} (h : frz e r = some (d, e1)) : e1.length = e.length := by
  cases r with
  | ent t => cases t <;> cases h <;> rfl
  | slot i =>
    unfold TK.frz at h
    dsimp only at h
    split at h
    · cases h; rfl
    · cases h; rw [List.length_set]
    · cases h
theorem ST.asg {r : Rv} (s : ST F σ I H e (ps ++ [(x, r)])) (hps : NoSl [i] ps) (h : asg e i r = some e') : ∃ I', ST F (σ.set i (some x)) I' H e' ps := by
  unfold TK.asg at h
  split at h
  · cases h
  · rename_i o q
    have hi := (List.getElem?_eq_some_iff.mp q).1
    cases r with
    | ent t => cases h; exact ⟨I, s.asgE hps hi⟩
    | slot j =>
      dsimp only at h
      split at h
      · rename_i d e1 hf
        cases h
        obtain ⟨I1, _, s1⟩ := s.frz hf
        exact ⟨I1, s1.asgE hps (by rw [frz_len hf]; exact hi)⟩
      · cases h
/-- an own thing is changed -/
theorem ST.mut {a : Addr} {d d' : D} {o : HO} (s : ST F σ I H e ps) (q : e[i]? = some (some (.own a d))) (w : OwnR F.K I (upd H a o) a d') : ST F σ I (upd H a o) (e.set i (some (.own a d'))) ps := by
  have hi := (List.getElem?_eq_some_iff.mp q).1
  obtain ⟨y, y1, y2, n, y3⟩ := s.slot q
  have qc : (e ++ tn ps)[i]? = some (some (.own a d)) := by rw [List.getElem?_append_left hi]; exact q
  have ain : a ∈ adr (e ++ tn ps) := mem_adr.mpr ⟨i, _, qc, by simp⟩
  have ec : (e ++ tn ps).set i (some (.own a d')) = e.set i (some (.own a d')) ++ tn ps := List.set_append_left _ _ hi
  have sub_adr : ∀ b, b ∈ adr (e.set i (some (.own a d')) ++ tn ps) → b ∈ adr (e ++ tn ps) := fun b hb => by
    obtain ⟨j, u, z, m⟩ := mem_adr.mp hb
    rw [← ec] at z
    by_cases hj : j = i
    · subst hj
      have l1 := (List.getElem?_eq_some_iff.mp z).1
      rw [List.length_set] at l1
      rw [List.getElem?_set_self l1] at z
      cases z
      simp at m
      subst m
      exact ain
    · rw [List.getElem?_set_ne (Ne.symm hj)] at z
      exact mem_adr.mpr ⟨j, u, z, m⟩
  refine ⟨fun b u z => ?_, by rw [List.length_set]; exact s.len, ⟨s.env.tab.upH (fun ps z => by obtain ⟨o', q1, q2⟩ := y3.has; rw [q1] at z; exact q2.2 ps (Option.some.inj z)), ?_, fun j u z => ?_, fun j k u v b z1 z2 m1 m2 => ?_⟩, fun p hp j w => ⟨(s.ali p hp j w).1, alive_set (s.ali p hp j w).2⟩, s.base.trans ⟨Le.refl, fun b u z nb _ => ?_, fun b ps z nb => ⟨ps, by rw [upd_ne (show b ≠ a from fun w => nb (by rw [w]; exact ain))]; exact z⟩, fun b hb => .inl (sub_adr b hb), fun b u z => .inl z⟩⟩
  · have hb : b ≠ a := fun w => by rw [w, n] at z; cases z
    rw [upd_ne hb]
    exact s.sub b u z
  · have l := s.env.len
    rw [← ec, List.length_set]
    exact l
  · rw [← ec] at z
    by_cases hj : j = i
    · subst hj
      have l1 := (List.getElem?_eq_some_iff.mp z).1
      rw [List.length_set] at l1
      rw [List.getElem?_set_self l1] at z
      cases z
      have hjs : j < σ.length := by rw [← s.len]; exact hi
      exact ⟨y, by rw [List.getElem?_append_left hjs]; exact y1, y2, n, w⟩
    · rw [List.getElem?_set_ne (Ne.symm hj)] at z
      obtain ⟨y', e1, e2⟩ := s.env.at_ j u z
      refine ⟨y', e1, e2.mono Le.refl fun b hb => ⟨(e2.has hb).2, fun v hv => ?_⟩⟩
      have hba : b ≠ a := fun w => by
        subst w
        exact hj (s.env.sep j i u _ b z qc hb (by simp))
      rw [upd_ne hba]
      exact hv
  · rw [← ec] at z1 z2
    have go : ∀ {j : Nat} {u : Ent}, ((e ++ tn ps).set i (some (Ent.own a d')))[j]? = some (some u) → b ∈ u.adr → ∃ u' : Ent, (e ++ tn ps)[j]? = some (some u') ∧ b ∈ u'.adr := fun {j u} z m => by
      by_cases hj : j = i
      · subst hj
        have l1 := (List.getElem?_eq_some_iff.mp z).1
        rw [List.length_set] at l1
        rw [List.getElem?_set_self l1] at z
        cases z
        exact ⟨_, qc, m⟩
      · rw [List.getElem?_set_ne (Ne.symm hj)] at z
        exact ⟨u, z, m⟩
    obtain ⟨u', w1, w2⟩ := go z1 m1
    obtain ⟨v', w3, w4⟩ := go z2 m2
    exact s.env.sep j k u' v' b w1 w3 w2 w4
  · have hb : b ≠ a := fun w => nb (w ▸ ain)
    rw [upd_ne hb]
    exact z
end
/-! ### rules of statements -/
def sNext : SvF := fun e d => d.nx e
def sSeq (f g : SvF) : SvF := fun e d => f e { d with nx := fun e1 => g e1 d }
def sCut (f g : SvF) : SvF := fun e d => ∃ J : En → Prop, f e { d with nx := J } ∧ ∀ e1, J e1 → g e1 d
def sSet (i : Nat) (f : EvF) : SvF := fun e d => f e fun r e1 => ∃ e2, asg e1 i r = some e2 ∧ d.nx e2
def sDrop (f : EvF) : SvF := fun e d => f e fun _ e1 => d.nx e1
def sRet (f : EvF) : SvF := fun e d => f e d.rt
def sRetN : SvF := fun e d => d.rt (.im .non) e
def sIf (c : EvT) (f g : SvF) : SvF := fun e d => c e fun b e1 => if b = true then f e1 d else g e1 d
def sBrk : SvF := fun e d => d.bk e
def sCnt : SvF := fun e d => d.ct e
def sNever : SvF := fun _ _ => False
section
variable {X : Cx} {F : Fr} {st : Stmt} {rest : List Stmt} {f g : SvF} {ex : Expr} {fe : EvF} {pos : Pos}
theorem dss_nil : DSs X F [] sNext := ⟨_, pss_nil, fun σ I H e ps d D _ s h k => k.nx σ I H e h s⟩
theorem dss_cons (h1 : DS X F st f) (h2 : DSs X F rest g) : DSs X F (st :: rest) (sSeq f g) := by
  obtain ⟨t1, p1, d1⟩ := h1
  obtain ⟨t2, p2, d2⟩ := h2
  exact ⟨_, pss_cons p1 p2, fun σ I H e ps d D hp s h k => d1 σ I H e ps _ _ hp s h ⟨fun σ' I' H' e' h' s' => d2 σ' I' H' e' ps d D hp s' h' k, k.rt, k.bk, k.ct⟩⟩
theorem dss_cut (h1 : DS X F st f) (h2 : DSs X F rest g) : DSs X F (st :: rest) (sCut f g) := by
  obtain ⟨t1, p1, d1⟩ := h1
  obtain ⟨t2, p2, d2⟩ := h2
  exact ⟨_, pss_cons p1 p2, fun σ I H e ps d D hp s ⟨J, h, hj⟩ k => d1 σ I H e ps { d with nx := J } _ hp s h ⟨fun σ' I' H' e' h' s' => d2 σ' I' H' e' ps d D hp s' (hj e' h') k, k.rt, k.bk, k.ct⟩⟩
theorem dss_one (h1 : DS X F st f) : DSs X F [st] f := by
  obtain ⟨t1, p1, d1⟩ := h1
  exact ⟨_, pss_one p1, d1⟩
theorem ds_pass : DS X F (.Pass pos) sNext := ⟨_, ps_pass, fun σ I H e ps d D _ s h k => k.nx σ I H e h s⟩
theorem ds_break : DS X F (.Break pos) sBrk := ⟨_, ps_break, fun σ I H e ps d D _ s h k => k.bk σ I H e h s⟩
theorem ds_continue : DS X F (.Continue pos) sCnt := ⟨_, ps_continue, fun σ I H e ps d D _ s h k => k.ct σ I H e h s⟩
theorem ds_doc {x j pos'} : DS X F (.Expr (.Constant (.str x) j pos) pos') sNext := ⟨_, ps_doc, fun σ I H e ps d D _ s h k => k.nx σ I H e h s⟩
theorem ds_expr (h1 : DE X F ex fe) (hs : swapsWith ex none pos.line X.env = pure false := by rfl) : DS X F (.Expr ex pos) (sDrop fe) := by
  obtain ⟨t1, p1, d1⟩ := h1
  exact ⟨_, ps_expr p1 hs, fun σ I H e ps d D _ s h k => d1 σ I H e ps _ _ s h fun x r e1 I1 H1 h1 s1 => k.nx σ I1 H1 e1 h1 s1.weak⟩
theorem ds_ret (h1 : DE X F ex fe) : DS X F (.Return (some ex) pos) (sRet fe) := by
  obtain ⟨t1, p1, d1⟩ := h1
  exact ⟨_, ps_ret p1, fun σ I H e ps d D _ s h k => d1 σ I H e ps _ _ s h fun x r e1 I1 H1 h1 s1 => k.rt x r σ I1 H1 e1 h1 s1⟩
theorem ds_retN : DS X F (.Return none pos) sRetN := ⟨_, ps_retN, fun σ I H e ps d D _ s h k => k.rt .non _ σ I H e h (s.pushI .non)⟩
theorem ds_if {c : Expr} {a b : List Stmt} {tc : EvT} (hc : DTe X F c tc) (ha : DSs X F a f) (hb : DSs X F b g) : DS X F (.If c a b pos) (sIf tc f g) := by
  obtain ⟨t0, p0, d0⟩ := hc
  obtain ⟨t1, p1, d1⟩ := ha
  obtain ⟨t2, p2, d2⟩ := hb
  refine ⟨_, ps_if p0 p1 p2, fun σ I H e ps d D hp s h k => d0 σ I H e ps _ _ s h fun b e1 I1 H1 h1 s1 => ?_⟩
  cases b with
  | true => exact d1 σ I1 H1 e1 ps d D hp s1 h1 k
  | false => exact d2 σ I1 H1 e1 ps d D hp s1 h1 k
theorem ds_set {i : Nat} {x : Str} {pos' : Pos} (hN : X.N.Nodup) (hi : X.N[i]? = some x) (hx : Loc X.env.scope x) (h1 : DE X F ex fe) (hs : swapsWith ex (some (.Name x pos')) pos.line X.env = pure false := by rfl)
    (hf : X.fn x = true ∨ X.env.scope.names.lookup x = some .local := by first | exact .inl rfl | exact .inr rfl | assumption) : DS X F (.Assign [.Name x pos'] ex pos) (sSet i fe) := by
  obtain ⟨t1, p1, d1⟩ := h1
  refine ⟨_, ps_set hN hi hx p1 hs hf, fun σ I H e ps d D hp s h k => d1 σ I H e ps _ _ s h fun x r e1 I1 H1 h1 s1 => ?_⟩
  obtain ⟨e2, ha, h2⟩ := h1
  obtain ⟨I2, s2⟩ := s1.asg (hp.no _) ha
  exact k.nx _ I2 H1 e2 h2 s2
end
/-! ### a def's promise from its body -/
inductive BackE : List Ent → En → List Ent → Prop
  | nil {e : En} : BackE [] e []
  | imm {d : D} {o : Option Ent} {es es' : List Ent} {e : En} : BackE es e es' → BackE (.imm d :: es) (o :: e) (.imm d :: es')
  | own {a : Addr} {d d' : D} {es es' : List Ent} {e : En} : BackE es e es' → BackE (.own a d :: es) (some (.own a d') :: e) (.own a d' :: es')
  | hand {p c : Addr} {n n' : Nat} {es es' : List Ent} {e : En} : BackE es e es' → BackE (.hand p c n :: es) (some (.hand p c n') :: e) (.hand p c n' :: es')
theorem BackE.len {es : List Ent} {e : En} {es' : List Ent} (h : BackE es e es') : es'.length = es.length := by
  induction h with
  | nil => rfl
  | imm _ ih => simp [ih]
  | own _ ih => simp [ih]
  | hand _ ih => simp [ih]
theorem BackE.at_ {es : List Ent} {e : En} {es' : List Ent} (h : BackE es e es') : ∀ {i : Nat} {t : Ent}, es'[i]? = some t → (∃ d, t = .imm d ∧ es[i]? = some (.imm d)) ∨
    ∃ t0, es[i]? = some t0 ∧ e[i]? = some (some t) ∧ ∀ (K : PySem.W.Frag) (I H I' H' : Hp) (x y : V), EntR K I H x t0 → EntR K I' H' y t → x = y := by
  induction h with
  | nil => intro i t q; simp at q
  | imm _ ih =>
    intro i t q
    cases i with
    | zero => simp at q; subst q; exact .inl ⟨_, rfl, rfl⟩
    | succ i => simpa using ih (i := i) (t := t) (by simpa using q)
  | own _ ih =>
    intro i t q
    cases i with
    | zero => simp at q; subst q; exact .inr ⟨_, rfl, rfl, fun K I H I' H' x y h1 h2 => h1.1.trans h2.1.symm⟩
    | succ i => simpa using ih (i := i) (t := t) (by simpa using q)
  | hand _ ih =>
    intro i t q
    cases i with
    | zero => simp at q; subst q; exact .inr ⟨_, rfl, rfl, fun K I H I' H' x y h1 h2 => h1.1.trans h2.1.symm⟩
    | succ i => simpa using ih (i := i) (t := t) (by simpa using q)
section
variable {F : Fr} {σ : L2.St} {I H I' H' : Hp} {e e' : En} {ps : Tm} {vs : List V} {es es' : List Ent} {x : V} {t : Ent}
theorem ST.mov {r : Rv} (s : ST F σ I H e (ps ++ [(x, r)])) (hp : Imms ps) (h : mov e r = some (t, e')) : ST F σ I H e' (ps ++ [(x, .ent t)]) := by
  cases r with
  | ent u => cases h; exact s
  | slot i =>
    have al := (s.ali (x, .slot i) (by simp) i rfl).1
    unfold TK.mov at h
    dsimp only at h
    split at h
    · rename_i d q
      cases h
      obtain ⟨y, y1, y2⟩ := s.slot q
      rw [al] at y1
      cases y1
      exact ST.immAt (qs := []) s y2
    · rename_i a d q
      cases h
      have hi := (List.getElem?_eq_some_iff.mp q).1
      obtain ⟨y, y1, y2⟩ := s.slot q
      rw [al] at y1
      cases y1
      have s0 : ST F σ I H e ps := s.weak
      have qc : (e ++ tn ps)[i]? = some (some (.own a d)) := by rw [List.getElem?_append_left hi]; exact q
      have hσ : σ.set i (some x) = σ := by
        refine List.ext_getElem? fun j => ?_
        by_cases hj : j = i
        · subst hj
          rw [List.getElem?_set_self (by rw [← s.len]; exact hi), al]
        · rw [List.getElem?_set_ne (Ne.symm hj)]
      have z := s0.env.setN (i := i) (y := some x)
      rw [List.set_append_left _ _ (by rw [← s.len]; exact hi), List.set_append_left _ _ hi, hσ] at z
      have sub_adr : ∀ b, b ∈ adr (e.set i none ++ tn ps) → b ∈ adr (e ++ tn ps) ∧ b ≠ a := fun b hb => by
        obtain ⟨j, u, w, m⟩ := mem_adr.mp hb
        rw [← List.set_append_left _ _ hi] at w
        by_cases hj : j = i
        · subst hj
          have l1 := (List.getElem?_eq_some_iff.mp w).1
          rw [List.length_set] at l1
          rw [List.getElem?_set_self l1] at w
          cases w
        · rw [List.getElem?_set_ne (Ne.symm hj)] at w
          exact ⟨mem_adr.mpr ⟨j, u, w, m⟩, fun c => hj (s0.env.sep j i u _ b w qc m (by simp [c]))⟩
      have s1 : ST F σ I H (e.set i none) ps := ⟨s.sub, by rw [List.length_set]; exact s.len, z, fun p hp' j w => (hp.no [j] p hp' j w (by simp)).elim, ⟨s0.base.imm, s0.base.keep, s0.base.tbl, fun b hb => s0.base.own b (sub_adr b hb).1, s0.base.new⟩⟩
      refine s1.pushE y2 fun b hb => ?_
      simp at hb
      subst hb
      exact ⟨fun c => (sub_adr b c).2 rfl, s0.base.own b (mem_adr.mpr ⟨i, _, qc, by simp⟩)⟩
    · cases h
/-- the end of a def -/
theorem ST.fin (hF : F.e0 = es.map some) (env : EnvR F.K F.I0 F.H0 (vs.map some) (es.map some)) (s : ST F σ I' H' e [(x, .ent t)]) (b : BackE es e es') :
    EnvR F.K I' H' (vs.map some ++ [some x]) (es'.map some ++ [some t]) ∧ Step (es.map some) F.I0 F.H0 (es'.map some ++ [some t]) I' H' := by
  have lv : (es.map some).length = (vs.map (some : V → Option V)).length := env.len
  rw [List.length_map, List.length_map] at lv
  have lb := b.len
  have tm : EntR F.K I' H' x t := ST.temp (ps := []) (qs := []) s
  have tl := tm_at (ps := []) (qs := []) (x := x) (r := .ent t) s.len
  have at2 : ∀ i u, es'[i]? = some u → (∃ y, vs[i]? = some y ∧ EntR F.K I' H' y u) ∧ ∀ a ∈ u.adr, e[i]? = some (some u) := fun i u q => by
    rcases b.at_ q with ⟨d, rfl, z⟩ | ⟨t0, z1, z2, z3⟩
    · obtain ⟨y, y1, y2⟩ := env.at_ i (.imm d) (by rw [List.getElem?_map, z]; rfl)
      rw [List.getElem?_map] at y1
      cases w : vs[i]? with
      | none => rw [w] at y1; cases y1
      | some y' =>
        rw [w] at y1
        cases y1
        exact ⟨⟨y, w, Rep.mono s.base.imm y2⟩, fun a ha => by simp at ha⟩
    · obtain ⟨y, y1, y2⟩ := env.at_ i t0 (by rw [List.getElem?_map, z1]; rfl)
      rw [List.getElem?_map] at y1
      cases w : vs[i]? with
      | none => rw [w] at y1; cases y1
      | some y' =>
        rw [w] at y1
        cases y1
        obtain ⟨y0, y3, y4⟩ := s.slot z2
        exact ⟨⟨y, by first | exact w | rfl, by rw [z3 _ _ _ _ _ y y0 y2 y4]; exact y4⟩, fun a _ => z2⟩
  have last : ∀ {i u}, (es'.map some ++ [some t])[i]? = some (some u) → (i < es'.length ∧ es'[i]? = some u) ∨ (i = es'.length ∧ u = t) := fun {i u} q => by
    by_cases hi : i < es'.length
    · rw [List.getElem?_append_left (by rw [List.length_map]; exact hi), List.getElem?_map] at q
      cases w : es'[i]? with
      | none => rw [w] at q; cases q
      | some u' => rw [w] at q; cases q; exact .inl ⟨hi, rfl⟩
    · rw [List.getElem?_append_right (by rw [List.length_map]; omega), List.length_map] at q
      have hl := (List.getElem?_eq_some_iff.mp q).1
      have h0 : i - es'.length = 0 := by simp at hl; omega
      rw [h0] at q
      cases q
      exact .inr ⟨by omega, rfl⟩
  have inE : ∀ a, a ∈ adr (es'.map some ++ [some t]) → a ∈ adr (e ++ tn [(x, .ent t)]) := fun a ha => by
    obtain ⟨i, u, q, m⟩ := mem_adr.mp ha
    rcases last q with ⟨_, z⟩ | ⟨_, rfl⟩
    · have w := (at2 i u z).2 a m
      exact mem_adr.mpr ⟨i, u, by rw [List.getElem?_append_left (List.getElem?_eq_some_iff.mp w).1]; exact w, m⟩
    · exact mem_adr.mpr ⟨_, u, tl.2, m⟩
  refine ⟨⟨s.env.tab, by simp [lb, lv], fun i u q => ?_, fun i j u v a q1 q2 m1 m2 => ?_⟩, ?_⟩
  · rcases last q with ⟨hi, z⟩ | ⟨rfl, rfl⟩
    · obtain ⟨⟨y, y1, y2⟩, _⟩ := at2 i u z
      refine ⟨y, ?_, y2⟩
      rw [List.getElem?_append_left (by rw [List.length_map]; omega), List.getElem?_map, y1]
      rfl
    · refine ⟨x, ?_, tm⟩
      rw [List.getElem?_append_right (by rw [List.length_map]; omega), List.length_map, show es'.length - vs.length = 0 by omega]
      rfl
  · rcases last q1 with ⟨h1, z1⟩ | ⟨h1, rfl⟩ <;> rcases last q2 with ⟨h2, z2⟩ | ⟨h2, rfl⟩
    · have w1 := (at2 i u z1).2 a m1
      have w2 := (at2 j v z2).2 a m2
      exact s.env.sep i j u v a (by rw [List.getElem?_append_left (List.getElem?_eq_some_iff.mp w1).1]; exact w1) (by rw [List.getElem?_append_left (List.getElem?_eq_some_iff.mp w2).1]; exact w2) m1 m2
    · have w1 := (at2 i u z1).2 a m1
      have l1 := (List.getElem?_eq_some_iff.mp w1).1
      have z := s.env.sep i _ u v a (by rw [List.getElem?_append_left l1]; exact w1) tl.2 m1 m2
      have := s.len
      simp at z
      omega
    · have w2 := (at2 j v z2).2 a m2
      have l2 := (List.getElem?_eq_some_iff.mp w2).1
      have z := s.env.sep j _ v u a (by rw [List.getElem?_append_left l2]; exact w2) tl.2 m2 m1
      have := s.len
      simp at z
      omega
    · omega
  · have bs := s.base
    rw [hF] at bs
    exact ⟨bs.imm, bs.keep, bs.tbl, fun a ha => bs.own a (inE a ha), bs.new⟩
end
def frOf (K : PySem.W.Frag) (es : List Ent) (I H : Hp) (E : XK) (PX : Addr → D → List Ent → Prop) : Fr := ⟨K, es.map some, I, H, fun cls d _ H => E cls d H, fun C d e => ∃ es', BackE es e es' ∧ PX C d es'⟩
def startE (n : Nat) (es : List Ent) : En := es.map some ++ List.replicate (n - es.length) none
def endE (es : List Ent) (P : Ent → List Ent → Prop) : Ed := { nx := fun e => ∃ es', BackE es e es' ∧ P (.imm .non) es', rt := fun r e => ∃ t e', mov e r = some (t, e') ∧ ∃ es', BackE es e' es' ∧ P t es' }
theorem EnvR.pads {K : PySem.W.Frag} {I H : Hp} {σ : L2.St} {e : En} (h : EnvR K I H σ e) : ∀ n, EnvR K I H (σ ++ List.replicate n none) (e ++ List.replicate n none)
  | 0 => by simpa using h
  | n + 1 => by
    rw [List.replicate_succ', List.replicate_succ', ← List.append_assoc, ← List.append_assoc]
    exact (EnvR.pads h n).pushN
theorem adr_pads (e : En) (n : Nat) : adr (e ++ List.replicate n none) = adr e := by
  rw [adr_app]
  have : adr (List.replicate n none) = [] := by
    unfold adr
    induction n with
    | zero => rfl
    | succ n ih => rw [List.replicate_succ, List.flatMap_cons, ih]; rfl
  rw [this, List.append_nil]
theorem okD_fn {K : PySem.W.Frag} {P : Program} {w : World} {mg : Str → Option Value} {base : Heap} {x qual : Str} {st : Stmt} {f : Addr} {fd : FuncData} {N ps : List Str} {k : Nat} {con : Con} (G : Fun K x qual st f fd) (S : FnScope N ps (defScope st))
    (len : ∀ es P PX, con es P PX → es.length = ps.length)
    (hbody : ∀ (cdv : Value) (A : Around) (outer : List Env) (s : Shared) (H I : Hp) (E : XK) (es : List Ent) (R : Ent → List Ent → Prop) (PX : Addr → D → List Ent → Prop), Room k (A.deeper (envOfC qual (defScope st) s.heap.objs.size f cdv)) → FrOk (frOf K es I H E PX) → con es R PX →
      ∃ g, DSs (cxOf (L2.CX P w) P w K mg base N qual (defScope st) f cdv A outer s H E) (frOf K es I H E PX) (defBody st) g ∧ g (startE N.length es) (endE es R)) : FnOk P w K mg base (L2.CX P w) (k + 1) f fd ps (spD K con) := by
  refine G.okX S (fun vs H Q E h => ?_) fun cdv A outer s H vs Q E hr h => ?_
  · obtain ⟨I, es, R, PX, _, env, hc, _⟩ := h
    have l := env.len
    rw [List.length_map, List.length_map] at l
    rw [← l]
    exact len _ _ _ hc
  · obtain ⟨I, es, R, PX, sub, env, hc, kq, ke⟩ := h
    have l := env.len
    rw [List.length_map, List.length_map] at l
    have fo : FrOk (frOf K es I H E PX) := fun σ I' H' e ps C d x dd s' hp rx hx => by
      obtain ⟨es', b, hp⟩ := hp
      have s1 : ST (frOf K es I H E PX) σ I' H' e ([] ++ [(V.non, .im .non)]) := (show ST (frOf K es I H E PX) σ I' H' e [] from ST.weak (ps := []) (qs := ps) s').pushI .non
      obtain ⟨env', st'⟩ := ST.fin (es := es) (vs := vs) rfl env s1 b
      have lx : (es'.map some).length = (vs.map (some : V → Option V)).length := by rw [List.length_map, List.length_map, b.len, l]
      exact ke C d es' x dd I' H' hp s'.sub (EnvR.pre lx env') ⟨st'.imm, st'.keep, st'.tbl, fun a ha => st'.own a (by rw [adr_app]; exact List.mem_append_left _ ha), st'.new⟩ rx hx
    obtain ⟨g, ⟨t, pt, dt⟩, hg⟩ := hbody cdv A outer s H I E es R PX hr fo hc
    refine ⟨t, pt, dt (L2.start N vs) I H (startE N.length es) [] (endE es R) _ (fun p hp => by simp at hp) ?_ hg ?_⟩
    · refine ⟨sub, by simp [startE, L2.start, l], ?_, fun p hp => by simp at hp, ?_⟩
      · show EnvR K I H (L2.start N vs ++ []) (startE N.length es ++ [])
        rw [List.append_nil, List.append_nil]
        unfold L2.start startE
        rw [l]
        exact env.pads _
      · show Step (es.map some) I H (startE N.length es ++ []) I H
        rw [List.append_nil]
        unfold startE
        refine ⟨Le.refl, fun _ _ q _ _ => q, fun _ ps q _ => ⟨ps, q⟩, fun a ha => .inl ?_, fun _ _ q => .inl q⟩
        rw [adr_pads] at ha
        exact ha
    · refine ⟨fun σ' I' H' e' hn s' => ?_, fun x r σ' I' H' e' hn s' => ?_, fun _ _ _ _ z => z.elim, fun _ _ _ _ z => z.elim⟩
      · obtain ⟨es', b, hp⟩ := hn
        have s1 : ST (frOf K es I H E PX) σ' I' H' e' ([] ++ [(V.non, .im .non)]) := ST.pushI (ps := []) s' .non
        obtain ⟨env', st'⟩ := ST.fin (es := es) (vs := vs) rfl env s1 b
        exact kq _ es' _ I' H' hp s'.sub env' st'
      · obtain ⟨u, e2, hm, es', b, hp⟩ := hn
        have s1 := ST.mov (ps := []) s' (fun p hp => by simp at hp) hm
        obtain ⟨env', st'⟩ := ST.fin (es := es) (vs := vs) rfl env s1 b
        exact kq _ es' _ I' H' hp s'.sub env' st'
/-! ### targets -/
abbrev TgF := D → En → (En → Prop) → Prop
abbrev TgsF := List D → En → (En → Prop) → Prop
/-- slots beside sl are as they were -/
def SameOut (sl : List Nat) (σ σ' : L2.St) : Prop := σ'.length = σ.length ∧ ∀ j, j ∉ sl → σ'[j]? = σ[j]?
def DTgt (F : Fr) (t : TG) (f : TgF) (sl : List Nat) : Prop := ∀ (v : V) (c : D) (σ : L2.St) (I H : Hp) (e : En) (ps : Tm) (P : En → Prop) (Q : L2.St → Hp → Prop), NoSl sl ps → ST F σ I H e ps → Rep F.K I v c → f c e P →
  (∀ σ' e', P e' → ST F σ' I H e' ps → SameOut sl σ σ' → Q σ' H) → t v σ H Q
def DTgts (F : Fr) (t : TGs) (f : TgsF) (sl : List Nat) : Prop := ∀ (vs : List V) (cs : List D) (σ : L2.St) (I H : Hp) (e : En) (ps : Tm) (P : En → Prop) (Q : L2.St → Hp → Prop), NoSl sl ps → ST F σ I H e ps → Reps F.K I vs cs → f cs e P →
  (∀ σ' e', P e' → ST F σ' I H e' ps → SameOut sl σ σ' → Q σ' H) → t vs σ H Q
structure DGt (X : Cx) (F : Fr) (tg : Expr) (f : TgF) (sl : List Nat) : Prop where
  ex : ∃ t, PG X tg t ∧ DTgt F t f sl
structure DGts (X : Cx) (F : Fr) (tgs : List Expr) (f : TgsF) (sl : List Nat) : Prop where
  ex : ∃ t, PGs X tgs t ∧ DTgts F t f sl
def gN (i : Nat) : TgF := fun c e P => ∃ e2, asg e i (.im c) = some e2 ∧ P e2
def gNl : TgsF := fun cs e P => cs = [] ∧ P e
def gCn (f : TgF) (g : TgsF) : TgsF := fun cs e P => ∃ c r, cs = c :: r ∧ f c e fun e1 => g r e1 P
def gT (n : Nat) (g : TgsF) : TgF := fun c e P => ∃ cs, (c = .tup cs ∨ c = .lst cs) ∧ cs.length = n ∧ g cs e P
section
variable {X : Cx} {F : Fr} {pos : Pos} {sl sl' : List Nat}
theorem dg_name {i : Nat} {x : Str} (hN : X.N.Nodup) (hi : X.N[i]? = some x) (hx : Loc X.env.scope x) (hf : X.fn x = true ∨ X.env.scope.names.lookup x = some .local := by first | exact .inl rfl | exact .inr rfl | assumption) : DGt X F (.Name x pos) (gN i) [i] :=
  ⟨_, pg_name hN hi hx hf, fun v c σ I H e ps P Q hp s r h k => by
    obtain ⟨e2, ha, h2⟩ := h
    have s1 : ST F σ I H e (ps ++ [(v, .im c)]) := s.pushI r
    unfold TK.asg at ha
    split at ha
    · cases ha
    · rename_i o q
      cases ha
      exact k _ _ h2 (s1.asgE hp (List.getElem?_eq_some_iff.mp q).1) ⟨List.length_set .., fun j hj => List.getElem?_set_ne fun z => hj (by simp [z])⟩⟩
theorem dgs_nil : DGts X F [] gNl [] := ⟨_, pgs_nil, fun vs cs σ I H e ps P Q hp s r h k => by
  obtain ⟨rfl, h⟩ := h
  cases r
  exact ⟨rfl, k σ e h s ⟨rfl, fun _ _ => rfl⟩⟩⟩
theorem dgs_cons {t : Expr} {ts : List Expr} {f : TgF} {g : TgsF} (h1 : DGt X F t f sl) (h2 : DGts X F ts g sl') (hs : (assignEach (t :: ts) X.env).map (·.2) = assign t X.env :: (assignEach ts X.env).map (·.2) := by rfl) : DGts X F (t :: ts) (gCn f g) (sl ++ sl') := by
  obtain ⟨t1, p1, d1⟩ := h1
  obtain ⟨t2, p2, d2⟩ := h2
  refine ⟨_, pgs_cons p1 p2 hs, fun vs cs σ I H e ps P Q hp s r h k => ?_⟩
  obtain ⟨c, cs', rfl, h⟩ := h
  cases r with
  | cons r1 r2 =>
    refine ⟨_, _, rfl, d1 _ c σ I H e ps _ _ (fun p h j q m => hp p h j q (List.mem_append_left _ m)) s r1 h fun σ1 e1 h1 s1 o1 => d2 _ cs' σ1 I H e1 ps P Q (fun p h j q m => hp p h j q (List.mem_append_right _ m)) s1 r2 h1 fun σ2 e2 h2 s2 o2 => ?_⟩
    exact k σ2 e2 h2 s2 ⟨o2.1.trans o1.1, fun j hj => (o2.2 j fun m => hj (List.mem_append_right _ m)).trans (o1.2 j fun m => hj (List.mem_append_left _ m))⟩
theorem PG.or {tg : Expr} {t u : TG} (h : PG X tg t) (h' : PG X tg u) : PG X tg (fun v σ H Q => t v σ H Q ∨ u v σ H Q) := ⟨fun pins s σ H v u' Q I r q => by
  rcases q with q | q
  · exact h.run pins s σ H v u' Q I r q
  · exact h'.run pins s σ H v u' Q I r q⟩
theorem dg_tup {es : List Expr} {k n : Nat} {g : TgsF} (hc : X.calm = true) (h : DGts X F es g sl) (hK : F.K = X.K := by first | rfl | assumption) (hn : (assignEach es X.env).length = n := by rfl) (hst : (assignEach es X.env).findIdx? (·.1) = none := by rfl) : DGt X F (.Tuple es k pos) (gT n g) sl := by
  obtain ⟨t, p, d⟩ := h
  refine ⟨_, PG.or (pg_tup hc p hn hst) (pg_unl hc p hn hst), fun v c σ I H e ps P Q hp s r h k => ?_⟩
  obtain ⟨cs, hc, hl, h⟩ := h
  rcases hc with rfl | rfl
  · cases r with
    | @tup a xs _ hx rr =>
      exact .inl ⟨a, xs, rfl, SqT.of (s.sub _ _ hx), by rw [rr.len]; exact hl, d xs cs σ I H e ps P Q hp s rr h k⟩
  · cases r with
    | @lst a xs _ hx rr => exact .inr ⟨a, xs, rfl, SqL.of (s.sub _ _ hx), by rw [rr.len]; exact hl, d xs cs σ I H e ps P Q hp s rr h k⟩
end
def sAsg (f : EvF) (g : TgF) : SvF := fun e d => f e fun r e1 => ∃ c e2, frz e1 r = some (c, e2) ∧ g c e2 d.nx
section
variable {X : Cx} {F : Fr} {pos : Pos} {ex tg : Expr} {fe : EvF} {g : TgF} {sl : List Nat}
theorem ds_asg (h1 : DE X F ex fe) (h2 : DGt X F tg g sl) (hs : swapsWithSole [tg] ex pos.line X.env = pure false := by rfl) (hw : swappedStores [tg] ex X.env = pure none := by rfl)
    (h3 : (assignEach [tg] X.env).map (·.2) = [assign tg X.env] := by rfl) : DS X F (.Assign [tg] ex pos) (sAsg fe g) := by
  obtain ⟨t1, p1, d1⟩ := h1
  obtain ⟨t2, p2, d2⟩ := h2
  refine ⟨_, ps_asg p1 p2 hs hw h3, fun σ I H e ps d D hp s h k => d1 σ I H e ps _ _ s h fun x r e1 I1 H1 h1 s1 => ?_⟩
  obtain ⟨c, e2, hf, h2⟩ := h1
  obtain ⟨I2, _, s2⟩ := s1.frz hf
  exact d2 x c σ I2 H1 e2 ps d.nx _ (hp.no _) s2.weak (ST.temp (qs := []) (t := .imm c) s2) h2 fun σ' e' h' s' _ => k.nx σ' I2 H1 e' h' s'
end
/-! ### what is walked -/
def Holds (K : PySem.W.Frag) (I : Hp) (qs : Tm) : Prop := ∀ p ∈ qs, ∀ c, p.2 = Rv.im c → Rep K I p.1 c
theorem ST.holds {F : Fr} {σ : L2.St} {I H : Hp} {e : En} {ps qs : Tm} (s : ST F σ I H e (ps ++ qs)) : Holds F.K I qs := fun p hp c hc => by
  obtain ⟨l1, l2, rfl⟩ := List.append_of_mem hp
  obtain ⟨x, r⟩ := p
  have hc' : r = Rv.im c := hc
  subst hc'
  rw [← List.append_assoc] at s
  exact ST.temp (t := .imm c) s
/-- J walks over the things ds, as long as qs are held -/
structure ItD (K : PySem.W.Frag) (J : It) (qs : Tm) (ds : List D) : Prop where
  go : ∀ (I H : Hp) (i : Nat), Sub I H → Holds K I qs → i < ds.length → J.go i H
  stop : ∀ (I H : Hp), Sub I H → Holds K I qs → J.stop ds.length H
  yld : ∀ (I H : Hp) (i : Nat) (x : V) (H' : Hp), Sub I H → Holds K I qs → i < ds.length → J.yld i H x H' → ∃ I' d, Grow I H I' H' ∧ ds[i]? = some d ∧ Rep K I' x d
abbrev EvI := En → (List D → En → Prop) → Prop
def DTI (F : Fr) (wi : TI) (f : EvI) : Prop := ∀ (σ : L2.St) (I H : Hp) (e : En) (ps : Tm) (P : List D → En → Prop) (R : It → Hp → Prop), ST F σ I H e ps → f e P →
  (∀ J ds qs e' I' H', P ds e' → Imms qs → ST F σ I' H' e' (ps ++ qs) → ItD F.K J qs ds → R J H') → wi σ H R
structure DI (X : Cx) (F : Fr) (tg it : Expr) (f : EvI) : Prop where
  ex : ∃ wi, PI X tg it wi ∧ DTI F wi f
/-- a list, a tuple, a text -/
def iAny (K : PySem.W.Frag) (tl : TE) : TI := fun σ H R => tl σ H fun x H1 => (∃ a, x = .ref a ∧ (∃ xs, SqL K H1 a xs) ∧ R (Itl K a) H1) ∨ (∃ a, x = .ref a ∧ (∃ xs, SqT K H1 a xs) ∧ R (Itt K a) H1) ∨ ∃ z, x = .str z ∧ R (Its z) H1
theorem pi_any {X : Cx} {tg l : Expr} {tl : TE} (hl : PE X l tl) : PI X tg l (iAny X.K tl) := by
  constructor
  intro pins s σ H R I h
  apply thn (hl.run pins s σ H _ I h)
  rintro v s1 ⟨x, H1, I1, r1, ⟨a, rfl, ⟨xs, hq⟩, q⟩ | ⟨a, rfl, ⟨xs, hq⟩, q⟩ | ⟨z, rfl, q⟩⟩
  · cases r1
    obtain ⟨its, _, pl, _⟩ := I1.list hq
    apply wpAny_pyIter_list pl.isList
    exact pi_one (tk := s1.toks) I1 _ (turn_list a _) ⟨_, Heap.get?_push_size _ rfl, rfl, rfl⟩ q
  · cases r1
    obtain ⟨its, _, pl, _⟩ := I1.tuple hq
    apply wpAny_pyIter_tuple (items := its.toArray) pl
    exact pi_one (tk := s1.toks) I1 _ (turn_tuple a _) ⟨_, Heap.get?_push_size _ rfl, rfl, rfl⟩ q
  · obtain ⟨t, rfl⟩ := r1
    cases ha : z.cps.all (· < 128) with
    | false =>
      apply wpAny_pyIter_wide ha
      exact pi_one (tk := s1.toks) I1 _ (turn_str _ z t _ (.inr rfl)) ⟨_, Heap.get?_push_size _ rfl, rfl, rfl⟩ q
    | true =>
      apply wpAny_pyIter_ascii ha
      exact pi_one (tk := s1.toks) I1 _ (turn_str _ z t _ (.inl rfl)) ⟨_, Heap.get?_push_size _ rfl, rfl, rfl⟩ q
def chars (z : Str) : List D := z.cps.toList.map fun c => .str ⟨#[c]⟩
def items : D → Option (List D)
  | .lst ds => some ds
  | .fls ds => some ds
  | .tup ds => some ds
  | .ftp ds => some ds
  | .str z => some (chars z)
  | _ => none
def wSeq (f : EvF) : EvI := fun e P => f e fun r e1 => ∃ c e2 ds, frz e1 r = some (c, e2) ∧ items c = some ds ∧ P ds e2
def rngD (lo c : Int) (n : Nat) : List D := (List.range n).map fun i : Nat => .int (lo + (i : Int) * c)
def wRng1 (f : EvA) : EvI := fun e P => f e fun rs e1 => ∃ j, vals e1 rs = some [.int j] ∧ -(2 ^ 62) ≤ j ∧ j < 2 ^ 62 ∧ P (rngD 0 1 j.toNat) e1
def wRng2 (f : EvA) : EvI := fun e P => f e fun rs e1 => ∃ i j, vals e1 rs = some [.int i, .int j] ∧ (-(2 ^ 62) ≤ i ∧ i < 2 ^ 62 ∧ -(2 ^ 62) ≤ j ∧ j < 2 ^ 62) ∧ P (rngD i 1 (j - i).toNat) e1
def wRng3 (f : EvA) : EvI := fun e P => f e fun rs e1 => ∃ i j c n, vals e1 rs = some [.int i, .int j, .int c] ∧ RgC i j c n ∧ P (rngD i c n) e1
def enumD (ds : List D) : List D := ds.mapIdx fun i d => .tup [.int i, d]
def wEnum (f : EvF) : EvI := fun e P => f e fun r e1 => ∃ c e2 ds, frz e1 r = some (c, e2) ∧ c = .lst ds ∧ P (enumD ds) e2
section
variable {K : PySem.W.Frag}
theorem itd_list {a : Addr} {x : V} {c : D} {xs : List V} {ds : List D} (hx : x = .ref a) (h : ∀ I H, Sub I H → Rep K I x c → ∃ xs, SqL K H a xs ∧ Reps K I xs ds) : ItD K (Itl K a) [(x, .im c)] ds := by
  have hd : ∀ I H, Sub I H → Holds K I [(x, .im c)] → ∃ xs, SqL K H a xs ∧ Reps K I xs ds := fun I H s q => h I H s (q (x, .im c) (by simp) c rfl)
  refine ⟨fun I H i s q hi => ?_, fun I H s q => ?_, fun I H i y H' s q hi hy => ?_⟩
  · obtain ⟨xs, q1, r⟩ := hd I H s q
    exact ⟨xs, xs[i]'(by rw [r.len]; exact hi), q1, List.getElem?_eq_getElem _⟩
  · obtain ⟨xs, q1, r⟩ := hd I H s q
    exact ⟨xs, q1, Nat.le_of_eq r.len⟩
  · obtain ⟨xs, q1, r⟩ := hd I H s q
    obtain ⟨rfl, h2⟩ := hy
    obtain ⟨d, e1, e2⟩ := r.get' (h2 xs q1)
    exact ⟨I, d, Grow.refl s, e1, e2⟩
theorem itd_tup {a : Addr} {x : V} {c : D} {ds : List D} (h : ∀ I H, Sub I H → Rep K I x c → ∃ xs, SqT K H a xs ∧ Reps K I xs ds) : ItD K (Itt K a) [(x, .im c)] ds := by
  have hd : ∀ I H, Sub I H → Holds K I [(x, .im c)] → ∃ xs, SqT K H a xs ∧ Reps K I xs ds := fun I H s q => h I H s (q (x, .im c) (by simp) c rfl)
  refine ⟨fun I H i s q hi => ?_, fun I H s q => ?_, fun I H i y H' s q hi hy => ?_⟩
  · obtain ⟨xs, q1, r⟩ := hd I H s q
    exact ⟨xs, xs[i]'(by rw [r.len]; exact hi), q1, List.getElem?_eq_getElem _⟩
  · obtain ⟨xs, q1, r⟩ := hd I H s q
    exact ⟨xs, q1, Nat.le_of_eq r.len⟩
  · obtain ⟨xs, q1, r⟩ := hd I H s q
    obtain ⟨rfl, h2⟩ := hy
    obtain ⟨d, e1, e2⟩ := r.get' (h2 xs q1)
    exact ⟨I, d, Grow.refl s, e1, e2⟩
theorem itd_str {z : Str} {qs : Tm} : ItD K (Its z) qs (chars z) := by
  have hl : (chars z).length = z.cps.size := by unfold chars; simp
  refine ⟨fun I H i s q hi => by rw [hl] at hi; exact hi, fun I H s q => by rw [hl]; exact Nat.le_refl _, fun I H i y H' s q hi hy => ?_⟩
  obtain ⟨rfl, c, h1, rfl⟩ := hy
  refine ⟨I, .str ⟨#[c]⟩, Grow.refl s, ?_, .str _⟩
  unfold chars
  rw [List.getElem?_map, Array.getElem?_toList, h1]
  rfl
theorem rngD_len {lo c : Int} {n : Nat} : (rngD lo c n).length = n := by unfold rngD; simp
theorem rngD_at {lo c : Int} {n i : Nat} (h : i < n) : (rngD lo c n)[i]? = some (.int (lo + (i : Int) * c)) := by unfold rngD; simp [h]
theorem itd_rng {lo : Int} {n : Nat} {qs : Tm} : ItD K (Itr lo n) qs (rngD lo 1 n) := by
  refine ⟨fun I H i s q hi => by rw [rngD_len] at hi; exact hi, fun I H s q => by rw [rngD_len]; exact Nat.le_refl _, fun I H i y H' s q hi hy => ?_⟩
  obtain ⟨rfl, rfl⟩ := hy
  rw [rngD_len] at hi
  exact ⟨I, _, Grow.refl s, rngD_at hi, by rw [Int.mul_one]; exact .int _⟩
theorem itd_rngC {lo c : Int} {n : Nat} {qs : Tm} : ItD K (Itc lo c n) qs (rngD lo c n) := by
  refine ⟨fun I H i s q hi => by rw [rngD_len] at hi; exact hi, fun I H s q => by rw [rngD_len]; exact Nat.le_refl _, fun I H i y H' s q hi hy => ?_⟩
  obtain ⟨rfl, rfl⟩ := hy
  rw [rngD_len] at hi
  exact ⟨I, _, Grow.refl s, rngD_at hi, .int _⟩
end
theorem imms1 {x : V} {c : D} : Imms [(x, .im c)] := fun p hp => by
  rw [List.mem_singleton] at hp
  subst hp
  exact ⟨c, rfl⟩
theorem imms0 : Imms [] := fun p hp => by simp at hp
section
variable {X : Cx} {F : Fr} {tg a b c : Expr} {f : EvF} {g : EvA} {p pos : Pos}
theorem di_seq (h : DE X F a f) (hK : F.K = X.K := by first | rfl | assumption) : DI X F tg a (wSeq f) := by
  obtain ⟨t, p, d⟩ := h
  refine ⟨_, pi_any p, fun σ I H e ps P R s h k => ?_⟩
  refine d σ I H e ps _ _ s h fun x r e1 I1 H1 h1 s1 => ?_
  obtain ⟨c, e2, ds, hf, hi, h2⟩ := h1
  obtain ⟨I2, _, s2⟩ := s1.frz hf
  have rx : Rep F.K I2 x c := ST.temp (qs := []) (t := .imm c) s2
  cases c with
  | lst ds' =>
    cases hi
    cases rx with
    | @lst a' xs _ hx rr => exact .inl ⟨a', rfl, ⟨xs, SqL.of (s2.sub _ _ hx)⟩, by
        rw [← hK]
        refine k _ ds _ e2 I2 H1 h2 imms1 s2 (itd_list (xs := xs) rfl fun I' H' s' r' => ?_)
        cases r' with
        | lst hx' rr' => exact ⟨_, SqL.of (s' _ _ hx'), rr'⟩⟩
  | fls ds' =>
    cases hi
    cases rx with
    | @fls a' xs _ hx rr => exact .inl ⟨a', rfl, ⟨xs, by rw [← hK]; exact Le.sqL s2.sub hx⟩, by
        rw [← hK]
        refine k _ ds _ e2 I2 H1 h2 imms1 s2 (itd_list (xs := xs) rfl fun I' H' s' r' => ?_)
        cases r' with
        | fls hx' rr' => exact ⟨_, Le.sqL s' hx', rr'⟩⟩
  | tup ds' =>
    cases hi
    cases rx with
    | @tup a' xs _ hx rr => exact .inr (.inl ⟨a', rfl, ⟨xs, SqT.of (s2.sub _ _ hx)⟩, by
        rw [← hK]
        refine k _ ds _ e2 I2 H1 h2 imms1 s2 (itd_tup fun I' H' s' r' => ?_)
        cases r' with
        | tup hx' rr' => exact ⟨_, SqT.of (s' _ _ hx'), rr'⟩⟩)
  | ftp ds' =>
    cases hi
    cases rx with
    | @ftp a' xs _ hx rr => exact .inr (.inl ⟨a', rfl, ⟨xs, by rw [← hK]; exact Le.sqT s2.sub hx⟩, by
        rw [← hK]
        refine k _ ds _ e2 I2 H1 h2 imms1 s2 (itd_tup fun I' H' s' r' => ?_)
        cases r' with
        | ftp hx' rr' => exact ⟨_, Le.sqT s' hx', rr'⟩⟩)
  | str z =>
    cases hi
    cases rx
    exact .inr (.inr ⟨z, rfl, k _ _ _ e2 I2 H1 h2 imms1 s2 itd_str⟩)
  | _ => cases hi
theorem VwRs.ints1 {K : PySem.W.Frag} {I H : Hp} {xs : List V} {j : Int} (h : VwRs K I H xs [.int j]) : xs = [.int j] := by
  cases h with
  | cons h1 h2 => cases h2; rw [h1.int]
theorem VwRs.ints2 {K : PySem.W.Frag} {I H : Hp} {xs : List V} {i j : Int} (h : VwRs K I H xs [.int i, .int j]) : xs = [.int i, .int j] := by
  cases h with
  | cons h1 h2 => rw [h1.int, h2.ints1]
theorem VwRs.ints3 {K : PySem.W.Frag} {I H : Hp} {xs : List V} {i j l : Int} (h : VwRs K I H xs [.int i, .int j, .int l]) : xs = [.int i, .int j, .int l] := by
  cases h with
  | cons h1 h2 => rw [h1.int, h2.ints2]
theorem di_rng1 (hg : Gl X "range") (hm : X.mg "range" = none) (h : DA X F [a] g) (hs : starEach [a] X.env = [(false, eval a X.env)] := by rfl) : DI X F tg (.Call (.Name "range" p) [a] [] pos) (wRng1 g) := by
  obtain ⟨t, q, d⟩ := h
  refine ⟨_, pi_range1 hg hm q hs, fun σ I H e ps P R s h k => ?_⟩
  refine d σ I H e ps _ _ s h fun xs rs e1 I1 H1 h1 hl s1 => ?_
  obtain ⟨j, v, b1, b2, h2⟩ := h1
  exact ⟨j, (s1.vws hl v).ints1, b1, b2, k _ _ [] e1 I1 H1 h2 imms0 (by rw [List.append_nil]; exact s1.weak) itd_rng⟩
theorem di_rng2 (hg : Gl X "range") (hm : X.mg "range" = none) (h : DA X F [a, b] g) (hs : starEach [a, b] X.env = [(false, eval a X.env), (false, eval b X.env)] := by rfl) (hs2 : starEach [b] X.env = [(false, eval b X.env)] := by rfl) :
    DI X F tg (.Call (.Name "range" p) [a, b] [] pos) (wRng2 g) := by
  obtain ⟨t, q, d⟩ := h
  refine ⟨_, pi_range2 hg hm q hs hs2, fun σ I H e ps P R s h k => ?_⟩
  refine d σ I H e ps _ _ s h fun xs rs e1 I1 H1 h1 hl s1 => ?_
  obtain ⟨i, j, v, b1, h2⟩ := h1
  exact ⟨i, j, (s1.vws hl v).ints2, b1, k _ _ [] e1 I1 H1 h2 imms0 (by rw [List.append_nil]; exact s1.weak) itd_rng⟩
theorem di_rng3 (hg : Gl X "range") (hm : X.mg "range" = none) (h : DA X F [a, b, c] g) (hs : starEach [a, b, c] X.env = (false, eval a X.env) :: starEach [b, c] X.env := by rfl) (hpl : (backTo pos (starEach [b, c] X.env)).any (·.1) = false := by rfl) :
    DI X F tg (.Call (.Name "range" p) [a, b, c] [] pos) (wRng3 g) := by
  obtain ⟨t, q, d⟩ := h
  refine ⟨_, pi_range3 hg hm q hs hpl, fun σ I H e ps P R s h k => ?_⟩
  refine d σ I H e ps _ _ s h fun xs rs e1 I1 H1 h1 hl s1 => ?_
  obtain ⟨i, j, l, n, v, b1, h2⟩ := h1
  exact ⟨i, j, l, n, (s1.vws hl v).ints3, b1, k _ _ [] e1 I1 H1 h2 imms0 (by rw [List.append_nil]; exact s1.weak) itd_rngC⟩
/-- enumerate of a list -/
theorem di_enum {elts : List Expr} {kk : Nat} {tpos : Pos} (hg : Gl X "enumerate") (hm : X.mg "enumerate" = none) (h : DE X F a f) (hK : F.K = X.K := by first | rfl | assumption) (hs : starEach [a] X.env = [(false, eval a X.env)] := by rfl) :
    DI X F (.Tuple elts kk tpos) (.Call (.Name "enumerate" p) [a] [] pos) (wEnum f) := by
  obtain ⟨t, q, d⟩ := h
  refine ⟨_, pi_enum hg hm (pa_cons q pa_nil hs) hs, fun σ I H e ps P R s h k => ?_⟩
  refine d σ I H e ps _ _ s h fun x r e1 I1 H1 h1 s1 => ?_
  obtain ⟨c, e2, ds, hf, rfl, h2⟩ := h1
  obtain ⟨I2, _, s2⟩ := s1.frz hf
  have rx : Rep F.K I2 x (.lst ds) := ST.temp (qs := []) (t := .imm (.lst ds)) s2
  cases rx with
  | @lst a' xs _ hx rr =>
    refine ⟨a', xs, rfl, SqL.of (s2.sub _ _ hx), ?_⟩
    rw [← hK]
    have hd : ∀ I H, Sub I H → Holds F.K I [(V.ref a', .im (.lst ds))] → ∃ xs, SqL F.K H a' xs ∧ Reps F.K I xs ds := fun I H s q => by
      cases q (V.ref a', .im (.lst ds)) (by simp) _ rfl with
      | lst hx' rr' => exact ⟨_, SqL.of (s _ _ hx'), rr'⟩
    have hlen : (enumD ds).length = ds.length := by unfold enumD; simp
    refine k _ _ _ e2 I2 H1 h2 imms1 s2 ⟨fun I H i s q hi => ?_, fun I H s q => ?_, fun I H i y H' s q hi hy => ?_⟩
    · obtain ⟨xs, q1, r⟩ := hd I H s q
      exact ⟨xs, xs[i]'(by rw [r.len, ← hlen]; exact hi), q1, List.getElem?_eq_getElem _⟩
    · obtain ⟨xs, q1, r⟩ := hd I H s q
      exact ⟨xs, q1, by rw [hlen, r.len]; exact Nat.le_refl _⟩
    · obtain ⟨xs, q1, r⟩ := hd I H s q
      obtain ⟨T, z, rfl, hT, rfl, h3⟩ := hy
      obtain ⟨d, e1, e2⟩ := r.get' (h3 xs q1)
      have g := Grow.allocI (o := .tup [.int (i : Nat), z]) s hT
      refine ⟨_, .tup [.int (i : Nat), d], g, ?_, .tup upd_same (.cons (.int _) (.cons (e2.mono g.le) .nil))⟩
      unfold enumD
      rw [List.getElem?_mapIdx, e1]
      rfl
end
/-! ### for -/
def sFor (w : EvI) (g : TgF) (body : SvF) : SvF := fun e d => w e fun ds e1 => ∃ W : Nat → En → Prop, W 0 e1 ∧ (∀ i c e2, ds[i]? = some c → W i e2 → g c e2 fun e3 => body e3 { d with nx := W (i + 1), ct := W (i + 1), bk := d.nx }) ∧ ∀ e2, W ds.length e2 → d.nx e2
def sWhile (c : EvT) (body : SvF) : SvF := fun e d => ∃ W : Nat → En → Prop, (∃ m, W m e) ∧ ∀ m e1, W m e1 → c e1 fun b e2 => if b = true then body e2 { d with nx := fun e3 => ∃ m', m' < m ∧ W m' e3, ct := fun e3 => ∃ m', m' < m ∧ W m' e3, bk := d.nx } else d.nx e2
theorem imms_app {ps qs : Tm} (h : Imms ps) (h' : Imms qs) : Imms (ps ++ qs) := fun p hp => by
  rcases List.mem_append.mp hp with m | m
  · exact h p m
  · exact h' p m
theorem ST.drop {F : Fr} {σ : L2.St} {I H : Hp} {e : En} {ps qs : Tm} {x : V} {r : Rv} (s : ST F σ I H e (ps ++ qs ++ [(x, r)])) : ST F σ I H e (ps ++ [(x, r)]) := by
  have s0 : ST F σ I H e ps := s.weak.weak
  cases r with
  | slot i =>
    obtain ⟨h1, t, h2⟩ := s.ali (x, .slot i) (by simp) i rfl
    exact s0.pushS h1 h2
  | ent t =>
    refine s0.pushE (ST.temp (qs := []) s) fun a ha => ⟨fun z => ?_, ?_⟩
    · obtain ⟨j, u, q, m⟩ := mem_adr.mp z
      have lj := (List.getElem?_eq_some_iff.mp q).1
      have lst := tm_at (ps := ps ++ qs) (qs := []) (x := x) (r := .ent t) s.len
      have z := s.env.sep j _ u t a (by rw [tn_app, tn_app, ← List.append_assoc, ← List.append_assoc, List.append_assoc, List.getElem?_append_left lj]; exact q) lst.2 m ha
      rw [List.length_append, s.len] at lj
      unfold tn at lj
      rw [List.length_map] at lj
      rw [List.length_append] at z
      omega
    · have lst := tm_at (ps := ps ++ qs) (qs := []) (x := x) (r := .ent t) s.len
      exact s.base.own a (mem_adr.mpr ⟨_, t, lst.2, ha⟩)
theorem EdR.more {F : Fr} {ps qs : Tm} {d : Ed} {D : Ends} (h : EdR F ps d D) : EdR F (ps ++ qs) d D :=
  ⟨fun σ' I' H' e' h1 s => h.nx σ' I' H' e' h1 s.weak, fun x r σ' I' H' e' h1 s => h.rt x r σ' I' H' e' h1 (ST.drop s), fun σ' I' H' e' h1 s => h.bk σ' I' H' e' h1 s.weak, fun σ' I' H' e' h1 s => h.ct σ' I' H' e' h1 s.weak⟩
section
variable {X : Cx} {F : Fr} {tg it c : Expr} {w : EvI} {g : TgF} {f : SvF} {ft : EvT} {body : List Stmt} {pos : Pos} {sl : List Nat}
theorem ds_for (hp : PassesOwn (model X.prog X.w) X.A X.env X.xe) (hc : X.calm = true) (hi : DI X F tg it w) (hg : DGt X F tg g sl) (hb : DSs X F body f) (hs : ∀ x, foldedSetIterable it X.env x = pure x := by intro _; rfl) : DS X F (.For tg it body [] pos) (sFor w g f) := by
  obtain ⟨wi, pi, di⟩ := hi
  obtain ⟨tg', pg, dg⟩ := hg
  obtain ⟨tb, pb, db⟩ := hb
  refine ⟨_, ps_for hp hc pi pg pb hs, fun σ I H e ps d D hps s h k => ?_⟩
  refine di σ I H e ps _ _ s h fun J ds qs e1 I1 H1 h1 hqs s1 itd => ?_
  obtain ⟨W, w0, turn, fin⟩ := h1
  refine ⟨fun i m σ H => m = ds.length - i ∧ i ≤ ds.length ∧ ∃ e I, W i e ∧ ST F σ I H e (ps ++ qs), ⟨ds.length, by simp, Nat.zero_le _, e1, I1, w0, s1⟩, ?_⟩
  rintro i m σ2 H2 ⟨rfl, hi, e2, I2, w2, s2⟩
  by_cases hlt : i < ds.length
  · refine .inr ⟨itd.go I2 H2 i s2.sub s2.holds hlt, fun σ' H' => ∃ e I, W (i + 1) e ∧ ST F σ' I H' e (ps ++ qs), fun σ' H' ⟨e', I', z1, z2⟩ => ⟨ds.length - (i + 1), by omega, rfl, hlt, e', I', z1, z2⟩, fun x H3 hy => ?_⟩
    obtain ⟨I3, c, g3, hc3, rx⟩ := itd.yld I2 H2 i x H3 s2.sub s2.holds hlt hy
    refine dg x c σ2 I3 H3 e2 (ps ++ qs) _ _ ((imms_app hps hqs).no _) (s2.grow g3) rx (turn i c e2 hc3 w2) fun σ4 e4 h4 s4 _ => ?_
    refine db σ4 I3 H3 e4 (ps ++ qs) _ _ (imms_app hps hqs) s4 h4 ⟨fun σ' I' H' e' h5 s5 => ⟨e', I', h5, s5⟩, fun x r σ' I' H' e' h5 s5 => k.rt x r σ' I' H' e' h5 (ST.drop s5), fun σ' I' H' e' h5 s5 => k.nx σ' I' H' e' h5 s5.weak, fun σ' I' H' e' h5 s5 => ⟨e', I', h5, s5⟩⟩
  · have hi' : i = ds.length := by omega
    subst hi'
    exact .inl ⟨itd.stop I2 H2 s2.sub s2.holds, k.nx σ2 I2 H2 e2 (fin e2 w2) s2.weak⟩
theorem ds_while (hp : PassesOwn (model X.prog X.w) X.A X.env X.xe) (hc : DTe X F c ft) (hb : DSs X F body f) : DS X F (.While c body [] pos) (sWhile ft f) := by
  obtain ⟨tc, pc, dc⟩ := hc
  obtain ⟨tb, pb, db⟩ := hb
  refine ⟨_, ps_while hp pc pb, fun σ I H e ps d D hps s h k => ?_⟩
  obtain ⟨W, ⟨m0, w0⟩, turn⟩ := h
  refine ⟨fun m σ H => ∃ e I, W m e ∧ ST F σ I H e ps, ⟨m0, e, I, w0, s⟩, ?_⟩
  rintro m σ1 H1 ⟨e1, I1, w1, s1⟩
  refine dc σ1 I1 H1 e1 ps _ _ s1 (turn m e1 w1) fun b e2 I2 H2 h2 s2 => ?_
  cases b with
  | true =>
    refine ⟨fun σ' H' => ∃ m', m' < m ∧ ∃ e I, W m' e ∧ ST F σ' I H' e ps, fun σ' H' z => z, ?_⟩
    exact db σ1 I2 H2 e2 ps _ _ hps s2 h2 ⟨fun σ' I' H' e' ⟨m', z1, z2⟩ s5 => ⟨m', z1, e', I', z2, s5⟩, k.rt, k.nx, fun σ' I' H' e' ⟨m', z1, z2⟩ s5 => ⟨m', z1, e', I', z2, s5⟩⟩
  | false => exact k.nx σ1 I2 H2 e2 h2 s2
end
/-! ### list comprehensions -/
def tOf (F : Fr) (f : EvF) : TE := fun σ H Q => ∃ (I : Hp) (e : En) (ps : Tm) (P : Rv → En → Prop), ST F σ I H e ps ∧ f e P ∧ ∀ x r e' I' H', P r e' → ST F σ I' H' e' (ps ++ [(x, r)]) → Q x H'
def tOfT (F : Fr) (f : EvT) : TT := fun σ H Q => ∃ (I : Hp) (e : En) (ps : Tm) (P : Bool → En → Prop), ST F σ I H e ps ∧ f e P ∧ ∀ b e' I' H', P b e' → ST F σ I' H' e' ps → Q b H'
def tOfG (F : Fr) (f : TgF) (sl : List Nat) : TG := fun v σ H Q => ∃ (c : D) (I : Hp) (e : En) (ps : Tm) (P : En → Prop), NoSl sl ps ∧ ST F σ I H e ps ∧ Rep F.K I v c ∧ f c e P ∧ ∀ σ' e', P e' → ST F σ' I H e' ps → SameOut sl σ σ' → Q σ' H
structure DTs (X : Cx) (F : Fr) (ifs : List Expr) (f : EvT) : Prop where
  ex : ∃ t, PTs X ifs t ∧ DTT F t f
def sYes : EvT := fun e P => P true e
section
variable {X : Cx} {F : Fr} {ex : Expr}
theorem DE.tof {f : EvF} (h : DE X F ex f) : PE X ex (tOf F f) := by
  obtain ⟨t, p, d⟩ := h
  exact ⟨fun pins s σ H Q I ⟨I', e, ps, P, st, hf, k⟩ => p.run pins s σ H Q I (d σ I' H e ps P Q st hf k)⟩
theorem DTs.tof {ifs : List Expr} {f : EvT} (h : DTs X F ifs f) : PTs X ifs (tOfT F f) := by
  obtain ⟨t, p, d⟩ := h
  exact ⟨fun pins s σ H Q I ⟨I', e, ps, P, st, hf, k⟩ => p.run pins s σ H Q I (d σ I' H e ps P Q st hf k)⟩
theorem DGt.tof {f : TgF} {sl : List Nat} (h : DGt X F ex f sl) : PG X ex (tOfG F f sl) := by
  obtain ⟨t, p, d⟩ := h
  exact ⟨fun pins s σ H v u Q I r ⟨c, I', e, ps, P, n, st, rc, hf, k⟩ => p.run pins s σ H v u Q I r (d v c σ I' H e ps P Q n st rc hf k)⟩
theorem dts_nil : DTs X F [] sYes := ⟨_, pts_nil, fun σ I H e ps P Q s h k => k true e I H h s⟩
theorem dts_one {f : EvT} (h : DTe X F ex f) : DTs X F [ex] f := by
  obtain ⟨t, p, d⟩ := h
  exact ⟨_, pts_one p, d⟩
end
def wipeE (e : En) : List Nat → En
  | [] => e
  | v :: vs => (wipeE e vs).set v none
/-- the names of a comprehension hold nothing ahead of it -/
def clearB (e : En) (vs : List Nat) : Bool := vs.all fun v => match e[v]? with
  | some (some _) => false
  | _ => true
/-- no exception leaves -/
def Fr.nox (F : Fr) : Fr := ⟨F.K, F.e0, F.I0, F.H0, fun _ _ _ _ => False, fun _ _ _ => False⟩
theorem frok_nox {F : Fr} : FrOk F.nox := fun _ _ _ _ _ _ _ _ _ _ h _ _ => h
section
variable {F : Fr} {σ σ' : L2.St} {I H I' H' : Hp} {e e' : En} {ps qs : Tm} {vs : List Nat}
theorem ST.nox (s : ST F σ I H e ps) : ST F.nox σ I H e ps := ⟨s.sub, s.len, s.env, s.ali, s.base⟩
theorem ST.unnox (s : ST F.nox σ I H e ps) : ST F σ I H e ps := ⟨s.sub, s.len, s.env, s.ali, s.base⟩
theorem wipeE_len : ∀ vs : List Nat, (wipeE e vs).length = e.length
  | [] => rfl
  | v :: vs => by unfold wipeE; rw [List.length_set, wipeE_len vs]
theorem wipeE_some {i : Nat} {t : Ent} : ∀ {vs : List Nat}, (wipeE e vs)[i]? = some (some t) → e[i]? = some (some t) ∧ i ∉ vs
  | [], h => ⟨h, by simp⟩
  | v :: vs, h => by
    unfold wipeE at h
    by_cases hi : i = v
    · subst hi
      have hl := (List.getElem?_eq_some_iff.mp h).1
      rw [List.length_set] at hl
      rw [List.getElem?_set_self hl] at h
      cases h
    · rw [List.getElem?_set_ne (Ne.symm hi)] at h
      obtain ⟨h1, h2⟩ := wipeE_some (vs := vs) h
      exact ⟨h1, by simp [hi, h2]⟩
theorem wipeE_out {i : Nat} : ∀ {vs : List Nat}, i ∉ vs → (wipeE e vs)[i]? = e[i]?
  | [], _ => rfl
  | v :: vs, h => by
    have h1 : v ≠ i := fun c => h (by rw [c]; exact List.mem_cons_self)
    have h2 : i ∉ vs := fun m => h (List.mem_cons_of_mem _ m)
    unfold wipeE
    rw [List.getElem?_set_ne h1]
    exact wipeE_out h2
theorem wipe_same (h : SameOut vs σ σ') : wipe σ' vs = wipe σ vs := by
  refine List.ext_getElem? fun i => ?_
  by_cases hi : i ∈ vs
  · have z : ∀ {τ : L2.St} {us : List Nat}, i ∈ us → (wipe τ us)[i]? = if i < τ.length then some none else none := fun {τ us} => by
      induction us with
      | nil => intro m; simp at m
      | cons v us ih =>
        intro m
        unfold wipe
        by_cases hv : v = i
        · subst hv
          rw [List.getElem?_set]
          simp [wipe_length]
        · rw [List.getElem?_set_ne hv]
          rcases List.mem_cons.mp m with q | q
          · exact absurd q.symm hv
          · exact ih q
    rw [z hi, z hi, h.1]
  · rw [wipe_out hi, wipe_out hi, h.2 i hi]
/-- slots forgotten, or read anew, where nothing is told of them -/
theorem ST.re (s : ST F σ I H e ps) (hl : e'.length = σ'.length) (h1 : ∀ (i : Nat) (t : Ent), e'[i]? = some (some t) → e[i]? = some (some t) ∧ σ'[i]? = σ[i]?) (h2 : ∀ p ∈ ps, ∀ i, p.2 = .slot i → σ'[i]? = σ[i]? ∧ e'[i]? = e[i]?) (hle : σ'.length = σ.length) : ST F σ' I H e' ps := by
  have le : e'.length = e.length := by rw [hl, hle, s.len]
  have h3 : ∀ (i : Nat) (t : Ent), (e' ++ tn ps)[i]? = some (some t) → (e ++ tn ps)[i]? = some (some t) ∧ (σ' ++ tv ps)[i]? = (σ ++ tv ps)[i]? := fun i t q => by
    by_cases hi : i < e'.length
    · rw [List.getElem?_append_left hi] at q
      obtain ⟨z1, z2⟩ := h1 i t q
      refine ⟨by rw [List.getElem?_append_left (by omega)]; exact z1, ?_⟩
      rw [List.getElem?_append_left (by omega), List.getElem?_append_left (by rw [← hle, ← hl]; exact hi)]
      exact z2
    · rw [List.getElem?_append_right (by omega)] at q
      refine ⟨by rw [List.getElem?_append_right (by omega), ← le]; exact q, ?_⟩
      rw [List.getElem?_append_right (by omega), List.getElem?_append_right (by omega), hle]
  have sl := s.env.len
  rw [List.length_append, List.length_append] at sl
  refine ⟨s.sub, hl, ⟨s.env.tab, by rw [List.length_append, List.length_append]; omega, fun i t q => ?_, fun i j t u a q1 q2 m1 m2 => s.env.sep i j t u a (h3 i t q1).1 (h3 j u q2).1 m1 m2⟩, fun p hp i q => ?_, ⟨s.base.imm, s.base.keep, s.base.tbl, fun a ha => s.base.own a ?_, s.base.new⟩⟩
  · obtain ⟨z1, z2⟩ := h3 i t q
    rw [z2]
    exact s.env.at_ i t z1
  · obtain ⟨z1, z2⟩ := h2 p hp i q
    rw [z1, z2]
    exact s.ali p hp i q
  · obtain ⟨i, t, q, m⟩ := mem_adr.mp ha
    exact mem_adr.mpr ⟨i, t, (h3 i t q).1, m⟩
theorem clear_no (s : ST F σ I H e ps) (h : clearB e vs = true) : NoSl vs ps := fun p hp j q m => by
  obtain ⟨_, t, ht⟩ := s.ali p hp j q
  unfold clearB at h
  have z := List.all_eq_true.mp h j m
  rw [ht] at z
  cases z
theorem ST.wipe (s : ST F σ I H e ps) (n : NoSl vs ps) : ST F (L2.wipe σ vs) I H (wipeE e vs) ps :=
  s.re (by rw [wipeE_len, wipe_length]; exact s.len) (fun i t q => by
    obtain ⟨h1, h2⟩ := wipeE_some q
    exact ⟨h1, wipe_out h2⟩) (fun p hp i q => ⟨wipe_out (n p hp i q), wipeE_out (n p hp i q)⟩) (wipe_length ..)
theorem ST.unwipe (s : ST F (L2.wipe σ vs) I H (wipeE e vs) ps) (n : NoSl vs ps) : ST F σ I H (wipeE e vs) ps :=
  s.re (by have := s.len; rw [wipe_length] at this; exact this) (fun i t q => ⟨q, (wipe_out (wipeE_some q).2).symm⟩) (fun p hp i q => ⟨(wipe_out (n p hp i q)).symm, rfl⟩) (wipe_length ..).symm
/-- an own thing that is held beside is changed -/
theorem ST.mutT {a : Addr} {d d' : D} {o : HO} {x : V} (s : ST F σ I H e (ps ++ (x, .ent (.own a d)) :: qs)) (w : OwnR F.K I (upd H a o) a d') : ST F σ I (upd H a o) e (ps ++ (x, .ent (.own a d')) :: qs) := by
  obtain ⟨h1, h2⟩ := tm_at (ps := ps) (qs := qs) (x := x) (r := .ent (.own a d)) s.len
  obtain ⟨g1, g2⟩ := tm_at (σ := σ) (e := e) (ps := ps) (qs := qs) (x := x) (r := .ent (.own a d')) s.len
  have r : EntR F.K I H x (.own a d) := s.temp
  have ec := tn_set (ps := ps) (qs := qs) (x := x) (r := .ent (.own a d)) (r' := .ent (.own a d')) s.len
  have tvq : tv (ps ++ (x, .ent (.own a d)) :: qs) = tv (ps ++ (x, .ent (.own a d')) :: qs) := tv_eq
  have ain : a ∈ adr (e ++ tn (ps ++ (x, .ent (.own a d)) :: qs)) := mem_adr.mpr ⟨_, _, h2, by simp⟩
  have other : ∀ {j : Nat} {u : Ent}, (e ++ tn (ps ++ (x, .ent (.own a d')) :: qs))[j]? = some (some u) → (j = σ.length + ps.length ∧ u = .own a d') ∨ (j ≠ σ.length + ps.length ∧ (e ++ tn (ps ++ (x, .ent (.own a d)) :: qs))[j]? = some (some u)) := fun {j u} q => by
    by_cases hj : j = σ.length + ps.length
    · subst hj
      rw [g2] at q
      cases q
      exact .inl ⟨rfl, rfl⟩
    · rw [← ec, List.getElem?_set_ne (Ne.symm hj)] at q
      exact .inr ⟨hj, q⟩
  have sub_adr : ∀ b, b ∈ adr (e ++ tn (ps ++ (x, .ent (.own a d')) :: qs)) → b ∈ adr (e ++ tn (ps ++ (x, .ent (.own a d)) :: qs)) := fun b hb => by
    obtain ⟨j, u, z, m⟩ := mem_adr.mp hb
    rcases other z with ⟨_, rfl⟩ | ⟨_, z⟩
    · simp at m
      subst m
      exact ain
    · exact mem_adr.mpr ⟨j, u, z, m⟩
  have hlen := s.env.len
  refine ⟨fun b u z => ?_, s.len, ⟨s.env.tab.upH (fun ps z => by obtain ⟨o', q1, q2⟩ := r.2.2.has; rw [q1] at z; exact q2.2 ps (Option.some.inj z)), ?_, fun j u z => ?_, fun j k u v b z1 z2 m1 m2 => ?_⟩, fun p hp i q => ?_, s.base.trans ⟨Le.refl, fun b u z nb _ => ?_, fun b ps z nb => ⟨ps, by rw [upd_ne (show b ≠ a from fun w => nb (by rw [w]; exact ain))]; exact z⟩, fun b hb => .inl (sub_adr b hb), fun b u z => .inl z⟩⟩
  · have hb : b ≠ a := fun w => by rw [w, r.2.1] at z; cases z
    rw [upd_ne hb]
    exact s.sub b u z
  · rw [← ec, List.length_set, hlen, tvq]
  · rcases other z with ⟨rfl, rfl⟩ | ⟨hj, z⟩
    · exact ⟨x, g1, r.1, r.2.1, w⟩
    · obtain ⟨y', e1, e2⟩ := s.env.at_ j u z
      refine ⟨y', by rw [← tvq]; exact e1, e2.mono Le.refl fun b hb => ⟨(e2.has hb).2, fun v hv => ?_⟩⟩
      have hba : b ≠ a := fun w => by
        subst w
        exact hj (s.env.sep j _ u _ b z h2 hb (by simp))
      rw [upd_ne hba]
      exact hv
  · have go : ∀ {j : Nat} {u : Ent}, (e ++ tn (ps ++ (x, .ent (.own a d')) :: qs))[j]? = some (some u) → b ∈ u.adr → ∃ u' : Ent, (e ++ tn (ps ++ (x, .ent (.own a d)) :: qs))[j]? = some (some u') ∧ b ∈ u'.adr := fun {j u} z m => by
      rcases other z with ⟨rfl, rfl⟩ | ⟨hj, z⟩
      · exact ⟨_, h2, m⟩
      · exact ⟨u, z, m⟩
    obtain ⟨u', w1, w2⟩ := go z1 m1
    obtain ⟨v', w3, w4⟩ := go z2 m2
    exact s.env.sep j k u' v' b w1 w3 w2 w4
  · rcases List.mem_append.mp hp with m | m
    · exact s.ali p (List.mem_append_left _ m) i q
    · rcases List.mem_cons.mp m with m | m
      · subst m; cases q
      · exact s.ali p (List.mem_append_right _ (List.mem_cons_of_mem _ m)) i q
  · have hb : b ≠ a := fun w => nb (w ▸ ain)
    rw [upd_ne hb]
    exact z
end
/-- [elt for target in source if ..]: the names' slots vs; W says what is gathered behind i things; elements leave the frame as it is -/
def eLc (w : EvI) (g : TgF) (tt : EvT) (f : EvF) (vs : List Nat) : EvF := fun e P => w e fun ds e1 => clearB e1 vs = true ∧ ds.length ≤ 1000000 ∧ ∃ W : Nat → List D → Prop, W 0 [] ∧
  (∀ i c acc, ds[i]? = some c → W i acc → g c e1 fun e3 => tt e3 fun b e4 => if b = true then f e4 fun r e5 => ∃ d e6, frz e5 r = some (d, e6) ∧ wipeE e6 vs = wipeE e1 vs ∧ W (i + 1) (acc ++ [d]) else wipeE e4 vs = wipeE e1 vs ∧ W (i + 1) acc) ∧
  ∀ acc, W ds.length acc → ∀ a, P (.ent (.own a (.lst acc))) (wipeE e1 vs)
section
variable {X : Cx} {F : Fr} {elt tg iter : Expr} {ifs : List Expr} {scope : Scope} {own : List (Str × Nat)} {pos : Pos} {w : EvI} {g : TgF} {tt : EvT} {f : EvF} {sl : List Nat}
theorem DT.lc {wi : TI} {vs : List Nat} (hw : DTI F wi w) (hsl : ∀ j ∈ sl, j ∈ vs) : DT F (tLc wi (tOfG F.nox g sl) (tOfT F.nox tt) (tOf F.nox f) vs) (eLc w g tt f vs) := fun σ I H e ps P Q s h k => by
  refine hw σ I H e ps _ _ s h fun J ds qs e1 I1 H1 h1 hqs s1 itd => ?_
  obtain ⟨hcl, hz, W, w0, turn, fin⟩ := h1
  have nps : NoSl vs (ps ++ qs) := clear_no s1 hcl
  intro D hD
  have sW := s1.wipe nps
  have s0 : ST F (L2.wipe σ vs) I1 (upd H1 D (.lst [])) (wipeE e1 vs) (ps ++ qs ++ [(V.ref D, .ent (.own D (.lst [])))]) := sW.pushG (t := .own D (.lst [])) (Grow.alloc s1.sub hD) ⟨rfl, s1.sub.none hD, [], upd_same, .nil⟩ fun a ha => by simp at ha; subst ha; exact hD
  have nD : ∀ acc : List TK.D, NoSl vs (ps ++ qs ++ [(V.ref D, .ent (.own D (.lst acc)))]) := fun acc p hp j q => by
    rcases List.mem_append.mp hp with m | m
    · exact nps p m j q
    · rw [List.mem_singleton] at m
      subst m
      cases q
  have wE : wipeE e1 vs = e1 := by
    refine List.ext_getElem? fun i => ?_
    by_cases hi : i ∈ vs
    · have z := List.all_eq_true.mp hcl i hi
      have lw := wipeE_len (e := e1) vs
      cases q : e1[i]? with
      | none =>
        rw [List.getElem?_eq_none_iff] at q ⊢
        omega
      | some o =>
        cases o with
        | some t => rw [q] at z; cases z
        | none =>
          cases q2 : (wipeE e1 vs)[i]? with
          | none =>
            rw [List.getElem?_eq_none_iff] at q2
            have := (List.getElem?_eq_some_iff.mp q).1
            omega
          | some o2 =>
            cases o2 with
            | none => rfl
            | some t => exact absurd hi (wipeE_some q2).2
    · exact wipeE_out hi
  refine ⟨fun i m H => m = ds.length - i ∧ i ≤ ds.length ∧ ∃ (acc : List TK.D) (I : Hp), acc.length ≤ i ∧ W i acc ∧ ST F (L2.wipe σ vs) I H (wipeE e1 vs) (ps ++ qs ++ [(V.ref D, .ent (.own D (.lst acc)))]), ⟨ds.length, by simp, Nat.zero_le _, [], I1, Nat.zero_le _, w0, s0⟩, ?_⟩
  rintro i m H2 ⟨rfl, hi, acc, I2, hacc, w2, s2⟩
  have hold : Holds F.K I2 qs := (ST.weak (ps := ps ++ qs) s2).holds
  by_cases hlt : i < ds.length
  · refine .inr ⟨itd.go I2 H2 i s2.sub hold hlt, fun H' => ∃ (acc : List TK.D) (I : Hp), acc.length ≤ i + 1 ∧ W (i + 1) acc ∧ ST F (L2.wipe σ vs) I H' (wipeE e1 vs) (ps ++ qs ++ [(V.ref D, .ent (.own D (.lst acc)))]), fun H' z => ⟨ds.length - (i + 1), by omega, rfl, hlt, z⟩, fun x H3 hy => ?_⟩
    obtain ⟨I3, c, g3, hc3, rx⟩ := itd.yld I2 H2 i x H3 s2.sub hold hlt hy
    have s3 := (s2.grow g3).nox
    have tu := turn i c acc hc3 w2
    rw [← wE] at tu
    refine ⟨c, I3, wipeE e1 vs, _, _, fun p hp j q m => nD acc p hp j q (hsl j m), s3, rx, tu, fun σ4 e4 h4 s4 so => ?_⟩
    rw [wE] at h4
    have sw : wipe σ4 vs = wipe σ vs := by
      have z := wipe_same (vs := vs) (σ := L2.wipe σ vs) (σ' := σ4) ⟨so.1, fun j hj => so.2 j fun m => hj (hsl j m)⟩
      rw [z]
      exact wipe_same (vs := vs) ⟨wipe_length .., fun j hj => wipe_out hj⟩
    refine ⟨sw, I3, e4, _, _, s4, h4, fun b e5 I5 H5 h5 s5 => ?_⟩
    cases b with
    | false =>
      obtain ⟨q1, q2⟩ := h5
      have s6 := s5.unnox.wipe (vs := vs) (nD acc)
      rw [sw, q1] at s6
      exact ⟨acc, I5, by omega, q2, s6⟩
    | true =>
      refine ⟨I5, e5, _, _, s5, h5, fun y r e6 I6 H6 h6 s6 => ?_⟩
      obtain ⟨d, e7, hf, q1, q2⟩ := h6
      obtain ⟨I7, _, s7⟩ := s6.unnox.frz hf
      have ry : Rep F.K I7 y d := ST.temp (qs := []) (t := .imm d) s7
      have s8 := ST.weak s7
      have rD : EntR F.K I7 H6 (.ref D) (.own D (.lst acc)) := ST.temp (ps := ps ++ qs) (qs := []) s8
      obtain ⟨_, _, xs, hx, rr⟩ := rD
      have lx := rr.len
      refine ⟨xs, hx, by rw [lx]; exact Nat.lt_of_le_of_lt (m := 1000000) (by omega) (by decide), acc ++ [d], I7, by simp; omega, q2, ?_⟩
      have s9 := ST.mutT (ps := ps ++ qs) (qs := []) (d' := .lst (acc ++ [d])) (o := .lst (xs ++ [y])) s8 ⟨xs ++ [y], upd_same, rr.app (.cons ry .nil)⟩
      have s10 := s9.wipe (vs := vs) (nD _)
      rw [sw, q1] at s10
      exact s10
  · have hi' : i = ds.length := by omega
    subst hi'
    refine .inl ⟨itd.stop I2 H2 s2.sub hold, ?_⟩
    exact k _ _ _ I2 H2 (fin acc w2 D) (ST.drop ((s2.unwipe (nD acc))))
end
/-! ### comprehensions as expressions and stored -/
section
variable {X : Cx} {F : Fr} {elt tg iter : Expr} {ifs : List Expr} {scope : Scope} {own : List (Str × Nat)} {pos : Pos} {w : EvI} {g : TgF} {tt : EvT} {f : EvF} {sl : List Nat}
theorem de_lc (hc : X.calm = true) (hN : X.N.Nodup) (hi : DI X F tg iter w) (ok : BlkOk X.N X.env.scope scope own)
    (hg : ∀ (s : Shared) (H : Hp) (C : Addr) (cl : List (Str × Addr)) (fp : List Addr), DGt (X.blk s H scope (compEnvC scope cl C X.env) fp) F.nox tg g sl) (ht : ∀ (s : Shared) (H : Hp) (C : Addr) (cl : List (Str × Addr)) (fp : List Addr), DTs (X.blk s H scope (compEnvC scope cl C X.env) fp) F.nox ifs tt)
    (he : ∀ (s : Shared) (H : Hp) (C : Addr) (cl : List (Str × Addr)) (fp : List Addr), DE (X.blk s H scope (compEnvC scope cl C X.env) fp) F.nox elt f) (hsl : (sl.all fun j => (own.map (·.2)).contains j) = true) (hs : ∀ x, foldedSetIterable iter X.env x = pure x := by intro _; rfl) :
    DE X F (.ListComp elt [⟨tg, iter, ifs, 0⟩] scope pos) (eLc w g tt f (own.map (·.2))) := by
  obtain ⟨wi, pi, di⟩ := hi
  exact ⟨_, pe_lc hc hN pi ok (fun s H C cl fp => (hg s H C cl fp).tof) (fun s H C cl fp => (ht s H C cl fp).tof) (fun s H C cl fp => (he s H C cl fp).tof) hs, DT.lc di fun j hj => List.contains_iff_mem.mp (List.all_eq_true.mp hsl j hj)⟩
theorem ds_setLc {i : Nat} {y : Str} {py spos : Pos} (hc : X.calm = true) (hN : X.N.Nodup) (hy : X.N[i]? = some y) (hyl : X.env.scope.names.lookup y = some .local)
    (hsw : swapsWith (.ListComp elt [⟨tg, iter, ifs, 0⟩] scope pos) (some (.Name y py)) spos.line X.env = pure true) (hi : DI X F tg iter w) (ok : BlkOk X.N X.env.scope scope own)
    (hg : ∀ (s : Shared) (H : Hp) (C : Addr) (cl : List (Str × Addr)) (fp : List Addr), DGt (X.blk s H scope (compEnvC scope cl C X.env) fp) F.nox tg g sl) (ht : ∀ (s : Shared) (H : Hp) (C : Addr) (cl : List (Str × Addr)) (fp : List Addr), DTs (X.blk s H scope (compEnvC scope cl C X.env) fp) F.nox ifs tt)
    (he : ∀ (s : Shared) (H : Hp) (C : Addr) (cl : List (Str × Addr)) (fp : List Addr), DE (X.blk s H scope (compEnvC scope cl C X.env) fp) F.nox elt f) (hsl : (sl.all fun j => (own.map (·.2)).contains j) = true) (hs : ∀ x, foldedSetIterable iter X.env x = pure x := by intro _; rfl) :
    DS X F (.Assign [.Name y py] (.ListComp elt [⟨tg, iter, ifs, 0⟩] scope pos) spos) (sSet i (eLc w g tt f (own.map (·.2)))) := by
  obtain ⟨wi, pi, di⟩ := hi
  refine ⟨_, ps_setLc hc hN hy hyl hsw pi ok (fun s H C cl fp => (hg s H C cl fp).tof) (fun s H C cl fp => (ht s H C cl fp).tof) (fun s H C cl fp => (he s H C cl fp).tof) hs, fun σ I H e ps d D hp s h k => ?_⟩
  refine DT.lc di (fun j hj => List.contains_iff_mem.mp (List.all_eq_true.mp hsl j hj)) σ I H e ps _ _ s h fun x r e1 I1 H1 h1 s1 => ?_
  obtain ⟨e2, ha, h2⟩ := h1
  obtain ⟨I2, s2⟩ := s1.asg (hp.no _) ha
  exact k.nx _ I2 H1 e2 h2 s2
end
/-! ### lists changed -/
abbrev DMo := List D → List D → (List D → D → Prop) → Prop
def DMt (K : PySem.W.Frag) (r : V → List V → Hp → VK → Prop) (o : DMo) : Prop := ∀ (I H : Hp) (a : Addr) (xs ys : List V) (ds cs : List D) (P : List D → D → Prop) (Q : VK), Sub I H → I a = none → H a = some (.lst xs) → Reps K I xs ds → Reps K I ys cs → o ds cs P →
  (∀ xs' ds' y d, P ds' d → Reps K I xs' ds' → Rep K I y d → Q y (upd H a (.lst xs'))) → r (.ref a) ys H Q
def eMut (i : Nat) (o : DMo) (g : EvA) : EvF := fun e P => (∃ a ds, e[i]? = some (some (.own a (.lst ds)))) ∧ g e fun rs e1 => ∃ cs e2 a ds, frzs e1 rs = some (cs, e2) ∧ e2[i]? = some (some (.own a (.lst ds))) ∧ o ds cs fun ds' d => P (.im d) (e2.set i (some (.own a (.lst ds'))))
def eMut0 (i : Nat) (o : DMo) : EvF := fun e P => ∃ a ds, e[i]? = some (some (.own a (.lst ds))) ∧ o ds [] fun ds' d => P (.im d) (e.set i (some (.own a (.lst ds'))))
def mAppend : DMo := fun ds cs P => ∃ c, cs = [c] ∧ ds.length ≤ 1000000 ∧ P (ds ++ [c]) .non
def mExtend : DMo := fun ds cs P => ∃ xs, cs = [.lst xs] ∧ ds.length + xs.length ≤ 1000000 ∧ P (ds ++ xs) .non
def mInsert : DMo := fun ds cs P => ∃ i c, cs = [.int i, c] ∧ ds.length ≤ 1000000 ∧ 0 ≤ i ∧ i ≤ 1000000 ∧ P (ds.take i.toNat ++ [c] ++ ds.drop i.toNat) .non
def mReverse : DMo := fun ds cs P => cs = [] ∧ P ds.reverse .non
def mClear : DMo := fun _ cs P => cs = [] ∧ P [] .non
def mPop : DMo := fun ds cs P => cs = [] ∧ ∃ c, ds[ds.length - 1]? = some c ∧ P ds.dropLast c
section
variable {K : PySem.W.Frag}
theorem small6 {n : Nat} (h : n ≤ 1000000) : n < sizeLine := Nat.lt_of_le_of_lt h (by decide)
theorem dm_append : DMt K rAppend mAppend := fun I H a xs ys ds cs P Q s n ha r1 r2 h k => by
  obtain ⟨c, rfl, hz, p⟩ := h
  cases r2 with
  | cons r r2 =>
    cases r2
    exact ⟨a, xs, _, rfl, rfl, ha, by rw [r1.len]; exact small6 hz, k _ _ _ _ p (r1.app (.cons r .nil)) .non⟩
theorem dm_extend : DMt K rExtend mExtend := fun I H a xs ys ds cs P Q s n ha r1 r2 h k => by
  obtain ⟨c, rfl, hz, p⟩ := h
  cases r2 with
  | cons r r2 =>
    cases r2
    cases r with
    | @lst b zs _ hb rr => exact ⟨a, b, xs, zs, rfl, rfl, ha, s _ _ hb, by rw [r1.len, rr.len]; exact Nat.le_of_lt (small6 hz), k _ _ _ _ p (r1.app rr) .non⟩
theorem dm_insert : DMt K rInsert mInsert := fun I H a xs ys ds cs P Q s n ha r1 r2 h k => by
  obtain ⟨i, c, rfl, hz, h0, h1, p⟩ := h
  cases r2 with
  | cons r r2 =>
    cases r2 with
    | cons r' r2 =>
      cases r2
      cases r
      exact ⟨a, xs, i, _, rfl, rfl, ha, by rw [r1.len]; exact small6 hz, h0, Int.lt_of_le_of_lt h1 (by decide), k _ _ _ _ p (((r1.take _).app (.cons r' .nil)).app (r1.drop _)) .non⟩
theorem dm_reverse : DMt K rReverse mReverse := fun I H a xs ys ds cs P Q s n ha r1 r2 h k => by
  obtain ⟨rfl, p⟩ := h
  cases r2
  exact ⟨a, xs, rfl, rfl, ha, k _ _ _ _ p r1.rev .non⟩
theorem dm_clear : DMt K rClear mClear := fun I H a xs ys ds cs P Q s n ha r1 r2 h k => by
  obtain ⟨rfl, p⟩ := h
  cases r2
  exact ⟨a, xs, rfl, rfl, ha, k _ _ _ _ p .nil .non⟩
theorem Reps.dropLast {I : Hp} {xs : List V} {ds : List D} (r : Reps K I xs ds) : Reps K I xs.dropLast ds.dropLast := by
  rw [List.dropLast_eq_take, List.dropLast_eq_take, r.len]
  exact r.take _
theorem dm_pop : DMt K rPop mPop := fun I H a xs ys ds cs P Q s n ha r1 r2 h k => by
  obtain ⟨rfl, c, hc, p⟩ := h
  cases r2
  obtain ⟨x, e1, e2⟩ := r1.get hc
  exact ⟨a, xs, x, rfl, rfl, ha, by rw [r1.len]; exact e1, k _ _ _ _ p r1.dropLast e2⟩
end
theorem ST.ownL {F : Fr} {σ : L2.St} {I H : Hp} {e : En} {ps : Tm} {i : Nat} {a : Addr} {ds : List D} (s : ST F σ I H e ps) (q : e[i]? = some (some (.own a (.lst ds)))) : σ[i]? = some (some (.ref a)) ∧ I a = none ∧ ∃ xs, H a = some (.lst xs) ∧ Reps F.K I xs ds := by
  obtain ⟨y, y1, rfl, n, xs, h, r⟩ := s.slot q
  exact ⟨y1, n, xs, h, r⟩
theorem ST.mutL {F : Fr} {σ : L2.St} {I H : Hp} {e : En} {ps : Tm} {i : Nat} {a : Addr} {ds ds' : List D} {xs' : List V} (s : ST F σ I H e ps) (q : e[i]? = some (some (.own a (.lst ds)))) (r : Reps F.K I xs' ds') : ST F σ I (upd H a (.lst xs')) (e.set i (some (.own a (.lst ds')))) ps :=
  s.mut q ⟨xs', upd_same, r⟩
section
variable {X : Cx} {F : Fr} {i : Nat} {x m : Str} {p apos cpos : Pos} {ex : Expr} {exs : List Expr} {o : DMo} {g : EvA} {r : V → List V → Hp → VK → Prop} {id : String}
theorem de_mut (slot : Slot "list" m id) (hty : typeOf (.builtin id) = pure (.type "method_descriptor")) (hm : MtR X id r) (ho : DMt X.K r o) (ht : PE X (.Name x p) (tVar i)) (ha : DA X F (ex :: exs) g) (hK : F.K = X.K := by first | rfl | assumption)
    (hbase : attributeBase (.Name x p) m X.env (eval (.Name x p) X.env) = eval (.Name x p) X.env := by rfl)
    (hfew : ((backTo cpos (starEach (ex :: exs) X.env)).all (fun x => !x.1) && (backToKw cpos (keywordEach [] X.env)).all (fun x => x.1.isSome) && decide ((ex :: exs).length + ([] : List Keyword).length + (if ([] : List Keyword).isEmpty then 0 else 1) < 30)) = true := by rfl)
    (hline : (apos.endLine == cpos.line) = true := by rfl) (hs : starEach (ex :: exs) X.env = (false, eval ex X.env) :: starEach exs X.env := by rfl) (hplain : (backTo cpos (starEach exs X.env)).any (·.1) = false := by rfl) :
    DE X F (.Call (.Attribute (.Name x p) m apos) (ex :: exs) [] cpos) (eMut i o g) := by
  obtain ⟨t, pa, d⟩ := ha
  refine ⟨_, pe_bm PySem.F.plainAttrs_list slot hty hm ht pa hbase hfew hline hs hplain, fun σ I H e ps P Q s h k => ?_⟩
  obtain ⟨⟨a0, ds0, h0⟩, h⟩ := h
  obtain ⟨y1, _, xs0, hx0, _⟩ := s.ownL h0
  refine ⟨.ref a0, y1, .inl ⟨rfl, xs0, SqL.of hx0⟩, ?_⟩
  refine d σ I H e ps _ _ s h fun ys rs e1 I1 H1 h1 hl s1 => ?_
  obtain ⟨cs, e2, a, ds, hf, he, hq⟩ := h1
  obtain ⟨I2, _, s2, rr⟩ := s1.frzs hl hf
  obtain ⟨z1, n, xs, hx, rx⟩ := s2.ownL he
  rw [y1] at z1
  cases z1
  rw [hK] at rx rr
  refine ho I2 H1 a0 xs ys ds cs _ _ s2.sub n hx rx rr hq fun xs' ds' y c hp r' ry => ?_
  rw [← hK] at r' ry
  exact k y _ _ I2 _ hp ((s2.mutL he r').pushI ry)
theorem de_mut0 (slot : Slot "list" m id) (hty : typeOf (.builtin id) = pure (.type "method_descriptor")) (hm : MtR X id r) (ho : DMt X.K r o) (ht : PE X (.Name x p) (tVar i)) (hK : F.K = X.K := by first | rfl | assumption)
    (hbase : attributeBase (.Name x p) m X.env (eval (.Name x p) X.env) = eval (.Name x p) X.env := by rfl)
    (hline : (apos.endLine == cpos.line) = true := by rfl) :
    DE X F (.Call (.Attribute (.Name x p) m apos) [] [] cpos) (eMut0 i o) := by
  refine ⟨_, pe_bm0 PySem.F.plainAttrs_list slot hty hm ht hbase (hline := hline), fun σ I H e ps P Q s h k => ?_⟩
  obtain ⟨a, ds, he, hq⟩ := h
  obtain ⟨z1, n, xs, hx, rx⟩ := s.ownL he
  refine ⟨.ref a, z1, .inl ⟨rfl, xs, SqL.of hx⟩, ?_⟩
  rw [hK] at rx
  refine ho I H a xs [] ds [] _ _ s.sub n hx rx .nil hq fun xs' ds' y c hp r' ry => ?_
  rw [← hK] at r' ry
  exact k y _ _ I _ hp ((s.mutL he r').pushI ry)
end
/-- xs[i] = v -/
def sSetIx (i : Nat) (fi fv : EvF) : SvF := fun e d => fv e fun rv e1 => (∃ a ds, e1[i]? = some (some (.own a (.lst ds)))) ∧ fi e1 fun ri e2 => ∃ c e3 a ds z j, val e2 ri = some (.int z) ∧ frz e2 rv = some (c, e3) ∧ e3[i]? = some (some (.own a (.lst ds))) ∧ ixN ds.length z = some j ∧ d.nx (e3.set i (some (.own a (.lst (ds.set j c)))))
section
variable {X : Cx} {F : Fr} {i : Nat} {x : Str} {p pos pos' : Pos} {vx ix : Expr} {fv fi : EvF}
theorem ds_setIx (ht : PE X (.Name x p) (tVar i)) (hi : DE X F ix fi) (hv : DE X F vx fv) (hs : swapsWithSole [.Subscript (.Name x p) ix pos'] vx pos.line X.env = pure false := by rfl) (hw : swappedStores [.Subscript (.Name x p) ix pos'] vx X.env = pure none := by rfl)
    (h1 : (assignEach [.Subscript (.Name x p) ix pos'] X.env).map (·.2) = [assign (.Subscript (.Name x p) ix pos') X.env] := by rfl)
    (ha : ∀ v, assign (.Subscript (.Name x p) ix pos') X.env v = (do
      let ov ← holding [v] (eval (.Name x p) X.env)
      let iv ← holding [v, ov] (eval ix X.env)
      standAt pos'
      holding [v, ov, iv] (setItem ov iv v)
      release [v, ov, iv] []) := by intro _; rfl) : DS X F (.Assign [.Subscript (.Name x p) ix pos'] vx pos) (sSetIx i fi fv) := by
  obtain ⟨ti, pi, di⟩ := hi
  obtain ⟨tw, pw, dw⟩ := hv
  refine ⟨_, ps_asg pw (pg_sub ht pi set_list ha) hs hw h1, fun σ I H e ps d D hp s h k => ?_⟩
  refine dw σ I H e ps _ _ s h fun v rv e1 I1 H1 h1 s1 => ?_
  obtain ⟨⟨a0, ds0, h0⟩, h1⟩ := h1
  obtain ⟨y1, _, xs0, hx0, _⟩ := s1.ownL h0
  refine ⟨.ref a0, y1, ?_⟩
  refine di σ I1 H1 e1 _ _ _ s1 h1 fun w ri e2 I2 H2 h2 s2 => ?_
  obtain ⟨c, e3, a, ds, z, j, v1, hf, he, hj, hn⟩ := h2
  have wi := (s2.vw (qs := []) v1).int
  rw [List.append_assoc] at s2
  obtain ⟨I3, _, s3⟩ := s2.frz hf
  have rc : Rep F.K I3 v c := s3.temp
  obtain ⟨z1, n, xs, hx, rx⟩ := s3.ownL he
  rw [y1] at z1
  cases z1
  refine ⟨a0, xs, z, j, rfl, wi, hx, by rw [rx.len]; exact hj, ?_⟩
  exact k.nx _ I3 _ _ hn ((s3.mutL he (rx.set rc j)).weak)
end
/-! ### dicts -/
def keyS : D → Option Key
  | .int i => some (.inl i)
  | .str x => some (.inr x)
  | _ => none
def keysS : List D → Option (List Key)
  | [] => some []
  | d :: ds => match keyS d with
    | some k => match keysS ds with
      | some ks => some (k :: ks)
      | none => none
    | none => none
def keyT : D → Option (List Key)
  | .tup ds => keysS ds
  | _ => none
def lookD {κ : Type} [DecidableEq κ] (es : List (κ × D)) (k : κ) : Option D := (es.find? fun p => decide (p.1 = k)).map (·.2)
def putD {κ : Type} [DecidableEq κ] (es : List (κ × D)) (k : κ) (v : D) : List (κ × D) := if (es.any fun p => decide (p.1 = k)) = true then es.map (fun p => if p.1 = k then (p.1, v) else p) else es ++ [(k, v)]
section
variable {K : PySem.W.Frag} {I : Hp} {κ : Type} [DecidableEq κ]
theorem keyS_rep {x : V} {d : D} {k : Key} (r : Rep K I x d) (h : keyS d = some k) : x = kV k := by
  cases r <;> cases h <;> rfl
theorem keysS_rep : ∀ {xs : List V} {ds : List D} {ks : List Key}, Reps K I xs ds → keysS ds = some ks → xs = ks.map kV
  | _, _, _, .nil, h => by cases h; rfl
  | _, _, _, .cons (x := x) (d := d) r rr, h => by
    unfold keysS at h
    split at h
    · rename_i k hk
      split at h
      · rename_i ks' hks
        cases h
        rw [List.map_cons, keyS_rep r hk, keysS_rep rr hks]
      · cases h
    · cases h
theorem look_rel {k : κ} : ∀ {kvs : List (κ × V)} {es : List (κ × D)}, kvs.map (·.1) = es.map (·.1) → Reps K I (kvs.map (·.2)) (es.map (·.2)) → (valV kvs k = none ∧ lookD es k = none) ∨ ∃ x d, valV kvs k = some x ∧ lookD es k = some d ∧ Rep K I x d
  | [], [], _, _ => .inl ⟨rfl, rfl⟩
  | [], _ :: _, m, _ => by cases m
  | _ :: _, [], m, _ => by cases m
  | (g, x) :: kvs, (g', d) :: es, m, r => by
    rw [List.map_cons, List.map_cons] at m r
    injection m with m1 m2
    have m1' : g = g' := m1
    subst m1'
    cases r with
    | cons r1 r2 =>
      by_cases h : g = k
      · refine .inr ⟨x, d, valV_pos h, ?_, r1⟩
        unfold lookD
        simp [List.find?_cons, h]
      · rw [valV_neg h, show lookD ((g, d) :: es) k = lookD es k by unfold lookD; simp [List.find?_cons, h]]
        exact look_rel m2 r2
theorem any_rel {k : κ} : ∀ {kvs : List (κ × V)} {es : List (κ × D)}, kvs.map (·.1) = es.map (·.1) → (kvs.any fun p => decide (p.1 = k)) = (es.any fun p => decide (p.1 = k))
  | [], [], _ => rfl
  | [], _ :: _, m => by cases m
  | _ :: _, [], m => by cases m
  | (g, x) :: kvs, (g', d) :: es, m => by
    rw [List.map_cons, List.map_cons] at m
    injection m with m1 m2
    have m1' : g = g' := m1
    subst m1'
    rw [List.any_cons, List.any_cons, any_rel m2]
theorem put_rel {k : κ} {x : V} {d : D} (rx : Rep K I x d) {kvs : List (κ × V)} {es : List (κ × D)} (m : kvs.map (·.1) = es.map (·.1)) (r : Reps K I (kvs.map (·.2)) (es.map (·.2))) :
    (putK kvs k x).map (·.1) = (putD es k d).map (·.1) ∧ Reps K I ((putK kvs k x).map (·.2)) ((putD es k d).map (·.2)) := by
  have go : ∀ {kvs : List (κ × V)} {es : List (κ × D)}, kvs.map (·.1) = es.map (·.1) → Reps K I (kvs.map (·.2)) (es.map (·.2)) →
      (kvs.map (fun kv => if kv.1 = k then (kv.1, x) else kv)).map (·.1) = (es.map (fun p => if p.1 = k then (p.1, d) else p)).map (·.1) ∧ Reps K I ((kvs.map (fun kv => if kv.1 = k then (kv.1, x) else kv)).map (·.2)) ((es.map (fun p => if p.1 = k then (p.1, d) else p)).map (·.2)) := fun {kvs} => by
    induction kvs with
    | nil =>
      intro es m r
      cases es with
      | nil => exact ⟨rfl, .nil⟩
      | cons _ _ => cases m
    | cons p kvs ih =>
      intro es m r
      cases es with
      | nil => cases m
      | cons q es =>
        rw [List.map_cons, List.map_cons] at m r
        injection m with m1 m2
        cases r with
        | cons r1 r2 =>
          obtain ⟨i1, i2⟩ := ih m2 r2
          rw [List.map_cons, List.map_cons, List.map_cons, List.map_cons, List.map_cons, List.map_cons]
          by_cases h : p.1 = k
          · rw [if_pos h, if_pos (m1 ▸ h)]
            exact ⟨by rw [i1, m1], .cons rx i2⟩
          · rw [if_neg h, if_neg (m1 ▸ h)]
            exact ⟨by rw [i1, m1], .cons r1 i2⟩
  unfold putK putD
  rw [any_rel m]
  split
  · exact go m r
  · refine ⟨by rw [List.map_append, List.map_append, m]; rfl, ?_⟩
    rw [List.map_append, List.map_append]
    exact r.app (.cons rx .nil)
end
/-- the dict read: what stands at the key -/
def dLook : D → D → (Option D → Prop) → Prop
  | .dic es, kd, P => ∃ k, keyT kd = some k ∧ P (lookD es k)
  | .dik es, kd, P => ∃ k, keyS kd = some k ∧ P (lookD es k)
  | _, _, _ => False
theorem dget_of {K : PySem.W.Frag} {I H : Hp} {x y : V} {c d : D} {P : Option D → Prop} (s : Sub I H) (v1 : VwR K I H x c) (v2 : VwR K I H y d) (h : dLook c d P) :
    ∃ a o p, x = .ref a ∧ IsD H a ∧ DGet H a y o ∧ P p ∧ ((o = none ∧ p = none) ∨ ∃ z q, o = some z ∧ p = some q ∧ Rep K I z q) := by
  cases c with
  | dic es =>
    obtain ⟨k, hk, p⟩ := h
    obtain ⟨a, kvs, rfl, ha, m, r⟩ := v1.dic s
    cases d with
    | tup ds =>
      obtain ⟨b, xs, rfl, hb, rr⟩ := v2.tup s
      have e := keysS_rep rr hk
      subst e
      refine ⟨a, _, _, rfl, .inr ⟨kvs, .inl ha⟩, DGet.t (k := k) ha hb, p, ?_⟩
      rcases look_rel (k := k) m r with ⟨h1, h2⟩ | ⟨z, q, h1, h2, h3⟩
      · exact .inl ⟨h1, h2⟩
      · exact .inr ⟨z, q, h1, h2, h3⟩
    | _ => cases hk
  | dik es =>
    obtain ⟨k, hk, p⟩ := h
    obtain ⟨a, kvs, rfl, ha, m, r⟩ := v1.dik s
    have e : y = kV k := by
      cases d with
      | int i => cases hk; exact v2.int
      | str z => cases hk; exact v2.str
      | _ => cases hk
    subst e
    refine ⟨a, _, _, rfl, .inl ⟨kvs, .inl ha⟩, DGet.k (k := k) ha, p, ?_⟩
    rcases look_rel (k := k) m r with ⟨h1, h2⟩ | ⟨z, q, h1, h2, h3⟩
    · exact .inl ⟨h1, h2⟩
    · exact .inr ⟨z, q, h1, h2, h3⟩
  | _ => exact h.elim
def eDGet (fd fk : EvF) : EvF := fun e P => fd e fun r1 e1 => fk e1 fun r2 e2 => ∃ c d, val e2 r1 = some c ∧ val e2 r2 = some d ∧ dLook c d fun p => ∃ q, p = some q ∧ P (.im q) e2
def eDIn (fk fd : EvF) : EvF := fun e P => fk e fun r1 e1 => fd e1 fun r2 e2 => ∃ d c, val e2 r1 = some d ∧ val e2 r2 = some c ∧ dLook c d fun p => P (.im (.bl p.isSome)) e2
def eDNin (fk fd : EvF) : EvF := fun e P => fk e fun r1 e1 => fd e1 fun r2 e2 => ∃ d c, val e2 r1 = some d ∧ val e2 r2 = some c ∧ dLook c d fun p => P (.im (.bl !p.isSome)) e2
def eDGet1 (fd fk : EvF) : EvF := fun e P => fd e fun r1 e1 => (∃ c, val e1 r1 = some c ∧ ((∃ es, c = .dic es) ∨ ∃ es, c = .dik es)) ∧ fk e1 fun r2 e2 => ∃ c d, val e2 r1 = some c ∧ val e2 r2 = some d ∧ dLook c d fun p => P (.im (p.getD .non)) e2
def eDGet2 (fd fk fx : EvF) : EvF := fun e P => fd e fun r1 e1 => (∃ c, val e1 r1 = some c ∧ ((∃ es, c = .dic es) ∨ ∃ es, c = .dik es)) ∧ fk e1 fun r2 e2 => fx e2 fun r3 e3 => ∃ c d q e4, val e3 r1 = some c ∧ val e3 r2 = some d ∧ frz e3 r3 = some (q, e4) ∧ dLook c d fun p => P (.im (p.getD q)) e4
def sDput (i : Nat) (fk fv : EvF) : SvF := fun e d => fv e fun rv e1 => (∃ t, e1[i]? = some (some t)) ∧ fk e1 fun rk e2 => ∃ c e3 kd e4 a, frz e2 rv = some (c, e3) ∧ frz e3 rk = some (kd, e4) ∧
  ((∃ es k, e4[i]? = some (some (.own a (.dic es))) ∧ keyT kd = some k ∧ es.length ≤ 1000000 ∧ d.nx (e4.set i (some (.own a (.dic (putD es k c)))))) ∨
   ∃ es k, e4[i]? = some (some (.own a (.dik es))) ∧ keyS kd = some k ∧ es.length ≤ 1000000 ∧ d.nx (e4.set i (some (.own a (.dik (putD es k c))))))
section
variable {X : Cx} {F : Fr} {a b c : Expr} {f g h : EvF} {pos : Pos}
theorem de_dget (hu : X.A.units + 1 < cLine) (h1 : DE X F a f) (h2 : DE X F b g) (hs : L2.NoSl b := by exact (fun _ _ => rfl)) : DE X F (.Subscript a b pos) (eDGet f g) := by
  obtain ⟨t1, p1, d1⟩ := h1
  obtain ⟨t2, p2, d2⟩ := h2
  refine ⟨_, pe_dget hu p1 p2 hs, fun σ I H e ps P Q s h k => ?_⟩
  refine d1 σ I H e ps _ _ s h fun x r1 e1 I1 H1 h1 s1 => ?_
  refine d2 σ I1 H1 e1 _ _ _ s1 h1 fun y r2 e2 I2 H2 h2 s2 => ?_
  obtain ⟨c, d, v1, v2, q⟩ := h2
  have s2' := s2
  rw [List.append_assoc] at s2'
  obtain ⟨a', o, p, rfl, _, hg, ⟨q', rfl, hp⟩, z⟩ := dget_of s2.sub (s2'.vw v1) (s2.vw (qs := []) v2) q
  rcases z with ⟨_, z⟩ | ⟨w, q2, rfl, z, rw'⟩
  · cases z
  · cases z
    exact ⟨a', w, rfl, hg, k w _ e2 I2 H2 hp (s2.weak.weak.pushI rw')⟩
theorem dinT {ta tb : TE} {neg : Bool} {ff : EvF → EvF → EvF} (d1 : DT F ta g) (d2 : DT F tb f) : DT F (fun σ H Q => ta σ H fun y H1 => tb σ H1 fun x H2 => ∃ a o, x = .ref a ∧ DGet H2 a y o ∧ Q (.bl (if neg then !o.isSome else o.isSome)) H2)
    (fun e P => g e fun r1 e1 => f e1 fun r2 e2 => ∃ d c, val e2 r1 = some d ∧ val e2 r2 = some c ∧ dLook c d fun p => P (.im (.bl (if neg then !p.isSome else p.isSome))) e2) := fun σ I H e ps P Q s h k => by
  refine d1 σ I H e ps _ _ s h fun y r1 e1 I1 H1 h1 s1 => ?_
  refine d2 σ I1 H1 e1 _ _ _ s1 h1 fun x r2 e2 I2 H2 h2 s2 => ?_
  obtain ⟨d, c, v1, v2, q⟩ := h2
  have s2' := s2
  rw [List.append_assoc] at s2'
  obtain ⟨a', o, p, rfl, _, hg, hp, z⟩ := dget_of s2.sub (s2.vw (qs := []) v2) (s2'.vw v1) q
  refine ⟨a', o, rfl, hg, ?_⟩
  have e0 : o.isSome = p.isSome := by
    rcases z with ⟨rfl, rfl⟩ | ⟨_, _, rfl, rfl, _⟩ <;> rfl
  rw [e0]
  exact k _ _ e2 I2 H2 hp (s2.weak.weak.pushI (.bl _))
theorem de_din (hu : X.A.units + 1 < cLine) (h1 : DE X F b g) (h2 : DE X F a f) (hm : behindInMarks .In a = false := by rfl) : DE X F (.Compare b [.In] [a] pos) (eDIn g f) := by
  obtain ⟨t1, p1, d1⟩ := h1
  obtain ⟨t2, p2, d2⟩ := h2
  exact ⟨_, pe_cmp (pc_din hu p1 p2) hm, dinT (neg := false) (ff := fun a _ => a) d1 d2⟩
theorem dt_din (hu : X.A.units + 1 < cLine) (h1 : DE X F b g) (h2 : DE X F a f) (hm : behindInMarks .In a = false := by rfl) : DTe X F (.Compare b [.In] [a] pos) (eTest (eDIn g f)) := by
  obtain ⟨t1, p1, d1⟩ := h1
  obtain ⟨t2, p2, d2⟩ := h2
  exact ⟨_, pt_cmp (pc_din hu p1 p2) hm, DTT.of (dinT (neg := false) (ff := fun a _ => a) d1 d2)⟩
theorem de_dnin (hu : X.A.units + 1 < cLine) (h1 : DE X F b g) (h2 : DE X F a f) (hm : behindInMarks .NotIn a = false := by rfl) : DE X F (.Compare b [.NotIn] [a] pos) (eDNin g f) := by
  obtain ⟨t1, p1, d1⟩ := h1
  obtain ⟨t2, p2, d2⟩ := h2
  exact ⟨_, pe_cmp (pc_dnotin hu p1 p2) hm, dinT (neg := true) (ff := fun a _ => a) d1 d2⟩
theorem dt_dnin (hu : X.A.units + 1 < cLine) (h1 : DE X F b g) (h2 : DE X F a f) (hm : behindInMarks .NotIn a = false := by rfl) : DTe X F (.Compare b [.NotIn] [a] pos) (eTest (eDNin g f)) := by
  obtain ⟨t1, p1, d1⟩ := h1
  obtain ⟨t2, p2, d2⟩ := h2
  exact ⟨_, pt_cmp (pc_dnotin hu p1 p2) hm, DTT.of (dinT (neg := true) (ff := fun a _ => a) d1 d2)⟩
theorem isD_of {x : V} {c : D} {I H : Hp} {K : PySem.W.Frag} (s : Sub I H) (v : VwR K I H x c) (h : (∃ es, c = .dic es) ∨ ∃ es, c = .dik es) : ∃ a, x = .ref a ∧ IsD H a := by
  rcases h with ⟨es, rfl⟩ | ⟨es, rfl⟩
  · obtain ⟨a, kvs, rfl, ha, _⟩ := v.dic s
    exact ⟨a, rfl, .inr ⟨kvs, .inl ha⟩⟩
  · obtain ⟨a, kvs, rfl, ha, _⟩ := v.dik s
    exact ⟨a, rfl, .inl ⟨kvs, .inl ha⟩⟩
theorem de_dget1 {apos cpos : Pos} (hu : X.A.units + 1 < cLine) (h1 : DE X F a f) (h2 : DE X F b g) (m : M1 X a "get" apos b cpos) : DE X F (.Call (.Attribute a "get" apos) [b] [] cpos) (eDGet1 f g) := by
  obtain ⟨t1, p1, d1⟩ := h1
  obtain ⟨t2, p2, d2⟩ := h2
  refine ⟨_, pe_dget1 hu p1 p2 m, fun σ I H e ps P Q s h k => ?_⟩
  refine d1 σ I H e ps _ _ s h fun x r1 e1 I1 H1 h1 s1 => ?_
  obtain ⟨⟨c0, v0, hd⟩, h1⟩ := h1
  obtain ⟨a', rfl, hdd⟩ := isD_of s1.sub (s1.vw (qs := []) v0) hd
  refine ⟨a', rfl, hdd, ?_⟩
  refine d2 σ I1 H1 e1 _ _ _ s1 h1 fun y r2 e2 I2 H2 h2 s2 => ?_
  obtain ⟨c, d, v1, v2, q⟩ := h2
  have s2' := s2
  rw [List.append_assoc] at s2'
  obtain ⟨a2, o, p, e0, _, hg, hp, z⟩ := dget_of s2.sub (s2'.vw v1) (s2.vw (qs := []) v2) q
  cases e0
  refine ⟨o, hg, ?_⟩
  rcases z with ⟨rfl, rfl⟩ | ⟨w, q2, rfl, rfl, rr⟩
  · exact k _ _ e2 I2 H2 hp (s2.weak.weak.pushI .non)
  · exact k _ _ e2 I2 H2 hp (s2.weak.weak.pushI rr)
theorem de_dget2 {apos cpos : Pos} (hu : X.A.units + 1 < cLine) (h1 : DE X F a f) (h2 : DE X F b g) (h3 : DE X F c h) (m : M2 X a "get" apos b c cpos) : DE X F (.Call (.Attribute a "get" apos) [b, c] [] cpos) (eDGet2 f g h) := by
  obtain ⟨t1, p1, d1⟩ := h1
  obtain ⟨t2, p2, d2⟩ := h2
  obtain ⟨t3, p3, d3⟩ := h3
  refine ⟨_, pe_dget2 hu p1 p2 p3 m, fun σ I H e ps P Q s h k => ?_⟩
  refine d1 σ I H e ps _ _ s h fun x r1 e1 I1 H1 h1 s1 => ?_
  obtain ⟨⟨c0, v0, hd⟩, h1⟩ := h1
  obtain ⟨a', rfl, hdd⟩ := isD_of s1.sub (s1.vw (qs := []) v0) hd
  refine ⟨a', rfl, hdd, ?_⟩
  refine d2 σ I1 H1 e1 _ _ _ s1 h1 fun y r2 e2 I2 H2 h2 s2 => ?_
  refine d3 σ I2 H2 e2 _ _ _ s2 h2 fun w r3 e3 I3 H3 h3 s3 => ?_
  obtain ⟨c, d, q0, e4, v1, v2, hf, q⟩ := h3
  have s3' := s3
  rw [List.append_assoc] at s3'
  have s3'' := s3'
  rw [List.append_assoc] at s3''
  obtain ⟨a2, o, p, e0, _, hg, hp, z⟩ := dget_of s3.sub (s3''.vw v1) (s3'.vw v2) q
  cases e0
  obtain ⟨I4, _, s4⟩ := s3.frz hf
  have rw0 : Rep F.K I4 w q0 := ST.temp (qs := []) (t := .imm q0) s4
  refine ⟨o, hg, ?_⟩
  rcases z with ⟨rfl, rfl⟩ | ⟨w2, q2, rfl, rfl, rr⟩
  · exact k _ _ e4 I4 H3 hp (s4.weak.weak.weak.pushI rw0)
  · exact k _ _ e4 I4 H3 hp (s4.weak.weak.weak.pushI (rr.mono (by assumption)))
theorem ds_dput {i : Nat} {x : Str} {p pos' : Pos} {kx vx : Expr} {fk fv : EvF} (hu : X.A.units + 1 < cLine) (ht : PE X (.Name x p) (tVar i)) (hk : DE X F kx fk) (hv : DE X F vx fv) (hs : swapsWith vx (some (.Subscript (.Name x p) kx pos')) pos.line X.env = pure false := by rfl) :
    DS X F (.Assign [.Subscript (.Name x p) kx pos'] vx pos) (sDput i fk fv) := by
  obtain ⟨tk, pk, dk⟩ := hk
  obtain ⟨tw, pw, dw⟩ := hv
  refine ⟨_, ps_dput hu ht pk pw hs, fun σ I H e ps d D hp s h k => ?_⟩
  refine dw σ I H e ps _ _ s h fun v rv e1 I1 H1 h1 s1 => ?_
  obtain ⟨⟨t0, h0⟩, h1⟩ := h1
  obtain ⟨y, y1, _⟩ := s1.slot h0
  refine ⟨y, y1, ?_⟩
  refine dk σ I1 H1 e1 _ _ _ s1 h1 fun w rk e2 I2 H2 h2 s2 => ?_
  obtain ⟨c, e3, kd, e4, a, hf, hg, h2⟩ := h2
  rw [List.append_assoc] at s2
  obtain ⟨I3, _, s3⟩ := s2.frz hf
  have s3' : ST F σ I3 H2 e3 ((ps ++ [(v, .im c)]) ++ [(w, rk)]) := by rw [List.append_assoc]; exact s3
  obtain ⟨I4, _, s4⟩ := s3'.frz hg
  have rk' : Rep F.K I4 w kd := ST.temp (ps := ps ++ [(v, .im c)]) (qs := []) (t := .imm kd) s4
  have rc : Rep F.K I4 v c := ST.temp (ps := ps) (qs := []) (t := .imm c) s4.weak
  have s0 : ST F σ I4 H2 e4 ps := s4.weak.weak
  rcases h2 with ⟨es, k0, he, hk0, hz, hn⟩ | ⟨es, k0, he, hk0, hz, hn⟩
  · obtain ⟨y', z1, rfl, n, kvs, ha, m, r⟩ := s0.slot he
    rw [y1] at z1
    cases z1
    cases kd with
    | tup ds =>
      cases rk' with
      | @tup b xs _ hb rr =>
        have e0 := keysS_rep rr hk0
        subst e0
        obtain ⟨m2, r2⟩ := put_rel (k := k0) rc m r
        have lz : kvs.length = es.length := by simpa using congrArg List.length m
        refine ⟨a, _, rfl, DPut.t (k := k0) ha (s0.sub _ _ hb) (by rw [lz]; exact small6 hz), k.nx _ I4 _ _ hn (s0.mut he ⟨_, upd_same, m2, r2⟩)⟩
    | _ => cases hk0
  · obtain ⟨y', z1, rfl, n, kvs, ha, m, r⟩ := s0.slot he
    rw [y1] at z1
    cases z1
    have e0 : w = kV k0 := keyS_rep rk' hk0
    subst e0
    obtain ⟨m2, r2⟩ := put_rel (k := k0) rc m r
    have lz : kvs.length = es.length := by simpa using congrArg List.length m
    refine ⟨a, _, rfl, DPut.k (k := k0) ha (by rw [lz]; exact small6 hz), k.nx _ I4 _ _ hn (s0.mut he ⟨_, upd_same, m2, r2⟩)⟩
end
/-! ### built-in calls -/
structure DCR (X : Cx) (f : Value) (g : DON) : Prop where
  ex : ∃ r, CallR X f r ∧ DCl X.K r g
def cLen : DON
  | [.lst ds], P => P (.imm (.int ((ds.length : Nat) : Int)))
  | [.fls ds], P => P (.imm (.int ((ds.length : Nat) : Int)))
  | [.tup ds], P => P (.imm (.int ((ds.length : Nat) : Int)))
  | [.ftp ds], P => P (.imm (.int ((ds.length : Nat) : Int)))
  | [.str z], P => z.length ≤ sizeLine ∧ P (.imm (.int ((z.length : Nat) : Int)))
  | [.dic es], P => P (.imm (.int ((es.length : Nat) : Int)))
  | [.dik es], P => P (.imm (.int ((es.length : Nat) : Int)))
  | _, _ => False
def cInt : DON
  | [.int i], P => P (.imm (.int i))
  | [.bl b], P => P (.imm (.int (if b then 1 else 0)))
  | _, _ => False
def cAbs : DON
  | [.int i], P => P (.imm (.int (if i < 0 then -i else i)))
  | _, _ => False
def cMax : DON
  | [.int i, .int j], P => P (.imm (.int (if j > i then j else i)))
  | _, _ => False
def cMin : DON
  | [.int i, .int j], P => P (.imm (.int (if j < i then j else i)))
  | _, _ => False
def cList : DON
  | [.lst ds], P => ∀ a, P (.own a (.lst ds))
  | [.fls ds], P => ∀ a, P (.own a (.lst ds))
  | [.tup ds], P => ∀ a, P (.own a (.lst ds))
  | [.ftp ds], P => ∀ a, P (.own a (.lst ds))
  | _, _ => False
def cTuple : DON
  | [.lst ds], P => P (.imm (.tup ds))
  | [.tup ds], P => P (.imm (.tup ds))
  | _, _ => False
def cBool : DON
  | [.int i], P => P (.imm (.bl (i != 0)))
  | [.bl b], P => P (.imm (.bl b))
  | _, _ => False
def cStr : DON
  | [.int i], P => i.natAbs.log2 < 1920 ∧ P (.imm (.str (toString i)))
  | _, _ => False
section
variable {X : Cx} {K : PySem.W.Frag} {I H : Hp} {xs : List V} {c d : D}
theorem VwRs.one (h : VwRs K I H xs [c]) : ∃ x, xs = [x] ∧ VwR K I H x c := by
  cases h with
  | cons h1 h2 => cases h2; exact ⟨_, rfl, h1⟩
theorem VwRs.two (h : VwRs K I H xs [c, d]) : ∃ x y, xs = [x, y] ∧ VwR K I H x c ∧ VwR K I H y d := by
  cases h with
  | cons h1 h2 =>
    obtain ⟨y, rfl, h3⟩ := h2.one
    exact ⟨_, y, rfl, h1, h3⟩
theorem dcr_len : DCR X (.builtin "len") cLen := ⟨_, call_len_seq.or (call_len_str.or (call_len_dT.or call_lenD)), fun I H xs ds P Q s v h k => by
  unfold cLen at h
  split at h
  · obtain ⟨x, rfl, w⟩ := v.one
    obtain ⟨a, ys, rfl, ha, r⟩ := w.lst s
    exact .inl ⟨a, ys, rfl, .inl (SqL.of ha), by rw [r.len]; exact k.imm s h (.int _)⟩
  · obtain ⟨x, rfl, w⟩ := v.one
    obtain ⟨a, ys, rfl, ha, r⟩ := w.fls s
    exact .inl ⟨a, ys, rfl, .inl ha, by rw [r.len]; exact k.imm s h (.int _)⟩
  · obtain ⟨x, rfl, w⟩ := v.one
    obtain ⟨a, ys, rfl, ha, r⟩ := w.tup s
    exact .inl ⟨a, ys, rfl, .inr (SqT.of ha), by rw [r.len]; exact k.imm s h (.int _)⟩
  · obtain ⟨x, rfl, w⟩ := v.one
    obtain ⟨a, ys, rfl, ha, r⟩ := w.ftp s
    exact .inl ⟨a, ys, rfl, .inr ha, by rw [r.len]; exact k.imm s h (.int _)⟩
  · obtain ⟨x, rfl, w⟩ := v.one
    exact .inr (.inl ⟨_, by rw [w.str], h.1, k.imm s h.2 (.int _)⟩)
  · obtain ⟨x, rfl, w⟩ := v.one
    obtain ⟨a, kvs, rfl, ha, m, r⟩ := w.dic s
    have lz := congrArg List.length m
    rw [List.length_map, List.length_map] at lz
    exact .inr (.inr (.inl ⟨a, kvs, rfl, ha, by rw [lz]; exact k.imm s h (.int _)⟩))
  · obtain ⟨x, rfl, w⟩ := v.one
    obtain ⟨a, kvs, rfl, ha, m, r⟩ := w.dik s
    have lz := congrArg List.length m
    rw [List.length_map, List.length_map] at lz
    exact .inr (.inr (.inr ⟨a, kvs, rfl, ha, by rw [lz]; exact k.imm s h (.int _)⟩))
  · exact h.elim⟩
theorem dcr_int : DCR X (.type "int") cInt := ⟨_, c_int, fun I H xs ds P Q s v h k => by
  unfold cInt at h
  split at h
  · obtain ⟨x, rfl, w⟩ := v.one
    exact .inl ⟨_, by rw [w.int], k.imm s h (.int _)⟩
  · obtain ⟨x, rfl, w⟩ := v.one
    exact .inr ⟨_, by rw [w.bl], k.imm s h (.int _)⟩
  · exact h.elim⟩
theorem dcr_abs : DCR X (.builtin "abs") cAbs := ⟨_, c_abs, fun I H xs ds P Q s v h k => by
  unfold cAbs at h
  split at h
  · obtain ⟨x, rfl, w⟩ := v.one
    exact ⟨_, by rw [w.int], k.imm s h (.int _)⟩
  · exact h.elim⟩
theorem dcr_max (hc : X.calm = true) : DCR X (.builtin "max") cMax := ⟨_, c_max hc, fun I H xs ds P Q s v h k => by
  unfold cMax at h
  split at h
  · exact ⟨_, _, v.ints2, k.imm s h (.int _)⟩
  · exact h.elim⟩
theorem dcr_min (hc : X.calm = true) : DCR X (.builtin "min") cMin := ⟨_, c_min hc, fun I H xs ds P Q s v h k => by
  unfold cMin at h
  split at h
  · exact ⟨_, _, v.ints2, k.imm s h (.int _)⟩
  · exact h.elim⟩
theorem dcr_list : DCR X (.type "list") cList := ⟨_, c_list, fun I H xs ds P Q s v h k => by
  unfold cList at h
  split at h
  · obtain ⟨x, rfl, w⟩ := v.one
    obtain ⟨a, ys, rfl, ha, r⟩ := w.lst s
    exact ⟨a, ys, rfl, .inl (SqL.of ha), k.lst s h r⟩
  · obtain ⟨x, rfl, w⟩ := v.one
    obtain ⟨a, ys, rfl, ha, r⟩ := w.fls s
    exact ⟨a, ys, rfl, .inl ha, k.lst s h r⟩
  · obtain ⟨x, rfl, w⟩ := v.one
    obtain ⟨a, ys, rfl, ha, r⟩ := w.tup s
    exact ⟨a, ys, rfl, .inr (SqT.of ha), k.lst s h r⟩
  · obtain ⟨x, rfl, w⟩ := v.one
    obtain ⟨a, ys, rfl, ha, r⟩ := w.ftp s
    exact ⟨a, ys, rfl, .inr ha, k.lst s h r⟩
  · exact h.elim⟩
theorem dcr_tuple : DCR X (.type "tuple") cTuple := ⟨_, call_tuple_of, fun I H xs ds P Q s v h k => by
  unfold cTuple at h
  split at h
  · obtain ⟨x, rfl, w⟩ := v.one
    obtain ⟨a, ys, rfl, ha, r⟩ := w.lst s
    exact ⟨a, ys, rfl, .inl ⟨SqL.of ha, k.tup s h r⟩⟩
  · obtain ⟨x, rfl, w⟩ := v.one
    obtain ⟨a, ys, rfl, ha, r⟩ := w.tup s
    rcases w with w | ⟨_, _, w⟩
    · exact ⟨a, ys, rfl, .inr ⟨SqT.of ha, k.imm s h w⟩⟩
    · exact w.elim
  · exact h.elim⟩
theorem dcr_bool : DCR X (.type "bool") cBool := ⟨_, call_bool1, fun I H xs ds P Q s v h k => by
  unfold cBool at h
  split at h
  · obtain ⟨x, rfl, w⟩ := v.one
    exact .inl ⟨_, by rw [w.int], k.imm s h (.bl _)⟩
  · obtain ⟨x, rfl, w⟩ := v.one
    exact .inr ⟨_, by rw [w.bl], k.imm s h (.bl _)⟩
  · exact h.elim⟩
theorem dcr_str : DCR X (.type "str") cStr := ⟨_, call_str_int, fun I H xs ds P Q s v h k => by
  unfold cStr at h
  split at h
  · obtain ⟨x, rfl, w⟩ := v.one
    exact ⟨_, by rw [w.int], h.1, k.imm s h.2 (.str _)⟩
  · exact h.elim⟩
end
/-- a thing's type, or its class -/
def tyOfD : D → Option Value
  | .non => some (.type "NoneType")
  | .bl _ => some (.type "bool")
  | .int _ => some (.type "int")
  | .str _ => some (.type "str")
  | .lst _ => some (.type "list")
  | .fls _ => some (.type "list")
  | .tup _ => some (.type "tuple")
  | .ftp _ => some (.type "tuple")
  | .dic _ => some (.type "dict")
  | .dik _ => some (.type "dict")
  | .obj C _ => some (.ref C)
  | _ => none
def clOfD : D → Option Value
  | .ty n => some (.type n)
  | .cls C => some (.ref C)
  | _ => none
/-- what the classes of the text must have for isinstance -/
structure IsiC (K : PySem.W.Frag) (C : Addr) : Prop where
  cl : Cls K C
  i1 : PySem.W.findIn K (.ref C) "__class__" = some (some (.builtin "object.__class__"))
  i2 : PySem.W.specialIn K (.builtin "object.__class__") "__get__" = some (some (.builtin "getset_descriptor.__get__"))
  i3 : PySem.W.takesIn K (.builtin "object.__class__") = some true
  i4 : PySem.W.mroIn K C (.type "object") = some true
def cIsi (K : PySem.W.Frag) : DON := fun ds P => ∃ d c, ds = [d, c] ∧ (∀ C fs, d = .obj C fs → IsiC K C) ∧ ∃ t u b, tyOfD d = some t ∧ clOfD c = some u ∧ PySem.W.kitOne K t u = some b ∧ P (.imm (.bl b))
theorem tyX_of {K : PySem.W.Frag} {I H : Hp} {x : V} {d : D} {t : Value} (s : Sub I H) (v : VwR K I H x d) (hC : ∀ C fs, d = .obj C fs → IsiC K C) (h : tyOfD d = some t) : TyX K H x t := by
  cases d with
  | non => cases h; rw [v.non]; exact .base .non
  | bl b => cases h; rw [v.bl]; exact .base (.bl _)
  | int i => cases h; rw [v.int]; exact .base (.int _)
  | str i => cases h; rw [v.str]; exact .base (.str _)
  | lst ds => cases h; obtain ⟨a, ys, rfl, ha, r⟩ := v.lst s; exact .base (.lst ha)
  | fls ds =>
    cases h
    obtain ⟨a, ys, rfl, ha, r⟩ := v.fls s
    rcases ha with (ha | ⟨o, ha⟩) | ⟨o, its, n, ha, hc, _⟩
    · exact .base (.lst ha)
    · exact .base (.frz ha)
    · exact .kList ha hc
  | tup ds => cases h; obtain ⟨a, ys, rfl, ha, r⟩ := v.tup s; exact .base (.tup ha)
  | ftp ds =>
    cases h
    obtain ⟨a, ys, rfl, ha, r⟩ := v.ftp s
    rcases ha with (ha | ⟨o, ha⟩) | ⟨o, its, n, ha, hc, _⟩
    · exact .base (.tup ha)
    · exact .fTuple ha
    · exact .kTuple ha hc
  | dic es => cases h; obtain ⟨a, ys, rfl, ha, r⟩ := v.dic s; exact .base (.dT ha)
  | dik es => cases h; obtain ⟨a, ys, rfl, ha, r⟩ := v.dik s; exact .base (.dK ha)
  | obj C fs =>
    cases h
    obtain ⟨a, dx, gs, rfl, ha, m, r⟩ := v.obj s
    have c := hC C fs rfl
    exact .base (.ins ha c.cl c.i1 c.i2 c.i3 c.i4)
  | cls C => cases h
  | ty n => cases h
theorem dcr_isi {X : Cx} : DCR X (.builtin "isinstance") (cIsi X.K) := ⟨_, call_isi, fun I H xs ds P Q s v h k => by
  obtain ⟨d, c, rfl, hC, t, u, b, h1, h2, h3, p⟩ := h
  · obtain ⟨x, y, rfl, v1, v2⟩ := v.two
    have cv : ClsV y u := by
      cases c with
      | ty n => cases h2; rw [v2.ty]; exact .ty n
      | cls C =>
        cases h2
        rcases v2 with v2 | ⟨_, _, v2⟩
        · cases v2; exact .own C
        · exact v2.elim
      | _ => cases h2
    exact ⟨x, y, t, u, b, rfl, cv, tyX_of s v1 hC h1, h3, k.imm s p (.bl _)⟩⟩
section
variable {X : Cx} {F : Fr} {g : DON} {x : Str} {p pos : Pos} {ex : Expr} {exs : List Expr} {f : EvA}
theorem de_blt {id : String} (h : DCR X (.builtin id) g) (hg : Gl X x) (hm : X.mg x = none) (hv : bootBuiltins x = some (.builtin id)) (ha : DA X F (ex :: exs) f) (hK : F.K = X.K := by first | rfl | assumption) (hn : x ≠ "__name__" := by decide) (hdb : (x == ("__debug__" : Str)) = false := by decide)
    (he : starEach (ex :: exs) X.env = (false, eval ex X.env) :: starEach exs X.env := by rfl) (hpl : (backTo pos (starEach exs X.env)).any (·.1) = false := by rfl) : DE X F (.Call (.Name x p) (ex :: exs) [] pos) (eCl g f) := by
  obtain ⟨r, hr, dr⟩ := h
  obtain ⟨t, pa, d⟩ := ha
  exact ⟨_, pe_callB hr hg hm hv pa hn hdb he hpl, DT.cl (by rw [hK]; exact dr) d⟩
theorem de_typ {T : String} (h : DCR X (.type T) g) (hg : Gl X x) (hm : X.mg x = none) (hv : bootBuiltins x = some (.type T)) (ha : DA X F (ex :: exs) f) (hK : F.K = X.K := by first | rfl | assumption) (hn : x ≠ "__name__" := by decide) (hdb : (x == ("__debug__" : Str)) = false := by decide)
    (he : starEach (ex :: exs) X.env = (false, eval ex X.env) :: starEach exs X.env := by rfl) (hpl : (backTo pos (starEach exs X.env)).any (·.1) = false := by rfl) : DE X F (.Call (.Name x p) (ex :: exs) [] pos) (eCl g f) := by
  obtain ⟨r, hr, dr⟩ := h
  obtain ⟨t, pa, d⟩ := ha
  exact ⟨_, pe_callTy hr hg hm hv pa hn hdb he hpl, DT.cl (by rw [hK]; exact dr) d⟩
end
/-! ### in, not in -/
def strsOf : List D → Option (List Str)
  | [] => some []
  | .str z :: ds => (strsOf ds).map fun zs => z :: zs
  | _ :: _ => none
def oIn : DO2
  | .str k, .ftp ds, P => ∃ zs, strsOf ds = some zs ∧ P (.imm (.bl (zs.contains k)))
  | .str k, .tup ds, P => ∃ zs, strsOf ds = some zs ∧ P (.imm (.bl (zs.contains k)))
  | c, .lst ds, P => okP c ∧ okP (.lst ds) ∧ P (.imm (.bl (ds.any fun z => eqD z c)))
  | .str k, .str z, P => ∃ c : Nat, k = ⟨#[c]⟩ ∧ P (.imm (.bl (decide (c ∈ z.cps.toList))))
  | _, _, _ => False
def oNin : DO2 := fun c d P => oIn c d fun t => ∃ b, t = .imm (.bl b) ∧ P (.imm (.bl !b))
theorem toPys_any {c : D} : ∀ ds : List D, ((toPys ds).any fun z => PyData.eqv z (toPy c)) = ds.any fun z => eqD z c
  | [] => rfl
  | d :: ds => by rw [toPys, List.any_cons, List.any_cons, toPys_any ds]; rfl
theorem strsOf_rep {K : PySem.W.Frag} {I : Hp} : ∀ {xs : List V} {ds : List D} {zs : List Str}, Reps K I xs ds → strsOf ds = some zs → xs = zs.map V.str
  | _, _, zs, .nil, h => by cases h; rfl
  | _, _, zs, .cons (d := d) r rr, h => by
    cases d with
    | str z =>
      unfold strsOf at h
      cases q : strsOf _ with
      | none => rw [q] at h; cases h
      | some zs' =>
        rw [q] at h
        cases h
        cases r
        rw [List.map_cons, strsOf_rep rr q]
    | _ => cases h
theorem inV_strs (k : Str) : ∀ zs : List Str, inV (.str k) (zs.map V.str) = zs.contains k
  | [] => rfl
  | z :: zs => by
    have ih := inV_strs k zs
    unfold inV at ih ⊢
    rw [List.map_cons, List.any_cons, ih, List.contains_cons]
    congr 1
    show (z == k) = (k == z)
    by_cases e : z = k
    · subst e; rfl
    · rw [beq_false_of_ne e, beq_false_of_ne (Ne.symm e)]
theorem flat_strs (zs : List Str) : (zs.map V.str).all flatV = true := by
  rw [List.all_eq_true]
  intro x hx
  obtain ⟨z, _, rfl⟩ := List.mem_map.mp hx
  rfl
section
variable {X : Cx}
theorem oIn_gen {K : PySem.W.Frag} {I H : Hp} {x y : V} {c d : D} {P : Ent → Prop} (s : Sub I H) (v1 : VwR K I H x c) (v2 : VwR K I H y d) (h : oIn c d P) :
    (∃ p xs b, y = .ref p ∧ SqT K H p xs ∧ flatV x = true ∧ xs.all flatV = true ∧ inV x xs = b ∧ P (.imm (.bl b))) ∨ (∃ ds, d = .lst ds ∧ okP c ∧ okP d ∧ P (.imm (.bl (ds.any fun z => eqD z c)))) ∨
    (∃ (i : Nat) (z : Str), x = .str ⟨#[i]⟩ ∧ y = .str z ∧ P (.imm (.bl (decide (i ∈ z.cps.toList))))) := by
  cases d with
  | ftp ds =>
    cases c with
    | str k =>
      obtain ⟨zs, hz, p⟩ := h
      obtain ⟨a, xs, rfl, ha, r⟩ := v2.ftp s
      have e := strsOf_rep r hz
      subst e
      rw [v1.str]
      exact .inl ⟨a, _, _, rfl, ha, rfl, flat_strs zs, inV_strs _ zs, p⟩
    | _ => exact h.elim
  | tup ds =>
    cases c with
    | str k =>
      obtain ⟨zs, hz, p⟩ := h
      obtain ⟨a, xs, rfl, ha, r⟩ := v2.tup s
      have e := strsOf_rep r hz
      subst e
      rw [v1.str]
      exact .inl ⟨a, _, _, rfl, SqT.of ha, rfl, flat_strs zs, inV_strs _ zs, p⟩
    | _ => exact h.elim
  | lst ds => exact .inr (.inl ⟨ds, rfl, by cases c <;> exact h⟩)
  | str z =>
    cases c with
    | str k =>
      obtain ⟨i, rfl, p⟩ := h
      exact .inr (.inr ⟨i, z, v1.str, v2.str, p⟩)
    | _ => exact h.elim
  | _ => cases c <;> exact h.elim
theorem dor_in (hu : X.A.units + 65 < cLine) : DOR X (compareOp .In) oIn := ⟨_, op_in_seq.or ((op_inD hu).or op_in_sign), fun I H x y c d P Q s v1 v2 h k => by
  rcases oIn_gen s v1 v2 h with ⟨p, xs, b, rfl, hq, f1, f2, e, q⟩ | ⟨ds, rfl, h1, h2, q⟩ | ⟨i, z, rfl, rfl, q⟩
  · refine .inl ⟨p, xs, rfl, .inr hq, f1, f2, ?_⟩
    rw [if_neg Bool.false_ne_true, e]
    exact k.imm s q (.bl _)
  · refine .inr (.inl ⟨toPy c, toPys ds, Rep.dpH s v1 h1, Rep.dpH s v2 h2, okD_shaped h1 (by decide), okD_shaped (n := 40) h2 (by decide), ?_⟩)
    rw [toPys_any]
    exact k.imm s q (.bl _)
  · exact .inr (.inr ⟨i, z, rfl, rfl, k.imm s q (.bl _)⟩)⟩
theorem dor_nin (hu : X.A.units + 65 < cLine) : DOR X (compareOp .NotIn) oNin := ⟨_, op_notIn_seq.or ((op_notInD hu).or op_notIn_sign), fun I H x y c d P Q s v1 v2 h k => by
  rcases oIn_gen s v1 v2 h with ⟨p, xs, b, rfl, hq, f1, f2, e, b', e', q⟩ | ⟨ds, rfl, h1, h2, b', e', q⟩ | ⟨i, z, rfl, rfl, b', e', q⟩
  · refine .inl ⟨p, xs, rfl, .inr hq, f1, f2, ?_⟩
    cases e'
    rw [if_pos rfl, e]
    exact k.imm s q (.bl _)
  · refine .inr (.inl ⟨toPy c, toPys ds, Rep.dpH s v1 h1, Rep.dpH s v2 h2, okD_shaped h1 (by decide), okD_shaped (n := 40) h2 (by decide), ?_⟩)
    cases e'
    rw [toPys_any]
    exact k.imm s q (.bl _)
  · cases e'
    exact .inr (.inr ⟨i, z, rfl, rfl, k.imm s q (.bl _)⟩)⟩
end
/-! ### methods, properties, classes called -/
theorem fs_none {f : Str} : ∀ {fs : List (Str × V)} {es : List (Str × D)}, fs.map (·.1) = es.map (·.1) → es.lookup f = none → fs.lookup f = none
  | [], _, _, _ => rfl
  | _ :: _, [], m, _ => by cases m
  | (g, x) :: fs, (g', d) :: es, m, h => by
    rw [List.map_cons, List.map_cons] at m
    injection m with m1 m2
    have m1' : g = g' := m1
    subst m1'
    rw [List.lookup_cons] at h ⊢
    cases q : f == g with
    | true => rw [q] at h; cases h
    | false => rw [q] at h; exact fs_none m2 h
/-- the call itself, the arguments at hand -/
def callD (PX : Addr → D → En → Prop) (con : Con) (as : List Ag) (e1 : En) (P : Rv → En → Prop) : Prop := ∃ es, entsOf e1 as = some es ∧ oneEach (refsOf as) = true ∧
  con es (fun t es' => es'.length = es.length ∧ ∃ e2, backTo' e1 as es' = some e2 ∧ P (.ent t) e2) (fun C d es' => ∃ e2, backTo' e1 as es' = some e2 ∧ PX C d e2)
def eMeth (PX : Addr → D → En → Prop) (C : Addr) (m : Str) (con : Con) (f : EvF) (g : EvG) : EvF := fun e P => f e fun r e1 => ∃ fs e2, frz e1 r = some (.obj C fs, e2) ∧ fs.lookup m = none ∧ g e2 fun as e3 => callD PX con (.v (.obj C fs) :: as) e3 P
def eMeth0 (PX : Addr → D → En → Prop) (C : Addr) (m : Str) (con : Con) (f : EvF) : EvF := fun e P => f e fun r e1 => ∃ fs e2, frz e1 r = some (.obj C fs, e2) ∧ fs.lookup m = none ∧ callD PX con [.v (.obj C fs)] e2 P
def eProp (C : Addr) (con : Con) (f : EvF) : EvF := fun e P => f e fun r e1 => ∃ fs e2, frz e1 r = some (.obj C fs, e2) ∧ callD (fun _ _ _ => False) con [.v (.obj C fs)] e2 P
def eMake (PX : Addr → D → En → Prop) (con : Con) (g : EvG) : EvF := fun e P => g e fun as e1 => callD PX con as e1 P
/-- a class's own promise, from that of its __init__ -/
def MkD (K : PySem.W.Frag) (C : Addr) (sp : Sp) (con : Con) : Prop := ∀ (vs : List V) (H : Hp) (Q : VK) (E : XK), spD K con vs H Q E → ∀ x dx, H x = none → H dx = none → dx ≠ x →
  sp (.ref x :: vs) (upd (upd H dx (.own x)) x (.ins C dx [])) (fun v H2 => v = .non ∧ Q (.ref x) H2) E
section
variable {X : Cx} {F : Fr} {σ : L2.St} {I H : Hp} {e : En} {ps : Tm}
theorem ST.called {con : Con} {xs : List V} {as : List Ag} {P : Rv → En → Prop} {Q : VK} (s : ST F σ I H e (ps ++ xs.zip (as.map Ag.rv))) (hl : xs.length = as.length) (fo : FrOk F) (h : callD F.PX con as e P)
    (k : ∀ x r e' I' H', P r e' → ST F σ I' H' e' (ps ++ [(x, r)]) → Q x H') : spD F.K con xs H Q (WE F.W σ) := by
  obtain ⟨es, he, o, hc⟩ := h
  refine ⟨I, es, _, _, s.sub, s.give hl he o, hc, fun r es' x I2 H2 hp sub2 env2 st2 => ?_, fun C d es' x dd I2 H2 hp sub2 env2 st2 rx hx => ?_⟩
  · obtain ⟨hes, e2, hb, hp⟩ := hp
    exact k x _ e2 I2 H2 hp (s.tookR hl he o hb sub2 env2 hes st2)
  · obtain ⟨e2, hb, hp⟩ := hp
    exact fo σ I2 H2 e2 ps C d x dd (s.took hl he o hb sub2 env2 st2 fun _ z => z) hp rx hx
variable {k : Nat} {f C : Addr} {fd : FuncData} {pn : List Str} {con : Con} {x m : Str} {p apos pos : Pos} {o ex : Expr} {exs : List Expr} {g : EvG} {fo' : EvF}
theorem de_meth {pl : Sem Bool} (ho : DE X F o fo') (c : Cls X.K C) (hm : Meth X.K C m f) (G : FnOk X.prog X.w X.K X.mg X.base (L2.CX X.prog X.w) k f fd pn (spD X.K con)) (hr : Room k X.A) (hb : Binds X.K fd pn []) (tk : Takes X F.W) (fo : FrOk F) (ha : DG X F (ex :: exs) g) (hK : F.K = X.K := by first | rfl | assumption)
    (hst : starEach (ex :: exs) X.env = (false, eval ex X.env) :: starEach exs X.env := by rfl) (hpl : (backTo pos (starEach exs X.env)).any (·.1) = false := by rfl)
    (ht : eval (.Call (.Attribute o m apos) (ex :: exs) [] pos) X.env = (do
      let ov ← eval o X.env; standAt apos.atName; let (f, first) ← holding [ov] (getMethod ov m pl)
      callWith pos f first (backTo pos (starEach (ex :: exs) X.env)) (backToKw pos (keywordEach [] X.env))) := by rfl) :
    DE X F (.Call (.Attribute o m apos) (ex :: exs) [] pos) (eMeth F.PX C m con fo' g) := by
  obtain ⟨t0, p0, d0⟩ := ho
  obtain ⟨t, pa, d⟩ := ha
  refine ⟨_, pe_methE (pl := pl) p0 c hm G hr hb (fun σ => passAt tk σ) pa hst hpl ht, fun σ I H e ps P Q s h k => ?_⟩
  refine d0 σ I H e ps _ _ s h fun x r e1 I1 H1 h1 s1 => ?_
  obtain ⟨fs, e2, hf, hn, h2⟩ := h1
  obtain ⟨I2, _, s2⟩ := s1.frz hf
  have rx : Rep F.K I2 x (.obj C fs) := ST.temp (qs := []) (t := .imm (.obj C fs)) s2
  cases rx with
  | @obj a _ dx gs _ hx mm rr =>
    refine ⟨a, dx, gs, rfl, s2.sub _ _ hx, fs_none mm hn, ?_⟩
    refine d σ I2 H1 e2 _ _ _ s2 h2 fun xs as e3 I3 H3 h3 hl s3 => ?_
    rw [← hK]
    refine ST.called (I := I3) (ps := ps) (as := .v (.obj C fs) :: as) ?_ (by simp [hl]) fo h3 k
    rw [List.map_cons, List.zip_cons_cons]
    rw [List.append_assoc] at s3
    exact s3
theorem pe_methE0 {pl : Sem Bool} {sp : Sp} {E : L2.St → XK} {CX : CXT} {ta : TE} (he : PE X o ta) (c : Cls X.K C) (hm : Meth X.K C m f) (G : FnOk X.prog X.w X.K X.mg X.base CX k f fd pn sp) (hr : Room k X.A) (hb : Binds X.K fd pn []) (hx : ∀ σ, PassesAt CX X σ (E σ))
    (ht : eval (.Call (.Attribute o m apos) [] [] pos) X.env = (do
      let ov ← eval o X.env; standAt apos.atName; let (f, first) ← holding [ov] (getMethod ov m pl)
      callWith pos f first (backTo pos (starEach [] X.env)) (backToKw pos (keywordEach [] X.env))) := by rfl) :
    PE X (.Call (.Attribute o m apos) [] [] pos) (fun σ H Q => ta σ H fun x H1 => ∃ a dx fs, x = .ref a ∧ H1 a = some (.ins C dx fs) ∧ fs.lookup m = none ∧ sp [x] H1 Q (E σ)) := by
  constructor
  intro pins s σ H Q I h
  apply PySem.W.methodCall_KW (pl := pl) (thn (he.run pins s σ H _ I h) ?_) ht
  rintro u s1 ⟨x, H1, I1, rx, a, dx, fs, rfl, ea, l, q⟩
  cases rx
  apply getmeth_ok I1 ea c hm l
  exact PySem.W.callWith_K0 (first := [.ref a]) I1.kIn hm.kp (run_fnS (us := [.ref a]) (vs := [V.ref a]) G hr hb (hx σ) I1 (.cons (show RelV (.ref a) (.ref a) from rfl) .nil) q)
theorem de_meth0 {pl : Sem Bool} (ho : DE X F o fo') (c : Cls X.K C) (hm : Meth X.K C m f) (G : FnOk X.prog X.w X.K X.mg X.base (L2.CX X.prog X.w) k f fd pn (spD X.K con)) (hr : Room k X.A) (hb : Binds X.K fd pn []) (tk : Takes X F.W) (fo : FrOk F) (hK : F.K = X.K := by first | rfl | assumption)
    (ht : eval (.Call (.Attribute o m apos) [] [] pos) X.env = (do
      let ov ← eval o X.env; standAt apos.atName; let (f, first) ← holding [ov] (getMethod ov m pl)
      callWith pos f first (backTo pos (starEach [] X.env)) (backToKw pos (keywordEach [] X.env))) := by rfl) :
    DE X F (.Call (.Attribute o m apos) [] [] pos) (eMeth0 F.PX C m con fo') := by
  obtain ⟨t0, p0, d0⟩ := ho
  refine ⟨_, pe_methE0 (pl := pl) p0 c hm G hr hb (fun σ => passAt tk σ) ht, fun σ I H e ps P Q s h k => ?_⟩
  refine d0 σ I H e ps _ _ s h fun x r e1 I1 H1 h1 s1 => ?_
  obtain ⟨fs, e2, hf, hn, h2⟩ := h1
  obtain ⟨I2, _, s2⟩ := s1.frz hf
  have rx : Rep F.K I2 x (.obj C fs) := ST.temp (qs := []) (t := .imm (.obj C fs)) s2
  cases rx with
  | @obj a _ dx gs _ hx mm rr =>
    refine ⟨a, dx, gs, rfl, s2.sub _ _ hx, fs_none mm hn, ?_⟩
    rw [← hK]
    exact ST.called (ps := ps) (as := [.v (.obj C fs)]) s2 rfl fo h2 k
theorem de_prop {q : Addr} (ho : DE X F o fo') (c : Cls X.K C) (hp : PropOf X.K C m q f) (G : FnOk X.prog X.w X.K X.mg X.base (L2.CX X.prog X.w) k f fd pn (spD X.K con)) (hr : Room (k + 1) X.A) (hb : Binds X.K fd pn []) (hK : F.K = X.K := by first | rfl | assumption)
    (hab : attributeBase o m X.env (eval o X.env) = eval o X.env := by rfl) : DE X F (.Attribute o m pos) (eProp C con fo') := by
  obtain ⟨t0, p0, d0⟩ := ho
  refine ⟨_, pe_prop p0 c hp G hr hb .nil passL hab, fun σ I H e ps P Q s h k => ?_⟩
  refine d0 σ I H e ps _ _ s h fun x r e1 I1 H1 h1 s1 => ?_
  obtain ⟨fs, e2, hf, h2⟩ := h1
  obtain ⟨I2, _, s2⟩ := s1.frz hf
  have rx : Rep F.K I2 x (.obj C fs) := ST.temp (qs := []) (t := .imm (.obj C fs)) s2
  cases rx with
  | @obj a _ dx gs _ hx mm rr =>
    refine ⟨a, dx, gs, rfl, s2.sub _ _ hx, ?_⟩
    rw [← hK]
    exact ST.called (F := F.nox) (ps := ps) (as := [.v (.obj C fs)]) s2.nox rfl frok_nox h2 fun x r e' I' H' p s => k x r e' I' H' p s.unnox
end
/-! ### a class called; raise; try -/
section
variable {X : Cx} {F : Fr} {k : Nat} {f C : Addr} {fd : FuncData} {pn : List Str} {con : Con} {x : Str} {p pos : Pos} {ex : Expr} {exs : List Expr} {g : EvG} {sp : Sp}
theorem pe_makeE {E : L2.St → XK} {CX : CXT} {t : TA} (M : Mk X.K C f) (G : FnOk X.prog X.w X.K X.mg X.base CX k f fd pn sp) (hr : Room (k + 1) X.A) (hg : Gl X x) (hm : X.mg x = some (.ref C)) (hb : Binds X.K fd pn []) (hx : ∀ σ, PassesAt CX X σ (E σ)) (ha : PA X (ex :: exs) t)
    (hdb : (x == ("__debug__" : Str)) = false := by decide) (he : starEach (ex :: exs) X.env = (false, eval ex X.env) :: starEach exs X.env := by rfl) (hpl : (backTo pos (starEach exs X.env)).any (·.1) = false := by rfl) :
    PE X (.Call (.Name x p) (ex :: exs) [] pos) (fun σ H Q => t σ H fun vs H1 => ∀ q dx, H1 q = none → H1 dx = none → dx ≠ q → sp (.ref q :: vs) (upd (upd H1 dx (.own q)) q (.ins C dx [])) (fun v H2 => v = .non ∧ Q (.ref q) H2) (E σ)) := by
  constructor
  intro pins s σ H Q I h
  apply wpAny_Call_Name_kw (ld_glob I hg hm ?_ hdb)
  apply PySem.W.callWith_K (h₀ := X.base) I.ok.mod.kin M.kp (thn (ha.run pos pins s σ H _ I h) ?_) he hpl
  rintro us s1 ⟨vs, H1, I1, r, q⟩
  refine ⟨I1.kIn, ?_⟩
  have hq := q (s1.heap.objs.size + 1) s1.heap.objs.size (I1.hok.fresh (Nat.le_succ _)) (I1.hok.fresh (Nat.le_refl _)) (Nat.ne_of_lt (Nat.lt_succ_self _))
  have I2 := Inv.made (C := C) I1
  have r2 : Vals (V.ref (s1.heap.objs.size + 1) :: vs) (Value.ref (s1.heap.objs.size + 1) :: us) := .cons (show RelV (.ref _) (.ref _) from rfl) r
  have hl : (Value.ref (s1.heap.objs.size + 1) :: us).length = pn.length := r2.length.symm.trans (G.len _ _ _ _ hq)
  have b := hb _ (Value.ref (s1.heap.objs.size + 1) :: us) I2.kIn (by rw [List.append_nil]; exact hl)
  rw [List.append_nil] at b
  apply wpAny_call
  apply make_map (f := f) I1.kIn M.makes M.init (beq_iff_eq.mp M.fn)
  apply codeAny_mono (G.run _ X.stack _ _ ⟨Value.ref (s1.heap.objs.size + 1) :: us, []⟩ _ _ _ (E σ) (hr.make C us []) (I2.env0.make C us []) b r2 hq)
  intro r s' hq'
  match r, hq' with
  | .error e, hq' => exact hx σ pins _ _ e s' I2 hq'
  | .ok (.ret u), hq' =>
    obtain ⟨v, H', I3, rv, ev, q3⟩ := I2.after hq'
    subst ev
    exact ⟨rv, ⟨V.ref (s1.heap.objs.size + 1), H', I3, rfl, q3⟩⟩
theorem de_make (M : Mk X.K C f) (G : FnOk X.prog X.w X.K X.mg X.base (L2.CX X.prog X.w) k f fd pn sp) (hM : MkD X.K C sp con) (hr : Room (k + 1) X.A) (hg : Gl X x) (hm : X.mg x = some (.ref C)) (hb : Binds X.K fd pn []) (tk : Takes X F.W) (fo : FrOk F) (ha : DG X F (ex :: exs) g)
    (hK : F.K = X.K := by first | rfl | assumption) (hdb : (x == ("__debug__" : Str)) = false := by decide) (he : starEach (ex :: exs) X.env = (false, eval ex X.env) :: starEach exs X.env := by rfl) (hpl : (backTo pos (starEach exs X.env)).any (·.1) = false := by rfl) :
    DE X F (.Call (.Name x p) (ex :: exs) [] pos) (eMake F.PX con g) := by
  obtain ⟨t, pa, d⟩ := ha
  refine ⟨_, pe_makeE M G hr hg hm hb (fun σ => passAt tk σ) pa hdb he hpl, fun σ I H e ps P Q s h k => ?_⟩
  refine d σ I H e ps _ _ s h fun xs as e1 I1 H1 h1 hl s1 => ?_
  have z := ST.called s1 hl fo h1 k
  rw [hK] at z
  exact hM xs H1 Q _ z
end
/-- raise C(e) -/
def sRaise (PX : Addr → D → En → Prop) (C : Addr) (f : EvF) : SvF := fun e _ => f e fun r e1 => ∃ c e2, frz e1 r = some (c, e2) ∧ PX C c e2
section
variable {X : Cx} {F : Fr} {fI C : Addr} {k : Nat} {fd : FuncData} {pn : List Str} {x : Str} {p pos rpos : Pos} {ex : Expr} {f : EvF}
theorem ds_raise (hc : X.calm = true) (tk : Takes X F.W) (fo : FrOk F) (T : OexC X.K C) (iC : PySem.W.findIn X.K (.ref C) "__init__" = some (some (.ref fI))) (tI : PySem.W.typeIn X.K (.ref fI) = some (.type "function")) (no : PySem.W.findIn X.K (.ref C) "value" = some none)
    (F1 : FnOk X.prog X.w X.K X.mg X.base CX0 k fI fd pn (spErr X.K)) (hr : Room (k + 1) X.A) (hb : Binds X.K fd pn []) (hg : Gl X x) (hm : X.mg x = some (.ref C)) (ha : DE X F ex f)
    (hdb : (x == ("__debug__" : Str)) = false := by decide) (he : starEach [ex] X.env = (false, eval ex X.env) :: starEach [] X.env := by rfl) (hpl : (backTo pos (starEach [] X.env)).any (·.1) = false := by rfl) :
    DS X F (.Raise (some (.Call (.Name x p) [ex] [] pos)) none rpos) (sRaise F.PX C f) := by
  obtain ⟨t, pa, d⟩ := ha
  refine ⟨_, ps_raise hc tk (pmk_oex T iC tI F1 hr hb .nil pass0 hg hm (pa_cons pa pa_nil he) hdb he hpl), fun σ I H e ps dd D hp s h k => ?_⟩
  refine d σ I H e ps _ _ s h fun v r e1 I1 H1 h1 s1 => ?_
  obtain ⟨c, e2, hf, hx⟩ := h1
  obtain ⟨I2, _, s2⟩ := s1.frz hf
  have rx : Rep F.K I2 v c := ST.temp (qs := []) (t := .imm c) s2
  refine ⟨by show 1 ≤ 1000; decide, raise_val (H1 := H1) (v := v) (E := fun cls d H' => F.W cls d σ H') T no fun d' H' sm hd => ?_⟩
  have g : Grow I2 H1 I2 H' := ⟨Le.refl, fun b o q => sm b o q, fun b o q => sm b o (s2.sub b o q), fun b o q => .inl q⟩
  exact fo σ I2 H' e2 ps C c v d' (s2.weak.grow g) hx rx hd
end
/-! ### further draws -/
theorem Keep2.refl {p c : Addr} {H : Hp} : Keep2 p c H H := fun _ _ h _ _ => h
theorem Keep2.trans {p c : Addr} {H H1 H2 : Hp} (a : Keep2 p c H H1) (b : Keep2 p c H1 H2) : Keep2 p c H H2 := fun x o h h1 h2 => b x o (a x o h h1 h2) h1 h2
theorem Keep2.new {p c q : Addr} {H : Hp} {o : HO} (h : H q = none) : Keep2 p c H (upd H q o) := fun x u e _ _ => by
  rw [upd_ne (ne_of_none e h)]
  exact e
theorem HandAt.new {p c q : Addr} {H : Hp} {n : Nat} {o : HO} (hh : HandAt H p c n) (h : H q = none) : HandAt (upd H q o) p c n := by
  obtain ⟨cs, k, t, a, b, d, f, g, i⟩ := hh
  exact ⟨cs, k, t, by rw [upd_ne (ne_of_none a h)]; exact a, by rw [upd_ne (ne_of_none b h)]; exact b, d, f, g, i⟩
theorem HandAt.p {p c : Addr} {H : Hp} {n : Nat} (hh : HandAt H p c n) : ∃ xs, H p = some (.lst xs) := by
  obtain ⟨cs, k, t, a, _⟩ := hh
  exact ⟨_, a⟩
theorem HandAt.c {p c : Addr} {H : Hp} {n : Nat} (hh : HandAt H p c n) : ∃ xs, H c = some (.lst xs) := by
  obtain ⟨cs, k, t, _, a, _⟩ := hh
  exact ⟨_, a⟩
theorem Keep2.free {p c q : Addr} {H H' : Hp} {n : Nat} (kp : Keep2 p c H H') (hh : HandAt H' p c n) (h : H' q = none) : H q = none := by
  cases e : H q with
  | none => rfl
  | some o =>
    obtain ⟨_, e1⟩ := hh.p
    obtain ⟨_, e2⟩ := hh.c
    have h1 := (ne_of_none e1 h).symm
    have h2 := (ne_of_none e2 h).symm
    rw [kp q o e h1 h2] at h
    cases h
theorem Keep2.tup {p c q : Addr} {H H' : Hp} {n : Nat} {xs : List V} (kp : Keep2 p c H H') (hh : HandAt H p c n) (h : H q = some (.tup xs)) : H' q = some (.tup xs) := by
  obtain ⟨_, e1⟩ := hh.p
  obtain ⟨_, e2⟩ := hh.c
  exact kp q _ h (ne_of h e1 (fun z => nomatch z)) (ne_of h e2 (fun z => nomatch z))
def spBig : Sp := fun vs H Q _ => ∃ (p c : Addr) (n : Nat) (lim : Int), vs = [.ref p, .int lim] ∧ HandAt H p c n ∧ n < 990000000 ∧ 0 < lim ∧
  ∀ (r : Int) (H' : Hp), 0 ≤ r → r < lim → HandAt H' p c (n + 4) → Keep2 p c H H' → Q (.int r) H'
def spSizes : Sp := fun vs H Q _ => ∃ (p c : Addr) (n : Nat) (most : Int), vs = [.ref p, .int most] ∧ HandAt H p c n ∧ n < 900000000 ∧ 0 < most ∧ most < 1000000 ∧
  ∀ (a b : Int) (q : Addr) (H' : Hp), 0 < a → 0 < b → a * b ≤ most → H q = none → H' q = some (.tup [.int a, .int b]) → HandAt H' p c (n + 3) → Keep2 p c H H' → Q (.ref q) H'
/-- an inside point -/
def Ins (w h x y : Int) : Prop := 0 < x ∧ x < 2 * w ∧ 0 < y ∧ y < 2 * h ∧ (x + y) % 2 = 1
def spSpot : Sp := fun vs H Q _ => ∃ (p c : Addr) (n : Nat) (w h : Int), vs = [.ref p, .int w, .int h] ∧ HandAt H p c n ∧ n < 900000000 ∧ 0 < w ∧ 0 < h ∧ (1 < w ∨ 1 < h) ∧
  ∀ (x y : Int) (q : Addr) (H' : Hp), Ins w h x y → H q = none → H' q = some (.tup [.int x, .int y]) → HandAt H' p c (n + 9) → Keep2 p c H H' → Q (.ref q) H'
section
variable {P : Program} {w : World} {K : PySem.W.Frag} {mg : Str → Option Value} {base : Heap} {A : Ad}
end
/-! ### lists of tuples -/
abbrev TupsAt (H : Hp) (as : List Addr) (ds : List (List V)) : Prop := Paired (fun a xs => H a = some (.tup xs)) as ds
theorem TupsAt.keep {H H' : Hp} {as : List Addr} {ds : List (List V)} (t : TupsAt H as ds) (k : ∀ b xs, H b = some (.tup xs) → H' b = some (.tup xs)) : TupsAt H' as ds := Paired.mono (fun a xs h => k a xs h) t
theorem TupsAt.get {H : Hp} : ∀ {as : List Addr} {ds : List (List V)} {i : Nat} {x : V}, TupsAt H as ds → (as.map V.ref)[i]? = some x → ∃ a xs, x = .ref a ∧ as[i]? = some a ∧ ds[i]? = some xs ∧ H a = some (.tup xs)
  | _, _, i, x, .nil, e => by simp at e
  | _, _, 0, x, .cons h t, e => by
    simp at e
    exact ⟨_, _, e.symm, rfl, rfl, h⟩
  | _, _, i + 1, x, .cons h t, e => by
    obtain ⟨a, xs, e1, e2, e3, e4⟩ := TupsAt.get (i := i) (x := x) t (by simpa using e)
    exact ⟨a, xs, e1, by simpa using e2, by simpa using e3, e4⟩
theorem TupsAt.get2 {H : Hp} : ∀ {as : List Addr} {ds : List (List V)} {i : Nat} {xs : List V}, TupsAt H as ds → ds[i]? = some xs → ∃ a, (as.map V.ref)[i]? = some (.ref a) ∧ H a = some (.tup xs)
  | _, _, i, x, .nil, e => by simp at e
  | _, _, 0, x, .cons h t, e => by
    simp at e
    subst e
    exact ⟨_, rfl, h⟩
  | _, _, i + 1, x, .cons h t, e => by
    obtain ⟨a, e1, e4⟩ := TupsAt.get2 (i := i) (xs := x) t (by simpa using e)
    exact ⟨a, by simpa using e1, e4⟩
theorem Paired.takeD {α β : Type} {F : α → β → Prop} : ∀ {l₁ : List α} {l₂ : List β} (n : Nat), Paired F l₁ l₂ → Paired F (l₁.take n) (l₂.take n)
  | _, _, 0, _ => by simp; exact .nil
  | _, _, n + 1, .nil => .nil
  | _, _, n + 1, .cons h t => .cons h (Paired.takeD n t)
theorem Paired.dropD {α β : Type} {F : α → β → Prop} : ∀ {l₁ : List α} {l₂ : List β} (n : Nat), Paired F l₁ l₂ → Paired F (l₁.drop n) (l₂.drop n)
  | _, _, 0, h => h
  | _, _, n + 1, .nil => .nil
  | _, _, n + 1, .cons h t => Paired.dropD n t
theorem Paired.app {α β : Type} {F : α → β → Prop} : ∀ {l₁ m₁ : List α} {l₂ m₂ : List β}, Paired F l₁ l₂ → Paired F m₁ m₂ → Paired F (l₁ ++ m₁) (l₂ ++ m₂)
  | _, _, _, _, .nil, h => h
  | _, _, _, _, .cons h t, s => .cons h (Paired.app t s)
abbrev ptV (z : Int × Int) : List V := [.int z.1, .int z.2]
/-- a list of places at l -/
def PtsAt (H : Hp) (l : Addr) (ps : List (Int × Int)) : Prop := ∃ as, H l = some (.lst (as.map V.ref)) ∧ TupsAt H as (ps.map ptV)
theorem PtsAt.len {H : Hp} {l : Addr} {ps : List (Int × Int)} (h : PtsAt H l ps) : ∃ xs, H l = some (.lst xs) ∧ xs.length = ps.length := by
  obtain ⟨as, e, t⟩ := h
  exact ⟨_, e, by rw [List.length_map, Paired.length t, List.length_map]⟩
theorem PtsAt.snoc {H : Hp} {l q : Addr} {ps : List (Int × Int)} {x y : Int} {as : List Addr} (e : H l = some (.lst (as.map V.ref))) (t : TupsAt H as (ps.map ptV)) (hq : H q = none) :
    PtsAt (upd (upd H q (.tup [.int x, .int y])) l (.lst (as.map V.ref ++ [.ref q]))) l (ps ++ [(x, y)]) := by
  have hlq : l ≠ q := ne_of_none e hq
  have htl : ∀ b xs, H b = some (.tup xs) → b ≠ l := fun b xs h => ne_of h e (fun z => nomatch z)
  refine ⟨as ++ [q], by rw [upd_same, List.map_append]; rfl, ?_⟩
  rw [List.map_append]
  refine Paired.snoc (t.keep fun b xs h => ?_) ?_
  · rw [upd_ne (htl b xs h), upd_ne (ne_of_none h hq)]
    exact h
  · rw [upd_ne hlq.symm, upd_same]
theorem rangeC2 {lo hi : Int} (h0 : 0 ≤ lo) (h1 : lo ≤ 10) (h2 : 0 ≤ hi) (h3 : hi ≤ 1000000) : RgC lo hi 2 ((hi - lo + 1) / 2).toNat := by
  refine ⟨by decide, by decide, ?_, ?_⟩
  · unfold Builtin.Range.small Builtin.Range.rangeSize
    simp only [Builtin.Range.rangeFitsLong, Bool.and_eq_true, Bool.or_eq_true, decide_eq_true_eq, beq_iff_eq, show ((2 : Int) > 0) by decide, if_true]
    split <;> omega
  · unfold Builtin.Range.rangeSize
    simp only [show ((2 : Int) > 0) by decide, if_true]
    split <;> omega
def spPoints : Sp := fun vs H Q _ => ∃ (w h : Int), vs = [.int w, .int h] ∧ 0 < w ∧ 0 < h ∧ w * h ≤ 400 ∧
  ∀ (ps : List (Int × Int)) (l : Addr) (H' : Hp), (∀ z ∈ ps, Ins w h z.1 z.2) → ps.Nodup → (ps.length : Int) ≤ 2 * (w * h) → H l = none → PtsAt H' l ps → Same H H' → Q (.ref l) H'
theorem prod_le {w h b : Int} (hw : 0 < w) (hh : 0 < h) (hb : w * h ≤ b) : w ≤ b ∧ h ≤ b := by
  have e1 : w * 1 ≤ w * h := Int.mul_le_mul_of_nonneg_left (by omega) (by omega)
  have e2 : 1 * h ≤ w * h := Int.mul_le_mul_of_nonneg_right (by omega) (by omega)
  omega
section
variable {P : Program} {w : World} {K : PySem.W.Frag} {mg : Str → Option Value} {base : Heap} {A : Ad}
end
/-! ### mirrors -/
abbrev Mir := Int × Int × Str
abbrev mV (m : Mir) : List V := [.int m.1, .int m.2.1, .str m.2.2]
abbrev mK (m : Mir) : Int × Int := (m.1, m.2.1)
def KindOk (k : Str) : Prop := k = ("-" : Str) ∨ k = ("|" : Str)
def MsAt (H : Hp) (l : Addr) (ms : List Mir) : Prop := ∃ as, H l = some (.lst (as.map V.ref)) ∧ TupsAt H as (ms.map mV)
/-- good mirrors of a board -/
structure GoodMs (w h : Int) (ms : List Mir) : Prop where
  ins : ∀ m ∈ ms, Ins w h m.1 m.2.1
  kind : ∀ m ∈ ms, KindOk m.2.2
  nd : (ms.map mK).Nodup
theorem ins_perm {α : Type} (xs : List α) (k : Nat) (y : α) : (xs.take k ++ [y] ++ xs.drop k).Perm (y :: xs) := by
  have e : xs = xs.take k ++ xs.drop k := (List.take_append_drop k xs).symm
  refine List.Perm.trans (List.Perm.append_right _ List.perm_append_comm) ?_
  show ([y] ++ xs.take k ++ xs.drop k).Perm (y :: xs)
  rw [List.append_assoc, ← e]
  exact List.Perm.refl _
theorem GoodMs.ins1 {w h : Int} {ms : List Mir} (g : GoodMs w h ms) {m : Mir} (k : Nat) (hi : Ins w h m.1 m.2.1) (hk : KindOk m.2.2) (hn : mK m ∉ ms.map mK) : GoodMs w h (ms.take k ++ [m] ++ ms.drop k) := by
  have pm := ins_perm ms k m
  refine ⟨fun z hz => ?_, fun z hz => ?_, ?_⟩
  · rcases List.mem_cons.mp (pm.mem_iff.mp hz) with e | hz
    · subst e; exact hi
    · exact g.ins z hz
  · rcases List.mem_cons.mp (pm.mem_iff.mp hz) with e | hz
    · subst e; exact hk
    · exact g.kind z hz
  · refine ((pm.map mK).nodup_iff).mpr ?_
    rw [List.map_cons]
    exact List.nodup_cons.mpr ⟨hn, g.nd⟩
theorem kind_at {r : Int} (h0 : 0 ≤ r) (h1 : r < 2) : ∃ k : Str, KindOk k ∧ atI [V.str "-", V.str "|"] r = some (V.str k) := by
  have e : r = 0 ∨ r = 1 := by omega
  rcases e with e | e
  · subst e; exact ⟨_, .inl rfl, rfl⟩
  · subst e; exact ⟨_, .inr rfl, rfl⟩
theorem Keep2.at_new {p c q : Addr} {H H' : Hp} {n : Nat} {o : HO} (kp : Keep2 p c (upd H q o) H') (hh : HandAt H p c n) (hq : H q = none) : H' q = some o := by
  obtain ⟨_, e1⟩ := hh.p
  obtain ⟨_, e2⟩ := hh.c
  exact kp q _ upd_same (ne_of_none e1 hq).symm (ne_of_none e2 hq).symm
theorem Keep2.tups {p c : Addr} {H H' : Hp} {n : Nat} {as : List Addr} {ds : List (List V)} (kp : Keep2 p c H H') (hh : HandAt H p c n) (t : TupsAt H as ds) : TupsAt H' as ds := t.keep fun _ _ h => kp.tup hh h
theorem TupsAt.new {H : Hp} {q : Addr} {o : HO} {as : List Addr} {ds : List (List V)} (t : TupsAt H as ds) (h : H q = none) : TupsAt (upd H q o) as ds := t.keep fun b xs e => by rw [upd_ne (ne_of_none e h)]; exact e
theorem TupsAt.mut {H : Hp} {l : Addr} {xs ys : List V} {as : List Addr} {ds : List (List V)} (t : TupsAt H as ds) (h : H l = some (.lst xs)) : TupsAt (upd H l (.lst ys)) as ds :=
  t.keep fun b zs e => by rw [upd_ne (ne_of e h (fun z => nomatch z))]; exact e
theorem TupsAt.ins {H : Hp} {as : List Addr} {ms : List Mir} {q : Addr} {m : Mir} (t : TupsAt H as (ms.map mV)) (hq : H q = some (.tup (mV m))) (k : Nat) : TupsAt H (as.take k ++ [q] ++ as.drop k) ((ms.take k ++ [m] ++ ms.drop k).map mV) := by
  rw [List.map_append, List.map_append, List.map_take, List.map_drop]
  exact Paired.app (Paired.app (Paired.takeD k t) (.cons hq .nil)) (Paired.dropD k t)
theorem map_ins (as : List Addr) (q : Addr) (k : Nat) : (as.map V.ref).take k ++ [V.ref q] ++ (as.map V.ref).drop k = (as.take k ++ [q] ++ as.drop k).map V.ref := by
  rw [List.map_append, List.map_append, List.map_take, List.map_drop]; rfl
theorem HandAt.same {H H' : Hp} {p c : Addr} {n : Nat} (hh : HandAt H p c n) (e : Same H H') : HandAt H' p c n := by
  obtain ⟨cs, k, t, a, b, d⟩ := hh
  exact ⟨cs, k, t, e _ _ a, e _ _ b, d⟩
theorem Keep2.same {H H' : Hp} {p c : Addr} (e : Same H H') : Keep2 p c H H' := fun b o h _ _ => e b o h
theorem HandAt.mut {H : Hp} {p c l : Addr} {n : Nat} {o : HO} (hh : HandAt H p c n) (h1 : l ≠ p) (h2 : l ≠ c) : HandAt (upd H l o) p c n := by
  obtain ⟨cs, k, t, a, b, d⟩ := hh
  exact ⟨cs, k, t, by rw [upd_ne h1.symm]; exact a, by rw [upd_ne h2.symm]; exact b, d⟩
theorem HandAt.ne {H : Hp} {p c l : Addr} {n : Nat} (hh : HandAt H p c n) (hl : H l = none) : l ≠ p ∧ l ≠ c := by
  obtain ⟨_, e1⟩ := hh.p
  obtain ⟨_, e2⟩ := hh.c
  exact ⟨(ne_of_none e1 hl).symm, (ne_of_none e2 hl).symm⟩
/-- H' is H but for the hand and things new since H0 -/
theorem Keep2.mut {H H' : Hp} {p c l : Addr} {o : HO} (kp : Keep2 p c H H') (hl : H l = none) : Keep2 p c H (upd H' l o) := fun b u h h1 h2 => by
  rw [upd_ne (ne_of_none h hl)]
  exact kp b u h h1 h2
def spMirrors : Sp := fun vs H Q _ => ∃ (p c : Addr) (n : Nat) (w h : Int), vs = [.ref p, .int w, .int h] ∧ HandAt H p c n ∧ n < 900000000 ∧ 0 < w ∧ 0 < h ∧ w * h ≤ 100 ∧
  ∀ (ms : List Mir) (l : Addr) (H' : Hp), GoodMs w h ms → ms.length ≤ 200 → H l = none → MsAt H' l ms → HandAt H' p c (n + 1000) → Keep2 p c H H' → Q (.ref l) H'
section
variable {P : Program} {w : World} {K : PySem.W.Frag} {mg : Str → Option Value} {base : Heap} {A : Ad}
end
/-! ### sorted(list of mirrors) -/
def mKeyL (m : Mir) : List (Int ⊕ List Nat) := [.inl m.1, .inl m.2.1, .inr m.2.2.cps.toList]
def Mle (a b : Mir) : Prop := (listOrd itemOrd).kle (mKeyL a) (mKeyL b)
theorem mKeyL_inj {a b : Mir} (e : mKeyL a = mKeyL b) : a = b := by
  obtain ⟨x, y, k⟩ := a
  obtain ⟨x', y', k'⟩ := b
  unfold mKeyL at e
  injection e with e1 e
  injection e with e2 e
  injection e with e3 e
  injection e1 with e1
  injection e2 with e2
  injection e3 with e3
  have e4 : k = k' := by
    obtain ⟨c⟩ := k
    obtain ⟨c'⟩ := k'
    have e5 : c.toList = c'.toList := e3
    rw [Array.ext' e5]
  dsimp only at e1 e2
  subst e1 e2 e4
  rfl
theorem Mle.anti {a b : Mir} (h1 : Mle a b) (h2 : Mle b a) : a = b := mKeyL_inj (KeyOrd.kle_antisymm h1 h2)
/-- what is sorted is one -/
theorem sorted_one {ms ns : List Mir} (p : ms.Perm ns) (h1 : ms.Pairwise Mle) (h2 : ns.Pairwise Mle) : ms = ns := p.eq_of_pairwise (fun _ _ _ _ a b => Mle.anti a b) h1 h2
def rdM (H : Hp) (a : Addr) : Mir := match H a with
  | some (.tup [.int x, .int y, .str k]) => (x, y, k)
  | _ => (0, 0, "")
theorem rdM_of {H : Hp} {a : Addr} {m : Mir} (h : H a = some (.tup (mV m))) : rdM H a = m := by
  unfold rdM
  rw [h]
theorem tups_rd {H : Hp} : ∀ {as : List Addr} {ms : List Mir}, TupsAt H as (ms.map mV) → ms = as.map (rdM H) ∧ ∀ a ∈ as, H a = some (.tup (mV (rdM H a)))
  | [], [], _ => ⟨rfl, fun a h => by simp at h⟩
  | a :: as, m :: ms, t => by
    rw [List.map_cons] at t
    cases t with
    | cons h t =>
      obtain ⟨e1, e2⟩ := tups_rd t
      refine ⟨by rw [List.map_cons, rdM_of h, ← e1], fun b hb => ?_⟩
      rcases List.mem_cons.mp hb with e | hb
      · subst e
        rw [rdM_of h]
        exact h
      · exact e2 b hb
  | [], m :: ms, t => by rw [List.map_cons] at t; cases t
  | a :: as, [], t => by cases t
theorem tups_mk {H : Hp} : ∀ {as : List Addr}, (∀ a ∈ as, H a = some (.tup (mV (rdM H a)))) → TupsAt H as ((as.map (rdM H)).map mV)
  | [], _ => .nil
  | a :: as, h => .cons (h a (by simp)) (tups_mk fun b hb => h b (by simp [hb]))
def shM : Nat → Bool := fun i => i == 2
theorem refs_of : ∀ {as : List Addr} {us : List Value}, Vals (as.map V.ref) us → us = as.map Value.ref
  | [], _, r => by cases r; rfl
  | a :: as, _, r => by
    rw [List.map_cons] at r
    cases r with
    | cons h t =>
      cases h
      rw [refs_of t]
      rfl
theorem refs_vals : ∀ as : List Addr, Vals (as.map V.ref) (as.map Value.ref)
  | [] => .nil
  | a :: as => .cons (show RelV (.ref a) (.ref a) from rfl) (refs_vals as)
def unR : Value → Addr
  | .ref a => a
  | _ => 0
theorem unR_map (as : List Addr) : (as.map Value.ref).map unR = as := by
  induction as with
  | nil => rfl
  | cons a as ih => rw [List.map_cons, List.map_cons, ih]; rfl
theorem refs_back {us : List Value} {as : List Addr} (p : us.Perm (as.map Value.ref)) : ∃ as' : List Addr, us = as'.map Value.ref ∧ as'.Perm as := by
  refine ⟨us.map unR, ?_, ?_⟩
  · have h : ∀ u ∈ us, Value.ref (unR u) = u := fun u hu => by
      obtain ⟨a, _, rfl⟩ := List.mem_map.mp (p.mem_iff.mp hu)
      rfl
    rw [List.map_map]
    have e : us.map (Value.ref ∘ unR) = us.map id := List.map_congr_left fun u hu => h u hu
    rw [e, List.map_id]
  · have q := p.map unR
    rw [unR_map] at q
    exact q
section
variable {X : Cx} {pins : List (Addr × Obj)} {σ : L2.St} {H : Hp} {s : Shared}
theorem tup_raw (I : Inv X pins σ H s) {a : Addr} {m : Mir} (h : H a = some (.tup (mV m))) : G.tupKeyC s.heap shM (.ref a) = some (mKeyL m) ∧ ∃ f, TupOf s.heap shM (.ref a) f := by
  obtain ⟨its, rv, ⟨o, ho, hc, n, hd⟩, _⟩ := I.tuple (SqT.of h)
  cases rv with
  | cons r1 rv =>
    cases rv with
    | cons r2 rv =>
      cases rv with
      | cons r3 rv =>
        cases rv
        obtain ⟨t1, rfl⟩ := r1
        obtain ⟨t2, rfl⟩ := r2
        obtain ⟨t3, rfl⟩ := r3
        constructor
        · have e1 : G.isTupObj s.heap (.ref a) = true := by simp [G.isTupObj, ho, hc]
          unfold G.tupKeyC
          rw [if_pos e1]
          simp only [tupKey, ho, hd]
          rfl
        · exact ⟨_, a, o, _, n, rfl, ho, hc, hd, rfl, fun _ => ⟨_, _, rfl⟩, fun e => absurd e (by decide)⟩
theorem tups_raw (I : Inv X pins σ H s) : ∀ {as : List Addr}, (∀ a ∈ as, H a = some (.tup (mV (rdM H a)))) → ∃ fs, TupsOf s.heap shM (as.map Value.ref) fs
  | [], _ => ⟨[], .nil⟩
  | a :: as, h => by
    obtain ⟨fs, t⟩ := tups_raw I (as := as) fun b hb => h b (by simp [hb])
    obtain ⟨_, f, hf⟩ := tup_raw I (h a (by simp))
    exact ⟨f :: fs, .cons hf t⟩
theorem snd_perm {vs : List Value} {arr : Array Keyed} (p : arr.Perm (pairsOf vs)) : (arr.toList.map Prod.snd).Perm vs := by
  have e := (Array.perm_iff_toList_perm.mp p).map Prod.snd
  rw [pairsOf_toList, List.map_snd_zip (Nat.le_refl _)] at e
  exact e
theorem snd_sorted {h : Heap} {vs : List Value} {arr : Array Keyed} (p : arr.Perm (pairsOf vs)) (hs : SortedToK (G.tupKindC h shM) arr (pairsOf vs).size) :
    (arr.toList.map Prod.snd).Pairwise fun u v => (listOrd itemOrd).kle ((G.tupKeyC h shM u).getD []) ((G.tupKeyC h shM v).getD []) := by
  have m : ∀ q ∈ arr.toList, q.1 = q.2 := fun q hq => by
    have hq' := (Array.perm_iff_toList_perm.mp p).mem_iff.mp hq
    rw [pairsOf_toList] at hq'
    exact (mem_zip_self hq').1
  have hsz : arr.toList.length = (pairsOf vs).size := by
    rw [(Array.perm_iff_toList_perm.mp p).length_eq, Array.length_toList]
  rw [List.pairwise_iff_getElem]
  intro i j hi hj hij
  rw [List.length_map] at hi hj
  have z := hs i j (by omega) (by omega)
  have ka : ∀ k (hk : k < arr.toList.length), KK (G.tupKindC h shM) arr k = (G.tupKeyC h shM (arr.toList[k]).2).getD [] := fun k hk => by
    have e : arr[k]? = some (arr.toList[k]) := by rw [← Array.getElem?_toList]; exact List.getElem?_eq_getElem hk
    unfold KK
    rw [e]
    show (G.tupKeyC h shM (arr.toList[k]).1).getD [] = _
    rw [m _ (List.getElem_mem hk)]
  rw [ka i hi, ka j hj] at z
  rw [List.getElem_map, List.getElem_map]
  exact z
def rSortM : List V → Hp → VK → Prop := fun vs H Q => ∃ (l : Addr) (ms : List Mir), vs = [.ref l] ∧ MsAt H l ms ∧
  ∀ (ns : List Mir) (p : Addr) (H' : Hp), ns.Perm ms → ns.Pairwise Mle → H p = none → MsAt H' p ns → Same H H' → Q (.ref p) H'
theorem c_sortM : CallR X (.builtin "sorted") rSortM := by
  intro pins s σ H vs us Q I r h
  obtain ⟨l, ms, rfl, ⟨as, hl, tt⟩, q⟩ := h
  obtain ⟨hm, ha⟩ := tups_rd tt
  obtain ⟨its, rv, pl, hz⟩ := I.list (SqL.of hl)
  obtain rfl := refs_of rv
  obtain ⟨fs, tf⟩ := tups_raw I ha
  rw [Vals.ref1 r]
  refine G.sorted_tups pl.isList tf (fun v hv => ?_) (by rw [List.length_map]; rw [List.length_map] at hz; exact hz) fun st hp hs _ => ?_
  · obtain ⟨a, m, rfl⟩ := List.mem_map.mp hv
    exact ⟨_, (tup_raw I (ha a m)).1⟩
  · have p1 := snd_perm hp
    have p2 := snd_sorted hp hs
    obtain ⟨as', e1, p3⟩ := refs_back p1
    rw [e1] at p2
    obtain ⟨ep, he⟩ := PyProof.Rows.sortedAll_at s.heap (as.map Value.ref) ((arrOf st).map (·.2))
    have e2 : ((arrOf st).map (·.2)).toList = as'.map Value.ref := by rw [Array.toList_map]; exact e1
    have ha' : ∀ a ∈ as', H a = some (.tup (mV (rdM H a))) := fun a m => ha a (p3.mem_iff.mp m)
    have hfr : H (s.heap.objs.size + 1) = none := I.hok.fresh (Nat.le_succ _)
    have hlen : (as'.map V.ref).length ≤ sizeLine := by
      rw [List.length_map, p3.length_eq]
      rw [List.length_map] at hz
      exact hz
    generalize (arrOf st).map (·.2) = out at e2 he ⊢
    refine ⟨.ref _, upd H (s.heap.objs.size + 1) (.lst (as'.map V.ref)), I.laid (t' := s.toks) (fun _ _ => PyProof.Rows.sortedAll_old) (Nat.le_succ _) ⟨hlen, out.toList, ep, by rw [e2]; exact refs_vals as', he⟩, rfl, ?_⟩
    refine q (as'.map (rdM H)) _ _ (by rw [hm]; exact p3.map _) ?_ hfr ⟨as', upd_same, (tups_mk ha').new hfr⟩ (Same.new hfr)
    rw [List.pairwise_map]
    rw [List.pairwise_map] at p2
    refine List.Pairwise.imp_of_mem (fun {a b} ma mb z => ?_) p2
    rw [(tup_raw I (ha' a ma)).1, (tup_raw I (ha' b mb)).1] at z
    exact z
end
/-! ### len of an own object -/
section
variable {X : Cx} {CX : CXT} {k : Nat} {C g : Addr} {fd : FuncData} {ps : List Str} {sp : Sp}
def rLenO (C : Addr) (sp : Sp) : List V → Hp → VK → Prop := fun xs H Q => ∃ a dx fs, xs = [.ref a] ∧ H a = some (.ins C dx fs) ∧ sp [.ref a] H (fun v H' => ∃ n : Int, v = .int n ∧ 0 ≤ n ∧ n < 2 ^ 63 ∧ Q (.int n) H') fun _ _ _ => False
theorem c_lenO (F : FnOk X.prog X.w X.K X.mg X.base CX k g fd ps sp) (hr : Room (k + 1) X.A) (hm : Meth X.K C "__len__" g) (hb : Binds X.K fd ps []) (hx : Passes CX X.nox fun _ _ _ => False) : CallR X (.builtin "len") (rLenO C sp) := by
  intro pins s σ H xs us Q I r h
  obtain ⟨a, dx, fs, rfl, ea, h⟩ := h
  rw [Vals.ref1 r]
  obtain ⟨mA, O, _, _, _, _⟩ := ins_get I.hok ea
  obtain ⟨od, J, _⟩ := O.look
  have hl : ([Value.ref a] ++ []).length = ps.length := by
    rw [← F.len _ _ _ _ h]
    rfl
  refine Calls.call_function_entry kind_len plain_len entry_len (args_len1 _) ?_
  unfold Builtin.«len»
  refine wpAny_bind (m := oneArg "len" _) ?_
  refine wpAny_pure ?_
  refine wpAny_bind (m := callSpecial? (.ref a) (Str.ofString "__len__")) ?_
  refine PySem.W.special_fn I.kIn J hm.at_ (beq_iff_eq.mp hm.fn) ?_
  refine wpAny_call ?_
  refine codeAny_mono (F.run X.A.in1 X.stack s H ⟨[Value.ref a], []⟩ ([Value.ref a] ++ []) [V.ref a] _ _ hr.in1 I.env0.in1 (hb _ [Value.ref a] I.kIn hl) (.cons (show RelV (.ref a) (.ref a) from rfl) .nil) h) fun r s' hq => ?_
  cases r with
  | error er => exact False.elim (hx pins σ H s er s' (I.wish _) hq)
  | ok fl =>
    cases fl with
    | ret u =>
      obtain ⟨v, H', I3, rv, n, rfl, h0, h1, q⟩ := I.after hq
      obtain ⟨t, rfl⟩ := rv
      refine wpAny_bind ?_
      refine wpAny_holding ?_
      refine wpAny_pure ?_
      refine wpAny_bind ?_
      refine wpAny_letGo ?_
      show wpAny _ _ (if n < 0 then _ else _) _ _ _
      rw [if_neg (by omega)]
      show wpAny _ _ (if n ≥ 2 ^ 63 then _ else _) _ _ _
      rw [if_neg (by omega)]
      refine wpAny_bind ?_
      refine wpAny_mkInt ?_
      refine wpAny_pure ⟨_, rfl, ?_⟩
      exact ⟨.int n, H', I3.tok _, ⟨_, rfl⟩, q⟩
    | next => exact False.elim hq
    | brk => exact False.elim hq
    | cont => exact False.elim hq
end
/-! ### == and + of own objects -/
section
variable {X : Cx} {CX : CXT} {k : Nat} {C g : Addr} {fd : FuncData} {ps : List Str} {sp : Sp} {E : XK}
def rOwn2 (C : Addr) (sp : Sp) (E : XK) : R2 := fun x y H Q => ∃ a b dx dy fs gs, x = .ref a ∧ y = .ref b ∧ H a = some (.ins C dx fs) ∧ H b = some (.ins C dy gs) ∧ sp [.ref a, .ref b] H Q E
theorem back_of {pins : List (Addr × Obj)} {σ : L2.St} {Q : VK} {u : Value} {s : Shared} (h : EP X pins σ Q u s) : PySem.W.CmpBack (EP X pins σ Q) u s := by
  obtain ⟨v, H, I, r, q⟩ := h
  cases u with
  | notImplemented => cases v <;> first | (obtain ⟨_, r⟩ := r; cases r; done) | cases r
  | _ => exact ⟨v, H, I, r, q⟩
theorem o_eqOwn (F : FnOk X.prog X.w X.K X.mg X.base CX k g fd ps sp) (hr : Room k X.A) (hm : Meth X.K C "__eq__" g) (hb : Binds X.K fd ps []) (hx : Passes CX X E) : OpR X (compareOp .Eq) (rOwn2 C sp E) := by
  intro pins s σ H x y v u Q I rx ry h
  obtain ⟨a, b, dx, dy, fs, gs, rfl, rfl, ea, eb, h⟩ := h
  obtain rfl : v = Value.ref a := rx
  obtain rfl : u = Value.ref b := ry
  obtain ⟨_, O, _⟩ := ins_get I.hok ea
  obtain ⟨_, O', _⟩ := ins_get I.hok eb
  obtain ⟨_, J, _⟩ := O.look
  obtain ⟨_, J', _⟩ := O'.look
  obtain ⟨_, fr⟩ := I.fr
  refine PySem.W.cmp_K (op := .Eq) (tb := .ref C) hr.units0 fr I.ok.mod.kin J J'.type (by simp [PySem.W.notFirst]) hm.at_ hm.fn ?_
  exact wpAny_mono (run_fn (dvs := []) F hr hb .nil hx I (.cons (show RelV (.ref a) (.ref a) from rfl) (.cons (show RelV (.ref b) (.ref b) from rfl) .nil)) h) (fun _ _ q => back_of q) fun _ _ z => z
theorem o_addOwn (F : FnOk X.prog X.w X.K X.mg X.base CX k g fd ps sp) (hr : Room k X.A) (hm : Meth X.K C "__add__" g) (hc : PySem.W.selfFirst X.K C = true) (hb : Binds X.K fd ps []) (hx : Passes CX X E) : OpR X (binaryOp .Add) (rOwn2 C sp E) := by
  intro pins s σ H x y v u Q I rx ry h
  obtain ⟨a, b, dx, dy, fs, gs, rfl, rfl, ea, eb, h⟩ := h
  obtain rfl : v = Value.ref a := rx
  obtain rfl : u = Value.ref b := ry
  obtain ⟨_, O, _⟩ := ins_get I.hok ea
  obtain ⟨_, O', _⟩ := ins_get I.hok eb
  obtain ⟨_, J, _⟩ := O.look
  obtain ⟨_, J', _⟩ := O'.look
  obtain ⟨_, fr⟩ := I.fr
  refine PySem.W.binop_K (op := .Add) fr I.ok.mod.kin J J'.type hc hm.at_ hm.fn ?_
  exact wpAny_mono (run_fn (dvs := []) F hr hb .nil hx I (.cons (show RelV (.ref a) (.ref a) from rfl) (.cons (show RelV (.ref b) (.ref b) from rfl) .nil)) h) (fun _ _ q => back_of q) fun _ _ z => z
end
/-! ### own objects: ==, len; names in short -/
def eOwn2 (PX : Addr → D → En → Prop) (C : Addr) (con : Con) (f1 f2 : EvF) : EvF := fun e P => f1 e fun r1 e1 => f2 e1 fun r2 e2 => ∃ fs gs e3 e4, frz e2 r1 = some (.obj C fs, e3) ∧ frz e3 r2 = some (.obj C gs, e4) ∧ callD PX con [.v (.obj C fs), .v (.obj C gs)] e4 P
def eLenO (C : Addr) (con : Con) (f : EvF) : EvF := fun e P => f e fun r e1 => ∃ fs e2, frz e1 r = some (.obj C fs, e2) ∧ callD (fun _ _ _ => False) con [.v (.obj C fs)] e2 fun r' e3 => ∃ n : Int, r' = .ent (.imm (.int n)) ∧ 0 ≤ n ∧ n < 2 ^ 63 ∧ P r' e3
section
variable {X : Cx} {F : Fr} {k : Nat} {C g : Addr} {fd : FuncData} {pn : List Str} {con : Con} {a b : Expr} {f1 f2 : EvF} {pos p : Pos} {x : Str}
theorem DT.own2 {E : XK} {ta tb : TE} (d1 : DT F ta f1) (d2 : DT F tb f2) (hE : ∀ σ, E = WE F.W σ) (fo : FrOk F) : DT F (tOp (rOwn2 C (spD F.K con) E) ta tb) (eOwn2 F.PX C con f1 f2) := fun σ I H e ps P Q s h k' => by
  refine d1 σ I H e ps _ _ s h fun x r1 e1 I1 H1 h1 s1 => ?_
  refine d2 σ I1 H1 e1 _ _ _ s1 h1 fun y r2 e2 I2 H2 h2 s2 => ?_
  obtain ⟨fs, gs, e3, e4, hf, hg, hc⟩ := h2
  rw [List.append_assoc] at s2
  obtain ⟨I3, _, s3⟩ := s2.frz hf
  have s3' : ST F σ I3 H2 e3 ((ps ++ [(x, .im (.obj C fs))]) ++ [(y, r2)]) := by rw [List.append_assoc]; exact s3
  obtain ⟨I4, _, s4⟩ := s3'.frz hg
  have ry : Rep F.K I4 y (.obj C gs) := ST.temp (ps := ps ++ [(x, .im (.obj C fs))]) (qs := []) (t := .imm (.obj C gs)) s4
  have rx : Rep F.K I4 x (.obj C fs) := ST.temp (ps := ps) (qs := []) (t := .imm (.obj C fs)) s4.weak
  cases rx with
  | @obj a _ dx fs' _ hx m1 r1 =>
    cases ry with
    | @obj b _ dy gs' _ hy m2 r2 =>
      refine ⟨a, b, dx, dy, fs', gs', rfl, rfl, s4.sub _ _ hx, s4.sub _ _ hy, ?_⟩
      rw [hE σ]
      refine ST.called (I := I4) (ps := ps) (as := [.v (.obj C fs), .v (.obj C gs)]) ?_ rfl fo hc k'
      rw [List.append_assoc] at s4
      exact s4
theorem de_eqO (h1 : DE X F a f1) (h2 : DE X F b f2) (G : FnOk X.prog X.w X.K X.mg X.base (L2.CX X.prog X.w) k g fd pn (spD X.K con)) (hr : Room k X.A) (hm : Meth X.K C "__eq__" g) (hb : Binds X.K fd pn []) (hK : F.K = X.K := by first | rfl | assumption) (hmk : behindInMarks .Eq b = false := by exact nomark _) :
    DE X F (.Compare a [.Eq] [b] pos) (eOwn2 (fun _ _ _ => False) C con f1 f2) := by
  obtain ⟨t1, p1, d1⟩ := h1
  obtain ⟨t2, p2, d2⟩ := h2
  refine ⟨_, pe_cmpR (o_eqOwn G hr hm hb (E := fun _ _ _ => False) passL) p1 p2 hmk, fun σ I H e ps P Q s h k' => ?_⟩
  rw [← hK]
  refine d1 σ I H e ps _ _ s h fun x r1 e1 I1 H1 h1 s1 => ?_
  refine d2 σ I1 H1 e1 _ _ _ s1 h1 fun y r2 e2 I2 H2 h2 s2 => ?_
  obtain ⟨fs, gs, e3, e4, hf, hg, hc⟩ := h2
  rw [List.append_assoc] at s2
  obtain ⟨I3, _, s3⟩ := s2.frz hf
  have s3' : ST F σ I3 H2 e3 ((ps ++ [(x, .im (.obj C fs))]) ++ [(y, r2)]) := by rw [List.append_assoc]; exact s3
  obtain ⟨I4, _, s4⟩ := s3'.frz hg
  have ry : Rep F.K I4 y (.obj C gs) := ST.temp (ps := ps ++ [(x, .im (.obj C fs))]) (qs := []) (t := .imm (.obj C gs)) s4
  have rx : Rep F.K I4 x (.obj C fs) := ST.temp (ps := ps) (qs := []) (t := .imm (.obj C fs)) s4.weak
  cases rx with
  | @obj a _ dx fs' _ hx m1 r1 =>
    cases ry with
    | @obj b _ dy gs' _ hy m2 r2 =>
      refine ⟨a, b, dx, dy, fs', gs', rfl, rfl, s4.sub _ _ hx, s4.sub _ _ hy, ?_⟩
      refine ST.called (F := F.nox) (I := I4) (ps := ps) (as := [.v (.obj C fs), .v (.obj C gs)]) ?_ rfl frok_nox hc fun x r e' I' H' p s => k' x r e' I' H' p s.unnox
      rw [List.append_assoc] at s4
      exact s4.nox
theorem de_lenO (h1 : DE X F a f1) (G : FnOk X.prog X.w X.K X.mg X.base (L2.CX X.prog X.w) k g fd pn (spD X.K con)) (hr : Room (k + 1) X.A) (hm : Meth X.K C "__len__" g) (hb : Binds X.K fd pn []) (hg : Gl X "len") (hmg : X.mg "len" = none) (hK : F.K = X.K := by first | rfl | assumption)
    (he : starEach [a] X.env = (false, eval a X.env) :: starEach [] X.env := by rfl) (hpl : (backTo pos (starEach [] X.env)).any (·.1) = false := by rfl) : DE X F (.Call (.Name "len" p) [a] [] pos) (eLenO C con f1) := by
  obtain ⟨t1, p1, d1⟩ := h1
  refine ⟨_, pe_callB (c_lenO G hr hm hb passL) hg hmg (by decide +kernel) (pa_cons p1 pa_nil he) (by decide) (by decide) he hpl, fun σ I H e ps P Q s h k' => ?_⟩
  refine d1 σ I H e ps _ _ s h fun x r1 e1 I1 H1 h1 s1 => ?_
  obtain ⟨fs, e2, hf, hc⟩ := h1
  obtain ⟨I2, _, s2⟩ := s1.frz hf
  have rx : Rep F.K I2 x (.obj C fs) := ST.temp (qs := []) (t := .imm (.obj C fs)) s2
  cases rx with
  | @obj a _ dx gs _ hx m1 r1 =>
    refine ⟨a, dx, gs, rfl, s2.sub _ _ hx, ?_⟩
    rw [← hK]
    refine ST.called (F := F.nox) (I := I2) (ps := ps) (as := [.v (.obj C fs)]) s2.nox rfl frok_nox hc fun x r e' I' H' ⟨n, hr, h0, h1, p⟩ s => ?_
    subst hr
    have rn : Rep F.K I' x (.int n) := ST.temp (F := F.nox) (qs := []) (t := .imm (.int n)) s
    cases rn
    exact ⟨n, rfl, h0, h1, k' _ _ e' I' H' p s.unnox⟩
/-- a local name, by its slot -/
theorem dv (i : Nat) {x : Str} {pos : Pos} (hN : X.N[i]? = some x := by rfl) (hv : Vis X.env.scope x := by first | exact Or.inl rfl | exact Or.inr (Or.inl rfl) | exact Or.inr (Or.inr rfl)) (hd : (x == ("__debug__" : Str)) = false := by decide)
    (hcd : (x == ("__classdict__" : Str)) = false := by decide) : DE X F (.Name x pos) (eVar i) := de_var hN hv hd hcd
/-- .. handed over as it is -/
theorem gr (i : Nat) {x : Str} {pos : Pos} {es : List Expr} {g : EvG} (h2 : DG X F es g) (hN : X.N[i]? = some x := by rfl) (hv : Vis X.env.scope x := by first | exact Or.inl rfl | exact Or.inr (Or.inl rfl) | exact Or.inr (Or.inr rfl)) (hd : (x == ("__debug__" : Str)) = false := by decide)
    (hcd : (x == ("__classdict__" : Str)) = false := by decide) (hs : starEach (.Name x pos :: es) X.env = (false, eval (.Name x pos) X.env) :: starEach es X.env := by rfl) : DG X F (.Name x pos :: es) (gaR i g) := dg_r hN hv h2 hd hcd hs
/-- a constant tuple of texts of the module -/
theorem de_con {x : Str} {a : Addr} {xs : List V} {ds : List D} {pos : Pos} (hg : Gl X x) (hm : X.mg x = some (.ref a)) (h : ∀ H, SqT X.K H a xs) (r : ∀ I, Reps X.K I xs ds) (hK : F.K = X.K := by first | rfl | assumption) (hd : (x == ("__debug__" : Str)) = false := by decide) : DE X F (.Name x pos) (eC (.ftp ds)) :=
  de_glob (v := .ref a) hg hm rfl (fun I => by rw [hK]; exact .ftp (h I) (r I)) hd
end
theorem reps_strs {K : PySem.W.Frag} {I : Hp} : ∀ zs : List Str, Reps K I (zs.map V.str) (zs.map D.str)
  | [] => .nil
  | _ :: zs => .cons (.str _) (reps_strs zs)
/-! ### the steps of a walk over data -/
section
variable {e e1 e2 e3 : En} {P : Rv → En → Prop} {PB : Bool → En → Prop} {PA : List Rv → En → Prop} {PG : List Ag → En → Prop} {PO : Option Int → En → Prop} {PN : En → Prop} {PE : Ent → Prop} {d : Ed} {i j : Nat} {c q : D} {a : Addr} {r r1 r2 : Rv} {rs : List Rv} {f g h : EvF} {fa : EvA} {fg : EvG} {t u : EvT} {s s' : SvF} {tg : TgF} {tgs : TgsF}
theorem s_vi (h : e[i]? = some (some (.imm c))) (k : P (.im c) e) : eVar i e P := .inl ⟨c, h, k⟩
theorem s_vs {x : Ent} (h : e[i]? = some (some x)) (k : P (.slot i) e) : eVar i e P := .inr ⟨x, h, k⟩
theorem s_c (k : P (.im c) e) : eC c e P := k
theorem s_aN (k : PA [] e) : aNil e PA := k
theorem s_aC (k : f e fun r e1 => fa e1 fun rs e2 => PA (r :: rs) e2) : aCons f fa e PA := k
theorem s_tup (k : fa e fun rs e1 => ∃ ds e2, frzs e1 rs = some (ds, e2) ∧ ds.length ≤ 1000 ∧ P (.im (.tup ds)) e2) : eTup fa e P := k
theorem s_lst (k : fa e fun rs e1 => ∃ ds e2, frzs e1 rs = some (ds, e2) ∧ ds.length ≤ 1000 ∧ ∀ a, P (.ent (.own a (.lst ds))) e2) : eLst fa e P := k
theorem x_frzs {R : List D → En → Prop} {ds : List D} (h : frzs e rs = some (ds, e1)) (l : Nat.ble ds.length 1000 = true) (k : R ds e1) : ∃ ds e2, frzs e rs = some (ds, e2) ∧ ds.length ≤ 1000 ∧ R ds e2 := ⟨ds, e1, h, Nat.le_of_ble_eq_true l, k⟩
theorem s_op {o : DO2} (k : f e fun r1 e1 => g e1 fun r2 e2 => ∃ c d, val e2 r1 = some c ∧ val e2 r2 = some d ∧ o c d fun t => P (.ent t) e2) : eOp o f g e P := k
theorem s_un {o : DO1} (k : f e fun r e1 => ∃ c, val e1 r = some c ∧ o c fun t => P (.ent t) e1) : eUn o f e P := k
theorem s_cl {o : DON} (k : fa e fun rs e1 => ∃ ds, vals e1 rs = some ds ∧ o ds fun t => P (.ent t) e1) : eCl o fa e P := k
theorem x_val2 {R : D → D → Prop} (h1 : val e r1 = some c) (h2 : val e r2 = some q) (k : R c q) : ∃ c d, val e r1 = some c ∧ val e r2 = some d ∧ R c d := ⟨c, q, h1, h2, k⟩
theorem x_val {R : D → Prop} (h : val e r = some c) (k : R c) : ∃ c, val e r = some c ∧ R c := ⟨c, h, k⟩
theorem x_vals {R : List D → Prop} {ds : List D} (h : vals e rs = some ds) (k : R ds) : ∃ ds, vals e rs = some ds ∧ R ds := ⟨ds, h, k⟩
theorem x_bl {R : Bool → Prop} {b : Bool} (h : val e r = some (.bl b)) (k : R b) : ∃ b, val e r = some (.bl b) ∧ R b := ⟨b, h, k⟩
theorem x_int {R : Int → Prop} {z : Int} (h : val e r = some (.int z)) (k : R z) : ∃ z, val e r = some (.int z) ∧ R z := ⟨z, h, k⟩
theorem x_frz {R : D → En → Prop} (h : frz e r = some (c, e1)) (k : R c e1) : ∃ c e2, frz e r = some (c, e2) ∧ R c e2 := ⟨c, e1, h, k⟩
theorem x_frzO {R : List (Str × D) → En → Prop} {C : Addr} {fs : List (Str × D)} (h : frz e r = some (.obj C fs, e1)) (k : R fs e1) : ∃ fs e2, frz e r = some (.obj C fs, e2) ∧ R fs e2 := ⟨fs, e1, h, k⟩
theorem x_asg {R : En → Prop} (h : asg e i r = some e1) (k : R e1) : ∃ e2, asg e i r = some e2 ∧ R e2 := ⟨e1, h, k⟩
theorem s_test (k : f e fun r e1 => ∃ b, val e1 r = some (.bl b) ∧ PB b e1) : eTest f e PB := k
theorem s_and (k : t e fun b e1 => if b = true then u e1 PB else PB false e1) : sAnd t u e PB := k
theorem s_or (k : t e fun b e1 => if b = true then PB true e1 else u e1 PB) : sOr t u e PB := k
theorem s_not (k : t e fun b e1 => PB (!b) e1) : sNot t e PB := k
theorem s_andV (k : f e fun r e1 => ∃ b, val e1 r = some (.bl b) ∧ if b = true then g e1 P else P (.im (.bl false)) e1) : eAnd f g e P := k
theorem s_orV (k : f e fun r e1 => ∃ b, val e1 r = some (.bl b) ∧ if b = true then P (.im (.bl true)) e1 else g e1 P) : eOr f g e P := k
theorem s_notV (k : f e fun r e1 => ∃ b, val e1 r = some (.bl b) ∧ P (.im (.bl !b)) e1) : eNot f e P := k
theorem s_ifV (k : t e fun b e1 => if b = true then f e1 P else g e1 P) : eIf t f g e P := k
theorem s_chain {o o' : DO2} (k : f e fun r1 e1 => g e1 fun r2 e2 => ∃ c d, val e2 r1 = some c ∧ val e2 r2 = some d ∧ o c d fun t => ∃ b, t = .imm (.bl b) ∧
  if b = true then h e2 fun r3 e3 => ∃ c d, val e3 r2 = some c ∧ val e3 r3 = some d ∧ o' c d fun t => P (.ent t) e3 else P (.im (.bl false)) e2) : eChain o o' f g h e P := k
theorem x_ib {R : Bool → Prop} {b : Bool} (k : R b) : ∃ b', Ent.imm (.bl b) = .imm (.bl b') ∧ R b' := ⟨b, rfl, k⟩
theorem s_pN (k : PO none e) : pNo e PO := k
theorem s_pS (k : f e fun r e1 => ∃ i, val e1 r = some (.int i) ∧ PO (some i) e1) : pSome f e PO := k
theorem s_sl {l u : EvO} (k : f e fun r e1 => l e1 fun lo e2 => u e2 fun hi e3 => ∃ c, val e3 r = some c ∧ oSl c lo hi fun t => P (.ent t) e3) : eSl f l u e P := k
theorem s_call {PX : Addr → D → En → Prop} {con : Con} (k : fg e fun as e1 => ∃ es, entsOf e1 as = some es ∧ oneEach (refsOf as) = true ∧ con es (fun t es' => es'.length = es.length ∧ ∃ e2, backTo' e1 as es' = some e2 ∧ P (.ent t) e2) (fun C d es' => ∃ e2, backTo' e1 as es' = some e2 ∧ PX C d e2)) : eCall PX con fg e P := k
theorem x_con {R : List Ent → Prop} {as : List Ag} {es : List Ent} {b : Bool} (h : entsOf e as = some es) (h2 : b = true) (k : R es) : ∃ es, entsOf e as = some es ∧ b = true ∧ R es := ⟨es, h, h2, k⟩
theorem x_back {R : En → Prop} {as : List Ag} {es' : List Ent} {n m : Nat} (hl : n = m) (h : backTo' e as es' = some e1) (k : R e1) : n = m ∧ ∃ e2, backTo' e as es' = some e2 ∧ R e2 := ⟨hl, e1, h, k⟩
theorem x_back1 {R : En → Prop} {as : List Ag} {es' : List Ent} (h : backTo' e as es' = some e1) (k : R e1) : ∃ e2, backTo' e as es' = some e2 ∧ R e2 := ⟨e1, h, k⟩
theorem s_gaN (k : PG [] e) : gaNil e PG := k
theorem s_gaV (k : f e fun r e1 => ∃ d e2, frz e1 r = some (d, e2) ∧ fg e2 fun as e3 => PG (.v d :: as) e3) : gaV f fg e PG := k
theorem s_gaR {x : Ent} (h : e[i]? = some (some x)) (k : fg e fun as e1 => PG (.r i :: as) e1) : gaR i fg e PG := ⟨⟨x, h⟩, k⟩
theorem s_meth {PX : Addr → D → En → Prop} {C : Addr} {m : Str} {con : Con} (k : f e fun r e1 => ∃ fs e2, frz e1 r = some (.obj C fs, e2) ∧ fs.lookup m = none ∧ fg e2 fun as e3 => callD PX con (.v (.obj C fs) :: as) e3 P) : eMeth PX C m con f fg e P := k
theorem s_meth0 {PX : Addr → D → En → Prop} {C : Addr} {m : Str} {con : Con} (k : f e fun r e1 => ∃ fs e2, frz e1 r = some (.obj C fs, e2) ∧ fs.lookup m = none ∧ callD PX con [.v (.obj C fs)] e2 P) : eMeth0 PX C m con f e P := k
theorem s_prop {C : Addr} {con : Con} (k : f e fun r e1 => ∃ fs e2, frz e1 r = some (.obj C fs, e2) ∧ callD (fun _ _ _ => False) con [.v (.obj C fs)] e2 P) : eProp C con f e P := k
theorem s_make {PX : Addr → D → En → Prop} {con : Con} (k : fg e fun as e1 => callD PX con as e1 P) : eMake PX con fg e P := k
theorem s_own2 {PX : Addr → D → En → Prop} {C : Addr} {con : Con} (k : f e fun r1 e1 => g e1 fun r2 e2 => ∃ fs gs e3 e4, frz e2 r1 = some (.obj C fs, e3) ∧ frz e3 r2 = some (.obj C gs, e4) ∧ callD PX con [.v (.obj C fs), .v (.obj C gs)] e4 P) : eOwn2 PX C con f g e P := k
theorem x_frz2 {R : List (Str × D) → List (Str × D) → En → Prop} {C : Addr} {fs gs : List (Str × D)} (h1 : frz e r1 = some (.obj C fs, e1)) (h2 : frz e1 r2 = some (.obj C gs, e2)) (k : R fs gs e2) : ∃ fs gs e3 e4, frz e r1 = some (.obj C fs, e3) ∧ frz e3 r2 = some (.obj C gs, e4) ∧ R fs gs e4 := ⟨fs, gs, e1, e2, h1, h2, k⟩
theorem s_lenO {C : Addr} {con : Con} (k : f e fun r e1 => ∃ fs e2, frz e1 r = some (.obj C fs, e2) ∧ callD (fun _ _ _ => False) con [.v (.obj C fs)] e2 fun r' e3 => ∃ n : Int, r' = .ent (.imm (.int n)) ∧ 0 ≤ n ∧ n < 2 ^ 63 ∧ P r' e3) : eLenO C con f e P := k
theorem s_callD {PX : Addr → D → En → Prop} {con : Con} {as : List Ag} {es : List Ent} (h : entsOf e as = some es) (h2 : oneEach (refsOf as) = true) (k : con es (fun t es' => es'.length = es.length ∧ ∃ e2, backTo' e as es' = some e2 ∧ P (.ent t) e2) (fun C d es' => ∃ e2, backTo' e as es' = some e2 ∧ PX C d e2)) : callD PX con as e P := ⟨es, h, h2, k⟩
theorem s_mut {o : DMo} {ds0 : List D} (h : e[i]? = some (some (.own a (.lst ds0)))) (k : fa e fun rs e1 => ∃ cs e2 a ds, frzs e1 rs = some (cs, e2) ∧ e2[i]? = some (some (.own a (.lst ds))) ∧ o ds cs fun ds' d => P (.im d) (e2.set i (some (.own a (.lst ds'))))) : eMut i o fa e P := ⟨⟨a, ds0, h⟩, k⟩
theorem x_mut {R : List D → En → Addr → List D → Prop} {cs ds : List D} (h : frzs e rs = some (cs, e1)) (h2 : e1[i]? = some (some (.own a (.lst ds)))) (k : R cs e1 a ds) : ∃ cs e2 a ds, frzs e rs = some (cs, e2) ∧ e2[i]? = some (some (.own a (.lst ds))) ∧ R cs e2 a ds := ⟨cs, e1, a, ds, h, h2, k⟩
theorem s_mut0 {o : DMo} {ds : List D} (h : e[i]? = some (some (.own a (.lst ds)))) (k : o ds [] fun ds' d => P (.im d) (e.set i (some (.own a (.lst ds'))))) : eMut0 i o e P := ⟨a, ds, h, k⟩
theorem s_dget (k : f e fun r1 e1 => g e1 fun r2 e2 => ∃ c d, val e2 r1 = some c ∧ val e2 r2 = some d ∧ dLook c d fun p => ∃ q, p = some q ∧ P (.im q) e2) : eDGet f g e P := k
theorem s_din (k : f e fun r1 e1 => g e1 fun r2 e2 => ∃ d c, val e2 r1 = some d ∧ val e2 r2 = some c ∧ dLook c d fun p => P (.im (.bl p.isSome)) e2) : eDIn f g e P := k
theorem s_dnin (k : f e fun r1 e1 => g e1 fun r2 e2 => ∃ d c, val e2 r1 = some d ∧ val e2 r2 = some c ∧ dLook c d fun p => P (.im (.bl !p.isSome)) e2) : eDNin f g e P := k
theorem s_lookT {es : List (List Key × D)} {kd : D} {k : List Key} {R : Option D → Prop} (h : keyT kd = some k) (q : R (lookD es k)) : dLook (.dic es) kd R := ⟨k, h, q⟩
theorem s_lookK {es : List (Key × D)} {kd : D} {k : Key} {R : Option D → Prop} (h : keyS kd = some k) (q : R (lookD es k)) : dLook (.dik es) kd R := ⟨k, h, q⟩
/-- statements -/
theorem s_next (k : d.nx e) : sNext e d := k
theorem s_seq (k : s e { d with nx := fun e1 => s' e1 d }) : sSeq s s' e d := k
theorem s_set (k : f e fun r e1 => ∃ e2, asg e1 i r = some e2 ∧ d.nx e2) : sSet i f e d := k
theorem s_drop (k : f e fun _ e1 => d.nx e1) : sDrop f e d := k
theorem s_ret (k : f e d.rt) : sRet f e d := k
theorem s_retN (k : d.rt (.im .non) e) : sRetN e d := k
theorem s_if (k : t e fun b e1 => if b = true then s e1 d else s' e1 d) : sIf t s s' e d := k
theorem s_brk (k : d.bk e) : sBrk e d := k
theorem s_cnt (k : d.ct e) : sCnt e d := k
theorem s_asg (k : f e fun r e1 => ∃ c e2, frz e1 r = some (c, e2) ∧ tg c e2 d.nx) : sAsg f tg e d := k
theorem s_raise {PX : Addr → D → En → Prop} {C : Addr} (k : f e fun r e1 => ∃ c e2, frz e1 r = some (c, e2) ∧ PX C c e2) : sRaise PX C f e d := k
theorem s_setIx (k : g e fun rv e1 => (∃ a ds, e1[i]? = some (some (.own a (.lst ds)))) ∧ f e1 fun ri e2 => ∃ c e3 a ds z j, val e2 ri = some (.int z) ∧ frz e2 rv = some (c, e3) ∧ e3[i]? = some (some (.own a (.lst ds))) ∧ ixN ds.length z = some j ∧ d.nx (e3.set i (some (.own a (.lst (ds.set j c)))))) : sSetIx i f g e d := k
theorem s_gN (h : asg e i (.im c) = some e1) (k : PN e1) : gN i c e PN := ⟨e1, h, k⟩
theorem s_gNl (k : PN e) : gNl [] e PN := ⟨rfl, k⟩
theorem s_gCn {cs : List D} (k : tg c e fun e1 => tgs cs e1 PN) : gCn tg tgs (c :: cs) e PN := ⟨c, cs, rfl, k⟩
theorem s_gT {n : Nat} {cs : List D} (l : cs.length = n) (k : tgs cs e PN) : gT n tgs (.tup cs) e PN := ⟨cs, .inl rfl, l, k⟩
theorem s_gL {n : Nat} {cs : List D} (l : cs.length = n) (k : tgs cs e PN) : gT n tgs (.lst cs) e PN := ⟨cs, .inr rfl, l, k⟩
theorem s_for {w : EvI} (k : w e fun ds e1 => ∃ W : Nat → En → Prop, W 0 e1 ∧ (∀ i c e2, ds[i]? = some c → W i e2 → tg c e2 fun e3 => s e3 { d with nx := W (i + 1), ct := W (i + 1), bk := d.nx }) ∧ ∀ e2, W ds.length e2 → d.nx e2) : sFor w tg s e d := k
theorem s_wSeq {PI : List D → En → Prop} (k : f e fun r e1 => ∃ c e2 ds, frz e1 r = some (c, e2) ∧ items c = some ds ∧ PI ds e2) : wSeq f e PI := k
theorem x_items {R : D → En → List D → Prop} {ds : List D} (h : frz e r = some (c, e1)) (h2 : items c = some ds) (k : R c e1 ds) : ∃ c e2 ds, frz e r = some (c, e2) ∧ items c = some ds ∧ R c e2 ds := ⟨c, e1, ds, h, h2, k⟩
theorem s_rng1 {PI : List D → En → Prop} (k : fa e fun rs e1 => ∃ j, vals e1 rs = some [.int j] ∧ -(2 ^ 62) ≤ j ∧ j < 2 ^ 62 ∧ PI (rngD 0 1 j.toNat) e1) : wRng1 fa e PI := k
theorem x_rng1 {R : Int → Prop} {z : Int} (h : vals e rs = some [.int z]) (h1 : -(2 ^ 62) ≤ z) (h2 : z < 2 ^ 62) (k : R z) : ∃ j, vals e rs = some [.int j] ∧ -(2 ^ 62) ≤ j ∧ j < 2 ^ 62 ∧ R j := ⟨z, h, h1, h2, k⟩
theorem s_rng2 {PI : List D → En → Prop} (k : fa e fun rs e1 => ∃ i j, vals e1 rs = some [.int i, .int j] ∧ (-(2 ^ 62) ≤ i ∧ i < 2 ^ 62 ∧ -(2 ^ 62) ≤ j ∧ j < 2 ^ 62) ∧ PI (rngD i 1 (j - i).toNat) e1) : wRng2 fa e PI := k
theorem x_rng2 {R : Int → Int → Prop} {x z : Int} (h : vals e rs = some [.int x, .int z]) (h1 : -(2 ^ 62) ≤ x ∧ x < 2 ^ 62 ∧ -(2 ^ 62) ≤ z ∧ z < 2 ^ 62) (k : R x z) : ∃ i j, vals e rs = some [.int i, .int j] ∧ (-(2 ^ 62) ≤ i ∧ i < 2 ^ 62 ∧ -(2 ^ 62) ≤ j ∧ j < 2 ^ 62) ∧ R i j := ⟨x, z, h, h1, k⟩
theorem s_enum {PI : List D → En → Prop} (k : f e fun r e1 => ∃ c e2 ds, frz e1 r = some (c, e2) ∧ c = .lst ds ∧ PI (enumD ds) e2) : wEnum f e PI := k
theorem x_enum {R : En → List D → Prop} {ds : List D} (h : frz e r = some (.lst ds, e1)) (k : R e1 ds) : ∃ c e2 ds, frz e r = some (c, e2) ∧ c = .lst ds ∧ R e2 ds := ⟨_, e1, ds, h, rfl, k⟩
theorem s_lc {w : EvI} {vs : List Nat} (k : w e fun ds e1 => clearB e1 vs = true ∧ ds.length ≤ 1000000 ∧ ∃ W : Nat → List D → Prop, W 0 [] ∧
  (∀ i c acc, ds[i]? = some c → W i acc → tg c e1 fun e3 => t e3 fun b e4 => if b = true then f e4 fun r e5 => ∃ d e6, frz e5 r = some (d, e6) ∧ wipeE e6 vs = wipeE e1 vs ∧ W (i + 1) (acc ++ [d]) else wipeE e4 vs = wipeE e1 vs ∧ W (i + 1) acc) ∧
  ∀ acc, W ds.length acc → ∀ a, P (.ent (.own a (.lst acc))) (wipeE e1 vs)) : eLc w tg t f vs e P := k
theorem s_yes (k : PB true e) : sYes e PB := k
theorem x_clear {R : Prop} {vs : List Nat} (h : clearB e vs = true) (k : R) : clearB e vs = true ∧ R := ⟨h, k⟩
theorem s_end {es es' : List Ent} {R : Ent → List Ent → Prop} {x : Ent} (h : mov e r = some (x, e1)) (b : BackE es e1 es') (k : R x es') : (endE es R).rt r e := ⟨x, e1, h, es', b, k⟩
theorem s_endN {es es' : List Ent} {R : Ent → List Ent → Prop} (b : BackE es e es') (k : R (.imm .non) es') : (endE es R).nx e := ⟨es', b, k⟩
end
/-! operators by shape -/
section
variable {i j : Int} {P : Ent → Prop} {c q : D} {xs ys : List D} {z y : Str}
theorem o_addI (k : P (.imm (.int (i + j)))) : oAdd (.int i) (.int j) P := k
theorem o_addS' (h : z.length + y.length ≤ sizeLine) (k : P (.imm (.str (z ++ y)))) : oAdd (.str z) (.str y) P := ⟨h, k⟩
theorem o_addL (h : xs.length + ys.length ≤ sizeLine) (k : ∀ a, P (.own a (.lst (xs ++ ys)))) : oAdd (.lst xs) (.lst ys) P := ⟨h, k⟩
theorem o_subI (k : P (.imm (.int (i - j)))) : oSub (.int i) (.int j) P := k
theorem o_mulI (h : MulOk i j) (k : P (.imm (.int (i * j)))) : oMul (.int i) (.int j) P := ⟨h, k⟩
theorem o_divI (h : DivOk j) (k : P (.imm (.int (i / j)))) : oDiv (.int i) (.int j) P := ⟨h, k⟩
theorem o_modI (h : 0 < j) (k : P (.imm (.int (i % j)))) : oMod (.int i) (.int j) P := ⟨h, k⟩
theorem o_powI (h : CPow i j) (k : P (.imm (.int (i ^ j.toNat)))) : oPow (.int i) (.int j) P := ⟨h, k⟩
theorem o_andI (k : P (.imm (.int (Builtin.bitAnd i j)))) : oAnd (.int i) (.int j) P := k
theorem o_ltI (k : P (.imm (.bl (decide (i < j))))) : oLt (.int i) (.int j) P := k
theorem o_leI (k : P (.imm (.bl (decide (i ≤ j))))) : oLe (.int i) (.int j) P := k
theorem o_gtI (k : P (.imm (.bl (decide (j < i))))) : oGt (.int i) (.int j) P := k
theorem o_geI (k : P (.imm (.bl (decide (j ≤ i))))) : oGe (.int i) (.int j) P := k
theorem o_eqI (k : P (.imm (.bl (decide (i = j))))) : oEq (.int i) (.int j) P := k
theorem o_eqS (k : P (.imm (.bl (decide (z = y))))) : oEq (.str z) (.str y) P := k
theorem o_neI (k : P (.imm (.bl (!decide (i = j))))) : oNe (.int i) (.int j) P := k
theorem o_neS (k : P (.imm (.bl (!decide (z = y))))) : oNe (.str z) (.str y) P := k
theorem o_isN' (k : P (.imm (.bl (isNon c)))) : oIs c .non P := by cases c <;> exact k
theorem o_isB' {b : Bool} (k : P (.imm (.bl (isBl b c)))) : oIs c (.bl b) P := by cases c <;> exact k
theorem o_notN' (k : P (.imm (.bl (!isNon c)))) : oIsNot c .non P := by cases c <;> exact k
theorem o_ixL {n : Nat} (h : ixN xs.length i = some n) (h2 : xs[n]? = some c) (k : P (.imm c)) : oIx (.lst xs) (.int i) P := ⟨n, c, h, h2, k⟩
theorem o_ixT {n : Nat} (h : ixN xs.length i = some n) (h2 : xs[n]? = some c) (k : P (.imm c)) : oIx (.tup xs) (.int i) P := ⟨n, c, h, h2, k⟩
theorem o_slL {lo hi : Option Int} (k : ∀ a, P (.own a (.lst (cutL xs lo hi)))) : oSl (.lst xs) lo hi P := k
theorem o_slF {lo hi : Option Int} (k : ∀ a, P (.own a (.lst (cutL xs lo hi)))) : oSl (.fls xs) lo hi P := k
theorem o_fld {f : Str} {C : Addr} {fs : List (Str × D)} (h : fs.lookup f = some c) (k : P (.imm c)) : oFld f C (.obj C fs) P := ⟨rfl, c, h, k⟩
theorem o_lenL (k : P (.imm (.int ((xs.length : Nat) : Int)))) : cLen [.lst xs] P := k
theorem o_lenT (k : P (.imm (.int ((xs.length : Nat) : Int)))) : cLen [.tup xs] P := k
theorem o_lenF (k : P (.imm (.int ((xs.length : Nat) : Int)))) : cLen [.fls xs] P := k
theorem o_lenD {es : List (List Key × D)} (k : P (.imm (.int ((es.length : Nat) : Int)))) : cLen [.dic es] P := k
theorem o_int (k : P (.imm (.int i))) : cInt [.int i] P := k
theorem o_abs (k : P (.imm (.int (if i < 0 then -i else i)))) : cAbs [.int i] P := k
theorem o_max (k : P (.imm (.int (if j > i then j else i)))) : cMax [.int i, .int j] P := k
theorem o_min (k : P (.imm (.int (if j < i then j else i)))) : cMin [.int i, .int j] P := k
theorem o_list (k : ∀ a, P (.own a (.lst xs))) : cList [.lst xs] P := k
theorem o_inF {ks : List Str} (h : strsOf xs = some ks) (k : P (.imm (.bl (ks.contains z)))) : oIn (.str z) (.ftp xs) P := ⟨ks, h, k⟩
theorem o_ninF {ks : List Str} (h : strsOf xs = some ks) (k : P (.imm (.bl (!ks.contains z)))) : oNin (.str z) (.ftp xs) P := ⟨ks, h, _, rfl, k⟩
theorem o_inT {ks : List Str} (h : strsOf xs = some ks) (k : P (.imm (.bl (ks.contains z)))) : oIn (.str z) (.tup xs) P := ⟨ks, h, k⟩
theorem o_ninT {ks : List Str} (h : strsOf xs = some ks) (k : P (.imm (.bl (!ks.contains z)))) : oNin (.str z) (.tup xs) P := ⟨ks, h, _, rfl, k⟩
theorem m_app {R : List D → D → Prop} (h : xs.length ≤ 1000000) (k : R (xs ++ [c]) .non) : TK.mAppend xs [c] R := ⟨c, rfl, h, k⟩
theorem m_clr {R : List D → D → Prop} (k : R [] .non) : TK.mClear xs [] R := ⟨rfl, k⟩
theorem m_rev {R : List D → D → Prop} (k : R xs.reverse .non) : TK.mReverse xs [] R := ⟨rfl, k⟩
end
/-! ### a list of one's own is looked at, and stays one's own -/
def sForV (i : Nat) (g : TgF) (body : SvF) : SvF := fun e d => ∃ a ds, e[i]? = some (some (.own a (.lst ds))) ∧ ∃ W : Nat → En → Prop, W 0 e ∧ (∀ k e2, W k e2 → e2[i]? = some (some (.own a (.lst ds)))) ∧
  (∀ k c e2, ds[k]? = some c → W k e2 → g c e2 fun e3 => body e3 { d with nx := W (k + 1), ct := W (k + 1), bk := d.nx }) ∧ ∀ e2, W ds.length e2 → d.nx e2
def eLcV (i : Nat) (g : TgF) (tt : EvT) (f : EvF) (vs : List Nat) : EvF := fun e P => ∃ a ds, e[i]? = some (some (.own a (.lst ds))) ∧ clearB e vs = true ∧ ds.length ≤ 1000000 ∧ ∃ W : Nat → List D → Prop, W 0 [] ∧
  (∀ i c acc, ds[i]? = some c → W i acc → g c e fun e3 => tt e3 fun b e4 => if b = true then f e4 fun r e5 => ∃ d e6, frz e5 r = some (d, e6) ∧ wipeE e6 vs = wipeE e vs ∧ W (i + 1) (acc ++ [d]) else wipeE e4 vs = wipeE e vs ∧ W (i + 1) acc) ∧
  ∀ acc, W ds.length acc → ∀ b, P (.ent (.own b (.lst acc))) (wipeE e vs)
section
variable {X : Cx} {F : Fr} {tg elt : Expr} {g : TgF} {f : SvF} {fe : EvF} {tt : EvT} {body : List Stmt} {pos p : Pos} {sl : List Nat} {i : Nat} {x : Str} {ifs : List Expr} {scope : Scope} {own : List (Str × Nat)}
theorem ds_forV (hp : PassesOwn (model X.prog X.w) X.A X.env X.xe) (hc : X.calm = true) (hN : X.N[i]? = some x) (hv : Vis X.env.scope x) (hg : DGt X F tg g sl) (hb : DSs X F body f) (hK : F.K = X.K := by first | rfl | assumption)
    (hd : (x == ("__debug__" : Str)) = false := by decide) (hcd : (x == ("__classdict__" : Str)) = false := by decide) (hs : ∀ z, foldedSetIterable (.Name x p) X.env z = pure z := by intro _; rfl) : DS X F (.For tg (.Name x p) body [] pos) (sForV i g f) := by
  obtain ⟨tg', pg, dg⟩ := hg
  obtain ⟨tb, pb, db⟩ := hb
  refine ⟨_, ps_for hp hc (pi_any (pe_var hN hv hd hcd)) pg pb hs, fun σ I H e ps d D hps s h k => ?_⟩
  obtain ⟨a, ds, q, W, w0, wk, turn, fin⟩ := h
  obtain ⟨y1, n, xs, hx, r⟩ := s.ownL q
  refine ⟨.ref a, y1, .inl ⟨a, rfl, ⟨xs, SqL.of hx⟩, ?_⟩⟩
  refine ⟨fun i m σ H => m = ds.length - i ∧ i ≤ ds.length ∧ ∃ e I, W i e ∧ ST F σ I H e ps, ⟨ds.length, by simp, Nat.zero_le _, e, I, w0, s⟩, ?_⟩
  rintro j m σ2 H2 ⟨rfl, hi, e2, I2, w2, s2⟩
  obtain ⟨z1, n2, xs2, hx2, r2⟩ := s2.ownL (wk j e2 w2)
  by_cases hlt : j < ds.length
  · refine .inr ⟨⟨xs2, xs2[j]'(by rw [r2.len]; exact hlt), SqL.of hx2, List.getElem?_eq_getElem _⟩, fun σ' H' => ∃ e I, W (j + 1) e ∧ ST F σ' I H' e ps, fun σ' H' ⟨e', I', z1, z2⟩ => ⟨ds.length - (j + 1), by omega, rfl, hlt, e', I', z1, z2⟩, fun x H3 hy => ?_⟩
    obtain ⟨rfl, hy2⟩ := hy
    obtain ⟨c, hc3, rx⟩ := r2.get' (hy2 xs2 (SqL.of hx2))
    refine dg x c σ2 I2 H3 e2 ps _ _ (hps.no _) s2 rx (turn j c e2 hc3 w2) fun σ4 e4 h4 s4 _ => ?_
    refine db σ4 I2 H3 e4 ps _ _ hps s4 h4 ⟨fun σ' I' H' e' h5 s5 => ⟨e', I', h5, s5⟩, fun x r σ' I' H' e' h5 s5 => k.rt x r σ' I' H' e' h5 s5, fun σ' I' H' e' h5 s5 => k.nx σ' I' H' e' h5 s5, fun σ' I' H' e' h5 s5 => ⟨e', I', h5, s5⟩⟩
  · have hi' : j = ds.length := by omega
    subst hi'
    exact .inl ⟨⟨xs2, SqL.of hx2, Nat.le_of_eq r2.len⟩, k.nx σ2 I2 H2 e2 (fin e2 w2) s2⟩
theorem DT.lcV {vs : List Nat} (hsl : ∀ j ∈ sl, j ∈ vs) : DT F (tLc (iAny F.K (tVar i)) (tOfG F.nox g sl) (tOfT F.nox tt) (tOf F.nox fe) vs) (eLcV i g tt fe vs) := fun σ I H e ps P Q s h k => by
  obtain ⟨a, ds, q, hcl, hz, W, w0, turn, fin⟩ := h
  obtain ⟨y1, n, xs, hx, r⟩ := s.ownL q
  refine ⟨.ref a, y1, .inl ⟨a, rfl, ⟨xs, SqL.of hx⟩, ?_⟩⟩
  have nps : NoSl vs ps := clear_no s hcl
  intro D hD
  have sW := s.wipe nps
  have s0 : ST F (L2.wipe σ vs) I (upd H D (.lst [])) (wipeE e vs) (ps ++ [(V.ref D, .ent (.own D (.lst [])))]) := sW.pushG (t := .own D (.lst [])) (Grow.alloc s.sub hD) ⟨rfl, s.sub.none hD, [], upd_same, .nil⟩ fun a ha => by simp at ha; subst ha; exact hD
  have nD : ∀ acc : List TK.D, NoSl vs (ps ++ [(V.ref D, .ent (.own D (.lst acc)))]) := fun acc p hp j q => by
    rcases List.mem_append.mp hp with m | m
    · exact nps p m j q
    · rw [List.mem_singleton] at m
      subst m
      cases q
  have wE : wipeE e vs = e := by
    refine List.ext_getElem? fun i => ?_
    by_cases hi : i ∈ vs
    · have z := List.all_eq_true.mp hcl i hi
      have lw := wipeE_len (e := e) vs
      cases q : e[i]? with
      | none =>
        rw [List.getElem?_eq_none_iff] at q ⊢
        omega
      | some o =>
        cases o with
        | some t => rw [q] at z; cases z
        | none =>
          cases q2 : (wipeE e vs)[i]? with
          | none =>
            rw [List.getElem?_eq_none_iff] at q2
            have := (List.getElem?_eq_some_iff.mp q).1
            omega
          | some o2 =>
            cases o2 with
            | none => rfl
            | some t => exact absurd hi (wipeE_some q2).2
    · exact wipeE_out hi
  have qW : (wipeE e vs)[i]? = some (some (.own a (.lst ds))) := by rw [wE]; exact q
  refine ⟨fun i m H => m = ds.length - i ∧ i ≤ ds.length ∧ ∃ (acc : List TK.D) (I : Hp), acc.length ≤ i ∧ W i acc ∧ ST F (L2.wipe σ vs) I H (wipeE e vs) (ps ++ [(V.ref D, .ent (.own D (.lst acc)))]), ⟨ds.length, by simp, Nat.zero_le _, [], I, Nat.zero_le _, w0, s0⟩, ?_⟩
  rintro j m H2 ⟨rfl, hi, acc, I2, hacc, w2, s2⟩
  obtain ⟨_, n2, xs2, hx2, r2⟩ := s2.ownL qW
  by_cases hlt : j < ds.length
  · refine .inr ⟨⟨xs2, xs2[j]'(by rw [r2.len]; exact hlt), SqL.of hx2, List.getElem?_eq_getElem _⟩, fun H' => ∃ (acc : List TK.D) (I : Hp), acc.length ≤ j + 1 ∧ W (j + 1) acc ∧ ST F (L2.wipe σ vs) I H' (wipeE e vs) (ps ++ [(V.ref D, .ent (.own D (.lst acc)))]), fun H' z => ⟨ds.length - (j + 1), by omega, rfl, hlt, z⟩, fun x H3 hy => ?_⟩
    obtain ⟨rfl, hy2⟩ := hy
    obtain ⟨c, hc3, rx⟩ := r2.get' (hy2 xs2 (SqL.of hx2))
    have s3 := s2.nox
    have tu := turn j c acc hc3 w2
    refine ⟨c, I2, wipeE e vs, _, _, fun p hp j q m => nD acc p hp j q (hsl j m), s3, rx, by rw [wE]; exact tu, fun σ4 e4 h4 s4 so => ?_⟩
    have sw : wipe σ4 vs = wipe σ vs := by
      have z := wipe_same (vs := vs) (σ := L2.wipe σ vs) (σ' := σ4) ⟨so.1, fun j hj => so.2 j fun m => hj (hsl j m)⟩
      rw [z]
      exact wipe_same (vs := vs) ⟨wipe_length .., fun j hj => wipe_out hj⟩
    refine ⟨sw, I2, e4, _, _, s4, h4, fun b e5 I5 H5 h5 s5 => ?_⟩
    cases b with
    | false =>
      obtain ⟨q1, q2⟩ := h5
      have s6 := s5.unnox.wipe (vs := vs) (nD acc)
      rw [sw, q1] at s6
      exact ⟨acc, I5, by omega, q2, s6⟩
    | true =>
      refine ⟨I5, e5, _, _, s5, h5, fun y r e6 I6 H6 h6 s6 => ?_⟩
      obtain ⟨d, e7, hf, q1, q2⟩ := h6
      obtain ⟨I7, _, s7⟩ := s6.unnox.frz hf
      have ry : Rep F.K I7 y d := ST.temp (qs := []) (t := .imm d) s7
      have s8 := ST.weak s7
      have rD : EntR F.K I7 H6 (.ref D) (.own D (.lst acc)) := ST.temp (ps := ps) (qs := []) s8
      obtain ⟨_, _, xs, hx, rr⟩ := rD
      have lx := rr.len
      refine ⟨xs, hx, by rw [lx]; exact Nat.lt_of_le_of_lt (m := 1000000) (by omega) (by decide), acc ++ [d], I7, by simp; omega, q2, ?_⟩
      have s9 := ST.mutT (ps := ps) (qs := []) (d' := .lst (acc ++ [d])) (o := .lst (xs ++ [y])) s8 ⟨xs ++ [y], upd_same, rr.app (.cons ry .nil)⟩
      have s10 := s9.wipe (vs := vs) (nD _)
      rw [sw, q1] at s10
      exact s10
  · have hi' : j = ds.length := by omega
    subst hi'
    refine .inl ⟨⟨xs2, SqL.of hx2, Nat.le_of_eq r2.len⟩, ?_⟩
    exact k _ _ _ I2 H2 (fin acc w2 D) ((s2.unwipe (nD acc)))
theorem de_lcV (hc : X.calm = true) (hN : X.N.Nodup) (hNi : X.N[i]? = some x) (hv : Vis X.env.scope x) (ok : BlkOk X.N X.env.scope scope own)
    (hg : ∀ (s : Shared) (H : Hp) (C : Addr) (cl : List (Str × Addr)) (fp : List Addr), DGt (X.blk s H scope (compEnvC scope cl C X.env) fp) F.nox tg g sl) (ht : ∀ (s : Shared) (H : Hp) (C : Addr) (cl : List (Str × Addr)) (fp : List Addr), DTs (X.blk s H scope (compEnvC scope cl C X.env) fp) F.nox ifs tt)
    (he : ∀ (s : Shared) (H : Hp) (C : Addr) (cl : List (Str × Addr)) (fp : List Addr), DE (X.blk s H scope (compEnvC scope cl C X.env) fp) F.nox elt fe) (hsl : (sl.all fun j => (own.map (·.2)).contains j) = true) (hK : F.K = X.K := by first | rfl | assumption)
    (hd : (x == ("__debug__" : Str)) = false := by decide) (hcd : (x == ("__classdict__" : Str)) = false := by decide) (hs : ∀ z, foldedSetIterable (.Name x p) X.env z = pure z := by intro _; rfl) :
    DE X F (.ListComp elt [⟨tg, .Name x p, ifs, 0⟩] scope pos) (eLcV i g tt fe (own.map (·.2))) := by
  have z := DT.lcV (F := F) (g := g) (tt := tt) (fe := fe) (i := i) (vs := own.map (·.2)) (sl := sl) fun j hj => List.contains_iff_mem.mp (List.all_eq_true.mp hsl j hj)
  rw [hK] at z
  exact ⟨_, pe_lc hc hN (pi_any (pe_var hNi hv hd hcd)) ok (fun s H C cl fp => (hg s H C cl fp).tof) (fun s H C cl fp => (ht s H C cl fp).tof) (fun s H C cl fp => (he s H C cl fp).tof) hs, z⟩
theorem ds_setLcV {k : Nat} {y : Str} {py spos : Pos} (hc : X.calm = true) (hN : X.N.Nodup) (hy : X.N[k]? = some y) (hyl : X.env.scope.names.lookup y = some .local)
    (hsw : swapsWith (.ListComp elt [⟨tg, .Name x p, ifs, 0⟩] scope pos) (some (.Name y py)) spos.line X.env = pure true) (hNi : X.N[i]? = some x) (hv : Vis X.env.scope x) (ok : BlkOk X.N X.env.scope scope own)
    (hg : ∀ (s : Shared) (H : Hp) (C : Addr) (cl : List (Str × Addr)) (fp : List Addr), DGt (X.blk s H scope (compEnvC scope cl C X.env) fp) F.nox tg g sl) (ht : ∀ (s : Shared) (H : Hp) (C : Addr) (cl : List (Str × Addr)) (fp : List Addr), DTs (X.blk s H scope (compEnvC scope cl C X.env) fp) F.nox ifs tt)
    (he : ∀ (s : Shared) (H : Hp) (C : Addr) (cl : List (Str × Addr)) (fp : List Addr), DE (X.blk s H scope (compEnvC scope cl C X.env) fp) F.nox elt fe) (hsl : (sl.all fun j => (own.map (·.2)).contains j) = true) (hK : F.K = X.K := by first | rfl | assumption)
    (hd : (x == ("__debug__" : Str)) = false := by decide) (hcd : (x == ("__classdict__" : Str)) = false := by decide) (hs : ∀ z, foldedSetIterable (.Name x p) X.env z = pure z := by intro _; rfl) :
    DS X F (.Assign [.Name y py] (.ListComp elt [⟨tg, .Name x p, ifs, 0⟩] scope pos) spos) (sSet k (eLcV i g tt fe (own.map (·.2)))) := by
  have z := DT.lcV (F := F) (g := g) (tt := tt) (fe := fe) (i := i) (vs := own.map (·.2)) (sl := sl) fun j hj => List.contains_iff_mem.mp (List.all_eq_true.mp hsl j hj)
  rw [hK] at z
  refine ⟨_, ps_setLc hc hN hy hyl hsw (pi_any (pe_var hNi hv hd hcd)) ok (fun s H C cl fp => (hg s H C cl fp).tof) (fun s H C cl fp => (ht s H C cl fp).tof) (fun s H C cl fp => (he s H C cl fp).tof) hs, fun σ I H e ps d D hp s h k => ?_⟩
  refine z σ I H e ps _ _ s h fun x r e1 I1 H1 h1 s1 => ?_
  obtain ⟨e2, ha, h2⟩ := h1
  obtain ⟨I2, s2⟩ := s1.asg (hp.no _) ha
  exact k.nx _ I2 H1 e2 h2 s2
theorem s_lcV {e : En} {P : Rv → En → Prop} {vs : List Nat} {a : Addr} {ds : List D} (q : e[i]? = some (some (.own a (.lst ds)))) (hc : clearB e vs = true) (h : ds.length ≤ 1000000 ∧ ∃ W : Nat → List D → Prop, W 0 [] ∧
  (∀ i c acc, ds[i]? = some c → W i acc → g c e fun e3 => tt e3 fun b e4 => if b = true then fe e4 fun r e5 => ∃ d e6, frz e5 r = some (d, e6) ∧ wipeE e6 vs = wipeE e vs ∧ W (i + 1) (acc ++ [d]) else wipeE e4 vs = wipeE e vs ∧ W (i + 1) acc) ∧
  ∀ acc, W ds.length acc → ∀ b, P (.ent (.own b (.lst acc))) (wipeE e vs)) : eLcV i g tt fe vs e P := ⟨a, ds, q, hc, h⟩
theorem s_forV {e : En} {d : Ed} {a : Addr} {ds : List D} (q : e[i]? = some (some (.own a (.lst ds)))) (h : ∃ W : Nat → En → Prop, W 0 e ∧ (∀ k e2, W k e2 → e2[i]? = some (some (.own a (.lst ds)))) ∧
  (∀ k c e2, ds[k]? = some c → W k e2 → g c e2 fun e3 => f e3 { d with nx := W (k + 1), ct := W (k + 1), bk := d.nx }) ∧ ∀ e2, W ds.length e2 → d.nx e2) : sForV i g f e d := ⟨a, ds, q, h⟩
end
/-! ### comprehensions whose elements change what the frame holds (the hand) -/
def eLcG (w : EvI) (g : TgF) (tt : EvT) (f : EvF) (vs : List Nat) : EvF := fun e P => w e fun ds e1 => clearB e1 vs = true ∧ ds.length ≤ 1000000 ∧ ∃ W : Nat → En → List D → Prop, W 0 e1 [] ∧
  (∀ i c e2 acc, ds[i]? = some c → W i e2 acc → clearB e2 vs = true ∧ g c e2 fun e3 => tt e3 fun b e4 => if b = true then f e4 fun r e5 => ∃ d e6, frz e5 r = some (d, e6) ∧ W (i + 1) (wipeE e6 vs) (acc ++ [d]) else W (i + 1) (wipeE e4 vs) acc) ∧
  ∀ e2 acc, W ds.length e2 acc → ∀ a, P (.ent (.own a (.lst acc))) e2
theorem wipe_clear {e : En} {vs : List Nat} (hcl : clearB e vs = true) : wipeE e vs = e := by
  refine List.ext_getElem? fun i => ?_
  by_cases hi : i ∈ vs
  · have z := List.all_eq_true.mp hcl i hi
    have lw := wipeE_len (e := e) vs
    cases q : e[i]? with
    | none =>
      rw [List.getElem?_eq_none_iff] at q ⊢
      omega
    | some o =>
      cases o with
      | some t => rw [q] at z; cases z
      | none =>
        cases q2 : (wipeE e vs)[i]? with
        | none =>
          rw [List.getElem?_eq_none_iff] at q2
          have := (List.getElem?_eq_some_iff.mp q).1
          omega
        | some o2 =>
          cases o2 with
          | none => rfl
          | some t => exact absurd hi (wipeE_some q2).2
  · exact wipeE_out hi
section
variable {X : Cx} {F : Fr} {elt tg iter : Expr} {ifs : List Expr} {scope : Scope} {own : List (Str × Nat)} {pos : Pos} {w : EvI} {g : TgF} {tt : EvT} {f : EvF} {sl : List Nat}
theorem DT.lcG {wi : TI} {vs : List Nat} (hw : DTI F wi w) (hsl : ∀ j ∈ sl, j ∈ vs) : DT F (tLc wi (tOfG F.nox g sl) (tOfT F.nox tt) (tOf F.nox f) vs) (eLcG w g tt f vs) := fun σ I H e ps P Q s h k => by
  refine hw σ I H e ps _ _ s h fun J ds qs e1 I1 H1 h1 hqs s1 itd => ?_
  obtain ⟨hcl, hz, W, w0, turn, fin⟩ := h1
  have nps : NoSl vs (ps ++ qs) := clear_no s1 hcl
  intro D hD
  have wE : wipeE e1 vs = e1 := wipe_clear hcl
  have sW := s1.wipe nps
  rw [wE] at sW
  have s0 : ST F (L2.wipe σ vs) I1 (upd H1 D (.lst [])) e1 (ps ++ qs ++ [(V.ref D, .ent (.own D (.lst [])))]) := sW.pushG (t := .own D (.lst [])) (Grow.alloc s1.sub hD) ⟨rfl, s1.sub.none hD, [], upd_same, .nil⟩ fun a ha => by simp at ha; subst ha; exact hD
  have nD : ∀ acc : List TK.D, NoSl vs (ps ++ qs ++ [(V.ref D, .ent (.own D (.lst acc)))]) := fun acc p hp j q => by
    rcases List.mem_append.mp hp with m | m
    · exact nps p m j q
    · rw [List.mem_singleton] at m
      subst m
      cases q
  refine ⟨fun i m H => m = ds.length - i ∧ i ≤ ds.length ∧ ∃ (acc : List TK.D) (I : Hp) (e2 : En), acc.length ≤ i ∧ W i e2 acc ∧ ST F (L2.wipe σ vs) I H e2 (ps ++ qs ++ [(V.ref D, .ent (.own D (.lst acc)))]) ∧ (i = 0 → clearB e2 vs = true) ∧ wipeE e2 vs = e2, ⟨ds.length, by simp, Nat.zero_le _, [], I1, e1, Nat.zero_le _, w0, s0, fun _ => hcl, wE⟩, ?_⟩
  rintro i m H2 ⟨rfl, hi, acc, I2, e2, hacc, w2, s2, _, wE2⟩
  have hold : Holds F.K I2 qs := (ST.weak (ps := ps ++ qs) s2).holds
  by_cases hlt : i < ds.length
  · refine .inr ⟨itd.go I2 H2 i s2.sub hold hlt, fun H' => ∃ (acc : List TK.D) (I : Hp) (e2 : En), acc.length ≤ i + 1 ∧ W (i + 1) e2 acc ∧ ST F (L2.wipe σ vs) I H' e2 (ps ++ qs ++ [(V.ref D, .ent (.own D (.lst acc)))]) ∧ (i + 1 = 0 → clearB e2 vs = true) ∧ wipeE e2 vs = e2, fun H' z => ⟨ds.length - (i + 1), by omega, rfl, hlt, z⟩, fun x H3 hy => ?_⟩
    obtain ⟨I3, c, g3, hc3, rx⟩ := itd.yld I2 H2 i x H3 s2.sub hold hlt hy
    have s3 := (s2.grow g3).nox
    obtain ⟨cl2, tu⟩ := turn i c e2 acc hc3 w2
    refine ⟨c, I3, e2, _, _, fun p hp j q m => nD acc p hp j q (hsl j m), s3, rx, tu, fun σ4 e4 h4 s4 so => ?_⟩
    have sw : wipe σ4 vs = wipe σ vs := by
      have z := wipe_same (vs := vs) (σ := L2.wipe σ vs) (σ' := σ4) ⟨so.1, fun j hj => so.2 j fun m => hj (hsl j m)⟩
      rw [z]
      exact wipe_same (vs := vs) ⟨wipe_length .., fun j hj => wipe_out hj⟩
    have ww : ∀ e : En, wipeE (wipeE e vs) vs = wipeE e vs := fun e => by
      refine List.ext_getElem? fun i => ?_
      by_cases hi : i ∈ vs
      · cases q : (wipeE e vs)[i]? with
        | none => rw [List.getElem?_eq_none_iff] at q ⊢; rw [wipeE_len]; exact q
        | some o =>
          cases o with
          | some t => exact absurd hi (wipeE_some q).2
          | none =>
            cases q2 : (wipeE (wipeE e vs) vs)[i]? with
            | none =>
              rw [List.getElem?_eq_none_iff, wipeE_len] at q2
              have := (List.getElem?_eq_some_iff.mp q).1
              omega
            | some o2 =>
              cases o2 with
              | none => rfl
              | some t => exact absurd hi (wipeE_some q2).2
      · exact wipeE_out hi
    refine ⟨sw, I3, e4, _, _, s4, h4, fun b e5 I5 H5 h5 s5 => ?_⟩
    cases b with
    | false =>
      have s6 := s5.unnox.wipe (vs := vs) (nD acc)
      rw [sw] at s6
      exact ⟨acc, I5, _, by omega, h5, s6, fun z => by omega, ww _⟩
    | true =>
      refine ⟨I5, e5, _, _, s5, h5, fun y r e6 I6 H6 h6 s6 => ?_⟩
      obtain ⟨d, e7, hf, q2⟩ := h6
      obtain ⟨I7, _, s7⟩ := s6.unnox.frz hf
      have ry : Rep F.K I7 y d := ST.temp (qs := []) (t := .imm d) s7
      have s8 := ST.weak s7
      have rD : EntR F.K I7 H6 (.ref D) (.own D (.lst acc)) := ST.temp (ps := ps ++ qs) (qs := []) s8
      obtain ⟨_, _, xs, hx, rr⟩ := rD
      have lx := rr.len
      refine ⟨xs, hx, by rw [lx]; exact Nat.lt_of_le_of_lt (m := 1000000) (by omega) (by decide), acc ++ [d], I7, _, by simp; omega, q2, ?_, fun z => by omega, ww _⟩
      have s9 := ST.mutT (ps := ps ++ qs) (qs := []) (d' := .lst (acc ++ [d])) (o := .lst (xs ++ [y])) s8 ⟨xs ++ [y], upd_same, rr.app (.cons ry .nil)⟩
      have s10 := s9.wipe (vs := vs) (nD _)
      rw [sw] at s10
      exact s10
  · have hi' : i = ds.length := by omega
    subst hi'
    refine .inl ⟨itd.stop I2 H2 s2.sub hold, ?_⟩
    rw [← wE2] at s2
    have z := ST.drop (s2.unwipe (nD acc))
    rw [wE2] at z
    exact k _ _ _ I2 H2 (fin e2 acc w2 D) z
theorem de_lcG (hc : X.calm = true) (hN : X.N.Nodup) (hi : DI X F tg iter w) (ok : BlkOk X.N X.env.scope scope own)
    (hg : ∀ (s : Shared) (H : Hp) (C : Addr) (cl : List (Str × Addr)) (fp : List Addr), DGt (X.blk s H scope (compEnvC scope cl C X.env) fp) F.nox tg g sl) (ht : ∀ (s : Shared) (H : Hp) (C : Addr) (cl : List (Str × Addr)) (fp : List Addr), DTs (X.blk s H scope (compEnvC scope cl C X.env) fp) F.nox ifs tt)
    (he : ∀ (s : Shared) (H : Hp) (C : Addr) (cl : List (Str × Addr)) (fp : List Addr), DE (X.blk s H scope (compEnvC scope cl C X.env) fp) F.nox elt f) (hsl : (sl.all fun j => (own.map (·.2)).contains j) = true) (hs : ∀ x, foldedSetIterable iter X.env x = pure x := by intro _; rfl) :
    DE X F (.ListComp elt [⟨tg, iter, ifs, 0⟩] scope pos) (eLcG w g tt f (own.map (·.2))) := by
  obtain ⟨wi, pi, di⟩ := hi
  exact ⟨_, pe_lc hc hN pi ok (fun s H C cl fp => (hg s H C cl fp).tof) (fun s H C cl fp => (ht s H C cl fp).tof) (fun s H C cl fp => (he s H C cl fp).tof) hs, DT.lcG di fun j hj => List.contains_iff_mem.mp (List.all_eq_true.mp hsl j hj)⟩
theorem ds_setLcG {i : Nat} {y : Str} {py spos : Pos} (hc : X.calm = true) (hN : X.N.Nodup) (hy : X.N[i]? = some y) (hyl : X.env.scope.names.lookup y = some .local)
    (hsw : swapsWith (.ListComp elt [⟨tg, iter, ifs, 0⟩] scope pos) (some (.Name y py)) spos.line X.env = pure true) (hi : DI X F tg iter w) (ok : BlkOk X.N X.env.scope scope own)
    (hg : ∀ (s : Shared) (H : Hp) (C : Addr) (cl : List (Str × Addr)) (fp : List Addr), DGt (X.blk s H scope (compEnvC scope cl C X.env) fp) F.nox tg g sl) (ht : ∀ (s : Shared) (H : Hp) (C : Addr) (cl : List (Str × Addr)) (fp : List Addr), DTs (X.blk s H scope (compEnvC scope cl C X.env) fp) F.nox ifs tt)
    (he : ∀ (s : Shared) (H : Hp) (C : Addr) (cl : List (Str × Addr)) (fp : List Addr), DE (X.blk s H scope (compEnvC scope cl C X.env) fp) F.nox elt f) (hsl : (sl.all fun j => (own.map (·.2)).contains j) = true) (hs : ∀ x, foldedSetIterable iter X.env x = pure x := by intro _; rfl) :
    DS X F (.Assign [.Name y py] (.ListComp elt [⟨tg, iter, ifs, 0⟩] scope pos) spos) (sSet i (eLcG w g tt f (own.map (·.2)))) := by
  obtain ⟨wi, pi, di⟩ := hi
  refine ⟨_, ps_setLc hc hN hy hyl hsw pi ok (fun s H C cl fp => (hg s H C cl fp).tof) (fun s H C cl fp => (ht s H C cl fp).tof) (fun s H C cl fp => (he s H C cl fp).tof) hs, fun σ I H e ps d D hp s h k => ?_⟩
  refine DT.lcG di (fun j hj => List.contains_iff_mem.mp (List.all_eq_true.mp hsl j hj)) σ I H e ps _ _ s h fun x r e1 I1 H1 h1 s1 => ?_
  obtain ⟨e2, ha, h2⟩ := h1
  obtain ⟨I2, s2⟩ := s1.asg (hp.no _) ha
  exact k.nx _ I2 H1 e2 h2 s2
theorem s_lcG {e : En} {P : Rv → En → Prop} {vs : List Nat} (k : w e fun ds e1 => clearB e1 vs = true ∧ ds.length ≤ 1000000 ∧ ∃ W : Nat → En → List D → Prop, W 0 e1 [] ∧
  (∀ i c e2 acc, ds[i]? = some c → W i e2 acc → clearB e2 vs = true ∧ g c e2 fun e3 => tt e3 fun b e4 => if b = true then f e4 fun r e5 => ∃ d e6, frz e5 r = some (d, e6) ∧ W (i + 1) (wipeE e6 vs) (acc ++ [d]) else W (i + 1) (wipeE e4 vs) acc) ∧
  ∀ e2 acc, W ds.length e2 acc → ∀ a, P (.ent (.own a (.lst acc))) e2) : eLcG w g tt f vs e P := k
end
/-! ### a call by value whose answer is a truth: what was lent stays one's own -/
theorem ST.lent {F : Fr} {σ : L2.St} {I1 H1 I2 I3 H3 : Hp} {e c c0 : En} {ps : Tm} (s : ST F σ I1 H1 e ps) (le : Le I1 I2) (sub : Sub I3 H3) (tb : TabOk F.K I3 H3) (n0 : ∀ a, a ∉ adr c0) (st : Step c0 I2 H1 c I3 H3) : ∃ I', ST F σ I' H3 e ps := by
  classical
  obtain ⟨I', hI⟩ : ∃ I' : Hp, ∀ a, I' a = if I1 a = none then (if ∃ k q, I3 a = some (LamX.CodeO k q) then I3 a else none) else I1 a := ⟨_, fun _ => rfl⟩
  have l3 : Le I1 I3 := le.trans st.imm
  have hle : Le I1 I' := fun a o h => by rw [hI, if_neg (by rw [h]; exact nofun)]; exact h
  have h3 : ∀ a o, I' a = some o → I3 a = some o := fun a o h => by
    rw [hI] at h
    split at h
    · split at h
      · exact h
      · cases h
    · exact l3 a o h
  have hnew : ∀ a o, I' a = some o → I1 a = some o ∨ ∃ k q, o = LamX.CodeO k q ∧ I3 a = some o := fun a o h => by
    rw [hI] at h
    split at h
    · split at h
      · rename_i z
        obtain ⟨k, q, z⟩ := z
        rw [z] at h
        cases h
        exact .inr ⟨k, q, rfl, z⟩
      · cases h
    · exact .inl h
  have fre : ∀ a k q, I3 a = some (LamX.CodeO k q) → FreeT H1 a := fun a k q h u hu => by
    have x := sub a _ h
    rcases st.is hu (n0 a) with z | ⟨_, ps', _, z⟩
    · rw [x] at z
      cases z
      exact .inr ⟨k, q, rfl⟩
    · rw [x] at z
      injection z with z
      exact (lasts_tbl (ps := ps') (by rw [← z]; exact .inr ⟨k, q, rfl⟩)).elim
  have non : ∀ a, a ∈ adr (e ++ tn ps) → I' a = none := fun a ha => by
    obtain ⟨⟨o, h1, ht⟩, h2⟩ := s.env.has ha
    cases q : I' a with
    | none => rfl
    | some u =>
      rcases hnew a u q with z | ⟨k, p, _, z⟩
      · rw [h2] at z; cases z
      · rename_i w
        subst w
        exact absurd (fre a k p z o h1) ht.1
  refine ⟨I', fun a o h => sub a o (h3 a o h), s.len, s.env.grow (fun P hP => ?_) hle fun a ha => ⟨non a ha, fun o q => ?_⟩, s.ali, s.base.trans ⟨hle, fun a o h _ nt => st.keep a o h (n0 a) nt, fun a qs h _ => st.tbl a qs h (n0 a), fun _ h => .inl h, fun a o h => ?_⟩⟩
  · obtain ⟨n3, tbls, h, tri, cod⟩ := tb P hP
    refine ⟨?_, tbls, h, tri, fun pos cv hc => ?_⟩
    · cases q : I' P with
      | none => rfl
      | some u => rw [h3 P u q] at n3; cases n3
    · obtain ⟨k, rfl, ic⟩ := cod pos cv hc
      refine ⟨k, rfl, ?_⟩
      cases q : I1 k with
      | none => rw [hI, if_pos q, if_pos ⟨_, _, ic⟩]; exact ic
      | some u =>
        have := l3 k u q
        rw [ic] at this
        cases this
        exact hle k _ q
  · obtain ⟨⟨o', h1, ht⟩, _⟩ := s.env.has ha
    have := q.symm.trans h1
    cases this
    exact st.keep a o q (n0 a) ht.2
  · rcases hnew a o h with z | ⟨k, p, w, z⟩
    · exact .inl z
    · subst w
      exact .inr (.inr (fre a k p z))
def eCallB (con : Con) (g : EvA) : EvF := fun e P => g e fun rs e1 => ∃ ds e2, frzs e1 rs = some (ds, e2) ∧ con (ds.map Ent.imm) (fun t es' => es'.length = ds.length ∧ ∃ b, t = .imm (.bl b) ∧ P (.im (.bl b)) e1) (fun _ _ _ => False)
theorem s_callB {con : Con} {g : EvA} {e : En} {P : Rv → En → Prop} (k : g e fun rs e1 => ∃ ds e2, frzs e1 rs = some (ds, e2) ∧ con (ds.map Ent.imm) (fun t es' => es'.length = ds.length ∧ ∃ b, t = .imm (.bl b) ∧ P (.im (.bl b)) e1) (fun _ _ _ => False)) : eCallB con g e P := k
theorem reps_len {K : PySem.W.Frag} {I : Hp} : ∀ {xs : List V} {ds : List D}, Reps K I xs ds → ds.length = xs.length
  | _, _, .nil => rfl
  | _, _, .cons _ r => by rw [List.length_cons, List.length_cons, reps_len r]
theorem imms_adr (ds : List D) (a : Addr) : a ∉ adr ((ds.map Ent.imm).map some) := fun h => by
  obtain ⟨i, t, q, m⟩ := mem_adr.mp h
  rw [List.map_map, List.getElem?_map] at q
  cases z : ds[i]? with
  | none => rw [z] at q; cases q
  | some d =>
    rw [z] at q
    cases q
    simp at m
theorem imms_env {K : PySem.W.Frag} {I H : Hp} {xs : List V} {ds : List D} (tb : TabOk K I H) (r : Reps K I xs ds) : EnvR K I H (xs.map some) ((ds.map Ent.imm).map some) where
  tab := tb
  len := by rw [List.length_map, List.length_map, List.length_map, reps_len r]
  at_ := fun i t q => by
    rw [List.map_map, List.getElem?_map] at q
    cases z : ds[i]? with
    | none => rw [z] at q; cases q
    | some d =>
      rw [z] at q
      cases q
      have hi := (List.getElem?_eq_some_iff.mp z).1
      rw [reps_len r] at hi
      obtain ⟨d', e1, e2⟩ := r.get' (List.getElem?_eq_getElem hi)
      rw [z] at e1
      cases e1
      exact ⟨xs[i], by rw [List.getElem?_map, List.getElem?_eq_getElem hi]; rfl, e2⟩
  sep := fun i j t u a q1 q2 m1 m2 => (imms_adr ds a (mem_adr.mpr ⟨i, t, q1, m1⟩)).elim
section
variable {X : Cx} {F : Fr} {k : Nat} {f : Addr} {fd : FuncData} {pn : List Str} {con : Con} {x : Str} {p pos : Pos} {ex : Expr} {exs : List Expr} {g : EvA}
theorem de_callB (G : FnOk X.prog X.w X.K X.mg X.base (L2.CX X.prog X.w) k f fd pn (spD X.K con)) (hr : Room k X.A) (hg : Gl X x) (hm : X.mg x = some (.ref f)) (hk : PySem.W.keepIn X.K (.ref f) = true) (hb : Binds X.K fd pn []) (tk : Takes X F.W) (ha : DA X F (ex :: exs) g)
    (hK : F.K = X.K := by first | rfl | assumption) (hdb : (x == ("__debug__" : Str)) = false := by decide) (he : starEach (ex :: exs) X.env = (false, eval ex X.env) :: starEach exs X.env := by rfl) (hpl : (backTo pos (starEach exs X.env)).any (·.1) = false := by rfl) :
    DE X F (.Call (.Name x p) (ex :: exs) [] pos) (eCallB con g) := by
  obtain ⟨t, pa, d⟩ := ha
  refine ⟨_, pe_callS G hr hg hm hk hb (fun σ => passAt tk σ) pa hdb he hpl, fun σ I H e ps P Q s h kk => ?_⟩
  refine d σ I H e ps _ _ s h fun xs rs e1 I1 H1 h1 hl s1 => ?_
  obtain ⟨ds, e2, hf, hc⟩ := h1
  obtain ⟨I2, l2, s2, rr⟩ := ST.frzs s1 hl hf
  rw [← hK]
  refine ⟨I2, ds.map Ent.imm, _, _, s2.sub, imms_env s2.env.tab rr, hc, fun r es' y I3 H3 hp sub3 env3 st3 => ?_, fun C z es' y dd I3 H3 hp sub3 env3 st3 rx hx => hp.elim⟩
  obtain ⟨_, b, rfl, hp⟩ := hp
  obtain ⟨I4, s4⟩ := (s1.weak (qs := xs.zip rs)).lent l2 sub3 env3.tab (imms_adr ds) st3
  obtain ⟨i, hi⟩ : ∃ i, i = (es'.map some : En).length := ⟨_, rfl⟩
  obtain ⟨y', y1, y2⟩ := env3.at_ i (.imm (.bl b)) (by rw [hi, List.getElem?_append_right (Nat.le_refl _), Nat.sub_self]; rfl)
  have lx := env3.len
  rw [List.length_append, List.length_append] at lx
  simp only [List.length_cons, List.length_nil] at lx
  rw [hi, List.getElem?_append_right (by omega), show (es'.map some : En).length - (xs.map some : List (Option V)).length = 0 by omega] at y1
  cases y1
  cases y2
  exact kk _ _ e1 I4 H3 hp (s4.pushI (.bl b))
end
theorem x_lent {n m : Nat} {b : Bool} {R : Bool → Prop} (e : n = m) (k : R b) : n = m ∧ ∃ b', Ent.imm (.bl b) = .imm (.bl b') ∧ R b' := ⟨e, b, rfl, k⟩
/-! ### arguments that never change -/
section
variable {K : PySem.W.Frag} {I H I' H' : Hp} {vs : List V} {ds : List D} {x : V} {t : Ent}
/-- arguments that never change -/
theorem imm_in : ∀ {vs : List V} {ds : List D}, EnvR K I H (vs.map some) ((ds.map Ent.imm).map some) → Reps K I vs ds
  | [], [], _ => .nil
  | [], _ :: _, e => by have := e.len; simp at this
  | _ :: _, [], e => by have := e.len; simp at this
  | v :: vs, d :: ds, e => by
    obtain ⟨y, y1, y2⟩ := e.at_ 0 (.imm d) rfl
    simp at y1
    subst y1
    refine .cons y2 (imm_in ⟨e.tab, by have := e.len; simpa using this, fun i t q => e.at_ (i + 1) t q, fun i j t u a q1 q2 m1 m2 => ?_⟩)
    have := e.sep (i + 1) (j + 1) t u a q1 q2 m1 m2
    omega
theorem imm_env (tb : TabOk K I H) : ∀ {vs : List V} {ds : List D}, Reps K I vs ds → EnvR K I H (vs.map some) ((ds.map Ent.imm).map some) := fun {vs ds} r => by
  refine ⟨tb, by simp [r.len], fun i t q => ?_, fun i j t u a q1 q2 m1 m2 => ?_⟩
  · rw [List.map_map, List.getElem?_map] at q
    cases z : ds[i]? with
    | none => rw [z] at q; cases q
    | some d =>
      rw [z] at q
      cases q
      obtain ⟨y, y1, y2⟩ := r.get z
      exact ⟨y, by rw [List.getElem?_map, y1]; rfl, y2⟩
  · rw [List.map_map, List.getElem?_map] at q1
    cases z : ds[i]? with
    | none => rw [z] at q1; cases q1
    | some d => rw [z] at q1; cases q1; simp at m1
theorem adr_imms (ds : List D) : adr ((ds.map Ent.imm).map some) = [] := by
  unfold adr
  induction ds with
  | nil => rfl
  | cons d ds ih => rw [List.map_cons, List.map_cons, List.flatMap_cons, ih]; rfl
theorem TabOk.grow (h : TabOk K I H) (g : Grow I H I' H') : TabOk K I' H' := h.mono g.le fun a ps e z => ⟨g.same a _ e, by
  cases w : I' a with
  | none => rfl
  | some u =>
    rcases g.new a u w with q | q
    · rw [z] at q; cases q
    · exact (lasts_tbl (q _ e)).elim⟩
theorem imm_out (env : EnvR K I H (vs.map some) ((ds.map Ent.imm).map some)) (g : Grow I H I' H') (r : EntR K I' H' x t) (nt : ∀ a ∈ t.adr, H a = none) :
    EnvR K I' H' (vs.map some ++ [some x]) ((ds.map Ent.imm).map some ++ [some t]) ∧ Step ((ds.map Ent.imm).map some) I H ((ds.map Ent.imm).map some ++ [some t]) I' H' := by
  refine ⟨(imm_env (env.tab.grow g) ((imm_in env).mono g.le)).push r fun a _ z => by rw [adr_imms] at z; simp at z, ⟨g.le, fun a o q _ _ => g.same a o q, fun a ps q _ => ⟨ps, g.same a _ q⟩, fun a ha => ?_, fun a o q => ?_⟩⟩
  · rcases mem_push.mp ha with z | ⟨u, e, z⟩
    · rw [adr_imms] at z; simp at z
    · cases e; exact .inr (nt a z)
  · rcases g.new a o q with w | w
    · exact .inl w
    · exact .inr (.inr w)
theorem imm_exc (env : EnvR K I H (vs.map some) ((ds.map Ent.imm).map some)) (g : Grow I H I' H') :
    EnvR K I' H' (vs.map some) ((ds.map Ent.imm).map some) ∧ Step ((ds.map Ent.imm).map some) I H ((ds.map Ent.imm).map some) I' H' :=
  ⟨imm_env (env.tab.grow g) ((imm_in env).mono g.le), ⟨g.le, fun a o q _ _ => g.same a o q, fun a ps q _ => ⟨ps, g.same a _ q⟩, fun a ha => .inl ha, fun a o q => by
    rcases g.new a o q with w | w
    · exact .inl w
    · exact .inr (.inr w)⟩⟩
end
theorem FnOk.lift {P : Program} {w : World} {K : PySem.W.Frag} {mg : Str → Option Value} {base : Heap} {CX : CXT} {k : Nat} {f : Addr} {fd : FuncData} {ps : List Str} {sp sp' : Sp} (F : FnOk P w K mg base CX0 k f fd ps sp)
    (h : ∀ vs H Q E, sp' vs H Q E → sp vs H Q E) : FnOk P w K mg base CX k f fd ps sp' :=
  ⟨fun vs H Q E q => F.len vs H Q E (h _ _ _ _ q), fun A outer s H args us vs Q E hr he hb hv hs => codeAny_mono (F.run A outer s H args us vs Q E hr he hb hv (h _ _ _ _ hs)) fun r s' q => by
    cases r with
    | ok fl => cases fl <;> exact q
    | error e => exact False.elim q⟩
abbrev Ent.int (i : Int) : Ent := .imm (.int i)
theorem ints_of {K : PySem.W.Frag} {I : Hp} : ∀ {xs : List V} {ns : List Int}, Reps K I xs (ns.map D.int) → xs = ns.map V.int
  | _, [], r => by cases r; rfl
  | _, n :: ns, r => by
    rw [List.map_cons] at r
    cases r with
    | cons r1 r2 => cases r1; rw [ints_of r2]; rfl
theorem ints_in {K : PySem.W.Frag} {I : Hp} : ∀ ns : List Int, Reps K I (ns.map V.int) (ns.map D.int)
  | [] => .nil
  | n :: ns => .cons (.int n) (ints_in ns)
theorem ite_d {p : Prop} [Decidable p] {A B : Prop} (h1 : p → A) (h2 : ¬ p → B) : if decide p = true then A else B := by
  by_cases h : p
  · rw [if_pos (decide_eq_true h)]; exact h1 h
  · rw [if_neg (by rw [decide_eq_true_iff]; exact h)]; exact h2 h
theorem ite_nd {p : Prop} [Decidable p] {A B : Prop} (h1 : ¬ p → A) (h2 : p → B) : if (!decide p) = true then A else B := by
  by_cases h : p
  · rw [decide_eq_true h]; exact (if_neg (by decide)).mpr (h2 h)
  · rw [decide_eq_false h]; exact (if_pos rfl).mpr (h1 h)
theorem ite_nb {b : Bool} {A B : Prop} (h1 : b = false → A) (h2 : b = true → B) : if (!b) = true then A else B := by
  cases b
  · exact h1 rfl
  · exact h2 rfl
theorem ite_b {b : Bool} {A B : Prop} (h1 : b = true → A) (h2 : b = false → B) : if b = true then A else B := by
  cases b
  · exact h2 rfl
  · exact h1 rfl
theorem map_get {α β : Type} {f : α → β} {l : List α} {i : Nat} {c : β} (h : (l.map f)[i]? = some c) : ∃ z, l[i]? = some z ∧ c = f z := by
  rw [List.getElem?_map] at h
  cases e : l[i]? with
  | none => rw [e] at h; cases h
  | some z => rw [e] at h; exact ⟨z, rfl, (Option.some.inj h).symm⟩
theorem take_suc {α : Type} {l : List α} {i : Nat} {z : α} (h : l[i]? = some z) : l.take (i + 1) = l.take i ++ [z] := by
  rw [List.take_add_one, h]; rfl
section
variable {e : En} {P : Rv → En → Prop} {fd fk fx : EvF} {r : Rv}
theorem s_dget1 (k : fd e fun r1 e1 => (∃ c, val e1 r1 = some c ∧ ((∃ es, c = .dic es) ∨ ∃ es, c = .dik es)) ∧ fk e1 fun r2 e2 => ∃ c d, val e2 r1 = some c ∧ val e2 r2 = some d ∧ dLook c d fun p => P (.im (p.getD .non)) e2) : eDGet1 fd fk e P := k
theorem s_dget2 (k : fd e fun r1 e1 => (∃ c, val e1 r1 = some c ∧ ((∃ es, c = .dic es) ∨ ∃ es, c = .dik es)) ∧ fk e1 fun r2 e2 => fx e2 fun r3 e3 => ∃ c d q e4, val e3 r1 = some c ∧ val e3 r2 = some d ∧ frz e3 r3 = some (q, e4) ∧ dLook c d fun p => P (.im (p.getD q)) e4) : eDGet2 fd fk fx e P := k
theorem x_isT {R : Prop} {es : List (List Key × D)} (h : val e r = some (.dic es)) (k : R) : (∃ c, val e r = some c ∧ ((∃ es, c = .dic es) ∨ ∃ es, c = .dik es)) ∧ R := ⟨⟨_, h, .inl ⟨es, rfl⟩⟩, k⟩
theorem x_isK {R : Prop} {es : List (Key × D)} (h : val e r = some (.dik es)) (k : R) : (∃ c, val e r = some c ∧ ((∃ es, c = .dic es) ∨ ∃ es, c = .dik es)) ∧ R := ⟨⟨_, h, .inr ⟨es, rfl⟩⟩, k⟩
theorem x_get2 {r1 r2 r3 : Rv} {c d q : D} {e1 : En} {R : D → D → D → En → Prop} (h1 : val e r1 = some c) (h2 : val e r2 = some d) (h3 : frz e r3 = some (q, e1)) (k : R c d q e1) : ∃ c d q e4, val e r1 = some c ∧ val e r2 = some d ∧ frz e r3 = some (q, e4) ∧ R c d q e4 := ⟨c, d, q, e1, h1, h2, h3, k⟩
end
theorem x_px {K : PySem.W.Frag} {es es' : List Ent} {I H : Hp} {E : XK} {PX : Addr → D → List Ent → Prop} {C : Addr} {d : D} {e : En} (b : BackE es e es') (k : PX C d es') : (frOf K es I H E PX).PX C d e := ⟨es', b, k⟩
theorem s_cut {e : En} {d : Ed} {f g : SvF} (J : En → Prop) (h : f e { d with nx := J }) (k : ∀ e1, J e1 → g e1 d) : sCut f g e d := ⟨J, h, k⟩
theorem o_eqP {a b c d : Int} {P : Ent → Prop} (k : P (.imm (.bl (decide (a = c ∧ b = d))))) : oEq (.tup [.int a, .int b]) (.tup [.int c, .int d]) P := by
  refine ⟨rfl, rfl, ?_⟩
  have e : eqD (.tup [.int a, .int b]) (.tup [.int c, .int d]) = decide (a = c ∧ b = d) := by
    unfold eqD
    simp only [toPy, toPys, PyData.eqv, PyData.eqvAll, Bool.and_true]
    by_cases h1 : a = c <;> by_cases h2 : b = d <;> simp [h1, h2]
  rw [e]
  exact k
def oNeg : DO1
  | .int i, P => P (.imm (.int (-i)))
  | _, _ => False
theorem o_neg {i : Int} {P : Ent → Prop} (k : P (.imm (.int (-i)))) : oNeg (.int i) P := k
theorem de_neg {X : Cx} {F : Fr} {a : Expr} {f : EvF} {pos : Pos} (h : DE X F a f) : DE X F (.UnaryOp .USub a pos) (eUn oNeg f) := by
  obtain ⟨t, p, d⟩ := h
  refine ⟨_, pe_un un_neg p, DT.un (fun I H x c P Q s v h k => ?_) d⟩
  cases c with
  | int i =>
    rw [v.int]
    exact ⟨i, rfl, k.imm s h (.int _)⟩
  | _ => exact h.elim
theorem hu65_of {k : Nat} {A : Around} (r : Room k A) : A.units + 65 < cLine := by have := r.un; omega
section
variable {e : En} {P : Rv → En → Prop}
theorem x_lenN {z : Int} {R : Int → Prop} (h0 : 0 ≤ z) (h1 : z < 2 ^ 63) (k : R z) : ∃ n : Int, Rv.ent (.imm (.int z)) = .ent (.imm (.int n)) ∧ 0 ≤ n ∧ n < 2 ^ 63 ∧ R n := ⟨z, rfl, h0, h1, k⟩
theorem x_noa {fs : List (Str × D)} {m : Str} {R : Prop} (h : fs.lookup m = none) (k : R) : fs.lookup m = none ∧ R := ⟨h, k⟩
theorem o_ixH {c : D} {xs : List D} {P : Ent → Prop} (k : P (.imm c)) : oIx (.lst (c :: xs)) (.int 0) P := by
  refine ⟨0, c, ?_, rfl, k⟩
  unfold ixN
  simp
  try omega
def oIsNB : DO2
  | .bl a, .bl b, P => P (.imm (.bl (!decide (a = b))))
  | _, _, _ => False
theorem o_isNB {a b : Bool} {P : Ent → Prop} (k : P (.imm (.bl (!decide (a = b))))) : oIsNB (.bl a) (.bl b) P := k
theorem dor_isNotB {X : Cx} : DOR X (compareOp .IsNot) oIsNB := ⟨_, op_notBl, fun I H x y c d P Q s v1 v2 h k => by
  cases c with
  | bl a =>
    cases d with
    | bl b =>
      rw [v1.bl, v2.bl]
      exact ⟨a, b, rfl, rfl, k.imm s h (.bl _)⟩
    | _ => exact h.elim
  | _ => exact h.elim⟩
theorem x_le1000 {α : Type} {xs : List α} {R : Prop} (h : Nat.ble xs.length 1000 = true) (k : R) : xs.length ≤ 1000 ∧ R := ⟨Nat.le_of_ble_eq_true h, k⟩
end
/-! ### far boards, the hand -/
abbrev ptD (z : Int × Int) : PyData := .tuple [.int z.1, .int z.2]
theorem ptD_ok (z : Int × Int) : okD 1 (ptD z) = true := by simp [okD, okDs]
theorem ptDs_ok {zs : List (Int × Int)} (hz : zs.length ≤ 1000000) : okD 2 (.list (zs.map ptD)) = true := by
  rw [okD, Bool.and_eq_true]
  refine ⟨by simpa using hz, ?_⟩
  exact okDs_all fun d hd => by
    obtain ⟨z, _, rfl⟩ := List.mem_map.mp hd
    exact ptD_ok z
theorem ptD_any {z : Int × Int} {zs : List (Int × Int)} (h : z ∈ zs) : (zs.map ptD).any (fun d => PyData.eqv d (ptD z)) = true :=
  List.any_eq_true.mpr ⟨ptD z, List.mem_map.mpr ⟨z, h, rfl⟩, okD_refl (ptD_ok z)⟩
theorem dp_pt {K : PySem.W.Frag} {H : Hp} {a : Addr} {z : Int × Int} (h : H a = some (.tup (ptV z))) : Dp K H (.ref a) (ptD z) := .tup (SqT.of h) (.cons (.int _) (.cons (.int _) .nil))
theorem dp_pts {K : PySem.W.Frag} {H : Hp} : ∀ {as : List Addr} {zs : List (Int × Int)}, TupsAt H as (zs.map ptV) → DpAll K H (as.map V.ref) (zs.map ptD)
  | [], [], _ => .nil
  | [], _ :: _, h => by cases h
  | _ :: _, [], h => by cases h
  | a :: as, z :: zs, h => by
    cases h with
    | cons h1 h2 => exact .cons (dp_pt h1) (dp_pts h2)
theorem r_notInD {K : PySem.W.Frag} {H : Hp} {Q : VK} {x y : V} {d : PyData} {ds : List PyData} (h1 : Dp K H x d) (h2 : Dp K H y (.list ds)) (s1 : SeqAt.shaped d = true) (s2 : SeqAt.shaped (.list ds) = true) (q : Q (.bl (!ds.any fun z => PyData.eqv z d)) H) : rNotInD K x y H Q := ⟨d, ds, h1, h2, s1, s2, q⟩
def spFar : Sp := fun vs H Q _ => ∃ (p c : Addr) (n : Nat) (most lim : Int), vs = [.ref p, .int most, .int lim] ∧ HandAt H p c n ∧ n < 800000000 ∧ 0 ≤ most ∧ most ≤ 100 ∧ 0 < lim ∧
  ∀ (w h : Int) (ms : List Mir) (l q : Addr) (H' : Hp), 0 < w → 0 < h → (1 < w ∨ 1 < h) → GoodMs w h ms → ms.length ≤ 100 → H l = none → MsAt H' l ms → H' q = some (.tup [.int w, .int h, .ref l]) → HandAt H' p c (n + 10000) → Keep2 p c H H' → Q (.ref q) H'
def spHand (K : PySem.W.Frag) : Sp := fun vs H Q _ => ∃ (a : Addr) (ns : List Int), vs = [.ref a] ∧ SqL K H a (ns.map V.int) ∧ ns.length ≤ 63 ∧
  ∀ (p c : Addr) (H' : Hp), H p = none → H c = none → HandAt H' p c 0 → Same H H' → Q (.ref p) H'
section
variable {P : Program} {w : World} {K : PySem.W.Frag} {mg : Str → Option Value} {base : Heap} {A : Ad}
end
/-! ### the hand's defs, over data -/
abbrev mirD (m : Mir) : D := .tup [.int m.1, .int m.2.1, .str m.2.2]
abbrev mirsD (ms : List Mir) : D := .lst (ms.map mirD)
section
variable {K : PySem.W.Frag} {I H I' H' : Hp} {vs : List V} {rest : List Ent} {p c : Addr} {n n' : Nat} {x : V} {t : Ent}
/-- what a call with the hand ahead leaves -/
theorem hand_out (env : EnvR K I H (vs.map some) ((Ent.hand p c n :: rest).map some)) (hr : ∀ t ∈ rest, ∃ d, t = .imm d) (kp : Keep2 p c H H') (tok : TokAt H' p c n') (le : Le I I') (new : ∀ a o, I' a = some o → I a = some o ∨ FreeT H a)
    (r : EntR K I' H' x t) (nt : ∀ a ∈ t.adr, H a = none) : EnvR K I' H' (vs.map some ++ [some x]) ((Ent.hand p c n' :: rest).map some ++ [some t]) ∧ Step ((Ent.hand p c n :: rest).map some) I H ((Ent.hand p c n' :: rest).map some ++ [some t]) I' H' := by
  have adr0 : ∀ m : Nat, ∀ a, a ∈ adr ((Ent.hand p c m :: rest).map some) ↔ a = p ∨ a = c := fun m a => by
    rw [mem_adr]
    constructor
    · rintro ⟨i, u, q, ha⟩
      rw [List.getElem?_map] at q
      cases i with
      | zero => simp at q; subst q; simpa using ha
      | succ i =>
        rw [List.getElem?_cons_succ] at q
        cases z : rest[i]? with
        | none => rw [z] at q; cases q
        | some u' =>
          rw [z] at q
          cases q
          obtain ⟨d, rfl⟩ := hr u (List.mem_of_getElem? z)
          simp at ha
    · intro h
      exact ⟨0, .hand p c m, rfl, by simpa using h⟩
  have hp := env.has ((adr0 n p).mpr (.inl rfl))
  have hc := env.has ((adr0 n c).mpr (.inr rfl))
  have nI : ∀ a, (∃ o, H a = some o ∧ Plain o) ∧ I a = none → I' a = none := fun a ⟨⟨o, q1, q2⟩, q3⟩ => by
    cases z : I' a with
    | none => rfl
    | some u =>
      rcases new a u z with w | w
      · rw [q3] at w; cases w
      · exact absurd (w o q1) q2.1
  have e1 : EnvR K I' H' (vs.map some) ((Ent.hand p c n' :: rest).map some) := by
    refine ⟨env.tab.mono le fun a ps q1 q3 => ⟨kp a _ q1 (fun z => ?_) fun z => ?_, ?_⟩, by have := env.len; simpa using this, fun i u q => ?_, fun i j u v a q1 q2 m1 m2 => ?_⟩
    · obtain ⟨⟨o, w1, w2⟩, _⟩ := hp
      rw [z, w1] at q1
      exact w2.2 ps (Option.some.inj q1)
    · obtain ⟨⟨o, w1, w2⟩, _⟩ := hc
      rw [z, w1] at q1
      exact w2.2 ps (Option.some.inj q1)
    · cases z : I' a with
      | none => rfl
      | some u =>
        rcases new a u z with w | w
        · rw [q3] at w; cases w
        · exact (lasts_tbl (w _ q1)).elim
    · cases i with
      | zero =>
        simp at q
        subst q
        obtain ⟨y, y1, y2⟩ := env.at_ 0 (.hand p c n) rfl
        exact ⟨y, y1, y2.1, nI p hp, nI c hc, tok⟩
      | succ i =>
        obtain ⟨y, y1, y2⟩ := env.at_ (i + 1) u q
        rw [List.getElem?_map, List.getElem?_cons_succ] at q
        cases z : rest[i]? with
        | none => rw [z] at q; cases q
        | some u' =>
          rw [z] at q
          cases q
          obtain ⟨d, rfl⟩ := hr u (List.mem_of_getElem? z)
          exact ⟨y, y1, Rep.mono le y2⟩
    · cases i with
      | zero =>
        cases j with
        | zero => rfl
        | succ j => exact env.sep 0 (j + 1) (.hand p c n) v a rfl q2 (by simp at q1; subst q1; simpa using m1) m2
      | succ i =>
        cases j with
        | zero => exact env.sep (i + 1) 0 u (.hand p c n) a q1 rfl m1 (by simp at q2; subst q2; simpa using m2)
        | succ j => exact env.sep (i + 1) (j + 1) u v a q1 q2 m1 m2
  refine ⟨e1.push r fun a ha z => ?_, ⟨le, fun a o q na _ => ?_, fun a ps q na => ⟨ps, kp a _ q (fun z => na ((adr0 n a).mpr (.inl z))) fun z => na ((adr0 n a).mpr (.inr z))⟩, fun a ha => ?_, fun a o q => ?_⟩⟩
  · have f := nt a ha
    rcases (adr0 n' a).mp z with rfl | rfl
    · obtain ⟨⟨o, q, _⟩, _⟩ := hp; rw [f] at q; cases q
    · obtain ⟨⟨o, q, _⟩, _⟩ := hc; rw [f] at q; cases q
  · exact kp a o q (fun z => na ((adr0 n a).mpr (.inl z))) fun z => na ((adr0 n a).mpr (.inr z))
  · rcases mem_push.mp ha with z | ⟨u, e, z⟩
    · exact .inl ((adr0 n a).mpr ((adr0 n' a).mp z))
    · cases e
      exact .inr (nt a z)
  · rcases new a o q with w | w
    · exact .inl w
    · exact .inr (.inr w)
theorem hand_sub (s : Sub I H) (ip : I p = none) (ic : I c = none) (kp : Keep2 p c H H') : Sub I H' := fun a o q => kp a o (s a o q) (fun z => by rw [z, ip] at q; cases q) fun z => by rw [z, ic] at q; cases q
/-- the arguments: the hand, then numbers -/
theorem hand_in1 {lim : Int} (env : EnvR K I H (vs.map some) ([Ent.hand p c n, Ent.int lim].map some)) : vs = [.ref p, .int lim] ∧ I p = none ∧ I c = none ∧ TokAt H p c n := by
  have l := env.len
  match vs, l with
  | [a, b], _ =>
    obtain ⟨y, y1, y2, y3, y4, y5⟩ := env.at_ 0 (.hand p c n) rfl
    obtain ⟨z, z1, z2⟩ := env.at_ 1 (.int lim) rfl
    simp at y1 z1
    subst y1 y2 z1
    cases z2
    exact ⟨rfl, y3, y4, y5⟩
theorem hand_in2 {i j : Int} (env : EnvR K I H (vs.map some) ([Ent.hand p c n, Ent.int i, Ent.int j].map some)) : vs = [.ref p, .int i, .int j] ∧ I p = none ∧ I c = none ∧ TokAt H p c n := by
  have l := env.len
  match vs, l with
  | [a, b, d], _ =>
    obtain ⟨y, y1, y2, y3, y4, y5⟩ := env.at_ 0 (.hand p c n) rfl
    obtain ⟨z, z1, z2⟩ := env.at_ 1 (.int i) rfl
    obtain ⟨w, w1, w2⟩ := env.at_ 2 (.int j) rfl
    simp at y1 z1 w1
    subst y1 y2 z1 w1
    cases z2
    cases w2
    exact ⟨rfl, y3, y4, y5⟩
end
theorem imms_int1 {i : Int} : ∀ t ∈ [Ent.int i], ∃ d, t = .imm d := fun t h => by simp at h; exact ⟨_, h⟩
theorem imms_int2 {i j : Int} : ∀ t ∈ [Ent.int i, Ent.int j], ∃ d, t = .imm d := fun t h => by simp at h; rcases h with h | h <;> exact ⟨_, h⟩
/-- tuples that are there are taken among the things that never change -/
theorem tups_in {K : PySem.W.Frag} {I H' : Hp} (s : Sub I H') {as : List Addr} {ds : List (List V)} (t : TupsAt H' as ds) {es : List (List D)} (re : ∀ J : Hp, Paired (fun xs cs => Reps K J xs cs) ds es) :
    ∃ I', Le I I' ∧ Sub I' H' ∧ (∀ a o, I' a = some o → I a = some o ∨ ∃ xs, H' a = some (.tup xs)) ∧ Reps K I' (as.map V.ref) (es.map D.tup) := by
  induction t generalizing es with
  | nil => cases re I; exact ⟨I, Le.refl, s, fun a o q => .inl q, .nil⟩
  | @cons a xs as ds h t ih =>
    cases es with
    | nil => cases re I
    | cons cs es =>
      obtain ⟨I1, l1, s1, n1, r1⟩ := ih (es := es) fun J => by cases re J; assumption
      have r0 : ∀ J, Reps K J xs cs := fun J => by cases re J; assumption
      by_cases q : I1 a = none
      · have le : Le I1 (upd I1 a (.tup xs)) := Le.new q
        refine ⟨upd I1 a (.tup xs), l1.trans le, fun b o z => ?_, fun b o z => ?_, .cons (.tup upd_same (r0 _)) (r1.mono le)⟩
        · by_cases hb : b = a
          · subst hb; rw [upd_same] at z; cases z; exact h
          · rw [upd_ne hb] at z; exact s1 b o z
        · by_cases hb : b = a
          · subst hb; exact .inr ⟨xs, h⟩
          · rw [upd_ne hb] at z; exact n1 b o z
      · obtain ⟨o, ho⟩ := Option.ne_none_iff_exists'.mp q
        have z := s1 a o ho
        rw [h] at z
        cases z
        exact ⟨I1, l1, s1, n1, .cons (.tup ho (r0 _)) r1⟩
theorem mirs_in {K : PySem.W.Frag} {I H' : Hp} (s : Sub I H') {l : Addr} {ms : List Mir} (t : MsAt H' l ms) : ∃ I' xs, Le I I' ∧ Sub I' H' ∧ (∀ a o, I' a = some o → I a = some o ∨ ∃ xs, H' a = some (.tup xs)) ∧ H' l = some (.lst xs) ∧ Reps K I' xs (ms.map mirD) := by
  obtain ⟨as, hl, tt⟩ := t
  obtain ⟨I', l1, s1, n1, r1⟩ := tups_in (K := K) s tt (es := ms.map fun m => [.int m.1, .int m.2.1, .str m.2.2]) fun J => by
    clear tt hl
    induction ms with
    | nil => exact .nil
    | cons m ms ih => exact .cons (.cons (.int _) (.cons (.int _) (.cons (.str _) .nil))) ih
  refine ⟨I', _, l1, s1, n1, hl, ?_⟩
  rw [List.map_map] at r1
  exact r1
/-- .. and back -/
theorem mirs_out {K : PySem.W.Frag} {I H : Hp} (s : Sub I H) : ∀ {ms : List Mir} {xs : List V}, Reps K I xs (ms.map mirD) → ∃ as, xs = as.map V.ref ∧ TupsAt H as (ms.map mV)
  | [], _, r => by cases r; exact ⟨[], rfl, .nil⟩
  | m :: ms, _, r => by
    rw [List.map_cons] at r
    cases r with
    | cons r1 r2 =>
      obtain ⟨as, rfl, t⟩ := mirs_out s r2
      cases r1 with
      | @tup a ys _ h rr =>
        cases rr with
        | cons q1 rr =>
          cases rr with
          | cons q2 rr =>
            cases rr with
            | cons q3 rr =>
              cases rr
              cases q1
              cases q2
              cases q3
              exact ⟨a :: as, rfl, .cons (s _ _ h) t⟩
def conTake : Con := fun es P _ => ∃ p c n lim, es = [.hand p c n, .int lim] ∧ n < 1000000000 ∧ 0 < lim ∧ lim < 1073741824 ∧ ∀ r : Int, 0 ≤ r → r < lim → P (.int r) [.hand p c (n + 1), .int lim]
def conSizes : Con := fun es P _ => ∃ p c n most, es = [.hand p c n, .int most] ∧ n < 900000000 ∧ 0 < most ∧ most < 1000000 ∧ ∀ a b : Int, 0 < a → 0 < b → a * b ≤ most → P (.imm (.tup [.int a, .int b])) [.hand p c (n + 3), .int most]
def conMirrors : Con := fun es P _ => ∃ p c n w h, es = [.hand p c n, .int w, .int h] ∧ n < 900000000 ∧ 0 < w ∧ 0 < h ∧ w * h ≤ 100 ∧ ∀ (ms : List Mir) (l : Addr), GoodMs w h ms → ms.length ≤ 200 → P (.own l (mirsD ms)) [.hand p c (n + 1000), .int w, .int h]
def conFar : Con := fun es P _ => ∃ p c n most lim, es = [.hand p c n, .int most, .int lim] ∧ n < 800000000 ∧ 0 ≤ most ∧ most ≤ 100 ∧ 0 < lim ∧
  ∀ (w h : Int) (ms : List Mir), 0 < w → 0 < h → (1 < w ∨ 1 < h) → GoodMs w h ms → ms.length ≤ 100 → P (.imm (.tup [.int w, .int h, mirsD ms])) [.hand p c (n + 10000), .int most, .int lim]
section
variable {K : PySem.W.Frag} {vs : List V} {H : Hp} {Q : VK} {E : XK}
theorem freeT_of {p c : Addr} {H H' : Hp} {a : Addr} (kp : Keep2 p c H H') (hp : ∃ xs, H p = some (.lst xs)) (hc : ∃ xs, H c = some (.lst xs)) {I : Hp} (tok : ∃ xs, H' p = some (.lst xs)) (tokc : ∃ xs, H' c = some (.lst xs)) {ys : List V} (h : H' a = some (.tup ys)) : FreeT H a := fun o q => by
  have ne1 : a ≠ p := fun z => by obtain ⟨xs, e⟩ := tok; rw [z, e] at h; cases h
  have ne2 : a ≠ c := fun z => by obtain ⟨xs, e⟩ := tokc; rw [z, e] at h; cases h
  have := kp a o q ne1 ne2
  rw [h] at this
  cases this
  exact .inl ⟨ys, rfl⟩
theorem take_of (h : spD K conTake vs H Q E) : spTake vs H Q E := by
  obtain ⟨I, es, P, PX, sub, env, ⟨p, c, n, lim, rfl, hn, h0, h1, hP⟩, kq, _⟩ := h
  obtain ⟨rfl, ip, ic, tok⟩ := hand_in1 env
  refine ⟨p, c, n, lim, rfl, tok.at_, hn, h0, h1, fun r H' r0 r1 hh kp => ?_⟩
  obtain ⟨e1, s1⟩ := hand_out (t := .int r) (x := .int r) env imms_int1 kp ⟨hh⟩ Le.refl (fun _ _ q => .inl q) (.int r) fun a ha => by simp at ha
  exact kq _ _ _ I H' (hP r r0 r1) (hand_sub sub ip ic kp) e1 s1
theorem sizes_of (h : spD K conSizes vs H Q E) : spSizes vs H Q E := by
  obtain ⟨I, es, P, PX, sub, env, ⟨p, c, n, most, rfl, hn, h0, h1, hP⟩, kq, _⟩ := h
  obtain ⟨rfl, ip, ic, tok⟩ := hand_in1 env
  refine ⟨p, c, n, most, rfl, tok.at_, hn, h0, h1, fun a b q H' a0 b0 hab hq0 hq hh kp => ?_⟩
  have sub' := hand_sub sub ip ic kp
  have iq := sub.none hq0
  obtain ⟨e1, s1⟩ := hand_out (I' := upd I q (.tup [.int a, .int b])) (t := .imm (.tup [.int a, .int b])) (x := .ref q) env imms_int1 kp ⟨hh⟩ (Le.new iq) (fun b' o z => by
    by_cases hb : b' = q
    · subst hb; exact .inr (.of hq0)
    · rw [upd_ne hb] at z; exact .inl z) (.tup upd_same (.cons (.int _) (.cons (.int _) .nil))) fun a ha => by simp at ha
  refine kq _ _ _ _ H' (hP a b a0 b0 hab) (fun b' o z => ?_) e1 s1
  by_cases hb : b' = q
  · subst hb; rw [upd_same] at z; cases z; exact hq
  · rw [upd_ne hb] at z; exact sub' b' o z
theorem mirrors_of (h : spD K conMirrors vs H Q E) : spMirrors vs H Q E := by
  obtain ⟨I, es, P, PX, sub, env, ⟨p, c, n, w, h', rfl, hn, h0, h1, h2, hP⟩, kq, _⟩ := h
  obtain ⟨rfl, ip, ic, tok⟩ := hand_in2 env
  refine ⟨p, c, n, w, h', rfl, tok.at_, hn, h0, h1, h2, fun ms l H' g lz hl0 hl hh kp => ?_⟩
  have sub' := hand_sub sub ip ic kp
  obtain ⟨I', xs, le, s', nw, hx, rr⟩ := mirs_in (K := K) sub' hl
  have il : I' l = none := by
    cases z : I' l with
    | none => rfl
    | some o =>
      rcases nw l o z with q | ⟨ys, q⟩
      · rw [sub.none hl0] at q; cases q
      · rw [hx] at q; cases q
  obtain ⟨e1, s1⟩ := hand_out (I' := I') (t := .own l (mirsD ms)) (x := .ref l) env imms_int2 kp ⟨hh⟩ le (fun b o z => by
    rcases nw b o z with q | ⟨ys, q⟩
    · exact .inl q
    · exact .inr (freeT_of (I := I) kp tok.tokp tok.tokc (TokAt.mk hh).tokp (TokAt.mk hh).tokc q)) ⟨rfl, il, xs, hx, rr⟩ fun a ha => by simp at ha; subst ha; exact hl0
  exact kq _ _ _ I' H' (hP ms l g lz) s' e1 s1
theorem far_of (h : spD K conFar vs H Q E) : spFar vs H Q E := by
  obtain ⟨I, es, P, PX, sub, env, ⟨p, c, n, most, lim, rfl, hn, h0, h1, h2, hP⟩, kq, _⟩ := h
  obtain ⟨rfl, ip, ic, tok⟩ := hand_in2 env
  refine ⟨p, c, n, most, lim, rfl, tok.at_, hn, h0, h1, h2, fun w h' ms l q H' hw hh' hwh g lz hl0 hl hq hh kp => ?_⟩
  have sub' := hand_sub sub ip ic kp
  obtain ⟨I1, xs, le, s', nw, hx, rr⟩ := mirs_in (K := K) sub' hl
  have fT : ∀ {b : Addr} {ys : List V}, H' b = some (.tup ys) → FreeT H b := fun q => freeT_of (I := I) kp tok.tokp tok.tokc (TokAt.mk hh).tokp (TokAt.mk hh).tokc q
  have il : I1 l = none := by
    cases z : I1 l with
    | none => rfl
    | some o =>
      rcases nw l o z with q | ⟨ys, q⟩
      · rw [sub.none hl0] at q; cases q
      · rw [hx] at q; cases q
  have le2 : Le I1 (upd I1 l (.lst xs)) := Le.new il
  have s2 : Sub (upd I1 l (.lst xs)) H' := fun b o z => by
    by_cases hb : b = l
    · subst hb; rw [upd_same] at z; cases z; exact hx
    · rw [upd_ne hb] at z; exact s' b o z
  have le3 : Le (upd I1 l (.lst xs)) (fun b => if b = q then some (.tup [.int w, .int h', .ref l]) else (upd I1 l (.lst xs)) b) := fun b o z => by
    by_cases hb : b = q
    · subst hb
      have := s2 b o z
      rw [hq] at this
      cases this
      exact if_pos rfl
    · show (if b = q then _ else _) = _
      rw [if_neg hb]; exact z
  obtain ⟨e1, s1⟩ := hand_out (I' := upd (upd I1 l (.lst xs)) q (.tup [.int w, .int h', .ref l])) (t := .imm (.tup [.int w, .int h', mirsD ms])) (x := .ref q) env imms_int2 kp ⟨hh⟩ ((le.trans le2).trans le3) (fun b o z => by
    by_cases hb : b = q
    · subst hb; exact .inr (fT hq)
    · rw [upd_ne hb] at z
      by_cases hb2 : b = l
      · subst hb2; exact .inr (.of hl0)
      · rw [upd_ne hb2] at z
        rcases nw b o z with q | ⟨ys, q⟩
        · exact .inl q
        · exact .inr (fT q)) (.tup upd_same (.cons (.int _) (.cons (.int _) (.cons (.lst (le3 _ _ upd_same) (rr.mono (le2.trans le3))) .nil)))) fun a ha => by simp at ha
  refine kq _ _ _ _ H' (hP w h' ms hw hh' hwh g lz) (fun b o z => ?_) e1 s1
  by_cases hb : b = q
  · subst hb; rw [upd_same] at z; cases z; exact hq
  · rw [upd_ne hb] at z; exact s2 b o z
end
/-! ### boards -/
def spIns : Sp := fun vs H Q _ => ∃ (w h x y : Int), vs = [.int w, .int h, .int x, .int y] ∧ ∀ b : Bool, (b = true ↔ Ins w h x y) → Q (.bl b) H
abbrev ptK (z : Int × Int) : List Key := [Sum.inl z.1, Sum.inl z.2]
/-- the dict that holds the mirrors -/
def kvsOf (ms : List Mir) : List (List Key × V) := ms.map fun m => (ptK (mK m), V.str m.2.2)
def spCheck (A : Ad) : Sp := fun vs H Q E => ∃ (w h : Int) (d m : Addr) (kvs : List (List Key × V)) (z : Mir), vs = [.int w, .int h, .ref d, .ref m] ∧ H d = some (.dT kvs) ∧ H m = some (.tup (mV z)) ∧
  (¬ Ins w h z.1 z.2.1 → WishT A.C_InvalidPoint z.1 z.2.1 E H) ∧ (Ins w h z.1 z.2.1 → ¬ KindOk z.2.2 → WishV A.C_InvalidMirror (.str z.2.2) E H) ∧
  (Ins w h z.1 z.2.1 → KindOk z.2.2 → valV kvs (ptK (mK z)) ≠ none → WishT A.C_Taken z.1 z.2.1 E H) ∧
  (Ins w h z.1 z.2.1 → KindOk z.2.2 → valV kvs (ptK (mK z)) = none → ∀ H', Same H H' → Q .non H')
theorem kind_in {k : Str} : inV (.str k) [.str "-", .str "|"] = true ↔ KindOk k := by
  unfold inV KindOk
  simp [eqV]
  constructor
  · rintro (h | h)
    · exact .inl h.symm
    · exact .inr h.symm
  · rintro (h | h)
    · exact .inl h.symm
    · exact .inr h.symm
section
variable {P : Program} {w : World} {K : PySem.W.Frag} {mg : Str → Option Value} {base : Heap} {A : Ad}
theorem ok_is_inside (T : Txt K mg A) : FnOk P w K mg base CX0 1 A.f_is_inside A.d_is_inside P_is_inside spIns := by
  refine T.F_is_inside.ok sc_is_inside (fun vs H Q E h => ?_) (fun cdv A' outer s H vs Q E hr h => ?_)
  · obtain ⟨a, b, c, d, rfl, _⟩ := h
    rfl
  · obtain ⟨w', h', x, y, rfl, kk⟩ := h
    refine ⟨_, (pss_one (ps_ret (pe_and (pe_chain op_lt op_lt pe_int (pv 2) (pe_op op_mul pe_int (pv 0))) (pe_and (pe_chain op_lt op_lt pe_int (pv 3) (pe_op op_mul pe_int (pv 1))) (pe_one (pe_cmpR op_eq (pe_op op_mod (pe_op op_add (pv 2) (pv 3)) pe_int) pe_int (nomark _))))))), ?_⟩
    walk_at "rs"
    refine r_ite (fun c1 => ?_) (fun c1 => ?_)
    · walk_at "rs"
      refine r_ite (fun c2 => ?_) (fun c2 => ?_)
      · walk_at "rs"
        refine r_ite (fun c3 => ?_) (fun c3 => ?_)
        · walk_at "rs"
          refine r_ite (fun c4 => ?_) (fun c4 => ?_)
          · walk_at "rs"
            refine kk _ ⟨fun h => ⟨c1, c2, c3, c4, by simpa using h⟩, fun h => by simpa using h.2.2.2.2⟩
          · walk_at "rs"
            exact kk _ ⟨fun h => by simp at h, fun h => absurd h.2.2.2.1 c4⟩
        · walk_at "rs"
          exact kk _ ⟨fun h => by simp at h, fun h => absurd h.2.2.1 c3⟩
      · walk_at "rs"
        exact kk _ ⟨fun h => by simp at h, fun h => absurd h.2.1 c2⟩
    · walk_at "rs"
      exact kk _ ⟨fun h => by simp at h, fun h => absurd h.1 c1⟩
theorem ok_check_mirror (T : Txt K mg A) : FnOk P w K mg base (L2.CX P w) 3 A.f_check_mirror A.d_check_mirror P_check_mirror (spCheck A) := by
  have G_SandError___init__ := ok_SandError___init__ (P := P) (w := w) (base := base) T
  have G_is_inside := ok_is_inside (P := P) (w := w) (base := base) T
  refine T.F_check_mirror.okX sc_check_mirror (fun vs H Q E h => ?_) (fun cdv A' outer s H vs Q E hr h => ?_)
  · obtain ⟨a, b, c, d, kvs, z, rfl, _⟩ := h
    rfl
  · obtain ⟨w', h', d, m, kvs, z, rfl, hd, hm, e1, e2, e3, kk⟩ := h
    have hu := hu_of hr
    refine ⟨_, (pss_cons (ps_asg (pv 3) (pg_tup rfl (pgs_cons (pg_name (i := 4) sc_check_mirror.nd rfl (Or.inl rfl)) (pgs_cons (pg_name (i := 5) sc_check_mirror.nd rfl (Or.inl rfl)) (pgs_cons (pg_name (i := 6) sc_check_mirror.nd rfl (Or.inl rfl)) pgs_nil)))))
(pss_cons (ps_if (pt_not (pt_val (pe_call G_is_inside (hr.mono (by first | decide | omega)) rfl T.g_is_inside T.k_is_inside T.b_is_inside .nil pass0 (pa_cons (pv 0) (pa_cons (pv 1) (pa_cons (pv 4) (pa_cons (pv 5) pa_nil)))))))
(pss_one (ps_raise rfl (takes_of rfl rfl rfl rfl) (pmk_oex T.X_InvalidPoint T.i_InvalidPoint T.ti_init G_SandError___init__ (hr.mono (by first | decide | omega)) T.b_SandError___init__ .nil pass0 rfl T.g_InvalidPoint (pa_cons (pe_tup (pa_cons (pv 4) (pa_cons (pv 5) pa_nil))) pa_nil))))
pss_nil)
(pss_cons (ps_if (pt_cmpR op_notIn_seq (pv 6) (pe_glob (v := .ref A.c_KINDS) rfl T.g_KINDS rfl) (by rfl))
(pss_one (ps_raise rfl (takes_of rfl rfl rfl rfl) (pmk_oex T.X_InvalidMirror T.i_InvalidMirror T.ti_init G_SandError___init__ (hr.mono (by first | decide | omega)) T.b_SandError___init__ .nil pass0 rfl T.g_InvalidMirror (pa_cons (pv 6) pa_nil))))
pss_nil)
(pss_one (ps_if (pt_cmp (pc_din hu (pe_tup (pa_cons (pv 4) (pa_cons (pv 5) pa_nil))) (pv 2)))
(pss_one (ps_raise rfl (takes_of rfl rfl rfl rfl) (pmk_oex T.X_Taken T.i_Taken T.ti_init G_SandError___init__ (hr.mono (by first | decide | omega)) T.b_SandError___init__ .nil pass0 rfl T.g_Taken (pa_cons (pe_tup (pa_cons (pv 4) (pa_cons (pv 5) pa_nil))) pa_nil))))
pss_nil))))), ?_⟩
    walk_at "rs"
    refine ⟨w', h', _, _, rfl, fun b hb => ?_⟩
    walk_at "rs"
    refine r_iteNB (fun c1 => ?_) (fun c1 => ?_)
    · have nin : ¬ Ins w' h' z.1 z.2.1 := fun h => by rw [hb.mpr h] at c1; cases c1
      walk_at "rs"
      intro q hq
      walk_at "rs"
      refine ⟨(by show 1 ≤ 1000; decide), raise_val T.X_InvalidPoint T.no_InvalidPoint fun d' H' sm hd' => ?_⟩
      exact e1 nin d' q H' ((Same.new hq).trans sm) hd' (sm _ _ upd_same)
    · have hin : Ins w' h' z.1 z.2.1 := hb.mp c1
      walk_at "rs"
      refine ⟨A.c_KINDS, _, rfl, .inr (T.q_KINDS H), rfl, rfl, ?_⟩
      walk_at "rs"
      refine r_iteNB (fun c2 => ?_) (fun c2 => ?_)
      · have nk : ¬ KindOk z.2.2 := fun h => by rw [kind_in.mpr h] at c2; cases c2
        walk_at "rs"
        refine ⟨(by show 1 ≤ 1000; decide), raise_val T.X_InvalidMirror T.no_InvalidMirror fun d' H' sm hd' => ?_⟩
        exact e2 hin nk d' H' sm hd'
      · have hk : KindOk z.2.2 := kind_in.mp c2
        walk_at "rs"
        intro q hq
        walk_at "rs"
        refine ⟨d, _, rfl, DGet.t (k := ptK (mK z)) (by walk_at "hl") upd_same, ?_⟩
        walk_at "rs"
        refine r_iteB (fun c3 => ?_) (fun c3 => ?_)
        · have hv : valV kvs (ptK (mK z)) ≠ none := fun h => by rw [h] at c3; cases c3
          walk_at "rs"
          intro u hu
          walk_at "rs"
          refine ⟨(by show 1 ≤ 1000; decide), raise_val T.X_Taken T.no_Taken fun d' H' sm hd' => ?_⟩
          exact e3 hin hk hv d' u H' (((Same.new hq).trans (Same.new hu)).trans sm) hd' (sm _ _ upd_same)
        · have hv : valV kvs (ptK (mK z)) = none := by
            cases e : valV kvs (ptK (mK z)) with
            | none => rfl
            | some v => rw [e] at c3; cases c3
          walk_at "rs"
          exact kk hin hk hv _ (Same.new hq)
theorem kvs_find {ms : List Mir} {z : Int × Int} : valV (kvsOf ms) (ptK z) = none ↔ z ∉ ms.map mK := by
  unfold kvsOf
  induction ms with
  | nil => simp [valV]
  | cons m r ih =>
    rw [List.map_cons, List.map_cons, List.mem_cons]
    by_cases h : ptK (mK m) = ptK z
    · have e : z = mK m := by
        obtain ⟨a, b⟩ := z
        simp [ptK] at h
        exact Prod.ext h.1.symm h.2.symm
      rw [valV_pos h]
      simp [e]
    · have e : ¬ z = mK m := fun q => h (by rw [q])
      rw [valV_neg h, ih]
      simp [e]
theorem kvs_get {ms : List Mir} {z : Mir} (nd : (ms.map mK).Nodup) (hm : z ∈ ms) : valV (kvsOf ms) (ptK (mK z)) = some (.str z.2.2) := by
  unfold kvsOf
  induction ms with
  | nil => simp at hm
  | cons m r ih =>
    rw [List.map_cons, List.nodup_cons] at nd
    rw [List.map_cons]
    rcases List.mem_cons.mp hm with e | hm
    · subst e
      rw [valV_pos rfl]
    · have h : ¬ ptK (mK m) = ptK (mK z) := fun h => nd.1 (by
        have e : mK m = mK z := by
          simp [ptK] at h
          exact Prod.ext h.1 h.2
        rw [e]
        exact List.mem_map.mpr ⟨z, hm, rfl⟩)
      rw [valV_neg h]
      exact ih nd.2 hm
theorem kvs_len (ms : List Mir) : (kvsOf ms).length = ms.length := List.length_map ..
def spKinds (A : Ad) : Sp := fun vs H Q E => ∃ (w h : Int) (l : Addr) (ms : List Mir), vs = [.int w, .int h, .ref l] ∧ MsAt H l ms ∧ ms.length ≤ 2000 ∧
  ((GoodMs w h ms ∧ ∀ d H', H d = none → Same H H' → H' d = some (.dT (kvsOf ms)) → Q (.ref d) H') ∨
   ∃ (i : Nat) (z : Mir), ms[i]? = some z ∧ GoodMs w h (ms.take i) ∧
     ((¬ Ins w h z.1 z.2.1 ∧ WishT A.C_InvalidPoint z.1 z.2.1 E H) ∨ (Ins w h z.1 z.2.1 ∧ ¬ KindOk z.2.2 ∧ WishV A.C_InvalidMirror (.str z.2.2) E H) ∨
      (Ins w h z.1 z.2.1 ∧ KindOk z.2.2 ∧ mK z ∈ (ms.take i).map mK ∧ WishT A.C_Taken z.1 z.2.1 E H)))
theorem GoodMs.sub {w h : Int} {ms ns : List Mir} (g : GoodMs w h ms) (s : ns.Sublist ms) : GoodMs w h ns := ⟨fun m hm => g.ins m (s.subset hm), fun m hm => g.kind m (s.subset hm), g.nd.sublist (s.map mK)⟩
theorem WishT.same {C : Addr} {x y : Int} {E : XK} {H H1 : Hp} (h : WishT C x y E H) (s : Same H H1) : WishT C x y E H1 := fun d q H' s' => h d q H' (s.trans s')
theorem WishV.same {C : Addr} {v : V} {E : XK} {H H1 : Hp} (h : WishV C v E H) (s : Same H H1) : WishV C v E H1 := fun d H' s' => h d H' (s.trans s')
/-- a turn of a loop over good mirrors -/
theorem GoodMs.at {w h : Int} {ms : List Mir} {i : Nat} {z : Mir} (g : GoodMs w h ms) (hz : ms[i]? = some z) : Ins w h z.1 z.2.1 ∧ KindOk z.2.2 ∧ mK z ∉ (ms.take i).map mK := by
  refine ⟨g.ins z (List.mem_of_getElem? hz), g.kind z (List.mem_of_getElem? hz), fun hm => ?_⟩
  have nd := g.nd
  have tk : ms.take (i + 1) = ms.take i ++ [z] := by rw [List.take_add_one, hz]; rfl
  have h2 : ((ms.take (i + 1)).map mK).Nodup := nd.sublist ((List.take_sublist _ _).map mK)
  rw [tk, List.map_append, List.nodup_append] at h2
  exact h2.2.2 _ hm _ (by simp) rfl
theorem ok_kinds_of (T : Txt K mg A) : FnOk P w K mg base (L2.CX P w) 4 A.f_kinds_of A.d_kinds_of P_kinds_of (spKinds A) := by
  have G_check_mirror := ok_check_mirror (P := P) (w := w) (base := base) T
  refine T.F_kinds_of.okX sc_kinds_of (fun vs H Q E h => ?_) (fun cdv A' outer s H vs Q E hr h => ?_)
  · obtain ⟨a, b, c, ms, rfl, _⟩ := h
    rfl
  · obtain ⟨w', h', l, ms, rfl, ⟨as, hl, tt⟩, hlen, kk⟩ := h
    have hu := hu_of hr
    refine ⟨_, (pss_cons (ps_set (i := 3) sc_kinds_of.nd rfl (Or.inl rfl) pe_dnewT)
(pss_cons (ps_for (passes_of rfl) rfl (pi_list (pv 2)) (pg_tup rfl (pgs_cons (pg_name (i := 4) sc_kinds_of.nd rfl (Or.inl rfl)) (pgs_cons (pg_name (i := 5) sc_kinds_of.nd rfl (Or.inl rfl)) (pgs_cons (pg_name (i := 6) sc_kinds_of.nd rfl (Or.inl rfl)) pgs_nil))))
(pss_cons (ps_expr (pe_call G_check_mirror (hr.mono (by first | decide | omega)) rfl T.g_check_mirror T.k_check_mirror T.b_check_mirror .nil (passes_call (takes_of rfl rfl rfl rfl) (fun _ _ _ _ h => h)) (pa_cons (pv 0) (pa_cons (pv 1) (pa_cons (pv 3) (pa_cons (pe_tup (pa_cons (pv 4) (pa_cons (pv 5) (pa_cons (pv 6) pa_nil)))) pa_nil))))))
(pss_one (ps_dput hu (pv 3) (pe_tup (pa_cons (pv 4) (pa_cons (pv 5) pa_nil))) (pv 6) rfl))))
(pss_one (ps_ret (pv 3))))), ?_⟩
    walk_at "rs"
    intro d hd
    have hld : l ≠ d := ne_of_none hl hd
    have hal : as.length = ms.length := by rw [Paired.length tt, List.length_map]
    walk_at "rs"
    -- what is known of the place reached: good so far, and not beyond the bad one
    refine ⟨l, rfl, ⟨_, SqL.of (by walk_at "hl")⟩, for_list (K := K) (a := l) (xs := as.map V.ref) (fun i σ H1 => ∃ (v4 v5 v6 : Option V), σ = [some (.int w'), some (.int h'), some (.ref l), some (.ref d), v4, v5, v6] ∧
      Same H H1 ∧ H1 d = some (.dT (kvsOf (ms.take i))) ∧ GoodMs w' h' (ms.take i) ∧
      (∀ j z, ms[j]? = some z → GoodMs w' h' (ms.take j) → (¬ Ins w' h' z.1 z.2.1 ∨ (Ins w' h' z.1 z.2.1 ∧ ¬ KindOk z.2.2) ∨ (Ins w' h' z.1 z.2.1 ∧ KindOk z.2.2 ∧ mK z ∈ (ms.take j).map mK)) → i ≤ j)) ?_ ?_ ?_ ?_⟩
    · exact ⟨none, none, none, rfl, Same.new hd, upd_same, ⟨fun _ h => by simp at h, fun _ h => by simp at h, List.nodup_nil⟩, fun j z _ _ _ => Nat.zero_le _⟩
    · rintro i σ H1 _ ⟨_, _, _, _, sm, _⟩
      exact SqL.of (sm _ _ hl)
    · rintro i x σ H1 hi ⟨v4, v5, v6, rfl, sm, hd1, gd, nb⟩
      obtain ⟨a, xs, rfl, ha, hx, hta⟩ := (tt.keep fun b xs h => sm b _ h).get hi
      obtain ⟨z, hz, rfl⟩ : ∃ z, ms[i]? = some z ∧ xs = mV z := by
        rw [List.getElem?_map] at hx
        cases e : ms[i]? with
        | none => rw [e] at hx; cases hx
        | some z => rw [e] at hx; exact ⟨z, rfl, (Option.some.inj hx).symm⟩
      have tk : ms.take (i + 1) = ms.take i ++ [z] := by rw [List.take_add_one, hz]; rfl
      have hil : i < ms.length := (List.getElem?_eq_some_iff.mp hz).1
      walk_at "rs"
      intro m hm
      walk_at "rs"
      -- where the bad one is the one at hand, the wish is there; otherwise it is none of the three
      have key : ∀ (bad : ¬ Ins w' h' z.1 z.2.1 ∨ (Ins w' h' z.1 z.2.1 ∧ ¬ KindOk z.2.2) ∨ (Ins w' h' z.1 z.2.1 ∧ KindOk z.2.2 ∧ mK z ∈ (ms.take i).map mK)),
          ((¬ Ins w' h' z.1 z.2.1 ∧ WishT A.C_InvalidPoint z.1 z.2.1 E H) ∨ (Ins w' h' z.1 z.2.1 ∧ ¬ KindOk z.2.2 ∧ WishV A.C_InvalidMirror (.str z.2.2) E H) ∨ (Ins w' h' z.1 z.2.1 ∧ KindOk z.2.2 ∧ mK z ∈ (ms.take i).map mK ∧ WishT A.C_Taken z.1 z.2.1 E H)) := by
        intro bad
        rcases kk with ⟨g, _⟩ | ⟨j, y, hy, gj, wish⟩
        · obtain ⟨g1, g2, g3⟩ := g.at hz
          rcases bad with b | ⟨_, b⟩ | ⟨_, _, b⟩
          · exact absurd g1 b
          · exact absurd g2 b
          · exact absurd b g3
        · have hij : i ≤ j := nb j y hy gj (by
            rcases wish with ⟨a, _⟩ | ⟨a, b, _⟩ | ⟨a, b, c, _⟩
            · exact .inl a
            · exact .inr (.inl ⟨a, b⟩)
            · exact .inr (.inr ⟨a, b, c⟩))
          rcases Nat.lt_or_eq_of_le hij with hlt | e
          · exfalso
            have hz' : (ms.take j)[i]? = some z := by rw [List.getElem?_take_of_lt hlt]; exact hz
            obtain ⟨g1, g2, g3⟩ := gj.at hz'
            rw [List.take_take, Nat.min_eq_left (Nat.le_of_lt hlt)] at g3
            rcases bad with b | ⟨_, b⟩ | ⟨_, _, b⟩
            · exact b g1
            · exact b g2
            · exact g3 b
          · subst e
            rw [hz] at hy
            cases hy
            exact wish
      have smn : Same H (upd H1 m (.tup (mV z))) := sm.trans (Same.new hm)
      refine ⟨w', h', d, m, kvsOf (ms.take i), z, rfl, by walk_at "hl", upd_same, fun n1 => ?_, fun i1 n2 => ?_, fun i1 i2 n3 => ?_, fun i1 i2 n3 H2 sm2 => ?_⟩
      · rcases key (.inl n1) with ⟨_, q⟩ | ⟨q, _⟩ | ⟨q, _⟩
        · exact q.same smn
        · exact absurd q n1
        · exact absurd q n1
      · rcases key (.inr (.inl ⟨i1, n2⟩)) with ⟨q, _⟩ | ⟨_, _, q⟩ | ⟨_, q, _⟩
        · exact absurd i1 q
        · exact q.same smn
        · exact absurd q n2
      · have hmem : mK z ∈ (ms.take i).map mK := by
          refine Classical.byContradiction fun h => n3 (kvs_find.mpr h)
        rcases key (.inr (.inr ⟨i1, i2, hmem⟩)) with ⟨q, _⟩ | ⟨_, q, _⟩ | ⟨_, _, _, q⟩
        · exact absurd i1 q
        · exact absurd i2 q
        · exact q.same smn
      · have hd2 := sm2 d _ (show (upd H1 m (.tup (mV z))) d = some (.dT (kvsOf (ms.take i))) by walk_at "hl")
        walk_at "rs"
        intro q hq
        have hdq : d ≠ q := ne_of_none hd2 hq
        have hlt : (kvsOf (ms.take i)).length < sizeLine := by rw [kvs_len]; exact Nat.lt_of_le_of_lt (m := 2000) (by rw [List.length_take]; omega) (by decide)
        refine ⟨d, _, rfl, DPut.t (k := ptK (mK z)) (by walk_at "hl") upd_same hlt, ?_⟩
        refine ⟨_, _, _, rfl, ((smn.trans sm2).trans (Same.new hq)).mut hd, ?_, ?_, fun j y hy gj bad => ?_⟩
        · rw [upd_same, putK_new _ n3, tk]
          unfold kvsOf
          rw [List.map_append]
          rfl
        · rw [tk]
          refine ⟨fun m hm => ?_, fun m hm => ?_, ?_⟩
          · rcases List.mem_append.mp hm with hm | hm
            · exact gd.ins m hm
            · rw [List.mem_singleton] at hm; subst hm; exact i1
          · rcases List.mem_append.mp hm with hm | hm
            · exact gd.kind m hm
            · rw [List.mem_singleton] at hm; subst hm; exact i2
          · rw [List.map_append, List.nodup_append]
            refine ⟨gd.nd, by simp, fun a ha b hb => ?_⟩
            rw [List.map_singleton, List.mem_singleton] at hb
            subst hb
            intro e
            subst e
            exact kvs_find.mp n3 ha
        · have h1 := nb j y hy gj bad
          rcases Nat.lt_or_eq_of_le h1 with h1 | e
          · exact h1
          · exfalso
            subst e
            rw [hz] at hy
            cases hy
            rcases bad with b | ⟨_, b⟩ | ⟨_, _, b⟩
            · exact b i1
            · exact b i2
            · exact kvs_find.mp n3 b
    · rintro σ H1 ⟨v4, v5, v6, rfl, sm, hd1, gd, nb⟩
      rw [List.length_map, hal] at hd1 gd nb
      rw [List.take_length] at hd1 gd
      walk_at "rs"
      rcases kk with ⟨_, kk⟩ | ⟨j, y, hy, gj, wish⟩
      · exact kk d H1 hd sm hd1
      · exfalso
        have h1 := nb j y hy gj (by
            rcases wish with ⟨a, _⟩ | ⟨a, b, _⟩ | ⟨a, b, c, _⟩
            · exact .inl a
            · exact .inr (.inl ⟨a, b⟩)
            · exact .inr (.inr ⟨a, b, c⟩))
        have h2 := (List.getElem?_eq_some_iff.mp hy).1
        omega
end
/-! ### Board -/
def bflds (w h : Int) (d : Addr) : List (Str × V) := putF "kinds" (.ref d) (putF "high" (.int h) (putF "wide" (.int w) []))
theorem n_kh : ¬ (("kinds" : Str) = "high") := by decide +kernel
theorem n_kw : ¬ (("kinds" : Str) = "wide") := by decide +kernel
theorem n_hw : ¬ (("high" : Str) = "wide") := by decide +kernel
theorem n_hk : ¬ (("high" : Str) = "kinds") := by decide +kernel
theorem n_wk : ¬ (("wide" : Str) = "kinds") := by decide +kernel
theorem n_wh : ¬ (("wide" : Str) = "high") := by decide +kernel
theorem bf_kinds (w h : Int) (d : Addr) : (bflds w h d).lookup ("kinds" : Str) = some (.ref d) := by
  unfold bflds
  rw [lookup_putF, if_pos rfl]
theorem bf_high (w h : Int) (d : Addr) : (bflds w h d).lookup ("high" : Str) = some (.int h) := by
  unfold bflds
  rw [lookup_putF, if_neg n_hk, lookup_putF, if_pos rfl]
theorem bf_wide (w h : Int) (d : Addr) : (bflds w h d).lookup ("wide" : Str) = some (.int w) := by
  unfold bflds
  rw [lookup_putF, if_neg n_wk, lookup_putF, if_neg n_wh, lookup_putF, if_pos rfl]
theorem bf_no (w h : Int) (d : Addr) {m : Str} (h1 : ¬ m = "kinds") (h2 : ¬ m = "high") (h3 : ¬ m = "wide") : (bflds w h d).lookup m = none := by
  unfold bflds
  rw [lookup_putF, if_neg h1, lookup_putF, if_neg h2, lookup_putF, if_neg h3]
  rfl
/-- a board stands at p -/
def BoardAt (C : Addr) (H : Hp) (p : Addr) (w h : Int) (ms : List Mir) : Prop := ∃ dx d, H p = some (.ins C dx (bflds w h d)) ∧ H d = some (.dT (kvsOf ms))
theorem BoardAt.same {C : Addr} {H H' : Hp} {p : Addr} {w h : Int} {ms : List Mir} (b : BoardAt C H p w h ms) (s : Same H H') : BoardAt C H' p w h ms := by
  obtain ⟨dx, d, e1, e2⟩ := b
  exact ⟨dx, d, s _ _ e1, s _ _ e2⟩
theorem BoardAt.keep2 {C : Addr} {H H' : Hp} {p q c : Addr} {n : Nat} {w h : Int} {ms : List Mir} (b : BoardAt C H p w h ms) (hh : HandAt H q c n) (s : Keep2 q c H H') : BoardAt C H' p w h ms := by
  obtain ⟨dx, d, e1, e2⟩ := b
  obtain ⟨_, f1⟩ := hh.p
  obtain ⟨_, f2⟩ := hh.c
  exact ⟨dx, d, s _ _ e1 (ne_of e1 f1 (fun z => nomatch z)) (ne_of e1 f2 (fun z => nomatch z)), s _ _ e2 (ne_of e2 f1 (fun z => nomatch z)) (ne_of e2 f2 (fun z => nomatch z))⟩
def spBoard (A : Ad) : Sp := fun vs H Q E => ∃ (p dx : Addr) (w h : Int) (l : Addr) (ms : List Mir), vs = [.ref p, .int w, .int h, .ref l] ∧ H p = some (.ins A.C_Board dx []) ∧ MsAt H l ms ∧ ms.length ≤ 2000 ∧
  ((w < 1 ∧ WishV A.C_InvalidSize (.int w) E H) ∨ (1 ≤ w ∧ h < 1 ∧ WishV A.C_InvalidSize (.int h) E H) ∨
   (1 ≤ w ∧ 1 ≤ h ∧ GoodMs w h ms ∧ ∀ d H', H d = none → (∀ b o, H b = some o → b ≠ p → H' b = some o) → H' p = some (.ins A.C_Board dx (bflds w h d)) → H' d = some (.dT (kvsOf ms)) → Q .non H') ∨
   (1 ≤ w ∧ 1 ≤ h ∧ ∃ (i : Nat) (z : Mir), ms[i]? = some z ∧ GoodMs w h (ms.take i) ∧
     ((¬ Ins w h z.1 z.2.1 ∧ ∀ H1, (∀ b o, H b = some o → b ≠ p → H1 b = some o) → WishT A.C_InvalidPoint z.1 z.2.1 E H1) ∨ (Ins w h z.1 z.2.1 ∧ ¬ KindOk z.2.2 ∧ ∀ H1, (∀ b o, H b = some o → b ≠ p → H1 b = some o) → WishV A.C_InvalidMirror (.str z.2.2) E H1) ∨
      (Ins w h z.1 z.2.1 ∧ KindOk z.2.2 ∧ mK z ∈ (ms.take i).map mK ∧ ∀ H1, (∀ b o, H b = some o → b ≠ p → H1 b = some o) → WishT A.C_Taken z.1 z.2.1 E H1))))
section
variable {P : Program} {w : World} {K : PySem.W.Frag} {mg : Str → Option Value} {base : Heap} {A : Ad}
theorem ok_Board___init__ (T : Txt K mg A) : FnOk P w K mg base (L2.CX P w) 5 A.f_Board___init__ A.d_Board___init__ P_Board___init__ (spBoard A) := by
  have G_SandError___init__ := ok_SandError___init__ (P := P) (w := w) (base := base) T
  have G_kinds_of := ok_kinds_of (P := P) (w := w) (base := base) T
  refine T.F_Board___init__.okX sc_Board___init__ (fun vs H Q E h => ?_) (fun cdv A' outer s H vs Q E hr h => ?_)
  · obtain ⟨p, dx, a, b, l, ms, rfl, _⟩ := h
    rfl
  · obtain ⟨p, dx, w', h', l, ms, rfl, hp, ⟨as, hl, tt⟩, hlen, kk⟩ := h
    have hlp : l ≠ p := ne_of hl hp (fun z => nomatch z)
    refine ⟨_, (pss_cons (ps_if (pt_cmpR op_lt (pv 1) pe_int (nomark _))
(pss_one (ps_raise rfl (takes_of rfl rfl rfl rfl) (pmk_oex T.X_InvalidSize T.i_InvalidSize T.ti_init G_SandError___init__ (hr.mono (by first | decide | omega)) T.b_SandError___init__ .nil pass0 rfl T.g_InvalidSize (pa_cons (pv 1) pa_nil))))
pss_nil)
(pss_cons (ps_if (pt_cmpR op_lt (pv 2) pe_int (nomark _))
(pss_one (ps_raise rfl (takes_of rfl rfl rfl rfl) (pmk_oex T.X_InvalidSize T.i_InvalidSize T.ti_init G_SandError___init__ (hr.mono (by first | decide | omega)) T.b_SandError___init__ .nil pass0 rfl T.g_InvalidSize (pa_cons (pv 2) pa_nil))))
pss_nil)
(pss_cons (ps_fld (pv 0) (pv 1) rfl)
(pss_cons (ps_fld (pv 0) (pv 2) rfl)
(pss_one (ps_fld (pv 0) (pe_call G_kinds_of (hr.mono (by first | decide | omega)) rfl T.g_kinds_of T.k_kinds_of T.b_kinds_of .nil (passes_call (takes_of rfl rfl rfl rfl) (fun _ _ _ _ h => h)) (pa_cons (pv 1) (pa_cons (pv 2) (pa_cons (pv 3) pa_nil)))) rfl)))))), ?_⟩
    walk_at "rs"
    refine r_ite (fun c1 => ?_) (fun c1 => ?_)
    · have wish : WishV A.C_InvalidSize (.int w') E H := by
        rcases kk with ⟨_, q⟩ | ⟨q, _⟩ | ⟨q, _⟩ | ⟨q, _⟩
        · exact q
        · omega
        · omega
        · omega
      walk_at "rs"
      exact ⟨(by show 1 ≤ 1000; decide), raise_val T.X_InvalidSize T.no_InvalidSize wish⟩
    · walk_at "rs"
      refine r_ite (fun c2 => ?_) (fun c2 => ?_)
      · have wish : WishV A.C_InvalidSize (.int h') E H := by
          rcases kk with ⟨q, _⟩ | ⟨_, _, q⟩ | ⟨_, q, _⟩ | ⟨_, q, _⟩
          · omega
          · exact q
          · omega
          · omega
        walk_at "rs"
        exact ⟨(by show 1 ≤ 1000; decide), raise_val T.X_InvalidSize T.no_InvalidSize wish⟩
      · walk_at "rs"
        refine ⟨p, A.C_Board, dx, _, rfl, hp, T.cl_Board, T.na_Board_wide, (by show 0 < 1000; decide), ?_⟩
        walk_at "rs"
        refine ⟨p, A.C_Board, dx, _, rfl, upd_same, T.cl_Board, T.na_Board_high, (by show 1 < 1000; decide), ?_⟩
        walk_at "rs"
        rw [upd_upd]
        have km : ∀ b o, H b = some o → b ≠ p → (upd H p (.ins A.C_Board dx (putF "high" (.int h') (putF "wide" (.int w') [])))) b = some o := fun b o e ne => by rw [upd_ne ne]; exact e
        refine ⟨w', h', l, ms, rfl, ⟨as, by walk_at "hl", tt.keep fun b xs e => by rw [upd_ne (ne_of e hp (fun z => nomatch z))]; exact e⟩, hlen, ?_⟩
        rcases kk with ⟨q, _⟩ | ⟨_, q, _⟩ | ⟨_, _, g, kk⟩ | ⟨_, _, i, z, hz, g, wish⟩
        · omega
        · omega
        · refine .inl ⟨g, fun d H2 hd sm hd2 => ?_⟩
          have hp2 := sm p _ upd_same
          walk_at "rs"
          refine ⟨p, A.C_Board, dx, _, rfl, hp2, T.cl_Board, T.na_Board_kinds, (by show 2 < 1000; decide), ?_⟩
          walk_at "rs"
          have hdp : d ≠ p := (ne_of_none (upd_same (H := H)) hd).symm
          exact kk d _ (by rw [upd_ne hdp] at hd; exact hd) (fun b o e ne => by rw [upd_ne ne]; exact sm b o (km b o e ne)) upd_same (by walk_at "hl")
        · refine .inr ⟨i, z, hz, g, ?_⟩
          rcases wish with ⟨a, q⟩ | ⟨a, b, q⟩ | ⟨a, b, c, q⟩
          · exact .inl ⟨a, q _ km⟩
          · exact .inr (.inl ⟨a, b, q _ km⟩)
          · exact .inr (.inr ⟨a, b, c, q _ km⟩)
end
/-! ### what a board tells -/
section
variable {σ : L2.St} {H : Hp} {Q : VK}
theorem r_lockE {t : TE} (q : ∃ d u, H d = some u ∧ Mut (some u) ∧ ∀ od, t σ (upd H d (.frz od u)) fun v H' => H' d = some (.frz od u) ∧ Q v (upd H' d u)) : tLockE t σ H Q := q
theorem r_iKeys {td : TE} {R : It → Hp → Prop} (q : td σ H fun x H1 => ∃ d o, x = .ref d ∧ ((∃ kvs, H1 d = some (.frz o (.dK kvs)) ∧ R (Itk d o kvs) H1) ∨ ∃ kvs, H1 d = some (.frz o (.dT kvs)) ∧ R (Itkt d o kvs) H1)) : iKeys td σ H R := q
theorem r_prop {C : Addr} {sp : Sp} {dvs : List V} {E : XK} {ta : TE} (q : ta σ H fun x H1 => ∃ a dx fs, x = .ref a ∧ H1 a = some (.ins C dx fs) ∧ sp (.ref a :: dvs) H1 Q E) : tProp C sp dvs E ta σ H Q := q
end
local macro_rules | `(tactic| walk_at "rs1") => `(tactic| first
  | with_reducible refine r_iKeys ?_
  | with_reducible refine r_prop ?_)
def spMirrs (A : Ad) : Sp := fun vs H Q _ => ∃ (p : Addr) (w h : Int) (ms : List Mir), vs = [.ref p] ∧ BoardAt A.C_Board H p w h ms ∧ ms.length ≤ 2000 ∧ (ms.map mK).Nodup ∧
  ∀ (ns : List Mir) (l : Addr) (H' : Hp), ns.Perm ms → ns.Pairwise Mle → H l = none → MsAt H' l ns → Same H H' → Q (.ref l) H'
theorem kvs_at {ms : List Mir} {i : Nat} {k : List Key} {v : V} (e : (kvsOf ms)[i]? = some (k, v)) : ∃ z, ms[i]? = some z ∧ k = ptK (mK z) ∧ v = .str z.2.2 := by
  unfold kvsOf at e
  rw [List.getElem?_map] at e
  cases h : ms[i]? with
  | none => rw [h] at e; cases e
  | some z =>
    rw [h] at e
    cases e
    exact ⟨z, rfl, rfl, rfl⟩
/-- a thing locked and unlocked again -/
theorem unlock_same {H H' : Hp} {d : Addr} {u : HO} {od : Obj} (h : H d = some u) (s : Same (upd H d (.frz od u)) H') : Same H (upd H' d u) := fun b o e => by
  by_cases hb : b = d
  · subst hb
    rw [h] at e
    cases e
    exact upd_same
  · rw [upd_ne hb]
    exact s b o (by rw [upd_ne hb]; exact e)
section
variable {P : Program} {w : World} {K : PySem.W.Frag} {mg : Str → Option Value} {base : Heap} {A : Ad}
theorem ok_Board_mirrors (T : Txt K mg A) : FnOk P w K mg base CX0 3 A.f_Board_mirrors A.d_Board_mirrors P_Board_mirrors (spMirrs A) := by
  refine T.F_Board_mirrors.ok sc_Board_mirrors (fun vs H Q E h => ?_) (fun cdv A' outer s H vs Q E hr h => ?_)
  · obtain ⟨p, a, b, ms, rfl, _⟩ := h
    rfl
  · obtain ⟨p, w', h', ms, rfl, ⟨dx, d, hp, hd⟩, hlen, hnd, kk⟩ := h
    have hu := hu_of hr
    refine ⟨_, (pss_one (ps_ret (pe_callB c_sortM (by rfl) T.n_sorted (by decide +kernel) (pa_cons (pe_lock (pe_lc (own := [("x", 1), ("y", 2)]) (g := gTup K 2 (gCons (gName 1) (gCons (gName 2) gNil))) (tt := tYes) (by rfl) sc_Board_mirrors.nd (pi_keys (pe_fld (pv 0) rfl)) (blkOk_by (own := [("x", 1), ("y", 2)]) (N := N_Board_mirrors) (sc := defScope s_Board_mirrors) (by decide +kernel)) (fun _ _ _ _ _ => by exact (pg_tup rfl (pgs_cons (pg_name (i := 1) sc_Board_mirrors.nd rfl (Or.inl rfl)) (pgs_cons (pg_name (i := 2) sc_Board_mirrors.nd rfl (Or.inl rfl)) pgs_nil)))) (fun _ _ _ _ _ => by exact pts_nil) (fun _ _ _ _ _ => by exact (pe_tup (pa_cons (pv 1) (pa_cons (pv 2) (pa_cons (pe_dget (td := tFld K (tVar 0) "kinds") (ty := tTup (tCons (tVar 1) (tCons (tVar 2) tNil))) hu (by exact (pe_fld (pv 0) rfl)) (by exact (pe_tup (pa_cons (pv 1) (pa_cons (pv 2) pa_nil)))) (by exact (fun _ _ => rfl))) pa_nil))))))) pa_nil)))), ?_⟩
    walk_at "rs"
    refine r_lockE ⟨d, .dT (kvsOf ms), hd, True.intro, fun od => ?_⟩
    have hpd : p ≠ d := ne_of hp hd (fun z => nomatch z)
    have hp1 : (upd H d (.frz od (.dT (kvsOf ms)))) p = some (.ins A.C_Board dx (bflds w' h' d)) := by rw [upd_ne hpd]; exact hp
    have hd1 : (upd H d (.frz od (.dT (kvsOf ms)))) d = some (.frz od (.dT (kvsOf ms))) := upd_same
    walk_at "rs"
    refine ⟨p, A.C_Board, dx, _, _, rfl, hp1, T.cl_Board, T.na_Board_kinds, bf_kinds _ _ _, ?_⟩
    refine ⟨d, od, rfl, .inr ⟨kvsOf ms, hd1, fun D hD => lc_it walk_keysT (fun i H9 => Same (upd H d (.frz od (.dT (kvsOf ms)))) H9 ∧ ∃ bs : List Addr, H9 D = some (.lst (bs.map V.ref)) ∧ TupsAt H9 bs ((ms.take i).map mV)) ?_ ?_ ?_ ?_⟩⟩
    · exact ⟨Same.new hD, [], upd_same, .nil⟩
    · rintro i H9 _ ⟨sm, _⟩
      exact sm _ _ hd1
    · rintro i x H9 H10 hi ⟨sm, bs, hDb, tb⟩ ⟨rfl, k, v, q, hk, rfl, hq⟩
      obtain ⟨z, hz, rfl, rfl⟩ := kvs_at hk
      have hq' : H10 q = some (.tup [.int z.1, .int z.2.1]) := hq
      have hp9 := sm _ _ hp1
      have hd9 := sm _ _ hd1
      walk_at "rs"
      refine ⟨rfl, ?_⟩
      walk_at "rs"
      refine ⟨p, A.C_Board, dx, _, _, rfl, hp9, T.cl_Board, T.na_Board_kinds, bf_kinds _ _ _, ?_⟩
      walk_at "rs"
      intro q2 hq2
      have hzm : z ∈ ms := List.mem_of_getElem? hz
      refine ⟨d, .str z.2.2, rfl, .inr ⟨kvsOf ms, ptK (mK z), q2, .inr ⟨od, by walk_at "hl"⟩, rfl, upd_same, (kvs_get hnd hzm).symm⟩, ?_⟩
      walk_at "rs"
      intro u hu'
      have hDu : D ≠ u := ne_of_none (show (upd H10 q2 (.tup [.int z.1, .int z.2.1])) D = some (.lst (bs.map V.ref)) by walk_at "hl") hu'
      have hDq : D ≠ q2 := ne_of_none hDb hq2
      have hbl : bs.length ≤ ms.length := by rw [Paired.length tb, List.length_map, List.length_take]; omega
      have hbz : (bs.map V.ref).length < sizeLine := Nat.lt_of_le_of_lt (m := 2000) (by rw [List.length_map]; omega) (by decide)
      refine ⟨bs.map V.ref, by walk_at "hl", hbz, ((sm.trans (Same.new hq2)).trans (Same.new hu')).mut hD, bs ++ [u], by rw [upd_same, List.map_append]; rfl, ?_⟩
      have tk : ms.take (i + 1) = ms.take i ++ [z] := by rw [List.take_add_one, hz]; rfl
      rw [tk, List.map_append]
      refine TupsAt.mut (xs := bs.map V.ref) (Paired.snoc ((tb.new hq2).new hu') upd_same) (by walk_at "hl")
    · rintro H9 ⟨sm, bs, hDb, tb⟩
      rw [kvs_len, List.take_length] at tb
      have s9 := unlock_same hd sm
      have hDd : D ≠ d := (ne_of_none hd1 hD).symm
      have hD0 : H D = none := by rw [upd_ne hDd] at hD; exact hD
      refine ⟨sm _ _ hd1, ?_⟩
      walk_at "rs"
      refine ⟨D, ms, rfl, ⟨bs, by rw [upd_ne hDd]; exact hDb, tb.keep fun b xs e => ?_⟩, fun ns l H10 p1 p2 hl0 hl sm10 => ?_⟩
      · rw [upd_ne (ne_of e (sm _ _ hd1) (fun z => nomatch z))]
        exact e
      · refine kk ns l H10 p1 p2 ?_ hl (s9.trans sm10)
        cases e : H l with
        | none => rfl
        | some o => rw [s9 _ _ e] at hl0; cases hl0
end
/-! ### _law_same of equal data -/
theorem okDs_get {n : Nat} : ∀ {ds : List PyData} {i : Nat} {d : PyData}, okDs n ds = true → ds[i]? = some d → okD n d = true
  | [], i, d, _, e => by simp at e
  | x :: xs, 0, d, h, e => by
    rw [okDs, Bool.and_eq_true] at h
    simp at e
    subst e
    exact h.1
  | x :: xs, i + 1, d, h, e => by
    rw [okDs, Bool.and_eq_true] at h
    exact okDs_get (i := i) h.2 (by simpa using e)
def spSame (K : PySem.W.Frag) : Nat → Sp
  | 0 => fun _ _ _ _ => False
  | n + 1 => fun vs H Q _ => ∃ (x y : V) (d : PyData), vs = [x, y] ∧ Dp K H x d ∧ Dp K H y d ∧ okD n d = true ∧ ∀ H', Same H H' → Q (.bl true) H'
section
variable {P : Program} {w : World} {K : PySem.W.Frag} {mg : Str → Option Value} {base : Heap} {A : Ad}
end
/-! ### boards over data -/
def kvD (ms : List Mir) : List (List Key × D) := ms.map fun m => (ptK (mK m), .str m.2.2)
abbrev brdF (w h : Int) (ms : List Mir) : List (Str × D) := [(("wide" : Str), D.int w), (("high" : Str), D.int h), (("kinds" : Str), D.dic (kvD ms))]
abbrev brdD (C : Addr) (w h : Int) (ms : List Mir) : D := .obj C (brdF w h ms)
abbrev plD (x y : Int) : D := .tup [.int x, .int y]
theorem kv_reps {K : PySem.W.Frag} {I : Hp} : ∀ ms : List Mir, (kvsOf ms).map (·.1) = (kvD ms).map (·.1) ∧ Reps K I ((kvsOf ms).map (·.2)) ((kvD ms).map (·.2))
  | [] => ⟨rfl, .nil⟩
  | m :: ms => by
    obtain ⟨h1, h2⟩ := kv_reps (K := K) (I := I) ms
    exact ⟨by unfold kvsOf kvD at h1 ⊢; rw [List.map_cons, List.map_cons, List.map_cons, List.map_cons, h1], .cons (.str _) h2⟩
theorem kv_back {K : PySem.W.Frag} {I : Hp} : ∀ {ms : List Mir} {kvs : List (List Key × V)}, kvs.map (·.1) = (kvD ms).map (·.1) → Reps K I (kvs.map (·.2)) ((kvD ms).map (·.2)) → kvs = kvsOf ms
  | [], [], _, _ => rfl
  | [], _ :: _, m, _ => by cases m
  | _ :: _, [], m, _ => by cases m
  | z :: ms, (k, x) :: kvs, m, r => by
    unfold kvD at m r
    rw [List.map_cons, List.map_cons, List.map_cons] at m r
    injection m with m1 m2
    cases r with
    | cons r1 r2 =>
      cases r1
      rw [kv_back (ms := ms) m2 r2, show k = ptK (mK z) from m1]
      rfl
theorem bf_eq (w h : Int) (d : Addr) : bflds w h d = [(("wide" : Str), V.int w), (("high" : Str), V.int h), (("kinds" : Str), V.ref d)] := by
  rfl
theorem brd_at {K : PySem.W.Frag} {I : Hp} {C p dx d : Addr} {w h : Int} {ms : List Mir} (h1 : I p = some (.ins C dx (bflds w h d))) (h2 : I d = some (.dT (kvsOf ms))) : Rep K I (.ref p) (brdD C w h ms) := by
  rw [bf_eq] at h1
  obtain ⟨k1, k2⟩ := kv_reps (K := K) (I := I) ms
  exact .obj h1 rfl (.cons (.int _) (.cons (.int _) (.cons (.dic h2 k1 k2) .nil)))
theorem brd_of {K : PySem.W.Frag} {I H : Hp} {C : Addr} {w h : Int} {ms : List Mir} {x : V} (s : Sub I H) (r : Rep K I x (brdD C w h ms)) : ∃ p, x = .ref p ∧ BoardAt C H p w h ms := by
  cases r with
  | @obj a _ dx fs _ h1 m rr =>
    match fs, m, rr with
    | [(f1, x1), (f2, x2), (f3, x3)], m, rr =>
      simp at m
      obtain ⟨rfl, rfl, rfl⟩ := m
      cases rr with
      | cons q1 rr => cases rr with
        | cons q2 rr => cases rr with
          | cons q3 rr =>
            cases q1
            cases q2
            cases q3 with
            | @dic d kvs _ hd k1 k2 =>
              have e := kv_back k1 k2
              subst e
              exact ⟨a, rfl, dx, d, by rw [bf_eq]; exact s _ _ h1, s _ _ hd⟩
/-- what goes wrong first -/
def conBoard (A : Ad) : Con := fun es P PX => ∃ (w h : Int) (ms : List Mir), es = [.int w, .int h, .imm (mirsD ms)] ∧ ms.length ≤ 2000 ∧
  ((w < 1 ∧ PX A.C_InvalidSize (.int w) es) ∨ (1 ≤ w ∧ h < 1 ∧ PX A.C_InvalidSize (.int h) es) ∨ (1 ≤ w ∧ 1 ≤ h ∧ GoodMs w h ms ∧ P (.imm (brdD A.C_Board w h ms)) es) ∨
   (1 ≤ w ∧ 1 ≤ h ∧ ∃ (i : Nat) (z : Mir), ms[i]? = some z ∧ GoodMs w h (ms.take i) ∧
     ((¬ Ins w h z.1 z.2.1 ∧ PX A.C_InvalidPoint (plD z.1 z.2.1) es) ∨ (Ins w h z.1 z.2.1 ∧ ¬ KindOk z.2.2 ∧ PX A.C_InvalidMirror (.str z.2.2) es) ∨ (Ins w h z.1 z.2.1 ∧ KindOk z.2.2 ∧ mK z ∈ (ms.take i).map mK ∧ PX A.C_Taken (plD z.1 z.2.1) es))))
section
variable {K : PySem.W.Frag} {I H I' H' : Hp} {vs : List V} {ds : List D} {x : V} {t : Ent}
/-- tuples of a heap grown are taken in -/
theorem grow_tups (g : Le H H') (s : Sub I H') (nw : ∀ a o, I' a = some o → I a = some o ∨ ∃ xs, H' a = some (.tup xs)) (le : Le I I') (s' : Sub I' H') : Grow I H I' H' :=
  ⟨le, g, s', fun a o q => by
    rcases nw a o q with w | ⟨xs, w⟩
    · exact .inl w
    · exact .inr fun u hu => by
        have := g a u hu
        rw [w] at this
        cases this
        exact .inl ⟨xs, rfl⟩⟩
end
theorem mkD_Board {K : PySem.W.Frag} {A : Ad} : MkD K A.C_Board (spBoard A) (conBoard A) := by
  intro vs H Q E hsp x dx hx hdx hne
  obtain ⟨I, es, P, PX, sub, env, ⟨w, h, ms, rfl, hz, hc⟩, kq, ke⟩ := hsp
  have env' : EnvR K I H (vs.map some) (([D.int w, .int h, mirsD ms].map Ent.imm).map some) := env
  have r := imm_in env'
  cases r with
  | cons r1 r => cases r with
    | cons r2 r => cases r with
      | cons r3 r =>
      cases r
      cases r1
      cases r2
      cases r3 with
      | @lst l xs _ hl rr =>
      obtain ⟨as, rfl, tt⟩ := mirs_out sub rr
      have hxd : (upd H dx (.own x)) x = none := by rw [upd_ne (Ne.symm hne)]; exact hx
      have sm : Same H (upd (upd H dx (.own x)) x (.ins A.C_Board dx [])) := (Same.new hdx).trans (Same.new hxd)
      have keep : ∀ {H1 : Hp}, (∀ b o, (upd (upd H dx (.own x)) x (.ins A.C_Board dx [])) b = some o → b ≠ x → H1 b = some o) → Same H H1 := fun k b o q => k b o (sm b o q) (ne_of_none q hx)
      have gr : ∀ {H1 : Hp}, Same H H1 → Grow I H I H1 := fun s => ⟨Le.refl, fun b o q => s b o q, fun b o q => s b o (sub b o q), fun b o q => .inl q⟩
      -- the exceptions
      have xv : ∀ {C : Addr} {z : D} {v : V} {H1 : Hp}, PX C z [.int w, .int h, .imm (mirsD ms)] → (∀ J, Rep K J v z) → Same H H1 → WishV C v E H1 := fun hp rv s d H2 s2 hd => by
        obtain ⟨e1, e2⟩ := imm_exc env' (gr (s.trans s2))
        exact ke _ _ _ _ d I H2 hp (gr (s.trans s2)).sub e1 e2 (rv _) hd
      have xt : ∀ {C : Addr} {a b : Int} {H1 : Hp}, PX C (plD a b) [.int w, .int h, .imm (mirsD ms)] → Same H H1 → WishT C a b E H1 := fun {C a b H1} hp s d q H2 s2 hd hq => by
        obtain ⟨I2, l1, s1, n1, rr⟩ := tups_in (K := K) (gr (s.trans s2)).sub (as := [q]) (ds := [[.int a, .int b]]) (.cons hq .nil) (es := [[.int a, .int b]]) fun J => .cons (.cons (.int _) (.cons (.int _) .nil)) .nil
        cases rr with
        | cons rq _ =>
          have g := grow_tups (I := I) (s.trans s2) (gr (s.trans s2)).sub n1 l1 s1
          obtain ⟨e1, e2⟩ := imm_exc env' g
          exact ke _ _ _ _ d I2 H2 hp s1 e1 e2 rq hd
      have ne_l : l ≠ x := ne_of_none (sub _ _ hl) hx
      refine ⟨x, dx, w, h, l, ms, rfl, upd_same, ⟨as, sm _ _ (sub _ _ hl), tt.keep fun b ys q => sm _ _ q⟩, hz, ?_⟩
      rcases hc with ⟨a1, hp⟩ | ⟨a1, a2, hp⟩ | ⟨a1, a2, gd, hp⟩ | ⟨a1, a2, i, z, hz', gd, hp⟩
      · exact .inl ⟨a1, xv hp (fun _ => .int _) sm⟩
      · exact .inr (.inl ⟨a1, a2, xv hp (fun _ => .int _) sm⟩)
      · refine .inr (.inr (.inl ⟨a1, a2, gd, fun d H' hd0 hk hp' hd' => ⟨rfl, ?_⟩⟩))
        have s2 := keep hk
        have hd00 : H d = none := by
          cases q : H d with
          | none => rfl
          | some o => rw [sm _ _ q] at hd0; cases hd0
        have hxd2 : x ≠ d := fun z => by rw [z, hd'] at hp'; cases hp'
        have i1 : I d = none := sub.none hd00
        have i2 : (upd I d (.dT (kvsOf ms))) x = none := by rw [upd_ne hxd2]; exact sub.none hx
        have g : Grow I H (upd (upd I d (.dT (kvsOf ms))) x (.ins A.C_Board dx (bflds w h d))) H' := by
          refine ⟨(Le.new i1).trans (Le.new i2), fun b o q => s2 b o q, fun b o q => ?_, fun b o q => ?_⟩
          · by_cases c1 : b = x
            · subst c1; rw [upd_same] at q; cases q; exact hp'
            · rw [upd_ne c1] at q
              by_cases c2 : b = d
              · subst c2; rw [upd_same] at q; cases q; exact hd'
              · rw [upd_ne c2] at q; exact s2 b o (sub b o q)
          · by_cases c1 : b = x
            · subst c1; exact .inr (.of hx)
            · rw [upd_ne c1] at q
              by_cases c2 : b = d
              · subst c2; exact .inr (.of hd00)
              · rw [upd_ne c2] at q; exact .inl q
        obtain ⟨e1, e2⟩ := imm_out (x := .ref x) (t := .imm (brdD A.C_Board w h ms)) env' g (brd_at (dx := dx) (d := d) upd_same (by rw [upd_ne (Ne.symm hxd2), upd_same])) fun a ha => by simp at ha
        exact kq _ _ _ _ H' hp g.sub e1 e2
      · refine .inr (.inr (.inr ⟨a1, a2, i, z, hz', gd, ?_⟩))
        rcases hp with ⟨q, hp⟩ | ⟨q, q2, hp⟩ | ⟨q, q2, q3, hp⟩
        · exact .inl ⟨q, fun H1 k => xt hp (keep k)⟩
        · exact .inr (.inl ⟨q, q2, fun H1 k => xv hp (fun _ => .str _) (keep k)⟩)
        · exact .inr (.inr ⟨q, q2, q3, fun H1 k => xt hp (keep k)⟩)
/-- the list of the mirrors, sorted -/
def conMirrs (A : Ad) : Con := fun es P _ => ∃ (w h : Int) (ms : List Mir), es = [.imm (brdD A.C_Board w h ms)] ∧ ms.length ≤ 2000 ∧ (ms.map mK).Nodup ∧ ∀ (ns : List Mir) (l : Addr), ns.Perm ms → ns.Pairwise Mle → P (.own l (mirsD ns)) es
theorem mirrs_of {K : PySem.W.Frag} {A : Ad} {vs : List V} {H : Hp} {Q : VK} {E : XK} (h : spD K (conMirrs A) vs H Q E) : spMirrs A vs H Q E := by
  obtain ⟨I, es, P, PX, sub, env, ⟨w, h, ms, rfl, hz, nd, hP⟩, kq, _⟩ := h
  have env' : EnvR K I H (vs.map some) (([brdD A.C_Board w h ms].map Ent.imm).map some) := env
  have r := imm_in env'
  cases r with
  | cons r1 r =>
    cases r
    obtain ⟨p, rfl, b⟩ := brd_of sub r1
    refine ⟨p, w, h, ms, rfl, b, hz, nd, fun ns l H' p1 p2 hl0 hl sm => ?_⟩
    have s0 : Sub I H' := fun b o q => sm b o (sub b o q)
    obtain ⟨I', xs, le, s', nw, hx, rr⟩ := mirs_in (K := K) s0 hl
    have g := grow_tups (I := I) sm s0 nw le s'
    have il : I' l = none := by
      cases z : I' l with
      | none => rfl
      | some o =>
        rcases nw l o z with q | ⟨ys, q⟩
        · rw [sub.none hl0] at q; cases q
        · rw [hx] at q; cases q
    obtain ⟨e1, e2⟩ := imm_out (x := .ref l) (t := .own l (mirsD ns)) env' g ⟨rfl, il, xs, hx, rr⟩ fun a ha => by simp at ha; subst ha; exact hl0
    exact kq _ _ _ I' H' (hP ns l p1 p2) s' e1 e2
/-- the law's own comparison, of things that are equal -/
def conSame (n : Nat) : Con := fun es P _ => ∃ (c : D), es = [.imm c, .imm c] ∧ okD n (toPy c) = true ∧ P (.imm (.bl true)) es
theorem same_of {K : PySem.W.Frag} {n : Nat} {vs : List V} {H : Hp} {Q : VK} {E : XK} (h : spD K (conSame n) vs H Q E) : spSame K (n + 1) vs H Q E := by
  obtain ⟨I, es, P, PX, sub, env, ⟨c, rfl, ok, hP⟩, kq, _⟩ := h
  have env' : EnvR K I H (vs.map some) (([c, c].map Ent.imm).map some) := env
  have r := imm_in env'
  cases r with
  | cons r1 r => cases r with
    | cons r2 r =>
      cases r
      refine ⟨_, _, toPy c, rfl, (r1.mono sub).dp ok, (r2.mono sub).dp ok, ok, fun H' sm => ?_⟩
      have g : Grow I H I H' := ⟨Le.refl, fun b o q => sm b o q, fun b o q => sm b o (sub b o q), fun b o q => .inl q⟩
      obtain ⟨e1, e2⟩ := imm_out (x := .bl true) (t := .imm (.bl true)) env' g (.bl true) fun a ha => by simp at ha
      exact kq _ _ _ I H' hP g.sub e1 e2
/-! ### == of two dicts whose keys are tuples and whose values are texts -/
section
variable {prog : Program} {w : World} {κ : Type} [DecidableEq κ] {knd : HeapKind prog w κ} {A : Around} {E : Value → Shared → Prop} {s : Shared}
def txt : Value → Option Str
  | .str a _ => some a
  | _ => none
def likeIn (ys : List (κ × Addr × Value)) (x : κ × Addr × Value) : Bool := ys.any fun y => decide (y.1 = x.1) && decide (txt y.2.2 = txt x.2.2)
theorem likeIn_at {ys : List (κ × Addr × Value)} (nd : (ys.map (·.1)).Nodup) {j : Nat} {k : κ} {p : Addr × Value} (h : ys[j]? = some (k, p)) (x : κ × Addr × Value) (e : x.1 = k) : likeIn ys x = decide (txt p.2 = txt x.2.2) := by
  subst e
  by_cases c : txt p.2 = txt x.2.2
  · rw [decide_eq_true c]
    exact List.any_eq_true.mpr ⟨_, List.mem_of_getElem? h, by simp [c]⟩
  · rw [decide_eq_false c]
    refine Bool.eq_false_iff.mpr fun q => ?_
    obtain ⟨y, hy, hq⟩ := List.any_eq_true.mp q
    simp only [Bool.and_eq_true, decide_eq_true_eq] at hq
    obtain ⟨i, hi⟩ := List.getElem?_of_mem hy
    have e1 : (ys.map (·.1))[i]? = some x.1 := by rw [List.getElem?_map, hi]; exact congrArg some hq.1
    have e2 : (ys.map (·.1))[j]? = some x.1 := by rw [List.getElem?_map, h]; rfl
    have hil : i < (ys.map (·.1)).length := (List.getElem?_eq_some_iff.mp e1).1
    have ij : i = j := (List.getElem?_inj hil nd).mp (e1.trans e2.symm)
    subst ij
    rw [hi] at h
    cases h
    exact c hq.2
theorem likeIn_none {ys : List (κ × Addr × Value)} {x : κ × Addr × Value} (h : ∀ (j : Nat) (p : Addr × Value), ys[j]? ≠ some (x.1, p)) : likeIn ys x = false := by
  refine Bool.eq_false_iff.mpr fun q => ?_
  obtain ⟨y, hy, hq⟩ := List.any_eq_true.mp q
  simp only [Bool.and_eq_true, decide_eq_true_eq] at hq
  obtain ⟨i, hi⟩ := List.getElem?_of_mem hy
  exact h i y.2 (by rw [hi, ← hq.1])
theorem pairs_like {nm : String} {a b : Addr} {xs ys : List (κ × Addr × Value)} {Q : Bool → Shared → Prop} (hr : knd.room A) (ha : (a == sysModules) = false) (hb : (b == sysModules) = false)
    (da : s.heap.DictOfH knd a xs) (db : s.heap.DictOfH knd b ys) (tx : ∀ x ∈ xs, ∃ z t, x.2.2 = .str z t) (ty : ∀ y ∈ ys, ∃ z t, y.2.2 = .str z t)
    (h : Q (xs.length == ys.length && xs.all (likeIn ys)) s) : wpAny (model prog w) A (Builtin.Dict.samePairs nm a b) Q E s := by
  obtain ⟨oa, es, ep, hoa, _, hda, hes, hka, _⟩ := da
  obtain ⟨ob, fs, fp, hob, _, hdb, hfs, hkb, ndb⟩ := db
  have za := size_of_entries hes
  have zb := size_of_entries hfs
  unfold Builtin.Dict.samePairs Builtin.Dict.showsAll
  rw [if_neg (show ¬ (a == sysModules) = true by rw [ha]; exact Bool.false_ne_true), if_neg (show ¬ (b == sysModules) = true by rw [hb]; exact Bool.false_ne_true)]
  refine wpAny_bind ?_
  refine wpAny_pure ?_
  refine wpAny_bind ?_
  refine wpAny_pure ?_
  refine wpAny_bind ?_
  refine wpAny_dictEntries hoa hda ?_
  dsimp only
  refine wpAny_bind ?_
  refine wpAny_dictEntries hob hdb ?_
  rw [za, zb]
  by_cases hn : xs.length = ys.length
  · rw [if_neg (by simp [hn])]
    have hq : Q (xs.all (likeIn ys)) s := by simpa [hn] using h
    refine wpAny_bind ?_
    refine wpAny_dictEpoch hoa hda ?_
    refine wpAny_bind ?_
    rw [Std.Legacy.Range.forIn_eq_forIn_range']
    simp only [Std.Legacy.Range.size, Nat.sub_zero, Nat.add_sub_cancel, Nat.div_one]
    have all_at : ∀ i (hi : i < xs.length), (xs.drop i).all (likeIn ys) = (likeIn ys xs[i] && (xs.drop (i + 1)).all (likeIn ys)) := fun i hi => by
      rw [List.drop_eq_getElem_cons hi, List.all_cons]
    refine wpAny_forIn_list _ (fun rest r st => st = s ∧ r = (none, ()) ∧ ∃ i, i ≤ xs.length ∧ rest = List.range' i (xs.length - i) ∧ (xs.drop i).all (likeIn ys) = xs.all (likeIn ys)) _ ?turn ?fin _ _ ⟨rfl, rfl, 0, Nat.zero_le _, by rw [Nat.sub_zero], by rw [List.drop_zero]⟩
    case fin =>
      rintro r st ⟨rfl, rfl, i, hi, hrest, hall⟩
      have hx : i = xs.length := by
        rcases Nat.lt_or_eq_of_le hi with c | c
        · rw [show xs.length - i = (xs.length - i - 1) + 1 by omega, List.range'_succ] at hrest
          cases hrest
        · exact c
      subst hx
      rw [List.drop_length] at hall
      refine wpAny_pure ?_
      have e : xs.all (likeIn ys) = true := hall.symm
      rw [e] at hq
      exact hq
    case turn =>
      rintro k rest r st ⟨rfl, rfl, i, hi, hrest, hall⟩
      have hlt : i < xs.length := by
        rcases Nat.lt_or_eq_of_le hi with c | c
        · exact c
        · rw [c, Nat.sub_self] at hrest
          cases hrest
      rw [show xs.length - i = (xs.length - (i + 1)) + 1 by omega, List.range'_succ] at hrest
      injection hrest with hk hrest
      subst hk
      rw [all_at k hlt] at hall
      have hat : es[k]? = some (entryOfKey knd xs[k]) := by rw [entry_at hes, List.getElem?_eq_getElem hlt]; rfl
      obtain ⟨z, t, ez⟩ := tx _ (List.getElem_mem hlt)
      refine wpAny_bind ?_
      refine wpAny_dictEntries hoa hda ?_
      rw [hat]
      dsimp only
      refine wpAny_bind ?_
      refine wpAny_mono (Q := fun c s2 => s2 = st ∧ c = likeIn ys xs[k]) ?_ (fun c s2 hc2 => ?_) fun _ _ z => z
      · -- the pair is looked for
        refine wpAny_holding ?_
        refine wpAny_bind ?_
        refine wpAny_dictFind_heap hr (hka _ (List.getElem_mem hlt)) hob hdb hfs hkb ndb (fun hno => ?_) fun j p hj => ?_
        · refine wpAny_pure ?_
          exact ⟨rfl, (likeIn_none hno).symm⟩
        · have hbt : fs[j]? = some (entryOfKey knd (xs[k].1, p)) := by rw [entry_at hfs, hj]; rfl
          obtain ⟨z2, t2, ez2⟩ := ty _ (List.mem_of_getElem? hj)
          have lk := likeIn_at ndb hj xs[k] rfl
          dsimp only
          refine wpAny_bind ?_
          refine wpAny_dictEntries hob hdb ?_
          rw [hbt]
          dsimp only
          refine wpAny_holding ?_
          show wpAny _ _ (eqBool xs[k].2.2 p.2) _ _ _
          have ez2' : p.2 = .str z2 t2 := ez2
          rw [lk, ez, ez2']
          refine wpAny_eqBool_str ?_
          refine ⟨rfl, ?_⟩
          by_cases c : z = z2
          · rw [decide_eq_true c, c]
            exact (decide_eq_true rfl).symm
          · rw [decide_eq_false c]
            exact (decide_eq_false (fun q => c (Option.some.inj q).symm)).symm
      · obtain ⟨rfl, hc⟩ := hc2
        cases c with
        | false =>
          rw [if_pos (by rfl)]
          refine wpAny_pure ?_
          refine wpAny_pure ?_
          rw [← hc, Bool.false_and] at hall
          rw [← hall] at hq
          exact hq
        | true =>
          rw [if_neg (by decide)]
          refine wpAny_bind ?_
          refine wpAny_dictEpoch hoa hda ?_
          rw [if_neg (by simp)]
          rw [← hc, Bool.true_and] at hall
          exact wpAny_pure ⟨rfl, rfl, k + 1, hlt, hrest, hall⟩
  · rw [if_pos (by simpa using hn)]
    have hf : (xs.length == ys.length) = false := by simpa using hn
    rw [hf, Bool.false_and] at h
    refine wpAny_bind ?_
    refine wpAny_rule ?_
    exact wpAny_pure h
end
section
theorem likeIn_val {H : Hp} {z : Str} {q : List Key × Addr × Value} {t : Tok} (eq : q.2.2 = .str z t) : ∀ {ls : List (List Key × V)} {ys : List (List Key × Addr × Value)}, KT H ls ys → (ys.map (·.1)).Nodup → (∀ p ∈ ls, ∃ z, p.2 = V.str z) →
    likeIn ys q = decide (valV ls q.1 = some (.str z))
  | [], _, r, _, _ => by
    cases r
    rfl
  | p :: ls, _, r, nd, tx => by
    cases r with
    | @cons _ y _ ys h r =>
      obtain ⟨e1, _, e3⟩ := h
      rw [List.map_cons, List.nodup_cons] at nd
      obtain ⟨z0, ez0⟩ := tx p (by simp)
      rw [ez0] at e3
      obtain ⟨t0, et0⟩ := e3
      have ih := likeIn_val eq r nd.2 fun p hp => tx p (by simp [hp])
      have cons : likeIn (y :: ys) q = ((decide (y.1 = q.1) && decide (txt y.2.2 = txt q.2.2)) || likeIn ys q) := List.any_cons
      obtain ⟨pk, pv⟩ := p
      dsimp only at ez0 e1
      subst ez0
      by_cases c : pk = q.1
      · have hn : likeIn ys q = false := by
          refine Bool.eq_false_iff.mpr fun hq => ?_
          obtain ⟨y', hy', hq'⟩ := List.any_eq_true.mp hq
          simp only [Bool.and_eq_true, decide_eq_true_eq] at hq'
          exact nd.1 (List.mem_map.mpr ⟨y', hy', by rw [hq'.1, ← c, e1]⟩)
        have hv : valV ((pk, V.str z0) :: ls) q.1 = some (.str z0) := valV_pos c
        rw [cons, hn, Bool.or_false, hv, et0, eq, decide_eq_true (show y.1 = q.1 by rw [← e1, c]), Bool.true_and]
        by_cases d : z0 = z
        · rw [d]
          rw [decide_eq_true rfl]
          exact decide_eq_true rfl
        · have e1' : decide (some (V.str z0) = some (V.str z)) = false := decide_eq_false (fun e => d (by injection e with e; injection e))
          rw [e1']
          exact decide_eq_false (fun e => d (Option.some.inj e))
      · have hv : valV ((pk, V.str z0) :: ls) q.1 = valV ls q.1 := valV_neg c
        rw [cons, hv, decide_eq_false (show ¬ y.1 = q.1 by rw [← e1]; exact c), Bool.false_and, Bool.false_or]
        exact ih
def eqT (ks ls : List (List Key × V)) : Bool := ks.length == ls.length && ks.all fun p => decide (valV ls p.1 = some p.2)
theorem all_like {H H' : Hp} {ls : List (List Key × V)} {ys : List (List Key × Addr × Value)} (r' : KT H' ls ys) (nd : (ys.map (·.1)).Nodup) (tl : ∀ p ∈ ls, ∃ z, p.2 = V.str z) : ∀ {ks : List (List Key × V)} {xs : List (List Key × Addr × Value)}, KT H ks xs → (∀ p ∈ ks, ∃ z, p.2 = V.str z) →
    xs.all (likeIn ys) = ks.all fun p => decide (valV ls p.1 = some p.2)
  | [], _, r, _ => by
    cases r
    rfl
  | p :: ks, _, r, tx => by
    cases r with
    | @cons _ x _ xs h r =>
      obtain ⟨e1, _, e3⟩ := h
      obtain ⟨z0, ez0⟩ := tx p (by simp)
      rw [ez0] at e3
      obtain ⟨t0, et0⟩ := e3
      rw [List.all_cons, List.all_cons, all_like r' nd tl r fun p hp => tx p (by simp [hp]), likeIn_val et0 r' nd tl, ez0, e1]
theorem txts {H : Hp} : ∀ {ks : List (List Key × V)} {xs : List (List Key × Addr × Value)}, KT H ks xs → (∀ p ∈ ks, ∃ z, p.2 = V.str z) → ∀ x ∈ xs, ∃ z t, x.2.2 = Value.str z t
  | [], _, r, _, x, hx => by
    cases r
    simp at hx
  | p :: ks, _, r, tx, x, hx => by
    cases r with
    | @cons _ y _ xs h r =>
      rcases List.mem_cons.mp hx with e | hx
      · subst e
        obtain ⟨_, _, e3⟩ := h
        obtain ⟨z0, ez0⟩ := tx p (by simp)
        rw [ez0] at e3
        obtain ⟨t0, et0⟩ := e3
        exact ⟨z0, t0, et0⟩
      · exact txts r (fun p hp => tx p (by simp [hp])) x hx
def rEqT : R2 := fun x y H Q => ∃ a b ks ls, x = .ref a ∧ y = .ref b ∧ H a = some (.dT ks) ∧ H b = some (.dT ls) ∧ (∀ p ∈ ks, ∃ z, p.2 = V.str z) ∧ (∀ p ∈ ls, ∃ z, p.2 = V.str z) ∧ Q (.bl (eqT ks ls)) H
theorem o_eqT {X : Cx} (hu : X.A.units + 1 < cLine) : OpR X (compareOp .Eq) rEqT := by
  intro pins s σ H x y v u Q I rx ry h
  obtain ⟨a, b, ks, ls, rfl, rfl, ea, eb, tk, tl, q⟩ := h
  obtain rfl : v = Value.ref a := rx
  obtain rfl : u = Value.ref b := ry
  obtain ⟨_, ya, xs, ra, da⟩ := dt_of I.hok ea
  obtain ⟨_, yb, ys, rb, db⟩ := dt_of I.hok eb
  have nd : (ys.map (·.1)).Nodup := by
    obtain ⟨_, _, _, _, _, _, _, _, n⟩ := db
    exact n
  refine wpAny_richCompare_same_room (op := .Eq) da.typeIs db.typeIs PySem.F.slot_dict_eq ?_ (by omega)
  refine wpAny_call_entry PySem.F.slot_dict_eq da.typeIs PySem.F.entry_dict_eq ?_ (PySem.F.args_dict_eq_2 _ _)
  refine wpAny_bind (m := Builtin.Dict.dictSlotArgs "__eq__" ⟨[.ref a, .ref b], []⟩) ?_
  unfold Builtin.Dict.dictSlotArgs
  refine wpAny_bind ?_
  refine wpAny_notOrdered_dict da.typeIs ?_
  refine wpAny_pure ?_
  refine wpAny_bind ?_
  refine wpAny_isInstance (T := "dict") db.typeIs PySem.F.sub_dict_dict ?_
  simp only [Bool.not_true, Bool.false_eq_true, if_false]
  refine wpAny_bind (m := Builtin.Dict.addrOf (.ref a)) ?_
  refine wpAny_pure ?_
  refine wpAny_bind (m := Builtin.Dict.addrOf (.ref b)) ?_
  refine wpAny_pure ?_
  refine wpAny_bind ?_
  refine pairs_like (tupleKind_room_in1 hu) ya yb da db (txts ra tk) (txts rb tl) ?_
  refine wpAny_pure ⟨_, rfl, (fun z => by cases z), ?_⟩
  have e : (xs.length == ys.length && xs.all (likeIn ys)) = eqT ks ls := by
    unfold eqT
    rw [all_like rb nd tl ra tk, Paired.length ra, Paired.length rb]
  rw [e]
  refine ⟨.bl (eqT ks ls), H, I, ?_, q⟩
  show Value.bool (eqT ks ls == true) = Value.bool (eqT ks ls)
  cases eqT ks ls <;> rfl
end
/-! ### boards compared -/
def spEqB (A : Ad) : Sp := fun vs H Q _ => ∃ (p q : Addr) (w h : Int) (ms : List Mir) (w2 h2 : Int) (ns : List Mir), vs = [.ref p, .ref q] ∧ BoardAt A.C_Board H p w h ms ∧ BoardAt A.C_Board H q w2 h2 ns ∧
  Q (.bl (decide (w = w2) && (decide (h = h2) && eqT (kvsOf ms) (kvsOf ns)))) H
theorem kvs_txt (ms : List Mir) : ∀ p ∈ kvsOf ms, ∃ z, p.2 = V.str z := fun p hp => by
  unfold kvsOf at hp
  obtain ⟨m, _, rfl⟩ := List.mem_map.mp hp
  exact ⟨_, rfl⟩
theorem perm_of_sub : ∀ {l r : List Mir}, l.Nodup → (∀ x ∈ l, x ∈ r) → r.length ≤ l.length → l.Perm r
  | [], [], _, _, _ => List.Perm.refl _
  | [], _ :: _, _, _, h => by simp at h
  | a :: l, r, nd, sub, h => by
    obtain ⟨na, nl⟩ := List.nodup_cons.mp nd
    have ha : a ∈ r := sub a (by simp)
    have p := List.perm_cons_erase ha
    have e := List.length_erase_of_mem ha
    have q : l.Perm (r.erase a) := perm_of_sub nl (fun x hx => (List.mem_erase_of_ne (fun z : x = a => na (by rw [← z]; exact hx))).2 (sub x (by simp [hx]))) (by rw [e]; simp at h; omega)
    exact (q.cons a).trans p.symm
/-- the dicts are equal just where the mirrors are the same -/
theorem eqT_perm {ms ns : List Mir} (n1 : (ms.map mK).Nodup) (n2 : (ns.map mK).Nodup) : eqT (kvsOf ms) (kvsOf ns) = true ↔ ms.Perm ns := by
  unfold eqT
  rw [Bool.and_eq_true, beq_iff_eq, kvs_len, kvs_len]
  constructor
  · rintro ⟨hl, ha⟩
    have sub : ∀ m ∈ ms, m ∈ ns := fun m hm => by
      have q := List.all_eq_true.mp ha (ptK (mK m), V.str m.2.2) (by unfold kvsOf; exact List.mem_map.mpr ⟨m, hm, rfl⟩)
      have q := of_decide_eq_true q
      have hk : mK m ∈ ns.map mK := by
        refine Classical.byContradiction fun c => ?_
        have e : valV (kvsOf ns) (ptK (mK m)) = none := kvs_find.mpr c
        rw [show valV (kvsOf ns) (ptK (mK m), V.str m.2.2).1 = valV (kvsOf ns) (ptK (mK m)) from rfl, e] at q
        cases q
      obtain ⟨m', hm', e⟩ := List.mem_map.mp hk
      have g := kvs_get n2 hm'
      rw [e] at g
      have q2 : some (V.str m'.2.2) = some (V.str m.2.2) := g.symm.trans q
      have e2 : m'.2.2 = m.2.2 := by
        have := Option.some.inj q2
        injection this
      have e3 : m' = m := by
        obtain ⟨a, b, c⟩ := m'
        obtain ⟨a', b', c'⟩ := m
        have e4 : (a, b) = (a', b') := e
        injection e4 with e5 e6
        dsimp only at e2
        rw [e5, e6, e2]
      rw [← e3]
      exact hm'
    have d1 : ms.Nodup := (List.pairwise_map.mp n1).imp fun h e => h (congrArg mK e)
    exact perm_of_sub d1 sub (by omega)
  · intro p
    refine ⟨p.length_eq, List.all_eq_true.mpr fun kv hkv => ?_⟩
    unfold kvsOf at hkv
    obtain ⟨m, hm, rfl⟩ := List.mem_map.mp hkv
    exact decide_eq_true (kvs_get n2 (p.mem_iff.mp hm))
section
variable {P : Program} {w : World} {K : PySem.W.Frag} {mg : Str → Option Value} {base : Heap} {A : Ad}
end
section
variable {P : Program} {w : World} {K : PySem.W.Frag} {mg : Str → Option Value} {base : Heap} {A : Ad}
theorem int_get {ns : List Int} {i : Nat} {x : V} (h : (ns.map V.int)[i]? = some x) : ∃ z, ns[i]? = some z ∧ x = V.int z := by
  rw [List.getElem?_map] at h
  cases e : ns[i]? with
  | none => rw [e] at h; cases h
  | some z => rw [e] at h; exact ⟨z, rfl, (Option.some.inj h).symm⟩
end
/-! ### the defs with proofs of their own, as promises over data -/
def conHand : Con := fun es P _ => ∃ ns : List Int, es = [.imm (.fls (ns.map D.int))] ∧ ns.length ≤ 63 ∧ ∀ p c : Addr, P (.hand p c 0) es
def conBig : Con := fun es P _ => ∃ p c n lim, es = [.hand p c n, .int lim] ∧ n < 990000000 ∧ 0 < lim ∧ ∀ r : Int, 0 ≤ r → r < lim → P (.int r) [.hand p c (n + 4), .int lim]
def conEqB (A : Ad) : Con := fun es P _ => ∃ (w h : Int) (ms : List Mir) (w2 h2 : Int) (ns : List Mir), es = [.imm (brdD A.C_Board w h ms), .imm (brdD A.C_Board w2 h2 ns)] ∧ P (.imm (.bl (decide (w = w2) && (decide (h = h2) && eqT (kvsOf ms) (kvsOf ns))))) es
section
variable {K : PySem.W.Frag} {A : Ad} {vs : List V} {H : Hp} {Q : VK} {E : XK}
theorem hand_of (h : spD K conHand vs H Q E) : spHand K vs H Q E := by
  obtain ⟨I, es, P, PX, sub, env, ⟨ns, rfl, hl, hP⟩, kq, _⟩ := h
  have env' : EnvR K I H (vs.map some) (([D.fls (ns.map D.int)].map Ent.imm).map some) := env
  have r := imm_in env'
  cases r with
  | cons r1 r =>
    cases r
    cases r1 with
    | @fls a xs _ hs rr =>
      have e := ints_of rr
      subst e
      refine ⟨a, ns, rfl, Le.sqL sub hs, hl, fun p c H' hp hc hh sm => ?_⟩
      have g : Grow I H I H' := ⟨Le.refl, fun b o q => sm b o q, fun b o q => sm b o (sub b o q), fun b o q => .inl q⟩
      obtain ⟨e1, s1⟩ := imm_out (x := .ref p) (t := .hand p c 0) env' g ⟨rfl, sub.none hp, sub.none hc, ⟨hh⟩⟩ fun a ha => by
        simp at ha
        rcases ha with rfl | rfl
        · exact hp
        · exact hc
      exact kq _ _ _ I H' (hP p c) g.sub e1 s1
theorem big_of (h : spD K conBig vs H Q E) : spBig vs H Q E := by
  obtain ⟨I, es, P, PX, sub, env, ⟨p, c, n, lim, rfl, hn, h0, hP⟩, kq, _⟩ := h
  obtain ⟨rfl, ip, ic, tok⟩ := hand_in1 env
  refine ⟨p, c, n, lim, rfl, tok.at_, hn, h0, fun r H' r0 r1 hh kp => ?_⟩
  obtain ⟨e1, s1⟩ := hand_out (t := .int r) (x := .int r) env imms_int1 kp ⟨hh⟩ Le.refl (fun _ _ q => .inl q) (.int r) fun a ha => by simp at ha
  exact kq _ _ _ I H' (hP r r0 r1) (hand_sub sub ip ic kp) e1 s1
theorem eqB_of (h : spD K (conEqB A) vs H Q E) : spEqB A vs H Q E := by
  obtain ⟨I, es, P, PX, sub, env, ⟨w, h, ms, w2, h2, ns, rfl, hP⟩, kq, _⟩ := h
  have env' : EnvR K I H (vs.map some) (([brdD A.C_Board w h ms, brdD A.C_Board w2 h2 ns].map Ent.imm).map some) := env
  have r := imm_in env'
  cases r with
  | cons r1 r => cases r with
    | cons r2 r =>
    cases r
    obtain ⟨p, rfl, b⟩ := brd_of sub r1
    obtain ⟨q, rfl, b2⟩ := brd_of sub r2
    refine ⟨p, q, w, h, ms, w2, h2, ns, rfl, b, b2, ?_⟩
    obtain ⟨e1, e2⟩ := imm_out (x := .bl _) (t := .imm (.bl _)) env' (Grow.refl sub) (.bl _) fun a ha => by simp at ha
    exact kq _ _ _ I H hP sub e1 e2
end
section
variable {P : Program} {w : World} {K : PySem.W.Frag} {mg : Str → Option Value} {base : Heap} {A : Ad}
theorem okd_Board___init__ (T : Txt K mg A) : FnOk P w K mg base (L2.CX P w) 5 A.f_Board___init__ A.d_Board___init__ P_Board___init__ (spBoard A) := ok_Board___init__ T
theorem okd_Board_mirrors (T : Txt K mg A) : FnOk P w K mg base (L2.CX P w) 3 A.f_Board_mirrors A.d_Board_mirrors P_Board_mirrors (spD K (conMirrs A)) := FnOk.lift (ok_Board_mirrors T) fun _ _ _ _ h => mirrs_of h
end
/-! ### turns -/
def mvd (way : Str) (w h x y : Int) : Int × Int :=
  if way = "quarter" then (2 * h - y, x) else if way = "half" then (2 * w - x, 2 * h - y) else if way = "back" then (y, 2 * w - x) else if way = "flip" then (x, 2 * h - y) else if way = "mirror" then (2 * w - x, y) else if way = "cross" then (y, x) else if way = "anti" then (2 * h - y, 2 * w - x) else (x, y)
def swp (way : Str) : Bool := inV (.str way) [.str "quarter", .str "back", .str "cross", .str "anti"]
def wayOk (way : Str) : Bool := inV (.str way) [.str "same", .str "quarter", .str "half", .str "back", .str "flip", .str "mirror", .str "cross", .str "anti"]
def okK (k : Str) : Str := if k = "-" then "|" else "-"
/-- one fact of each way, one of none -/
theorem mvd_cases {P : Bool → (Int → Int → Int → Int → Int × Int) → Prop} (way : Str)
    (h_quarter : P true fun w h x y => (2 * h - y, x))
    (h_half : P false fun w h x y => (2 * w - x, 2 * h - y))
    (h_back : P true fun w h x y => (y, 2 * w - x))
    (h_flip : P false fun w h x y => (x, 2 * h - y))
    (h_mirror : P false fun w h x y => (2 * w - x, y))
    (h_cross : P true fun w h x y => (y, x))
    (h_anti : P true fun w h x y => (2 * h - y, 2 * w - x))
    (h_same : P false fun _ _ x y => (x, y)) : P (swp way) (mvd way) := by
  by_cases c0 : way = "quarter"
  · have e : swp way = true := by rw [c0]; decide +kernel
    have f : mvd way = fun w h x y => (2 * h - y, x) := by
      funext w h x y
      unfold mvd
      rw [if_pos c0]
    rw [e, f]
    exact h_quarter
  by_cases c1 : way = "half"
  · have e : swp way = false := by rw [c1]; decide +kernel
    have f : mvd way = fun w h x y => (2 * w - x, 2 * h - y) := by
      funext w h x y
      unfold mvd
      rw [if_neg c0, if_pos c1]
    rw [e, f]
    exact h_half
  by_cases c2 : way = "back"
  · have e : swp way = true := by rw [c2]; decide +kernel
    have f : mvd way = fun w h x y => (y, 2 * w - x) := by
      funext w h x y
      unfold mvd
      rw [if_neg c0, if_neg c1, if_pos c2]
    rw [e, f]
    exact h_back
  by_cases c3 : way = "flip"
  · have e : swp way = false := by rw [c3]; decide +kernel
    have f : mvd way = fun w h x y => (x, 2 * h - y) := by
      funext w h x y
      unfold mvd
      rw [if_neg c0, if_neg c1, if_neg c2, if_pos c3]
    rw [e, f]
    exact h_flip
  by_cases c4 : way = "mirror"
  · have e : swp way = false := by rw [c4]; decide +kernel
    have f : mvd way = fun w h x y => (2 * w - x, y) := by
      funext w h x y
      unfold mvd
      rw [if_neg c0, if_neg c1, if_neg c2, if_neg c3, if_pos c4]
    rw [e, f]
    exact h_mirror
  by_cases c5 : way = "cross"
  · have e : swp way = true := by rw [c5]; decide +kernel
    have f : mvd way = fun w h x y => (y, x) := by
      funext w h x y
      unfold mvd
      rw [if_neg c0, if_neg c1, if_neg c2, if_neg c3, if_neg c4, if_pos c5]
    rw [e, f]
    exact h_cross
  by_cases c6 : way = "anti"
  · have e : swp way = true := by rw [c6]; decide +kernel
    have f : mvd way = fun w h x y => (2 * h - y, 2 * w - x) := by
      funext w h x y
      unfold mvd
      rw [if_neg c0, if_neg c1, if_neg c2, if_neg c3, if_neg c4, if_neg c5, if_pos c6]
    rw [e, f]
    exact h_anti
  have e : swp way = false := by
    unfold swp inV
    simp [eqV, Ne.symm c0, Ne.symm c2, Ne.symm c5, Ne.symm c6]
  have f : mvd way = fun _ _ x y => (x, y) := by
    funext w h x y
    unfold mvd
    rw [if_neg c0, if_neg c1, if_neg c2, if_neg c3, if_neg c4, if_neg c5, if_neg c6]
  rw [e, f]
  exact h_same
theorem mvd_ins (way : Str) {w h x y : Int} (i : Ins w h x y) : Ins (if swp way then h else w) (if swp way then w else h) (mvd way w h x y).1 (mvd way w h x y).2 := by
  refine mvd_cases (P := fun b f => Ins (if b then h else w) (if b then w else h) (f w h x y).1 (f w h x y).2) way ?_ ?_ ?_ ?_ ?_ ?_ ?_ ?_ <;> (unfold Ins at *; dsimp only; simp only [Bool.false_eq_true, if_false, if_true]; omega)
theorem mvd_inj (way : Str) {w h x y x' y' : Int} : mvd way w h x y = mvd way w h x' y' → x = x' ∧ y = y' := by
  refine mvd_cases (P := fun _ f => f w h x y = f w h x' y' → x = x' ∧ y = y') way ?_ ?_ ?_ ?_ ?_ ?_ ?_ ?_ <;> (intro e; injection e with e1 e2; omega)
def mvM (way : Str) (w h : Int) (m : Mir) : Mir := ((mvd way w h m.1 m.2.1).1, (mvd way w h m.1 m.2.1).2, if swp way then okK m.2.2 else m.2.2)
theorem okK_ok (k : Str) : KindOk (okK k) := by
  unfold okK KindOk
  split
  · exact .inr rfl
  · exact .inl rfl
theorem GoodMs.moved {w h : Int} {ms : List Mir} (g : GoodMs w h ms) (way : Str) : GoodMs (if swp way then h else w) (if swp way then w else h) (ms.map (mvM way w h)) := by
  refine ⟨fun m hm => ?_, fun m hm => ?_, ?_⟩
  · obtain ⟨z, hz, rfl⟩ := List.mem_map.mp hm
    exact mvd_ins way (g.ins z hz)
  · obtain ⟨z, hz, rfl⟩ := List.mem_map.mp hm
    show KindOk (if swp way then okK z.2.2 else z.2.2)
    split
    · exact okK_ok _
    · exact g.kind z hz
  · have e : (ms.map (mvM way w h)).map mK = (ms.map mK).map fun z => mvd way w h z.1 z.2 := by
      rw [List.map_map, List.map_map]
      rfl
    rw [e]
    refine List.Pairwise.map _ (fun a b hab heq => ?_) g.nd
    obtain ⟨e1, e2⟩ := mvd_inj way heq
    exact hab (Prod.ext e1 e2)
theorem GoodMs.perm {w h : Int} {ms ns : List Mir} (g : GoodMs w h ms) (p : ns.Perm ms) : GoodMs w h ns :=
  ⟨fun m hm => g.ins m (p.mem_iff.mp hm), fun m hm => g.kind m (p.mem_iff.mp hm), ((p.map mK).nodup_iff).mpr g.nd⟩
def spOther : Sp := fun vs H Q _ => ∃ k : Str, vs = [.str k] ∧ Q (.str (okK k)) H
def spMoved : Sp := fun vs H Q _ => ∃ (way : Str) (w h : Int) (q : Addr) (x y : Int), vs = [.str way, .int w, .int h, .ref q] ∧ H q = some (.tup [.int x, .int y]) ∧
  ∀ (q' : Addr) (H' : Hp), H' q' = some (.tup (ptV (mvd way w h x y))) → Same H H' → Q (.ref q') H'
def spTurned (A : Ad) : Sp := fun vs H Q E => ∃ (p : Addr) (way : Str) (w h : Int) (ms : List Mir), vs = [.ref p, .str way] ∧ BoardAt A.C_Board H p w h ms ∧ GoodMs w h ms ∧ 1 ≤ w ∧ 1 ≤ h ∧ ms.length ≤ 2000 ∧
  (wayOk way = false → WishV A.C_InvalidTurn (.str way) E H) ∧ (wayOk way = true → ∀ (b : Addr) (H' : Hp) (ns : List Mir), ns.Perm (ms.map (mvM way w h)) → BoardAt A.C_Board H' b (if swp way then h else w) (if swp way then w else h) ns → Same H H' → Q (.ref b) H')
theorem str_ne {a b : Str} (h : ¬ V.str a = V.str b) : ¬ a = b := fun e => h (by rw [e])
theorem str_eq {a b : Str} (h : V.str a = V.str b) : a = b := by injection h
section
variable {P : Program} {w : World} {K : PySem.W.Frag} {mg : Str → Option Value} {base : Heap} {A : Ad}
end

section
local macro_rules | `(tactic| walk_at "al") => `(tactic| first
  | omega
  | exact Or.inl (Or.inl ⟨by omega, by omega⟩)
  | exact Or.inl (Or.inr ⟨by omega, by omega⟩)
  | exact ⟨by omega, Or.inl (by omega)⟩
  | exact ⟨by omega, by omega, by omega, by omega⟩
  | exact ⟨by decide, by decide, by decide⟩)
local macro_rules | `(tactic| walk_at "bk") => `(tactic| repeat (first | exact BackE.nil | apply BackE.imm | apply BackE.own | apply BackE.hand))
local macro_rules | `(tactic| walk_at "ds1") => `(tactic| first
  | with_reducible refine s_aC ?_
  | ((with_reducible refine' s_vi ?ee_ ?_); (case ee_ => rfl))
  | ((with_reducible refine' s_vs ?ee_ ?_); (case ee_ => rfl))
  | with_reducible refine s_c ?_
  | ((with_reducible refine' x_val2 ?ee_ ?ff_ ?_); (case ee_ => rfl); (case ff_ => rfl))
  | with_reducible refine s_op ?_
  | with_reducible refine s_aN ?_
  | ((with_reducible refine' x_frzs ?ee_ ?ll_ ?_); (case ee_ => rfl); (case ll_ => rfl))
  | with_reducible refine s_seq ?_
  | ((with_reducible refine' x_frz ?ee_ ?_); (case ee_ => rfl))
  | with_reducible refine s_tup ?_
  | with_reducible refine s_gaV ?_
  | ((with_reducible refine' x_bl ?ee_ ?_); (case ee_ => rfl))
  | ((with_reducible refine' s_end ?ee_ ?bb_ ?_); (case ee_ => rfl); (case bb_ => walk_at "bk"))
  | with_reducible refine s_ret ?_
  | with_reducible refine s_test ?_
  | ((with_reducible refine' x_vals ?ee_ ?_); (case ee_ => rfl))
  | with_reducible refine s_cl ?_
  | ((with_reducible refine' x_asg ?ee_ ?_); (case ee_ => rfl))
  | with_reducible refine o_subI ?_
  | with_reducible refine s_set ?_
  | with_reducible refine s_gaN ?_
  | with_reducible refine s_lst ?_
  | with_reducible refine s_next ?_
  | with_reducible refine s_call ?_
  | ((with_reducible refine' x_con ?ee_ ?ff_ ?_); (case ee_ => rfl); (case ff_ => rfl))
  | with_reducible refine s_if ?_
  | ((with_reducible refine' s_gN ?ee_ ?_); (case ee_ => rfl))
  | ((with_reducible refine' x_back ?ll_ ?ee_ ?_); (case ll_ => rfl); (case ee_ => rfl))
  | ((with_reducible refine' x_back1 ?ee_ ?_); (case ee_ => rfl))
  | with_reducible refine o_addI ?_
  | ((with_reducible refine' o_mulI ?cc_ ?_); (case cc_ => walk_at "al"))
  | with_reducible refine s_for ?_
  | ((with_reducible refine' x_val ?ee_ ?_); (case ee_ => rfl))
  | with_reducible refine s_gCn ?_
  | with_reducible refine iteT ?_
  | with_reducible refine iteF ?_
  | with_reducible refine r_iteNf ?_
  | with_reducible refine r_iteNt ?_
  | with_reducible refine s_not ?_
  | with_reducible refine s_drop ?_
  | ((with_reducible refine' o_modI ?cc_ ?_); (case cc_ => walk_at "al"))
  | with_reducible refine s_or ?_
  | ((with_reducible refine' o_ixT ?ee_ ?ff_ ?_); (case ee_ => first | rfl | assumption); (case ff_ => first | rfl | assumption))
  | ((with_reducible refine' ixI ?aa_ ?bb_ ?_); (case aa_ => omega); (case bb_ => omega))
  | ((with_reducible refine' o_ixL ?ee_ ?ff_ ?_); (case ee_ => first | rfl | assumption); (case ff_ => first | rfl | assumption))
  | with_reducible refine o_ixH ?_
  | ((with_reducible refine' x_int ?ee_ ?_); (case ee_ => rfl))
  | with_reducible refine s_pN ?_
  | with_reducible refine s_pS ?_
  | with_reducible refine s_sl ?_
  | ((with_reducible refine' s_gaR ?ee_ ?_); (case ee_ => rfl))
  | with_reducible refine s_rng1 ?_
  | with_reducible refine o_eqI ?_
  | with_reducible refine o_eqS ?_
  | with_reducible refine o_eqP ?_
  | with_reducible refine o_eqB ?_
  | ((with_reducible refine' o_eqIs ?aa_ ?bb_ ?_); (case aa_ => first | omega | (simp only [List.length_map, List.length_range, List.length_replicate]; omega)); (case bb_ => first | omega | (simp only [List.length_map, List.length_range, List.length_replicate]; omega)))
  | ((with_reducible refine' s_callD ?ee_ ?ff_ ?_); (case ee_ => rfl); (case ff_ => rfl))
  | ((with_reducible refine' x_rng1 ?ee_ ?aa_ ?bb_ ?_); (case ee_ => rfl); (case aa_ => omega); (case bb_ => omega))
  | ((with_reducible refine' s_mut ?ee_ ?_); (case ee_ => rfl))
  | ((with_reducible refine' x_mut ?ee_ ?ff_ ?_); (case ee_ => rfl); (case ff_ => rfl))
  | with_reducible refine o_max ?_
  | with_reducible refine s_un ?_
  | with_reducible refine s_gNl ?_
  | ((with_reducible refine' x_frzO ?ee_ ?_); (case ee_ => rfl))
  | with_reducible refine o_ltI ?_
  | with_reducible refine s_wSeq ?_
  | ((with_reducible refine' x_items ?ee_ ?ff_ ?_); (case ee_ => rfl); (case ff_ => rfl))
  | ((with_reducible refine' s_lookT ?ee_ ?_); (case ee_ => rfl))
  | with_reducible refine s_asg ?_
  | ((with_reducible refine' s_gT ?ee_ ?_); (case ee_ => rfl))
  | with_reducible refine o_int ?_
  | ((with_reducible refine' o_inT ?ee_ ?_); (case ee_ => rfl))
  | ((with_reducible refine' o_inF ?ee_ ?_); (case ee_ => rfl))
  | with_reducible refine o_intB ?_
  | with_reducible refine s_andV ?_
  | with_reducible refine s_prop ?_
  | ((with_reducible refine' s_xis ?ee_ ?ff_ ?_); (case ee_ => rfl); (case ff_ => assumption))
  | ((with_reducible refine' x_xis ?ee_ ?ff_ ?_); (case ee_ => rfl); (case ff_ => assumption))
  | ((with_reducible refine' x_xisT2 ?ee_ ?ff_ ?gg_ ?hh_ ?_); (case ee_ => rfl); (case ff_ => rfl); (case gg_ => assumption); (case hh_ => assumption))
  | ((with_reducible refine' s_xisT ?ee_ ?ff_ ?_); (case ee_ => rfl); (case ff_ => assumption))
  | with_reducible refine o_lenI ?_
  | with_reducible refine o_lenL ?_
  | with_reducible refine o_lenT ?_
  | with_reducible refine o_lenF ?_
  | with_reducible refine o_lenD ?_
  | ((with_reducible refine' x_pxT ?ee_ ?_); (case ee_ => assumption))
  | ((with_reducible refine' x_px ?bb_ ?_); (case bb_ => walk_at "bk"))
  | ((with_reducible refine' o_powI ?cc_ ?_); (case cc_ => walk_at "al"))
  | ((with_reducible refine' o_fld ?ee_ ?_); (case ee_ => rfl))
  | with_reducible refine s_parE ?_
  | ((with_reducible refine' x_parE ?ee_ ?ff_ ?_); (case ee_ => rfl); (case ff_ => rfl))
  | with_reducible refine o_slF ?_
  | with_reducible refine o_slL ?_
  | with_reducible refine o_slT ?_
  | with_reducible refine s_dnT ?_
  | with_reducible refine s_rng2 ?_
  | ((with_reducible refine' x_rng2 ?ee_ ?aa_ ?_); (case ee_ => rfl); (case aa_ => exact ⟨by omega, by omega, by omega, by omega⟩))
  | ((with_reducible refine' o_divI ?cc_ ?_); (case cc_ => walk_at "al"))
  | with_reducible refine o_andI ?_
  | with_reducible refine o_min ?_
  | with_reducible refine s_chain ?_
  | with_reducible refine x_ib ?_
  | with_reducible refine s_dget ?_
  | with_reducible refine s_raise ?_
  | with_reducible refine s_lc ?_
  | ((with_reducible refine' x_clear ?ee_ ?_); (case ee_ => rfl))
  | with_reducible refine o_neI ?_
  | with_reducible refine o_neS ?_
  | with_reducible refine o_neP ?_
  | with_reducible refine o_neC ?_
  | with_reducible refine o_neg ?_
  | ((with_reducible refine' o_neIs ?aa_ ?bb_ ?_); (case aa_ => first | omega | (simp only [List.length_map, List.length_range, List.length_replicate]; omega)); (case bb_ => first | omega | (simp only [List.length_map, List.length_range, List.length_replicate]; omega)))
  | with_reducible refine o_gtI ?_
  | with_reducible refine s_and ?_
  | with_reducible refine s_fz ?_
  | ((with_reducible refine' x_noa ?ee_ ?_); (case ee_ => rfl))
  | ((with_reducible refine' s_dapp ?ee_ ?ff_ ?gg_ ?_); (case ee_ => rfl); (case ff_ => rfl); (case gg_ => rfl))
  | with_reducible refine s_meth ?_
  | with_reducible refine s_rev ?_
  | with_reducible refine s_two ?_
  | with_reducible refine s_join ?_
  | ((with_reducible refine' o_lenX ?ee_ ?_); (case ee_ => assumption))
  | ((with_reducible refine' o_addX ?ee_ ?ff_ ?_); (case ee_ => assumption); (case ff_ => assumption))
  | ((with_reducible refine' o_sliceX ?ee_ ?_); (case ee_ => assumption))
  | ((with_reducible refine' o_ixT' ?ee_ ?ff_ ?gg_ ?_); (case ee_ => assumption); (case ff_ => assumption); (case gg_ => assumption))
  | ((with_reducible refine' x_rev ?ee_ ?ff_ ?_); (case ee_ => rfl); (case ff_ => rfl))
  | ((with_reducible refine' x_isstr ?ee_ ?_); (case ee_ => rfl))
  | ((with_reducible refine' x_two ?ee_ ?ff_ ?_); (case ee_ => rfl); (case ff_ => rfl))
  | with_reducible refine s_dnin ?_
  | with_reducible refine s_setIx ?_
  | ((with_reducible refine' s_gL ?ee_ ?_); (case ee_ => rfl))
  | ((with_reducible refine' s_forW ?ee_ ?ff_ ?_); (case ee_ => rfl); (case ff_ => first | assumption | exact hasD_imm | exact hasD_own))
  | with_reducible refine o_list ?_
  | with_reducible refine o_listT ?_
  | ((with_reducible refine' x_isT ?ee_ ?_); (case ee_ => rfl))
  | ((with_reducible refine' x_isK ?ee_ ?_); (case ee_ => rfl))
  | with_reducible refine o_leI ?_
  | with_reducible refine s_notV ?_
  | with_reducible refine s_ifV ?_
  | with_reducible refine s_callT ?_
  | with_reducible refine s_callB ?_
  | ((with_reducible refine' x_lent ?ee_ ?_); (case ee_ => rfl))
  | with_reducible refine s_minL ?_
  | with_reducible refine s_fnK ?_
  | with_reducible refine s_fnM ?_
  | ((with_reducible refine' x_fnM ?ee_ ?ff_ ?gg_ ?_); (case ee_ => rfl); (case ff_ => rfl); (case gg_ => rfl))
  | with_reducible refine s_par3E ?_
  | ((with_reducible refine' x_par3E ?ee_ ?ff_ ?gg_ ?_); (case ee_ => rfl); (case ff_ => rfl); (case gg_ => rfl))
  | with_reducible refine s_dol ?_
  | with_reducible refine s_ud ?_
  | with_reducible refine x_callT ?_
  | ((with_reducible refine' x_frzsK ?ee_ ?ll_ ?_); (case ee_ => rfl); (case ll_ => rfl))
  | with_reducible refine s_make ?_
  | with_reducible refine s_dget1 ?_
  | with_reducible refine s_dget2 ?_
  | ((with_reducible refine' x_get2 ?ee_ ?ff_ ?gg_ ?_); (case ee_ => rfl); (case ff_ => rfl); (case gg_ => rfl))
  | with_reducible refine s_brk ?_
  | with_reducible refine s_zip ?_
  | ((with_reducible refine' x_zip ?ee_ ?_); (case ee_ => rfl))
  | with_reducible refine s_tryG ?_
  | ((with_reducible refine' s_xv ?ee_ ?ff_ ?gg_ ?_); (case ee_ => rfl); (case ff_ => assumption); (case gg_ => assumption))
  | with_reducible refine s_yes ?_
  | with_reducible refine isi_bl_bool ?_
  | with_reducible refine isi_bl_int ?_
  | with_reducible refine isi_bl_str ?_
  | with_reducible refine isi_bl_list ?_
  | with_reducible refine isi_bl_tuple ?_
  | with_reducible refine isi_int_bool ?_
  | with_reducible refine isi_int_int ?_
  | with_reducible refine isi_int_str ?_
  | with_reducible refine isi_int_list ?_
  | with_reducible refine isi_int_tuple ?_
  | with_reducible refine isi_str_bool ?_
  | with_reducible refine isi_str_int ?_
  | with_reducible refine isi_str_str ?_
  | with_reducible refine isi_str_list ?_
  | with_reducible refine isi_str_tuple ?_
  | with_reducible refine isi_lst_bool ?_
  | with_reducible refine isi_lst_int ?_
  | with_reducible refine isi_lst_str ?_
  | with_reducible refine isi_lst_list ?_
  | with_reducible refine isi_lst_tuple ?_
  | with_reducible refine isi_tup_bool ?_
  | with_reducible refine isi_tup_int ?_
  | with_reducible refine isi_tup_str ?_
  | with_reducible refine isi_tup_list ?_
  | with_reducible refine isi_tup_tuple ?_
  | with_reducible refine isi_non_bool ?_
  | with_reducible refine isi_non_int ?_
  | with_reducible refine isi_non_str ?_
  | with_reducible refine isi_non_list ?_
  | with_reducible refine isi_non_tuple ?_
  | with_reducible refine o_isN_non ?_
  | with_reducible refine o_isN_bl ?_
  | with_reducible refine o_isN_int ?_
  | with_reducible refine o_isN_str ?_
  | with_reducible refine o_isN_lst ?_
  | with_reducible refine o_isN_tup ?_
  | with_reducible refine o_isN_obj ?_
  | with_reducible refine o_isN' ?_
  | with_reducible refine o_isB' ?_
  | with_reducible refine o_isNB ?_
  | ((with_reducible refine' x_frz2 ?ee_ ?ff_ ?_); (case ee_ => rfl); (case ff_ => rfl))
  | with_reducible refine o_geI ?_
  | with_reducible refine o_notN_non ?_
  | with_reducible refine o_notN_bl ?_
  | with_reducible refine o_notN_int ?_
  | with_reducible refine o_notN_str ?_
  | with_reducible refine o_notN_lst ?_
  | with_reducible refine o_notN_tup ?_
  | with_reducible refine o_notN_obj ?_
  | with_reducible refine o_notN' ?_
  | with_reducible refine s_dnK ?_
  | with_reducible refine o_abs ?_
  | ((with_reducible refine' o_ninT ?ee_ ?_); (case ee_ => rfl))
  | ((with_reducible refine' o_ninF ?ee_ ?_); (case ee_ => rfl))
  | with_reducible refine s_orV ?_
  | with_reducible refine s_sameL ?_
  | with_reducible refine s_fg ?_
  | ((with_reducible refine' x_lenN ?ee_ ?ff_ ?_); (case ee_ => omega); (case ff_ => omega))
  | ((with_reducible refine' x_le1000 ?ee_ ?_); (case ee_ => rfl))
  | with_reducible refine s_meth0 ?_
  | with_reducible refine s_methK ?_
  | with_reducible refine s_makeK ?_
  | with_reducible refine s_own2 ?_
  | with_reducible refine s_eqX ?_
  | with_reducible refine s_neX ?_
  | with_reducible refine x_nb ?_
  | with_reducible refine s_lenO ?_
  | ((with_reducible refine' s_mut0 ?ee_ ?_); (case ee_ => rfl))
  | with_reducible refine m_clr ?_
  | with_reducible refine m_rev ?_
  | with_reducible refine s_din ?_
  | ((with_reducible refine' s_lookK ?ee_ ?_); (case ee_ => rfl))
  | with_reducible refine s_retN ?_
  | with_reducible refine s_cnt ?_
  | with_reducible refine s_enum ?_
  | with_reducible refine s_enumS ?_
  | with_reducible refine s_rng3 ?_
  | ((with_reducible refine' x_enumS ?ee_ ?_); (case ee_ => rfl))
  | ((with_reducible refine' x_enum ?ee_ ?_); (case ee_ => rfl))
  | with_reducible refine s_lcG ?_
  | ((with_reducible refine' s_lcV ?ee_ ?ff_ ?_); (case ee_ => rfl); (case ff_ => rfl))
  | ((with_reducible refine' s_forV ?ee_ ?_); (case ee_ => rfl))
  | ((with_reducible refine' o_rep1 ?aa_ ?_); (case aa_ => exact ⟨by omega, by omega⟩))
  | with_reducible refine s_par ?_
  | ((with_reducible refine' x_par ?ee_ ?ff_ ?gg_ ?_); (case ee_ => rfl); (case ff_ => rfl); (case gg_ => rfl))
  | with_reducible refine s_rng1L ?_
  | ((with_reducible refine' x_rng1L ?ee_ ?_); (case ee_ => rfl))
  | with_reducible refine s_rng2L ?_
  | ((with_reducible refine' x_rng2L ?ee_ ?_); (case ee_ => rfl))
  | with_reducible refine s_fset ?_
  | ((with_reducible refine' x_fset ?ee_ ?ff_ ?gg_ ?_); (case ee_ => rfl); (case ff_ => rfl); (case gg_ => rfl))
  | with_reducible refine x_got rfl ?_
  | with_reducible refine x_in0 ?_
  | with_reducible refine x_inS ?_
  | ((with_reducible refine' s_gVal ?ee_ ?_); (case ee_ => rfl))
  | ((with_reducible refine' s_gGen ?ee_ ?_); (case ee_ => rfl))
  | ((with_reducible refine' s_gTag ?ee_ ?_); (case ee_ => rfl))
  | ((with_reducible refine' s_endN ?bb_ ?_); (case bb_ => walk_at "bk"))
  | ((with_reducible refine' s_dpop ?ee_ ?_); (case ee_ => rfl))
  | with_reducible refine s_swap2 ?_
  | ((with_reducible refine' x_swap2 ?ee_ ?_); (case ee_ => rfl))
  | ((with_reducible refine' s_gS ?ee_ ?_); (case ee_ => rfl))
  | ((with_reducible refine' x_gS ?ee_ ?ff_ ?gg_ ?_); (case ee_ => rfl); (case ff_ => rfl); (case gg_ => first | assumption | rfl))
  | ((with_reducible refine' x_dpop ?ee_ ?ff_ ?gg_ ?_); (case ee_ => rfl); (case ff_ => rfl); (case gg_ => rfl)))
local macro_rules | `(tactic| walk_at "ds") => `(tactic| (repeat' (walk_at "ds1")))
set_option hygiene false in
local macro_rules | `(tactic| walk_at "dx") => `(tactic| (repeat' (first | walk_at "ds1" | with_reducible refine (fun (a : Addr) => ?_ : ∀ _ : Addr, _) | with_reducible refine ite_d (fun c => ?_) (fun c => ?_) | with_reducible refine ite_nd (fun c => ?_) (fun c => ?_) | with_reducible refine ite_nb (fun c => ?_) (fun c => ?_) | with_reducible refine ite_b (fun c => ?_) (fun c => ?_))))
set_option hygiene false in
local macro_rules | `(tactic| walk_at "dy") => `(tactic| (repeat' (first | walk_at "ds1" | with_reducible refine (fun (a : Addr) => ?_ : ∀ _ : Addr, _))))
/-! ### the board's small defs, over data -/
def conIns : Con := fun es P _ => ∃ (w h x y : Int), es = [.int w, .int h, .int x, .int y] ∧ ∀ b : Bool, (b = true ↔ Ins w h x y) → P (.imm (.bl b)) es
def conOther : Con := fun es P _ => ∃ k : Str, es = [.imm (.str k)] ∧ P (.imm (.str (okK k))) es
abbrev ptOf (z : Int × Int) : D := .tup [.int z.1, .int z.2]
def conMoved : Con := fun es P _ => ∃ (way : Str) (w h x y : Int), es = [.imm (.str way), .int w, .int h, .imm (.tup [.int x, .int y])] ∧ P (.imm (ptOf (mvd way w h x y))) es
def conWide (A : Ad) : Con := fun es P _ => ∃ (w h : Int) (ms : List Mir), es = [.imm (brdD A.C_Board w h ms)] ∧ P (.int w) es
def conHigh (A : Ad) : Con := fun es P _ => ∃ (w h : Int) (ms : List Mir), es = [.imm (brdD A.C_Board w h ms)] ∧ P (.int h) es
def conLen (A : Ad) : Con := fun es P _ => ∃ (w h : Int) (ms : List Mir), es = [.imm (brdD A.C_Board w h ms)] ∧ P (.int ms.length) es
def kindD (ms : List Mir) (x y : Int) : D := (lookD (kvD ms) (ptK (x, y))).getD .non
def conAt (A : Ad) : Con := fun es P PX => ∃ (w h : Int) (ms : List Mir) (x y : Int), es = [.imm (brdD A.C_Board w h ms), .int x, .int y] ∧ (¬ Ins w h x y → PX A.C_InvalidPoint (plD x y) es) ∧ (Ins w h x y → P (.imm (kindD ms x y)) es)
def conTurned (A : Ad) : Con := fun es P PX => ∃ (w h : Int) (ms : List Mir) (way : Str), es = [.imm (brdD A.C_Board w h ms), .imm (.str way)] ∧ GoodMs w h ms ∧ 1 ≤ w ∧ 1 ≤ h ∧ ms.length ≤ 2000 ∧
  (wayOk way = false → PX A.C_InvalidTurn (.str way) es) ∧ (wayOk way = true → ∀ ns : List Mir, ns.Perm (ms.map (mvM way w h)) → P (.imm (brdD A.C_Board (if swp way then h else w) (if swp way then w else h) ns)) es)
theorem mirsD_suc {f : Mir → Mir} {ns : List Mir} {i : Nat} {z : Mir} (hz : ns[i]? = some z) : mirsD ((ns.take (i + 1)).map f) = .lst (((ns.take i).map f).map mirD ++ [mirD (f z)]) := by
  unfold mirsD
  rw [take_suc hz, List.map_append, List.map_append]
  rfl
section
variable {P : Program} {w : World} {K : PySem.W.Frag} {mg : Str → Option Value} {base : Heap} {A : Ad}
theorem okd_is_inside (T : Txt K mg A) : FnOk P w K mg base (L2.CX P w) (0 + 1) A.f_is_inside A.d_is_inside P_is_inside (spD K conIns) := by
  refine okD_fn T.F_is_inside sc_is_inside (fun es P PX h => ?_) (fun cdv A' outer s H I E es R PX hr fo hc => ?_)
  · obtain ⟨w', h', x, y, rfl, _⟩ := h
    rfl
  obtain ⟨w', h', x, y, rfl, hP⟩ := hc
  have hu := hu_of hr
  refine ⟨_, (dss_one (ds_ret (de_and (de_chain dor_lt dor_lt de_int (dv 2) (de_op dor_mul de_int (dv 0))) (de_and (de_chain dor_lt dor_lt de_int (dv 3) (de_op dor_mul de_int (dv 1))) (de_one (de_cmp (dor_eq hr.units) (de_op dor_mod (de_op dor_add (dv 2) (dv 3)) de_int) de_int (nomark _))))))), ?_⟩
  walk_at "dy"
  walk_at "dx"
  all_goals refine hP _ ?_
  all_goals unfold Ins
  all_goals simp
  all_goals omega
theorem okd_Board_width (T : Txt K mg A) : FnOk P w K mg base (L2.CX P w) (0 + 1) A.f_Board_width A.d_Board_width P_Board_width (spD K (conWide A)) := by
  refine okD_fn T.F_Board_width sc_Board_width (fun es P PX h => ?_) (fun cdv A' outer s H I E es R PX hr fo hc => ?_)
  · obtain ⟨w', h', ms, rfl, _⟩ := h
    rfl
  obtain ⟨w', h', ms, rfl, hP⟩ := hc
  have hu := hu_of hr
  refine ⟨_, (dss_one (ds_ret (de_fld (dv 0) T.cl_Board T.na_Board_wide))), ?_⟩
  walk_at "dy"
  exact hP
theorem okd_Board_height (T : Txt K mg A) : FnOk P w K mg base (L2.CX P w) (0 + 1) A.f_Board_height A.d_Board_height P_Board_height (spD K (conHigh A)) := by
  refine okD_fn T.F_Board_height sc_Board_height (fun es P PX h => ?_) (fun cdv A' outer s H I E es R PX hr fo hc => ?_)
  · obtain ⟨w', h', ms, rfl, _⟩ := h
    rfl
  obtain ⟨w', h', ms, rfl, hP⟩ := hc
  have hu := hu_of hr
  refine ⟨_, (dss_one (ds_ret (de_fld (dv 0) T.cl_Board T.na_Board_high))), ?_⟩
  walk_at "dy"
  exact hP
theorem okd_Board_mirror_at (T : Txt K mg A) : FnOk P w K mg base (L2.CX P w) (2 + 1) A.f_Board_mirror_at A.d_Board_mirror_at P_Board_mirror_at (spD K (conAt A)) := by
  have G_is_inside := okd_is_inside (P := P) (w := w) (base := base) T
  have G_SandError___init__ := okd_SandError___init__ (P := P) (w := w) (base := base) T
  refine okD_fn T.F_Board_mirror_at sc_Board_mirror_at (fun es P PX h => ?_) (fun cdv A' outer s H I E es R PX hr fo hc => ?_)
  · obtain ⟨w', h', ms, x, y, rfl, _⟩ := h
    rfl
  obtain ⟨w', h', ms, x, y, rfl, hX, hP⟩ := hc
  have hu := hu_of hr
  refine ⟨_, (dss_cons (ds_if (dt_not (dt_val (de_call G_is_inside (hr.mono (by first | decide | omega)) rfl T.g_is_inside T.k_is_inside T.b_is_inside (takes_of rfl rfl rfl rfl) fo (dg_v (de_fld (dv 0) T.cl_Board T.na_Board_wide) (dg_v (de_fld (dv 0) T.cl_Board T.na_Board_high) (dg_v (dv 1) (dg_v (dv 2) dg_nil)))))))
(dss_one (ds_raise rfl (takes_of rfl rfl rfl rfl) fo T.X_InvalidPoint T.i_InvalidPoint T.ti_init T.no_InvalidPoint G_SandError___init__ (hr.mono (by first | decide | omega)) T.b_SandError___init__ rfl T.g_InvalidPoint (de_tup (da_cons (dv 1) (da_cons (dv 2) da_nil)))))
dss_nil)
(dss_one (ds_ret (de_dget1 hu (de_fld (dv 0) T.cl_Board T.na_Board_kinds) (de_tup (da_cons (dv 1) (da_cons (dv 2) da_nil))) ⟨by rfl, by rfl, by rfl, by rfl⟩)))), ?_⟩
  walk_at "dy"
  refine ⟨_, _, _, _, rfl, fun b hb => ?_⟩
  walk_at "dx"
  · refine hX fun i => ?_
    rw [hb.mpr i] at c
    cases c
  · exact hP (hb.mp c)
end

end
/-! ### the law's end; a name whose list is not changed any more -/
theorem FnOk.calm {P : Program} {w : World} {K : PySem.W.Frag} {mg : Str → Option Value} {base : Heap} {k : Nat} {f : Addr} {fd : FuncData} {ps : List Str} {sp sp' : Sp} (F : FnOk P w K mg base (L2.CX P w) k f fd ps sp)
    (h : ∀ vs H Q E, sp' vs H Q E → sp vs H Q fun _ _ _ => False) : FnOk P w K mg base CX0 k f fd ps sp' :=
  ⟨fun vs H Q E q => F.len vs H Q _ (h _ _ _ _ q), fun A outer s H args us vs Q E hr he hb hv hs => codeAny_mono (F.run A outer s H args us vs Q _ hr he hb hv (h _ _ _ _ hs)) fun r s' q => by
    cases r with
    | ok fl => cases fl <;> exact q
    | error e =>
      obtain ⟨_, _, _, _, _, _, _, _, _, _, _, _, z⟩ := q
      exact z.elim⟩
/-- the tables are empty, and none of them is the script -/
def TabL (K : PySem.W.Frag) (H : Hp) (a : Addr) : Prop := ∀ P, IsTab K P → H P = some (.tbl #[]) ∧ P ≠ a
theorem tabL_none {K : PySem.W.Frag} {H : Hp} {a : Addr} (h : tabQ = none) : TabL K H a := fun P hP => by
  obtain ⟨x, _, _, _, _, _, _, _, _, _, _, e, _⟩ := hP
  rw [h] at e
  cases e
def spLaw (K : PySem.W.Frag) : Sp := fun vs H Q _ => ∃ (a : Addr) (ns : List Int), vs = [.ref a] ∧ SqL K H a (ns.map V.int) ∧ ns.length ≤ 63 ∧ TabL K H a ∧ ∀ H', Q (.bl true) H'
def conLaw : Con := fun es P _ => ∃ ns : List Int, es = [.imm (.fls (ns.map D.int))] ∧ ns.length ≤ 63 ∧ P (.imm (.bl true)) es
theorem law_of {K : PySem.W.Frag} (vs : List V) (H : Hp) (Q : VK) (E : XK) (h : spLaw K vs H Q E) : spD K conLaw vs H Q fun _ _ _ => False := by
  obtain ⟨a, ns, rfl, hs, hl, tl, kk⟩ := h
  have s0 : Sub (fun b => if b = a then H b else none) H := fun b o q => by
    dsimp only at q
    split at q
    · exact q
    · cases q
  refine ⟨fun b => if b = a then H b else none, [.imm (.fls (ns.map D.int))], fun t es => t = .imm (.bl true), fun _ _ _ => False, s0, ?_, ⟨ns, rfl, hl, rfl⟩, fun r es' x I' H' hp sub env st => ?_, fun C d es' x dd I' H' hp _ _ _ _ _ => hp⟩
  · refine imm_env (ds := [.fls (ns.map D.int)]) (fun P hP => ⟨if_neg (tl P hP).2, #[], (tl P hP).1, True.intro, fun pos cv hc => by have z : codeAmong pos [] = some cv := hc; simp [codeAmong] at z⟩) (.cons (.fls ?_ (ints_in ns)) .nil)
    rcases hs with hs | hs
    · refine .inl ?_
      rcases hs with hs | ⟨o, hs⟩
      · exact .inl (by dsimp only; rw [if_pos rfl]; exact hs)
      · exact .inr ⟨o, by dsimp only; rw [if_pos rfl]; exact hs⟩
    · exact .inr hs
  · subst hp
    have e : x = .bl true := by
      have l := st.imm
      obtain ⟨y, y1, y2⟩ := env.at_ es'.length (.imm (.bl true)) (by simp)
      have hl2 : es'.length = 1 := by
        have := env.len
        simpa using this
      rw [hl2] at y1
      simp at y1
      cases y2
      exact y1
    rw [e]
    exact kk H'
/-- statement s, and what stands in slot i is not changed any more -/
def sFz (i : Nat) (s : SvF) : SvF := fun e d => s e { d with nx := fun e1 => ∃ c e2, frz e1 (.slot i) = some (c, e2) ∧ d.nx e2 }
theorem s_fz {i : Nat} {s : SvF} {e : En} {d : Ed} (k : s e { d with nx := fun e1 => ∃ c e2, frz e1 (.slot i) = some (c, e2) ∧ d.nx e2 }) : sFz i s e d := k
theorem ds_fz {X : Cx} {F : Fr} {st : Stmt} {s : SvF} (i : Nat) (h : DS X F st s) : DS X F st (sFz i s) := by
  obtain ⟨t, p, d⟩ := h
  refine ⟨t, p, fun σ I H e ps dd D hp s1 h k => d σ I H e ps _ D hp s1 h ⟨fun σ' I' H' e' h' s' => ?_, k.rt, k.bk, k.ct⟩⟩
  obtain ⟨c, e2, hf, h2⟩ := h'
  obtain ⟨t0, ht⟩ : ∃ t0, e'[i]? = some (some t0) := by
    unfold frz at hf
    cases q : e'[i]? with
    | none => simp [q] at hf
    | some o =>
      cases o with
      | none => simp [q] at hf
      | some t0 => exact ⟨t0, rfl⟩
  obtain ⟨x, hx, _⟩ := s'.slot ht
  obtain ⟨I2, _, s2⟩ := (s'.pushS hx ht).frz (qs := []) hf
  exact k.nx σ' I2 H' e2 h2 s2.weak
theorem rng_get {lo : Int} {n i : Nat} {c : D} (h : (rngD lo 1 n)[i]? = some c) : i < n ∧ c = .int (lo + i) := by
  have z := (List.getElem?_eq_some_iff.mp h).1
  rw [rngD_len] at z
  rw [rngD_at z, Int.mul_one] at h
  exact ⟨z, (Option.some.inj h).symm⟩
/-! ### try: body, except C as n: one line -/
section
variable {K : PySem.W.Frag} {F : Fr} {σ σ' : L2.St} {I H I' H' : Hp} {e e' : En} {ps qs : Tm} {W : WX} {PX : Addr → D → En → Prop}
/-- the frame of a try's body: from here on -/
abbrev frTry (K : PySem.W.Frag) (e : En) (ps : Tm) (I H : Hp) (W : WX) (PX : Addr → D → En → Prop) : Fr := ⟨K, e ++ tn ps, I, H, W, PX⟩
theorem ST.here (s : ST F σ I H e ps) : ST (frTry F.K e ps I H W PX) σ I H e ps := ⟨s.sub, s.len, s.env, s.ali, Step.refl⟩
theorem ST.rebase (s0 : ST F σ I H e ps) (s : ST (frTry F.K e ps I H W PX) σ' I' H' e' qs) : ST F σ' I' H' e' qs := ⟨s.sub, s.len, s.env, s.ali, s0.base.trans s.base⟩
theorem ST.imms (s : ST F σ I H e []) : ∀ {ps : Tm}, (∀ p ∈ ps, ∃ d, p.2 = Rv.im d ∧ Rep F.K I p.1 d) → ST F σ I H e ps := by
  have go : ∀ {ps qs : Tm}, ST F σ I H e qs → (∀ p ∈ ps, ∃ d, p.2 = Rv.im d ∧ Rep F.K I p.1 d) → ST F σ I H e (qs ++ ps) := by
    intro ps
    induction ps with
    | nil => intro qs s _; simpa using s
    | cons p ps ih =>
      intro qs s h
      obtain ⟨d, e1, r⟩ := h p (by simp)
      have s2 := s.pushI r
      have z := ih s2 fun q hq => h q (by simp [hq])
      obtain ⟨x, rv⟩ := p
      dsimp only at e1
      subst e1
      rw [List.append_assoc] at z
      exact z
  intro ps h
  exact go (qs := []) s h
theorem ST.imreps (s : ST F σ I H e ps) (hp : Imms ps) : ∀ p ∈ ps, ∃ d, p.2 = Rv.im d ∧ Rep F.K I p.1 d := fun p m => by
  obtain ⟨d, hd⟩ := hp p m
  obtain ⟨l, r, rfl⟩ := List.append_of_mem m
  obtain ⟨x, rv⟩ := p
  dsimp only at hd
  subst hd
  exact ⟨d, rfl, ST.temp (t := .imm d) s⟩
/-- a slot of which nothing is told may hold anything -/
theorem ST.junk {i : Nat} {o : Option V} (s : ST F σ I H e ps) (hp : Imms ps) (h : e[i]? = some none) : ST F (σ.set i o) I H e ps where
  sub := s.sub
  len := by rw [List.length_set]; exact s.len
  env := by
    have hi := (List.getElem?_eq_some_iff.mp h).1
    refine ⟨s.env.tab, by have := s.env.len; simp only [List.length_append, List.length_set] at this ⊢; exact this, fun j t q => ?_, s.env.sep⟩
    obtain ⟨x, e1, e2⟩ := s.env.at_ j t q
    refine ⟨x, ?_, e2⟩
    have hij : j ≠ i := fun z => by
      subst z
      rw [List.getElem?_append_left hi, h] at q
      cases q
    by_cases hl : j < σ.length
    · rw [List.getElem?_append_left hl] at e1
      rw [List.getElem?_append_left (by rw [List.length_set]; exact hl), List.getElem?_set_ne (Ne.symm hij)]
      exact e1
    · rw [List.getElem?_append_right (by omega)] at e1
      rw [List.getElem?_append_right (by rw [List.length_set]; omega), List.length_set]
      exact e1
  ali := fun p m j q => by
    obtain ⟨d, hd⟩ := hp p m
    rw [hd] at q
    cases q
  base := s.base
end
/-- what the clause's suite does with the value -/
structure SuD (X : Cx) (F : Fr) (C : Addr) (i : Nat) (suite : List Stmt) (g : D → SvF) : Prop where
  ex : ∃ ts : Addr → Value → Option Addr → TS, (∀ (a : Addr) (oe : Obj) (cls : Value) (d : Option Addr) (pn : List (Addr × Obj)), Zc cls d oe → (∃ vs, oe.data = .fields vs) → PSs (X.suite a ((a, oe) :: pn)) suite (ts a cls d)) ∧
    ∀ (σ : L2.St) (I H : Hp) (e : En) (ps : Tm) (dd a : Addr) (x : V) (z : D) (d : Ed) (D : Ends), Imms ps → ST F σ I H e ps → Rep F.K I x z → H dd = some (.xd [(("value" : Str), x)]) → g z e d → EdR F ps d D →
      ts a (.ref C) (some dd) { nx := fun σ' H' => D.nx (σ'.set i none) H', rt := D.rt, bk := fun σ' H' => D.bk (σ'.set i none) H', ct := fun σ' H' => D.ct (σ'.set i none) H' } (σ.set i (some (.ref a))) H
def sTry (C : Addr) (f : Fr → SvF) (g : D → SvF) : SvF := fun e d => ∀ F' : Fr, F'.PX = (fun C' z e' => C' = C ∧ g z e' d) → f F' e d
theorem ds_try {X : Cx} {F : Fr} {x n : Str} {C : Addr} {i : Nat} {body suite : List Stmt} {b₀ : Stmt} {np pos pos' : Pos} {f : Fr → SvF} {g : D → SvF}
    (hs : X.stack = X.env :: X.outer) (hf : X.env.frame = some X.env.locals) (hN : X.N.Nodup) (hi : X.N[i]? = some n) (hln : X.env.kindOf n = some .local) (hc : Names X x (.ref C)) (te : PySem.W.exmOne X.K (.ref C) (.ref C) = some true)
    (hb : ∀ (pn : List (Addr × Obj)) (xe : Value → Shared → Prop) (F' : Fr), F'.K = X.K → Takes (X.tr pn xe) F'.W → FrOk F' → DSs (X.tr pn xe) F' body (f F'))
    (hg : SuD X F C i (b₀ :: suite) g) (hK : F.K = X.K := by first | rfl | assumption) :
    DS X F (.Try body [.ExceptHandler (some (.Name x np)) (some n) (b₀ :: suite) pos'] [] [] pos) (sTry C f g) := by
  obtain ⟨ts, hsu, hd⟩ := hg
  let tb : WX → TS := fun W D σ H => ∃ (I : Hp) (e : En) (ps : Tm) (d : Ed) (F' : Fr), F'.K = X.K ∧ F'.W = W ∧ FrOk F' ∧ Imms ps ∧ ST F' σ I H e ps ∧ f F' e d ∧ EdR F' ps d D
  refine ⟨_, ps_try_as (tb := tb) (Wout := fun _ _ _ _ => False) hs hf hN hi hln hc takes0 (fun W pn xe tk _ => ⟨fun pins s σ H D Iv h => ?_⟩) hsu, fun σ I H e ps d D hp s h k => ?_⟩
  · obtain ⟨I, e, ps, d, F', hk, rfl, fo, im, st, hf', ed⟩ := h
    obtain ⟨t, p, dts⟩ := hb pn xe F' hk tk fo
    exact p.run pins s σ H D Iv (dts σ I H e ps d D im st hf' ed)
  · refine ⟨I, e, ps, d, frTry F.K e ps I H (wAs X.K (.ref C) i ts (fun _ _ _ _ => False) D) (fun C' z e' => C' = C ∧ g z e' d), hK, rfl, ?_, hp, s.here, h _ rfl, ?_⟩
    · rintro σ' I' H' e' qs C' z x' dd s' ⟨rfl, hz⟩ rx hx
      refine ⟨true, te, fun _ a ha => ?_, fun z => nomatch z⟩
      have s1 : ST F σ' I' H' e' [] := ST.weak (ps := []) (qs := qs) (s.rebase s')
      have s2 : ST F σ' I' H' e' ps := s1.imms fun p m => by
        obtain ⟨d', e1, r⟩ := s.imreps hp p m
        exact ⟨d', e1, r.mono s'.base.imm⟩
      exact hd σ' I' H' e' ps dd a x' z d D hp s2 rx hx hz k
    · exact ⟨fun σ' I' H' e' h' s' => k.nx σ' I' H' e' h' (s.rebase s'), fun x r σ' I' H' e' h' s' => k.rt x r σ' I' H' e' h' (s.rebase s'), fun σ' I' H' e' h' s' => k.bk σ' I' H' e' h' (s.rebase s'), fun σ' I' H' e' h' s' => k.ct σ' I' H' e' h' (s.rebase s')⟩
/-- x = e.value -/
def gVal (i j : Nat) : D → SvF := fun z e d => e[i]? = some none ∧ ∃ e2, asg e j (.im z) = some e2 ∧ d.nx e2
/-- x = ("C", e.value) -/
def gTag (i j : Nat) (c : Str) : D → SvF := fun z e d => e[i]? = some none ∧ ∃ e2, asg e j (.im (.tup [.str c, z])) = some e2 ∧ d.nx e2
theorem asg_im {e e2 : En} {j : Nat} {z : D} (h : asg e j (.im z) = some e2) : e2 = e.set j (some (.imm z)) := by
  unfold asg at h
  split at h
  · cases h
  · cases h; rfl
section
variable {X : Cx} {F : Fr} {C : Addr} {i j : Nat} {n y : Str} {p1 p2 p3 p4 p5 p6 : Pos} {k6 k7 : Nat}
theorem su_val (xf : XfC X.K C) (no : PySem.W.findIn X.K (.ref C) "value" = some none) (hNd : X.N.Nodup) (hi : X.N[i]? = some n) (hj : X.N[j]? = some y) (hvi : Vis X.env.scope n) (hlj : Loc X.env.scope y) (hij : i ≠ j)
    (hb : attributeBase (.Name n p1) "value" X.env (eval (.Name n p1) X.env) = eval (.Name n p1) X.env := by rfl) (hs : swapsWith (.Attribute (.Name n p1) "value" p3) (some (.Name y p2)) p4.line X.env = pure false := by rfl)
    (hf : X.fn y = true ∨ X.env.scope.names.lookup y = some .local := by first | exact .inl rfl | exact .inr rfl) (hd : (n == ("__debug__" : Str)) = false := by decide) (hcd : (n == ("__classdict__" : Str)) = false := by decide) :
    SuD X F C i [.Assign [.Name y p2] (.Attribute (.Name n p1) "value" p3) p4] (gVal i j) := by
  refine ⟨fun a cls d => tAsg (tXf a cls d C "value" (tVar i)) (gName j), fun a oe cls d pn hz hfl => pss_one (ps_set (X := X.suite a ((a, oe) :: pn)) (i := j) hNd hj hlj (pe_xf xf no hz hfl (pe_var hi hvi hd hcd) hb) hs hf), fun σ I H e ps dd a x z d D hp s rx hx hg k => ?_⟩
  obtain ⟨hn, e2, ha, hd2⟩ := hg
  have hil := (List.getElem?_eq_some_iff.mp hn).1
  rw [s.len] at hil
  have e2e := asg_im ha
  have hn2 : e2[i]? = some none := by rw [e2e, List.getElem?_set_ne (Ne.symm hij)]; exact hn
  refine ⟨.ref a, List.getElem?_set_self hil, rfl, rfl, dd, _, x, rfl, hx, rfl, ?_⟩
  have s1 := s.junk (o := some (.ref a)) hp hn
  obtain ⟨I2, s2⟩ := (s1.pushI rx).asg (hp.no _) ha
  exact k.nx _ I2 H e2 hd2 (s2.junk hp hn2)
theorem su_tag {c : Str} (xf : XfC X.K C) (no : PySem.W.findIn X.K (.ref C) "value" = some none) (hNd : X.N.Nodup) (hi : X.N[i]? = some n) (hj : X.N[j]? = some y) (hvi : Vis X.env.scope n) (hlj : Loc X.env.scope y) (hij : i ≠ j)
    (hb : attributeBase (.Name n p1) "value" X.env (eval (.Name n p1) X.env) = eval (.Name n p1) X.env := by rfl) (hs : swapsWith (.Tuple [.Constant (.str c) k6 p6, .Attribute (.Name n p1) "value" p3] k7 p5) (some (.Name y p2)) p4.line X.env = pure false := by rfl)
    (hf : X.fn y = true ∨ X.env.scope.names.lookup y = some .local := by first | exact .inl rfl | exact .inr rfl) (hd : (n == ("__debug__" : Str)) = false := by decide) (hcd : (n == ("__classdict__" : Str)) = false := by decide) :
    SuD X F C i [.Assign [.Name y p2] (.Tuple [.Constant (.str c) k6 p6, .Attribute (.Name n p1) "value" p3] k7 p5) p4] (gTag i j c) := by
  refine ⟨fun a cls d => tAsg (tTup (tCons (tC (.str c)) (tCons (tXf a cls d C "value" (tVar i)) tNil))) (gName j), fun a oe cls d pn hz hfl => pss_one (ps_set (X := X.suite a ((a, oe) :: pn)) (i := j) hNd hj hlj (pe_tup (pa_cons pe_str (pa_cons (pe_xf xf no hz hfl (pe_var hi hvi hd hcd) hb) pa_nil))) hs hf), fun σ I H e ps dd a x z d D hp s rx hx hg k => ?_⟩
  obtain ⟨hn, e2, ha, hd2⟩ := hg
  have hil := (List.getElem?_eq_some_iff.mp hn).1
  rw [s.len] at hil
  have e2e := asg_im ha
  have hn2 : e2[i]? = some none := by rw [e2e, List.getElem?_set_ne (Ne.symm hij)]; exact hn
  refine ⟨.ref a, List.getElem?_set_self hil, rfl, rfl, dd, _, x, rfl, hx, rfl, ?_⟩
  refine ⟨Nat.le_of_ble_eq_true rfl, fun q hq => ?_⟩
  have s1 := s.junk (o := some (.ref a)) hp hn
  have g := Grow.allocI (o := .tup [.str c, x]) s1.sub hq
  have s3 := s1.pushG (x := .ref q) (t := .imm (.tup [.str c, z])) g (.tup upd_same (.cons (.str _) (.cons (rx.mono g.le) .nil))) fun b hb => by simp at hb
  obtain ⟨I2, s2⟩ := s3.asg (hp.no _) ha
  exact k.nx _ I2 _ e2 hd2 (s2.junk hp hn2)
end
section
variable {e : En} {d : Ed} {z : D} {i j : Nat} {c : Str}
theorem s_try {C : Addr} {f : Fr → SvF} {g : D → SvF} (k : ∀ F' : Fr, F'.PX = (fun C' z e' => C' = C ∧ g z e' d) → f F' e d) : sTry C f g e d := k
theorem x_pxT {F' : Fr} {P : Addr → D → En → Prop} {C : Addr} {z : D} (hF : F'.PX = P) (k : P C z e) : F'.PX C z e := by rw [hF]; exact k
theorem x_got {C C' : Addr} {R : Prop} (h : C' = C) (k : R) : C' = C ∧ R := ⟨h, k⟩
theorem s_gVal (hn : e[i]? = some none) (k : ∃ e2, asg e j (.im z) = some e2 ∧ d.nx e2) : gVal i j z e d := ⟨hn, k⟩
theorem s_gTag (hn : e[i]? = some none) (k : ∃ e2, asg e j (.im (.tup [.str c, z])) = some e2 ∧ d.nx e2) : gTag i j c z e d := ⟨hn, k⟩
end
/-! ### + of own objects -/
section
variable {X : Cx} {F : Fr} {CX : CXT} {k : Nat} {C g : Addr} {fd : FuncData} {pn : List Str} {sp : Sp} {con : Con} {a b : Expr} {f1 f2 : EvF} {pos : Pos} {ta tb : TE} {E : L2.St → XK}
theorem pe_addOwn (G : FnOk X.prog X.w X.K X.mg X.base CX k g fd pn sp) (hr : Room k X.A) (hm : Meth X.K C "__add__" g) (hc : PySem.W.selfFirst X.K C = true) (hb : Binds X.K fd pn []) (hx : ∀ σ, PassesAt CX X σ (E σ)) (ha : PE X a ta) (hb' : PE X b tb) :
    PE X (.BinOp a .Add b pos) (fun σ H Q => ta σ H fun x H1 => tb σ H1 fun y H2 => rOwn2 C sp (E σ) x y H2 Q) := by
  refine ⟨fun pins s σ H Q I h => ?_⟩
  refine wpAny_BinOp (binT ha hb' I (R := fun x y H2 => rOwn2 C sp (E σ) x y H2 Q) h fun v u s2 x y H2 I2 rx ry q => ?_)
  obtain ⟨a', b', dx, dy, fs, gs, rfl, rfl, ea, eb, h⟩ := q
  obtain rfl : v = Value.ref a' := rx
  obtain rfl : u = Value.ref b' := ry
  obtain ⟨_, O, _⟩ := ins_get I2.hok ea
  obtain ⟨_, O', _⟩ := ins_get I2.hok eb
  obtain ⟨_, J, _⟩ := O.look
  obtain ⟨_, J', _⟩ := O'.look
  obtain ⟨_, fr⟩ := I2.fr
  refine PySem.W.binop_K (op := .Add) fr I2.ok.mod.kin J J'.type hc hm.at_ hm.fn ?_
  exact wpAny_mono (run_fnS G hr hb (hx σ) I2 (.cons (show RelV (.ref a') (.ref a') from rfl) (.cons (show RelV (.ref b') (.ref b') from rfl) .nil)) h) (fun _ _ q => back_of q) fun _ _ z => z
theorem DT.addO (d1 : DT F ta f1) (d2 : DT F tb f2) (fo : FrOk F) : DT F (fun σ H Q => ta σ H fun x H1 => tb σ H1 fun y H2 => rOwn2 C (spD F.K con) (WE F.W σ) x y H2 Q) (eOwn2 F.PX C con f1 f2) := fun σ I H e ps P Q s h k' => by
  refine d1 σ I H e ps _ _ s h fun x r1 e1 I1 H1 h1 s1 => ?_
  refine d2 σ I1 H1 e1 _ _ _ s1 h1 fun y r2 e2 I2 H2 h2 s2 => ?_
  obtain ⟨fs, gs, e3, e4, hf, hg, hc⟩ := h2
  rw [List.append_assoc] at s2
  obtain ⟨I3, _, s3⟩ := s2.frz hf
  have s3' : ST F σ I3 H2 e3 ((ps ++ [(x, .im (.obj C fs))]) ++ [(y, r2)]) := by rw [List.append_assoc]; exact s3
  obtain ⟨I4, _, s4⟩ := s3'.frz hg
  have ry : Rep F.K I4 y (.obj C gs) := ST.temp (ps := ps ++ [(x, .im (.obj C fs))]) (qs := []) (t := .imm (.obj C gs)) s4
  have rx : Rep F.K I4 x (.obj C fs) := ST.temp (ps := ps) (qs := []) (t := .imm (.obj C fs)) s4.weak
  cases rx with
  | @obj a _ dx fs' _ hx m1 r1 =>
    cases ry with
    | @obj b _ dy gs' _ hy m2 r2 =>
      refine ⟨a, b, dx, dy, fs', gs', rfl, rfl, s4.sub _ _ hx, s4.sub _ _ hy, ?_⟩
      refine ST.called (I := I4) (ps := ps) (as := [.v (.obj C fs), .v (.obj C gs)]) ?_ rfl fo hc k'
      rw [List.append_assoc] at s4
      exact s4
theorem de_addO (h1 : DE X F a f1) (h2 : DE X F b f2) (G : FnOk X.prog X.w X.K X.mg X.base (L2.CX X.prog X.w) k g fd pn (spD X.K con)) (hr : Room k X.A) (hm : Meth X.K C "__add__" g) (hc : PySem.W.selfFirst X.K C = true) (hb : Binds X.K fd pn []) (tk : Takes X F.W) (fo : FrOk F)
    (hK : F.K = X.K := by first | rfl | assumption) : DE X F (.BinOp a .Add b pos) (eOwn2 F.PX C con f1 f2) := by
  obtain ⟨t1, p1, d1⟩ := h1
  obtain ⟨t2, p2, d2⟩ := h2
  refine ⟨_, pe_addOwn G hr hm hc hb (fun σ => passAt tk σ) p1 p2, ?_⟩
  have z := DT.addO (C := C) (con := con) d1 d2 fo
  rw [hK] at z
  exact z
end
section
variable {i j : Int} {P : Ent → Prop} {xs : List D}
theorem o_slT {lo hi : Option Int} (k : P (.imm (.tup (cutL xs lo hi)))) : oSl (.tup xs) lo hi P := k
theorem o_neP {a b c d : Int} (k : P (.imm (.bl (!decide (a = c ∧ b = d))))) : oNe (.tup [.int a, .int b]) (.tup [.int c, .int d]) P := by
  refine ⟨by show okD 40 _ = true; simp [toPy, toPys, okD, okDs], by show okD 40 _ = true; simp [toPy, toPys, okD, okDs], ?_⟩
  have e : eqD (.tup [.int a, .int b]) (.tup [.int c, .int d]) = decide (a = c ∧ b = d) := by
    unfold eqD
    simp only [toPy, toPys, PyData.eqv, PyData.eqvAll, Bool.and_true]
    by_cases h1 : a = c <;> by_cases h2 : b = d <;> simp [h1, h2]
  rw [e]
  exact k
/-- a mirror's place, told by its first two cells -/
theorem o_neC {a b c d : Int} {z : D} (k : P (.imm (.bl (!decide (a = c ∧ b = d))))) : oNe (.tup (cutL [.int a, .int b, z] none (some 2))) (.tup [.int c, .int d]) P := by
  have e : cutL [D.int a, .int b, z] none (some 2) = [.int a, .int b] := rfl
  rw [e]
  exact o_neP k
end
theorem s_dnT {e : En} {P : Rv → En → Prop} (k : ∀ a, P (.ent (.own a (.dic []))) e) : eDnT e P := k
theorem s_dnK {e : En} {P : Rv → En → Prop} (k : ∀ a, P (.ent (.own a (.dik []))) e) : eDnK e P := k
/-! ### name += own object, by __add__ -/
/-- the class has no other base than object -/
def mroObj (K : PySem.W.Frag) (C : Addr) : Bool := (PySem.W.clsIn K C).any fun cd => cd.mro == [.ref C, .type "object"]
section
open PySem.W
variable {prog : Program} {w : World} {A : Around} {E : Value → Shared → Prop} {s : Shared} {K : Frag} {x C L f : Addr} {h₀ : Heap} {m : Str → Option Value} {ox : Obj} {od : Option Obj}
theorem noInpl {M : Model} {h : Heap} {nm : String} {add : Bool} (X : K.In h) (hc : mroObj K C = true) (hs : findIn K (.ref C) (dunderI nm) = some none) (ho : typeLookup (.type "object") (dunderI nm) = pure none) : Looks M h (fillsInplaceSlot (.ref C) nm add) false := by
  intro A Q E s k q
  obtain ⟨cd, hcd, hm⟩ := any_some hc
  have hm : cd.mro = [.ref C, .type "object"] := beq_iff_eq.mp hm
  unfold fillsInplaceSlot
  refine wpAny_bind ((looks_clsIn X hcd).andThen (f := fun cd => pure cd.mro) .now A _ E s k ?_)
  rw [hm, List.anyM_cons]
  refine wpAny_bind (wpAny_bind (looks_findIn X hs A _ E s k ?_))
  refine wpAny_pure ?_
  rw [List.anyM_cons, ho]
  refine wpAny_bind (wpAny_bind (wpAny_pure ?_))
  refine wpAny_pure ?_
  exact wpAny_pure q
theorem inplace_K {op : Operator} {b : Value} {Q : Value → Shared → Prop} (F : PyProof.Rows.Fr h₀ L s.heap m) (X₀ : K.In h₀) (I : InstAt s.heap x ox C od) (hb : Looks (model prog w) s.heap (typeOf b) (.ref C)) (hc : selfFirst K C = true)
    (hs : findIn K (.ref C) (PySem.dunder op.info.2) = some (some (.ref f))) (hf : isFn K (.ref f) = true) (hc2 : mroObj K C = true) (hi : findIn K (.ref C) (dunderI op.info.2) = some none) (ho : typeLookup (.type "object") (dunderI op.info.2) = pure none)
    (h : wpAny (model prog w) A (call (.ref f) [.ref x, b]) (PySem.W.CmpBack Q) E s) : wpAny (model prog w) A (inplaceOp op (.ref x) b) Q E s := by
  have X := X₀.keeps F.keep
  obtain ⟨cd, hcd, hm⟩ := any_some hc
  obtain ⟨rest, hm⟩ : ∃ rest, cd.mro = .ref C :: rest := by
    cases q : cd.mro with
    | nil => rw [q] at hm; cases hm
    | cons a r => rw [q] at hm; exact ⟨r, by rw [List.head?_cons] at hm; cases (beq_iff_eq.mp hm); rfl⟩
  unfold inplaceOp
  refine wpAny_holding (wpAny_bind (I.type.here (wpAny_bind ((noInpl X hc2 hi ho).here ?_))))
  simp only [Bool.false_eq_true, if_false]
  refine wpAny_bind ?_
  unfold binaryOp1
  refine wpAny_bind (I.type.here (wpAny_bind (hb.here (wpAny_bind ((fills_K X hcd hm hs).here ?_)))))
  simp only [beq_self_eq_true, if_true]
  refine wpAny_bind (wpAny_pure ?_)
  simp only [Bool.and_false, Bool.false_eq_true, if_false, Bool.false_and]
  refine wpAny_bind (wpAny_pure ?_)
  simp only [Bool.false_eq_true, if_false]
  refine wpAny_bind (m := tryMethod (.ref x) _ b) ?_
  unfold tryMethod
  refine wpAny_bind (special_fn X I hs (beq_iff_eq.mp hf) (wpAny_mono h (fun v s' hv => ?_) fun _ _ e => e))
  cases v <;> first | exact hv.elim | exact wpAny_pure (wpAny_pure (wpAny_pure hv))
end
section
variable {X : Cx} {F : Fr} {CX : CXT} {k i : Nat} {C g : Addr} {fd : FuncData} {pn : List Str} {sp : Sp} {con : Con} {b : Expr} {f2 : EvF} {pos pos' : Pos} {tb : TE} {E : L2.St → XK} {x : Str}
theorem ps_augOwn (G : FnOk X.prog X.w X.K X.mg X.base CX k g fd pn sp) (hr : Room k X.A) (hm : Meth X.K C "__add__" g) (hc : PySem.W.selfFirst X.K C = true) (hc2 : mroObj X.K C = true) (hno : PySem.W.findIn X.K (.ref C) "__iadd__" = some none) (hb : Binds X.K fd pn []) (hx : ∀ σ, PassesAt CX X σ (E σ))
    (hN : X.N.Nodup) (hi : X.N[i]? = some x) (hl : Loc X.env.scope x) (hb' : PE X b tb) (ho : typeLookup (.type "object") "__iadd__" = pure none := by rfl) (hf : X.fn x = true ∨ X.env.scope.names.lookup x = some .local := by first | exact .inl rfl | exact .inr rfl | assumption) :
    PS X (.AugAssign (.Name x pos') .Add b pos) (fun D σ H => tVar i σ H fun x H1 => tb σ H1 fun y H2 => rOwn2 C sp (E σ) x y H2 fun z H3 => D.nx (σ.set i (some z)) H3) := by
  refine ⟨fun pins s σ H D I h => ?_⟩
  obtain ⟨v, e1, h⟩ := h
  obtain ⟨m, hn, hl'⟩ := I.loc
  have vis : Vis X.env.scope x := by rcases hl with k | k; exact .inl k; exact .inr (.inl k)
  obtain ⟨u, r, l⟩ := hl' i x v hi e1 vis
  refine wpAny_AugAssign_Name ?_
  have go : wpAny (model X.prog X.w) X.A (eval b X.env) (fun w s₂ => wpAny (model X.prog X.w) X.A (inplaceOp .Add u w) (fun r s₃ => wpAny (model X.prog X.w) X.A (storeName X.env x r) (fun _ => SP X pins D .next) X.xe s₃) X.xe s₂) X.xe s := by
    refine thn (hb'.run pins s σ H _ I h) fun w s1 ⟨y, H1, I1, r1, q1⟩ => ?_
    have op : wpAny (model X.prog X.w) X.A (inplaceOp .Add u w) (EP X pins σ fun z H3 => D.nx (σ.set i (some z)) H3) X.xe s1 := by
      obtain ⟨a', b', dx, dy, fs, gs, rfl, rfl, ea, eb, h⟩ := q1
      obtain rfl : u = Value.ref a' := r
      obtain rfl : w = Value.ref b' := r1
      obtain ⟨_, O, _⟩ := ins_get I1.hok ea
      obtain ⟨_, O', _⟩ := ins_get I1.hok eb
      obtain ⟨_, J, _⟩ := O.look
      obtain ⟨_, J', _⟩ := O'.look
      obtain ⟨_, fr⟩ := I1.fr
      refine inplace_K (op := .Add) fr I1.ok.mod.kin J J'.type hc hm.at_ hm.fn hc2 hno ho ?_
      exact wpAny_mono (run_fnS G hr hb (hx σ) I1 (.cons (show RelV (.ref a') (.ref a') from rfl) (.cons (show RelV (.ref b') (.ref b') from rfl) .nil)) h) (fun _ _ q => back_of q) fun _ _ z => z
    refine thn op fun z s2 ⟨zv, H2, I2, r2, q2⟩ => ?_
    exact store_ok I2 hN hi hl r2 (fun s3 I3 => ⟨_, H2, I3, q2⟩) hf
  rcases l with ⟨hk, hm⟩ | ⟨hk, c, hc, hcell⟩
  · exact wpAny_loadName_local I.ok.kind hk hn hm go
  · rcases hk with hk | hk
    · exact wpAny_loadName_cell I.ok.kind hk hc hcell go
    · rcases hl with k | k
      · have : X.env.scope.names.lookup x = some .free := hk
        rw [k] at this; cases this
      · have : X.env.scope.names.lookup x = some .free := hk
        rw [k] at this; cases this
theorem DT.var : DT F (tVar i) (eVar i) := fun σ I H e ps P Q s h k => by
  rcases h with ⟨d, q, h⟩ | ⟨t, q, h⟩
  · obtain ⟨y, e1, e2⟩ := s.slot q
    exact ⟨y, e1, k y _ e I H h (s.pushI e2)⟩
  · obtain ⟨y, e1, e2⟩ := s.slot q
    exact ⟨y, e1, k y _ e I H h (s.pushS e1 q)⟩
theorem ds_augO (h2 : DE X F b f2) (G : FnOk X.prog X.w X.K X.mg X.base (L2.CX X.prog X.w) k g fd pn (spD X.K con)) (hr : Room k X.A) (hm : Meth X.K C "__add__" g) (hc : PySem.W.selfFirst X.K C = true) (hc2 : mroObj X.K C = true) (hno : PySem.W.findIn X.K (.ref C) "__iadd__" = some none) (hb : Binds X.K fd pn []) (tk : Takes X F.W) (fo : FrOk F)
    (hN : X.N.Nodup) (hi : X.N[i]? = some x) (hl : Loc X.env.scope x) (hK : F.K = X.K := by first | rfl | assumption) (ho : typeLookup (.type "object") "__iadd__" = pure none := by rfl) (hf : X.fn x = true ∨ X.env.scope.names.lookup x = some .local := by first | exact .inl rfl | exact .inr rfl | assumption) :
    DS X F (.AugAssign (.Name x pos') .Add b pos) (sSet i (eOwn2 F.PX C con (eVar i) f2)) := by
  obtain ⟨t2, p2, d2⟩ := h2
  refine ⟨_, ps_augOwn G hr hm hc hc2 hno hb (fun σ => passAt tk σ) hN hi hl p2 ho hf, fun σ I H e ps d D hp s h k => ?_⟩
  have z := DT.addO (C := C) (con := con) (DT.var (F := F) (i := i)) d2 fo
  rw [hK] at z
  refine z σ I H e ps _ _ s h fun x r e1 I1 H1 h1 s1 => ?_
  obtain ⟨e2, ha, h2⟩ := h1
  obtain ⟨I2, s2⟩ := s1.asg (hp.no _) ha
  exact k.nx _ I2 H1 e2 h2 s2
end
/-! ### calls by name -/
def pmL {α : Type} (ix : List Nat) (l : List α) : List α := ix.filterMap fun i => l[i]?
theorem vals_pm {zs : List V} {ws : List Value} (r : Vals zs ws) : ∀ ix : List Nat, Vals (pmL ix zs) (pmL ix ws)
  | [] => .nil
  | i :: ix => by
    unfold pmL
    have hl := r.length
    cases h : zs[i]? with
    | none =>
      have h2 : ws[i]? = none := by
        rw [List.getElem?_eq_none_iff] at h ⊢
        omega
      rw [List.filterMap_cons_none h, List.filterMap_cons_none h2]
      exact vals_pm r ix
    | some z =>
      obtain ⟨w, h2, rz⟩ := Vals.get r h
      rw [List.filterMap_cons_some h, List.filterMap_cons_some h2]
      exact .cons rz (vals_pm r ix)
theorem reps_pm {K : PySem.W.Frag} {I : Hp} {xs : List V} {ds : List D} (r : Reps K I xs ds) : ∀ ix : List Nat, Reps K I (pmL ix xs) (pmL ix ds)
  | [] => .nil
  | i :: ix => by
    unfold pmL
    have hl := r.len
    cases h : ds[i]? with
    | none =>
      have h2 : xs[i]? = none := by
        rw [List.getElem?_eq_none_iff] at h ⊢
        omega
      rw [List.filterMap_cons_none h, List.filterMap_cons_none h2]
      exact reps_pm r ix
    | some z =>
      obtain ⟨w, h2, rz⟩ := r.get h
      rw [List.filterMap_cons_some h, List.filterMap_cons_some h2]
      exact .cons rz (reps_pm r ix)
/-- how a call by name binds: n values ahead, the others by the names ks -/
def KwB (K : PySem.W.Frag) (fd : FuncData) (pn : List Str) (n : Nat) (ks : List Str) (ix : List Nat) : Prop :=
  ∀ (s : Shared) (us ws : List Value), K.In s.heap → us.length = n → ws.length = ks.length → BindsTo s fd ⟨us, ks.zip ws⟩ (pn.zip (us ++ pmL ix ws))
structure DK (X : Cx) (F : Fr) (kws : List Keyword) (f : EvA) : Prop where
  ex : ∃ t, PK X kws t ∧ DTA F t f
section
variable {X : Cx} {F : Fr} {nm : Option Str} {ex : Expr} {kpos : Pos} {kws : List Keyword} {f : EvF} {g : EvA}
theorem dk_nil : DK X F [] aNil := ⟨_, pk_nil, fun σ I H e ps P Q s h k => k [] [] e I H h rfl (by simpa using s)⟩
theorem dk_cons (h1 : DE X F ex f) (h2 : DK X F kws g) : DK X F (⟨nm, ex, kpos⟩ :: kws) (aCons f g) := by
  obtain ⟨t1, p1, d1⟩ := h1
  obtain ⟨t2, p2, d2⟩ := h2
  refine ⟨_, pk_cons p1 p2, fun σ I H e ps P Q s h k => ?_⟩
  refine d1 σ I H e ps _ _ s h fun x r e1 I1 H1 h1 s1 => ?_
  refine d2 σ I1 H1 e1 _ _ _ s1 h1 fun xs rs e2 I2 H2 h2 hl s2 => ?_
  refine k (x :: xs) (r :: rs) e2 I2 H2 h2 (by simp [hl]) ?_
  rw [List.zip_cons_cons]
  rw [List.append_assoc] at s2
  exact s2
end
theorem ST.pushReps {F : Fr} {σ : L2.St} {I H : Hp} {e : En} : ∀ {xs : List V} {ds : List D} {ps : Tm}, ST F σ I H e ps → Reps F.K I xs ds → ST F σ I H e (ps ++ xs.zip ((ds.map Ag.v).map Ag.rv))
  | _, _, ps, s, .nil => by simpa using s
  | x :: xs, d :: ds, ps, s, .cons r rr => by
    have z := ST.pushReps (s.pushI r) rr
    rw [List.append_assoc] at z
    exact z
def eMethK (PX : Addr → D → En → Prop) (C : Addr) (m : Str) (con : Con) (ix : List Nat) (nk : Nat) (f : EvF) (g : EvA) : EvF := fun e P => f e fun r e1 => ∃ fs e2, frz e1 r = some (.obj C fs, e2) ∧ fs.lookup m = none ∧ g e2 fun rs e3 => ∃ ds e4, frzs e3 rs = some (ds, e4) ∧ ds.length = nk ∧ callD PX con ((D.obj C fs :: pmL ix ds).map Ag.v) e4 P
def eMakeK (PX : Addr → D → En → Prop) (con : Con) (ix : List Nat) (nk : Nat) (g : EvA) : EvF := fun e P => g e fun rs e1 => ∃ ds e2, frzs e1 rs = some (ds, e2) ∧ ds.length = nk ∧ callD PX con ((pmL ix ds).map Ag.v) e2 P
section
variable {X : Cx} {F : Fr} {CX : CXT} {k : Nat} {f C : Addr} {fd : FuncData} {pn ks : List Str} {ix : List Nat} {con : Con} {sp : Sp} {x m : Str} {p apos pos : Pos} {o : Expr} {kws : List Keyword} {g : EvA} {fo' : EvF} {ta : TE} {tk : TA} {E : L2.St → XK}
theorem pe_methEK {pl : Sem Bool} (he : PE X o ta) (c : Cls X.K C) (hm : Meth X.K C m f) (G : FnOk X.prog X.w X.K X.mg X.base CX k f fd pn sp) (hr : Room k X.A) (hb : KwB X.K fd pn 1 ks ix) (hx : ∀ σ, PassesAt CX X σ (E σ)) (hkw : PK X kws tk)
    (hall : (backToKw pos (keywordEach kws X.env)).all (·.1.isSome) = true := by rfl) (hks : (backToKw pos (keywordEach kws X.env)).filterMap (·.1) = ks := by rfl)
    (hpl : ((backTo pos (starEach [] X.env)).any (·.1) || (backToKw pos (keywordEach kws X.env)).any (·.1.isNone)) = false := by rfl)
    (ht : eval (.Call (.Attribute o m apos) [] kws pos) X.env = (do
      let ov ← eval o X.env; standAt apos.atName; let (f, first) ← holding [ov] (getMethod ov m pl)
      callWith pos f first (backTo pos (starEach [] X.env)) (backToKw pos (keywordEach kws X.env))) := by rfl) :
    PE X (.Call (.Attribute o m apos) [] kws pos) (fun σ H Q => ta σ H fun x H1 => ∃ a dx fs, x = .ref a ∧ H1 a = some (.ins C dx fs) ∧ fs.lookup m = none ∧ tk σ H1 fun zs H2 => zs.length = ks.length ∧ sp (.ref a :: pmL ix zs) H2 Q (E σ)) := by
  constructor
  intro pins s σ H Q I h
  apply PySem.W.methodCall_KW (pl := pl) (thn (he.run pins s σ H _ I h) ?_) ht
  rintro u s1 ⟨x, H1, I1, rx, a, dx, fs, rfl, ea, l, q⟩
  cases rx
  apply getmeth_ok I1 ea c hm l
  refine PySem.W.callWith_KW0 (first := [.ref a]) (h₀ := X.base) I.ok.mod.kin hm.kp hall (thn (hkw.run pos pins s1 σ H1 _ I1 q) fun ws s2 ⟨zs, H2, I2, rz, l2, q2⟩ => ⟨I2.kIn, ?_⟩) hpl
  rw [hks]
  have r2 : Vals (V.ref a :: pmL ix zs) (Value.ref a :: pmL ix ws) := .cons (show RelV (.ref a) (.ref a) from rfl) (vals_pm rz ix)
  refine wpAny_call (codeAny_mono (G.run X.A X.stack s2 H2 ⟨[.ref a], ks.zip ws⟩ (.ref a :: pmL ix ws) (.ref a :: pmL ix zs) Q (E σ) hr I2.env0 (hb s2 [.ref a] ws I2.kIn rfl (rz.length.symm.trans l2)) r2 q2) fun r s' hq => ?_)
  cases r with
  | error e => exact hx σ pins _ _ e s' I2 hq
  | ok fl =>
    cases fl with
    | ret u => exact I2.after hq
    | next => exact False.elim hq
    | brk => exact False.elim hq
    | cont => exact False.elim hq
theorem de_methK {pl : Sem Bool} (ho : DE X F o fo') (c : Cls X.K C) (hm : Meth X.K C m f) (G : FnOk X.prog X.w X.K X.mg X.base (L2.CX X.prog X.w) k f fd pn (spD X.K con)) (hr : Room k X.A) (hb : KwB X.K fd pn 1 ks ix) (tk : Takes X F.W) (fo : FrOk F) (hkw : DK X F kws g) (hK : F.K = X.K := by first | rfl | assumption)
    (hall : (backToKw pos (keywordEach kws X.env)).all (·.1.isSome) = true := by rfl) (hks : (backToKw pos (keywordEach kws X.env)).filterMap (·.1) = ks := by rfl)
    (hpl : ((backTo pos (starEach [] X.env)).any (·.1) || (backToKw pos (keywordEach kws X.env)).any (·.1.isNone)) = false := by rfl)
    (ht : eval (.Call (.Attribute o m apos) [] kws pos) X.env = (do
      let ov ← eval o X.env; standAt apos.atName; let (f, first) ← holding [ov] (getMethod ov m pl)
      callWith pos f first (backTo pos (starEach [] X.env)) (backToKw pos (keywordEach kws X.env))) := by rfl) :
    DE X F (.Call (.Attribute o m apos) [] kws pos) (eMethK F.PX C m con ix ks.length fo' g) := by
  obtain ⟨t0, p0, d0⟩ := ho
  obtain ⟨t, pk, dk⟩ := hkw
  refine ⟨_, pe_methEK (pl := pl) p0 c hm G hr hb (fun σ => passAt tk σ) pk hall hks hpl ht, fun σ I H e ps P Q s h k => ?_⟩
  refine d0 σ I H e ps _ _ s h fun x r e1 I1 H1 h1 s1 => ?_
  obtain ⟨fs, e2, hf, hn, h2⟩ := h1
  obtain ⟨I2, _, s2⟩ := s1.frz hf
  have rx : Rep F.K I2 x (.obj C fs) := ST.temp (qs := []) (t := .imm (.obj C fs)) s2
  cases rx with
  | @obj a _ dx gs _ hx mm rr =>
    refine ⟨a, dx, gs, rfl, s2.sub _ _ hx, fs_none mm hn, ?_⟩
    refine dk σ I2 H1 e2 _ _ _ s2 h2 fun zs rs e3 I3 H3 h3 hl s3 => ?_
    obtain ⟨ds, e4, hfz, hlen, hc⟩ := h3
    obtain ⟨I4, l4, s4, r4⟩ := s3.frzs hl hfz
    refine ⟨by rw [r4.len]; exact hlen, ?_⟩
    rw [← hK]
    have rx4 : Rep F.K I4 (.ref a) (.obj C fs) := ST.temp (qs := []) (t := .imm (.obj C fs)) s4
    have rp : Reps F.K I4 (.ref a :: pmL ix zs) (.obj C fs :: pmL ix ds) := .cons rx4 (reps_pm r4 ix)
    exact ST.called (s4.weak.pushReps rp) (by rw [List.length_map]; exact rp.len) fo hc k
theorem pe_makeEK (M : Mk X.K C f) (G : FnOk X.prog X.w X.K X.mg X.base CX k f fd pn sp) (hr : Room (k + 1) X.A) (hg : Gl X x) (hm : X.mg x = some (.ref C)) (hb : KwB X.K fd pn 1 ks ix) (hx : ∀ σ, PassesAt CX X σ (E σ)) (hkw : PK X kws tk)
    (hall : (backToKw pos (keywordEach kws X.env)).all (·.1.isSome) = true := by rfl) (hks : (backToKw pos (keywordEach kws X.env)).filterMap (·.1) = ks := by rfl) (hdb : (x == ("__debug__" : Str)) = false := by decide)
    (hpl : ((backTo pos (starEach [] X.env)).any (·.1) || (backToKw pos (keywordEach kws X.env)).any (·.1.isNone)) = false := by rfl) :
    PE X (.Call (.Name x p) [] kws pos) (fun σ H Q => tk σ H fun zs H1 => zs.length = ks.length ∧ ∀ q dx, H1 q = none → H1 dx = none → dx ≠ q → sp (.ref q :: pmL ix zs) (upd (upd H1 dx (.own q)) q (.ins C dx [])) (fun v H2 => v = .non ∧ Q (.ref q) H2) (E σ)) := by
  constructor
  intro pins s σ H Q I h
  refine wpAny_Call_Name_kw (ld_glob I hg hm ?_ hdb)
  refine PySem.W.callWith_KW0 (h₀ := X.base) I.ok.mod.kin M.kp hall ?_ hpl
  refine thn (hkw.run pos pins s σ H _ I h) fun ws s1 ⟨zs, H1, I1, rz, l2, q⟩ => ⟨I1.kIn, ?_⟩
  rw [hks]
  have hq := q (s1.heap.objs.size + 1) s1.heap.objs.size (I1.hok.fresh (Nat.le_succ _)) (I1.hok.fresh (Nat.le_refl _)) (Nat.ne_of_lt (Nat.lt_succ_self _))
  have I2 := Inv.made (C := C) I1
  have r2 : Vals (V.ref (s1.heap.objs.size + 1) :: pmL ix zs) (Value.ref (s1.heap.objs.size + 1) :: pmL ix ws) := .cons (show RelV (.ref _) (.ref _) from rfl) (vals_pm rz ix)
  have b := hb _ [Value.ref (s1.heap.objs.size + 1)] ws I2.kIn rfl (rz.length.symm.trans l2)
  apply wpAny_call
  apply make_map (f := f) I1.kIn M.makes M.init (beq_iff_eq.mp M.fn)
  apply codeAny_mono (G.run _ X.stack _ _ ⟨[Value.ref (s1.heap.objs.size + 1)], ks.zip ws⟩ _ _ _ (E σ) (hr.make C [] (ks.zip ws)) (I2.env0.make C [] (ks.zip ws)) b r2 hq)
  intro r s' hq'
  match r, hq' with
  | .error e, hq' => exact hx σ pins _ _ e s' I2 hq'
  | .ok (.ret u), hq' =>
    obtain ⟨v, H', I3, rv, ev, q3⟩ := I2.after hq'
    subst ev
    exact ⟨rv, ⟨V.ref (s1.heap.objs.size + 1), H', I3, rfl, q3⟩⟩
theorem de_makeK (M : Mk X.K C f) (G : FnOk X.prog X.w X.K X.mg X.base (L2.CX X.prog X.w) k f fd pn sp) (hM : MkD X.K C sp con) (hr : Room (k + 1) X.A) (hg : Gl X x) (hm : X.mg x = some (.ref C)) (hb : KwB X.K fd pn 1 ks ix) (tk : Takes X F.W) (fo : FrOk F) (hkw : DK X F kws g)
    (hK : F.K = X.K := by first | rfl | assumption) (hall : (backToKw pos (keywordEach kws X.env)).all (·.1.isSome) = true := by rfl) (hks : (backToKw pos (keywordEach kws X.env)).filterMap (·.1) = ks := by rfl) (hdb : (x == ("__debug__" : Str)) = false := by decide)
    (hpl : ((backTo pos (starEach [] X.env)).any (·.1) || (backToKw pos (keywordEach kws X.env)).any (·.1.isNone)) = false := by rfl) :
    DE X F (.Call (.Name x p) [] kws pos) (eMakeK F.PX con ix ks.length g) := by
  obtain ⟨t, pk, dk⟩ := hkw
  refine ⟨_, pe_makeEK M G hr hg hm hb (fun σ => passAt tk σ) pk hall hks hdb hpl, fun σ I H e ps P Q s h k => ?_⟩
  refine dk σ I H e ps _ _ s h fun zs rs e1 I1 H1 h1 hl s1 => ?_
  obtain ⟨ds, e2, hfz, hlen, hc⟩ := h1
  obtain ⟨I2, l2, s2, r2⟩ := s1.frzs hl hfz
  refine ⟨by rw [r2.len]; exact hlen, ?_⟩
  have rp := reps_pm r2 ix
  have z := ST.called (s2.pushReps rp) (by rw [List.length_map]; exact rp.len) fo hc k
  rw [hK] at z
  exact hM _ H1 Q _ z
end
section
variable {e : En} {P : Rv → En → Prop} {PX : Addr → D → En → Prop} {C : Addr} {m : Str} {con : Con} {ix : List Nat} {nk : Nat} {f : EvF} {g : EvA}
theorem s_methK (k : f e fun r e1 => ∃ fs e2, frz e1 r = some (.obj C fs, e2) ∧ fs.lookup m = none ∧ g e2 fun rs e3 => ∃ ds e4, frzs e3 rs = some (ds, e4) ∧ ds.length = nk ∧ callD PX con ((D.obj C fs :: pmL ix ds).map Ag.v) e4 P) : eMethK PX C m con ix nk f g e P := k
theorem s_makeK (k : g e fun rs e1 => ∃ ds e2, frzs e1 rs = some (ds, e2) ∧ ds.length = nk ∧ callD PX con ((pmL ix ds).map Ag.v) e2 P) : eMakeK PX con ix nk g e P := k
theorem x_frzsK {R : List D → En → Prop} {ds : List D} {e1 : En} {rs : List Rv} (h : frzs e rs = some (ds, e1)) (h2 : ds.length = nk) (k : R ds e1) : ∃ ds e2, frzs e rs = some (ds, e2) ∧ ds.length = nk ∧ R ds e2 := ⟨ds, e1, h, h2, k⟩
end
/-! ### != of own objects, by __eq__ -/
section
open PySem.W
variable {prog : Program} {w : World} {A : Around} {E : Value → Shared → Prop} {s : Shared} {K : Frag} {x C L f : Addr} {h₀ : Heap} {m : Str → Option Value} {ox : Obj} {od : Option Obj} {b tb : Value}
theorem one_bind (self : Value) : bindSpecial (.builtin "object.__ne__") self = pure (.builtin "object.__ne__", [self]) :=
  (Slot.of (T := "object") (name := "__ne__") (owner := "object") (n := "__ne__") (by rw [typeLookup_type, builtinLookup_eq_fast]; kernel_rfl) (by decide +kernel) (by decide +kernel) (by decide +kernel)
    (.inl (by decide +kernel)) (by rw [isSubtype_type]; kernel_rfl)).bind self
theorem objNe_K {Q : Fin → Shared → Prop} (hu : A.units < cLine) (X : K.In s.heap) (I : InstAt s.heap x ox C od) (hs : findIn K (.ref C) "__eq__" = some (some (.ref f))) (hf : isFn K (.ref f) = true)
    (h : wpAny (model prog w) A (call (.ref f) [.ref x, b]) (fun v s' => ∃ bb, v = .bool bb ∧ Q (.done (.ret (.bool (!bb)))) s') E s) : wpAny (model prog w) A (Builtin.«object.__ne__» ⟨[.ref x, b], []⟩) Q E s := by
  have go := ifBound_K (M := model prog w) (A := A) (E := E) (args := [b]) (Q := fun r s' => ∃ bb, r = some (.bool bb) ∧ Q (.done (.ret (.bool (!bb)))) s') X I hs hf (wpAny_mono h (fun v s' hv => by
    obtain ⟨bb, rfl, hq⟩ := hv
    exact ⟨bb, rfl, hq⟩) fun _ _ e => e)
  obtain ⟨hh, g, d, t, os⟩ := s
  unfold Builtin.«object.__ne__»
  repeat (first
    | with_reducible refine wpAny_cRoomFor hu ?_
    | (refine wpAny_bind (m := callSpecialIfBound? (.ref x) (Str.ofString "__eq__") [b]) (wpAny_mono go (fun r s' hr => by
        obtain ⟨bb, rfl, hq⟩ := hr
        repeat (first | exact hq | exact wpAny_pure hq | exact wpAny_truthy_bool hq | (refine wpAny_bind (m := truthy (.bool _)) (wpAny_truthy_bool ?_)) | wp_step)) fun _ _ e => e))
    | wp_step)
theorem ne_K {Q : Value → Shared → Prop} (hu : A.units + 1 < cLine) (F : PyProof.Rows.Fr h₀ L s.heap m) (X₀ : K.In h₀) (I : InstAt s.heap x ox C od) (hb : Looks (model prog w) s.heap (typeOf b) tb) (hn : notFirst K C tb = true)
    (hne : findIn K (.ref C) "__ne__" = some (some (.builtin "object.__ne__"))) (hmo : mroIn K C (.type "object") = some true) (hs : findIn K (.ref C) "__eq__" = some (some (.ref f))) (hf : isFn K (.ref f) = true)
    (h : wpAny (model prog w) A.in1 (call (.ref f) [.ref x, b]) (fun v s' => ∃ bb, v = .bool bb ∧ Q (.bool (!bb)) s') E s) : wpAny (model prog w) A (richCompare .NotEq (.ref x) b) Q E s := by
  have X := X₀.keeps F.keep
  have ck : Looks (model prog w) s.heap (isInstance (.ref x) (.type "object")) true := (I.type).andThen (looks_mroIn X hmo)
  have cl : wpAny (model prog w) A (call (.builtin "object.__ne__") ([.ref x] ++ [b]) >>= fun v => pure (some v)) (fun r s' => ∃ bb, r = some (.bool bb) ∧ Q (.bool bb) s') E s := by
    refine wpAny_bind (wpAny_call (codeAny_call_builtin (id := "object.__ne__") (by decide +kernel) PySem.F.cmpEntry_ne (check_slot PySem.F.cmpKind_ne PySem.F.cmpSplit_ne ck (PySem.F.cmpArgs_ne _ _) ?_) ))
    exact objNe_K (A := A.in1) hu X I hs hf (wpAny_mono h (fun v s' hv => by
      obtain ⟨bb, rfl, hq⟩ := hv
      exact ⟨bb, rfl, wpAny_pure ⟨_, rfl, hq⟩⟩) fun _ _ e => e)
  have one : wpAny (model prog w) A (tryCompare (.ref x) (cmpInfo .NotEq).2.1 b) (fun r s' => ∃ v, r = some v ∧ Q v s') E s := by
    unfold tryCompare
    refine wpAny_bind ?_
    simp only [callSpecialIfBound?, bindSpecialIfBound?]
    refine wpAny_holding (wpAny_bind (wpAny_bind (wpAny_bind (I.type.here ((looks_findIn X hne).here ?_)))))
    refine wpAny_bind (wpAny_askSetting (wpAny_ite ?_))
    split
    · exact wpAny_bind ((Looks.of_pure (one_bind _)).here (wpAny_pure (by exact wpAny_mono cl (fun r s' hr => by obtain ⟨bb, rfl, hq⟩ := hr; exact wpAny_pure ⟨_, rfl, hq⟩) fun _ _ e => e)))
    · exact wpAny_tryCatch (wpAny_bind ((Looks.of_pure (one_bind _)).here (wpAny_pure (by exact wpAny_mono cl (fun r s' hr => by obtain ⟨bb, rfl, hq⟩ := hr; exact wpAny_pure ⟨_, rfl, hq⟩) fun _ _ e => e))))
  unfold richCompare
  simp only [oneThing_ref]
  refine wpAny_holding (wpAny_bind (wpAny_cRoomFor (Nat.lt_of_succ_lt hu) ?_))
  refine wpAny_bind (I.type.here (wpAny_bind (hb.here ?_)))
  split
  · rename_i q
    have e : subIn K tb (.ref C) = some false := by
      rcases Bool.or_eq_true_iff.mp hn with e | e
      · rw [beq_iff_eq.mp e] at q; simp at q
      · exact beq_iff_eq.mp e
    refine wpAny_bind ((looks_subIn X e).here ?_)
    simp only [Bool.false_eq_true, if_false]
    refine wpAny_bind (wpAny_mono one (fun r s' z => ?_) fun _ _ e => e)
    obtain ⟨v, rfl, hq⟩ := z
    exact wpAny_pure hq
  · refine wpAny_bind (wpAny_pure ?_)
    simp only [Bool.false_eq_true, if_false]
    refine wpAny_bind (wpAny_mono one (fun r s' z => ?_) fun _ _ e => e)
    obtain ⟨v, rfl, hq⟩ := z
    exact wpAny_pure hq
end
/-! ### own objects against any value: ==, != -/
def rEqX (K : PySem.W.Frag) (C : Addr) (sp : Sp) (E : XK) : R2 := fun x y H Q => ∃ a dx fs t, x = .ref a ∧ H a = some (.ins C dx fs) ∧ TyX K H y t ∧ PySem.W.notFirst K C t = true ∧ sp [.ref a, y] H Q E
def rNeX (K : PySem.W.Frag) (C : Addr) (sp : Sp) (E : XK) : R2 := fun x y H Q => ∃ a dx fs t, x = .ref a ∧ H a = some (.ins C dx fs) ∧ TyX K H y t ∧ PySem.W.notFirst K C t = true ∧ sp [.ref a, y] H (fun v H2 => ∃ b, v = .bl b ∧ Q (.bl (!b)) H2) E
section
variable {X : Cx} {CX : CXT} {k : Nat} {C g : Addr} {fd : FuncData} {ps : List Str} {sp : Sp} {E : XK}
theorem o_eqX (F : FnOk X.prog X.w X.K X.mg X.base CX k g fd ps sp) (hr : Room k X.A) (hm : Meth X.K C "__eq__" g) (hb : Binds X.K fd ps []) (hx : Passes CX X E) : OpR X (compareOp .Eq) (rEqX X.K C sp E) := by
  intro pins s σ H x y v u Q I rx ry h
  obtain ⟨a, dx, fs, t, rfl, ea, ty, nf, h⟩ := h
  obtain rfl : v = Value.ref a := rx
  obtain ⟨_, O, _⟩ := ins_get I.hok ea
  obtain ⟨_, J, _⟩ := O.look
  obtain ⟨P, Z, p, _⟩ := kit_of I ry ty
  obtain ⟨_, fr⟩ := I.fr
  refine PySem.W.cmp_K (op := .Eq) (tb := t) hr.units0 fr I.ok.mod.kin J (Z.ty _ _ I.kIn p) nf hm.at_ hm.fn ?_
  exact wpAny_mono (run_fn (dvs := []) F hr hb .nil hx I (.cons (show RelV (.ref a) (.ref a) from rfl) (.cons ry .nil)) h) (fun _ _ q => back_of q) fun _ _ z => z
theorem o_neX (F : FnOk X.prog X.w X.K X.mg X.base CX k g fd ps sp) (hr : Room (k + 1) X.A) (hm : Meth X.K C "__eq__" g) (hne : PySem.W.findIn X.K (.ref C) "__ne__" = some (some (.builtin "object.__ne__"))) (hmo : PySem.W.mroIn X.K C (.type "object") = some true) (hb : Binds X.K fd ps []) (hx : Passes CX X E) : OpR X (compareOp .NotEq) (rNeX X.K C sp E) := by
  intro pins s σ H x y v u Q I rx ry h
  obtain ⟨a, dx, fs, t, rfl, ea, ty, nf, h⟩ := h
  obtain rfl : v = Value.ref a := rx
  obtain ⟨_, O, _⟩ := ins_get I.hok ea
  obtain ⟨_, J, _⟩ := O.look
  obtain ⟨P, Z, p, _⟩ := kit_of I ry ty
  obtain ⟨_, fr⟩ := I.fr
  have hu : X.A.units + 1 < cLine := by have := hr.un; omega
  have r2 : Vals [V.ref a, y] [Value.ref a, u] := .cons (show RelV (.ref a) (.ref a) from rfl) (.cons ry .nil)
  have hl : [Value.ref a, u].length = ps.length := by rw [← r2.length]; exact F.len _ _ _ _ h
  refine ne_K (tb := t) hu fr I.ok.mod.kin J (Z.ty _ _ I.kIn p) nf hne hmo hm.at_ hm.fn ?_
  refine wpAny_call (codeAny_mono (F.run X.A.in1 X.stack s H ⟨[.ref a, u], []⟩ [.ref a, u] [.ref a, y] _ E hr.in1 I.env0.in1 (hb s _ I.kIn hl) r2 h) fun r s' hq => ?_)
  cases r with
  | error e => exact hx pins σ H s e s' I hq
  | ok fl =>
    cases fl with
    | ret u' =>
      obtain ⟨z, H', I', rz, b, rfl, q⟩ := I.after hq
      cases (show u' = Value.bool b from rz)
      exact ⟨b, rfl, .bl (!b), H', I', rfl, q⟩
    | next => exact False.elim hq
    | brk => exact False.elim hq
    | cont => exact False.elim hq
end
/-- a value whose class does not come ahead of C in a comparison -/
def NoFst (K : PySem.W.Frag) (C : Addr) (d : D) : Prop := (∀ C' fs, d = .obj C' fs → IsiC K C') ∧ ∃ t, tyOfD d = some t ∧ PySem.W.notFirst K C t = true
def eEqX (K : PySem.W.Frag) (C : Addr) (con : Con) (f1 f2 : EvF) : EvF := fun e P => f1 e fun r1 e1 => f2 e1 fun r2 e2 => ∃ fs d e3 e4, frz e2 r1 = some (.obj C fs, e3) ∧ frz e3 r2 = some (d, e4) ∧ NoFst K C d ∧ callD (fun _ _ _ => False) con [.v (.obj C fs), .v d] e4 P
def eNeX (K : PySem.W.Frag) (C : Addr) (con : Con) (f1 f2 : EvF) : EvF := fun e P => f1 e fun r1 e1 => f2 e1 fun r2 e2 => ∃ fs d e3 e4, frz e2 r1 = some (.obj C fs, e3) ∧ frz e3 r2 = some (d, e4) ∧ NoFst K C d ∧ callD (fun _ _ _ => False) con [.v (.obj C fs), .v d] e4 fun r e5 => ∃ b : Bool, r = .ent (.imm (.bl b)) ∧ P (.ent (.imm (.bl (!b)))) e5
section
variable {X : Cx} {F : Fr} {k : Nat} {C g : Addr} {fd : FuncData} {pn : List Str} {con : Con} {a b : Expr} {f1 f2 : EvF} {pos : Pos}
theorem de_eqX (h1 : DE X F a f1) (h2 : DE X F b f2) (G : FnOk X.prog X.w X.K X.mg X.base (L2.CX X.prog X.w) k g fd pn (spD X.K con)) (hr : Room k X.A) (hm : Meth X.K C "__eq__" g) (hb : Binds X.K fd pn []) (hK : F.K = X.K := by first | rfl | assumption) (hmk : behindInMarks .Eq b = false := by exact nomark _) :
    DE X F (.Compare a [.Eq] [b] pos) (eEqX X.K C con f1 f2) := by
  obtain ⟨t1, p1, d1⟩ := h1
  obtain ⟨t2, p2, d2⟩ := h2
  refine ⟨_, pe_cmpR (o_eqX G hr hm hb (E := fun _ _ _ => False) passL) p1 p2 hmk, fun σ I H e ps P Q s h k' => ?_⟩
  rw [← hK] at h ⊢
  refine d1 σ I H e ps _ _ s h fun x r1 e1 I1 H1 h1 s1 => ?_
  refine d2 σ I1 H1 e1 _ _ _ s1 h1 fun y r2 e2 I2 H2 h2 s2 => ?_
  obtain ⟨fs, d, e3, e4, hf, hg, ⟨hC, t, ht, nf⟩, hc⟩ := h2
  rw [List.append_assoc] at s2
  obtain ⟨I3, _, s3⟩ := s2.frz hf
  have s3' : ST F σ I3 H2 e3 ((ps ++ [(x, .im (.obj C fs))]) ++ [(y, r2)]) := by rw [List.append_assoc]; exact s3
  obtain ⟨I4, _, s4⟩ := s3'.frz hg
  have ry : Rep F.K I4 y d := ST.temp (ps := ps ++ [(x, .im (.obj C fs))]) (qs := []) (t := .imm d) s4
  have rx : Rep F.K I4 x (.obj C fs) := ST.temp (ps := ps) (qs := []) (t := .imm (.obj C fs)) s4.weak
  have ty : TyX F.K H2 y t := tyX_of s4.sub (.inl ry) hC ht
  cases rx with
  | @obj a _ dx fs' _ hx m1 r1 =>
      refine ⟨a, dx, fs', t, rfl, s4.sub _ _ hx, ty, nf, ?_⟩
      refine ST.called (F := F.nox) (I := I4) (ps := ps) (as := [.v (.obj C fs), .v d]) ?_ rfl frok_nox hc fun x r e' I' H' p s => k' x r e' I' H' p s.unnox
      rw [List.append_assoc] at s4
      exact s4.nox
theorem de_neX (h1 : DE X F a f1) (h2 : DE X F b f2) (G : FnOk X.prog X.w X.K X.mg X.base (L2.CX X.prog X.w) k g fd pn (spD X.K con)) (hr : Room (k + 1) X.A) (hm : Meth X.K C "__eq__" g) (hne : PySem.W.findIn X.K (.ref C) "__ne__" = some (some (.builtin "object.__ne__"))) (hmo : PySem.W.mroIn X.K C (.type "object") = some true) (hb : Binds X.K fd pn []) (hK : F.K = X.K := by first | rfl | assumption) (hmk : behindInMarks .NotEq b = false := by exact nomark _) :
    DE X F (.Compare a [.NotEq] [b] pos) (eNeX X.K C con f1 f2) := by
  obtain ⟨t1, p1, d1⟩ := h1
  obtain ⟨t2, p2, d2⟩ := h2
  refine ⟨_, pe_cmpR (o_neX G hr hm hne hmo hb (E := fun _ _ _ => False) passL) p1 p2 hmk, fun σ I H e ps P Q s h k' => ?_⟩
  rw [← hK] at h ⊢
  refine d1 σ I H e ps _ _ s h fun x r1 e1 I1 H1 h1 s1 => ?_
  refine d2 σ I1 H1 e1 _ _ _ s1 h1 fun y r2 e2 I2 H2 h2 s2 => ?_
  obtain ⟨fs, d, e3, e4, hf, hg, ⟨hC, t, ht, nf⟩, hc⟩ := h2
  rw [List.append_assoc] at s2
  obtain ⟨I3, _, s3⟩ := s2.frz hf
  have s3' : ST F σ I3 H2 e3 ((ps ++ [(x, .im (.obj C fs))]) ++ [(y, r2)]) := by rw [List.append_assoc]; exact s3
  obtain ⟨I4, _, s4⟩ := s3'.frz hg
  have ry : Rep F.K I4 y d := ST.temp (ps := ps ++ [(x, .im (.obj C fs))]) (qs := []) (t := .imm d) s4
  have rx : Rep F.K I4 x (.obj C fs) := ST.temp (ps := ps) (qs := []) (t := .imm (.obj C fs)) s4.weak
  have ty : TyX F.K H2 y t := tyX_of s4.sub (.inl ry) hC ht
  cases rx with
  | @obj a _ dx fs' _ hx m1 r1 =>
      refine ⟨a, dx, fs', t, rfl, s4.sub _ _ hx, ty, nf, ?_⟩
      have s5 : ST F.nox σ I4 H2 e4 (ps ++ [V.ref a, y].zip ([Ag.v (.obj C fs), Ag.v d].map Ag.rv)) := by
        rw [List.append_assoc] at s4
        exact s4.nox
      refine ST.called (F := F.nox) (I := I4) (ps := ps) (as := [.v (.obj C fs), .v d]) s5 rfl frok_nox hc fun x r e' I' H' ⟨b, hb', p⟩ s => ?_
      subst hb'
      have rn : Rep F.K I' x (.bl b) := ST.temp (F := F.nox) (qs := []) (t := .imm (.bl b)) s
      cases rn
      exact ⟨b, rfl, k' _ _ e' I' H' p (s.unnox.weak.pushI (.bl (!b)))⟩
end
/-! ### xs[::-1] -/
theorem fm_congr {α β : Type} {f g : α → Option β} : ∀ {l : List α}, (∀ x ∈ l, f x = g x) → l.filterMap f = l.filterMap g
  | [], _ => rfl
  | x :: l, h => by
    rw [List.filterMap_cons, List.filterMap_cons, h x (List.mem_cons_self ..), fm_congr (l := l) fun y hy => h y (List.mem_cons_of_mem _ hy)]
theorem pick_rev {α : Type} (l : List α) : ((List.range l.length).map fun (k : Nat) => ((l.length : Int) - 1 + -1 * (k : Int)).toNat).filterMap (l.toArray[·]?) = l.reverse := by
  have e := pick_run l.reverse.toArray 0 l.length
  have e2 : (l.reverse.toArray.toList.drop 0).take l.length = l.reverse := by
    show (l.reverse.drop 0).take l.length = l.reverse
    rw [List.drop_zero, List.take_of_length_le (by rw [List.length_reverse]; exact Nat.le_refl _)]
  rw [e2] at e
  rw [← e, List.filterMap_map, List.filterMap_map]
  refine fm_congr fun k hk => ?_
  have hk := List.mem_range.mp hk
  show l.toArray[((l.length : Int) - 1 + -1 * (k : Int)).toNat]? = l.reverse.toArray[0 + k]?
  rw [show ((l.length : Int) - 1 + -1 * (k : Int)).toNat = l.length - 1 - k by omega, Nat.zero_add, List.getElem?_toArray, List.getElem?_toArray, List.getElem?_reverse hk]
theorem sliceRange_back (n : Nat) : sliceRange ((n : Int) - 1) (-1) (-1) = (List.range n).map fun (k : Nat) => ((n : Int) - 1 + -1 * (k : Int)).toNat := by
  have c : ((if (-1 : Int) > 0 then (if (n : Int) - 1 < -1 then (-1 - ((n : Int) - 1) + -1 - 1) / -1 else 0) else (if (n : Int) - 1 > -1 then ((n : Int) - 1 - -1 - -1 - 1) / (- -1) else 0)) : Int).toNat = n := by
    rw [if_neg (by decide)]
    by_cases h : (n : Int) - 1 > -1
    · rw [if_pos h, show (- -1 : Int) = 1 by decide, Int.ediv_one]
      omega
    · rw [if_neg h]
      omega
  show (List.range ((if (-1 : Int) > 0 then (if (n : Int) - 1 < -1 then (-1 - ((n : Int) - 1) + -1 - 1) / -1 else 0) else (if (n : Int) - 1 > -1 then ((n : Int) - 1 - -1 - -1 - 1) / (- -1) else 0)) : Int).toNat).map _ = _
  rw [c]
theorem slicePick_rev (its : List Value) : slicePick its.toArray none none (some (-1)) = its.reverse.toArray := by
  have e : sliceBounds none none (some (-1)) its.toArray.size = ((its.length : Int) - 1, -1, -1) := by
    rw [List.size_toArray]
    rfl
  unfold slicePick
  rw [e, ← pick_rev its]
  show ((sliceRange ((its.length : Int) - 1) (-1) (-1)).filterMap _).toArray = _
  rw [sliceRange_back]
def rRev (K : PySem.W.Frag) : V → Hp → VK → Prop := fun x H Q => ∃ a xs, x = .ref a ∧ SqL K H a xs ∧ ∀ p, H p = none → Q (.ref p) (upd H p (.lst xs.reverse))
def tRev (K : PySem.W.Frag) (te ts : TE) : TE := fun σ H Q => te σ H fun x H1 => ts σ H1 fun z H2 => z = .int (-1) ∧ rRev K x H2 Q
def eRev (f g : EvF) : EvF := fun e P => f e fun r e1 => g e1 fun r2 e2 => ∃ ds, val e2 r = some (.lst ds) ∧ val e2 r2 = some (.int (-1)) ∧ ∀ a, P (.ent (.own a (.lst ds.reverse))) e2
section
variable {X : Cx} {F : Fr} {f g : EvF} {e st : Expr} {te ts : TE} {p2 pos : Pos}
theorem pe_rev (he : PE X e te) (hs : PE X st ts) : PE X (.Subscript e (.Slice none none (some st) p2) pos) (tRev X.K te ts) := by
  refine ⟨fun pins s σ H Q I h => ?_⟩
  refine Subscript_ (thn (he.run pins s σ H _ I h) fun v s1 ⟨x, H1, I1, r1, q1⟩ => ?_)
  refine wpAny_Slice ?_
  rw [evalPart_none]
  refine wpAny_pure (wpAny_pure ?_)
  rw [evalPart_some]
  refine thn (hs.run pins s1 σ H1 _ I1 q1) fun vs s3 ⟨z, H3, I3, rz, hz, a, xs, hx, hq, q⟩ => ?_
  subst hz
  subst hx
  obtain ⟨tz, rfl⟩ := rz
  cases (show v = Value.ref a from r1)
  obtain ⟨s4, hs4⟩ : ∃ s4 : Shared, s4 = { s3 with heap := s3.heap.push { cls := .type "slice", data := .fields #[.none, .none, .int (-1) tz] } } := ⟨_, rfl⟩
  have I4 : Inv X pins σ H3 s4 := by
    rw [hs4]
    exact I3.kept (t' := s3.toks) fun b ob q => Heap.get?_push_of_some _ q
  have hsl : s4.heap.IsSliceOf s3.heap.objs.size .none .none (.int (-1) tz) := by
    rw [hs4]
    exact Heap.IsSliceOf.new ..
  obtain ⟨its, r, ht, hz⟩ := I4.list hq
  have hlen := r.length
  rw [← hs4]
  show wpAny (model X.prog X.w) X.A (subscriptTail e (.Slice none none (some st) p2) (.ref a) (.ref s3.heap.objs.size)) (EP X pins σ Q) X.xe s4
  refine tail_any (ops := [.ref a, .ref s3.heap.objs.size]) ht.isList.typeIs slot_list_getitem.lookup ?_ (by with_unfolding_all rfl)
  refine wpAny_getItem_list_slice ht.isList hsl .none .none (.int (-1) tz) (by simp) ?_ (by rw [List.size_toArray] <;> omega)
  rw [slicePick_rev]
  refine ⟨.ref s4.heap.objs.size, _, I4.laid (t' := s4.toks) (o := .lst xs.reverse) (fun b ob q => Heap.get?_push_of_some _ q) (Nat.le_refl _) ?_, rfl, q _ (I4.hok.fresh (Nat.le_refl _))⟩
  exact ⟨by rw [List.length_reverse]; exact hz, _, 0, r.reverse, Heap.get?_push_size _ rfl⟩
theorem de_rev (h1 : DE X F e f) (h2 : DE X F st g) (hK : F.K = X.K := by first | rfl | assumption) : DE X F (.Subscript e (.Slice none none (some st) p2) pos) (eRev f g) := by
  obtain ⟨t1, p1, d1⟩ := h1
  obtain ⟨t2, p2, d2⟩ := h2
  refine ⟨_, pe_rev p1 p2, fun σ I H e ps P Q s h k => ?_⟩
  rw [← hK]
  refine d1 σ I H e ps _ _ s h fun x r e1 I1 H1 h1 s1 => ?_
  refine d2 σ I1 H1 e1 _ _ _ s1 h1 fun y r2 e2 I2 H2 h2 s2 => ?_
  obtain ⟨ds, v1, v2, q⟩ := h2
  have w2 := s2.vw (qs := []) v2
  have s2' := s2
  rw [List.append_assoc] at s2'
  have w1 := s2'.vw (qs := [(y, r2)]) v1
  obtain ⟨a, xs, rfl, q1, rr⟩ := w1.lst s2.sub
  have kk : Lands F.K I2 H2 (fun t => P (.ent t) e2) Q := fun z t I4 H4 p4 g4 r4 n4 => k z _ e2 I4 H4 p4 (s2.weak.weak.pushG g4 r4 n4)
  exact ⟨w2.int, a, xs, rfl, SqL.of q1, kk.lst s2.sub q rr.rev⟩
end
theorem s_rev {f g : EvF} {e : En} {P : Rv → En → Prop} (k : f e fun r e1 => g e1 fun r2 e2 => ∃ ds, val e2 r = some (.lst ds) ∧ val e2 r2 = some (.int (-1)) ∧ ∀ a, P (.ent (.own a (.lst ds.reverse))) e2) : eRev f g e P := k
theorem s_eqX {K : PySem.W.Frag} {C : Addr} {con : Con} {f1 f2 : EvF} {e : En} {P : Rv → En → Prop} (k : f1 e fun r1 e1 => f2 e1 fun r2 e2 => ∃ fs d e3 e4, frz e2 r1 = some (.obj C fs, e3) ∧ frz e3 r2 = some (d, e4) ∧ NoFst K C d ∧ callD (fun _ _ _ => False) con [.v (.obj C fs), .v d] e4 P) : eEqX K C con f1 f2 e P := k
theorem s_neX {K : PySem.W.Frag} {C : Addr} {con : Con} {f1 f2 : EvF} {e : En} {P : Rv → En → Prop} (k : f1 e fun r1 e1 => f2 e1 fun r2 e2 => ∃ fs d e3 e4, frz e2 r1 = some (.obj C fs, e3) ∧ frz e3 r2 = some (d, e4) ∧ NoFst K C d ∧ callD (fun _ _ _ => False) con [.v (.obj C fs), .v d] e4 fun r e5 => ∃ b : Bool, r = .ent (.imm (.bl b)) ∧ P (.ent (.imm (.bl (!b)))) e5) : eNeX K C con f1 f2 e P := k
theorem x_nb {b : Bool} {R : Bool → Prop} (k : R b) : ∃ c : Bool, Rv.ent (.imm (.bl b)) = .ent (.imm (.bl c)) ∧ R c := ⟨b, rfl, k⟩
theorem x_rev {e : En} {r1 r2 : Rv} {ds : List D} {R : List D → Prop} (h : val e r1 = some (.lst ds)) (h2 : val e r2 = some (.int (-1))) (k : R ds) : ∃ ds, val e r1 = some (.lst ds) ∧ val e r2 = some (.int (-1)) ∧ R ds := ⟨ds, h, h2, k⟩
/-! ### range with great ends -/
section
open PySem.W
theorem turn_long {P : Program} {w : World} {K : PySem.W.Frag} {tg : Expr} (it : Addr) (lo : Int) (n : Nat) : Turn P w K tg (Itr lo n) [it] it (fun i h => IsLongIter h it (lo + (i : Nat) * 1) ((n : Int) - (i : Nat)) 1) where
  mem := by simp
  obj := fun i h st b hb => by
    have e : b = it := by simpa using hb
    subst e
    exact ⟨_, st, fun v z => by
      have z' : Data.fields _ = Data.cell v := z
      cases z'⟩
  keep := fun i h h' st k => k it (by simp) _ st
  item := by
    intro X hP hw hK hc i pins s σ H E I hf st hg
    subst hP hw hK
    obtain ⟨f0, f1, f2, f3, f4, f5⟩ := hf it (by simp)
    have W := Walks.longrange (prog := X.prog) (w := X.w) (I.ok.hd hc) it lo 1 n
    refine W.item i s _ _ hg st fun v h' tk hv st' kk => ?_
    obtain ⟨t, rfl⟩ := hv
    have I1 : Inv X pins σ H { s with heap := h', toks := tk } := I.turned (fun b o hb e => kk b o (by simpa using hb) e) f0 f1 f3 f4 f5
    refine ⟨_, rfl, go_of (s := { s with heap := h', toks := tk }) (n := "longrange_iterator") st' rfl rfl (by decide) ⟨.int (lo + i), H, I1, ⟨t, ?_⟩, ⟨rfl, rfl⟩, st', fun b hb => (hf b hb).1⟩⟩
    rw [Int.mul_one]
  done := by
    intro X hP hw hK hc i pins s σ H E I hf st hg
    subst hP hw hK
    obtain ⟨f0, f1, f2, f3, f4, f5⟩ := hf it (by simp)
    exact wpAny_pyNext_long_end (I.ok.hd hc) st (by have : n ≤ i := hg; omega) fun h' eb => ⟨rfl, I.turned (t' := s.toks) (fun b o hb e => eb b o hb e) f0 f1 f3 f4 f5⟩
  self := fun _ _ _ _ _ st h => wpAny_pyIter_longiter st h
variable {X : Cx} {tg : Expr}
theorem range_itL {pins : List (Addr × Obj)} {σ : L2.St} {H : Hp} {s : Shared} {R : It → Hp → Prop} {E : Value → Shared → Prop} {lo hi : Int} {t u v : Tok} {tk : Nat} (I : Inv X pins σ H s)
    (q : R (Itr lo (hi - lo).toNat) H) : wpAny (model X.prog X.w) X.A (pyIter (.ref s.heap.objs.size)) (PIE X pins σ tg R) E { s with heap := s.heap.push { cls := .type "range", data := .fields #[.int lo t, .int hi u, .int 1 v] }, toks := tk } := by
  have I1 : Inv X pins σ H { s with heap := s.heap.push { cls := .type "range", data := .fields #[.int lo t, .int hi u, .int 1 v] }, toks := tk } := I.kept fun b o e => Heap.get?_push_of_some _ e
  have sz : (((hi - lo).toNat : Nat) : Int) - ((0 : Nat) : Int) = Builtin.Range.rangeSize lo hi 1 := by rw [rangeSize_one]; split <;> omega
  have e1 : lo + ((0 : Nat) : Int) * 1 = lo := by simp
  have fp : ∀ b ∈ [(s.heap.push { cls := .type "range", data := .fields #[.int lo t, .int hi u, .int 1 v] }).objs.size], FpOk X pins H b := fun b hb => by
    have e : b = (s.heap.push { cls := .type "range", data := .fields #[.int lo t, .int hi u, .int 1 v] }).objs.size := by simpa using hb
    subst e
    exact I1.fpOk (Nat.le_refl _) (I1.hok.fresh (Nat.le_refl _))
  cases hs : Builtin.Range.small lo hi 1 with
  | true =>
    refine wpAny_pyIter_range (IsRange.new ..) hs ?_
    refine ⟨(s.heap.push { cls := .type "range", data := .fields #[.int lo t, .int hi u, .int 1 v] }).objs.size, [(s.heap.push { cls := .type "range", data := .fields #[.int lo t, .int hi u, .int 1 v] }).objs.size], _, _, H, rfl,
      I1.kept (t' := tk) fun b o e => Heap.get?_push_of_some _ e, turn_range _ lo (hi - lo).toNat, ?_, fp, q⟩
    show IsRangeIter _ _ (lo + ((0 : Nat) : Int) * 1) ((((hi - lo).toNat : Nat) : Int) - ((0 : Nat) : Int)) 1
    rw [e1, sz]
    exact Heap.get?_push_size _ rfl
  | false =>
    refine wpAny_pyIter_longrange (IsRange.new ..) hs ?_
    refine ⟨(s.heap.push { cls := .type "range", data := .fields #[.int lo t, .int hi u, .int 1 v] }).objs.size, [(s.heap.push { cls := .type "range", data := .fields #[.int lo t, .int hi u, .int 1 v] }).objs.size], _, _, H, rfl,
      I1.kept (t' := tk) fun b o e => Heap.get?_push_of_some _ e, turn_long _ lo (hi - lo).toNat, ?_, fp, q⟩
    show IsLongIter _ _ (lo + ((0 : Nat) : Int) * 1) ((((hi - lo).toNat : Nat) : Int) - ((0 : Nat) : Int)) 1
    rw [e1, sz]
    exact Heap.get?_push_size _ rfl
def iRng1L (ta : TA) : TI := fun σ H R => ta σ H fun vs H1 => ∃ j : Int, vs = [.int j] ∧ R (Itr 0 (j - 0).toNat) H1
def iRng2L (ta : TA) : TI := fun σ H R => ta σ H fun vs H1 => ∃ i j : Int, vs = [.int i, .int j] ∧ R (Itr i (j - i).toNat) H1
theorem pi_range1L {a : Expr} {ta : TA} {p pos : Pos} (hg : Gl X "range") (hm : X.mg "range" = none) (ha : PA X [a] ta) (hs : starEach [a] X.env = [(false, eval a X.env)] := by rfl) : PI X tg (.Call (.Name "range" p) [a] [] pos) (iRng1L ta) := by
  refine ⟨fun pins s σ H R I h => ?_⟩
  refine Call_ (ld_blt I hg hm boot_range (PyProof.Rows.callWith_type1 (thn (ha.run pos pins s σ H _ I h) fun us s1 ⟨vs, H1, I1, r1, q1⟩ => ?_) hs rfl))
  obtain ⟨j, e, q⟩ := q1
  subst e
  cases r1 with
  | cons r rr =>
    cases rr
    obtain ⟨t, rfl⟩ := r
    exact call_range_1 (range_itL I1 q)
theorem pi_range2L {a b : Expr} {ta : TA} {p pos : Pos} (hg : Gl X "range") (hm : X.mg "range" = none) (ha : PA X [a, b] ta) (hs : starEach [a, b] X.env = [(false, eval a X.env), (false, eval b X.env)] := by rfl) (hs2 : starEach [b] X.env = [(false, eval b X.env)] := by rfl) :
    PI X tg (.Call (.Name "range" p) [a, b] [] pos) (iRng2L ta) := by
  refine ⟨fun pins s σ H R I h => ?_⟩
  refine Call_ (ld_blt I hg hm boot_range (PyProof.Rows.callWith_type1 (thn (ha.run pos pins s σ H _ I h) fun us s1 ⟨vs, H1, I1, r1, q1⟩ => ?_) (by rw [hs, hs2]) (by rw [hs2]; rfl)))
  obtain ⟨i, j, e, q⟩ := q1
  subst e
  cases r1 with
  | cons r rr =>
    cases rr with
    | cons r' rr =>
      cases rr
      obtain ⟨t, rfl⟩ := r
      obtain ⟨t', rfl⟩ := r'
      exact call_range_2 (range_itL I1 q)
end
def LongR (p : Prop) : Prop := p
def wRng1L (f : EvA) : EvI := fun e P => f e fun rs e1 => ∃ j, vals e1 rs = some [.int j] ∧ LongR (P (rngD 0 1 (j - 0).toNat) e1)
def wRng2L (f : EvA) : EvI := fun e P => f e fun rs e1 => ∃ i j, vals e1 rs = some [.int i, .int j] ∧ LongR (P (rngD i 1 (j - i).toNat) e1)
section
variable {X : Cx} {F : Fr} {tg a b : Expr} {g : EvA} {p pos : Pos} {fa : EvA} {e : En} {rs : List Rv}
theorem di_rng1L (hg : Gl X "range") (hm : X.mg "range" = none) (h : DA X F [a] g) (hs : starEach [a] X.env = [(false, eval a X.env)] := by rfl) : DI X F tg (.Call (.Name "range" p) [a] [] pos) (wRng1L g) := by
  obtain ⟨t, q, d⟩ := h
  refine ⟨_, pi_range1L hg hm q hs, fun σ I H e ps P R s h k => ?_⟩
  refine d σ I H e ps _ _ s h fun xs rs e1 I1 H1 h1 hl s1 => ?_
  obtain ⟨j, v, h2⟩ := h1
  exact ⟨j, (s1.vws hl v).ints1, k _ _ [] e1 I1 H1 h2 imms0 (by rw [List.append_nil]; exact s1.weak) itd_rng⟩
theorem di_rng2L (hg : Gl X "range") (hm : X.mg "range" = none) (h : DA X F [a, b] g) (hs : starEach [a, b] X.env = [(false, eval a X.env), (false, eval b X.env)] := by rfl) (hs2 : starEach [b] X.env = [(false, eval b X.env)] := by rfl) :
    DI X F tg (.Call (.Name "range" p) [a, b] [] pos) (wRng2L g) := by
  obtain ⟨t, q, d⟩ := h
  refine ⟨_, pi_range2L hg hm q hs hs2, fun σ I H e ps P R s h k => ?_⟩
  refine d σ I H e ps _ _ s h fun xs rs e1 I1 H1 h1 hl s1 => ?_
  obtain ⟨i, j, v, h2⟩ := h1
  exact ⟨i, j, (s1.vws hl v).ints2, k _ _ [] e1 I1 H1 h2 imms0 (by rw [List.append_nil]; exact s1.weak) itd_rng⟩
theorem s_rng1L {PI : List D → En → Prop} (k : fa e fun rs e1 => ∃ j, vals e1 rs = some [.int j] ∧ LongR (PI (rngD 0 1 (j - 0).toNat) e1)) : wRng1L fa e PI := k
theorem x_rng1L {R : Int → Prop} {z : Int} (h : vals e rs = some [.int z]) (k : R z) : ∃ j, vals e rs = some [.int j] ∧ LongR (R j) := ⟨z, h, k⟩
theorem s_rng2L {PI : List D → En → Prop} (k : fa e fun rs e1 => ∃ i j, vals e1 rs = some [.int i, .int j] ∧ LongR (PI (rngD i 1 (j - i).toNat) e1)) : wRng2L fa e PI := k
theorem x_rng2L {R : Int → Int → Prop} {x z : Int} (h : vals e rs = some [.int x, .int z]) (k : R x z) : ∃ i j, vals e rs = some [.int i, .int j] ∧ LongR (R i j) := ⟨x, z, h, k⟩
end
/-! ### list * int; lists of ints compared; isinstance of built-in things -/
abbrev intsD (ns : List Int) : D := .lst (ns.map D.int)
theorem isi_of {K : PySem.W.Frag} {d : D} {T : Value} {n : String} {b : Bool} {P : Ent → Prop} (h0 : ∀ C fs, d ≠ .obj C fs) (ht : tyOfD d = some T) (h : PySem.W.kitOne K T (.type n) = some b) (k : P (.imm (.bl b))) : cIsi K [d, .ty n] P :=
  ⟨d, .ty n, rfl, fun C fs e => absurd e (h0 C fs), T, .type n, b, ht, rfl, h, k⟩
theorem isi_int {K : PySem.W.Frag} {i : Int} {n : String} {b : Bool} {P : Ent → Prop} (h : PySem.W.kitOne K (.type "int") (.type n) = some b) (k : P (.imm (.bl b))) : cIsi K [.int i, .ty n] P := isi_of (fun _ _ => nofun) rfl h k
theorem isi_bl {K : PySem.W.Frag} {i : Bool} {n : String} {b : Bool} {P : Ent → Prop} (h : PySem.W.kitOne K (.type "bool") (.type n) = some b) (k : P (.imm (.bl b))) : cIsi K [.bl i, .ty n] P := isi_of (fun _ _ => nofun) rfl h k
theorem isi_str {K : PySem.W.Frag} {i : Str} {n : String} {b : Bool} {P : Ent → Prop} (h : PySem.W.kitOne K (.type "str") (.type n) = some b) (k : P (.imm (.bl b))) : cIsi K [.str i, .ty n] P := isi_of (fun _ _ => nofun) rfl h k
theorem isi_non {K : PySem.W.Frag} {n : String} {b : Bool} {P : Ent → Prop} (h : PySem.W.kitOne K (.type "NoneType") (.type n) = some b) (k : P (.imm (.bl b))) : cIsi K [.non, .ty n] P := isi_of (fun _ _ => nofun) rfl h k
theorem isi_tup {K : PySem.W.Frag} {ds : List D} {n : String} {b : Bool} {P : Ent → Prop} (h : PySem.W.kitOne K (.type "tuple") (.type n) = some b) (k : P (.imm (.bl b))) : cIsi K [.tup ds, .ty n] P := ⟨_, _, rfl, fun C fs e => (by cases e), _, _, b, rfl, rfl, h, k⟩
theorem isi_lst {K : PySem.W.Frag} {ds : List D} {n : String} {b : Bool} {P : Ent → Prop} (h : PySem.W.kitOne K (.type "list") (.type n) = some b) (k : P (.imm (.bl b))) : cIsi K [.lst ds, .ty n] P := ⟨_, _, rfl, fun C fs e => (by cases e), _, _, b, rfl, rfl, h, k⟩
theorem isi_bl_bool {K : PySem.W.Frag} {i : Bool} {P : Ent → Prop} (k : P (.imm (.bl true))) : cIsi K [.bl i, .ty "bool"] P := isi_bl rfl k
theorem isi_bl_int {K : PySem.W.Frag} {i : Bool} {P : Ent → Prop} (k : P (.imm (.bl true))) : cIsi K [.bl i, .ty "int"] P := isi_bl rfl k
theorem isi_bl_str {K : PySem.W.Frag} {i : Bool} {P : Ent → Prop} (k : P (.imm (.bl false))) : cIsi K [.bl i, .ty "str"] P := isi_bl rfl k
theorem isi_bl_list {K : PySem.W.Frag} {i : Bool} {P : Ent → Prop} (k : P (.imm (.bl false))) : cIsi K [.bl i, .ty "list"] P := isi_bl rfl k
theorem isi_bl_tuple {K : PySem.W.Frag} {i : Bool} {P : Ent → Prop} (k : P (.imm (.bl false))) : cIsi K [.bl i, .ty "tuple"] P := isi_bl rfl k
theorem isi_int_bool {K : PySem.W.Frag} {i : Int} {P : Ent → Prop} (k : P (.imm (.bl false))) : cIsi K [.int i, .ty "bool"] P := isi_int rfl k
theorem isi_int_int {K : PySem.W.Frag} {i : Int} {P : Ent → Prop} (k : P (.imm (.bl true))) : cIsi K [.int i, .ty "int"] P := isi_int rfl k
theorem isi_int_str {K : PySem.W.Frag} {i : Int} {P : Ent → Prop} (k : P (.imm (.bl false))) : cIsi K [.int i, .ty "str"] P := isi_int rfl k
theorem isi_int_list {K : PySem.W.Frag} {i : Int} {P : Ent → Prop} (k : P (.imm (.bl false))) : cIsi K [.int i, .ty "list"] P := isi_int rfl k
theorem isi_int_tuple {K : PySem.W.Frag} {i : Int} {P : Ent → Prop} (k : P (.imm (.bl false))) : cIsi K [.int i, .ty "tuple"] P := isi_int rfl k
theorem isi_str_bool {K : PySem.W.Frag} {i : Str} {P : Ent → Prop} (k : P (.imm (.bl false))) : cIsi K [.str i, .ty "bool"] P := isi_str rfl k
theorem isi_str_int {K : PySem.W.Frag} {i : Str} {P : Ent → Prop} (k : P (.imm (.bl false))) : cIsi K [.str i, .ty "int"] P := isi_str rfl k
theorem isi_str_str {K : PySem.W.Frag} {i : Str} {P : Ent → Prop} (k : P (.imm (.bl true))) : cIsi K [.str i, .ty "str"] P := isi_str rfl k
theorem isi_str_list {K : PySem.W.Frag} {i : Str} {P : Ent → Prop} (k : P (.imm (.bl false))) : cIsi K [.str i, .ty "list"] P := isi_str rfl k
theorem isi_str_tuple {K : PySem.W.Frag} {i : Str} {P : Ent → Prop} (k : P (.imm (.bl false))) : cIsi K [.str i, .ty "tuple"] P := isi_str rfl k
theorem isi_lst_bool {K : PySem.W.Frag} {ds : List D} {P : Ent → Prop} (k : P (.imm (.bl false))) : cIsi K [.lst ds, .ty "bool"] P := isi_lst rfl k
theorem isi_lst_int {K : PySem.W.Frag} {ds : List D} {P : Ent → Prop} (k : P (.imm (.bl false))) : cIsi K [.lst ds, .ty "int"] P := isi_lst rfl k
theorem isi_lst_str {K : PySem.W.Frag} {ds : List D} {P : Ent → Prop} (k : P (.imm (.bl false))) : cIsi K [.lst ds, .ty "str"] P := isi_lst rfl k
theorem isi_lst_list {K : PySem.W.Frag} {ds : List D} {P : Ent → Prop} (k : P (.imm (.bl true))) : cIsi K [.lst ds, .ty "list"] P := isi_lst rfl k
theorem isi_lst_tuple {K : PySem.W.Frag} {ds : List D} {P : Ent → Prop} (k : P (.imm (.bl false))) : cIsi K [.lst ds, .ty "tuple"] P := isi_lst rfl k
theorem isi_tup_bool {K : PySem.W.Frag} {ds : List D} {P : Ent → Prop} (k : P (.imm (.bl false))) : cIsi K [.tup ds, .ty "bool"] P := isi_tup rfl k
theorem isi_tup_int {K : PySem.W.Frag} {ds : List D} {P : Ent → Prop} (k : P (.imm (.bl false))) : cIsi K [.tup ds, .ty "int"] P := isi_tup rfl k
theorem isi_tup_str {K : PySem.W.Frag} {ds : List D} {P : Ent → Prop} (k : P (.imm (.bl false))) : cIsi K [.tup ds, .ty "str"] P := isi_tup rfl k
theorem isi_tup_list {K : PySem.W.Frag} {ds : List D} {P : Ent → Prop} (k : P (.imm (.bl false))) : cIsi K [.tup ds, .ty "list"] P := isi_tup rfl k
theorem isi_tup_tuple {K : PySem.W.Frag} {ds : List D} {P : Ent → Prop} (k : P (.imm (.bl true))) : cIsi K [.tup ds, .ty "tuple"] P := isi_tup rfl k
theorem isi_non_bool {K : PySem.W.Frag}  {P : Ent → Prop} (k : P (.imm (.bl false))) : cIsi K [.non, .ty "bool"] P := isi_non rfl k
theorem isi_non_int {K : PySem.W.Frag}  {P : Ent → Prop} (k : P (.imm (.bl false))) : cIsi K [.non, .ty "int"] P := isi_non rfl k
theorem isi_non_str {K : PySem.W.Frag}  {P : Ent → Prop} (k : P (.imm (.bl false))) : cIsi K [.non, .ty "str"] P := isi_non rfl k
theorem isi_non_list {K : PySem.W.Frag}  {P : Ent → Prop} (k : P (.imm (.bl false))) : cIsi K [.non, .ty "list"] P := isi_non rfl k
theorem isi_non_tuple {K : PySem.W.Frag}  {P : Ent → Prop} (k : P (.imm (.bl false))) : cIsi K [.non, .ty "tuple"] P := isi_non rfl k
theorem o_isN_non  {P : Ent → Prop} (k : P (.imm (.bl true))) : oIs (.non) .non P := k
theorem o_notN_non  {P : Ent → Prop} (k : P (.imm (.bl false))) : oIsNot (.non) .non P := k
theorem o_isN_bl {i : Bool} {P : Ent → Prop} (k : P (.imm (.bl false))) : oIs (.bl i) .non P := k
theorem o_notN_bl {i : Bool} {P : Ent → Prop} (k : P (.imm (.bl true))) : oIsNot (.bl i) .non P := k
theorem o_isN_int {i : Int} {P : Ent → Prop} (k : P (.imm (.bl false))) : oIs (.int i) .non P := k
theorem o_notN_int {i : Int} {P : Ent → Prop} (k : P (.imm (.bl true))) : oIsNot (.int i) .non P := k
theorem o_isN_str {i : Str} {P : Ent → Prop} (k : P (.imm (.bl false))) : oIs (.str i) .non P := k
theorem o_notN_str {i : Str} {P : Ent → Prop} (k : P (.imm (.bl true))) : oIsNot (.str i) .non P := k
theorem o_isN_lst {ds : List D} {P : Ent → Prop} (k : P (.imm (.bl false))) : oIs (.lst ds) .non P := k
theorem o_notN_lst {ds : List D} {P : Ent → Prop} (k : P (.imm (.bl true))) : oIsNot (.lst ds) .non P := k
theorem o_isN_tup {ds : List D} {P : Ent → Prop} (k : P (.imm (.bl false))) : oIs (.tup ds) .non P := k
theorem o_notN_tup {ds : List D} {P : Ent → Prop} (k : P (.imm (.bl true))) : oIsNot (.tup ds) .non P := k
theorem o_isN_obj {C : Addr} {fs : List (Str × D)} {P : Ent → Prop} (k : P (.imm (.bl false))) : oIs (.obj C fs) .non P := k
theorem o_notN_obj {C : Addr} {fs : List (Str × D)} {P : Ent → Prop} (k : P (.imm (.bl true))) : oIsNot (.obj C fs) .non P := k
theorem o_eqB {a b : Bool} {P : Ent → Prop} (k : P (.imm (.bl (decide (a = b))))) : oEq (.bl a) (.bl b) P := by
  refine ⟨rfl, rfl, ?_⟩
  rw [show eqD (.bl a) (.bl b) = decide (a = b) from by cases a <;> cases b <;> rfl]
  exact k
def oRep : DO2
  | .lst ds, .int k, P => (-(2 ^ 63) ≤ k ∧ k < 2 ^ 63) ∧ ds.length * k.toNat ≤ sizeLine ∧ ∀ a, P (.own a (.lst (List.replicate k.toNat ds).flatten))
  | _, _, _ => False
theorem o_rep {ds : List D} {k : Int} {P : Ent → Prop} (h1 : -(2 ^ 63) ≤ k ∧ k < 2 ^ 63) (h2 : ds.length * k.toNat ≤ sizeLine) (q : ∀ a, P (.own a (.lst (List.replicate k.toNat ds).flatten))) : oRep (.lst ds) (.int k) P := ⟨h1, h2, q⟩
theorem Reps.rep {K : PySem.W.Frag} {I : Hp} {xs : List V} {ds : List D} (h : Reps K I xs ds) : ∀ n : Nat, Reps K I (List.replicate n xs).flatten (List.replicate n ds).flatten
  | 0 => .nil
  | n + 1 => by
    rw [List.replicate_succ, List.replicate_succ, List.flatten_cons, List.flatten_cons]
    exact h.app (h.rep n)
theorem dor_rep {X : Cx} : DOR X (binaryOp .Mult) oRep := ⟨_, op_rep, fun I H x y c d P Q s v1 v2 h k => by
  cases c with
  | lst ds =>
    cases d with
    | int j =>
      obtain ⟨a, xs, rfl, h1, r1⟩ := v1.lst s
      exact ⟨a, j, xs, rfl, v2.int, h1, h.1.1, h.1.2, by rw [r1.len]; exact h.2.1, k.lst s h.2.2 (r1.rep _)⟩
    | _ => exact h.elim
  | _ => exact h.elim⟩
theorem okDs_ints (n : Nat) : ∀ ns : List Int, okDs n (toPys (ns.map D.int)) = true
  | [] => rfl
  | i :: ns => by
    rw [List.map_cons, toPys, okDs, okDs_ints n ns]
    rfl
theorem toPys_len : ∀ ds : List D, (toPys ds).length = ds.length
  | [] => rfl
  | d :: ds => by rw [toPys, List.length_cons, List.length_cons, toPys_len ds]
theorem intsOk (n : Nat) {ns : List Int} (h : ns.length ≤ 1000000) : okD (n + 1) (toPy (intsD ns)) = true := by
  show okD (n + 1) (.list (toPys (ns.map D.int))) = true
  rw [okD, Bool.and_eq_true]
  exact ⟨decide_eq_true (by rw [toPys_len, List.length_map]; exact h), okDs_ints n ns⟩
theorem eqvAll_ints : ∀ a b : List Int, PyData.eqvAll (toPys (a.map D.int)) (toPys (b.map D.int)) = decide (a = b)
  | [], [] => rfl
  | [], _ :: _ => rfl
  | _ :: _, [] => rfl
  | i :: a, j :: b => by
    rw [List.map_cons, List.map_cons, toPys, toPys]
    show (PyData.eqv (.int i) (.int j) && PyData.eqvAll (toPys (a.map D.int)) (toPys (b.map D.int))) = _
    rw [eqvAll_ints a b]
    show (decide (i = j) && decide (a = b)) = _
    by_cases h1 : i = j <;> by_cases h2 : a = b <;> simp [h1, h2]
theorem o_eqIs {a b : List Int} {P : Ent → Prop} (h1 : a.length ≤ 1000000) (h2 : b.length ≤ 1000000) (k : P (.imm (.bl (decide (a = b))))) : oEq (intsD a) (intsD b) P := by
  refine ⟨intsOk 39 h1, intsOk 39 h2, ?_⟩
  rw [show eqD (intsD a) (intsD b) = decide (a = b) from eqvAll_ints a b]
  exact k
theorem o_lenI {ns : List Int} {P : Ent → Prop} (k : P (.imm (.int ((ns.length : Nat) : Int)))) : cLen [intsD ns] P := by
  show P (.imm (.int (((ns.map D.int).length : Nat) : Int)))
  rw [List.length_map]
  exact k
theorem ixI {row : List Int} {z : Int} {P : Ent → Prop} (h0 : 0 ≤ z) (h1 : z < row.length) (k : P (.imm (.int (row.getD z.toNat 0)))) : oIx (intsD row) (.int z) P := by
  refine ⟨z.toNat, .int (row.getD z.toNat 0), ?_, ?_, k⟩
  · unfold ixN
    rw [List.length_map]
    rw [if_pos h0, if_pos (by omega)]
  · have hz : z.toNat < row.length := by omega
    rw [List.getElem?_map, List.getElem?_eq_getElem hz, List.getD_eq_getElem?_getD, List.getElem?_eq_getElem hz]
    rfl
theorem rep_one {α : Type} (r : α) : ∀ n : Nat, (List.replicate n [r]).flatten = List.replicate n r
  | 0 => rfl
  | n + 1 => by rw [List.replicate_succ, List.flatten_cons, rep_one r n]; rfl
theorem o_rep1 {r k : Int} {P : Ent → Prop} (h1 : 0 ≤ k ∧ k ≤ 1000000) (q : ∀ a, P (.own a (intsD (List.replicate k.toNat r)))) : oRep (.lst [.int r]) (.int k) P := by
  refine o_rep ⟨by omega, by omega⟩ (by rw [List.length_singleton]; unfold sizeLine; omega) fun a => ?_
  rw [rep_one, show List.replicate k.toNat (D.int r) = (List.replicate k.toNat r).map D.int from List.map_replicate.symm]
  exact q a
theorem o_intB {b : Bool} {P : Ent → Prop} (k : P (.imm (.int (if b then 1 else 0)))) : cInt [.bl b] P := k
theorem kit_no {K : PySem.W.Frag} {C : Addr} {n : String} (z : PySem.W.isClsIn K C = true) (t : PySem.W.typeIn K (.ref C) = some (.type "type")) (h : PySem.W.subIn K (.type n) (.ref C) = some false) : PySem.W.kitOne K (.type n) (.ref C) = some false := by
  have z' : (PySem.W.clsIn K C).isSome = true := z
  show (if (Value.type n == Value.ref C) = true then some true else if ((PySem.W.clsIn K C).isSome && PySem.W.typeIn K (.ref C) == some (.type "type")) = true then PySem.W.subIn K (.type n) (.ref C) else none) = some false
  rw [if_neg (show ¬ ((Value.type n == Value.ref C) = true) from fun q => by cases q), z', t, if_pos (by decide +kernel), h]
theorem nofst {K : PySem.W.Frag} {C : Addr} {n : String} {d : D} (hn : ∀ C fs, d ≠ .obj C fs) (ht : tyOfD d = some (.type n)) (h : PySem.W.subIn K (.type n) (.ref C) = some false) : NoFst K C d :=
  ⟨fun C' fs e => absurd e (hn C' fs), _, ht, by unfold PySem.W.notFirst; rw [h]; simp⟩
theorem sub_tuple {K : PySem.W.Frag} {C : Addr} : PySem.W.subIn K (.type "tuple") (.ref C) = some false := rfl
theorem sub_list {K : PySem.W.Frag} {C : Addr} : PySem.W.subIn K (.type "list") (.ref C) = some false := rfl
theorem sub_str {K : PySem.W.Frag} {C : Addr} : PySem.W.subIn K (.type "str") (.ref C) = some false := rfl
theorem sub_int {K : PySem.W.Frag} {C : Addr} : PySem.W.subIn K (.type "int") (.ref C) = some false := rfl
theorem sub_bool {K : PySem.W.Frag} {C : Addr} : PySem.W.subIn K (.type "bool") (.ref C) = some false := rfl
theorem sub_none {K : PySem.W.Frag} {C : Addr} : PySem.W.subIn K (.type "NoneType") (.ref C) = some false := rfl
theorem kit_self {K : PySem.W.Frag} {t : Value} : PySem.W.kitOne K t t = some true := by
  unfold PySem.W.kitOne
  rw [if_pos (by simp)]
theorem o_neIs {a b : List Int} {P : Ent → Prop} (h1 : a.length ≤ 1000000) (h2 : b.length ≤ 1000000) (k : P (.imm (.bl (!decide (a = b))))) : oNe (intsD a) (intsD b) P := by
  refine ⟨intsOk 39 h1, intsOk 39 h2, ?_⟩
  rw [show eqD (intsD a) (intsD b) = decide (a = b) from eqvAll_ints a b]
  exact k
/-! a, b = x, y -/
def sPar (i j : Nat) (fa : EvA) : SvF := fun e d => fa e fun rs e1 => ∃ c1 c2 e2, frzs e1 rs = some ([c1, c2], e2) ∧ i < e2.length ∧ j < e2.length ∧ d.nx ((e2.set i (some (.imm c1))).set j (some (.imm c2)))
theorem s_par {i j : Nat} {fa : EvA} {e : En} {d : Ed} (k : fa e fun rs e1 => ∃ c1 c2 e2, frzs e1 rs = some ([c1, c2], e2) ∧ i < e2.length ∧ j < e2.length ∧ d.nx ((e2.set i (some (.imm c1))).set j (some (.imm c2)))) : sPar i j fa e d := k
theorem x_par {i j : Nat} {e1 e2 : En} {rs : List Rv} {c1 c2 : D} {R : En → Prop} (h : frzs e1 rs = some ([c1, c2], e2)) (hi : Nat.blt i e2.length = true) (hj : Nat.blt j e2.length = true) (k : R ((e2.set i (some (.imm c1))).set j (some (.imm c2)))) :
    ∃ c1 c2 e2, frzs e1 rs = some ([c1, c2], e2) ∧ i < e2.length ∧ j < e2.length ∧ R ((e2.set i (some (.imm c1))).set j (some (.imm c2))) := ⟨c1, c2, e2, h, Nat.le_of_ble_eq_true hi, Nat.le_of_ble_eq_true hj, k⟩
theorem ds_par {X : Cx} {F : Fr} {i j : Nat} {x y : Str} {a b : Expr} {fa : EvA} {px py pt pos : Pos} {kt k2 pt2} (hc : X.calm = true) (hN : X.N.Nodup) (hi : X.N[i]? = some x) (hj : X.N[j]? = some y) (hij : i ≠ j)
    (hx : X.env.scope.names.lookup x = some .local) (hy : X.env.scope.names.lookup y = some .local) (ha : DA X F [a, b] fa) (hw : swappedStores [.Tuple [.Name x px, .Name y py] kt pt] (.Tuple [a, b] k2 pt2) X.env = pure (some [x, y]) := by rfl)
    (hs : swapsWithSole [.Tuple [.Name x px, .Name y py] kt pt] (.Tuple [a, b] k2 pt2) pos.line X.env = pure false := by rfl) : DS X F (.Assign [.Tuple [.Name x px, .Name y py] kt pt] (.Tuple [a, b] k2 pt2) pos) (sPar i j fa) := by
  obtain ⟨t, p, d⟩ := ha
  refine ⟨_, ps_par hc hN hi hj hij hx hy p hw hs, fun σ I H e ps dd D hp s h k => ?_⟩
  refine d σ I H e ps _ _ s h fun xs rs e1 I1 H1 h1 hl s1 => ?_
  obtain ⟨c1, c2, e2, hf, li, lj, hnx⟩ := h1
  obtain ⟨I2, _, s2, rr⟩ := s1.frzs hl hf
  cases rr with
  | cons r1 rr => cases rr with
    | cons r2 rr =>
      cases rr
      refine ⟨_, _, rfl, ?_⟩
      have s3 := (s2.pushI r1).asgE (t := .imm c1) (i := i) (hp.no _) li
      have s4 := (s3.pushI r2).asgE (t := .imm c2) (i := j) (hp.no _) (by rw [List.length_set]; exact lj)
      exact k.nx _ I2 H1 _ hnx s4
/-! ### name op= int; all(list of truths) -/
section
variable {X : Cx} {F : Fr} {i : Nat} {x : Str} {b : Expr} {f2 : EvF} {pos pos' : Pos} {op : Operator} {r : R2} {g : DO2}
theorem ds_aug (ho : PIp X op r) (hd : DOp F.K r g) (h2 : DE X F b f2) (hN : X.N.Nodup) (hi : X.N[i]? = some x) (hl : Loc X.env.scope x) (hf : X.fn x = true ∨ X.env.scope.names.lookup x = some .local := by first | exact .inl rfl | exact .inr rfl | assumption) :
    DS X F (.AugAssign (.Name x pos') op b pos) (sSet i (eOp g (eVar i) f2)) := by
  obtain ⟨t2, p2, d2⟩ := h2
  refine ⟨_, ps_aug hN hi hl p2 ho hf, fun σ I H e ps d D hp s h k => ?_⟩
  have z := DT.op hd (DT.var (F := F) (i := i)) d2
  refine z σ I H e ps _ _ s h fun x r e1 I1 H1 h1 s1 => ?_
  obtain ⟨e2, ha, h2⟩ := h1
  obtain ⟨I2, s2⟩ := s1.asg (hp.no _) ha
  exact k.nx _ I2 H1 e2 h2 s2
/-- the sum of two ints alone -/
def oAddI : DO2
  | .int i, .int j, P => P (.imm (.int (i + j)))
  | _, _, _ => False
theorem o_addII {i j : Int} {P : Ent → Prop} (k : P (.imm (.int (i + j)))) : oAddI (.int i) (.int j) P := k
theorem dop_augSub {K : PySem.W.Frag} : DOp K (ipI fun i j => i - j) oSub := fun I H x y c d P Q s v1 v2 h k => by
  cases c <;> cases d <;> first | exact False.elim h | exact ⟨_, _, v1.int, v2.int, k.imm s h (.int _)⟩
theorem dop_augAdd {K : PySem.W.Frag} : DOp K (ipI fun i j => i + j) oAddI := fun I H x y c d P Q s v1 v2 h k => by
  cases c <;> cases d <;> first | exact False.elim h | exact ⟨_, _, v1.int, v2.int, k.imm s h (.int _)⟩
end
theorem bools_of {K : PySem.W.Frag} {I : Hp} : ∀ {xs : List V} {bs : List Bool}, Reps K I xs (bs.map D.bl) → xs = bs.map V.bl
  | _, [], r => by cases r; rfl
  | _, b :: bs, r => by
    cases r with
    | cons h t =>
      cases h
      rw [bools_of t]
      rfl
def cAll : DON := fun ds P => ∃ bs : List Bool, ds = [.lst (bs.map D.bl)] ∧ P (.imm (.bl (bs.all id)))
theorem dcr_all {X : Cx} (hc : X.calm = true) : DCR X (.builtin "all") cAll := ⟨_, cr_all hc, fun I H xs ds P Q s v h k => by
  obtain ⟨bs, rfl, p⟩ := h
  obtain ⟨x, rfl, w⟩ := v.one
  obtain ⟨a, ys, rfl, ha, r⟩ := w.lst s
  have e := bools_of r
  subst e
  exact ⟨a, bs, rfl, SqL.of ha, k.imm s p (.bl _)⟩⟩
/-! ### the exception that a suite holds by a name -/
def rIsD (K : PySem.W.Frag) (D a dd : Addr) : List V → Hp → VK → Prop := fun xs H Q => ∃ (c : V) (cv : Value) (b : Bool) (fs : List (Str × V)), xs = [.ref a, c] ∧ (∀ u, RelV c u → u = cv) ∧ ExcC K D ∧ PySem.W.kitOne K (.ref D) cv = some b ∧ H dd = some (.xd fs) ∧ Q (.bl b) H
theorem clsSome {K : PySem.W.Frag} {C : Addr} (h : PySem.W.hasDictIn K C = true) : (PySem.W.clsIn K C).isSome = true := by
  obtain ⟨cd, hc, _⟩ := PySem.W.any_some h
  rw [hc]; rfl
theorem call_isD {X : Cx} {a D dd : Addr} {oe : Obj} {pn : List (Addr × Obj)} (hz : Zc (.ref D) (some dd) oe) (hf : ∃ vs, oe.data = .fields vs) : CallR (X.suite a ((a, oe) :: pn)) (.builtin "isinstance") (rIsD X.K D a dd) := by
  intro pins s σ H xs us Q I r h
  obtain ⟨c, cv, b, fs, rfl, hcv, C, e, ea, q⟩ := h
  cases r with
  | cons rx rr =>
    cases rr with
    | cons rt rr =>
      cases rr
      cases rx
      have ec := hcv _ rt
      subst ec
      obtain ⟨hget, _⟩ := I.pin (a, oe) (List.mem_append.mpr (.inl List.mem_cons_self))
      obtain ⟨vs, hv⟩ := hf
      have hx : ObjOk X.prog X.w H s.heap dd (.xd fs) := I.hok dd _ ea
      obtain ⟨mA, hns, hr⟩ := hx
      obtain ⟨od, ho, hl⟩ := lookIn_ns hns
      have J : PySem.W.InstAt s.heap a oe D (some od) := ⟨hget, hz.1, by unfold PySem.W.notCls; rw [hv] <;> rfl, by rw [hz.2]; exact ho⟩
      exact PySem.W.kia_one (PySem.W.kitx_exc (clsSome C.hd) C.hg C.hk C.hs C.ha C.hn C.ht C.hm) I.kIn J e (fun z => nomatch z) fun tk => ⟨.bl b, H, I.kept (t' := tk) fun _ _ z => z, rfl, q⟩
theorem kit_ve {K : PySem.W.Frag} {C : Addr} (h : PySem.W.subIn K (.ref C) (.type "ValueError") = some true) : PySem.W.kitOne K (.ref C) (.type "ValueError") = some true := by
  show (if (Value.ref C == Value.type "ValueError") = true then some true else if PySem.W.kitMeta "ValueError" = true then PySem.W.subIn K (.ref C) (.type "ValueError") else none) = some true
  rw [if_neg (show ¬ ((Value.ref C == Value.type "ValueError") = true) from fun q => by cases q), if_pos (by decide +kernel), h]
theorem kit_xx {K : PySem.W.Frag} {C D : Addr} {b : Bool} (z : PySem.W.isClsIn K D = true) (t : PySem.W.typeIn K (.ref D) = some (.type "type")) (hs : PySem.W.subIn K (.ref D) (.ref D) = some true) (h : PySem.W.subIn K (.ref C) (.ref D) = some b) : PySem.W.kitOne K (.ref C) (.ref D) = some b := by
  have z' : (PySem.W.clsIn K D).isSome = true := z
  show (if (Value.ref C == Value.ref D) = true then some true else if ((PySem.W.clsIn K D).isSome && PySem.W.typeIn K (.ref D) == some (.type "type")) = true then PySem.W.subIn K (.ref C) (.ref D) else none) = some b
  by_cases c : C = D
  · subst c
    rw [if_pos (by simp)]
    exact hs.symm.trans h
  · rw [if_neg (show ¬ ((Value.ref C == Value.ref D) = true) from fun q => c (Value.ref.inj (beq_iff_eq.mp q))), z', t, if_pos (by decide +kernel), h]
structure XHeld (F : Fr) (dd : Addr) (z : D) : Prop where
  at_ : ∃ x, F.H0 dd = some (.xd [(("value" : Str), x)]) ∧ Rep F.K F.I0 x z
  out : dd ∉ adr F.e0
theorem XHeld.now {F : Fr} {dd : Addr} {z : D} {σ : L2.St} {I H : Hp} {e : En} {ps : Tm} (h : XHeld F dd z) (s : ST F σ I H e ps) : ∃ x, H dd = some (.xd [(("value" : Str), x)]) ∧ Rep F.K I x z := by
  obtain ⟨x, h1, h2⟩ := h.at_
  exact ⟨x, s.base.keep _ _ h1 h.out (fun _ z => by cases z), h2.mono s.base.imm⟩
/-- no own thing is an exception's dict -/
theorem EntR.noXd {K : PySem.W.Frag} {I H : Hp} {x : V} {t : Ent} (h : EntR K I H x t) {a : Addr} (ha : a ∈ t.adr) {fs : List (Str × V)} : H a ≠ some (.xd fs) := by
  cases t with
  | imm d => simp at ha
  | own b d =>
    obtain ⟨_, h1, h2⟩ := h
    simp at ha
    subst ha
    cases d with
    | lst ds => obtain ⟨xs, e, _⟩ := h2; rw [e]; intro z; cases z
    | dic es => obtain ⟨xs, e, _⟩ := h2; rw [e]; intro z; cases z
    | dik es => obtain ⟨xs, e, _⟩ := h2; rw [e]; intro z; cases z
    | obj C es => obtain ⟨dx, xs, e, _⟩ := h2; rw [e]; intro z; cases z
    | _ => exact False.elim h2
  | raw b xs =>
    obtain ⟨_, h1, h2⟩ := h
    simp at ha
    subst ha
    rw [h2]; intro z; cases z
  | dol b ls =>
    obtain ⟨_, h1, h2, _, h3⟩ := h
    rcases List.mem_cons.mp ha with rfl | ha
    · rw [h2]; intro z; cases z
    · obtain ⟨l, hl, rfl⟩ := List.mem_map.mp ha
      obtain ⟨n, xs, e, _⟩ := h3 l hl
      rw [e]; intro z; cases z
  | hand p c n =>
    obtain ⟨_, h1, h2, h3⟩ := h
    simp at ha
    rcases ha with rfl | rfl
    · obtain ⟨_, e⟩ := h3.tokp; rw [e]; intro z; cases z
    · obtain ⟨_, e⟩ := h3.tokc; rw [e]; intro z; cases z
theorem EnvR.noXd {K : PySem.W.Frag} {I H : Hp} {σ : L2.St} {e : En} (h : EnvR K I H σ e) {a : Addr} {fs : List (Str × V)} (q : H a = some (.xd fs)) : a ∉ adr e := fun ha => by
  obtain ⟨i, t, e1, e2⟩ := mem_adr.mp ha
  obtain ⟨x, _, r⟩ := h.at_ i t e1
  exact r.noXd e2 q
/-- n.value -/
def eXv (K : PySem.W.Frag) (i : Nat) (a C : Addr) (z : D) : EvF := fun e P => e[i]? = some (some (.imm (.cls a))) ∧ XfC K C ∧ PySem.W.findIn K (.ref C) "value" = some none ∧ P (.im z) e
theorem s_xv {K : PySem.W.Frag} {i : Nat} {a C : Addr} {z : D} {e : En} {P : Rv → En → Prop} (h : e[i]? = some (some (.imm (.cls a)))) (T : XfC K C) (no : PySem.W.findIn K (.ref C) "value" = some none) (k : P (.im z) e) : eXv K i a C z e P := ⟨h, T, no, k⟩
/-- isinstance(n, T) -/
def eXis (K : PySem.W.Frag) (i : Nat) (a C : Addr) (f : EvF) : EvF := fun e P => e[i]? = some (some (.imm (.cls a))) ∧ ExcC K C ∧ f e fun r e1 => ∃ c u b, r = .im c ∧ clOfD c = some u ∧ PySem.W.kitOne K (.ref C) u = some b ∧ P (.im (.bl b)) e1
theorem s_xis {K : PySem.W.Frag} {i : Nat} {a C : Addr} {f : EvF} {e : En} {P : Rv → En → Prop} (h : e[i]? = some (some (.imm (.cls a)))) (T : ExcC K C) (k : f e fun r e1 => ∃ c u b, r = .im c ∧ clOfD c = some u ∧ PySem.W.kitOne K (.ref C) u = some b ∧ P (.im (.bl b)) e1) : eXis K i a C f e P := ⟨h, T, k⟩
theorem x_xis {R : Bool → Prop} {K : PySem.W.Frag} {C : Addr} {c : D} {u : Value} {b : Bool} (h : clOfD c = some u) (h2 : PySem.W.kitOne K (.ref C) u = some b) (k : R b) : ∃ c' u b, Rv.im c = .im c' ∧ clOfD c' = some u ∧ PySem.W.kitOne K (.ref C) u = some b ∧ R b := ⟨c, u, b, rfl, h, h2, k⟩
section
variable {X : Cx} {F : Fr} {a C dd : Addr} {oe : Obj} {pn : List (Addr × Obj)} {z : D} {i : Nat} {n : Str} {p1 p2 p3 pos : Pos}
theorem de_xv (hz : Zc (.ref C) (some dd) oe) (hf : ∃ vs, oe.data = .fields vs) (hh : XHeld F dd z) (hN : X.N[i]? = some n) (hv : Vis X.env.scope n) (hd : (n == ("__debug__" : Str)) = false := by decide) (hcd : (n == ("__classdict__" : Str)) = false := by decide)
    (hb : attributeBase (.Name n p1) "value" X.env (eval (.Name n p1) X.env) = eval (.Name n p1) X.env := by rfl) : DE (X.suite a ((a, oe) :: pn)) F (.Attribute (.Name n p1) "value" p3) (eXv X.K i a C z) := by
  refine ⟨fun σ H Q => (XfC X.K C ∧ PySem.W.findIn X.K (.ref C) "value" = some none) ∧ tXf a (.ref C) (some dd) C "value" (tVar i) σ H Q, ⟨fun pins s σ H Q I h => (pe_xf h.1.1 h.1.2 hz hf (pe_var hN hv hd hcd) hb).run pins s σ H Q I h.2⟩, fun σ I H e ps P Q s h k => ?_⟩
  obtain ⟨h1, h2, h3, h4⟩ := h
  obtain ⟨y, e1, e2⟩ := s.slot h1
  cases e2
  obtain ⟨x, q1, q2⟩ := hh.now s
  exact ⟨⟨h2, h3⟩, .ref a, e1, rfl, rfl, dd, _, x, rfl, q1, rfl, k _ _ _ _ _ h4 (s.pushI q2)⟩
theorem de_xis {f : EvF} {ex : Expr} (hz : Zc (.ref C) (some dd) oe) (hf : ∃ vs, oe.data = .fields vs) (hh : XHeld F dd z) (hN : X.N[i]? = some n) (hv : Vis X.env.scope n) (h2 : DE (X.suite a ((a, oe) :: pn)) F ex f) (hg : Gl X "isinstance") (hm : X.mg "isinstance" = none)
    (hd : (n == ("__debug__" : Str)) = false := by decide) (hcd : (n == ("__classdict__" : Str)) = false := by decide)
    (hs : starEach (.Name n p1 :: [ex]) X.env = (false, eval (.Name n p1) X.env) :: starEach [ex] X.env := by rfl) (hs2 : starEach [ex] X.env = (false, eval ex X.env) :: starEach [] X.env := by rfl) (hpl : (backTo pos (starEach [ex] X.env)).any (·.1) = false := by rfl) :
    DE (X.suite a ((a, oe) :: pn)) F (.Call (.Name "isinstance" p2) [.Name n p1, ex] [] pos) (eXis X.K i a C f) := by
  obtain ⟨t2, q2, d2⟩ := h2
  refine ⟨_, pe_callB (call_isD hz hf) hg hm (by rfl) (pa_cons (pe_var hN hv hd hcd) (pa_cons q2 pa_nil hs2) hs) (by decide) (by decide) hs hpl, fun σ I H e ps P Q s h k => ?_⟩
  obtain ⟨h1, hC, h2⟩ := h
  obtain ⟨y, e1, e2⟩ := s.slot h1
  have e3 := e2
  cases e3
  refine ⟨.ref a, e1, ?_⟩
  refine d2 σ I H e _ _ _ (s.pushI e2) h2 fun x r e1 I1 H1 hr s1 => ?_
  obtain ⟨c, u, b, rfl, hu, hk, hP⟩ := hr
  have rx : Rep F.K I1 x c := ST.temp (t := .imm c) (qs := []) s1
  obtain ⟨v, w1, w2⟩ := hh.now s1
  refine ⟨x, u, b, _, rfl, fun u' hr' => ?_, hC, hk, w1, k _ _ _ _ _ hP (s1.weak.weak.pushI (.bl b))⟩
  cases c with
  | ty m => cases rx; cases hu; cases hr'; rfl
  | cls m => cases rx; cases hu; cases hr'; rfl
  | _ => cases hu
end
/-! ### try: body, except C as n: suite -/
def sTryG (K : PySem.W.Frag) (C : Addr) (i : Nat) (f : Fr → SvF) (g : Addr → Addr → D → SvF) : SvF := fun e d => ∀ F' : Fr, F'.PX = (fun C' z e' => PySem.W.exmOne K (.ref C') (.ref C) = some true ∧ e'[i]? = some none ∧
  ∀ a, g a C' z (e'.set i (some (.imm (.cls a)))) { nx := fun e1 => d.nx (e1.set i none), rt := d.rt, bk := fun e1 => d.bk (e1.set i none), ct := fun e1 => d.ct (e1.set i none) }) → f F' e d
theorem s_tryG {K : PySem.W.Frag} {C : Addr} {i : Nat} {f : Fr → SvF} {g : Addr → Addr → D → SvF} {e : En} {d : Ed} (k : ∀ F' : Fr, F'.PX = (fun C' z e' => PySem.W.exmOne K (.ref C') (.ref C) = some true ∧ e'[i]? = some none ∧
  ∀ a, g a C' z (e'.set i (some (.imm (.cls a)))) { nx := fun e1 => d.nx (e1.set i none), rt := d.rt, bk := fun e1 => d.bk (e1.set i none), ct := fun e1 => d.ct (e1.set i none) }) → f F' e d) : sTryG K C i f g e d := k
section
variable {F : Fr} {σ : L2.St} {I H : Hp} {e : En} {ps : Tm}
theorem ST.wipe1 {i : Nat} {y : Option V} (s : ST F σ I H e ps) (hp : Imms ps) : ST F (σ.set i y) I H (e.set i none) ps where
  sub := s.sub
  len := by rw [List.length_set, List.length_set]; exact s.len
  env := by
    by_cases hi : i < e.length
    · have z := s.env.setN (i := i) (y := y)
      rw [List.set_append_left _ _ (by rw [← s.len]; exact hi), List.set_append_left _ _ hi] at z
      exact z
    · rw [List.set_eq_of_length_le (by rw [← s.len]; omega), List.set_eq_of_length_le (by omega)]
      exact s.env
  ali := fun p m j q => by
    obtain ⟨d, hd⟩ := hp p m
    rw [hd] at q
    cases q
  base := by
    have b := s.base
    refine ⟨b.imm, b.keep, b.tbl, fun x hx => b.own x ?_, b.new⟩
    obtain ⟨j, u, w, m⟩ := mem_adr.mp hx
    refine mem_adr.mpr ⟨j, u, ?_, m⟩
    by_cases hj : j < (e.set i none).length
    · rw [List.getElem?_append_left hj] at w
      have hj' : j < e.length := by rwa [List.length_set] at hj
      rw [List.getElem?_append_left hj']
      by_cases c : i = j
      · subst c; rw [List.getElem?_set_self hj'] at w; cases w
      · rw [List.getElem?_set_ne c] at w; exact w
    · rw [List.getElem?_append_right (by omega), List.length_set] at w
      rw [List.length_set] at hj
      rw [List.getElem?_append_right (by omega)]
      exact w
end
theorem ds_tryG {X : Cx} {F : Fr} {x n : Str} {C : Addr} {i : Nat} {body suite : List Stmt} {b₀ : Stmt} {np pos pos' : Pos} {f : Fr → SvF} {g : Addr → Addr → D → SvF}
    (hs : X.stack = X.env :: X.outer) (hf : X.env.frame = some X.env.locals) (hN : X.N.Nodup) (hi : X.N[i]? = some n) (hln : X.env.kindOf n = some .local) (hc : Names X x (.ref C))
    (hb : ∀ (pn : List (Addr × Obj)) (xe : Value → Shared → Prop) (F' : Fr), F'.K = X.K → Takes (X.tr pn xe) F'.W → FrOk F' → DSs (X.tr pn xe) F' body (f F'))
    (hg : ∀ (a C' dd : Addr) (oe : Obj) (pn : List (Addr × Obj)) (z : D) (F2 : Fr), Zc (.ref C') (some dd) oe → (∃ vs, oe.data = .fields vs) → F2.K = X.K → XHeld F2 dd z → DSs (X.suite a ((a, oe) :: pn)) F2 (b₀ :: suite) (g a C' z))
    (hK : F.K = X.K := by first | rfl | assumption) :
    DS X F (.Try body [.ExceptHandler (some (.Name x np)) (some n) (b₀ :: suite) pos'] [] [] pos) (sTryG X.K C i f g) := by
  let tb : WX → TS := fun W D σ H => ∃ (I : Hp) (e : En) (ps : Tm) (d : Ed) (F' : Fr), F'.K = X.K ∧ F'.W = W ∧ FrOk F' ∧ Imms ps ∧ ST F' σ I H e ps ∧ f F' e d ∧ EdR F' ps d D
  let ts : Addr → Value → Option Addr → TS := fun a cls d DD σ H => ∃ (C' dd : Addr) (z : D) (I : Hp) (e : En) (ps : Tm) (d' : Ed) (F2 : Fr), cls = .ref C' ∧ d = some dd ∧ F2.K = X.K ∧ XHeld F2 dd z ∧ Imms ps ∧ ST F2 σ I H e ps ∧ g a C' z e d' ∧ EdR F2 ps d' DD
  refine ⟨_, ps_try_as (tb := tb) (ts := ts) (Wout := fun _ _ _ _ => False) hs hf hN hi hln hc takes0 (fun W pn xe tk _ => ⟨fun pins s σ H D Iv h => ?_⟩) (fun a oe cls d pn hz hfl => ⟨fun pins s σ H D Iv h => ?_⟩), fun σ I H e ps d D hp s h k => ?_⟩
  · obtain ⟨I, e, ps, d, F', hk, rfl, fo, im, st, hf', ed⟩ := h
    obtain ⟨t, p, dts⟩ := hb pn xe F' hk tk fo
    exact p.run pins s σ H D Iv (dts σ I H e ps d D im st hf' ed)
  · obtain ⟨C', dd, z, I, e, ps, d', F2, rfl, rfl, hk2, hh, im, st, hg', ed⟩ := h
    obtain ⟨t, p, dts⟩ := hg a C' dd oe pn z F2 hz hfl hk2 hh
    exact p.run pins s σ H D Iv (dts σ I H e ps d' D im st hg' ed)
  · refine ⟨I, e, ps, d, frTry F.K e ps I H (wAs X.K (.ref C) i ts (fun _ _ _ _ => False) D) (fun C' z e' => PySem.W.exmOne X.K (.ref C') (.ref C) = some true ∧ e'[i]? = some none ∧
        ∀ a, g a C' z (e'.set i (some (.imm (.cls a)))) { nx := fun e1 => d.nx (e1.set i none), rt := d.rt, bk := fun e1 => d.bk (e1.set i none), ct := fun e1 => d.ct (e1.set i none) }), hK, rfl, ?_, hp, s.here, h _ rfl, ?_⟩
    · rintro σ' I' H' e' qs C' z x' dd s' ⟨te, hn, hz⟩ rx hx
      refine ⟨true, te, fun _ a ha => ?_, fun z => nomatch z⟩
      have s0 := s.rebase s'
      have s1 : ST F σ' I' H' e' [] := ST.weak (ps := []) (qs := qs) s0
      have s2 : ST F σ' I' H' e' ps := s1.imms fun p m => by
        obtain ⟨d', e1, r⟩ := s.imreps hp p m
        exact ⟨d', e1, r.mono s'.base.imm⟩
      have s3 := (s2.pushI (x := .ref a) (d := .cls a) (.cls a)).asgE (i := i) (t := .imm (.cls a)) (hp.no _) (List.getElem?_eq_some_iff.mp hn).1
      have s4 : ST (frTry F.K (e'.set i (some (.imm (.cls a)))) ps I' H' F.W F.PX) (σ'.set i (some (.ref a))) I' H' (e'.set i (some (.imm (.cls a)))) ps := s3.here
      have hd' : dd ∉ adr (e'.set i (some (.imm (.cls a))) ++ tn ps) := s3.env.noXd hx
      refine ⟨C', dd, z, I', _, ps, _, frTry F.K (e'.set i (some (.imm (.cls a)))) ps I' H' F.W F.PX, rfl, rfl, hK, ⟨⟨x', hx, rx⟩, hd'⟩, hp, s4, hz a, ?_⟩
      have back : ∀ {σ'' I'' H'' e''}, ST (frTry F.K (e'.set i (some (.imm (.cls a)))) ps I' H' F.W F.PX) σ'' I'' H'' e'' ps → ST F (σ''.set i none) I'' H'' (e''.set i none) ps := fun s5 => (s3.rebase s5).wipe1 hp
      exact ⟨fun σ'' I'' H'' e'' h' s' => k.nx _ I'' H'' _ h' (back s'), fun x r σ'' I'' H'' e'' h' s' => k.rt x r σ'' I'' H'' e'' h' (s3.rebase s'), fun σ'' I'' H'' e'' h' s' => k.bk _ I'' H'' _ h' (back s'), fun σ'' I'' H'' e'' h' s' => k.ct _ I'' H'' _ h' (back s')⟩
    · exact ⟨fun σ' I' H' e' h' s' => k.nx σ' I' H' e' h' (s.rebase s'), fun x r σ' I' H' e' h' s' => k.rt x r σ' I' H' e' h' (s.rebase s'), fun σ' I' H' e' h' s' => k.bk σ' I' H' e' h' (s.rebase s'), fun σ' I' H' e' h' s' => k.ct σ' I' H' e' h' (s.rebase s')⟩
/-! ### isinstance(n, (A, B)) of the exception that a suite holds -/
def rIsDT (K : PySem.W.Frag) (D a dd : Addr) : List V → Hp → VK → Prop := fun xs H Q => ∃ (tp : Addr) (cs : List V) (us : List Value) (b : Bool) (fs : List (Str × V)), xs = [.ref a, .ref tp] ∧ H tp = some (.tup cs) ∧ Paired (fun c u => ∀ u', RelV c u' → u' = u) cs us ∧ ExcC K D ∧ PySem.W.kitAny K (.ref D) us = some b ∧ H dd = some (.xd fs) ∧ Q (.bl b) H
theorem paired_all {cs : List V} {us its : List Value} (h : Paired (fun c u => ∀ u', RelV c u' → u' = u) cs us) (r : Vals cs its) : its = us := by
  induction h generalizing its with
  | nil => cases r; rfl
  | cons k t ih =>
    cases r with
    | cons rx rr => rw [k _ rx, ih rr]
theorem call_isDT {X : Cx} {a D dd : Addr} {oe : Obj} {pn : List (Addr × Obj)} (hz : Zc (.ref D) (some dd) oe) (hf : ∃ vs, oe.data = .fields vs) : CallR (X.suite a ((a, oe) :: pn)) (.builtin "isinstance") (rIsDT X.K D a dd) := by
  intro pins s σ H xs us Q I r h
  obtain ⟨tp, cs, ws, b, fs, rfl, hT, hcv, C, e, ea, q⟩ := h
  cases r with
  | cons rx rr =>
    cases rr with
    | cons rt rr =>
      cases rr
      cases rx
      cases rt
      obtain ⟨_, its, rv, o, h1, h2, n, h3⟩ := (show ObjOk X.prog X.w H s.heap tp (.tup cs) from I.hok tp _ hT)
      have e3 := paired_all hcv rv
      subst e3
      obtain ⟨oc, od', dt, sl⟩ := o
      simp only at h2 h3
      subst h2 h3
      obtain ⟨hget, _⟩ := I.pin (a, oe) (List.mem_append.mpr (.inl List.mem_cons_self))
      obtain ⟨vs, hv⟩ := hf
      have hx : ObjOk X.prog X.w H s.heap dd (.xd fs) := I.hok dd _ ea
      obtain ⟨mA, hns, hr⟩ := hx
      obtain ⟨od, ho, hl⟩ := lookIn_ns hns
      have J : PySem.W.InstAt s.heap a oe D (some od) := ⟨hget, hz.1, by unfold PySem.W.notCls; rw [hv] <;> rfl, by rw [hz.2]; exact ho⟩
      exact PySem.W.kia_tup (PySem.W.kitx_exc (clsSome C.hd) C.hg C.hk C.hs C.ha C.hn C.ht C.hm) I.kIn J h1 e (fun z => nomatch z) fun tk => ⟨.bl b, H, I.kept (t' := tk) fun _ _ z => z, rfl, q⟩
def eXisT (K : PySem.W.Frag) (i : Nat) (a C : Addr) (f : EvF) : EvF := fun e P => e[i]? = some (some (.imm (.cls a))) ∧ ExcC K C ∧ f e fun r e1 => ∃ ds us b, r = .im (.tup ds) ∧ ds.map clOfD = us.map some ∧ PySem.W.kitAny K (.ref C) us = some b ∧ P (.im (.bl b)) e1
theorem s_xisT {K : PySem.W.Frag} {i : Nat} {a C : Addr} {f : EvF} {e : En} {P : Rv → En → Prop} (h : e[i]? = some (some (.imm (.cls a)))) (T : ExcC K C) (k : f e fun r e1 => ∃ ds us b, r = .im (.tup ds) ∧ ds.map clOfD = us.map some ∧ PySem.W.kitAny K (.ref C) us = some b ∧ P (.im (.bl b)) e1) : eXisT K i a C f e P := ⟨h, T, k⟩
theorem x_xisT2 {R : Bool → Prop} {K : PySem.W.Frag} {C : Addr} {c d : D} {u v : Value} {b1 b2 : Bool} (h : clOfD c = some u) (h' : clOfD d = some v) (h2 : PySem.W.kitOne K (.ref C) u = some b1) (h3 : PySem.W.kitOne K (.ref C) v = some b2) (k : R (b1 || b2)) : ∃ ds us b, Rv.im (.tup [c, d]) = .im (.tup ds) ∧ ds.map clOfD = us.map some ∧ PySem.W.kitAny K (.ref C) us = some b ∧ R b := by
  refine ⟨[c, d], [u, v], b1 || b2, rfl, by simp [h, h'], ?_, k⟩
  refine kitAny_cons h2 (fun e => ?_) (fun e => by rw [e]; rfl)
  rw [e, Bool.false_or]
  exact kitAny_cons h3 (fun e2 => by rw [e2]; exact kitAny_nil) fun e2 => e2
section
variable {X : Cx} {F : Fr} {a C dd : Addr} {oe : Obj} {pn : List (Addr × Obj)} {z : D} {i : Nat} {n : Str} {p1 p2 p3 pos : Pos}
theorem cls_rel {K : PySem.W.Frag} {I : Hp} : ∀ {ds : List D} {us : List Value} {xs : List V}, ds.map clOfD = us.map some → Reps K I xs ds → Paired (fun c u => ∀ u', RelV c u' → u' = u) xs us
  | [], us, _, h, .nil => by
    cases us with
    | nil => exact .nil
    | cons _ _ => simp at h
  | c :: ds, us, _, h, .cons q r => by
    cases us with
    | nil => simp at h
    | cons u us =>
      simp only [List.map_cons, List.cons.injEq] at h
      refine .cons (fun u' hr' => ?_) (cls_rel h.2 r)
      have hu := h.1
      cases c with
      | ty m => cases q; cases hu; cases hr'; rfl
      | cls m => cases q; cases hu; cases hr'; rfl
      | _ => cases hu
theorem de_xisT {f : EvF} {ex : Expr} (hz : Zc (.ref C) (some dd) oe) (hf : ∃ vs, oe.data = .fields vs) (hh : XHeld F dd z) (hN : X.N[i]? = some n) (hv : Vis X.env.scope n) (h2 : DE (X.suite a ((a, oe) :: pn)) F ex f) (hg : Gl X "isinstance") (hm : X.mg "isinstance" = none)
    (hK : F.K = X.K := by first | rfl | assumption)
    (hd : (n == ("__debug__" : Str)) = false := by decide) (hcd : (n == ("__classdict__" : Str)) = false := by decide)
    (hs : starEach (.Name n p1 :: [ex]) X.env = (false, eval (.Name n p1) X.env) :: starEach [ex] X.env := by rfl) (hs2 : starEach [ex] X.env = (false, eval ex X.env) :: starEach [] X.env := by rfl) (hpl : (backTo pos (starEach [ex] X.env)).any (·.1) = false := by rfl) :
    DE (X.suite a ((a, oe) :: pn)) F (.Call (.Name "isinstance" p2) [.Name n p1, ex] [] pos) (eXisT X.K i a C f) := by
  obtain ⟨t2, q2, d2⟩ := h2
  refine ⟨_, pe_callB (call_isDT hz hf) hg hm (by rfl) (pa_cons (pe_var hN hv hd hcd) (pa_cons q2 pa_nil hs2) hs) (by decide) (by decide) hs hpl, fun σ I H e ps P Q s h k => ?_⟩
  obtain ⟨h1, hC, h2⟩ := h
  obtain ⟨y, e1, e2⟩ := s.slot h1
  have e3 := e2
  cases e3
  refine ⟨.ref a, e1, ?_⟩
  refine d2 σ I H e _ _ _ (s.pushI e2) h2 fun x r e1 I1 H1 hr s1 => ?_
  obtain ⟨ds, us, b, rfl, hu, hk, hP⟩ := hr
  have rx : Rep F.K I1 x (.tup ds) := ST.temp (t := .imm (.tup ds)) (qs := []) s1
  obtain ⟨v, w1, w2⟩ := hh.now s1
  cases rx with
  | @tup tp xs _ ht rt =>
    exact ⟨tp, xs, us, b, _, rfl, s1.sub _ _ ht, cls_rel hu rt, hC, hk, w1, k _ _ _ _ _ hP (s1.weak.weak.pushI (.bl b))⟩
end
/-! ### an object under construction: self.f = e; a class whose __init__ is a def over data -/
def putE (f : Str) (c : D) : List (Str × D) → List (Str × D)
  | [] => [(f, c)]
  | (g, x) :: r => if g = f then (g, c) :: r else (g, x) :: putE f c r
theorem putE_rep {K : PySem.W.Frag} {I : Hp} {f : Str} {y : V} {c : D} (r : Rep K I y c) : ∀ {fs : List (Str × V)} {es : List (Str × D)}, fs.map (·.1) = es.map (·.1) → Reps K I (fs.map (·.2)) (es.map (·.2)) →
    (putF f y fs).map (·.1) = (putE f c es).map (·.1) ∧ Reps K I ((putF f y fs).map (·.2)) ((putE f c es).map (·.2))
  | [], [], _, _ => ⟨rfl, .cons r .nil⟩
  | [], _ :: _, m, _ => by cases m
  | _ :: _, [], m, _ => by cases m
  | (g, x) :: fs, (g', d) :: es, m, q => by
    rw [List.map_cons, List.map_cons] at m
    injection m with m1 m2
    have m1' : g = g' := m1
    subst m1'
    cases q with
    | cons q1 q2 =>
      unfold putF putE
      by_cases c : g = f
      · rw [if_pos c, if_pos c]
        exact ⟨by rw [List.map_cons, List.map_cons, m2], .cons r q2⟩
      · rw [if_neg c, if_neg c]
        obtain ⟨z1, z2⟩ := putE_rep r m2 q2
        exact ⟨by rw [List.map_cons, List.map_cons, z1], .cons q1 z2⟩
def sFSet (C : Addr) (i : Nat) (f : Str) (fv : EvF) : SvF := fun e d => fv e fun rv e1 => ∃ c e2 a fs, frz e1 rv = some (c, e2) ∧ e2[i]? = some (some (.own a (.obj C fs))) ∧ fs.length < 1000 ∧ d.nx (e2.set i (some (.own a (.obj C (putE f c fs)))))
theorem s_fset {C : Addr} {i : Nat} {f : Str} {fv : EvF} {e : En} {d : Ed} (k : fv e fun rv e1 => ∃ c e2 a fs, frz e1 rv = some (c, e2) ∧ e2[i]? = some (some (.own a (.obj C fs))) ∧ fs.length < 1000 ∧ d.nx (e2.set i (some (.own a (.obj C (putE f c fs)))))) : sFSet C i f fv e d := k
theorem x_fset {R : En → Prop} {C : Addr} {i : Nat} {f : Str} {e1 e2 : En} {rv : Rv} {c : D} {a : Addr} {fs : List (Str × D)} (h1 : frz e1 rv = some (c, e2)) (h2 : e2[i]? = some (some (.own a (.obj C fs)))) (h3 : Nat.blt fs.length 1000 = true) (k : R (e2.set i (some (.own a (.obj C (putE f c fs)))))) :
    ∃ c e2 a fs, frz e1 rv = some (c, e2) ∧ e2[i]? = some (some (.own a (.obj C fs))) ∧ fs.length < 1000 ∧ R (e2.set i (some (.own a (.obj C (putE f c fs))))) := ⟨c, e2, a, fs, h1, h2, Nat.le_of_ble_eq_true h3, k⟩
section
variable {X : Cx} {F : Fr} {i : Nat} {n f : Str} {p pos pos' : Pos} {vx : Expr} {fv : EvF} {C : Addr}
theorem ds_fset (ht : PE X (.Name n p) (tVar i)) (hc : Cls X.K C) (hn : NoAttr X.K C f) (hv : DE X F vx fv) (hs : swapsWith vx (some (.Attribute (.Name n p) f pos')) pos.line X.env = pure false := by rfl) : DS X F (.Assign [.Attribute (.Name n p) f pos'] vx pos) (sFSet C i f fv) := by
  obtain ⟨tw, pw, dw⟩ := hv
  refine ⟨_, ps_fld ht pw hs, fun σ I H e ps d D hp s h k => ?_⟩
  refine dw σ I H e ps _ _ s h fun v rv e1 I1 H1 h1 s1 => ?_
  obtain ⟨c, e2, a, fs, hf, he, hl, hnx⟩ := h1
  obtain ⟨I2, _, s2⟩ := s1.frz hf
  have rc : Rep F.K I2 v c := ST.temp (t := .imm c) (qs := []) s2
  obtain ⟨y, y1, rfl, _, dx, gs, hx, mm, rr⟩ := s2.slot he
  obtain ⟨z1, z2⟩ := putE_rep (f := f) rc mm rr
  have hlen : gs.length = fs.length := by
    have := congrArg List.length mm
    rwa [List.length_map, List.length_map] at this
  refine ⟨.ref a, y1, a, C, dx, gs, rfl, hx, hc, hn, by omega, ?_⟩
  exact k.nx _ I2 _ _ hnx ((s2.weak).mut he ⟨dx, _, upd_same, z1, z2⟩)
end
/-- the promise of an __init__, from that of its class -/
def conInit (C : Addr) (con : Con) : Con := fun es P PX => ∃ a es0, es = .own a (.obj C []) :: es0 ∧ con es0 (fun r es0' => ∃ fs, r = .imm (.obj C fs) ∧ P (.imm .non) (.own a (.obj C fs) :: es0')) (fun X v es0' => ∀ fs, PX X v (.own a (.obj C fs) :: es0'))
theorem EnvR.cons' {K : PySem.W.Frag} {I H : Hp} {σ : L2.St} {e : En} {x : V} {t : Ent} (h : EnvR K I H σ e) (r : EntR K I H x t) (n : ∀ a ∈ t.adr, a ∉ adr e) : EnvR K I H (some x :: σ) (some t :: e) where
  tab := h.tab
  len := by rw [List.length_cons, List.length_cons, h.len]
  at_ := fun i u q => by
    cases i with
    | zero => simp at q; subst q; exact ⟨x, rfl, r⟩
    | succ i =>
      obtain ⟨y, e1, e2⟩ := h.at_ i u (by simpa using q)
      exact ⟨y, by simpa using e1, e2⟩
  sep := fun i j u v a q1 q2 m1 m2 => by
    cases i with
    | zero =>
      cases j with
      | zero => rfl
      | succ j =>
        simp at q1
        subst q1
        exact absurd (mem_adr.mpr ⟨j, v, by simpa using q2, m2⟩) (n a m1)
    | succ i =>
      cases j with
      | zero =>
        simp at q2
        subst q2
        exact absurd (mem_adr.mpr ⟨i, u, by simpa using q1, m1⟩) (n a m2)
      | succ j => rw [h.sep i j u v a (by simpa using q1) (by simpa using q2) m1 m2]
theorem EnvR.tail {K : PySem.W.Frag} {I H : Hp} {σ : L2.St} {e : En} {x : Option V} {t : Option Ent} (h : EnvR K I H (x :: σ) (t :: e)) : EnvR K I H σ e where
  tab := h.tab
  len := by have := h.len; simpa using this
  at_ := fun i u q => by
    obtain ⟨y, e1, e2⟩ := h.at_ (i + 1) u (by simpa using q)
    exact ⟨y, by simpa using e1, e2⟩
  sep := fun i j u v a q1 q2 m1 m2 => by
    have := h.sep (i + 1) (j + 1) u v a (by simpa using q1) (by simpa using q2) m1 m2
    omega
theorem adr_cons {t : Ent} {e : En} {a : Addr} : a ∈ adr (some t :: e) ↔ a ∈ t.adr ∨ a ∈ adr e := by
  unfold adr
  rw [List.flatMap_cons, List.mem_append]
/-- what comes of a class's promise: an object of the class, or an error -/
def MonoC (C : Addr) (con : Con) : Prop := ∀ (es : List Ent) (P P' : Ent → List Ent → Prop) (PX PX' : Addr → D → List Ent → Prop), (∀ fs es', P (.imm (.obj C fs)) es' → P' (.imm (.obj C fs)) es') → (∀ X v es', PX X v es' → PX' X v es') → con es P PX → con es P' PX'
/-- a class whose __init__ keeps its promise -/
theorem mkD_own {K : PySem.W.Frag} {C : Addr} {con : Con} (hm : MonoC C con) : MkD K C (spD K (conInit C con)) con := by
  intro vs H Q E hsp x dx hx hdx hne
  obtain ⟨I, es, P, PX, sub, env, hc, kq, ke⟩ := hsp
  have hxd : (upd H dx (.own x)) x = none := by rw [upd_ne (Ne.symm hne)]; exact hx
  have le : Le H (upd (upd H dx (.own x)) x (.ins C dx [])) := (Le.new hdx).trans (Le.new hxd)
  have sub2 : Sub I (upd (upd H dx (.own x)) x (.ins C dx [])) := fun b o q => le b o (sub b o q)
  have ixn : I x = none := sub.none hx
  have env2 : EnvR K I (upd (upd H dx (.own x)) x (.ins C dx [])) (vs.map some) (es.map some) := env.grow (env.tab.mono Le.refl fun a ps e z => ⟨le a _ e, z⟩) Le.refl fun a ha => ⟨(env.has ha).2, fun o q => le a o q⟩
  have fresh : x ∉ adr (es.map some) := fun z => by
    obtain ⟨⟨o, q, _⟩, _⟩ := env.has z
    rw [hx] at q; cases q
  have nin : ∀ {a : Addr} {o : HO}, H a = some o → a ∉ adr (es.map some) → a ∉ adr ((Ent.own x (.obj C []) :: es).map some) := fun {a o} h n z => by
    rw [List.map_cons, adr_cons] at z
    rcases z with z | z
    · simp at z; subst z; rw [hx] at h; cases h
    · exact n z
  have none_of : ∀ {b : Addr}, (upd (upd H dx (.own x)) x (.ins C dx [])) b = none → H b = none := fun {b} q => by
    cases z : H b with
    | none => rfl
    | some o => rw [le _ _ z] at q; cases q
  refine ⟨I, .own x (.obj C []) :: es, fun r es' => r = .imm .non ∧ ∃ fs es0', es' = .own x (.obj C fs) :: es0' ∧ P (.imm (.obj C fs)) es0', fun X v es' => ∃ fs es0', es' = .own x (.obj C fs) :: es0' ∧ PX X v es0', sub2, ?_, ?_, ?_, ?_⟩
  · exact env2.cons' ⟨rfl, ixn, dx, [], upd_same, rfl, .nil⟩ fun a ha => by simp at ha; subst ha; exact fresh
  · exact ⟨x, es, rfl, hm es P _ PX _ (fun fs es' hp => ⟨fs, rfl, rfl, fs, es', rfl, hp⟩) (fun X v es' hp fs => ⟨fs, es', rfl, hp⟩) hc⟩
  · rintro r es' y I' H' ⟨rfl, fs, es0', rfl, hP⟩ sub' env' st
    have ll : es0'.length = vs.length := by
      have := env'.len
      simp only [List.length_append, List.length_map, List.length_cons, List.length_nil] at this
      omega
    have hy : y = .non := by
      obtain ⟨z, z1, z2⟩ := env'.at_ (es0'.length + 1) (.imm .non) (by simp)
      rw [ll] at z1
      simp at z1
      cases z2
      exact z1
    obtain ⟨z, z1, rfl, i1, dx2, gs, h2, mm, rr⟩ := env'.at_ 0 (.own x (.obj C fs)) rfl
    have out : ∀ a, a ∈ adr (es0'.map some) → a ≠ x := fun a ha e => by
      subst e
      obtain ⟨j, u, w, m⟩ := mem_adr.mp ha
      have lj := (List.getElem?_eq_some_iff.mp w).1
      have := env'.sep 0 (j + 1) (.own a (.obj C fs)) u a rfl (by
        rw [List.map_cons, List.cons_append, List.getElem?_cons_succ, List.getElem?_append_left lj]
        exact w) (by simp) m
      omega
    have le2 : Le I' (upd I' x (.ins C dx2 gs)) := Le.new i1
    have sub3 : Sub (upd I' x (.ins C dx2 gs)) H' := fun b o q => by
      by_cases c : b = x
      · subst c; rw [upd_same] at q; cases q; exact h2
      · rw [upd_ne c] at q; exact sub' b o q
    have e1 : EnvR K I' H' (vs.map some) (es0'.map some) := EnvR.pre (by rw [List.length_map, List.length_map, ll]) (EnvR.tail env')
    have e2 : EnvR K (upd I' x (.ins C dx2 gs)) H' (vs.map some) (es0'.map some) := e1.grow (e1.tab.upI (a := x) h2 (fun ps z => (by cases z)) i1) le2 fun a ha => ⟨by rw [upd_ne (out a ha)]; exact (e1.has ha).2, fun o q => q⟩
    refine ⟨hy, kq (.imm (.obj C fs)) es0' (.ref x) _ H' hP sub3 (e2.push (t := .imm (.obj C fs)) (.obj upd_same mm (rr.mono le2)) fun a ha => by simp at ha) ⟨st.imm.trans le2, fun a o h n nt => st.keep a o (le a o h) (nin h n) nt, fun a ps h n => st.tbl a ps (le a _ h) (nin h n), fun a ha => ?_, fun a o h => ?_⟩⟩
    · rcases mem_push.mp ha with ha | ⟨u, q, ha⟩
      · rcases st.own a (by rw [List.map_cons, List.cons_append, adr_cons]; exact .inr (mem_push.mpr (.inl ha))) with z | z
        · rw [List.map_cons, adr_cons] at z
          rcases z with z | z
          · simp at z; subst z; exact .inr hx
          · exact .inl z
        · exact .inr (none_of z)
      · cases q; simp at ha
    · by_cases c : a = x
      · subst c; exact .inr (.inr (.of hx))
      · rw [upd_ne c] at h
        rcases st.new a o h with z | z | z
        · exact .inl z
        · rw [List.map_cons, adr_cons] at z
          rcases z with z | z
          · simp at z; exact absurd z c
          · exact .inr (.inl z)
        · exact .inr (.inr fun u hu => z u (le a u hu))
  · rintro C' d es' y dd I' H' ⟨fs, es0', rfl, hP⟩ sub' env' st rx hd
    refine ke C' d es0' y dd I' H' hP sub' (EnvR.tail env') ⟨st.imm, fun a o h n nt => st.keep a o (le a o h) (nin h n) nt, fun a ps h n => st.tbl a ps (le a _ h) (nin h n), fun a ha => ?_, fun a o h => ?_⟩ rx hd
    · rcases st.own a (by rw [List.map_cons, adr_cons]; exact .inr ha) with z | z
      · rw [List.map_cons, adr_cons] at z
        rcases z with z | z
        · simp at z; subst z; exact .inr hx
        · exact .inl z
      · exact .inr (none_of z)
    · rcases st.new a o h with z | z | z
      · exact .inl z
      · rw [List.map_cons, adr_cons] at z
        rcases z with z | z
        · simp at z; subst z; exact .inr (.inr (.of hx))
        · exact .inr (.inl z)
      · exact .inr (.inr fun u hu => z u (le a u hu))

section
local macro_rules | `(tactic| walk_at "al") => `(tactic| first
  | omega
  | exact Or.inl (Or.inl ⟨by omega, by omega⟩)
  | exact Or.inl (Or.inr ⟨by omega, by omega⟩)
  | exact ⟨by omega, Or.inl (by omega)⟩
  | exact ⟨by omega, by omega, by omega, by omega⟩
  | exact ⟨by decide, by decide, by decide⟩)
local macro_rules | `(tactic| walk_at "bk") => `(tactic| repeat (first | exact BackE.nil | apply BackE.imm | apply BackE.own | apply BackE.hand))
local macro_rules | `(tactic| walk_at "ds1") => `(tactic| first
  | with_reducible refine s_aC ?_
  | ((with_reducible refine' s_vi ?ee_ ?_); (case ee_ => rfl))
  | ((with_reducible refine' s_vs ?ee_ ?_); (case ee_ => rfl))
  | with_reducible refine s_c ?_
  | ((with_reducible refine' x_val2 ?ee_ ?ff_ ?_); (case ee_ => rfl); (case ff_ => rfl))
  | with_reducible refine s_op ?_
  | with_reducible refine s_aN ?_
  | ((with_reducible refine' x_frzs ?ee_ ?ll_ ?_); (case ee_ => rfl); (case ll_ => rfl))
  | with_reducible refine s_seq ?_
  | ((with_reducible refine' x_frz ?ee_ ?_); (case ee_ => rfl))
  | with_reducible refine s_tup ?_
  | with_reducible refine s_gaV ?_
  | ((with_reducible refine' x_bl ?ee_ ?_); (case ee_ => rfl))
  | ((with_reducible refine' s_end ?ee_ ?bb_ ?_); (case ee_ => rfl); (case bb_ => walk_at "bk"))
  | with_reducible refine s_ret ?_
  | with_reducible refine s_test ?_
  | ((with_reducible refine' x_vals ?ee_ ?_); (case ee_ => rfl))
  | with_reducible refine s_cl ?_
  | ((with_reducible refine' x_asg ?ee_ ?_); (case ee_ => rfl))
  | with_reducible refine o_subI ?_
  | with_reducible refine s_set ?_
  | with_reducible refine s_gaN ?_
  | with_reducible refine s_lst ?_
  | with_reducible refine s_next ?_
  | with_reducible refine s_call ?_
  | ((with_reducible refine' x_con ?ee_ ?ff_ ?_); (case ee_ => rfl); (case ff_ => rfl))
  | with_reducible refine s_if ?_
  | ((with_reducible refine' s_gN ?ee_ ?_); (case ee_ => rfl))
  | ((with_reducible refine' x_back ?ll_ ?ee_ ?_); (case ll_ => rfl); (case ee_ => rfl))
  | ((with_reducible refine' x_back1 ?ee_ ?_); (case ee_ => rfl))
  | with_reducible refine o_addI ?_
  | ((with_reducible refine' o_mulI ?cc_ ?_); (case cc_ => walk_at "al"))
  | with_reducible refine s_for ?_
  | ((with_reducible refine' x_val ?ee_ ?_); (case ee_ => rfl))
  | with_reducible refine s_gCn ?_
  | with_reducible refine iteT ?_
  | with_reducible refine iteF ?_
  | with_reducible refine r_iteNf ?_
  | with_reducible refine r_iteNt ?_
  | with_reducible refine s_not ?_
  | with_reducible refine s_drop ?_
  | ((with_reducible refine' o_modI ?cc_ ?_); (case cc_ => walk_at "al"))
  | with_reducible refine s_or ?_
  | ((with_reducible refine' o_ixT ?ee_ ?ff_ ?_); (case ee_ => first | rfl | assumption); (case ff_ => first | rfl | assumption))
  | ((with_reducible refine' ixI ?aa_ ?bb_ ?_); (case aa_ => omega); (case bb_ => omega))
  | ((with_reducible refine' o_ixL ?ee_ ?ff_ ?_); (case ee_ => first | rfl | assumption); (case ff_ => first | rfl | assumption))
  | with_reducible refine o_ixH ?_
  | ((with_reducible refine' x_int ?ee_ ?_); (case ee_ => rfl))
  | with_reducible refine s_pN ?_
  | with_reducible refine s_pS ?_
  | with_reducible refine s_sl ?_
  | ((with_reducible refine' s_gaR ?ee_ ?_); (case ee_ => rfl))
  | with_reducible refine s_rng1 ?_
  | with_reducible refine o_eqI ?_
  | with_reducible refine o_eqS ?_
  | with_reducible refine o_eqP ?_
  | with_reducible refine o_eqB ?_
  | ((with_reducible refine' o_eqIs ?aa_ ?bb_ ?_); (case aa_ => first | omega | (simp only [List.length_map, List.length_range, List.length_replicate]; omega)); (case bb_ => first | omega | (simp only [List.length_map, List.length_range, List.length_replicate]; omega)))
  | ((with_reducible refine' s_callD ?ee_ ?ff_ ?_); (case ee_ => rfl); (case ff_ => rfl))
  | ((with_reducible refine' x_rng1 ?ee_ ?aa_ ?bb_ ?_); (case ee_ => rfl); (case aa_ => omega); (case bb_ => omega))
  | ((with_reducible refine' s_mut ?ee_ ?_); (case ee_ => rfl))
  | ((with_reducible refine' x_mut ?ee_ ?ff_ ?_); (case ee_ => rfl); (case ff_ => rfl))
  | with_reducible refine o_max ?_
  | with_reducible refine s_un ?_
  | with_reducible refine s_gNl ?_
  | ((with_reducible refine' x_frzO ?ee_ ?_); (case ee_ => rfl))
  | with_reducible refine o_ltI ?_
  | with_reducible refine s_wSeq ?_
  | ((with_reducible refine' x_items ?ee_ ?ff_ ?_); (case ee_ => rfl); (case ff_ => rfl))
  | ((with_reducible refine' s_lookT ?ee_ ?_); (case ee_ => rfl))
  | with_reducible refine s_asg ?_
  | ((with_reducible refine' s_gT ?ee_ ?_); (case ee_ => rfl))
  | with_reducible refine o_int ?_
  | ((with_reducible refine' o_inT ?ee_ ?_); (case ee_ => rfl))
  | ((with_reducible refine' o_inF ?ee_ ?_); (case ee_ => rfl))
  | with_reducible refine o_intB ?_
  | with_reducible refine s_andV ?_
  | with_reducible refine s_prop ?_
  | ((with_reducible refine' s_xis ?ee_ ?ff_ ?_); (case ee_ => rfl); (case ff_ => assumption))
  | ((with_reducible refine' x_xis ?ee_ ?ff_ ?_); (case ee_ => rfl); (case ff_ => assumption))
  | ((with_reducible refine' x_xisT2 ?ee_ ?ff_ ?gg_ ?hh_ ?_); (case ee_ => rfl); (case ff_ => rfl); (case gg_ => assumption); (case hh_ => assumption))
  | ((with_reducible refine' s_xisT ?ee_ ?ff_ ?_); (case ee_ => rfl); (case ff_ => assumption))
  | with_reducible refine o_lenI ?_
  | with_reducible refine o_lenL ?_
  | with_reducible refine o_lenT ?_
  | with_reducible refine o_lenF ?_
  | with_reducible refine o_lenD ?_
  | ((with_reducible refine' x_pxT ?ee_ ?_); (case ee_ => assumption))
  | ((with_reducible refine' x_px ?bb_ ?_); (case bb_ => walk_at "bk"))
  | ((with_reducible refine' o_powI ?cc_ ?_); (case cc_ => walk_at "al"))
  | ((with_reducible refine' o_fld ?ee_ ?_); (case ee_ => rfl))
  | with_reducible refine s_parE ?_
  | ((with_reducible refine' x_parE ?ee_ ?ff_ ?_); (case ee_ => rfl); (case ff_ => rfl))
  | with_reducible refine o_slF ?_
  | with_reducible refine o_slL ?_
  | with_reducible refine o_slT ?_
  | with_reducible refine s_dnT ?_
  | with_reducible refine s_rng2 ?_
  | ((with_reducible refine' x_rng2 ?ee_ ?aa_ ?_); (case ee_ => rfl); (case aa_ => exact ⟨by omega, by omega, by omega, by omega⟩))
  | ((with_reducible refine' o_divI ?cc_ ?_); (case cc_ => walk_at "al"))
  | with_reducible refine o_andI ?_
  | with_reducible refine o_min ?_
  | with_reducible refine s_chain ?_
  | with_reducible refine x_ib ?_
  | with_reducible refine s_dget ?_
  | with_reducible refine s_raise ?_
  | with_reducible refine s_lc ?_
  | ((with_reducible refine' x_clear ?ee_ ?_); (case ee_ => rfl))
  | with_reducible refine o_neI ?_
  | with_reducible refine o_neS ?_
  | with_reducible refine o_neP ?_
  | with_reducible refine o_neC ?_
  | with_reducible refine o_neg ?_
  | ((with_reducible refine' o_neIs ?aa_ ?bb_ ?_); (case aa_ => first | omega | (simp only [List.length_map, List.length_range, List.length_replicate]; omega)); (case bb_ => first | omega | (simp only [List.length_map, List.length_range, List.length_replicate]; omega)))
  | with_reducible refine o_gtI ?_
  | with_reducible refine s_and ?_
  | with_reducible refine s_fz ?_
  | ((with_reducible refine' x_noa ?ee_ ?_); (case ee_ => rfl))
  | ((with_reducible refine' s_dapp ?ee_ ?ff_ ?gg_ ?_); (case ee_ => rfl); (case ff_ => rfl); (case gg_ => rfl))
  | with_reducible refine s_meth ?_
  | with_reducible refine s_rev ?_
  | with_reducible refine s_two ?_
  | with_reducible refine s_join ?_
  | ((with_reducible refine' o_lenX ?ee_ ?_); (case ee_ => assumption))
  | ((with_reducible refine' o_addX ?ee_ ?ff_ ?_); (case ee_ => assumption); (case ff_ => assumption))
  | ((with_reducible refine' o_sliceX ?ee_ ?_); (case ee_ => assumption))
  | ((with_reducible refine' o_ixT' ?ee_ ?ff_ ?gg_ ?_); (case ee_ => assumption); (case ff_ => assumption); (case gg_ => assumption))
  | ((with_reducible refine' x_rev ?ee_ ?ff_ ?_); (case ee_ => rfl); (case ff_ => rfl))
  | ((with_reducible refine' x_isstr ?ee_ ?_); (case ee_ => rfl))
  | ((with_reducible refine' x_two ?ee_ ?ff_ ?_); (case ee_ => rfl); (case ff_ => rfl))
  | with_reducible refine s_dnin ?_
  | with_reducible refine s_setIx ?_
  | ((with_reducible refine' s_gL ?ee_ ?_); (case ee_ => rfl))
  | ((with_reducible refine' s_forW ?ee_ ?ff_ ?_); (case ee_ => rfl); (case ff_ => first | assumption | exact hasD_imm | exact hasD_own))
  | with_reducible refine o_list ?_
  | with_reducible refine o_listT ?_
  | ((with_reducible refine' x_isT ?ee_ ?_); (case ee_ => rfl))
  | ((with_reducible refine' x_isK ?ee_ ?_); (case ee_ => rfl))
  | with_reducible refine o_leI ?_
  | with_reducible refine s_notV ?_
  | with_reducible refine s_ifV ?_
  | with_reducible refine s_callT ?_
  | with_reducible refine s_callB ?_
  | ((with_reducible refine' x_lent ?ee_ ?_); (case ee_ => rfl))
  | with_reducible refine s_minL ?_
  | with_reducible refine s_fnK ?_
  | with_reducible refine s_fnM ?_
  | ((with_reducible refine' x_fnM ?ee_ ?ff_ ?gg_ ?_); (case ee_ => rfl); (case ff_ => rfl); (case gg_ => rfl))
  | with_reducible refine s_par3E ?_
  | ((with_reducible refine' x_par3E ?ee_ ?ff_ ?gg_ ?_); (case ee_ => rfl); (case ff_ => rfl); (case gg_ => rfl))
  | with_reducible refine s_dol ?_
  | with_reducible refine s_ud ?_
  | with_reducible refine x_callT ?_
  | ((with_reducible refine' x_frzsK ?ee_ ?ll_ ?_); (case ee_ => rfl); (case ll_ => rfl))
  | with_reducible refine s_make ?_
  | with_reducible refine s_dget1 ?_
  | with_reducible refine s_dget2 ?_
  | ((with_reducible refine' x_get2 ?ee_ ?ff_ ?gg_ ?_); (case ee_ => rfl); (case ff_ => rfl); (case gg_ => rfl))
  | with_reducible refine s_brk ?_
  | with_reducible refine s_zip ?_
  | ((with_reducible refine' x_zip ?ee_ ?_); (case ee_ => rfl))
  | with_reducible refine s_tryG ?_
  | ((with_reducible refine' s_xv ?ee_ ?ff_ ?gg_ ?_); (case ee_ => rfl); (case ff_ => assumption); (case gg_ => assumption))
  | with_reducible refine s_yes ?_
  | with_reducible refine isi_bl_bool ?_
  | with_reducible refine isi_bl_int ?_
  | with_reducible refine isi_bl_str ?_
  | with_reducible refine isi_bl_list ?_
  | with_reducible refine isi_bl_tuple ?_
  | with_reducible refine isi_int_bool ?_
  | with_reducible refine isi_int_int ?_
  | with_reducible refine isi_int_str ?_
  | with_reducible refine isi_int_list ?_
  | with_reducible refine isi_int_tuple ?_
  | with_reducible refine isi_str_bool ?_
  | with_reducible refine isi_str_int ?_
  | with_reducible refine isi_str_str ?_
  | with_reducible refine isi_str_list ?_
  | with_reducible refine isi_str_tuple ?_
  | with_reducible refine isi_lst_bool ?_
  | with_reducible refine isi_lst_int ?_
  | with_reducible refine isi_lst_str ?_
  | with_reducible refine isi_lst_list ?_
  | with_reducible refine isi_lst_tuple ?_
  | with_reducible refine isi_tup_bool ?_
  | with_reducible refine isi_tup_int ?_
  | with_reducible refine isi_tup_str ?_
  | with_reducible refine isi_tup_list ?_
  | with_reducible refine isi_tup_tuple ?_
  | with_reducible refine isi_non_bool ?_
  | with_reducible refine isi_non_int ?_
  | with_reducible refine isi_non_str ?_
  | with_reducible refine isi_non_list ?_
  | with_reducible refine isi_non_tuple ?_
  | with_reducible refine o_isN_non ?_
  | with_reducible refine o_isN_bl ?_
  | with_reducible refine o_isN_int ?_
  | with_reducible refine o_isN_str ?_
  | with_reducible refine o_isN_lst ?_
  | with_reducible refine o_isN_tup ?_
  | with_reducible refine o_isN_obj ?_
  | with_reducible refine o_isN' ?_
  | with_reducible refine o_isB' ?_
  | with_reducible refine o_isNB ?_
  | ((with_reducible refine' x_frz2 ?ee_ ?ff_ ?_); (case ee_ => rfl); (case ff_ => rfl))
  | with_reducible refine o_geI ?_
  | with_reducible refine o_notN_non ?_
  | with_reducible refine o_notN_bl ?_
  | with_reducible refine o_notN_int ?_
  | with_reducible refine o_notN_str ?_
  | with_reducible refine o_notN_lst ?_
  | with_reducible refine o_notN_tup ?_
  | with_reducible refine o_notN_obj ?_
  | with_reducible refine o_notN' ?_
  | with_reducible refine s_dnK ?_
  | with_reducible refine o_abs ?_
  | ((with_reducible refine' o_ninT ?ee_ ?_); (case ee_ => rfl))
  | ((with_reducible refine' o_ninF ?ee_ ?_); (case ee_ => rfl))
  | with_reducible refine s_orV ?_
  | with_reducible refine s_sameL ?_
  | with_reducible refine s_fg ?_
  | ((with_reducible refine' x_lenN ?ee_ ?ff_ ?_); (case ee_ => omega); (case ff_ => omega))
  | ((with_reducible refine' x_le1000 ?ee_ ?_); (case ee_ => rfl))
  | with_reducible refine s_meth0 ?_
  | with_reducible refine s_methK ?_
  | with_reducible refine s_makeK ?_
  | with_reducible refine s_own2 ?_
  | with_reducible refine s_eqX ?_
  | with_reducible refine s_neX ?_
  | with_reducible refine x_nb ?_
  | with_reducible refine s_lenO ?_
  | ((with_reducible refine' s_mut0 ?ee_ ?_); (case ee_ => rfl))
  | with_reducible refine m_clr ?_
  | with_reducible refine m_rev ?_
  | with_reducible refine s_din ?_
  | ((with_reducible refine' s_lookK ?ee_ ?_); (case ee_ => rfl))
  | with_reducible refine s_retN ?_
  | with_reducible refine s_cnt ?_
  | with_reducible refine s_enum ?_
  | with_reducible refine s_enumS ?_
  | with_reducible refine s_rng3 ?_
  | ((with_reducible refine' x_enumS ?ee_ ?_); (case ee_ => rfl))
  | ((with_reducible refine' x_enum ?ee_ ?_); (case ee_ => rfl))
  | with_reducible refine s_lcG ?_
  | ((with_reducible refine' s_lcV ?ee_ ?ff_ ?_); (case ee_ => rfl); (case ff_ => rfl))
  | ((with_reducible refine' s_forV ?ee_ ?_); (case ee_ => rfl))
  | ((with_reducible refine' o_rep1 ?aa_ ?_); (case aa_ => exact ⟨by omega, by omega⟩))
  | with_reducible refine s_par ?_
  | ((with_reducible refine' x_par ?ee_ ?ff_ ?gg_ ?_); (case ee_ => rfl); (case ff_ => rfl); (case gg_ => rfl))
  | with_reducible refine s_rng1L ?_
  | ((with_reducible refine' x_rng1L ?ee_ ?_); (case ee_ => rfl))
  | with_reducible refine s_rng2L ?_
  | ((with_reducible refine' x_rng2L ?ee_ ?_); (case ee_ => rfl))
  | with_reducible refine s_fset ?_
  | ((with_reducible refine' x_fset ?ee_ ?ff_ ?gg_ ?_); (case ee_ => rfl); (case ff_ => rfl); (case gg_ => rfl))
  | with_reducible refine x_got rfl ?_
  | with_reducible refine x_in0 ?_
  | with_reducible refine x_inS ?_
  | ((with_reducible refine' s_gVal ?ee_ ?_); (case ee_ => rfl))
  | ((with_reducible refine' s_gGen ?ee_ ?_); (case ee_ => rfl))
  | ((with_reducible refine' s_gTag ?ee_ ?_); (case ee_ => rfl))
  | ((with_reducible refine' s_endN ?bb_ ?_); (case bb_ => walk_at "bk"))
  | ((with_reducible refine' s_dpop ?ee_ ?_); (case ee_ => rfl))
  | with_reducible refine s_swap2 ?_
  | ((with_reducible refine' x_swap2 ?ee_ ?_); (case ee_ => rfl))
  | ((with_reducible refine' s_gS ?ee_ ?_); (case ee_ => rfl))
  | ((with_reducible refine' x_gS ?ee_ ?ff_ ?gg_ ?_); (case ee_ => rfl); (case ff_ => rfl); (case gg_ => first | assumption | rfl))
  | ((with_reducible refine' x_dpop ?ee_ ?ff_ ?gg_ ?_); (case ee_ => rfl); (case ff_ => rfl); (case gg_ => rfl)))
local macro_rules | `(tactic| walk_at "ds") => `(tactic| (repeat' (walk_at "ds1")))
set_option hygiene false in
local macro_rules | `(tactic| walk_at "dx") => `(tactic| (repeat' (first | walk_at "ds1" | with_reducible refine (fun (a : Addr) => ?_ : ∀ _ : Addr, _) | with_reducible refine ite_d (fun c => ?_) (fun c => ?_) | with_reducible refine ite_nd (fun c => ?_) (fun c => ?_) | with_reducible refine ite_nb (fun c => ?_) (fun c => ?_) | with_reducible refine ite_b (fun c => ?_) (fun c => ?_))))
set_option hygiene false in
local macro_rules | `(tactic| walk_at "dy") => `(tactic| (repeat' (first | walk_at "ds1" | with_reducible refine (fun (a : Addr) => ?_ : ∀ _ : Addr, _))))
/-! ### wells: the drawn numbers of the strips' and the courses' laws -/
def conWell : Con := fun es P _ => ∃ (cell salt : Int), es = [.int cell, .int salt] ∧ 0 ≤ salt ∧ salt ≤ 100000 ∧ ∀ (n : Int) (l : Addr), P (.own l (.lst [.int n])) es
def conPick : Con := fun es P _ => ∃ (l : Addr) (n many : Int), es = [.own l (.lst [.int n]), .int many] ∧ 0 < many ∧ (many < 1073741824 ∨ many.natAbs.log2 < 9000) ∧ ∀ r n' : Int, 0 ≤ r → r < many → P (.int r) [.own l (.lst [.int n']), .int many]
theorem log2_le {n : Int} {k : Nat} (h0 : 0 ≤ n) (h : n < 2 ^ k) : n.natAbs.log2 ≤ k := by
  by_cases z : n.natAbs = 0
  · rw [z]; simp
  · have a : n.natAbs < 2 ^ k := by
      have b : ((n.natAbs : Nat) : Int) = n := Int.natAbs_of_nonneg h0
      have c : ((n.natAbs : Nat) : Int) < ((2 ^ k : Nat) : Int) := by rw [b]; push_cast; exact h
      exact Int.ofNat_lt.mp c
    exact Nat.le_of_lt ((Nat.log2_lt z).mpr a)
section
variable {P : Program} {w : World} {K : PySem.W.Frag} {mg : Str → Option Value} {base : Heap} {A : Ad}
theorem okd__law_pick (T : Txt K mg A) : FnOk P w K mg base (L2.CX P w) (0 + 1) A.f__law_pick A.d__law_pick P__law_pick (spD K conPick) := by
  refine okD_fn T.F__law_pick sc__law_pick (fun es P PX h => ?_) (fun cdv A' outer s H I E es R PX hr fo hc => ?_)
  · obtain ⟨l, n, many, rfl, _⟩ := h
    rfl
  obtain ⟨l, n, many, rfl, h0, h1, hP⟩ := hc
  have hu := hu_of hr
  refine ⟨_, (dss_cons (ds_set (i := 2) sc__law_pick.nd rfl (Or.inl rfl) (de_op dor_mod (de_typ dcr_int (by rfl) T.n_int (by decide +kernel) (da_cons (de_ix dix (dv 0) de_int) da_nil)) (dv 1)))
(dss_cons (ds_setIx (pv 0) de_int (de_op dor_div (de_ix dix (dv 0) de_int) (dv 1)))
(dss_one (ds_ret (dv 2))))), ?_⟩
  walk_at "dy"
  refine ⟨⟨h0, h1⟩, ?_⟩
  refine ⟨⟨_, _, rfl⟩, ?_⟩
  walk_at "dx"
  refine ⟨_, _, _, _, _, 0, rfl, rfl, rfl, rfl, ?_⟩
  walk_at "dx"
  exact hP _ _ (Int.emod_nonneg _ (by omega)) (Int.emod_lt_of_pos _ h0)
theorem okd__law_well (T : Txt K mg A) : FnOk P w K mg base (L2.CX P w) (0 + 1) A.f__law_well A.d__law_well P__law_well (spD K conWell) := by
  refine okD_fn T.F__law_well sc__law_well (fun es P PX h => ?_) (fun cdv A' outer s H I E es R PX hr fo hc => ?_)
  · obtain ⟨cell, salt, rfl, _⟩ := h
    rfl
  obtain ⟨cell, salt, rfl, h0, h1, hP⟩ := hc
  have hu := hu_of hr
  refine ⟨_, (dss_cons (ds_if (dt_cmp dor_ge (dv 0) (de_op dor_pow de_int de_int) (nomark _))
(dss_one (ds_ret (de_lst (da_cons (de_op dor_sub (dv 0) (de_op dor_pow de_int de_int)) da_nil))))
dss_nil)
(dss_cons (ds_set (i := 2) sc__law_well.nd rfl (Or.inl rfl) de_int)
(dss_cons (ds_set (i := 3) sc__law_well.nd rfl (Or.inl rfl) (de_op dor_mod (de_typ dcr_int (by rfl) T.n_int (by decide +kernel) (da_cons (de_op dor_add (de_op dor_add (de_op dor_mul (dv 0) de_int) (de_op dor_mul (dv 1) de_int)) de_int) da_nil)) (dv 2)))
(dss_cons (ds_set (i := 4) sc__law_well.nd rfl (Or.inl rfl) de_int)
(dss_cons (ds_for (passes_of rfl) rfl (di_rng1 (by rfl) T.n_range (da_cons de_int da_nil)) (dg_name (i := 5) sc__law_well.nd rfl (Or.inl rfl))
(dss_cons (ds_set (i := 3) sc__law_well.nd rfl (Or.inl rfl) (de_op dor_mod (de_typ dcr_int (by rfl) T.n_int (by decide +kernel) (da_cons (de_op dor_add (de_op dor_add (de_op dor_mul (de_op dor_mul (dv 3) (dv 3)) (dv 3)) (de_op dor_mul de_int (dv 5))) (dv 1)) da_nil)) (dv 2)))
(dss_one (ds_set (i := 4) sc__law_well.nd rfl (Or.inl rfl) (de_op dor_add (de_op dor_mul (dv 4) (dv 2)) (dv 3))))))
(dss_one (ds_ret (de_lst (da_cons (dv 4) da_nil))))))))), ?_⟩
  walk_at "dy"
  walk_at "dx"
  · exact hP _ _
  refine ⟨fun i e => ∃ (seed num : Int) (v5 : Option Ent), e = [some (.imm (.int cell)), some (.imm (.int salt)), some (.imm (.int 170141183460469231731687303715884105727)), some (.imm (.int seed)), some (.imm (.int num)), v5] ∧ 0 ≤ seed ∧ seed < 170141183460469231731687303715884105727 ∧ 0 ≤ num ∧ num < 2 ^ (128 * i), ⟨_, _, _, rfl, Int.emod_nonneg _ (by decide), Int.emod_lt_of_pos _ (by decide), by decide, by decide⟩, ?_, ?_⟩
  · rintro i c e hc ⟨seed, num, v5, rfl, s0, s1, n0, n1⟩
    obtain ⟨hi, rfl⟩ := rng_get hc
    have hi : i < 16 := by omega
    walk_at "dx"
    have b127 : ∀ z : Int, 0 ≤ z → z < 170141183460469231731687303715884105727 → z.natAbs.log2 ≤ 127 := fun z a b => log2_le a (Int.lt_trans b (by decide))
    have ls := b127 seed s0 s1
    refine ⟨.inr (by unfold CMulW; omega), ?_⟩
    walk_at "dx"
    have lss : (seed * seed).natAbs.log2 ≤ 254 := by
      refine log2_le (Int.mul_nonneg s0 s0) ?_
      have z : seed * seed ≤ 170141183460469231731687303715884105726 * 170141183460469231731687303715884105726 := Int.mul_le_mul (by omega) (by omega) s0 (by decide)
      exact Int.lt_of_le_of_lt z (by decide)
    refine ⟨.inr (by unfold CMulW; omega), ?_⟩
    walk_at "dx"
    have ln := log2_le n0 n1
    refine ⟨.inr (by unfold CMulW; have : (170141183460469231731687303715884105727 : Int).natAbs.log2 = 126 := (by decide +kernel); omega), ?_⟩
    walk_at "dx"
    have t0 : 0 ≤ (seed * seed * seed + 7 * (0 + (i : Int)) + salt) % 170141183460469231731687303715884105727 := Int.emod_nonneg _ (by decide)
    have t1 : (seed * seed * seed + 7 * (0 + (i : Int)) + salt) % 170141183460469231731687303715884105727 < 170141183460469231731687303715884105727 := Int.emod_lt_of_pos _ (by decide)
    refine ⟨_, _, _, rfl, t0, t1, Int.add_nonneg (Int.mul_nonneg n0 (by decide)) t0, ?_⟩
    have e : (2 : Int) ^ (128 * (i + 1)) = 2 ^ (128 * i) * 340282366920938463463374607431768211456 := by
      rw [show 128 * (i + 1) = 128 * i + 128 by omega, Int.pow_add]
      rfl
    rw [e]
    generalize (2 : Int) ^ (128 * i) = M at *
    omega
  · rintro e ⟨seed, num, v5, rfl, s0, s1, n0, n1⟩
    walk_at "dx"
    exact hP _ _
end

end

section
local macro_rules | `(tactic| walk_at "al") => `(tactic| first
  | omega
  | exact Or.inl (Or.inl ⟨by omega, by omega⟩)
  | exact Or.inl (Or.inr ⟨by omega, by omega⟩)
  | exact ⟨by omega, Or.inl (by omega)⟩
  | exact ⟨by omega, by omega, by omega, by omega⟩
  | exact ⟨by decide, by decide, by decide⟩)
local macro_rules | `(tactic| walk_at "bk") => `(tactic| repeat (first | exact BackE.nil | apply BackE.imm | apply BackE.own | apply BackE.hand))
local macro_rules | `(tactic| walk_at "ds1") => `(tactic| first
  | with_reducible refine s_aC ?_
  | ((with_reducible refine' s_vi ?ee_ ?_); (case ee_ => rfl))
  | ((with_reducible refine' s_vs ?ee_ ?_); (case ee_ => rfl))
  | with_reducible refine s_c ?_
  | ((with_reducible refine' x_val2 ?ee_ ?ff_ ?_); (case ee_ => rfl); (case ff_ => rfl))
  | with_reducible refine s_op ?_
  | with_reducible refine s_aN ?_
  | ((with_reducible refine' x_frzs ?ee_ ?ll_ ?_); (case ee_ => rfl); (case ll_ => rfl))
  | with_reducible refine s_seq ?_
  | ((with_reducible refine' x_frz ?ee_ ?_); (case ee_ => rfl))
  | with_reducible refine s_tup ?_
  | with_reducible refine s_gaV ?_
  | ((with_reducible refine' x_bl ?ee_ ?_); (case ee_ => rfl))
  | ((with_reducible refine' s_end ?ee_ ?bb_ ?_); (case ee_ => rfl); (case bb_ => walk_at "bk"))
  | with_reducible refine s_ret ?_
  | with_reducible refine s_test ?_
  | ((with_reducible refine' x_vals ?ee_ ?_); (case ee_ => rfl))
  | with_reducible refine s_cl ?_
  | ((with_reducible refine' x_asg ?ee_ ?_); (case ee_ => rfl))
  | with_reducible refine o_subI ?_
  | with_reducible refine s_set ?_
  | with_reducible refine s_gaN ?_
  | with_reducible refine s_lst ?_
  | with_reducible refine s_next ?_
  | with_reducible refine s_call ?_
  | ((with_reducible refine' x_con ?ee_ ?ff_ ?_); (case ee_ => rfl); (case ff_ => rfl))
  | with_reducible refine s_if ?_
  | ((with_reducible refine' s_gN ?ee_ ?_); (case ee_ => rfl))
  | ((with_reducible refine' x_back ?ll_ ?ee_ ?_); (case ll_ => rfl); (case ee_ => rfl))
  | ((with_reducible refine' x_back1 ?ee_ ?_); (case ee_ => rfl))
  | with_reducible refine o_addI ?_
  | ((with_reducible refine' o_mulI ?cc_ ?_); (case cc_ => walk_at "al"))
  | with_reducible refine s_for ?_
  | ((with_reducible refine' x_val ?ee_ ?_); (case ee_ => rfl))
  | with_reducible refine s_gCn ?_
  | with_reducible refine iteT ?_
  | with_reducible refine iteF ?_
  | with_reducible refine r_iteNf ?_
  | with_reducible refine r_iteNt ?_
  | with_reducible refine s_not ?_
  | with_reducible refine s_drop ?_
  | ((with_reducible refine' o_modI ?cc_ ?_); (case cc_ => walk_at "al"))
  | with_reducible refine s_or ?_
  | ((with_reducible refine' o_ixT ?ee_ ?ff_ ?_); (case ee_ => first | rfl | assumption); (case ff_ => first | rfl | assumption))
  | ((with_reducible refine' ixI ?aa_ ?bb_ ?_); (case aa_ => omega); (case bb_ => omega))
  | ((with_reducible refine' o_ixL ?ee_ ?ff_ ?_); (case ee_ => first | rfl | assumption); (case ff_ => first | rfl | assumption))
  | with_reducible refine o_ixH ?_
  | ((with_reducible refine' x_int ?ee_ ?_); (case ee_ => rfl))
  | with_reducible refine s_pN ?_
  | with_reducible refine s_pS ?_
  | with_reducible refine s_sl ?_
  | ((with_reducible refine' s_gaR ?ee_ ?_); (case ee_ => rfl))
  | with_reducible refine s_rng1 ?_
  | with_reducible refine o_eqI ?_
  | with_reducible refine o_eqS ?_
  | with_reducible refine o_eqP ?_
  | with_reducible refine o_eqB ?_
  | ((with_reducible refine' o_eqIs ?aa_ ?bb_ ?_); (case aa_ => first | omega | (simp only [List.length_map, List.length_range, List.length_replicate]; omega)); (case bb_ => first | omega | (simp only [List.length_map, List.length_range, List.length_replicate]; omega)))
  | ((with_reducible refine' s_callD ?ee_ ?ff_ ?_); (case ee_ => rfl); (case ff_ => rfl))
  | ((with_reducible refine' x_rng1 ?ee_ ?aa_ ?bb_ ?_); (case ee_ => rfl); (case aa_ => omega); (case bb_ => omega))
  | ((with_reducible refine' s_mut ?ee_ ?_); (case ee_ => rfl))
  | ((with_reducible refine' x_mut ?ee_ ?ff_ ?_); (case ee_ => rfl); (case ff_ => rfl))
  | with_reducible refine o_max ?_
  | with_reducible refine s_un ?_
  | with_reducible refine s_gNl ?_
  | ((with_reducible refine' x_frzO ?ee_ ?_); (case ee_ => rfl))
  | with_reducible refine o_ltI ?_
  | with_reducible refine s_wSeq ?_
  | ((with_reducible refine' x_items ?ee_ ?ff_ ?_); (case ee_ => rfl); (case ff_ => rfl))
  | ((with_reducible refine' s_lookT ?ee_ ?_); (case ee_ => rfl))
  | with_reducible refine s_asg ?_
  | ((with_reducible refine' s_gT ?ee_ ?_); (case ee_ => rfl))
  | with_reducible refine o_int ?_
  | ((with_reducible refine' o_inT ?ee_ ?_); (case ee_ => rfl))
  | ((with_reducible refine' o_inF ?ee_ ?_); (case ee_ => rfl))
  | with_reducible refine o_intB ?_
  | with_reducible refine s_andV ?_
  | with_reducible refine s_prop ?_
  | ((with_reducible refine' s_xis ?ee_ ?ff_ ?_); (case ee_ => rfl); (case ff_ => assumption))
  | ((with_reducible refine' x_xis ?ee_ ?ff_ ?_); (case ee_ => rfl); (case ff_ => assumption))
  | ((with_reducible refine' x_xisT2 ?ee_ ?ff_ ?gg_ ?hh_ ?_); (case ee_ => rfl); (case ff_ => rfl); (case gg_ => assumption); (case hh_ => assumption))
  | ((with_reducible refine' s_xisT ?ee_ ?ff_ ?_); (case ee_ => rfl); (case ff_ => assumption))
  | with_reducible refine o_lenI ?_
  | with_reducible refine o_lenL ?_
  | with_reducible refine o_lenT ?_
  | with_reducible refine o_lenF ?_
  | with_reducible refine o_lenD ?_
  | ((with_reducible refine' x_pxT ?ee_ ?_); (case ee_ => assumption))
  | ((with_reducible refine' x_px ?bb_ ?_); (case bb_ => walk_at "bk"))
  | ((with_reducible refine' o_powI ?cc_ ?_); (case cc_ => walk_at "al"))
  | ((with_reducible refine' o_fld ?ee_ ?_); (case ee_ => rfl))
  | with_reducible refine s_parE ?_
  | ((with_reducible refine' x_parE ?ee_ ?ff_ ?_); (case ee_ => rfl); (case ff_ => rfl))
  | with_reducible refine o_slF ?_
  | with_reducible refine o_slL ?_
  | with_reducible refine o_slT ?_
  | with_reducible refine s_dnT ?_
  | with_reducible refine s_rng2 ?_
  | ((with_reducible refine' x_rng2 ?ee_ ?aa_ ?_); (case ee_ => rfl); (case aa_ => exact ⟨by omega, by omega, by omega, by omega⟩))
  | ((with_reducible refine' o_divI ?cc_ ?_); (case cc_ => walk_at "al"))
  | with_reducible refine o_andI ?_
  | with_reducible refine o_min ?_
  | with_reducible refine s_chain ?_
  | with_reducible refine x_ib ?_
  | with_reducible refine s_dget ?_
  | with_reducible refine s_raise ?_
  | with_reducible refine s_lc ?_
  | ((with_reducible refine' x_clear ?ee_ ?_); (case ee_ => rfl))
  | with_reducible refine o_neI ?_
  | with_reducible refine o_neS ?_
  | with_reducible refine o_neP ?_
  | with_reducible refine o_neC ?_
  | with_reducible refine o_neg ?_
  | ((with_reducible refine' o_neIs ?aa_ ?bb_ ?_); (case aa_ => first | omega | (simp only [List.length_map, List.length_range, List.length_replicate]; omega)); (case bb_ => first | omega | (simp only [List.length_map, List.length_range, List.length_replicate]; omega)))
  | with_reducible refine o_gtI ?_
  | with_reducible refine s_and ?_
  | with_reducible refine s_fz ?_
  | ((with_reducible refine' x_noa ?ee_ ?_); (case ee_ => rfl))
  | ((with_reducible refine' s_dapp ?ee_ ?ff_ ?gg_ ?_); (case ee_ => rfl); (case ff_ => rfl); (case gg_ => rfl))
  | with_reducible refine s_meth ?_
  | with_reducible refine s_rev ?_
  | with_reducible refine s_two ?_
  | with_reducible refine s_join ?_
  | ((with_reducible refine' o_lenX ?ee_ ?_); (case ee_ => assumption))
  | ((with_reducible refine' o_addX ?ee_ ?ff_ ?_); (case ee_ => assumption); (case ff_ => assumption))
  | ((with_reducible refine' o_sliceX ?ee_ ?_); (case ee_ => assumption))
  | ((with_reducible refine' o_ixT' ?ee_ ?ff_ ?gg_ ?_); (case ee_ => assumption); (case ff_ => assumption); (case gg_ => assumption))
  | ((with_reducible refine' x_rev ?ee_ ?ff_ ?_); (case ee_ => rfl); (case ff_ => rfl))
  | ((with_reducible refine' x_isstr ?ee_ ?_); (case ee_ => rfl))
  | ((with_reducible refine' x_two ?ee_ ?ff_ ?_); (case ee_ => rfl); (case ff_ => rfl))
  | with_reducible refine s_dnin ?_
  | with_reducible refine s_setIx ?_
  | ((with_reducible refine' s_gL ?ee_ ?_); (case ee_ => rfl))
  | ((with_reducible refine' s_forW ?ee_ ?ff_ ?_); (case ee_ => rfl); (case ff_ => first | assumption | exact hasD_imm | exact hasD_own))
  | with_reducible refine o_list ?_
  | with_reducible refine o_listT ?_
  | ((with_reducible refine' x_isT ?ee_ ?_); (case ee_ => rfl))
  | ((with_reducible refine' x_isK ?ee_ ?_); (case ee_ => rfl))
  | with_reducible refine o_leI ?_
  | with_reducible refine s_notV ?_
  | with_reducible refine s_ifV ?_
  | with_reducible refine s_callT ?_
  | with_reducible refine s_callB ?_
  | ((with_reducible refine' x_lent ?ee_ ?_); (case ee_ => rfl))
  | with_reducible refine s_minL ?_
  | with_reducible refine s_fnK ?_
  | with_reducible refine s_fnM ?_
  | ((with_reducible refine' x_fnM ?ee_ ?ff_ ?gg_ ?_); (case ee_ => rfl); (case ff_ => rfl); (case gg_ => rfl))
  | with_reducible refine s_par3E ?_
  | ((with_reducible refine' x_par3E ?ee_ ?ff_ ?gg_ ?_); (case ee_ => rfl); (case ff_ => rfl); (case gg_ => rfl))
  | with_reducible refine s_dol ?_
  | with_reducible refine s_ud ?_
  | with_reducible refine x_callT ?_
  | ((with_reducible refine' x_frzsK ?ee_ ?ll_ ?_); (case ee_ => rfl); (case ll_ => rfl))
  | with_reducible refine s_make ?_
  | with_reducible refine s_dget1 ?_
  | with_reducible refine s_dget2 ?_
  | ((with_reducible refine' x_get2 ?ee_ ?ff_ ?gg_ ?_); (case ee_ => rfl); (case ff_ => rfl); (case gg_ => rfl))
  | with_reducible refine s_brk ?_
  | with_reducible refine s_zip ?_
  | ((with_reducible refine' x_zip ?ee_ ?_); (case ee_ => rfl))
  | with_reducible refine s_tryG ?_
  | ((with_reducible refine' s_xv ?ee_ ?ff_ ?gg_ ?_); (case ee_ => rfl); (case ff_ => assumption); (case gg_ => assumption))
  | with_reducible refine s_yes ?_
  | with_reducible refine isi_bl_bool ?_
  | with_reducible refine isi_bl_int ?_
  | with_reducible refine isi_bl_str ?_
  | with_reducible refine isi_bl_list ?_
  | with_reducible refine isi_bl_tuple ?_
  | with_reducible refine isi_int_bool ?_
  | with_reducible refine isi_int_int ?_
  | with_reducible refine isi_int_str ?_
  | with_reducible refine isi_int_list ?_
  | with_reducible refine isi_int_tuple ?_
  | with_reducible refine isi_str_bool ?_
  | with_reducible refine isi_str_int ?_
  | with_reducible refine isi_str_str ?_
  | with_reducible refine isi_str_list ?_
  | with_reducible refine isi_str_tuple ?_
  | with_reducible refine isi_lst_bool ?_
  | with_reducible refine isi_lst_int ?_
  | with_reducible refine isi_lst_str ?_
  | with_reducible refine isi_lst_list ?_
  | with_reducible refine isi_lst_tuple ?_
  | with_reducible refine isi_tup_bool ?_
  | with_reducible refine isi_tup_int ?_
  | with_reducible refine isi_tup_str ?_
  | with_reducible refine isi_tup_list ?_
  | with_reducible refine isi_tup_tuple ?_
  | with_reducible refine isi_non_bool ?_
  | with_reducible refine isi_non_int ?_
  | with_reducible refine isi_non_str ?_
  | with_reducible refine isi_non_list ?_
  | with_reducible refine isi_non_tuple ?_
  | with_reducible refine o_isN_non ?_
  | with_reducible refine o_isN_bl ?_
  | with_reducible refine o_isN_int ?_
  | with_reducible refine o_isN_str ?_
  | with_reducible refine o_isN_lst ?_
  | with_reducible refine o_isN_tup ?_
  | with_reducible refine o_isN_obj ?_
  | with_reducible refine o_isN' ?_
  | with_reducible refine o_isB' ?_
  | with_reducible refine o_isNB ?_
  | ((with_reducible refine' x_frz2 ?ee_ ?ff_ ?_); (case ee_ => rfl); (case ff_ => rfl))
  | with_reducible refine o_geI ?_
  | with_reducible refine o_notN_non ?_
  | with_reducible refine o_notN_bl ?_
  | with_reducible refine o_notN_int ?_
  | with_reducible refine o_notN_str ?_
  | with_reducible refine o_notN_lst ?_
  | with_reducible refine o_notN_tup ?_
  | with_reducible refine o_notN_obj ?_
  | with_reducible refine o_notN' ?_
  | with_reducible refine s_dnK ?_
  | with_reducible refine o_abs ?_
  | ((with_reducible refine' o_ninT ?ee_ ?_); (case ee_ => rfl))
  | ((with_reducible refine' o_ninF ?ee_ ?_); (case ee_ => rfl))
  | with_reducible refine s_orV ?_
  | with_reducible refine s_sameL ?_
  | with_reducible refine s_fg ?_
  | ((with_reducible refine' x_lenN ?ee_ ?ff_ ?_); (case ee_ => omega); (case ff_ => omega))
  | ((with_reducible refine' x_le1000 ?ee_ ?_); (case ee_ => rfl))
  | with_reducible refine s_meth0 ?_
  | with_reducible refine s_methK ?_
  | with_reducible refine s_makeK ?_
  | with_reducible refine s_own2 ?_
  | with_reducible refine s_eqX ?_
  | with_reducible refine s_neX ?_
  | with_reducible refine x_nb ?_
  | with_reducible refine s_lenO ?_
  | ((with_reducible refine' s_mut0 ?ee_ ?_); (case ee_ => rfl))
  | with_reducible refine m_clr ?_
  | with_reducible refine m_rev ?_
  | with_reducible refine s_din ?_
  | ((with_reducible refine' s_lookK ?ee_ ?_); (case ee_ => rfl))
  | with_reducible refine s_retN ?_
  | with_reducible refine s_cnt ?_
  | with_reducible refine s_enum ?_
  | with_reducible refine s_enumS ?_
  | with_reducible refine s_rng3 ?_
  | ((with_reducible refine' x_enumS ?ee_ ?_); (case ee_ => rfl))
  | ((with_reducible refine' x_enum ?ee_ ?_); (case ee_ => rfl))
  | with_reducible refine s_lcG ?_
  | ((with_reducible refine' s_lcV ?ee_ ?ff_ ?_); (case ee_ => rfl); (case ff_ => rfl))
  | ((with_reducible refine' s_forV ?ee_ ?_); (case ee_ => rfl))
  | ((with_reducible refine' o_rep1 ?aa_ ?_); (case aa_ => exact ⟨by omega, by omega⟩))
  | with_reducible refine s_par ?_
  | ((with_reducible refine' x_par ?ee_ ?ff_ ?gg_ ?_); (case ee_ => rfl); (case ff_ => rfl); (case gg_ => rfl))
  | with_reducible refine s_rng1L ?_
  | ((with_reducible refine' x_rng1L ?ee_ ?_); (case ee_ => rfl))
  | with_reducible refine s_rng2L ?_
  | ((with_reducible refine' x_rng2L ?ee_ ?_); (case ee_ => rfl))
  | with_reducible refine s_fset ?_
  | ((with_reducible refine' x_fset ?ee_ ?ff_ ?gg_ ?_); (case ee_ => rfl); (case ff_ => rfl); (case gg_ => rfl))
  | with_reducible refine x_got rfl ?_
  | with_reducible refine x_in0 ?_
  | with_reducible refine x_inS ?_
  | ((with_reducible refine' s_gVal ?ee_ ?_); (case ee_ => rfl))
  | ((with_reducible refine' s_gGen ?ee_ ?_); (case ee_ => rfl))
  | ((with_reducible refine' s_gTag ?ee_ ?_); (case ee_ => rfl))
  | ((with_reducible refine' s_endN ?bb_ ?_); (case bb_ => walk_at "bk"))
  | ((with_reducible refine' s_dpop ?ee_ ?_); (case ee_ => rfl))
  | with_reducible refine s_swap2 ?_
  | ((with_reducible refine' x_swap2 ?ee_ ?_); (case ee_ => rfl))
  | ((with_reducible refine' s_gS ?ee_ ?_); (case ee_ => rfl))
  | ((with_reducible refine' x_gS ?ee_ ?ff_ ?gg_ ?_); (case ee_ => rfl); (case ff_ => rfl); (case gg_ => first | assumption | rfl))
  | ((with_reducible refine' x_dpop ?ee_ ?ff_ ?gg_ ?_); (case ee_ => rfl); (case ff_ => rfl); (case gg_ => rfl)))
local macro_rules | `(tactic| walk_at "ds") => `(tactic| (repeat' (walk_at "ds1")))
set_option hygiene false in
local macro_rules | `(tactic| walk_at "dx") => `(tactic| (repeat' (first | walk_at "ds1" | with_reducible refine (fun (a : Addr) => ?_ : ∀ _ : Addr, _) | with_reducible refine ite_d (fun c => ?_) (fun c => ?_) | with_reducible refine ite_nd (fun c => ?_) (fun c => ?_) | with_reducible refine ite_nb (fun c => ?_) (fun c => ?_) | with_reducible refine ite_b (fun c => ?_) (fun c => ?_))))
set_option hygiene false in
local macro_rules | `(tactic| walk_at "dy") => `(tactic| (repeat' (first | walk_at "ds1" | with_reducible refine (fun (a : Addr) => ?_ : ∀ _ : Addr, _))))
/-! ### the strips' own comparison, of things that are equal -/
theorem okDs_get' {n : Nat} : ∀ {ds : List D} {i : Nat} {d : D}, okDs n (toPys ds) = true → ds[i]? = some d → okD n (toPy d) = true
  | [], i, d, _, e => by simp at e
  | x :: xs, 0, d, h, e => by
    rw [toPys, okDs, Bool.and_eq_true] at h
    simp at e
    subst e
    exact h.1
  | x :: xs, i + 1, d, h, e => by
    rw [toPys, okDs, Bool.and_eq_true] at h
    exact okDs_get' (i := i) h.2 (by simpa using e)
def plainD : D → Bool
  | .non | .bl _ | .int _ | .str _ | .lst _ | .tup _ => true
  | _ => false
mutual
/-- None, truths, ints, texts, lists and tuples of such, n deep -/
def okS : Nat → D → Bool
  | _, .non => true
  | _, .bl _ => true
  | _, .int _ => true
  | _, .str _ => true
  | n + 1, .lst ds => decide (ds.length ≤ 1000000) && okSs n ds
  | n + 1, .tup ds => decide (ds.length ≤ 1000000) && okSs n ds
  | _, _ => false
def okSs : Nat → List D → Bool
  | _, [] => true
  | n, d :: ds => okS n d && okSs n ds
end
theorem okSs_get {n : Nat} : ∀ {ds : List D} {i : Nat} {d : D}, okSs n ds = true → ds[i]? = some d → okS n d = true
  | [], i, d, _, e => by simp at e
  | x :: xs, 0, d, h, e => by
    rw [okSs, Bool.and_eq_true] at h
    simp at e
    subst e
    exact h.1
  | x :: xs, i + 1, d, h, e => by
    rw [okSs, Bool.and_eq_true] at h
    exact okSs_get (i := i) h.2 (by simpa using e)
theorem okSs_ints (n : Nat) : ∀ ns : List Int, okSs n (ns.map D.int) = true
  | [] => rfl
  | i :: ns => by rw [List.map_cons, okSs, okSs_ints n ns]; rfl
theorem okS_ints (n : Nat) {ns : List Int} (h : ns.length ≤ 1000000) : okS (n + 1) (intsD ns) = true := by
  rw [okS, Bool.and_eq_true]
  exact ⟨decide_eq_true (by rw [List.length_map]; exact h), okSs_ints n ns⟩
def conS : Nat → Con
  | 0 => fun _ _ _ => False
  | n + 1 => fun es P _ => ∃ (c : D), es = [.imm c, .imm c] ∧ okS n c = true ∧ P (.imm (.bl true)) es
theorem ixN_at' {n i : Nat} (h : i < n) : ixN n (0 + (i : Int)) = some i := by
  unfold ixN
  rw [Int.zero_add]
  simp
  omega
theorem rngD_ix {n i : Nat} {c : D} {ds : List D} (hl : n = ds.length) (hc : (rngD 0 1 n)[i]? = some c) : i < ds.length ∧ c = .int (0 + (i : Int)) ∧ ∃ d, ds[i]? = some d ∧ ixN ds.length (0 + (i : Int)) = some i := by
  obtain ⟨hi, rfl⟩ := rng_get hc
  rw [hl] at hi
  exact ⟨hi, rfl, ds[i], List.getElem?_eq_getElem hi, ixN_at' hi⟩
section
variable {P : Program} {w : World} {K : PySem.W.Frag} {mg : Str → Option Value} {base : Heap} {A : Ad}
theorem same_all (T : Txt K mg A) : ∀ n, FnOk P w K mg base (L2.CX P w) (n + 1) A.f__law_same A.d__law_same P__law_same (spD K (conS n))
  | 0 => ⟨fun _ _ _ _ ⟨_, _, _, _, _, _, h, _⟩ => h.elim, fun _ _ _ _ _ _ _ _ _ _ _ _ _ ⟨_, _, _, _, _, _, h, _⟩ => h.elim⟩
  | n + 1 => by
    have G__law_same := same_all T n
    refine okD_fn (con := conS (n + 1)) T.F__law_same sc__law_same (fun es P PX h => ?_) (fun cdv A' outer s H I E es R PX hr fo hc => ?_)
    · obtain ⟨c, rfl, _⟩ := h
      rfl
    · obtain ⟨c, rfl, ok, hP⟩ := hc
      have hu := hu_of hr
      refine ⟨_, (dss_cons (ds_if (dt_cmp dor_is (dv 1) de_non (nomark _))
(dss_one (ds_ret (de_cmp dor_is (dv 0) de_non (nomark _))))
dss_nil)
(dss_cons (ds_if (dt_val (de_blt dcr_isi (by rfl) T.n_isinstance (by decide +kernel) (da_cons (dv 1) (da_cons (de_bltn (n := "bool") (by rfl) T.n_bool (by decide +kernel)) da_nil))))
(dss_one (ds_ret (de_and (de_blt dcr_isi (by rfl) T.n_isinstance (by decide +kernel) (da_cons (dv 0) (da_cons (de_bltn (n := "bool") (by rfl) T.n_bool (by decide +kernel)) da_nil))) (de_one (de_cmp (dor_eq hr.units) (dv 0) (dv 1) (nomark _))))))
dss_nil)
(dss_cons (ds_if (dt_val (de_blt dcr_isi (by rfl) T.n_isinstance (by decide +kernel) (da_cons (dv 1) (da_cons (de_bltn (n := "int") (by rfl) T.n_int (by decide +kernel)) da_nil))))
(dss_one (ds_ret (de_and (de_blt dcr_isi (by rfl) T.n_isinstance (by decide +kernel) (da_cons (dv 0) (da_cons (de_bltn (n := "int") (by rfl) T.n_int (by decide +kernel)) da_nil))) (de_and (de_not (de_blt dcr_isi (by rfl) T.n_isinstance (by decide +kernel) (da_cons (dv 0) (da_cons (de_bltn (n := "bool") (by rfl) T.n_bool (by decide +kernel)) da_nil)))) (de_one (de_cmp (dor_eq hr.units) (dv 0) (dv 1) (nomark _)))))))
dss_nil)
(dss_cons (ds_if (dt_val (de_blt dcr_isi (by rfl) T.n_isinstance (by decide +kernel) (da_cons (dv 1) (da_cons (de_bltn (n := "str") (by rfl) T.n_str (by decide +kernel)) da_nil))))
(dss_one (ds_ret (de_and (de_blt dcr_isi (by rfl) T.n_isinstance (by decide +kernel) (da_cons (dv 0) (da_cons (de_bltn (n := "str") (by rfl) T.n_str (by decide +kernel)) da_nil))) (de_one (de_cmp (dor_eq hr.units) (dv 0) (dv 1) (nomark _))))))
dss_nil)
(dss_cons (ds_if (dt_w (dw_and (dt_val (de_blt dcr_isi (by rfl) T.n_isinstance (by decide +kernel) (da_cons (dv 1) (da_cons (de_bltn (n := "list") (by rfl) T.n_list (by decide +kernel)) da_nil)))) (dw_and1 (dt_not (dt_val (de_blt dcr_isi (by rfl) T.n_isinstance (by decide +kernel) (da_cons (dv 0) (da_cons (de_bltn (n := "list") (by rfl) T.n_list (by decide +kernel)) da_nil))))))))
(dss_one (ds_ret de_bl))
dss_nil)
(dss_cons (ds_if (dt_w (dw_and (dt_val (de_blt dcr_isi (by rfl) T.n_isinstance (by decide +kernel) (da_cons (dv 1) (da_cons (de_bltn (n := "tuple") (by rfl) T.n_tuple (by decide +kernel)) da_nil)))) (dw_and1 (dt_not (dt_val (de_blt dcr_isi (by rfl) T.n_isinstance (by decide +kernel) (da_cons (dv 0) (da_cons (de_bltn (n := "tuple") (by rfl) T.n_tuple (by decide +kernel)) da_nil))))))))
(dss_one (ds_ret de_bl))
dss_nil)
(dss_cons (ds_if (dt_cmp (dor_ne hr.units) (de_blt dcr_len (by rfl) T.n_len (by decide +kernel) (da_cons (dv 0) da_nil)) (de_blt dcr_len (by rfl) T.n_len (by decide +kernel) (da_cons (dv 1) da_nil)) (nomark _))
(dss_one (ds_ret de_bl))
dss_nil)
(dss_one (ds_ret (de_blt (dcr_all rfl) (by rfl) T.n_all (by decide +kernel) (da_cons (de_lc (own := [("_law_k", 2)]) (by rfl) sc__law_same.nd (di_rng1 (by rfl) T.n_range (da_cons (de_blt dcr_len (by rfl) T.n_len (by decide +kernel) (da_cons (dv 1) da_nil)) da_nil)) (blkOk_by (own := [("_law_k", 2)]) (N := N__law_same) (sc := defScope s__law_same) (by decide +kernel)) (fun _ _ _ _ _ => by exact (dg_name (i := 2) sc__law_same.nd rfl (by first | exact Or.inl rfl | exact Or.inr rfl))) (fun _ _ _ _ _ => by exact dts_nil) (fun _ _ _ _ _ => by exact (de_call G__law_same (hr.mono (by first | decide | omega)) rfl T.g__law_same T.k__law_same T.b__law_same takes0 frok_nox (dg_v (de_ix dix (dv 0) (dv 2)) (dg_v (de_ix dix (dv 1) (dv 2)) dg_nil)))) (by rfl)) da_nil))))))))))), ?_⟩
      have ht : ∀ b : Bool, b = true → (if b = true then True else False) := fun b h => by rw [if_pos h]; trivial
      cases c with
      | non =>
        walk_at "dx"
        exact hP
      | bl b =>
        walk_at "dx"
        rw [decide_eq_true (rfl : b = b)]
        exact hP
      | int b =>
        walk_at "dx"
        rw [decide_eq_true (rfl : b = b)]
        exact hP
      | str b =>
        walk_at "dx"
        rw [decide_eq_true (rfl : b = b)]
        exact hP
      | lst ds =>
        cases n with
        | zero => simp [okS] at ok
        | succ n =>
        rw [okS, Bool.and_eq_true] at ok
        obtain ⟨hz, ok⟩ := ok
        have hz := of_decide_eq_true hz
        walk_at "dx"
        · exact absurd rfl c
        refine ⟨by rw [rngD_len]; omega, fun i acc => acc = List.replicate i (.bl true), rfl, ?_, ?_⟩
        · rintro i d acc hd rfl
          obtain ⟨hi, rfl, q, hq, hx⟩ := rngD_ix (ds := ds) (by omega) hd
          have hxx := hx
          walk_at "dx"
          refine ⟨q, rfl, okSs_get ok hq, ?_⟩
          walk_at "dx"
          exact ⟨rfl, List.replicate_succ'.symm⟩
        · rintro acc rfl
          walk_at "dx"
          refine ⟨List.replicate (rngD 0 1 (ds.length : Int).toNat).length true, by rw [List.map_replicate], ?_⟩
          rw [List.all_replicate]
          walk_at "dx"
          simpa using hP
      | tup ds =>
        cases n with
        | zero => simp [okS] at ok
        | succ n =>
        rw [okS, Bool.and_eq_true] at ok
        obtain ⟨hz, ok⟩ := ok
        have hz := of_decide_eq_true hz
        walk_at "dx"
        · exact absurd rfl c
        refine ⟨by rw [rngD_len]; omega, fun i acc => acc = List.replicate i (.bl true), rfl, ?_, ?_⟩
        · rintro i d acc hd rfl
          obtain ⟨hi, rfl, q, hq, hx⟩ := rngD_ix (ds := ds) (by omega) hd
          have hxx := hx
          walk_at "dx"
          refine ⟨q, rfl, okSs_get ok hq, ?_⟩
          walk_at "dx"
          exact ⟨rfl, List.replicate_succ'.symm⟩
        · rintro acc rfl
          walk_at "dx"
          refine ⟨List.replicate (rngD 0 1 (ds.length : Int).toNat).length true, by rw [List.map_replicate], ?_⟩
          rw [List.all_replicate]
          walk_at "dx"
          simpa using hP
      | _ => cases n <;> simp [okS] at ok
theorem okd__law_same (T : Txt K mg A) : FnOk P w K mg base (L2.CX P w) 9 A.f__law_same A.d__law_same P__law_same (spD K (conS 8)) := same_all T 8
end

end
/-! ### texts: sep.join(list of texts), text * int -/
theorem reps_strsI {K : PySem.W.Frag} {I : Hp} : ∀ {ys : List Str} {xs : List V}, Reps K I xs (ys.map D.str) → xs = ys.map V.str
  | [], _, .nil => rfl
  | y :: ys, _, .cons h r => by
    cases h
    rw [reps_strsI (ys := ys) r]
    rfl
def eJoin (f g : EvF) : EvF := fun e P => f e fun r e1 => (∃ a, val e1 r = some (.str a)) ∧ g e1 fun r2 e2 => ∃ (a : Str) (ys : List Str), val e2 r = some (.str a) ∧ val e2 r2 = some (.lst (ys.map D.str)) ∧ (ys.map (·.length)).sum + ys.length * a.length ≤ 16777216 ∧ P (.ent (.imm (.str (Txt.join a ys)))) e2
section
variable {X : Cx} {F : Fr} {f g : EvF} {o e : Expr} {pos apos : Pos}
theorem de_join (h1 : DE X F o f) (h2 : DE X F e g) (hs : starEach [e] X.env = [(false, eval e X.env)] := by rfl) (hbase : attributeBase o "join" X.env (eval o X.env) = eval o X.env := by rfl) (hline : (apos.endLine == pos.line) = true := by rfl) (hK : F.K = X.K := by first | rfl | assumption) : DE X F (.Call (.Attribute o "join" apos) [e] [] pos) (eJoin f g) := by
  obtain ⟨t1, p1, d1⟩ := h1
  obtain ⟨t2, p2, d2⟩ := h2
  refine ⟨_, pe_join p1 p2 hs hbase hline, fun σ I H e ps P Q s h k => ?_⟩
  rw [← hK]
  refine d1 σ I H e ps _ _ s h fun x r e1 I1 H1 h1 s1 => ?_
  obtain ⟨⟨a0, v0⟩, h1⟩ := h1
  have w0 := s1.vw (qs := []) v0
  refine ⟨⟨a0, w0.str⟩, ?_⟩
  refine d2 σ I1 H1 e1 _ _ _ s1 h1 fun y r2 e2 I2 H2 h2 s2 => ?_
  obtain ⟨a, ys, v1, v2, hz, q⟩ := h2
  have w2 := s2.vw (qs := []) v2
  have s2' := s2
  rw [List.append_assoc] at s2'
  have w1 := s2'.vw (qs := [(y, r2)]) v1
  obtain ⟨p, xs, rfl, q1, rr⟩ := w2.lst s2.sub
  cases reps_strsI rr
  have kk : Lands F.K I2 H2 (fun t => P (.ent t) e2) Q := fun z t I4 H4 p4 g4 r4 n4 => k z _ e2 I4 H4 p4 (s2.weak.weak.pushG g4 r4 n4)
  exact ⟨a, p, ys, w1.str, rfl, .inl (SqL.of q1), hz, kk.imm s2.sub q (.str _)⟩
end
theorem s_join {f g : EvF} {e : En} {P : Rv → En → Prop} (k : f e fun r e1 => (∃ a, val e1 r = some (.str a)) ∧ g e1 fun r2 e2 => ∃ (a : Str) (ys : List Str), val e2 r = some (.str a) ∧ val e2 r2 = some (.lst (ys.map D.str)) ∧ (ys.map (·.length)).sum + ys.length * a.length ≤ 16777216 ∧ P (.ent (.imm (.str (Txt.join a ys)))) e2) : eJoin f g e P := k
theorem x_isstr {e : En} {r : Rv} {a : Str} {R : Prop} (h : val e r = some (.str a)) (k : R) : (∃ a, val e r = some (.str a)) ∧ R := ⟨⟨a, h⟩, k⟩
theorem de_gstr {X : Cx} {F : Fr} {x s : Str} {pos : Pos} (hg : Gl X x) (hm : ∃ t, X.mg x = some (.str s t)) (hd : (x == ("__debug__" : Str)) = false := by decide) : DE X F (.Name x pos) (eC (.str s)) := by
  obtain ⟨t, hm⟩ := hm
  exact de_glob (v := .str s) hg hm ⟨t, rfl⟩ (fun I => .str s) hd
theorem de_gint {X : Cx} {F : Fr} {x : Str} {s : Int} {pos : Pos} (hg : Gl X x) (hm : ∃ t, X.mg x = some (.int s t)) (hd : (x == ("__debug__" : Str)) = false := by decide) : DE X F (.Name x pos) (eC (.int s)) := by
  obtain ⟨t, hm⟩ := hm
  exact de_glob (v := .int s) hg hm ⟨t, rfl⟩ (fun I => .int s) hd
/-! texts by their signs -/
def tx (l : List Nat) : Str := ⟨l.toArray⟩
def sg (c : Nat) : Str := ⟨#[c]⟩
theorem tx_cps (l : List Nat) : (tx l).cps.toList = l := rfl
theorem tx_len (l : List Nat) : (tx l).length = l.length := by
  show l.toArray.size = _
  rw [List.size_toArray]
theorem tx_app (a b : List Nat) : tx a ++ tx b = tx (a ++ b) := by
  show (⟨a.toArray ++ b.toArray⟩ : Str) = ⟨(a ++ b).toArray⟩
  simp
theorem tx_inj {a b : List Nat} (h : tx a = tx b) : a = b := by
  have := congrArg (fun s => s.cps.toList) h
  exact this
theorem tx_of (s : Str) : s = tx s.cps.toList := by
  cases s
  simp [tx]
theorem tx_chars (l : List Nat) : chars (tx l) = l.map fun c => D.str (sg c) := rfl
theorem sg_tx (c : Nat) : sg c = tx [c] := rfl
theorem tx_join : ∀ l : List Nat, Str.join Str.empty (l.map sg) = tx l
  | [] => rfl
  | [c] => rfl
  | c :: d :: l => by
    show sg c ++ Str.empty ++ Str.join Str.empty ((d :: l).map sg) = _
    rw [tx_join (d :: l)]
    show tx [c] ++ tx [] ++ tx (d :: l) = _
    rw [tx_app, tx_app]
    rfl
theorem join_sg (l : List Nat) : Txt.join Str.empty (l.map sg) = tx l := by
  show Builtin.Str.glued Str.empty (l.map sg) = _
  rw [StrLaws.glued_eq_join, tx_join]
theorem sum_sg (l : List Nat) : ((l.map sg).map (·.length)).sum = l.length := by
  induction l with
  | nil => rfl
  | cons c l ih =>
    rw [List.map_cons, List.map_cons, List.sum_cons, ih, List.length_cons]
    show 1 + _ = _
    omega
theorem tx_lit {s : String} {l : List Nat} (h : (Str.ofString s).cps.toList = l) : Str.ofString s = tx l := by
  rw [← h]
  exact tx_of _
theorem tx_cut (l : List Nat) (lo hi : Option Int) : cutS (tx l) lo hi = tx (cutL l lo hi) := by
  unfold cutS cutL
  rw [tx_len]
  rfl
/-! text * int -/
def oSMul : DO2
  | .str a, .int k, P => PySem.MulOk a k ∧ P (.imm (.str (Txt.mul a k)))
  | _, _, _ => False
theorem op_smul {X : Cx} : OpR X (binaryOp .Mult) (fun x y H Q => ∃ a k, x = .str a ∧ y = .int k ∧ PySem.MulOk a k ∧ Q (.str (Txt.mul a k)) H) := by
  intro pins s σ H x y v u Q I rx ry h
  obtain ⟨a, k, rfl, rfl, ok, q⟩ := h
  obtain ⟨t, rfl⟩ := rx
  obtain ⟨t', rfl⟩ := ry
  exact SB.mul ok fun t'' kk => ⟨.str _, H, I.tok kk, ⟨t'', rfl⟩, q⟩
theorem dor_smul {X : Cx} : DOR X (binaryOp .Mult) oSMul := ⟨_, op_smul, fun I H x y c d P Q s v1 v2 h k => by
  cases c with
  | str a =>
    cases d with
    | int j => exact ⟨a, j, v1.str, v2.int, h.1, k.imm s h.2 (.str _)⟩
    | _ => exact h.elim
  | _ => exact h.elim⟩
theorem mulok_small {c : Nat} {k : Int} (k0 : 0 ≤ k) (k1 : k ≤ 1000) : PySem.MulOk (tx [c]) k := by
  have ha : (tx [c]).length = 1 := tx_len _
  refine ⟨by simp; omega, fun h _ => ?_, fun h _ => ?_⟩
  · rw [ha]
    have : (1 : Int) ≤ (2 ^ 63 - 1) / k := by
      apply Int.le_ediv_of_mul_le (by omega)
      omega
    omega
  · rw [ha]
    unfold Builtin.Str.tooLong
    have : 1 * k.toNat ≤ sizeLine := Nat.le_trans (m := 1000) (by omega) (by decide)
    simpa using this
theorem tx_mul (c : Nat) (k : Int) (k0 : 0 ≤ k) : Txt.mul (tx [c]) k = tx (List.replicate k.toNat c) := by
  unfold Txt.mul
  by_cases h : k < 1
  · rw [if_pos h, show k.toNat = 0 by omega]
    rfl
  · rw [if_neg h]
    by_cases h1 : k = 1
    · subst h1
      rfl
    · rw [if_neg (by
        have : (tx [c]).length = 1 := tx_len _
        simp [h1, this])]
      have fold : ∀ (n : Nat) (acc : Array Nat), (List.replicate n (tx [c]).cps).foldl (· ++ ·) acc = acc ++ (List.replicate n c).toArray := by
        intro n
        induction n with
        | zero => intro acc; simp
        | succ n ih =>
          intro acc
          rw [List.replicate_succ, List.foldl_cons, ih, List.replicate_succ]
          show acc ++ #[c] ++ (List.replicate n c).toArray = acc ++ (c :: List.replicate n c).toArray
          apply Array.ext'
          simp
      show (⟨_⟩ : Str) = ⟨_⟩
      rw [fold]
      simp
theorem o_smul {c : Nat} {k : Int} {P : Ent → Prop} (k0 : 0 ≤ k) (k1 : k ≤ 1000) (q : P (.imm (.str (tx (List.replicate k.toNat c))))) : oSMul (.str (tx [c])) (.int k) P := ⟨mulok_small k0 k1, by rw [tx_mul c k k0]; exact q⟩
/-! the steps of texts told by their signs -/
theorem o_lenX {l : List Nat} {P : Ent → Prop} (h : l.length ≤ 1000) (k : P (.imm (.int (l.length : Int)))) : cLen [.str (tx l)] P := by
  refine ⟨by rw [tx_len]; exact Nat.le_trans h (by decide), ?_⟩
  rw [tx_len]
  exact k
theorem o_addX {a b : List Nat} {P : Ent → Prop} (h1 : a.length ≤ 1000) (h2 : b.length ≤ 1000) (k : P (.imm (.str (tx (a ++ b))))) : oAdd (.str (tx a)) (.str (tx b)) P := by
  refine ⟨by rw [tx_len, tx_len]; exact Nat.le_trans (m := 2000) (by omega) (by decide), ?_⟩
  rw [tx_app]
  exact k
theorem o_sliceX {l : List Nat} {lo hi : Option Int} {P : Ent → Prop} (h : l.length ≤ 1000) (k : P (.imm (.str (tx (cutL l lo hi))))) : oSl (.str (tx l)) lo hi P := by
  refine ⟨by rw [tx_len]; exact Nat.le_trans h (by decide), ?_⟩
  rw [tx_cut]
  exact k
theorem o_ixT' {l : List Nat} {i : Int} {j c : Nat} {P : Ent → Prop} (h : l.length ≤ 1000) (h1 : ixN l.length i = some j) (h2 : l[j]? = some c) (k : P (.imm (.str (sg c)))) : oIx (.str (tx l)) (.int i) P := by
  refine ⟨by rw [tx_len]; exact Nat.le_trans h (by decide), c, ?_, k⟩
  rw [tx_cps]
  unfold atI
  rw [h1]
  exact h2
theorem ixS_k {n i : Nat} (h : i < n) : ixN n (i : Int) = some i := by
  unfold ixN
  simp <;> omega
theorem ixS_in {l : List D} {r : Int} (h0 : 0 ≤ r) (h1 : r < l.length) : ∃ k d, ixN l.length r = some k ∧ l[k]? = some d ∧ d ∈ l ∧ (k : Int) = r := by
  have hk : r.toNat < l.length := by omega
  refine ⟨r.toNat, l[r.toNat], ?_, List.getElem?_eq_getElem hk, List.getElem_mem hk, by omega⟩
  have z := ixS_k (n := l.length) (i := r.toNat) hk
  rw [show (r.toNat : Int) = r by omega] at z
  exact z
theorem s_rng3 {f : EvA} {e : En} {PI : List D → En → Prop} (k : f e fun rs e1 => ∃ i j c n, vals e1 rs = some [.int i, .int j, .int c] ∧ RgC i j c n ∧ PI (rngD i c n) e1) : wRng3 f e PI := k
theorem cutS_take {α : Type} {xs : List α} {z : Int} (h0 : 0 ≤ z) : cutL xs none (some z) = xs.take z.toNat := by
  unfold cutL HT.sIx
  dsimp only
  rw [if_neg (by omega)]
  show xs.take (min z.toNat xs.length) = xs.take z.toNat
  rcases Nat.le_total z.toNat xs.length with h | h
  · rw [Nat.min_eq_left h]
  · rw [Nat.min_eq_right h, List.take_of_length_le (Nat.le_refl _), List.take_of_length_le h]
/-! ### enumerate of a text -/
/-- each sign of the text, in a new pair -/
def Itx (x : Str) : It := ⟨fun i _ => i < x.cps.size, fun i H v H' => ∃ T c, v = .ref T ∧ H T = none ∧ x.cps[i]? = some c ∧ H' = upd H T (.tup [.int (i : Nat), .str ⟨#[c]⟩]), fun i _ => x.cps.size ≤ i⟩
theorem turn_enumS {P : Program} {w : World} {K : PySem.W.Frag} {elts : List Expr} {kk : Nat} {tpos : Pos} (e it : Addr) (x : Str) (t : Tok) (ty : String) (hty : ty = "str_ascii_iterator" ∨ ty = "str_iterator") :
    Turn P w K (.Tuple elts kk tpos) (Itx x) [e, it] e (fun i h => (∃ old, IsEnum h e it ((i : Nat) : Int) old) ∧ h.IsStrIter it ty x t i ∧ e ≠ it ∧ i ≤ x.cps.size) := by
  have D : ∀ A : Around, A.handled = none → Draws P w A it [it] x.cps.size (fun i v => ∃ c u, x.cps[i]? = some c ∧ v = .str ⟨#[c]⟩ u) (fun i h => h.IsStrIter it ty x t i) := fun A hA => by
    rcases hty with rfl | rfl
    · exact Draws.strAscii hA it x t
    · exact Draws.strWide hA it x t
  refine ⟨by simp, fun i h st b hb => ?_, fun i h h' st k => ?_, ?_, ?_, fun A i s Q E st h => ?_⟩
  · obtain ⟨⟨old, he⟩, ⟨o, ho, hc, hd⟩, _⟩ := st
    have e' : b = e ∨ b = it := by simpa using hb
    rcases e' with z | z
    · rw [z]; exact ⟨_, he, fun v q => nomatch q⟩
    · rw [z]; exact ⟨o, ho, fun v q => by rw [hd] at q; cases q⟩
  · obtain ⟨⟨old, he⟩, hi, hne, hl⟩ := st
    obtain ⟨o, ho, r⟩ := hi
    exact ⟨⟨old, k e (by simp) _ he⟩, ⟨o, k it (by simp) o ho, r⟩, hne, hl⟩
  · intro X hP hw hK hc i pins s σ H E I hf st hg
    subst hP hw hK
    obtain ⟨⟨old, he⟩, hit, hne, hl⟩ := st
    have hel : e < s.heap.objs.size := Heap.lt_size he
    have hil : it < s.heap.objs.size := by obtain ⟨_, q, _⟩ := hit; exact Heap.lt_size q
    refine wpAny_pyNext_enum_itemD (D X.A.in1 (I.ok.hd hc)) he hit hg hne (by simp [hne]) fun xv h' tk hPx ho hit' hT hsz hk => ?_
    obtain ⟨c, u, hcx, rfl⟩ := hPx
    refine ⟨_, rfl, wpAny_letOwnedTupleGo_enum (s := { s with heap := h', toks := tk + 1 }) ho fun h'' he' sb => ?_⟩
    have hT2 : h''.get? s.heap.objs.size = some { cls := .type "tuple", data := .seq #[.int i tk, .str ⟨#[c]⟩ u] } := (sb.2 _ (Nat.ne_of_gt hel)).trans hT
    have new : ObjOk X.prog X.w (upd H s.heap.objs.size (.tup [.int (i : Nat), .str ⟨#[c]⟩])) h'' s.heap.objs.size (.tup [.int (i : Nat), .str ⟨#[c]⟩]) :=
      ⟨by show 2 ≤ sizeLine; decide, [.int i tk, .str ⟨#[c]⟩ u], .cons ⟨_, rfl⟩ (.cons ⟨_, rfl⟩ .nil), ⟨_, hT2, rfl, _, rfl⟩⟩
    have I1 : Inv X pins σ (upd H s.heap.objs.size (.tup [.int (i : Nat), .str ⟨#[c]⟩])) { s with heap := h'', toks := tk + 1 } :=
      I.turnedNew (ch := [e, it]) (fun b ob hb q => (sb.2 b (fun z => hb (by simp [z]))).trans (hk b ob (fun z => hb (by simp [z])) (fun z => hb (by simp [z])) q)) hf (Nat.le_refl _) new
    refine ⟨.ref s.heap.objs.size, _, I1, rfl, ⟨_, c, rfl, I.hok.fresh (Nat.le_refl _), hcx, rfl⟩, ⟨⟨.str ⟨#[c]⟩ u, ?_⟩, ?_, hne, hg⟩, fun b hb => ?_⟩
    · have e1 : ((i + 1 : Nat) : Int) = (i : Int) + 1 := by omega
      rw [e1]; exact he'
    · obtain ⟨o, ho2, r⟩ := hit'
      exact ⟨o, (sb.2 it (Ne.symm hne)).trans ho2, r⟩
    · have hb' : b < s.heap.objs.size := by
        have e' : b = e ∨ b = it := by simpa using hb
        rcases e' with z | z
        · rw [z]; exact hel
        · rw [z]; exact hil
      rw [upd_ne (Nat.ne_of_lt hb')]
      exact (hf b hb).1
  · intro X hP hw hK hc i pins s σ H E I hf st hg
    subst hP hw hK
    obtain ⟨⟨old, he⟩, hit, hne, hl⟩ := st
    obtain ⟨f0, f1, f2, f3, f4, f5⟩ := hf it (by simp)
    have ei : i = x.cps.size := Nat.le_antisymm hl hg
    subst ei
    exact wpAny_pyNext_enum_endD (D X.A.in1 (I.ok.hd hc)) he hit fun h' eb => ⟨rfl, I.turned (t' := s.toks) (fun b o hb q => eb b o hb q) f0 f1 f3 f4 f5⟩
  · obtain ⟨⟨old, he⟩, _⟩ := st
    exact wpAny_pyIter_enum he h
def iEnumS (ta : TA) : TI := fun σ H R => ta σ H fun vs H1 => ∃ x, vs = [.str x] ∧ R (Itx x) H1
theorem pi_enumS {X : Cx} {e : Expr} {ta : TA} {p pos tpos : Pos} {elts : List Expr} {kk : Nat} (hg : Gl X "enumerate") (hm : X.mg "enumerate" = none) (ha : PA X [e] ta) (hs : starEach [e] X.env = [(false, eval e X.env)] := by rfl) :
    PI X (.Tuple elts kk tpos) (.Call (.Name "enumerate" p) [e] [] pos) (iEnumS ta) := by
  refine ⟨fun pins s σ H R I h => ?_⟩
  refine Call_ (ld_blt I hg hm boot_enumerate (PyProof.Rows.callWith_type1 (thn (ha.run pos pins s σ H _ I h) fun us s1 ⟨vs, H1, I1, r1, q1⟩ => ?_) hs rfl))
  obtain ⟨x, ex, q⟩ := q1
  subst ex
  cases r1 with
  | cons r rr =>
    cases rr
    obtain ⟨t, rfl⟩ := r
    have hty : strIterType x = "str_ascii_iterator" ∨ strIterType x = "str_iterator" := by
      unfold strIterType
      split
      · first | exact .inl rfl | exact .inr rfl
      · first | exact .inl rfl | exact .inr rfl
    refine call_enumerate_str fun h' he hit hsz hk => wpAny_pyIter_enum he ?_
    have I2 : Inv X pins σ H1 { s1 with heap := h' } := I1.kept (t' := s1.toks) hk
    refine ⟨s1.heap.objs.size + 1, [s1.heap.objs.size + 1, s1.heap.objs.size], _, _, H1, rfl, I2, turn_enumS (s1.heap.objs.size + 1) s1.heap.objs.size x t _ hty, ⟨⟨.none, he⟩, hit, Nat.succ_ne_self _, Nat.zero_le _⟩, fun b hb => ?_, q⟩
    have e' : b = s1.heap.objs.size + 1 ∨ b = s1.heap.objs.size := by simpa using hb
    have hle : s1.heap.objs.size ≤ b := by
      rcases e' with z | z
      · rw [z]; exact Nat.le_add_right _ _
      · rw [z]; exact Nat.le_refl _
    exact I1.fpOk hle (I1.hok.fresh hle)
def wEnumS (f : EvF) : EvI := fun e P => f e fun r e1 => ∃ z, val e1 r = some (.str z) ∧ P (enumD (chars z)) e1
theorem di_enumS {X : Cx} {F : Fr} {f : EvF} {a : Expr} {p pos : Pos} {elts : List Expr} {kk : Nat} {tpos : Pos} (hg : Gl X "enumerate") (hm : X.mg "enumerate" = none) (h : DE X F a f) (hs : starEach [a] X.env = [(false, eval a X.env)] := by rfl) :
    DI X F (.Tuple elts kk tpos) (.Call (.Name "enumerate" p) [a] [] pos) (wEnumS f) := by
  obtain ⟨t, q, d⟩ := h
  refine ⟨_, pi_enumS hg hm (pa_cons q pa_nil hs) hs, fun σ I H e ps P R s h k => ?_⟩
  refine d σ I H e ps _ _ s h fun x r e1 I1 H1 h1 s1 => ?_
  obtain ⟨z, hv, h2⟩ := h1
  have w1 := s1.vw (qs := []) hv
  have hl : (enumD (chars z)).length = z.cps.size := by unfold enumD chars; simp
  refine ⟨z, by rw [w1.str], ?_⟩
  refine k _ _ [] e1 I1 H1 h2 imms0 (by rw [List.append_nil]; exact s1.weak) ⟨fun I H i s q hi => by rw [hl] at hi; exact hi, fun I H s q => by rw [hl]; exact Nat.le_refl _, fun I H i y H' s q hi hy => ?_⟩
  obtain ⟨T, c, rfl, hT, hc, rfl⟩ := hy
  have g := Grow.allocI (o := .tup [.int (i : Nat), .str ⟨#[c]⟩]) s hT
  refine ⟨_, .tup [.int (i : Nat), .str ⟨#[c]⟩], g, ?_, .tup upd_same (.cons (.int _) (.cons (.str _) .nil))⟩
  unfold enumD chars
  rw [List.getElem?_mapIdx, List.getElem?_map, Array.getElem?_toList, hc]
  rfl
theorem s_enumS {f : EvF} {e : En} {PI : List D → En → Prop} (k : f e fun r e1 => ∃ z, val e1 r = some (.str z) ∧ PI (enumD (chars z)) e1) : wEnumS f e PI := k
theorem x_enumS {R : Str → Prop} {e : En} {r : Rv} {z : Str} (h : val e r = some (.str z)) (k : R z) : ∃ z, val e r = some (.str z) ∧ R z := ⟨z, h, k⟩

section
local macro_rules | `(tactic| walk_at "al") => `(tactic| first
  | omega
  | exact Or.inl (Or.inl ⟨by omega, by omega⟩)
  | exact Or.inl (Or.inr ⟨by omega, by omega⟩)
  | exact ⟨by omega, Or.inl (by omega)⟩
  | exact ⟨by omega, by omega, by omega, by omega⟩
  | exact ⟨by decide, by decide, by decide⟩)
local macro_rules | `(tactic| walk_at "bk") => `(tactic| repeat (first | exact BackE.nil | apply BackE.imm | apply BackE.own | apply BackE.hand))
local macro_rules | `(tactic| walk_at "ds1") => `(tactic| first
  | with_reducible refine s_aC ?_
  | ((with_reducible refine' s_vi ?ee_ ?_); (case ee_ => rfl))
  | ((with_reducible refine' s_vs ?ee_ ?_); (case ee_ => rfl))
  | with_reducible refine s_c ?_
  | ((with_reducible refine' x_val2 ?ee_ ?ff_ ?_); (case ee_ => rfl); (case ff_ => rfl))
  | with_reducible refine s_op ?_
  | with_reducible refine s_aN ?_
  | ((with_reducible refine' x_frzs ?ee_ ?ll_ ?_); (case ee_ => rfl); (case ll_ => rfl))
  | with_reducible refine s_seq ?_
  | ((with_reducible refine' x_frz ?ee_ ?_); (case ee_ => rfl))
  | with_reducible refine s_tup ?_
  | with_reducible refine s_gaV ?_
  | ((with_reducible refine' x_bl ?ee_ ?_); (case ee_ => rfl))
  | ((with_reducible refine' s_end ?ee_ ?bb_ ?_); (case ee_ => rfl); (case bb_ => walk_at "bk"))
  | with_reducible refine s_ret ?_
  | with_reducible refine s_test ?_
  | ((with_reducible refine' x_vals ?ee_ ?_); (case ee_ => rfl))
  | with_reducible refine s_cl ?_
  | ((with_reducible refine' x_asg ?ee_ ?_); (case ee_ => rfl))
  | with_reducible refine o_subI ?_
  | with_reducible refine s_set ?_
  | with_reducible refine s_gaN ?_
  | with_reducible refine s_lst ?_
  | with_reducible refine s_next ?_
  | with_reducible refine s_call ?_
  | ((with_reducible refine' x_con ?ee_ ?ff_ ?_); (case ee_ => rfl); (case ff_ => rfl))
  | with_reducible refine s_if ?_
  | ((with_reducible refine' s_gN ?ee_ ?_); (case ee_ => rfl))
  | ((with_reducible refine' x_back ?ll_ ?ee_ ?_); (case ll_ => rfl); (case ee_ => rfl))
  | ((with_reducible refine' x_back1 ?ee_ ?_); (case ee_ => rfl))
  | with_reducible refine o_addI ?_
  | ((with_reducible refine' o_mulI ?cc_ ?_); (case cc_ => walk_at "al"))
  | with_reducible refine s_for ?_
  | ((with_reducible refine' x_val ?ee_ ?_); (case ee_ => rfl))
  | with_reducible refine s_gCn ?_
  | with_reducible refine iteT ?_
  | with_reducible refine iteF ?_
  | with_reducible refine r_iteNf ?_
  | with_reducible refine r_iteNt ?_
  | with_reducible refine s_not ?_
  | with_reducible refine s_drop ?_
  | ((with_reducible refine' o_modI ?cc_ ?_); (case cc_ => walk_at "al"))
  | with_reducible refine s_or ?_
  | ((with_reducible refine' o_ixT ?ee_ ?ff_ ?_); (case ee_ => first | rfl | assumption); (case ff_ => first | rfl | assumption))
  | ((with_reducible refine' ixI ?aa_ ?bb_ ?_); (case aa_ => omega); (case bb_ => omega))
  | ((with_reducible refine' o_ixL ?ee_ ?ff_ ?_); (case ee_ => first | rfl | assumption); (case ff_ => first | rfl | assumption))
  | with_reducible refine o_ixH ?_
  | ((with_reducible refine' x_int ?ee_ ?_); (case ee_ => rfl))
  | with_reducible refine s_pN ?_
  | with_reducible refine s_pS ?_
  | with_reducible refine s_sl ?_
  | ((with_reducible refine' s_gaR ?ee_ ?_); (case ee_ => rfl))
  | with_reducible refine s_rng1 ?_
  | with_reducible refine o_eqI ?_
  | with_reducible refine o_eqS ?_
  | with_reducible refine o_eqP ?_
  | with_reducible refine o_eqB ?_
  | ((with_reducible refine' o_eqIs ?aa_ ?bb_ ?_); (case aa_ => first | omega | (simp only [List.length_map, List.length_range, List.length_replicate]; omega)); (case bb_ => first | omega | (simp only [List.length_map, List.length_range, List.length_replicate]; omega)))
  | ((with_reducible refine' s_callD ?ee_ ?ff_ ?_); (case ee_ => rfl); (case ff_ => rfl))
  | ((with_reducible refine' x_rng1 ?ee_ ?aa_ ?bb_ ?_); (case ee_ => rfl); (case aa_ => omega); (case bb_ => omega))
  | ((with_reducible refine' s_mut ?ee_ ?_); (case ee_ => rfl))
  | ((with_reducible refine' x_mut ?ee_ ?ff_ ?_); (case ee_ => rfl); (case ff_ => rfl))
  | with_reducible refine o_max ?_
  | with_reducible refine s_un ?_
  | with_reducible refine s_gNl ?_
  | ((with_reducible refine' x_frzO ?ee_ ?_); (case ee_ => rfl))
  | with_reducible refine o_ltI ?_
  | with_reducible refine s_wSeq ?_
  | ((with_reducible refine' x_items ?ee_ ?ff_ ?_); (case ee_ => rfl); (case ff_ => rfl))
  | ((with_reducible refine' s_lookT ?ee_ ?_); (case ee_ => rfl))
  | with_reducible refine s_asg ?_
  | ((with_reducible refine' s_gT ?ee_ ?_); (case ee_ => rfl))
  | with_reducible refine o_int ?_
  | ((with_reducible refine' o_inT ?ee_ ?_); (case ee_ => rfl))
  | ((with_reducible refine' o_inF ?ee_ ?_); (case ee_ => rfl))
  | with_reducible refine o_intB ?_
  | with_reducible refine s_andV ?_
  | with_reducible refine s_prop ?_
  | ((with_reducible refine' s_xis ?ee_ ?ff_ ?_); (case ee_ => rfl); (case ff_ => assumption))
  | ((with_reducible refine' x_xis ?ee_ ?ff_ ?_); (case ee_ => rfl); (case ff_ => assumption))
  | ((with_reducible refine' x_xisT2 ?ee_ ?ff_ ?gg_ ?hh_ ?_); (case ee_ => rfl); (case ff_ => rfl); (case gg_ => assumption); (case hh_ => assumption))
  | ((with_reducible refine' s_xisT ?ee_ ?ff_ ?_); (case ee_ => rfl); (case ff_ => assumption))
  | with_reducible refine o_lenI ?_
  | with_reducible refine o_lenL ?_
  | with_reducible refine o_lenT ?_
  | with_reducible refine o_lenF ?_
  | with_reducible refine o_lenD ?_
  | ((with_reducible refine' x_pxT ?ee_ ?_); (case ee_ => assumption))
  | ((with_reducible refine' x_px ?bb_ ?_); (case bb_ => walk_at "bk"))
  | ((with_reducible refine' o_powI ?cc_ ?_); (case cc_ => walk_at "al"))
  | ((with_reducible refine' o_fld ?ee_ ?_); (case ee_ => rfl))
  | with_reducible refine s_parE ?_
  | ((with_reducible refine' x_parE ?ee_ ?ff_ ?_); (case ee_ => rfl); (case ff_ => rfl))
  | with_reducible refine o_slF ?_
  | with_reducible refine o_slL ?_
  | with_reducible refine o_slT ?_
  | with_reducible refine s_dnT ?_
  | with_reducible refine s_rng2 ?_
  | ((with_reducible refine' x_rng2 ?ee_ ?aa_ ?_); (case ee_ => rfl); (case aa_ => exact ⟨by omega, by omega, by omega, by omega⟩))
  | ((with_reducible refine' o_divI ?cc_ ?_); (case cc_ => walk_at "al"))
  | with_reducible refine o_andI ?_
  | with_reducible refine o_min ?_
  | with_reducible refine s_chain ?_
  | with_reducible refine x_ib ?_
  | with_reducible refine s_dget ?_
  | with_reducible refine s_raise ?_
  | with_reducible refine s_lc ?_
  | ((with_reducible refine' x_clear ?ee_ ?_); (case ee_ => rfl))
  | with_reducible refine o_neI ?_
  | with_reducible refine o_neS ?_
  | with_reducible refine o_neP ?_
  | with_reducible refine o_neC ?_
  | with_reducible refine o_neg ?_
  | ((with_reducible refine' o_neIs ?aa_ ?bb_ ?_); (case aa_ => first | omega | (simp only [List.length_map, List.length_range, List.length_replicate]; omega)); (case bb_ => first | omega | (simp only [List.length_map, List.length_range, List.length_replicate]; omega)))
  | with_reducible refine o_gtI ?_
  | with_reducible refine s_and ?_
  | with_reducible refine s_fz ?_
  | ((with_reducible refine' x_noa ?ee_ ?_); (case ee_ => rfl))
  | ((with_reducible refine' s_dapp ?ee_ ?ff_ ?gg_ ?_); (case ee_ => rfl); (case ff_ => rfl); (case gg_ => rfl))
  | with_reducible refine s_meth ?_
  | with_reducible refine s_rev ?_
  | with_reducible refine s_two ?_
  | with_reducible refine s_join ?_
  | ((with_reducible refine' o_lenX ?ee_ ?_); (case ee_ => assumption))
  | ((with_reducible refine' o_addX ?ee_ ?ff_ ?_); (case ee_ => assumption); (case ff_ => assumption))
  | ((with_reducible refine' o_sliceX ?ee_ ?_); (case ee_ => assumption))
  | ((with_reducible refine' o_ixT' ?ee_ ?ff_ ?gg_ ?_); (case ee_ => assumption); (case ff_ => assumption); (case gg_ => assumption))
  | ((with_reducible refine' x_rev ?ee_ ?ff_ ?_); (case ee_ => rfl); (case ff_ => rfl))
  | ((with_reducible refine' x_isstr ?ee_ ?_); (case ee_ => rfl))
  | ((with_reducible refine' x_two ?ee_ ?ff_ ?_); (case ee_ => rfl); (case ff_ => rfl))
  | with_reducible refine s_dnin ?_
  | with_reducible refine s_setIx ?_
  | ((with_reducible refine' s_gL ?ee_ ?_); (case ee_ => rfl))
  | ((with_reducible refine' s_forW ?ee_ ?ff_ ?_); (case ee_ => rfl); (case ff_ => first | assumption | exact hasD_imm | exact hasD_own))
  | with_reducible refine o_list ?_
  | with_reducible refine o_listT ?_
  | ((with_reducible refine' x_isT ?ee_ ?_); (case ee_ => rfl))
  | ((with_reducible refine' x_isK ?ee_ ?_); (case ee_ => rfl))
  | with_reducible refine o_leI ?_
  | with_reducible refine s_notV ?_
  | with_reducible refine s_ifV ?_
  | with_reducible refine s_callT ?_
  | with_reducible refine s_callB ?_
  | ((with_reducible refine' x_lent ?ee_ ?_); (case ee_ => rfl))
  | with_reducible refine s_minL ?_
  | with_reducible refine s_fnK ?_
  | with_reducible refine s_fnM ?_
  | ((with_reducible refine' x_fnM ?ee_ ?ff_ ?gg_ ?_); (case ee_ => rfl); (case ff_ => rfl); (case gg_ => rfl))
  | with_reducible refine s_par3E ?_
  | ((with_reducible refine' x_par3E ?ee_ ?ff_ ?gg_ ?_); (case ee_ => rfl); (case ff_ => rfl); (case gg_ => rfl))
  | with_reducible refine s_dol ?_
  | with_reducible refine s_ud ?_
  | with_reducible refine x_callT ?_
  | ((with_reducible refine' x_frzsK ?ee_ ?ll_ ?_); (case ee_ => rfl); (case ll_ => rfl))
  | with_reducible refine s_make ?_
  | with_reducible refine s_dget1 ?_
  | with_reducible refine s_dget2 ?_
  | ((with_reducible refine' x_get2 ?ee_ ?ff_ ?gg_ ?_); (case ee_ => rfl); (case ff_ => rfl); (case gg_ => rfl))
  | with_reducible refine s_brk ?_
  | with_reducible refine s_zip ?_
  | ((with_reducible refine' x_zip ?ee_ ?_); (case ee_ => rfl))
  | with_reducible refine s_tryG ?_
  | ((with_reducible refine' s_xv ?ee_ ?ff_ ?gg_ ?_); (case ee_ => rfl); (case ff_ => assumption); (case gg_ => assumption))
  | with_reducible refine s_yes ?_
  | with_reducible refine isi_bl_bool ?_
  | with_reducible refine isi_bl_int ?_
  | with_reducible refine isi_bl_str ?_
  | with_reducible refine isi_bl_list ?_
  | with_reducible refine isi_bl_tuple ?_
  | with_reducible refine isi_int_bool ?_
  | with_reducible refine isi_int_int ?_
  | with_reducible refine isi_int_str ?_
  | with_reducible refine isi_int_list ?_
  | with_reducible refine isi_int_tuple ?_
  | with_reducible refine isi_str_bool ?_
  | with_reducible refine isi_str_int ?_
  | with_reducible refine isi_str_str ?_
  | with_reducible refine isi_str_list ?_
  | with_reducible refine isi_str_tuple ?_
  | with_reducible refine isi_lst_bool ?_
  | with_reducible refine isi_lst_int ?_
  | with_reducible refine isi_lst_str ?_
  | with_reducible refine isi_lst_list ?_
  | with_reducible refine isi_lst_tuple ?_
  | with_reducible refine isi_tup_bool ?_
  | with_reducible refine isi_tup_int ?_
  | with_reducible refine isi_tup_str ?_
  | with_reducible refine isi_tup_list ?_
  | with_reducible refine isi_tup_tuple ?_
  | with_reducible refine isi_non_bool ?_
  | with_reducible refine isi_non_int ?_
  | with_reducible refine isi_non_str ?_
  | with_reducible refine isi_non_list ?_
  | with_reducible refine isi_non_tuple ?_
  | with_reducible refine o_isN_non ?_
  | with_reducible refine o_isN_bl ?_
  | with_reducible refine o_isN_int ?_
  | with_reducible refine o_isN_str ?_
  | with_reducible refine o_isN_lst ?_
  | with_reducible refine o_isN_tup ?_
  | with_reducible refine o_isN_obj ?_
  | with_reducible refine o_isN' ?_
  | with_reducible refine o_isB' ?_
  | with_reducible refine o_isNB ?_
  | ((with_reducible refine' x_frz2 ?ee_ ?ff_ ?_); (case ee_ => rfl); (case ff_ => rfl))
  | with_reducible refine o_geI ?_
  | with_reducible refine o_notN_non ?_
  | with_reducible refine o_notN_bl ?_
  | with_reducible refine o_notN_int ?_
  | with_reducible refine o_notN_str ?_
  | with_reducible refine o_notN_lst ?_
  | with_reducible refine o_notN_tup ?_
  | with_reducible refine o_notN_obj ?_
  | with_reducible refine o_notN' ?_
  | with_reducible refine s_dnK ?_
  | with_reducible refine o_abs ?_
  | ((with_reducible refine' o_ninT ?ee_ ?_); (case ee_ => rfl))
  | ((with_reducible refine' o_ninF ?ee_ ?_); (case ee_ => rfl))
  | with_reducible refine s_orV ?_
  | with_reducible refine s_sameL ?_
  | with_reducible refine s_fg ?_
  | ((with_reducible refine' x_lenN ?ee_ ?ff_ ?_); (case ee_ => omega); (case ff_ => omega))
  | ((with_reducible refine' x_le1000 ?ee_ ?_); (case ee_ => rfl))
  | with_reducible refine s_meth0 ?_
  | with_reducible refine s_methK ?_
  | with_reducible refine s_makeK ?_
  | with_reducible refine s_own2 ?_
  | with_reducible refine s_eqX ?_
  | with_reducible refine s_neX ?_
  | with_reducible refine x_nb ?_
  | with_reducible refine s_lenO ?_
  | ((with_reducible refine' s_mut0 ?ee_ ?_); (case ee_ => rfl))
  | with_reducible refine m_clr ?_
  | with_reducible refine m_rev ?_
  | with_reducible refine s_din ?_
  | ((with_reducible refine' s_lookK ?ee_ ?_); (case ee_ => rfl))
  | with_reducible refine s_retN ?_
  | with_reducible refine s_cnt ?_
  | with_reducible refine s_enum ?_
  | with_reducible refine s_enumS ?_
  | with_reducible refine s_rng3 ?_
  | ((with_reducible refine' x_enumS ?ee_ ?_); (case ee_ => rfl))
  | ((with_reducible refine' x_enum ?ee_ ?_); (case ee_ => rfl))
  | with_reducible refine s_lcG ?_
  | ((with_reducible refine' s_lcV ?ee_ ?ff_ ?_); (case ee_ => rfl); (case ff_ => rfl))
  | ((with_reducible refine' s_forV ?ee_ ?_); (case ee_ => rfl))
  | ((with_reducible refine' o_rep1 ?aa_ ?_); (case aa_ => exact ⟨by omega, by omega⟩))
  | with_reducible refine s_par ?_
  | ((with_reducible refine' x_par ?ee_ ?ff_ ?gg_ ?_); (case ee_ => rfl); (case ff_ => rfl); (case gg_ => rfl))
  | with_reducible refine s_rng1L ?_
  | ((with_reducible refine' x_rng1L ?ee_ ?_); (case ee_ => rfl))
  | with_reducible refine s_rng2L ?_
  | ((with_reducible refine' x_rng2L ?ee_ ?_); (case ee_ => rfl))
  | with_reducible refine s_fset ?_
  | ((with_reducible refine' x_fset ?ee_ ?ff_ ?gg_ ?_); (case ee_ => rfl); (case ff_ => rfl); (case gg_ => rfl))
  | with_reducible refine x_got rfl ?_
  | with_reducible refine x_in0 ?_
  | with_reducible refine x_inS ?_
  | ((with_reducible refine' s_gVal ?ee_ ?_); (case ee_ => rfl))
  | ((with_reducible refine' s_gGen ?ee_ ?_); (case ee_ => rfl))
  | ((with_reducible refine' s_gTag ?ee_ ?_); (case ee_ => rfl))
  | ((with_reducible refine' s_endN ?bb_ ?_); (case bb_ => walk_at "bk"))
  | ((with_reducible refine' s_dpop ?ee_ ?_); (case ee_ => rfl))
  | with_reducible refine s_swap2 ?_
  | ((with_reducible refine' x_swap2 ?ee_ ?_); (case ee_ => rfl))
  | ((with_reducible refine' s_gS ?ee_ ?_); (case ee_ => rfl))
  | ((with_reducible refine' x_gS ?ee_ ?ff_ ?gg_ ?_); (case ee_ => rfl); (case ff_ => rfl); (case gg_ => first | assumption | rfl))
  | ((with_reducible refine' x_dpop ?ee_ ?ff_ ?gg_ ?_); (case ee_ => rfl); (case ff_ => rfl); (case gg_ => rfl)))
local macro_rules | `(tactic| walk_at "ds") => `(tactic| (repeat' (walk_at "ds1")))
set_option hygiene false in
local macro_rules | `(tactic| walk_at "dx") => `(tactic| (repeat' (first | walk_at "ds1" | with_reducible refine (fun (a : Addr) => ?_ : ∀ _ : Addr, _) | with_reducible refine ite_d (fun c => ?_) (fun c => ?_) | with_reducible refine ite_nd (fun c => ?_) (fun c => ?_) | with_reducible refine ite_nb (fun c => ?_) (fun c => ?_) | with_reducible refine ite_b (fun c => ?_) (fun c => ?_))))
set_option hygiene false in
local macro_rules | `(tactic| walk_at "dy") => `(tactic| (repeat' (first | walk_at "ds1" | with_reducible refine (fun (a : Addr) => ?_ : ∀ _ : Addr, _))))
/-! ### rows of mirrors as data -/
abbrev Row := List Nat × List Nat
def rowD (r : Row) : D := .tup [.str (tx r.1), .str (tx r.2)]
abbrev rowsD (rs : List Row) : D := .lst (rs.map rowD)
/-- the signs ".-|" -/
def sigs : List Nat := [46, 45, 124]
def rowOk (w : Int) (r : Row) : Bool := decide ((r.1.length : Int) = w - 1) && decide ((r.2.length : Int) = w) && (r.1 ++ r.2).all fun c => decide (c ∈ sigs)
def SmallR (rs : List Row) : Prop := rs.length ≤ 1000 ∧ ∀ r ∈ rs, r.1.length ≤ 1000 ∧ r.2.length ≤ 1000
theorem sigs_cps : (Str.ofString ".-|").cps.toList = sigs := by decide +kernel
theorem o_ninC {c : Nat} {z : Str} {P : Ent → Prop} (k : P (.imm (.bl (!decide (c ∈ z.cps.toList))))) : oNin (.str (sg c)) (.str z) P := by
  first
    | exact ⟨c, rfl, k⟩
    | exact ⟨c, _, rfl, rfl, k⟩
    | exact ⟨c, rfl, _, rfl, k⟩
theorem o_inC {c : Nat} {z : Str} {P : Ent → Prop} (k : P (.imm (.bl (decide (c ∈ z.cps.toList))))) : oIn (.str (sg c)) (.str z) P := by
  first
    | exact ⟨c, rfl, k⟩
    | exact ⟨c, _, rfl, rfl, k⟩
def conRows (A : Ad) : Con := fun es P PX => ∃ (w : Int) (rs : List Row), es = [.int w, .imm (rowsD rs)] ∧ SmallR rs ∧ ((∀ r ∈ rs, rowOk w r = true) → P (.imm .non) es) ∧ (∀ r, rs.find? (fun r => !rowOk w r) = some r → PX A.C_InvalidRow (rowD r) es)
theorem find_at {α : Type} {p : α → Bool} : ∀ {l : List α} {k : Nat} {x : α}, l[k]? = some x → (∀ y ∈ l.take k, p y = false) → p x = true → l.find? p = some x
  | [], k, x, h, _, _ => by simp at h
  | y :: l, 0, x, h, _, hx => by
    simp at h
    subst h
    rw [List.find?_cons, hx]
  | y :: l, k + 1, x, h, ht, hx => by
    rw [List.take_succ_cons] at ht
    rw [List.find?_cons, ht y List.mem_cons_self]
    exact find_at (k := k) (by simpa using h) (fun z hz => ht z (List.mem_cons_of_mem _ hz)) hx
section
variable {P : Program} {w : World} {K : PySem.W.Frag} {mg : Str → Option Value} {base : Heap} {A : Ad}
theorem okd_check_rows (T : Txt K mg A) : FnOk P w K mg base (L2.CX P w) (2 + 1) A.f_check_rows A.d_check_rows P_check_rows (spD K (conRows A)) := by
  have G_SandError___init__ := okd_SandError___init__ (P := P) (w := w) (base := base) T
  refine okD_fn T.F_check_rows sc_check_rows (fun es P PX h => ?_) (fun cdv A' outer s H I E es R PX hr fo hc => ?_)
  · obtain ⟨w, rs, rfl, _⟩ := h
    rfl
  obtain ⟨w, rs, rfl, ⟨hl, hs⟩, hP, hX⟩ := hc
  have hu := hu_of hr
  refine ⟨_, (dss_one (ds_for (passes_of rfl) rfl (di_seq (dv 1)) (dg_tup (n := 2) rfl (dgs_cons (dg_name (i := 2) sc_check_rows.nd rfl (Or.inl rfl)) (dgs_cons (dg_name (i := 3) sc_check_rows.nd rfl (Or.inl rfl)) dgs_nil)))
(dss_cons (ds_set (i := 4) sc_check_rows.nd rfl (Or.inl rfl) (de_or (de_cmp (dor_ne hr.units) (de_blt dcr_len (by rfl) T.n_len (by decide +kernel) (da_cons (dv 2) da_nil)) (de_op dor_sub (dv 0) de_int) (nomark _)) (de_one (de_cmp (dor_ne hr.units) (de_blt dcr_len (by rfl) T.n_len (by decide +kernel) (da_cons (dv 3) da_nil)) (dv 0) (nomark _)))))
(dss_cons (ds_for (passes_of rfl) rfl (di_seq (de_op dor_add (dv 2) (dv 3))) (dg_name (i := 5) sc_check_rows.nd rfl (Or.inl rfl))
(dss_one (ds_if (dt_cmp (dor_nin (hu65_of hr)) (dv 5) (de_gstr rfl T.g_CHARACTERS) (by rfl))
(dss_one (ds_set (i := 4) sc_check_rows.nd rfl (Or.inl rfl) de_bl))
dss_nil)))
(dss_one (ds_if (dt_val (dv 4))
(dss_one (ds_raise rfl (takes_of rfl rfl rfl rfl) fo T.X_InvalidRow T.i_InvalidRow T.ti_init T.no_InvalidRow G_SandError___init__ (hr.mono (by first | decide | omega)) T.b_SandError___init__ rfl T.g_InvalidRow (de_tup (da_cons (dv 2) (da_cons (dv 3) da_nil)))))
dss_nil)))))), ?_⟩
  walk_at "dy"
  walk_at "dx"
  refine ⟨fun k e => ∃ (v2 v3 v4 v5 : Option Ent), e = [some (.imm (.int w)), some (.imm (rowsD rs)), v2, v3, v4, v5] ∧ ∀ r ∈ rs.take k, (fun r => !rowOk w r) r = false, ⟨_, _, _, _, rfl, by simp⟩, ?_, ?_⟩
  · rintro k c e hc ⟨v2, v3, v4, v5, rfl, ok⟩
    obtain ⟨⟨a, b⟩, hr, rfl⟩ := map_get hc
    obtain ⟨la, lb⟩ := hs _ (List.mem_of_getElem? hr)
    dsimp only at la lb
    unfold rowD
    dsimp only
    have lp : (a ++ b).length ≤ 2000 := by rw [List.length_append]; omega
    have okr : rowOk w (a, b) = (decide ((a.length : Int) = w - 1) && decide ((b.length : Int) = w) && (a ++ b).all fun c => decide (c ∈ sigs)) := rfl
    have bad : rowOk w (a, b) = false → rs.find? (fun r => !rowOk w r) = some (a, b) := fun z => find_at hr ok (by rw [z]; rfl)
    have fine : rowOk w (a, b) = true → ∀ r ∈ rs.take (k + 1), (!rowOk w r) = false := fun z r hr2 => by
      rw [take_suc hr] at hr2
      rcases List.mem_append.mp hr2 with y | y
      · exact ok r y
      · rw [List.mem_singleton.mp y, z]; rfl
    have hX' := hX (a, b)
    walk_at "dx"
    all_goals
      first
        | (have q1 : ¬ (a.length : Int) = w - 1 := by assumption
           have okr : rowOk w (a, b) = (!true && (a ++ b).all fun c => decide (c ∈ sigs)) := by rw [okr, decide_eq_false q1]; rfl
           refine ⟨fun i e => ∃ v5 : Option Ent, e = [some (.imm (.int w)), some (.imm (rowsD rs)), some (.imm (.str (tx a))), some (.imm (.str (tx b))), some (.imm (.bl true)), v5], ⟨_, rfl⟩, ?_, ?_⟩)
        | (have q1 : (a.length : Int) = w - 1 := by assumption
           skip)
    · rintro i c e hc ⟨v5, rfl⟩
      rw [tx_chars] at hc
      obtain ⟨ch, hch, rfl⟩ := map_get hc
      walk_at "dx"
      refine o_ninC ?_
      walk_at "dx"
      all_goals exact ⟨_, rfl⟩
    · rintro e ⟨v5, rfl⟩
      walk_at "dx"
      exact hX' (bad (by rw [okr]; rfl))
    · obtain ⟨w0, hw0⟩ : ∃ w0 : Bool, w0 = !decide ((b.length : Int) = w) := ⟨_, rfl⟩
      have okr : rowOk w (a, b) = (!w0 && (a ++ b).all fun c => decide (c ∈ sigs)) := by rw [okr, decide_eq_true q1, hw0, Bool.not_not, Bool.true_and]
      rw [← hw0]
      refine ⟨fun i e => ∃ v5 : Option Ent, e = [some (.imm (.int w)), some (.imm (rowsD rs)), some (.imm (.str (tx a))), some (.imm (.str (tx b))), some (.imm (.bl (w0 || !((a ++ b).take i).all fun c => decide (c ∈ sigs)))), v5], ⟨_, by rw [List.take_zero, List.all_nil, Bool.not_true, Bool.or_false]; rfl⟩, ?_, ?_⟩
      · rintro i c e hc ⟨v5, rfl⟩
        rw [tx_chars] at hc
        obtain ⟨ch, hch, rfl⟩ := map_get hc
        have ts := take_suc hch
        walk_at "dx"
        refine o_ninC ?_
        rw [sigs_cps]
        by_cases m : ch ∈ sigs
        · rw [decide_eq_true m]
          have bv : (w0 || !((a ++ b).take (i + 1)).all fun c => decide (c ∈ sigs)) = (w0 || !((a ++ b).take i).all fun c => decide (c ∈ sigs)) := by
            rw [ts, List.all_append]
            simp [m]
          walk_at "dx"
          refine ⟨some (.imm (.str (sg ch))), ?_⟩
          rw [bv]
          rfl
        · rw [decide_eq_false m]
          have bv : (w0 || !((a ++ b).take (i + 1)).all fun c => decide (c ∈ sigs)) = true := by
            rw [ts, List.all_append]
            simp [m]
          walk_at "dx"
          refine ⟨some (.imm (.str (sg ch))), ?_⟩
          rw [bv]
          rfl
      · rintro e ⟨v5, rfl⟩
        rw [show (chars (tx (a ++ b))).length = (a ++ b).length by rw [tx_chars, List.length_map], List.take_length]
        cases fb : (w0 || !(a ++ b).all fun c => decide (c ∈ sigs)) with
        | true =>
          walk_at "dx"
          refine hX' (bad ?_)
          rw [okr, ← Bool.not_eq_true', Bool.not_and, Bool.not_not, fb]
        | false =>
          walk_at "dx"
          refine ⟨_, _, _, _, rfl, fine ?_⟩
          rw [okr, ← Bool.not_eq_false', Bool.not_and, Bool.not_not, fb]
  · rintro e ⟨v2, v3, v4, v5, rfl, ok⟩
    rw [List.length_map, List.take_length] at ok
    walk_at "dx"
    exact hP fun r hr => by simpa using ok r hr
end

end

section
local macro_rules | `(tactic| walk_at "al") => `(tactic| first
  | omega
  | exact Or.inl (Or.inl ⟨by omega, by omega⟩)
  | exact Or.inl (Or.inr ⟨by omega, by omega⟩)
  | exact ⟨by omega, Or.inl (by omega)⟩
  | exact ⟨by omega, by omega, by omega, by omega⟩
  | exact ⟨by decide, by decide, by decide⟩)
local macro_rules | `(tactic| walk_at "bk") => `(tactic| repeat (first | exact BackE.nil | apply BackE.imm | apply BackE.own | apply BackE.hand))
local macro_rules | `(tactic| walk_at "ds1") => `(tactic| first
  | with_reducible refine s_aC ?_
  | ((with_reducible refine' s_vi ?ee_ ?_); (case ee_ => rfl))
  | ((with_reducible refine' s_vs ?ee_ ?_); (case ee_ => rfl))
  | with_reducible refine s_c ?_
  | ((with_reducible refine' x_val2 ?ee_ ?ff_ ?_); (case ee_ => rfl); (case ff_ => rfl))
  | with_reducible refine s_op ?_
  | with_reducible refine s_aN ?_
  | ((with_reducible refine' x_frzs ?ee_ ?ll_ ?_); (case ee_ => rfl); (case ll_ => rfl))
  | with_reducible refine s_seq ?_
  | ((with_reducible refine' x_frz ?ee_ ?_); (case ee_ => rfl))
  | with_reducible refine s_tup ?_
  | with_reducible refine s_gaV ?_
  | ((with_reducible refine' x_bl ?ee_ ?_); (case ee_ => rfl))
  | ((with_reducible refine' s_end ?ee_ ?bb_ ?_); (case ee_ => rfl); (case bb_ => walk_at "bk"))
  | with_reducible refine s_ret ?_
  | with_reducible refine s_test ?_
  | ((with_reducible refine' x_vals ?ee_ ?_); (case ee_ => rfl))
  | with_reducible refine s_cl ?_
  | ((with_reducible refine' x_asg ?ee_ ?_); (case ee_ => rfl))
  | with_reducible refine o_subI ?_
  | with_reducible refine s_set ?_
  | with_reducible refine s_gaN ?_
  | with_reducible refine s_lst ?_
  | with_reducible refine s_next ?_
  | with_reducible refine s_call ?_
  | ((with_reducible refine' x_con ?ee_ ?ff_ ?_); (case ee_ => rfl); (case ff_ => rfl))
  | with_reducible refine s_if ?_
  | ((with_reducible refine' s_gN ?ee_ ?_); (case ee_ => rfl))
  | ((with_reducible refine' x_back ?ll_ ?ee_ ?_); (case ll_ => rfl); (case ee_ => rfl))
  | ((with_reducible refine' x_back1 ?ee_ ?_); (case ee_ => rfl))
  | with_reducible refine o_addI ?_
  | ((with_reducible refine' o_mulI ?cc_ ?_); (case cc_ => walk_at "al"))
  | with_reducible refine s_for ?_
  | ((with_reducible refine' x_val ?ee_ ?_); (case ee_ => rfl))
  | with_reducible refine s_gCn ?_
  | with_reducible refine iteT ?_
  | with_reducible refine iteF ?_
  | with_reducible refine r_iteNf ?_
  | with_reducible refine r_iteNt ?_
  | with_reducible refine s_not ?_
  | with_reducible refine s_drop ?_
  | ((with_reducible refine' o_modI ?cc_ ?_); (case cc_ => walk_at "al"))
  | with_reducible refine s_or ?_
  | ((with_reducible refine' o_ixT ?ee_ ?ff_ ?_); (case ee_ => first | rfl | assumption); (case ff_ => first | rfl | assumption))
  | ((with_reducible refine' ixI ?aa_ ?bb_ ?_); (case aa_ => omega); (case bb_ => omega))
  | ((with_reducible refine' o_ixL ?ee_ ?ff_ ?_); (case ee_ => first | rfl | assumption); (case ff_ => first | rfl | assumption))
  | with_reducible refine o_ixH ?_
  | ((with_reducible refine' x_int ?ee_ ?_); (case ee_ => rfl))
  | with_reducible refine s_pN ?_
  | with_reducible refine s_pS ?_
  | with_reducible refine s_sl ?_
  | ((with_reducible refine' s_gaR ?ee_ ?_); (case ee_ => rfl))
  | with_reducible refine s_rng1 ?_
  | with_reducible refine o_eqI ?_
  | with_reducible refine o_eqS ?_
  | with_reducible refine o_eqP ?_
  | with_reducible refine o_eqB ?_
  | ((with_reducible refine' o_eqIs ?aa_ ?bb_ ?_); (case aa_ => first | omega | (simp only [List.length_map, List.length_range, List.length_replicate]; omega)); (case bb_ => first | omega | (simp only [List.length_map, List.length_range, List.length_replicate]; omega)))
  | ((with_reducible refine' s_callD ?ee_ ?ff_ ?_); (case ee_ => rfl); (case ff_ => rfl))
  | ((with_reducible refine' x_rng1 ?ee_ ?aa_ ?bb_ ?_); (case ee_ => rfl); (case aa_ => omega); (case bb_ => omega))
  | ((with_reducible refine' s_mut ?ee_ ?_); (case ee_ => rfl))
  | ((with_reducible refine' x_mut ?ee_ ?ff_ ?_); (case ee_ => rfl); (case ff_ => rfl))
  | with_reducible refine o_max ?_
  | with_reducible refine s_un ?_
  | with_reducible refine s_gNl ?_
  | ((with_reducible refine' x_frzO ?ee_ ?_); (case ee_ => rfl))
  | with_reducible refine o_ltI ?_
  | with_reducible refine s_wSeq ?_
  | ((with_reducible refine' x_items ?ee_ ?ff_ ?_); (case ee_ => rfl); (case ff_ => rfl))
  | ((with_reducible refine' s_lookT ?ee_ ?_); (case ee_ => rfl))
  | with_reducible refine s_asg ?_
  | ((with_reducible refine' s_gT ?ee_ ?_); (case ee_ => rfl))
  | with_reducible refine o_int ?_
  | ((with_reducible refine' o_inT ?ee_ ?_); (case ee_ => rfl))
  | ((with_reducible refine' o_inF ?ee_ ?_); (case ee_ => rfl))
  | with_reducible refine o_intB ?_
  | with_reducible refine s_andV ?_
  | with_reducible refine s_prop ?_
  | ((with_reducible refine' s_xis ?ee_ ?ff_ ?_); (case ee_ => rfl); (case ff_ => assumption))
  | ((with_reducible refine' x_xis ?ee_ ?ff_ ?_); (case ee_ => rfl); (case ff_ => assumption))
  | ((with_reducible refine' x_xisT2 ?ee_ ?ff_ ?gg_ ?hh_ ?_); (case ee_ => rfl); (case ff_ => rfl); (case gg_ => assumption); (case hh_ => assumption))
  | ((with_reducible refine' s_xisT ?ee_ ?ff_ ?_); (case ee_ => rfl); (case ff_ => assumption))
  | with_reducible refine o_lenI ?_
  | with_reducible refine o_lenL ?_
  | with_reducible refine o_lenT ?_
  | with_reducible refine o_lenF ?_
  | with_reducible refine o_lenD ?_
  | ((with_reducible refine' x_pxT ?ee_ ?_); (case ee_ => assumption))
  | ((with_reducible refine' x_px ?bb_ ?_); (case bb_ => walk_at "bk"))
  | ((with_reducible refine' o_powI ?cc_ ?_); (case cc_ => walk_at "al"))
  | ((with_reducible refine' o_fld ?ee_ ?_); (case ee_ => rfl))
  | with_reducible refine s_parE ?_
  | ((with_reducible refine' x_parE ?ee_ ?ff_ ?_); (case ee_ => rfl); (case ff_ => rfl))
  | with_reducible refine o_slF ?_
  | with_reducible refine o_slL ?_
  | with_reducible refine o_slT ?_
  | with_reducible refine s_dnT ?_
  | with_reducible refine s_rng2 ?_
  | ((with_reducible refine' x_rng2 ?ee_ ?aa_ ?_); (case ee_ => rfl); (case aa_ => exact ⟨by omega, by omega, by omega, by omega⟩))
  | ((with_reducible refine' o_divI ?cc_ ?_); (case cc_ => walk_at "al"))
  | with_reducible refine o_andI ?_
  | with_reducible refine o_min ?_
  | with_reducible refine s_chain ?_
  | with_reducible refine x_ib ?_
  | with_reducible refine s_dget ?_
  | with_reducible refine s_raise ?_
  | with_reducible refine s_lc ?_
  | ((with_reducible refine' x_clear ?ee_ ?_); (case ee_ => rfl))
  | with_reducible refine o_neI ?_
  | with_reducible refine o_neS ?_
  | with_reducible refine o_neP ?_
  | with_reducible refine o_neC ?_
  | with_reducible refine o_neg ?_
  | ((with_reducible refine' o_neIs ?aa_ ?bb_ ?_); (case aa_ => first | omega | (simp only [List.length_map, List.length_range, List.length_replicate]; omega)); (case bb_ => first | omega | (simp only [List.length_map, List.length_range, List.length_replicate]; omega)))
  | with_reducible refine o_gtI ?_
  | with_reducible refine s_and ?_
  | with_reducible refine s_fz ?_
  | ((with_reducible refine' x_noa ?ee_ ?_); (case ee_ => rfl))
  | ((with_reducible refine' s_dapp ?ee_ ?ff_ ?gg_ ?_); (case ee_ => rfl); (case ff_ => rfl); (case gg_ => rfl))
  | with_reducible refine s_meth ?_
  | with_reducible refine s_rev ?_
  | with_reducible refine s_two ?_
  | with_reducible refine s_join ?_
  | ((with_reducible refine' o_lenX ?ee_ ?_); (case ee_ => assumption))
  | ((with_reducible refine' o_addX ?ee_ ?ff_ ?_); (case ee_ => assumption); (case ff_ => assumption))
  | ((with_reducible refine' o_sliceX ?ee_ ?_); (case ee_ => assumption))
  | ((with_reducible refine' o_ixT' ?ee_ ?ff_ ?gg_ ?_); (case ee_ => assumption); (case ff_ => assumption); (case gg_ => assumption))
  | ((with_reducible refine' x_rev ?ee_ ?ff_ ?_); (case ee_ => rfl); (case ff_ => rfl))
  | ((with_reducible refine' x_isstr ?ee_ ?_); (case ee_ => rfl))
  | ((with_reducible refine' x_two ?ee_ ?ff_ ?_); (case ee_ => rfl); (case ff_ => rfl))
  | with_reducible refine s_dnin ?_
  | with_reducible refine s_setIx ?_
  | ((with_reducible refine' s_gL ?ee_ ?_); (case ee_ => rfl))
  | ((with_reducible refine' s_forW ?ee_ ?ff_ ?_); (case ee_ => rfl); (case ff_ => first | assumption | exact hasD_imm | exact hasD_own))
  | with_reducible refine o_list ?_
  | with_reducible refine o_listT ?_
  | ((with_reducible refine' x_isT ?ee_ ?_); (case ee_ => rfl))
  | ((with_reducible refine' x_isK ?ee_ ?_); (case ee_ => rfl))
  | with_reducible refine o_leI ?_
  | with_reducible refine s_notV ?_
  | with_reducible refine s_ifV ?_
  | with_reducible refine s_callT ?_
  | with_reducible refine s_callB ?_
  | ((with_reducible refine' x_lent ?ee_ ?_); (case ee_ => rfl))
  | with_reducible refine s_minL ?_
  | with_reducible refine s_fnK ?_
  | with_reducible refine s_fnM ?_
  | ((with_reducible refine' x_fnM ?ee_ ?ff_ ?gg_ ?_); (case ee_ => rfl); (case ff_ => rfl); (case gg_ => rfl))
  | with_reducible refine s_par3E ?_
  | ((with_reducible refine' x_par3E ?ee_ ?ff_ ?gg_ ?_); (case ee_ => rfl); (case ff_ => rfl); (case gg_ => rfl))
  | with_reducible refine s_dol ?_
  | with_reducible refine s_ud ?_
  | with_reducible refine x_callT ?_
  | ((with_reducible refine' x_frzsK ?ee_ ?ll_ ?_); (case ee_ => rfl); (case ll_ => rfl))
  | with_reducible refine s_make ?_
  | with_reducible refine s_dget1 ?_
  | with_reducible refine s_dget2 ?_
  | ((with_reducible refine' x_get2 ?ee_ ?ff_ ?gg_ ?_); (case ee_ => rfl); (case ff_ => rfl); (case gg_ => rfl))
  | with_reducible refine s_brk ?_
  | with_reducible refine s_zip ?_
  | ((with_reducible refine' x_zip ?ee_ ?_); (case ee_ => rfl))
  | with_reducible refine s_tryG ?_
  | ((with_reducible refine' s_xv ?ee_ ?ff_ ?gg_ ?_); (case ee_ => rfl); (case ff_ => assumption); (case gg_ => assumption))
  | with_reducible refine s_yes ?_
  | with_reducible refine isi_bl_bool ?_
  | with_reducible refine isi_bl_int ?_
  | with_reducible refine isi_bl_str ?_
  | with_reducible refine isi_bl_list ?_
  | with_reducible refine isi_bl_tuple ?_
  | with_reducible refine isi_int_bool ?_
  | with_reducible refine isi_int_int ?_
  | with_reducible refine isi_int_str ?_
  | with_reducible refine isi_int_list ?_
  | with_reducible refine isi_int_tuple ?_
  | with_reducible refine isi_str_bool ?_
  | with_reducible refine isi_str_int ?_
  | with_reducible refine isi_str_str ?_
  | with_reducible refine isi_str_list ?_
  | with_reducible refine isi_str_tuple ?_
  | with_reducible refine isi_lst_bool ?_
  | with_reducible refine isi_lst_int ?_
  | with_reducible refine isi_lst_str ?_
  | with_reducible refine isi_lst_list ?_
  | with_reducible refine isi_lst_tuple ?_
  | with_reducible refine isi_tup_bool ?_
  | with_reducible refine isi_tup_int ?_
  | with_reducible refine isi_tup_str ?_
  | with_reducible refine isi_tup_list ?_
  | with_reducible refine isi_tup_tuple ?_
  | with_reducible refine isi_non_bool ?_
  | with_reducible refine isi_non_int ?_
  | with_reducible refine isi_non_str ?_
  | with_reducible refine isi_non_list ?_
  | with_reducible refine isi_non_tuple ?_
  | with_reducible refine o_isN_non ?_
  | with_reducible refine o_isN_bl ?_
  | with_reducible refine o_isN_int ?_
  | with_reducible refine o_isN_str ?_
  | with_reducible refine o_isN_lst ?_
  | with_reducible refine o_isN_tup ?_
  | with_reducible refine o_isN_obj ?_
  | with_reducible refine o_isN' ?_
  | with_reducible refine o_isB' ?_
  | with_reducible refine o_isNB ?_
  | ((with_reducible refine' x_frz2 ?ee_ ?ff_ ?_); (case ee_ => rfl); (case ff_ => rfl))
  | with_reducible refine o_geI ?_
  | with_reducible refine o_notN_non ?_
  | with_reducible refine o_notN_bl ?_
  | with_reducible refine o_notN_int ?_
  | with_reducible refine o_notN_str ?_
  | with_reducible refine o_notN_lst ?_
  | with_reducible refine o_notN_tup ?_
  | with_reducible refine o_notN_obj ?_
  | with_reducible refine o_notN' ?_
  | with_reducible refine s_dnK ?_
  | with_reducible refine o_abs ?_
  | ((with_reducible refine' o_ninT ?ee_ ?_); (case ee_ => rfl))
  | ((with_reducible refine' o_ninF ?ee_ ?_); (case ee_ => rfl))
  | with_reducible refine s_orV ?_
  | with_reducible refine s_sameL ?_
  | with_reducible refine s_fg ?_
  | ((with_reducible refine' x_lenN ?ee_ ?ff_ ?_); (case ee_ => omega); (case ff_ => omega))
  | ((with_reducible refine' x_le1000 ?ee_ ?_); (case ee_ => rfl))
  | with_reducible refine s_meth0 ?_
  | with_reducible refine s_methK ?_
  | with_reducible refine s_makeK ?_
  | with_reducible refine s_own2 ?_
  | with_reducible refine s_eqX ?_
  | with_reducible refine s_neX ?_
  | with_reducible refine x_nb ?_
  | with_reducible refine s_lenO ?_
  | ((with_reducible refine' s_mut0 ?ee_ ?_); (case ee_ => rfl))
  | with_reducible refine m_clr ?_
  | with_reducible refine m_rev ?_
  | with_reducible refine s_din ?_
  | ((with_reducible refine' s_lookK ?ee_ ?_); (case ee_ => rfl))
  | with_reducible refine s_retN ?_
  | with_reducible refine s_cnt ?_
  | with_reducible refine s_enum ?_
  | with_reducible refine s_enumS ?_
  | with_reducible refine s_rng3 ?_
  | ((with_reducible refine' x_enumS ?ee_ ?_); (case ee_ => rfl))
  | ((with_reducible refine' x_enum ?ee_ ?_); (case ee_ => rfl))
  | with_reducible refine s_lcG ?_
  | ((with_reducible refine' s_lcV ?ee_ ?ff_ ?_); (case ee_ => rfl); (case ff_ => rfl))
  | ((with_reducible refine' s_forV ?ee_ ?_); (case ee_ => rfl))
  | ((with_reducible refine' o_rep1 ?aa_ ?_); (case aa_ => exact ⟨by omega, by omega⟩))
  | with_reducible refine s_par ?_
  | ((with_reducible refine' x_par ?ee_ ?ff_ ?gg_ ?_); (case ee_ => rfl); (case ff_ => rfl); (case gg_ => rfl))
  | with_reducible refine s_rng1L ?_
  | ((with_reducible refine' x_rng1L ?ee_ ?_); (case ee_ => rfl))
  | with_reducible refine s_rng2L ?_
  | ((with_reducible refine' x_rng2L ?ee_ ?_); (case ee_ => rfl))
  | with_reducible refine s_fset ?_
  | ((with_reducible refine' x_fset ?ee_ ?ff_ ?gg_ ?_); (case ee_ => rfl); (case ff_ => rfl); (case gg_ => rfl))
  | with_reducible refine x_got rfl ?_
  | with_reducible refine x_in0 ?_
  | with_reducible refine x_inS ?_
  | ((with_reducible refine' s_gVal ?ee_ ?_); (case ee_ => rfl))
  | ((with_reducible refine' s_gGen ?ee_ ?_); (case ee_ => rfl))
  | ((with_reducible refine' s_gTag ?ee_ ?_); (case ee_ => rfl))
  | ((with_reducible refine' s_endN ?bb_ ?_); (case bb_ => walk_at "bk"))
  | ((with_reducible refine' s_dpop ?ee_ ?_); (case ee_ => rfl))
  | with_reducible refine s_swap2 ?_
  | ((with_reducible refine' x_swap2 ?ee_ ?_); (case ee_ => rfl))
  | ((with_reducible refine' s_gS ?ee_ ?_); (case ee_ => rfl))
  | ((with_reducible refine' x_gS ?ee_ ?ff_ ?gg_ ?_); (case ee_ => rfl); (case ff_ => rfl); (case gg_ => first | assumption | rfl))
  | ((with_reducible refine' x_dpop ?ee_ ?ff_ ?gg_ ?_); (case ee_ => rfl); (case ff_ => rfl); (case gg_ => rfl)))
local macro_rules | `(tactic| walk_at "ds") => `(tactic| (repeat' (walk_at "ds1")))
set_option hygiene false in
local macro_rules | `(tactic| walk_at "dx") => `(tactic| (repeat' (first | walk_at "ds1" | with_reducible refine (fun (a : Addr) => ?_ : ∀ _ : Addr, _) | with_reducible refine ite_d (fun c => ?_) (fun c => ?_) | with_reducible refine ite_nd (fun c => ?_) (fun c => ?_) | with_reducible refine ite_nb (fun c => ?_) (fun c => ?_) | with_reducible refine ite_b (fun c => ?_) (fun c => ?_))))
set_option hygiene false in
local macro_rules | `(tactic| walk_at "dy") => `(tactic| (repeat' (first | walk_at "ds1" | with_reducible refine (fun (a : Addr) => ?_ : ∀ _ : Addr, _))))
/-! ### the drawn rows of the strips' laws -/
def conLRows : Con := fun es P _ => ∃ (l : Addr) (n w m : Int), es = [.own l (.lst [.int n]), .int w, .int m] ∧ 1 ≤ w ∧ w ≤ 20 ∧ 0 ≤ m ∧ m ≤ 100 ∧
  ∀ (rs : List Row) (n' : Int) (a : Addr), (rs.length : Int) = m → (∀ r ∈ rs, rowOk w r = true) → P (.own a (.lst (rs.map rowD))) [.own l (.lst [.int n']), .int w, .int m]
def ThreeOk (w : Int) (a c e : List Row) : Prop := a.length ≤ 40 ∧ c.length ≤ 40 ∧ e.length ≤ 40 ∧ 1 ≤ c.length ∧ ∀ r, r ∈ a ∨ r ∈ c ∨ r ∈ e → rowOk w r = true
def conLLists : Con := fun es P _ => ∃ (l : Addr) (n : Int), es = [.own l (.lst [.int n])] ∧ ∀ (w n' : Int) (a c e : List Row), 1 ≤ w → w ≤ 11 → ThreeOk w a c e → P (.imm (.tup [.int w, .lst [rowsD a, rowsD c, rowsD e]])) [.own l (.lst [.int n'])]
theorem ixS_lit {ds : List D} {i : Int} {k : Nat} {d : D} {P : Ent → Prop} (h1 : ixN ds.length i = some k) (h2 : ds[k]? = some d) (q : P (.imm d)) : oIx (.lst ds) (.int i) P := ⟨k, d, h1, h2, q⟩
theorem join_cs {cs : List Nat} : Txt.join (Str.ofString "") (cs.map sg) = tx cs := join_sg cs
theorem rowOk_of {w : Int} {a b : List Nat} (h1 : (a.length : Int) = w - 1) (h2 : (b.length : Int) = w) (h3 : ∀ c ∈ a, c ∈ sigs) (h4 : ∀ c ∈ b, c ∈ sigs) : rowOk w (a, b) = true := by
  unfold rowOk
  rw [decide_eq_true h1, decide_eq_true h2, Bool.and_true, Bool.true_and, List.all_eq_true]
  intro c hc
  rcases List.mem_append.mp hc with z | z
  · exact decide_eq_true (h3 c z)
  · exact decide_eq_true (h4 c z)
section
variable {P : Program} {w : World} {K : PySem.W.Frag} {mg : Str → Option Value} {base : Heap} {A : Ad}
theorem okd__law_rows (T : Txt K mg A) : FnOk P w K mg base (L2.CX P w) (2 + 1) A.f__law_rows A.d__law_rows P__law_rows (spD K conLRows) := by
  have G__law_pick := okd__law_pick (P := P) (w := w) (base := base) T
  refine okD_fn T.F__law_rows sc__law_rows (fun es P PX h => ?_) (fun cdv A' outer s H I E es R PX hr fo hc => ?_)
  · obtain ⟨l, n, w, m, rfl, _⟩ := h
    rfl
  obtain ⟨l, n, w, m, rfl, w1, w2, m0, m1, hP⟩ := hc
  have hu := hu_of hr
  refine ⟨_, (dss_cons (ds_set (i := 3) sc__law_rows.nd rfl (Or.inr rfl) (de_ix dix (de_lst (da_cons de_str (da_cons de_str (da_cons de_str (da_cons de_str (da_cons de_str da_nil)))))) (de_call G__law_pick (hr.mono (by first | decide | omega)) rfl T.g__law_pick T.k__law_pick T.b__law_pick (takes_of rfl rfl rfl rfl) fo (gr 0 (dg_v de_int dg_nil)))))
(dss_cons (ds_set (i := 4) sc__law_rows.nd rfl (Or.inl rfl) (de_lst da_nil))
(dss_cons (ds_for (passes_of rfl) rfl (di_rng1 (by rfl) T.n_range (da_cons (dv 2) da_nil)) (dg_name (i := 5) sc__law_rows.nd rfl (Or.inl rfl))
(dss_cons (ds_set (i := 6) sc__law_rows.nd rfl (Or.inl rfl) (de_join de_str (de_lcG (own := [("_law_j", 7)]) (by rfl) sc__law_rows.nd (di_rng1 (by rfl) T.n_range (da_cons (de_op dor_sub (dv 1) de_int) da_nil)) (blkOk_by (own := [("_law_j", 7)]) (N := N__law_rows) (sc := defScope s__law_rows) (by decide +kernel)) (fun _ _ _ _ _ => by exact (dg_name (i := 7) sc__law_rows.nd rfl (by first | exact Or.inl rfl | exact Or.inr rfl))) (fun _ _ _ _ _ => by exact dts_nil) (fun _ _ _ _ _ => by exact (de_ix dix (dv 3) (de_call G__law_pick (hr.mono (by first | decide | omega)) rfl T.g__law_pick T.k__law_pick T.b__law_pick takes0 frok_nox (gr 0 (dg_v (de_blt dcr_len (by rfl) T.n_len (by decide +kernel) (da_cons (dv 3) da_nil)) dg_nil))))) (by rfl))))
(dss_one (ds_expr (de_mut PySem.F.slot_list_append PySem.F.type_list_append mt_append dm_append (pv 4) (da_cons (de_tup (da_cons (dv 6) (da_cons (de_join de_str (de_lcG (own := [("_law_j", 7)]) (by rfl) sc__law_rows.nd (di_rng1 (by rfl) T.n_range (da_cons (dv 1) da_nil)) (blkOk_by (own := [("_law_j", 7)]) (N := N__law_rows) (sc := defScope s__law_rows) (by decide +kernel)) (fun _ _ _ _ _ => by exact (dg_name (i := 7) sc__law_rows.nd rfl (by first | exact Or.inl rfl | exact Or.inr rfl))) (fun _ _ _ _ _ => by exact dts_nil) (fun _ _ _ _ _ => by exact (de_ix dix (dv 3) (de_call G__law_pick (hr.mono (by first | decide | omega)) rfl T.g__law_pick T.k__law_pick T.b__law_pick takes0 frok_nox (gr 0 (dg_v (de_blt dcr_len (by rfl) T.n_len (by decide +kernel) (da_cons (dv 3) da_nil)) dg_nil))))) (by rfl))) da_nil))) da_nil))))))
(dss_one (ds_ret (dv 4)))))), ?_⟩
  walk_at "dy"
  refine ⟨l, n, 5, rfl, by decide, by decide, fun r n1 r0 r1 => ?_⟩
  obtain ⟨sl, k1, e1, e2, e3, e4, e5⟩ : ∃ (sl : List Nat) (k1 : Nat), ixN ([.str ".-|", .str "....-|", .str "|-", .str ".|", .str ".-"] : List D).length r = some k1 ∧ ([.str ".-|", .str "....-|", .str "|-", .str ".|", .str ".-"] : List D)[k1]? = some (.str (tx sl)) ∧ 0 < sl.length ∧ sl.length ≤ 1000 ∧ ∀ c ∈ sl, c ∈ sigs := by
    obtain ⟨k3, c3, e31, e32, e33, e34⟩ := ixS_in (l := ([.str ".-|", .str "....-|", .str "|-", .str ".|", .str ".-"] : List D)) r0 r1
    simp only [List.mem_cons, List.not_mem_nil, or_false] at e33
    rcases e33 with rfl | rfl | rfl | rfl | rfl
    · exact ⟨[46, 45, 124], k3, e31, e32, by decide, by decide, by decide⟩
    · exact ⟨[46, 46, 46, 46, 45, 124], k3, e31, e32, by decide, by decide, by decide⟩
    · exact ⟨[124, 45], k3, e31, e32, by decide, by decide, by decide⟩
    · exact ⟨[46, 124], k3, e31, e32, by decide, by decide, by decide⟩
    · exact ⟨[46, 45], k3, e31, e32, by decide, by decide, by decide⟩
  walk_at "dx"
  rename Addr => aR
  refine ⟨fun i e => ∃ (n2 : Int) (rs : List Row) (v5 v6 : Option Ent), e = [some (.own l (.lst [.int n2])), some (.imm (.int w)), some (.imm (.int m)), some (.imm (.str (tx sl))), some (.own aR (.lst (rs.map rowD))), v5, v6, none] ∧ rs.length = i ∧ ∀ r ∈ rs, rowOk w r = true, ⟨_, [], _, _, rfl, rfl, by simp⟩, ?_, ?_⟩
  · rintro i c e hc ⟨n2, rs, v5, v6, rfl, rl, rok⟩
    obtain ⟨hi, rfl⟩ := rng_get hc
    walk_at "dx"
    refine ⟨by rw [rngD_len]; omega, fun j e acc => ∃ (n3 : Int) (cs : List Nat), e = [some (.own l (.lst [.int n3])), some (.imm (.int w)), some (.imm (.int m)), some (.imm (.str (tx sl))), some (.own aR (.lst (rs.map rowD))), some (.imm (.int (0 + (i : Int)))), v6, none] ∧ acc = (cs.map sg).map D.str ∧ cs.length = j ∧ ∀ c ∈ cs, c ∈ sigs, ⟨_, [], rfl, rfl, rfl, by simp⟩, ?_, ?_⟩
    · rintro j c e acc hc ⟨n3, cs, rfl, rfl, cl, cok⟩
      obtain ⟨hj, rfl⟩ := rng_get hc
      refine ⟨rfl, ?_⟩
      walk_at "dx"
      refine ⟨l, n3, (sl.length : Int), rfl, by omega, .inl (by omega), fun r4 n4 r40 r41 => ?_⟩
      obtain ⟨k4, rfl⟩ : ∃ k' : Nat, r4 = k' := ⟨r4.toNat, by omega⟩
      obtain ⟨ch, hch⟩ : ∃ ch, sl[k4]? = some ch := ⟨_, List.getElem?_eq_getElem (by omega)⟩
      have i4 : ixN sl.length (k4 : Int) = some k4 := ixS_k (by omega)
      walk_at "dx"
      refine ⟨_, cs ++ [ch], rfl, by rw [List.map_append, List.map_append]; rfl, by rw [List.length_append, cl]; rfl, fun x hx => ?_⟩
      rcases List.mem_append.mp hx with hx | hx
      · exact cok x hx
      · rw [List.mem_singleton] at hx
        rw [hx]
        exact e5 ch (List.mem_of_getElem? hch)
    rintro e acc ⟨n3, cs, rfl, rfl, cl, cok⟩
    rw [rngD_len] at cl
    intro aJ
    refine ⟨_, cs.map sg, rfl, rfl, by rw [sum_sg, List.length_map, show (Str.ofString "").length = 0 from rfl, Nat.mul_zero]; omega, ?_⟩
    rw [join_cs]
    walk_at "dx"
    refine ⟨by rw [rngD_len]; omega, fun j e acc => ∃ (n5 : Int) (cz : List Nat), e = [some (.own l (.lst [.int n5])), some (.imm (.int w)), some (.imm (.int m)), some (.imm (.str (tx sl))), some (.own aR (.lst (rs.map rowD))), some (.imm (.int (0 + (i : Int)))), some (.imm (.str (tx cs))), none] ∧ acc = (cz.map sg).map D.str ∧ cz.length = j ∧ ∀ c ∈ cz, c ∈ sigs, ⟨_, [], rfl, rfl, rfl, by simp⟩, ?_, ?_⟩
    · rintro j c e acc hc ⟨n5, cz, rfl, rfl, cy, cw⟩
      obtain ⟨hj, rfl⟩ := rng_get hc
      refine ⟨rfl, ?_⟩
      walk_at "dx"
      refine ⟨l, n5, (sl.length : Int), rfl, by omega, .inl (by omega), fun r4 n4 r40 r41 => ?_⟩
      obtain ⟨k4, rfl⟩ : ∃ k' : Nat, r4 = k' := ⟨r4.toNat, by omega⟩
      obtain ⟨ch, hch⟩ : ∃ ch, sl[k4]? = some ch := ⟨_, List.getElem?_eq_getElem (by omega)⟩
      have i4 : ixN sl.length (k4 : Int) = some k4 := ixS_k (by omega)
      walk_at "dx"
      refine ⟨_, cz ++ [ch], rfl, by rw [List.map_append, List.map_append]; rfl, by rw [List.length_append, cy]; rfl, fun x hx => ?_⟩
      rcases List.mem_append.mp hx with hx | hx
      · exact cw x hx
      · rw [List.mem_singleton] at hx
        rw [hx]
        exact e5 ch (List.mem_of_getElem? hch)
    rintro e acc ⟨n5, cz, rfl, rfl, cy, cw⟩
    rw [rngD_len] at cy
    intro aJ
    refine ⟨_, cz.map sg, rfl, rfl, by rw [sum_sg, List.length_map, show (Str.ofString "").length = 0 from rfl, Nat.mul_zero]; omega, ?_⟩
    rw [join_cs]
    walk_at "dx"
    refine m_app (by rw [List.length_map]; omega) ?_
    refine ⟨_, rs ++ [(cs, cz)], _, _, by rw [List.map_append]; rfl, by rw [List.length_append, rl]; rfl, fun x hx => ?_⟩
    rcases List.mem_append.mp hx with hx | hx
    · exact rok x hx
    · rw [List.mem_singleton.mp hx]
      exact rowOk_of (by omega) (by omega) cok cw
  · rintro e ⟨n2, rs, v5, v6, rfl, rl, rok⟩
    rw [rngD_len] at rl
    walk_at "dx"
    exact hP rs _ _ (by omega) rok
theorem okd__law_lists (T : Txt K mg A) : FnOk P w K mg base (L2.CX P w) (4 + 1) A.f__law_lists A.d__law_lists P__law_lists (spD K conLLists) := by
  have G__law_pick := okd__law_pick (P := P) (w := w) (base := base) T
  have G__law_rows := okd__law_rows (P := P) (w := w) (base := base) T
  refine okD_fn T.F__law_lists sc__law_lists (fun es P PX h => ?_) (fun cdv A' outer s H I E es R PX hr fo hc => ?_)
  · obtain ⟨l, n, rfl, _⟩ := h
    rfl
  obtain ⟨l, n, rfl, hP⟩ := hc
  have hu := hu_of hr
  refine ⟨_, (dss_cons (ds_set (i := 1) sc__law_lists.nd rfl (Or.inr rfl) (de_cmp (dor_eq hr.units) (de_call G__law_pick (hr.mono (by first | decide | omega)) rfl T.g__law_pick T.k__law_pick T.b__law_pick (takes_of rfl rfl rfl rfl) fo (gr 0 (dg_v de_int dg_nil))) de_int (nomark _)))
(dss_cut (ds_set (i := 2) sc__law_lists.nd rfl (Or.inr rfl) (de_op dor_add de_int (de_call G__law_pick (hr.mono (by first | decide | omega)) rfl T.g__law_pick T.k__law_pick T.b__law_pick (takes_of rfl rfl rfl rfl) fo (gr 0 (dg_v (de_ix dix (de_lst (da_cons de_int (da_cons de_int da_nil))) (de_typ dcr_int (by rfl) T.n_int (by decide +kernel) (da_cons (dv 1) da_nil))) dg_nil)))))
(dss_cons (ds_set (i := 3) sc__law_lists.nd rfl (Or.inr rfl) (de_lcG (own := [("_law_k", 5)]) (by rfl) sc__law_lists.nd (di_rng1 (by rfl) T.n_range (da_cons de_int da_nil)) (blkOk_by (own := [("_law_k", 5)]) (N := N__law_lists) (sc := defScope s__law_lists) (by decide +kernel)) (fun _ _ _ _ _ => by exact (dg_name (i := 5) sc__law_lists.nd rfl (by first | exact Or.inl rfl | exact Or.inr rfl))) (fun _ _ _ _ _ => by exact dts_nil) (fun _ _ _ _ _ => by exact (de_call G__law_pick (hr.mono (by first | decide | omega)) rfl T.g__law_pick T.k__law_pick T.b__law_pick takes0 frok_nox (gr 0 (dg_v (de_ix dix (de_lst (da_cons de_int (da_cons de_int da_nil))) (de_typ dcr_int (by rfl) T.n_int (by decide +kernel) (da_cons (dv 1) da_nil))) dg_nil)))) (by rfl)))
(dss_cut (ds_setIx (pv 3) de_int (de_blt (dcr_max rfl) (by rfl) T.n_max (by decide +kernel) (da_cons de_int (da_cons (de_ix dix (dv 3) de_int) da_nil))))
(dss_cut (ds_set (i := 4) sc__law_lists.nd rfl (Or.inr rfl) (de_lcG (own := [("_law_k", 5)]) (by rfl) sc__law_lists.nd (di_rng1 (by rfl) T.n_range (da_cons de_int da_nil)) (blkOk_by (own := [("_law_k", 5)]) (N := N__law_lists) (sc := defScope s__law_lists) (by decide +kernel)) (fun _ _ _ _ _ => by exact (dg_name (i := 5) sc__law_lists.nd rfl (by first | exact Or.inl rfl | exact Or.inr rfl))) (fun _ _ _ _ _ => by exact dts_nil) (fun _ _ _ _ _ => by exact (de_call G__law_rows (hr.mono (by first | decide | omega)) rfl T.g__law_rows T.k__law_rows T.b__law_rows takes0 frok_nox (gr 0 (dg_v (dv 2) (dg_v de_int dg_nil))))) (by rfl)))
(dss_cons (ds_if (dt_val (dv 1))
(dss_one (ds_ret (de_tup (da_cons (dv 2) (da_cons (de_lc (own := [("_law_k", 5)]) (by rfl) sc__law_lists.nd (di_rng1 (by rfl) T.n_range (da_cons de_int da_nil)) (blkOk_by (own := [("_law_k", 5)]) (N := N__law_lists) (sc := defScope s__law_lists) (by decide +kernel)) (fun _ _ _ _ _ => by exact (dg_name (i := 5) sc__law_lists.nd rfl (by first | exact Or.inl rfl | exact Or.inr rfl))) (fun _ _ _ _ _ => by exact dts_nil) (fun _ _ _ _ _ => by exact (de_lc (own := [("_law_j", 6)]) (by rfl) sc__law_lists.nd (di_rng1 (by rfl) T.n_range (da_cons (de_ix dix (dv 3) (dv 5)) da_nil)) (blkOk_by (own := [("_law_j", 6)]) (N := N__law_lists) (sc := ({ kind := PySem.ScopeKind.function, names := [ (PySem.Str.ofString ".0", PySem.NameKind.local), (PySem.Str.ofString "_law_k", PySem.NameKind.cell), (PySem.Str.ofString "range", PySem.NameKind.globalImplicit), (PySem.Str.ofString "_law_counts", PySem.NameKind.cell), (PySem.Str.ofString "_law_some", PySem.NameKind.cell)], isGenerator := false, isCoroutine := false, more := [] } : PySem.Scope)) (by decide +kernel)) (fun _ _ _ _ _ => by exact (dg_name (i := 6) sc__law_lists.nd rfl (by first | exact Or.inl rfl | exact Or.inr rfl))) (fun _ _ _ _ _ => by exact dts_nil) (fun _ _ _ _ _ => by exact (de_ix dix (de_ix dix (dv 4) (dv 5)) (de_op dor_mod (de_op dor_add (dv 6) (de_op dor_div (de_op dor_mul (dv 6) (dv 6)) de_int)) de_int))) (by rfl))) (by rfl)) da_nil)))))
dss_nil)
(dss_one (ds_ret (de_tup (da_cons (dv 2) (da_cons (de_lcG (own := [("_law_k", 5)]) (by rfl) sc__law_lists.nd (di_rng1 (by rfl) T.n_range (da_cons de_int da_nil)) (blkOk_by (own := [("_law_k", 5)]) (N := N__law_lists) (sc := defScope s__law_lists) (by decide +kernel)) (fun _ _ _ _ _ => by exact (dg_name (i := 5) sc__law_lists.nd rfl (by first | exact Or.inl rfl | exact Or.inr rfl))) (fun _ _ _ _ _ => by exact dts_nil) (fun _ _ _ _ _ => by exact (de_call G__law_rows (hr.mono (by first | decide | omega)) rfl T.g__law_rows T.k__law_rows T.b__law_rows takes0 frok_nox (gr 0 (dg_v (dv 2) (dg_v (de_ix dix (dv 3) (dv 5)) dg_nil))))) (by rfl)) da_nil))))))))))), ?_⟩
  walk_at "dy"
  refine ⟨l, n, 6, rfl, by decide, by decide, fun r n1 r0 r1 => ?_⟩
  walk_at "dx"
  obtain ⟨gb, hgb⟩ : ∃ gb : Bool, gb = decide (r = 5) := ⟨_, rfl⟩
  rw [← hgb]
  refine s_cut (fun e => ∃ (n2 wd : Int), 1 ≤ wd ∧ wd ≤ 11 ∧ e = [some (.own l (.lst [.int n2])), some (.imm (.bl gb)), some (.imm (.int wd)), none, none, none, none]) ?_ ?_
  · skip
    walk_at "dx"
    cases gb with
    | true =>
      walk_at "dx"
      refine ⟨l, n1, 11, rfl, by decide, by decide, fun r2 n2 r20 r21 => ?_⟩
      walk_at "dx"
      exact ⟨_, _, by omega, by omega, rfl⟩
    | false =>
      walk_at "dx"
      refine ⟨l, n1, 4, rfl, by decide, by decide, fun r2 n2 r20 r21 => ?_⟩
      walk_at "dx"
      exact ⟨_, _, by omega, by omega, rfl⟩
  rintro e ⟨n2, wd, wd1, wd2, rfl⟩
  walk_at "dx"
  refine ⟨by rw [rngD_len]; decide, fun i e acc => ∃ (n3 : Int) (vs : List Int), e = [some (.own l (.lst [.int n3])), some (.imm (.bl gb)), some (.imm (.int wd)), none, none, none, none] ∧ acc = vs.map D.int ∧ vs.length = i ∧ ∀ v ∈ vs, 0 ≤ v ∧ v ≤ 40, ⟨_, [], rfl, rfl, rfl, by simp⟩, ?_, ?_⟩
  · rintro i c e acc hc ⟨n3, vs, rfl, rfl, vl, vok⟩
    obtain ⟨hi, rfl⟩ := rng_get hc
    refine ⟨rfl, ?_⟩
    walk_at "dx"
    have fin : ∀ (v n4 : Int), 0 ≤ v → v ≤ 40 → ∃ (n5 : Int) (us : List Int), [some (Ent.own l (.lst [.int n4])), some (.imm (.bl gb)), some (.imm (.int wd)), none, none, none, none] = [some (.own l (.lst [.int n5])), some (.imm (.bl gb)), some (.imm (.int wd)), none, none, none, none] ∧ vs.map D.int ++ [D.int v] = us.map D.int ∧ us.length = i + 1 ∧ ∀ v ∈ us, 0 ≤ v ∧ v ≤ 40 := fun v n4 h0 h1 => by
      refine ⟨n4, vs ++ [v], rfl, by rw [List.map_append]; rfl, by rw [List.length_append, vl]; rfl, fun x hx => ?_⟩
      rcases List.mem_append.mp hx with hx | hx
      · exact vok x hx
      · rw [List.mem_singleton.mp hx]; exact ⟨h0, h1⟩
    cases gb with
    | true =>
      walk_at "dx"
      refine ⟨l, n3, 41, rfl, by decide, by decide, fun r4 n4 r40 r41 => ?_⟩
      walk_at "dx"
      exact fin r4 n4 r40 (by omega)
    | false =>
      walk_at "dx"
      refine ⟨l, n3, 5, rfl, by decide, by decide, fun r4 n4 r40 r41 => ?_⟩
      walk_at "dx"
      exact fin r4 n4 r40 (by omega)
  rintro e acc ⟨n3, vs, rfl, rfl, vl, vok⟩
  rw [rngD_len] at vl
  obtain ⟨c0, c1, c2, rfl⟩ : ∃ c0 c1 c2, vs = [c0, c1, c2] := by
    match vs, vl with
    | [a, b, c], _ => exact ⟨a, b, c, rfl⟩
  have k0 := vok c0 (by simp)
  have k1 := vok c1 (by simp)
  have k2 := vok c2 (by simp)
  intro aC
  walk_at "dx"
  refine s_cut (fun e => ∃ (d1 : Int), 1 ≤ d1 ∧ d1 ≤ 40 ∧ e = [some (.own l (.lst [.int n3])), some (.imm (.bl gb)), some (.imm (.int wd)), some (.own aC (.lst [.int c0, .int d1, .int c2])), none, none, none]) ?_ ?_
  · skip
    walk_at "dx"
    refine ⟨⟨_, _, rfl⟩, ?_⟩
    walk_at "dx"
    refine ⟨_, _, _, _, _, _, rfl, rfl, rfl, (by rfl : ixN 3 1 = some 1), ?_⟩
    exact ⟨if c1 > 1 then c1 else 1, by split <;> omega, by split <;> omega, rfl⟩
  rintro e ⟨d1, d11, d12, rfl⟩
  refine s_cut (fun e => ∃ (n4 : Int) (aS : Addr) (s0 s1 s2 : List Row), (∀ s, s = s0 ∨ s = s1 ∨ s = s2 → s.length = 3 ∧ ∀ r ∈ s, rowOk wd r = true) ∧ e = [some (.own l (.lst [.int n4])), some (.imm (.bl gb)), some (.imm (.int wd)), some (.own aC (.lst [.int c0, .int d1, .int c2])), some (.own aS (.lst [rowsD s0, rowsD s1, rowsD s2])), none, none]) ?_ ?_
  · skip
    walk_at "dx"
    refine ⟨by rw [rngD_len]; decide, fun i e acc => ∃ (n4 : Int) (Ls : List (List Row)), e = [some (.own l (.lst [.int n4])), some (.imm (.bl gb)), some (.imm (.int wd)), some (.own aC (.lst [.int c0, .int d1, .int c2])), none, none, none] ∧ acc = Ls.map (fun L => rowsD L) ∧ Ls.length = i ∧ ∀ L ∈ Ls, L.length = 3 ∧ ∀ r ∈ L, rowOk wd r = true, ⟨_, [], rfl, rfl, rfl, by simp⟩, ?_, ?_⟩
    · rintro i c e acc hc ⟨n4, Ls, rfl, rfl, ll, lok⟩
      obtain ⟨hi, rfl⟩ := rng_get hc
      refine ⟨rfl, ?_⟩
      walk_at "dx"
      refine ⟨l, n4, wd, 3, rfl, wd1, by omega, by decide, by decide, fun rs n5 aZ rl rok => ?_⟩
      walk_at "dx"
      refine ⟨_, Ls ++ [rs], rfl, by rw [List.map_append]; rfl, by rw [List.length_append, ll]; rfl, fun x hx => ?_⟩
      rcases List.mem_append.mp hx with hx | hx
      · exact lok x hx
      · rw [List.mem_singleton.mp hx]; exact ⟨by omega, rok⟩
    rintro e acc ⟨n4, Ls, rfl, rfl, ll, lok⟩
    rw [rngD_len] at ll
    obtain ⟨s0, s1, s2, rfl⟩ : ∃ s0 s1 s2, Ls = [s0, s1, s2] := by
      match Ls, ll with
      | [a, b, c], _ => exact ⟨a, b, c, rfl⟩
    intro aS
    walk_at "dx"
    exact ⟨_, _, s0, s1, s2, fun s hs => lok s (by simpa using hs), rfl⟩
  rintro e ⟨n4, aS, s0, s1, s2, sok, rfl⟩
  have cnt : ∀ i : Nat, i < 3 → ∃ c : Int, [c0, d1, c2][i]? = some c ∧ 0 ≤ c ∧ c ≤ 40 := fun i hi => by
    obtain rfl | rfl | rfl : i = 0 ∨ i = 1 ∨ i = 2 := by omega
    · exact ⟨c0, rfl, k0.1, k0.2⟩
    · exact ⟨d1, rfl, by omega, d12⟩
    · exact ⟨c2, rfl, k2.1, k2.2⟩
  have third : ∀ Ls : List (List Row), Ls.length = 3 → (∀ (i : Nat) (L : List Row), Ls[i]? = some L → (∃ c : Int, [c0, d1, c2][i]? = some c ∧ (L.length : Int) = c) ∧ ∀ r ∈ L, rowOk wd r = true) → ∃ a c e, Ls = [a, c, e] ∧ ThreeOk wd a c e := fun Ls hl hL => by
    match Ls, hl with
    | [a, c, e], _ =>
      obtain ⟨⟨x, hx, hx2⟩, ho⟩ := hL 0 a rfl
      obtain ⟨⟨y, hy, hy2⟩, ho2⟩ := hL 1 c rfl
      obtain ⟨⟨z, hz, hz2⟩, ho3⟩ := hL 2 e rfl
      simp at hx hy hz
      refine ⟨a, c, e, rfl, by omega, by omega, by omega, by omega, fun r hr => ?_⟩
      rcases hr with hr | hr | hr
      · exact ho r hr
      · exact ho2 r hr
      · exact ho3 r hr
  cases gb with
  | true =>
    walk_at "dx"
    refine ⟨by rw [rngD_len]; decide, fun i acc => ∃ (Ls : List (List Row)), acc = Ls.map (fun L => rowsD L) ∧ Ls.length = i ∧ (∀ (i : Nat) (L : List Row), Ls[i]? = some L → (∃ c : Int, [c0, d1, c2][i]? = some c ∧ (L.length : Int) = c) ∧ ∀ r ∈ L, rowOk wd r = true), ⟨[], rfl, rfl, by simp⟩, ?_, ?_⟩
    · rintro i c acc hc ⟨Ls, rfl, ll, lok⟩
      obtain ⟨hi, rfl⟩ := rng_get hc
      rw [Int.zero_add]
      have hi : i < 3 := by simpa using hi
      obtain ⟨ci, hci, ci0, ci1⟩ := cnt i hi
      obtain ⟨s, hs, sl⟩ : ∃ s, [s0, s1, s2][i]? = some s ∧ (s.length = 3 ∧ ∀ r ∈ s, rowOk wd r = true) := by
        obtain rfl | rfl | rfl : i = 0 ∨ i = 1 ∨ i = 2 := by omega
        · exact ⟨s0, rfl, sok s0 (by simp)⟩
        · exact ⟨s1, rfl, sok s1 (by simp)⟩
        · exact ⟨s2, rfl, sok s2 (by simp)⟩
      have x1 : ixN [D.int c0, D.int d1, D.int c2].length (i : Int) = some i := ixS_k hi
      have x2 : [D.int c0, D.int d1, D.int c2][i]? = some (.int ci) := by
        rw [show [D.int c0, D.int d1, D.int c2] = [c0, d1, c2].map D.int from rfl, List.getElem?_map, hci]; rfl
      have x3 : ixN [rowsD s0, rowsD s1, rowsD s2].length (i : Int) = some i := ixS_k hi
      have x4 : [rowsD s0, rowsD s1, rowsD s2][i]? = some (rowsD s) := by
        rw [show [rowsD s0, rowsD s1, rowsD s2] = [s0, s1, s2].map (fun s => rowsD s) from rfl, List.getElem?_map, hs]; rfl
      walk_at "dx"
      refine ⟨by rw [rngD_len]; omega, fun j acc => ∃ rs : List Row, acc = rs.map rowD ∧ rs.length = j ∧ ∀ r ∈ rs, rowOk wd r = true, ⟨[], rfl, rfl, by simp⟩, ?_, ?_⟩
      · rintro j c acc hc ⟨rs, rfl, rl, rok⟩
        obtain ⟨hj, rfl⟩ := rng_get hc
        rw [Int.zero_add]
        have hj : j < 40 := by omega
        obtain ⟨q, hq0, hq1⟩ : ∃ q : Nat, ((j : Int) + (j : Int) * (j : Int) / 7) % 3 = q ∧ q < 3 := by
          have h0 := Int.emod_nonneg ((j : Int) + (j : Int) * (j : Int) / 7) (show (3 : Int) ≠ 0 by decide)
          have h1 := Int.emod_lt_of_pos ((j : Int) + (j : Int) * (j : Int) / 7) (show (0 : Int) < 3 by decide)
          exact ⟨(((j : Int) + (j : Int) * (j : Int) / 7) % 3).toNat, by omega, by omega⟩
        obtain ⟨r, hr⟩ : ∃ r, s[q]? = some r := ⟨_, List.getElem?_eq_getElem (by omega)⟩
        have y1 : ixN (s.map rowD).length (((j : Int) + (j : Int) * (j : Int) / 7) % 3) = some q := by rw [hq0]; exact ixS_k (by rw [List.length_map]; omega)
        have y2 : (s.map rowD)[q]? = some (rowD r) := by rw [List.getElem?_map, hr]; rfl
        walk_at "dx"
        refine ⟨rfl, rs ++ [r], by rw [List.map_append]; rfl, by rw [List.length_append, rl]; rfl, fun x hx => ?_⟩
        rcases List.mem_append.mp hx with hx | hx
        · exact rok x hx
        · rw [List.mem_singleton.mp hx]; exact sl.2 r (List.mem_of_getElem? hr)
      · rintro acc ⟨rs, rfl, rl, rok⟩
        rw [rngD_len] at rl
        intro aZ
        walk_at "dx"
        refine ⟨rfl, Ls ++ [rs], by rw [List.map_append]; rfl, by rw [List.length_append, ll]; rfl, fun j L hL => ?_⟩
        by_cases q : j < Ls.length
        · rw [List.getElem?_append_left q] at hL
          exact lok j L hL
        · have hj := (List.getElem?_eq_some_iff.mp hL).1
          rw [List.length_append, List.length_singleton] at hj
          obtain rfl : j = i := by omega
          rw [← ll, List.getElem?_append_right (Nat.le_refl _), Nat.sub_self] at hL
          cases hL
          exact ⟨⟨ci, hci, by omega⟩, rok⟩
    · rintro acc ⟨Ls, rfl, ll, lok⟩
      rw [rngD_len] at ll
      obtain ⟨ra, rc, re, rfl, tok⟩ := third Ls ll lok
      walk_at "dx"
      exact hP wd _ ra rc re wd1 wd2 tok
  | false =>
    walk_at "dx"
    refine ⟨by rw [rngD_len]; decide, fun i e acc => ∃ (n5 : Int) (Ls : List (List Row)), e = [some (.own l (.lst [.int n5])), some (.imm (.bl false)), some (.imm (.int wd)), some (.own aC (.lst [.int c0, .int d1, .int c2])), some (.own aS (.lst [rowsD s0, rowsD s1, rowsD s2])), none, none] ∧ acc = Ls.map (fun L => rowsD L) ∧ Ls.length = i ∧ (∀ (i : Nat) (L : List Row), Ls[i]? = some L → (∃ c : Int, [c0, d1, c2][i]? = some c ∧ (L.length : Int) = c) ∧ ∀ r ∈ L, rowOk wd r = true), ⟨_, [], rfl, rfl, rfl, by simp⟩, ?_, ?_⟩
    · rintro i c e acc hc ⟨n5, Ls, rfl, rfl, ll, lok⟩
      obtain ⟨hi, rfl⟩ := rng_get hc
      rw [Int.zero_add]
      have hi : i < 3 := by simpa using hi
      obtain ⟨ci, hci, ci0, ci1⟩ := cnt i hi
      have x1 : ixN [D.int c0, D.int d1, D.int c2].length (i : Int) = some i := ixS_k hi
      have x2 : [D.int c0, D.int d1, D.int c2][i]? = some (.int ci) := by
        rw [show [D.int c0, D.int d1, D.int c2] = [c0, d1, c2].map D.int from rfl, List.getElem?_map, hci]; rfl
      refine ⟨rfl, ?_⟩
      walk_at "dx"
      refine ⟨l, n5, wd, ci, rfl, wd1, by omega, ci0, by omega, fun rs n6 aZ rl rok => ?_⟩
      walk_at "dx"
      refine ⟨_, Ls ++ [rs], rfl, by rw [List.map_append]; rfl, by rw [List.length_append, ll]; rfl, fun j L hL => ?_⟩
      by_cases q : j < Ls.length
      · rw [List.getElem?_append_left q] at hL
        exact lok j L hL
      · have hj := (List.getElem?_eq_some_iff.mp hL).1
        rw [List.length_append, List.length_singleton] at hj
        obtain rfl : j = i := by omega
        rw [← ll, List.getElem?_append_right (Nat.le_refl _), Nat.sub_self] at hL
        cases hL
        exact ⟨⟨ci, hci, rl⟩, rok⟩
    · rintro e acc ⟨n5, Ls, rfl, rfl, ll, lok⟩
      rw [rngD_len] at ll
      obtain ⟨ra, rc, re, rfl, tok⟩ := third Ls ll lok
      intro aZ
      walk_at "dx"
      exact hP wd _ ra rc re wd1 wd2 tok
end

end

section
local macro_rules | `(tactic| walk_at "al") => `(tactic| first
  | omega
  | exact Or.inl (Or.inl ⟨by omega, by omega⟩)
  | exact Or.inl (Or.inr ⟨by omega, by omega⟩)
  | exact ⟨by omega, Or.inl (by omega)⟩
  | exact ⟨by omega, by omega, by omega, by omega⟩
  | exact ⟨by decide, by decide, by decide⟩)
local macro_rules | `(tactic| walk_at "bk") => `(tactic| repeat (first | exact BackE.nil | apply BackE.imm | apply BackE.own | apply BackE.hand))
local macro_rules | `(tactic| walk_at "ds1") => `(tactic| first
  | with_reducible refine s_aC ?_
  | ((with_reducible refine' s_vi ?ee_ ?_); (case ee_ => rfl))
  | ((with_reducible refine' s_vs ?ee_ ?_); (case ee_ => rfl))
  | with_reducible refine s_c ?_
  | ((with_reducible refine' x_val2 ?ee_ ?ff_ ?_); (case ee_ => rfl); (case ff_ => rfl))
  | with_reducible refine s_op ?_
  | with_reducible refine s_aN ?_
  | ((with_reducible refine' x_frzs ?ee_ ?ll_ ?_); (case ee_ => rfl); (case ll_ => rfl))
  | with_reducible refine s_seq ?_
  | ((with_reducible refine' x_frz ?ee_ ?_); (case ee_ => rfl))
  | with_reducible refine s_tup ?_
  | with_reducible refine s_gaV ?_
  | ((with_reducible refine' x_bl ?ee_ ?_); (case ee_ => rfl))
  | ((with_reducible refine' s_end ?ee_ ?bb_ ?_); (case ee_ => rfl); (case bb_ => walk_at "bk"))
  | with_reducible refine s_ret ?_
  | with_reducible refine s_test ?_
  | ((with_reducible refine' x_vals ?ee_ ?_); (case ee_ => rfl))
  | with_reducible refine s_cl ?_
  | ((with_reducible refine' x_asg ?ee_ ?_); (case ee_ => rfl))
  | with_reducible refine o_subI ?_
  | with_reducible refine s_set ?_
  | with_reducible refine s_gaN ?_
  | with_reducible refine s_lst ?_
  | with_reducible refine s_next ?_
  | with_reducible refine s_call ?_
  | ((with_reducible refine' x_con ?ee_ ?ff_ ?_); (case ee_ => rfl); (case ff_ => rfl))
  | with_reducible refine s_if ?_
  | ((with_reducible refine' s_gN ?ee_ ?_); (case ee_ => rfl))
  | ((with_reducible refine' x_back ?ll_ ?ee_ ?_); (case ll_ => rfl); (case ee_ => rfl))
  | ((with_reducible refine' x_back1 ?ee_ ?_); (case ee_ => rfl))
  | with_reducible refine o_addI ?_
  | ((with_reducible refine' o_mulI ?cc_ ?_); (case cc_ => walk_at "al"))
  | with_reducible refine s_for ?_
  | ((with_reducible refine' x_val ?ee_ ?_); (case ee_ => rfl))
  | with_reducible refine s_gCn ?_
  | with_reducible refine iteT ?_
  | with_reducible refine iteF ?_
  | with_reducible refine r_iteNf ?_
  | with_reducible refine r_iteNt ?_
  | with_reducible refine s_not ?_
  | with_reducible refine s_drop ?_
  | ((with_reducible refine' o_modI ?cc_ ?_); (case cc_ => walk_at "al"))
  | with_reducible refine s_or ?_
  | ((with_reducible refine' o_ixT ?ee_ ?ff_ ?_); (case ee_ => first | rfl | assumption); (case ff_ => first | rfl | assumption))
  | ((with_reducible refine' ixI ?aa_ ?bb_ ?_); (case aa_ => omega); (case bb_ => omega))
  | ((with_reducible refine' o_ixL ?ee_ ?ff_ ?_); (case ee_ => first | rfl | assumption); (case ff_ => first | rfl | assumption))
  | with_reducible refine o_ixH ?_
  | ((with_reducible refine' x_int ?ee_ ?_); (case ee_ => rfl))
  | with_reducible refine s_pN ?_
  | with_reducible refine s_pS ?_
  | with_reducible refine s_sl ?_
  | ((with_reducible refine' s_gaR ?ee_ ?_); (case ee_ => rfl))
  | with_reducible refine s_rng1 ?_
  | with_reducible refine o_eqI ?_
  | with_reducible refine o_eqS ?_
  | with_reducible refine o_eqP ?_
  | with_reducible refine o_eqB ?_
  | ((with_reducible refine' o_eqIs ?aa_ ?bb_ ?_); (case aa_ => first | omega | (simp only [List.length_map, List.length_range, List.length_replicate]; omega)); (case bb_ => first | omega | (simp only [List.length_map, List.length_range, List.length_replicate]; omega)))
  | ((with_reducible refine' s_callD ?ee_ ?ff_ ?_); (case ee_ => rfl); (case ff_ => rfl))
  | ((with_reducible refine' x_rng1 ?ee_ ?aa_ ?bb_ ?_); (case ee_ => rfl); (case aa_ => omega); (case bb_ => omega))
  | ((with_reducible refine' s_mut ?ee_ ?_); (case ee_ => rfl))
  | ((with_reducible refine' x_mut ?ee_ ?ff_ ?_); (case ee_ => rfl); (case ff_ => rfl))
  | with_reducible refine o_max ?_
  | with_reducible refine s_un ?_
  | with_reducible refine s_gNl ?_
  | ((with_reducible refine' x_frzO ?ee_ ?_); (case ee_ => rfl))
  | with_reducible refine o_ltI ?_
  | with_reducible refine s_wSeq ?_
  | ((with_reducible refine' x_items ?ee_ ?ff_ ?_); (case ee_ => rfl); (case ff_ => rfl))
  | ((with_reducible refine' s_lookT ?ee_ ?_); (case ee_ => rfl))
  | with_reducible refine s_asg ?_
  | ((with_reducible refine' s_gT ?ee_ ?_); (case ee_ => rfl))
  | with_reducible refine o_int ?_
  | ((with_reducible refine' o_inT ?ee_ ?_); (case ee_ => rfl))
  | ((with_reducible refine' o_inF ?ee_ ?_); (case ee_ => rfl))
  | with_reducible refine o_intB ?_
  | with_reducible refine s_andV ?_
  | with_reducible refine s_prop ?_
  | ((with_reducible refine' s_xis ?ee_ ?ff_ ?_); (case ee_ => rfl); (case ff_ => assumption))
  | ((with_reducible refine' x_xis ?ee_ ?ff_ ?_); (case ee_ => rfl); (case ff_ => assumption))
  | ((with_reducible refine' x_xisT2 ?ee_ ?ff_ ?gg_ ?hh_ ?_); (case ee_ => rfl); (case ff_ => rfl); (case gg_ => assumption); (case hh_ => assumption))
  | ((with_reducible refine' s_xisT ?ee_ ?ff_ ?_); (case ee_ => rfl); (case ff_ => assumption))
  | with_reducible refine o_lenI ?_
  | with_reducible refine o_lenL ?_
  | with_reducible refine o_lenT ?_
  | with_reducible refine o_lenF ?_
  | with_reducible refine o_lenD ?_
  | ((with_reducible refine' x_pxT ?ee_ ?_); (case ee_ => assumption))
  | ((with_reducible refine' x_px ?bb_ ?_); (case bb_ => walk_at "bk"))
  | ((with_reducible refine' o_powI ?cc_ ?_); (case cc_ => walk_at "al"))
  | ((with_reducible refine' o_fld ?ee_ ?_); (case ee_ => rfl))
  | with_reducible refine s_parE ?_
  | ((with_reducible refine' x_parE ?ee_ ?ff_ ?_); (case ee_ => rfl); (case ff_ => rfl))
  | with_reducible refine o_slF ?_
  | with_reducible refine o_slL ?_
  | with_reducible refine o_slT ?_
  | with_reducible refine s_dnT ?_
  | with_reducible refine s_rng2 ?_
  | ((with_reducible refine' x_rng2 ?ee_ ?aa_ ?_); (case ee_ => rfl); (case aa_ => exact ⟨by omega, by omega, by omega, by omega⟩))
  | ((with_reducible refine' o_divI ?cc_ ?_); (case cc_ => walk_at "al"))
  | with_reducible refine o_andI ?_
  | with_reducible refine o_min ?_
  | with_reducible refine s_chain ?_
  | with_reducible refine x_ib ?_
  | with_reducible refine s_dget ?_
  | with_reducible refine s_raise ?_
  | with_reducible refine s_lc ?_
  | ((with_reducible refine' x_clear ?ee_ ?_); (case ee_ => rfl))
  | with_reducible refine o_neI ?_
  | with_reducible refine o_neS ?_
  | with_reducible refine o_neP ?_
  | with_reducible refine o_neC ?_
  | with_reducible refine o_neg ?_
  | ((with_reducible refine' o_neIs ?aa_ ?bb_ ?_); (case aa_ => first | omega | (simp only [List.length_map, List.length_range, List.length_replicate]; omega)); (case bb_ => first | omega | (simp only [List.length_map, List.length_range, List.length_replicate]; omega)))
  | with_reducible refine o_gtI ?_
  | with_reducible refine s_and ?_
  | with_reducible refine s_fz ?_
  | ((with_reducible refine' x_noa ?ee_ ?_); (case ee_ => rfl))
  | ((with_reducible refine' s_dapp ?ee_ ?ff_ ?gg_ ?_); (case ee_ => rfl); (case ff_ => rfl); (case gg_ => rfl))
  | with_reducible refine s_meth ?_
  | with_reducible refine s_rev ?_
  | with_reducible refine s_two ?_
  | with_reducible refine s_join ?_
  | ((with_reducible refine' o_lenX ?ee_ ?_); (case ee_ => assumption))
  | ((with_reducible refine' o_addX ?ee_ ?ff_ ?_); (case ee_ => assumption); (case ff_ => assumption))
  | ((with_reducible refine' o_sliceX ?ee_ ?_); (case ee_ => assumption))
  | ((with_reducible refine' o_ixT' ?ee_ ?ff_ ?gg_ ?_); (case ee_ => assumption); (case ff_ => assumption); (case gg_ => assumption))
  | ((with_reducible refine' x_rev ?ee_ ?ff_ ?_); (case ee_ => rfl); (case ff_ => rfl))
  | ((with_reducible refine' x_isstr ?ee_ ?_); (case ee_ => rfl))
  | ((with_reducible refine' x_two ?ee_ ?ff_ ?_); (case ee_ => rfl); (case ff_ => rfl))
  | with_reducible refine s_dnin ?_
  | with_reducible refine s_setIx ?_
  | ((with_reducible refine' s_gL ?ee_ ?_); (case ee_ => rfl))
  | ((with_reducible refine' s_forW ?ee_ ?ff_ ?_); (case ee_ => rfl); (case ff_ => first | assumption | exact hasD_imm | exact hasD_own))
  | with_reducible refine o_list ?_
  | with_reducible refine o_listT ?_
  | ((with_reducible refine' x_isT ?ee_ ?_); (case ee_ => rfl))
  | ((with_reducible refine' x_isK ?ee_ ?_); (case ee_ => rfl))
  | with_reducible refine o_leI ?_
  | with_reducible refine s_notV ?_
  | with_reducible refine s_ifV ?_
  | with_reducible refine s_callT ?_
  | with_reducible refine s_callB ?_
  | ((with_reducible refine' x_lent ?ee_ ?_); (case ee_ => rfl))
  | with_reducible refine s_minL ?_
  | with_reducible refine s_fnK ?_
  | with_reducible refine s_fnM ?_
  | ((with_reducible refine' x_fnM ?ee_ ?ff_ ?gg_ ?_); (case ee_ => rfl); (case ff_ => rfl); (case gg_ => rfl))
  | with_reducible refine s_par3E ?_
  | ((with_reducible refine' x_par3E ?ee_ ?ff_ ?gg_ ?_); (case ee_ => rfl); (case ff_ => rfl); (case gg_ => rfl))
  | with_reducible refine s_dol ?_
  | with_reducible refine s_ud ?_
  | with_reducible refine x_callT ?_
  | ((with_reducible refine' x_frzsK ?ee_ ?ll_ ?_); (case ee_ => rfl); (case ll_ => rfl))
  | with_reducible refine s_make ?_
  | with_reducible refine s_dget1 ?_
  | with_reducible refine s_dget2 ?_
  | ((with_reducible refine' x_get2 ?ee_ ?ff_ ?gg_ ?_); (case ee_ => rfl); (case ff_ => rfl); (case gg_ => rfl))
  | with_reducible refine s_brk ?_
  | with_reducible refine s_zip ?_
  | ((with_reducible refine' x_zip ?ee_ ?_); (case ee_ => rfl))
  | with_reducible refine s_tryG ?_
  | ((with_reducible refine' s_xv ?ee_ ?ff_ ?gg_ ?_); (case ee_ => rfl); (case ff_ => assumption); (case gg_ => assumption))
  | with_reducible refine s_yes ?_
  | with_reducible refine isi_bl_bool ?_
  | with_reducible refine isi_bl_int ?_
  | with_reducible refine isi_bl_str ?_
  | with_reducible refine isi_bl_list ?_
  | with_reducible refine isi_bl_tuple ?_
  | with_reducible refine isi_int_bool ?_
  | with_reducible refine isi_int_int ?_
  | with_reducible refine isi_int_str ?_
  | with_reducible refine isi_int_list ?_
  | with_reducible refine isi_int_tuple ?_
  | with_reducible refine isi_str_bool ?_
  | with_reducible refine isi_str_int ?_
  | with_reducible refine isi_str_str ?_
  | with_reducible refine isi_str_list ?_
  | with_reducible refine isi_str_tuple ?_
  | with_reducible refine isi_lst_bool ?_
  | with_reducible refine isi_lst_int ?_
  | with_reducible refine isi_lst_str ?_
  | with_reducible refine isi_lst_list ?_
  | with_reducible refine isi_lst_tuple ?_
  | with_reducible refine isi_tup_bool ?_
  | with_reducible refine isi_tup_int ?_
  | with_reducible refine isi_tup_str ?_
  | with_reducible refine isi_tup_list ?_
  | with_reducible refine isi_tup_tuple ?_
  | with_reducible refine isi_non_bool ?_
  | with_reducible refine isi_non_int ?_
  | with_reducible refine isi_non_str ?_
  | with_reducible refine isi_non_list ?_
  | with_reducible refine isi_non_tuple ?_
  | with_reducible refine o_isN_non ?_
  | with_reducible refine o_isN_bl ?_
  | with_reducible refine o_isN_int ?_
  | with_reducible refine o_isN_str ?_
  | with_reducible refine o_isN_lst ?_
  | with_reducible refine o_isN_tup ?_
  | with_reducible refine o_isN_obj ?_
  | with_reducible refine o_isN' ?_
  | with_reducible refine o_isB' ?_
  | with_reducible refine o_isNB ?_
  | ((with_reducible refine' x_frz2 ?ee_ ?ff_ ?_); (case ee_ => rfl); (case ff_ => rfl))
  | with_reducible refine o_geI ?_
  | with_reducible refine o_notN_non ?_
  | with_reducible refine o_notN_bl ?_
  | with_reducible refine o_notN_int ?_
  | with_reducible refine o_notN_str ?_
  | with_reducible refine o_notN_lst ?_
  | with_reducible refine o_notN_tup ?_
  | with_reducible refine o_notN_obj ?_
  | with_reducible refine o_notN' ?_
  | with_reducible refine s_dnK ?_
  | with_reducible refine o_abs ?_
  | ((with_reducible refine' o_ninT ?ee_ ?_); (case ee_ => rfl))
  | ((with_reducible refine' o_ninF ?ee_ ?_); (case ee_ => rfl))
  | with_reducible refine s_orV ?_
  | with_reducible refine s_sameL ?_
  | with_reducible refine s_fg ?_
  | ((with_reducible refine' x_lenN ?ee_ ?ff_ ?_); (case ee_ => omega); (case ff_ => omega))
  | ((with_reducible refine' x_le1000 ?ee_ ?_); (case ee_ => rfl))
  | with_reducible refine s_meth0 ?_
  | with_reducible refine s_methK ?_
  | with_reducible refine s_makeK ?_
  | with_reducible refine s_own2 ?_
  | with_reducible refine s_eqX ?_
  | with_reducible refine s_neX ?_
  | with_reducible refine x_nb ?_
  | with_reducible refine s_lenO ?_
  | ((with_reducible refine' s_mut0 ?ee_ ?_); (case ee_ => rfl))
  | with_reducible refine m_clr ?_
  | with_reducible refine m_rev ?_
  | with_reducible refine s_din ?_
  | ((with_reducible refine' s_lookK ?ee_ ?_); (case ee_ => rfl))
  | with_reducible refine s_retN ?_
  | with_reducible refine s_cnt ?_
  | with_reducible refine s_enum ?_
  | with_reducible refine s_enumS ?_
  | with_reducible refine s_rng3 ?_
  | ((with_reducible refine' x_enumS ?ee_ ?_); (case ee_ => rfl))
  | ((with_reducible refine' x_enum ?ee_ ?_); (case ee_ => rfl))
  | with_reducible refine s_lcG ?_
  | ((with_reducible refine' s_lcV ?ee_ ?ff_ ?_); (case ee_ => rfl); (case ff_ => rfl))
  | ((with_reducible refine' s_forV ?ee_ ?_); (case ee_ => rfl))
  | ((with_reducible refine' o_rep1 ?aa_ ?_); (case aa_ => exact ⟨by omega, by omega⟩))
  | with_reducible refine s_par ?_
  | ((with_reducible refine' x_par ?ee_ ?ff_ ?gg_ ?_); (case ee_ => rfl); (case ff_ => rfl); (case gg_ => rfl))
  | with_reducible refine s_rng1L ?_
  | ((with_reducible refine' x_rng1L ?ee_ ?_); (case ee_ => rfl))
  | with_reducible refine s_rng2L ?_
  | ((with_reducible refine' x_rng2L ?ee_ ?_); (case ee_ => rfl))
  | with_reducible refine s_fset ?_
  | ((with_reducible refine' x_fset ?ee_ ?ff_ ?gg_ ?_); (case ee_ => rfl); (case ff_ => rfl); (case gg_ => rfl))
  | with_reducible refine x_got rfl ?_
  | with_reducible refine x_in0 ?_
  | with_reducible refine x_inS ?_
  | ((with_reducible refine' s_gVal ?ee_ ?_); (case ee_ => rfl))
  | ((with_reducible refine' s_gGen ?ee_ ?_); (case ee_ => rfl))
  | ((with_reducible refine' s_gTag ?ee_ ?_); (case ee_ => rfl))
  | ((with_reducible refine' s_endN ?bb_ ?_); (case bb_ => walk_at "bk"))
  | ((with_reducible refine' s_dpop ?ee_ ?_); (case ee_ => rfl))
  | with_reducible refine s_swap2 ?_
  | ((with_reducible refine' x_swap2 ?ee_ ?_); (case ee_ => rfl))
  | ((with_reducible refine' s_gS ?ee_ ?_); (case ee_ => rfl))
  | ((with_reducible refine' x_gS ?ee_ ?ff_ ?gg_ ?_); (case ee_ => rfl); (case ff_ => rfl); (case gg_ => first | assumption | rfl))
  | ((with_reducible refine' x_dpop ?ee_ ?ff_ ?gg_ ?_); (case ee_ => rfl); (case ff_ => rfl); (case gg_ => rfl)))
local macro_rules | `(tactic| walk_at "ds") => `(tactic| (repeat' (walk_at "ds1")))
set_option hygiene false in
local macro_rules | `(tactic| walk_at "dx") => `(tactic| (repeat' (first | walk_at "ds1" | with_reducible refine (fun (a : Addr) => ?_ : ∀ _ : Addr, _) | with_reducible refine ite_d (fun c => ?_) (fun c => ?_) | with_reducible refine ite_nd (fun c => ?_) (fun c => ?_) | with_reducible refine ite_nb (fun c => ?_) (fun c => ?_) | with_reducible refine ite_b (fun c => ?_) (fun c => ?_))))
set_option hygiene false in
local macro_rules | `(tactic| walk_at "dy") => `(tactic| (repeat' (first | walk_at "ds1" | with_reducible refine (fun (a : Addr) => ?_ : ∀ _ : Addr, _))))
/-! ### the class of strips -/
def strpD (C : Addr) (w : Int) (a c e : List Row) : D := .obj C [("wide", .int w), ("first_rows", rowsD a), ("round_rows", rowsD c), ("last_rows", rowsD e)]
/-- the first row that is none -/
def badRow (w : Int) (rs : List Row) : Option Row := rs.find? fun r => !rowOk w r
def conStrip (A : Ad) : Con := fun es P PX => ∃ (w : Int) (a c e : List Row), es = [.int w, .imm (rowsD a), .imm (rowsD c), .imm (rowsD e)] ∧ SmallR a ∧ SmallR c ∧ SmallR e ∧ (w < 1 → PX A.C_InvalidSize (.int w) es) ∧
  (1 ≤ w → (∀ r, badRow w (a ++ c ++ e) = some r → PX A.C_InvalidRow (rowD r) es) ∧ (badRow w (a ++ c ++ e) = none → (c = [] → PX A.C_InvalidRow (.tup []) es) ∧ (c ≠ [] → P (.imm (strpD A.C_Strip w a c e)) es)))
theorem mono_strip {A : Ad} : MonoC A.C_Strip (conStrip A) := by
  rintro es P P' PX PX' h1 h2 ⟨w, a, c, e, rfl, sa, sc, se, q1, q2⟩
  exact ⟨w, a, c, e, rfl, sa, sc, se, fun z => h2 _ _ _ (q1 z), fun z => ⟨fun r y => h2 _ _ _ ((q2 z).1 r y), fun y => ⟨fun x => h2 _ _ _ (((q2 z).2 y).1 x), fun x => h1 _ _ (((q2 z).2 y).2 x)⟩⟩⟩
theorem mkD_Strip {K : PySem.W.Frag} {A : Ad} : MkD K A.C_Strip (spD K (conInit A.C_Strip (conStrip A))) (conStrip A) := mkD_own mono_strip
def StrpOk (w : Int) (a c e : List Row) : Prop := 1 ≤ w ∧ w ≤ 1000 ∧ SmallR a ∧ SmallR c ∧ SmallR e ∧ c ≠ [] ∧ ∀ r, r ∈ a ∨ r ∈ c ∨ r ∈ e → rowOk w r = true
def conSWide (A : Ad) : Con := fun es P _ => ∃ (w : Int) (a c e : List Row), es = [.imm (strpD A.C_Strip w a c e)] ∧ P (.int w) es
def conSAhead (A : Ad) : Con := fun es P _ => ∃ (w : Int) (a c e : List Row), es = [.imm (strpD A.C_Strip w a c e)] ∧ ∀ l, P (.own l (rowsD a)) es
def conSCycle (A : Ad) : Con := fun es P _ => ∃ (w : Int) (a c e : List Row), es = [.imm (strpD A.C_Strip w a c e)] ∧ ∀ l, P (.own l (rowsD c)) es
def conSEnd (A : Ad) : Con := fun es P _ => ∃ (w : Int) (a c e : List Row), es = [.imm (strpD A.C_Strip w a c e)] ∧ ∀ l, P (.own l (rowsD e)) es
def leastN (a e : List Row) : Int := max 1 ((a.length : Int) + e.length)
def conSLeast (A : Ad) : Con := fun es P _ => ∃ (w : Int) (a c e : List Row), es = [.imm (strpD A.C_Strip w a c e)] ∧ P (.int (leastN a e)) es
/-- the rows for a length -/
def midR (c : List Row) (m : Nat) : List Row := (List.range m).map fun k => c.getD (k % c.length) ([], [])
def lenRows (a c e : List Row) (n : Int) : List Row := a ++ midR c (n - a.length - e.length).toNat ++ e
def conSRows (A : Ad) : Con := fun es P PX => ∃ (w : Int) (a c e : List Row) (n : Int), es = [.imm (strpD A.C_Strip w a c e), .int n] ∧ SmallR a ∧ SmallR c ∧ SmallR e ∧ c ≠ [] ∧ (n < leastN a e → PX A.C_NoLength (.int n) es) ∧ (leastN a e ≤ n → n ≤ 1000 ∧ ∀ l, P (.own l (rowsD (lenRows a c e n))) es)
section
variable {P : Program} {w : World} {K : PySem.W.Frag} {mg : Str → Option Value} {base : Heap} {A : Ad}
theorem okd_Strip___init__ (T : Txt K mg A) : FnOk P w K mg base (L2.CX P w) (4 + 1) A.f_Strip___init__ A.d_Strip___init__ P_Strip___init__ (spD K (conInit A.C_Strip (conStrip A))) := by
  have G_SandError___init__ := okd_SandError___init__ (P := P) (w := w) (base := base) T
  have G_check_rows := okd_check_rows (P := P) (w := w) (base := base) T
  refine okD_fn T.F_Strip___init__ sc_Strip___init__ (fun es P PX h => ?_) (fun cdv A' outer s H I E es R PX hr fo hc => ?_)
  · obtain ⟨a0, _, rfl, wd, ra, rc, re, rfl, _⟩ := h
    rfl
  obtain ⟨a0, _, rfl, wd, ra, rc, re, rfl , sa, sc, se, q1, q2⟩ := hc
  have hu := hu_of hr
  refine ⟨_, (dss_cons (ds_if (dt_cmp dor_lt (dv 1) de_int (nomark _))
(dss_one (ds_raise rfl (takes_of rfl rfl rfl rfl) fo T.X_InvalidSize T.i_InvalidSize T.ti_init T.no_InvalidSize G_SandError___init__ (hr.mono (by first | decide | omega)) T.b_SandError___init__ rfl T.g_InvalidSize (dv 1)))
dss_nil)
(dss_cons (ds_expr (de_call G_check_rows (hr.mono (by first | decide | omega)) rfl T.g_check_rows T.k_check_rows T.b_check_rows (takes_of rfl rfl rfl rfl) fo (dg_v (dv 1) (dg_v (dv 2) dg_nil))))
(dss_cons (ds_expr (de_call G_check_rows (hr.mono (by first | decide | omega)) rfl T.g_check_rows T.k_check_rows T.b_check_rows (takes_of rfl rfl rfl rfl) fo (dg_v (dv 1) (dg_v (dv 3) dg_nil))))
(dss_cons (ds_expr (de_call G_check_rows (hr.mono (by first | decide | omega)) rfl T.g_check_rows T.k_check_rows T.b_check_rows (takes_of rfl rfl rfl rfl) fo (dg_v (dv 1) (dg_v (dv 4) dg_nil))))
(dss_cons (ds_if (dt_cmp (dor_eq hr.units) (de_blt dcr_len (by rfl) T.n_len (by decide +kernel) (da_cons (dv 3) da_nil)) de_int (nomark _))
(dss_one (ds_raise rfl (takes_of rfl rfl rfl rfl) fo T.X_InvalidRow T.i_InvalidRow T.ti_init T.no_InvalidRow G_SandError___init__ (hr.mono (by first | decide | omega)) T.b_SandError___init__ rfl T.g_InvalidRow (de_tup da_nil)))
dss_nil)
(dss_cons (ds_fset (pv 0) T.cl_Strip T.na_Strip_wide (dv 1))
(dss_cons (ds_fset (pv 0) T.cl_Strip T.na_Strip_first_rows (de_typ dcr_list (by rfl) T.n_list (by decide +kernel) (da_cons (dv 2) da_nil)))
(dss_cons (ds_fset (pv 0) T.cl_Strip T.na_Strip_round_rows (de_typ dcr_list (by rfl) T.n_list (by decide +kernel) (da_cons (dv 3) da_nil)))
(dss_one (ds_fset (pv 0) T.cl_Strip T.na_Strip_last_rows (de_typ dcr_list (by rfl) T.n_list (by decide +kernel) (da_cons (dv 4) da_nil)))))))))))), ?_⟩
  walk_at "dy"
  have nf : ∀ {l : List Row}, (∀ r ∈ l, rowOk wd r = true) → badRow wd l = none := fun h => by
    unfold badRow
    rw [List.find?_eq_none]
    intro r hr z
    rw [h r hr] at z
    cases z
  walk_at "dx"
  · exact q1 (by omega) _
  obtain ⟨q3, q4⟩ := q2 (by omega)
  refine ⟨wd, ra, rfl, sa, fun ha => ?_, fun r hr => ?_⟩
  · walk_at "dx"
    refine ⟨wd, rc, rfl, sc, fun hc => ?_, fun r hr => ?_⟩
    · walk_at "dx"
      refine ⟨wd, re, rfl, se, fun he => ?_, fun r hr => ?_⟩
      · have bn : badRow wd (ra ++ rc ++ re) = none := by
          unfold badRow
          rw [List.find?_append, List.find?_append, show ra.find? (fun r => !rowOk wd r) = none from nf ha, show rc.find? (fun r => !rowOk wd r) = none from nf hc, show re.find? (fun r => !rowOk wd r) = none from nf he]
          rfl
        obtain ⟨q5, q6⟩ := q4 bn
        have lc : rc.length ≤ 1000 := sc.1
        walk_at "dx"
        · rename_i c
          refine q5 (List.eq_nil_of_length_eq_zero ?_) _
          rw [List.length_map] at c
          omega
        · have cc : ¬ (((rc.map rowD).length : Nat) : Int) = 0 := by assumption
          obtain ⟨fs, efs, hr⟩ := q6 fun z => cc (by rw [z]; rfl)
          cases efs
          exact hr
      · walk_at "dx"
        refine q3 r ?_ _
        unfold badRow
        rw [List.find?_append, List.find?_append, show ra.find? (fun r => !rowOk wd r) = none from nf ha, show rc.find? (fun r => !rowOk wd r) = none from nf hc, hr]
        rfl
    · walk_at "dx"
      refine q3 r ?_ _
      unfold badRow
      rw [List.find?_append, List.find?_append, show ra.find? (fun r => !rowOk wd r) = none from nf ha, hr]
      rfl
  · walk_at "dx"
    refine q3 r ?_ _
    unfold badRow
    rw [List.find?_append, List.find?_append, hr]
    rfl
theorem okd_Strip_width (T : Txt K mg A) : FnOk P w K mg base (L2.CX P w) (0 + 1) A.f_Strip_width A.d_Strip_width P_Strip_width (spD K (conSWide A)) := by
  refine okD_fn T.F_Strip_width sc_Strip_width (fun es P PX h => ?_) (fun cdv A' outer s H I E es R PX hr fo hc => ?_)
  · obtain ⟨w, a, c, e, rfl, _⟩ := h
    rfl
  obtain ⟨w, a, c, e, rfl, hP⟩ := hc
  have hu := hu_of hr
  refine ⟨_, (dss_one (ds_ret (de_fld (dv 0) T.cl_Strip T.na_Strip_wide))), ?_⟩
  walk_at "dy"
  unfold strpD at *
  walk_at "dx"
  exact hP
theorem okd_Strip_ahead (T : Txt K mg A) : FnOk P w K mg base (L2.CX P w) (0 + 1) A.f_Strip_ahead A.d_Strip_ahead P_Strip_ahead (spD K (conSAhead A)) := by
  refine okD_fn T.F_Strip_ahead sc_Strip_ahead (fun es P PX h => ?_) (fun cdv A' outer s H I E es R PX hr fo hc => ?_)
  · obtain ⟨w, a, c, e, rfl, _⟩ := h
    rfl
  obtain ⟨w, a, c, e, rfl, hP⟩ := hc
  have hu := hu_of hr
  refine ⟨_, (dss_one (ds_ret (de_typ dcr_list (by rfl) T.n_list (by decide +kernel) (da_cons (de_fld (dv 0) T.cl_Strip T.na_Strip_first_rows) da_nil)))), ?_⟩
  walk_at "dy"
  unfold strpD at *
  walk_at "dx"
  exact hP _
theorem okd_Strip_cycle (T : Txt K mg A) : FnOk P w K mg base (L2.CX P w) (0 + 1) A.f_Strip_cycle A.d_Strip_cycle P_Strip_cycle (spD K (conSCycle A)) := by
  refine okD_fn T.F_Strip_cycle sc_Strip_cycle (fun es P PX h => ?_) (fun cdv A' outer s H I E es R PX hr fo hc => ?_)
  · obtain ⟨w, a, c, e, rfl, _⟩ := h
    rfl
  obtain ⟨w, a, c, e, rfl, hP⟩ := hc
  have hu := hu_of hr
  refine ⟨_, (dss_one (ds_ret (de_typ dcr_list (by rfl) T.n_list (by decide +kernel) (da_cons (de_fld (dv 0) T.cl_Strip T.na_Strip_round_rows) da_nil)))), ?_⟩
  walk_at "dy"
  unfold strpD at *
  walk_at "dx"
  exact hP _
theorem okd_Strip_end (T : Txt K mg A) : FnOk P w K mg base (L2.CX P w) (0 + 1) A.f_Strip_end A.d_Strip_end P_Strip_end (spD K (conSEnd A)) := by
  refine okD_fn T.F_Strip_end sc_Strip_end (fun es P PX h => ?_) (fun cdv A' outer s H I E es R PX hr fo hc => ?_)
  · obtain ⟨w, a, c, e, rfl, _⟩ := h
    rfl
  obtain ⟨w, a, c, e, rfl, hP⟩ := hc
  have hu := hu_of hr
  refine ⟨_, (dss_one (ds_ret (de_typ dcr_list (by rfl) T.n_list (by decide +kernel) (da_cons (de_fld (dv 0) T.cl_Strip T.na_Strip_last_rows) da_nil)))), ?_⟩
  walk_at "dy"
  unfold strpD at *
  walk_at "dx"
  exact hP _
theorem okd_Strip_least (T : Txt K mg A) : FnOk P w K mg base (L2.CX P w) (0 + 1) A.f_Strip_least A.d_Strip_least P_Strip_least (spD K (conSLeast A)) := by
  refine okD_fn T.F_Strip_least sc_Strip_least (fun es P PX h => ?_) (fun cdv A' outer s H I E es R PX hr fo hc => ?_)
  · obtain ⟨w, a, c, e, rfl, _⟩ := h
    rfl
  obtain ⟨w, a, c, e, rfl, hP⟩ := hc
  have hu := hu_of hr
  refine ⟨_, (dss_one (ds_ret (de_blt (dcr_max rfl) (by rfl) T.n_max (by decide +kernel) (da_cons de_int (da_cons (de_op dor_add (de_blt dcr_len (by rfl) T.n_len (by decide +kernel) (da_cons (de_fld (dv 0) T.cl_Strip T.na_Strip_first_rows) da_nil)) (de_blt dcr_len (by rfl) T.n_len (by decide +kernel) (da_cons (de_fld (dv 0) T.cl_Strip T.na_Strip_last_rows) da_nil))) da_nil))))), ?_⟩
  walk_at "dy"
  unfold strpD at *
  walk_at "dx"
  rw [show (if ((a.map rowD).length : Int) + ((e.map rowD).length : Int) > 1 then ((a.map rowD).length : Int) + ((e.map rowD).length : Int) else 1) = leastN a e by unfold leastN; simp only [List.length_map]; split <;> omega]
  exact hP
theorem okd_Strip_rows (T : Txt K mg A) : FnOk P w K mg base (L2.CX P w) (2 + 1) A.f_Strip_rows A.d_Strip_rows P_Strip_rows (spD K (conSRows A)) := by
  have G_Strip_least := okd_Strip_least (P := P) (w := w) (base := base) T
  have G_SandError___init__ := okd_SandError___init__ (P := P) (w := w) (base := base) T
  refine okD_fn T.F_Strip_rows sc_Strip_rows (fun es P PX h => ?_) (fun cdv A' outer s H I E es R PX hr fo hc => ?_)
  · obtain ⟨w, ra, rc, re, n, rfl, _⟩ := h
    rfl
  obtain ⟨w, ra, rc, re, n, rfl, sa, sc, se, ne, hX, hP⟩ := hc
  have hu := hu_of hr
  refine ⟨_, (dss_cons (ds_if (dt_cmp dor_lt (dv 1) (de_prop (dv 0) T.cl_Strip T.pr_Strip_least G_Strip_least (hr.mono (by first | decide | omega)) T.b_Strip_least) (nomark _))
(dss_one (ds_raise rfl (takes_of rfl rfl rfl rfl) fo T.X_NoLength T.i_NoLength T.ti_init T.no_NoLength G_SandError___init__ (hr.mono (by first | decide | omega)) T.b_SandError___init__ rfl T.g_NoLength (dv 1)))
dss_nil)
(dss_cons (ds_set (i := 2) sc_Strip_rows.nd rfl (Or.inl rfl) (de_typ dcr_list (by rfl) T.n_list (by decide +kernel) (da_cons (de_fld (dv 0) T.cl_Strip T.na_Strip_first_rows) da_nil)))
(dss_cons (ds_for (passes_of rfl) rfl (di_rng1 (by rfl) T.n_range (da_cons (de_op dor_sub (de_op dor_sub (dv 1) (de_blt dcr_len (by rfl) T.n_len (by decide +kernel) (da_cons (de_fld (dv 0) T.cl_Strip T.na_Strip_first_rows) da_nil))) (de_blt dcr_len (by rfl) T.n_len (by decide +kernel) (da_cons (de_fld (dv 0) T.cl_Strip T.na_Strip_last_rows) da_nil))) da_nil)) (dg_name (i := 3) sc_Strip_rows.nd rfl (Or.inl rfl))
(dss_one (ds_expr (de_mut PySem.F.slot_list_append PySem.F.type_list_append mt_append dm_append (pv 2) (da_cons (de_ix dix (de_fld (dv 0) T.cl_Strip T.na_Strip_round_rows) (de_op dor_mod (dv 3) (de_blt dcr_len (by rfl) T.n_len (by decide +kernel) (da_cons (de_fld (dv 0) T.cl_Strip T.na_Strip_round_rows) da_nil)))) da_nil)))))
(dss_one (ds_ret (de_op dor_add (dv 2) (de_fld (dv 0) T.cl_Strip T.na_Strip_last_rows))))))), ?_⟩
  walk_at "dy"
  have la := sa.1
  have lc := sc.1
  have le := se.1
  have c0 : 0 < rc.length := List.length_pos_iff.mpr ne
  unfold strpD at *
  walk_at "dx"
  refine ⟨w, ra, rc, re, rfl, ?_⟩
  walk_at "dx"
  · exact hX (by assumption)
  · obtain ⟨n1, hP⟩ := hP (by omega)
    have ln : (ra.length : Int) + re.length ≤ n := by
      unfold leastN at *
      omega
    refine ⟨_, rfl, by simp only [List.length_map]; omega, by simp only [List.length_map]; omega, ?_⟩
    refine ⟨fun k s => ∃ (aT : Addr) (v3 : Option Ent), s = [some (.imm (.obj A.C_Strip [("wide", .int w), ("first_rows", rowsD ra), ("round_rows", rowsD rc), ("last_rows", rowsD re)])), some (.imm (.int n)), some (.own aT (.lst ((ra ++ midR rc k).map rowD))), v3], ⟨_, _, by rw [show ra ++ midR rc 0 = ra by simp [midR]]; rfl⟩, ?_, ?_⟩
    · rintro k z s hz ⟨aT, v3, rfl⟩
      obtain ⟨hk, rfl⟩ := rng_get hz
      rw [Int.zero_add]
      have ml : (midR rc k).length = k := by unfold midR; rw [List.length_map, List.length_range]
      have kl : k < 1000 := by simp only [List.length_map] at hk; omega
      have hm : k % rc.length < rc.length := Nat.mod_lt _ c0
      have x1 : ixN (rc.map rowD).length ((k : Int) % ((rc.map rowD).length : Int)) = some (k % rc.length) := by
        rw [List.length_map, show (k : Int) % (rc.length : Int) = ((k % rc.length : Nat) : Int) from rfl]
        exact ixS_k hm
      have x2 : (rc.map rowD)[k % rc.length]? = some (rowD (rc.getD (k % rc.length) ([], []))) := by
        rw [List.getElem?_map, List.getD_eq_getElem?_getD, List.getElem?_eq_getElem hm]; rfl
      have lp : 0 < (rc.map rowD).length := by rw [List.length_map]; exact c0
      have lp2 : (rc.map rowD).length ≤ 1000 := by rw [List.length_map]; exact lc
      walk_at "dx"
      refine m_app (by rw [List.length_map, List.length_append, ml]; omega) ?_
      have E : (ra ++ midR rc (k + 1)).map rowD = (ra ++ midR rc k).map rowD ++ [rowD (rc.getD (k % rc.length) ([], []))] := by
        rw [show midR rc (k + 1) = midR rc k ++ [rc.getD (k % rc.length) ([], [])] by unfold midR; rw [List.range_succ, List.map_append]; rfl, ← List.append_assoc, List.map_append (l₁ := ra ++ midR rc k)]
        rfl
      dsimp only
      rw [E]
      exact ⟨_, _, rfl⟩
    · rintro s ⟨aT, v3, rfl⟩
      rw [rngD_len, show (n - ((ra.map rowD).length : Int) - ((re.map rowD).length : Int)).toNat = (n - ra.length - re.length).toNat by rw [List.length_map, List.length_map]]
      have ml : (midR rc (n - ra.length - re.length).toNat).length = (n - ra.length - re.length).toNat := by unfold midR; rw [List.length_map, List.length_range]
      walk_at "dx"
      refine o_addL (Nat.le_trans (m := 10000) (by rw [List.length_map, List.length_map, List.length_append, ml]; omega) (by decide)) fun a2 => ?_
      rw [← List.map_append]
      walk_at "dx"
      exact hP _
end

end

section
local macro_rules | `(tactic| walk_at "al") => `(tactic| first
  | omega
  | exact Or.inl (Or.inl ⟨by omega, by omega⟩)
  | exact Or.inl (Or.inr ⟨by omega, by omega⟩)
  | exact ⟨by omega, Or.inl (by omega)⟩
  | exact ⟨by omega, by omega, by omega, by omega⟩
  | exact ⟨by decide, by decide, by decide⟩)
local macro_rules | `(tactic| walk_at "bk") => `(tactic| repeat (first | exact BackE.nil | apply BackE.imm | apply BackE.own | apply BackE.hand))
local macro_rules | `(tactic| walk_at "ds1") => `(tactic| first
  | with_reducible refine s_aC ?_
  | ((with_reducible refine' s_vi ?ee_ ?_); (case ee_ => rfl))
  | ((with_reducible refine' s_vs ?ee_ ?_); (case ee_ => rfl))
  | with_reducible refine s_c ?_
  | ((with_reducible refine' x_val2 ?ee_ ?ff_ ?_); (case ee_ => rfl); (case ff_ => rfl))
  | with_reducible refine s_op ?_
  | with_reducible refine s_aN ?_
  | ((with_reducible refine' x_frzs ?ee_ ?ll_ ?_); (case ee_ => rfl); (case ll_ => rfl))
  | with_reducible refine s_seq ?_
  | ((with_reducible refine' x_frz ?ee_ ?_); (case ee_ => rfl))
  | with_reducible refine s_tup ?_
  | with_reducible refine s_gaV ?_
  | ((with_reducible refine' x_bl ?ee_ ?_); (case ee_ => rfl))
  | ((with_reducible refine' s_end ?ee_ ?bb_ ?_); (case ee_ => rfl); (case bb_ => walk_at "bk"))
  | with_reducible refine s_ret ?_
  | with_reducible refine s_test ?_
  | ((with_reducible refine' x_vals ?ee_ ?_); (case ee_ => rfl))
  | with_reducible refine s_cl ?_
  | ((with_reducible refine' x_asg ?ee_ ?_); (case ee_ => rfl))
  | with_reducible refine o_subI ?_
  | with_reducible refine s_set ?_
  | with_reducible refine s_gaN ?_
  | with_reducible refine s_lst ?_
  | with_reducible refine s_next ?_
  | with_reducible refine s_call ?_
  | ((with_reducible refine' x_con ?ee_ ?ff_ ?_); (case ee_ => rfl); (case ff_ => rfl))
  | with_reducible refine s_if ?_
  | ((with_reducible refine' s_gN ?ee_ ?_); (case ee_ => rfl))
  | ((with_reducible refine' x_back ?ll_ ?ee_ ?_); (case ll_ => rfl); (case ee_ => rfl))
  | ((with_reducible refine' x_back1 ?ee_ ?_); (case ee_ => rfl))
  | with_reducible refine o_addI ?_
  | ((with_reducible refine' o_mulI ?cc_ ?_); (case cc_ => walk_at "al"))
  | with_reducible refine s_for ?_
  | ((with_reducible refine' x_val ?ee_ ?_); (case ee_ => rfl))
  | with_reducible refine s_gCn ?_
  | with_reducible refine iteT ?_
  | with_reducible refine iteF ?_
  | with_reducible refine r_iteNf ?_
  | with_reducible refine r_iteNt ?_
  | with_reducible refine s_not ?_
  | with_reducible refine s_drop ?_
  | ((with_reducible refine' o_modI ?cc_ ?_); (case cc_ => walk_at "al"))
  | with_reducible refine s_or ?_
  | ((with_reducible refine' o_ixT ?ee_ ?ff_ ?_); (case ee_ => first | rfl | assumption); (case ff_ => first | rfl | assumption))
  | ((with_reducible refine' ixI ?aa_ ?bb_ ?_); (case aa_ => omega); (case bb_ => omega))
  | ((with_reducible refine' o_ixL ?ee_ ?ff_ ?_); (case ee_ => first | rfl | assumption); (case ff_ => first | rfl | assumption))
  | with_reducible refine o_ixH ?_
  | ((with_reducible refine' x_int ?ee_ ?_); (case ee_ => rfl))
  | with_reducible refine s_pN ?_
  | with_reducible refine s_pS ?_
  | with_reducible refine s_sl ?_
  | ((with_reducible refine' s_gaR ?ee_ ?_); (case ee_ => rfl))
  | with_reducible refine s_rng1 ?_
  | with_reducible refine o_eqI ?_
  | with_reducible refine o_eqS ?_
  | with_reducible refine o_eqP ?_
  | with_reducible refine o_eqB ?_
  | ((with_reducible refine' o_eqIs ?aa_ ?bb_ ?_); (case aa_ => first | omega | (simp only [List.length_map, List.length_range, List.length_replicate]; omega)); (case bb_ => first | omega | (simp only [List.length_map, List.length_range, List.length_replicate]; omega)))
  | ((with_reducible refine' s_callD ?ee_ ?ff_ ?_); (case ee_ => rfl); (case ff_ => rfl))
  | ((with_reducible refine' x_rng1 ?ee_ ?aa_ ?bb_ ?_); (case ee_ => rfl); (case aa_ => omega); (case bb_ => omega))
  | ((with_reducible refine' s_mut ?ee_ ?_); (case ee_ => rfl))
  | ((with_reducible refine' x_mut ?ee_ ?ff_ ?_); (case ee_ => rfl); (case ff_ => rfl))
  | with_reducible refine o_max ?_
  | with_reducible refine s_un ?_
  | with_reducible refine s_gNl ?_
  | ((with_reducible refine' x_frzO ?ee_ ?_); (case ee_ => rfl))
  | with_reducible refine o_ltI ?_
  | with_reducible refine s_wSeq ?_
  | ((with_reducible refine' x_items ?ee_ ?ff_ ?_); (case ee_ => rfl); (case ff_ => rfl))
  | ((with_reducible refine' s_lookT ?ee_ ?_); (case ee_ => rfl))
  | with_reducible refine s_asg ?_
  | ((with_reducible refine' s_gT ?ee_ ?_); (case ee_ => rfl))
  | with_reducible refine o_int ?_
  | ((with_reducible refine' o_inT ?ee_ ?_); (case ee_ => rfl))
  | ((with_reducible refine' o_inF ?ee_ ?_); (case ee_ => rfl))
  | with_reducible refine o_intB ?_
  | with_reducible refine s_andV ?_
  | with_reducible refine s_prop ?_
  | ((with_reducible refine' s_xis ?ee_ ?ff_ ?_); (case ee_ => rfl); (case ff_ => assumption))
  | ((with_reducible refine' x_xis ?ee_ ?ff_ ?_); (case ee_ => rfl); (case ff_ => assumption))
  | ((with_reducible refine' x_xisT2 ?ee_ ?ff_ ?gg_ ?hh_ ?_); (case ee_ => rfl); (case ff_ => rfl); (case gg_ => assumption); (case hh_ => assumption))
  | ((with_reducible refine' s_xisT ?ee_ ?ff_ ?_); (case ee_ => rfl); (case ff_ => assumption))
  | with_reducible refine o_lenI ?_
  | with_reducible refine o_lenL ?_
  | with_reducible refine o_lenT ?_
  | with_reducible refine o_lenF ?_
  | with_reducible refine o_lenD ?_
  | ((with_reducible refine' x_pxT ?ee_ ?_); (case ee_ => assumption))
  | ((with_reducible refine' x_px ?bb_ ?_); (case bb_ => walk_at "bk"))
  | ((with_reducible refine' o_powI ?cc_ ?_); (case cc_ => walk_at "al"))
  | ((with_reducible refine' o_fld ?ee_ ?_); (case ee_ => rfl))
  | with_reducible refine s_parE ?_
  | ((with_reducible refine' x_parE ?ee_ ?ff_ ?_); (case ee_ => rfl); (case ff_ => rfl))
  | with_reducible refine o_slF ?_
  | with_reducible refine o_slL ?_
  | with_reducible refine o_slT ?_
  | with_reducible refine s_dnT ?_
  | with_reducible refine s_rng2 ?_
  | ((with_reducible refine' x_rng2 ?ee_ ?aa_ ?_); (case ee_ => rfl); (case aa_ => exact ⟨by omega, by omega, by omega, by omega⟩))
  | ((with_reducible refine' o_divI ?cc_ ?_); (case cc_ => walk_at "al"))
  | with_reducible refine o_andI ?_
  | with_reducible refine o_min ?_
  | with_reducible refine s_chain ?_
  | with_reducible refine x_ib ?_
  | with_reducible refine s_dget ?_
  | with_reducible refine s_raise ?_
  | with_reducible refine s_lc ?_
  | ((with_reducible refine' x_clear ?ee_ ?_); (case ee_ => rfl))
  | with_reducible refine o_neI ?_
  | with_reducible refine o_neS ?_
  | with_reducible refine o_neP ?_
  | with_reducible refine o_neC ?_
  | with_reducible refine o_neg ?_
  | ((with_reducible refine' o_neIs ?aa_ ?bb_ ?_); (case aa_ => first | omega | (simp only [List.length_map, List.length_range, List.length_replicate]; omega)); (case bb_ => first | omega | (simp only [List.length_map, List.length_range, List.length_replicate]; omega)))
  | with_reducible refine o_gtI ?_
  | with_reducible refine s_and ?_
  | with_reducible refine s_fz ?_
  | ((with_reducible refine' x_noa ?ee_ ?_); (case ee_ => rfl))
  | ((with_reducible refine' s_dapp ?ee_ ?ff_ ?gg_ ?_); (case ee_ => rfl); (case ff_ => rfl); (case gg_ => rfl))
  | with_reducible refine s_meth ?_
  | with_reducible refine s_rev ?_
  | with_reducible refine s_two ?_
  | with_reducible refine s_join ?_
  | ((with_reducible refine' o_lenX ?ee_ ?_); (case ee_ => assumption))
  | ((with_reducible refine' o_addX ?ee_ ?ff_ ?_); (case ee_ => assumption); (case ff_ => assumption))
  | ((with_reducible refine' o_sliceX ?ee_ ?_); (case ee_ => assumption))
  | ((with_reducible refine' o_ixT' ?ee_ ?ff_ ?gg_ ?_); (case ee_ => assumption); (case ff_ => assumption); (case gg_ => assumption))
  | ((with_reducible refine' x_rev ?ee_ ?ff_ ?_); (case ee_ => rfl); (case ff_ => rfl))
  | ((with_reducible refine' x_isstr ?ee_ ?_); (case ee_ => rfl))
  | ((with_reducible refine' x_two ?ee_ ?ff_ ?_); (case ee_ => rfl); (case ff_ => rfl))
  | with_reducible refine s_dnin ?_
  | with_reducible refine s_setIx ?_
  | ((with_reducible refine' s_gL ?ee_ ?_); (case ee_ => rfl))
  | ((with_reducible refine' s_forW ?ee_ ?ff_ ?_); (case ee_ => rfl); (case ff_ => first | assumption | exact hasD_imm | exact hasD_own))
  | with_reducible refine o_list ?_
  | with_reducible refine o_listT ?_
  | ((with_reducible refine' x_isT ?ee_ ?_); (case ee_ => rfl))
  | ((with_reducible refine' x_isK ?ee_ ?_); (case ee_ => rfl))
  | with_reducible refine o_leI ?_
  | with_reducible refine s_notV ?_
  | with_reducible refine s_ifV ?_
  | with_reducible refine s_callT ?_
  | with_reducible refine s_callB ?_
  | ((with_reducible refine' x_lent ?ee_ ?_); (case ee_ => rfl))
  | with_reducible refine s_minL ?_
  | with_reducible refine s_fnK ?_
  | with_reducible refine s_fnM ?_
  | ((with_reducible refine' x_fnM ?ee_ ?ff_ ?gg_ ?_); (case ee_ => rfl); (case ff_ => rfl); (case gg_ => rfl))
  | with_reducible refine s_par3E ?_
  | ((with_reducible refine' x_par3E ?ee_ ?ff_ ?gg_ ?_); (case ee_ => rfl); (case ff_ => rfl); (case gg_ => rfl))
  | with_reducible refine s_dol ?_
  | with_reducible refine s_ud ?_
  | with_reducible refine x_callT ?_
  | ((with_reducible refine' x_frzsK ?ee_ ?ll_ ?_); (case ee_ => rfl); (case ll_ => rfl))
  | with_reducible refine s_make ?_
  | with_reducible refine s_dget1 ?_
  | with_reducible refine s_dget2 ?_
  | ((with_reducible refine' x_get2 ?ee_ ?ff_ ?gg_ ?_); (case ee_ => rfl); (case ff_ => rfl); (case gg_ => rfl))
  | with_reducible refine s_brk ?_
  | with_reducible refine s_zip ?_
  | ((with_reducible refine' x_zip ?ee_ ?_); (case ee_ => rfl))
  | with_reducible refine s_tryG ?_
  | ((with_reducible refine' s_xv ?ee_ ?ff_ ?gg_ ?_); (case ee_ => rfl); (case ff_ => assumption); (case gg_ => assumption))
  | with_reducible refine s_yes ?_
  | with_reducible refine isi_bl_bool ?_
  | with_reducible refine isi_bl_int ?_
  | with_reducible refine isi_bl_str ?_
  | with_reducible refine isi_bl_list ?_
  | with_reducible refine isi_bl_tuple ?_
  | with_reducible refine isi_int_bool ?_
  | with_reducible refine isi_int_int ?_
  | with_reducible refine isi_int_str ?_
  | with_reducible refine isi_int_list ?_
  | with_reducible refine isi_int_tuple ?_
  | with_reducible refine isi_str_bool ?_
  | with_reducible refine isi_str_int ?_
  | with_reducible refine isi_str_str ?_
  | with_reducible refine isi_str_list ?_
  | with_reducible refine isi_str_tuple ?_
  | with_reducible refine isi_lst_bool ?_
  | with_reducible refine isi_lst_int ?_
  | with_reducible refine isi_lst_str ?_
  | with_reducible refine isi_lst_list ?_
  | with_reducible refine isi_lst_tuple ?_
  | with_reducible refine isi_tup_bool ?_
  | with_reducible refine isi_tup_int ?_
  | with_reducible refine isi_tup_str ?_
  | with_reducible refine isi_tup_list ?_
  | with_reducible refine isi_tup_tuple ?_
  | with_reducible refine isi_non_bool ?_
  | with_reducible refine isi_non_int ?_
  | with_reducible refine isi_non_str ?_
  | with_reducible refine isi_non_list ?_
  | with_reducible refine isi_non_tuple ?_
  | with_reducible refine o_isN_non ?_
  | with_reducible refine o_isN_bl ?_
  | with_reducible refine o_isN_int ?_
  | with_reducible refine o_isN_str ?_
  | with_reducible refine o_isN_lst ?_
  | with_reducible refine o_isN_tup ?_
  | with_reducible refine o_isN_obj ?_
  | with_reducible refine o_isN' ?_
  | with_reducible refine o_isB' ?_
  | with_reducible refine o_isNB ?_
  | ((with_reducible refine' x_frz2 ?ee_ ?ff_ ?_); (case ee_ => rfl); (case ff_ => rfl))
  | with_reducible refine o_geI ?_
  | with_reducible refine o_notN_non ?_
  | with_reducible refine o_notN_bl ?_
  | with_reducible refine o_notN_int ?_
  | with_reducible refine o_notN_str ?_
  | with_reducible refine o_notN_lst ?_
  | with_reducible refine o_notN_tup ?_
  | with_reducible refine o_notN_obj ?_
  | with_reducible refine o_notN' ?_
  | with_reducible refine s_dnK ?_
  | with_reducible refine o_abs ?_
  | ((with_reducible refine' o_ninT ?ee_ ?_); (case ee_ => rfl))
  | ((with_reducible refine' o_ninF ?ee_ ?_); (case ee_ => rfl))
  | with_reducible refine s_orV ?_
  | with_reducible refine s_sameL ?_
  | with_reducible refine s_fg ?_
  | ((with_reducible refine' x_lenN ?ee_ ?ff_ ?_); (case ee_ => omega); (case ff_ => omega))
  | ((with_reducible refine' x_le1000 ?ee_ ?_); (case ee_ => rfl))
  | with_reducible refine s_meth0 ?_
  | with_reducible refine s_methK ?_
  | with_reducible refine s_makeK ?_
  | with_reducible refine s_own2 ?_
  | with_reducible refine s_eqX ?_
  | with_reducible refine s_neX ?_
  | with_reducible refine x_nb ?_
  | with_reducible refine s_lenO ?_
  | ((with_reducible refine' s_mut0 ?ee_ ?_); (case ee_ => rfl))
  | with_reducible refine m_clr ?_
  | with_reducible refine m_rev ?_
  | with_reducible refine s_din ?_
  | ((with_reducible refine' s_lookK ?ee_ ?_); (case ee_ => rfl))
  | with_reducible refine s_retN ?_
  | with_reducible refine s_cnt ?_
  | with_reducible refine s_enum ?_
  | with_reducible refine s_enumS ?_
  | with_reducible refine s_rng3 ?_
  | ((with_reducible refine' x_enumS ?ee_ ?_); (case ee_ => rfl))
  | ((with_reducible refine' x_enum ?ee_ ?_); (case ee_ => rfl))
  | with_reducible refine s_lcG ?_
  | ((with_reducible refine' s_lcV ?ee_ ?ff_ ?_); (case ee_ => rfl); (case ff_ => rfl))
  | ((with_reducible refine' s_forV ?ee_ ?_); (case ee_ => rfl))
  | ((with_reducible refine' o_rep1 ?aa_ ?_); (case aa_ => exact ⟨by omega, by omega⟩))
  | with_reducible refine s_par ?_
  | ((with_reducible refine' x_par ?ee_ ?ff_ ?gg_ ?_); (case ee_ => rfl); (case ff_ => rfl); (case gg_ => rfl))
  | with_reducible refine s_rng1L ?_
  | ((with_reducible refine' x_rng1L ?ee_ ?_); (case ee_ => rfl))
  | with_reducible refine s_rng2L ?_
  | ((with_reducible refine' x_rng2L ?ee_ ?_); (case ee_ => rfl))
  | with_reducible refine s_fset ?_
  | ((with_reducible refine' x_fset ?ee_ ?ff_ ?gg_ ?_); (case ee_ => rfl); (case ff_ => rfl); (case gg_ => rfl))
  | with_reducible refine x_got rfl ?_
  | with_reducible refine x_in0 ?_
  | with_reducible refine x_inS ?_
  | ((with_reducible refine' s_gVal ?ee_ ?_); (case ee_ => rfl))
  | ((with_reducible refine' s_gGen ?ee_ ?_); (case ee_ => rfl))
  | ((with_reducible refine' s_gTag ?ee_ ?_); (case ee_ => rfl))
  | ((with_reducible refine' s_endN ?bb_ ?_); (case bb_ => walk_at "bk"))
  | ((with_reducible refine' s_dpop ?ee_ ?_); (case ee_ => rfl))
  | with_reducible refine s_swap2 ?_
  | ((with_reducible refine' x_swap2 ?ee_ ?_); (case ee_ => rfl))
  | ((with_reducible refine' s_gS ?ee_ ?_); (case ee_ => rfl))
  | ((with_reducible refine' x_gS ?ee_ ?ff_ ?gg_ ?_); (case ee_ => rfl); (case ff_ => rfl); (case gg_ => first | assumption | rfl))
  | ((with_reducible refine' x_dpop ?ee_ ?ff_ ?gg_ ?_); (case ee_ => rfl); (case ff_ => rfl); (case gg_ => rfl)))
local macro_rules | `(tactic| walk_at "ds") => `(tactic| (repeat' (walk_at "ds1")))
set_option hygiene false in
local macro_rules | `(tactic| walk_at "dx") => `(tactic| (repeat' (first | walk_at "ds1" | with_reducible refine (fun (a : Addr) => ?_ : ∀ _ : Addr, _) | with_reducible refine ite_d (fun c => ?_) (fun c => ?_) | with_reducible refine ite_nd (fun c => ?_) (fun c => ?_) | with_reducible refine ite_nb (fun c => ?_) (fun c => ?_) | with_reducible refine ite_b (fun c => ?_) (fun c => ?_))))
set_option hygiene false in
local macro_rules | `(tactic| walk_at "dy") => `(tactic| (repeat' (first | walk_at "ds1" | with_reducible refine (fun (a : Addr) => ?_ : ∀ _ : Addr, _))))
/-! ### the mirrors of rows -/
/-- the mirrors of the first i points of a level -/
def lvK (left y : Int) (l : List Nat) (i : Nat) : List Mir := ((List.range i).filter fun k => decide (l.getD k 46 ≠ 46)).map fun (k : Nat) => (left + 2 * (k : Int), y, sg (l.getD k 46))
def lvl (left y : Int) (l : List Nat) : List Mir := lvK left y l l.length
theorem lvK_suc (left y : Int) (l : List Nat) (i : Nat) : lvK left y l (i + 1) = lvK left y l i ++ (if l.getD i 46 ≠ 46 then [(left + 2 * (i : Int), y, sg (l.getD i 46))] else []) := by
  unfold lvK
  rw [List.range_succ, List.filter_append, List.map_append]
  congr 1
  by_cases c : l.getD i 46 ≠ 46
  · rw [if_pos c, List.filter_cons_of_pos (by simpa using c)]; rfl
  · rw [if_neg c, List.filter_cons_of_neg (by simpa using c)]; rfl
theorem lvK_len (left y : Int) (l : List Nat) (i : Nat) : (lvK left y l i).length ≤ i := by
  unfold lvK
  rw [List.length_map]
  exact Nat.le_trans (List.length_filter_le ..) (by rw [List.length_range]; exact Nat.le_refl _)
theorem mem_lvl {left y : Int} {l : List Nat} {m : Mir} : m ∈ lvl left y l ↔ ∃ (k c : Nat), l[k]? = some c ∧ c ≠ 46 ∧ m = (left + 2 * (k : Int), y, sg c) := by
  unfold lvl lvK
  rw [List.mem_map]
  constructor
  · rintro ⟨k, hk, rfl⟩
    rw [List.mem_filter, List.mem_range] at hk
    have e : l[k]? = some (l.getD k 46) := by rw [List.getD_eq_getElem?_getD, List.getElem?_eq_getElem hk.1]; rfl
    exact ⟨k, _, e, of_decide_eq_true hk.2, rfl⟩
  · rintro ⟨k, c, hk, hc, rfl⟩
    have lt := (List.getElem?_eq_some_iff.mp hk).1
    have e : l.getD k 46 = c := by rw [List.getD_eq_getElem?_getD, hk]; rfl
    exact ⟨k, List.mem_filter.mpr ⟨List.mem_range.mpr lt, by rw [e]; exact decide_eq_true hc⟩, by rw [e]⟩
def rowM (n r : Nat) (q : Row) : List Mir := lvl 2 (2 * (r : Int) + 1) q.1 ++ (if r + 1 < n then lvl 1 (2 * (r : Int) + 2) q.2 else [])
/-- the mirrors of the first i rows of a board -/
def rmK (rs : List Row) (i : Nat) : List Mir := (List.range i).flatMap fun r => rowM rs.length r (rs.getD r ([], []))
def rowMs (rs : List Row) : List Mir := rmK rs rs.length
theorem rmK_suc {rs : List Row} {i : Nat} {q : Row} (h : rs[i]? = some q) : rmK rs (i + 1) = rmK rs i ++ rowM rs.length i q := by
  unfold rmK
  rw [List.range_succ, List.flatMap_append, List.flatMap_singleton, List.getD_eq_getElem?_getD, h]
  rfl
/-- a point with its sign, by rows -/
def AtRow (rs : List Row) (m : Mir) : Prop := ∃ (r k c : Nat) (q : Row), rs[r]? = some q ∧ c ≠ 46 ∧ m.2.2 = sg c ∧ ((q.1[k]? = some c ∧ m.1 = 2 + 2 * (k : Int) ∧ m.2.1 = 2 * (r : Int) + 1) ∨ (r + 1 < rs.length ∧ q.2[k]? = some c ∧ m.1 = 1 + 2 * (k : Int) ∧ m.2.1 = 2 * (r : Int) + 2))
theorem mem_rowMs {rs : List Row} {m : Mir} : m ∈ rowMs rs ↔ AtRow rs m := by
  unfold rowMs rmK AtRow
  rw [List.mem_flatMap]
  constructor
  · rintro ⟨r, hr, hm⟩
    rw [List.mem_range] at hr
    have e : rs[r]? = some (rs.getD r ([], [])) := by rw [List.getD_eq_getElem?_getD, List.getElem?_eq_getElem hr]; rfl
    unfold rowM at hm
    rcases List.mem_append.mp hm with h | h
    · obtain ⟨k, c, h1, h2, rfl⟩ := mem_lvl.mp h
      exact ⟨r, k, c, _, e, h2, rfl, .inl ⟨h1, rfl, rfl⟩⟩
    · split at h
      · rename_i c
        obtain ⟨k, c, h1, h2, rfl⟩ := mem_lvl.mp h
        exact ⟨r, k, c, _, e, h2, rfl, .inr ⟨by assumption, h1, rfl, rfl⟩⟩
      · simp at h
  · rintro ⟨r, k, c, q, hr, hc, hs, h⟩
    have lt := (List.getElem?_eq_some_iff.mp hr).1
    have e : rs.getD r ([], []) = q := by rw [List.getD_eq_getElem?_getD, hr]; rfl
    obtain ⟨x, y, s⟩ := m
    dsimp only at hs h
    refine ⟨r, List.mem_range.mpr lt, ?_⟩
    rw [e]
    unfold rowM
    rcases h with ⟨h1, h2, h3⟩ | ⟨h0, h1, h2, h3⟩
    · exact List.mem_append_left _ (mem_lvl.mpr ⟨k, c, h1, hc, by rw [h2, h3, hs]⟩)
    · rw [if_pos h0]
      exact List.mem_append_right _ (mem_lvl.mpr ⟨k, c, h1, hc, by rw [h2, h3, hs]⟩)
/-- the point of a mirror tells its sign -/
theorem atRow_one {rs : List Row} {m n : Mir} (hm : AtRow rs m) (hn : AtRow rs n) (e : mK m = mK n) : m = n := by
  obtain ⟨r, k, c, q, hr, hc, hs, h⟩ := hm
  obtain ⟨r2, k2, c2, q2, hr2, hc2, hs2, h2⟩ := hn
  obtain ⟨x, y, s⟩ := m
  obtain ⟨x2, y2, s2⟩ := n
  unfold mK at e
  simp only [Prod.mk.injEq] at e
  obtain ⟨rfl, rfl⟩ := e
  dsimp only at *
  rw [hs, hs2]
  rcases h with ⟨a, b, d⟩ | ⟨z, a, b, d⟩ <;> rcases h2 with ⟨a2, b2, d2⟩ | ⟨z2, a2, b2, d2⟩
  · obtain rfl : r = r2 := by omega
    obtain rfl : k = k2 := by omega
    rw [hr] at hr2
    cases hr2
    rw [a] at a2
    cases a2
    rfl
  · omega
  · omega
  · obtain rfl : r = r2 := by omega
    obtain rfl : k = k2 := by omega
    rw [hr] at hr2
    cases hr2
    rw [a] at a2
    cases a2
    rfl
theorem rowMs_nd (rs : List Row) : ((rowMs rs).map mK).Nodup := by
  unfold rowMs rmK
  rw [List.map_flatMap]
  unfold List.Nodup
  rw [List.pairwise_flatMap]
  have lv : ∀ (left y : Int) (l : List Nat), ((lvl left y l).map mK).Pairwise (· ≠ ·) := fun left y l => by
    unfold lvl lvK
    rw [List.map_map, List.pairwise_map]
    refine (List.pairwise_lt_range.filter _).imp fun {a b} h e => ?_
    have := congrArg Prod.fst e
    simp [mK] at this
    omega
  have yof : ∀ {left y : Int} {l : List Nat} {p : Int × Int}, p ∈ (lvl left y l).map mK → p.2 = y := fun h => by
    obtain ⟨m, hm, rfl⟩ := List.mem_map.mp h
    obtain ⟨k, c, _, _, rfl⟩ := mem_lvl.mp hm
    rfl
  refine ⟨fun r _ => ?_, List.pairwise_lt_range.imp fun {a b} hab p hp q hq e => ?_⟩
  · unfold rowM
    rw [List.map_append, List.pairwise_append]
    refine ⟨lv _ _ _, ?_, fun p hp q hq e => ?_⟩
    · split
      · exact lv _ _ _
      · simp
    · have h1 := yof hp
      split at hq
      · have h2 := yof hq
        rw [e] at h1
        omega
      · simp at hq
  · have yr : ∀ {r : Nat} {p : Int × Int}, p ∈ (rowM rs.length r (rs.getD r ([], []))).map mK → p.2 = 2 * (r : Int) + 1 ∨ p.2 = 2 * (r : Int) + 2 := fun {r p} h => by
      unfold rowM at h
      rw [List.map_append, List.mem_append] at h
      rcases h with h | h
      · exact .inl (yof h)
      · split at h
        · exact .inr (yof h)
        · simp at h
    have h1 := yr hp
    have h2 := yr hq
    rw [e] at h1
    omega
theorem rowOk_iff {w : Int} {r : Row} : rowOk w r = true ↔ (r.1.length : Int) = w - 1 ∧ (r.2.length : Int) = w ∧ ∀ c, c ∈ r.1 ∨ c ∈ r.2 → c ∈ sigs := by
  unfold rowOk
  rw [Bool.and_eq_true, Bool.and_eq_true, decide_eq_true_iff, decide_eq_true_iff, List.all_eq_true]
  constructor
  · rintro ⟨⟨a, b⟩, c⟩
    exact ⟨a, b, fun x hx => of_decide_eq_true (c x (List.mem_append.mpr hx))⟩
  · rintro ⟨a, b, c⟩
    exact ⟨⟨a, b⟩, fun x hx => decide_eq_true (c x (List.mem_append.mp hx))⟩
theorem atRow_ins {w : Int} {rs : List Row} (ok : ∀ r ∈ rs, rowOk w r = true) {m : Mir} (h : AtRow rs m) : Ins w rs.length m.1 m.2.1 ∧ (m.2.2 = sg 45 ∨ m.2.2 = sg 124) := by
  obtain ⟨r, k, c, q, hr, hc, hs, h⟩ := h
  have lt := (List.getElem?_eq_some_iff.mp hr).1
  obtain ⟨l1, l2, l3⟩ := rowOk_iff.mp (ok q (List.mem_of_getElem? hr))
  have sgn : c ∈ sigs → m.2.2 = sg 45 ∨ m.2.2 = sg 124 := fun hc2 => by
    unfold sigs at hc2
    simp at hc2
    rcases hc2 with rfl | rfl | rfl
    · exact absurd rfl hc
    · exact .inl hs
    · exact .inr hs
  unfold Ins
  rcases h with ⟨a, b, d⟩ | ⟨z, a, b, d⟩
  · have kl := (List.getElem?_eq_some_iff.mp a).1
    refine ⟨by omega, sgn (l3 c (.inl (List.mem_of_getElem? a)))⟩
  · have kl := (List.getElem?_eq_some_iff.mp a).1
    refine ⟨by omega, sgn (l3 c (.inr (List.mem_of_getElem? a)))⟩
theorem rmK_len {w : Int} {rs : List Row} (ok : ∀ r ∈ rs, rowOk w r = true) : ∀ i, i ≤ rs.length → ((rmK rs i).length : Int) ≤ i * (2 * w)
  | 0, _ => by simp [rmK]
  | i + 1, h => by
    have ih := rmK_len ok i (by omega)
    obtain ⟨q, hq⟩ : ∃ q, rs[i]? = some q := ⟨_, List.getElem?_eq_getElem (by omega)⟩
    obtain ⟨l1, l2, _⟩ := rowOk_iff.mp (ok q (List.mem_of_getElem? hq))
    rw [rmK_suc hq, List.length_append]
    have a1 := lvK_len 2 (2 * (i : Int) + 1) q.1 q.1.length
    have a2 := lvK_len 1 (2 * (i : Int) + 2) q.2 q.2.length
    have : (rowM rs.length i q).length ≤ q.1.length + q.2.length := by
      unfold rowM lvl
      rw [List.length_append]
      split
      · omega
      · simp only [List.length_nil]; omega
    rw [show ((i + 1 : Nat) : Int) * (2 * w) = i * (2 * w) + 2 * w by push_cast; rw [Int.add_mul]; omega]
    push_cast
    omega
/-! the law's mirrors, column by column -/
def lmAt (rs : List Row) (x y : Int) : Nat := ((if x % 2 = 0 then (rs.getD ((y - 1) / 2).toNat ([], [])).1 else (rs.getD ((y - 1) / 2).toNat ([], [])).2).getD ((x - 1) / 2).toNat 46)
def lmY (x : Int) (j : Nat) : Int := (1 + x % 2) + 2 * (j : Int)
def lmCol (rs : List Row) (x : Int) (j : Nat) : List Mir := ((List.range j).filter fun j => decide (lmAt rs x (lmY x j) ≠ 46)).map fun j => (x, lmY x j, sg (lmAt rs x (lmY x j)))
def lmK (rs : List Row) (i : Nat) : List Mir := (List.range i).flatMap fun (i : Nat) => lmCol rs (1 + (i : Int)) (rs.length - (1 + (i : Int)) % 2).toNat
def lawMs (w : Int) (rs : List Row) : List Mir := lmK rs (2 * w - 1).toNat
theorem lmCol_suc (rs : List Row) (x : Int) (j : Nat) : lmCol rs x (j + 1) = lmCol rs x j ++ (if lmAt rs x (lmY x j) ≠ 46 then [(x, lmY x j, sg (lmAt rs x (lmY x j)))] else []) := by
  unfold lmCol
  rw [List.range_succ, List.filter_append, List.map_append]
  congr 1
  by_cases c : lmAt rs x (lmY x j) ≠ 46
  · rw [if_pos c, List.filter_cons_of_pos (by simpa using c)]; rfl
  · rw [if_neg c, List.filter_cons_of_neg (by simpa using c)]; rfl
theorem lmK_suc (rs : List Row) (i : Nat) : lmK rs (i + 1) = lmK rs i ++ lmCol rs (1 + (i : Int)) (rs.length - (1 + (i : Int)) % 2).toNat := by
  unfold lmK
  rw [List.range_succ, List.flatMap_append, List.flatMap_singleton]
def keyLt (m n : Mir) : Prop := m.1 < n.1 ∨ (m.1 = n.1 ∧ m.2.1 < n.2.1)
theorem lawMs_lt (w : Int) (rs : List Row) : (lawMs w rs).Pairwise keyLt := by
  unfold lawMs lmK
  rw [List.pairwise_flatMap]
  refine ⟨fun i _ => ?_, List.pairwise_lt_range.imp fun {a b} hab p hp q hq => ?_⟩
  · unfold lmCol
    rw [List.pairwise_map]
    refine (List.pairwise_lt_range.filter _).imp fun {a b} h => .inr ⟨rfl, ?_⟩
    unfold lmY
    dsimp only
    omega
  · have xo : ∀ {x : Int} {j : Nat} {m : Mir}, m ∈ lmCol rs x j → m.1 = x := fun h => by
      unfold lmCol at h
      obtain ⟨k, _, rfl⟩ := List.mem_map.mp h
      rfl
    have := xo hp
    have := xo hq
    exact .inl (by omega)
theorem getD_some {l : List Nat} {k : Nat} (h : k < l.length) : l[k]? = some (l.getD k 46) := by
  rw [List.getD_eq_getElem?_getD, List.getElem?_eq_getElem h]; rfl
theorem mem_lawMs {w : Int} {rs : List Row} (w1 : 1 ≤ w) (ok : ∀ r ∈ rs, rowOk w r = true) {m : Mir} : m ∈ lawMs w rs ↔ AtRow rs m := by
  unfold lawMs lmK
  rw [List.mem_flatMap]
  constructor
  · rintro ⟨i, hi, hm⟩
    rw [List.mem_range] at hi
    unfold lmCol at hm
    obtain ⟨j, hj, rfl⟩ := List.mem_map.mp hm
    rw [List.mem_filter, List.mem_range, decide_eq_true_iff] at hj
    obtain ⟨hj, hne⟩ := hj
    unfold lmAt at hne ⊢
    unfold lmY at hne ⊢
    by_cases c : (1 + (i : Int)) % 2 = 0
    · rw [if_pos c] at hne ⊢
      rw [c] at hj hne ⊢
      have ej : ((1 + 0 + 2 * (j : Int) - 1) / 2).toNat = j := by omega
      rw [ej] at hne ⊢
      have jl : j < rs.length := by omega
      have e : rs[j]? = some (rs.getD j ([], [])) := by rw [List.getD_eq_getElem?_getD, List.getElem?_eq_getElem jl]; rfl
      obtain ⟨l1, l2, _⟩ := rowOk_iff.mp (ok _ (List.mem_of_getElem? e))
      have kl : ((1 + (i : Int) - 1) / 2).toNat < (rs.getD j ([], [])).1.length := by omega
      refine ⟨j, ((1 + (i : Int) - 1) / 2).toNat, _, _, e, hne, rfl, .inl ⟨?_, ?_, ?_⟩⟩
      · exact getD_some kl
      · dsimp only; omega
      · dsimp only; omega
    · have c1 : (1 + (i : Int)) % 2 = 1 := by omega
      rw [if_neg c] at hne ⊢
      rw [c1] at hj hne ⊢
      have ej : ((1 + 1 + 2 * (j : Int) - 1) / 2).toNat = j := by omega
      rw [ej] at hne ⊢
      have jl : j + 1 < rs.length := by omega
      have e : rs[j]? = some (rs.getD j ([], [])) := by rw [List.getD_eq_getElem?_getD, List.getElem?_eq_getElem (by omega)]; rfl
      obtain ⟨l1, l2, _⟩ := rowOk_iff.mp (ok _ (List.mem_of_getElem? e))
      have kl : ((1 + (i : Int) - 1) / 2).toNat < (rs.getD j ([], [])).2.length := by omega
      refine ⟨j, ((1 + (i : Int) - 1) / 2).toNat, _, _, e, hne, rfl, .inr ⟨jl, ?_, ?_, ?_⟩⟩
      · exact getD_some kl
      · dsimp only; omega
      · dsimp only; omega
  · rintro ⟨r, k, c, q, hr, hc, hs, h⟩
    have lt := (List.getElem?_eq_some_iff.mp hr).1
    obtain ⟨l1, l2, _⟩ := rowOk_iff.mp (ok q (List.mem_of_getElem? hr))
    have eq : rs.getD r ([], []) = q := by rw [List.getD_eq_getElem?_getD, hr]; rfl
    obtain ⟨x, y, s⟩ := m
    dsimp only at hs h
    subst hs
    rcases h with ⟨h1, rfl, rfl⟩ | ⟨h0, h1, rfl, rfl⟩
    · have kl := (List.getElem?_eq_some_iff.mp h1).1
      have at_ : lmAt rs (2 + 2 * (k : Int)) (2 * (r : Int) + 1) = c := by
        unfold lmAt
        rw [if_pos (by omega), show ((2 * (r : Int) + 1 - 1) / 2).toNat = r by omega, eq, show ((2 + 2 * (k : Int) - 1) / 2).toNat = k by omega, List.getD_eq_getElem?_getD, h1]
        rfl
      refine ⟨1 + 2 * k, List.mem_range.mpr (by omega), ?_⟩
      rw [show 1 + ((1 + 2 * k : Nat) : Int) = 2 + 2 * (k : Int) by omega]
      unfold lmCol
      refine List.mem_map.mpr ⟨r, List.mem_filter.mpr ⟨List.mem_range.mpr (by omega), ?_⟩, ?_⟩
      · rw [show lmY (2 + 2 * (k : Int)) r = 2 * (r : Int) + 1 by unfold lmY; omega, at_]
        exact decide_eq_true hc
      · rw [show lmY (2 + 2 * (k : Int)) r = 2 * (r : Int) + 1 by unfold lmY; omega, at_]
    · have kl := (List.getElem?_eq_some_iff.mp h1).1
      have at_ : lmAt rs (1 + 2 * (k : Int)) (2 * (r : Int) + 2) = c := by
        unfold lmAt
        rw [if_neg (by omega), show ((2 * (r : Int) + 2 - 1) / 2).toNat = r by omega, eq, show ((1 + 2 * (k : Int) - 1) / 2).toNat = k by omega, List.getD_eq_getElem?_getD, h1]
        rfl
      refine ⟨2 * k, List.mem_range.mpr (by omega), ?_⟩
      rw [show 1 + ((2 * k : Nat) : Int) = 1 + 2 * (k : Int) by omega]
      unfold lmCol
      refine List.mem_map.mpr ⟨r, List.mem_filter.mpr ⟨List.mem_range.mpr (by omega), ?_⟩, ?_⟩
      · rw [show lmY (1 + 2 * (k : Int)) r = 2 * (r : Int) + 2 by unfold lmY; omega, at_]
        exact decide_eq_true hc
      · rw [show lmY (1 + 2 * (k : Int)) r = 2 * (r : Int) + 2 by unfold lmY; omega, at_]
theorem law_perm {w : Int} {rs : List Row} (w1 : 1 ≤ w) (ok : ∀ r ∈ rs, rowOk w r = true) : (rowMs rs).Perm (lawMs w rs) := by
  refine (List.perm_ext_iff_of_nodup ?_ ?_).mpr fun m => by rw [mem_rowMs, mem_lawMs w1 ok]
  · exact List.Pairwise.of_map _ (fun a b z e => z (congrArg _ e)) (rowMs_nd rs)
  · refine (lawMs_lt w rs).imp fun {a b} h e => ?_
    subst e
    unfold keyLt at h
    omega
theorem sg_dot (c : Nat) : sg c = Str.ofString "." ↔ c = 46 := by
  constructor
  · intro h
    have : (sg c).cps.toList = (Str.ofString ".").cps.toList := congrArg (fun s => s.cps.toList) h
    rw [show (Str.ofString ".").cps.toList = [46] by decide +kernel] at this
    exact List.head_eq_of_cons_eq this
  · rintro rfl
    rfl
def conLevel : Con := fun es P _ => ∃ (l : List Nat) (left y : Int), es = [.imm (.str (tx l)), .int left, .int y] ∧ l.length ≤ 1000 ∧ ∀ a, P (.own a (mirsD (lvl left y l))) es
def conRowM : Con := fun es P _ => ∃ (w : Int) (rs : List Row), es = [.imm (rowsD rs)] ∧ 1 ≤ w ∧ w ≤ 12 ∧ rs.length ≤ 60 ∧ (∀ r ∈ rs, rowOk w r = true) ∧ ∀ a, P (.own a (mirsD (rowMs rs))) es
def conSBoard (A : Ad) : Con := fun es P PX => ∃ (w : Int) (a c e : List Row) (n : Int), es = [.imm (strpD A.C_Strip w a c e), .int n] ∧ StrpOk w a c e ∧ w ≤ 12 ∧ (n < leastN a e → PX A.C_NoLength (.int n) es) ∧ (leastN a e ≤ n → n ≤ 60 ∧ P (.imm (brdD A.C_Board w n (rowMs (lenRows a c e n)))) es)
theorem len_rows {a c e : List Row} {n : Int} (h : leastN a e ≤ n) : ((lenRows a c e n).length : Int) = n := by
  unfold lenRows midR leastN at *
  rw [List.length_append, List.length_append, List.length_map, List.length_range]
  omega
theorem lenRows_ok {w : Int} {a c e : List Row} (n : Int) (h : StrpOk w a c e) : ∀ r ∈ lenRows a c e n, rowOk w r = true := by
  obtain ⟨_, _, _, _, _, ne, ok⟩ := h
  intro r hr
  unfold lenRows midR at hr
  rcases List.mem_append.mp hr with hr | hr
  · rcases List.mem_append.mp hr with hr | hr
    · exact ok r (.inl hr)
    · obtain ⟨k, _, rfl⟩ := List.mem_map.mp hr
      have lt : k % c.length < c.length := Nat.mod_lt _ (List.length_pos_iff.mpr ne)
      rw [List.getD_eq_getElem?_getD, List.getElem?_eq_getElem lt]
      exact ok _ (.inr (.inl (List.getElem_mem lt)))
  · exact ok r (.inr (.inr hr))
theorem good_rows {w : Int} {rs : List Row} (ok : ∀ r ∈ rs, rowOk w r = true) : GoodMs w rs.length (rowMs rs) :=
  ⟨fun m hm => (atRow_ins ok (mem_rowMs.mp hm)).1, fun m hm => (atRow_ins ok (mem_rowMs.mp hm)).2, rowMs_nd rs⟩
section
variable {P : Program} {w : World} {K : PySem.W.Frag} {mg : Str → Option Value} {base : Heap} {A : Ad}
theorem okd_level_mirrors (T : Txt K mg A) : FnOk P w K mg base (L2.CX P w) (0 + 1) A.f_level_mirrors A.d_level_mirrors P_level_mirrors (spD K conLevel) := by
  refine okD_fn T.F_level_mirrors sc_level_mirrors (fun es P PX h => ?_) (fun cdv A' outer s H I E es R PX hr fo hc => ?_)
  · obtain ⟨l, left, y, rfl, _⟩ := h
    rfl
  obtain ⟨l, left, y, rfl, hl, hP⟩ := hc
  have hu := hu_of hr
  refine ⟨_, (dss_one (ds_ret (de_lc (own := [("k", 3), ("char", 4)]) (by rfl) sc_level_mirrors.nd (di_enumS (by rfl) T.n_enumerate (dv 0)) (blkOk_by (own := [("k", 3), ("char", 4)]) (N := N_level_mirrors) (sc := defScope s_level_mirrors) (by decide +kernel)) (fun _ _ _ _ _ => by exact (dg_tup (n := 2) rfl (dgs_cons (dg_name (i := 3) sc_level_mirrors.nd rfl (by first | exact Or.inl rfl | exact Or.inr rfl)) (dgs_cons (dg_name (i := 4) sc_level_mirrors.nd rfl (by first | exact Or.inl rfl | exact Or.inr rfl)) dgs_nil)))) (fun _ _ _ _ _ => by exact (dts_one (dt_cmp (dor_ne hr.units) (dv 4) de_str (nomark _)))) (fun _ _ _ _ _ => by exact (de_tup (da_cons (de_op dor_add (dv 1) (de_op dor_mul de_int (dv 3))) (da_cons (dv 2) (da_cons (dv 4) da_nil))))) (by rfl)))), ?_⟩
  walk_at "dy"
  have el : (enumD (chars (tx l))).length = l.length := by unfold enumD; rw [tx_chars]; simp
  walk_at "dx"
  refine ⟨by rw [el]; omega, fun i acc => acc = (lvK left y l i).map mirD, rfl, ?_, ?_⟩
  · rintro i c acc hc rfl
    obtain ⟨hi, rfl⟩ : i < l.length ∧ c = .tup [.int (i : Nat), .str (sg (l.getD i 46))] := by
      have hi := (List.getElem?_eq_some_iff.mp hc).1
      rw [el] at hi
      refine ⟨hi, ?_⟩
      unfold enumD at hc
      rw [tx_chars, List.getElem?_mapIdx, List.getElem?_map, List.getElem?_eq_getElem hi] at hc
      rw [List.getD_eq_getElem?_getD, List.getElem?_eq_getElem hi]
      exact (Option.some.inj hc).symm
    have ls := lvK_suc left y l i
    have sd := sg_dot (l.getD i 46)
    walk_at "dx"
    · have c' : ¬ sg (l.getD i 46) = Str.ofString "." := by assumption
      rw [if_pos fun z => c' (sd.mpr z)] at ls
      refine ⟨rfl, ?_⟩
      dsimp only
      rw [ls, List.map_append]
      rfl
    · have c' : sg (l.getD i 46) = Str.ofString "." := by first | assumption | (apply Classical.byContradiction; assumption)
      rw [if_neg fun z => z (sd.mp c'), List.append_nil] at ls
      refine ⟨rfl, ?_⟩
      dsimp only
      rw [ls]
  · rintro acc rfl
    rw [el]
    walk_at "dx"
    exact hP _
theorem okd_row_mirrors (T : Txt K mg A) : FnOk P w K mg base (L2.CX P w) (2 + 1) A.f_row_mirrors A.d_row_mirrors P_row_mirrors (spD K conRowM) := by
  have G_level_mirrors := okd_level_mirrors (P := P) (w := w) (base := base) T
  refine okD_fn T.F_row_mirrors sc_row_mirrors (fun es P PX h => ?_) (fun cdv A' outer s H I E es R PX hr fo hc => ?_)
  · obtain ⟨w, rs, rfl, _⟩ := h
    rfl
  obtain ⟨w, rs, rfl, w1, w2, hl, ok, hP⟩ := hc
  have hu := hu_of hr
  refine ⟨_, (dss_cons (ds_set (i := 1) sc_row_mirrors.nd rfl (Or.inl rfl) (de_lst da_nil))
(dss_cons (ds_for (passes_of rfl) rfl (di_enum (by rfl) T.n_enumerate (dv 0)) (dg_tup (n := 2) rfl (dgs_cons (dg_name (i := 2) sc_row_mirrors.nd rfl (Or.inl rfl)) (dgs_cons (dg_tup (n := 2) rfl (dgs_cons (dg_name (i := 3) sc_row_mirrors.nd rfl (Or.inl rfl)) (dgs_cons (dg_name (i := 4) sc_row_mirrors.nd rfl (Or.inl rfl)) dgs_nil))) dgs_nil)))
(dss_cons (ds_expr (de_mut PySem.F.slot_list_extend PySem.F.type_list_extend mt_extend dm_extend (pv 1) (da_cons (de_call G_level_mirrors (hr.mono (by first | decide | omega)) rfl T.g_level_mirrors T.k_level_mirrors T.b_level_mirrors (takes_of rfl rfl rfl rfl) fo (dg_v (dv 3) (dg_v de_int (dg_v (de_op dor_add (de_op dor_mul de_int (dv 2)) de_int) dg_nil)))) da_nil)))
(dss_one (ds_if (dt_cmp dor_lt (de_op dor_add (dv 2) de_int) (de_blt dcr_len (by rfl) T.n_len (by decide +kernel) (da_cons (dv 0) da_nil)) (nomark _))
(dss_one (ds_expr (de_mut PySem.F.slot_list_extend PySem.F.type_list_extend mt_extend dm_extend (pv 1) (da_cons (de_call G_level_mirrors (hr.mono (by first | decide | omega)) rfl T.g_level_mirrors T.k_level_mirrors T.b_level_mirrors (takes_of rfl rfl rfl rfl) fo (dg_v (dv 4) (dg_v de_int (dg_v (de_op dor_add (de_op dor_mul de_int (dv 2)) de_int) dg_nil)))) da_nil))))
dss_nil))))
(dss_one (ds_ret (dv 1))))), ?_⟩
  walk_at "dy"
  have el : (enumD (rs.map rowD)).length = rs.length := by unfold enumD; simp
  walk_at "dx"
  refine ⟨fun i e => ∃ (aM : Addr) (v2 v3 v4 : Option Ent), e = [some (.imm (rowsD rs)), some (.own aM (.lst ((rmK rs i).map mirD))), v2, v3, v4], ⟨_, _, _, _, rfl⟩, ?_, ?_⟩
  · rintro i c e hc ⟨aM, v2, v3, v4, rfl⟩
    obtain ⟨hi, a, b, hr, rfl⟩ : i < rs.length ∧ ∃ a b, rs[i]? = some (a, b) ∧ c = .tup [.int (i : Nat), .tup [.str (tx a), .str (tx b)]] := by
      have hi := (List.getElem?_eq_some_iff.mp hc).1
      rw [el] at hi
      unfold enumD at hc
      rw [List.getElem?_mapIdx, List.getElem?_map, List.getElem?_eq_getElem hi] at hc
      exact ⟨hi, rs[i].1, rs[i].2, List.getElem?_eq_getElem hi, (Option.some.inj hc).symm⟩
    obtain ⟨l1, l2, _⟩ := rowOk_iff.mp (ok _ (List.mem_of_getElem? hr))
    dsimp only at l1 l2
    have rk := rmK_len ok i (by omega)
    have rb : (rmK rs i).length ≤ 1500 := by
      have : (i : Int) * (2 * w) ≤ 60 * 24 := Int.mul_le_mul (by omega) (by omega) (by omega) (by decide)
      omega
    have s1 := rmK_suc hr
    unfold rowM at s1
    have b1 := lvK_len 2 (2 * (i : Int) + 1) a a.length
    have b2 := lvK_len 1 (2 * (i : Int) + 2) b b.length
    walk_at "dx"
    refine ⟨a, 2, 2 * (i : Int) + 1, rfl, by omega, fun aL => ?_⟩
    walk_at "dx"
    refine ⟨_, rfl, by rw [List.length_map, List.length_map]; unfold lvl; omega, ?_⟩
    rw [← List.map_append]
    have lrs : (rs.map rowD).length = rs.length := List.length_map ..
    walk_at "dx"
    · have c' : (i : Int) + 1 < ((rs.map rowD).length : Int) := by assumption
      rw [if_pos (by omega)] at s1
      refine ⟨b, 1, 2 * (i : Int) + 2, rfl, by omega, fun aL2 => ?_⟩
      walk_at "dx"
      refine ⟨_, rfl, by rw [List.length_map, List.length_map, List.length_append]; unfold lvl; omega, ?_⟩
      rw [← List.map_append]
      dsimp only
      rw [s1, ← List.append_assoc]
      exact ⟨_, _, _, _, rfl⟩
    · have c' : ¬ (i : Int) + 1 < ((rs.map rowD).length : Int) := by assumption
      rw [if_neg (by omega), List.append_nil] at s1
      dsimp only
      rw [s1]
      exact ⟨_, _, _, _, rfl⟩
  · rintro e ⟨aM, v2, v3, v4, rfl⟩
    rw [el]
    walk_at "dx"
    exact hP _
theorem okd_Strip_board_for (T : Txt K mg A) : FnOk P w K mg base (L2.CX P w) (6 + 1) A.f_Strip_board_for A.d_Strip_board_for P_Strip_board_for (spD K (conSBoard A)) := by
  have G_Board___init__ := okd_Board___init__ (P := P) (w := w) (base := base) T
  have G_row_mirrors := okd_row_mirrors (P := P) (w := w) (base := base) T
  have G_Strip_rows := okd_Strip_rows (P := P) (w := w) (base := base) T
  refine okD_fn T.F_Strip_board_for sc_Strip_board_for (fun es P PX h => ?_) (fun cdv A' outer s H I E es R PX hr fo hc => ?_)
  · obtain ⟨w, ra, rc, re, n, rfl, _⟩ := h
    rfl
  obtain ⟨w, ra, rc, re, n, rfl, so, w12, hX, hP⟩ := hc
  have hu := hu_of hr
  refine ⟨_, (dss_one (ds_ret (de_make T.M_Board G_Board___init__ mkD_Board (hr.mono (by first | decide | omega)) rfl T.g_Board T.b_Board___init__ (takes_of rfl rfl rfl rfl) fo (dg_v (de_fld (dv 0) T.cl_Strip T.na_Strip_wide) (dg_v (dv 1) (dg_v (de_call G_row_mirrors (hr.mono (by first | decide | omega)) rfl T.g_row_mirrors T.k_row_mirrors T.b_row_mirrors (takes_of rfl rfl rfl rfl) fo (dg_v (de_meth (dv 0) T.cl_Strip T.m_Strip_rows G_Strip_rows (hr.mono (by first | decide | omega)) T.b_Strip_rows (takes_of rfl rfl rfl rfl) fo (dg_v (dv 1) dg_nil)) dg_nil)) dg_nil)))))), ?_⟩
  walk_at "dy"
  obtain ⟨w1, w2, sa, sc, se, ne, ok⟩ := so
  have okn := fun n => lenRows_ok n ⟨w1, w2, sa, sc, se, ne, ok⟩
  unfold strpD at *
  walk_at "dx"
  refine ⟨w, ra, rc, re, n, rfl, sa, sc, se, ne, fun lt => ?_, fun ge => ?_⟩
  · walk_at "dx"
    exact hX lt
  · obtain ⟨n60, hP⟩ := hP ge
    have ln := len_rows (c := rc) ge
    refine ⟨by omega, fun lR => ?_⟩
    walk_at "dx"
    refine ⟨w, lenRows ra rc re n, rfl, w1, w12, by omega, okn n, fun lM => ?_⟩
    have rk := rmK_len (okn n) _ (Nat.le_refl _)
    have rb : (rowMs (lenRows ra rc re n)).length ≤ 2000 := by
      have : ((lenRows ra rc re n).length : Int) * (2 * w) ≤ 60 * 24 := Int.mul_le_mul (by omega) (by omega) (by omega) (by decide)
      unfold rowMs
      omega
    have gm := good_rows (okn n)
    rw [ln] at gm
    walk_at "dx"
    refine ⟨w, n, _, rfl, rb, .inr (.inr (.inl ⟨w1, by unfold leastN at ge; omega, gm, ?_⟩))⟩
    walk_at "dx"
    exact hP
end

end

section
local macro_rules | `(tactic| walk_at "al") => `(tactic| first
  | omega
  | exact Or.inl (Or.inl ⟨by omega, by omega⟩)
  | exact Or.inl (Or.inr ⟨by omega, by omega⟩)
  | exact ⟨by omega, Or.inl (by omega)⟩
  | exact ⟨by omega, by omega, by omega, by omega⟩
  | exact ⟨by decide, by decide, by decide⟩)
local macro_rules | `(tactic| walk_at "bk") => `(tactic| repeat (first | exact BackE.nil | apply BackE.imm | apply BackE.own | apply BackE.hand))
local macro_rules | `(tactic| walk_at "ds1") => `(tactic| first
  | with_reducible refine s_aC ?_
  | ((with_reducible refine' s_vi ?ee_ ?_); (case ee_ => rfl))
  | ((with_reducible refine' s_vs ?ee_ ?_); (case ee_ => rfl))
  | with_reducible refine s_c ?_
  | ((with_reducible refine' x_val2 ?ee_ ?ff_ ?_); (case ee_ => rfl); (case ff_ => rfl))
  | with_reducible refine s_op ?_
  | with_reducible refine s_aN ?_
  | ((with_reducible refine' x_frzs ?ee_ ?ll_ ?_); (case ee_ => rfl); (case ll_ => rfl))
  | with_reducible refine s_seq ?_
  | ((with_reducible refine' x_frz ?ee_ ?_); (case ee_ => rfl))
  | with_reducible refine s_tup ?_
  | with_reducible refine s_gaV ?_
  | ((with_reducible refine' x_bl ?ee_ ?_); (case ee_ => rfl))
  | ((with_reducible refine' s_end ?ee_ ?bb_ ?_); (case ee_ => rfl); (case bb_ => walk_at "bk"))
  | with_reducible refine s_ret ?_
  | with_reducible refine s_test ?_
  | ((with_reducible refine' x_vals ?ee_ ?_); (case ee_ => rfl))
  | with_reducible refine s_cl ?_
  | ((with_reducible refine' x_asg ?ee_ ?_); (case ee_ => rfl))
  | with_reducible refine o_subI ?_
  | with_reducible refine s_set ?_
  | with_reducible refine s_gaN ?_
  | with_reducible refine s_lst ?_
  | with_reducible refine s_next ?_
  | with_reducible refine s_call ?_
  | ((with_reducible refine' x_con ?ee_ ?ff_ ?_); (case ee_ => rfl); (case ff_ => rfl))
  | with_reducible refine s_if ?_
  | ((with_reducible refine' s_gN ?ee_ ?_); (case ee_ => rfl))
  | ((with_reducible refine' x_back ?ll_ ?ee_ ?_); (case ll_ => rfl); (case ee_ => rfl))
  | ((with_reducible refine' x_back1 ?ee_ ?_); (case ee_ => rfl))
  | with_reducible refine o_addI ?_
  | ((with_reducible refine' o_mulI ?cc_ ?_); (case cc_ => walk_at "al"))
  | with_reducible refine s_for ?_
  | ((with_reducible refine' x_val ?ee_ ?_); (case ee_ => rfl))
  | with_reducible refine s_gCn ?_
  | with_reducible refine iteT ?_
  | with_reducible refine iteF ?_
  | with_reducible refine r_iteNf ?_
  | with_reducible refine r_iteNt ?_
  | with_reducible refine s_not ?_
  | with_reducible refine s_drop ?_
  | ((with_reducible refine' o_modI ?cc_ ?_); (case cc_ => walk_at "al"))
  | with_reducible refine s_or ?_
  | ((with_reducible refine' o_ixT ?ee_ ?ff_ ?_); (case ee_ => first | rfl | assumption); (case ff_ => first | rfl | assumption))
  | ((with_reducible refine' ixI ?aa_ ?bb_ ?_); (case aa_ => omega); (case bb_ => omega))
  | ((with_reducible refine' o_ixL ?ee_ ?ff_ ?_); (case ee_ => first | rfl | assumption); (case ff_ => first | rfl | assumption))
  | with_reducible refine o_ixH ?_
  | ((with_reducible refine' x_int ?ee_ ?_); (case ee_ => rfl))
  | with_reducible refine s_pN ?_
  | with_reducible refine s_pS ?_
  | with_reducible refine s_sl ?_
  | ((with_reducible refine' s_gaR ?ee_ ?_); (case ee_ => rfl))
  | with_reducible refine s_rng1 ?_
  | with_reducible refine o_eqI ?_
  | with_reducible refine o_eqS ?_
  | with_reducible refine o_eqP ?_
  | with_reducible refine o_eqB ?_
  | ((with_reducible refine' o_eqIs ?aa_ ?bb_ ?_); (case aa_ => first | omega | (simp only [List.length_map, List.length_range, List.length_replicate]; omega)); (case bb_ => first | omega | (simp only [List.length_map, List.length_range, List.length_replicate]; omega)))
  | ((with_reducible refine' s_callD ?ee_ ?ff_ ?_); (case ee_ => rfl); (case ff_ => rfl))
  | ((with_reducible refine' x_rng1 ?ee_ ?aa_ ?bb_ ?_); (case ee_ => rfl); (case aa_ => omega); (case bb_ => omega))
  | ((with_reducible refine' s_mut ?ee_ ?_); (case ee_ => rfl))
  | ((with_reducible refine' x_mut ?ee_ ?ff_ ?_); (case ee_ => rfl); (case ff_ => rfl))
  | with_reducible refine o_max ?_
  | with_reducible refine s_un ?_
  | with_reducible refine s_gNl ?_
  | ((with_reducible refine' x_frzO ?ee_ ?_); (case ee_ => rfl))
  | with_reducible refine o_ltI ?_
  | with_reducible refine s_wSeq ?_
  | ((with_reducible refine' x_items ?ee_ ?ff_ ?_); (case ee_ => rfl); (case ff_ => rfl))
  | ((with_reducible refine' s_lookT ?ee_ ?_); (case ee_ => rfl))
  | with_reducible refine s_asg ?_
  | ((with_reducible refine' s_gT ?ee_ ?_); (case ee_ => rfl))
  | with_reducible refine o_int ?_
  | ((with_reducible refine' o_inT ?ee_ ?_); (case ee_ => rfl))
  | ((with_reducible refine' o_inF ?ee_ ?_); (case ee_ => rfl))
  | with_reducible refine o_intB ?_
  | with_reducible refine s_andV ?_
  | with_reducible refine s_prop ?_
  | ((with_reducible refine' s_xis ?ee_ ?ff_ ?_); (case ee_ => rfl); (case ff_ => assumption))
  | ((with_reducible refine' x_xis ?ee_ ?ff_ ?_); (case ee_ => rfl); (case ff_ => assumption))
  | ((with_reducible refine' x_xisT2 ?ee_ ?ff_ ?gg_ ?hh_ ?_); (case ee_ => rfl); (case ff_ => rfl); (case gg_ => assumption); (case hh_ => assumption))
  | ((with_reducible refine' s_xisT ?ee_ ?ff_ ?_); (case ee_ => rfl); (case ff_ => assumption))
  | with_reducible refine o_lenI ?_
  | with_reducible refine o_lenL ?_
  | with_reducible refine o_lenT ?_
  | with_reducible refine o_lenF ?_
  | with_reducible refine o_lenD ?_
  | ((with_reducible refine' x_pxT ?ee_ ?_); (case ee_ => assumption))
  | ((with_reducible refine' x_px ?bb_ ?_); (case bb_ => walk_at "bk"))
  | ((with_reducible refine' o_powI ?cc_ ?_); (case cc_ => walk_at "al"))
  | ((with_reducible refine' o_fld ?ee_ ?_); (case ee_ => rfl))
  | with_reducible refine s_parE ?_
  | ((with_reducible refine' x_parE ?ee_ ?ff_ ?_); (case ee_ => rfl); (case ff_ => rfl))
  | with_reducible refine o_slF ?_
  | with_reducible refine o_slL ?_
  | with_reducible refine o_slT ?_
  | with_reducible refine s_dnT ?_
  | with_reducible refine s_rng2 ?_
  | ((with_reducible refine' x_rng2 ?ee_ ?aa_ ?_); (case ee_ => rfl); (case aa_ => exact ⟨by omega, by omega, by omega, by omega⟩))
  | ((with_reducible refine' o_divI ?cc_ ?_); (case cc_ => walk_at "al"))
  | with_reducible refine o_andI ?_
  | with_reducible refine o_min ?_
  | with_reducible refine s_chain ?_
  | with_reducible refine x_ib ?_
  | with_reducible refine s_dget ?_
  | with_reducible refine s_raise ?_
  | with_reducible refine s_lc ?_
  | ((with_reducible refine' x_clear ?ee_ ?_); (case ee_ => rfl))
  | with_reducible refine o_neI ?_
  | with_reducible refine o_neS ?_
  | with_reducible refine o_neP ?_
  | with_reducible refine o_neC ?_
  | with_reducible refine o_neg ?_
  | ((with_reducible refine' o_neIs ?aa_ ?bb_ ?_); (case aa_ => first | omega | (simp only [List.length_map, List.length_range, List.length_replicate]; omega)); (case bb_ => first | omega | (simp only [List.length_map, List.length_range, List.length_replicate]; omega)))
  | with_reducible refine o_gtI ?_
  | with_reducible refine s_and ?_
  | with_reducible refine s_fz ?_
  | ((with_reducible refine' x_noa ?ee_ ?_); (case ee_ => rfl))
  | ((with_reducible refine' s_dapp ?ee_ ?ff_ ?gg_ ?_); (case ee_ => rfl); (case ff_ => rfl); (case gg_ => rfl))
  | with_reducible refine s_meth ?_
  | with_reducible refine s_rev ?_
  | with_reducible refine s_two ?_
  | with_reducible refine s_join ?_
  | ((with_reducible refine' o_lenX ?ee_ ?_); (case ee_ => assumption))
  | ((with_reducible refine' o_addX ?ee_ ?ff_ ?_); (case ee_ => assumption); (case ff_ => assumption))
  | ((with_reducible refine' o_sliceX ?ee_ ?_); (case ee_ => assumption))
  | ((with_reducible refine' o_ixT' ?ee_ ?ff_ ?gg_ ?_); (case ee_ => assumption); (case ff_ => assumption); (case gg_ => assumption))
  | ((with_reducible refine' x_rev ?ee_ ?ff_ ?_); (case ee_ => rfl); (case ff_ => rfl))
  | ((with_reducible refine' x_isstr ?ee_ ?_); (case ee_ => rfl))
  | ((with_reducible refine' x_two ?ee_ ?ff_ ?_); (case ee_ => rfl); (case ff_ => rfl))
  | with_reducible refine s_dnin ?_
  | with_reducible refine s_setIx ?_
  | ((with_reducible refine' s_gL ?ee_ ?_); (case ee_ => rfl))
  | ((with_reducible refine' s_forW ?ee_ ?ff_ ?_); (case ee_ => rfl); (case ff_ => first | assumption | exact hasD_imm | exact hasD_own))
  | with_reducible refine o_list ?_
  | with_reducible refine o_listT ?_
  | ((with_reducible refine' x_isT ?ee_ ?_); (case ee_ => rfl))
  | ((with_reducible refine' x_isK ?ee_ ?_); (case ee_ => rfl))
  | with_reducible refine o_leI ?_
  | with_reducible refine s_notV ?_
  | with_reducible refine s_ifV ?_
  | with_reducible refine s_callT ?_
  | with_reducible refine s_callB ?_
  | ((with_reducible refine' x_lent ?ee_ ?_); (case ee_ => rfl))
  | with_reducible refine s_minL ?_
  | with_reducible refine s_fnK ?_
  | with_reducible refine s_fnM ?_
  | ((with_reducible refine' x_fnM ?ee_ ?ff_ ?gg_ ?_); (case ee_ => rfl); (case ff_ => rfl); (case gg_ => rfl))
  | with_reducible refine s_par3E ?_
  | ((with_reducible refine' x_par3E ?ee_ ?ff_ ?gg_ ?_); (case ee_ => rfl); (case ff_ => rfl); (case gg_ => rfl))
  | with_reducible refine s_dol ?_
  | with_reducible refine s_ud ?_
  | with_reducible refine x_callT ?_
  | ((with_reducible refine' x_frzsK ?ee_ ?ll_ ?_); (case ee_ => rfl); (case ll_ => rfl))
  | with_reducible refine s_make ?_
  | with_reducible refine s_dget1 ?_
  | with_reducible refine s_dget2 ?_
  | ((with_reducible refine' x_get2 ?ee_ ?ff_ ?gg_ ?_); (case ee_ => rfl); (case ff_ => rfl); (case gg_ => rfl))
  | with_reducible refine s_brk ?_
  | with_reducible refine s_zip ?_
  | ((with_reducible refine' x_zip ?ee_ ?_); (case ee_ => rfl))
  | with_reducible refine s_tryG ?_
  | ((with_reducible refine' s_xv ?ee_ ?ff_ ?gg_ ?_); (case ee_ => rfl); (case ff_ => assumption); (case gg_ => assumption))
  | with_reducible refine s_yes ?_
  | with_reducible refine isi_bl_bool ?_
  | with_reducible refine isi_bl_int ?_
  | with_reducible refine isi_bl_str ?_
  | with_reducible refine isi_bl_list ?_
  | with_reducible refine isi_bl_tuple ?_
  | with_reducible refine isi_int_bool ?_
  | with_reducible refine isi_int_int ?_
  | with_reducible refine isi_int_str ?_
  | with_reducible refine isi_int_list ?_
  | with_reducible refine isi_int_tuple ?_
  | with_reducible refine isi_str_bool ?_
  | with_reducible refine isi_str_int ?_
  | with_reducible refine isi_str_str ?_
  | with_reducible refine isi_str_list ?_
  | with_reducible refine isi_str_tuple ?_
  | with_reducible refine isi_lst_bool ?_
  | with_reducible refine isi_lst_int ?_
  | with_reducible refine isi_lst_str ?_
  | with_reducible refine isi_lst_list ?_
  | with_reducible refine isi_lst_tuple ?_
  | with_reducible refine isi_tup_bool ?_
  | with_reducible refine isi_tup_int ?_
  | with_reducible refine isi_tup_str ?_
  | with_reducible refine isi_tup_list ?_
  | with_reducible refine isi_tup_tuple ?_
  | with_reducible refine isi_non_bool ?_
  | with_reducible refine isi_non_int ?_
  | with_reducible refine isi_non_str ?_
  | with_reducible refine isi_non_list ?_
  | with_reducible refine isi_non_tuple ?_
  | with_reducible refine o_isN_non ?_
  | with_reducible refine o_isN_bl ?_
  | with_reducible refine o_isN_int ?_
  | with_reducible refine o_isN_str ?_
  | with_reducible refine o_isN_lst ?_
  | with_reducible refine o_isN_tup ?_
  | with_reducible refine o_isN_obj ?_
  | with_reducible refine o_isN' ?_
  | with_reducible refine o_isB' ?_
  | with_reducible refine o_isNB ?_
  | ((with_reducible refine' x_frz2 ?ee_ ?ff_ ?_); (case ee_ => rfl); (case ff_ => rfl))
  | with_reducible refine o_geI ?_
  | with_reducible refine o_notN_non ?_
  | with_reducible refine o_notN_bl ?_
  | with_reducible refine o_notN_int ?_
  | with_reducible refine o_notN_str ?_
  | with_reducible refine o_notN_lst ?_
  | with_reducible refine o_notN_tup ?_
  | with_reducible refine o_notN_obj ?_
  | with_reducible refine o_notN' ?_
  | with_reducible refine s_dnK ?_
  | with_reducible refine o_abs ?_
  | ((with_reducible refine' o_ninT ?ee_ ?_); (case ee_ => rfl))
  | ((with_reducible refine' o_ninF ?ee_ ?_); (case ee_ => rfl))
  | with_reducible refine s_orV ?_
  | with_reducible refine s_sameL ?_
  | with_reducible refine s_fg ?_
  | ((with_reducible refine' x_lenN ?ee_ ?ff_ ?_); (case ee_ => omega); (case ff_ => omega))
  | ((with_reducible refine' x_le1000 ?ee_ ?_); (case ee_ => rfl))
  | with_reducible refine s_meth0 ?_
  | with_reducible refine s_methK ?_
  | with_reducible refine s_makeK ?_
  | with_reducible refine s_own2 ?_
  | with_reducible refine s_eqX ?_
  | with_reducible refine s_neX ?_
  | with_reducible refine x_nb ?_
  | with_reducible refine s_lenO ?_
  | ((with_reducible refine' s_mut0 ?ee_ ?_); (case ee_ => rfl))
  | with_reducible refine m_clr ?_
  | with_reducible refine m_rev ?_
  | with_reducible refine s_din ?_
  | ((with_reducible refine' s_lookK ?ee_ ?_); (case ee_ => rfl))
  | with_reducible refine s_retN ?_
  | with_reducible refine s_cnt ?_
  | with_reducible refine s_enum ?_
  | with_reducible refine s_enumS ?_
  | with_reducible refine s_rng3 ?_
  | ((with_reducible refine' x_enumS ?ee_ ?_); (case ee_ => rfl))
  | ((with_reducible refine' x_enum ?ee_ ?_); (case ee_ => rfl))
  | with_reducible refine s_lcG ?_
  | ((with_reducible refine' s_lcV ?ee_ ?ff_ ?_); (case ee_ => rfl); (case ff_ => rfl))
  | ((with_reducible refine' s_forV ?ee_ ?_); (case ee_ => rfl))
  | ((with_reducible refine' o_rep1 ?aa_ ?_); (case aa_ => exact ⟨by omega, by omega⟩))
  | with_reducible refine s_par ?_
  | ((with_reducible refine' x_par ?ee_ ?ff_ ?gg_ ?_); (case ee_ => rfl); (case ff_ => rfl); (case gg_ => rfl))
  | with_reducible refine s_rng1L ?_
  | ((with_reducible refine' x_rng1L ?ee_ ?_); (case ee_ => rfl))
  | with_reducible refine s_rng2L ?_
  | ((with_reducible refine' x_rng2L ?ee_ ?_); (case ee_ => rfl))
  | with_reducible refine s_fset ?_
  | ((with_reducible refine' x_fset ?ee_ ?ff_ ?gg_ ?_); (case ee_ => rfl); (case ff_ => rfl); (case gg_ => rfl))
  | with_reducible refine x_got rfl ?_
  | with_reducible refine x_in0 ?_
  | with_reducible refine x_inS ?_
  | ((with_reducible refine' s_gVal ?ee_ ?_); (case ee_ => rfl))
  | ((with_reducible refine' s_gGen ?ee_ ?_); (case ee_ => rfl))
  | ((with_reducible refine' s_gTag ?ee_ ?_); (case ee_ => rfl))
  | ((with_reducible refine' s_endN ?bb_ ?_); (case bb_ => walk_at "bk"))
  | ((with_reducible refine' s_dpop ?ee_ ?_); (case ee_ => rfl))
  | with_reducible refine s_swap2 ?_
  | ((with_reducible refine' x_swap2 ?ee_ ?_); (case ee_ => rfl))
  | ((with_reducible refine' s_gS ?ee_ ?_); (case ee_ => rfl))
  | ((with_reducible refine' x_gS ?ee_ ?ff_ ?gg_ ?_); (case ee_ => rfl); (case ff_ => rfl); (case gg_ => first | assumption | rfl))
  | ((with_reducible refine' x_dpop ?ee_ ?ff_ ?gg_ ?_); (case ee_ => rfl); (case ff_ => rfl); (case gg_ => rfl)))
local macro_rules | `(tactic| walk_at "ds") => `(tactic| (repeat' (walk_at "ds1")))
set_option hygiene false in
local macro_rules | `(tactic| walk_at "dx") => `(tactic| (repeat' (first | walk_at "ds1" | with_reducible refine (fun (a : Addr) => ?_ : ∀ _ : Addr, _) | with_reducible refine ite_d (fun c => ?_) (fun c => ?_) | with_reducible refine ite_nd (fun c => ?_) (fun c => ?_) | with_reducible refine ite_nb (fun c => ?_) (fun c => ?_) | with_reducible refine ite_b (fun c => ?_) (fun c => ?_))))
set_option hygiene false in
local macro_rules | `(tactic| walk_at "dy") => `(tactic| (repeat' (first | walk_at "ds1" | with_reducible refine (fun (a : Addr) => ?_ : ∀ _ : Addr, _))))
/-! ### the law k41 -/
theorem kD_val (ms : List Mir) (k : List Key) : (lookD (kvD ms) k).map (fun d => match d with | .str s => V.str s | _ => V.non) = valV (kvsOf ms) k := by
  unfold lookD valV kvD kvsOf
  induction ms with
  | nil => rfl
  | cons m ms ih =>
    rw [List.map_cons, List.map_cons, List.find?_cons, List.find?_cons]
    by_cases h : ptK (mK m) = k
    · simp [h]
    · simp only [h, decide_false]
      exact ih
theorem kD_str {ms : List Mir} {k : List Key} {d : D} (h : lookD (kvD ms) k = some d) : ∃ m ∈ ms, d = .str m.2.2 := by
  unfold lookD kvD at h
  cases e : (ms.map fun m => (ptK (mK m), D.str m.2.2)).find? fun p => decide (p.1 = k) with
  | none => rw [e] at h; cases h
  | some q =>
    rw [e] at h
    cases h
    obtain ⟨m, hm, rfl⟩ := List.mem_map.mp (List.mem_of_find?_eq_some e)
    exact ⟨m, hm, rfl⟩
theorem kD_mem {ms : List Mir} (nd : (ms.map mK).Nodup) {m : Mir} (h : m ∈ ms) : kindD ms m.1 m.2.1 = .str m.2.2 := by
  have a := kD_val ms (ptK (mK m))
  have b' : valV (kvsOf ms) (ptK (mK m)) = some (.str m.2.2) := kvs_get nd h
  rw [b'] at a
  unfold kindD
  show (lookD (kvD ms) (ptK (mK m))).getD .non = _
  cases q : lookD (kvD ms) (ptK (mK m)) with
  | none => rw [q] at a; cases a
  | some d =>
    obtain ⟨m, _, rfl⟩ := kD_str q
    rw [q] at a
    injection a with a
    injection a with a
    rw [a]
    rfl
theorem keyLt_le {a b : Mir} (h : keyLt a b) : Mle a b := by
  refine KeyOrd.kle_of_klt ?_
  show lexLt itemOrd (mKeyL a) (mKeyL b) = true
  unfold mKeyL
  have it : ∀ x y : Int, itemOrd.blt (.inl x) (.inl y) = decide (x < y) := fun _ _ => rfl
  rcases h with h | ⟨h1, h2⟩
  · exact lex_true.mpr (.inl (by rw [it]; exact decide_eq_true h))
  · refine lex_true.mpr (.inr ⟨by rw [it]; exact decide_eq_false (by omega), lex_true.mpr (.inl (by rw [it]; exact decide_eq_true h2))⟩)
theorem cutL_mem {α : Type} {l : List α} {lo hi : Option Int} {x : α} (h : x ∈ cutL l lo hi) : x ∈ l := by
  unfold cutL at h
  exact List.mem_of_mem_drop (List.mem_of_mem_take h)
theorem cutL_len {α : Type} {l : List α} {lo hi : Option Int} : (cutL l lo hi).length ≤ l.length := by
  unfold cutL
  rw [List.length_take, List.length_drop]
  omega
theorem rngC_get {lo c : Int} {n i : Nat} {d : D} (h : (rngD lo c n)[i]? = some d) : i < n ∧ d = .int (lo + (i : Int) * c) := by
  have hi := (List.getElem?_eq_some_iff.mp h).1
  rw [rngD_len] at hi
  rw [rngD_at hi] at h
  exact ⟨hi, (Option.some.inj h).symm⟩
theorem okSs_rows (n : Nat) : ∀ rs : List Row, okSs (n + 1) (rs.map rowD) = true
  | [] => rfl
  | r :: rs => by
    rw [List.map_cons, okSs, okSs_rows n rs, Bool.and_true]
    rfl
theorem okS_rows {n : Nat} {rs : List Row} (h : rs.length ≤ 1000000) : okS (n + 2) (rowsD rs) = true := by
  rw [okS, Bool.and_eq_true]
  exact ⟨decide_eq_true (by rw [List.length_map]; exact h), okSs_rows n rs⟩
theorem okSs_mirs (n : Nat) : ∀ ms : List Mir, okSs (n + 1) (ms.map mirD) = true
  | [] => rfl
  | m :: ms => by
    rw [List.map_cons, okSs, okSs_mirs n ms, Bool.and_true]
    rfl
theorem okS_mirs {n : Nat} {ms : List Mir} (h : ms.length ≤ 1000000) : okS (n + 2) (mirsD ms) = true := by
  show okS (n + 2) (.lst (ms.map mirD)) = true
  rw [okS, Bool.and_eq_true]
  exact ⟨decide_eq_true (by rw [List.length_map]; exact h), okSs_mirs n ms⟩
theorem cellsS_int {b : Int} {ns : List Int} {n i : Nat} {c : D} (h : ([D.int b] ++ (ns.map D.int).take n)[i]? = some c) : ∃ cell : Int, c = .int cell := by
  have m := List.mem_of_getElem? h
  rcases List.mem_append.mp m with m | m
  · exact ⟨b, List.mem_singleton.mp m⟩
  · obtain ⟨k, _, e⟩ := List.mem_map.mp (List.mem_of_mem_take m)
    exact ⟨k, e.symm⟩
theorem rgc_two {i j : Int} {n : Nat} (h0 : 0 ≤ i) (h1 : i ≤ 100000) (h2 : 0 ≤ j) (h3 : j ≤ 100000) (hn : (n : Int) = if i < j then (j - i - 1) / 2 + 1 else 0) : RgC i j 2 n := by
  have rs : Builtin.Range.rangeSize i j 2 = n := by
    unfold Builtin.Range.rangeSize
    rw [if_pos (by decide), hn]
  refine ⟨by decide, by decide, ?_, rs⟩
  unfold Builtin.Range.small
  rw [rs]
  simp only [Builtin.Range.rangeFitsLong, Bool.and_eq_true, Bool.or_eq_true, decide_eq_true_eq, beq_iff_eq, show ((2 : Int) > 0) by decide, if_true]
  have : (n : Int) ≤ 100001 := by rw [hn]; split <;> omega
  omega
abbrev listsD (a c e : List Row) : D := .lst [rowsD a, rowsD c, rowsD e]
def refT (n : Int) : D := .tup [.int n, .bl true, .bl false]
def conSDue : Con := fun es P _ => ∃ (a c e : List Row) (n : Int), es = [.imm (listsD a c e), .int n] ∧ SmallR a ∧ SmallR c ∧ SmallR e ∧ c ≠ [] ∧ leastN a e ≤ n ∧ n ≤ 1000 ∧ ∀ l, P (.own l (rowsD (lenRows a c e n))) es
def conLMs : Con := fun es P _ => ∃ (w : Int) (rs : List Row), es = [.int w, .imm (rowsD rs)] ∧ 1 ≤ w ∧ w ≤ 12 ∧ rs.length ≤ 60 ∧ (∀ r ∈ rs, rowOk w r = true) ∧ ∀ l, P (.own l (mirsD (lawMs w rs))) es
def conRefS (A : Ad) : Con := fun es P _ => ∃ (w : Int) (a c e : List Row) (n : Int), es = [.imm (strpD A.C_Strip w a c e), .int n] ∧ StrpOk w a c e ∧ w ≤ 12 ∧ n < leastN a e ∧ ∀ l, P (.own l (.lst [refT n, refT n])) es
def conBIs (A : Ad) : Con := fun es P _ => ∃ (w n : Int) (rs : List Row), es = [.imm (brdD A.C_Board w n (rowMs rs)), .int w, .imm (rowsD rs)] ∧ 1 ≤ w ∧ w ≤ 12 ∧ (rs.length : Int) = n ∧ n ≤ 60 ∧ (∀ r ∈ rs, rowOk w r = true) ∧ P (.imm (.bl true)) es
theorem strp_of {w : Int} {a c e : List Row} (w1 : 1 ≤ w) (w2 : w ≤ 11) (h : ThreeOk w a c e) : StrpOk w a c e := by
  obtain ⟨la, lc, le, c1, ok⟩ := h
  have sm : ∀ l : List Row, l.length ≤ 40 → (∀ r ∈ l, rowOk w r = true) → SmallR l := fun l h1 h2 => ⟨by omega, fun r hr => by
    obtain ⟨x, y, _⟩ := rowOk_iff.mp (h2 r hr)
    omega⟩
  exact ⟨w1, by omega, sm a la fun r hr => ok r (.inl hr), sm c lc fun r hr => ok r (.inr (.inl hr)), sm e le fun r hr => ok r (.inr (.inr hr)), List.length_pos_iff.mp c1, ok⟩
theorem bad_none {w : Int} {a c e : List Row} (h : StrpOk w a c e) : badRow w (a ++ c ++ e) = none := by
  unfold badRow
  rw [List.find?_eq_none]
  intro r hr z
  rw [h.2.2.2.2.2.2 r (by simpa [or_assoc] using hr)] at z
  cases z
theorem lows {a e : List Row} {p : Int} {i : Nat} {c : D} (h : ([.int (leastN a e - 1), .int 0, .int (-p)] : List D)[i]? = some c) (h0 : 0 ≤ p) : ∃ low, c = .int low ∧ low < leastN a e := by
  have m := List.mem_of_getElem? h
  have : 1 ≤ leastN a e := by unfold leastN; omega
  simp only [List.mem_cons, List.not_mem_nil, or_false] at m
  rcases m with rfl | rfl | rfl
  · exact ⟨_, rfl, by omega⟩
  · exact ⟨_, rfl, by omega⟩
  · exact ⟨_, rfl, by omega⟩
theorem sizes {a e : List Row} {p q r : Int} {i : Nat} {c : D} (h : ([.int (leastN a e), .int (leastN a e + p), .int (if q + 1 > leastN a e then q + 1 else leastN a e), .int (if r + 1 > leastN a e then r + 1 else leastN a e)] : List D)[i]? = some c) (hl : leastN a e ≤ 80)
    (p0 : 0 ≤ p) (p1 : p < 5) (q0 : 0 ≤ q) (q1 : q < 60) (r0 : 0 ≤ r) (r1 : r < 400) : ∃ sz, c = .int sz ∧ leastN a e ≤ sz ∧ sz ≤ 400 := by
  have m := List.mem_of_getElem? h
  simp only [List.mem_cons, List.not_mem_nil, or_false] at m
  rcases m with rfl | rfl | rfl | rfl
  · exact ⟨_, rfl, by omega, by omega⟩
  · exact ⟨_, rfl, by omega, by omega⟩
  · exact ⟨_, rfl, by split <;> omega, by split <;> omega⟩
  · exact ⟨_, rfl, by split <;> omega, by split <;> omega⟩
theorem okS_fin {w n : Int} {a c e : List Row} (h1 : a.length ≤ 1000000) (h2 : c.length ≤ 1000000) (h3 : e.length ≤ 1000000) : okS 7 (.tup [.int w, rowsD a, rowsD c, rowsD e, .int n]) = true := by
  have q1 : okS 6 (rowsD a) = true := okS_rows (n := 4) h1
  have q2 : okS 6 (rowsD c) = true := okS_rows (n := 4) h2
  have q3 : okS 6 (rowsD e) = true := okS_rows (n := 4) h3
  rw [okS, okSs, okSs, okSs, okSs, okSs, okSs, q1, q2, q3]
  rfl
section
variable {P : Program} {w : World} {K : PySem.W.Frag} {mg : Str → Option Value} {base : Heap} {A : Ad}
theorem okd__law_due (T : Txt K mg A) : FnOk P w K mg base (L2.CX P w) (0 + 1) A.f__law_due A.d__law_due P__law_due (spD K conSDue) := by
  refine okD_fn T.F__law_due sc__law_due (fun es P PX h => ?_) (fun cdv A' outer s H I E es R PX hr fo hc => ?_)
  · obtain ⟨ra, rc, re, n, rfl, _⟩ := h
    rfl
  obtain ⟨ra, rc, re, n, rfl, sa, sc, se, ne, ln0, n1, hP⟩ := hc
  have hu := hu_of hr
  refine ⟨_, (dss_cons (ds_set (i := 2) sc__law_due.nd rfl (Or.inl rfl) (de_typ dcr_list (by rfl) T.n_list (by decide +kernel) (da_cons (de_ix dix (dv 0) de_int) da_nil)))
(dss_cons (ds_for (passes_of rfl) rfl (di_rng1 (by rfl) T.n_range (da_cons (de_op dor_sub (de_op dor_sub (dv 1) (de_blt dcr_len (by rfl) T.n_len (by decide +kernel) (da_cons (de_ix dix (dv 0) de_int) da_nil))) (de_blt dcr_len (by rfl) T.n_len (by decide +kernel) (da_cons (de_ix dix (dv 0) de_int) da_nil))) da_nil)) (dg_name (i := 3) sc__law_due.nd rfl (Or.inl rfl))
(dss_one (ds_expr (de_mut PySem.F.slot_list_append PySem.F.type_list_append mt_append dm_append (pv 2) (da_cons (de_ix dix (de_ix dix (dv 0) de_int) (de_op dor_mod (dv 3) (de_blt dcr_len (by rfl) T.n_len (by decide +kernel) (da_cons (de_ix dix (dv 0) de_int) da_nil)))) da_nil)))))
(dss_one (ds_ret (de_op dor_add (dv 2) (de_ix dix (dv 0) de_int)))))), ?_⟩
  walk_at "dy"
  have la := sa.1
  have lc := sc.1
  have le := se.1
  have c0 : 0 < rc.length := List.length_pos_iff.mpr ne
  have ln : (ra.length : Int) + re.length ≤ n := by
    unfold leastN at *
    omega
  walk_at "dx"
  refine ⟨_, rfl, by simp only [List.length_map]; omega, by simp only [List.length_map]; omega, ?_⟩
  refine ⟨fun k s => ∃ (aT : Addr) (v3 : Option Ent), s = [some (.imm (listsD ra rc re)), some (.imm (.int n)), some (.own aT (.lst ((ra ++ midR rc k).map rowD))), v3], ⟨_, _, by rw [show ra ++ midR rc 0 = ra by simp [midR]]; rfl⟩, ?_, ?_⟩
  · rintro k z s hz ⟨aT, v3, rfl⟩
    obtain ⟨hk, rfl⟩ := rng_get hz
    rw [Int.zero_add]
    have ml : (midR rc k).length = k := by unfold midR; rw [List.length_map, List.length_range]
    have kl : k < 1000 := by simp only [List.length_map] at hk; omega
    have hm : k % rc.length < rc.length := Nat.mod_lt _ c0
    have x1 : ixN (rc.map rowD).length ((k : Int) % ((rc.map rowD).length : Int)) = some (k % rc.length) := by
      rw [List.length_map, show (k : Int) % (rc.length : Int) = ((k % rc.length : Nat) : Int) from rfl]
      exact ixS_k hm
    have x2 : (rc.map rowD)[k % rc.length]? = some (rowD (rc.getD (k % rc.length) ([], []))) := by
      rw [List.getElem?_map, List.getD_eq_getElem?_getD, List.getElem?_eq_getElem hm]; rfl
    have lp : 0 < (rc.map rowD).length := by rw [List.length_map]; exact c0
    have lp2 : (rc.map rowD).length ≤ 1000 := by rw [List.length_map]; exact lc
    walk_at "dx"
    refine m_app (by rw [List.length_map, List.length_append, ml]; omega) ?_
    have E : (ra ++ midR rc (k + 1)).map rowD = (ra ++ midR rc k).map rowD ++ [rowD (rc.getD (k % rc.length) ([], []))] := by
      rw [show midR rc (k + 1) = midR rc k ++ [rc.getD (k % rc.length) ([], [])] by unfold midR; rw [List.range_succ, List.map_append]; rfl, ← List.append_assoc, List.map_append (l₁ := ra ++ midR rc k)]
      rfl
    dsimp only
    rw [E]
    exact ⟨_, _, rfl⟩
  · rintro s ⟨aT, v3, rfl⟩
    rw [rngD_len, show (n - ((ra.map rowD).length : Int) - ((re.map rowD).length : Int)).toNat = (n - ra.length - re.length).toNat by rw [List.length_map, List.length_map]]
    have ml : (midR rc (n - ra.length - re.length).toNat).length = (n - ra.length - re.length).toNat := by unfold midR; rw [List.length_map, List.length_range]
    walk_at "dx"
    refine o_addL (Nat.le_trans (m := 10000) (by rw [List.length_map, List.length_map, List.length_append, ml]; omega) (by decide)) fun a2 => ?_
    rw [← List.map_append]
    walk_at "dx"
    exact hP _
theorem okd__law_mirrors (T : Txt K mg A) : FnOk P w K mg base (L2.CX P w) (0 + 1) A.f__law_mirrors A.d__law_mirrors P__law_mirrors (spD K conLMs) := by
  refine okD_fn T.F__law_mirrors sc__law_mirrors (fun es P PX h => ?_) (fun cdv A' outer s H I E es R PX hr fo hc => ?_)
  · obtain ⟨w, rs, rfl, _⟩ := h
    rfl
  obtain ⟨w, rs, rfl, w1, w2, hl, ok, hP⟩ := hc
  have hu := hu_of hr
  refine ⟨_, (dss_cons (ds_set (i := 2) sc__law_mirrors.nd rfl (Or.inl rfl) (de_lst da_nil))
(dss_cons (ds_for (passes_of rfl) rfl (di_rng2 (by rfl) T.n_range (da_cons de_int (da_cons (de_op dor_mul de_int (dv 0)) da_nil))) (dg_name (i := 3) sc__law_mirrors.nd rfl (Or.inl rfl))
(dss_one (ds_for (passes_of rfl) rfl (di_rng3 (by rfl) T.n_range (da_cons (de_op dor_add de_int (de_op dor_mod (dv 3) de_int)) (da_cons (de_op dor_mul de_int (de_blt dcr_len (by rfl) T.n_len (by decide +kernel) (da_cons (dv 1) da_nil))) (da_cons de_int da_nil)))) (dg_name (i := 4) sc__law_mirrors.nd rfl (Or.inl rfl))
(dss_cons (ds_set (i := 5) sc__law_mirrors.nd rfl (Or.inl rfl) (de_ix dix (de_ix dix (de_ix dix (dv 1) (de_op dor_div (de_op dor_sub (dv 4) de_int) de_int)) (de_op dor_mod (dv 3) de_int)) (de_op dor_div (de_op dor_sub (dv 3) de_int) de_int)))
(dss_one (ds_if (dt_cmp (dor_ne hr.units) (dv 5) de_str (nomark _))
(dss_one (ds_expr (de_mut PySem.F.slot_list_append PySem.F.type_list_append mt_append dm_append (pv 2) (da_cons (de_tup (da_cons (dv 3) (da_cons (dv 4) (da_cons (dv 5) da_nil)))) da_nil))))
dss_nil))))))
(dss_one (ds_ret (dv 2))))), ?_⟩
  walk_at "dy"
  have lrs : (rs.map rowD).length = rs.length := List.length_map ..
  walk_at "dx"
  refine ⟨fun i e => ∃ (aM : Addr) (v3 v4 v5 : Option Ent), e = [some (.imm (.int w)), some (.imm (rowsD rs)), some (.own aM (.lst ((lmK rs i).map mirD))), v3, v4, v5], ⟨_, _, _, _, rfl⟩, ?_, ?_⟩
  · rintro i c e hc ⟨aM, v3, v4, v5, rfl⟩
    obtain ⟨hi, rfl⟩ := rng_get hc
    have hi : i < (2 * w - 1).toNat := hi
    have hi2 : i < 24 := by omega
    walk_at "dx"
    obtain ⟨m, hm⟩ : ∃ m : Nat, m = (rs.length - (1 + (i : Int)) % 2).toNat := ⟨_, rfl⟩
    refine ⟨_, _, _, m, rfl, rgc_two (by omega) (by omega) (by omega) (by omega) (by split <;> omega), ?_⟩
    refine ⟨fun j e => ∃ (v4 v5 : Option Ent), e = [some (.imm (.int w)), some (.imm (rowsD rs)), some (.own aM (.lst ((lmK rs i ++ lmCol rs (1 + (i : Int)) j).map mirD))), some (.imm (.int (1 + (i : Int)))), v4, v5], ⟨_, _, by rw [show lmCol rs (1 + (i : Int)) 0 = [] by simp [lmCol], List.append_nil]; rfl⟩, ?_, ?_⟩
    · rintro j c e hc ⟨v4, v5, rfl⟩
      obtain ⟨hj, rfl⟩ := rngC_get hc
      have jl : j < rs.length := by omega
      obtain ⟨q, hq⟩ : ∃ q, rs[j]? = some q := ⟨_, List.getElem?_eq_getElem jl⟩
      obtain ⟨l1, l2, _⟩ := rowOk_iff.mp (ok q (List.mem_of_getElem? hq))
      have eq : rs.getD j ([], []) = q := by rw [List.getD_eq_getElem?_getD, hq]; rfl
      obtain ⟨y, hy⟩ : ∃ y : Int, y = 1 + (1 + (i : Int)) % 2 + (j : Int) * 2 := ⟨_, rfl⟩
      have hy2 : lmY (1 + (i : Int)) j = y := by unfold lmY; omega
      have x1 : ixN (rs.map rowD).length ((y - 1) / 2) = some j := by
        rw [show (y - 1) / 2 = (j : Int) by omega]
        exact ixS_k (by rw [List.length_map]; exact jl)
      have x2 : (rs.map rowD)[j]? = some (.tup [.str (tx q.1), .str (tx q.2)]) := by rw [List.getElem?_map, hq]; rfl
      obtain ⟨b, l, t1, t2, ll, lk, lat⟩ : ∃ (b : Nat) (l : List Nat), ixN [D.str (tx q.1), D.str (tx q.2)].length ((1 + (i : Int)) % 2) = some b ∧ [D.str (tx q.1), D.str (tx q.2)][b]? = some (.str (tx l)) ∧ l.length ≤ 1000 ∧ ((1 + (i : Int) - 1) / 2).toNat < l.length ∧ lmAt rs (1 + (i : Int)) y = l.getD ((1 + (i : Int) - 1) / 2).toNat 46 := by
        unfold lmAt
        rw [show ((y - 1) / 2).toNat = j by omega, eq]
        by_cases c : (1 + (i : Int)) % 2 = 0
        · rw [if_pos c, c]
          exact ⟨0, q.1, by rfl, rfl, by omega, by omega, rfl⟩
        · rw [if_neg c, show (1 + (i : Int)) % 2 = 1 by omega]
          exact ⟨1, q.2, by rfl, rfl, by omega, by omega, rfl⟩
      have t3 : ixN l.length ((1 + (i : Int) - 1) / 2) = some ((1 + (i : Int) - 1) / 2).toNat := by
        obtain ⟨k, hk⟩ : ∃ k : Nat, (1 + (i : Int) - 1) / 2 = k := ⟨((1 + (i : Int) - 1) / 2).toNat, by omega⟩
        rw [hk] at lk ⊢
        exact ixS_k (by omega)
      have t4 : l[((1 + (i : Int) - 1) / 2).toNat]? = some (lmAt rs (1 + (i : Int)) y) := by rw [lat]; exact getD_some lk
      have cs := lmCol_suc rs (1 + (i : Int)) j
      rw [hy2] at cs
      have sd := sg_dot (lmAt rs (1 + (i : Int)) y)
      have ml : (lmK rs i ++ lmCol rs (1 + (i : Int)) j).length ≤ 3000 := by
        have a1 : ∀ i, (lmK rs i).length ≤ i * 60 := fun i => by
          induction i with
          | zero => simp [lmK]
          | succ i ih =>
            rw [lmK_suc, List.length_append]
            have : (lmCol rs (1 + (i : Int)) (rs.length - (1 + (i : Int)) % 2).toNat).length ≤ (rs.length - (1 + (i : Int)) % 2).toNat := by
              unfold lmCol
              rw [List.length_map]
              exact Nat.le_trans (List.length_filter_le ..) (by rw [List.length_range]; exact Nat.le_refl _)
            omega
        have a2 : (lmCol rs (1 + (i : Int)) j).length ≤ j := by
          unfold lmCol
          rw [List.length_map]
          exact Nat.le_trans (List.length_filter_le ..) (by rw [List.length_range]; exact Nat.le_refl _)
        have := a1 i
        rw [List.length_append]
        omega
      rw [← hy]
      walk_at "dx"
      · have c' : ¬ lmAt rs (1 + (i : Int)) y = 46 := fun z => by first | exact absurd (sd.mpr z) (by assumption)
        rw [if_pos c'] at cs
        refine m_app (by rw [List.length_map]; omega) ?_
        have E : (lmK rs i ++ lmCol rs (1 + (i : Int)) (j + 1)).map mirD = (lmK rs i ++ lmCol rs (1 + (i : Int)) j).map mirD ++ [mirD (1 + (i : Int), y, sg (lmAt rs (1 + (i : Int)) y))] := by
          rw [cs, ← List.append_assoc, List.map_append (l₁ := lmK rs i ++ lmCol rs (1 + (i : Int)) j)]
          rfl
        dsimp only
        rw [E]
        exact ⟨_, _, rfl⟩
      · have c' : lmAt rs (1 + (i : Int)) y = 46 := sd.mp (by assumption)
        rw [if_neg (fun z => z c'), List.append_nil] at cs
        dsimp only
        rw [cs]
        exact ⟨_, _, rfl⟩
    · rintro e ⟨v4, v5, rfl⟩
      rw [rngD_len, hm, ← lmK_suc]
      exact ⟨_, _, _, _, rfl⟩
  · rintro e ⟨aM, v3, v4, v5, rfl⟩
    rw [rngD_len]
    walk_at "dx"
    exact hP _
theorem okd__law_refused (T : Txt K mg A) : FnOk P w K mg base (L2.CX P w) (8 + 1) A.f__law_refused A.d__law_refused P__law_refused (spD K (conRefS A)) := by
  have G_Strip_rows := okd_Strip_rows (P := P) (w := w) (base := base) T
  have G_Strip_board_for := okd_Strip_board_for (P := P) (w := w) (base := base) T
  refine okD_fn T.F__law_refused sc__law_refused (fun es P PX h => ?_) (fun cdv A' outer s H I E es R PX hr fo hc => ?_)
  · obtain ⟨w, ra, rc, re, n, rfl, _⟩ := h
    rfl
  obtain ⟨w, ra, rc, re, n, rfl, so, w12, lt, hP⟩ := hc
  have hu := hu_of hr
  refine ⟨_, (dss_cons (ds_set (i := 2) sc__law_refused.nd rfl (Or.inl rfl) (de_lst da_nil))
(dss_cons (ds_tryG (i := 3) rfl rfl sc__law_refused.nd (by rfl) (by rfl) ⟨rfl, by decide, Or.inl T.g_SandError⟩ (fun pn xe F1 hK1 tk fo =>
(dss_one (ds_expr (de_meth (dv 0) T.cl_Strip T.m_Strip_rows G_Strip_rows (hr.mono (by first | decide | omega)) T.b_Strip_rows tk fo (dg_v (dv 1) dg_nil)))))
(fun a0 C0 dd0 oe0 pn0 z0 F2 hz0 hf0 hK2 hh0 => by exact (dss_one (ds_expr (de_mut PySem.F.slot_list_append PySem.F.type_list_append mt_append dm_append (pv 2) (da_cons (de_tup (da_cons (de_xv hz0 hf0 hh0 (i := 3) rfl (by first | exact Or.inl rfl | exact Or.inr (Or.inl rfl) | exact Or.inr (Or.inr rfl))) (da_cons (de_xis hz0 hf0 hh0 (i := 3) rfl (by first | exact Or.inl rfl | exact Or.inr (Or.inl rfl) | exact Or.inr (Or.inr rfl)) (de_glob (v := .ref A.C_NoLength) rfl T.g_NoLength rfl (fun _ => .cls _)) (by rfl) T.n_isinstance) (da_cons (de_xisT hz0 hf0 hh0 (i := 3) rfl (by first | exact Or.inl rfl | exact Or.inr (Or.inl rfl) | exact Or.inr (Or.inr rfl)) (de_tup (da_cons (de_glob (v := .ref A.C_InvalidSize) rfl T.g_InvalidSize rfl (fun _ => .cls _)) (da_cons (de_glob (v := .ref A.C_InvalidRow) rfl T.g_InvalidRow rfl (fun _ => .cls _)) da_nil))) (by rfl) T.n_isinstance) da_nil)))) da_nil))))))
(dss_cons (ds_tryG (i := 3) rfl rfl sc__law_refused.nd (by rfl) (by rfl) ⟨rfl, by decide, Or.inl T.g_SandError⟩ (fun pn xe F1 hK1 tk fo =>
(dss_one (ds_expr (de_meth (dv 0) T.cl_Strip T.m_Strip_board_for G_Strip_board_for (hr.mono (by first | decide | omega)) T.b_Strip_board_for tk fo (dg_v (dv 1) dg_nil)))))
(fun a0 C0 dd0 oe0 pn0 z0 F2 hz0 hf0 hK2 hh0 => by exact (dss_one (ds_expr (de_mut PySem.F.slot_list_append PySem.F.type_list_append mt_append dm_append (pv 2) (da_cons (de_tup (da_cons (de_xv hz0 hf0 hh0 (i := 3) rfl (by first | exact Or.inl rfl | exact Or.inr (Or.inl rfl) | exact Or.inr (Or.inr rfl))) (da_cons (de_xis hz0 hf0 hh0 (i := 3) rfl (by first | exact Or.inl rfl | exact Or.inr (Or.inl rfl) | exact Or.inr (Or.inr rfl)) (de_glob (v := .ref A.C_NoLength) rfl T.g_NoLength rfl (fun _ => .cls _)) (by rfl) T.n_isinstance) (da_cons (de_xisT hz0 hf0 hh0 (i := 3) rfl (by first | exact Or.inl rfl | exact Or.inr (Or.inl rfl) | exact Or.inr (Or.inr rfl)) (de_tup (da_cons (de_glob (v := .ref A.C_InvalidSize) rfl T.g_InvalidSize rfl (fun _ => .cls _)) (da_cons (de_glob (v := .ref A.C_InvalidRow) rfl T.g_InvalidRow rfl (fun _ => .cls _)) da_nil))) (by rfl) T.n_isinstance) da_nil)))) da_nil))))))
(dss_one (ds_ret (dv 2)))))), ?_⟩
  walk_at "dy"
  have x1 := T.xf_NoLength
  have x2 := T.no_NoLength
  have x3 := T.xc_NoLength
  have x4 := T.ki_NoLength_NoLength
  have x5 := T.ki_NoLength_InvalidSize
  have x6 := T.ki_NoLength_InvalidRow
  have x4 := T.xc_NoLength
  walk_at "dx"
  intro F' hF
  walk_at "dx"
  refine ⟨w, ra, rc, re, n, rfl, so.2.2.1, so.2.2.2.1, so.2.2.2.2.1, so.2.2.2.2.2.1, fun _ => ?_, fun ge => absurd lt (by omega)⟩
  walk_at "dx"
  refine ⟨T.tb_NoLength, rfl, fun a0 => ?_⟩
  walk_at "dx"
  refine m_app (Nat.le_trans (m := 10) (by simp) (by decide)) ?_
  walk_at "dx"
  intro F2 hF2
  walk_at "dx"
  refine ⟨w, ra, rc, re, n, rfl, so, w12, fun _ => ?_, fun ge => absurd lt (by omega)⟩
  walk_at "dx"
  refine ⟨T.tb_NoLength, rfl, fun a1 => ?_⟩
  walk_at "dx"
  refine m_app (Nat.le_trans (m := 10) (by simp) (by decide)) ?_
  walk_at "dx"
  exact hP _
theorem okd__law_board_is (T : Txt K mg A) : FnOk P w K mg base (L2.CX P w) (10 + 1) A.f__law_board_is A.d__law_board_is P__law_board_is (spD K (conBIs A)) := by
  have G__law_mirrors := okd__law_mirrors (P := P) (w := w) (base := base) T
  have G__law_same := okd__law_same (P := P) (w := w) (base := base) T
  have G_Board_width := okd_Board_width (P := P) (w := w) (base := base) T
  have G_Board_height := okd_Board_height (P := P) (w := w) (base := base) T
  have G_Board_mirrors := okd_Board_mirrors (P := P) (w := w) (base := base) T
  have G_Board_mirror_at := okd_Board_mirror_at (P := P) (w := w) (base := base) T
  refine okD_fn T.F__law_board_is sc__law_board_is (fun es P PX h => ?_) (fun cdv A' outer s H I E es R PX hr fo hc => ?_)
  · obtain ⟨w, n, rs, rfl, _⟩ := h
    rfl
  obtain ⟨w, n, rs, rfl, w1, w2, ln, n60, ok, hP⟩ := hc
  have hu := hu_of hr
  refine ⟨_, (dss_cons (ds_set (i := 3) sc__law_board_is.nd rfl (Or.inl rfl) (de_call G__law_mirrors (hr.mono (by first | decide | omega)) rfl T.g__law_mirrors T.k__law_mirrors T.b__law_mirrors (takes_of rfl rfl rfl rfl) fo (dg_v (dv 1) (dg_v (dv 2) dg_nil))))
(dss_cons (ds_if (dt_not (dt_val (de_call G__law_same (hr.mono (by first | decide | omega)) rfl T.g__law_same T.k__law_same T.b__law_same (takes_of rfl rfl rfl rfl) fo (dg_v (de_tup (da_cons (de_prop (dv 0) T.cl_Board T.pr_Board_width G_Board_width (hr.mono (by first | decide | omega)) T.b_Board_width) (da_cons (de_prop (dv 0) T.cl_Board T.pr_Board_height G_Board_height (hr.mono (by first | decide | omega)) T.b_Board_height) da_nil))) (dg_v (de_tup (da_cons (dv 1) (da_cons (de_blt dcr_len (by rfl) T.n_len (by decide +kernel) (da_cons (dv 2) da_nil)) da_nil))) dg_nil)))))
(dss_one (ds_ret de_bl))
dss_nil)
(dss_cons (ds_if (dt_not (dt_val (de_call G__law_same (hr.mono (by first | decide | omega)) rfl T.g__law_same T.k__law_same T.b__law_same (takes_of rfl rfl rfl rfl) fo (dg_v (de_prop (dv 0) T.cl_Board T.pr_Board_mirrors G_Board_mirrors (hr.mono (by first | decide | omega)) T.b_Board_mirrors) (dg_v (dv 3) dg_nil)))))
(dss_one (ds_ret de_bl))
dss_nil)
(dss_cons (ds_for (passes_of rfl) rfl (di_seq (de_op dor_add (de_sl (dv 3) dx_no (dx_some de_int)) (de_sl (dv 3) (dx_some (de_neg de_int)) dx_no))) (dg_tup (n := 3) rfl (dgs_cons (dg_name (i := 4) sc__law_board_is.nd rfl (Or.inl rfl)) (dgs_cons (dg_name (i := 5) sc__law_board_is.nd rfl (Or.inl rfl)) (dgs_cons (dg_name (i := 6) sc__law_board_is.nd rfl (Or.inl rfl)) dgs_nil))))
(dss_one (ds_if (dt_not (dt_val (de_call G__law_same (hr.mono (by first | decide | omega)) rfl T.g__law_same T.k__law_same T.b__law_same (takes_of rfl rfl rfl rfl) fo (dg_v (de_meth (dv 0) T.cl_Board T.m_Board_mirror_at G_Board_mirror_at (hr.mono (by first | decide | omega)) T.b_Board_mirror_at (takes_of rfl rfl rfl rfl) fo (dg_v (dv 4) (dg_v (dv 5) dg_nil))) (dg_v (dv 6) dg_nil)))))
(dss_one (ds_ret de_bl))
dss_nil)))
(dss_one (ds_ret de_bl)))))), ?_⟩
  walk_at "dy"
  have rk := rmK_len ok _ (Nat.le_refl _)
  have rb : (rowMs rs).length ≤ 2000 := by
    have : (rs.length : Int) * (2 * w) ≤ 60 * 24 := Int.mul_le_mul (by omega) (by omega) (by omega) (by decide)
    unfold rowMs
    omega
  walk_at "dx"
  refine ⟨w, rs, rfl, w1, w2, by omega, ok, fun lL => ?_⟩
  walk_at "dx"
  refine ⟨w, n, rowMs rs, rfl, ?_⟩
  walk_at "dx"
  refine ⟨w, n, rowMs rs, rfl, ?_⟩
  walk_at "dx"
  have e1 : (((rs.map rowD).length : Nat) : Int) = n := by rw [List.length_map]; exact ln
  refine ⟨.tup [.int w, .int n], by rw [e1], rfl, ?_⟩
  walk_at "dx"
  refine ⟨w, n, rowMs rs, rfl, rb, rowMs_nd rs, fun ns lN pm pw => ?_⟩
  have lp := law_perm w1 ok
  have en : ns = lawMs w rs := sorted_one (pm.trans lp) pw ((lawMs_lt w rs).imp keyLt_le)
  subst en
  have ll := lp.length_eq
  walk_at "dx"
  refine ⟨mirsD (lawMs w rs), rfl, okS_mirs (by omega), ?_⟩
  walk_at "dx"
  refine o_addL (Nat.le_trans (m := 10000) (by
    have a1 := cutL_len (l := (lawMs w rs).map mirD) (lo := none) (hi := some 9)
    have a2 := cutL_len (l := (lawMs w rs).map mirD) (lo := some (-9)) (hi := none)
    rw [List.length_map] at a1 a2
    omega) (by decide)) fun aJ => ?_
  walk_at "dx"
  refine ⟨fun i e => ∃ v4 v5 v6 : Option Ent, e = [some (.imm (brdD A.C_Board w n (rowMs rs))), some (.int w), some (.imm (rowsD rs)), some (.imm (mirsD (lawMs w rs))), v4, v5, v6], ⟨_, _, _, rfl⟩, ?_, ?_⟩
  · rintro i c e hc ⟨v4, v5, v6, rfl⟩
    obtain ⟨m, hm, rfl⟩ : ∃ m ∈ rowMs rs, c = mirD m := by
      have h1 := List.mem_of_getElem? hc
      have h2 : c ∈ (lawMs w rs).map mirD := by
        rcases List.mem_append.mp h1 with z | z
        · exact cutL_mem z
        · exact cutL_mem z
      obtain ⟨m, hm, e⟩ := List.mem_map.mp h2
      exact ⟨m, lp.mem_iff.mpr hm, e.symm⟩
    have mi := (atRow_ins ok (mem_rowMs.mp hm)).1
    rw [ln] at mi
    have mk := kD_mem (rowMs_nd rs) hm
    obtain ⟨x, y, s⟩ := m
    walk_at "dx"
    refine ⟨w, n, rowMs rs, x, y, rfl, fun z => absurd mi z, fun _ => ?_⟩
    walk_at "dx"
    dsimp only at mk
    refine ⟨.str s, by rw [mk], rfl, ?_⟩
    walk_at "dx"
    exact ⟨_, _, _, rfl⟩
  · rintro e ⟨v4, v5, v6, rfl⟩
    walk_at "dx"
    exact hP
theorem okd_law (T : Txt K mg A) : FnOk P w K mg base (L2.CX P w) (12 + 1) A.f_law A.d_law P_law (spD K conLaw) := by
  have G__law_well := okd__law_well (P := P) (w := w) (base := base) T
  have G__law_pick := okd__law_pick (P := P) (w := w) (base := base) T
  have G__law_lists := okd__law_lists (P := P) (w := w) (base := base) T
  have G_Strip___init__ := okd_Strip___init__ (P := P) (w := w) (base := base) T
  have G__law_same := okd__law_same (P := P) (w := w) (base := base) T
  have G__law_refused := okd__law_refused (P := P) (w := w) (base := base) T
  have G__law_due := okd__law_due (P := P) (w := w) (base := base) T
  have G_Strip_rows := okd_Strip_rows (P := P) (w := w) (base := base) T
  have G__law_board_is := okd__law_board_is (P := P) (w := w) (base := base) T
  have G_Strip_board_for := okd_Strip_board_for (P := P) (w := w) (base := base) T
  have G_Strip_width := okd_Strip_width (P := P) (w := w) (base := base) T
  have G_Strip_ahead := okd_Strip_ahead (P := P) (w := w) (base := base) T
  have G_Strip_cycle := okd_Strip_cycle (P := P) (w := w) (base := base) T
  have G_Strip_end := okd_Strip_end (P := P) (w := w) (base := base) T
  have G_Strip_least := okd_Strip_least (P := P) (w := w) (base := base) T
  refine okD_fn T.F_law sc_law (fun es P PX h => ?_) (fun cdv A' outer s H I E es R PX hr fo hc => ?_)
  · obtain ⟨ns, rfl, _⟩ := h
    rfl
  obtain ⟨ns, rfl, hl, hP⟩ := hc
  have hu := hu_of hr
  refine ⟨_, (dss_cons (ds_for (passes_of rfl) rfl (di_seq (de_op dor_add (de_lst (da_cons (de_op dor_add (de_op dor_pow de_int de_int) de_int) da_nil)) (de_sl (dv 0) dx_no (dx_some de_int)))) (dg_name (i := 1) sc_law.nd rfl (Or.inl rfl))
(dss_cons (ds_set (i := 2) sc_law.nd rfl (Or.inl rfl) (de_call G__law_well (hr.mono (by first | decide | omega)) rfl T.g__law_well T.k__law_well T.b__law_well (takes_of rfl rfl rfl rfl) fo (dg_v (dv 1) (dg_v de_int dg_nil))))
(dss_cons (ds_set (i := 3) sc_law.nd rfl (Or.inl rfl) (de_lst (da_cons (de_call G__law_pick (hr.mono (by first | decide | omega)) rfl T.g__law_pick T.k__law_pick T.b__law_pick (takes_of rfl rfl rfl rfl) fo (gr 2 (dg_v de_int dg_nil))) (da_cons (de_call G__law_pick (hr.mono (by first | decide | omega)) rfl T.g__law_pick T.k__law_pick T.b__law_pick (takes_of rfl rfl rfl rfl) fo (gr 2 (dg_v de_int dg_nil))) (da_cons (de_call G__law_pick (hr.mono (by first | decide | omega)) rfl T.g__law_pick T.k__law_pick T.b__law_pick (takes_of rfl rfl rfl rfl) fo (gr 2 (dg_v de_int dg_nil))) da_nil)))))
(dss_cons (ds_asg (de_call G__law_lists (hr.mono (by first | decide | omega)) rfl T.g__law_lists T.k__law_lists T.b__law_lists (takes_of rfl rfl rfl rfl) fo (gr 2 dg_nil)) (dg_tup (n := 2) rfl (dgs_cons (dg_name (i := 4) sc_law.nd rfl (Or.inl rfl)) (dgs_cons (dg_name (i := 5) sc_law.nd rfl (Or.inl rfl)) dgs_nil))))
(dss_cons (ds_set (i := 6) sc_law.nd rfl (Or.inl rfl) (de_call G__law_pick (hr.mono (by first | decide | omega)) rfl T.g__law_pick T.k__law_pick T.b__law_pick (takes_of rfl rfl rfl rfl) fo (gr 2 (dg_v (de_op dor_pow de_int de_int) dg_nil))))
(dss_cons (ds_set (i := 7) sc_law.nd rfl (Or.inl rfl) (de_make T.M_Strip G_Strip___init__ mkD_Strip (hr.mono (by first | decide | omega)) rfl T.g_Strip T.b_Strip___init__ (takes_of rfl rfl rfl rfl) fo (dg_v (dv 4) (dg_v (de_typ dcr_list (by rfl) T.n_list (by decide +kernel) (da_cons (de_ix dix (dv 5) de_int) da_nil)) (dg_v (de_typ dcr_list (by rfl) T.n_list (by decide +kernel) (da_cons (de_ix dix (dv 5) de_int) da_nil)) (dg_v (de_typ dcr_list (by rfl) T.n_list (by decide +kernel) (da_cons (de_ix dix (dv 5) de_int) da_nil)) dg_nil))))))
(dss_cut (ds_set (i := 8) sc_law.nd rfl (Or.inl rfl) (de_blt (dcr_max rfl) (by rfl) T.n_max (by decide +kernel) (da_cons de_int (da_cons (de_op dor_add (de_blt dcr_len (by rfl) T.n_len (by decide +kernel) (da_cons (de_ix dix (dv 5) de_int) da_nil)) (de_blt dcr_len (by rfl) T.n_len (by decide +kernel) (da_cons (de_ix dix (dv 5) de_int) da_nil))) da_nil))))
(dss_cons (ds_for (passes_of rfl) rfl (di_seq (de_lst (da_cons (de_op dor_sub (dv 8) de_int) (da_cons de_int (da_cons (de_neg (dv 6)) da_nil))))) (dg_name (i := 9) sc_law.nd rfl (Or.inl rfl))
(dss_one (ds_if (dt_not (dt_val (de_call G__law_same (hr.mono (by first | decide | omega)) rfl T.g__law_same T.k__law_same T.b__law_same (takes_of rfl rfl rfl rfl) fo (dg_v (de_call G__law_refused (hr.mono (by first | decide | omega)) rfl T.g__law_refused T.k__law_refused T.b__law_refused (takes_of rfl rfl rfl rfl) fo (dg_v (dv 7) (dg_v (dv 9) dg_nil))) (dg_v (de_op dor_rep (de_lst (da_cons (de_tup (da_cons (dv 9) (da_cons de_bl (da_cons de_bl da_nil)))) da_nil)) de_int) dg_nil)))))
(dss_one (ds_ret de_bl))
dss_nil)))
(dss_cons (ds_for (passes_of rfl) rfl (di_seq (de_lst (da_cons (dv 8) (da_cons (de_op dor_add (dv 8) (de_ix dix (dv 3) de_int)) (da_cons (de_blt (dcr_max rfl) (by rfl) T.n_max (by decide +kernel) (da_cons (dv 8) (da_cons (de_op dor_add (de_ix dix (dv 3) de_int) de_int) da_nil))) (da_cons (de_blt (dcr_max rfl) (by rfl) T.n_max (by decide +kernel) (da_cons (dv 8) (da_cons (de_op dor_add (de_ix dix (dv 3) de_int) de_int) da_nil))) da_nil)))))) (dg_name (i := 10) sc_law.nd rfl (Or.inl rfl))
(dss_cons (ds_set (i := 11) sc_law.nd rfl (Or.inl rfl) (de_call G__law_due (hr.mono (by first | decide | omega)) rfl T.g__law_due T.k__law_due T.b__law_due (takes_of rfl rfl rfl rfl) fo (dg_v (dv 5) (dg_v (dv 10) dg_nil))))
(dss_cons (ds_set (i := 12) sc_law.nd rfl (Or.inl rfl) (de_meth (dv 7) T.cl_Strip T.m_Strip_rows G_Strip_rows (hr.mono (by first | decide | omega)) T.b_Strip_rows (takes_of rfl rfl rfl rfl) fo (dg_v (dv 10) dg_nil)))
(dss_cons (ds_if (dt_not (dt_val (de_callB G__law_same (hr.mono (by first | decide | omega)) rfl T.g__law_same T.k__law_same T.b__law_same (takes_of rfl rfl rfl rfl) (da_cons (dv 12) (da_cons (dv 11) da_nil)))))
(dss_one (ds_ret de_bl))
dss_nil)
(dss_cons (ds_expr (de_mut0 PySem.F.slot_list_clear PySem.F.type_list_clear mt_clear dm_clear (pv 12)))
(dss_cons (ds_if (dt_not (dt_val (de_call G__law_same (hr.mono (by first | decide | omega)) rfl T.g__law_same T.k__law_same T.b__law_same (takes_of rfl rfl rfl rfl) fo (dg_v (de_methK (ks := ["n"]) (ix := [0]) (dv 7) T.cl_Strip T.m_Strip_rows G_Strip_rows (hr.mono (by first | decide | omega)) T.kw_Strip_rows_n (takes_of rfl rfl rfl rfl) fo (dk_cons (dv 10) dk_nil)) (dg_v (dv 11) dg_nil)))))
(dss_one (ds_ret de_bl))
dss_nil)
(dss_one (ds_if (dt_w (dw_and (dt_cmp dor_le (dv 10) de_int (nomark _)) (dw_and1 (dt_not (dt_val (de_call G__law_board_is (hr.mono (by first | decide | omega)) rfl T.g__law_board_is T.k__law_board_is T.b__law_board_is (takes_of rfl rfl rfl rfl) fo (dg_v (de_methK (ks := ["n"]) (ix := [0]) (dv 7) T.cl_Strip T.m_Strip_board_for G_Strip_board_for (hr.mono (by first | decide | omega)) T.kw_Strip_board_for_n (takes_of rfl rfl rfl rfl) fo (dk_cons (dv 10) dk_nil)) (dg_v (dv 4) (dg_v (dv 11) dg_nil)))))))))
(dss_one (ds_ret de_bl))
dss_nil))))))))
(dss_cons (ds_set (i := 12) sc_law.nd rfl (Or.inl rfl) (de_tup (da_cons (de_prop (dv 7) T.cl_Strip T.pr_Strip_width G_Strip_width (hr.mono (by first | decide | omega)) T.b_Strip_width) (da_cons (de_prop (dv 7) T.cl_Strip T.pr_Strip_ahead G_Strip_ahead (hr.mono (by first | decide | omega)) T.b_Strip_ahead) (da_cons (de_prop (dv 7) T.cl_Strip T.pr_Strip_cycle G_Strip_cycle (hr.mono (by first | decide | omega)) T.b_Strip_cycle) (da_cons (de_prop (dv 7) T.cl_Strip T.pr_Strip_end G_Strip_end (hr.mono (by first | decide | omega)) T.b_Strip_end) (da_cons (de_prop (dv 7) T.cl_Strip T.pr_Strip_least G_Strip_least (hr.mono (by first | decide | omega)) T.b_Strip_least) da_nil)))))))
(dss_one (ds_if (dt_not (dt_val (de_call G__law_same (hr.mono (by first | decide | omega)) rfl T.g__law_same T.k__law_same T.b__law_same (takes_of rfl rfl rfl rfl) fo (dg_v (dv 12) (dg_v (de_tup (da_cons (dv 4) (da_cons (de_ix dix (dv 5) de_int) (da_cons (de_ix dix (dv 5) de_int) (da_cons (de_ix dix (dv 5) de_int) (da_cons (dv 8) da_nil)))))) dg_nil)))))
(dss_one (ds_ret de_bl))
dss_nil))))))))))))
(dss_one (ds_ret de_bl))), ?_⟩
  walk_at "dy"
  rw [cutS_take (by decide)]
  refine o_addL (Nat.le_trans (m := 1000) (by simp only [List.length_cons, List.length_nil, List.length_take, List.length_map]; omega) (by decide)) ?_
  walk_at "dx"
  refine ⟨fun i e => ∃ v1 v2 v3 v4 v5 v6 v7 v8 v9 v10 v11 v12 : Option Ent, e = [some (.imm (.fls (ns.map D.int))), v1, v2, v3, v4, v5, v6, v7, v8, v9, v10, v11, v12], ⟨_, _, _, _, _, _, _, _, _, _, _, _, rfl⟩, ?_, ?_⟩
  · rintro i c e hc ⟨v1, v2, v3, v4, v5, v6, v7, v8, v9, v10, v11, v12, rfl⟩
    obtain ⟨cell, rfl⟩ := cellsS_int hc
    walk_at "dx"
    refine ⟨cell, 41, rfl, by decide, by decide, fun n l => ?_⟩
    walk_at "dx"
    refine ⟨l, n, 5, rfl, by decide, by decide, fun p0 n0 p00 p01 => ?_⟩
    walk_at "dx"
    refine ⟨l, n0, 60, rfl, by decide, by decide, fun p1 n1 p10 p11 => ?_⟩
    walk_at "dx"
    refine ⟨l, n1, 400, rfl, by decide, by decide, fun p2 n2 p20 p21 => ?_⟩
    walk_at "dx"
    refine ⟨l, n2, rfl, fun wd n3 ra rc re wd1 wd2 ok3 => ?_⟩
    walk_at "dx"
    refine ⟨l, n3, _, rfl, by decide, .inr (by decide +kernel), fun p4 n4 p40 p41 => ?_⟩
    walk_at "dx"
    have so := strp_of wd1 wd2 ok3
    have z1 := ok3.1
    have z2 := ok3.2.1
    have z3 := ok3.2.2.1
    have bn := bad_none so
    refine ⟨wd, ra, rc, re, rfl, so.2.2.1, so.2.2.2.1, so.2.2.2.2.1, fun z => absurd wd1 (by omega), fun _ => ⟨fun r hr => (by rw [bn] at hr; cases hr), fun _ => ⟨fun z => absurd z so.2.2.2.2.2.1, fun _ => ?_⟩⟩⟩
    walk_at "dx"
    refine s_cut (fun e => ∃ (aP : Addr) (v9 v10 v11 v12 : Option Ent), e = [some (.imm (.fls (ns.map D.int))), some (.imm (.int cell)), some (.own l (.lst [.int n4])), some (.own aP (.lst [.int p0, .int p1, .int p2])), some (.imm (.int wd)), some (.imm (listsD ra rc re)), some (.imm (.int p4)), some (.imm (strpD A.C_Strip wd ra rc re)), some (.imm (.int (leastN ra re))), v9, v10, v11, v12]) ?_ ?_
    · walk_at "dx"
      have E : (if ((ra.map rowD).length : Int) + ((re.map rowD).length : Int) > 1 then ((ra.map rowD).length : Int) + ((re.map rowD).length : Int) else 1) = leastN ra re := by
        unfold leastN
        simp only [List.length_map]
        split <;> omega
      dsimp only
      rw [E]
      exact ⟨_, _, _, _, _, rfl⟩
    rintro e ⟨aP, v9, v10, v11, v12, rfl⟩
    have lm : leastN ra re ≤ 80 := by unfold leastN; omega
    have l1 : 1 ≤ leastN ra re := by unfold leastN; omega
    walk_at "dx"
    refine ⟨fun k e => ∃ (v9 : Option Ent), e = [some (.imm (.fls (ns.map D.int))), some (.imm (.int cell)), some (.own l (.lst [.int n4])), some (.own aP (.lst [.int p0, .int p1, .int p2])), some (.imm (.int wd)), some (.imm (listsD ra rc re)), some (.imm (.int p4)), some (.imm (strpD A.C_Strip wd ra rc re)), some (.imm (.int (leastN ra re))), v9, v10, v11, v12], ⟨_, rfl⟩, ?_, ?_⟩
    · rintro k c e hc ⟨v9, rfl⟩
      obtain ⟨low, rfl, ll⟩ := lows hc p40
      walk_at "dx"
      refine ⟨wd, ra, rc, re, low, rfl, so, by omega, ll, fun lF => ?_⟩
      walk_at "dx"
      refine o_rep ⟨by decide, by decide⟩ (show 1 * 2 ≤ sizeLine by decide) fun aR => ?_
      walk_at "dx"
      refine ⟨.lst [refT low, refT low], rfl, rfl, ?_⟩
      walk_at "dx"
      exact ⟨_, rfl⟩
    rintro e ⟨v9, rfl⟩
    walk_at "dx"
    refine ⟨fun k e => ∃ (v9 v10 v11 v12 : Option Ent), e = [some (.imm (.fls (ns.map D.int))), some (.imm (.int cell)), some (.own l (.lst [.int n4])), some (.own aP (.lst [.int p0, .int p1, .int p2])), some (.imm (.int wd)), some (.imm (listsD ra rc re)), some (.imm (.int p4)), some (.imm (strpD A.C_Strip wd ra rc re)), some (.imm (.int (leastN ra re))), v9, v10, v11, v12], ⟨_, _, _, _, rfl⟩, ?_, ?_⟩
    · rintro k c e hc ⟨v9, v10, v11, v12, rfl⟩
      obtain ⟨sz, rfl, lo, hi⟩ := sizes hc lm p00 p01 p10 p11 p20 p21
      have lr := len_rows (c := rc) lo
      walk_at "dx"
      refine ⟨ra, rc, re, sz, rfl, so.2.2.1, so.2.2.2.1, so.2.2.2.2.1, so.2.2.2.2.2.1, lo, by omega, fun lD => ?_⟩
      walk_at "dx"
      refine ⟨wd, ra, rc, re, sz, rfl, so.2.2.1, so.2.2.2.1, so.2.2.2.2.1, so.2.2.2.2.2.1, fun z => absurd lo (by omega), fun _ => ⟨by omega, fun lR => ?_⟩⟩
      walk_at "dx"
      refine ⟨[rowsD (lenRows ra rc re sz), rowsD (lenRows ra rc re sz)], _, rfl, rowsD (lenRows ra rc re sz), rfl, okS_rows (by omega), ?_⟩
      walk_at "dx"
      refine ⟨wd, ra, rc, re, sz, rfl, so.2.2.1, so.2.2.2.1, so.2.2.2.2.1, so.2.2.2.2.2.1, fun z => absurd lo (by omega), fun _ => ⟨by omega, fun lE => ?_⟩⟩
      walk_at "dx"
      refine ⟨rowsD (lenRows ra rc re sz), rfl, okS_rows (by omega), ?_⟩
      walk_at "dx"
      · have c60 : sz ≤ 60 := by assumption
        refine ⟨wd, ra, rc, re, sz, rfl, so, by omega, fun z => absurd lo (by omega), fun _ => ⟨c60, ?_⟩⟩
        walk_at "dx"
        refine ⟨wd, sz, lenRows ra rc re sz, rfl, wd1, by omega, lr, c60, lenRows_ok sz so, ?_⟩
        walk_at "dx"
        exact ⟨_, _, _, _, rfl⟩
      · exact ⟨_, _, _, _, rfl⟩
    rintro e ⟨v9, v10, v11, v12, rfl⟩
    walk_at "dx"
    refine ⟨wd, ra, rc, re, rfl, ?_⟩
    walk_at "dx"
    refine ⟨wd, ra, rc, re, rfl, fun lA => ?_⟩
    walk_at "dx"
    refine ⟨wd, ra, rc, re, rfl, fun lB => ?_⟩
    walk_at "dx"
    refine ⟨wd, ra, rc, re, rfl, fun lC => ?_⟩
    walk_at "dx"
    refine ⟨wd, ra, rc, re, rfl, ?_⟩
    walk_at "dx"
    refine ⟨.tup [.int wd, rowsD ra, rowsD rc, rowsD re, .int (leastN ra re)], rfl, okS_fin (by omega) (by omega) (by omega), ?_⟩
    walk_at "dx"
    exact ⟨_, _, _, _, _, _, _, _, _, _, _, _, rfl⟩
  · rintro e ⟨v1, v2, v3, v4, v5, v6, v7, v8, v9, v10, v11, v12, rfl⟩
    walk_at "dx"
    exact hP
theorem ok_law (T : Txt K mg A) : FnOk P w K mg base CX0 13 A.f_law A.d_law P_law (spLaw K) := FnOk.calm (okd_law T) law_of
end

end
/-! ### what the top has written -/
theorem exm_ok {K : PySem.W.Frag} {S : Addr} (h1 : PySem.W.subIn K (.ref S) (.type "BaseException") = some true) (h2 : PySem.W.isClsIn K S = true) (h3 : PySem.W.typeIn K (.ref S) = some (.type "type"))
    (h4 : PySem.W.subIn K (.ref S) (.ref S) = some true) : PySem.W.exmOne K (.ref S) (.ref S) = some true := by
  have h5 : (PySem.W.clsIn K S).isSome = true := h2
  unfold PySem.W.exmOne PySem.W.kitCls
  rw [h1, if_pos (beq_self_eq_true _)]
  show (if ((PySem.W.clsIn K S).isSome && PySem.W.typeIn K (.ref S) == some (.type "type")) = true then PySem.W.subIn K (.ref S) (.ref S) else none) = some true
  rw [h5, h3, h4]
  rfl
theorem exm_no {K : PySem.W.Frag} {S R : Addr} (h1 : PySem.W.subIn K (.ref S) (.type "BaseException") = some true) (h2 : PySem.W.isClsIn K S = true) (h3 : PySem.W.typeIn K (.ref S) = some (.type "type"))
    (h4 : PySem.W.subIn K (.ref R) (.ref S) = some false) : PySem.W.exmOne K (.ref R) (.ref S) = some false := by
  have h5 : (PySem.W.clsIn K S).isSome = true := h2
  unfold PySem.W.exmOne PySem.W.kitCls
  rw [h1, if_pos (beq_self_eq_true _)]
  show (if ((PySem.W.clsIn K S).isSome && PySem.W.typeIn K (.ref S) == some (.type "type")) = true then PySem.W.subIn K (.ref R) (.ref S) else none) = some false
  rw [h5, h3, h4]
  rfl
theorem exm_yes {K : PySem.W.Frag} {S R : Addr} (h1 : PySem.W.subIn K (.ref S) (.type "BaseException") = some true) (h2 : PySem.W.isClsIn K S = true) (h3 : PySem.W.typeIn K (.ref S) = some (.type "type"))
    (h4 : PySem.W.subIn K (.ref R) (.ref S) = some true) : PySem.W.exmOne K (.ref R) (.ref S) = some true := by
  have h5 : (PySem.W.clsIn K S).isSome = true := h2
  unfold PySem.W.exmOne PySem.W.kitCls
  rw [h1, if_pos (beq_self_eq_true _)]
  show (if ((PySem.W.clsIn K S).isSome && PySem.W.typeIn K (.ref S) == some (.type "type")) = true then PySem.W.subIn K (.ref R) (.ref S) else none) = some true
  rw [h5, h3, h4]
  rfl
theorem all_mk {l : PySem.W.OpenLaw} {w : World} {K : PySem.W.Frag} {h : Heap} {mg : Str → Option Value} {fa : Addr} (X : K.In h) (G : h.Ns mainGlobals mg) (hfa : mg "law" = some (.ref fa))
    {S : Addr}
    {C_InvalidSize : Addr}
    {C_InvalidRow : Addr}
    {C_InvalidPoint : Addr}
    {C_InvalidMirror : Addr}
    {C_Taken : Addr}
    {C_NoLength : Addr}
    {C_Strip : Addr}
    {C_Board : Addr}
    {f_SandError___init__ : Addr} {od_SandError___init__ an_SandError___init__ : Option Addr} {sl_SandError___init__ : Array (Option Value)} {oc_SandError___init__ kV_SandError___init__ dc_SandError___init__ pm_SandError___init__ cd_SandError___init__ ct_SandError___init__ : Value}
    {f_is_inside : Addr} {od_is_inside an_is_inside : Option Addr} {sl_is_inside : Array (Option Value)} {oc_is_inside kV_is_inside dc_is_inside pm_is_inside cd_is_inside ct_is_inside : Value}
    {f_check_mirror : Addr} {od_check_mirror an_check_mirror : Option Addr} {sl_check_mirror : Array (Option Value)} {oc_check_mirror kV_check_mirror dc_check_mirror pm_check_mirror cd_check_mirror ct_check_mirror : Value}
    {f_kinds_of : Addr} {od_kinds_of an_kinds_of : Option Addr} {sl_kinds_of : Array (Option Value)} {oc_kinds_of kV_kinds_of dc_kinds_of pm_kinds_of cd_kinds_of ct_kinds_of : Value}
    {f_Board___init__ : Addr} {od_Board___init__ an_Board___init__ : Option Addr} {sl_Board___init__ : Array (Option Value)} {oc_Board___init__ kV_Board___init__ dc_Board___init__ pm_Board___init__ cd_Board___init__ ct_Board___init__ : Value}
    {f_Board_width : Addr} {od_Board_width an_Board_width : Option Addr} {sl_Board_width : Array (Option Value)} {oc_Board_width kV_Board_width dc_Board_width pm_Board_width cd_Board_width ct_Board_width : Value}
    {f_Board_height : Addr} {od_Board_height an_Board_height : Option Addr} {sl_Board_height : Array (Option Value)} {oc_Board_height kV_Board_height dc_Board_height pm_Board_height cd_Board_height ct_Board_height : Value}
    {f_Board_mirrors : Addr} {od_Board_mirrors an_Board_mirrors : Option Addr} {sl_Board_mirrors : Array (Option Value)} {oc_Board_mirrors kV_Board_mirrors dc_Board_mirrors pm_Board_mirrors cd_Board_mirrors ct_Board_mirrors : Value}
    {f_Board_mirror_at : Addr} {od_Board_mirror_at an_Board_mirror_at : Option Addr} {sl_Board_mirror_at : Array (Option Value)} {oc_Board_mirror_at kV_Board_mirror_at dc_Board_mirror_at pm_Board_mirror_at cd_Board_mirror_at ct_Board_mirror_at : Value}
    {f_check_rows : Addr} {od_check_rows an_check_rows : Option Addr} {sl_check_rows : Array (Option Value)} {oc_check_rows kV_check_rows dc_check_rows pm_check_rows cd_check_rows ct_check_rows : Value}
    {f_level_mirrors : Addr} {od_level_mirrors an_level_mirrors : Option Addr} {sl_level_mirrors : Array (Option Value)} {oc_level_mirrors kV_level_mirrors dc_level_mirrors pm_level_mirrors cd_level_mirrors ct_level_mirrors : Value}
    {f_row_mirrors : Addr} {od_row_mirrors an_row_mirrors : Option Addr} {sl_row_mirrors : Array (Option Value)} {oc_row_mirrors kV_row_mirrors dc_row_mirrors pm_row_mirrors cd_row_mirrors ct_row_mirrors : Value}
    {f_Strip___init__ : Addr} {od_Strip___init__ an_Strip___init__ : Option Addr} {sl_Strip___init__ : Array (Option Value)} {oc_Strip___init__ kV_Strip___init__ dc_Strip___init__ pm_Strip___init__ cd_Strip___init__ ct_Strip___init__ : Value}
    {f_Strip_width : Addr} {od_Strip_width an_Strip_width : Option Addr} {sl_Strip_width : Array (Option Value)} {oc_Strip_width kV_Strip_width dc_Strip_width pm_Strip_width cd_Strip_width ct_Strip_width : Value}
    {f_Strip_ahead : Addr} {od_Strip_ahead an_Strip_ahead : Option Addr} {sl_Strip_ahead : Array (Option Value)} {oc_Strip_ahead kV_Strip_ahead dc_Strip_ahead pm_Strip_ahead cd_Strip_ahead ct_Strip_ahead : Value}
    {f_Strip_cycle : Addr} {od_Strip_cycle an_Strip_cycle : Option Addr} {sl_Strip_cycle : Array (Option Value)} {oc_Strip_cycle kV_Strip_cycle dc_Strip_cycle pm_Strip_cycle cd_Strip_cycle ct_Strip_cycle : Value}
    {f_Strip_end : Addr} {od_Strip_end an_Strip_end : Option Addr} {sl_Strip_end : Array (Option Value)} {oc_Strip_end kV_Strip_end dc_Strip_end pm_Strip_end cd_Strip_end ct_Strip_end : Value}
    {f_Strip_least : Addr} {od_Strip_least an_Strip_least : Option Addr} {sl_Strip_least : Array (Option Value)} {oc_Strip_least kV_Strip_least dc_Strip_least pm_Strip_least cd_Strip_least ct_Strip_least : Value}
    {f_Strip_rows : Addr} {od_Strip_rows an_Strip_rows : Option Addr} {sl_Strip_rows : Array (Option Value)} {oc_Strip_rows kV_Strip_rows dc_Strip_rows pm_Strip_rows cd_Strip_rows ct_Strip_rows : Value}
    {f_Strip_board_for : Addr} {od_Strip_board_for an_Strip_board_for : Option Addr} {sl_Strip_board_for : Array (Option Value)} {oc_Strip_board_for kV_Strip_board_for dc_Strip_board_for pm_Strip_board_for cd_Strip_board_for ct_Strip_board_for : Value}
    {f__law_well : Addr} {od__law_well an__law_well : Option Addr} {sl__law_well : Array (Option Value)} {oc__law_well kV__law_well dc__law_well pm__law_well cd__law_well ct__law_well : Value}
    {f__law_pick : Addr} {od__law_pick an__law_pick : Option Addr} {sl__law_pick : Array (Option Value)} {oc__law_pick kV__law_pick dc__law_pick pm__law_pick cd__law_pick ct__law_pick : Value}
    {f__law_same : Addr} {od__law_same an__law_same : Option Addr} {sl__law_same : Array (Option Value)} {oc__law_same kV__law_same dc__law_same pm__law_same cd__law_same ct__law_same : Value}
    {f__law_rows : Addr} {od__law_rows an__law_rows : Option Addr} {sl__law_rows : Array (Option Value)} {oc__law_rows kV__law_rows dc__law_rows pm__law_rows cd__law_rows ct__law_rows : Value}
    {f__law_lists : Addr} {od__law_lists an__law_lists : Option Addr} {sl__law_lists : Array (Option Value)} {oc__law_lists kV__law_lists dc__law_lists pm__law_lists cd__law_lists ct__law_lists : Value}
    {f__law_due : Addr} {od__law_due an__law_due : Option Addr} {sl__law_due : Array (Option Value)} {oc__law_due kV__law_due dc__law_due pm__law_due cd__law_due ct__law_due : Value}
    {f__law_mirrors : Addr} {od__law_mirrors an__law_mirrors : Option Addr} {sl__law_mirrors : Array (Option Value)} {oc__law_mirrors kV__law_mirrors dc__law_mirrors pm__law_mirrors cd__law_mirrors ct__law_mirrors : Value}
    {f__law_refused : Addr} {od__law_refused an__law_refused : Option Addr} {sl__law_refused : Array (Option Value)} {oc__law_refused kV__law_refused dc__law_refused pm__law_refused cd__law_refused ct__law_refused : Value}
    {f__law_board_is : Addr} {od__law_board_is an__law_board_is : Option Addr} {sl__law_board_is : Array (Option Value)} {oc__law_board_is kV__law_board_is dc__law_board_is pm__law_board_is cd__law_board_is ct__law_board_is : Value}
    {f_law : Addr} {od_law an_law : Option Addr} {sl_law : Array (Option Value)} {oc_law kV_law dc_law pm_law cd_law ct_law : Value}
    {nm_InvalidSize q_InvalidSize : Str} {N_InvalidSize : Addr} {bs_InvalidSize : List Value} {sn_InvalidSize : List Str} {sub_InvalidSize : List Value} {ab_InvalidSize : Bool} {col_InvalidSize : Option Bool} {dd_InvalidSize : Option Addr} {m0_InvalidSize m1_InvalidSize m2_InvalidSize m3_InvalidSize m5_InvalidSize : Option Value}
    {nm_InvalidRow q_InvalidRow : Str} {N_InvalidRow : Addr} {bs_InvalidRow : List Value} {sn_InvalidRow : List Str} {sub_InvalidRow : List Value} {ab_InvalidRow : Bool} {col_InvalidRow : Option Bool} {dd_InvalidRow : Option Addr} {m0_InvalidRow m1_InvalidRow m2_InvalidRow m3_InvalidRow m5_InvalidRow : Option Value}
    {nm_InvalidPoint q_InvalidPoint : Str} {N_InvalidPoint : Addr} {bs_InvalidPoint : List Value} {sn_InvalidPoint : List Str} {sub_InvalidPoint : List Value} {ab_InvalidPoint : Bool} {col_InvalidPoint : Option Bool} {dd_InvalidPoint : Option Addr} {m0_InvalidPoint m1_InvalidPoint m2_InvalidPoint m3_InvalidPoint m5_InvalidPoint : Option Value}
    {nm_InvalidMirror q_InvalidMirror : Str} {N_InvalidMirror : Addr} {bs_InvalidMirror : List Value} {sn_InvalidMirror : List Str} {sub_InvalidMirror : List Value} {ab_InvalidMirror : Bool} {col_InvalidMirror : Option Bool} {dd_InvalidMirror : Option Addr} {m0_InvalidMirror m1_InvalidMirror m2_InvalidMirror m3_InvalidMirror m5_InvalidMirror : Option Value}
    {nm_Taken q_Taken : Str} {N_Taken : Addr} {bs_Taken : List Value} {sn_Taken : List Str} {sub_Taken : List Value} {ab_Taken : Bool} {col_Taken : Option Bool} {dd_Taken : Option Addr} {m0_Taken m1_Taken m2_Taken m3_Taken m5_Taken : Option Value}
    {nm_NoLength q_NoLength : Str} {N_NoLength : Addr} {bs_NoLength : List Value} {sn_NoLength : List Str} {sub_NoLength : List Value} {ab_NoLength : Bool} {col_NoLength : Option Bool} {dd_NoLength : Option Addr} {m0_NoLength m1_NoLength m2_NoLength m3_NoLength m5_NoLength : Option Value}
    {C_SandError : Addr}
    {p_Board_width : Addr} {rest_Board_width : List Value}
    {p_Board_height : Addr} {rest_Board_height : List Value}
    {p_Board_mirrors : Addr} {rest_Board_mirrors : List Value}
    {p_Strip_width : Addr} {rest_Strip_width : List Value}
    {p_Strip_ahead : Addr} {rest_Strip_ahead : List Value}
    {p_Strip_cycle : Addr} {rest_Strip_cycle : List Value}
    {p_Strip_end : Addr} {rest_Strip_end : List Value}
    {p_Strip_least : Addr} {rest_Strip_least : List Value}
    {c_KINDS : Addr} {dd_KINDS : Option Addr} {t_KINDS_0 t_KINDS_1 : Tok} {n_KINDS : Nat} {sl_KINDS : Array (Option Value)}
    {t_CHARACTERS : Tok}
    (aC_InvalidSize : PySem.W.nsIn K mainGlobals "InvalidSize" = some (some (.ref C_InvalidSize)))
    (aC_InvalidRow : PySem.W.nsIn K mainGlobals "InvalidRow" = some (some (.ref C_InvalidRow)))
    (aC_InvalidPoint : PySem.W.nsIn K mainGlobals "InvalidPoint" = some (some (.ref C_InvalidPoint)))
    (aC_InvalidMirror : PySem.W.nsIn K mainGlobals "InvalidMirror" = some (some (.ref C_InvalidMirror)))
    (aC_Taken : PySem.W.nsIn K mainGlobals "Taken" = some (some (.ref C_Taken)))
    (aC_NoLength : PySem.W.nsIn K mainGlobals "NoLength" = some (some (.ref C_NoLength)))
    (aC_Strip : PySem.W.nsIn K mainGlobals "Strip" = some (some (.ref C_Strip)))
    (aC_Board : PySem.W.nsIn K mainGlobals "Board" = some (some (.ref C_Board)))
    (xL_InvalidSize : K.lookup C_InvalidSize = some (excClassObj nm_InvalidSize q_InvalidSize C_InvalidSize N_InvalidSize bs_InvalidSize [.ref S, .type "ValueError", .type "Exception", .type "BaseException", .type "object"] true sn_InvalidSize sub_InvalidSize ab_InvalidSize col_InvalidSize dd_InvalidSize m0_InvalidSize m1_InvalidSize m2_InvalidSize m3_InvalidSize m5_InvalidSize "ValueError.__new__"))
    (sa_InvalidSize : PySem.W.findIn K (.ref C_InvalidSize) "__setattr__" = some (some (.builtin "object.__setattr__")))
    (ga_InvalidSize : PySem.W.findIn K (.ref C_InvalidSize) "__getattribute__" = some (some (.builtin "BaseException.__getattribute__")))
    (gg_InvalidSize : PySem.W.findIn K (.ref C_InvalidSize) "__getattr__" = some none)
    (nv_InvalidSize : PySem.W.findIn K (.ref C_InvalidSize) "value" = some none)
    (iI_InvalidSize : PySem.W.findIn K (.ref C_InvalidSize) "__init__" = some (some (.ref f_SandError___init__)))
    (kC_InvalidSize : PySem.W.keepIn K (.ref C_InvalidSize) = true)
    (eC_InvalidSize : PySem.W.subIn K (.ref C_InvalidSize) (.type "BaseException") = some true)
    (tC_InvalidSize : PySem.W.typeIn K (.ref C_InvalidSize) = some (.type "type"))
    (hC_InvalidSize : PySem.W.hasDictIn K C_InvalidSize = true)
    (zC_InvalidSize : PySem.W.isClsIn K C_InvalidSize = true)
    (sC_InvalidSize : PySem.W.subIn K (.ref C_InvalidSize) (.ref C_InvalidSize) = some true)
    (xL_InvalidRow : K.lookup C_InvalidRow = some (excClassObj nm_InvalidRow q_InvalidRow C_InvalidRow N_InvalidRow bs_InvalidRow [.ref S, .type "ValueError", .type "Exception", .type "BaseException", .type "object"] true sn_InvalidRow sub_InvalidRow ab_InvalidRow col_InvalidRow dd_InvalidRow m0_InvalidRow m1_InvalidRow m2_InvalidRow m3_InvalidRow m5_InvalidRow "ValueError.__new__"))
    (sa_InvalidRow : PySem.W.findIn K (.ref C_InvalidRow) "__setattr__" = some (some (.builtin "object.__setattr__")))
    (ga_InvalidRow : PySem.W.findIn K (.ref C_InvalidRow) "__getattribute__" = some (some (.builtin "BaseException.__getattribute__")))
    (gg_InvalidRow : PySem.W.findIn K (.ref C_InvalidRow) "__getattr__" = some none)
    (nv_InvalidRow : PySem.W.findIn K (.ref C_InvalidRow) "value" = some none)
    (iI_InvalidRow : PySem.W.findIn K (.ref C_InvalidRow) "__init__" = some (some (.ref f_SandError___init__)))
    (kC_InvalidRow : PySem.W.keepIn K (.ref C_InvalidRow) = true)
    (eC_InvalidRow : PySem.W.subIn K (.ref C_InvalidRow) (.type "BaseException") = some true)
    (tC_InvalidRow : PySem.W.typeIn K (.ref C_InvalidRow) = some (.type "type"))
    (hC_InvalidRow : PySem.W.hasDictIn K C_InvalidRow = true)
    (zC_InvalidRow : PySem.W.isClsIn K C_InvalidRow = true)
    (sC_InvalidRow : PySem.W.subIn K (.ref C_InvalidRow) (.ref C_InvalidRow) = some true)
    (xL_InvalidPoint : K.lookup C_InvalidPoint = some (excClassObj nm_InvalidPoint q_InvalidPoint C_InvalidPoint N_InvalidPoint bs_InvalidPoint [.ref S, .type "ValueError", .type "Exception", .type "BaseException", .type "object"] true sn_InvalidPoint sub_InvalidPoint ab_InvalidPoint col_InvalidPoint dd_InvalidPoint m0_InvalidPoint m1_InvalidPoint m2_InvalidPoint m3_InvalidPoint m5_InvalidPoint "ValueError.__new__"))
    (sa_InvalidPoint : PySem.W.findIn K (.ref C_InvalidPoint) "__setattr__" = some (some (.builtin "object.__setattr__")))
    (ga_InvalidPoint : PySem.W.findIn K (.ref C_InvalidPoint) "__getattribute__" = some (some (.builtin "BaseException.__getattribute__")))
    (gg_InvalidPoint : PySem.W.findIn K (.ref C_InvalidPoint) "__getattr__" = some none)
    (nv_InvalidPoint : PySem.W.findIn K (.ref C_InvalidPoint) "value" = some none)
    (iI_InvalidPoint : PySem.W.findIn K (.ref C_InvalidPoint) "__init__" = some (some (.ref f_SandError___init__)))
    (kC_InvalidPoint : PySem.W.keepIn K (.ref C_InvalidPoint) = true)
    (eC_InvalidPoint : PySem.W.subIn K (.ref C_InvalidPoint) (.type "BaseException") = some true)
    (tC_InvalidPoint : PySem.W.typeIn K (.ref C_InvalidPoint) = some (.type "type"))
    (hC_InvalidPoint : PySem.W.hasDictIn K C_InvalidPoint = true)
    (zC_InvalidPoint : PySem.W.isClsIn K C_InvalidPoint = true)
    (sC_InvalidPoint : PySem.W.subIn K (.ref C_InvalidPoint) (.ref C_InvalidPoint) = some true)
    (xL_InvalidMirror : K.lookup C_InvalidMirror = some (excClassObj nm_InvalidMirror q_InvalidMirror C_InvalidMirror N_InvalidMirror bs_InvalidMirror [.ref S, .type "ValueError", .type "Exception", .type "BaseException", .type "object"] true sn_InvalidMirror sub_InvalidMirror ab_InvalidMirror col_InvalidMirror dd_InvalidMirror m0_InvalidMirror m1_InvalidMirror m2_InvalidMirror m3_InvalidMirror m5_InvalidMirror "ValueError.__new__"))
    (sa_InvalidMirror : PySem.W.findIn K (.ref C_InvalidMirror) "__setattr__" = some (some (.builtin "object.__setattr__")))
    (ga_InvalidMirror : PySem.W.findIn K (.ref C_InvalidMirror) "__getattribute__" = some (some (.builtin "BaseException.__getattribute__")))
    (gg_InvalidMirror : PySem.W.findIn K (.ref C_InvalidMirror) "__getattr__" = some none)
    (nv_InvalidMirror : PySem.W.findIn K (.ref C_InvalidMirror) "value" = some none)
    (iI_InvalidMirror : PySem.W.findIn K (.ref C_InvalidMirror) "__init__" = some (some (.ref f_SandError___init__)))
    (kC_InvalidMirror : PySem.W.keepIn K (.ref C_InvalidMirror) = true)
    (eC_InvalidMirror : PySem.W.subIn K (.ref C_InvalidMirror) (.type "BaseException") = some true)
    (tC_InvalidMirror : PySem.W.typeIn K (.ref C_InvalidMirror) = some (.type "type"))
    (hC_InvalidMirror : PySem.W.hasDictIn K C_InvalidMirror = true)
    (zC_InvalidMirror : PySem.W.isClsIn K C_InvalidMirror = true)
    (sC_InvalidMirror : PySem.W.subIn K (.ref C_InvalidMirror) (.ref C_InvalidMirror) = some true)
    (xL_Taken : K.lookup C_Taken = some (excClassObj nm_Taken q_Taken C_Taken N_Taken bs_Taken [.ref S, .type "ValueError", .type "Exception", .type "BaseException", .type "object"] true sn_Taken sub_Taken ab_Taken col_Taken dd_Taken m0_Taken m1_Taken m2_Taken m3_Taken m5_Taken "ValueError.__new__"))
    (sa_Taken : PySem.W.findIn K (.ref C_Taken) "__setattr__" = some (some (.builtin "object.__setattr__")))
    (ga_Taken : PySem.W.findIn K (.ref C_Taken) "__getattribute__" = some (some (.builtin "BaseException.__getattribute__")))
    (gg_Taken : PySem.W.findIn K (.ref C_Taken) "__getattr__" = some none)
    (nv_Taken : PySem.W.findIn K (.ref C_Taken) "value" = some none)
    (iI_Taken : PySem.W.findIn K (.ref C_Taken) "__init__" = some (some (.ref f_SandError___init__)))
    (kC_Taken : PySem.W.keepIn K (.ref C_Taken) = true)
    (eC_Taken : PySem.W.subIn K (.ref C_Taken) (.type "BaseException") = some true)
    (tC_Taken : PySem.W.typeIn K (.ref C_Taken) = some (.type "type"))
    (hC_Taken : PySem.W.hasDictIn K C_Taken = true)
    (zC_Taken : PySem.W.isClsIn K C_Taken = true)
    (sC_Taken : PySem.W.subIn K (.ref C_Taken) (.ref C_Taken) = some true)
    (xL_NoLength : K.lookup C_NoLength = some (excClassObj nm_NoLength q_NoLength C_NoLength N_NoLength bs_NoLength [.ref S, .type "ValueError", .type "Exception", .type "BaseException", .type "object"] true sn_NoLength sub_NoLength ab_NoLength col_NoLength dd_NoLength m0_NoLength m1_NoLength m2_NoLength m3_NoLength m5_NoLength "ValueError.__new__"))
    (sa_NoLength : PySem.W.findIn K (.ref C_NoLength) "__setattr__" = some (some (.builtin "object.__setattr__")))
    (ga_NoLength : PySem.W.findIn K (.ref C_NoLength) "__getattribute__" = some (some (.builtin "BaseException.__getattribute__")))
    (gg_NoLength : PySem.W.findIn K (.ref C_NoLength) "__getattr__" = some none)
    (nv_NoLength : PySem.W.findIn K (.ref C_NoLength) "value" = some none)
    (iI_NoLength : PySem.W.findIn K (.ref C_NoLength) "__init__" = some (some (.ref f_SandError___init__)))
    (kC_NoLength : PySem.W.keepIn K (.ref C_NoLength) = true)
    (eC_NoLength : PySem.W.subIn K (.ref C_NoLength) (.type "BaseException") = some true)
    (tC_NoLength : PySem.W.typeIn K (.ref C_NoLength) = some (.type "type"))
    (hC_NoLength : PySem.W.hasDictIn K C_NoLength = true)
    (zC_NoLength : PySem.W.isClsIn K C_NoLength = true)
    (sC_NoLength : PySem.W.subIn K (.ref C_NoLength) (.ref C_NoLength) = some true)
    (aC_SandError : PySem.W.nsIn K mainGlobals "SandError" = some (some (.ref C_SandError)))
    (eC_SandError : PySem.W.subIn K (.ref C_SandError) (.type "BaseException") = some true)
    (tC_SandError : PySem.W.typeIn K (.ref C_SandError) = some (.type "type"))
    (zC_SandError : PySem.W.isClsIn K C_SandError = true)
    (sb_InvalidSize : PySem.W.subIn K (.ref C_InvalidSize) (.ref C_SandError) = some true)
    (sb_InvalidRow : PySem.W.subIn K (.ref C_InvalidRow) (.ref C_SandError) = some true)
    (sb_InvalidPoint : PySem.W.subIn K (.ref C_InvalidPoint) (.ref C_SandError) = some true)
    (sb_InvalidMirror : PySem.W.subIn K (.ref C_InvalidMirror) (.ref C_SandError) = some true)
    (sb_Taken : PySem.W.subIn K (.ref C_Taken) (.ref C_SandError) = some true)
    (sb_NoLength : PySem.W.subIn K (.ref C_NoLength) (.ref C_SandError) = some true)
    (xa_InvalidSize : PySem.W.findIn K (.ref C_InvalidSize) "__class__" = some (some (.builtin "object.__class__")))
    (xn_InvalidSize : PySem.W.specialIn K (.builtin "object.__class__") "__get__" = some (some (.builtin "getset_descriptor.__get__")))
    (xt_InvalidSize : PySem.W.takesIn K (.builtin "object.__class__") = some true)
    (xm_InvalidSize : PySem.W.mroIn K C_InvalidSize (.type "object") = some true)
    (xv_InvalidSize : PySem.W.subIn K (.ref C_InvalidSize) (.type "ValueError") = some true)
    (xs_InvalidSize_InvalidSize : PySem.W.subIn K (.ref C_InvalidSize) (.ref C_InvalidSize) = some true)
    (xs_InvalidSize_InvalidRow : PySem.W.subIn K (.ref C_InvalidSize) (.ref C_InvalidRow) = some false)
    (xs_InvalidSize_NoLength : PySem.W.subIn K (.ref C_InvalidSize) (.ref C_NoLength) = some false)
    (xa_InvalidRow : PySem.W.findIn K (.ref C_InvalidRow) "__class__" = some (some (.builtin "object.__class__")))
    (xn_InvalidRow : PySem.W.specialIn K (.builtin "object.__class__") "__get__" = some (some (.builtin "getset_descriptor.__get__")))
    (xt_InvalidRow : PySem.W.takesIn K (.builtin "object.__class__") = some true)
    (xm_InvalidRow : PySem.W.mroIn K C_InvalidRow (.type "object") = some true)
    (xv_InvalidRow : PySem.W.subIn K (.ref C_InvalidRow) (.type "ValueError") = some true)
    (xs_InvalidRow_InvalidSize : PySem.W.subIn K (.ref C_InvalidRow) (.ref C_InvalidSize) = some false)
    (xs_InvalidRow_InvalidRow : PySem.W.subIn K (.ref C_InvalidRow) (.ref C_InvalidRow) = some true)
    (xs_InvalidRow_NoLength : PySem.W.subIn K (.ref C_InvalidRow) (.ref C_NoLength) = some false)
    (xa_NoLength : PySem.W.findIn K (.ref C_NoLength) "__class__" = some (some (.builtin "object.__class__")))
    (xn_NoLength : PySem.W.specialIn K (.builtin "object.__class__") "__get__" = some (some (.builtin "getset_descriptor.__get__")))
    (xt_NoLength : PySem.W.takesIn K (.builtin "object.__class__") = some true)
    (xm_NoLength : PySem.W.mroIn K C_NoLength (.type "object") = some true)
    (xv_NoLength : PySem.W.subIn K (.ref C_NoLength) (.type "ValueError") = some true)
    (xs_NoLength_InvalidSize : PySem.W.subIn K (.ref C_NoLength) (.ref C_InvalidSize) = some false)
    (xs_NoLength_InvalidRow : PySem.W.subIn K (.ref C_NoLength) (.ref C_InvalidRow) = some false)
    (xs_NoLength_NoLength : PySem.W.subIn K (.ref C_NoLength) (.ref C_NoLength) = some true)
    (tI : PySem.W.typeIn K (.ref f_SandError___init__) = some (.type "function"))
    (l_SandError___init__ : K.lookup f_SandError___init__ = some ⟨oc_SandError___init__, od_SandError___init__, .func (PySem.W.fnOf "__init__" "SandError.__init__" (defArgs s_SandError___init__) (defBody s_SandError___init__) (defScope s_SandError___init__) .none kV_SandError___init__ dc_SandError___init__ pm_SandError___init__ an_SandError___init__ cd_SandError___init__ ct_SandError___init__), sl_SandError___init__⟩)
    (c_SandError___init__ : PySem.W.codeIn K cd_SandError___init__ "SandError.__init__" = true)
    (k_SandError___init__ : PySem.W.keepIn K (.ref f_SandError___init__) = true)
    (a_is_inside : PySem.W.nsIn K mainGlobals "is_inside" = some (some (.ref f_is_inside)))
    (l_is_inside : K.lookup f_is_inside = some ⟨oc_is_inside, od_is_inside, .func (PySem.W.fnOf "is_inside" "is_inside" (defArgs s_is_inside) (defBody s_is_inside) (defScope s_is_inside) .none kV_is_inside dc_is_inside pm_is_inside an_is_inside cd_is_inside ct_is_inside), sl_is_inside⟩)
    (c_is_inside : PySem.W.codeIn K cd_is_inside "is_inside" = true)
    (k_is_inside : PySem.W.keepIn K (.ref f_is_inside) = true)
    (a_check_mirror : PySem.W.nsIn K mainGlobals "check_mirror" = some (some (.ref f_check_mirror)))
    (l_check_mirror : K.lookup f_check_mirror = some ⟨oc_check_mirror, od_check_mirror, .func (PySem.W.fnOf "check_mirror" "check_mirror" (defArgs s_check_mirror) (defBody s_check_mirror) (defScope s_check_mirror) .none kV_check_mirror dc_check_mirror pm_check_mirror an_check_mirror cd_check_mirror ct_check_mirror), sl_check_mirror⟩)
    (c_check_mirror : PySem.W.codeIn K cd_check_mirror "check_mirror" = true)
    (k_check_mirror : PySem.W.keepIn K (.ref f_check_mirror) = true)
    (a_kinds_of : PySem.W.nsIn K mainGlobals "kinds_of" = some (some (.ref f_kinds_of)))
    (l_kinds_of : K.lookup f_kinds_of = some ⟨oc_kinds_of, od_kinds_of, .func (PySem.W.fnOf "kinds_of" "kinds_of" (defArgs s_kinds_of) (defBody s_kinds_of) (defScope s_kinds_of) .none kV_kinds_of dc_kinds_of pm_kinds_of an_kinds_of cd_kinds_of ct_kinds_of), sl_kinds_of⟩)
    (c_kinds_of : PySem.W.codeIn K cd_kinds_of "kinds_of" = true)
    (k_kinds_of : PySem.W.keepIn K (.ref f_kinds_of) = true)
    (a_Board___init__ : PySem.W.findIn K (.ref C_Board) "__init__" = some (some (.ref f_Board___init__)))
    (i_Board___init__ : PySem.W.isFn K (.ref f_Board___init__) = true)
    (l_Board___init__ : K.lookup f_Board___init__ = some ⟨oc_Board___init__, od_Board___init__, .func (PySem.W.fnOf "__init__" "Board.__init__" (defArgs s_Board___init__) (defBody s_Board___init__) (defScope s_Board___init__) .none kV_Board___init__ dc_Board___init__ pm_Board___init__ an_Board___init__ cd_Board___init__ ct_Board___init__), sl_Board___init__⟩)
    (c_Board___init__ : PySem.W.codeIn K cd_Board___init__ "Board.__init__" = true)
    (k_Board___init__ : PySem.W.keepIn K (.ref f_Board___init__) = true)
    (pa_Board_width : PySem.W.findIn K (.ref C_Board) "width" = some (some (.ref p_Board_width)))
    (pg_Board_width : PySem.W.specialIn K (.ref p_Board_width) "__get__" = some (some (.builtin "property.__get__")))
    (pt_Board_width : PySem.W.takesIn K (.ref p_Board_width) = some true)
    (pr_Board_width : PySem.W.recIn K p_Board_width "property" = some (.ref f_Board_width :: rest_Board_width))
    (l_Board_width : K.lookup f_Board_width = some ⟨oc_Board_width, od_Board_width, .func (PySem.W.fnOf "width" "Board.width" (defArgs s_Board_width) (defBody s_Board_width) (defScope s_Board_width) .none kV_Board_width dc_Board_width pm_Board_width an_Board_width cd_Board_width ct_Board_width), sl_Board_width⟩)
    (c_Board_width : PySem.W.codeIn K cd_Board_width "Board.width" = true)
    (k_Board_width : PySem.W.keepIn K (.ref f_Board_width) = true)
    (pa_Board_height : PySem.W.findIn K (.ref C_Board) "height" = some (some (.ref p_Board_height)))
    (pg_Board_height : PySem.W.specialIn K (.ref p_Board_height) "__get__" = some (some (.builtin "property.__get__")))
    (pt_Board_height : PySem.W.takesIn K (.ref p_Board_height) = some true)
    (pr_Board_height : PySem.W.recIn K p_Board_height "property" = some (.ref f_Board_height :: rest_Board_height))
    (l_Board_height : K.lookup f_Board_height = some ⟨oc_Board_height, od_Board_height, .func (PySem.W.fnOf "height" "Board.height" (defArgs s_Board_height) (defBody s_Board_height) (defScope s_Board_height) .none kV_Board_height dc_Board_height pm_Board_height an_Board_height cd_Board_height ct_Board_height), sl_Board_height⟩)
    (c_Board_height : PySem.W.codeIn K cd_Board_height "Board.height" = true)
    (k_Board_height : PySem.W.keepIn K (.ref f_Board_height) = true)
    (pa_Board_mirrors : PySem.W.findIn K (.ref C_Board) "mirrors" = some (some (.ref p_Board_mirrors)))
    (pg_Board_mirrors : PySem.W.specialIn K (.ref p_Board_mirrors) "__get__" = some (some (.builtin "property.__get__")))
    (pt_Board_mirrors : PySem.W.takesIn K (.ref p_Board_mirrors) = some true)
    (pr_Board_mirrors : PySem.W.recIn K p_Board_mirrors "property" = some (.ref f_Board_mirrors :: rest_Board_mirrors))
    (l_Board_mirrors : K.lookup f_Board_mirrors = some ⟨oc_Board_mirrors, od_Board_mirrors, .func (PySem.W.fnOf "mirrors" "Board.mirrors" (defArgs s_Board_mirrors) (defBody s_Board_mirrors) (defScope s_Board_mirrors) .none kV_Board_mirrors dc_Board_mirrors pm_Board_mirrors an_Board_mirrors cd_Board_mirrors ct_Board_mirrors), sl_Board_mirrors⟩)
    (c_Board_mirrors : PySem.W.codeIn K cd_Board_mirrors "Board.mirrors" = true)
    (k_Board_mirrors : PySem.W.keepIn K (.ref f_Board_mirrors) = true)
    (a_Board_mirror_at : PySem.W.findIn K (.ref C_Board) "mirror_at" = some (some (.ref f_Board_mirror_at)))
    (i_Board_mirror_at : PySem.W.isFn K (.ref f_Board_mirror_at) = true)
    (l_Board_mirror_at : K.lookup f_Board_mirror_at = some ⟨oc_Board_mirror_at, od_Board_mirror_at, .func (PySem.W.fnOf "mirror_at" "Board.mirror_at" (defArgs s_Board_mirror_at) (defBody s_Board_mirror_at) (defScope s_Board_mirror_at) .none kV_Board_mirror_at dc_Board_mirror_at pm_Board_mirror_at an_Board_mirror_at cd_Board_mirror_at ct_Board_mirror_at), sl_Board_mirror_at⟩)
    (c_Board_mirror_at : PySem.W.codeIn K cd_Board_mirror_at "Board.mirror_at" = true)
    (k_Board_mirror_at : PySem.W.keepIn K (.ref f_Board_mirror_at) = true)
    (a_check_rows : PySem.W.nsIn K mainGlobals "check_rows" = some (some (.ref f_check_rows)))
    (l_check_rows : K.lookup f_check_rows = some ⟨oc_check_rows, od_check_rows, .func (PySem.W.fnOf "check_rows" "check_rows" (defArgs s_check_rows) (defBody s_check_rows) (defScope s_check_rows) .none kV_check_rows dc_check_rows pm_check_rows an_check_rows cd_check_rows ct_check_rows), sl_check_rows⟩)
    (c_check_rows : PySem.W.codeIn K cd_check_rows "check_rows" = true)
    (k_check_rows : PySem.W.keepIn K (.ref f_check_rows) = true)
    (a_level_mirrors : PySem.W.nsIn K mainGlobals "level_mirrors" = some (some (.ref f_level_mirrors)))
    (l_level_mirrors : K.lookup f_level_mirrors = some ⟨oc_level_mirrors, od_level_mirrors, .func (PySem.W.fnOf "level_mirrors" "level_mirrors" (defArgs s_level_mirrors) (defBody s_level_mirrors) (defScope s_level_mirrors) .none kV_level_mirrors dc_level_mirrors pm_level_mirrors an_level_mirrors cd_level_mirrors ct_level_mirrors), sl_level_mirrors⟩)
    (c_level_mirrors : PySem.W.codeIn K cd_level_mirrors "level_mirrors" = true)
    (k_level_mirrors : PySem.W.keepIn K (.ref f_level_mirrors) = true)
    (a_row_mirrors : PySem.W.nsIn K mainGlobals "row_mirrors" = some (some (.ref f_row_mirrors)))
    (l_row_mirrors : K.lookup f_row_mirrors = some ⟨oc_row_mirrors, od_row_mirrors, .func (PySem.W.fnOf "row_mirrors" "row_mirrors" (defArgs s_row_mirrors) (defBody s_row_mirrors) (defScope s_row_mirrors) .none kV_row_mirrors dc_row_mirrors pm_row_mirrors an_row_mirrors cd_row_mirrors ct_row_mirrors), sl_row_mirrors⟩)
    (c_row_mirrors : PySem.W.codeIn K cd_row_mirrors "row_mirrors" = true)
    (k_row_mirrors : PySem.W.keepIn K (.ref f_row_mirrors) = true)
    (a_Strip___init__ : PySem.W.findIn K (.ref C_Strip) "__init__" = some (some (.ref f_Strip___init__)))
    (i_Strip___init__ : PySem.W.isFn K (.ref f_Strip___init__) = true)
    (l_Strip___init__ : K.lookup f_Strip___init__ = some ⟨oc_Strip___init__, od_Strip___init__, .func (PySem.W.fnOf "__init__" "Strip.__init__" (defArgs s_Strip___init__) (defBody s_Strip___init__) (defScope s_Strip___init__) .none kV_Strip___init__ dc_Strip___init__ pm_Strip___init__ an_Strip___init__ cd_Strip___init__ ct_Strip___init__), sl_Strip___init__⟩)
    (c_Strip___init__ : PySem.W.codeIn K cd_Strip___init__ "Strip.__init__" = true)
    (k_Strip___init__ : PySem.W.keepIn K (.ref f_Strip___init__) = true)
    (pa_Strip_width : PySem.W.findIn K (.ref C_Strip) "width" = some (some (.ref p_Strip_width)))
    (pg_Strip_width : PySem.W.specialIn K (.ref p_Strip_width) "__get__" = some (some (.builtin "property.__get__")))
    (pt_Strip_width : PySem.W.takesIn K (.ref p_Strip_width) = some true)
    (pr_Strip_width : PySem.W.recIn K p_Strip_width "property" = some (.ref f_Strip_width :: rest_Strip_width))
    (l_Strip_width : K.lookup f_Strip_width = some ⟨oc_Strip_width, od_Strip_width, .func (PySem.W.fnOf "width" "Strip.width" (defArgs s_Strip_width) (defBody s_Strip_width) (defScope s_Strip_width) .none kV_Strip_width dc_Strip_width pm_Strip_width an_Strip_width cd_Strip_width ct_Strip_width), sl_Strip_width⟩)
    (c_Strip_width : PySem.W.codeIn K cd_Strip_width "Strip.width" = true)
    (k_Strip_width : PySem.W.keepIn K (.ref f_Strip_width) = true)
    (pa_Strip_ahead : PySem.W.findIn K (.ref C_Strip) "ahead" = some (some (.ref p_Strip_ahead)))
    (pg_Strip_ahead : PySem.W.specialIn K (.ref p_Strip_ahead) "__get__" = some (some (.builtin "property.__get__")))
    (pt_Strip_ahead : PySem.W.takesIn K (.ref p_Strip_ahead) = some true)
    (pr_Strip_ahead : PySem.W.recIn K p_Strip_ahead "property" = some (.ref f_Strip_ahead :: rest_Strip_ahead))
    (l_Strip_ahead : K.lookup f_Strip_ahead = some ⟨oc_Strip_ahead, od_Strip_ahead, .func (PySem.W.fnOf "ahead" "Strip.ahead" (defArgs s_Strip_ahead) (defBody s_Strip_ahead) (defScope s_Strip_ahead) .none kV_Strip_ahead dc_Strip_ahead pm_Strip_ahead an_Strip_ahead cd_Strip_ahead ct_Strip_ahead), sl_Strip_ahead⟩)
    (c_Strip_ahead : PySem.W.codeIn K cd_Strip_ahead "Strip.ahead" = true)
    (k_Strip_ahead : PySem.W.keepIn K (.ref f_Strip_ahead) = true)
    (pa_Strip_cycle : PySem.W.findIn K (.ref C_Strip) "cycle" = some (some (.ref p_Strip_cycle)))
    (pg_Strip_cycle : PySem.W.specialIn K (.ref p_Strip_cycle) "__get__" = some (some (.builtin "property.__get__")))
    (pt_Strip_cycle : PySem.W.takesIn K (.ref p_Strip_cycle) = some true)
    (pr_Strip_cycle : PySem.W.recIn K p_Strip_cycle "property" = some (.ref f_Strip_cycle :: rest_Strip_cycle))
    (l_Strip_cycle : K.lookup f_Strip_cycle = some ⟨oc_Strip_cycle, od_Strip_cycle, .func (PySem.W.fnOf "cycle" "Strip.cycle" (defArgs s_Strip_cycle) (defBody s_Strip_cycle) (defScope s_Strip_cycle) .none kV_Strip_cycle dc_Strip_cycle pm_Strip_cycle an_Strip_cycle cd_Strip_cycle ct_Strip_cycle), sl_Strip_cycle⟩)
    (c_Strip_cycle : PySem.W.codeIn K cd_Strip_cycle "Strip.cycle" = true)
    (k_Strip_cycle : PySem.W.keepIn K (.ref f_Strip_cycle) = true)
    (pa_Strip_end : PySem.W.findIn K (.ref C_Strip) "end" = some (some (.ref p_Strip_end)))
    (pg_Strip_end : PySem.W.specialIn K (.ref p_Strip_end) "__get__" = some (some (.builtin "property.__get__")))
    (pt_Strip_end : PySem.W.takesIn K (.ref p_Strip_end) = some true)
    (pr_Strip_end : PySem.W.recIn K p_Strip_end "property" = some (.ref f_Strip_end :: rest_Strip_end))
    (l_Strip_end : K.lookup f_Strip_end = some ⟨oc_Strip_end, od_Strip_end, .func (PySem.W.fnOf "end" "Strip.end" (defArgs s_Strip_end) (defBody s_Strip_end) (defScope s_Strip_end) .none kV_Strip_end dc_Strip_end pm_Strip_end an_Strip_end cd_Strip_end ct_Strip_end), sl_Strip_end⟩)
    (c_Strip_end : PySem.W.codeIn K cd_Strip_end "Strip.end" = true)
    (k_Strip_end : PySem.W.keepIn K (.ref f_Strip_end) = true)
    (pa_Strip_least : PySem.W.findIn K (.ref C_Strip) "least" = some (some (.ref p_Strip_least)))
    (pg_Strip_least : PySem.W.specialIn K (.ref p_Strip_least) "__get__" = some (some (.builtin "property.__get__")))
    (pt_Strip_least : PySem.W.takesIn K (.ref p_Strip_least) = some true)
    (pr_Strip_least : PySem.W.recIn K p_Strip_least "property" = some (.ref f_Strip_least :: rest_Strip_least))
    (l_Strip_least : K.lookup f_Strip_least = some ⟨oc_Strip_least, od_Strip_least, .func (PySem.W.fnOf "least" "Strip.least" (defArgs s_Strip_least) (defBody s_Strip_least) (defScope s_Strip_least) .none kV_Strip_least dc_Strip_least pm_Strip_least an_Strip_least cd_Strip_least ct_Strip_least), sl_Strip_least⟩)
    (c_Strip_least : PySem.W.codeIn K cd_Strip_least "Strip.least" = true)
    (k_Strip_least : PySem.W.keepIn K (.ref f_Strip_least) = true)
    (a_Strip_rows : PySem.W.findIn K (.ref C_Strip) "rows" = some (some (.ref f_Strip_rows)))
    (i_Strip_rows : PySem.W.isFn K (.ref f_Strip_rows) = true)
    (l_Strip_rows : K.lookup f_Strip_rows = some ⟨oc_Strip_rows, od_Strip_rows, .func (PySem.W.fnOf "rows" "Strip.rows" (defArgs s_Strip_rows) (defBody s_Strip_rows) (defScope s_Strip_rows) .none kV_Strip_rows dc_Strip_rows pm_Strip_rows an_Strip_rows cd_Strip_rows ct_Strip_rows), sl_Strip_rows⟩)
    (c_Strip_rows : PySem.W.codeIn K cd_Strip_rows "Strip.rows" = true)
    (k_Strip_rows : PySem.W.keepIn K (.ref f_Strip_rows) = true)
    (a_Strip_board_for : PySem.W.findIn K (.ref C_Strip) "board_for" = some (some (.ref f_Strip_board_for)))
    (i_Strip_board_for : PySem.W.isFn K (.ref f_Strip_board_for) = true)
    (l_Strip_board_for : K.lookup f_Strip_board_for = some ⟨oc_Strip_board_for, od_Strip_board_for, .func (PySem.W.fnOf "board_for" "Strip.board_for" (defArgs s_Strip_board_for) (defBody s_Strip_board_for) (defScope s_Strip_board_for) .none kV_Strip_board_for dc_Strip_board_for pm_Strip_board_for an_Strip_board_for cd_Strip_board_for ct_Strip_board_for), sl_Strip_board_for⟩)
    (c_Strip_board_for : PySem.W.codeIn K cd_Strip_board_for "Strip.board_for" = true)
    (k_Strip_board_for : PySem.W.keepIn K (.ref f_Strip_board_for) = true)
    (a__law_well : PySem.W.nsIn K mainGlobals "_law_well" = some (some (.ref f__law_well)))
    (l__law_well : K.lookup f__law_well = some ⟨oc__law_well, od__law_well, .func (PySem.W.fnOf "_law_well" "_law_well" (defArgs s__law_well) (defBody s__law_well) (defScope s__law_well) .none kV__law_well dc__law_well pm__law_well an__law_well cd__law_well ct__law_well), sl__law_well⟩)
    (c__law_well : PySem.W.codeIn K cd__law_well "_law_well" = true)
    (k__law_well : PySem.W.keepIn K (.ref f__law_well) = true)
    (a__law_pick : PySem.W.nsIn K mainGlobals "_law_pick" = some (some (.ref f__law_pick)))
    (l__law_pick : K.lookup f__law_pick = some ⟨oc__law_pick, od__law_pick, .func (PySem.W.fnOf "_law_pick" "_law_pick" (defArgs s__law_pick) (defBody s__law_pick) (defScope s__law_pick) .none kV__law_pick dc__law_pick pm__law_pick an__law_pick cd__law_pick ct__law_pick), sl__law_pick⟩)
    (c__law_pick : PySem.W.codeIn K cd__law_pick "_law_pick" = true)
    (k__law_pick : PySem.W.keepIn K (.ref f__law_pick) = true)
    (a__law_same : PySem.W.nsIn K mainGlobals "_law_same" = some (some (.ref f__law_same)))
    (l__law_same : K.lookup f__law_same = some ⟨oc__law_same, od__law_same, .func (PySem.W.fnOf "_law_same" "_law_same" (defArgs s__law_same) (defBody s__law_same) (defScope s__law_same) .none kV__law_same dc__law_same pm__law_same an__law_same cd__law_same ct__law_same), sl__law_same⟩)
    (c__law_same : PySem.W.codeIn K cd__law_same "_law_same" = true)
    (k__law_same : PySem.W.keepIn K (.ref f__law_same) = true)
    (a__law_rows : PySem.W.nsIn K mainGlobals "_law_rows" = some (some (.ref f__law_rows)))
    (l__law_rows : K.lookup f__law_rows = some ⟨oc__law_rows, od__law_rows, .func (PySem.W.fnOf "_law_rows" "_law_rows" (defArgs s__law_rows) (defBody s__law_rows) (defScope s__law_rows) .none kV__law_rows dc__law_rows pm__law_rows an__law_rows cd__law_rows ct__law_rows), sl__law_rows⟩)
    (c__law_rows : PySem.W.codeIn K cd__law_rows "_law_rows" = true)
    (k__law_rows : PySem.W.keepIn K (.ref f__law_rows) = true)
    (a__law_lists : PySem.W.nsIn K mainGlobals "_law_lists" = some (some (.ref f__law_lists)))
    (l__law_lists : K.lookup f__law_lists = some ⟨oc__law_lists, od__law_lists, .func (PySem.W.fnOf "_law_lists" "_law_lists" (defArgs s__law_lists) (defBody s__law_lists) (defScope s__law_lists) .none kV__law_lists dc__law_lists pm__law_lists an__law_lists cd__law_lists ct__law_lists), sl__law_lists⟩)
    (c__law_lists : PySem.W.codeIn K cd__law_lists "_law_lists" = true)
    (k__law_lists : PySem.W.keepIn K (.ref f__law_lists) = true)
    (a__law_due : PySem.W.nsIn K mainGlobals "_law_due" = some (some (.ref f__law_due)))
    (l__law_due : K.lookup f__law_due = some ⟨oc__law_due, od__law_due, .func (PySem.W.fnOf "_law_due" "_law_due" (defArgs s__law_due) (defBody s__law_due) (defScope s__law_due) .none kV__law_due dc__law_due pm__law_due an__law_due cd__law_due ct__law_due), sl__law_due⟩)
    (c__law_due : PySem.W.codeIn K cd__law_due "_law_due" = true)
    (k__law_due : PySem.W.keepIn K (.ref f__law_due) = true)
    (a__law_mirrors : PySem.W.nsIn K mainGlobals "_law_mirrors" = some (some (.ref f__law_mirrors)))
    (l__law_mirrors : K.lookup f__law_mirrors = some ⟨oc__law_mirrors, od__law_mirrors, .func (PySem.W.fnOf "_law_mirrors" "_law_mirrors" (defArgs s__law_mirrors) (defBody s__law_mirrors) (defScope s__law_mirrors) .none kV__law_mirrors dc__law_mirrors pm__law_mirrors an__law_mirrors cd__law_mirrors ct__law_mirrors), sl__law_mirrors⟩)
    (c__law_mirrors : PySem.W.codeIn K cd__law_mirrors "_law_mirrors" = true)
    (k__law_mirrors : PySem.W.keepIn K (.ref f__law_mirrors) = true)
    (a__law_refused : PySem.W.nsIn K mainGlobals "_law_refused" = some (some (.ref f__law_refused)))
    (l__law_refused : K.lookup f__law_refused = some ⟨oc__law_refused, od__law_refused, .func (PySem.W.fnOf "_law_refused" "_law_refused" (defArgs s__law_refused) (defBody s__law_refused) (defScope s__law_refused) .none kV__law_refused dc__law_refused pm__law_refused an__law_refused cd__law_refused ct__law_refused), sl__law_refused⟩)
    (c__law_refused : PySem.W.codeIn K cd__law_refused "_law_refused" = true)
    (k__law_refused : PySem.W.keepIn K (.ref f__law_refused) = true)
    (a__law_board_is : PySem.W.nsIn K mainGlobals "_law_board_is" = some (some (.ref f__law_board_is)))
    (l__law_board_is : K.lookup f__law_board_is = some ⟨oc__law_board_is, od__law_board_is, .func (PySem.W.fnOf "_law_board_is" "_law_board_is" (defArgs s__law_board_is) (defBody s__law_board_is) (defScope s__law_board_is) .none kV__law_board_is dc__law_board_is pm__law_board_is an__law_board_is cd__law_board_is ct__law_board_is), sl__law_board_is⟩)
    (c__law_board_is : PySem.W.codeIn K cd__law_board_is "_law_board_is" = true)
    (k__law_board_is : PySem.W.keepIn K (.ref f__law_board_is) = true)
    (a_law : PySem.W.nsIn K mainGlobals "law" = some (some (.ref f_law)))
    (l_law : K.lookup f_law = some ⟨oc_law, od_law, .func (PySem.W.fnOf "law" "law" (defArgs s_law) (defBody s_law) (defScope s_law) .none kV_law dc_law pm_law an_law cd_law ct_law), sl_law⟩)
    (c_law : PySem.W.codeIn K cd_law "law" = true)
    (k_law : PySem.W.keepIn K (.ref f_law) = true)
    (pg_Strip : PySem.W.plainGet K C_Strip Str.empty = true)
    (hd_Strip : PySem.W.hasDictIn K C_Strip = true)
    (po_Strip : PySem.W.plainOver K C_Strip = true)
    (st_Strip : PySem.W.findIn K (.ref C_Strip) "__setattr__" = some (some (.builtin "object.__setattr__")))
    (mk_Strip : PySem.W.makesIn K C_Strip = true)
    (kc_Strip : PySem.W.keepIn K (.ref C_Strip) = true)
    (i1_Strip : PySem.W.findIn K (.ref C_Strip) "__class__" = some (some (.builtin "object.__class__")))
    (i2_Strip : PySem.W.specialIn K (.builtin "object.__class__") "__get__" = some (some (.builtin "getset_descriptor.__get__")))
    (i3_Strip : PySem.W.takesIn K (.builtin "object.__class__") = some true)
    (i4_Strip : PySem.W.mroIn K C_Strip (.type "object") = some true)
    (na_Strip_wide : PySem.W.findIn K (.ref C_Strip) "wide" = some none)
    (na_Strip_first_rows : PySem.W.findIn K (.ref C_Strip) "first_rows" = some none)
    (na_Strip_round_rows : PySem.W.findIn K (.ref C_Strip) "round_rows" = some none)
    (na_Strip_last_rows : PySem.W.findIn K (.ref C_Strip) "last_rows" = some none)
    (pg_Board : PySem.W.plainGet K C_Board Str.empty = true)
    (hd_Board : PySem.W.hasDictIn K C_Board = true)
    (po_Board : PySem.W.plainOver K C_Board = true)
    (st_Board : PySem.W.findIn K (.ref C_Board) "__setattr__" = some (some (.builtin "object.__setattr__")))
    (mk_Board : PySem.W.makesIn K C_Board = true)
    (kc_Board : PySem.W.keepIn K (.ref C_Board) = true)
    (i1_Board : PySem.W.findIn K (.ref C_Board) "__class__" = some (some (.builtin "object.__class__")))
    (i2_Board : PySem.W.specialIn K (.builtin "object.__class__") "__get__" = some (some (.builtin "getset_descriptor.__get__")))
    (i3_Board : PySem.W.takesIn K (.builtin "object.__class__") = some true)
    (i4_Board : PySem.W.mroIn K C_Board (.type "object") = some true)
    (na_Board_wide : PySem.W.findIn K (.ref C_Board) "wide" = some none)
    (na_Board_high : PySem.W.findIn K (.ref C_Board) "high" = some none)
    (na_Board_kinds : PySem.W.findIn K (.ref C_Board) "kinds" = some none)
    (ac_KINDS : PySem.W.nsIn K mainGlobals "KINDS" = some (some (.ref c_KINDS)))
    (lc_KINDS : K.lookup c_KINDS = some ⟨.type "tuple", dd_KINDS, .seq #[.str "-" t_KINDS_0, .str "|" t_KINDS_1] n_KINDS, sl_KINDS⟩)
    (ac_CHARACTERS : PySem.W.nsIn K mainGlobals "CHARACTERS" = some (some (.str ".-|" t_CHARACTERS)))
    (z_len : PySem.W.nsIn K mainGlobals "len" = some none)
    (z_int : PySem.W.nsIn K mainGlobals "int" = some none)
    (z_range : PySem.W.nsIn K mainGlobals "range" = some none)
    (z_list : PySem.W.nsIn K mainGlobals "list" = some none)
    (z_isinstance : PySem.W.nsIn K mainGlobals "isinstance" = some none)
    (z_bool : PySem.W.nsIn K mainGlobals "bool" = some none)
    (z_str : PySem.W.nsIn K mainGlobals "str" = some none)
    (z_tuple : PySem.W.nsIn K mainGlobals "tuple" = some none)
    (z_all : PySem.W.nsIn K mainGlobals "all" = some none)
    (z_max : PySem.W.nsIn K mainGlobals "max" = some none)
    (z_enumerate : PySem.W.nsIn K mainGlobals "enumerate" = some none)
    (z_sorted : PySem.W.nsIn K mainGlobals "sorted" = some none) :
    ∃ fd : FuncData, (∀ (s : Shared) (v : Value), BindsTo s fd ⟨[v], []⟩ [("_law_script", v)]) ∧ ∀ base : Heap, K.In base → base.Ns mainGlobals mg → FnOk l.prog w K mg base CX0 13 fa fd ["_law_script"] (spLaw K) := by
  have e := hfa.symm.trans (PySem.W.mg_of X G a_law)
  cases e
  have F_SandError___init__ := fun_mk (st := s_SandError___init__) l_SandError___init__ c_SandError___init__ k_SandError___init__
  have b_SandError___init__ := F_SandError___init__.binds (ps := P_SandError___init__) fun _ _ _ _ _ _ us hl => match us, hl with | [_, _], _ => rfl
  have F_is_inside := fun_mk (st := s_is_inside) l_is_inside c_is_inside k_is_inside
  have b_is_inside := F_is_inside.binds (ps := P_is_inside) fun _ _ _ _ _ _ us hl => match us, hl with | [_, _, _, _], _ => rfl
  have F_check_mirror := fun_mk (st := s_check_mirror) l_check_mirror c_check_mirror k_check_mirror
  have b_check_mirror := F_check_mirror.binds (ps := P_check_mirror) fun _ _ _ _ _ _ us hl => match us, hl with | [_, _, _, _], _ => rfl
  have F_kinds_of := fun_mk (st := s_kinds_of) l_kinds_of c_kinds_of k_kinds_of
  have b_kinds_of := F_kinds_of.binds (ps := P_kinds_of) fun _ _ _ _ _ _ us hl => match us, hl with | [_, _, _], _ => rfl
  have F_Board___init__ := fun_mk (st := s_Board___init__) l_Board___init__ c_Board___init__ k_Board___init__
  have b_Board___init__ := F_Board___init__.binds (ps := P_Board___init__) fun _ _ _ _ _ _ us hl => match us, hl with | [_, _, _, _], _ => rfl
  have F_Board_width := fun_mk (st := s_Board_width) l_Board_width c_Board_width k_Board_width
  have b_Board_width := F_Board_width.binds (ps := P_Board_width) fun _ _ _ _ _ _ us hl => match us, hl with | [_], _ => rfl
  have F_Board_height := fun_mk (st := s_Board_height) l_Board_height c_Board_height k_Board_height
  have b_Board_height := F_Board_height.binds (ps := P_Board_height) fun _ _ _ _ _ _ us hl => match us, hl with | [_], _ => rfl
  have F_Board_mirrors := fun_mk (st := s_Board_mirrors) l_Board_mirrors c_Board_mirrors k_Board_mirrors
  have b_Board_mirrors := F_Board_mirrors.binds (ps := P_Board_mirrors) fun _ _ _ _ _ _ us hl => match us, hl with | [_], _ => rfl
  have F_Board_mirror_at := fun_mk (st := s_Board_mirror_at) l_Board_mirror_at c_Board_mirror_at k_Board_mirror_at
  have b_Board_mirror_at := F_Board_mirror_at.binds (ps := P_Board_mirror_at) fun _ _ _ _ _ _ us hl => match us, hl with | [_, _, _], _ => rfl
  have F_check_rows := fun_mk (st := s_check_rows) l_check_rows c_check_rows k_check_rows
  have b_check_rows := F_check_rows.binds (ps := P_check_rows) fun _ _ _ _ _ _ us hl => match us, hl with | [_, _], _ => rfl
  have F_level_mirrors := fun_mk (st := s_level_mirrors) l_level_mirrors c_level_mirrors k_level_mirrors
  have b_level_mirrors := F_level_mirrors.binds (ps := P_level_mirrors) fun _ _ _ _ _ _ us hl => match us, hl with | [_, _, _], _ => rfl
  have F_row_mirrors := fun_mk (st := s_row_mirrors) l_row_mirrors c_row_mirrors k_row_mirrors
  have b_row_mirrors := F_row_mirrors.binds (ps := P_row_mirrors) fun _ _ _ _ _ _ us hl => match us, hl with | [_], _ => rfl
  have F_Strip___init__ := fun_mk (st := s_Strip___init__) l_Strip___init__ c_Strip___init__ k_Strip___init__
  have b_Strip___init__ := F_Strip___init__.binds (ps := P_Strip___init__) fun _ _ _ _ _ _ us hl => match us, hl with | [_, _, _, _, _], _ => rfl
  have F_Strip_width := fun_mk (st := s_Strip_width) l_Strip_width c_Strip_width k_Strip_width
  have b_Strip_width := F_Strip_width.binds (ps := P_Strip_width) fun _ _ _ _ _ _ us hl => match us, hl with | [_], _ => rfl
  have F_Strip_ahead := fun_mk (st := s_Strip_ahead) l_Strip_ahead c_Strip_ahead k_Strip_ahead
  have b_Strip_ahead := F_Strip_ahead.binds (ps := P_Strip_ahead) fun _ _ _ _ _ _ us hl => match us, hl with | [_], _ => rfl
  have F_Strip_cycle := fun_mk (st := s_Strip_cycle) l_Strip_cycle c_Strip_cycle k_Strip_cycle
  have b_Strip_cycle := F_Strip_cycle.binds (ps := P_Strip_cycle) fun _ _ _ _ _ _ us hl => match us, hl with | [_], _ => rfl
  have F_Strip_end := fun_mk (st := s_Strip_end) l_Strip_end c_Strip_end k_Strip_end
  have b_Strip_end := F_Strip_end.binds (ps := P_Strip_end) fun _ _ _ _ _ _ us hl => match us, hl with | [_], _ => rfl
  have F_Strip_least := fun_mk (st := s_Strip_least) l_Strip_least c_Strip_least k_Strip_least
  have b_Strip_least := F_Strip_least.binds (ps := P_Strip_least) fun _ _ _ _ _ _ us hl => match us, hl with | [_], _ => rfl
  have F_Strip_rows := fun_mk (st := s_Strip_rows) l_Strip_rows c_Strip_rows k_Strip_rows
  have b_Strip_rows := F_Strip_rows.binds (ps := P_Strip_rows) fun _ _ _ _ _ _ us hl => match us, hl with | [_, _], _ => rfl
  have F_Strip_board_for := fun_mk (st := s_Strip_board_for) l_Strip_board_for c_Strip_board_for k_Strip_board_for
  have b_Strip_board_for := F_Strip_board_for.binds (ps := P_Strip_board_for) fun _ _ _ _ _ _ us hl => match us, hl with | [_, _], _ => rfl
  have F__law_well := fun_mk (st := s__law_well) l__law_well c__law_well k__law_well
  have b__law_well := F__law_well.binds (ps := P__law_well) fun _ _ _ _ _ _ us hl => match us, hl with | [_, _], _ => rfl
  have F__law_pick := fun_mk (st := s__law_pick) l__law_pick c__law_pick k__law_pick
  have b__law_pick := F__law_pick.binds (ps := P__law_pick) fun _ _ _ _ _ _ us hl => match us, hl with | [_, _], _ => rfl
  have F__law_same := fun_mk (st := s__law_same) l__law_same c__law_same k__law_same
  have b__law_same := F__law_same.binds (ps := P__law_same) fun _ _ _ _ _ _ us hl => match us, hl with | [_, _], _ => rfl
  have F__law_rows := fun_mk (st := s__law_rows) l__law_rows c__law_rows k__law_rows
  have b__law_rows := F__law_rows.binds (ps := P__law_rows) fun _ _ _ _ _ _ us hl => match us, hl with | [_, _, _], _ => rfl
  have F__law_lists := fun_mk (st := s__law_lists) l__law_lists c__law_lists k__law_lists
  have b__law_lists := F__law_lists.binds (ps := P__law_lists) fun _ _ _ _ _ _ us hl => match us, hl with | [_], _ => rfl
  have F__law_due := fun_mk (st := s__law_due) l__law_due c__law_due k__law_due
  have b__law_due := F__law_due.binds (ps := P__law_due) fun _ _ _ _ _ _ us hl => match us, hl with | [_, _], _ => rfl
  have F__law_mirrors := fun_mk (st := s__law_mirrors) l__law_mirrors c__law_mirrors k__law_mirrors
  have b__law_mirrors := F__law_mirrors.binds (ps := P__law_mirrors) fun _ _ _ _ _ _ us hl => match us, hl with | [_, _], _ => rfl
  have F__law_refused := fun_mk (st := s__law_refused) l__law_refused c__law_refused k__law_refused
  have b__law_refused := F__law_refused.binds (ps := P__law_refused) fun _ _ _ _ _ _ us hl => match us, hl with | [_, _], _ => rfl
  have F__law_board_is := fun_mk (st := s__law_board_is) l__law_board_is c__law_board_is k__law_board_is
  have b__law_board_is := F__law_board_is.binds (ps := P__law_board_is) fun _ _ _ _ _ _ us hl => match us, hl with | [_, _, _], _ => rfl
  have F_law := fun_mk (st := s_law) l_law c_law k_law
  have b_law := F_law.binds (ps := P_law) fun _ _ _ _ _ _ us hl => match us, hl with | [_], _ => rfl
  let A : Ad := {
    f_SandError___init__ := f_SandError___init__
    d_SandError___init__ := PySem.W.fnOf "__init__" "SandError.__init__" (defArgs s_SandError___init__) (defBody s_SandError___init__) (defScope s_SandError___init__) .none kV_SandError___init__ dc_SandError___init__ pm_SandError___init__ an_SandError___init__ cd_SandError___init__ ct_SandError___init__
    f_is_inside := f_is_inside
    d_is_inside := PySem.W.fnOf "is_inside" "is_inside" (defArgs s_is_inside) (defBody s_is_inside) (defScope s_is_inside) .none kV_is_inside dc_is_inside pm_is_inside an_is_inside cd_is_inside ct_is_inside
    f_check_mirror := f_check_mirror
    d_check_mirror := PySem.W.fnOf "check_mirror" "check_mirror" (defArgs s_check_mirror) (defBody s_check_mirror) (defScope s_check_mirror) .none kV_check_mirror dc_check_mirror pm_check_mirror an_check_mirror cd_check_mirror ct_check_mirror
    f_kinds_of := f_kinds_of
    d_kinds_of := PySem.W.fnOf "kinds_of" "kinds_of" (defArgs s_kinds_of) (defBody s_kinds_of) (defScope s_kinds_of) .none kV_kinds_of dc_kinds_of pm_kinds_of an_kinds_of cd_kinds_of ct_kinds_of
    f_Board___init__ := f_Board___init__
    d_Board___init__ := PySem.W.fnOf "__init__" "Board.__init__" (defArgs s_Board___init__) (defBody s_Board___init__) (defScope s_Board___init__) .none kV_Board___init__ dc_Board___init__ pm_Board___init__ an_Board___init__ cd_Board___init__ ct_Board___init__
    f_Board_width := f_Board_width
    d_Board_width := PySem.W.fnOf "width" "Board.width" (defArgs s_Board_width) (defBody s_Board_width) (defScope s_Board_width) .none kV_Board_width dc_Board_width pm_Board_width an_Board_width cd_Board_width ct_Board_width
    f_Board_height := f_Board_height
    d_Board_height := PySem.W.fnOf "height" "Board.height" (defArgs s_Board_height) (defBody s_Board_height) (defScope s_Board_height) .none kV_Board_height dc_Board_height pm_Board_height an_Board_height cd_Board_height ct_Board_height
    f_Board_mirrors := f_Board_mirrors
    d_Board_mirrors := PySem.W.fnOf "mirrors" "Board.mirrors" (defArgs s_Board_mirrors) (defBody s_Board_mirrors) (defScope s_Board_mirrors) .none kV_Board_mirrors dc_Board_mirrors pm_Board_mirrors an_Board_mirrors cd_Board_mirrors ct_Board_mirrors
    f_Board_mirror_at := f_Board_mirror_at
    d_Board_mirror_at := PySem.W.fnOf "mirror_at" "Board.mirror_at" (defArgs s_Board_mirror_at) (defBody s_Board_mirror_at) (defScope s_Board_mirror_at) .none kV_Board_mirror_at dc_Board_mirror_at pm_Board_mirror_at an_Board_mirror_at cd_Board_mirror_at ct_Board_mirror_at
    f_check_rows := f_check_rows
    d_check_rows := PySem.W.fnOf "check_rows" "check_rows" (defArgs s_check_rows) (defBody s_check_rows) (defScope s_check_rows) .none kV_check_rows dc_check_rows pm_check_rows an_check_rows cd_check_rows ct_check_rows
    f_level_mirrors := f_level_mirrors
    d_level_mirrors := PySem.W.fnOf "level_mirrors" "level_mirrors" (defArgs s_level_mirrors) (defBody s_level_mirrors) (defScope s_level_mirrors) .none kV_level_mirrors dc_level_mirrors pm_level_mirrors an_level_mirrors cd_level_mirrors ct_level_mirrors
    f_row_mirrors := f_row_mirrors
    d_row_mirrors := PySem.W.fnOf "row_mirrors" "row_mirrors" (defArgs s_row_mirrors) (defBody s_row_mirrors) (defScope s_row_mirrors) .none kV_row_mirrors dc_row_mirrors pm_row_mirrors an_row_mirrors cd_row_mirrors ct_row_mirrors
    f_Strip___init__ := f_Strip___init__
    d_Strip___init__ := PySem.W.fnOf "__init__" "Strip.__init__" (defArgs s_Strip___init__) (defBody s_Strip___init__) (defScope s_Strip___init__) .none kV_Strip___init__ dc_Strip___init__ pm_Strip___init__ an_Strip___init__ cd_Strip___init__ ct_Strip___init__
    f_Strip_width := f_Strip_width
    d_Strip_width := PySem.W.fnOf "width" "Strip.width" (defArgs s_Strip_width) (defBody s_Strip_width) (defScope s_Strip_width) .none kV_Strip_width dc_Strip_width pm_Strip_width an_Strip_width cd_Strip_width ct_Strip_width
    f_Strip_ahead := f_Strip_ahead
    d_Strip_ahead := PySem.W.fnOf "ahead" "Strip.ahead" (defArgs s_Strip_ahead) (defBody s_Strip_ahead) (defScope s_Strip_ahead) .none kV_Strip_ahead dc_Strip_ahead pm_Strip_ahead an_Strip_ahead cd_Strip_ahead ct_Strip_ahead
    f_Strip_cycle := f_Strip_cycle
    d_Strip_cycle := PySem.W.fnOf "cycle" "Strip.cycle" (defArgs s_Strip_cycle) (defBody s_Strip_cycle) (defScope s_Strip_cycle) .none kV_Strip_cycle dc_Strip_cycle pm_Strip_cycle an_Strip_cycle cd_Strip_cycle ct_Strip_cycle
    f_Strip_end := f_Strip_end
    d_Strip_end := PySem.W.fnOf "end" "Strip.end" (defArgs s_Strip_end) (defBody s_Strip_end) (defScope s_Strip_end) .none kV_Strip_end dc_Strip_end pm_Strip_end an_Strip_end cd_Strip_end ct_Strip_end
    f_Strip_least := f_Strip_least
    d_Strip_least := PySem.W.fnOf "least" "Strip.least" (defArgs s_Strip_least) (defBody s_Strip_least) (defScope s_Strip_least) .none kV_Strip_least dc_Strip_least pm_Strip_least an_Strip_least cd_Strip_least ct_Strip_least
    f_Strip_rows := f_Strip_rows
    d_Strip_rows := PySem.W.fnOf "rows" "Strip.rows" (defArgs s_Strip_rows) (defBody s_Strip_rows) (defScope s_Strip_rows) .none kV_Strip_rows dc_Strip_rows pm_Strip_rows an_Strip_rows cd_Strip_rows ct_Strip_rows
    f_Strip_board_for := f_Strip_board_for
    d_Strip_board_for := PySem.W.fnOf "board_for" "Strip.board_for" (defArgs s_Strip_board_for) (defBody s_Strip_board_for) (defScope s_Strip_board_for) .none kV_Strip_board_for dc_Strip_board_for pm_Strip_board_for an_Strip_board_for cd_Strip_board_for ct_Strip_board_for
    f__law_well := f__law_well
    d__law_well := PySem.W.fnOf "_law_well" "_law_well" (defArgs s__law_well) (defBody s__law_well) (defScope s__law_well) .none kV__law_well dc__law_well pm__law_well an__law_well cd__law_well ct__law_well
    f__law_pick := f__law_pick
    d__law_pick := PySem.W.fnOf "_law_pick" "_law_pick" (defArgs s__law_pick) (defBody s__law_pick) (defScope s__law_pick) .none kV__law_pick dc__law_pick pm__law_pick an__law_pick cd__law_pick ct__law_pick
    f__law_same := f__law_same
    d__law_same := PySem.W.fnOf "_law_same" "_law_same" (defArgs s__law_same) (defBody s__law_same) (defScope s__law_same) .none kV__law_same dc__law_same pm__law_same an__law_same cd__law_same ct__law_same
    f__law_rows := f__law_rows
    d__law_rows := PySem.W.fnOf "_law_rows" "_law_rows" (defArgs s__law_rows) (defBody s__law_rows) (defScope s__law_rows) .none kV__law_rows dc__law_rows pm__law_rows an__law_rows cd__law_rows ct__law_rows
    f__law_lists := f__law_lists
    d__law_lists := PySem.W.fnOf "_law_lists" "_law_lists" (defArgs s__law_lists) (defBody s__law_lists) (defScope s__law_lists) .none kV__law_lists dc__law_lists pm__law_lists an__law_lists cd__law_lists ct__law_lists
    f__law_due := f__law_due
    d__law_due := PySem.W.fnOf "_law_due" "_law_due" (defArgs s__law_due) (defBody s__law_due) (defScope s__law_due) .none kV__law_due dc__law_due pm__law_due an__law_due cd__law_due ct__law_due
    f__law_mirrors := f__law_mirrors
    d__law_mirrors := PySem.W.fnOf "_law_mirrors" "_law_mirrors" (defArgs s__law_mirrors) (defBody s__law_mirrors) (defScope s__law_mirrors) .none kV__law_mirrors dc__law_mirrors pm__law_mirrors an__law_mirrors cd__law_mirrors ct__law_mirrors
    f__law_refused := f__law_refused
    d__law_refused := PySem.W.fnOf "_law_refused" "_law_refused" (defArgs s__law_refused) (defBody s__law_refused) (defScope s__law_refused) .none kV__law_refused dc__law_refused pm__law_refused an__law_refused cd__law_refused ct__law_refused
    f__law_board_is := f__law_board_is
    d__law_board_is := PySem.W.fnOf "_law_board_is" "_law_board_is" (defArgs s__law_board_is) (defBody s__law_board_is) (defScope s__law_board_is) .none kV__law_board_is dc__law_board_is pm__law_board_is an__law_board_is cd__law_board_is ct__law_board_is
    f_law := fa
    d_law := PySem.W.fnOf "law" "law" (defArgs s_law) (defBody s_law) (defScope s_law) .none kV_law dc_law pm_law an_law cd_law ct_law
    C_InvalidSize := C_InvalidSize
    C_InvalidRow := C_InvalidRow
    C_InvalidPoint := C_InvalidPoint
    C_InvalidMirror := C_InvalidMirror
    C_Taken := C_Taken
    C_NoLength := C_NoLength
    C_Strip := C_Strip
    C_Board := C_Board
    C_InvalidTurn := 0
    C_NoMirror := 0
    C_InvalidNumber := 0
    C_InvalidSquare := 0
    C_Course := 0
    C_SandError := C_SandError
    c_KINDS := c_KINDS
    p_Strip_width := p_Strip_width
    p_Strip_ahead := p_Strip_ahead
    p_Strip_cycle := p_Strip_cycle
    p_Strip_end := p_Strip_end
    p_Strip_least := p_Strip_least
    p_Board_width := p_Board_width
    p_Board_height := p_Board_height
    p_Board_mirrors := p_Board_mirrors }
  have T : Txt K mg A := {
    F_SandError___init__ := F_SandError___init__, k_SandError___init__ := k_SandError___init__, b_SandError___init__ := b_SandError___init__,
    F_is_inside := F_is_inside, k_is_inside := k_is_inside, b_is_inside := b_is_inside,
    g_is_inside := PySem.W.mg_of X G a_is_inside,
    F_check_mirror := F_check_mirror, k_check_mirror := k_check_mirror, b_check_mirror := b_check_mirror,
    g_check_mirror := PySem.W.mg_of X G a_check_mirror,
    F_kinds_of := F_kinds_of, k_kinds_of := k_kinds_of, b_kinds_of := b_kinds_of,
    g_kinds_of := PySem.W.mg_of X G a_kinds_of,
    F_Board___init__ := F_Board___init__, k_Board___init__ := k_Board___init__, b_Board___init__ := b_Board___init__,
    F_Board_width := F_Board_width, k_Board_width := k_Board_width, b_Board_width := b_Board_width,
    F_Board_height := F_Board_height, k_Board_height := k_Board_height, b_Board_height := b_Board_height,
    F_Board_mirrors := F_Board_mirrors, k_Board_mirrors := k_Board_mirrors, b_Board_mirrors := b_Board_mirrors,
    F_Board_mirror_at := F_Board_mirror_at, k_Board_mirror_at := k_Board_mirror_at, b_Board_mirror_at := b_Board_mirror_at,
    F_check_rows := F_check_rows, k_check_rows := k_check_rows, b_check_rows := b_check_rows,
    g_check_rows := PySem.W.mg_of X G a_check_rows,
    F_level_mirrors := F_level_mirrors, k_level_mirrors := k_level_mirrors, b_level_mirrors := b_level_mirrors,
    g_level_mirrors := PySem.W.mg_of X G a_level_mirrors,
    F_row_mirrors := F_row_mirrors, k_row_mirrors := k_row_mirrors, b_row_mirrors := b_row_mirrors,
    g_row_mirrors := PySem.W.mg_of X G a_row_mirrors,
    F_Strip___init__ := F_Strip___init__, k_Strip___init__ := k_Strip___init__, b_Strip___init__ := b_Strip___init__,
    F_Strip_width := F_Strip_width, k_Strip_width := k_Strip_width, b_Strip_width := b_Strip_width,
    F_Strip_ahead := F_Strip_ahead, k_Strip_ahead := k_Strip_ahead, b_Strip_ahead := b_Strip_ahead,
    F_Strip_cycle := F_Strip_cycle, k_Strip_cycle := k_Strip_cycle, b_Strip_cycle := b_Strip_cycle,
    F_Strip_end := F_Strip_end, k_Strip_end := k_Strip_end, b_Strip_end := b_Strip_end,
    F_Strip_least := F_Strip_least, k_Strip_least := k_Strip_least, b_Strip_least := b_Strip_least,
    F_Strip_rows := F_Strip_rows, k_Strip_rows := k_Strip_rows, b_Strip_rows := b_Strip_rows,
    F_Strip_board_for := F_Strip_board_for, k_Strip_board_for := k_Strip_board_for, b_Strip_board_for := b_Strip_board_for,
    F__law_well := F__law_well, k__law_well := k__law_well, b__law_well := b__law_well,
    g__law_well := PySem.W.mg_of X G a__law_well,
    F__law_pick := F__law_pick, k__law_pick := k__law_pick, b__law_pick := b__law_pick,
    g__law_pick := PySem.W.mg_of X G a__law_pick,
    F__law_same := F__law_same, k__law_same := k__law_same, b__law_same := b__law_same,
    g__law_same := PySem.W.mg_of X G a__law_same,
    F__law_rows := F__law_rows, k__law_rows := k__law_rows, b__law_rows := b__law_rows,
    g__law_rows := PySem.W.mg_of X G a__law_rows,
    F__law_lists := F__law_lists, k__law_lists := k__law_lists, b__law_lists := b__law_lists,
    g__law_lists := PySem.W.mg_of X G a__law_lists,
    F__law_due := F__law_due, k__law_due := k__law_due, b__law_due := b__law_due,
    g__law_due := PySem.W.mg_of X G a__law_due,
    F__law_mirrors := F__law_mirrors, k__law_mirrors := k__law_mirrors, b__law_mirrors := b__law_mirrors,
    g__law_mirrors := PySem.W.mg_of X G a__law_mirrors,
    F__law_refused := F__law_refused, k__law_refused := k__law_refused, b__law_refused := b__law_refused,
    g__law_refused := PySem.W.mg_of X G a__law_refused,
    F__law_board_is := F__law_board_is, k__law_board_is := k__law_board_is, b__law_board_is := b__law_board_is,
    g__law_board_is := PySem.W.mg_of X G a__law_board_is,
    F_law := F_law, k_law := k_law, b_law := b_law,
    g_law := PySem.W.mg_of X G a_law,
    g_InvalidSize := PySem.W.mg_of X G aC_InvalidSize,
    X_InvalidSize := ⟨⟨_, _, _, _, _, _, _, _, _, _, _, _, _, _, _, xL_InvalidSize, rfl⟩, sa_InvalidSize, eC_InvalidSize, tC_InvalidSize, kC_InvalidSize⟩,
    i_InvalidSize := iI_InvalidSize,
    xf_InvalidSize := ⟨ga_InvalidSize, gg_InvalidSize, eC_InvalidSize, hC_InvalidSize⟩,
    te_InvalidSize := exm_ok eC_InvalidSize zC_InvalidSize tC_InvalidSize sC_InvalidSize,
    no_InvalidSize := nv_InvalidSize,
    g_InvalidRow := PySem.W.mg_of X G aC_InvalidRow,
    X_InvalidRow := ⟨⟨_, _, _, _, _, _, _, _, _, _, _, _, _, _, _, xL_InvalidRow, rfl⟩, sa_InvalidRow, eC_InvalidRow, tC_InvalidRow, kC_InvalidRow⟩,
    i_InvalidRow := iI_InvalidRow,
    xf_InvalidRow := ⟨ga_InvalidRow, gg_InvalidRow, eC_InvalidRow, hC_InvalidRow⟩,
    te_InvalidRow := exm_ok eC_InvalidRow zC_InvalidRow tC_InvalidRow sC_InvalidRow,
    no_InvalidRow := nv_InvalidRow,
    g_InvalidPoint := PySem.W.mg_of X G aC_InvalidPoint,
    X_InvalidPoint := ⟨⟨_, _, _, _, _, _, _, _, _, _, _, _, _, _, _, xL_InvalidPoint, rfl⟩, sa_InvalidPoint, eC_InvalidPoint, tC_InvalidPoint, kC_InvalidPoint⟩,
    i_InvalidPoint := iI_InvalidPoint,
    xf_InvalidPoint := ⟨ga_InvalidPoint, gg_InvalidPoint, eC_InvalidPoint, hC_InvalidPoint⟩,
    te_InvalidPoint := exm_ok eC_InvalidPoint zC_InvalidPoint tC_InvalidPoint sC_InvalidPoint,
    no_InvalidPoint := nv_InvalidPoint,
    g_InvalidMirror := PySem.W.mg_of X G aC_InvalidMirror,
    X_InvalidMirror := ⟨⟨_, _, _, _, _, _, _, _, _, _, _, _, _, _, _, xL_InvalidMirror, rfl⟩, sa_InvalidMirror, eC_InvalidMirror, tC_InvalidMirror, kC_InvalidMirror⟩,
    i_InvalidMirror := iI_InvalidMirror,
    xf_InvalidMirror := ⟨ga_InvalidMirror, gg_InvalidMirror, eC_InvalidMirror, hC_InvalidMirror⟩,
    te_InvalidMirror := exm_ok eC_InvalidMirror zC_InvalidMirror tC_InvalidMirror sC_InvalidMirror,
    no_InvalidMirror := nv_InvalidMirror,
    g_Taken := PySem.W.mg_of X G aC_Taken,
    X_Taken := ⟨⟨_, _, _, _, _, _, _, _, _, _, _, _, _, _, _, xL_Taken, rfl⟩, sa_Taken, eC_Taken, tC_Taken, kC_Taken⟩,
    i_Taken := iI_Taken,
    xf_Taken := ⟨ga_Taken, gg_Taken, eC_Taken, hC_Taken⟩,
    te_Taken := exm_ok eC_Taken zC_Taken tC_Taken sC_Taken,
    no_Taken := nv_Taken,
    g_NoLength := PySem.W.mg_of X G aC_NoLength,
    X_NoLength := ⟨⟨_, _, _, _, _, _, _, _, _, _, _, _, _, _, _, xL_NoLength, rfl⟩, sa_NoLength, eC_NoLength, tC_NoLength, kC_NoLength⟩,
    i_NoLength := iI_NoLength,
    xf_NoLength := ⟨ga_NoLength, gg_NoLength, eC_NoLength, hC_NoLength⟩,
    te_NoLength := exm_ok eC_NoLength zC_NoLength tC_NoLength sC_NoLength,
    no_NoLength := nv_NoLength,
    g_SandError := PySem.W.mg_of X G aC_SandError,
    tb_InvalidSize := exm_yes eC_SandError zC_SandError tC_SandError sb_InvalidSize,
    tb_InvalidRow := exm_yes eC_SandError zC_SandError tC_SandError sb_InvalidRow,
    tb_InvalidPoint := exm_yes eC_SandError zC_SandError tC_SandError sb_InvalidPoint,
    tb_InvalidMirror := exm_yes eC_SandError zC_SandError tC_SandError sb_InvalidMirror,
    tb_Taken := exm_yes eC_SandError zC_SandError tC_SandError sb_Taken,
    tb_NoLength := exm_yes eC_SandError zC_SandError tC_SandError sb_NoLength,
    xc_InvalidSize := ⟨ga_InvalidSize, gg_InvalidSize, eC_InvalidSize, hC_InvalidSize, xa_InvalidSize, xn_InvalidSize, xt_InvalidSize, xm_InvalidSize⟩,
    kv_InvalidSize := kit_ve xv_InvalidSize,
    ki_InvalidSize_InvalidSize := kit_xx zC_InvalidSize tC_InvalidSize sC_InvalidSize xs_InvalidSize_InvalidSize,
    ki_InvalidSize_InvalidRow := kit_xx zC_InvalidRow tC_InvalidRow sC_InvalidRow xs_InvalidSize_InvalidRow,
    ki_InvalidSize_NoLength := kit_xx zC_NoLength tC_NoLength sC_NoLength xs_InvalidSize_NoLength,
    xc_InvalidRow := ⟨ga_InvalidRow, gg_InvalidRow, eC_InvalidRow, hC_InvalidRow, xa_InvalidRow, xn_InvalidRow, xt_InvalidRow, xm_InvalidRow⟩,
    kv_InvalidRow := kit_ve xv_InvalidRow,
    ki_InvalidRow_InvalidSize := kit_xx zC_InvalidSize tC_InvalidSize sC_InvalidSize xs_InvalidRow_InvalidSize,
    ki_InvalidRow_InvalidRow := kit_xx zC_InvalidRow tC_InvalidRow sC_InvalidRow xs_InvalidRow_InvalidRow,
    ki_InvalidRow_NoLength := kit_xx zC_NoLength tC_NoLength sC_NoLength xs_InvalidRow_NoLength,
    xc_NoLength := ⟨ga_NoLength, gg_NoLength, eC_NoLength, hC_NoLength, xa_NoLength, xn_NoLength, xt_NoLength, xm_NoLength⟩,
    kv_NoLength := kit_ve xv_NoLength,
    ki_NoLength_InvalidSize := kit_xx zC_InvalidSize tC_InvalidSize sC_InvalidSize xs_NoLength_InvalidSize,
    ki_NoLength_InvalidRow := kit_xx zC_InvalidRow tC_InvalidRow sC_InvalidRow xs_NoLength_InvalidRow,
    ki_NoLength_NoLength := kit_xx zC_NoLength tC_NoLength sC_NoLength xs_NoLength_NoLength,
    kw_Strip_rows_n := fun s us ws _ l1 l2 => match us, ws, l1, l2 with | [_], [_], _, _ => .of_eq rfl,
    kw_Strip_board_for_n := fun s us ws _ l1 l2 => match us, ws, l1, l2 with | [_], [_], _, _ => .of_eq rfl,
    ti_init := tI,
    g_Strip := PySem.W.mg_of X G aC_Strip,
    M_Strip := ⟨mk_Strip, a_Strip___init__, i_Strip___init__, kc_Strip⟩,
    cl_Strip := ⟨pg_Strip, hd_Strip, po_Strip, st_Strip⟩,
    i1_Strip := i1_Strip,
    i2_Strip := i2_Strip,
    i3_Strip := i3_Strip,
    i4_Strip := i4_Strip,
    na_Strip_wide := na_Strip_wide,
    na_Strip_first_rows := na_Strip_first_rows,
    na_Strip_round_rows := na_Strip_round_rows,
    na_Strip_last_rows := na_Strip_last_rows,
    m_Strip_rows := ⟨a_Strip_rows, i_Strip_rows, k_Strip_rows⟩,
    m_Strip_board_for := ⟨a_Strip_board_for, i_Strip_board_for, k_Strip_board_for⟩,
    pr_Strip_width := ⟨pa_Strip_width, pg_Strip_width, pt_Strip_width, _, pr_Strip_width⟩,
    pr_Strip_ahead := ⟨pa_Strip_ahead, pg_Strip_ahead, pt_Strip_ahead, _, pr_Strip_ahead⟩,
    pr_Strip_cycle := ⟨pa_Strip_cycle, pg_Strip_cycle, pt_Strip_cycle, _, pr_Strip_cycle⟩,
    pr_Strip_end := ⟨pa_Strip_end, pg_Strip_end, pt_Strip_end, _, pr_Strip_end⟩,
    pr_Strip_least := ⟨pa_Strip_least, pg_Strip_least, pt_Strip_least, _, pr_Strip_least⟩,
    g_Board := PySem.W.mg_of X G aC_Board,
    M_Board := ⟨mk_Board, a_Board___init__, i_Board___init__, kc_Board⟩,
    cl_Board := ⟨pg_Board, hd_Board, po_Board, st_Board⟩,
    i1_Board := i1_Board,
    i2_Board := i2_Board,
    i3_Board := i3_Board,
    i4_Board := i4_Board,
    na_Board_wide := na_Board_wide,
    na_Board_high := na_Board_high,
    na_Board_kinds := na_Board_kinds,
    m_Board_mirror_at := ⟨a_Board_mirror_at, i_Board_mirror_at, k_Board_mirror_at⟩,
    pr_Board_width := ⟨pa_Board_width, pg_Board_width, pt_Board_width, _, pr_Board_width⟩,
    pr_Board_height := ⟨pa_Board_height, pg_Board_height, pt_Board_height, _, pr_Board_height⟩,
    pr_Board_mirrors := ⟨pa_Board_mirrors, pg_Board_mirrors, pt_Board_mirrors, _, pr_Board_mirrors⟩,
    g_KINDS := PySem.W.mg_of X G ac_KINDS,
    q_KINDS := fun H => .inr ⟨_, _, _, lc_KINDS, rfl, rfl, (by show 2 ≤ sizeLine; decide), .cons ⟨_, rfl⟩ (.cons ⟨_, rfl⟩ (.nil))⟩,
    g_CHARACTERS := ⟨t_CHARACTERS, PySem.W.mg_of X G ac_CHARACTERS⟩,
    n_len := PySem.W.mg_none_of X G z_len,
    n_int := PySem.W.mg_none_of X G z_int,
    n_range := PySem.W.mg_none_of X G z_range,
    n_list := PySem.W.mg_none_of X G z_list,
    n_isinstance := PySem.W.mg_none_of X G z_isinstance,
    n_bool := PySem.W.mg_none_of X G z_bool,
    n_str := PySem.W.mg_none_of X G z_str,
    n_tuple := PySem.W.mg_none_of X G z_tuple,
    n_all := PySem.W.mg_none_of X G z_all,
    n_max := PySem.W.mg_none_of X G z_max,
    n_enumerate := PySem.W.mg_none_of X G z_enumerate,
    n_sorted := PySem.W.mg_none_of X G z_sorted }
  exact ⟨A.d_law, fun s v => .of_eq rfl, fun base _ _ => ok_law T⟩
theorem walk {l : PySem.W.OpenLaw} {q : Program} {loose : List Str} {XP : (Str → Option Value) → Heap → Prop} {YP : World → Heap → Prop} {d : DefRec} {K : Params → PySem.W.Frag}
    (hn : l.most = some 63) (hdf : d.params.defaults = []) (hY : ∀ (w : World) (h : Heap), YP w h → (K w.params).In h)
    (F : ∀ (w : World) (mg : Str → Option Value) (fa : Addr) (h : Heap), (K w.params).In h → h.Ns mainGlobals mg → mg d.name = some (.ref fa) → ∃ fd : FuncData,
      (∀ (s : Shared) (u : Value), BindsTo s fd ⟨[u], []⟩ [("_law_script", u)]) ∧ ∀ base : Heap, (K w.params).In base → base.Ns mainGlobals mg → FnOk l.prog w (K w.params) mg base CX0 13 fa fd ["_law_script"] (spLaw (K w.params))) :
    PySem.W.WalkO q loose XP YP l.row.toRowW d [] (fun f vs => PySem.call f vs) :=
  L2.walk_of (n := 63) (k := 13) (x := "_law_script") (CX := fun _ => CX0) (sp := fun w => spLaw (K w.params)) hn (by decide) hdf ⟨rfl, by decide, by decide⟩ hY F (fun _ _ a ns hl _ hS => ⟨a, ns, rfl, hS, hl, TK.tabL_none rfl, fun _ => rfl⟩) fun _ _ _ _ _ z => z
end TK
open PySem PySem.W PyProof.Rows
set_option maxRecDepth 100000 in
set_option maxHeartbeats 0 in
theorem PySem.Challenge.cw_sandthreads_k41_rows_and_boards_holds : PySem.Challenge.rw_sandthreads_k41_rows_and_boards.Holds := by
  w_on; o_law; k_head; (case hw => w_witness2)
  k_fill
  refine TK.walk (l := PySem.Challenge.rw_sandthreads_k41_rows_and_boards) rfl rfl (fun w h Y => PySem.W.kIn_of Y) ?F
  case F =>
    intro w mg fa h KX G hmg
    refine' TK.all_mk KX G hmg ?aC_InvalidSize ?aC_InvalidRow ?aC_InvalidPoint ?aC_InvalidMirror ?aC_Taken ?aC_NoLength ?aC_Strip ?aC_Board ?xL_InvalidSize ?sa_InvalidSize ?ga_InvalidSize ?gg_InvalidSize ?nv_InvalidSize ?iI_InvalidSize ?kC_InvalidSize ?eC_InvalidSize ?tC_InvalidSize ?hC_InvalidSize ?zC_InvalidSize ?sC_InvalidSize ?xL_InvalidRow ?sa_InvalidRow ?ga_InvalidRow ?gg_InvalidRow ?nv_InvalidRow ?iI_InvalidRow ?kC_InvalidRow ?eC_InvalidRow ?tC_InvalidRow ?hC_InvalidRow ?zC_InvalidRow ?sC_InvalidRow ?xL_InvalidPoint ?sa_InvalidPoint ?ga_InvalidPoint ?gg_InvalidPoint ?nv_InvalidPoint ?iI_InvalidPoint ?kC_InvalidPoint ?eC_InvalidPoint ?tC_InvalidPoint ?hC_InvalidPoint ?zC_InvalidPoint ?sC_InvalidPoint ?xL_InvalidMirror ?sa_InvalidMirror ?ga_InvalidMirror ?gg_InvalidMirror ?nv_InvalidMirror ?iI_InvalidMirror ?kC_InvalidMirror ?eC_InvalidMirror ?tC_InvalidMirror ?hC_InvalidMirror ?zC_InvalidMirror ?sC_InvalidMirror ?xL_Taken ?sa_Taken ?ga_Taken ?gg_Taken ?nv_Taken ?iI_Taken ?kC_Taken ?eC_Taken ?tC_Taken ?hC_Taken ?zC_Taken ?sC_Taken ?xL_NoLength ?sa_NoLength ?ga_NoLength ?gg_NoLength ?nv_NoLength ?iI_NoLength ?kC_NoLength ?eC_NoLength ?tC_NoLength ?hC_NoLength ?zC_NoLength ?sC_NoLength ?aC_SandError ?eC_SandError ?tC_SandError ?zC_SandError ?sb_InvalidSize ?sb_InvalidRow ?sb_InvalidPoint ?sb_InvalidMirror ?sb_Taken ?sb_NoLength ?xa_InvalidSize ?xn_InvalidSize ?xt_InvalidSize ?xm_InvalidSize ?xv_InvalidSize ?xs_InvalidSize_InvalidSize ?xs_InvalidSize_InvalidRow ?xs_InvalidSize_NoLength ?xa_InvalidRow ?xn_InvalidRow ?xt_InvalidRow ?xm_InvalidRow ?xv_InvalidRow ?xs_InvalidRow_InvalidSize ?xs_InvalidRow_InvalidRow ?xs_InvalidRow_NoLength ?xa_NoLength ?xn_NoLength ?xt_NoLength ?xm_NoLength ?xv_NoLength ?xs_NoLength_InvalidSize ?xs_NoLength_InvalidRow ?xs_NoLength_NoLength ?tI ?l_SandError___init__ ?c_SandError___init__ ?k_SandError___init__ ?a_is_inside ?l_is_inside ?c_is_inside ?k_is_inside ?a_check_mirror ?l_check_mirror ?c_check_mirror ?k_check_mirror ?a_kinds_of ?l_kinds_of ?c_kinds_of ?k_kinds_of ?a_Board___init__ ?i_Board___init__ ?l_Board___init__ ?c_Board___init__ ?k_Board___init__ ?pa_Board_width ?pg_Board_width ?pt_Board_width ?pr_Board_width ?l_Board_width ?c_Board_width ?k_Board_width ?pa_Board_height ?pg_Board_height ?pt_Board_height ?pr_Board_height ?l_Board_height ?c_Board_height ?k_Board_height ?pa_Board_mirrors ?pg_Board_mirrors ?pt_Board_mirrors ?pr_Board_mirrors ?l_Board_mirrors ?c_Board_mirrors ?k_Board_mirrors ?a_Board_mirror_at ?i_Board_mirror_at ?l_Board_mirror_at ?c_Board_mirror_at ?k_Board_mirror_at ?a_check_rows ?l_check_rows ?c_check_rows ?k_check_rows ?a_level_mirrors ?l_level_mirrors ?c_level_mirrors ?k_level_mirrors ?a_row_mirrors ?l_row_mirrors ?c_row_mirrors ?k_row_mirrors ?a_Strip___init__ ?i_Strip___init__ ?l_Strip___init__ ?c_Strip___init__ ?k_Strip___init__ ?pa_Strip_width ?pg_Strip_width ?pt_Strip_width ?pr_Strip_width ?l_Strip_width ?c_Strip_width ?k_Strip_width ?pa_Strip_ahead ?pg_Strip_ahead ?pt_Strip_ahead ?pr_Strip_ahead ?l_Strip_ahead ?c_Strip_ahead ?k_Strip_ahead ?pa_Strip_cycle ?pg_Strip_cycle ?pt_Strip_cycle ?pr_Strip_cycle ?l_Strip_cycle ?c_Strip_cycle ?k_Strip_cycle ?pa_Strip_end ?pg_Strip_end ?pt_Strip_end ?pr_Strip_end ?l_Strip_end ?c_Strip_end ?k_Strip_end ?pa_Strip_least ?pg_Strip_least ?pt_Strip_least ?pr_Strip_least ?l_Strip_least ?c_Strip_least ?k_Strip_least ?a_Strip_rows ?i_Strip_rows ?l_Strip_rows ?c_Strip_rows ?k_Strip_rows ?a_Strip_board_for ?i_Strip_board_for ?l_Strip_board_for ?c_Strip_board_for ?k_Strip_board_for ?a__law_well ?l__law_well ?c__law_well ?k__law_well ?a__law_pick ?l__law_pick ?c__law_pick ?k__law_pick ?a__law_same ?l__law_same ?c__law_same ?k__law_same ?a__law_rows ?l__law_rows ?c__law_rows ?k__law_rows ?a__law_lists ?l__law_lists ?c__law_lists ?k__law_lists ?a__law_due ?l__law_due ?c__law_due ?k__law_due ?a__law_mirrors ?l__law_mirrors ?c__law_mirrors ?k__law_mirrors ?a__law_refused ?l__law_refused ?c__law_refused ?k__law_refused ?a__law_board_is ?l__law_board_is ?c__law_board_is ?k__law_board_is ?a_law ?l_law ?c_law ?k_law ?pg_Strip ?hd_Strip ?po_Strip ?st_Strip ?mk_Strip ?kc_Strip ?i1_Strip ?i2_Strip ?i3_Strip ?i4_Strip ?na_Strip_wide ?na_Strip_first_rows ?na_Strip_round_rows ?na_Strip_last_rows ?pg_Board ?hd_Board ?po_Board ?st_Board ?mk_Board ?kc_Board ?i1_Board ?i2_Board ?i3_Board ?i4_Board ?na_Board_wide ?na_Board_high ?na_Board_kinds ?ac_KINDS ?lc_KINDS ?ac_CHARACTERS ?z_len ?z_int ?z_range ?z_list ?z_isinstance ?z_bool ?z_str ?z_tuple ?z_all ?z_max ?z_enumerate ?z_sorted
    (case aC_InvalidSize => k_is)
    (case aC_InvalidRow => k_is)
    (case aC_InvalidPoint => k_is)
    (case aC_InvalidMirror => k_is)
    (case aC_Taken => k_is)
    (case aC_NoLength => k_is)
    (case aC_Strip => k_is)
    (case aC_Board => k_is)
    (case xL_InvalidSize => k_is)
    (case sa_InvalidSize => k_is)
    (case ga_InvalidSize => k_is)
    (case gg_InvalidSize => k_is)
    (case nv_InvalidSize => k_is)
    (case iI_InvalidSize => k_is)
    (case kC_InvalidSize => k_is)
    (case eC_InvalidSize => k_is)
    (case tC_InvalidSize => k_is)
    (case hC_InvalidSize => k_is)
    (case zC_InvalidSize => k_is)
    (case sC_InvalidSize => first | rfl | k_is)
    (case xL_InvalidRow => k_is)
    (case sa_InvalidRow => k_is)
    (case ga_InvalidRow => k_is)
    (case gg_InvalidRow => k_is)
    (case nv_InvalidRow => k_is)
    (case iI_InvalidRow => k_is)
    (case kC_InvalidRow => k_is)
    (case eC_InvalidRow => k_is)
    (case tC_InvalidRow => k_is)
    (case hC_InvalidRow => k_is)
    (case zC_InvalidRow => k_is)
    (case sC_InvalidRow => first | rfl | k_is)
    (case xL_InvalidPoint => k_is)
    (case sa_InvalidPoint => k_is)
    (case ga_InvalidPoint => k_is)
    (case gg_InvalidPoint => k_is)
    (case nv_InvalidPoint => k_is)
    (case iI_InvalidPoint => k_is)
    (case kC_InvalidPoint => k_is)
    (case eC_InvalidPoint => k_is)
    (case tC_InvalidPoint => k_is)
    (case hC_InvalidPoint => k_is)
    (case zC_InvalidPoint => k_is)
    (case sC_InvalidPoint => first | rfl | k_is)
    (case xL_InvalidMirror => k_is)
    (case sa_InvalidMirror => k_is)
    (case ga_InvalidMirror => k_is)
    (case gg_InvalidMirror => k_is)
    (case nv_InvalidMirror => k_is)
    (case iI_InvalidMirror => k_is)
    (case kC_InvalidMirror => k_is)
    (case eC_InvalidMirror => k_is)
    (case tC_InvalidMirror => k_is)
    (case hC_InvalidMirror => k_is)
    (case zC_InvalidMirror => k_is)
    (case sC_InvalidMirror => first | rfl | k_is)
    (case xL_Taken => k_is)
    (case sa_Taken => k_is)
    (case ga_Taken => k_is)
    (case gg_Taken => k_is)
    (case nv_Taken => k_is)
    (case iI_Taken => k_is)
    (case kC_Taken => k_is)
    (case eC_Taken => k_is)
    (case tC_Taken => k_is)
    (case hC_Taken => k_is)
    (case zC_Taken => k_is)
    (case sC_Taken => first | rfl | k_is)
    (case xL_NoLength => k_is)
    (case sa_NoLength => k_is)
    (case ga_NoLength => k_is)
    (case gg_NoLength => k_is)
    (case nv_NoLength => k_is)
    (case iI_NoLength => k_is)
    (case kC_NoLength => k_is)
    (case eC_NoLength => k_is)
    (case tC_NoLength => k_is)
    (case hC_NoLength => k_is)
    (case zC_NoLength => k_is)
    (case sC_NoLength => first | rfl | k_is)
    (case aC_SandError => k_is)
    (case eC_SandError => k_is)
    (case tC_SandError => k_is)
    (case zC_SandError => k_is)
    (case sb_InvalidSize => first | rfl | k_is)
    (case sb_InvalidRow => first | rfl | k_is)
    (case sb_InvalidPoint => first | rfl | k_is)
    (case sb_InvalidMirror => first | rfl | k_is)
    (case sb_Taken => first | rfl | k_is)
    (case sb_NoLength => first | rfl | k_is)
    (case xa_InvalidSize => k_is)
    (case xn_InvalidSize => k_is)
    (case xt_InvalidSize => k_is)
    (case xm_InvalidSize => k_is)
    (case xv_InvalidSize => first | rfl | k_is)
    (case xs_InvalidSize_InvalidSize => first | rfl | k_is)
    (case xs_InvalidSize_InvalidRow => first | rfl | k_is)
    (case xs_InvalidSize_NoLength => first | rfl | k_is)
    (case xa_InvalidRow => k_is)
    (case xn_InvalidRow => k_is)
    (case xt_InvalidRow => k_is)
    (case xm_InvalidRow => k_is)
    (case xv_InvalidRow => first | rfl | k_is)
    (case xs_InvalidRow_InvalidSize => first | rfl | k_is)
    (case xs_InvalidRow_InvalidRow => first | rfl | k_is)
    (case xs_InvalidRow_NoLength => first | rfl | k_is)
    (case xa_NoLength => k_is)
    (case xn_NoLength => k_is)
    (case xt_NoLength => k_is)
    (case xm_NoLength => k_is)
    (case xv_NoLength => first | rfl | k_is)
    (case xs_NoLength_InvalidSize => first | rfl | k_is)
    (case xs_NoLength_InvalidRow => first | rfl | k_is)
    (case xs_NoLength_NoLength => first | rfl | k_is)
    (case tI => k_is)
    (case l_SandError___init__ => k_is)
    (case c_SandError___init__ => k_is)
    (case k_SandError___init__ => k_is)
    (case a_is_inside => k_is)
    (case l_is_inside => k_is)
    (case c_is_inside => k_is)
    (case k_is_inside => k_is)
    (case a_check_mirror => k_is)
    (case l_check_mirror => k_is)
    (case c_check_mirror => k_is)
    (case k_check_mirror => k_is)
    (case a_kinds_of => k_is)
    (case l_kinds_of => k_is)
    (case c_kinds_of => k_is)
    (case k_kinds_of => k_is)
    (case a_Board___init__ => k_is)
    (case i_Board___init__ => k_is)
    (case l_Board___init__ => k_is)
    (case c_Board___init__ => k_is)
    (case k_Board___init__ => k_is)
    (case pa_Board_width => k_is)
    (case pg_Board_width => k_is)
    (case pt_Board_width => k_is)
    (case pr_Board_width => k_is)
    (case l_Board_width => k_is)
    (case c_Board_width => k_is)
    (case k_Board_width => k_is)
    (case pa_Board_height => k_is)
    (case pg_Board_height => k_is)
    (case pt_Board_height => k_is)
    (case pr_Board_height => k_is)
    (case l_Board_height => k_is)
    (case c_Board_height => k_is)
    (case k_Board_height => k_is)
    (case pa_Board_mirrors => k_is)
    (case pg_Board_mirrors => k_is)
    (case pt_Board_mirrors => k_is)
    (case pr_Board_mirrors => k_is)
    (case l_Board_mirrors => k_is)
    (case c_Board_mirrors => k_is)
    (case k_Board_mirrors => k_is)
    (case a_Board_mirror_at => k_is)
    (case i_Board_mirror_at => k_is)
    (case l_Board_mirror_at => k_is)
    (case c_Board_mirror_at => k_is)
    (case k_Board_mirror_at => k_is)
    (case a_check_rows => k_is)
    (case l_check_rows => k_is)
    (case c_check_rows => k_is)
    (case k_check_rows => k_is)
    (case a_level_mirrors => k_is)
    (case l_level_mirrors => k_is)
    (case c_level_mirrors => k_is)
    (case k_level_mirrors => k_is)
    (case a_row_mirrors => k_is)
    (case l_row_mirrors => k_is)
    (case c_row_mirrors => k_is)
    (case k_row_mirrors => k_is)
    (case a_Strip___init__ => k_is)
    (case i_Strip___init__ => k_is)
    (case l_Strip___init__ => k_is)
    (case c_Strip___init__ => k_is)
    (case k_Strip___init__ => k_is)
    (case pa_Strip_width => k_is)
    (case pg_Strip_width => k_is)
    (case pt_Strip_width => k_is)
    (case pr_Strip_width => k_is)
    (case l_Strip_width => k_is)
    (case c_Strip_width => k_is)
    (case k_Strip_width => k_is)
    (case pa_Strip_ahead => k_is)
    (case pg_Strip_ahead => k_is)
    (case pt_Strip_ahead => k_is)
    (case pr_Strip_ahead => k_is)
    (case l_Strip_ahead => k_is)
    (case c_Strip_ahead => k_is)
    (case k_Strip_ahead => k_is)
    (case pa_Strip_cycle => k_is)
    (case pg_Strip_cycle => k_is)
    (case pt_Strip_cycle => k_is)
    (case pr_Strip_cycle => k_is)
    (case l_Strip_cycle => k_is)
    (case c_Strip_cycle => k_is)
    (case k_Strip_cycle => k_is)
    (case pa_Strip_end => k_is)
    (case pg_Strip_end => k_is)
    (case pt_Strip_end => k_is)
    (case pr_Strip_end => k_is)
    (case l_Strip_end => k_is)
    (case c_Strip_end => k_is)
    (case k_Strip_end => k_is)
    (case pa_Strip_least => k_is)
    (case pg_Strip_least => k_is)
    (case pt_Strip_least => k_is)
    (case pr_Strip_least => k_is)
    (case l_Strip_least => k_is)
    (case c_Strip_least => k_is)
    (case k_Strip_least => k_is)
    (case a_Strip_rows => k_is)
    (case i_Strip_rows => k_is)
    (case l_Strip_rows => k_is)
    (case c_Strip_rows => k_is)
    (case k_Strip_rows => k_is)
    (case a_Strip_board_for => k_is)
    (case i_Strip_board_for => k_is)
    (case l_Strip_board_for => k_is)
    (case c_Strip_board_for => k_is)
    (case k_Strip_board_for => k_is)
    (case a__law_well => k_is)
    (case l__law_well => k_is)
    (case c__law_well => k_is)
    (case k__law_well => k_is)
    (case a__law_pick => k_is)
    (case l__law_pick => k_is)
    (case c__law_pick => k_is)
    (case k__law_pick => k_is)
    (case a__law_same => k_is)
    (case l__law_same => k_is)
    (case c__law_same => k_is)
    (case k__law_same => k_is)
    (case a__law_rows => k_is)
    (case l__law_rows => k_is)
    (case c__law_rows => k_is)
    (case k__law_rows => k_is)
    (case a__law_lists => k_is)
    (case l__law_lists => k_is)
    (case c__law_lists => k_is)
    (case k__law_lists => k_is)
    (case a__law_due => k_is)
    (case l__law_due => k_is)
    (case c__law_due => k_is)
    (case k__law_due => k_is)
    (case a__law_mirrors => k_is)
    (case l__law_mirrors => k_is)
    (case c__law_mirrors => k_is)
    (case k__law_mirrors => k_is)
    (case a__law_refused => k_is)
    (case l__law_refused => k_is)
    (case c__law_refused => k_is)
    (case k__law_refused => k_is)
    (case a__law_board_is => k_is)
    (case l__law_board_is => k_is)
    (case c__law_board_is => k_is)
    (case k__law_board_is => k_is)
    (case a_law => k_is)
    (case l_law => k_is)
    (case c_law => k_is)
    (case k_law => k_is)
    (case pg_Strip => k_is)
    (case hd_Strip => k_is)
    (case po_Strip => k_is)
    (case st_Strip => k_is)
    (case mk_Strip => k_is)
    (case kc_Strip => k_is)
    (case i1_Strip => k_is)
    (case i2_Strip => k_is)
    (case i3_Strip => k_is)
    (case i4_Strip => k_is)
    (case na_Strip_wide => k_is)
    (case na_Strip_first_rows => k_is)
    (case na_Strip_round_rows => k_is)
    (case na_Strip_last_rows => k_is)
    (case pg_Board => k_is)
    (case hd_Board => k_is)
    (case po_Board => k_is)
    (case st_Board => k_is)
    (case mk_Board => k_is)
    (case kc_Board => k_is)
    (case i1_Board => k_is)
    (case i2_Board => k_is)
    (case i3_Board => k_is)
    (case i4_Board => k_is)
    (case na_Board_wide => k_is)
    (case na_Board_high => k_is)
    (case na_Board_kinds => k_is)
    (case ac_KINDS => k_is)
    (case lc_KINDS => k_is)
    (case ac_CHARACTERS => k_is)
    (case z_len => k_is)
    (case z_int => k_is)
    (case z_range => k_is)
    (case z_list => k_is)
    (case z_isinstance => k_is)
    (case z_bool => k_is)
    (case z_str => k_is)
    (case z_tuple => k_is)
    (case z_all => k_is)
    (case z_max => k_is)
    (case z_enumerate => k_is)
    (case z_sorted => k_is)
