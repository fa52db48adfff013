import PyProof.Rows.All
import Wide.All
import OpenK.AllK
import Wide.FinOn
import HandS.ForMost
import HandS.ForExc
import HandS.Wide
import HandS.Deep
import HandS.More
import HandS.IsInst
import HandS.Style
import HandS.Property
import HandS.ExcInit
import HandS.ExcField
import HandS.Codes
import HandS.Sort
import HandS.TupLen
import KE.KSortTupG
import OpenK.KOps
import HandS.TryMany
import HandS.Walk
import PyProof.IsRules
import PySem.Challenge.RW_sandthreads_k06_turned
set_option Elab.async false
set_option linter.all false
set_option maxRecDepth 100000
set_option maxHeartbeats 4000000
namespace TK
open PySem PySem.Spec PyProof.Rows L2
section
variable {σ : L2.St} {H : Hp} {Q : VK} {QT : Bool → Hp → Prop} {K : PySem.W.Frag} {D : Ends}
theorem r_var {i : Nat} {v : V} (e : σ[i]? = some (some v)) (q : Q v H) : tVar i σ H Q := ⟨v, e, q⟩
theorem r_c {v : V} (q : Q v H) : tC v σ H Q := q
theorem r_op {r : R2} {ta tb : TE} (q : ta σ H fun x H1 => tb σ H1 fun y H2 => r x y H2 Q) : tOp r ta tb σ H Q := q
theorem r_un {r : V → Hp → VK → Prop} {ta : TE} (q : ta σ H fun x H1 => r x H1 Q) : tUn r ta σ H Q := q
theorem r_I0 {g : Int → Int → V} {i j : Int} (q : Q (g i j) H) : rI0 g (.int i) (.int j) H Q := ⟨i, j, rfl, rfl, q⟩
theorem r_I {C : Int → Int → Prop} {g : Int → Int → V} {i j : Int} (c : C i j) (q : Q (g i j) H) : rI C g (.int i) (.int j) H Q := ⟨i, j, rfl, rfl, c, q⟩
theorem r_U {g : Int → V} {i : Int} (q : Q (g i) H) : rU g (.int i) H Q := ⟨i, rfl, q⟩
theorem r_eq {x y : V} (s : scal x y = true) (q : Q (.bl (decide (x = y))) H) : rEq x y H Q := ⟨s, q⟩
theorem r_ne {x y : V} (s : scal x y = true) (q : Q (.bl (!decide (x = y))) H) : rNe x y H Q := ⟨s, q⟩
theorem r_test {t : TE} (q : t σ H fun x H' => ∃ k, x = .bl k ∧ QT k H') : tTest t σ H QT := q
theorem r_B {t : TE} (q : t σ H fun x H' => ∃ k, x = .bl k ∧ QT k H') : tB t σ H QT := q
theorem r_bl {b : Bool} {P : Bool → Prop} (q : P b) : ∃ k, V.bl b = .bl k ∧ P k := ⟨b, rfl, q⟩
theorem r_not {t : TT} (q : t σ H fun c H1 => QT (!c) H1) : tNot t σ H QT := q
theorem r_and {t u : TT} (q : t σ H fun c H1 => if c = true then u σ H1 QT else QT false H1) : tAnd t u σ H QT := q
theorem r_or {t u : TT} (q : t σ H fun c H1 => if c = true then QT true H1 else u σ H1 QT) : tOr t u σ H QT := q
theorem r_andV {ta tb : TE} (q : ta σ H fun x H1 => ∃ c, x = .bl c ∧ if c = true then tb σ H1 Q else Q (.bl false) H1) : tAndV ta tb σ H Q := q
theorem r_orV {ta tb : TE} (q : ta σ H fun x H1 => ∃ c, x = .bl c ∧ if c = true then Q (.bl true) H1 else tb σ H1 Q) : tOrV ta tb σ H Q := q
theorem r_notV {ta : TE} (q : ta σ H fun x H1 => ∃ c, x = .bl c ∧ Q (.bl (!c)) H1) : tNotV ta σ H Q := q
theorem r_ifE {t : TT} {ta tb : TE} (q : t σ H fun c H1 => if c = true then ta σ H1 Q else tb σ H1 Q) : tIf t ta tb σ H Q := q
theorem r_isN {ta : TE} (q : ta σ H fun x H1 => Q (.bl (decide (x = .non))) H1) : tIsN ta σ H Q := q
theorem r_notN {ta : TE} (q : ta σ H fun x H1 => Q (.bl (!decide (x = .non))) H1) : tNotN ta σ H Q := q
theorem r_nil {QA : List V → Hp → Prop} (q : QA [] H) : tNil σ H QA := q
theorem r_cons {ta : TE} {tr : TA} {QA : List V → Hp → Prop} (q : ta σ H fun x H1 => tr σ H1 fun xs H2 => QA (x :: xs) H2) : tCons ta tr σ H QA := q
theorem r_CB {r : List V → Hp → VK → Prop} {t : TA} (q : t σ H fun vs H1 => r vs H1 Q) : tCB r t σ H Q := q
theorem r_call {sp : Sp} {dvs : List V} {E : XK} {t : TA} (q : t σ H fun vs H1 => sp (vs ++ dvs) H1 Q E) : tCall sp dvs E t σ H Q := q
theorem r_callS {sp : Sp} {E : L2.St → XK} {t : TA} (q : t σ H fun vs H1 => sp vs H1 Q (E σ)) : tCallS sp E t σ H Q := q
theorem r_tup {t : TA} (q : t σ H fun xs H1 => xs.length ≤ sizeLine ∧ ∀ p, H1 p = none → Q (.ref p) (upd H1 p (.tup xs))) : tTup t σ H Q := q
theorem r_lst {t : TA} (q : t σ H fun xs H1 => xs.length ≤ sizeLine ∧ ∀ p, H1 p = none → Q (.ref p) (upd H1 p (.lst xs))) : tLst t σ H Q := q
theorem r_chain {r r' : R2} {ta tb tc : TE} (q : ta σ H fun x H1 => tb σ H1 fun y H2 => r x y H2 fun z H3 => ∃ k, z = .bl k ∧
    if k = true then tc σ H3 fun u H4 => r' y u H4 Q else Q (.bl false) H3) : tChain r r' ta tb tc σ H Q := q
/-- statements -/
theorem r_seq {t u : TS} (q : t { D with nx := u D } σ H) : tSeq t u D σ H := q
theorem r_next (q : D.nx σ H) : tNext D σ H := q
theorem r_ret {te : TE} (q : te σ H D.rt) : tRet te D σ H := q
theorem r_retN (q : D.rt .non H) : tRetN D σ H := q
theorem r_drop {te : TE} (q : te σ H fun _ H1 => D.nx σ H1) : tDrop te D σ H := q
theorem r_asg {te : TE} {g : TG} (q : te σ H fun x H1 => g x σ H1 D.nx) : tAsg te g D σ H := q
theorem r_ifS {c : TT} {t u : TS} (q : c σ H fun b H1 => if b = true then t D σ H1 else u D σ H1) : tIfS c t u D σ H := q
theorem r_brk (q : D.bk σ H) : tBreak D σ H := q
theorem r_cont (q : D.ct σ H) : tCont D σ H := q
variable {QG : L2.St → Hp → Prop}
theorem r_gN {i : Nat} {v : V} (q : QG (σ.set i (some v)) H) : gName i v σ H QG := q
theorem r_gT {n : Nat} {t : TGs} {a : Addr} {xs : List V} (s : H a = some (.tup xs)) (l : xs.length = n) (q : t xs σ H QG) : gTup K n t (.ref a) σ H QG := ⟨a, xs, rfl, SqT.of s, l, q⟩
theorem r_gC {t : TG} {u : TGs} {v : V} {r : List V} (q : t v σ H fun σ' H' => u r σ' H' QG) : gCons t u (v :: r) σ H QG := ⟨v, r, rfl, q⟩
theorem r_gZ (q : QG σ H) : gNil [] σ H QG := ⟨rfl, q⟩
theorem r_gS {to ti : TE} {t : TSet} {v : V} (q : to σ H fun o H1 => ti σ H1 fun i H2 => t o i v H2 fun H3 => QG σ H3) : gSub to ti t v σ H QG := q
theorem r_fld {ta : TE} {f : Str} (q : ta σ H fun x H1 => ∃ a C dx fs v, x = .ref a ∧ H1 a = some (.ins C dx fs) ∧ Cls K C ∧ NoAttr K C f ∧ fs.lookup f = some v ∧ Q v H1) : tFld K ta f σ H Q := q
end

/-! named readings -/
section
variable {X : Cx}
def rLen (K : PySem.W.Frag) : List V → Hp → VK → Prop := fun xs H Q => ∃ p ys, xs = [.ref p] ∧ (SqL K H p ys ∨ SqT K H p ys) ∧ Q (.int ys.length) H
theorem c_len : CallR X (.builtin "len") (TK.rLen X.K) := call_len_seq
def rLenS : List V → Hp → VK → Prop := fun xs H Q => ∃ z : Str, xs = [.str z] ∧ z.length ≤ sizeLine ∧ Q (.int z.length) H
theorem c_lenS : CallR X (.builtin "len") TK.rLenS := call_len_str
def rInt1 : List V → Hp → VK → Prop := fun xs H Q => (∃ i, xs = [.int i] ∧ Q (.int i) H) ∨ ∃ k, xs = [.bl k] ∧ Q (.int (if k then 1 else 0)) H
theorem c_int : CallR X (.type "int") rInt1 := call_int1
def rAbs : List V → Hp → VK → Prop := fun xs H Q => ∃ i, xs = [.int i] ∧ Q (.int (if i < 0 then -i else i)) H
theorem c_abs : CallR X (.builtin "abs") rAbs := call_abs
def rMax2 : List V → Hp → VK → Prop := fun xs H Q => ∃ i j, xs = [.int i, .int j] ∧ Q (.int (if j > i then j else i)) H
theorem c_max (hc : X.calm = true) : CallR X (.builtin "max") TK.rMax2 := call_max2 hc
def rMin2 : List V → Hp → VK → Prop := fun xs H Q => ∃ i j, xs = [.int i, .int j] ∧ Q (.int (if j < i then j else i)) H
theorem c_min (hc : X.calm = true) : CallR X (.builtin "min") TK.rMin2 := call_min2 hc
def rListOf (K : PySem.W.Frag) : List V → Hp → VK → Prop := fun xs H Q => ∃ p ys, xs = [.ref p] ∧ (SqL K H p ys ∨ SqT K H p ys) ∧ ∀ l, H l = none → Q (.ref l) (upd H l (.lst ys))
theorem c_list : CallR X (.type "list") (rListOf X.K) := call_list_of
def rInsert : V → List V → Hp → VK → Prop := fun x vs H Q => ∃ (l : Addr) (xs : List V) (i : Int) (y : V), x = .ref l ∧ vs = [.int i, y] ∧ H l = some (.lst xs) ∧ xs.length < sizeLine ∧ 0 ≤ i ∧ i < 2 ^ 63 ∧
    Q .non (upd H l (.lst (xs.take i.toNat ++ [y] ++ xs.drop i.toNat)))
theorem m_insert : MtR X "list.insert" rInsert := mt_insert
def rIsNo : R2 := fun x y H Q => y = .non ∧ Q (.bl (decide (x = .non))) H
theorem o_isN : OpR X (compareOp .Is) rIsNo := op_isN
def rNotNo : R2 := fun x y H Q => y = .non ∧ Q (.bl (!decide (x = .non))) H
theorem o_notN : OpR X (compareOp .IsNot) rNotNo := op_notN
def rAddS : R2 := fun x y H Q => ∃ i j : Str, x = .str i ∧ y = .str j ∧ i.length + j.length ≤ sizeLine ∧ Q (.str (i ++ j)) H
theorem o_addS : OpR X (binaryOp .Add) TK.rAddS := op_add_str
end
section
variable {σ : L2.St} {H : Hp} {Q : VK} {K : PySem.W.Frag} {D : Ends} {QG : L2.St → Hp → Prop}
theorem r_ixL {p : Addr} {xs : List V} {i : Int} {v : V} (h : H p = some (.lst xs)) (a : atI xs i = some v) (q : Q v H) : rIxL K (.ref p) (.int i) H Q := ⟨p, xs, i, v, rfl, rfl, SqL.of h, a, q⟩
theorem r_ixT {p : Addr} {xs : List V} {i : Int} {v : V} (h : H p = some (.tup xs)) (a : atI xs i = some v) (q : Q v H) : rIxT K (.ref p) (.int i) H Q := ⟨p, xs, i, v, rfl, rfl, SqT.of h, a, q⟩
theorem r_setL {p : Addr} {xs : List V} {k : Int} {j : Nat} {v : V} {QH : Hp → Prop} (h : H p = some (.lst xs)) (e : ixN xs.length k = some j) (q : QH (upd H p (.lst (xs.set j v)))) : rSetL (.ref p) (.int k) v H QH := ⟨p, xs, k, j, rfl, rfl, h, e, q⟩
theorem r_len {p : Addr} {xs : List V} (h : H p = some (.lst xs)) (q : Q (.int xs.length) H) : TK.rLen K [.ref p] H Q := ⟨p, xs, rfl, .inl (SqL.of h), q⟩
theorem r_lenT {p : Addr} {xs : List V} (h : H p = some (.tup xs)) (q : Q (.int xs.length) H) : TK.rLen K [.ref p] H Q := ⟨p, xs, rfl, .inr (SqT.of h), q⟩
theorem r_int1 {i : Int} (q : Q (.int i) H) : rInt1 [.int i] H Q := .inl ⟨i, rfl, q⟩
theorem r_abs {i : Int} (q : Q (.int (if i < 0 then -i else i)) H) : rAbs [.int i] H Q := ⟨i, rfl, q⟩
theorem r_max {i j : Int} (q : Q (.int (if j > i then j else i)) H) : TK.rMax2 [.int i, .int j] H Q := ⟨i, j, rfl, q⟩
theorem r_min {i j : Int} (q : Q (.int (if j < i then j else i)) H) : TK.rMin2 [.int i, .int j] H Q := ⟨i, j, rfl, q⟩
theorem r_listOf {p : Addr} {xs : List V} (h : H p = some (.lst xs)) (q : ∀ l, H l = none → Q (.ref l) (upd H l (.lst xs))) : rListOf K [.ref p] H Q := ⟨p, xs, rfl, .inl (SqL.of h), q⟩
theorem r_isNo {x : V} (q : Q (.bl (decide (x = .non))) H) : rIsNo x .non H Q := ⟨rfl, q⟩
theorem r_notNo {x : V} (q : Q (.bl (!decide (x = .non))) H) : rNotNo x .non H Q := ⟨rfl, q⟩
theorem r_bm {T : String} {r : V → List V → Hp → VK → Prop} {to : TE} {t : TA} (q : to σ H fun x H1 => tyV K T x H1 ∧ t σ H1 fun xs H2 => r x xs H2 Q) : tBM K T r to t σ H Q := q
theorem r_bm0 {T : String} {r : V → List V → Hp → VK → Prop} {to : TE} (q : to σ H fun x H1 => tyV K T x H1 ∧ r x [] H1 Q) : tBM0 K T r to σ H Q := q
theorem r_tyL {p : Addr} {xs : List V} {R : Prop} (h : H p = some (.lst xs)) (q : R) : tyV K "list" (.ref p) H ∧ R := ⟨.inl ⟨rfl, _, SqL.of h⟩, q⟩
theorem r_append {l : Addr} {xs : List V} {y : V} (h : H l = some (.lst xs)) (z : xs.length < sizeLine) (q : Q .non (upd H l (.lst (xs ++ [y])))) : rAppend (.ref l) [y] H Q := ⟨l, xs, y, rfl, rfl, h, z, q⟩
theorem r_insert {l : Addr} {xs : List V} {i : Int} {y : V} (h : H l = some (.lst xs)) (z : xs.length < sizeLine) (h0 : 0 ≤ i) (h1 : i < 2 ^ 63) (q : Q .non (upd H l (.lst (xs.take i.toNat ++ [y] ++ xs.drop i.toNat)))) : rInsert (.ref l) [.int i, y] H Q := ⟨l, xs, i, y, rfl, rfl, h, z, h0, h1, q⟩
theorem r_tupN {xs : List V} {R : Addr → Hp → Prop} (l : xs.length ≤ 1000) (q : ∀ p, H p = none → R p (upd H p (.tup xs))) : xs.length ≤ sizeLine ∧ ∀ p, H p = none → R p (upd H p (.tup xs)) := ⟨Nat.le_trans l (by decide), q⟩
theorem r_sz {n : Nat} {B : Prop} (l : n ≤ 1000) (q : B) : n ≤ sizeLine ∧ B := ⟨Nat.le_trans l (by decide), q⟩
theorem r_ret1 {te : TE} (q : te σ H D.rt) : tRet te D σ H := q
theorem r_ite {c : Prop} [Decidable c] {A B : Prop} (h1 : c → A) (h2 : ¬ c → B) : if decide c = true then A else B := by
  by_cases h : c
  · rw [if_pos (decide_eq_true h)]; exact h1 h
  · rw [if_neg (by simpa using h)]; exact h2 h
theorem r_iteN {c : Prop} [Decidable c] {A B : Prop} (h1 : ¬ c → A) (h2 : c → B) : if (!decide c) = true then A else B := by
  by_cases h : c
  · rw [if_neg (by simpa using h)]; exact h2 h
  · rw [if_pos (by simpa using h)]; exact h1 h
theorem r_iteNB {b : Bool} {A B : Prop} (h1 : b = false → A) (h2 : b = true → B) : if (!b) = true then A else B := by
  cases b
  · exact h1 rfl
  · exact h2 rfl
theorem r_iteVT {x y : V} {A B : Prop} (h : x = y) (q : A) : if decide (x = y) = true then A else B := by
  rw [if_pos (decide_eq_true h)]; exact q
theorem r_iteVF {x y : V} {A B : Prop} (h : x ≠ y) (q : B) : if decide (x = y) = true then A else B := by
  rw [if_neg (by simpa using h)]; exact q
theorem r_iteNf {A B : Prop} (q : A) : if (!false) = true then A else B := q
theorem r_iteNt {A B : Prop} (q : B) : if (!true) = true then A else B := q
theorem r_iteB {b : Bool} {A B : Prop} (h1 : b = true → A) (h2 : b = false → B) : if b = true then A else B := by
  cases b
  · exact h2 rfl
  · exact h1 rfl
end
section
variable {σ : L2.St} {H H1 : Hp} {K : PySem.W.Frag} {D : Ends}
theorem r_for {wi : TI} {g : TG} {tb : TS} (q : wi σ H fun J H1 => ∃ W : Nat → Nat → L2.St → Hp → Prop, (∃ m, W 0 m σ H1) ∧ ∀ i m σ H, W i m σ H →
  (J.stop i H ∧ D.nx σ H) ∨ (J.go i H ∧ ∃ N : L2.St → Hp → Prop, (∀ σ' H', N σ' H' → ∃ m', m' < m ∧ W (i + 1) m' σ' H') ∧ ∀ x H', J.yld i H x H' → g x σ H' fun σ2 H2 => tb { D with nx := N, ct := N, bk := D.nx } σ2 H2)) : tFor wi g tb D σ H := q
theorem r_rng1 {ta : TA} {R : It → Hp → Prop} (q : ta σ H fun vs H1 => ∃ j : Int, vs = [.int j] ∧ -(2 ^ 62) ≤ j ∧ j < 2 ^ 62 ∧ R (Itr 0 j.toNat) H1) : iRng1 ta σ H R := q
theorem r_rng2 {ta : TA} {R : It → Hp → Prop} (q : ta σ H fun vs H1 => ∃ i j : Int, vs = [.int i, .int j] ∧ (-(2 ^ 62) ≤ i ∧ i < 2 ^ 62 ∧ -(2 ^ 62) ≤ j ∧ j < 2 ^ 62) ∧ R (Itr i (j - i).toNat) H1) : iRng2 ta σ H R := q
theorem r_rng3 {ta : TA} {R : It → Hp → Prop} (q : ta σ H fun vs H1 => ∃ (i j c : Int) (n : Nat), vs = [.int i, .int j, .int c] ∧ RgC i j c n ∧ R (Itc i c n) H1) : iRng3 ta σ H R := q
theorem r_iList {tl : TE} {R : It → Hp → Prop} (q : tl σ H fun x H1 => ∃ a, x = .ref a ∧ (∃ xs, SqL K H1 a xs) ∧ R (Itl K a) H1) : iList K tl σ H R := q
theorem r_lc {wi : TI} {g : TG} {tt : TT} {te : TE} {vs : List Nat} {Q : VK} (q : wi σ H fun J H1 => ∀ D, H1 D = none → ∃ W : Nat → Nat → Hp → Prop, (∃ m, W 0 m (upd H1 D (.lst []))) ∧ ∀ i m H, W i m H →
  (J.stop i H ∧ Q (.ref D) H) ∨ (J.go i H ∧ ∃ Nx : Hp → Prop, (∀ H', Nx H' → ∃ m', m' < m ∧ W (i + 1) m' H') ∧ ∀ x H', J.yld i H x H' → g x (wipe σ vs) H' fun σ2 H2 => wipe σ2 vs = wipe σ vs ∧ tt σ2 H2 fun b H3 =>
    if b = true then te σ2 H3 fun y H4 => ∃ acc, H4 D = some (.lst acc) ∧ acc.length < sizeLine ∧ Nx (upd H4 D (.lst (acc ++ [y]))) else Nx H3)) : tLc wi g tt te vs σ H Q := q
theorem _root_.L2.Same.new {q : Addr} {o : HO} (h : H q = none) : Same H (upd H q o) := fun a u e => by
  rw [upd_ne (ne_of_none e h)]
  exact e
theorem _root_.L2.Same.mut {H' : Hp} {p : Addr} {o : HO} (e : Same H H') (h : H p = none) : Same H (upd H' p o) := fun a u ha => by
  rw [upd_ne (ne_of_none ha h)]
  exact e a u ha
end
/-! statements joined by a word -/
abbrev tCut := @C8.tCut
theorem pss_cut {X : Cx} {st : Stmt} {rest : List Stmt} {t u : TS} (h1 : PS X st t) (h2 : PSs X rest u) : PSs X (st :: rest) (C8.tCut t u) := C8.pss_cut h1 h2
theorem r_yes {σ : L2.St} {H : Hp} {Q : Bool → Hp → Prop} (q : Q true H) : tYes σ H Q := q
/-! data -/
mutual
def okD : Nat → PyData → Bool
  | _, .none => true
  | _, .bool _ => true
  | _, .int _ => true
  | _, .str x => PyData.strOk x
  | 0, .list _ => false
  | 0, .tuple _ => false
  | n + 1, .list xs => decide (xs.length ≤ 1000000) && okDs n xs
  | n + 1, .tuple xs => decide (xs.length ≤ 1000000) && okDs n xs
  | _, .dict _ => false
def okDs : Nat → List PyData → Bool
  | _, [] => true
  | n, x :: xs => okD n x && okDs n xs
end
mutual
theorem okD_lay : ∀ (n : Nat) (d : PyData), okD n d = true → d.canLay0 = true ∧ d.depth ≤ n
  | _, .none, _ => by simp [PyData.canLay0, PyData.depth]
  | _, .bool _, _ => by simp [PyData.canLay0, PyData.depth]
  | _, .int _, _ => by simp [PyData.canLay0, PyData.depth]
  | _, .str x, h => by
    have h' : PyData.strOk x = true := by simpa [okD] using h
    simp [PyData.canLay0, PyData.depth, h']
  | 0, .list _, h => by simp [okD] at h
  | 0, .tuple _, h => by simp [okD] at h
  | n + 1, .list xs, h => by
    have := okDs_lay n xs (by rw [okD, Bool.and_eq_true] at h; exact h.2)
    simp only [PyData.canLay0, PyData.depth]
    exact ⟨this.1, by omega⟩
  | n + 1, .tuple xs, h => by
    have := okDs_lay n xs (by rw [okD, Bool.and_eq_true] at h; exact h.2)
    simp only [PyData.canLay0, PyData.depth]
    exact ⟨this.1, by omega⟩
  | _, .dict _, h => by simp [okD] at h
theorem okDs_lay : ∀ (n : Nat) (ds : List PyData), okDs n ds = true → PyData.canLayAll0 ds = true ∧ PyData.depthAll ds ≤ n
  | _, [], _ => by simp [PyData.canLayAll0, PyData.depthAll]
  | n, x :: xs, h => by
    rw [okDs, Bool.and_eq_true] at h
    have h1 := okD_lay n x h.1
    have h2 := okDs_lay n xs h.2
    simp only [PyData.canLayAll0, PyData.depthAll, Bool.and_eq_true]
    exact ⟨⟨h1.1, h2.1⟩, by omega⟩
end
theorem okD_shaped {n : Nat} {d : PyData} (h : okD n d = true) (hn : n ≤ 64) : SeqAt.shaped d = true := by
  have := okD_lay n d h
  unfold SeqAt.shaped
  rw [Bool.and_eq_true]
  exact ⟨this.1, decide_eq_true (Nat.le_trans this.2 hn)⟩
theorem okD_refl {n : Nat} {d : PyData} (h : okD n d = true) : PyData.eqv d d = true := SeqAt.eqv_refl d (okD_lay n d h).1
theorem okDs_all {n : Nat} : ∀ {ds : List PyData}, (∀ d ∈ ds, okD n d = true) → okDs n ds = true
  | [], _ => rfl
  | x :: xs, h => by
    rw [okDs, Bool.and_eq_true]
    exact ⟨h x (by simp), okDs_all fun d hd => h d (by simp [hd])⟩
section
variable {σ : L2.St} {H : Hp} {Q : VK} {QT : Bool → Hp → Prop} {K : PySem.W.Frag} {D : Ends}
theorem r_din {ty td : TE} (q : ty σ H fun y H1 => td σ H1 fun x H2 => ∃ a o, x = .ref a ∧ DGet H2 a y o ∧ Q (.bl o.isSome) H2) : tDIn ty td σ H Q := q
theorem r_dnotin {ty td : TE} (q : ty σ H fun y H1 => td σ H1 fun x H2 => ∃ a o, x = .ref a ∧ DGet H2 a y o ∧ Q (.bl (!o.isSome)) H2) : tDNotIn ty td σ H Q := q
theorem r_dget1 {td ty : TE} (q : td σ H fun x H1 => ∃ a, x = .ref a ∧ IsD H1 a ∧ ty σ H1 fun y H2 => ∃ o, DGet H2 a y o ∧ Q (o.getD .non) H2) : tDGet1 td ty σ H Q := q
theorem r_dget {td ty : TE} (q : td σ H fun x H1 => ty σ H1 fun y H2 => ∃ a v, x = .ref a ∧ DGet H2 a y (some v) ∧ Q v H2) : tDGet td ty σ H Q := q
theorem r_dput {td ty tv : TE} (q : tv σ H fun v H1 => td σ H1 fun x H2 => ty σ H2 fun y H3 => ∃ a H4, x = .ref a ∧ DPut H3 a y v H4 ∧ D.nx σ H4) : sDPut td ty tv D σ H := q
theorem r_dnew (q : ∀ p, H p = none → Q (.ref p) (upd H p (.dT []))) : tDNewT σ H Q := q
theorem r_sfld {ta tv : TE} {f : Str} (q : tv σ H fun y H1 => ta σ H1 fun x H2 => ∃ a C dx fs, x = .ref a ∧ H2 a = some (.ins C dx fs) ∧ Cls K C ∧ NoAttr K C f ∧ fs.length < 1000 ∧
    D.nx σ (upd H2 a (.ins C dx (putF f y fs)))) : sFld K ta tv f D σ H := q
theorem r_mkO {C : Addr} {sp : Sp} {dvs : List V} {ta : TA} {QX : XK} (q : ta σ H fun vs H1 => vs.length ≤ 1000 ∧ ∀ a, H1 a = none → sp (.ref a :: (vs ++ dvs)) (upd H1 a (exo a C none))
    (fun v H2 => v = .non ∧ ∃ (d : Addr) (fs : List (Str × V)), H2 a = some (exo a C (some d)) ∧ H2 d = some (exd d fs) ∧ H1 d = none ∧ QX (.ref C) (some d) (upd (del H2 a) d (.xd fs))) (fun _ _ _ => False)) : tMkO C sp dvs ta σ H QX := q
theorem r_make {C : Addr} {sp : Sp} {dvs : List V} {E : XK} {t : TA} (q : t σ H fun vs H1 => ∀ x dx, H1 x = none → H1 dx = none → dx ≠ x →
    sp (.ref x :: (vs ++ dvs)) (upd (upd H1 dx (.own x)) x (.ins C dx [])) (fun v H2 => v = .non ∧ Q (.ref x) H2) E) : tMake C sp dvs E t σ H Q := q
theorem r_meth {C : Addr} {m : Str} {sp : Sp} {dvs : List V} {E : XK} {ta : TE} {t : TA} (q : ta σ H fun x H1 => ∃ a dx fs, x = .ref a ∧ H1 a = some (.ins C dx fs) ∧ fs.lookup m = none ∧
    t σ H1 fun vs H2 => sp (x :: (vs ++ dvs)) H2 Q E) : tMeth C m sp dvs E ta t σ H Q := q
end
/-! is True, is False; isinstance -/
section
variable {X : Cx}
def rIsBool : R2 := fun x y H Q => ∃ b : Bool, y = .bl b ∧ Q (.bl (decide (x = .bl b))) H
theorem o_isBool : OpR X (compareOp .Is) rIsBool := by
  intro pins s σ H x y v u Q I rx ry h
  obtain ⟨b, rfl, q⟩ := h
  cases (show u = Value.bool b from ry)
  have fin : ∀ v' : Value, plainIs v' (.bool b) = true → (v' == Value.bool b) = decide (x = .bl b) → wpAny (model X.prog X.w) X.A (compareOp .Is v' (.bool b)) (EP X pins σ Q) X.xe s := fun v' hp e => by
    refine wpAny_is_plain hp ⟨.bl (decide (x = .bl b)), H, I, ?_, q⟩
    rw [e]
    rfl
  cases x with
  | non => cases rx; exact fin _ rfl rfl
  | bl c => cases rx; exact fin _ rfl (by cases b <;> cases c <;> rfl)
  | int i => obtain ⟨t, rfl⟩ := rx; exact fin _ rfl rfl
  | str i => obtain ⟨t, rfl⟩ := rx; exact fin _ rfl rfl
  | byt i => obtain ⟨t, rfl⟩ := rx; exact fin _ rfl rfl
  | flt i => obtain ⟨t, rfl⟩ := rx; exact fin _ rfl rfl
  | ref i => cases rx; exact fin _ rfl rfl
  | ty i => cases rx; exact fin _ rfl rfl
end
theorem r_isBool {x : V} {b : Bool} {H : Hp} {Q : VK} (q : Q (.bl (decide (x = .bl b))) H) : rIsBool x (.bl b) H Q := ⟨b, rfl, q⟩
def tyD : PyData → String
  | .none => "NoneType"
  | .bool _ => "bool"
  | .int _ => "int"
  | .str _ => "str"
  | .list _ => "list"
  | .tuple _ => "tuple"
  | .dict _ => "dict"
theorem tyD_ok {K : PySem.W.Frag} {H : Hp} {x : V} {d : PyData} (h : Dp K H x d) : TyX K H x (.type (tyD d)) := by
  cases h with
  | non => exact .base .non
  | bl b => exact .base (.bl b)
  | int i => exact .base (.int i)
  | str s => exact .base (.str s)
  | lst h _ =>
    rcases h with (h | ⟨o, h⟩) | ⟨o, its, n, h, hc, _⟩
    · exact .base (.lst h)
    · exact .base (.frz h)
    · exact .kList h hc
  | tup h _ =>
    rcases h with (h | ⟨o, h⟩) | ⟨o, its, n, h, hc, _⟩
    · exact .base (.tup h)
    · exact .fTuple h
    · exact .kTuple h hc
theorem kt_NoneType_int : kitB "NoneType" "int" = some false := by decide +kernel
theorem kt_NoneType_bool : kitB "NoneType" "bool" = some false := by decide +kernel
theorem kt_NoneType_str : kitB "NoneType" "str" = some false := by decide +kernel
theorem kt_NoneType_tuple : kitB "NoneType" "tuple" = some false := by decide +kernel
theorem kt_NoneType_list : kitB "NoneType" "list" = some false := by decide +kernel
theorem kt_NoneType_dict : kitB "NoneType" "dict" = some false := by decide +kernel
theorem kt_bool_int : kitB "bool" "int" = some true := by decide +kernel
theorem kt_bool_bool : kitB "bool" "bool" = some true := by decide +kernel
theorem kt_bool_str : kitB "bool" "str" = some false := by decide +kernel
theorem kt_bool_tuple : kitB "bool" "tuple" = some false := by decide +kernel
theorem kt_bool_list : kitB "bool" "list" = some false := by decide +kernel
theorem kt_bool_dict : kitB "bool" "dict" = some false := by decide +kernel
theorem kt_int_int : kitB "int" "int" = some true := by decide +kernel
theorem kt_int_bool : kitB "int" "bool" = some false := by decide +kernel
theorem kt_int_str : kitB "int" "str" = some false := by decide +kernel
theorem kt_int_tuple : kitB "int" "tuple" = some false := by decide +kernel
theorem kt_int_list : kitB "int" "list" = some false := by decide +kernel
theorem kt_int_dict : kitB "int" "dict" = some false := by decide +kernel
theorem kt_str_int : kitB "str" "int" = some false := by decide +kernel
theorem kt_str_bool : kitB "str" "bool" = some false := by decide +kernel
theorem kt_str_str : kitB "str" "str" = some true := by decide +kernel
theorem kt_str_tuple : kitB "str" "tuple" = some false := by decide +kernel
theorem kt_str_list : kitB "str" "list" = some false := by decide +kernel
theorem kt_str_dict : kitB "str" "dict" = some false := by decide +kernel
theorem kt_list_int : kitB "list" "int" = some false := by decide +kernel
theorem kt_list_bool : kitB "list" "bool" = some false := by decide +kernel
theorem kt_list_str : kitB "list" "str" = some false := by decide +kernel
theorem kt_list_tuple : kitB "list" "tuple" = some false := by decide +kernel
theorem kt_list_list : kitB "list" "list" = some true := by decide +kernel
theorem kt_list_dict : kitB "list" "dict" = some false := by decide +kernel
theorem kt_tuple_int : kitB "tuple" "int" = some false := by decide +kernel
theorem kt_tuple_bool : kitB "tuple" "bool" = some false := by decide +kernel
theorem kt_tuple_str : kitB "tuple" "str" = some false := by decide +kernel
theorem kt_tuple_tuple : kitB "tuple" "tuple" = some true := by decide +kernel
theorem kt_tuple_list : kitB "tuple" "list" = some false := by decide +kernel
theorem kt_tuple_dict : kitB "tuple" "dict" = some false := by decide +kernel
theorem kt_dict_int : kitB "dict" "int" = some false := by decide +kernel
theorem kt_dict_bool : kitB "dict" "bool" = some false := by decide +kernel
theorem kt_dict_str : kitB "dict" "str" = some false := by decide +kernel
theorem kt_dict_tuple : kitB "dict" "tuple" = some false := by decide +kernel
theorem kt_dict_list : kitB "dict" "list" = some false := by decide +kernel
theorem kt_dict_dict : kitB "dict" "dict" = some true := by decide +kernel
theorem r_isi {K : PySem.W.Frag} {H : Hp} {Q : VK} {x : V} {d : PyData} {n : String} {b : Bool} (h : Dp K H x d) (k : kitB (tyD d) n = some b) (q : Q (.bl b) H) : rIsi K [x, .ty n] H Q := ⟨x, .ty n, _, _, b, rfl, .ty n, tyD_ok h, kit_ty k, q⟩
theorem _root_.L2.Same.rd {H H' : Hp} {a : Addr} {u : HO} (e : Same H H') (h : Rd H a u) : Rd H' a u := by
  rcases h with h | ⟨o, h⟩
  · exact .inl (e _ _ h)
  · exact .inr ⟨o, e _ _ h⟩
theorem _root_.L2.Same.seqT {K : PySem.W.Frag} {H H' : Hp} {a : Addr} {xs : List V} (e : Same H H') (h : SqT K H a xs) : SqT K H' a xs := by
  rcases h with h | h
  · exact .inl (e.rd h)
  · exact .inr h
mutual
theorem dp_same {K : PySem.W.Frag} {H H' : Hp} (e : Same H H') : ∀ (d : PyData) (x : V), Dp K H x d → Dp K H' x d
  | .none, _, h => by cases h; exact .non
  | .bool _, _, h => by cases h; exact .bl _
  | .int _, _, h => by cases h; exact .int _
  | .str _, _, h => by cases h; exact .str _
  | .list ds, _, h => by
    cases h with
    | lst h1 h2 => exact .lst (e.seq h1) (dps_same e ds _ h2)
  | .tuple ds, _, h => by
    cases h with
    | tup h1 h2 => exact .tup (e.seqT h1) (dps_same e ds _ h2)
  | .dict _, _, h => by cases h
theorem dps_same {K : PySem.W.Frag} {H H' : Hp} (e : Same H H') : ∀ (ds : List PyData) (xs : List V), DpAll K H xs ds → DpAll K H' xs ds
  | [], _, h => by cases h; exact .nil
  | d :: ds, _, h => by
    cases h with
    | cons h1 h2 => exact .cons (dp_same e d _ h1) (dps_same e ds _ h2)
end
theorem dps_len {K : PySem.W.Frag} {H : Hp} : ∀ {ds : List PyData} {xs : List V}, DpAll K H xs ds → xs.length = ds.length
  | [], _, h => by cases h; rfl
  | d :: ds, _, h => by
    cases h with
    | cons h1 h2 => simp [dps_len h2]
theorem dps_get {K : PySem.W.Frag} {H : Hp} : ∀ {ds : List PyData} {xs : List V} {i : Nat} {d : PyData}, DpAll K H xs ds → ds[i]? = some d → ∃ x, xs[i]? = some x ∧ Dp K H x d
  | [], _, i, d, h, e => by simp at e
  | d' :: ds, _, 0, d, h, e => by
    cases h with
    | cons h1 h2 =>
      simp at e
      subst e
      exact ⟨_, rfl, h1⟩
  | d' :: ds, _, i + 1, d, h, e => by
    cases h with
    | cons h1 h2 =>
      obtain ⟨x, hx, hd⟩ := dps_get (i := i) h2 (by simpa using e)
      exact ⟨x, by simpa using hx, hd⟩
/-! a method that may raise, within a try -/
section
variable {X : Cx} {CX : CXT} {k : Nat} {f C : Addr} {fd : FuncData} {ps : List Str} {sp : Sp} {E : L2.St → XK} {m : Str} {pos apos : Pos} {e o : PySem.Expr} {es : List PySem.Expr} {ta : TE} {t : TA}
def tMethE (C : Addr) (m : Str) (sp : Sp) (E : L2.St → XK) (ta : TE) (t : TA) : TE := fun σ H Q => ta σ H fun x H1 =>
  ∃ a dx fs, x = .ref a ∧ H1 a = some (.ins C dx fs) ∧ fs.lookup m = none ∧ t σ H1 fun vs H2 => sp (x :: vs) H2 Q (E σ)
theorem pe_methE {pl : Sem Bool} (he : PE X o ta) (c : Cls X.K C) (hm : Meth X.K C m f) (F : FnOk X.prog X.w X.K X.mg X.base CX k f fd ps sp) (hr : Room k X.A) (hb : Binds X.K fd ps []) (hx : ∀ σ, PassesAt CX X σ (E σ)) (ha : PA X (e :: es) t)
    (hst : starEach (e :: es) X.env = (false, eval e X.env) :: starEach es X.env := by rfl) (hpl : (backTo pos (starEach es X.env)).any (·.1) = false := by rfl)
    (ht : eval (.Call (.Attribute o m apos) (e :: es) [] pos) X.env = (do
      let ov ← eval o X.env; standAt apos.atName; let (f, first) ← holding [ov] (getMethod ov m pl)
      callWith pos f first (backTo pos (starEach (e :: es) X.env)) (backToKw pos (keywordEach [] X.env))) := by rfl) :
    PE X (.Call (.Attribute o m apos) (e :: es) [] pos) (tMethE C m sp E ta t) := by
  refine ⟨fun pins s σ H Q I h => ?_⟩
  refine PySem.W.methodCall_KW (pl := pl) (thn (he.run pins s σ H _ I h) fun u s1 hh => ?_) ht
  obtain ⟨x, H1, I1, rx, a, dx, fs, ex, ea, l, q⟩ := hh
  subst ex
  obtain rfl : u = Value.ref a := rx
  refine getmeth_ok I1 ea c hm l ?_
  refine PySem.W.callWith_K (first := [.ref a]) (h₀ := X.base) I.ok.mod.kin hm.kp (thn (ha.run pos pins s1 σ H1 _ I1 q) fun us s2 hh => ?_) hst hpl
  obtain ⟨vs, H2, I2, r, q2⟩ := hh
  exact ⟨I2.kIn, run_fnS (us := .ref a :: us) (vs := .ref a :: vs) F hr hb (hx σ) I2 (.cons rfl r) q2⟩
theorem r_methE {σ : L2.St} {H : Hp} {Q : VK} (q : ta σ H fun x H1 => ∃ a dx fs, x = .ref a ∧ H1 a = some (.ins C dx fs) ∧ fs.lookup m = none ∧ t σ H1 fun vs H2 => sp (x :: vs) H2 Q (E σ)) : tMethE C m sp E ta t σ H Q := q
theorem r_xf {σ : L2.St} {H : Hp} {Q : VK} {a : Addr} {cls : Value} {d : Option Addr} {te : TE} (q : te σ H fun x H1 => x = .ref a ∧ cls = .ref C ∧ ∃ (dd : Addr) (fs : List (Str × V)) (v : V), d = some dd ∧ H1 dd = some (.xd fs) ∧ fs.lookup m = some v ∧ Q v H1) : tXf a cls d C m te σ H Q := q
theorem r_slL {K : PySem.W.Frag} {H : Hp} {Q : VK} {a : Addr} {xs : List V} {lo hi : Option Int} (h : H a = some (.lst xs)) (q : ∀ p, H p = none → Q (.ref p) (upd H p (.lst (cutV xs lo hi)))) : rSlL K (.ref a) lo hi H Q := ⟨a, xs, rfl, SqL.of h, q⟩
theorem r_sl {σ : L2.St} {H : Hp} {Q : VK} {r : V → Option Int → Option Int → Hp → VK → Prop} {te : TE} {tl th : TO} (q : te σ H fun x H1 => tl σ H1 fun l H2 => th σ H2 fun u H3 => r x l u H3 Q) : tSl r te tl th σ H Q := q
theorem r_noPart {σ : L2.St} {H : Hp} {Q : Option Int → Hp → Prop} (q : Q none H) : tNoPart σ H Q := q
theorem r_part {σ : L2.St} {H : Hp} {te : TE} {Q : Option Int → Hp → Prop} (q : te σ H fun x H1 => ∃ i, x = .int i ∧ Q (some i) H1) : tPart te σ H Q := q
theorem r_partI {i : Int} {P : Int → Prop} (q : P i) : ∃ j, V.int i = .int j ∧ P j := ⟨i, rfl, q⟩
theorem r_extend {H : Hp} {Q : VK} {l b : Addr} {xs zs : List V} (h : H l = some (.lst xs)) (h2 : H b = some (.lst zs)) (z : xs.length + zs.length ≤ sizeLine) (q : Q .non (upd H l (.lst (xs ++ zs)))) : rExtend (.ref l) [.ref b] H Q := ⟨l, b, xs, zs, rfl, rfl, h, h2, z, q⟩
end
local macro_rules | `(tactic| walk_at "kit") => `(tactic| first
  | exact kt_NoneType_int
  | exact kt_NoneType_bool
  | exact kt_NoneType_str
  | exact kt_NoneType_tuple
  | exact kt_NoneType_list
  | exact kt_NoneType_dict
  | exact kt_bool_int
  | exact kt_bool_bool
  | exact kt_bool_str
  | exact kt_bool_tuple
  | exact kt_bool_list
  | exact kt_bool_dict
  | exact kt_int_int
  | exact kt_int_bool
  | exact kt_int_str
  | exact kt_int_tuple
  | exact kt_int_list
  | exact kt_int_dict
  | exact kt_str_int
  | exact kt_str_bool
  | exact kt_str_str
  | exact kt_str_tuple
  | exact kt_str_list
  | exact kt_str_dict
  | exact kt_list_int
  | exact kt_list_bool
  | exact kt_list_str
  | exact kt_list_tuple
  | exact kt_list_list
  | exact kt_list_dict
  | exact kt_tuple_int
  | exact kt_tuple_bool
  | exact kt_tuple_str
  | exact kt_tuple_tuple
  | exact kt_tuple_list
  | exact kt_tuple_dict
  | exact kt_dict_int
  | exact kt_dict_bool
  | exact kt_dict_str
  | exact kt_dict_tuple
  | exact kt_dict_list
  | exact kt_dict_dict)
local macro_rules | `(tactic| walk_at "ne") => `(tactic| first
  | assumption
  | (apply Ne.symm; assumption)
  | ((refine' ne_of_none ?na_ ?nb_); (case nb_ => assumption); (case na_ => walk_at "hl"))
  | ((refine' Ne.symm (ne_of_none ?na_ ?nb_)); (case nb_ => assumption); (case na_ => walk_at "hl")))
local macro_rules | `(tactic| walk_at "hl") => `(tactic| first
  | assumption
  | exact upd_same
  | ((refine Eq.trans (upd_ne ?ne_) ?_); (case ne_ => walk_at "ne"); walk_at "hl"))
local macro_rules | `(tactic| walk_at "cnd") => `(tactic| first
  | omega
  | exact ⟨by omega, by omega⟩
  | exact ⟨by decide, by decide, by decide⟩
  | exact Or.inl ⟨by omega, by omega⟩
  | exact Or.inr ⟨by omega, by omega⟩)
local macro_rules | `(tactic| walk_at "sz") => `(tactic| first
  | (refine Nat.lt_of_le_of_lt (m := 1000) ?_ (by decide); first | omega | (simp; omega)))
local macro_rules | `(tactic| walk_at "rs1") => `(tactic| first
  | ((with_reducible refine' r_var ?ee_ ?_); (case ee_ => rfl))
  | with_reducible refine r_c ?_
  | with_reducible refine r_op ?_
  | with_reducible refine r_un ?_
  | with_reducible refine r_I0 ?_
  | ((with_reducible refine' r_I ?cc_ ?_); (case cc_ => walk_at "cnd"))
  | with_reducible refine r_U ?_
  | ((with_reducible refine' r_eq ?ee_ ?_); (case ee_ => rfl))
  | ((with_reducible refine' r_ne ?ee_ ?_); (case ee_ => rfl))
  | with_reducible refine r_test ?_
  | with_reducible refine r_B ?_
  | with_reducible refine r_bl ?_
  | with_reducible refine r_seq ?_
  | with_reducible refine r_next ?_
  | with_reducible refine r_ret ?_
  | with_reducible refine r_retN ?_
  | with_reducible refine r_drop ?_
  | with_reducible refine r_asg ?_
  | with_reducible refine r_ifS ?_
  | with_reducible refine r_gN ?_
  | with_reducible refine r_gC ?_
  | ((with_reducible refine' r_gT ?ss_ ?ll_ ?_); (case ss_ => walk_at "hl"); (case ll_ => rfl))
  | with_reducible refine r_gZ ?_
  | with_reducible refine r_gS ?_
  | with_reducible refine r_nil ?_
  | with_reducible refine r_cons ?_
  | with_reducible refine r_CB ?_
  | with_reducible refine r_call ?_
  | with_reducible refine r_callS ?_
  | with_reducible refine r_tup ?_
  | with_reducible refine r_lst ?_
  | ((with_reducible refine r_sz ?ee_ ?_); (case ee_ => first | exact Nat.zero_le _ | (simp; done) | (simp; omega)))
  | with_reducible refine iteT ?_
  | with_reducible refine iteF ?_
  | with_reducible refine r_not ?_
  | with_reducible refine r_and ?_
  | with_reducible refine r_or ?_
  | with_reducible refine r_andV ?_
  | with_reducible refine r_orV ?_
  | with_reducible refine r_notV ?_
  | with_reducible refine r_ifE ?_
  | with_reducible refine r_isN ?_
  | with_reducible refine r_notN ?_
  | with_reducible refine r_chain ?_
  | with_reducible refine r_for ?_
  | with_reducible refine r_rng1 ?_
  | with_reducible refine r_rng2 ?_
  | with_reducible refine r_rng3 ?_
  | with_reducible refine r_iList ?_
  | with_reducible refine r_lc ?_
  | ((with_reducible refine r_iteVT ?hh_ ?_); (case hh_ => rfl))
  | ((with_reducible refine r_iteVF ?hh_ ?_); (case hh_ => (intro z; cases z)))
  | with_reducible refine r_isBool ?_
  | with_reducible refine r_methE ?_
  | with_reducible refine r_xf ?_
  | with_reducible refine r_sl ?_
  | with_reducible refine r_noPart ?_
  | with_reducible refine r_part ?_
  | with_reducible refine r_partI ?_
  | ((with_reducible refine' r_slL ?hh_ ?_); (case hh_ => walk_at "hl"))
  | ((with_reducible refine' r_extend ?hh_ ?jj_ ?zz_ ?_); (case hh_ => walk_at "hl"); (case jj_ => walk_at "hl"); (case zz_ => assumption))
  | with_reducible refine r_iteNf ?_
  | with_reducible refine r_iteNt ?_
  | ((with_reducible refine' r_isi ?hh_ ?kk_ ?_); (case hh_ => assumption); (case kk_ => walk_at "kit"))
  | with_reducible refine r_yes ?_
  | with_reducible refine r_din ?_
  | with_reducible refine r_dnotin ?_
  | with_reducible refine r_dget1 ?_
  | with_reducible refine r_dget ?_
  | with_reducible refine r_dput ?_
  | with_reducible refine r_sfld ?_
  | with_reducible refine r_mkO ?_
  | with_reducible refine r_make ?_
  | with_reducible refine r_meth ?_
  | with_reducible refine r_dnew ?_
  | with_reducible refine r_brk ?_
  | with_reducible refine r_cont ?_
  | with_reducible refine r_fld ?_
  | ((with_reducible refine' r_ixL ?hh_ ?aa_ ?_); (case hh_ => walk_at "hl"); (case aa_ => first | rfl | assumption))
  | ((with_reducible refine' r_ixT ?hh_ ?aa_ ?_); (case hh_ => walk_at "hl"); (case aa_ => first | rfl | assumption))
  | ((with_reducible refine' r_setL ?hh_ ?aa_ ?_); (case hh_ => walk_at "hl"); (case aa_ => first | rfl | assumption))
  | ((with_reducible refine' r_len ?hh_ ?_); (case hh_ => walk_at "hl"))
  | ((with_reducible refine' r_lenT ?hh_ ?_); (case hh_ => walk_at "hl"))
  | with_reducible refine r_int1 ?_
  | with_reducible refine r_abs ?_
  | with_reducible refine r_max ?_
  | with_reducible refine r_min ?_
  | ((with_reducible refine' r_listOf ?hh_ ?_); (case hh_ => walk_at "hl"))
  | with_reducible refine r_isNo ?_
  | with_reducible refine r_notNo ?_
  | with_reducible refine r_bm ?_
  | with_reducible refine r_bm0 ?_
  | ((with_reducible refine' r_tyL ?hh_ ?_); (case hh_ => walk_at "hl"))
  | ((with_reducible refine' r_append ?hh_ ?zz_ ?_); (case hh_ => walk_at "hl"); (case zz_ => walk_at "sz"))
  | ((with_reducible refine' r_insert ?hh_ ?zz_ ?ii_ ?jj_ ?_); (case hh_ => walk_at "hl"); (case zz_ => walk_at "sz"); (case ii_ => omega); (case jj_ => omega)))
local macro_rules | `(tactic| walk_at "rs") => `(tactic| (repeat' (walk_at "rs1")))
/-! ### the text by places -/
def top (i : Nat) : Stmt := PySem.Challenge.pw_sandthreads_k06_turned.main.body.getD i (.Pass ⟨0, 0, 0, 0⟩)
abbrev s_SandError___init__ : Stmt := (inClass (top 2) 0)
abbrev N_SandError___init__ : List Str := ["self", "value"]
abbrev P_SandError___init__ : List Str := ["self", "value"]
theorem sc_SandError___init__ : FnScope N_SandError___init__ P_SandError___init__ (defScope s_SandError___init__) := ⟨rfl, rfl, rfl, by decide +kernel, rfl, by decide +kernel, by decide +kernel⟩

abbrev s_is_inside : Stmt := (top 12)
abbrev N_is_inside : List Str := ["width", "height", "x", "y"]
abbrev P_is_inside : List Str := ["width", "height", "x", "y"]
theorem sc_is_inside : FnScope N_is_inside P_is_inside (defScope s_is_inside) := ⟨rfl, rfl, rfl, by decide +kernel, rfl, by decide +kernel, by decide +kernel⟩

abbrev s_check_mirror : Stmt := (top 13)
abbrev N_check_mirror : List Str := ["width", "height", "kinds", "mirror", "x", "y", "kind"]
abbrev P_check_mirror : List Str := ["width", "height", "kinds", "mirror"]
theorem sc_check_mirror : FnScope N_check_mirror P_check_mirror (defScope s_check_mirror) := ⟨rfl, rfl, rfl, by decide +kernel, rfl, by decide +kernel, by decide +kernel⟩

abbrev s_kinds_of : Stmt := (top 14)
abbrev N_kinds_of : List Str := ["width", "height", "mirrors", "kinds", "x", "y", "kind"]
abbrev P_kinds_of : List Str := ["width", "height", "mirrors"]
theorem sc_kinds_of : FnScope N_kinds_of P_kinds_of (defScope s_kinds_of) := ⟨rfl, rfl, rfl, by decide +kernel, rfl, by decide +kernel, by decide +kernel⟩

abbrev s_other_kind : Stmt := (top 15)
abbrev N_other_kind : List Str := ["kind"]
abbrev P_other_kind : List Str := ["kind"]
theorem sc_other_kind : FnScope N_other_kind P_other_kind (defScope s_other_kind) := ⟨rfl, rfl, rfl, by decide +kernel, rfl, by decide +kernel, by decide +kernel⟩

abbrev s_moved_place : Stmt := (top 16)
abbrev N_moved_place : List Str := ["way", "width", "height", "place", "x", "y"]
abbrev P_moved_place : List Str := ["way", "width", "height", "place"]
theorem sc_moved_place : FnScope N_moved_place P_moved_place (defScope s_moved_place) := ⟨rfl, rfl, rfl, by decide +kernel, rfl, by decide +kernel, by decide +kernel⟩

abbrev s_Board___init__ : Stmt := (inClass (top 17) 0)
abbrev N_Board___init__ : List Str := ["self", "width", "height", "mirrors"]
abbrev P_Board___init__ : List Str := ["self", "width", "height", "mirrors"]
theorem sc_Board___init__ : FnScope N_Board___init__ P_Board___init__ (defScope s_Board___init__) := ⟨rfl, rfl, rfl, by decide +kernel, rfl, by decide +kernel, by decide +kernel⟩

abbrev s_Board_width : Stmt := (inClass (top 17) 1)
abbrev N_Board_width : List Str := ["self"]
abbrev P_Board_width : List Str := ["self"]
theorem sc_Board_width : FnScope N_Board_width P_Board_width (defScope s_Board_width) := ⟨rfl, rfl, rfl, by decide +kernel, rfl, by decide +kernel, by decide +kernel⟩

abbrev s_Board_height : Stmt := (inClass (top 17) 2)
abbrev N_Board_height : List Str := ["self"]
abbrev P_Board_height : List Str := ["self"]
theorem sc_Board_height : FnScope N_Board_height P_Board_height (defScope s_Board_height) := ⟨rfl, rfl, rfl, by decide +kernel, rfl, by decide +kernel, by decide +kernel⟩

abbrev s_Board_mirrors : Stmt := (inClass (top 17) 3)
abbrev N_Board_mirrors : List Str := ["self", "x", "y"]
abbrev P_Board_mirrors : List Str := ["self"]
theorem sc_Board_mirrors : FnScope N_Board_mirrors P_Board_mirrors (defScope s_Board_mirrors) := ⟨rfl, rfl, rfl, by decide +kernel, rfl, by decide +kernel, by decide +kernel⟩

abbrev s_Board___len__ : Stmt := (inClass (top 17) 4)
abbrev N_Board___len__ : List Str := ["self"]
abbrev P_Board___len__ : List Str := ["self"]
theorem sc_Board___len__ : FnScope N_Board___len__ P_Board___len__ (defScope s_Board___len__) := ⟨rfl, rfl, rfl, by decide +kernel, rfl, by decide +kernel, by decide +kernel⟩

abbrev s_Board___eq__ : Stmt := (inClass (top 17) 5)
abbrev N_Board___eq__ : List Str := ["self", "other"]
abbrev P_Board___eq__ : List Str := ["self", "other"]
theorem sc_Board___eq__ : FnScope N_Board___eq__ P_Board___eq__ (defScope s_Board___eq__) := ⟨rfl, rfl, rfl, by decide +kernel, rfl, by decide +kernel, by decide +kernel⟩

abbrev s_Board_mirror_at : Stmt := (inClass (top 17) 6)
abbrev N_Board_mirror_at : List Str := ["self", "x", "y"]
abbrev P_Board_mirror_at : List Str := ["self", "x", "y"]
theorem sc_Board_mirror_at : FnScope N_Board_mirror_at P_Board_mirror_at (defScope s_Board_mirror_at) := ⟨rfl, rfl, rfl, by decide +kernel, rfl, by decide +kernel, by decide +kernel⟩

abbrev s_Board_turned : Stmt := (inClass (top 17) 9)
abbrev N_Board_turned : List Str := ["self", "way", "sizes", "mirrors", "x", "y", "kind", "place"]
abbrev P_Board_turned : List Str := ["self", "way"]
theorem sc_Board_turned : FnScope N_Board_turned P_Board_turned (defScope s_Board_turned) := ⟨rfl, rfl, rfl, by decide +kernel, rfl, by decide +kernel, by decide +kernel⟩

abbrev s__law_hand : Stmt := (top 19)
abbrev N__law_hand : List Str := ["_law_script", "_law_total", "_law_cell"]
abbrev P__law_hand : List Str := ["_law_script"]
theorem sc__law_hand : FnScope N__law_hand P__law_hand (defScope s__law_hand) := ⟨rfl, rfl, rfl, by decide +kernel, rfl, by decide +kernel, by decide +kernel⟩

abbrev s__law_take : Stmt := (top 20)
abbrev N__law_take : List Str := ["_law_hand_here", "_law_limit", "_law_cells", "_law_k", "_law_cell", "_law_place", "_law_mixed"]
abbrev P__law_take : List Str := ["_law_hand_here", "_law_limit"]
theorem sc__law_take : FnScope N__law_take P__law_take (defScope s__law_take) := ⟨rfl, rfl, rfl, by decide +kernel, rfl, by decide +kernel, by decide +kernel⟩

abbrev s__law_big : Stmt := (top 21)
abbrev N__law_big : List Str := ["_law_hand_here", "_law_limit", "_law_number", "_law_step"]
abbrev P__law_big : List Str := ["_law_hand_here", "_law_limit"]
theorem sc__law_big : FnScope N__law_big P__law_big (defScope s__law_big) := ⟨rfl, rfl, rfl, by decide +kernel, rfl, by decide +kernel, by decide +kernel⟩

abbrev s__law_points : Stmt := (top 22)
abbrev N__law_points : List Str := ["_law_width", "_law_height", "_law_points_here", "_law_y", "_law_x"]
abbrev P__law_points : List Str := ["_law_width", "_law_height"]
theorem sc__law_points : FnScope N__law_points P__law_points (defScope s__law_points) := ⟨rfl, rfl, rfl, by decide +kernel, rfl, by decide +kernel, by decide +kernel⟩

abbrev s__law_mirrors : Stmt := (top 23)
abbrev N__law_mirrors : List Str := ["_law_hand_here", "_law_width", "_law_height", "_law_share", "_law_mirrors_here", "_law_x", "_law_y", "_law_kind"]
abbrev P__law_mirrors : List Str := ["_law_hand_here", "_law_width", "_law_height"]
theorem sc__law_mirrors : FnScope N__law_mirrors P__law_mirrors (defScope s__law_mirrors) := ⟨rfl, rfl, rfl, by decide +kernel, rfl, by decide +kernel, by decide +kernel⟩

abbrev s__law_sizes : Stmt := (top 24)
abbrev N__law_sizes : List Str := ["_law_hand_here", "_law_most", "_law_one", "_law_other"]
abbrev P__law_sizes : List Str := ["_law_hand_here", "_law_most"]
theorem sc__law_sizes : FnScope N__law_sizes P__law_sizes (defScope s__law_sizes) := ⟨rfl, rfl, rfl, by decide +kernel, rfl, by decide +kernel, by decide +kernel⟩

abbrev s__law_spot : Stmt := (top 25)
abbrev N__law_spot : List Str := ["_law_hand_here", "_law_width", "_law_height", "_law_across"]
abbrev P__law_spot : List Str := ["_law_hand_here", "_law_width", "_law_height"]
theorem sc__law_spot : FnScope N__law_spot P__law_spot (defScope s__law_spot) := ⟨rfl, rfl, rfl, by decide +kernel, rfl, by decide +kernel, by decide +kernel⟩

abbrev s__law_far : Stmt := (top 26)
abbrev N__law_far : List Str := ["_law_hand_here", "_law_most", "_law_limit", "_law_sizes_here", "_law_small", "_law_mirrors_here", "_law_step", "_law_x", "_law_y", "_law_a", "_law_b", "_law_kind"]
abbrev P__law_far : List Str := ["_law_hand_here", "_law_most", "_law_limit"]
theorem sc__law_far : FnScope N__law_far P__law_far (defScope s__law_far) := ⟨rfl, rfl, rfl, by decide +kernel, rfl, by decide +kernel, by decide +kernel⟩

abbrev s__law_same : Stmt := (top 27)
abbrev N__law_same : List Str := ["_law_found", "_law_due", "_law_k"]
abbrev P__law_same : List Str := ["_law_found", "_law_due"]
theorem sc__law_same : FnScope N__law_same P__law_same (defScope s__law_same) := ⟨rfl, rfl, rfl, by decide +kernel, rfl, by decide +kernel, by decide +kernel⟩

abbrev s__law_is : Stmt := (top 28)
abbrev N__law_is : List Str := ["_law_board", "_law_due", "_law_told", "_law_x", "_law_y", "_law_here", "_law_row"]
abbrev P__law_is : List Str := ["_law_board", "_law_due"]
theorem sc__law_is : FnScope N__law_is P__law_is (defScope s__law_is) := ⟨rfl, rfl, rfl, by decide +kernel, rfl, by decide +kernel, by decide +kernel⟩

abbrev s__law_move : Stmt := (top 29)
abbrev N__law_move : List Str := ["_law_way", "_law_width", "_law_height", "_law_x", "_law_y"]
abbrev P__law_move : List Str := ["_law_way", "_law_width", "_law_height", "_law_x", "_law_y"]
theorem sc__law_move : FnScope N__law_move P__law_move (defScope s__law_move) := ⟨rfl, rfl, rfl, by decide +kernel, rfl, by decide +kernel, by decide +kernel⟩

abbrev s__law_turned : Stmt := (top 30)
abbrev N__law_turned : List Str := ["_law_way", "_law_width", "_law_height", "_law_mirrors_here", "_law_rows", "_law_swap", "_law_x", "_law_y", "_law_kind", "_law_a", "_law_b"]
abbrev P__law_turned : List Str := ["_law_way", "_law_width", "_law_height", "_law_mirrors_here"]
theorem sc__law_turned : FnScope N__law_turned P__law_turned (defScope s__law_turned) := ⟨rfl, rfl, rfl, by decide +kernel, rfl, by decide +kernel, by decide +kernel⟩

abbrev s__law_word : Stmt := (top 31)
abbrev N__law_word : List Str := ["_law_hand_here", "_law_odd", "_law_choice", "_law_word_here", "_law_step"]
abbrev P__law_word : List Str := ["_law_hand_here"]
theorem sc__law_word : FnScope N__law_word P__law_word (defScope s__law_word) := ⟨rfl, rfl, rfl, by decide +kernel, rfl, by decide +kernel, by decide +kernel⟩

abbrev s__law_refused : Stmt := (top 32)
abbrev N__law_refused : List Str := ["_law_board", "_law_word_here", "_law_told", "e"]
abbrev P__law_refused : List Str := ["_law_board", "_law_word_here"]
theorem sc__law_refused : FnScope N__law_refused P__law_refused (defScope s__law_refused) := ⟨rfl, rfl, rfl, by decide +kernel, rfl, by decide +kernel, by decide +kernel⟩

abbrev s_law : Stmt := (top 33)
abbrev N_law : List Str := ["_law_script", "_law_hand_here", "_law_width", "_law_height", "_law_mirrors_here", "_law_ways", "_law_word_here", "_law_first", "_law_board", "_law_way", "_law_due", "_law_same_here"]
abbrev P_law : List Str := ["_law_script"]
theorem sc_law : FnScope N_law P_law (defScope s_law) := ⟨rfl, rfl, rfl, by decide +kernel, rfl, by decide +kernel, by decide +kernel⟩

structure Ad where
  f_SandError___init__ : Addr
  d_SandError___init__ : FuncData
  f_is_inside : Addr
  d_is_inside : FuncData
  f_check_mirror : Addr
  d_check_mirror : FuncData
  f_kinds_of : Addr
  d_kinds_of : FuncData
  f_other_kind : Addr
  d_other_kind : FuncData
  f_moved_place : Addr
  d_moved_place : FuncData
  f_Board___init__ : Addr
  d_Board___init__ : FuncData
  f_Board_width : Addr
  d_Board_width : FuncData
  f_Board_height : Addr
  d_Board_height : FuncData
  f_Board_mirrors : Addr
  d_Board_mirrors : FuncData
  f_Board___len__ : Addr
  d_Board___len__ : FuncData
  f_Board___eq__ : Addr
  d_Board___eq__ : FuncData
  f_Board_mirror_at : Addr
  d_Board_mirror_at : FuncData
  f_Board_turned : Addr
  d_Board_turned : FuncData
  f__law_hand : Addr
  d__law_hand : FuncData
  f__law_take : Addr
  d__law_take : FuncData
  f__law_big : Addr
  d__law_big : FuncData
  f__law_points : Addr
  d__law_points : FuncData
  f__law_mirrors : Addr
  d__law_mirrors : FuncData
  f__law_sizes : Addr
  d__law_sizes : FuncData
  f__law_spot : Addr
  d__law_spot : FuncData
  f__law_far : Addr
  d__law_far : FuncData
  f__law_same : Addr
  d__law_same : FuncData
  f__law_is : Addr
  d__law_is : FuncData
  f__law_move : Addr
  d__law_move : FuncData
  f__law_turned : Addr
  d__law_turned : FuncData
  f__law_word : Addr
  d__law_word : FuncData
  f__law_refused : Addr
  d__law_refused : FuncData
  f_law : Addr
  d_law : FuncData
  C_InvalidSize : Addr
  C_InvalidPoint : Addr
  C_InvalidMirror : Addr
  C_Taken : Addr
  C_InvalidTurn : Addr
  C_Board : Addr
  c_KINDS : Addr
  c_WAYS : Addr
  c_EXCHANGING : Addr
  p_Board_width : Addr
  p_Board_height : Addr
  p_Board_mirrors : Addr
structure Txt (K : PySem.W.Frag) (mg : Str → Option Value) (A : Ad) : Prop where
  F_SandError___init__ : Fun K "__init__" "SandError.__init__" s_SandError___init__ A.f_SandError___init__ A.d_SandError___init__
  k_SandError___init__ : PySem.W.keepIn K (.ref A.f_SandError___init__) = true
  b_SandError___init__ : Binds K A.d_SandError___init__ P_SandError___init__ []
  F_is_inside : Fun K "is_inside" "is_inside" s_is_inside A.f_is_inside A.d_is_inside
  k_is_inside : PySem.W.keepIn K (.ref A.f_is_inside) = true
  b_is_inside : Binds K A.d_is_inside P_is_inside []
  g_is_inside : mg "is_inside" = some (.ref A.f_is_inside)
  F_check_mirror : Fun K "check_mirror" "check_mirror" s_check_mirror A.f_check_mirror A.d_check_mirror
  k_check_mirror : PySem.W.keepIn K (.ref A.f_check_mirror) = true
  b_check_mirror : Binds K A.d_check_mirror P_check_mirror []
  g_check_mirror : mg "check_mirror" = some (.ref A.f_check_mirror)
  F_kinds_of : Fun K "kinds_of" "kinds_of" s_kinds_of A.f_kinds_of A.d_kinds_of
  k_kinds_of : PySem.W.keepIn K (.ref A.f_kinds_of) = true
  b_kinds_of : Binds K A.d_kinds_of P_kinds_of []
  g_kinds_of : mg "kinds_of" = some (.ref A.f_kinds_of)
  F_other_kind : Fun K "other_kind" "other_kind" s_other_kind A.f_other_kind A.d_other_kind
  k_other_kind : PySem.W.keepIn K (.ref A.f_other_kind) = true
  b_other_kind : Binds K A.d_other_kind P_other_kind []
  g_other_kind : mg "other_kind" = some (.ref A.f_other_kind)
  F_moved_place : Fun K "moved_place" "moved_place" s_moved_place A.f_moved_place A.d_moved_place
  k_moved_place : PySem.W.keepIn K (.ref A.f_moved_place) = true
  b_moved_place : Binds K A.d_moved_place P_moved_place []
  g_moved_place : mg "moved_place" = some (.ref A.f_moved_place)
  F_Board___init__ : Fun K "__init__" "Board.__init__" s_Board___init__ A.f_Board___init__ A.d_Board___init__
  k_Board___init__ : PySem.W.keepIn K (.ref A.f_Board___init__) = true
  b_Board___init__ : Binds K A.d_Board___init__ P_Board___init__ []
  F_Board_width : Fun K "width" "Board.width" s_Board_width A.f_Board_width A.d_Board_width
  k_Board_width : PySem.W.keepIn K (.ref A.f_Board_width) = true
  b_Board_width : Binds K A.d_Board_width P_Board_width []
  F_Board_height : Fun K "height" "Board.height" s_Board_height A.f_Board_height A.d_Board_height
  k_Board_height : PySem.W.keepIn K (.ref A.f_Board_height) = true
  b_Board_height : Binds K A.d_Board_height P_Board_height []
  F_Board_mirrors : Fun K "mirrors" "Board.mirrors" s_Board_mirrors A.f_Board_mirrors A.d_Board_mirrors
  k_Board_mirrors : PySem.W.keepIn K (.ref A.f_Board_mirrors) = true
  b_Board_mirrors : Binds K A.d_Board_mirrors P_Board_mirrors []
  F_Board___len__ : Fun K "__len__" "Board.__len__" s_Board___len__ A.f_Board___len__ A.d_Board___len__
  k_Board___len__ : PySem.W.keepIn K (.ref A.f_Board___len__) = true
  b_Board___len__ : Binds K A.d_Board___len__ P_Board___len__ []
  F_Board___eq__ : Fun K "__eq__" "Board.__eq__" s_Board___eq__ A.f_Board___eq__ A.d_Board___eq__
  k_Board___eq__ : PySem.W.keepIn K (.ref A.f_Board___eq__) = true
  b_Board___eq__ : Binds K A.d_Board___eq__ P_Board___eq__ []
  F_Board_mirror_at : Fun K "mirror_at" "Board.mirror_at" s_Board_mirror_at A.f_Board_mirror_at A.d_Board_mirror_at
  k_Board_mirror_at : PySem.W.keepIn K (.ref A.f_Board_mirror_at) = true
  b_Board_mirror_at : Binds K A.d_Board_mirror_at P_Board_mirror_at []
  F_Board_turned : Fun K "turned" "Board.turned" s_Board_turned A.f_Board_turned A.d_Board_turned
  k_Board_turned : PySem.W.keepIn K (.ref A.f_Board_turned) = true
  b_Board_turned : Binds K A.d_Board_turned P_Board_turned []
  F__law_hand : Fun K "_law_hand" "_law_hand" s__law_hand A.f__law_hand A.d__law_hand
  k__law_hand : PySem.W.keepIn K (.ref A.f__law_hand) = true
  b__law_hand : Binds K A.d__law_hand P__law_hand []
  g__law_hand : mg "_law_hand" = some (.ref A.f__law_hand)
  F__law_take : Fun K "_law_take" "_law_take" s__law_take A.f__law_take A.d__law_take
  k__law_take : PySem.W.keepIn K (.ref A.f__law_take) = true
  b__law_take : Binds K A.d__law_take P__law_take []
  g__law_take : mg "_law_take" = some (.ref A.f__law_take)
  F__law_big : Fun K "_law_big" "_law_big" s__law_big A.f__law_big A.d__law_big
  k__law_big : PySem.W.keepIn K (.ref A.f__law_big) = true
  b__law_big : Binds K A.d__law_big P__law_big []
  g__law_big : mg "_law_big" = some (.ref A.f__law_big)
  F__law_points : Fun K "_law_points" "_law_points" s__law_points A.f__law_points A.d__law_points
  k__law_points : PySem.W.keepIn K (.ref A.f__law_points) = true
  b__law_points : Binds K A.d__law_points P__law_points []
  g__law_points : mg "_law_points" = some (.ref A.f__law_points)
  F__law_mirrors : Fun K "_law_mirrors" "_law_mirrors" s__law_mirrors A.f__law_mirrors A.d__law_mirrors
  k__law_mirrors : PySem.W.keepIn K (.ref A.f__law_mirrors) = true
  b__law_mirrors : Binds K A.d__law_mirrors P__law_mirrors []
  g__law_mirrors : mg "_law_mirrors" = some (.ref A.f__law_mirrors)
  F__law_sizes : Fun K "_law_sizes" "_law_sizes" s__law_sizes A.f__law_sizes A.d__law_sizes
  k__law_sizes : PySem.W.keepIn K (.ref A.f__law_sizes) = true
  b__law_sizes : Binds K A.d__law_sizes P__law_sizes []
  g__law_sizes : mg "_law_sizes" = some (.ref A.f__law_sizes)
  F__law_spot : Fun K "_law_spot" "_law_spot" s__law_spot A.f__law_spot A.d__law_spot
  k__law_spot : PySem.W.keepIn K (.ref A.f__law_spot) = true
  b__law_spot : Binds K A.d__law_spot P__law_spot []
  g__law_spot : mg "_law_spot" = some (.ref A.f__law_spot)
  F__law_far : Fun K "_law_far" "_law_far" s__law_far A.f__law_far A.d__law_far
  k__law_far : PySem.W.keepIn K (.ref A.f__law_far) = true
  b__law_far : Binds K A.d__law_far P__law_far []
  g__law_far : mg "_law_far" = some (.ref A.f__law_far)
  F__law_same : Fun K "_law_same" "_law_same" s__law_same A.f__law_same A.d__law_same
  k__law_same : PySem.W.keepIn K (.ref A.f__law_same) = true
  b__law_same : Binds K A.d__law_same P__law_same []
  g__law_same : mg "_law_same" = some (.ref A.f__law_same)
  F__law_is : Fun K "_law_is" "_law_is" s__law_is A.f__law_is A.d__law_is
  k__law_is : PySem.W.keepIn K (.ref A.f__law_is) = true
  b__law_is : Binds K A.d__law_is P__law_is []
  g__law_is : mg "_law_is" = some (.ref A.f__law_is)
  F__law_move : Fun K "_law_move" "_law_move" s__law_move A.f__law_move A.d__law_move
  k__law_move : PySem.W.keepIn K (.ref A.f__law_move) = true
  b__law_move : Binds K A.d__law_move P__law_move []
  g__law_move : mg "_law_move" = some (.ref A.f__law_move)
  F__law_turned : Fun K "_law_turned" "_law_turned" s__law_turned A.f__law_turned A.d__law_turned
  k__law_turned : PySem.W.keepIn K (.ref A.f__law_turned) = true
  b__law_turned : Binds K A.d__law_turned P__law_turned []
  g__law_turned : mg "_law_turned" = some (.ref A.f__law_turned)
  F__law_word : Fun K "_law_word" "_law_word" s__law_word A.f__law_word A.d__law_word
  k__law_word : PySem.W.keepIn K (.ref A.f__law_word) = true
  b__law_word : Binds K A.d__law_word P__law_word []
  g__law_word : mg "_law_word" = some (.ref A.f__law_word)
  F__law_refused : Fun K "_law_refused" "_law_refused" s__law_refused A.f__law_refused A.d__law_refused
  k__law_refused : PySem.W.keepIn K (.ref A.f__law_refused) = true
  b__law_refused : Binds K A.d__law_refused P__law_refused []
  g__law_refused : mg "_law_refused" = some (.ref A.f__law_refused)
  F_law : Fun K "law" "law" s_law A.f_law A.d_law
  k_law : PySem.W.keepIn K (.ref A.f_law) = true
  b_law : Binds K A.d_law P_law []
  g_law : mg "law" = some (.ref A.f_law)
  g_InvalidSize : mg "InvalidSize" = some (.ref A.C_InvalidSize)
  X_InvalidSize : OexC K A.C_InvalidSize
  i_InvalidSize : PySem.W.findIn K (.ref A.C_InvalidSize) "__init__" = some (some (.ref A.f_SandError___init__))
  xf_InvalidSize : XfC K A.C_InvalidSize
  te_InvalidSize : PySem.W.exmOne K (.ref A.C_InvalidSize) (.ref A.C_InvalidSize) = some true
  no_InvalidSize : PySem.W.findIn K (.ref A.C_InvalidSize) "value" = some none
  g_InvalidPoint : mg "InvalidPoint" = some (.ref A.C_InvalidPoint)
  X_InvalidPoint : OexC K A.C_InvalidPoint
  i_InvalidPoint : PySem.W.findIn K (.ref A.C_InvalidPoint) "__init__" = some (some (.ref A.f_SandError___init__))
  xf_InvalidPoint : XfC K A.C_InvalidPoint
  te_InvalidPoint : PySem.W.exmOne K (.ref A.C_InvalidPoint) (.ref A.C_InvalidPoint) = some true
  no_InvalidPoint : PySem.W.findIn K (.ref A.C_InvalidPoint) "value" = some none
  g_InvalidMirror : mg "InvalidMirror" = some (.ref A.C_InvalidMirror)
  X_InvalidMirror : OexC K A.C_InvalidMirror
  i_InvalidMirror : PySem.W.findIn K (.ref A.C_InvalidMirror) "__init__" = some (some (.ref A.f_SandError___init__))
  xf_InvalidMirror : XfC K A.C_InvalidMirror
  te_InvalidMirror : PySem.W.exmOne K (.ref A.C_InvalidMirror) (.ref A.C_InvalidMirror) = some true
  no_InvalidMirror : PySem.W.findIn K (.ref A.C_InvalidMirror) "value" = some none
  g_Taken : mg "Taken" = some (.ref A.C_Taken)
  X_Taken : OexC K A.C_Taken
  i_Taken : PySem.W.findIn K (.ref A.C_Taken) "__init__" = some (some (.ref A.f_SandError___init__))
  xf_Taken : XfC K A.C_Taken
  te_Taken : PySem.W.exmOne K (.ref A.C_Taken) (.ref A.C_Taken) = some true
  no_Taken : PySem.W.findIn K (.ref A.C_Taken) "value" = some none
  g_InvalidTurn : mg "InvalidTurn" = some (.ref A.C_InvalidTurn)
  X_InvalidTurn : OexC K A.C_InvalidTurn
  i_InvalidTurn : PySem.W.findIn K (.ref A.C_InvalidTurn) "__init__" = some (some (.ref A.f_SandError___init__))
  xf_InvalidTurn : XfC K A.C_InvalidTurn
  te_InvalidTurn : PySem.W.exmOne K (.ref A.C_InvalidTurn) (.ref A.C_InvalidTurn) = some true
  no_InvalidTurn : PySem.W.findIn K (.ref A.C_InvalidTurn) "value" = some none
  ti_init : PySem.W.typeIn K (.ref A.f_SandError___init__) = some (.type "function")
  g_Board : mg "Board" = some (.ref A.C_Board)
  M_Board : Mk K A.C_Board A.f_Board___init__
  cl_Board : Cls K A.C_Board
  i1_Board : PySem.W.findIn K (.ref A.C_Board) "__class__" = some (some (.builtin "object.__class__"))
  i2_Board : PySem.W.specialIn K (.builtin "object.__class__") "__get__" = some (some (.builtin "getset_descriptor.__get__"))
  i3_Board : PySem.W.takesIn K (.builtin "object.__class__") = some true
  i4_Board : PySem.W.mroIn K A.C_Board (.type "object") = some true
  na_Board_wide : NoAttr K A.C_Board "wide"
  na_Board_high : NoAttr K A.C_Board "high"
  na_Board_kinds : NoAttr K A.C_Board "kinds"
  m_Board_mirror_at : Meth K A.C_Board "mirror_at" A.f_Board_mirror_at
  m_Board___len__ : Meth K A.C_Board "__len__" A.f_Board___len__
  m_Board___eq__ : Meth K A.C_Board "__eq__" A.f_Board___eq__
  m_Board_turned : Meth K A.C_Board "turned" A.f_Board_turned
  pr_Board_width : PropOf K A.C_Board "width" A.p_Board_width A.f_Board_width
  pr_Board_height : PropOf K A.C_Board "height" A.p_Board_height A.f_Board_height
  pr_Board_mirrors : PropOf K A.C_Board "mirrors" A.p_Board_mirrors A.f_Board_mirrors
  g_KINDS : mg "KINDS" = some (.ref A.c_KINDS)
  q_KINDS : ∀ H : Hp, SqT K H A.c_KINDS [.str "-", .str "|"]
  g_WAYS : mg "WAYS" = some (.ref A.c_WAYS)
  q_WAYS : ∀ H : Hp, SqT K H A.c_WAYS [.str "same", .str "quarter", .str "half", .str "back", .str "flip", .str "mirror", .str "cross", .str "anti"]
  g_EXCHANGING : mg "EXCHANGING" = some (.ref A.c_EXCHANGING)
  q_EXCHANGING : ∀ H : Hp, SqT K H A.c_EXCHANGING [.str "quarter", .str "back", .str "cross", .str "anti"]
  n_len : mg "len" = none
  n_int : mg "int" = none
  n_abs : mg "abs" = none
  n_min : mg "min" = none
  n_range : mg "range" = none
  n_list : mg "list" = none
  n_isinstance : mg "isinstance" = none
  n_bool : mg "bool" = none
  n_str : mg "str" = none
  n_tuple : mg "tuple" = none
  n_sorted : mg "sorted" = none
/-! ### the hand: draws -/
def HandAt (H : Hp) (p c : Addr) (n : Nat) : Prop := ∃ (cs : List Int) (k : Nat) (t : Int), H p = some (.lst [.ref c, .int k, .int t]) ∧ H c = some (.lst (cs.map V.int)) ∧ c ≠ p ∧ (∀ x ∈ cs, 0 ≤ x) ∧ cs.length ≤ 63 ∧ k ≤ n
def Keep2 (p c : Addr) (H H' : Hp) : Prop := ∀ b o, H b = some o → b ≠ p → b ≠ c → H' b = some o
theorem HandAt.mono {H : Hp} {p c : Addr} {n m : Nat} (h : HandAt H p c n) (e : n ≤ m) : HandAt H p c m := by
  obtain ⟨cs, k, t, a, b, d, f, g, i⟩ := h
  exact ⟨cs, k, t, a, b, d, f, g, Nat.le_trans i e⟩
def spTake : Sp := fun vs H Q _ => ∃ (p c : Addr) (n : Nat) (lim : Int), vs = [.ref p, .int lim] ∧ HandAt H p c n ∧ n < 1000000000 ∧ 0 < lim ∧ lim < 1073741824 ∧
  ∀ (r : Int) (H' : Hp), 0 ≤ r → r < lim → HandAt H' p c (n + 1) → Keep2 p c H H' → Q (.int r) H'
section
variable {P : Program} {w : World} {K : PySem.W.Frag} {mg : Str → Option Value} {base : Heap} {A : Ad}
theorem mod_rng {a m : Int} (h : 0 < m) : 0 ≤ a % m ∧ a % m < m := ⟨Int.emod_nonneg a (by omega), Int.emod_lt_of_pos a h⟩
theorem at_mod {cs : List Int} {k : Int} (h : 0 < ((cs.map V.int).length : Int)) : ∃ (j : Nat) (z : Int), cs[j]? = some z ∧ j < cs.length ∧ ixN (cs.map V.int).length (k % ((cs.map V.int).length : Nat)) = some j ∧ atI (cs.map V.int) (k % ((cs.map V.int).length : Nat)) = some (V.int z) := by
  have r := mod_rng (a := k) h
  generalize hm : k % ((cs.map V.int).length : Nat) = m at r
  obtain ⟨r1, r2⟩ := r
  have hl : (cs.map V.int).length = cs.length := List.length_map ..
  have hj : m.toNat < cs.length := by omega
  have e : ixN (cs.map V.int).length m = some m.toNat := by
    unfold ixN
    rw [if_pos r1, if_pos r2]
  refine ⟨m.toNat, cs[m.toNat], List.getElem?_eq_getElem hj, hj, e, ?_⟩
  unfold atI
  rw [e]
  simp [hj]
theorem hand_set {cs : List Int} {j : Nat} {z : Int} (h : ∀ x ∈ cs, (0 : Int) ≤ x) (hz : 0 ≤ z) : ∀ x ∈ cs.set j z, (0 : Int) ≤ x := by
  intro x hx
  rcases List.mem_or_eq_of_mem_set hx with hx | hx
  · exact h x hx
  · omega
theorem ok__law_take (T : Txt K mg A) : FnOk P w K mg base CX0 1 A.f__law_take A.d__law_take P__law_take spTake := by
  refine T.F__law_take.ok sc__law_take (fun vs H Q E h => ?_) (fun cdv A' outer s H vs Q E hr h => ?_)
  · obtain ⟨p, c, n, lim, rfl, _⟩ := h
    rfl
  · obtain ⟨p, c, n, lim, rfl, ⟨cs, k, t, hp, hc, hcp, hpos, hlen, hk⟩, hn, hl0, hl1, kk⟩ := h
    refine ⟨_, (pss_cons (ps_set (i := 2) sc__law_take.nd rfl (Or.inl rfl) (pe_ix ix_list (pv 0) pe_int (fun _ _ => rfl)))
(pss_cons (ps_set (i := 3) sc__law_take.nd rfl (Or.inl rfl) (pe_ix ix_list (pv 0) pe_int (fun _ _ => rfl)))
(pss_cons (ps_asg (pe_op op_add (pv 3) pe_int) (pg_sub (pv 0) pe_int set_list))
(pss_cons (ps_set (i := 4) sc__law_take.nd rfl (Or.inl rfl) pe_int)
(pss_cons (ps_if (pt_cmpR op_gt (pe_callB c_len (by rfl) T.n_len (by decide +kernel) (pa_cons (pv 2) pa_nil)) pe_int (nomark _))
(pss_cons (ps_set (i := 5) sc__law_take.nd rfl (Or.inl rfl) (pe_op op_mod (pv 3) (pe_callB c_len (by rfl) T.n_len (by decide +kernel) (pa_cons (pv 2) pa_nil))))
(pss_cons (ps_set (i := 4) sc__law_take.nd rfl (Or.inl rfl) (pe_ix ix_list (pv 2) (pv 5) (fun _ _ => rfl)))
(pss_one (ps_if (pt_cmpR op_ge (pv 4) (pe_op op_pow pe_int pe_int) (nomark _))
(pss_cons (ps_asg (pe_op op_fdiv (pv 4) (pv 1)) (pg_sub (pv 2) (pv 5) set_list))
(pss_one (ps_ret (pe_op op_mod (pe_callTy c_int (by rfl) T.n_int (by decide +kernel) (pa_cons (pv 4) pa_nil)) (pv 1)))))
pss_nil))))
pss_nil)
(pss_cons (ps_set (i := 6) sc__law_take.nd rfl (Or.inl rfl) (pe_op op_mul (pe_op op_mod (pv 4) pe_int) (pe_op op_add (pe_op op_add (pe_op op_mul (pv 3) (pv 3)) (pe_op op_mul pe_int (pv 3))) pe_int)))
(pss_cons (ps_set (i := 6) sc__law_take.nd rfl (Or.inl rfl) (pe_op op_add (pe_op op_add (pe_op op_add (pv 6) (pe_op op_fdiv (pv 4) pe_int)) (pe_op op_mul (pv 3) pe_int)) (pe_ix ix_list (pv 0) pe_int (fun _ _ => rfl))))
(pss_cons (ps_set (i := 6) sc__law_take.nd rfl (Or.inl rfl) (pe_op op_mod (pe_callTy c_int (by rfl) T.n_int (by decide +kernel) (pa_cons (pv 6) pa_nil)) pe_int))
(pss_cons (ps_set (i := 6) sc__law_take.nd rfl (Or.inl rfl) (pe_op op_mod (pe_callTy c_int (by rfl) T.n_int (by decide +kernel) (pa_cons (pe_op op_add (pe_op op_add (pe_op op_mul (pv 6) (pv 6)) (pe_op op_mul pe_int (pv 6))) (pv 3)) pa_nil)) pe_int))
(pss_one (ps_ret (pe_op op_mod (pe_op op_fdiv (pv 6) pe_int) (pv 1))))))))))))), ?_⟩
    have hpc : p ≠ c := hcp.symm
    have rng : ∀ a : Int, 0 ≤ a % lim ∧ a % lim < lim := fun a => mod_rng hl0
    have r1 : ∀ a : Int, 0 ≤ a % 2147483629 ∧ a % 2147483629 < 2147483629 := fun a => mod_rng (by decide)
    walk_at "rs"
    refine r_ite (fun h0 => ?_) (fun h0 => ?_)
    · obtain ⟨j, z, hz, hjl, e1, e2⟩ := at_mod (cs := cs) (k := (k : Int)) h0
      have hz0 : 0 ≤ z := hpos z (List.mem_of_getElem? hz)
      walk_at "rs"
      refine r_ite (fun h1 => ?_) (fun h1 => ?_)
      · walk_at "rs"
        refine kk _ _ (rng z).1 (rng z).2 ⟨cs.set j (z / lim), k + 1, t, ?_, ?_, hcp, hand_set hpos (Int.ediv_nonneg hz0 (by omega)), by simpa using hlen, by omega⟩ ?_
        · walk_at "hl"
        · rw [upd_same, List.map_set]
        · intro b o hb hbp hbc
          rw [upd_ne hbc, upd_ne hbp]
          exact hb
      · have hm1 := r1 0
        have hmm : 0 ≤ z % 1000000007 ∧ z % 1000000007 < 1000000007 := mod_rng (by decide)
        walk_at "rs"
        refine kk _ _ (rng _).1 (rng _).2 ⟨cs, k + 1, t, by walk_at "hl", by walk_at "hl", hcp, hpos, hlen, by omega⟩ ?_
        intro b o hb hbp hbc
        rw [upd_ne hbp]
        exact hb
    · walk_at "rs"
      refine kk _ _ (rng _).1 (rng _).2 ⟨cs, k + 1, t, by walk_at "hl", by walk_at "hl", hcp, hpos, hlen, by omega⟩ ?_
      intro b o hb hbp hbc
      rw [upd_ne hbp]
      exact hb
end
/-! ### further draws -/
theorem Keep2.refl {p c : Addr} {H : Hp} : Keep2 p c H H := fun _ _ h _ _ => h
theorem Keep2.trans {p c : Addr} {H H1 H2 : Hp} (a : Keep2 p c H H1) (b : Keep2 p c H1 H2) : Keep2 p c H H2 := fun x o h h1 h2 => b x o (a x o h h1 h2) h1 h2
theorem Keep2.new {p c q : Addr} {H : Hp} {o : HO} (h : H q = none) : Keep2 p c H (upd H q o) := fun x u e _ _ => by
  rw [upd_ne (ne_of_none e h)]
  exact e
theorem HandAt.new {p c q : Addr} {H : Hp} {n : Nat} {o : HO} (hh : HandAt H p c n) (h : H q = none) : HandAt (upd H q o) p c n := by
  obtain ⟨cs, k, t, a, b, d, f, g, i⟩ := hh
  exact ⟨cs, k, t, by rw [upd_ne (ne_of_none a h)]; exact a, by rw [upd_ne (ne_of_none b h)]; exact b, d, f, g, i⟩
theorem HandAt.p {p c : Addr} {H : Hp} {n : Nat} (hh : HandAt H p c n) : ∃ xs, H p = some (.lst xs) := by
  obtain ⟨cs, k, t, a, _⟩ := hh
  exact ⟨_, a⟩
theorem HandAt.c {p c : Addr} {H : Hp} {n : Nat} (hh : HandAt H p c n) : ∃ xs, H c = some (.lst xs) := by
  obtain ⟨cs, k, t, _, a, _⟩ := hh
  exact ⟨_, a⟩
theorem Keep2.free {p c q : Addr} {H H' : Hp} {n : Nat} (kp : Keep2 p c H H') (hh : HandAt H' p c n) (h : H' q = none) : H q = none := by
  cases e : H q with
  | none => rfl
  | some o =>
    obtain ⟨_, e1⟩ := hh.p
    obtain ⟨_, e2⟩ := hh.c
    have h1 := (ne_of_none e1 h).symm
    have h2 := (ne_of_none e2 h).symm
    rw [kp q o e h1 h2] at h
    cases h
theorem Keep2.tup {p c q : Addr} {H H' : Hp} {n : Nat} {xs : List V} (kp : Keep2 p c H H') (hh : HandAt H p c n) (h : H q = some (.tup xs)) : H' q = some (.tup xs) := by
  obtain ⟨_, e1⟩ := hh.p
  obtain ⟨_, e2⟩ := hh.c
  exact kp q _ h (ne_of h e1 (fun z => nomatch z)) (ne_of h e2 (fun z => nomatch z))
def spBig : Sp := fun vs H Q _ => ∃ (p c : Addr) (n : Nat) (lim : Int), vs = [.ref p, .int lim] ∧ HandAt H p c n ∧ n < 990000000 ∧ 0 < lim ∧
  ∀ (r : Int) (H' : Hp), 0 ≤ r → r < lim → HandAt H' p c (n + 4) → Keep2 p c H H' → Q (.int r) H'
def spSizes : Sp := fun vs H Q _ => ∃ (p c : Addr) (n : Nat) (most : Int), vs = [.ref p, .int most] ∧ HandAt H p c n ∧ n < 900000000 ∧ 0 < most ∧ most < 1000000 ∧
  ∀ (a b : Int) (q : Addr) (H' : Hp), 0 < a → 0 < b → a * b ≤ most → H q = none → H' q = some (.tup [.int a, .int b]) → HandAt H' p c (n + 3) → Keep2 p c H H' → Q (.ref q) H'
/-- an inside point -/
def Ins (w h x y : Int) : Prop := 0 < x ∧ x < 2 * w ∧ 0 < y ∧ y < 2 * h ∧ (x + y) % 2 = 1
def spSpot : Sp := fun vs H Q _ => ∃ (p c : Addr) (n : Nat) (w h : Int), vs = [.ref p, .int w, .int h] ∧ HandAt H p c n ∧ n < 900000000 ∧ 0 < w ∧ 0 < h ∧ (1 < w ∨ 1 < h) ∧
  ∀ (x y : Int) (q : Addr) (H' : Hp), Ins w h x y → H q = none → H' q = some (.tup [.int x, .int y]) → HandAt H' p c (n + 9) → Keep2 p c H H' → Q (.ref q) H'
section
variable {P : Program} {w : World} {K : PySem.W.Frag} {mg : Str → Option Value} {base : Heap} {A : Ad}
theorem ok__law_big (T : Txt K mg A) : FnOk P w K mg base CX0 2 A.f__law_big A.d__law_big P__law_big spBig := by
  have G__law_take := ok__law_take (P := P) (w := w) (base := base) T
  refine T.F__law_big.ok sc__law_big (fun vs H Q E h => ?_) (fun cdv A' outer s H vs Q E hr h => ?_)
  · obtain ⟨p, c, n, lim, rfl, _⟩ := h
    rfl
  · obtain ⟨p, c, n, lim, rfl, hh, hn, hl0, kk⟩ := h
    refine ⟨_, (pss_cons (ps_set (i := 2) sc__law_big.nd rfl (Or.inl rfl) pe_int)
(pss_cons (ps_for PassesOwn.never rfl (pi_range1 (by rfl) T.n_range (pa_cons pe_int pa_nil)) (pg_name (i := 3) sc__law_big.nd rfl (Or.inl rfl))
(pss_one (ps_set (i := 2) sc__law_big.nd rfl (Or.inl rfl) (pe_op op_add (pe_op op_mul (pv 2) pe_int) (pe_call G__law_take (hr.mono (by first | decide | omega)) rfl T.g__law_take T.k__law_take T.b__law_take .nil pass0 (pa_cons (pv 0) (pa_cons pe_int pa_nil)))))))
(pss_one (ps_ret (pe_op op_mod (pe_callTy c_int (by rfl) T.n_int (by decide +kernel) (pa_cons (pv 2) pa_nil)) (pv 1)))))), ?_⟩
    walk_at "rs"
    refine ⟨4, rfl, by decide, by decide, for_range (n := 4) (fun i σ H1 => ∃ (num : Int) (v : Option V), σ = [some (.ref p), some (.int lim), some (.int num), v] ∧ HandAt H1 p c (n + i) ∧ Keep2 p c H H1)
      ⟨0, none, rfl, hh, Keep2.refl⟩ ?_ ?_⟩
    · rintro i σ H1 hi ⟨num, v, rfl, hh1, kp⟩
      walk_at "rs"
      refine ⟨p, c, n + i, _, rfl, hh1, by omega, by decide, by decide, fun r H2 r0 r1 hh2 kp2 => ?_⟩
      walk_at "rs"
      exact ⟨_, _, rfl, hh2, kp.trans kp2⟩
    · rintro σ H1 ⟨num, v, rfl, hh1, kp⟩
      walk_at "rs"
      exact kk _ _ (mod_rng hl0).1 (mod_rng hl0).2 hh1 kp
theorem ok__law_sizes (T : Txt K mg A) : FnOk P w K mg base CX0 2 A.f__law_sizes A.d__law_sizes P__law_sizes spSizes := by
  have G__law_take := ok__law_take (P := P) (w := w) (base := base) T
  refine T.F__law_sizes.ok sc__law_sizes (fun vs H Q E h => ?_) (fun cdv A' outer s H vs Q E hr h => ?_)
  · obtain ⟨p, c, n, most, rfl, _⟩ := h
    rfl
  · obtain ⟨p, c, n, most, rfl, hh, hn, hl0, hl1, kk⟩ := h
    refine ⟨_, (pss_cons (ps_set (i := 2) sc__law_sizes.nd rfl (Or.inl rfl) (pe_op op_add pe_int (pe_call G__law_take (hr.mono (by first | decide | omega)) rfl T.g__law_take T.k__law_take T.b__law_take .nil pass0 (pa_cons (pv 0) (pa_cons (pe_callB (c_min rfl) (by rfl) T.n_min (by decide +kernel) (pa_cons pe_int (pa_cons (pv 1) pa_nil))) pa_nil)))))
(pss_cons (ps_set (i := 3) sc__law_sizes.nd rfl (Or.inl rfl) (pe_op op_add pe_int (pe_call G__law_take (hr.mono (by first | decide | omega)) rfl T.g__law_take T.k__law_take T.b__law_take .nil pass0 (pa_cons (pv 0) (pa_cons (pe_op op_fdiv (pv 1) (pv 2)) pa_nil)))))
(pss_cons (ps_if (pt_cmpR op_eq (pe_call G__law_take (hr.mono (by first | decide | omega)) rfl T.g__law_take T.k__law_take T.b__law_take .nil pass0 (pa_cons (pv 0) (pa_cons pe_int pa_nil))) pe_int (nomark _))
(pss_one (ps_ret (pe_tup (pa_cons (pv 2) (pa_cons (pv 3) pa_nil)))))
pss_nil)
(pss_one (ps_ret (pe_tup (pa_cons (pv 3) (pa_cons (pv 2) pa_nil)))))))), ?_⟩
    walk_at "rs"
    refine ⟨p, c, n, _, rfl, hh, by omega, by split <;> omega, by split <;> omega, fun a H1 a0 a1 hh1 kp1 => ?_⟩
    have ha : 1 + a ≤ most := by split at a1 <;> omega
    have hd : 1 ≤ most / (1 + a) := Int.le_ediv_of_mul_le (by omega) (by omega)
    have hd2 : most / (1 + a) ≤ most := Int.ediv_le_self _ (by omega)
    have hd3 : (1 + a) * (most / (1 + a)) ≤ most := Int.mul_ediv_self_le (by omega)
    walk_at "rs"
    refine ⟨p, c, n + 1, _, rfl, hh1, by omega, by omega, by omega, fun b H2 b0 b1 hh2 kp2 => ?_⟩
    have hb : (1 + a) * (1 + b) ≤ most := Int.le_trans (Int.mul_le_mul_of_nonneg_left (by omega) (by omega)) hd3
    walk_at "rs"
    refine ⟨p, c, n + 2, _, rfl, hh2, by omega, by decide, by decide, fun r H3 r0 r1 hh3 kp3 => ?_⟩
    have kp := (kp1.trans kp2).trans kp3
    walk_at "rs"
    refine r_ite (fun _ => ?_) (fun _ => ?_)
    · walk_at "rs"
      intro q hq
      exact kk _ _ q _ (by omega) (by omega) hb (kp.free hh3 hq) upd_same (hh3.new hq) (kp.trans (Keep2.new hq))
    · walk_at "rs"
      intro q hq
      exact kk _ _ q _ (by omega) (by omega) (by rw [Int.mul_comm]; exact hb) (kp.free hh3 hq) upd_same (hh3.new hq) (kp.trans (Keep2.new hq))
theorem ok__law_spot (T : Txt K mg A) : FnOk P w K mg base CX0 3 A.f__law_spot A.d__law_spot P__law_spot spSpot := by
  have G__law_take := ok__law_take (P := P) (w := w) (base := base) T
  have G__law_big := ok__law_big (P := P) (w := w) (base := base) T
  refine T.F__law_spot.ok sc__law_spot (fun vs H Q E h => ?_) (fun cdv A' outer s H vs Q E hr h => ?_)
  · obtain ⟨p, c, n, w', h', rfl, _⟩ := h
    rfl
  · obtain ⟨p, c, n, w', h', rfl, hh, hn, hw, hh', hwh, kk⟩ := h
    refine ⟨_, (pss_cons (ps_set (i := 3) sc__law_spot.nd rfl (Or.inl rfl) (pe_and (pe_cmpR op_gt (pv 1) pe_int (nomark _)) (pe_one (pe_or (pe_cmpR op_eq (pv 2) pe_int (nomark _)) (pe_one (pe_cmpR op_eq (pe_call G__law_take (hr.mono (by first | decide | omega)) rfl T.g__law_take T.k__law_take T.b__law_take .nil pass0 (pa_cons (pv 0) (pa_cons pe_int pa_nil))) pe_int (nomark _)))))))
(pss_cons (ps_if (pt_val (pv 3))
(pss_one (ps_ret (pe_tup (pa_cons (pe_op op_add pe_int (pe_op op_mul pe_int (pe_call G__law_big (hr.mono (by first | decide | omega)) rfl T.g__law_big T.k__law_big T.b__law_big .nil pass0 (pa_cons (pv 0) (pa_cons (pe_op op_sub (pv 1) pe_int) pa_nil))))) (pa_cons (pe_op op_add pe_int (pe_op op_mul pe_int (pe_call G__law_big (hr.mono (by first | decide | omega)) rfl T.g__law_big T.k__law_big T.b__law_big .nil pass0 (pa_cons (pv 0) (pa_cons (pv 2) pa_nil))))) pa_nil)))))
pss_nil)
(pss_one (ps_ret (pe_tup (pa_cons (pe_op op_add pe_int (pe_op op_mul pe_int (pe_call G__law_big (hr.mono (by first | decide | omega)) rfl T.g__law_big T.k__law_big T.b__law_big .nil pass0 (pa_cons (pv 0) (pa_cons (pv 1) pa_nil))))) (pa_cons (pe_op op_add pe_int (pe_op op_mul pe_int (pe_call G__law_big (hr.mono (by first | decide | omega)) rfl T.g__law_big T.k__law_big T.b__law_big .nil pass0 (pa_cons (pv 0) (pa_cons (pe_op op_sub (pv 2) pe_int) pa_nil))))) pa_nil))))))), ?_⟩
    have fin : ∀ (x y : Int) (H1 : Hp) (m : Nat), Ins w' h' x y → HandAt H1 p c m → m ≤ n + 9 → Keep2 p c H H1 → ∀ q, H1 q = none → Q (.ref q) (upd H1 q (.tup [.int x, .int y])) := fun x y H1 m hi hh1 hm kp q hq =>
      kk x y q _ hi (kp.free hh1 hq) upd_same ((hh1.new hq).mono hm) (kp.trans (Keep2.new hq))
    walk_at "rs"
    refine r_ite (fun c1 => ?_) (fun c1 => ?_)
    · walk_at "rs"
      refine r_ite (fun c2 => ?_) (fun c2 => ?_)
      · walk_at "rs"
        refine ⟨p, c, n, _, rfl, hh, by omega, by omega, fun a H1 a0 a1 hh1 kp1 => ?_⟩
        walk_at "rs"
        refine ⟨p, c, n + 4, _, rfl, hh1, by omega, by omega, fun b H2 b0 b1 hh2 kp2 => ?_⟩
        walk_at "rs"
        exact fin _ _ _ _ ⟨by omega, by omega, by omega, by omega, by omega⟩ hh2 (by omega) (kp1.trans kp2)
      · have c3 : h' ≠ 1 := fun e => c2 (by rw [e])
        walk_at "rs"
        refine ⟨p, c, n, _, rfl, hh, by omega, by decide, by decide, fun r H0 r0 r1 hh0 kp0 => ?_⟩
        walk_at "rs"
        refine r_ite (fun c4 => ?_) (fun c4 => ?_)
        · walk_at "rs"
          refine ⟨p, c, n + 1, _, rfl, hh0, by omega, by omega, fun a H1 a0 a1 hh1 kp1 => ?_⟩
          walk_at "rs"
          refine ⟨p, c, n + 5, _, rfl, hh1, by omega, by omega, fun b H2 b0 b1 hh2 kp2 => ?_⟩
          walk_at "rs"
          exact fin _ _ _ _ ⟨by omega, by omega, by omega, by omega, by omega⟩ hh2 (by omega) ((kp0.trans kp1).trans kp2)
        · walk_at "rs"
          refine ⟨p, c, n + 1, _, rfl, hh0, by omega, by omega, fun a H1 a0 a1 hh1 kp1 => ?_⟩
          walk_at "rs"
          refine ⟨p, c, n + 5, _, rfl, hh1, by omega, by omega, fun b H2 b0 b1 hh2 kp2 => ?_⟩
          walk_at "rs"
          exact fin _ _ _ _ ⟨by omega, by omega, by omega, by omega, by omega⟩ hh2 (by omega) ((kp0.trans kp1).trans kp2)
    · walk_at "rs"
      refine ⟨p, c, n, _, rfl, hh, by omega, by omega, fun a H1 a0 a1 hh1 kp1 => ?_⟩
      walk_at "rs"
      refine ⟨p, c, n + 4, _, rfl, hh1, by omega, by omega, fun b H2 b0 b1 hh2 kp2 => ?_⟩
      walk_at "rs"
      exact fin _ _ _ _ ⟨by omega, by omega, by omega, by omega, by omega⟩ hh2 (by omega) (kp1.trans kp2)
end
/-! ### lists of tuples -/
abbrev TupsAt (H : Hp) (as : List Addr) (ds : List (List V)) : Prop := Paired (fun a xs => H a = some (.tup xs)) as ds
theorem TupsAt.keep {H H' : Hp} {as : List Addr} {ds : List (List V)} (t : TupsAt H as ds) (k : ∀ b xs, H b = some (.tup xs) → H' b = some (.tup xs)) : TupsAt H' as ds := Paired.mono (fun a xs h => k a xs h) t
theorem TupsAt.get {H : Hp} : ∀ {as : List Addr} {ds : List (List V)} {i : Nat} {x : V}, TupsAt H as ds → (as.map V.ref)[i]? = some x → ∃ a xs, x = .ref a ∧ as[i]? = some a ∧ ds[i]? = some xs ∧ H a = some (.tup xs)
  | _, _, i, x, .nil, e => by simp at e
  | _, _, 0, x, .cons h t, e => by
    simp at e
    exact ⟨_, _, e.symm, rfl, rfl, h⟩
  | _, _, i + 1, x, .cons h t, e => by
    obtain ⟨a, xs, e1, e2, e3, e4⟩ := TupsAt.get (i := i) (x := x) t (by simpa using e)
    exact ⟨a, xs, e1, by simpa using e2, by simpa using e3, e4⟩
theorem TupsAt.get2 {H : Hp} : ∀ {as : List Addr} {ds : List (List V)} {i : Nat} {xs : List V}, TupsAt H as ds → ds[i]? = some xs → ∃ a, (as.map V.ref)[i]? = some (.ref a) ∧ H a = some (.tup xs)
  | _, _, i, x, .nil, e => by simp at e
  | _, _, 0, x, .cons h t, e => by
    simp at e
    subst e
    exact ⟨_, rfl, h⟩
  | _, _, i + 1, x, .cons h t, e => by
    obtain ⟨a, e1, e4⟩ := TupsAt.get2 (i := i) (xs := x) t (by simpa using e)
    exact ⟨a, by simpa using e1, e4⟩
theorem Paired.takeD {α β : Type} {F : α → β → Prop} : ∀ {l₁ : List α} {l₂ : List β} (n : Nat), Paired F l₁ l₂ → Paired F (l₁.take n) (l₂.take n)
  | _, _, 0, _ => by simp; exact .nil
  | _, _, n + 1, .nil => .nil
  | _, _, n + 1, .cons h t => .cons h (Paired.takeD n t)
theorem Paired.dropD {α β : Type} {F : α → β → Prop} : ∀ {l₁ : List α} {l₂ : List β} (n : Nat), Paired F l₁ l₂ → Paired F (l₁.drop n) (l₂.drop n)
  | _, _, 0, h => h
  | _, _, n + 1, .nil => .nil
  | _, _, n + 1, .cons h t => Paired.dropD n t
theorem Paired.app {α β : Type} {F : α → β → Prop} : ∀ {l₁ m₁ : List α} {l₂ m₂ : List β}, Paired F l₁ l₂ → Paired F m₁ m₂ → Paired F (l₁ ++ m₁) (l₂ ++ m₂)
  | _, _, _, _, .nil, h => h
  | _, _, _, _, .cons h t, s => .cons h (Paired.app t s)
abbrev ptV (z : Int × Int) : List V := [.int z.1, .int z.2]
/-- a list of places at l -/
def PtsAt (H : Hp) (l : Addr) (ps : List (Int × Int)) : Prop := ∃ as, H l = some (.lst (as.map V.ref)) ∧ TupsAt H as (ps.map ptV)
theorem PtsAt.len {H : Hp} {l : Addr} {ps : List (Int × Int)} (h : PtsAt H l ps) : ∃ xs, H l = some (.lst xs) ∧ xs.length = ps.length := by
  obtain ⟨as, e, t⟩ := h
  exact ⟨_, e, by rw [List.length_map, Paired.length t, List.length_map]⟩
theorem PtsAt.snoc {H : Hp} {l q : Addr} {ps : List (Int × Int)} {x y : Int} {as : List Addr} (e : H l = some (.lst (as.map V.ref))) (t : TupsAt H as (ps.map ptV)) (hq : H q = none) :
    PtsAt (upd (upd H q (.tup [.int x, .int y])) l (.lst (as.map V.ref ++ [.ref q]))) l (ps ++ [(x, y)]) := by
  have hlq : l ≠ q := ne_of_none e hq
  have htl : ∀ b xs, H b = some (.tup xs) → b ≠ l := fun b xs h => ne_of h e (fun z => nomatch z)
  refine ⟨as ++ [q], by rw [upd_same, List.map_append]; rfl, ?_⟩
  rw [List.map_append]
  refine Paired.snoc (t.keep fun b xs h => ?_) ?_
  · rw [upd_ne (htl b xs h), upd_ne (ne_of_none h hq)]
    exact h
  · rw [upd_ne hlq.symm, upd_same]
theorem rangeC2 {lo hi : Int} (h0 : 0 ≤ lo) (h1 : lo ≤ 10) (h2 : 0 ≤ hi) (h3 : hi ≤ 1000000) : RgC lo hi 2 ((hi - lo + 1) / 2).toNat := by
  refine ⟨by decide, by decide, ?_, ?_⟩
  · unfold Builtin.Range.small Builtin.Range.rangeSize
    simp only [Builtin.Range.rangeFitsLong, Bool.and_eq_true, Bool.or_eq_true, decide_eq_true_eq, beq_iff_eq, show ((2 : Int) > 0) by decide, if_true]
    split <;> omega
  · unfold Builtin.Range.rangeSize
    simp only [show ((2 : Int) > 0) by decide, if_true]
    split <;> omega
def spPoints : Sp := fun vs H Q _ => ∃ (w h : Int), vs = [.int w, .int h] ∧ 0 < w ∧ 0 < h ∧ w * h ≤ 400 ∧
  ∀ (ps : List (Int × Int)) (l : Addr) (H' : Hp), (∀ z ∈ ps, Ins w h z.1 z.2) → ps.Nodup → (ps.length : Int) ≤ 2 * (w * h) → H l = none → PtsAt H' l ps → Same H H' → Q (.ref l) H'
theorem prod_le {w h b : Int} (hw : 0 < w) (hh : 0 < h) (hb : w * h ≤ b) : w ≤ b ∧ h ≤ b := by
  have e1 : w * 1 ≤ w * h := Int.mul_le_mul_of_nonneg_left (by omega) (by omega)
  have e2 : 1 * h ≤ w * h := Int.mul_le_mul_of_nonneg_right (by omega) (by omega)
  omega
section
variable {P : Program} {w : World} {K : PySem.W.Frag} {mg : Str → Option Value} {base : Heap} {A : Ad}
theorem ok__law_points (T : Txt K mg A) : FnOk P w K mg base CX0 1 A.f__law_points A.d__law_points P__law_points spPoints := by
  refine T.F__law_points.ok sc__law_points (fun vs H Q E h => ?_) (fun cdv A' outer s H vs Q E hr h => ?_)
  · obtain ⟨w', h', rfl, _⟩ := h
    rfl
  · obtain ⟨w', h', rfl, hw, hh, hb, kk⟩ := h
    obtain ⟨bw, bh⟩ := prod_le hw hh hb
    refine ⟨_, (pss_cons (ps_set (i := 2) sc__law_points.nd rfl (Or.inl rfl) (pe_lst pa_nil))
(pss_cons (ps_for PassesOwn.never rfl (pi_range2 (by rfl) T.n_range (pa_cons pe_int (pa_cons (pe_op op_mul pe_int (pv 1)) pa_nil))) (pg_name (i := 3) sc__law_points.nd rfl (Or.inl rfl))
(pss_one (ps_for PassesOwn.never rfl (pi_range3 (by rfl) T.n_range (pa_cons (pe_op op_add pe_int (pe_op op_mod (pv 3) pe_int)) (pa_cons (pe_op op_mul pe_int (pv 0)) (pa_cons pe_int pa_nil)))) (pg_name (i := 4) sc__law_points.nd rfl (Or.inl rfl))
(pss_one (ps_expr (pe_bm PySem.F.plainAttrs_list PySem.F.slot_list_append PySem.F.type_list_append mt_append (pv 2) (pa_cons (pe_tup (pa_cons (pv 4) (pa_cons (pv 3) pa_nil))) pa_nil)))))))
(pss_one (ps_ret (pv 2))))), ?_⟩
    walk_at "rs"
    intro l hl
    walk_at "rs"
    refine ⟨1, 2 * h', rfl, ⟨by omega, by omega, by omega, by omega⟩, for_range (lo := 1) (n := (2 * h' - 1).toNat) (fun i σ H1 => ∃ (ps : List (Int × Int)) (as : List Addr) (v1 v2 : Option V), σ = [some (.int w'), some (.int h'), some (.ref l), v1, v2] ∧
      H1 l = some (.lst (as.map V.ref)) ∧ TupsAt H1 as (ps.map ptV) ∧ (∀ z ∈ ps, Ins w' h' z.1 z.2 ∧ z.2 < 1 + (i : Int)) ∧ ps.Nodup ∧ (ps.length : Int) ≤ i * w' ∧ Same H H1) ?_ ?_ ?_⟩
    · exact ⟨[], [], none, none, rfl, upd_same, .nil, fun z hz => by simp at hz, List.nodup_nil, by simp, Same.new hl⟩
    · rintro i σ H1 hi ⟨ps, as, v1, v2, rfl, hl1, tt, hin, hnd, hlen, hs⟩
      have hi1 : (i : Int) * w' ≤ (2 * h' - 1) * w' := Int.mul_le_mul_of_nonneg_right (by omega) (by omega)
      have hi2 : (2 * h' - 1) * w' + w' = 2 * (w' * h') := by rw [Int.sub_mul, Int.one_mul, Int.mul_assoc, Int.mul_comm h' w']; omega
      have hi3 : ((i + 1 : Nat) : Int) * w' = i * w' + w' := by rw [Int.natCast_add, Int.add_mul]; simp
      have y0 : 0 ≤ (1 + (i : Int)) % 2 ∧ (1 + (i : Int)) % 2 < 2 := mod_rng (by decide)
      walk_at "rs"
      refine ⟨_, _, _, _, rfl, rangeC2 (by omega) (by omega) (by omega) (by omega), for_rangeC (lo := 1 + (1 + (i : Int)) % 2) (c := 2) (n := ((2 * w' - (1 + (1 + (i : Int)) % 2) + 1) / 2).toNat)
        (fun j σ H2 => ∃ (ps : List (Int × Int)) (as : List Addr) (v2 : Option V), σ = [some (.int w'), some (.int h'), some (.ref l), some (.int (1 + i)), v2] ∧
          H2 l = some (.lst (as.map V.ref)) ∧ TupsAt H2 as (ps.map ptV) ∧ (∀ z ∈ ps, Ins w' h' z.1 z.2 ∧ (z.2 < 1 + (i : Int) ∨ z.2 = 1 + (i : Int) ∧ z.1 < 1 + (1 + (i : Int)) % 2 + j * 2)) ∧ ps.Nodup ∧ (ps.length : Int) ≤ i * w' + j ∧ Same H H2) ?_ ?_ ?_⟩
      · exact ⟨ps, as, v2, rfl, hl1, tt, fun z hz => ⟨(hin z hz).1, .inl (hin z hz).2⟩, hnd, by simpa using hlen, hs⟩
      · rintro j σ H2 hj ⟨ps, as, v2, rfl, hl2, tt, hin, hnd, hlen, hs⟩
        have hlas : as.length = ps.length := by rw [Paired.length tt, List.length_map]
        walk_at "rs"
        intro q hq
        have sn := PtsAt.snoc (x := 1 + (1 + (i : Int)) % 2 + (j : Int) * 2) (y := 1 + (i : Int)) hl2 tt hq
        obtain ⟨as', e1, e2⟩ := sn
        have hlz : (as.map V.ref).length < 1000 := by rw [List.length_map]; omega
        walk_at "rs"
        refine ⟨ps ++ [(1 + (1 + (i : Int)) % 2 + (j : Int) * 2, 1 + (i : Int))], as', _, rfl, e1, e2, ?_, ?_, by simp; omega, (hs.trans (Same.new hq)).mut hl⟩
        · intro z hz
          rcases List.mem_append.mp hz with hz | hz
          · obtain ⟨h1, h2⟩ := hin z hz
            exact ⟨h1, by omega⟩
          · rw [List.mem_singleton] at hz
            subst hz
            exact ⟨⟨by omega, by omega, by omega, by omega, by omega⟩, .inr ⟨rfl, by simp; omega⟩⟩
        · rw [List.nodup_append]
          refine ⟨hnd, by simp, fun a ha b hb => ?_⟩
          rw [List.mem_singleton] at hb
          subst hb
          intro e
          subst e
          have h2 := (hin _ ha).2
          simp at h2
      · rintro σ H2 ⟨ps, as, v2, rfl, hl2, tt, hin, hnd, hlen, hs⟩
        exact ⟨ps, as, _, _, rfl, hl2, tt, fun z hz => ⟨(hin z hz).1, by have := (hin z hz).2; omega⟩, hnd, by omega, hs⟩
    · rintro σ H1 ⟨ps, as, v1, v2, rfl, hl1, tt, hin, hnd, hlen, hs⟩
      walk_at "rs"
      have hi1 : (((2 * h' - 1).toNat : Nat) : Int) * w' ≤ (2 * h') * w' := Int.mul_le_mul_of_nonneg_right (by omega) (by omega)
      refine kk ps l H1 (fun z hz => (hin z hz).1) hnd ?_ hl ⟨as, hl1, tt⟩ hs
      rw [Int.mul_assoc, Int.mul_comm h' w'] at hi1
      omega
end
/-! ### mirrors -/
abbrev Mir := Int × Int × Str
abbrev mV (m : Mir) : List V := [.int m.1, .int m.2.1, .str m.2.2]
abbrev mK (m : Mir) : Int × Int := (m.1, m.2.1)
def KindOk (k : Str) : Prop := k = ("-" : Str) ∨ k = ("|" : Str)
def MsAt (H : Hp) (l : Addr) (ms : List Mir) : Prop := ∃ as, H l = some (.lst (as.map V.ref)) ∧ TupsAt H as (ms.map mV)
/-- good mirrors of a board -/
structure GoodMs (w h : Int) (ms : List Mir) : Prop where
  ins : ∀ m ∈ ms, Ins w h m.1 m.2.1
  kind : ∀ m ∈ ms, KindOk m.2.2
  nd : (ms.map mK).Nodup
theorem ins_perm {α : Type} (xs : List α) (k : Nat) (y : α) : (xs.take k ++ [y] ++ xs.drop k).Perm (y :: xs) := by
  have e : xs = xs.take k ++ xs.drop k := (List.take_append_drop k xs).symm
  refine List.Perm.trans (List.Perm.append_right _ List.perm_append_comm) ?_
  show ([y] ++ xs.take k ++ xs.drop k).Perm (y :: xs)
  rw [List.append_assoc, ← e]
  exact List.Perm.refl _
theorem GoodMs.ins1 {w h : Int} {ms : List Mir} (g : GoodMs w h ms) {m : Mir} (k : Nat) (hi : Ins w h m.1 m.2.1) (hk : KindOk m.2.2) (hn : mK m ∉ ms.map mK) : GoodMs w h (ms.take k ++ [m] ++ ms.drop k) := by
  have pm := ins_perm ms k m
  refine ⟨fun z hz => ?_, fun z hz => ?_, ?_⟩
  · rcases List.mem_cons.mp (pm.mem_iff.mp hz) with e | hz
    · subst e; exact hi
    · exact g.ins z hz
  · rcases List.mem_cons.mp (pm.mem_iff.mp hz) with e | hz
    · subst e; exact hk
    · exact g.kind z hz
  · refine ((pm.map mK).nodup_iff).mpr ?_
    rw [List.map_cons]
    exact List.nodup_cons.mpr ⟨hn, g.nd⟩
theorem kind_at {r : Int} (h0 : 0 ≤ r) (h1 : r < 2) : ∃ k : Str, KindOk k ∧ atI [V.str "-", V.str "|"] r = some (V.str k) := by
  have e : r = 0 ∨ r = 1 := by omega
  rcases e with e | e
  · subst e; exact ⟨_, .inl rfl, rfl⟩
  · subst e; exact ⟨_, .inr rfl, rfl⟩
theorem Keep2.at_new {p c q : Addr} {H H' : Hp} {n : Nat} {o : HO} (kp : Keep2 p c (upd H q o) H') (hh : HandAt H p c n) (hq : H q = none) : H' q = some o := by
  obtain ⟨_, e1⟩ := hh.p
  obtain ⟨_, e2⟩ := hh.c
  exact kp q _ upd_same (ne_of_none e1 hq).symm (ne_of_none e2 hq).symm
theorem Keep2.tups {p c : Addr} {H H' : Hp} {n : Nat} {as : List Addr} {ds : List (List V)} (kp : Keep2 p c H H') (hh : HandAt H p c n) (t : TupsAt H as ds) : TupsAt H' as ds := t.keep fun _ _ h => kp.tup hh h
theorem TupsAt.new {H : Hp} {q : Addr} {o : HO} {as : List Addr} {ds : List (List V)} (t : TupsAt H as ds) (h : H q = none) : TupsAt (upd H q o) as ds := t.keep fun b xs e => by rw [upd_ne (ne_of_none e h)]; exact e
theorem TupsAt.mut {H : Hp} {l : Addr} {xs ys : List V} {as : List Addr} {ds : List (List V)} (t : TupsAt H as ds) (h : H l = some (.lst xs)) : TupsAt (upd H l (.lst ys)) as ds :=
  t.keep fun b zs e => by rw [upd_ne (ne_of e h (fun z => nomatch z))]; exact e
theorem TupsAt.ins {H : Hp} {as : List Addr} {ms : List Mir} {q : Addr} {m : Mir} (t : TupsAt H as (ms.map mV)) (hq : H q = some (.tup (mV m))) (k : Nat) : TupsAt H (as.take k ++ [q] ++ as.drop k) ((ms.take k ++ [m] ++ ms.drop k).map mV) := by
  rw [List.map_append, List.map_append, List.map_take, List.map_drop]
  exact Paired.app (Paired.app (Paired.takeD k t) (.cons hq .nil)) (Paired.dropD k t)
theorem map_ins (as : List Addr) (q : Addr) (k : Nat) : (as.map V.ref).take k ++ [V.ref q] ++ (as.map V.ref).drop k = (as.take k ++ [q] ++ as.drop k).map V.ref := by
  rw [List.map_append, List.map_append, List.map_take, List.map_drop]; rfl
theorem HandAt.same {H H' : Hp} {p c : Addr} {n : Nat} (hh : HandAt H p c n) (e : Same H H') : HandAt H' p c n := by
  obtain ⟨cs, k, t, a, b, d⟩ := hh
  exact ⟨cs, k, t, e _ _ a, e _ _ b, d⟩
theorem Keep2.same {H H' : Hp} {p c : Addr} (e : Same H H') : Keep2 p c H H' := fun b o h _ _ => e b o h
theorem HandAt.mut {H : Hp} {p c l : Addr} {n : Nat} {o : HO} (hh : HandAt H p c n) (h1 : l ≠ p) (h2 : l ≠ c) : HandAt (upd H l o) p c n := by
  obtain ⟨cs, k, t, a, b, d⟩ := hh
  exact ⟨cs, k, t, by rw [upd_ne h1.symm]; exact a, by rw [upd_ne h2.symm]; exact b, d⟩
theorem HandAt.ne {H : Hp} {p c l : Addr} {n : Nat} (hh : HandAt H p c n) (hl : H l = none) : l ≠ p ∧ l ≠ c := by
  obtain ⟨_, e1⟩ := hh.p
  obtain ⟨_, e2⟩ := hh.c
  exact ⟨(ne_of_none e1 hl).symm, (ne_of_none e2 hl).symm⟩
/-- H' is H but for the hand and things new since H0 -/
theorem Keep2.mut {H H' : Hp} {p c l : Addr} {o : HO} (kp : Keep2 p c H H') (hl : H l = none) : Keep2 p c H (upd H' l o) := fun b u h h1 h2 => by
  rw [upd_ne (ne_of_none h hl)]
  exact kp b u h h1 h2
def spMirrors : Sp := fun vs H Q _ => ∃ (p c : Addr) (n : Nat) (w h : Int), vs = [.ref p, .int w, .int h] ∧ HandAt H p c n ∧ n < 900000000 ∧ 0 < w ∧ 0 < h ∧ w * h ≤ 100 ∧
  ∀ (ms : List Mir) (l : Addr) (H' : Hp), GoodMs w h ms → ms.length ≤ 200 → H l = none → MsAt H' l ms → HandAt H' p c (n + 1000) → Keep2 p c H H' → Q (.ref l) H'
section
variable {P : Program} {w : World} {K : PySem.W.Frag} {mg : Str → Option Value} {base : Heap} {A : Ad}
theorem ok__law_mirrors (T : Txt K mg A) : FnOk P w K mg base CX0 2 A.f__law_mirrors A.d__law_mirrors P__law_mirrors spMirrors := by
  have G__law_take := ok__law_take (P := P) (w := w) (base := base) T
  have G__law_points := ok__law_points (P := P) (w := w) (base := base) T
  refine T.F__law_mirrors.ok sc__law_mirrors (fun vs H Q E h => ?_) (fun cdv A' outer s H vs Q E hr h => ?_)
  · obtain ⟨p, c, n, w', h', rfl, _⟩ := h
    rfl
  · obtain ⟨p, c, n, w', h', rfl, hh, hn, hw, hh', hb, kk⟩ := h
    refine ⟨_, (pss_cons (ps_set (i := 3) sc__law_mirrors.nd rfl (Or.inl rfl) (pe_call G__law_take (hr.mono (by first | decide | omega)) rfl T.g__law_take T.k__law_take T.b__law_take .nil pass0 (pa_cons (pv 0) (pa_cons pe_int pa_nil))))
(pss_cons (ps_set (i := 4) sc__law_mirrors.nd rfl (Or.inl rfl) (pe_lst pa_nil))
(pss_cons (ps_for PassesOwn.never rfl (pi_list (pe_call G__law_points (hr.mono (by first | decide | omega)) rfl T.g__law_points T.k__law_points T.b__law_points .nil pass0 (pa_cons (pv 1) (pa_cons (pv 2) pa_nil)))) (pg_tup rfl (pgs_cons (pg_name (i := 5) sc__law_mirrors.nd rfl (Or.inl rfl)) (pgs_cons (pg_name (i := 6) sc__law_mirrors.nd rfl (Or.inl rfl)) pgs_nil)))
(pss_one (ps_if (pt_cmpR op_lt (pe_call G__law_take (hr.mono (by first | decide | omega)) rfl T.g__law_take T.k__law_take T.b__law_take .nil pass0 (pa_cons (pv 0) (pa_cons pe_int pa_nil))) (pv 3) (nomark _))
(pss_cons (ps_set (i := 7) sc__law_mirrors.nd rfl (Or.inl rfl) (pe_ix ix_list (pe_lst (pa_cons pe_str (pa_cons pe_str pa_nil))) (pe_call G__law_take (hr.mono (by first | decide | omega)) rfl T.g__law_take T.k__law_take T.b__law_take .nil pass0 (pa_cons (pv 0) (pa_cons pe_int pa_nil))) (fun _ _ => rfl)))
(pss_one (ps_expr (pe_bm PySem.F.plainAttrs_list PySem.F.slot_list_insert PySem.F.type_list_insert m_insert (pv 4) (pa_cons (pe_call G__law_take (hr.mono (by first | decide | omega)) rfl T.g__law_take T.k__law_take T.b__law_take .nil pass0 (pa_cons (pv 0) (pa_cons (pe_op op_add (pe_callB c_len (by rfl) T.n_len (by decide +kernel) (pa_cons (pv 4) pa_nil)) pe_int) pa_nil))) (pa_cons (pe_tup (pa_cons (pv 5) (pa_cons (pv 6) (pa_cons (pv 7) pa_nil)))) pa_nil))))))
pss_nil)))
(pss_one (ps_ret (pv 4)))))), ?_⟩
    walk_at "rs"
    refine ⟨p, c, n, _, rfl, hh, by omega, by decide, by decide, fun sh H1 s0 s1 hh1 kp1 => ?_⟩
    walk_at "rs"
    intro l hl
    have hl0 : H l = none := kp1.free hh1 hl
    walk_at "rs"
    refine ⟨w', h', rfl, hw, hh', by omega, fun ps lp H2 hps hnd hlen hlp pa sm => ?_⟩
    obtain ⟨asp, ep, tp⟩ := pa
    have hh2 : HandAt H2 p c (n + 1) := (hh1.new hl).same sm
    have hl2 : H2 l = some (.lst []) := sm l _ upd_same
    have hlpl : l ≠ lp := ne_of_none (H := upd H1 l (.lst [])) upd_same hlp
    obtain ⟨nlp, nlc⟩ := hh1.ne hl
    obtain ⟨nqp, nqc⟩ := (hh1.new (o := .lst []) hl).ne hlp
    have kp2 : Keep2 p c H H2 := (kp1.trans (Keep2.new hl)).trans (Keep2.same sm)
    have hlen2 : ps.length ≤ 200 := by omega
    have hal : asp.length = ps.length := by rw [Paired.length tp, List.length_map]
    refine ⟨lp, rfl, ⟨_, SqL.of ep⟩, for_list (K := K) (a := lp) (xs := asp.map V.ref) (fun i σ H3 => ∃ (ms : List Mir) (as : List Addr) (v1 v2 v3 : Option V), σ = [some (.ref p), some (.int w'), some (.int h'), some (.int sh), some (.ref l), v1, v2, v3] ∧
      HandAt H3 p c (n + 1 + 3 * i) ∧ H3 l = some (.lst (as.map V.ref)) ∧ TupsAt H3 as (ms.map mV) ∧ H3 lp = some (.lst (asp.map V.ref)) ∧ TupsAt H3 asp (ps.map ptV) ∧ GoodMs w' h' ms ∧ (∀ m ∈ ms, mK m ∈ ps.take i) ∧ ms.length ≤ i ∧ Keep2 p c H H3) ?_ ?_ ?_ ?_⟩
    · exact ⟨[], [], none, none, none, rfl, hh2, hl2, .nil, ep, tp, ⟨fun _ h => by simp at h, fun _ h => by simp at h, List.nodup_nil⟩, fun _ h => by simp at h, Nat.le_refl _, kp2⟩
    · rintro i σ H3 _ ⟨ms, as, v1, v2, v3, rfl, _, _, _, e, _⟩
      exact SqL.of e
    · rintro i x σ H3 hi ⟨ms, as, v1, v2, v3, rfl, hh3, hl3, t3, ep3, tp3, gd, hsub, hml, kp3⟩
      have hil : i < asp.length := by
        have := (List.getElem?_eq_some_iff.mp hi).1
        simpa using this
      obtain ⟨a, xs, rfl, ha, hx, hta⟩ := tp3.get hi
      obtain ⟨z, hz, rfl⟩ : ∃ z, ps[i]? = some z ∧ xs = ptV z := by
        rw [List.getElem?_map] at hx
        cases e : ps[i]? with
        | none => rw [e] at hx; cases hx
        | some z => rw [e] at hx; exact ⟨z, rfl, (Option.some.inj hx).symm⟩
      have hlas : (as.map V.ref).length = ms.length := by rw [List.length_map, Paired.length t3, List.length_map]
      have tk : ps.take (i + 1) = ps.take i ++ [z] := by
        rw [List.take_add_one, hz]; rfl
      have hznot : z ∉ ps.take i := by
        have h2 : (ps.take (i + 1)).Nodup := hnd.sublist (List.take_sublist _ _)
        rw [tk, List.nodup_append] at h2
        intro hm
        exact h2.2.2 z hm z (by simp) rfl
      have hins : Ins w' h' z.1 z.2 := hps z (List.mem_of_getElem? hz)
      walk_at "rs"
      refine ⟨p, c, n + 1 + 3 * i, _, rfl, hh3, by omega, by decide, by decide, fun r H4 r0 r1 hh4 kp4 => ?_⟩
      have hl4 := kp4 l _ hl3 nlp nlc
      have ep4 := kp4 lp _ ep3 nqp nqc
      have t4 := kp4.tups hh3 t3
      have tp4 := kp4.tups hh3 tp3
      walk_at "rs"
      refine r_ite (fun _ => ?_) (fun _ => ?_)
      · walk_at "rs"
        intro q hq
        walk_at "rs"
        refine ⟨p, c, n + 1 + 3 * i + 1, _, rfl, hh4.new hq, by omega, by decide, by decide, fun r2 H5 r20 r21 hh5 kp5 => ?_⟩
        obtain ⟨kd, hkd, eat⟩ := kind_at r20 r21
        have hq5 := kp5.at_new hh4 hq
        have kp45 : Keep2 p c H4 H5 := (Keep2.new hq).trans kp5
        have hl5 := kp45 l _ hl4 nlp nlc
        have ep5 := kp45 lp _ ep4 nqp nqc
        have t5 := kp45.tups hh4 t4
        have tp5 := kp45.tups hh4 tp4
        walk_at "rs"
        refine ⟨p, c, n + 1 + 3 * i + 2, _, rfl, hh5, by omega, by omega, by omega, fun r3 H6 r30 r31 hh6 kp6 => ?_⟩
        have hl6 := kp6 l _ hl5 nlp nlc
        have ep6 := kp6 lp _ ep5 nqp nqc
        have t6 := kp6.tups hh5 t5
        have tp6 := kp6.tups hh5 tp5
        walk_at "rs"
        intro u hu
        have hlz : (as.map V.ref).length < 1000 := by omega
        walk_at "rs"
        have km : mK (z.1, z.2, kd) ∉ ms.map mK := fun hm => by
          obtain ⟨m, hm1, hm2⟩ := List.mem_map.mp hm
          have h3 := hsub m hm1
          rw [hm2] at h3
          exact hznot h3
        have hul : u ≠ l := (ne_of_none hl6 hu).symm
        refine ⟨ms.take r3.toNat ++ [(z.1, z.2, kd)] ++ ms.drop r3.toNat, as.take r3.toNat ++ [u] ++ as.drop r3.toNat, _, _, _, rfl, ?_, ?_, ?_, ?_, ?_, gd.ins1 _ hins hkd km, ?_, ?_, ?_⟩
        · exact ((hh6.new hu).mut nlp nlc).mono (by omega)
        · rw [upd_same, map_ins]
        · refine TupsAt.mut (xs := as.map V.ref) ?_ (by rw [upd_ne hul.symm]; exact hl6)
          exact TupsAt.ins (m := (z.1, z.2, kd)) (t6.new hu) upd_same _
        · rw [upd_ne hlpl.symm, upd_ne (ne_of_none ep6 hu)]
          exact ep6
        · exact TupsAt.mut (xs := as.map V.ref) (tp6.new hu) (by rw [upd_ne hul.symm]; exact hl6)
        · intro m hm
          rw [tk]
          rcases List.mem_cons.mp ((ins_perm ms r3.toNat (z.1, z.2, kd)).mem_iff.mp hm) with e | hm
          · subst e
            simp
          · exact List.mem_append_left _ (hsub m hm)
        · have := (ins_perm ms r3.toNat (z.1, z.2, kd)).length_eq
          rw [this, List.length_cons]
          omega
        · exact Keep2.mut ((((kp3.trans kp4).trans kp45).trans kp6).trans (Keep2.new hu)) hl0
      · walk_at "rs"
        refine ⟨ms, as, _, _, _, rfl, hh4.mono (by omega), hl4, t4, ep4, tp4, gd, fun m hm => ?_, by omega, kp3.trans kp4⟩
        rw [tk]
        exact List.mem_append_left _ (hsub m hm)
    · rintro σ H3 ⟨ms, as, v1, v2, v3, rfl, hh3, hl3, t3, ep3, tp3, gd, hsub, hml, kp3⟩
      rw [List.length_map] at hh3 hml
      walk_at "rs"
      exact kk ms l H3 gd (by omega) hl0 ⟨as, hl3, t3⟩ (hh3.mono (by omega)) kp3
end
/-! ### far boards, the hand -/
abbrev ptD (z : Int × Int) : PyData := .tuple [.int z.1, .int z.2]
theorem ptD_ok (z : Int × Int) : okD 1 (ptD z) = true := by simp [okD, okDs]
theorem ptDs_ok {zs : List (Int × Int)} (hz : zs.length ≤ 1000000) : okD 2 (.list (zs.map ptD)) = true := by
  rw [okD, Bool.and_eq_true]
  refine ⟨by simpa using hz, ?_⟩
  exact okDs_all fun d hd => by
    obtain ⟨z, _, rfl⟩ := List.mem_map.mp hd
    exact ptD_ok z
theorem ptD_any {z : Int × Int} {zs : List (Int × Int)} (h : z ∈ zs) : (zs.map ptD).any (fun d => PyData.eqv d (ptD z)) = true :=
  List.any_eq_true.mpr ⟨ptD z, List.mem_map.mpr ⟨z, h, rfl⟩, okD_refl (ptD_ok z)⟩
theorem dp_pt {K : PySem.W.Frag} {H : Hp} {a : Addr} {z : Int × Int} (h : H a = some (.tup (ptV z))) : Dp K H (.ref a) (ptD z) := .tup (SqT.of h) (.cons (.int _) (.cons (.int _) .nil))
theorem dp_pts {K : PySem.W.Frag} {H : Hp} : ∀ {as : List Addr} {zs : List (Int × Int)}, TupsAt H as (zs.map ptV) → DpAll K H (as.map V.ref) (zs.map ptD)
  | [], [], _ => .nil
  | [], _ :: _, h => by cases h
  | _ :: _, [], h => by cases h
  | a :: as, z :: zs, h => by
    cases h with
    | cons h1 h2 => exact .cons (dp_pt h1) (dp_pts h2)
theorem r_notInD {K : PySem.W.Frag} {H : Hp} {Q : VK} {x y : V} {d : PyData} {ds : List PyData} (h1 : Dp K H x d) (h2 : Dp K H y (.list ds)) (s1 : SeqAt.shaped d = true) (s2 : SeqAt.shaped (.list ds) = true) (q : Q (.bl (!ds.any fun z => PyData.eqv z d)) H) : rNotInD K x y H Q := ⟨d, ds, h1, h2, s1, s2, q⟩
def spFar : Sp := fun vs H Q _ => ∃ (p c : Addr) (n : Nat) (most lim : Int), vs = [.ref p, .int most, .int lim] ∧ HandAt H p c n ∧ n < 800000000 ∧ 0 ≤ most ∧ most ≤ 100 ∧ 0 < lim ∧
  ∀ (w h : Int) (ms : List Mir) (l q : Addr) (H' : Hp), 0 < w → 0 < h → (1 < w ∨ 1 < h) → GoodMs w h ms → ms.length ≤ 100 → H l = none → MsAt H' l ms → H' q = some (.tup [.int w, .int h, .ref l]) → HandAt H' p c (n + 10000) → Keep2 p c H H' → Q (.ref q) H'
def spHand (K : PySem.W.Frag) : Sp := fun vs H Q _ => ∃ (a : Addr) (ns : List Int), vs = [.ref a] ∧ SqL K H a (ns.map V.int) ∧ ns.length ≤ 63 ∧
  ∀ (p c : Addr) (H' : Hp), H p = none → H c = none → HandAt H' p c 0 → Same H H' → Q (.ref p) H'
section
variable {P : Program} {w : World} {K : PySem.W.Frag} {mg : Str → Option Value} {base : Heap} {A : Ad}
theorem ok__law_far (T : Txt K mg A) : FnOk P w K mg base CX0 4 A.f__law_far A.d__law_far P__law_far spFar := by
  have G__law_take := ok__law_take (P := P) (w := w) (base := base) T
  have G__law_big := ok__law_big (P := P) (w := w) (base := base) T
  have G__law_spot := ok__law_spot (P := P) (w := w) (base := base) T
  refine T.F__law_far.ok sc__law_far (fun vs H Q E h => ?_) (fun cdv A' outer s H vs Q E hr h => ?_)
  · obtain ⟨p, c, n, m, lm, rfl, _⟩ := h
    rfl
  · obtain ⟨p, c, n, most, lim, rfl, hh, hn, hm0, hm1, hl0, kk⟩ := h
    have hu65 : (A'.deeper (envOfC "_law_far" (defScope s__law_far) s.heap.objs.size A.f__law_far cdv)).units + 65 < cLine := by have := hr.un; omega
    refine ⟨_, (pss_cons (ps_set (i := 3) sc__law_far.nd rfl (Or.inl rfl) (pe_lst (pa_cons (pe_op op_add pe_int (pe_call G__law_big (hr.mono (by first | decide | omega)) rfl T.g__law_big T.k__law_big T.b__law_big .nil pass0 (pa_cons (pv 0) (pa_cons (pv 2) pa_nil)))) (pa_cons (pe_op op_add pe_int (pe_call G__law_big (hr.mono (by first | decide | omega)) rfl T.g__law_big T.k__law_big T.b__law_big .nil pass0 (pa_cons (pv 0) (pa_cons (pv 2) pa_nil)))) pa_nil))))
(pss_cons (ps_set (i := 4) sc__law_far.nd rfl (Or.inl rfl) (pe_call G__law_take (hr.mono (by first | decide | omega)) rfl T.g__law_take T.k__law_take T.b__law_take .nil pass0 (pa_cons (pv 0) (pa_cons pe_int pa_nil))))
(pss_cut (ps_if (pt_cmpR op_lt (pv 4) pe_int (nomark _))
(pss_one (ps_asg (pe_op op_add pe_int (pe_call G__law_take (hr.mono (by first | decide | omega)) rfl T.g__law_take T.k__law_take T.b__law_take .nil pass0 (pa_cons (pv 0) (pa_cons pe_int pa_nil)))) (pg_sub (pv 3) (pv 4) set_list)))
pss_nil)
(pss_cut (ps_if (pt_cmpR (op_eqD hr.units) (pv 3) (pe_lst (pa_cons pe_int (pa_cons pe_int pa_nil))) (nomark _))
(pss_one (ps_asg pe_int (pg_sub (pv 3) pe_int set_list)))
pss_nil)
(pss_cons (ps_set (i := 5) sc__law_far.nd rfl (Or.inl rfl) (pe_lst pa_nil))
(pss_cons (ps_for PassesOwn.never rfl (pi_range1 (by rfl) T.n_range (pa_cons (pe_call G__law_take (hr.mono (by first | decide | omega)) rfl T.g__law_take T.k__law_take T.b__law_take .nil pass0 (pa_cons (pv 0) (pa_cons (pe_op op_add (pv 1) pe_int) pa_nil))) pa_nil)) (pg_name (i := 6) sc__law_far.nd rfl (Or.inl rfl))
(pss_cons (ps_asg (pe_call G__law_spot (hr.mono (by first | decide | omega)) rfl T.g__law_spot T.k__law_spot T.b__law_spot .nil pass0 (pa_cons (pv 0) (pa_cons (pe_ix ix_list (pv 3) pe_int (fun _ _ => rfl)) (pa_cons (pe_ix ix_list (pv 3) pe_int (fun _ _ => rfl)) pa_nil)))) (pg_tup rfl (pgs_cons (pg_name (i := 7) sc__law_far.nd rfl (Or.inl rfl)) (pgs_cons (pg_name (i := 8) sc__law_far.nd rfl (Or.inl rfl)) pgs_nil))))
(pss_one (ps_if (pt_cmpR (op_notInD hu65) (pe_tup (pa_cons (pv 7) (pa_cons (pv 8) pa_nil))) (pe_lc (own := [("_law_a", 9), ("_law_b", 10), ("_law_kind", 11)]) (g := gTup K 3 (gCons (gName 9) (gCons (gName 10) (gCons (gName 11) gNil)))) (tt := tYes) (by rfl) sc__law_far.nd (pi_list (pv 5)) (blkOk_by (own := [("_law_a", 9), ("_law_b", 10), ("_law_kind", 11)]) (N := N__law_far) (sc := defScope s__law_far) (by decide +kernel)) (fun _ _ _ _ _ => by exact (pg_tup rfl (pgs_cons (pg_name (i := 9) sc__law_far.nd rfl (Or.inl rfl)) (pgs_cons (pg_name (i := 10) sc__law_far.nd rfl (Or.inl rfl)) (pgs_cons (pg_name (i := 11) sc__law_far.nd rfl (Or.inl rfl)) pgs_nil))))) (fun _ _ _ _ _ => by exact pts_nil) (fun _ _ _ _ _ => by exact (pe_tup (pa_cons (pv 9) (pa_cons (pv 10) pa_nil))))) (by rfl))
(pss_one (ps_expr (pe_bm PySem.F.plainAttrs_list PySem.F.slot_list_insert PySem.F.type_list_insert m_insert (pv 5) (pa_cons (pe_call G__law_take (hr.mono (by first | decide | omega)) rfl T.g__law_take T.k__law_take T.b__law_take .nil pass0 (pa_cons (pv 0) (pa_cons (pe_op op_add (pe_callB c_len (by rfl) T.n_len (by decide +kernel) (pa_cons (pv 5) pa_nil)) pe_int) pa_nil))) (pa_cons (pe_tup (pa_cons (pv 7) (pa_cons (pv 8) (pa_cons (pe_ix ix_list (pe_lst (pa_cons pe_str (pa_cons pe_str pa_nil))) (pe_call G__law_take (hr.mono (by first | decide | omega)) rfl T.g__law_take T.k__law_take T.b__law_take .nil pass0 (pa_cons (pv 0) (pa_cons pe_int pa_nil))) (fun _ _ => rfl)) pa_nil)))) pa_nil)))))
pss_nil))))
(pss_one (ps_ret (pe_tup (pa_cons (pe_ix ix_list (pv 3) pe_int (fun _ _ => rfl)) (pa_cons (pe_ix ix_list (pv 3) pe_int (fun _ _ => rfl)) (pa_cons (pv 5) pa_nil)))))))))))), ?_⟩
    walk_at "rs"
    refine ⟨p, c, n, _, rfl, hh, by omega, hl0, fun b1 H1 b10 b11 hh1 kp1 => ?_⟩
    walk_at "rs"
    refine ⟨p, c, n + 4, _, rfl, hh1, by omega, hl0, fun b2 H2 b20 b21 hh2 kp2 => ?_⟩
    walk_at "rs"
    intro sz hsz
    have hsz0 : H sz = none := (kp1.trans kp2).free hh2 hsz
    walk_at "rs"
    obtain ⟨nsp, nsc⟩ := hh2.ne hsz
    refine ⟨p, c, n + 8, _, rfl, hh2.new hsz, by omega, by decide, by decide, fun sm H3 sm0 sm1 hh3 kp3 => ?_⟩
    have hs3 := kp3.at_new hh2 hsz
    have kp03 : Keep2 p c H H3 := (kp1.trans kp2).trans ((Keep2.new hsz).trans kp3)
    walk_at "rs"
    -- the sizes behind the first if
    refine ⟨fun σ H4 => ∃ a b : Int, σ = [some (.ref p), some (.int most), some (.int lim), some (.ref sz), some (.int sm), none, none, none, none, none, none, none] ∧ H4 sz = some (.lst [.int a, .int b]) ∧ 0 < a ∧ 0 < b ∧ HandAt H4 p c (n + 10) ∧ Keep2 p c H H4, ?_, ?_⟩
    · walk_at "rs"
      refine r_ite (fun c1 => ?_) (fun c1 => ?_)
      · walk_at "rs"
        refine ⟨p, c, n + 9, _, rfl, hh3, by omega, by decide, by decide, fun r H4 r0 r1 hh4 kp4 => ?_⟩
        have hs4 := kp4 sz _ hs3 nsp nsc
        obtain ⟨j, a, b, hj, hset, ha, hb⟩ : ∃ (j : Nat) (a b : Int), ixN 2 sm = some j ∧ ([V.int (1 + b1), V.int (1 + b2)] : List V).set j (.int (1 + r)) = [.int a, .int b] ∧ 0 < a ∧ 0 < b := by
          have e : sm = 0 ∨ sm = 1 := by omega
          rcases e with e | e
          · subst e; exact ⟨0, 1 + r, 1 + b2, rfl, rfl, by omega, by omega⟩
          · subst e; exact ⟨1, 1 + b1, 1 + r, rfl, rfl, by omega, by omega⟩
        walk_at "rs"
        refine ⟨a, b, rfl, ?_, ha, hb, hh4.mut nsp nsc |>.mono (by omega), (kp03.trans kp4).mut hsz0⟩
        rw [upd_same, hset]
      · walk_at "rs"
        exact ⟨_, _, rfl, hs3, by omega, by omega, hh3.mono (by omega), kp03⟩
    · rintro σ H4 ⟨a, b, rfl, hs4, ha, hb, hh4, kp4⟩
      refine ⟨fun σ H5 => ∃ a b : Int, σ = [some (.ref p), some (.int most), some (.int lim), some (.ref sz), some (.int sm), none, none, none, none, none, none, none] ∧ H5 sz = some (.lst [.int a, .int b]) ∧ 0 < a ∧ 0 < b ∧ (1 < a ∨ 1 < b) ∧ HandAt H5 p c (n + 10) ∧ Keep2 p c H H5, ?_, ?_⟩
      · walk_at "rs"
        intro u hu
        have d1 : Dp K (upd H4 u (.lst [.int 1, .int 1])) (.ref sz) (.list [.int a, .int b]) := .lst (SqL.of (by walk_at "hl")) (.cons (.int _) (.cons (.int _) .nil))
        have d2 : Dp K (upd H4 u (.lst [.int 1, .int 1])) (.ref u) (.list [.int 1, .int 1]) := .lst (SqL.of upd_same) (.cons (.int _) (.cons (.int _) .nil))
        refine ⟨_, _, d1, d2, okD_shaped (n := 1) (by simp [okD, okDs]) (by decide), okD_shaped (n := 1) (by simp [okD, okDs]) (by decide), ?_⟩
        walk_at "rs"
        have ev : PyData.eqv (.list [.int a, .int b]) (.list [.int 1, .int 1]) = (a == 1 && (b == 1 && true)) := by simp only [PyData.eqv, PyData.eqvAll]
        rw [ev]
        have husz : u ≠ sz := (ne_of_none hs4 hu).symm
        refine r_iteB (fun c1 => ?_) (fun c1 => ?_)
        · walk_at "rs"
          refine ⟨2, b, rfl, upd_same, by omega, hb, by omega, (hh4.new hu).mut nsp nsc, (kp4.trans (Keep2.new hu)).mut hsz0⟩
        · walk_at "rs"
          refine ⟨a, b, rfl, by walk_at "hl", ha, hb, ?_, hh4.new hu, kp4.trans (Keep2.new hu)⟩
          by_cases e1 : a = 1
          · by_cases e2 : b = 1
            · subst e1; subst e2; simp at c1
            · omega
          · omega
      · rintro σ H5 ⟨a, b, rfl, hs5, ha, hb, hab, hh5, kp5⟩
        walk_at "rs"
        intro l hl
        have hl0 : H l = none := kp5.free hh5 hl
        obtain ⟨nlp, nlc⟩ := hh5.ne hl
        have hlsz : l ≠ sz := (ne_of_none hs5 hl).symm
        walk_at "rs"
        refine ⟨p, c, n + 10, _, rfl, hh5.new hl, by omega, by omega, by omega, fun m H6 m0 m1 hh6 kp6 => ?_⟩
        have kp06 : Keep2 p c H H6 := kp5.trans ((Keep2.new hl).trans kp6)
        have hl6 := kp6.at_new hh5 hl
        have hs6 : H6 sz = some (.lst [.int a, .int b]) := kp6 sz _ (by walk_at "hl") nsp nsc
        walk_at "rs"
        refine ⟨m, rfl, by omega, by omega, for_range (lo := 0) (n := m.toNat) (fun i σ H7 => ∃ (ms : List Mir) (as : List Addr) (v6 v7 v8 : Option V), σ = [some (.ref p), some (.int most), some (.int lim), some (.ref sz), some (.int sm), some (.ref l), v6, v7, v8, none, none, none] ∧
          HandAt H7 p c (n + 11 + 20 * i) ∧ H7 l = some (.lst (as.map V.ref)) ∧ TupsAt H7 as (ms.map mV) ∧ H7 sz = some (.lst [.int a, .int b]) ∧ GoodMs a b ms ∧ ms.length ≤ i ∧ Keep2 p c H H7) ?_ ?_ ?_⟩
        · exact ⟨[], [], none, none, none, rfl, hh6, hl6, .nil, hs6, ⟨fun _ h => by simp at h, fun _ h => by simp at h, List.nodup_nil⟩, Nat.le_refl _, kp06⟩
        · rintro i σ H7 hi ⟨ms, as, v6, v7, v8, rfl, hh7, hl7, t7, hs7, gd, hml, kp7⟩
          have hlas : as.length = ms.length := by rw [Paired.length t7, List.length_map]
          walk_at "rs"
          refine ⟨p, c, n + 11 + 20 * i, a, b, rfl, hh7, by omega, ha, hb, hab, fun x y q H8 hxy hq0 hq hh8 kp8 => ?_⟩
          have hl8 := kp8 l _ hl7 nlp nlc
          have t8 := kp8.tups hh7 t7
          have hs8 := kp8 sz _ hs7 nsp nsc
          walk_at "rs"
          intro q2 hq2
          have hl8' : (upd H8 q2 (.tup [.int x, .int y])) l = some (.lst (as.map V.ref)) := by walk_at "hl"
          walk_at "rs"
          refine ⟨l, rfl, ⟨_, SqL.of hl8'⟩, fun D hD => lc_list (K := K) (a := l) (xs := as.map V.ref) (fun j H9 => Same (upd H8 q2 (.tup [.int x, .int y])) H9 ∧ ∃ bs : List Addr, H9 D = some (.lst (bs.map V.ref)) ∧ TupsAt H9 bs (((ms.take j).map mK).map ptV)) ?_ ?_ ?_ ?_⟩
          · exact ⟨Same.new hD, [], upd_same, .nil⟩
          · rintro j H9 _ ⟨sm9, _⟩
            exact SqL.of (sm9 _ _ hl8')
          · rintro j v H9 hj ⟨sm9, bs, hD9, t9⟩
            obtain ⟨e, xs, rfl, he, hx, hte⟩ := ((t8.new (o := .tup [.int x, .int y]) hq2).keep fun b xs h => sm9 b _ h).get hj
            obtain ⟨z, hz, rfl⟩ : ∃ z, ms[j]? = some z ∧ xs = mV z := by
              rw [List.getElem?_map] at hx
              cases e : ms[j]? with
              | none => rw [e] at hx; cases hx
              | some z => rw [e] at hx; exact ⟨z, rfl, (Option.some.inj hx).symm⟩
            walk_at "rs"
            refine ⟨rfl, ?_⟩
            walk_at "rs"
            intro u hu
            have hDu : D ≠ u := ne_of_none hD9 hu
            have hbl : bs.length ≤ ms.length := by rw [Paired.length t9, List.length_map, List.length_map, List.length_take]; omega
            have hbz : (bs.map V.ref).length < 1000 := by rw [List.length_map]; omega
            refine ⟨bs.map V.ref, by walk_at "hl", by walk_at "sz", (sm9.trans (Same.new hu)).mut hD, bs ++ [u], by rw [upd_same, List.map_append]; rfl, ?_⟩
            have tk : ms.take (j + 1) = ms.take j ++ [z] := by rw [List.take_add_one, hz]; rfl
            rw [tk, List.map_append, List.map_append]
            refine TupsAt.mut (xs := bs.map V.ref) (Paired.snoc (t9.new hu) upd_same) (by walk_at "hl")
          · rintro H9 ⟨sm9, bs, hD9, t9⟩
            rw [List.length_map, hlas, List.take_length] at t9
            have hh9 : HandAt H9 p c (n + 11 + 20 * i + 9) := (hh8.new hq2).same sm9
            have kp9 : Keep2 p c H H9 := (kp7.trans kp8).trans ((Keep2.new hq2).trans (Keep2.same sm9))
            have hl9 := sm9 _ _ hl8'
            have hs9 : H9 sz = some (.lst [.int a, .int b]) := sm9 _ _ (by walk_at "hl")
            have tm9 := (t8.new (o := .tup [.int x, .int y]) hq2).keep fun b xs h => sm9 b _ h
            have hq29 : H9 q2 = some (.tup (ptV (x, y))) := sm9 _ _ upd_same
            refine r_notInD (dp_pt hq29) (.lst (SqL.of hD9) (dp_pts t9)) (okD_shaped (ptD_ok (x, y)) (by decide)) (okD_shaped (ptDs_ok (by rw [List.length_map]; omega)) (by decide)) ?_
            walk_at "rs"
            refine r_iteB (fun c1 => ?_) (fun c1 => ?_)
            · have hnin : mK (x, y, ("" : Str)) ∉ ms.map mK := fun hm => by
                rw [show mK (x, y, ("" : Str)) = (x, y) from rfl] at hm
                rw [ptD_any hm] at c1
                cases c1
              walk_at "rs"
              refine ⟨p, c, n + 11 + 20 * i + 9, _, rfl, hh9, by omega, by rw [List.length_map]; omega, by rw [List.length_map]; omega, fun r3 H10 r30 r31 hh10 kp10 => ?_⟩
              have hl10 := kp10 l _ hl9 nlp nlc
              have hs10 := kp10 sz _ hs9 nsp nsc
              have t10 := kp10.tups hh9 tm9
              walk_at "rs"
              intro kl hkl
              walk_at "rs"
              refine ⟨p, c, n + 11 + 20 * i + 10, _, rfl, hh10.new hkl, by omega, by decide, by decide, fun r4 H11 r40 r41 hh11 kp11 => ?_⟩
              obtain ⟨kd, hkd, eat⟩ := kind_at r40 r41
              have hkl11 := kp11.at_new hh10 hkl
              have kp1011 : Keep2 p c H10 H11 := (Keep2.new hkl).trans kp11
              have hl11 := kp1011 l _ hl10 nlp nlc
              have hs11 := kp1011 sz _ hs10 nsp nsc
              have t11 := kp1011.tups hh10 t10
              walk_at "rs"
              intro u hu
              have hlz : (as.map V.ref).length < 1000 := by rw [List.length_map]; omega
              have hul : u ≠ l := (ne_of_none hl11 hu).symm
              have hls : sz ≠ l := hlsz.symm
              walk_at "rs"
              refine ⟨ms.take r3.toNat ++ [(x, y, kd)] ++ ms.drop r3.toNat, as.take r3.toNat ++ [u] ++ as.drop r3.toNat, _, _, _, rfl, ?_, ?_, ?_, ?_, gd.ins1 (m := (x, y, kd)) _ hxy hkd hnin, ?_, ?_⟩
              · exact ((hh11.new hu).mut nlp nlc).mono (by omega)
              · rw [upd_same, map_ins]
              · exact TupsAt.mut (xs := as.map V.ref) (TupsAt.ins (m := (x, y, kd)) (t11.new hu) upd_same _) (by walk_at "hl")
              · walk_at "hl"
              · have := (ins_perm ms r3.toNat (x, y, kd)).length_eq
                rw [this, List.length_cons]
                omega
              · exact (((kp9.trans kp10).trans kp1011).trans (Keep2.new hu)).mut hl0
            · walk_at "rs"
              exact ⟨ms, as, _, _, _, rfl, hh9.mono (by omega), hl9, tm9, hs9, gd, by omega, kp9⟩
        · rintro σ H7 ⟨ms, as, v6, v7, v8, rfl, hh7, hl7, t7, hs7, gd, hml, kp7⟩
          walk_at "rs"
          intro q hq
          exact kk a b ms l q _ ha hb hab gd (by omega) hl0 ⟨as, by walk_at "hl", t7.new hq⟩ upd_same ((hh7.new hq).mono (by omega)) (kp7.trans (Keep2.new hq))
end
section
variable {P : Program} {w : World} {K : PySem.W.Frag} {mg : Str → Option Value} {base : Heap} {A : Ad}
theorem int_get {ns : List Int} {i : Nat} {x : V} (h : (ns.map V.int)[i]? = some x) : ∃ z, ns[i]? = some z ∧ x = V.int z := by
  rw [List.getElem?_map] at h
  cases e : ns[i]? with
  | none => rw [e] at h; cases h
  | some z => rw [e] at h; exact ⟨z, rfl, (Option.some.inj h).symm⟩
theorem ok__law_hand (T : Txt K mg A) : FnOk P w K mg base CX0 1 A.f__law_hand A.d__law_hand P__law_hand (spHand K) := by
  refine T.F__law_hand.ok sc__law_hand (fun vs H Q E h => ?_) (fun cdv A' outer s H vs Q E hr h => ?_)
  · obtain ⟨a, ns, rfl, _⟩ := h
    rfl
  · obtain ⟨a, ns, rfl, hs, hl, kk⟩ := h
    refine ⟨_, (pss_cons (ps_set (i := 1) sc__law_hand.nd rfl (Or.inl rfl) pe_int)
(pss_cons (ps_for PassesOwn.never rfl (pi_list (pv 0)) (pg_name (i := 2) sc__law_hand.nd rfl (Or.inl rfl))
(pss_one (ps_set (i := 1) sc__law_hand.nd rfl (Or.inl rfl) (pe_op op_mod (pe_callTy c_int (by rfl) T.n_int (by decide +kernel) (pa_cons (pe_op op_add (pe_op op_mul (pv 1) pe_int) (pe_op op_mod (pv 2) pe_int)) pa_nil)) pe_int))))
(pss_one (ps_ret (pe_lst (pa_cons (pe_lc (own := [("_law_cell", 2)]) (g := gName 2) (tt := tYes) (by rfl) sc__law_hand.nd (pi_list (pv 0)) (blkOk_by (own := [("_law_cell", 2)]) (N := N__law_hand) (sc := defScope s__law_hand) (by decide +kernel)) (fun _ _ _ _ _ => by exact (pg_name (i := 2) sc__law_hand.nd rfl (Or.inl rfl))) (fun _ _ _ _ _ => by exact pts_nil) (fun _ _ _ _ _ => by exact (pe_callB c_abs (by rfl) T.n_abs (by decide +kernel) (pa_cons (pv 2) pa_nil)))) (pa_cons pe_int (pa_cons (pv 1) pa_nil)))))))), ?_⟩
    walk_at "rs"
    refine ⟨a, rfl, ⟨_, hs⟩, for_list (K := K) (a := a) (xs := ns.map V.int) (fun i σ H1 => H1 = H ∧ ∃ (t : Int) (v : Option V), σ = [some (.ref a), some (.int t), v] ∧ 0 ≤ t ∧ t < 2147483629) ?_ ?_ ?_ ?_⟩
    · exact ⟨rfl, 5, none, rfl, by decide, by decide⟩
    · rintro i σ H1 _ ⟨rfl, _⟩
      exact hs
    · rintro i x σ H1 hi ⟨rfl, t, v, rfl, t0, t1⟩
      obtain ⟨z, hz, rfl⟩ := int_get hi
      walk_at "rs"
      exact ⟨rfl, _, _, rfl, (mod_rng (by decide)).1, (mod_rng (by decide)).2⟩
    · rintro σ H1 ⟨rfl, t, v, rfl, t0, t1⟩
      walk_at "rs"
      refine ⟨a, rfl, ⟨_, hs⟩, fun D hD => lc_list (K := K) (a := a) (xs := ns.map V.int) (fun j H2 => Same H1 H2 ∧ ∃ cs : List Int, H2 D = some (.lst (cs.map V.int)) ∧ (∀ x ∈ cs, 0 ≤ x) ∧ cs.length = j) ?_ ?_ ?_ ?_⟩
      · exact ⟨Same.new hD, [], upd_same, fun _ h => by simp at h, rfl⟩
      · rintro j H2 _ ⟨sm, _⟩
        exact sm.seq hs
      · rintro j x H2 hj ⟨sm, cs, hD2, hcs, hcl⟩
        obtain ⟨z, hz, rfl⟩ := int_get hj
        have hjl : j < ns.length := (List.getElem?_eq_some_iff.mp hz).1
        walk_at "rs"
        refine ⟨rfl, ?_⟩
        walk_at "rs"
        refine ⟨cs.map V.int, hD2, by rw [List.length_map]; exact small1000 (by omega), sm.mut hD, cs ++ [if z < 0 then -z else z], by rw [upd_same, List.map_append]; rfl, ?_, by simp [hcl]⟩
        intro y hy
        rcases List.mem_append.mp hy with hy | hy
        · exact hcs y hy
        · rw [List.mem_singleton] at hy
          subst hy
          split <;> omega
      · rintro H2 ⟨sm, cs, hD2, hcs, hcl⟩
        rw [List.length_map] at hcl
        walk_at "rs"
        intro q hq
        have hDq : D ≠ q := ne_of_none hD2 hq
        refine kk q D _ (sm.free hq) hD ⟨cs, 0, t, upd_same, by walk_at "hl", hDq, hcs, by omega, Nat.le_refl _⟩ (sm.trans (Same.new hq))
end
/-! ### errors -/
def spErr (K : PySem.W.Frag) : Sp := fun vs H Q _ => ∃ (a C : Addr) (v : V), vs = [.ref a, v] ∧ OexC K C ∧ PySem.W.findIn K (.ref C) "value" = some none ∧ H a = some (exo a C none) ∧
  ∀ dx, H dx = none → dx ≠ a → Q .non (upd (upd H dx (exd dx [(("value" : Str), v)])) a (exo a C (some dx)))
/-- what is wanted where an error with this value is raised -/
def WishV (C : Addr) (v : V) (E : XK) (H : Hp) : Prop := ∀ (d : Addr) (H' : Hp), Same H H' → H' d = some (.xd [(("value" : Str), v)]) → E (.ref C) (some d) H'
def WishT (C : Addr) (x y : Int) (E : XK) (H : Hp) : Prop := ∀ (d q : Addr) (H' : Hp), Same H H' → H' d = some (.xd [(("value" : Str), .ref q)]) → H' q = some (.tup [.int x, .int y]) → E (.ref C) (some d) H'
theorem raise_val {K : PySem.W.Frag} {C : Addr} {v : V} {H1 : Hp} {E : XK} (X : OexC K C) (no : PySem.W.findIn K (.ref C) "value" = some none) (h : WishV C v E H1) :
    ∀ a, H1 a = none → spErr K (.ref a :: ([v] ++ [])) (upd H1 a (exo a C none)) (fun v' H2 => v' = .non ∧ ∃ (d : Addr) (fs : List (Str × V)), H2 a = some (exo a C (some d)) ∧ H2 d = some (exd d fs) ∧ H1 d = none ∧ E (.ref C) (some d) (upd (del H2 a) d (.xd fs))) (fun _ _ _ => False) := by
  intro a ha
  refine ⟨a, C, v, rfl, X, no, upd_same, fun dx hdx hne => ⟨rfl, dx, [(("value" : Str), v)], upd_same, ?_, ?_, ?_⟩⟩
  · rw [upd_ne hne, upd_same]
  · rw [upd_ne hne] at hdx
    exact hdx
  · rw [upd_ne hne] at hdx
    refine h dx _ (fun b o hb => ?_) upd_same
    have h1 := ne_of_none hb ha
    have h2 := ne_of_none hb hdx
    rw [upd_ne h2, del_ne h1, upd_ne h1, upd_ne h2, upd_ne h1]
    exact hb
/-! ### boards -/
def spIns : Sp := fun vs H Q _ => ∃ (w h x y : Int), vs = [.int w, .int h, .int x, .int y] ∧ ∀ b : Bool, (b = true ↔ Ins w h x y) → Q (.bl b) H
abbrev ptK (z : Int × Int) : List Key := [Sum.inl z.1, Sum.inl z.2]
/-- the dict that holds the mirrors -/
def kvsOf (ms : List Mir) : List (List Key × V) := ms.map fun m => (ptK (mK m), V.str m.2.2)
def spCheck (A : Ad) : Sp := fun vs H Q E => ∃ (w h : Int) (d m : Addr) (kvs : List (List Key × V)) (z : Mir), vs = [.int w, .int h, .ref d, .ref m] ∧ H d = some (.dT kvs) ∧ H m = some (.tup (mV z)) ∧
  (¬ Ins w h z.1 z.2.1 → WishT A.C_InvalidPoint z.1 z.2.1 E H) ∧ (Ins w h z.1 z.2.1 → ¬ KindOk z.2.2 → WishV A.C_InvalidMirror (.str z.2.2) E H) ∧
  (Ins w h z.1 z.2.1 → KindOk z.2.2 → valV kvs (ptK (mK z)) ≠ none → WishT A.C_Taken z.1 z.2.1 E H) ∧
  (Ins w h z.1 z.2.1 → KindOk z.2.2 → valV kvs (ptK (mK z)) = none → ∀ H', Same H H' → Q .non H')
theorem kind_in {k : Str} : inV (.str k) [.str "-", .str "|"] = true ↔ KindOk k := by
  unfold inV KindOk
  simp [eqV]
  constructor
  · rintro (h | h)
    · exact .inl h.symm
    · exact .inr h.symm
  · rintro (h | h)
    · exact .inl h.symm
    · exact .inr h.symm
section
variable {P : Program} {w : World} {K : PySem.W.Frag} {mg : Str → Option Value} {base : Heap} {A : Ad}
theorem ok_SandError___init__ (T : Txt K mg A) : FnOk P w K mg base CX0 1 A.f_SandError___init__ A.d_SandError___init__ P_SandError___init__ (spErr K) := by
  refine T.F_SandError___init__.ok sc_SandError___init__ (fun vs H Q E h => ?_) (fun cdv A' outer s H vs Q E hr h => ?_)
  · obtain ⟨a, C, v, rfl, _⟩ := h
    rfl
  · obtain ⟨a, C, v, rfl, X, no, ha, kk⟩ := h
    refine ⟨_, (pss_one (ps_ost (pv 0) (pv 1))), ?_⟩
    exact ⟨_, rfl, _, rfl, a, C, rfl, X, no, .inl ⟨ha, fun dx h1 h2 => kk dx h1 h2⟩⟩
theorem ok_is_inside (T : Txt K mg A) : FnOk P w K mg base CX0 1 A.f_is_inside A.d_is_inside P_is_inside spIns := by
  refine T.F_is_inside.ok sc_is_inside (fun vs H Q E h => ?_) (fun cdv A' outer s H vs Q E hr h => ?_)
  · obtain ⟨a, b, c, d, rfl, _⟩ := h
    rfl
  · obtain ⟨w', h', x, y, rfl, kk⟩ := h
    refine ⟨_, (pss_one (ps_ret (pe_and (pe_chain op_lt op_lt pe_int (pv 2) (pe_op op_mul pe_int (pv 0))) (pe_and (pe_chain op_lt op_lt pe_int (pv 3) (pe_op op_mul pe_int (pv 1))) (pe_one (pe_cmpR op_eq (pe_op op_mod (pe_op op_add (pv 2) (pv 3)) pe_int) pe_int (nomark _))))))), ?_⟩
    walk_at "rs"
    refine r_ite (fun c1 => ?_) (fun c1 => ?_)
    · walk_at "rs"
      refine r_ite (fun c2 => ?_) (fun c2 => ?_)
      · walk_at "rs"
        refine r_ite (fun c3 => ?_) (fun c3 => ?_)
        · walk_at "rs"
          refine r_ite (fun c4 => ?_) (fun c4 => ?_)
          · walk_at "rs"
            refine kk _ ⟨fun h => ⟨c1, c2, c3, c4, by simpa using h⟩, fun h => by simpa using h.2.2.2.2⟩
          · walk_at "rs"
            exact kk _ ⟨fun h => by simp at h, fun h => absurd h.2.2.2.1 c4⟩
        · walk_at "rs"
          exact kk _ ⟨fun h => by simp at h, fun h => absurd h.2.2.1 c3⟩
      · walk_at "rs"
        exact kk _ ⟨fun h => by simp at h, fun h => absurd h.2.1 c2⟩
    · walk_at "rs"
      exact kk _ ⟨fun h => by simp at h, fun h => absurd h.1 c1⟩
theorem ok_check_mirror (T : Txt K mg A) : FnOk P w K mg base (L2.CX P w) 3 A.f_check_mirror A.d_check_mirror P_check_mirror (spCheck A) := by
  have G_SandError___init__ := ok_SandError___init__ (P := P) (w := w) (base := base) T
  have G_is_inside := ok_is_inside (P := P) (w := w) (base := base) T
  refine T.F_check_mirror.okX sc_check_mirror (fun vs H Q E h => ?_) (fun cdv A' outer s H vs Q E hr h => ?_)
  · obtain ⟨a, b, c, d, kvs, z, rfl, _⟩ := h
    rfl
  · obtain ⟨w', h', d, m, kvs, z, rfl, hd, hm, e1, e2, e3, kk⟩ := h
    have hu := hu_of hr
    refine ⟨_, (pss_cons (ps_asg (pv 3) (pg_tup rfl (pgs_cons (pg_name (i := 4) sc_check_mirror.nd rfl (Or.inl rfl)) (pgs_cons (pg_name (i := 5) sc_check_mirror.nd rfl (Or.inl rfl)) (pgs_cons (pg_name (i := 6) sc_check_mirror.nd rfl (Or.inl rfl)) pgs_nil)))))
(pss_cons (ps_if (pt_not (pt_val (pe_call G_is_inside (hr.mono (by first | decide | omega)) rfl T.g_is_inside T.k_is_inside T.b_is_inside .nil pass0 (pa_cons (pv 0) (pa_cons (pv 1) (pa_cons (pv 4) (pa_cons (pv 5) pa_nil)))))))
(pss_one (ps_raise rfl (takes_of rfl rfl rfl rfl) (pmk_oex T.X_InvalidPoint T.i_InvalidPoint T.ti_init G_SandError___init__ (hr.mono (by first | decide | omega)) T.b_SandError___init__ .nil pass0 rfl T.g_InvalidPoint (pa_cons (pe_tup (pa_cons (pv 4) (pa_cons (pv 5) pa_nil))) pa_nil))))
pss_nil)
(pss_cons (ps_if (pt_cmpR op_notIn_seq (pv 6) (pe_glob (v := .ref A.c_KINDS) rfl T.g_KINDS rfl) (by rfl))
(pss_one (ps_raise rfl (takes_of rfl rfl rfl rfl) (pmk_oex T.X_InvalidMirror T.i_InvalidMirror T.ti_init G_SandError___init__ (hr.mono (by first | decide | omega)) T.b_SandError___init__ .nil pass0 rfl T.g_InvalidMirror (pa_cons (pv 6) pa_nil))))
pss_nil)
(pss_one (ps_if (pt_cmp (pc_din hu (pe_tup (pa_cons (pv 4) (pa_cons (pv 5) pa_nil))) (pv 2)))
(pss_one (ps_raise rfl (takes_of rfl rfl rfl rfl) (pmk_oex T.X_Taken T.i_Taken T.ti_init G_SandError___init__ (hr.mono (by first | decide | omega)) T.b_SandError___init__ .nil pass0 rfl T.g_Taken (pa_cons (pe_tup (pa_cons (pv 4) (pa_cons (pv 5) pa_nil))) pa_nil))))
pss_nil))))), ?_⟩
    walk_at "rs"
    refine ⟨w', h', _, _, rfl, fun b hb => ?_⟩
    walk_at "rs"
    refine r_iteNB (fun c1 => ?_) (fun c1 => ?_)
    · have nin : ¬ Ins w' h' z.1 z.2.1 := fun h => by rw [hb.mpr h] at c1; cases c1
      walk_at "rs"
      intro q hq
      walk_at "rs"
      refine ⟨(by show 1 ≤ 1000; decide), raise_val T.X_InvalidPoint T.no_InvalidPoint fun d' H' sm hd' => ?_⟩
      exact e1 nin d' q H' ((Same.new hq).trans sm) hd' (sm _ _ upd_same)
    · have hin : Ins w' h' z.1 z.2.1 := hb.mp c1
      walk_at "rs"
      refine ⟨A.c_KINDS, _, rfl, .inr (T.q_KINDS H), rfl, rfl, ?_⟩
      walk_at "rs"
      refine r_iteNB (fun c2 => ?_) (fun c2 => ?_)
      · have nk : ¬ KindOk z.2.2 := fun h => by rw [kind_in.mpr h] at c2; cases c2
        walk_at "rs"
        refine ⟨(by show 1 ≤ 1000; decide), raise_val T.X_InvalidMirror T.no_InvalidMirror fun d' H' sm hd' => ?_⟩
        exact e2 hin nk d' H' sm hd'
      · have hk : KindOk z.2.2 := kind_in.mp c2
        walk_at "rs"
        intro q hq
        walk_at "rs"
        refine ⟨d, _, rfl, DGet.t (k := ptK (mK z)) (by walk_at "hl") upd_same, ?_⟩
        walk_at "rs"
        refine r_iteB (fun c3 => ?_) (fun c3 => ?_)
        · have hv : valV kvs (ptK (mK z)) ≠ none := fun h => by rw [h] at c3; cases c3
          walk_at "rs"
          intro u hu
          walk_at "rs"
          refine ⟨(by show 1 ≤ 1000; decide), raise_val T.X_Taken T.no_Taken fun d' H' sm hd' => ?_⟩
          exact e3 hin hk hv d' u H' (((Same.new hq).trans (Same.new hu)).trans sm) hd' (sm _ _ upd_same)
        · have hv : valV kvs (ptK (mK z)) = none := by
            cases e : valV kvs (ptK (mK z)) with
            | none => rfl
            | some v => rw [e] at c3; cases c3
          walk_at "rs"
          exact kk hin hk hv _ (Same.new hq)
theorem kvs_find {ms : List Mir} {z : Int × Int} : valV (kvsOf ms) (ptK z) = none ↔ z ∉ ms.map mK := by
  unfold kvsOf
  induction ms with
  | nil => simp [valV]
  | cons m r ih =>
    rw [List.map_cons, List.map_cons, List.mem_cons]
    by_cases h : ptK (mK m) = ptK z
    · have e : z = mK m := by
        obtain ⟨a, b⟩ := z
        simp [ptK] at h
        exact Prod.ext h.1.symm h.2.symm
      rw [valV_pos h]
      simp [e]
    · have e : ¬ z = mK m := fun q => h (by rw [q])
      rw [valV_neg h, ih]
      simp [e]
theorem kvs_get {ms : List Mir} {z : Mir} (nd : (ms.map mK).Nodup) (hm : z ∈ ms) : valV (kvsOf ms) (ptK (mK z)) = some (.str z.2.2) := by
  unfold kvsOf
  induction ms with
  | nil => simp at hm
  | cons m r ih =>
    rw [List.map_cons, List.nodup_cons] at nd
    rw [List.map_cons]
    rcases List.mem_cons.mp hm with e | hm
    · subst e
      rw [valV_pos rfl]
    · have h : ¬ ptK (mK m) = ptK (mK z) := fun h => nd.1 (by
        have e : mK m = mK z := by
          simp [ptK] at h
          exact Prod.ext h.1 h.2
        rw [e]
        exact List.mem_map.mpr ⟨z, hm, rfl⟩)
      rw [valV_neg h]
      exact ih nd.2 hm
theorem kvs_len (ms : List Mir) : (kvsOf ms).length = ms.length := List.length_map ..
def spKinds (A : Ad) : Sp := fun vs H Q E => ∃ (w h : Int) (l : Addr) (ms : List Mir), vs = [.int w, .int h, .ref l] ∧ MsAt H l ms ∧ ms.length ≤ 500 ∧
  ((GoodMs w h ms ∧ ∀ d H', H d = none → Same H H' → H' d = some (.dT (kvsOf ms)) → Q (.ref d) H') ∨
   ∃ (i : Nat) (z : Mir), ms[i]? = some z ∧ GoodMs w h (ms.take i) ∧
     ((¬ Ins w h z.1 z.2.1 ∧ WishT A.C_InvalidPoint z.1 z.2.1 E H) ∨ (Ins w h z.1 z.2.1 ∧ ¬ KindOk z.2.2 ∧ WishV A.C_InvalidMirror (.str z.2.2) E H) ∨
      (Ins w h z.1 z.2.1 ∧ KindOk z.2.2 ∧ mK z ∈ (ms.take i).map mK ∧ WishT A.C_Taken z.1 z.2.1 E H)))
theorem GoodMs.sub {w h : Int} {ms ns : List Mir} (g : GoodMs w h ms) (s : ns.Sublist ms) : GoodMs w h ns := ⟨fun m hm => g.ins m (s.subset hm), fun m hm => g.kind m (s.subset hm), g.nd.sublist (s.map mK)⟩
theorem WishT.same {C : Addr} {x y : Int} {E : XK} {H H1 : Hp} (h : WishT C x y E H) (s : Same H H1) : WishT C x y E H1 := fun d q H' s' => h d q H' (s.trans s')
theorem WishV.same {C : Addr} {v : V} {E : XK} {H H1 : Hp} (h : WishV C v E H) (s : Same H H1) : WishV C v E H1 := fun d H' s' => h d H' (s.trans s')
/-- a turn of a loop over good mirrors -/
theorem GoodMs.at {w h : Int} {ms : List Mir} {i : Nat} {z : Mir} (g : GoodMs w h ms) (hz : ms[i]? = some z) : Ins w h z.1 z.2.1 ∧ KindOk z.2.2 ∧ mK z ∉ (ms.take i).map mK := by
  refine ⟨g.ins z (List.mem_of_getElem? hz), g.kind z (List.mem_of_getElem? hz), fun hm => ?_⟩
  have nd := g.nd
  have tk : ms.take (i + 1) = ms.take i ++ [z] := by rw [List.take_add_one, hz]; rfl
  have h2 : ((ms.take (i + 1)).map mK).Nodup := nd.sublist ((List.take_sublist _ _).map mK)
  rw [tk, List.map_append, List.nodup_append] at h2
  exact h2.2.2 _ hm _ (by simp) rfl
theorem ok_kinds_of (T : Txt K mg A) : FnOk P w K mg base (L2.CX P w) 4 A.f_kinds_of A.d_kinds_of P_kinds_of (spKinds A) := by
  have G_check_mirror := ok_check_mirror (P := P) (w := w) (base := base) T
  refine T.F_kinds_of.okX sc_kinds_of (fun vs H Q E h => ?_) (fun cdv A' outer s H vs Q E hr h => ?_)
  · obtain ⟨a, b, c, ms, rfl, _⟩ := h
    rfl
  · obtain ⟨w', h', l, ms, rfl, ⟨as, hl, tt⟩, hlen, kk⟩ := h
    have hu := hu_of hr
    refine ⟨_, (pss_cons (ps_set (i := 3) sc_kinds_of.nd rfl (Or.inl rfl) pe_dnewT)
(pss_cons (ps_for (passes_of rfl) rfl (pi_list (pv 2)) (pg_tup rfl (pgs_cons (pg_name (i := 4) sc_kinds_of.nd rfl (Or.inl rfl)) (pgs_cons (pg_name (i := 5) sc_kinds_of.nd rfl (Or.inl rfl)) (pgs_cons (pg_name (i := 6) sc_kinds_of.nd rfl (Or.inl rfl)) pgs_nil))))
(pss_cons (ps_expr (pe_call G_check_mirror (hr.mono (by first | decide | omega)) rfl T.g_check_mirror T.k_check_mirror T.b_check_mirror .nil (passes_call (takes_of rfl rfl rfl rfl) (fun _ _ _ _ h => h)) (pa_cons (pv 0) (pa_cons (pv 1) (pa_cons (pv 3) (pa_cons (pe_tup (pa_cons (pv 4) (pa_cons (pv 5) (pa_cons (pv 6) pa_nil)))) pa_nil))))))
(pss_one (ps_dput hu (pv 3) (pe_tup (pa_cons (pv 4) (pa_cons (pv 5) pa_nil))) (pv 6) rfl))))
(pss_one (ps_ret (pv 3))))), ?_⟩
    walk_at "rs"
    intro d hd
    have hld : l ≠ d := ne_of_none hl hd
    have hal : as.length = ms.length := by rw [Paired.length tt, List.length_map]
    walk_at "rs"
    -- what is known of the place reached: good so far, and not beyond the bad one
    refine ⟨l, rfl, ⟨_, SqL.of (by walk_at "hl")⟩, for_list (K := K) (a := l) (xs := as.map V.ref) (fun i σ H1 => ∃ (v4 v5 v6 : Option V), σ = [some (.int w'), some (.int h'), some (.ref l), some (.ref d), v4, v5, v6] ∧
      Same H H1 ∧ H1 d = some (.dT (kvsOf (ms.take i))) ∧ GoodMs w' h' (ms.take i) ∧
      (∀ j z, ms[j]? = some z → GoodMs w' h' (ms.take j) → (¬ Ins w' h' z.1 z.2.1 ∨ (Ins w' h' z.1 z.2.1 ∧ ¬ KindOk z.2.2) ∨ (Ins w' h' z.1 z.2.1 ∧ KindOk z.2.2 ∧ mK z ∈ (ms.take j).map mK)) → i ≤ j)) ?_ ?_ ?_ ?_⟩
    · exact ⟨none, none, none, rfl, Same.new hd, upd_same, ⟨fun _ h => by simp at h, fun _ h => by simp at h, List.nodup_nil⟩, fun j z _ _ _ => Nat.zero_le _⟩
    · rintro i σ H1 _ ⟨_, _, _, _, sm, _⟩
      exact SqL.of (sm _ _ hl)
    · rintro i x σ H1 hi ⟨v4, v5, v6, rfl, sm, hd1, gd, nb⟩
      obtain ⟨a, xs, rfl, ha, hx, hta⟩ := (tt.keep fun b xs h => sm b _ h).get hi
      obtain ⟨z, hz, rfl⟩ : ∃ z, ms[i]? = some z ∧ xs = mV z := by
        rw [List.getElem?_map] at hx
        cases e : ms[i]? with
        | none => rw [e] at hx; cases hx
        | some z => rw [e] at hx; exact ⟨z, rfl, (Option.some.inj hx).symm⟩
      have tk : ms.take (i + 1) = ms.take i ++ [z] := by rw [List.take_add_one, hz]; rfl
      have hil : i < ms.length := (List.getElem?_eq_some_iff.mp hz).1
      walk_at "rs"
      intro m hm
      walk_at "rs"
      -- where the bad one is the one at hand, the wish is there; otherwise it is none of the three
      have key : ∀ (bad : ¬ Ins w' h' z.1 z.2.1 ∨ (Ins w' h' z.1 z.2.1 ∧ ¬ KindOk z.2.2) ∨ (Ins w' h' z.1 z.2.1 ∧ KindOk z.2.2 ∧ mK z ∈ (ms.take i).map mK)),
          ((¬ Ins w' h' z.1 z.2.1 ∧ WishT A.C_InvalidPoint z.1 z.2.1 E H) ∨ (Ins w' h' z.1 z.2.1 ∧ ¬ KindOk z.2.2 ∧ WishV A.C_InvalidMirror (.str z.2.2) E H) ∨ (Ins w' h' z.1 z.2.1 ∧ KindOk z.2.2 ∧ mK z ∈ (ms.take i).map mK ∧ WishT A.C_Taken z.1 z.2.1 E H)) := by
        intro bad
        rcases kk with ⟨g, _⟩ | ⟨j, y, hy, gj, wish⟩
        · obtain ⟨g1, g2, g3⟩ := g.at hz
          rcases bad with b | ⟨_, b⟩ | ⟨_, _, b⟩
          · exact absurd g1 b
          · exact absurd g2 b
          · exact absurd b g3
        · have hij : i ≤ j := nb j y hy gj (by
            rcases wish with ⟨a, _⟩ | ⟨a, b, _⟩ | ⟨a, b, c, _⟩
            · exact .inl a
            · exact .inr (.inl ⟨a, b⟩)
            · exact .inr (.inr ⟨a, b, c⟩))
          rcases Nat.lt_or_eq_of_le hij with hlt | e
          · exfalso
            have hz' : (ms.take j)[i]? = some z := by rw [List.getElem?_take_of_lt hlt]; exact hz
            obtain ⟨g1, g2, g3⟩ := gj.at hz'
            rw [List.take_take, Nat.min_eq_left (Nat.le_of_lt hlt)] at g3
            rcases bad with b | ⟨_, b⟩ | ⟨_, _, b⟩
            · exact b g1
            · exact b g2
            · exact g3 b
          · subst e
            rw [hz] at hy
            cases hy
            exact wish
      have smn : Same H (upd H1 m (.tup (mV z))) := sm.trans (Same.new hm)
      refine ⟨w', h', d, m, kvsOf (ms.take i), z, rfl, by walk_at "hl", upd_same, fun n1 => ?_, fun i1 n2 => ?_, fun i1 i2 n3 => ?_, fun i1 i2 n3 H2 sm2 => ?_⟩
      · rcases key (.inl n1) with ⟨_, q⟩ | ⟨q, _⟩ | ⟨q, _⟩
        · exact q.same smn
        · exact absurd q n1
        · exact absurd q n1
      · rcases key (.inr (.inl ⟨i1, n2⟩)) with ⟨q, _⟩ | ⟨_, _, q⟩ | ⟨_, q, _⟩
        · exact absurd i1 q
        · exact q.same smn
        · exact absurd q n2
      · have hmem : mK z ∈ (ms.take i).map mK := by
          refine Classical.byContradiction fun h => n3 (kvs_find.mpr h)
        rcases key (.inr (.inr ⟨i1, i2, hmem⟩)) with ⟨q, _⟩ | ⟨_, q, _⟩ | ⟨_, _, _, q⟩
        · exact absurd i1 q
        · exact absurd i2 q
        · exact q.same smn
      · have hd2 := sm2 d _ (show (upd H1 m (.tup (mV z))) d = some (.dT (kvsOf (ms.take i))) by walk_at "hl")
        walk_at "rs"
        intro q hq
        have hdq : d ≠ q := ne_of_none hd2 hq
        have hlt : (kvsOf (ms.take i)).length < sizeLine := by rw [kvs_len]; exact small1000 (by rw [List.length_take]; omega)
        refine ⟨d, _, rfl, DPut.t (k := ptK (mK z)) (by walk_at "hl") upd_same hlt, ?_⟩
        refine ⟨_, _, _, rfl, ((smn.trans sm2).trans (Same.new hq)).mut hd, ?_, ?_, fun j y hy gj bad => ?_⟩
        · rw [upd_same, putK_new _ n3, tk]
          unfold kvsOf
          rw [List.map_append]
          rfl
        · rw [tk]
          refine ⟨fun m hm => ?_, fun m hm => ?_, ?_⟩
          · rcases List.mem_append.mp hm with hm | hm
            · exact gd.ins m hm
            · rw [List.mem_singleton] at hm; subst hm; exact i1
          · rcases List.mem_append.mp hm with hm | hm
            · exact gd.kind m hm
            · rw [List.mem_singleton] at hm; subst hm; exact i2
          · rw [List.map_append, List.nodup_append]
            refine ⟨gd.nd, by simp, fun a ha b hb => ?_⟩
            rw [List.map_singleton, List.mem_singleton] at hb
            subst hb
            intro e
            subst e
            exact kvs_find.mp n3 ha
        · have h1 := nb j y hy gj bad
          rcases Nat.lt_or_eq_of_le h1 with h1 | e
          · exact h1
          · exfalso
            subst e
            rw [hz] at hy
            cases hy
            rcases bad with b | ⟨_, b⟩ | ⟨_, _, b⟩
            · exact b i1
            · exact b i2
            · exact kvs_find.mp n3 b
    · rintro σ H1 ⟨v4, v5, v6, rfl, sm, hd1, gd, nb⟩
      rw [List.length_map, hal] at hd1 gd nb
      rw [List.take_length] at hd1 gd
      walk_at "rs"
      rcases kk with ⟨_, kk⟩ | ⟨j, y, hy, gj, wish⟩
      · exact kk d H1 hd sm hd1
      · exfalso
        have h1 := nb j y hy gj (by
            rcases wish with ⟨a, _⟩ | ⟨a, b, _⟩ | ⟨a, b, c, _⟩
            · exact .inl a
            · exact .inr (.inl ⟨a, b⟩)
            · exact .inr (.inr ⟨a, b, c⟩))
        have h2 := (List.getElem?_eq_some_iff.mp hy).1
        omega
end
/-! ### Board -/
def bflds (w h : Int) (d : Addr) : List (Str × V) := putF "kinds" (.ref d) (putF "high" (.int h) (putF "wide" (.int w) []))
theorem n_kh : ¬ (("kinds" : Str) = "high") := by decide +kernel
theorem n_kw : ¬ (("kinds" : Str) = "wide") := by decide +kernel
theorem n_hw : ¬ (("high" : Str) = "wide") := by decide +kernel
theorem n_hk : ¬ (("high" : Str) = "kinds") := by decide +kernel
theorem n_wk : ¬ (("wide" : Str) = "kinds") := by decide +kernel
theorem n_wh : ¬ (("wide" : Str) = "high") := by decide +kernel
theorem bf_kinds (w h : Int) (d : Addr) : (bflds w h d).lookup ("kinds" : Str) = some (.ref d) := by
  unfold bflds
  rw [lookup_putF, if_pos rfl]
theorem bf_high (w h : Int) (d : Addr) : (bflds w h d).lookup ("high" : Str) = some (.int h) := by
  unfold bflds
  rw [lookup_putF, if_neg n_hk, lookup_putF, if_pos rfl]
theorem bf_wide (w h : Int) (d : Addr) : (bflds w h d).lookup ("wide" : Str) = some (.int w) := by
  unfold bflds
  rw [lookup_putF, if_neg n_wk, lookup_putF, if_neg n_wh, lookup_putF, if_pos rfl]
theorem bf_no (w h : Int) (d : Addr) {m : Str} (h1 : ¬ m = "kinds") (h2 : ¬ m = "high") (h3 : ¬ m = "wide") : (bflds w h d).lookup m = none := by
  unfold bflds
  rw [lookup_putF, if_neg h1, lookup_putF, if_neg h2, lookup_putF, if_neg h3]
  rfl
/-- a board stands at p -/
def BoardAt (C : Addr) (H : Hp) (p : Addr) (w h : Int) (ms : List Mir) : Prop := ∃ dx d, H p = some (.ins C dx (bflds w h d)) ∧ H d = some (.dT (kvsOf ms))
theorem BoardAt.same {C : Addr} {H H' : Hp} {p : Addr} {w h : Int} {ms : List Mir} (b : BoardAt C H p w h ms) (s : Same H H') : BoardAt C H' p w h ms := by
  obtain ⟨dx, d, e1, e2⟩ := b
  exact ⟨dx, d, s _ _ e1, s _ _ e2⟩
theorem BoardAt.keep2 {C : Addr} {H H' : Hp} {p q c : Addr} {n : Nat} {w h : Int} {ms : List Mir} (b : BoardAt C H p w h ms) (hh : HandAt H q c n) (s : Keep2 q c H H') : BoardAt C H' p w h ms := by
  obtain ⟨dx, d, e1, e2⟩ := b
  obtain ⟨_, f1⟩ := hh.p
  obtain ⟨_, f2⟩ := hh.c
  exact ⟨dx, d, s _ _ e1 (ne_of e1 f1 (fun z => nomatch z)) (ne_of e1 f2 (fun z => nomatch z)), s _ _ e2 (ne_of e2 f1 (fun z => nomatch z)) (ne_of e2 f2 (fun z => nomatch z))⟩
def spBoard (A : Ad) : Sp := fun vs H Q E => ∃ (p dx : Addr) (w h : Int) (l : Addr) (ms : List Mir), vs = [.ref p, .int w, .int h, .ref l] ∧ H p = some (.ins A.C_Board dx []) ∧ MsAt H l ms ∧ ms.length ≤ 500 ∧
  ((w < 1 ∧ WishV A.C_InvalidSize (.int w) E H) ∨ (1 ≤ w ∧ h < 1 ∧ WishV A.C_InvalidSize (.int h) E H) ∨
   (1 ≤ w ∧ 1 ≤ h ∧ GoodMs w h ms ∧ ∀ H', (∀ b o, H b = some o → b ≠ p → H' b = some o) → BoardAt A.C_Board H' p w h ms → Q .non H') ∨
   (1 ≤ w ∧ 1 ≤ h ∧ ∃ (i : Nat) (z : Mir), ms[i]? = some z ∧ GoodMs w h (ms.take i) ∧
     ((¬ Ins w h z.1 z.2.1 ∧ ∀ H1, (∀ b o, H b = some o → b ≠ p → H1 b = some o) → WishT A.C_InvalidPoint z.1 z.2.1 E H1) ∨ (Ins w h z.1 z.2.1 ∧ ¬ KindOk z.2.2 ∧ ∀ H1, (∀ b o, H b = some o → b ≠ p → H1 b = some o) → WishV A.C_InvalidMirror (.str z.2.2) E H1) ∨
      (Ins w h z.1 z.2.1 ∧ KindOk z.2.2 ∧ mK z ∈ (ms.take i).map mK ∧ ∀ H1, (∀ b o, H b = some o → b ≠ p → H1 b = some o) → WishT A.C_Taken z.1 z.2.1 E H1))))
def spMirAt (A : Ad) : Sp := fun vs H Q E => ∃ (p : Addr) (w h : Int) (ms : List Mir) (x y : Int), vs = [.ref p, .int x, .int y] ∧ BoardAt A.C_Board H p w h ms ∧
  (¬ Ins w h x y → WishT A.C_InvalidPoint x y E H) ∧ (Ins w h x y → ∀ H', Same H H' → Q ((valV (kvsOf ms) (ptK (x, y))).getD .non) H')
section
variable {P : Program} {w : World} {K : PySem.W.Frag} {mg : Str → Option Value} {base : Heap} {A : Ad}
theorem ok_Board_mirror_at (T : Txt K mg A) : FnOk P w K mg base (L2.CX P w) 3 A.f_Board_mirror_at A.d_Board_mirror_at P_Board_mirror_at (spMirAt A) := by
  have G_SandError___init__ := ok_SandError___init__ (P := P) (w := w) (base := base) T
  have G_is_inside := ok_is_inside (P := P) (w := w) (base := base) T
  refine T.F_Board_mirror_at.okX sc_Board_mirror_at (fun vs H Q E h => ?_) (fun cdv A' outer s H vs Q E hr h => ?_)
  · obtain ⟨p, a, b, ms, x, y, rfl, _⟩ := h
    rfl
  · obtain ⟨p, w', h', ms, x, y, rfl, ⟨dx, d, hp, hd⟩, e1, kk⟩ := h
    have hu := hu_of hr
    refine ⟨_, (pss_cons (ps_if (pt_not (pt_val (pe_call G_is_inside (hr.mono (by first | decide | omega)) rfl T.g_is_inside T.k_is_inside T.b_is_inside .nil pass0 (pa_cons (pe_fld (pv 0) rfl) (pa_cons (pe_fld (pv 0) rfl) (pa_cons (pv 1) (pa_cons (pv 2) pa_nil)))))))
(pss_one (ps_raise rfl (takes_of rfl rfl rfl rfl) (pmk_oex T.X_InvalidPoint T.i_InvalidPoint T.ti_init G_SandError___init__ (hr.mono (by first | decide | omega)) T.b_SandError___init__ .nil pass0 rfl T.g_InvalidPoint (pa_cons (pe_tup (pa_cons (pv 1) (pa_cons (pv 2) pa_nil))) pa_nil))))
pss_nil)
(pss_one (ps_ret (pe_dget1 hu (pe_fld (pv 0) rfl) (pe_tup (pa_cons (pv 1) (pa_cons (pv 2) pa_nil))) ⟨by rfl, by rfl, by rfl, by rfl⟩)))), ?_⟩
    walk_at "rs"
    refine ⟨p, A.C_Board, dx, _, _, rfl, hp, T.cl_Board, T.na_Board_wide, bf_wide _ _ _, ?_⟩
    walk_at "rs"
    refine ⟨p, A.C_Board, dx, _, _, rfl, hp, T.cl_Board, T.na_Board_high, bf_high _ _ _, ?_⟩
    walk_at "rs"
    refine ⟨w', h', _, _, rfl, fun b hb => ?_⟩
    walk_at "rs"
    refine r_iteNB (fun c1 => ?_) (fun c1 => ?_)
    · walk_at "rs"
      intro q hq
      walk_at "rs"
      refine ⟨(by show 1 ≤ 1000; decide), raise_val T.X_InvalidPoint T.no_InvalidPoint fun d' H' sm hd' => ?_⟩
      exact e1 (fun h => by rw [hb.mpr h] at c1; cases c1) d' q H' ((Same.new hq).trans sm) hd' (sm _ _ upd_same)
    · walk_at "rs"
      refine ⟨p, A.C_Board, dx, _, _, rfl, hp, T.cl_Board, T.na_Board_kinds, bf_kinds _ _ _, ?_⟩
      walk_at "rs"
      refine ⟨d, rfl, .inr ⟨_, .inl hd⟩, ?_⟩
      walk_at "rs"
      intro q hq
      refine ⟨_, DGet.t (k := ptK (x, y)) (by walk_at "hl") upd_same, ?_⟩
      walk_at "rs"
      exact kk (hb.mp c1) _ (Same.new hq)
theorem ok_Board___init__ (T : Txt K mg A) : FnOk P w K mg base (L2.CX P w) 5 A.f_Board___init__ A.d_Board___init__ P_Board___init__ (spBoard A) := by
  have G_SandError___init__ := ok_SandError___init__ (P := P) (w := w) (base := base) T
  have G_kinds_of := ok_kinds_of (P := P) (w := w) (base := base) T
  refine T.F_Board___init__.okX sc_Board___init__ (fun vs H Q E h => ?_) (fun cdv A' outer s H vs Q E hr h => ?_)
  · obtain ⟨p, dx, a, b, l, ms, rfl, _⟩ := h
    rfl
  · obtain ⟨p, dx, w', h', l, ms, rfl, hp, ⟨as, hl, tt⟩, hlen, kk⟩ := h
    have hlp : l ≠ p := ne_of hl hp (fun z => nomatch z)
    refine ⟨_, (pss_cons (ps_if (pt_cmpR op_lt (pv 1) pe_int (nomark _))
(pss_one (ps_raise rfl (takes_of rfl rfl rfl rfl) (pmk_oex T.X_InvalidSize T.i_InvalidSize T.ti_init G_SandError___init__ (hr.mono (by first | decide | omega)) T.b_SandError___init__ .nil pass0 rfl T.g_InvalidSize (pa_cons (pv 1) pa_nil))))
pss_nil)
(pss_cons (ps_if (pt_cmpR op_lt (pv 2) pe_int (nomark _))
(pss_one (ps_raise rfl (takes_of rfl rfl rfl rfl) (pmk_oex T.X_InvalidSize T.i_InvalidSize T.ti_init G_SandError___init__ (hr.mono (by first | decide | omega)) T.b_SandError___init__ .nil pass0 rfl T.g_InvalidSize (pa_cons (pv 2) pa_nil))))
pss_nil)
(pss_cons (ps_fld (pv 0) (pv 1) rfl)
(pss_cons (ps_fld (pv 0) (pv 2) rfl)
(pss_one (ps_fld (pv 0) (pe_call G_kinds_of (hr.mono (by first | decide | omega)) rfl T.g_kinds_of T.k_kinds_of T.b_kinds_of .nil (passes_call (takes_of rfl rfl rfl rfl) (fun _ _ _ _ h => h)) (pa_cons (pv 1) (pa_cons (pv 2) (pa_cons (pv 3) pa_nil)))) rfl)))))), ?_⟩
    walk_at "rs"
    refine r_ite (fun c1 => ?_) (fun c1 => ?_)
    · have wish : WishV A.C_InvalidSize (.int w') E H := by
        rcases kk with ⟨_, q⟩ | ⟨q, _⟩ | ⟨q, _⟩ | ⟨q, _⟩
        · exact q
        · omega
        · omega
        · omega
      walk_at "rs"
      exact ⟨(by show 1 ≤ 1000; decide), raise_val T.X_InvalidSize T.no_InvalidSize wish⟩
    · walk_at "rs"
      refine r_ite (fun c2 => ?_) (fun c2 => ?_)
      · have wish : WishV A.C_InvalidSize (.int h') E H := by
          rcases kk with ⟨q, _⟩ | ⟨_, _, q⟩ | ⟨_, q, _⟩ | ⟨_, q, _⟩
          · omega
          · exact q
          · omega
          · omega
        walk_at "rs"
        exact ⟨(by show 1 ≤ 1000; decide), raise_val T.X_InvalidSize T.no_InvalidSize wish⟩
      · walk_at "rs"
        refine ⟨p, A.C_Board, dx, _, rfl, hp, T.cl_Board, T.na_Board_wide, (by show 0 < 1000; decide), ?_⟩
        walk_at "rs"
        refine ⟨p, A.C_Board, dx, _, rfl, upd_same, T.cl_Board, T.na_Board_high, (by show 1 < 1000; decide), ?_⟩
        walk_at "rs"
        rw [upd_upd]
        have km : ∀ b o, H b = some o → b ≠ p → (upd H p (.ins A.C_Board dx (putF "high" (.int h') (putF "wide" (.int w') [])))) b = some o := fun b o e ne => by rw [upd_ne ne]; exact e
        refine ⟨w', h', l, ms, rfl, ⟨as, by walk_at "hl", tt.keep fun b xs e => by rw [upd_ne (ne_of e hp (fun z => nomatch z))]; exact e⟩, hlen, ?_⟩
        rcases kk with ⟨q, _⟩ | ⟨_, q, _⟩ | ⟨_, _, g, kk⟩ | ⟨_, _, i, z, hz, g, wish⟩
        · omega
        · omega
        · refine .inl ⟨g, fun d H2 hd sm hd2 => ?_⟩
          have hp2 := sm p _ upd_same
          walk_at "rs"
          refine ⟨p, A.C_Board, dx, _, rfl, hp2, T.cl_Board, T.na_Board_kinds, (by show 2 < 1000; decide), ?_⟩
          walk_at "rs"
          have hdp : d ≠ p := (ne_of_none (upd_same (H := H)) hd).symm
          exact kk _ (fun b o e ne => by rw [upd_ne ne]; exact sm b o (km b o e ne)) ⟨dx, d, upd_same, by walk_at "hl"⟩
        · refine .inr ⟨i, z, hz, g, ?_⟩
          rcases wish with ⟨a, q⟩ | ⟨a, b, q⟩ | ⟨a, b, c, q⟩
          · exact .inl ⟨a, q _ km⟩
          · exact .inr (.inl ⟨a, b, q _ km⟩)
          · exact .inr (.inr ⟨a, b, c, q _ km⟩)
end
/-! ### sorted(list of mirrors) -/
def mKeyL (m : Mir) : List (Int ⊕ List Nat) := [.inl m.1, .inl m.2.1, .inr m.2.2.cps.toList]
def Mle (a b : Mir) : Prop := (listOrd itemOrd).kle (mKeyL a) (mKeyL b)
theorem mKeyL_inj {a b : Mir} (e : mKeyL a = mKeyL b) : a = b := by
  obtain ⟨x, y, k⟩ := a
  obtain ⟨x', y', k'⟩ := b
  unfold mKeyL at e
  injection e with e1 e
  injection e with e2 e
  injection e with e3 e
  injection e1 with e1
  injection e2 with e2
  injection e3 with e3
  have e4 : k = k' := by
    obtain ⟨c⟩ := k
    obtain ⟨c'⟩ := k'
    have e5 : c.toList = c'.toList := e3
    rw [Array.ext' e5]
  dsimp only at e1 e2
  subst e1 e2 e4
  rfl
theorem Mle.anti {a b : Mir} (h1 : Mle a b) (h2 : Mle b a) : a = b := mKeyL_inj (KeyOrd.kle_antisymm h1 h2)
/-- what is sorted is one -/
theorem sorted_one {ms ns : List Mir} (p : ms.Perm ns) (h1 : ms.Pairwise Mle) (h2 : ns.Pairwise Mle) : ms = ns := p.eq_of_pairwise (fun _ _ _ _ a b => Mle.anti a b) h1 h2
def rdM (H : Hp) (a : Addr) : Mir := match H a with
  | some (.tup [.int x, .int y, .str k]) => (x, y, k)
  | _ => (0, 0, "")
theorem rdM_of {H : Hp} {a : Addr} {m : Mir} (h : H a = some (.tup (mV m))) : rdM H a = m := by
  unfold rdM
  rw [h]
theorem tups_rd {H : Hp} : ∀ {as : List Addr} {ms : List Mir}, TupsAt H as (ms.map mV) → ms = as.map (rdM H) ∧ ∀ a ∈ as, H a = some (.tup (mV (rdM H a)))
  | [], [], _ => ⟨rfl, fun a h => by simp at h⟩
  | a :: as, m :: ms, t => by
    rw [List.map_cons] at t
    cases t with
    | cons h t =>
      obtain ⟨e1, e2⟩ := tups_rd t
      refine ⟨by rw [List.map_cons, rdM_of h, ← e1], fun b hb => ?_⟩
      rcases List.mem_cons.mp hb with e | hb
      · subst e
        rw [rdM_of h]
        exact h
      · exact e2 b hb
  | [], m :: ms, t => by rw [List.map_cons] at t; cases t
  | a :: as, [], t => by cases t
theorem tups_mk {H : Hp} : ∀ {as : List Addr}, (∀ a ∈ as, H a = some (.tup (mV (rdM H a)))) → TupsAt H as ((as.map (rdM H)).map mV)
  | [], _ => .nil
  | a :: as, h => .cons (h a (by simp)) (tups_mk fun b hb => h b (by simp [hb]))
def shM : Nat → Bool := fun i => i == 2
theorem refs_of : ∀ {as : List Addr} {us : List Value}, Vals (as.map V.ref) us → us = as.map Value.ref
  | [], _, r => by cases r; rfl
  | a :: as, _, r => by
    rw [List.map_cons] at r
    cases r with
    | cons h t =>
      cases h
      rw [refs_of t]
      rfl
theorem refs_vals : ∀ as : List Addr, Vals (as.map V.ref) (as.map Value.ref)
  | [] => .nil
  | a :: as => .cons (show RelV (.ref a) (.ref a) from rfl) (refs_vals as)
def unR : Value → Addr
  | .ref a => a
  | _ => 0
theorem unR_map (as : List Addr) : (as.map Value.ref).map unR = as := by
  induction as with
  | nil => rfl
  | cons a as ih => rw [List.map_cons, List.map_cons, ih]; rfl
theorem refs_back {us : List Value} {as : List Addr} (p : us.Perm (as.map Value.ref)) : ∃ as' : List Addr, us = as'.map Value.ref ∧ as'.Perm as := by
  refine ⟨us.map unR, ?_, ?_⟩
  · have h : ∀ u ∈ us, Value.ref (unR u) = u := fun u hu => by
      obtain ⟨a, _, rfl⟩ := List.mem_map.mp (p.mem_iff.mp hu)
      rfl
    rw [List.map_map]
    have e : us.map (Value.ref ∘ unR) = us.map id := List.map_congr_left fun u hu => h u hu
    rw [e, List.map_id]
  · have q := p.map unR
    rw [unR_map] at q
    exact q
section
variable {X : Cx} {pins : List (Addr × Obj)} {σ : L2.St} {H : Hp} {s : Shared}
theorem tup_raw (I : Inv X pins σ H s) {a : Addr} {m : Mir} (h : H a = some (.tup (mV m))) : G.tupKeyC s.heap shM (.ref a) = some (mKeyL m) ∧ ∃ f, TupOf s.heap shM (.ref a) f := by
  obtain ⟨its, rv, ⟨o, ho, hc, n, hd⟩, _⟩ := I.tuple (SqT.of h)
  cases rv with
  | cons r1 rv =>
    cases rv with
    | cons r2 rv =>
      cases rv with
      | cons r3 rv =>
        cases rv
        obtain ⟨t1, rfl⟩ := r1
        obtain ⟨t2, rfl⟩ := r2
        obtain ⟨t3, rfl⟩ := r3
        constructor
        · have e1 : G.isTupObj s.heap (.ref a) = true := by simp [G.isTupObj, ho, hc]
          unfold G.tupKeyC
          rw [if_pos e1]
          simp only [tupKey, ho, hd]
          rfl
        · exact ⟨_, a, o, _, n, rfl, ho, hc, hd, rfl, fun _ => ⟨_, _, rfl⟩, fun e => absurd e (by decide)⟩
theorem tups_raw (I : Inv X pins σ H s) : ∀ {as : List Addr}, (∀ a ∈ as, H a = some (.tup (mV (rdM H a)))) → ∃ fs, TupsOf s.heap shM (as.map Value.ref) fs
  | [], _ => ⟨[], .nil⟩
  | a :: as, h => by
    obtain ⟨fs, t⟩ := tups_raw I (as := as) fun b hb => h b (by simp [hb])
    obtain ⟨_, f, hf⟩ := tup_raw I (h a (by simp))
    exact ⟨f :: fs, .cons hf t⟩
theorem snd_perm {vs : List Value} {arr : Array Keyed} (p : arr.Perm (pairsOf vs)) : (arr.toList.map Prod.snd).Perm vs := by
  have e := (Array.perm_iff_toList_perm.mp p).map Prod.snd
  rw [pairsOf_toList, List.map_snd_zip (Nat.le_refl _)] at e
  exact e
theorem snd_sorted {h : Heap} {vs : List Value} {arr : Array Keyed} (p : arr.Perm (pairsOf vs)) (hs : SortedToK (G.tupKindC h shM) arr (pairsOf vs).size) :
    (arr.toList.map Prod.snd).Pairwise fun u v => (listOrd itemOrd).kle ((G.tupKeyC h shM u).getD []) ((G.tupKeyC h shM v).getD []) := by
  have m : ∀ q ∈ arr.toList, q.1 = q.2 := fun q hq => by
    have hq' := (Array.perm_iff_toList_perm.mp p).mem_iff.mp hq
    rw [pairsOf_toList] at hq'
    exact (mem_zip_self hq').1
  have hsz : arr.toList.length = (pairsOf vs).size := by
    rw [(Array.perm_iff_toList_perm.mp p).length_eq, Array.length_toList]
  rw [List.pairwise_iff_getElem]
  intro i j hi hj hij
  rw [List.length_map] at hi hj
  have z := hs i j (by omega) (by omega)
  have ka : ∀ k (hk : k < arr.toList.length), KK (G.tupKindC h shM) arr k = (G.tupKeyC h shM (arr.toList[k]).2).getD [] := fun k hk => by
    have e : arr[k]? = some (arr.toList[k]) := by rw [← Array.getElem?_toList]; exact List.getElem?_eq_getElem hk
    unfold KK
    rw [e]
    show (G.tupKeyC h shM (arr.toList[k]).1).getD [] = _
    rw [m _ (List.getElem_mem hk)]
  rw [ka i hi, ka j hj] at z
  rw [List.getElem_map, List.getElem_map]
  exact z
def rSortM : List V → Hp → VK → Prop := fun vs H Q => ∃ (l : Addr) (ms : List Mir), vs = [.ref l] ∧ MsAt H l ms ∧
  ∀ (ns : List Mir) (p : Addr) (H' : Hp), ns.Perm ms → ns.Pairwise Mle → H p = none → MsAt H' p ns → Same H H' → Q (.ref p) H'
theorem c_sortM : CallR X (.builtin "sorted") rSortM := by
  intro pins s σ H vs us Q I r h
  obtain ⟨l, ms, rfl, ⟨as, hl, tt⟩, q⟩ := h
  obtain ⟨hm, ha⟩ := tups_rd tt
  obtain ⟨its, rv, pl, hz⟩ := I.list (SqL.of hl)
  obtain rfl := refs_of rv
  obtain ⟨fs, tf⟩ := tups_raw I ha
  rw [Vals.ref1 r]
  refine G.sorted_tups pl.isList tf (fun v hv => ?_) (by rw [List.length_map]; rw [List.length_map] at hz; exact hz) fun st hp hs _ => ?_
  · obtain ⟨a, m, rfl⟩ := List.mem_map.mp hv
    exact ⟨_, (tup_raw I (ha a m)).1⟩
  · have p1 := snd_perm hp
    have p2 := snd_sorted hp hs
    obtain ⟨as', e1, p3⟩ := refs_back p1
    rw [e1] at p2
    obtain ⟨ep, he⟩ := PyProof.Rows.sortedAll_at s.heap (as.map Value.ref) ((arrOf st).map (·.2))
    have e2 : ((arrOf st).map (·.2)).toList = as'.map Value.ref := by rw [Array.toList_map]; exact e1
    have ha' : ∀ a ∈ as', H a = some (.tup (mV (rdM H a))) := fun a m => ha a (p3.mem_iff.mp m)
    have hfr : H (s.heap.objs.size + 1) = none := I.hok.fresh (Nat.le_succ _)
    have hlen : (as'.map V.ref).length ≤ sizeLine := by
      rw [List.length_map, p3.length_eq]
      rw [List.length_map] at hz
      exact hz
    generalize (arrOf st).map (·.2) = out at e2 he ⊢
    refine ⟨.ref _, upd H (s.heap.objs.size + 1) (.lst (as'.map V.ref)), I.laid (t' := s.toks) (fun _ _ => PyProof.Rows.sortedAll_old) (Nat.le_succ _) ⟨hlen, out.toList, ep, by rw [e2]; exact refs_vals as', he⟩, rfl, ?_⟩
    refine q (as'.map (rdM H)) _ _ (by rw [hm]; exact p3.map _) ?_ hfr ⟨as', upd_same, (tups_mk ha').new hfr⟩ (Same.new hfr)
    rw [List.pairwise_map]
    rw [List.pairwise_map] at p2
    refine List.Pairwise.imp_of_mem (fun {a b} ma mb z => ?_) p2
    rw [(tup_raw I (ha' a ma)).1, (tup_raw I (ha' b mb)).1] at z
    exact z
end
/-! ### len of an own object -/
section
variable {X : Cx} {CX : CXT} {k : Nat} {C g : Addr} {fd : FuncData} {ps : List Str} {sp : Sp}
def rLenO (C : Addr) (sp : Sp) : List V → Hp → VK → Prop := fun xs H Q => ∃ a dx fs, xs = [.ref a] ∧ H a = some (.ins C dx fs) ∧ sp [.ref a] H (fun v H' => ∃ n : Int, v = .int n ∧ 0 ≤ n ∧ n < 2 ^ 63 ∧ Q (.int n) H') fun _ _ _ => False
theorem c_lenO (F : FnOk X.prog X.w X.K X.mg X.base CX k g fd ps sp) (hr : Room (k + 1) X.A) (hm : Meth X.K C "__len__" g) (hb : Binds X.K fd ps []) (hx : Passes CX X.nox fun _ _ _ => False) : CallR X (.builtin "len") (rLenO C sp) := by
  intro pins s σ H xs us Q I r h
  obtain ⟨a, dx, fs, rfl, ea, h⟩ := h
  rw [Vals.ref1 r]
  obtain ⟨mA, O, _, _, _, _⟩ := ins_get I.hok ea
  obtain ⟨od, J, _⟩ := O.look
  have hl : ([Value.ref a] ++ []).length = ps.length := by
    rw [← F.len _ _ _ _ h]
    rfl
  refine Calls.call_function_entry kind_len plain_len entry_len (args_len1 _) ?_
  unfold Builtin.«len»
  refine wpAny_bind (m := oneArg "len" _) ?_
  refine wpAny_pure ?_
  refine wpAny_bind (m := callSpecial? (.ref a) (Str.ofString "__len__")) ?_
  refine PySem.W.special_fn I.kIn J hm.at_ (beq_iff_eq.mp hm.fn) ?_
  refine wpAny_call ?_
  refine codeAny_mono (F.run X.A.in1 X.stack s H ⟨[Value.ref a], []⟩ ([Value.ref a] ++ []) [V.ref a] _ _ hr.in1 I.env0.in1 (hb _ [Value.ref a] I.kIn hl) (.cons (show RelV (.ref a) (.ref a) from rfl) .nil) h) fun r s' hq => ?_
  cases r with
  | error er => exact False.elim (hx pins σ H s er s' (I.wish _) hq)
  | ok fl =>
    cases fl with
    | ret u =>
      obtain ⟨v, H', I3, rv, n, rfl, h0, h1, q⟩ := I.after hq
      obtain ⟨t, rfl⟩ := rv
      refine wpAny_bind ?_
      refine wpAny_holding ?_
      refine wpAny_pure ?_
      refine wpAny_bind ?_
      refine wpAny_letGo ?_
      show wpAny _ _ (if n < 0 then _ else _) _ _ _
      rw [if_neg (by omega)]
      show wpAny _ _ (if n ≥ 2 ^ 63 then _ else _) _ _ _
      rw [if_neg (by omega)]
      refine wpAny_bind ?_
      refine wpAny_mkInt ?_
      refine wpAny_pure ⟨_, rfl, ?_⟩
      exact ⟨.int n, H', I3.tok _, ⟨_, rfl⟩, q⟩
    | next => exact False.elim hq
    | brk => exact False.elim hq
    | cont => exact False.elim hq
end
/-! ### what a board tells -/
section
variable {σ : L2.St} {H : Hp} {Q : VK}
theorem r_lockE {t : TE} (q : ∃ d u, H d = some u ∧ Mut (some u) ∧ ∀ od, t σ (upd H d (.frz od u)) fun v H' => H' d = some (.frz od u) ∧ Q v (upd H' d u)) : tLockE t σ H Q := q
theorem r_iKeys {td : TE} {R : It → Hp → Prop} (q : td σ H fun x H1 => ∃ d o, x = .ref d ∧ ((∃ kvs, H1 d = some (.frz o (.dK kvs)) ∧ R (Itk d o kvs) H1) ∨ ∃ kvs, H1 d = some (.frz o (.dT kvs)) ∧ R (Itkt d o kvs) H1)) : iKeys td σ H R := q
theorem r_prop {C : Addr} {sp : Sp} {dvs : List V} {E : XK} {ta : TE} (q : ta σ H fun x H1 => ∃ a dx fs, x = .ref a ∧ H1 a = some (.ins C dx fs) ∧ sp (.ref a :: dvs) H1 Q E) : tProp C sp dvs E ta σ H Q := q
end
local macro_rules | `(tactic| walk_at "rs1") => `(tactic| first
  | with_reducible refine r_iKeys ?_
  | with_reducible refine r_prop ?_)
def spMirrs (A : Ad) : Sp := fun vs H Q _ => ∃ (p : Addr) (w h : Int) (ms : List Mir), vs = [.ref p] ∧ BoardAt A.C_Board H p w h ms ∧ ms.length ≤ 500 ∧ (ms.map mK).Nodup ∧
  ∀ (ns : List Mir) (l : Addr) (H' : Hp), ns.Perm ms → ns.Pairwise Mle → H l = none → MsAt H' l ns → Same H H' → Q (.ref l) H'
def spLen (A : Ad) : Sp := fun vs H Q _ => ∃ (p : Addr) (w h : Int) (ms : List Mir), vs = [.ref p] ∧ BoardAt A.C_Board H p w h ms ∧ Q (.int ((ms.length : Nat) : Int)) H
def spWidth (A : Ad) : Sp := fun vs H Q _ => ∃ (p : Addr) (w h : Int) (ms : List Mir), vs = [.ref p] ∧ BoardAt A.C_Board H p w h ms ∧ Q (.int w) H
def spHeight (A : Ad) : Sp := fun vs H Q _ => ∃ (p : Addr) (w h : Int) (ms : List Mir), vs = [.ref p] ∧ BoardAt A.C_Board H p w h ms ∧ Q (.int h) H
theorem kvs_at {ms : List Mir} {i : Nat} {k : List Key} {v : V} (e : (kvsOf ms)[i]? = some (k, v)) : ∃ z, ms[i]? = some z ∧ k = ptK (mK z) ∧ v = .str z.2.2 := by
  unfold kvsOf at e
  rw [List.getElem?_map] at e
  cases h : ms[i]? with
  | none => rw [h] at e; cases e
  | some z =>
    rw [h] at e
    cases e
    exact ⟨z, rfl, rfl, rfl⟩
/-- a thing locked and unlocked again -/
theorem unlock_same {H H' : Hp} {d : Addr} {u : HO} {od : Obj} (h : H d = some u) (s : Same (upd H d (.frz od u)) H') : Same H (upd H' d u) := fun b o e => by
  by_cases hb : b = d
  · subst hb
    rw [h] at e
    cases e
    exact upd_same
  · rw [upd_ne hb]
    exact s b o (by rw [upd_ne hb]; exact e)
section
variable {P : Program} {w : World} {K : PySem.W.Frag} {mg : Str → Option Value} {base : Heap} {A : Ad}
theorem ok_Board_width (T : Txt K mg A) : FnOk P w K mg base CX0 1 A.f_Board_width A.d_Board_width P_Board_width (spWidth A) := by
  refine T.F_Board_width.ok sc_Board_width (fun vs H Q E h => ?_) (fun cdv A' outer s H vs Q E hr h => ?_)
  · obtain ⟨p, a, b, ms, rfl, _⟩ := h
    rfl
  · obtain ⟨p, w', h', ms, rfl, ⟨dx, d, hp, hd⟩, kk⟩ := h
    refine ⟨_, (pss_one (ps_ret (pe_fld (pv 0) rfl))), ?_⟩
    walk_at "rs"
    exact ⟨p, A.C_Board, dx, _, _, rfl, hp, T.cl_Board, T.na_Board_wide, bf_wide _ _ _, kk⟩
theorem ok_Board_height (T : Txt K mg A) : FnOk P w K mg base CX0 1 A.f_Board_height A.d_Board_height P_Board_height (spHeight A) := by
  refine T.F_Board_height.ok sc_Board_height (fun vs H Q E h => ?_) (fun cdv A' outer s H vs Q E hr h => ?_)
  · obtain ⟨p, a, b, ms, rfl, _⟩ := h
    rfl
  · obtain ⟨p, w', h', ms, rfl, ⟨dx, d, hp, hd⟩, kk⟩ := h
    refine ⟨_, (pss_one (ps_ret (pe_fld (pv 0) rfl))), ?_⟩
    walk_at "rs"
    exact ⟨p, A.C_Board, dx, _, _, rfl, hp, T.cl_Board, T.na_Board_high, bf_high _ _ _, kk⟩
theorem ok_Board___len__ (T : Txt K mg A) : FnOk P w K mg base CX0 2 A.f_Board___len__ A.d_Board___len__ P_Board___len__ (spLen A) := by
  refine T.F_Board___len__.ok sc_Board___len__ (fun vs H Q E h => ?_) (fun cdv A' outer s H vs Q E hr h => ?_)
  · obtain ⟨p, a, b, ms, rfl, _⟩ := h
    rfl
  · obtain ⟨p, w', h', ms, rfl, ⟨dx, d, hp, hd⟩, kk⟩ := h
    refine ⟨_, (pss_one (ps_ret (pe_callB call_len_dT (by rfl) T.n_len (by decide +kernel) (pa_cons (pe_fld (pv 0) rfl) pa_nil)))), ?_⟩
    walk_at "rs"
    refine ⟨p, A.C_Board, dx, _, _, rfl, hp, T.cl_Board, T.na_Board_kinds, bf_kinds _ _ _, ?_⟩
    walk_at "rs"
    exact ⟨d, kvsOf ms, rfl, hd, by rw [kvs_len]; exact kk⟩
theorem ok_Board_mirrors (T : Txt K mg A) : FnOk P w K mg base CX0 3 A.f_Board_mirrors A.d_Board_mirrors P_Board_mirrors (spMirrs A) := by
  refine T.F_Board_mirrors.ok sc_Board_mirrors (fun vs H Q E h => ?_) (fun cdv A' outer s H vs Q E hr h => ?_)
  · obtain ⟨p, a, b, ms, rfl, _⟩ := h
    rfl
  · obtain ⟨p, w', h', ms, rfl, ⟨dx, d, hp, hd⟩, hlen, hnd, kk⟩ := h
    have hu := hu_of hr
    refine ⟨_, (pss_one (ps_ret (pe_callB c_sortM (by rfl) T.n_sorted (by decide +kernel) (pa_cons (pe_lock (pe_lc (own := [("x", 1), ("y", 2)]) (g := gTup K 2 (gCons (gName 1) (gCons (gName 2) gNil))) (tt := tYes) (by rfl) sc_Board_mirrors.nd (pi_keys (pe_fld (pv 0) rfl)) (blkOk_by (own := [("x", 1), ("y", 2)]) (N := N_Board_mirrors) (sc := defScope s_Board_mirrors) (by decide +kernel)) (fun _ _ _ _ _ => by exact (pg_tup rfl (pgs_cons (pg_name (i := 1) sc_Board_mirrors.nd rfl (Or.inl rfl)) (pgs_cons (pg_name (i := 2) sc_Board_mirrors.nd rfl (Or.inl rfl)) pgs_nil)))) (fun _ _ _ _ _ => by exact pts_nil) (fun _ _ _ _ _ => by exact (pe_tup (pa_cons (pv 1) (pa_cons (pv 2) (pa_cons (pe_dget (td := tFld K (tVar 0) "kinds") (ty := tTup (tCons (tVar 1) (tCons (tVar 2) tNil))) hu (by exact (pe_fld (pv 0) rfl)) (by exact (pe_tup (pa_cons (pv 1) (pa_cons (pv 2) pa_nil)))) (by exact (fun _ _ => rfl))) pa_nil))))))) pa_nil)))), ?_⟩
    walk_at "rs"
    refine r_lockE ⟨d, .dT (kvsOf ms), hd, True.intro, fun od => ?_⟩
    have hpd : p ≠ d := ne_of hp hd (fun z => nomatch z)
    have hp1 : (upd H d (.frz od (.dT (kvsOf ms)))) p = some (.ins A.C_Board dx (bflds w' h' d)) := by rw [upd_ne hpd]; exact hp
    have hd1 : (upd H d (.frz od (.dT (kvsOf ms)))) d = some (.frz od (.dT (kvsOf ms))) := upd_same
    walk_at "rs"
    refine ⟨p, A.C_Board, dx, _, _, rfl, hp1, T.cl_Board, T.na_Board_kinds, bf_kinds _ _ _, ?_⟩
    refine ⟨d, od, rfl, .inr ⟨kvsOf ms, hd1, fun D hD => lc_it walk_keysT (fun i H9 => Same (upd H d (.frz od (.dT (kvsOf ms)))) H9 ∧ ∃ bs : List Addr, H9 D = some (.lst (bs.map V.ref)) ∧ TupsAt H9 bs ((ms.take i).map mV)) ?_ ?_ ?_ ?_⟩⟩
    · exact ⟨Same.new hD, [], upd_same, .nil⟩
    · rintro i H9 _ ⟨sm, _⟩
      exact sm _ _ hd1
    · rintro i x H9 H10 hi ⟨sm, bs, hDb, tb⟩ ⟨rfl, k, v, q, hk, rfl, hq⟩
      obtain ⟨z, hz, rfl, rfl⟩ := kvs_at hk
      have hq' : H10 q = some (.tup [.int z.1, .int z.2.1]) := hq
      have hp9 := sm _ _ hp1
      have hd9 := sm _ _ hd1
      walk_at "rs"
      refine ⟨rfl, ?_⟩
      walk_at "rs"
      refine ⟨p, A.C_Board, dx, _, _, rfl, hp9, T.cl_Board, T.na_Board_kinds, bf_kinds _ _ _, ?_⟩
      walk_at "rs"
      intro q2 hq2
      have hzm : z ∈ ms := List.mem_of_getElem? hz
      refine ⟨d, .str z.2.2, rfl, .inr ⟨kvsOf ms, ptK (mK z), q2, .inr ⟨od, by walk_at "hl"⟩, rfl, upd_same, (kvs_get hnd hzm).symm⟩, ?_⟩
      walk_at "rs"
      intro u hu'
      have hDu : D ≠ u := ne_of_none (show (upd H10 q2 (.tup [.int z.1, .int z.2.1])) D = some (.lst (bs.map V.ref)) by walk_at "hl") hu'
      have hDq : D ≠ q2 := ne_of_none hDb hq2
      have hbl : bs.length ≤ ms.length := by rw [Paired.length tb, List.length_map, List.length_take]; omega
      have hbz : (bs.map V.ref).length < 1000 := by rw [List.length_map]; omega
      refine ⟨bs.map V.ref, by walk_at "hl", by walk_at "sz", ((sm.trans (Same.new hq2)).trans (Same.new hu')).mut hD, bs ++ [u], by rw [upd_same, List.map_append]; rfl, ?_⟩
      have tk : ms.take (i + 1) = ms.take i ++ [z] := by rw [List.take_add_one, hz]; rfl
      rw [tk, List.map_append]
      refine TupsAt.mut (xs := bs.map V.ref) (Paired.snoc ((tb.new hq2).new hu') upd_same) (by walk_at "hl")
    · rintro H9 ⟨sm, bs, hDb, tb⟩
      rw [kvs_len, List.take_length] at tb
      have s9 := unlock_same hd sm
      have hDd : D ≠ d := (ne_of_none hd1 hD).symm
      have hD0 : H D = none := by rw [upd_ne hDd] at hD; exact hD
      refine ⟨sm _ _ hd1, ?_⟩
      walk_at "rs"
      refine ⟨D, ms, rfl, ⟨bs, by rw [upd_ne hDd]; exact hDb, tb.keep fun b xs e => ?_⟩, fun ns l H10 p1 p2 hl0 hl sm10 => ?_⟩
      · rw [upd_ne (ne_of e (sm _ _ hd1) (fun z => nomatch z))]
        exact e
      · refine kk ns l H10 p1 p2 ?_ hl (s9.trans sm10)
        cases e : H l with
        | none => rfl
        | some o => rw [s9 _ _ e] at hl0; cases hl0
end
/-! ### _law_same of equal data -/
theorem okDs_get {n : Nat} : ∀ {ds : List PyData} {i : Nat} {d : PyData}, okDs n ds = true → ds[i]? = some d → okD n d = true
  | [], i, d, _, e => by simp at e
  | x :: xs, 0, d, h, e => by
    rw [okDs, Bool.and_eq_true] at h
    simp at e
    subst e
    exact h.1
  | x :: xs, i + 1, d, h, e => by
    rw [okDs, Bool.and_eq_true] at h
    exact okDs_get (i := i) h.2 (by simpa using e)
def spSame (K : PySem.W.Frag) : Nat → Sp
  | 0 => fun _ _ _ _ => False
  | n + 1 => fun vs H Q _ => ∃ (x y : V) (d : PyData), vs = [x, y] ∧ Dp K H x d ∧ Dp K H y d ∧ okD n d = true ∧ ∀ H', Same H H' → Q (.bl true) H'
section
variable {P : Program} {w : World} {K : PySem.W.Frag} {mg : Str → Option Value} {base : Heap} {A : Ad}
theorem ok__law_same (T : Txt K mg A) : ∀ n, FnOk P w K mg base CX0 n A.f__law_same A.d__law_same P__law_same (spSame K n)
  | 0 => ⟨fun _ _ _ _ h => h.elim, fun _ _ _ _ _ _ _ _ _ _ _ _ _ h => h.elim⟩
  | n + 1 => by
    have G__law_same := ok__law_same T n
    refine T.F__law_same.ok sc__law_same (fun vs H Q E h => ?_) (fun cdv A' outer s H vs Q E hr h => ?_)
    · obtain ⟨x, y, d, rfl, _⟩ := h
      rfl
    · obtain ⟨x, y, d, rfl, hx, hy, ok, kk⟩ := h
      refine ⟨_, (pss_cons (ps_if (pt_cmpR o_isN (pv 1) pe_non (nomark _))
(pss_one (ps_ret (pe_cmpR o_isN (pv 0) pe_non (nomark _))))
pss_nil)
(pss_cons (ps_if (pt_cmpR o_isBool (pv 1) pe_bl (nomark _))
(pss_one (ps_ret (pe_cmpR o_isBool (pv 0) pe_bl (nomark _))))
pss_nil)
(pss_cons (ps_if (pt_cmpR o_isBool (pv 1) pe_bl (nomark _))
(pss_one (ps_ret (pe_cmpR o_isBool (pv 0) pe_bl (nomark _))))
pss_nil)
(pss_cons (ps_if (pt_val (pe_callB call_isi (by rfl) T.n_isinstance (by decide +kernel) (pa_cons (pv 1) (pa_cons (pe_bltn (v := .ty "int") (by rfl) T.n_int (by decide +kernel) rfl) pa_nil))))
(pss_one (ps_ret (pe_and (pe_callB call_isi (by rfl) T.n_isinstance (by decide +kernel) (pa_cons (pv 0) (pa_cons (pe_bltn (v := .ty "int") (by rfl) T.n_int (by decide +kernel) rfl) pa_nil))) (pe_and (pe_not (pe_callB call_isi (by rfl) T.n_isinstance (by decide +kernel) (pa_cons (pv 0) (pa_cons (pe_bltn (v := .ty "bool") (by rfl) T.n_bool (by decide +kernel) rfl) pa_nil)))) (pe_one (pe_cmpR op_eq (pv 0) (pv 1) (nomark _)))))))
pss_nil)
(pss_cons (ps_if (pt_val (pe_callB call_isi (by rfl) T.n_isinstance (by decide +kernel) (pa_cons (pv 1) (pa_cons (pe_bltn (v := .ty "str") (by rfl) T.n_str (by decide +kernel) rfl) pa_nil))))
(pss_one (ps_ret (pe_and (pe_callB call_isi (by rfl) T.n_isinstance (by decide +kernel) (pa_cons (pv 0) (pa_cons (pe_bltn (v := .ty "str") (by rfl) T.n_str (by decide +kernel) rfl) pa_nil))) (pe_one (pe_cmpR op_eq (pv 0) (pv 1) (nomark _))))))
pss_nil)
(pss_cons (ps_if (pt_val (pe_callB call_isi (by rfl) T.n_isinstance (by decide +kernel) (pa_cons (pv 1) (pa_cons (pe_bltn (v := .ty "tuple") (by rfl) T.n_tuple (by decide +kernel) rfl) pa_nil))))
(pss_one (ps_if (PW.pt (pw_or (pt_not (pt_val (pe_callB call_isi (by rfl) T.n_isinstance (by decide +kernel) (pa_cons (pv 0) (pa_cons (pe_bltn (v := .ty "tuple") (by rfl) T.n_tuple (by decide +kernel) rfl) pa_nil))))) (pw_or1 (pt_cmpR op_ne (pe_callB c_len (by rfl) T.n_len (by decide +kernel) (pa_cons (pv 0) pa_nil)) (pe_callB c_len (by rfl) T.n_len (by decide +kernel) (pa_cons (pv 1) pa_nil)) (nomark _)))))
(pss_one (ps_ret pe_bl))
pss_nil))
(pss_one (ps_if (PW.pt (pw_or (pt_not (pt_val (pe_callB call_isi (by rfl) T.n_isinstance (by decide +kernel) (pa_cons (pv 0) (pa_cons (pe_bltn (v := .ty "list") (by rfl) T.n_list (by decide +kernel) rfl) pa_nil))))) (pw_or1 (pt_cmpR op_ne (pe_callB c_len (by rfl) T.n_len (by decide +kernel) (pa_cons (pv 0) pa_nil)) (pe_callB c_len (by rfl) T.n_len (by decide +kernel) (pa_cons (pv 1) pa_nil)) (nomark _)))))
(pss_one (ps_ret pe_bl))
pss_nil)))
(pss_cons (ps_for PassesOwn.never rfl (pi_range1 (by rfl) T.n_range (pa_cons (pe_callB c_len (by rfl) T.n_len (by decide +kernel) (pa_cons (pv 1) pa_nil)) pa_nil)) (pg_name (i := 2) sc__law_same.nd rfl (Or.inl rfl))
(pss_one (ps_if (pt_not (pt_val (pe_call G__law_same (hr.mono (by first | decide | omega)) rfl T.g__law_same T.k__law_same T.b__law_same .nil pass0 (pa_cons (pe_ix ix_seq (pv 0) (pv 2) (fun _ _ => rfl)) (pa_cons (pe_ix ix_seq (pv 1) (pv 2) (fun _ _ => rfl)) pa_nil)))))
(pss_one (ps_ret pe_bl))
pss_nil)))
(pss_one (ps_ret pe_bl))))))))), ?_⟩
      cases d with
      | none =>
        cases hx
        cases hy
        walk_at "rs"
        exact kk H (Same.refl H)
      | bool b =>
        cases hx
        cases hy
        cases b
        · walk_at "rs"
          exact kk H (Same.refl H)
        · walk_at "rs"
          exact kk H (Same.refl H)
      | int i =>
        have hy' := hy
        have hx' := hx
        cases hx
        cases hy
        walk_at "rs"
        rw [decide_eq_true rfl]
        exact kk H (Same.refl H)
      | str i =>
        have hy' := hy
        have hx' := hx
        cases hx
        cases hy
        walk_at "rs"
        rw [decide_eq_true rfl]
        exact kk H (Same.refl H)
      | list ds =>
        have hy' := hy
        have hx' := hx
        cases n with
        | zero => simp [okD] at ok
        | succ n =>
        rw [okD, Bool.and_eq_true] at ok
        obtain ⟨hz, ok⟩ := ok
        have hz := of_decide_eq_true hz
        cases hx with
        | @lst a xs _ ha hxs =>
        cases hy with
        | @lst b ys _ hb hys =>
        have lx := dps_len hxs
        have ly := dps_len hys
        walk_at "rs"
        refine ⟨a, xs, rfl, .inl ha, ?_⟩
        walk_at "rs"
        refine ⟨b, ys, rfl, .inl hb, ?_⟩
        walk_at "rs"
        rw [lx, ly, decide_eq_true rfl]
        walk_at "rs"
        refine ⟨b, ys, rfl, .inl hb, ?_⟩
        walk_at "rs"
        refine ⟨_, rfl, by omega, by omega, for_range (lo := 0) (n := ys.length) (fun i σ H1 => ∃ v, σ = [some (.ref a), some (.ref b), v] ∧ Same H H1) ⟨none, rfl, Same.refl H⟩ ?_ ?_⟩
        · rintro i σ H1 hi ⟨v, rfl, sm⟩
          obtain ⟨d, hd⟩ : ∃ d, ds[i]? = some d := ⟨ds[i]'(by rw [← ly]; exact hi), List.getElem?_eq_getElem (by rw [← ly]; exact hi)⟩
          obtain ⟨x, hx, dx⟩ := dps_get hxs hd
          obtain ⟨y, hy, dy⟩ := dps_get hys hd
          have e0 : (0 : Int) + (i : Int) = ((i : Nat) : Int) := by omega
          walk_at "rs"
          refine .inl ⟨a, xs, _, x, rfl, rfl, sm.seq ha, by rw [e0]; exact atI_nat hx, ?_⟩
          walk_at "rs"
          refine .inl ⟨b, ys, _, y, rfl, rfl, sm.seq hb, by rw [e0]; exact atI_nat hy, ?_⟩
          walk_at "rs"
          refine ⟨x, y, d, rfl, dp_same sm _ _ dx, dp_same sm _ _ dy, okDs_get ok hd, fun H2 sm2 => ?_⟩
          walk_at "rs"
          exact ⟨_, rfl, sm.trans sm2⟩
        · rintro σ H1 ⟨v, rfl, sm⟩
          walk_at "rs"
          exact kk H1 sm
      | tuple ds =>
        have hy' := hy
        have hx' := hx
        cases n with
        | zero => simp [okD] at ok
        | succ n =>
        rw [okD, Bool.and_eq_true] at ok
        obtain ⟨hz, ok⟩ := ok
        have hz := of_decide_eq_true hz
        cases hx with
        | @tup a xs _ ha hxs =>
        cases hy with
        | @tup b ys _ hb hys =>
        have lx := dps_len hxs
        have ly := dps_len hys
        walk_at "rs"
        refine ⟨a, xs, rfl, .inr ha, ?_⟩
        walk_at "rs"
        refine ⟨b, ys, rfl, .inr hb, ?_⟩
        walk_at "rs"
        rw [lx, ly, decide_eq_true rfl]
        walk_at "rs"
        refine ⟨b, ys, rfl, .inr hb, ?_⟩
        walk_at "rs"
        refine ⟨_, rfl, by omega, by omega, for_range (lo := 0) (n := ys.length) (fun i σ H1 => ∃ v, σ = [some (.ref a), some (.ref b), v] ∧ Same H H1) ⟨none, rfl, Same.refl H⟩ ?_ ?_⟩
        · rintro i σ H1 hi ⟨v, rfl, sm⟩
          obtain ⟨d, hd⟩ : ∃ d, ds[i]? = some d := ⟨ds[i]'(by rw [← ly]; exact hi), List.getElem?_eq_getElem (by rw [← ly]; exact hi)⟩
          obtain ⟨x, hx, dx⟩ := dps_get hxs hd
          obtain ⟨y, hy, dy⟩ := dps_get hys hd
          have e0 : (0 : Int) + (i : Int) = ((i : Nat) : Int) := by omega
          walk_at "rs"
          refine .inr (.inl ⟨a, xs, _, x, rfl, rfl, sm.seqT ha, by rw [e0]; exact atI_nat hx, ?_⟩)
          walk_at "rs"
          refine .inr (.inl ⟨b, ys, _, y, rfl, rfl, sm.seqT hb, by rw [e0]; exact atI_nat hy, ?_⟩)
          walk_at "rs"
          refine ⟨x, y, d, rfl, dp_same sm _ _ dx, dp_same sm _ _ dy, okDs_get ok hd, fun H2 sm2 => ?_⟩
          walk_at "rs"
          exact ⟨_, rfl, sm.trans sm2⟩
        · rintro σ H1 ⟨v, rfl, sm⟩
          walk_at "rs"
          exact kk H1 sm
      | dict ds => cases hx
end
/-! ### mirrors as data -/
theorem kvs_kind {ms : List Mir} {k : List Key} {v : V} (h : valV (kvsOf ms) k = some v) : ∃ m ∈ ms, v = .str m.2.2 := by
  unfold kvsOf at h
  induction ms with
  | nil => simp [valV] at h
  | cons m r ih =>
    rw [List.map_cons] at h
    by_cases e : ptK (mK m) = k
    · rw [valV_pos e] at h
      exact ⟨m, by simp, (Option.some.inj h).symm⟩
    · rw [valV_neg e] at h
      obtain ⟨m', hm, e⟩ := ih h
      exact ⟨m', by simp [hm], e⟩
abbrev mD (m : Mir) : PyData := .tuple [.int m.1, .int m.2.1, .str m.2.2]
theorem kind_str {k : Str} (h : KindOk k) : PyData.strOk k = true := by
  rcases h with h | h
  · rw [h]; decide +kernel
  · rw [h]; decide +kernel
theorem mD_ok {m : Mir} (h : KindOk m.2.2) : okD 1 (mD m) = true := by
  have e := kind_str h
  simp [okD, okDs, e]
theorem mDs_ok {ms : List Mir} (hk : ∀ m ∈ ms, KindOk m.2.2) (hz : ms.length ≤ 1000000) : okD 2 (.list (ms.map mD)) = true := by
  rw [okD, Bool.and_eq_true]
  refine ⟨by simpa using hz, ?_⟩
  exact okDs_all fun d hd => by
    obtain ⟨z, hz, rfl⟩ := List.mem_map.mp hd
    exact mD_ok (hk z hz)
mutual
theorem okD_up : ∀ (n : Nat) (d : PyData), okD n d = true → okD (n + 1) d = true
  | _, .none, _ => rfl
  | _, .bool _, _ => rfl
  | _, .int _, _ => rfl
  | _, .str x, h => by rw [okD] at h ⊢; exact h
  | 0, .list _, h => by simp [okD] at h
  | 0, .tuple _, h => by simp [okD] at h
  | n + 1, .list xs, h => by
    rw [okD, Bool.and_eq_true] at h ⊢
    exact ⟨h.1, okDs_up n xs h.2⟩
  | n + 1, .tuple xs, h => by
    rw [okD, Bool.and_eq_true] at h ⊢
    exact ⟨h.1, okDs_up n xs h.2⟩
  | _, .dict _, h => by simp [okD] at h
theorem okDs_up : ∀ (n : Nat) (ds : List PyData), okDs n ds = true → okDs (n + 1) ds = true
  | _, [], _ => by simp [okDs]
  | n, x :: xs, h => by
    rw [okDs, Bool.and_eq_true] at h ⊢
    exact ⟨okD_up n x h.1, okDs_up n xs h.2⟩
end
theorem dp_m {K : PySem.W.Frag} {H : Hp} {a : Addr} {z : Mir} (h : H a = some (.tup (mV z))) : Dp K H (.ref a) (mD z) := .tup (SqT.of h) (.cons (.int _) (.cons (.int _) (.cons (.str _) .nil)))
theorem dp_ms {K : PySem.W.Frag} {H : Hp} : ∀ {as : List Addr} {zs : List Mir}, TupsAt H as (zs.map mV) → DpAll K H (as.map V.ref) (zs.map mD)
  | [], [], _ => .nil
  | [], _ :: _, h => by cases h
  | _ :: _, [], h => by cases h
  | a :: as, z :: zs, h => by
    cases h with
    | cons h1 h2 => exact .cons (dp_m h1) (dp_ms h2)
theorem MsAt.same {H H' : Hp} {l : Addr} {ms : List Mir} (h : MsAt H l ms) (s : Same H H') : MsAt H' l ms := by
  obtain ⟨as, e, t⟩ := h
  exact ⟨as, s _ _ e, t.keep fun b xs e => s _ _ e⟩
theorem MsAt.dp {K : PySem.W.Frag} {H : Hp} {l : Addr} {ms : List Mir} (h : MsAt H l ms) : Dp K H (.ref l) (.list (ms.map mD)) := by
  obtain ⟨as, e, t⟩ := h
  exact .lst (SqL.of e) (dp_ms t)
/-- what a point of a board has, as data -/
theorem kind_data {K : PySem.W.Frag} {w h : Int} {ms : List Mir} (g : GoodMs w h ms) (k : List Key) : ∃ d, okD 3 d = true ∧ ∀ H : Hp, Dp K H ((valV (kvsOf ms) k).getD .non) d := by
  cases e : valV (kvsOf ms) k with
  | none => exact ⟨.none, rfl, fun _ => .non⟩
  | some v =>
    obtain ⟨m, hm, rfl⟩ := kvs_kind e
    exact ⟨.str m.2.2, by rw [okD]; exact kind_str (g.kind m hm), fun _ => .str _⟩
/-! ### turns -/
def mvd (way : Str) (w h x y : Int) : Int × Int :=
  if way = "quarter" then (2 * h - y, x) else if way = "half" then (2 * w - x, 2 * h - y) else if way = "back" then (y, 2 * w - x) else if way = "flip" then (x, 2 * h - y) else if way = "mirror" then (2 * w - x, y) else if way = "cross" then (y, x) else if way = "anti" then (2 * h - y, 2 * w - x) else (x, y)
def swp (way : Str) : Bool := inV (.str way) [.str "quarter", .str "back", .str "cross", .str "anti"]
def wayOk (way : Str) : Bool := inV (.str way) [.str "same", .str "quarter", .str "half", .str "back", .str "flip", .str "mirror", .str "cross", .str "anti"]
def okK (k : Str) : Str := if k = "-" then "|" else "-"
/-- one fact of each way, one of none -/
theorem mvd_cases {P : Bool → (Int → Int → Int → Int → Int × Int) → Prop} (way : Str)
    (h_quarter : P true fun w h x y => (2 * h - y, x))
    (h_half : P false fun w h x y => (2 * w - x, 2 * h - y))
    (h_back : P true fun w h x y => (y, 2 * w - x))
    (h_flip : P false fun w h x y => (x, 2 * h - y))
    (h_mirror : P false fun w h x y => (2 * w - x, y))
    (h_cross : P true fun w h x y => (y, x))
    (h_anti : P true fun w h x y => (2 * h - y, 2 * w - x))
    (h_same : P false fun _ _ x y => (x, y)) : P (swp way) (mvd way) := by
  by_cases c0 : way = "quarter"
  · have e : swp way = true := by rw [c0]; decide +kernel
    have f : mvd way = fun w h x y => (2 * h - y, x) := by
      funext w h x y
      unfold mvd
      rw [if_pos c0]
    rw [e, f]
    exact h_quarter
  by_cases c1 : way = "half"
  · have e : swp way = false := by rw [c1]; decide +kernel
    have f : mvd way = fun w h x y => (2 * w - x, 2 * h - y) := by
      funext w h x y
      unfold mvd
      rw [if_neg c0, if_pos c1]
    rw [e, f]
    exact h_half
  by_cases c2 : way = "back"
  · have e : swp way = true := by rw [c2]; decide +kernel
    have f : mvd way = fun w h x y => (y, 2 * w - x) := by
      funext w h x y
      unfold mvd
      rw [if_neg c0, if_neg c1, if_pos c2]
    rw [e, f]
    exact h_back
  by_cases c3 : way = "flip"
  · have e : swp way = false := by rw [c3]; decide +kernel
    have f : mvd way = fun w h x y => (x, 2 * h - y) := by
      funext w h x y
      unfold mvd
      rw [if_neg c0, if_neg c1, if_neg c2, if_pos c3]
    rw [e, f]
    exact h_flip
  by_cases c4 : way = "mirror"
  · have e : swp way = false := by rw [c4]; decide +kernel
    have f : mvd way = fun w h x y => (2 * w - x, y) := by
      funext w h x y
      unfold mvd
      rw [if_neg c0, if_neg c1, if_neg c2, if_neg c3, if_pos c4]
    rw [e, f]
    exact h_mirror
  by_cases c5 : way = "cross"
  · have e : swp way = true := by rw [c5]; decide +kernel
    have f : mvd way = fun w h x y => (y, x) := by
      funext w h x y
      unfold mvd
      rw [if_neg c0, if_neg c1, if_neg c2, if_neg c3, if_neg c4, if_pos c5]
    rw [e, f]
    exact h_cross
  by_cases c6 : way = "anti"
  · have e : swp way = true := by rw [c6]; decide +kernel
    have f : mvd way = fun w h x y => (2 * h - y, 2 * w - x) := by
      funext w h x y
      unfold mvd
      rw [if_neg c0, if_neg c1, if_neg c2, if_neg c3, if_neg c4, if_neg c5, if_pos c6]
    rw [e, f]
    exact h_anti
  have e : swp way = false := by
    unfold swp inV
    simp [eqV, Ne.symm c0, Ne.symm c2, Ne.symm c5, Ne.symm c6]
  have f : mvd way = fun _ _ x y => (x, y) := by
    funext w h x y
    unfold mvd
    rw [if_neg c0, if_neg c1, if_neg c2, if_neg c3, if_neg c4, if_neg c5, if_neg c6]
  rw [e, f]
  exact h_same
theorem mvd_ins (way : Str) {w h x y : Int} (i : Ins w h x y) : Ins (if swp way then h else w) (if swp way then w else h) (mvd way w h x y).1 (mvd way w h x y).2 := by
  refine mvd_cases (P := fun b f => Ins (if b then h else w) (if b then w else h) (f w h x y).1 (f w h x y).2) way ?_ ?_ ?_ ?_ ?_ ?_ ?_ ?_ <;> (unfold Ins at *; dsimp only; simp only [Bool.false_eq_true, if_false, if_true]; omega)
theorem mvd_inj (way : Str) {w h x y x' y' : Int} : mvd way w h x y = mvd way w h x' y' → x = x' ∧ y = y' := by
  refine mvd_cases (P := fun _ f => f w h x y = f w h x' y' → x = x' ∧ y = y') way ?_ ?_ ?_ ?_ ?_ ?_ ?_ ?_ <;> (intro e; injection e with e1 e2; omega)
def mvM (way : Str) (w h : Int) (m : Mir) : Mir := ((mvd way w h m.1 m.2.1).1, (mvd way w h m.1 m.2.1).2, if swp way then okK m.2.2 else m.2.2)
theorem okK_ok (k : Str) : KindOk (okK k) := by
  unfold okK KindOk
  split
  · exact .inr rfl
  · exact .inl rfl
theorem GoodMs.moved {w h : Int} {ms : List Mir} (g : GoodMs w h ms) (way : Str) : GoodMs (if swp way then h else w) (if swp way then w else h) (ms.map (mvM way w h)) := by
  refine ⟨fun m hm => ?_, fun m hm => ?_, ?_⟩
  · obtain ⟨z, hz, rfl⟩ := List.mem_map.mp hm
    exact mvd_ins way (g.ins z hz)
  · obtain ⟨z, hz, rfl⟩ := List.mem_map.mp hm
    show KindOk (if swp way then okK z.2.2 else z.2.2)
    split
    · exact okK_ok _
    · exact g.kind z hz
  · have e : (ms.map (mvM way w h)).map mK = (ms.map mK).map fun z => mvd way w h z.1 z.2 := by
      rw [List.map_map, List.map_map]
      rfl
    rw [e]
    refine List.Pairwise.map _ (fun a b hab heq => ?_) g.nd
    obtain ⟨e1, e2⟩ := mvd_inj way heq
    exact hab (Prod.ext e1 e2)
theorem GoodMs.perm {w h : Int} {ms ns : List Mir} (g : GoodMs w h ms) (p : ns.Perm ms) : GoodMs w h ns :=
  ⟨fun m hm => g.ins m (p.mem_iff.mp hm), fun m hm => g.kind m (p.mem_iff.mp hm), ((p.map mK).nodup_iff).mpr g.nd⟩
def spOther : Sp := fun vs H Q _ => ∃ k : Str, vs = [.str k] ∧ Q (.str (okK k)) H
def spMoved : Sp := fun vs H Q _ => ∃ (way : Str) (w h : Int) (q : Addr) (x y : Int), vs = [.str way, .int w, .int h, .ref q] ∧ H q = some (.tup [.int x, .int y]) ∧
  ∀ (q' : Addr) (H' : Hp), H' q' = some (.tup (ptV (mvd way w h x y))) → Same H H' → Q (.ref q') H'
def spTurned (A : Ad) : Sp := fun vs H Q E => ∃ (p : Addr) (way : Str) (w h : Int) (ms : List Mir), vs = [.ref p, .str way] ∧ BoardAt A.C_Board H p w h ms ∧ GoodMs w h ms ∧ 1 ≤ w ∧ 1 ≤ h ∧ ms.length ≤ 500 ∧
  (wayOk way = false → WishV A.C_InvalidTurn (.str way) E H) ∧ (wayOk way = true → ∀ (b : Addr) (H' : Hp) (ns : List Mir), ns.Perm (ms.map (mvM way w h)) → BoardAt A.C_Board H' b (if swp way then h else w) (if swp way then w else h) ns → Same H H' → Q (.ref b) H')
theorem str_ne {a b : Str} (h : ¬ V.str a = V.str b) : ¬ a = b := fun e => h (by rw [e])
theorem str_eq {a b : Str} (h : V.str a = V.str b) : a = b := by injection h
section
variable {P : Program} {w : World} {K : PySem.W.Frag} {mg : Str → Option Value} {base : Heap} {A : Ad}
theorem ok_other_kind (T : Txt K mg A) : FnOk P w K mg base CX0 1 A.f_other_kind A.d_other_kind P_other_kind spOther := by
  refine T.F_other_kind.ok sc_other_kind (fun vs H Q E h => ?_) (fun cdv A' outer s H vs Q E hr h => ?_)
  · obtain ⟨k, rfl, _⟩ := h
    rfl
  · obtain ⟨k, rfl, kk⟩ := h
    refine ⟨_, (pss_cons (ps_if (pt_cmpR op_eq (pv 0) pe_str (nomark _))
(pss_one (ps_ret pe_str))
pss_nil)
(pss_one (ps_ret pe_str))), ?_⟩
    walk_at "rs"
    refine r_ite (fun c => ?_) (fun c => ?_)
    · walk_at "rs"
      have e : okK k = "|" := by unfold okK; rw [if_pos (str_eq c)]
      rw [e] at kk
      exact kk
    · walk_at "rs"
      have e : okK k = "-" := by unfold okK; rw [if_neg (str_ne c)]
      rw [e] at kk
      exact kk
theorem ok_moved_place (T : Txt K mg A) : FnOk P w K mg base CX0 1 A.f_moved_place A.d_moved_place P_moved_place spMoved := by
  refine T.F_moved_place.ok sc_moved_place (fun vs H Q E h => ?_) (fun cdv A' outer s H vs Q E hr h => ?_)
  · obtain ⟨a, b, c, d, e, f, rfl, _⟩ := h
    rfl
  · obtain ⟨way, w', h', q, x, y, rfl, hq, kk⟩ := h
    have fin : ∀ z : Int × Int, mvd way w' h' x y = z → ∀ p, H p = none → Q (.ref p) (upd H p (.tup [.int z.1, .int z.2])) := fun z e p hp => kk p _ (by rw [upd_same, e]) (Same.new hp)
    refine ⟨_, (pss_cons (ps_asg (pv 3) (pg_tup rfl (pgs_cons (pg_name (i := 4) sc_moved_place.nd rfl (Or.inl rfl)) (pgs_cons (pg_name (i := 5) sc_moved_place.nd rfl (Or.inl rfl)) pgs_nil))))
(pss_cons (ps_if (pt_cmpR op_eq (pv 0) pe_str (nomark _))
(pss_one (ps_ret (pe_tup (pa_cons (pe_op op_sub (pe_op op_mul pe_int (pv 2)) (pv 5)) (pa_cons (pv 4) pa_nil)))))
pss_nil)
(pss_cons (ps_if (pt_cmpR op_eq (pv 0) pe_str (nomark _))
(pss_one (ps_ret (pe_tup (pa_cons (pe_op op_sub (pe_op op_mul pe_int (pv 1)) (pv 4)) (pa_cons (pe_op op_sub (pe_op op_mul pe_int (pv 2)) (pv 5)) pa_nil)))))
pss_nil)
(pss_cons (ps_if (pt_cmpR op_eq (pv 0) pe_str (nomark _))
(pss_one (ps_ret (pe_tup (pa_cons (pv 5) (pa_cons (pe_op op_sub (pe_op op_mul pe_int (pv 1)) (pv 4)) pa_nil)))))
pss_nil)
(pss_cons (ps_if (pt_cmpR op_eq (pv 0) pe_str (nomark _))
(pss_one (ps_ret (pe_tup (pa_cons (pv 4) (pa_cons (pe_op op_sub (pe_op op_mul pe_int (pv 2)) (pv 5)) pa_nil)))))
pss_nil)
(pss_cons (ps_if (pt_cmpR op_eq (pv 0) pe_str (nomark _))
(pss_one (ps_ret (pe_tup (pa_cons (pe_op op_sub (pe_op op_mul pe_int (pv 1)) (pv 4)) (pa_cons (pv 5) pa_nil)))))
pss_nil)
(pss_cons (ps_if (pt_cmpR op_eq (pv 0) pe_str (nomark _))
(pss_one (ps_ret (pe_tup (pa_cons (pv 5) (pa_cons (pv 4) pa_nil)))))
pss_nil)
(pss_cons (ps_if (pt_cmpR op_eq (pv 0) pe_str (nomark _))
(pss_one (ps_ret (pe_tup (pa_cons (pe_op op_sub (pe_op op_mul pe_int (pv 2)) (pv 5)) (pa_cons (pe_op op_sub (pe_op op_mul pe_int (pv 1)) (pv 4)) pa_nil)))))
pss_nil)
(pss_one (ps_ret (pe_tup (pa_cons (pv 4) (pa_cons (pv 5) pa_nil))))))))))))), ?_⟩
    walk_at "rs"
    refine r_ite (fun c0 => ?_) (fun c0 => ?_)
    · walk_at "rs"
      exact fin (2 * h' - y, x) (by unfold mvd; rw [if_pos (str_eq c0)])
    walk_at "rs"
    refine r_ite (fun c1 => ?_) (fun c1 => ?_)
    · walk_at "rs"
      exact fin (2 * w' - x, 2 * h' - y) (by unfold mvd; rw [if_neg (str_ne c0), if_pos (str_eq c1)])
    walk_at "rs"
    refine r_ite (fun c2 => ?_) (fun c2 => ?_)
    · walk_at "rs"
      exact fin (y, 2 * w' - x) (by unfold mvd; rw [if_neg (str_ne c0), if_neg (str_ne c1), if_pos (str_eq c2)])
    walk_at "rs"
    refine r_ite (fun c3 => ?_) (fun c3 => ?_)
    · walk_at "rs"
      exact fin (x, 2 * h' - y) (by unfold mvd; rw [if_neg (str_ne c0), if_neg (str_ne c1), if_neg (str_ne c2), if_pos (str_eq c3)])
    walk_at "rs"
    refine r_ite (fun c4 => ?_) (fun c4 => ?_)
    · walk_at "rs"
      exact fin (2 * w' - x, y) (by unfold mvd; rw [if_neg (str_ne c0), if_neg (str_ne c1), if_neg (str_ne c2), if_neg (str_ne c3), if_pos (str_eq c4)])
    walk_at "rs"
    refine r_ite (fun c5 => ?_) (fun c5 => ?_)
    · walk_at "rs"
      exact fin (y, x) (by unfold mvd; rw [if_neg (str_ne c0), if_neg (str_ne c1), if_neg (str_ne c2), if_neg (str_ne c3), if_neg (str_ne c4), if_pos (str_eq c5)])
    walk_at "rs"
    refine r_ite (fun c6 => ?_) (fun c6 => ?_)
    · walk_at "rs"
      exact fin (2 * h' - y, 2 * w' - x) (by unfold mvd; rw [if_neg (str_ne c0), if_neg (str_ne c1), if_neg (str_ne c2), if_neg (str_ne c3), if_neg (str_ne c4), if_neg (str_ne c5), if_pos (str_eq c6)])
    walk_at "rs"
    exact fin (x, y) (by unfold mvd; rw [if_neg (str_ne c0), if_neg (str_ne c1), if_neg (str_ne c2), if_neg (str_ne c3), if_neg (str_ne c4), if_neg (str_ne c5), if_neg (str_ne c6)])
end
/-! ### a board turned -/
local macro_rules | `(tactic| walk_at "rs1") => `(tactic| first
  | with_reducible refine r_iKeys ?_
  | with_reducible refine r_prop ?_)
section
variable {P : Program} {w : World} {K : PySem.W.Frag} {mg : Str → Option Value} {base : Heap} {A : Ad}
theorem ok_Board_turned (T : Txt K mg A) : FnOk P w K mg base (L2.CX P w) 7 A.f_Board_turned A.d_Board_turned P_Board_turned (spTurned A) := by
  have G_SandError___init__ := ok_SandError___init__ (P := P) (w := w) (base := base) T
  have G_other_kind := ok_other_kind (P := P) (w := w) (base := base) T
  have G_moved_place := ok_moved_place (P := P) (w := w) (base := base) T
  have G_Board_mirrors := ok_Board_mirrors (P := P) (w := w) (base := base) T
  have G_Board___init__ := ok_Board___init__ (P := P) (w := w) (base := base) T
  refine T.F_Board_turned.okX sc_Board_turned (fun vs H Q E h => ?_) (fun cdv A' outer s H vs Q E hr h => ?_)
  · obtain ⟨p, way, a, b, ms, rfl, _⟩ := h
    rfl
  · obtain ⟨p, way, w', h', ms, rfl, bd, gd, hw, hh', hml, wish, kk⟩ := h
    obtain ⟨dx, d, hp, hd⟩ := id bd
    have hu := hu_of hr
    refine ⟨_, (pss_cons (ps_if (pt_cmpR op_notIn_seq (pv 1) (pe_glob (v := .ref A.c_WAYS) rfl T.g_WAYS rfl) (by rfl))
(pss_one (ps_raise rfl (takes_of rfl rfl rfl rfl) (pmk_oex T.X_InvalidTurn T.i_InvalidTurn T.ti_init G_SandError___init__ (hr.mono (by first | decide | omega)) T.b_SandError___init__ .nil pass0 rfl T.g_InvalidTurn (pa_cons (pv 1) pa_nil))))
pss_nil)
(pss_cons (ps_set (i := 2) sc_Board_turned.nd rfl (Or.inl rfl) (pe_tup (pa_cons (pe_fld (pv 0) rfl) (pa_cons (pe_fld (pv 0) rfl) pa_nil))))
(pss_cut (ps_if (pt_cmpR op_in_seq (pv 1) (pe_glob (v := .ref A.c_EXCHANGING) rfl T.g_EXCHANGING rfl) (by rfl))
(pss_one (ps_set (i := 2) sc_Board_turned.nd rfl (Or.inl rfl) (pe_tup (pa_cons (pe_fld (pv 0) rfl) (pa_cons (pe_fld (pv 0) rfl) pa_nil)))))
pss_nil)
(pss_cons (ps_set (i := 3) sc_Board_turned.nd rfl (Or.inl rfl) (pe_lst pa_nil))
(pss_cons (ps_for (passes_of rfl) rfl (pi_list (pe_prop (pv 0) T.cl_Board T.pr_Board_mirrors G_Board_mirrors (hr.mono (by first | decide | omega)) T.b_Board_mirrors .nil pass0 rfl)) (pg_tup rfl (pgs_cons (pg_name (i := 4) sc_Board_turned.nd rfl (Or.inl rfl)) (pgs_cons (pg_name (i := 5) sc_Board_turned.nd rfl (Or.inl rfl)) (pgs_cons (pg_name (i := 6) sc_Board_turned.nd rfl (Or.inl rfl)) pgs_nil))))
(pss_cut (ps_if (pt_cmpR op_in_seq (pv 1) (pe_glob (v := .ref A.c_EXCHANGING) rfl T.g_EXCHANGING rfl) (by rfl))
(pss_one (ps_set (i := 6) sc_Board_turned.nd rfl (Or.inl rfl) (pe_call G_other_kind (hr.mono (by first | decide | omega)) rfl T.g_other_kind T.k_other_kind T.b_other_kind .nil pass0 (pa_cons (pv 6) pa_nil))))
pss_nil)
(pss_cons (ps_set (i := 7) sc_Board_turned.nd rfl (Or.inl rfl) (pe_call G_moved_place (hr.mono (by first | decide | omega)) rfl T.g_moved_place T.k_moved_place T.b_moved_place .nil pass0 (pa_cons (pv 1) (pa_cons (pe_fld (pv 0) rfl) (pa_cons (pe_fld (pv 0) rfl) (pa_cons (pe_tup (pa_cons (pv 4) (pa_cons (pv 5) pa_nil))) pa_nil))))))
(pss_one (ps_expr (pe_bm PySem.F.plainAttrs_list PySem.F.slot_list_append PySem.F.type_list_append mt_append (pv 3) (pa_cons (pe_tup (pa_cons (pe_ix ix_tup (pv 7) pe_int (fun _ _ => rfl)) (pa_cons (pe_ix ix_tup (pv 7) pe_int (fun _ _ => rfl)) (pa_cons (pv 6) pa_nil)))) pa_nil)))))))
(pss_one (ps_ret (pe_make T.M_Board G_Board___init__ (hr.mono (by first | decide | omega)) rfl T.g_Board T.b_Board___init__ .nil (passes_call (takes_of rfl rfl rfl rfl) (fun _ _ _ _ h => h)) (pa_cons (pe_ix ix_tup (pv 2) pe_int (fun _ _ => rfl)) (pa_cons (pe_ix ix_tup (pv 2) pe_int (fun _ _ => rfl)) (pa_cons (pv 3) pa_nil))))))))))), ?_⟩
    walk_at "rs"
    refine ⟨A.c_WAYS, _, rfl, .inr (T.q_WAYS H), rfl, rfl, ?_⟩
    walk_at "rs"
    refine r_iteNB (fun c1 => ?_) (fun c1 => ?_)
    · walk_at "rs"
      exact ⟨(by show 1 ≤ 1000; decide), raise_val T.X_InvalidTurn T.no_InvalidTurn (wish c1)⟩
    · have kk := kk c1
      walk_at "rs"
      refine ⟨p, A.C_Board, dx, _, _, rfl, hp, T.cl_Board, T.na_Board_wide, bf_wide _ _ _, ?_⟩
      walk_at "rs"
      refine ⟨p, A.C_Board, dx, _, _, rfl, hp, T.cl_Board, T.na_Board_high, bf_high _ _ _, ?_⟩
      walk_at "rs"
      intro q0 hq0
      walk_at "rs"
      refine ⟨fun σ H1 => ∃ q : Addr, σ = [some (.ref p), some (.str way), some (.ref q), none, none, none, none, none] ∧ H1 q = some (.tup [.int (if swp way then h' else w'), .int (if swp way then w' else h')]) ∧ Same H H1, ?_, ?_⟩
      · have hp1 := (Same.new (o := .tup [.int w', .int h']) hq0) _ _ hp
        walk_at "rs"
        refine ⟨A.c_EXCHANGING, _, rfl, .inr (T.q_EXCHANGING _), rfl, rfl, ?_⟩
        walk_at "rs"
        refine r_iteB (fun c2 => ?_) (fun c2 => ?_)
        · have e : swp way = true := c2
          walk_at "rs"
          refine ⟨p, A.C_Board, dx, _, _, rfl, hp1, T.cl_Board, T.na_Board_high, bf_high _ _ _, ?_⟩
          walk_at "rs"
          refine ⟨p, A.C_Board, dx, _, _, rfl, hp1, T.cl_Board, T.na_Board_wide, bf_wide _ _ _, ?_⟩
          walk_at "rs"
          intro q1 hq1
          exact ⟨q1, rfl, by rw [e]; exact upd_same, (Same.new hq0).trans (Same.new hq1)⟩
        · have e : swp way = false := c2
          walk_at "rs"
          exact ⟨q0, rfl, by rw [e]; exact upd_same, Same.new hq0⟩
      · rintro σ H1 ⟨q, rfl, hq, s1⟩
        have hp1 := s1 _ _ hp
        have bd1 := bd.same s1
        walk_at "rs"
        intro l hl
        have bd2 := bd1.same (Same.new (o := .lst []) hl)
        have hp2 := (Same.new (o := .lst []) hl) _ _ hp1
        walk_at "rs"
        refine ⟨p, dx, _, rfl, hp2, ?_⟩
        refine ⟨p, w', h', ms, rfl, bd2, hml, gd.nd, fun ns tl H3 p1 q1 ht0 ht s3 => ?_⟩
        obtain ⟨at', ht3, tt3⟩ := id ht
        have hat : at'.length = ns.length := by rw [Paired.length tt3, List.length_map]
        have hnl := p1.length_eq
        have hl3 : H3 l = some (.lst []) := s3 _ _ upd_same
        have s13 : Same H1 H3 := (Same.new hl).trans s3
        have ntl : tl ≠ l := (ne_of_none upd_same ht0).symm
        refine ⟨tl, rfl, ⟨_, SqL.of ht3⟩, for_list (K := K) (a := tl) (xs := at'.map V.ref) (fun i σ H4 => ∃ (as : List Addr) (v4 v5 v6 v7 : Option V), σ = [some (.ref p), some (.str way), some (.ref q), some (.ref l), v4, v5, v6, v7] ∧
          H4 l = some (.lst (as.map V.ref)) ∧ TupsAt H4 as (((ns.take i).map (mvM way w' h')).map mV) ∧ (∀ b o, H3 b = some o → b ≠ l → H4 b = some o)) ?_ ?_ ?_ ?_⟩
        · exact ⟨[], none, none, none, none, rfl, hl3, .nil, fun _ _ e _ => e⟩
        · rintro i σ H4 _ ⟨as, v4, v5, v6, v7, _, _, _, km⟩
          exact SqL.of (km _ _ ht3 ntl)
        · rintro i x σ H4 hi ⟨as, v4, v5, v6, v7, rfl, hl4, t4, km⟩
          have keepT : ∀ {b : Addr} {xs : List V}, H3 b = some (.tup xs) → H4 b = some (.tup xs) := fun e => km _ _ e (ne_of e hl3 (fun z => nomatch z))
          obtain ⟨ad, xs, rfl, hz1, hz2, hta⟩ := (tt3.keep fun b' xs e => keepT e).get hi
          obtain ⟨z, hz, rfl⟩ : ∃ z, ns[i]? = some z ∧ xs = mV z := by
            rw [List.getElem?_map] at hz2
            cases e : ns[i]? with
            | none => rw [e] at hz2; cases hz2
            | some z => rw [e] at hz2; exact ⟨z, rfl, (Option.some.inj hz2).symm⟩
          have tk : ns.take (i + 1) = ns.take i ++ [z] := by rw [List.take_add_one, hz]; rfl
          have hal : as.length = (ns.take i).length := by rw [Paired.length t4, List.length_map, List.length_map]
          have hpl : p ≠ l := ne_of_none hp1 hl
          have hp4 : H4 p = some (.ins A.C_Board dx (bflds w' h' d)) := km _ _ (s13 _ _ hp1) hpl
          walk_at "rs"
          refine ⟨fun σ H5 => σ = [some (.ref p), some (.str way), some (.ref q), some (.ref l), some (.int z.1), some (.int z.2.1), some (.str (if swp way then okK z.2.2 else z.2.2)), v7] ∧ H5 = H4, ?_, ?_⟩
          · walk_at "rs"
            refine ⟨A.c_EXCHANGING, _, rfl, .inr (T.q_EXCHANGING _), rfl, rfl, ?_⟩
            walk_at "rs"
            refine r_iteB (fun c2 => ?_) (fun c2 => ?_)
            · have e : swp way = true := c2
              walk_at "rs"
              refine ⟨z.2.2, rfl, ?_⟩
              walk_at "rs"
              exact ⟨by rw [e]; rfl, rfl⟩
            · have e : swp way = false := c2
              walk_at "rs"
              exact ⟨by rw [e]; rfl, rfl⟩
          · rintro σ H5 ⟨rfl, rfl⟩
            walk_at "rs"
            refine ⟨p, A.C_Board, dx, _, _, rfl, hp4, T.cl_Board, T.na_Board_wide, bf_wide _ _ _, ?_⟩
            walk_at "rs"
            refine ⟨p, A.C_Board, dx, _, _, rfl, hp4, T.cl_Board, T.na_Board_high, bf_high _ _ _, ?_⟩
            walk_at "rs"
            intro q2 hq2
            walk_at "rs"
            refine ⟨way, w', h', q2, z.1, z.2.1, rfl, upd_same, fun q3 H6 hq3 s6 => ?_⟩
            have s56 : Same H5 H6 := (Same.new hq2).trans s6
            have hl6 := s56 _ _ hl4
            have hasz : (as.map V.ref).length < 1000 := by rw [List.length_map, hal, List.length_take]; omega
            walk_at "rs"
            intro q4 hq4
            walk_at "rs"
            refine ⟨as ++ [q4], _, _, _, _, rfl, by rw [upd_same, List.map_append]; rfl, ?_, fun b o e ne => ?_⟩
            · rw [tk, List.map_append, List.map_append]
              refine TupsAt.mut (xs := as.map V.ref) (Paired.snoc ((t4.keep fun b xs e => s56 _ _ e).new hq4) ?_) (by walk_at "hl")
              exact upd_same
            · rw [upd_ne ne]
              exact (Same.new hq4) _ _ (s56 _ _ (km _ _ e ne))
        · rintro σ H4 ⟨as, v4, v5, v6, v7, rfl, hl4, t4, km⟩
          rw [List.length_map, hat, List.take_length] at t4
          have hal : as.length = ns.length := by rw [Paired.length t4, List.length_map, List.length_map]
          have s14 : Same H1 H4 := fun b o e => km _ _ (s13 _ _ e) (ne_of_none e hl)
          have hq4 := s14 _ _ hq
          have g4 := (gd.perm p1).moved way
          have tw1 : (1 : Int) ≤ if swp way then h' else w' := by cases swp way; exact hw; exact hh'
          have th1 : (1 : Int) ≤ if swp way then w' else h' := by cases swp way; exact hh'; exact hw
          walk_at "rs"
          intro b dx2 hb hdx hbd
          have hbx : (upd H4 dx2 (.own b)) b = none := by rw [upd_ne hbd.symm]; exact hb
          have s4 : Same H4 (upd (upd H4 dx2 (.own b)) b (.ins A.C_Board dx2 [])) := (Same.new hdx).trans (Same.new hbx)
          refine ⟨b, dx2, _, _, l, ns.map (mvM way w' h'), rfl, upd_same, ⟨as, s4 _ _ hl4, t4.keep fun b' xs e => s4 _ _ e⟩, by rw [List.length_map]; omega, .inr (.inr (.inl ⟨tw1, th1, g4, fun H5 km5 bd5 => ⟨rfl, ?_⟩⟩))⟩
          refine kk b H5 _ (p1.map _) bd5 ((s1.trans s14).trans fun b' o e => km5 _ _ (s4 _ _ e) (ne_of_none e hb))
end
/-! ### the law's own turns -/
def spMoveL : Sp := fun vs H Q _ => ∃ (way : Str) (w h x y : Int), vs = [.str way, .int w, .int h, .int x, .int y] ∧
  ∀ (q' : Addr) (H' : Hp), H' q' = some (.tup (ptV (mvd way w h x y))) → Same H H' → Q (.ref q') H'
def spTurnL : Sp := fun vs H Q _ => ∃ (way : Str) (w h : Int) (l : Addr) (ms : List Mir), vs = [.str way, .int w, .int h, .ref l] ∧ MsAt H l ms ∧ (∀ m ∈ ms, KindOk m.2.2) ∧ ms.length ≤ 500 ∧
  ∀ (q l' : Addr) (ns : List Mir) (H' : Hp), ns.Perm (ms.map (mvM way w h)) → ns.Pairwise Mle → H' q = some (.tup [.int (if swp way then h else w), .int (if swp way then w else h), .ref l']) → MsAt H' l' ns → Same H H' → Q (.ref q) H'
def spNear : Sp := fun vs H Q _ => ∃ (p c : Addr) (n : Nat) (side : Int), vs = [.ref p, .int side] ∧ HandAt H p c n ∧ n < 900000000 ∧
  ∀ (r : Int) (H' : Hp), HandAt H' p c (n + 2) → Keep2 p c H H' → Q (.int r) H'
theorem swap_get {k : Str} (h : KindOk k) : valV (mergeK [] [((Sum.inr "-" : Key), V.str "|"), (Sum.inr "|", V.str "-")]) (Sum.inr k) = some (.str (okK k)) := by
  rcases h with h | h
  · rw [h]; decide +kernel
  · rw [h]; decide +kernel
section
variable {P : Program} {w : World} {K : PySem.W.Frag} {mg : Str → Option Value} {base : Heap} {A : Ad}
theorem ok__law_move (T : Txt K mg A) : FnOk P w K mg base CX0 1 A.f__law_move A.d__law_move P__law_move spMoveL := by
  refine T.F__law_move.ok sc__law_move (fun vs H Q E h => ?_) (fun cdv A' outer s H vs Q E hr h => ?_)
  · obtain ⟨a, b, c, d, e, rfl, _⟩ := h
    rfl
  · obtain ⟨way, w', h', x, y, rfl, kk⟩ := h
    have fin : ∀ z : Int × Int, mvd way w' h' x y = z → ∀ p, H p = none → Q (.ref p) (upd H p (.tup [.int z.1, .int z.2])) := fun z e p hp => kk p _ (by rw [upd_same, e]) (Same.new hp)
    refine ⟨_, (pss_cons (ps_if (pt_cmpR op_eq (pv 0) pe_str (nomark _))
(pss_one (ps_ret (pe_tup (pa_cons (pe_op op_sub (pe_op op_mul pe_int (pv 2)) (pv 4)) (pa_cons (pv 3) pa_nil)))))
pss_nil)
(pss_cons (ps_if (pt_cmpR op_eq (pv 0) pe_str (nomark _))
(pss_one (ps_ret (pe_tup (pa_cons (pe_op op_sub (pe_op op_mul pe_int (pv 1)) (pv 3)) (pa_cons (pe_op op_sub (pe_op op_mul pe_int (pv 2)) (pv 4)) pa_nil)))))
pss_nil)
(pss_cons (ps_if (pt_cmpR op_eq (pv 0) pe_str (nomark _))
(pss_one (ps_ret (pe_tup (pa_cons (pv 4) (pa_cons (pe_op op_sub (pe_op op_mul pe_int (pv 1)) (pv 3)) pa_nil)))))
pss_nil)
(pss_cons (ps_if (pt_cmpR op_eq (pv 0) pe_str (nomark _))
(pss_one (ps_ret (pe_tup (pa_cons (pv 3) (pa_cons (pe_op op_sub (pe_op op_mul pe_int (pv 2)) (pv 4)) pa_nil)))))
pss_nil)
(pss_cons (ps_if (pt_cmpR op_eq (pv 0) pe_str (nomark _))
(pss_one (ps_ret (pe_tup (pa_cons (pe_op op_sub (pe_op op_mul pe_int (pv 1)) (pv 3)) (pa_cons (pv 4) pa_nil)))))
pss_nil)
(pss_cons (ps_if (pt_cmpR op_eq (pv 0) pe_str (nomark _))
(pss_one (ps_ret (pe_tup (pa_cons (pv 4) (pa_cons (pv 3) pa_nil)))))
pss_nil)
(pss_cons (ps_if (pt_cmpR op_eq (pv 0) pe_str (nomark _))
(pss_one (ps_ret (pe_tup (pa_cons (pe_op op_sub (pe_op op_mul pe_int (pv 2)) (pv 4)) (pa_cons (pe_op op_sub (pe_op op_mul pe_int (pv 1)) (pv 3)) pa_nil)))))
pss_nil)
(pss_one (ps_ret (pe_tup (pa_cons (pv 3) (pa_cons (pv 4) pa_nil)))))))))))), ?_⟩
    walk_at "rs"
    refine r_ite (fun c0 => ?_) (fun c0 => ?_)
    · walk_at "rs"
      exact fin (2 * h' - y, x) (by unfold mvd; rw [if_pos (str_eq c0)])
    walk_at "rs"
    refine r_ite (fun c1 => ?_) (fun c1 => ?_)
    · walk_at "rs"
      exact fin (2 * w' - x, 2 * h' - y) (by unfold mvd; rw [if_neg (str_ne c0), if_pos (str_eq c1)])
    walk_at "rs"
    refine r_ite (fun c2 => ?_) (fun c2 => ?_)
    · walk_at "rs"
      exact fin (y, 2 * w' - x) (by unfold mvd; rw [if_neg (str_ne c0), if_neg (str_ne c1), if_pos (str_eq c2)])
    walk_at "rs"
    refine r_ite (fun c3 => ?_) (fun c3 => ?_)
    · walk_at "rs"
      exact fin (x, 2 * h' - y) (by unfold mvd; rw [if_neg (str_ne c0), if_neg (str_ne c1), if_neg (str_ne c2), if_pos (str_eq c3)])
    walk_at "rs"
    refine r_ite (fun c4 => ?_) (fun c4 => ?_)
    · walk_at "rs"
      exact fin (2 * w' - x, y) (by unfold mvd; rw [if_neg (str_ne c0), if_neg (str_ne c1), if_neg (str_ne c2), if_neg (str_ne c3), if_pos (str_eq c4)])
    walk_at "rs"
    refine r_ite (fun c5 => ?_) (fun c5 => ?_)
    · walk_at "rs"
      exact fin (y, x) (by unfold mvd; rw [if_neg (str_ne c0), if_neg (str_ne c1), if_neg (str_ne c2), if_neg (str_ne c3), if_neg (str_ne c4), if_pos (str_eq c5)])
    walk_at "rs"
    refine r_ite (fun c6 => ?_) (fun c6 => ?_)
    · walk_at "rs"
      exact fin (2 * h' - y, 2 * w' - x) (by unfold mvd; rw [if_neg (str_ne c0), if_neg (str_ne c1), if_neg (str_ne c2), if_neg (str_ne c3), if_neg (str_ne c4), if_neg (str_ne c5), if_pos (str_eq c6)])
    walk_at "rs"
    exact fin (x, y) (by unfold mvd; rw [if_neg (str_ne c0), if_neg (str_ne c1), if_neg (str_ne c2), if_neg (str_ne c3), if_neg (str_ne c4), if_neg (str_ne c5), if_neg (str_ne c6)])
theorem ok__law_turned (T : Txt K mg A) : FnOk P w K mg base CX0 3 A.f__law_turned A.d__law_turned P__law_turned spTurnL := by
  have G__law_move := ok__law_move (P := P) (w := w) (base := base) T
  refine T.F__law_turned.ok sc__law_turned (fun vs H Q E h => ?_) (fun cdv A' outer s H vs Q E hr h => ?_)
  · obtain ⟨way, a, b, l, ms, rfl, _⟩ := h
    rfl
  · obtain ⟨way, w', h', tl, ms, rfl, ⟨at', ht, tt⟩, hk, hml, kk⟩ := h
    have hat : at'.length = ms.length := by rw [Paired.length tt, List.length_map]
    have hu := hu_of hr
    refine ⟨_, (pss_cons (ps_set (i := 4) sc__law_turned.nd rfl (Or.inl rfl) (pe_lst pa_nil))
(pss_cons (ps_set (i := 5) sc__law_turned.nd rfl (Or.inl rfl) (pe_cmpR op_in_seq (pv 0) (pe_tup (pa_cons pe_str (pa_cons pe_str (pa_cons pe_str (pa_cons pe_str pa_nil))))) (by rfl)))
(pss_cons (ps_for PassesOwn.never rfl (pi_list (pv 3)) (pg_tup rfl (pgs_cons (pg_name (i := 6) sc__law_turned.nd rfl (Or.inl rfl)) (pgs_cons (pg_name (i := 7) sc__law_turned.nd rfl (Or.inl rfl)) (pgs_cons (pg_name (i := 8) sc__law_turned.nd rfl (Or.inl rfl)) pgs_nil))))
(pss_cons (ps_asg (pe_call G__law_move (hr.mono (by first | decide | omega)) rfl T.g__law_move T.k__law_move T.b__law_move .nil pass0 (pa_cons (pv 0) (pa_cons (pv 1) (pa_cons (pv 2) (pa_cons (pv 6) (pa_cons (pv 7) pa_nil)))))) (pg_tup rfl (pgs_cons (pg_name (i := 9) sc__law_turned.nd rfl (Or.inl rfl)) (pgs_cons (pg_name (i := 10) sc__law_turned.nd rfl (Or.inl rfl)) pgs_nil))))
(pss_cut (ps_if (pt_val (pv 5))
(pss_one (ps_set (i := 8) sc__law_turned.nd rfl (Or.inl rfl) (pe_dget hu (pe_disp (pps_cons pe_str pe_str (pps_cons pe_str pe_str pps_nil)) (by rfl) (by rfl) (by intro z; cases z) (by decide)) (pv 8) (fun _ _ => rfl))))
pss_nil)
(pss_one (ps_expr (pe_bm PySem.F.plainAttrs_list PySem.F.slot_list_append PySem.F.type_list_append mt_append (pv 4) (pa_cons (pe_tup (pa_cons (pv 9) (pa_cons (pv 10) (pa_cons (pv 8) pa_nil)))) pa_nil)))))))
(pss_cut (ps_if (pt_val (pv 5))
(pss_one (ps_ret (pe_tup (pa_cons (pv 2) (pa_cons (pv 1) (pa_cons (pe_callB c_sortM (by rfl) T.n_sorted (by decide +kernel) (pa_cons (pv 4) pa_nil)) pa_nil))))))
pss_nil)
(pss_one (ps_ret (pe_tup (pa_cons (pv 1) (pa_cons (pv 2) (pa_cons (pe_callB c_sortM (by rfl) T.n_sorted (by decide +kernel) (pa_cons (pv 4) pa_nil)) pa_nil)))))))))), ?_⟩
    walk_at "rs"
    intro l hl
    walk_at "rs"
    intro qw hqw
    have ntl : tl ≠ l := ne_of_none ht hl
    have nql : qw ≠ l := (ne_of_none upd_same hqw).symm
    have hlw : (upd (upd H l (.lst [])) qw (.tup [.str "quarter", .str "back", .str "cross", .str "anti"])) l = some (.lst []) := by rw [upd_ne nql.symm]; exact upd_same
    have sw : Same H (upd (upd H l (.lst [])) qw (.tup [.str "quarter", .str "back", .str "cross", .str "anti"])) := (Same.new hl).trans (Same.new hqw)
    refine ⟨qw, _, rfl, .inr (SqT.of upd_same), rfl, rfl, ?_⟩
    have ht1 := sw _ _ ht
    have tt1 := tt.keep fun b xs e => sw _ _ e
    generalize upd (upd H l (.lst [])) qw (.tup [.str "quarter", .str "back", .str "cross", .str "anti"]) = H1 at hlw sw ht1 tt1 ⊢
    walk_at "rs"
    refine ⟨tl, rfl, ⟨_, SqL.of ht1⟩, for_list (K := K) (a := tl) (xs := at'.map V.ref) (fun i σ H4 => ∃ (as : List Addr) (v6 v7 v8 v9 v10 : Option V), σ = [some (.str way), some (.int w'), some (.int h'), some (.ref tl), some (.ref l), some (.bl (swp way)), v6, v7, v8, v9, v10] ∧
      H4 l = some (.lst (as.map V.ref)) ∧ TupsAt H4 as (((ms.take i).map (mvM way w' h')).map mV) ∧ (∀ b o, H1 b = some o → b ≠ l → H4 b = some o)) ?_ ?_ ?_ ?_⟩
    · exact ⟨[], none, none, none, none, none, rfl, hlw, .nil, fun _ _ e _ => e⟩
    · rintro i σ H4 _ ⟨as, v6, v7, v8, v9, v10, _, _, _, km⟩
      exact SqL.of (km _ _ ht1 ntl)
    · rintro i x σ H4 hi ⟨as, v6, v7, v8, v9, v10, rfl, hl4, t4, km⟩
      have keepT : ∀ {b : Addr} {xs : List V}, H1 b = some (.tup xs) → H4 b = some (.tup xs) := fun e => km _ _ e (ne_of e hlw (fun z => nomatch z))
      obtain ⟨ad, xs, rfl, hz1, hz2, hta⟩ := (tt1.keep fun b' xs e => keepT e).get hi
      obtain ⟨z, hz, rfl⟩ : ∃ z, ms[i]? = some z ∧ xs = mV z := by
        rw [List.getElem?_map] at hz2
        cases e : ms[i]? with
        | none => rw [e] at hz2; cases hz2
        | some z => rw [e] at hz2; exact ⟨z, rfl, (Option.some.inj hz2).symm⟩
      have tk : ms.take (i + 1) = ms.take i ++ [z] := by rw [List.take_add_one, hz]; rfl
      have hal : as.length = (ms.take i).length := by rw [Paired.length t4, List.length_map, List.length_map]
      have hasz : (as.map V.ref).length < 1000 := by rw [List.length_map, hal, List.length_take]; omega
      have hkz := hk z (List.mem_of_getElem? hz)
      walk_at "rs"
      refine ⟨way, w', h', z.1, z.2.1, rfl, fun q3 H6 hq3 s6 => ?_⟩
      have hl6 := s6 _ _ hl4
      walk_at "rs"
      refine ⟨fun σ H7 => σ = [some (.str way), some (.int w'), some (.int h'), some (.ref tl), some (.ref l), some (.bl (swp way)), some (.int z.1), some (.int z.2.1), some (.str (if swp way then okK z.2.2 else z.2.2)), some (.int (mvd way w' h' z.1 z.2.1).1), some (.int (mvd way w' h' z.1 z.2.1).2)] ∧ Same H6 H7, ?_, ?_⟩
      · walk_at "rs"
        refine r_iteB (fun e => ?_) (fun e => ?_)
        · walk_at "rs"
          intro qd hqd
          refine ⟨upd_same, [((Sum.inr "-" : Key), V.str "|"), (Sum.inr "|", V.str "-")], rfl, by decide, ?_⟩
          rw [upd_upd]
          walk_at "rs"
          refine ⟨qd, .str (okK z.2.2), rfl, by rw [← swap_get hkz]; exact DGet.k (k := Sum.inr z.2.2) upd_same, ?_⟩
          walk_at "rs"
          exact ⟨by rw [e]; rfl, Same.new hqd⟩
        · walk_at "rs"
          exact ⟨by rw [e]; rfl, Same.refl H6⟩
      · rintro σ H7 ⟨rfl, s7⟩
        have hl7 := s7 _ _ hl6
        walk_at "rs"
        intro q4 hq4
        walk_at "rs"
        refine ⟨as ++ [q4], _, _, _, _, _, rfl, by rw [upd_same, List.map_append]; rfl, ?_, fun b o e ne => ?_⟩
        · rw [tk, List.map_append, List.map_append]
          refine TupsAt.mut (xs := as.map V.ref) (Paired.snoc ((t4.keep fun b xs e => (s6.trans s7) _ _ e).new hq4) upd_same) (by walk_at "hl")
        · rw [upd_ne ne]
          exact (Same.new hq4) _ _ ((s6.trans s7) _ _ (km _ _ e ne))
    · rintro σ H4 ⟨as, v6, v7, v8, v9, v10, rfl, hl4, t4, km⟩
      rw [List.length_map, hat, List.take_length] at t4
      have s14 : Same H H4 := fun b o e => km _ _ (sw _ _ e) (ne_of_none e hl)
      walk_at "rs"
      refine ⟨fun σ H9 => (swp way = false ∧ σ = [some (.str way), some (.int w'), some (.int h'), some (.ref tl), some (.ref l), some (.bl (swp way)), v6, v7, v8, v9, v10]) ∧ H9 = H4, ?_, ?_⟩
      · walk_at "rs"
        refine r_iteB (fun e => ?_) (fun e => ?_)
        · walk_at "rs"
          refine ⟨l, _, rfl, ⟨as, hl4, t4⟩, fun ns l' H5 p5 q5 hl50 hl5 s5 => ?_⟩
          walk_at "rs"
          intro q hq
          exact kk q l' ns _ p5 q5 (by rw [e]; exact upd_same) (hl5.same (Same.new hq)) ((s14.trans s5).trans (Same.new hq))
        · walk_at "rs"
          exact ⟨⟨e, rfl⟩, rfl⟩
      · rintro σ H9 ⟨⟨e, rfl⟩, rfl⟩
        walk_at "rs"
        refine ⟨l, _, rfl, ⟨as, hl4, t4⟩, fun ns l' H5 p5 q5 hl50 hl5 s5 => ?_⟩
        walk_at "rs"
        intro q hq
        exact kk q l' ns _ p5 q5 (by rw [e]; exact upd_same) (hl5.same (Same.new hq)) ((s14.trans s5).trans (Same.new hq))
end
/-! ### a board is what is due -/
local macro_rules | `(tactic| walk_at "rs1") => `(tactic| first
  | with_reducible refine r_iKeys ?_
  | with_reducible refine r_prop ?_)
theorem BoardAt.mutL {C : Addr} {H : Hp} {p l : Addr} {w h : Int} {ms : List Mir} {xs ys : List V} (b : BoardAt C H p w h ms) (e : H l = some (.lst xs)) : BoardAt C (upd H l (.lst ys)) p w h ms := by
  obtain ⟨dx, d, e1, e2⟩ := b
  exact ⟨dx, d, by rw [upd_ne (ne_of e1 e (fun z => nomatch z))]; exact e1, by rw [upd_ne (ne_of e2 e (fun z => nomatch z))]; exact e2⟩
theorem cut_refs2 (as : List Addr) (lo hi : Option Int) : ∃ bs : List Addr, cutV (as.map V.ref) lo hi = bs.map V.ref ∧ (∀ a ∈ bs, a ∈ as) ∧ bs.length ≤ as.length := by
  refine ⟨(as.drop (HT.sIx (as.map V.ref).length 0 lo)).take (HT.sIx (as.map V.ref).length (as.map V.ref).length hi - HT.sIx (as.map V.ref).length 0 lo), ?_, fun a h => List.mem_of_mem_drop (List.mem_of_mem_take h), ?_⟩
  · unfold cutV
    rw [List.map_take, List.map_drop]
  · rw [List.length_take, List.length_drop]
    omega
theorem tups_in {H : Hp} {as : List Addr} {ms : List Mir} (t : TupsAt H as (ms.map mV)) : ∀ a ∈ as, ∃ m ∈ ms, H a = some (.tup (mV m)) := fun a ha => by
  obtain ⟨e1, e2⟩ := tups_rd t
  exact ⟨rdM H a, by rw [e1]; exact List.mem_map.mpr ⟨a, ha, rfl⟩, e2 a ha⟩
/-- what holds the point, of a list and of the same in another order -/
theorem valV_perm {ms ns : List Mir} (p : ns.Perm ms) (nd : (ms.map mK).Nodup) (z : Int × Int) : valV (kvsOf ns) (ptK z) = valV (kvsOf ms) (ptK z) := by
  have nd' : (ns.map mK).Nodup := ((p.map mK).nodup_iff).mpr nd
  by_cases h : z ∈ ms.map mK
  · obtain ⟨m, hm, rfl⟩ := List.mem_map.mp h
    rw [kvs_get nd hm, kvs_get nd' (p.mem_iff.mpr hm)]
  · have h' : z ∉ ns.map mK := fun q => h ((p.map mK).mem_iff.mp q)
    rw [kvs_find.mpr h, kvs_find.mpr h']
def atP (x y : Int) (m : Mir) : Bool := PyData.eqv (ptD (mK m)) (ptD (x, y))
theorem atP_iff {x y : Int} {m : Mir} : atP x y m = true ↔ ptK (mK m) = ptK (x, y) := by
  unfold atP
  simp only [PyData.eqv, PyData.eqvAll, Bool.and_eq_true, beq_iff_eq, Bool.and_true]
  constructor
  · rintro ⟨a, b⟩
    show [Sum.inl m.1, Sum.inl m.2.1] = [Sum.inl x, Sum.inl y]
    rw [a, b]
  · intro e
    injection e with e1 e
    injection e with e2 _
    injection e1 with e1
    injection e2 with e2
    exact ⟨e1, e2⟩
theorem here_get {x y : Int} : ∀ ns : List Mir, ∃ r : List V, (ns.filter (atP x y)).map (fun m => V.str m.2.2) ++ [V.non] = ((valV (kvsOf ns) (ptK (x, y))).getD .non) :: r
  | [] => ⟨[], rfl⟩
  | m :: ns => by
    by_cases h : atP x y m = true
    · refine ⟨(ns.filter (atP x y)).map (fun m => V.str m.2.2) ++ [V.non], ?_⟩
      have e : valV (kvsOf (m :: ns)) (ptK (x, y)) = some (.str m.2.2) := by
        unfold kvsOf
        rw [List.map_cons]
        exact valV_pos (atP_iff.mp h)
      rw [List.filter_cons_of_pos h, e]
      rfl
    · obtain ⟨r, e⟩ := here_get (x := x) (y := y) ns
      refine ⟨r, ?_⟩
      have e2 : valV (kvsOf (m :: ns)) (ptK (x, y)) = valV (kvsOf ns) (ptK (x, y)) := by
        unfold kvsOf
        rw [List.map_cons]
        exact valV_neg (fun q => h (atP_iff.mpr q))
      rw [List.filter_cons_of_neg h, e, e2]
theorem r_eqDp {K : PySem.W.Frag} {H : Hp} {Q : VK} {x y : V} {d e : PyData} (h1 : Dp K H x d) (h2 : Dp K H y e) (s1 : SeqAt.shaped d = true) (s2 : SeqAt.shaped e = true) (q : Q (.bl (PyData.eqv d e)) H) : rEqD K x y H Q := ⟨d, e, h1, h2, s1, s2, q⟩
def spIs (A : Ad) : Sp := fun vs H Q _ => ∃ (b : Addr) (w h : Int) (ms : List Mir) (t l : Addr) (ns : List Mir), vs = [.ref b, .ref t] ∧ BoardAt A.C_Board H b w h ms ∧ GoodMs w h ms ∧ 1 ≤ w ∧ 1 ≤ h ∧ ms.length ≤ 400 ∧
  H t = some (.tup [.int w, .int h, .ref l]) ∧ MsAt H l ns ∧ ns.Perm ms ∧ ns.Pairwise Mle ∧ ∀ H', Same H H' → Q (.bl true) H'
section
variable {P : Program} {w : World} {K : PySem.W.Frag} {mg : Str → Option Value} {base : Heap} {A : Ad}
theorem ok__law_is (T : Txt K mg A) : FnOk P w K mg base CX0 6 A.f__law_is A.d__law_is P__law_is (spIs A) := by
  have G__law_same := ok__law_same (P := P) (w := w) (base := base) T 4
  have G_Board_mirror_at := ok_Board_mirror_at (P := P) (w := w) (base := base) T
  have G_Board_width := ok_Board_width (P := P) (w := w) (base := base) T
  have G_Board_height := ok_Board_height (P := P) (w := w) (base := base) T
  have G_Board_mirrors := ok_Board_mirrors (P := P) (w := w) (base := base) T
  have G_Board___len__ := ok_Board___len__ (P := P) (w := w) (base := base) T
  refine T.F__law_is.ok sc__law_is (fun vs H Q E h => ?_) (fun cdv A' outer s H vs Q E hr h => ?_)
  · obtain ⟨b, a, c, ms, t, l, ns, rfl, _⟩ := h
    rfl
  · obtain ⟨b, w', h', ms, t, l, ns, rfl, bd, gd, hw, hh', hml, ht, ml, pm, so, kk⟩ := h
    have hu := hu_of hr
    obtain ⟨dx, d, hb, hd⟩ := id bd
    have hnl := pm.length_eq
    have okn := mDs_ok (ms := ns) (fun m hm => gd.kind m (pm.mem_iff.mp hm)) (by omega)
    refine ⟨_, (pss_cons (ps_set (i := 2) sc__law_is.nd rfl (Or.inl rfl) (pe_prop (pv 0) T.cl_Board T.pr_Board_mirrors G_Board_mirrors (hr.mono (by first | decide | omega)) T.b_Board_mirrors .nil pass0 rfl))
(pss_cons (ps_if (pt_not (pt_val (pe_call G__law_same (hr.mono (by first | decide | omega)) rfl T.g__law_same T.k__law_same T.b__law_same .nil pass0 (pa_cons (pe_lst (pa_cons (pe_prop (pv 0) T.cl_Board T.pr_Board_width G_Board_width (hr.mono (by first | decide | omega)) T.b_Board_width .nil pass0 rfl) (pa_cons (pe_prop (pv 0) T.cl_Board T.pr_Board_height G_Board_height (hr.mono (by first | decide | omega)) T.b_Board_height .nil pass0 rfl) (pa_cons (pe_callB (c_lenO G_Board___len__ (hr.mono (by first | decide | omega)) T.m_Board___len__ T.b_Board___len__ pass0) (by rfl) T.n_len (by decide +kernel) (pa_cons (pv 0) pa_nil)) (pa_cons (pv 2) pa_nil))))) (pa_cons (pe_lst (pa_cons (pe_ix ix_tup (pv 1) pe_int (fun _ _ => rfl)) (pa_cons (pe_ix ix_tup (pv 1) pe_int (fun _ _ => rfl)) (pa_cons (pe_callB c_len (by rfl) T.n_len (by decide +kernel) (pa_cons (pe_ix ix_tup (pv 1) pe_int (fun _ _ => rfl)) pa_nil)) (pa_cons (pe_ix ix_tup (pv 1) pe_int (fun _ _ => rfl)) pa_nil))))) pa_nil)))))
(pss_one (ps_ret pe_bl))
pss_nil)
(pss_cons (ps_expr (pe_bm0 PySem.F.plainAttrs_list PySem.F.slot_list_clear PySem.F.type_list_clear mt_clear (pv 2)))
(pss_cons (ps_for PassesOwn.never rfl (pi_list (pe_op op_cat (pe_lst (pa_cons (pe_tup (pa_cons pe_int (pa_cons pe_int pa_nil))) (pa_cons (pe_tup (pa_cons pe_int (pa_cons pe_int pa_nil))) pa_nil))) (pe_lc (own := [("_law_row", 6)]) (g := gName 6) (tt := tYes) (te := (tTup (tCons (tOp (rIxT K) (tVar 6) (tC (.int 0))) (tCons (tOp (rIxT K) (tVar 6) (tC (.int 1))) tNil)))) (by rfl) sc__law_is.nd (pi_list (pe_op op_cat (pe_slice sl_list (pe_ix ix_tup (pv 1) pe_int (fun _ _ => rfl)) po_none (po_some pe_int)) (pe_slice sl_list (pe_ix ix_tup (pv 1) pe_int (fun _ _ => rfl)) (po_some (pe_un un_neg pe_int)) po_none))) (blkOk_by (own := [("_law_row", 6)]) (N := N__law_is) (sc := defScope s__law_is) (by decide +kernel)) (fun _ _ _ _ _ => by exact (pg_name (i := 6) sc__law_is.nd rfl (Or.inl rfl))) (fun _ _ _ _ _ => by exact pts_nil) (fun _ _ _ _ _ => by exact (pe_tup (pa_cons (pe_ix ix_tup (pv 6) pe_int (fun _ _ => rfl)) (pa_cons (pe_ix ix_tup (pv 6) pe_int (fun _ _ => rfl)) pa_nil))))))) (pg_tup rfl (pgs_cons (pg_name (i := 3) sc__law_is.nd rfl (Or.inr rfl)) (pgs_cons (pg_name (i := 4) sc__law_is.nd rfl (Or.inr rfl)) pgs_nil)))
(pss_cons (ps_set (i := 5) sc__law_is.nd rfl (Or.inl rfl) (pe_op op_cat (pe_lc (own := [("_law_row", 6)]) (g := gName 6) (tt := (tTest (tOp (rEqD K) (tTup (tCons (tOp (rIxT K) (tVar 6) (tC (.int 0))) (tCons (tOp (rIxT K) (tVar 6) (tC (.int 1))) tNil))) (tTup (tCons (tVar 3) (tCons (tVar 4) tNil)))))) (te := (tOp (rIxT K) (tVar 6) (tC (.int 2)))) (by rfl) sc__law_is.nd (pi_list (pe_ix ix_tup (pv 1) pe_int (fun _ _ => rfl))) (blkOk_by (own := [("_law_row", 6)]) (N := N__law_is) (sc := defScope s__law_is) (by decide +kernel)) (fun _ _ _ _ _ => by exact (pg_name (i := 6) sc__law_is.nd rfl (Or.inl rfl))) (fun _ _ _ _ _ => by exact (pts_one (pt_cmpR (op_eqD hr.units) (pe_tup (pa_cons (pe_ix ix_tup (pv 6) pe_int (fun _ _ => rfl)) (pa_cons (pe_ix ix_tup (pv 6) pe_int (fun _ _ => rfl)) pa_nil))) (pe_tup (pa_cons (pv 3) (pa_cons (pv 4) pa_nil))) (nomark _)))) (fun _ _ _ _ _ => by exact (pe_ix ix_tup (pv 6) pe_int (fun _ _ => rfl)))) (pe_lst (pa_cons pe_non pa_nil))))
(pss_one (ps_if (PW.pt (pw_and (pt_cmpR op_lt (pv 3) (pe_op op_mul pe_int (pe_ix ix_tup (pv 1) pe_int (fun _ _ => rfl))) (nomark _)) (pw_and (pt_cmpR op_lt (pv 4) (pe_op op_mul pe_int (pe_ix ix_tup (pv 1) pe_int (fun _ _ => rfl))) (nomark _)) (pw_and1 (pt_not (pt_val (pe_call G__law_same (hr.mono (by first | decide | omega)) rfl T.g__law_same T.k__law_same T.b__law_same .nil pass0 (pa_cons (pe_meth (pv 0) T.cl_Board T.m_Board_mirror_at G_Board_mirror_at (hr.mono (by first | decide | omega)) T.b_Board_mirror_at .nil passL (pa_cons (pv 3) (pa_cons (pv 4) pa_nil))) (pa_cons (pe_ix ix_list (pv 5) pe_int (fun _ _ => rfl)) pa_nil)))))))))
(pss_one (ps_ret pe_bl))
pss_nil))))
(pss_one (ps_ret (pe_call G__law_same (hr.mono (by first | decide | omega)) rfl T.g__law_same T.k__law_same T.b__law_same .nil pass0 (pa_cons (pe_prop (pv 0) T.cl_Board T.pr_Board_mirrors G_Board_mirrors (hr.mono (by first | decide | omega)) T.b_Board_mirrors .nil pass0 rfl) (pa_cons (pe_ix ix_tup (pv 1) pe_int (fun _ _ => rfl)) pa_nil))))))))), ?_⟩
    walk_at "rs"
    refine ⟨b, dx, _, rfl, hb, ?_⟩
    refine ⟨b, w', h', ms, rfl, bd, by omega, gd.nd, fun ns1 tl H1 p1 q1 ht0 htl s1 => ?_⟩
    have en : ns1 = ns := sorted_one (p1.trans pm.symm) q1 so
    subst en
    have bd1 := bd.same s1
    have hb1 := s1 _ _ hb
    have ht1 := s1 _ _ ht
    obtain ⟨as1, hl1, tt1⟩ := id (ml.same s1)
    have hal1 : as1.length = ns1.length := by rw [Paired.length tt1, List.length_map]
    walk_at "rs"
    refine ⟨b, dx, _, rfl, hb1, ?_⟩
    refine ⟨b, w', h', ms, rfl, bd1, ?_⟩
    walk_at "rs"
    refine ⟨b, dx, _, rfl, hb1, ?_⟩
    refine ⟨b, w', h', ms, rfl, bd1, ?_⟩
    walk_at "rs"
    refine ⟨b, dx, _, rfl, hb1, ?_⟩
    refine ⟨b, w', h', ms, rfl, bd1, _, rfl, by omega, by omega, ?_⟩
    walk_at "rs"
    intro x1 hx1
    walk_at "rs"
    intro x2 hx2
    have sx : Same H1 (upd (upd H1 x1 (.lst [.int w', .int h', .int ((ms.length : Nat) : Int), .ref tl])) x2 (.lst [.int w', .int h', .int (((as1.map V.ref).length : Nat) : Int), .ref l])) := (Same.new hx1).trans (Same.new hx2)
    have e1 : (upd (upd H1 x1 (.lst [.int w', .int h', .int ((ms.length : Nat) : Int), .ref tl])) x2 (.lst [.int w', .int h', .int (((as1.map V.ref).length : Nat) : Int), .ref l])) x1 = some (.lst [.int w', .int h', .int ((ms.length : Nat) : Int), .ref tl]) := by rw [upd_ne (ne_of_none upd_same hx2)]; exact upd_same
    have hlen1 : (((as1.map V.ref).length : Nat) : Int) = ((ms.length : Nat) : Int) := by rw [List.length_map]; omega
    refine ⟨.ref x1, .ref x2, .list [.int w', .int h', .int ((ms.length : Nat) : Int), .list (ns1.map mD)], rfl, .lst (SqL.of e1) (.cons (.int _) (.cons (.int _) (.cons (.int _) (.cons (htl.same sx).dp .nil)))),
      .lst (SqL.of upd_same) (.cons (.int _) (.cons (.int _) (.cons (by rw [hlen1]; exact .int _) (.cons ((ml.same s1).same sx).dp .nil)))), ?_, fun H2 s2 => ?_⟩
    · rw [okD, Bool.and_eq_true]
      refine ⟨by simp, ?_⟩
      rw [okDs, okDs, okDs, okDs, okn]
      rfl
    · have s12 := sx.trans s2
      obtain ⟨at2, htl2, _⟩ := id (htl.same s12)
      walk_at "rs"
      refine ⟨tl, _, rfl, rfl, htl2, ?_⟩
      have bd3 := (bd1.same s12).mutL (ys := []) htl2
      have s03 : Same H (upd H2 tl (.lst [])) := (s1.trans s12).mut ht0
      generalize upd H2 tl (.lst []) = H3 at bd3 s03 ⊢
      have ml3 := ml.same s03
      have ht3 := s03 _ _ ht
      have hb3 := s03 _ _ hb
      obtain ⟨as, hl3, tt3⟩ := id ml3
      have hal : as.length = ns1.length := by rw [Paired.length tt3, List.length_map]
      walk_at "rs"
      intro q1' hq1
      walk_at "rs"
      intro q2' hq2
      walk_at "rs"
      intro l0 hl0
      walk_at "rs"
      obtain ⟨b1, eb1, mb1, zb1⟩ := cut_refs2 as none (some 3)
      obtain ⟨b2, eb2, mb2, zb2⟩ := cut_refs2 as (some (-2)) none
      rw [eb1]
      intro c1 hc1
      walk_at "rs"
      rw [show (-(2 : Int)) = -2 from rfl, eb2]
      intro c2 hc2
      have sz12 : (b1.map V.ref).length + (b2.map V.ref).length ≤ sizeLine := by
        rw [List.length_map, List.length_map]
        exact Nat.le_trans (m := 1000) (by omega) (by decide)
      refine ⟨c1, c2, _, _, rfl, rfl, by walk_at "hl", by walk_at "hl", sz12, fun c3 hc3 => ?_⟩
      rw [← List.map_append]
      -- the heap at the comprehension
      have n12 : q1' ≠ q2' := ne_of_none upd_same hq2
      have g1 : (upd (upd (upd (upd (upd (upd H3 q1' (.tup [.int 2, .int 1])) q2' (.tup [.int 1, .int 2])) l0 (.lst [.ref q1', .ref q2'])) c1 (.lst (b1.map V.ref))) c2 (.lst (b2.map V.ref))) c3 (.lst ((b1 ++ b2).map V.ref))) q1' = some (.tup (ptV (2, 1))) :=
        (Same.new hc3) _ _ ((Same.new hc2) _ _ ((Same.new hc1) _ _ ((Same.new hl0) _ _ ((Same.new hq2) _ _ upd_same))))
      have g2 : (upd (upd (upd (upd (upd (upd H3 q1' (.tup [.int 2, .int 1])) q2' (.tup [.int 1, .int 2])) l0 (.lst [.ref q1', .ref q2'])) c1 (.lst (b1.map V.ref))) c2 (.lst (b2.map V.ref))) c3 (.lst ((b1 ++ b2).map V.ref))) q2' = some (.tup (ptV (1, 2))) :=
        (Same.new hc3) _ _ ((Same.new hc2) _ _ ((Same.new hc1) _ _ ((Same.new hl0) _ _ upd_same)))
      have g3 : (upd (upd (upd (upd (upd (upd H3 q1' (.tup [.int 2, .int 1])) q2' (.tup [.int 1, .int 2])) l0 (.lst [.ref q1', .ref q2'])) c1 (.lst (b1.map V.ref))) c2 (.lst (b2.map V.ref))) c3 (.lst ((b1 ++ b2).map V.ref))) l0 = some (.lst [.ref q1', .ref q2']) :=
        (Same.new hc3) _ _ ((Same.new hc2) _ _ ((Same.new hc1) _ _ upd_same))
      have g4 : (upd (upd (upd (upd (upd (upd H3 q1' (.tup [.int 2, .int 1])) q2' (.tup [.int 1, .int 2])) l0 (.lst [.ref q1', .ref q2'])) c1 (.lst (b1.map V.ref))) c2 (.lst (b2.map V.ref))) c3 (.lst ((b1 ++ b2).map V.ref))) c3 = some (.lst ((b1 ++ b2).map V.ref)) := upd_same
      have g5 : Same H3 (upd (upd (upd (upd (upd (upd H3 q1' (.tup [.int 2, .int 1])) q2' (.tup [.int 1, .int 2])) l0 (.lst [.ref q1', .ref q2'])) c1 (.lst (b1.map V.ref))) c2 (.lst (b2.map V.ref))) c3 (.lst ((b1 ++ b2).map V.ref))) :=
        (((((Same.new hq1).trans (Same.new hq2)).trans (Same.new hl0)).trans (Same.new hc1)).trans (Same.new hc2)).trans (Same.new hc3)
      generalize upd (upd (upd (upd (upd (upd H3 q1' (.tup [.int 2, .int 1])) q2' (.tup [.int 1, .int 2])) l0 (.lst [.ref q1', .ref q2'])) c1 (.lst (b1.map V.ref))) c2 (.lst (b2.map V.ref))) c3 (.lst ((b1 ++ b2).map V.ref)) = H4 at g1 g2 g3 g4 g5 ⊢
      have tt4 := tt3.keep fun b xs e => g5 _ _ e
      refine ⟨c3, rfl, ⟨_, SqL.of g4⟩, fun D hD => lc_list (K := K) (a := c3) (xs := (b1 ++ b2).map V.ref) (fun j H9 => Same H4 H9 ∧ ∃ (bs : List Addr) (pts : List (Int × Int)), H9 D = some (.lst (bs.map V.ref)) ∧ TupsAt H9 bs (pts.map ptV) ∧ (∀ z ∈ pts, z ∈ ns1.map mK) ∧ pts.length ≤ j) ?_ ?_ ?_ ?_⟩
      · exact ⟨Same.new hD, [], [], upd_same, .nil, fun _ h => by simp at h, Nat.le_refl _⟩
      · rintro j H9 _ ⟨sm9, _⟩
        exact SqL.of (sm9 _ _ g4)
      · rintro j v H9 hj ⟨sm9, bs, pts, hD9, t9, hin9, hz9⟩
        obtain ⟨a, ha, rfl⟩ : ∃ a, (b1 ++ b2)[j]? = some a ∧ v = .ref a := by
          rw [List.getElem?_map] at hj
          cases e : (b1 ++ b2)[j]? with
          | none => rw [e] at hj; cases hj
          | some a => rw [e] at hj; exact ⟨a, rfl, (Option.some.inj hj).symm⟩
        have hjl : j < (b1 ++ b2).length := (List.getElem?_eq_some_iff.mp ha).1
        rw [List.length_append] at hjl
        have hma : a ∈ as := by
          rcases List.mem_append.mp (List.mem_of_getElem? ha) with h | h
          · exact mb1 a h
          · exact mb2 a h
        obtain ⟨m, hm, hta⟩ := tups_in (tt4.keep fun b xs e => sm9 _ _ e) a hma
        walk_at "rs"
        refine ⟨rfl, ?_⟩
        walk_at "rs"
        intro u hu'
        have hDu : D ≠ u := ne_of_none hD9 hu'
        have hbl : bs.length = pts.length := by rw [Paired.length t9, List.length_map]
        have hbz : (bs.map V.ref).length < 1000 := by rw [List.length_map]; omega
        refine ⟨bs.map V.ref, by walk_at "hl", by walk_at "sz", (sm9.trans (Same.new hu')).mut hD, bs ++ [u], pts ++ [mK m], by rw [upd_same, List.map_append]; rfl, ?_, fun z hz => ?_, by simp; omega⟩
        · rw [List.map_append]
          refine TupsAt.mut (xs := bs.map V.ref) (Paired.snoc (t9.new hu') upd_same) (by walk_at "hl")
        · rcases List.mem_append.mp hz with hz | hz
          · exact hin9 z hz
          · rw [List.mem_singleton] at hz
            subst hz
            exact List.mem_map.mpr ⟨m, hm, rfl⟩
      · rintro H9 ⟨sm9, bs, pts, hD9, t9, hin9, hz9⟩
        rw [List.length_map, List.length_append] at hz9
        have hbl : bs.length = pts.length := by rw [Paired.length t9, List.length_map]
        have sz3 : ([V.ref q1', V.ref q2'] : List V).length + (bs.map V.ref).length ≤ sizeLine := by
          rw [List.length_map]
          exact Nat.le_trans (m := 2000) (by simp; omega) (by decide)
        refine ⟨l0, D, _, _, rfl, rfl, sm9 _ _ g3, hD9, sz3, fun pl hpl => ?_⟩
        have s05 : Same H (upd H9 pl (.lst ([V.ref q1', V.ref q2'] ++ bs.map V.ref))) := ((s03.trans g5).trans sm9).trans (Same.new hpl)
        have s35 : Same H3 (upd H9 pl (.lst ([V.ref q1', V.ref q2'] ++ bs.map V.ref))) := (g5.trans sm9).trans (Same.new hpl)
        have hpl5 : (upd H9 pl (.lst ([V.ref q1', V.ref q2'] ++ bs.map V.ref))) pl = some (.lst ((q1' :: q2' :: bs).map V.ref)) := upd_same
        have tp5 : TupsAt (upd H9 pl (.lst ([V.ref q1', V.ref q2'] ++ bs.map V.ref))) (q1' :: q2' :: bs) (((2, 1) :: (1, 2) :: pts).map ptV) :=
          .cons ((Same.new hpl) _ _ (sm9 _ _ g1)) (.cons ((Same.new hpl) _ _ (sm9 _ _ g2)) (t9.new hpl))
        generalize upd H9 pl (.lst ([V.ref q1', V.ref q2'] ++ bs.map V.ref)) = H5 at s05 s35 hpl5 tp5 ⊢
        have bd5 := bd3.same s35
        have ht5 := s35 _ _ ht3
        have ml5 := ml3.same s35
        refine ⟨pl, rfl, ⟨_, SqL.of hpl5⟩, for_list (K := K) (a := pl) (xs := (q1' :: q2' :: bs).map V.ref) (fun i σ H6 => ∃ (v3 v4 v5 v6 : Option V), σ = [some (.ref b), some (.ref t), some (.ref tl), v3, v4, v5, v6] ∧ Same H5 H6) ?_ ?_ ?_ ?_⟩
        · exact ⟨_, _, _, _, rfl, Same.refl H5⟩
        · rintro i σ H6 _ ⟨_, _, _, _, _, s6⟩
          exact SqL.of (s6 _ _ hpl5)
        · rintro i v σ H6 hi ⟨v3, v4, v5, v6, rfl, s6⟩
          obtain ⟨ad, xs, rfl, hz1, hz2, hta⟩ := (tp5.keep fun b' xs e => s6 b' _ e).get hi
          obtain ⟨z, hz, rfl⟩ : ∃ z, ((2, 1) :: (1, 2) :: pts)[i]? = some z ∧ xs = ptV z := by
            rw [List.getElem?_map] at hz2
            cases e : ((2, 1) :: (1, 2) :: pts)[i]? with
            | none => rw [e] at hz2; cases hz2
            | some z => rw [e] at hz2; exact ⟨z, rfl, (Option.some.inj hz2).symm⟩
          obtain ⟨x, y⟩ := z
          have hzm := List.mem_of_getElem? hz
          have inz : x < 2 * w' → y < 2 * h' → Ins w' h' x y := fun ix iy => by
            rcases List.mem_cons.mp hzm with e | hzm
            · injection e with e1 e2
              subst e1 e2
              exact ⟨by omega, ix, by omega, iy, by decide⟩
            · rcases List.mem_cons.mp hzm with e | hzm
              · injection e with e1 e2
                subst e1 e2
                exact ⟨by omega, ix, by omega, iy, by decide⟩
              · obtain ⟨m, hm, e⟩ := List.mem_map.mp (hin9 _ hzm)
                injection e with e1 e2
                subst e1 e2
                exact gd.ins m (pm.mem_iff.mp hm)
          have ht6 := s6 _ _ ht5
          obtain ⟨as6, hl6, tt6⟩ := id (ml5.same s6)
          have hal6 : as6.length = ns1.length := by rw [Paired.length tt6, List.length_map]
          walk_at "rs"
          refine ⟨l, rfl, ⟨_, SqL.of hl6⟩, fun D2 hD2 => lc_list (K := K) (a := l) (xs := as6.map V.ref) (fun j H9 => Same H6 H9 ∧ H9 D2 = some (.lst (((ns1.take j).filter (atP x y)).map fun m => V.str m.2.2))) ?_ ?_ ?_ ?_⟩
          · exact ⟨Same.new hD2, by rw [List.take_zero]; exact upd_same⟩
          · rintro j H9 _ ⟨sm9, _⟩
            exact SqL.of (sm9 _ _ hl6)
          · rintro j v H9 hj ⟨sm9, hD9⟩
            obtain ⟨e, xs, rfl, he, hx, hte⟩ := (tt6.keep fun b xs h => sm9 b _ h).get hj
            obtain ⟨m, hm, rfl⟩ : ∃ z, ns1[j]? = some z ∧ xs = mV z := by
              rw [List.getElem?_map] at hx
              cases e : ns1[j]? with
              | none => rw [e] at hx; cases hx
              | some z => rw [e] at hx; exact ⟨z, rfl, (Option.some.inj hx).symm⟩
            have tk : ns1.take (j + 1) = ns1.take j ++ [m] := by rw [List.take_add_one, hm]; rfl
            have hfl : (((ns1.take j).filter (atP x y)).map fun m => V.str m.2.2).length < 1000 := by
              have := List.length_filter_le (atP x y) (ns1.take j)
              rw [List.length_take] at this
              rw [List.length_map]
              omega
            walk_at "rs"
            refine ⟨rfl, ?_⟩
            walk_at "rs"
            intro u1 hu1
            walk_at "rs"
            intro u2 hu2
            have nu : u1 ≠ u2 := ne_of_none upd_same hu2
            refine r_eqDp (d := ptD (mK m)) (e := ptD (x, y)) (dp_pt (by walk_at "hl")) (dp_pt upd_same) (okD_shaped (ptD_ok _) (by decide)) (okD_shaped (ptD_ok _) (by decide)) ?_
            have hD1 : D2 ≠ u1 := ne_of_none hD9 hu1
            have hD2' : D2 ≠ u2 := ne_of_none (show (upd H9 u1 (.tup [.int m.1, .int m.2.1])) D2 = _ by rw [upd_ne hD1]; exact hD9) hu2
            walk_at "rs"
            refine r_iteB (fun cc => ?_) (fun cc => ?_)
            · walk_at "rs"
              refine ⟨_, (by rw [upd_ne hD2', upd_ne hD1]; exact hD9), by walk_at "sz", ((sm9.trans (Same.new hu1)).trans (Same.new hu2)).mut hD2, ?_⟩
              rw [upd_same, tk, List.filter_append, List.map_append, List.filter_cons_of_pos (show atP x y m = true from cc)]
              rfl
            · have cn : ¬ atP x y m = true := by
                rw [show atP x y m = false from cc]
                exact Bool.false_ne_true
              refine ⟨(sm9.trans (Same.new hu1)).trans (Same.new hu2), ?_⟩
              rw [upd_ne hD2', upd_ne hD1, hD9, tk, List.filter_append, List.filter_cons_of_neg cn]
              simp
          · rintro H9 ⟨sm9, hD9⟩
            rw [List.length_map, hal6, List.take_length] at hD9
            have hfl : ((ns1.filter (atP x y)).map fun m => V.str m.2.2).length ≤ 400 := by
              have := List.length_filter_le (atP x y) ns1
              rw [List.length_map]
              omega
            walk_at "rs"
            intro nn hnn
            have szc : ((ns1.filter (atP x y)).map fun m => V.str m.2.2).length + ([V.non] : List V).length ≤ sizeLine := Nat.le_trans (m := 1000) (by simp; simp at hfl; omega) (by decide)
            refine ⟨D2, nn, _, _, rfl, rfl, (Same.new hnn) _ _ hD9, upd_same, szc, fun hr' hhr => ?_⟩
            obtain ⟨r, er⟩ := here_get (x := x) (y := y) ns1
            rw [er, valV_perm pm gd.nd (x, y)]
            have s69 : Same H6 (upd (upd H9 nn (.lst [.non])) hr' (.lst (((valV (kvsOf ms) (ptK (x, y))).getD .non) :: r))) := (sm9.trans (Same.new hnn)).trans (Same.new hhr)
            have hhr' : (upd (upd H9 nn (.lst [.non])) hr' (.lst (((valV (kvsOf ms) (ptK (x, y))).getD .non) :: r))) hr' = some (.lst (((valV (kvsOf ms) (ptK (x, y))).getD .non) :: r)) := upd_same
            obtain ⟨dd, hok, hdd⟩ := kind_data (K := K) gd (ptK (x, y))
            generalize upd (upd H9 nn (.lst [.non])) hr' (.lst (((valV (kvsOf ms) (ptK (x, y))).getD .non) :: r)) = H10 at s69 hhr' ⊢
            have hat0 : atI (((valV (kvsOf ms) (ptK (x, y))).getD .non) :: r) 0 = some ((valV (kvsOf ms) (ptK (x, y))).getD .non) := atI_nat (j := 0) rfl
            have ht10 := s69 _ _ ht6
            have bd10 := (bd5.same s6).same s69
            have hb10 := s69 _ _ (s6 _ _ (s35 _ _ hb3))
            generalize hvv : (valV (kvsOf ms) (ptK (x, y))).getD .non = vv at hhr' hat0 hdd ⊢
            walk_at "rs"
            refine r_ite (fun cx => ?_) (fun cx => ?_)
            · walk_at "rs"
              refine r_ite (fun cy => ?_) (fun cy => ?_)
              · walk_at "rs"
                refine ⟨b, dx, _, rfl, hb10, bf_no _ _ _ (by decide +kernel) (by decide +kernel) (by decide +kernel), ?_⟩
                walk_at "rs"
                refine ⟨b, w', h', ms, x, y, rfl, bd10, fun n => absurd (inz cx cy) n, fun _ H11 s11 => ?_⟩
                have hhr11 := s11 _ _ hhr'
                rw [hvv]
                walk_at "rs"
                refine ⟨vv, vv, dd, rfl, hdd _, hdd _, hok, fun H12 s12 => ?_⟩
                walk_at "rs"
                exact ⟨_, _, _, _, rfl, ((s6.trans s69).trans s11).trans s12⟩
              · walk_at "rs"
                exact ⟨_, _, _, _, rfl, s6.trans s69⟩
            · walk_at "rs"
              exact ⟨_, _, _, _, rfl, s6.trans s69⟩
        · rintro σ H6 ⟨v3, v4, v5, v6, rfl, s6⟩
          have bd6 := bd5.same s6
          have hb6 := s6 _ _ (s35 _ _ hb3)
          have ht6 := s6 _ _ ht5
          walk_at "rs"
          refine ⟨b, dx, _, rfl, hb6, ?_⟩
          refine ⟨b, w', h', ms, rfl, bd6, by omega, gd.nd, fun ns2 tl2 H7 p7 q7 ht70 htl7 s7 => ?_⟩
          have en : ns2 = ns1 := sorted_one (p7.trans pm.symm) q7 so
          subst en
          have ht7 := s7 _ _ ht6
          walk_at "rs"
          refine ⟨.ref tl2, .ref l, .list (ns2.map mD), rfl, htl7.dp, ((ml5.same s6).same s7).dp, okD_up _ _ okn, fun H8 s8 => ?_⟩
          exact kk H8 (((s05.trans s6).trans s7).trans s8)
end
/-! ### == of two dicts whose keys are tuples and whose values are texts -/
section
variable {prog : Program} {w : World} {κ : Type} [DecidableEq κ] {knd : HeapKind prog w κ} {A : Around} {E : Value → Shared → Prop} {s : Shared}
def txt : Value → Option Str
  | .str a _ => some a
  | _ => none
def likeIn (ys : List (κ × Addr × Value)) (x : κ × Addr × Value) : Bool := ys.any fun y => decide (y.1 = x.1) && decide (txt y.2.2 = txt x.2.2)
theorem likeIn_at {ys : List (κ × Addr × Value)} (nd : (ys.map (·.1)).Nodup) {j : Nat} {k : κ} {p : Addr × Value} (h : ys[j]? = some (k, p)) (x : κ × Addr × Value) (e : x.1 = k) : likeIn ys x = decide (txt p.2 = txt x.2.2) := by
  subst e
  by_cases c : txt p.2 = txt x.2.2
  · rw [decide_eq_true c]
    exact List.any_eq_true.mpr ⟨_, List.mem_of_getElem? h, by simp [c]⟩
  · rw [decide_eq_false c]
    refine Bool.eq_false_iff.mpr fun q => ?_
    obtain ⟨y, hy, hq⟩ := List.any_eq_true.mp q
    simp only [Bool.and_eq_true, decide_eq_true_eq] at hq
    obtain ⟨i, hi⟩ := List.getElem?_of_mem hy
    have e1 : (ys.map (·.1))[i]? = some x.1 := by rw [List.getElem?_map, hi]; exact congrArg some hq.1
    have e2 : (ys.map (·.1))[j]? = some x.1 := by rw [List.getElem?_map, h]; rfl
    have hil : i < (ys.map (·.1)).length := (List.getElem?_eq_some_iff.mp e1).1
    have ij : i = j := (List.getElem?_inj hil nd).mp (e1.trans e2.symm)
    subst ij
    rw [hi] at h
    cases h
    exact c hq.2
theorem likeIn_none {ys : List (κ × Addr × Value)} {x : κ × Addr × Value} (h : ∀ (j : Nat) (p : Addr × Value), ys[j]? ≠ some (x.1, p)) : likeIn ys x = false := by
  refine Bool.eq_false_iff.mpr fun q => ?_
  obtain ⟨y, hy, hq⟩ := List.any_eq_true.mp q
  simp only [Bool.and_eq_true, decide_eq_true_eq] at hq
  obtain ⟨i, hi⟩ := List.getElem?_of_mem hy
  exact h i y.2 (by rw [hi, ← hq.1])
theorem pairs_like {nm : String} {a b : Addr} {xs ys : List (κ × Addr × Value)} {Q : Bool → Shared → Prop} (hr : knd.room A) (ha : (a == sysModules) = false) (hb : (b == sysModules) = false)
    (da : s.heap.DictOfH knd a xs) (db : s.heap.DictOfH knd b ys) (tx : ∀ x ∈ xs, ∃ z t, x.2.2 = .str z t) (ty : ∀ y ∈ ys, ∃ z t, y.2.2 = .str z t)
    (h : Q (xs.length == ys.length && xs.all (likeIn ys)) s) : wpAny (model prog w) A (Builtin.Dict.samePairs nm a b) Q E s := by
  obtain ⟨oa, es, ep, hoa, _, hda, hes, hka, _⟩ := da
  obtain ⟨ob, fs, fp, hob, _, hdb, hfs, hkb, ndb⟩ := db
  have za := size_of_entries hes
  have zb := size_of_entries hfs
  unfold Builtin.Dict.samePairs Builtin.Dict.showsAll
  rw [if_neg (show ¬ (a == sysModules) = true by rw [ha]; exact Bool.false_ne_true), if_neg (show ¬ (b == sysModules) = true by rw [hb]; exact Bool.false_ne_true)]
  refine wpAny_bind ?_
  refine wpAny_pure ?_
  refine wpAny_bind ?_
  refine wpAny_pure ?_
  refine wpAny_bind ?_
  refine wpAny_dictEntries hoa hda ?_
  dsimp only
  refine wpAny_bind ?_
  refine wpAny_dictEntries hob hdb ?_
  rw [za, zb]
  by_cases hn : xs.length = ys.length
  · rw [if_neg (by simp [hn])]
    have hq : Q (xs.all (likeIn ys)) s := by simpa [hn] using h
    refine wpAny_bind ?_
    refine wpAny_dictEpoch hoa hda ?_
    refine wpAny_bind ?_
    rw [Std.Legacy.Range.forIn_eq_forIn_range']
    simp only [Std.Legacy.Range.size, Nat.sub_zero, Nat.add_sub_cancel, Nat.div_one]
    have all_at : ∀ i (hi : i < xs.length), (xs.drop i).all (likeIn ys) = (likeIn ys xs[i] && (xs.drop (i + 1)).all (likeIn ys)) := fun i hi => by
      rw [List.drop_eq_getElem_cons hi, List.all_cons]
    refine wpAny_forIn_list _ (fun rest r st => st = s ∧ r = (none, ()) ∧ ∃ i, i ≤ xs.length ∧ rest = List.range' i (xs.length - i) ∧ (xs.drop i).all (likeIn ys) = xs.all (likeIn ys)) _ ?turn ?fin _ _ ⟨rfl, rfl, 0, Nat.zero_le _, by rw [Nat.sub_zero], by rw [List.drop_zero]⟩
    case fin =>
      rintro r st ⟨rfl, rfl, i, hi, hrest, hall⟩
      have hx : i = xs.length := by
        rcases Nat.lt_or_eq_of_le hi with c | c
        · rw [show xs.length - i = (xs.length - i - 1) + 1 by omega, List.range'_succ] at hrest
          cases hrest
        · exact c
      subst hx
      rw [List.drop_length] at hall
      refine wpAny_pure ?_
      have e : xs.all (likeIn ys) = true := hall.symm
      rw [e] at hq
      exact hq
    case turn =>
      rintro k rest r st ⟨rfl, rfl, i, hi, hrest, hall⟩
      have hlt : i < xs.length := by
        rcases Nat.lt_or_eq_of_le hi with c | c
        · exact c
        · rw [c, Nat.sub_self] at hrest
          cases hrest
      rw [show xs.length - i = (xs.length - (i + 1)) + 1 by omega, List.range'_succ] at hrest
      injection hrest with hk hrest
      subst hk
      rw [all_at k hlt] at hall
      have hat : es[k]? = some (entryOfKey knd xs[k]) := by rw [entry_at hes, List.getElem?_eq_getElem hlt]; rfl
      obtain ⟨z, t, ez⟩ := tx _ (List.getElem_mem hlt)
      refine wpAny_bind ?_
      refine wpAny_dictEntries hoa hda ?_
      rw [hat]
      dsimp only
      refine wpAny_bind ?_
      refine wpAny_mono (Q := fun c s2 => s2 = st ∧ c = likeIn ys xs[k]) ?_ (fun c s2 hc2 => ?_) fun _ _ z => z
      · -- the pair is looked for
        refine wpAny_holding ?_
        refine wpAny_bind ?_
        refine wpAny_dictFind_heap hr (hka _ (List.getElem_mem hlt)) hob hdb hfs hkb ndb (fun hno => ?_) fun j p hj => ?_
        · refine wpAny_pure ?_
          exact ⟨rfl, (likeIn_none hno).symm⟩
        · have hbt : fs[j]? = some (entryOfKey knd (xs[k].1, p)) := by rw [entry_at hfs, hj]; rfl
          obtain ⟨z2, t2, ez2⟩ := ty _ (List.mem_of_getElem? hj)
          have lk := likeIn_at ndb hj xs[k] rfl
          dsimp only
          refine wpAny_bind ?_
          refine wpAny_dictEntries hob hdb ?_
          rw [hbt]
          dsimp only
          refine wpAny_holding ?_
          show wpAny _ _ (eqBool xs[k].2.2 p.2) _ _ _
          have ez2' : p.2 = .str z2 t2 := ez2
          rw [lk, ez, ez2']
          refine wpAny_eqBool_str ?_
          refine ⟨rfl, ?_⟩
          by_cases c : z = z2
          · rw [decide_eq_true c, c]
            exact (decide_eq_true rfl).symm
          · rw [decide_eq_false c]
            exact (decide_eq_false (fun q => c (Option.some.inj q).symm)).symm
      · obtain ⟨rfl, hc⟩ := hc2
        cases c with
        | false =>
          rw [if_pos (by rfl)]
          refine wpAny_pure ?_
          refine wpAny_pure ?_
          rw [← hc, Bool.false_and] at hall
          rw [← hall] at hq
          exact hq
        | true =>
          rw [if_neg (by decide)]
          refine wpAny_bind ?_
          refine wpAny_dictEpoch hoa hda ?_
          rw [if_neg (by simp)]
          rw [← hc, Bool.true_and] at hall
          exact wpAny_pure ⟨rfl, rfl, k + 1, hlt, hrest, hall⟩
  · rw [if_pos (by simpa using hn)]
    have hf : (xs.length == ys.length) = false := by simpa using hn
    rw [hf, Bool.false_and] at h
    refine wpAny_bind ?_
    refine wpAny_rule ?_
    exact wpAny_pure h
end
section
theorem likeIn_val {H : Hp} {z : Str} {q : List Key × Addr × Value} {t : Tok} (eq : q.2.2 = .str z t) : ∀ {ls : List (List Key × V)} {ys : List (List Key × Addr × Value)}, KT H ls ys → (ys.map (·.1)).Nodup → (∀ p ∈ ls, ∃ z, p.2 = V.str z) →
    likeIn ys q = decide (valV ls q.1 = some (.str z))
  | [], _, r, _, _ => by
    cases r
    rfl
  | p :: ls, _, r, nd, tx => by
    cases r with
    | @cons _ y _ ys h r =>
      obtain ⟨e1, _, e3⟩ := h
      rw [List.map_cons, List.nodup_cons] at nd
      obtain ⟨z0, ez0⟩ := tx p (by simp)
      rw [ez0] at e3
      obtain ⟨t0, et0⟩ := e3
      have ih := likeIn_val eq r nd.2 fun p hp => tx p (by simp [hp])
      have cons : likeIn (y :: ys) q = ((decide (y.1 = q.1) && decide (txt y.2.2 = txt q.2.2)) || likeIn ys q) := List.any_cons
      obtain ⟨pk, pv⟩ := p
      dsimp only at ez0 e1
      subst ez0
      by_cases c : pk = q.1
      · have hn : likeIn ys q = false := by
          refine Bool.eq_false_iff.mpr fun hq => ?_
          obtain ⟨y', hy', hq'⟩ := List.any_eq_true.mp hq
          simp only [Bool.and_eq_true, decide_eq_true_eq] at hq'
          exact nd.1 (List.mem_map.mpr ⟨y', hy', by rw [hq'.1, ← c, e1]⟩)
        have hv : valV ((pk, V.str z0) :: ls) q.1 = some (.str z0) := valV_pos c
        rw [cons, hn, Bool.or_false, hv, et0, eq, decide_eq_true (show y.1 = q.1 by rw [← e1, c]), Bool.true_and]
        by_cases d : z0 = z
        · rw [d]
          rw [decide_eq_true rfl]
          exact decide_eq_true rfl
        · have e1' : decide (some (V.str z0) = some (V.str z)) = false := decide_eq_false (fun e => d (by injection e with e; injection e))
          rw [e1']
          exact decide_eq_false (fun e => d (Option.some.inj e))
      · have hv : valV ((pk, V.str z0) :: ls) q.1 = valV ls q.1 := valV_neg c
        rw [cons, hv, decide_eq_false (show ¬ y.1 = q.1 by rw [← e1]; exact c), Bool.false_and, Bool.false_or]
        exact ih
def eqT (ks ls : List (List Key × V)) : Bool := ks.length == ls.length && ks.all fun p => decide (valV ls p.1 = some p.2)
theorem all_like {H H' : Hp} {ls : List (List Key × V)} {ys : List (List Key × Addr × Value)} (r' : KT H' ls ys) (nd : (ys.map (·.1)).Nodup) (tl : ∀ p ∈ ls, ∃ z, p.2 = V.str z) : ∀ {ks : List (List Key × V)} {xs : List (List Key × Addr × Value)}, KT H ks xs → (∀ p ∈ ks, ∃ z, p.2 = V.str z) →
    xs.all (likeIn ys) = ks.all fun p => decide (valV ls p.1 = some p.2)
  | [], _, r, _ => by
    cases r
    rfl
  | p :: ks, _, r, tx => by
    cases r with
    | @cons _ x _ xs h r =>
      obtain ⟨e1, _, e3⟩ := h
      obtain ⟨z0, ez0⟩ := tx p (by simp)
      rw [ez0] at e3
      obtain ⟨t0, et0⟩ := e3
      rw [List.all_cons, List.all_cons, all_like r' nd tl r fun p hp => tx p (by simp [hp]), likeIn_val et0 r' nd tl, ez0, e1]
theorem txts {H : Hp} : ∀ {ks : List (List Key × V)} {xs : List (List Key × Addr × Value)}, KT H ks xs → (∀ p ∈ ks, ∃ z, p.2 = V.str z) → ∀ x ∈ xs, ∃ z t, x.2.2 = Value.str z t
  | [], _, r, _, x, hx => by
    cases r
    simp at hx
  | p :: ks, _, r, tx, x, hx => by
    cases r with
    | @cons _ y _ xs h r =>
      rcases List.mem_cons.mp hx with e | hx
      · subst e
        obtain ⟨_, _, e3⟩ := h
        obtain ⟨z0, ez0⟩ := tx p (by simp)
        rw [ez0] at e3
        obtain ⟨t0, et0⟩ := e3
        exact ⟨z0, t0, et0⟩
      · exact txts r (fun p hp => tx p (by simp [hp])) x hx
def rEqT : R2 := fun x y H Q => ∃ a b ks ls, x = .ref a ∧ y = .ref b ∧ H a = some (.dT ks) ∧ H b = some (.dT ls) ∧ (∀ p ∈ ks, ∃ z, p.2 = V.str z) ∧ (∀ p ∈ ls, ∃ z, p.2 = V.str z) ∧ Q (.bl (eqT ks ls)) H
theorem o_eqT {X : Cx} (hu : X.A.units + 1 < cLine) : OpR X (compareOp .Eq) rEqT := by
  intro pins s σ H x y v u Q I rx ry h
  obtain ⟨a, b, ks, ls, rfl, rfl, ea, eb, tk, tl, q⟩ := h
  obtain rfl : v = Value.ref a := rx
  obtain rfl : u = Value.ref b := ry
  obtain ⟨_, ya, xs, ra, da⟩ := dt_of I.hok ea
  obtain ⟨_, yb, ys, rb, db⟩ := dt_of I.hok eb
  have nd : (ys.map (·.1)).Nodup := by
    obtain ⟨_, _, _, _, _, _, _, _, n⟩ := db
    exact n
  refine wpAny_richCompare_same_room (op := .Eq) da.typeIs db.typeIs PySem.F.slot_dict_eq ?_ (by omega)
  refine wpAny_call_entry PySem.F.slot_dict_eq da.typeIs PySem.F.entry_dict_eq ?_ (PySem.F.args_dict_eq_2 _ _)
  refine wpAny_bind (m := Builtin.Dict.dictSlotArgs "__eq__" ⟨[.ref a, .ref b], []⟩) ?_
  unfold Builtin.Dict.dictSlotArgs
  refine wpAny_bind ?_
  refine wpAny_notOrdered_dict da.typeIs ?_
  refine wpAny_pure ?_
  refine wpAny_bind ?_
  refine wpAny_isInstance (T := "dict") db.typeIs PySem.F.sub_dict_dict ?_
  simp only [Bool.not_true, Bool.false_eq_true, if_false]
  refine wpAny_bind (m := Builtin.Dict.addrOf (.ref a)) ?_
  refine wpAny_pure ?_
  refine wpAny_bind (m := Builtin.Dict.addrOf (.ref b)) ?_
  refine wpAny_pure ?_
  refine wpAny_bind ?_
  refine pairs_like (tupleKind_room_in1 hu) ya yb da db (txts ra tk) (txts rb tl) ?_
  refine wpAny_pure ⟨_, rfl, (fun z => by cases z), ?_⟩
  have e : (xs.length == ys.length && xs.all (likeIn ys)) = eqT ks ls := by
    unfold eqT
    rw [all_like rb nd tl ra tk, Paired.length ra, Paired.length rb]
  rw [e]
  refine ⟨.bl (eqT ks ls), H, I, ?_, q⟩
  show Value.bool (eqT ks ls == true) = Value.bool (eqT ks ls)
  cases eqT ks ls <;> rfl
end
/-! ### == and + of own objects -/
section
variable {X : Cx} {CX : CXT} {k : Nat} {C g : Addr} {fd : FuncData} {ps : List Str} {sp : Sp} {E : XK}
def rOwn2 (C : Addr) (sp : Sp) (E : XK) : R2 := fun x y H Q => ∃ a b dx dy fs gs, x = .ref a ∧ y = .ref b ∧ H a = some (.ins C dx fs) ∧ H b = some (.ins C dy gs) ∧ sp [.ref a, .ref b] H Q E
theorem back_of {pins : List (Addr × Obj)} {σ : L2.St} {Q : VK} {u : Value} {s : Shared} (h : EP X pins σ Q u s) : PySem.W.CmpBack (EP X pins σ Q) u s := by
  obtain ⟨v, H, I, r, q⟩ := h
  cases u with
  | notImplemented => cases v <;> first | (obtain ⟨_, r⟩ := r; cases r; done) | cases r
  | _ => exact ⟨v, H, I, r, q⟩
theorem o_eqOwn (F : FnOk X.prog X.w X.K X.mg X.base CX k g fd ps sp) (hr : Room k X.A) (hm : Meth X.K C "__eq__" g) (hb : Binds X.K fd ps []) (hx : Passes CX X E) : OpR X (compareOp .Eq) (rOwn2 C sp E) := by
  intro pins s σ H x y v u Q I rx ry h
  obtain ⟨a, b, dx, dy, fs, gs, rfl, rfl, ea, eb, h⟩ := h
  obtain rfl : v = Value.ref a := rx
  obtain rfl : u = Value.ref b := ry
  obtain ⟨_, O, _⟩ := ins_get I.hok ea
  obtain ⟨_, O', _⟩ := ins_get I.hok eb
  obtain ⟨_, J, _⟩ := O.look
  obtain ⟨_, J', _⟩ := O'.look
  obtain ⟨_, fr⟩ := I.fr
  refine PySem.W.cmp_K (op := .Eq) (tb := .ref C) hr.units0 fr I.ok.mod.kin J J'.type (by simp [PySem.W.notFirst]) hm.at_ hm.fn ?_
  exact wpAny_mono (run_fn (dvs := []) F hr hb .nil hx I (.cons (show RelV (.ref a) (.ref a) from rfl) (.cons (show RelV (.ref b) (.ref b) from rfl) .nil)) h) (fun _ _ q => back_of q) fun _ _ z => z
theorem o_addOwn (F : FnOk X.prog X.w X.K X.mg X.base CX k g fd ps sp) (hr : Room k X.A) (hm : Meth X.K C "__add__" g) (hc : PySem.W.selfFirst X.K C = true) (hb : Binds X.K fd ps []) (hx : Passes CX X E) : OpR X (binaryOp .Add) (rOwn2 C sp E) := by
  intro pins s σ H x y v u Q I rx ry h
  obtain ⟨a, b, dx, dy, fs, gs, rfl, rfl, ea, eb, h⟩ := h
  obtain rfl : v = Value.ref a := rx
  obtain rfl : u = Value.ref b := ry
  obtain ⟨_, O, _⟩ := ins_get I.hok ea
  obtain ⟨_, O', _⟩ := ins_get I.hok eb
  obtain ⟨_, J, _⟩ := O.look
  obtain ⟨_, J', _⟩ := O'.look
  obtain ⟨_, fr⟩ := I.fr
  refine PySem.W.binop_K (op := .Add) fr I.ok.mod.kin J J'.type hc hm.at_ hm.fn ?_
  exact wpAny_mono (run_fn (dvs := []) F hr hb .nil hx I (.cons (show RelV (.ref a) (.ref a) from rfl) (.cons (show RelV (.ref b) (.ref b) from rfl) .nil)) h) (fun _ _ q => back_of q) fun _ _ z => z
end
/-! ### boards compared -/
def spEqB (A : Ad) : Sp := fun vs H Q _ => ∃ (p q : Addr) (w h : Int) (ms : List Mir) (w2 h2 : Int) (ns : List Mir), vs = [.ref p, .ref q] ∧ BoardAt A.C_Board H p w h ms ∧ BoardAt A.C_Board H q w2 h2 ns ∧
  Q (.bl (decide (w = w2) && (decide (h = h2) && eqT (kvsOf ms) (kvsOf ns)))) H
theorem kvs_txt (ms : List Mir) : ∀ p ∈ kvsOf ms, ∃ z, p.2 = V.str z := fun p hp => by
  unfold kvsOf at hp
  obtain ⟨m, _, rfl⟩ := List.mem_map.mp hp
  exact ⟨_, rfl⟩
theorem perm_of_sub : ∀ {l r : List Mir}, l.Nodup → (∀ x ∈ l, x ∈ r) → r.length ≤ l.length → l.Perm r
  | [], [], _, _, _ => List.Perm.refl _
  | [], _ :: _, _, _, h => by simp at h
  | a :: l, r, nd, sub, h => by
    obtain ⟨na, nl⟩ := List.nodup_cons.mp nd
    have ha : a ∈ r := sub a (by simp)
    have p := List.perm_cons_erase ha
    have e := List.length_erase_of_mem ha
    have q : l.Perm (r.erase a) := perm_of_sub nl (fun x hx => (List.mem_erase_of_ne (fun z : x = a => na (by rw [← z]; exact hx))).2 (sub x (by simp [hx]))) (by rw [e]; simp at h; omega)
    exact (q.cons a).trans p.symm
/-- the dicts are equal just where the mirrors are the same -/
theorem eqT_perm {ms ns : List Mir} (n1 : (ms.map mK).Nodup) (n2 : (ns.map mK).Nodup) : eqT (kvsOf ms) (kvsOf ns) = true ↔ ms.Perm ns := by
  unfold eqT
  rw [Bool.and_eq_true, beq_iff_eq, kvs_len, kvs_len]
  constructor
  · rintro ⟨hl, ha⟩
    have sub : ∀ m ∈ ms, m ∈ ns := fun m hm => by
      have q := List.all_eq_true.mp ha (ptK (mK m), V.str m.2.2) (by unfold kvsOf; exact List.mem_map.mpr ⟨m, hm, rfl⟩)
      have q := of_decide_eq_true q
      have hk : mK m ∈ ns.map mK := by
        refine Classical.byContradiction fun c => ?_
        have e : valV (kvsOf ns) (ptK (mK m)) = none := kvs_find.mpr c
        rw [show valV (kvsOf ns) (ptK (mK m), V.str m.2.2).1 = valV (kvsOf ns) (ptK (mK m)) from rfl, e] at q
        cases q
      obtain ⟨m', hm', e⟩ := List.mem_map.mp hk
      have g := kvs_get n2 hm'
      rw [e] at g
      have q2 : some (V.str m'.2.2) = some (V.str m.2.2) := g.symm.trans q
      have e2 : m'.2.2 = m.2.2 := by
        have := Option.some.inj q2
        injection this
      have e3 : m' = m := by
        obtain ⟨a, b, c⟩ := m'
        obtain ⟨a', b', c'⟩ := m
        have e4 : (a, b) = (a', b') := e
        injection e4 with e5 e6
        dsimp only at e2
        rw [e5, e6, e2]
      rw [← e3]
      exact hm'
    have d1 : ms.Nodup := (List.pairwise_map.mp n1).imp fun h e => h (congrArg mK e)
    exact perm_of_sub d1 sub (by omega)
  · intro p
    refine ⟨p.length_eq, List.all_eq_true.mpr fun kv hkv => ?_⟩
    unfold kvsOf at hkv
    obtain ⟨m, hm, rfl⟩ := List.mem_map.mp hkv
    exact decide_eq_true (kvs_get n2 (p.mem_iff.mp hm))
section
variable {P : Program} {w : World} {K : PySem.W.Frag} {mg : Str → Option Value} {base : Heap} {A : Ad}
theorem ok_Board___eq__ (T : Txt K mg A) : FnOk P w K mg base CX0 2 A.f_Board___eq__ A.d_Board___eq__ P_Board___eq__ (spEqB A) := by
  refine T.F_Board___eq__.ok sc_Board___eq__ (fun vs H Q E h => ?_) (fun cdv A' outer s H vs Q E hr h => ?_)
  · obtain ⟨p, q, a, b, ms, c, d, ns, rfl, _⟩ := h
    rfl
  · obtain ⟨p, q, w', h', ms, w2, h2, ns, rfl, ⟨dx, d, hp, hd⟩, ⟨dy, e, hq, he⟩, kk⟩ := h
    have hu := hu_of hr
    refine ⟨_, (pss_one (ps_ret (pe_and (pe_callB call_isi (by rfl) T.n_isinstance (by decide +kernel) (pa_cons (pv 1) (pa_cons (pe_glob (v := .ref A.C_Board) rfl T.g_Board rfl) pa_nil))) (pe_and (pe_cmpR op_eq (pe_fld (pv 0) rfl) (pe_fld (pv 1) rfl) (nomark _)) (pe_and (pe_cmpR op_eq (pe_fld (pv 0) rfl) (pe_fld (pv 1) rfl) (nomark _)) (pe_one (pe_cmpR (o_eqT hu) (pe_fld (pv 0) rfl) (pe_fld (pv 1) rfl) (nomark _)))))))), ?_⟩
    walk_at "rs"
    refine ⟨.ref q, .ref A.C_Board, .ref A.C_Board, .ref A.C_Board, true, rfl, .own _, .base (.ins hq T.cl_Board T.i1_Board T.i2_Board T.i3_Board T.i4_Board), (by unfold PySem.W.kitOne; rw [if_pos (beq_self_eq_true _)]), ?_⟩
    walk_at "rs"
    refine ⟨p, A.C_Board, dx, _, _, rfl, hp, T.cl_Board, T.na_Board_wide, bf_wide _ _ _, ?_⟩
    walk_at "rs"
    refine ⟨q, A.C_Board, dy, _, _, rfl, hq, T.cl_Board, T.na_Board_wide, bf_wide _ _ _, ?_⟩
    walk_at "rs"
    refine r_ite (fun c1 => ?_) (fun c1 => ?_)
    · have e1 : w' = w2 := by injection c1
      rw [decide_eq_true e1, Bool.true_and] at kk
      walk_at "rs"
      refine ⟨p, A.C_Board, dx, _, _, rfl, hp, T.cl_Board, T.na_Board_high, bf_high _ _ _, ?_⟩
      walk_at "rs"
      refine ⟨q, A.C_Board, dy, _, _, rfl, hq, T.cl_Board, T.na_Board_high, bf_high _ _ _, ?_⟩
      walk_at "rs"
      refine r_ite (fun c2 => ?_) (fun c2 => ?_)
      · have e2 : h' = h2 := by injection c2
        rw [decide_eq_true e2, Bool.true_and] at kk
        walk_at "rs"
        refine ⟨p, A.C_Board, dx, _, _, rfl, hp, T.cl_Board, T.na_Board_kinds, bf_kinds _ _ _, ?_⟩
        walk_at "rs"
        refine ⟨q, A.C_Board, dy, _, _, rfl, hq, T.cl_Board, T.na_Board_kinds, bf_kinds _ _ _, ?_⟩
        exact ⟨d, e, kvsOf ms, kvsOf ns, rfl, rfl, hd, he, kvs_txt _, kvs_txt _, kk⟩
      · rw [decide_eq_false (fun e => c2 (by rw [e])), Bool.false_and] at kk
        exact kk
    · rw [decide_eq_false (fun e => c1 (by rw [e])), Bool.false_and] at kk
      exact kk
end
/-! ### a text that is no way -/
def spWord : Sp := fun vs H Q _ => ∃ (p c : Addr) (n : Nat), vs = [.ref p] ∧ HandAt H p c n ∧ n < 900000000 ∧
  ∀ (z : Str) (H' : Hp), PyData.strOk z = true → HandAt H' p c (n + 20) → Keep2 p c H H' → Q (.str z) H'
def spRefused (A : Ad) : Sp := fun vs H Q _ => ∃ (b : Addr) (w h : Int) (ms : List Mir) (z : Str), vs = [.ref b, .str z] ∧ BoardAt A.C_Board H b w h ms ∧ GoodMs w h ms ∧ 1 ≤ w ∧ 1 ≤ h ∧ ms.length ≤ 400 ∧ wayOk z = false ∧
  ∀ H', Same H H' → Q (.str z) H'
section
variable {P : Program} {w : World} {K : PySem.W.Frag} {mg : Str → Option Value} {base : Heap} {A : Ad}
theorem ok__law_refused (T : Txt K mg A) : FnOk P w K mg base CX0 9 A.f__law_refused A.d__law_refused P__law_refused (spRefused A) := by
  have G_Board_turned := ok_Board_turned (P := P) (w := w) (base := base) T
  refine T.F__law_refused.ok sc__law_refused (fun vs H Q E h => ?_) (fun cdv A' outer s H vs Q E hr h => ?_)
  · obtain ⟨b, w', h', ms, z, rfl, _⟩ := h
    rfl
  · obtain ⟨b, w', h', ms, z, rfl, bd, gd, hw, hh, hml, hz, kk⟩ := h
    obtain ⟨dx, d, hb, hd⟩ := id bd
    refine ⟨_, (pss_cons (ps_set (i := 2) sc__law_refused.nd rfl (Or.inl rfl) pe_non)
(pss_cons (ps_try_as (i := 3) (tb := fun W => tDrop (tMethE A.C_Board "turned" (spTurned A) (WE W) (tVar 0) (tCons (tVar 1) tNil)))
      (ts := fun a cls d => tAsg (tXf a cls d A.C_InvalidTurn "value" (tVar 3)) (gName 2)) (Wout := fun _ _ _ _ => False) rfl rfl sc__law_refused.nd rfl rfl ⟨rfl, by decide, Or.inl T.g_InvalidTurn⟩ takes0
      (fun W pn xe tk _ => pss_one (ps_expr (by exact (pe_methE (pv 0) T.cl_Board T.m_Board_turned G_Board_turned (hr.mono (by decide)) T.b_Board_turned (fun σ => passAt tk σ) (by exact (pa_cons (pv 1) pa_nil))))))
      (fun a oe cls d pn hz hf => pss_one (ps_set (i := 2) sc__law_refused.nd rfl (Or.inl rfl) (by exact (pe_xf T.xf_InvalidTurn T.no_InvalidTurn hz hf (pv 3))))))
(pss_one (ps_ret (pv 2))))), ?_⟩
    walk_at "rs"
    refine ⟨b, dx, _, rfl, hb, bf_no _ _ _ (by decide +kernel) (by decide +kernel) (by decide +kernel), ?_⟩
    walk_at "rs"
    refine ⟨b, z, w', h', ms, rfl, bd, gd, hw, hh, by omega, fun _ dd H' sm hdd => ?_, (fun e => by rw [hz] at e; exact absurd e Bool.false_ne_true)⟩
    refine ⟨true, T.te_InvalidTurn, fun _ a ha => ?_, fun z => nomatch z⟩
    walk_at "rs"
    refine ⟨rfl, rfl, dd, _, _, rfl, hdd, rfl, ?_⟩
    walk_at "rs"
    exact kk _ sm
end
theorem strOk_app {a b : Str} (ha : PyData.strOk a = true) (hb : PyData.strOk b = true) : PyData.strOk (a ++ b) = true := by
  unfold PyData.strOk at *
  show (a.cps ++ b.cps).all _ = true
  rw [Array.all_append, ha, hb]
  rfl
theorem strOk_one {z : Str} (h : PyData.strOk z = true) {c : Nat} (m : c ∈ z.cps.toList) : PyData.strOk ⟨#[c]⟩ = true := by
  unfold PyData.strOk at *
  rw [← Array.all_toList] at h
  have q := List.all_eq_true.mp h c m
  simpa using q
/-! ### a drawn text -/
theorem odd_at {r : Int} (h0 : 0 ≤ r) (h1 : r < 7) : ∃ k : Str, PyData.strOk k = true ∧ atI [V.str "", .str "none", .str "Same", .str "quarter ", .str " half", .str "flipflop", .str "crossed"] r = some (.str k) := by
  have z : r = 0 ∨ r = 1 ∨ r = 2 ∨ r = 3 ∨ r = 4 ∨ r = 5 ∨ r = 6 := by omega
  rcases z with z | z | z | z | z | z | z
  · subst z; exact ⟨_, by decide +kernel, rfl⟩
  · subst z; exact ⟨_, by decide +kernel, rfl⟩
  · subst z; exact ⟨_, by decide +kernel, rfl⟩
  · subst z; exact ⟨_, by decide +kernel, rfl⟩
  · subst z; exact ⟨_, by decide +kernel, rfl⟩
  · subst z; exact ⟨_, by decide +kernel, rfl⟩
  · subst z; exact ⟨_, by decide +kernel, rfl⟩
theorem stem_at {r : Int} (h0 : 0 ≤ r) (h1 : r < 5) : ∃ k : Str, (PyData.strOk k = true ∧ k.length ≤ 6) ∧ atI [V.str "", .str "same", .str "back", .str "anti", .str "mirror"] r = some (.str k) := by
  have z : r = 0 ∨ r = 1 ∨ r = 2 ∨ r = 3 ∨ r = 4 := by omega
  rcases z with z | z | z | z | z
  · subst z; exact ⟨_, by decide +kernel, rfl⟩
  · subst z; exact ⟨_, by decide +kernel, rfl⟩
  · subst z; exact ⟨_, by decide +kernel, rfl⟩
  · subst z; exact ⟨_, by decide +kernel, rfl⟩
  · subst z; exact ⟨_, by decide +kernel, rfl⟩
theorem abc_at {r : Int} (h0 : 0 ≤ r) (h1 : r < 26) : ∃ c, atI ("abcdefghijklmnopqrstuvwxyz" : Str).cps.toList r = some c ∧ PyData.strOk ⟨#[c]⟩ = true := by
  have hl : ("abcdefghijklmnopqrstuvwxyz" : Str).cps.toList.length = 26 := by decide +kernel
  have hi : r.toNat < ("abcdefghijklmnopqrstuvwxyz" : Str).cps.toList.length := by omega
  refine ⟨_, ?_, strOk_one (z := "abcdefghijklmnopqrstuvwxyz") (by decide +kernel) (List.getElem_mem hi)⟩
  have e := atI_nat (List.getElem?_eq_getElem hi)
  rw [Int.toNat_of_nonneg h0] at e
  exact e
section
variable {P : Program} {w : World} {K : PySem.W.Frag} {mg : Str → Option Value} {base : Heap} {A : Ad}
theorem ok__law_word (T : Txt K mg A) : FnOk P w K mg base CX0 2 A.f__law_word A.d__law_word P__law_word spWord := by
  have G__law_take := ok__law_take (P := P) (w := w) (base := base) T
  refine T.F__law_word.ok sc__law_word (fun vs H Q E h => ?_) (fun cdv A' outer s H vs Q E hr h => ?_)
  · obtain ⟨p, c, n, rfl, _⟩ := h
    rfl
  · obtain ⟨p, c, n, rfl, hh, hn, kk⟩ := h
    refine ⟨_, (pss_cons (ps_set (i := 1) sc__law_word.nd rfl (Or.inl rfl) (pe_lst (pa_cons pe_str (pa_cons pe_str (pa_cons pe_str (pa_cons pe_str (pa_cons pe_str (pa_cons pe_str (pa_cons pe_str pa_nil)))))))))
(pss_cons (ps_set (i := 2) sc__law_word.nd rfl (Or.inl rfl) (pe_call G__law_take (hr.mono (by first | decide | omega)) rfl T.g__law_take T.k__law_take T.b__law_take .nil pass0 (pa_cons (pv 0) (pa_cons pe_int pa_nil))))
(pss_cons (ps_if (pt_cmpR op_eq (pv 2) pe_int (nomark _))
(pss_one (ps_ret (pe_ix ix_list (pv 1) (pe_call G__law_take (hr.mono (by first | decide | omega)) rfl T.g__law_take T.k__law_take T.b__law_take .nil pass0 (pa_cons (pv 0) (pa_cons pe_int pa_nil))) (fun _ _ => rfl))))
pss_nil)
(pss_cons (ps_set (i := 3) sc__law_word.nd rfl (Or.inl rfl) (pe_ix ix_list (pe_lst (pa_cons pe_str (pa_cons pe_str (pa_cons pe_str (pa_cons pe_str (pa_cons pe_str pa_nil)))))) (pe_call G__law_take (hr.mono (by first | decide | omega)) rfl T.g__law_take T.k__law_take T.b__law_take .nil pass0 (pa_cons (pv 0) (pa_cons pe_int pa_nil))) (fun _ _ => rfl)))
(pss_cons (ps_for PassesOwn.never rfl (pi_range1 (by rfl) T.n_range (pa_cons (pe_op op_add pe_int (pe_call G__law_take (hr.mono (by first | decide | omega)) rfl T.g__law_take T.k__law_take T.b__law_take .nil pass0 (pa_cons (pv 0) (pa_cons pe_int pa_nil)))) pa_nil)) (pg_name (i := 4) sc__law_word.nd rfl (Or.inl rfl))
(pss_one (ps_set (i := 3) sc__law_word.nd rfl (Or.inl rfl) (pe_op o_addS (pv 3) (pe_ix ix_str pe_str (pe_call G__law_take (hr.mono (by first | decide | omega)) rfl T.g__law_take T.k__law_take T.b__law_take .nil pass0 (pa_cons (pv 0) (pa_cons pe_int pa_nil))) (fun _ _ => rfl))))))
(pss_one (ps_ret (pv 3)))))))), ?_⟩
    walk_at "rs"
    intro ol hol
    obtain ⟨nop, noc⟩ := hh.ne hol
    walk_at "rs"
    refine ⟨p, c, n, _, rfl, hh.new hol, by omega, by decide, by decide, fun r1 H1 r10 r11 hh1 kp1 => ?_⟩
    have ho1 := kp1 _ _ upd_same nop noc
    have kp01 : Keep2 p c H H1 := (Keep2.new hol).trans kp1
    walk_at "rs"
    refine r_ite (fun c1 => ?_) (fun c1 => ?_)
    · walk_at "rs"
      refine ⟨p, c, n + 1, _, rfl, hh1, by omega, by decide, by decide, fun r2 H2 r20 r21 hh2 kp2 => ?_⟩
      have ho2 := kp2 _ _ ho1 nop noc
      obtain ⟨z, hz, ez⟩ := odd_at r20 r21
      walk_at "rs"
      exact kk z H2 hz (hh2.mono (by omega)) (kp01.trans kp2)
    · walk_at "rs"
      intro sl hsl
      obtain ⟨nsp, nsc⟩ := hh1.ne hsl
      walk_at "rs"
      refine ⟨p, c, n + 1, _, rfl, hh1.new hsl, by omega, by decide, by decide, fun r2 H2 r20 r21 hh2 kp2 => ?_⟩
      have hs2 := kp2 _ _ upd_same nsp nsc
      obtain ⟨z, ⟨hz, hzl⟩, ez⟩ := stem_at r20 r21
      have kp02 : Keep2 p c H H2 := kp01.trans ((Keep2.new hsl).trans kp2)
      walk_at "rs"
      refine ⟨p, c, n + 2, _, rfl, hh2, by omega, by decide, by decide, fun r3 H3 r30 r31 hh3 kp3 => ?_⟩
      walk_at "rs"
      refine ⟨_, rfl, by omega, by omega, for_range (lo := 0) (n := (1 + r3).toNat) (fun i σ H4 => ∃ (y : Str) (v4 : Option V), σ = [some (.ref p), some (.ref ol), some (.int r1), some (.str y), v4] ∧ PyData.strOk y = true ∧ y.length ≤ 6 + i ∧ HandAt H4 p c (n + 3 + i) ∧ Keep2 p c H H4) ?_ ?_ ?_⟩
      · exact ⟨z, none, rfl, hz, hzl, hh3, kp02.trans kp3⟩
      · rintro i σ H4 hi ⟨y, v4, rfl, hy, hyl, hh4, kp4⟩
        walk_at "rs"
        refine ⟨p, c, n + 3 + i, _, rfl, hh4, by omega, by decide, by decide, fun r5 H5 r50 r51 hh5 kp5 => ?_⟩
        obtain ⟨ch, ech, hch⟩ := abc_at r50 r51
        refine ⟨_, r5, ch, rfl, rfl, Nat.le_trans (m := 1000) (by decide +kernel) (by decide), ech, ?_⟩
        refine ⟨y, ⟨#[ch]⟩, rfl, rfl, Nat.le_trans (m := 1000) (by show y.length + 1 ≤ 1000; omega) (by decide), ?_⟩
        walk_at "rs"
        refine ⟨y ++ ⟨#[ch]⟩, _, rfl, strOk_app hy hch, ?_, hh5, kp4.trans kp5⟩
        have e : (y ++ (⟨#[ch]⟩ : Str)).length = y.length + 1 := by
          show (y.cps ++ #[ch]).size = y.cps.size + 1
          rw [Array.size_append]
          rfl
        rw [e]
        omega
      · rintro σ H4 ⟨y, v4, rfl, hy, hyl, hh4, kp4⟩
        walk_at "rs"
        exact kk y H4 hy (hh4.mono (by omega)) kp4
end
/-! ### the law -/
local macro_rules | `(tactic| walk_at "rs1") => `(tactic| first
  | with_reducible refine r_iKeys ?_
  | with_reducible refine r_prop ?_)
def spLaw (K : PySem.W.Frag) : Sp := fun vs H Q _ => ∃ (a : Addr) (ns : List Int), vs = [.ref a] ∧ SqL K H a (ns.map V.int) ∧ ns.length ≤ 63 ∧ ∀ H', Q (.bl true) H'
theorem mD_eqv (a b : Mir) : PyData.eqv (mD a) (mD b) = decide (a = b) := by
  obtain ⟨x, y, k⟩ := a
  obtain ⟨x', y', k'⟩ := b
  simp only [PyData.eqv, PyData.eqvAll, Bool.and_true]
  by_cases e : (x, y, k) = (x', y', k')
  · rw [decide_eq_true e]
    injection e with e1 e
    injection e with e2 e3
    subst e1 e2 e3
    simp
  · rw [decide_eq_false e]
    refine Bool.eq_false_iff.mpr fun q => e ?_
    simp only [Bool.and_eq_true, beq_iff_eq] at q
    rw [q.1, q.2.1, q.2.2]
theorem mDs_eqv : ∀ a b : List Mir, PyData.eqvAll (a.map mD) (b.map mD) = decide (a = b)
  | [], [] => by simp [PyData.eqvAll]
  | [], _ :: _ => by simp [PyData.eqvAll]
  | _ :: _, [] => by simp [PyData.eqvAll]
  | x :: a, y :: b => by
    rw [List.map_cons, List.map_cons]
    simp only [PyData.eqvAll]
    rw [mD_eqv, mDs_eqv a b]
    by_cases e1 : x = y
    · by_cases e2 : a = b
      · simp [e1, e2]
      · simp [e1, e2]
    · simp [e1]
abbrev bdD (w h : Int) (ms : List Mir) : PyData := .tuple [.int w, .int h, .list (ms.map mD)]
theorem bdD_eqv {w h w2 h2 : Int} {A B A' B' : List Mir} (n1 : (A.map mK).Nodup) (n2 : (B.map mK).Nodup) (pa : A'.Perm A) (pb : B'.Perm B) (sa : A'.Pairwise Mle) (sb : B'.Pairwise Mle) :
    (decide (w = w2) && (decide (h = h2) && eqT (kvsOf A) (kvsOf B))) = PyData.eqv (bdD w h A') (bdD w2 h2 B') := by
  have e : eqT (kvsOf A) (kvsOf B) = decide (A' = B') := by
    by_cases c : A' = B'
    · rw [decide_eq_true c]
      exact (eqT_perm n1 n2).mpr (pa.symm.trans (c ▸ pb))
    · rw [decide_eq_false c]
      refine Bool.eq_false_iff.mpr fun q => c ?_
      exact sorted_one ((pa.trans ((eqT_perm n1 n2).mp q)).trans pb.symm) sa sb
  simp only [PyData.eqv, PyData.eqvAll, Bool.and_true]
  rw [e, mDs_eqv]
  by_cases c1 : w = w2 <;> by_cases c2 : h = h2 <;> simp [c1, c2]
theorem bdD_ok {w h : Int} {X : List Mir} (hk : ∀ m ∈ X, KindOk m.2.2) (hz : X.length ≤ 1000000) : okD 3 (bdD w h X) = true := by
  rw [okD, Bool.and_eq_true]
  refine ⟨by simp, ?_⟩
  rw [okDs, okDs, okDs, mDs_ok hk hz]
  rfl
theorem bdD_comm {w h w2 h2 : Int} {A B : List Mir} : PyData.eqv (bdD w h A) (bdD w2 h2 B) = PyData.eqv (bdD w2 h2 B) (bdD w h A) := by
  have i : ∀ a b : Int, (a == b) = (b == a) := fun a b => by
    by_cases c : a = b
    · subst c; rfl
    · rw [beq_false_of_ne c, beq_false_of_ne (Ne.symm c)]
  simp only [PyData.eqv, PyData.eqvAll, Bool.and_true]
  rw [mDs_eqv, mDs_eqv, i w w2, i h h2]
  by_cases c : A = B
  · rw [decide_eq_true c, decide_eq_true c.symm]
  · rw [decide_eq_false c, decide_eq_false (Ne.symm c)]
theorem mem_cut {xs : List V} {lo hi : Option Int} {x : V} (h : x ∈ cutV xs lo hi) : x ∈ xs := by
  unfold cutV at h
  exact List.mem_of_mem_drop (List.mem_of_mem_take h)
theorem way_of8 {x : V} (h : x ∈ [V.str "same", .str "quarter", .str "half", .str "back", .str "flip", .str "mirror", .str "cross", .str "anti"]) : ∃ way, x = .str way ∧ wayOk way = true := by
  simp only [List.mem_cons, List.not_mem_nil, or_false] at h
  rcases h with h | h | h | h | h | h | h | h
  · exact ⟨_, h, by decide +kernel⟩
  · exact ⟨_, h, by decide +kernel⟩
  · exact ⟨_, h, by decide +kernel⟩
  · exact ⟨_, h, by decide +kernel⟩
  · exact ⟨_, h, by decide +kernel⟩
  · exact ⟨_, h, by decide +kernel⟩
  · exact ⟨_, h, by decide +kernel⟩
  · exact ⟨_, h, by decide +kernel⟩
section
variable {P : Program} {w : World} {K : PySem.W.Frag} {mg : Str → Option Value} {base : Heap} {A : Ad}
theorem ok_law (T : Txt K mg A) : FnOk P w K mg base CX0 10 A.f_law A.d_law P_law (spLaw K) := by
  have G__law_hand := ok__law_hand (P := P) (w := w) (base := base) T
  have G__law_take := ok__law_take (P := P) (w := w) (base := base) T
  have G__law_far := ok__law_far (P := P) (w := w) (base := base) T
  have G__law_sizes := ok__law_sizes (P := P) (w := w) (base := base) T
  have G__law_mirrors := ok__law_mirrors (P := P) (w := w) (base := base) T
  have G__law_same := ok__law_same (P := P) (w := w) (base := base) T 4
  have G__law_is := ok__law_is (P := P) (w := w) (base := base) T
  have G__law_turned := ok__law_turned (P := P) (w := w) (base := base) T
  have G__law_word := ok__law_word (P := P) (w := w) (base := base) T
  have G__law_refused := ok__law_refused (P := P) (w := w) (base := base) T
  have G_Board___init__ := ok_Board___init__ (P := P) (w := w) (base := base) T
  have G_Board___eq__ := ok_Board___eq__ (P := P) (w := w) (base := base) T
  have G_Board_turned := ok_Board_turned (P := P) (w := w) (base := base) T
  refine T.F_law.ok sc_law (fun vs H Q E h => ?_) (fun cdv A' outer s H vs Q E hr h => ?_)
  · obtain ⟨a, ns, rfl, _⟩ := h
    rfl
  · obtain ⟨a, ns, rfl, hs, hlen, kk⟩ := h
    have hu := hu_of hr
    refine ⟨_, (pss_cons (ps_set (i := 1) sc_law.nd rfl (Or.inl rfl) (pe_call G__law_hand (hr.mono (by first | decide | omega)) rfl T.g__law_hand T.k__law_hand T.b__law_hand .nil pass0 (pa_cons (pv 0) pa_nil)))
(pss_cut (ps_if (pt_cmpR op_eq (pe_call G__law_take (hr.mono (by first | decide | omega)) rfl T.g__law_take T.k__law_take T.b__law_take .nil pass0 (pa_cons (pv 1) (pa_cons pe_int pa_nil))) pe_int (nomark _))
(pss_one (ps_asg (pe_call G__law_far (hr.mono (by first | decide | omega)) rfl T.g__law_far T.k__law_far T.b__law_far .nil pass0 (pa_cons (pv 1) (pa_cons pe_int (pa_cons (pe_op op_pow pe_int pe_int) pa_nil)))) (pg_tup rfl (pgs_cons (pg_name (i := 2) sc_law.nd rfl (Or.inl rfl)) (pgs_cons (pg_name (i := 3) sc_law.nd rfl (Or.inl rfl)) (pgs_cons (pg_name (i := 4) sc_law.nd rfl (Or.inl rfl)) pgs_nil))))))
(pss_cons (ps_asg (pe_call G__law_sizes (hr.mono (by first | decide | omega)) rfl T.g__law_sizes T.k__law_sizes T.b__law_sizes .nil pass0 (pa_cons (pv 1) (pa_cons pe_int pa_nil))) (pg_tup rfl (pgs_cons (pg_name (i := 2) sc_law.nd rfl (Or.inl rfl)) (pgs_cons (pg_name (i := 3) sc_law.nd rfl (Or.inl rfl)) pgs_nil))))
(pss_one (ps_set (i := 4) sc_law.nd rfl (Or.inl rfl) (pe_call G__law_mirrors (hr.mono (by first | decide | omega)) rfl T.g__law_mirrors T.k__law_mirrors T.b__law_mirrors .nil pass0 (pa_cons (pv 1) (pa_cons (pv 2) (pa_cons (pv 3) pa_nil))))))))
(pss_cons (ps_set (i := 5) sc_law.nd rfl (Or.inl rfl) (pe_lst (pa_cons pe_str (pa_cons pe_str (pa_cons pe_str (pa_cons pe_str (pa_cons pe_str (pa_cons pe_str (pa_cons pe_str (pa_cons pe_str pa_nil))))))))))
(pss_cons (ps_set (i := 6) sc_law.nd rfl (Or.inl rfl) (pe_call G__law_word (hr.mono (by first | decide | omega)) rfl T.g__law_word T.k__law_word T.b__law_word .nil pass0 (pa_cons (pv 1) pa_nil)))
(pss_cons (ps_set (i := 7) sc_law.nd rfl (Or.inl rfl) (pe_call G__law_take (hr.mono (by first | decide | omega)) rfl T.g__law_take T.k__law_take T.b__law_take .nil pass0 (pa_cons (pv 1) (pa_cons pe_int pa_nil))))
(pss_cons (ps_set (i := 8) sc_law.nd rfl (Or.inl rfl) (pe_make T.M_Board G_Board___init__ (hr.mono (by first | decide | omega)) rfl T.g_Board T.b_Board___init__ .nil passL (pa_cons (pv 2) (pa_cons (pv 3) (pa_cons (pe_callTy c_list (by rfl) T.n_list (by decide +kernel) (pa_cons (pv 4) pa_nil)) pa_nil)))))
(pss_cons (ps_for PassesOwn.never rfl (pi_list (pe_op op_cat (pe_slice sl_list (pv 5) (po_some (pv 7)) po_none) (pe_slice sl_list (pv 5) po_none (po_some (pv 7))))) (pg_name (i := 9) sc_law.nd rfl (Or.inl rfl))
(pss_cons (ps_set (i := 10) sc_law.nd rfl (Or.inl rfl) (pe_call G__law_turned (hr.mono (by first | decide | omega)) rfl T.g__law_turned T.k__law_turned T.b__law_turned .nil pass0 (pa_cons (pv 9) (pa_cons (pv 2) (pa_cons (pv 3) (pa_cons (pv 4) pa_nil))))))
(pss_cons (ps_if (PW.pt (pw_or (pt_not (pt_val (pe_call G__law_is (hr.mono (by first | decide | omega)) rfl T.g__law_is T.k__law_is T.b__law_is .nil pass0 (pa_cons (pe_meth (pv 8) T.cl_Board T.m_Board_turned G_Board_turned (hr.mono (by first | decide | omega)) T.b_Board_turned .nil passL (pa_cons (pv 9) pa_nil)) (pa_cons (pv 10) pa_nil))))) (pw_or1 (pt_not (pt_val (pe_call G__law_is (hr.mono (by first | decide | omega)) rfl T.g__law_is T.k__law_is T.b__law_is .nil pass0 (pa_cons (pe_meth (pv 8) T.cl_Board T.m_Board_turned G_Board_turned (hr.mono (by first | decide | omega)) T.b_Board_turned .nil passL (pa_cons (pv 9) pa_nil)) (pa_cons (pv 10) pa_nil))))))))
(pss_one (ps_ret pe_bl))
pss_nil)
(pss_cons (ps_set (i := 11) sc_law.nd rfl (Or.inl rfl) (pe_cmpR (op_eqD hr.units) (pv 10) (pe_tup (pa_cons (pv 2) (pa_cons (pv 3) (pa_cons (pe_callB c_sortM (by rfl) T.n_sorted (by decide +kernel) (pa_cons (pv 4) pa_nil)) pa_nil)))) (nomark _)))
(pss_cons (ps_if (pt_not (pt_val (pe_call G__law_same (hr.mono (by first | decide | omega)) rfl T.g__law_same T.k__law_same T.b__law_same .nil pass0 (pa_cons (pe_lst (pa_cons (pe_cmpR (o_eqOwn G_Board___eq__ (hr.mono (by first | decide | omega)) T.m_Board___eq__ T.b_Board___eq__ pass0) (pe_meth (pv 8) T.cl_Board T.m_Board_turned G_Board_turned (hr.mono (by first | decide | omega)) T.b_Board_turned .nil passL (pa_cons (pv 9) pa_nil)) (pv 8) (nomark _)) (pa_cons (pe_cmpR (o_eqOwn G_Board___eq__ (hr.mono (by first | decide | omega)) T.m_Board___eq__ T.b_Board___eq__ pass0) (pv 8) (pe_meth (pv 8) T.cl_Board T.m_Board_turned G_Board_turned (hr.mono (by first | decide | omega)) T.b_Board_turned .nil passL (pa_cons (pv 9) pa_nil)) (nomark _)) pa_nil))) (pa_cons (pe_lst (pa_cons (pv 11) (pa_cons (pv 11) pa_nil))) pa_nil)))))
(pss_one (ps_ret pe_bl))
pss_nil)
(pss_one (ps_if (PW.pt (pw_and (pt_cmpR op_notIn_seq (pv 6) (pv 5) (by rfl)) (pw_and1 (pt_not (pt_val (pe_call G__law_same (hr.mono (by first | decide | omega)) rfl T.g__law_same T.k__law_same T.b__law_same .nil pass0 (pa_cons (pe_call G__law_refused (hr.mono (by first | decide | omega)) rfl T.g__law_refused T.k__law_refused T.b__law_refused .nil pass0 (pa_cons (pv 8) (pa_cons (pv 6) pa_nil))) (pa_cons (pv 6) pa_nil))))))))
(pss_one (ps_ret pe_bl))
pss_nil)))))))
(pss_one (ps_ret (pe_call G__law_is (hr.mono (by first | decide | omega)) rfl T.g__law_is T.k__law_is T.b__law_is .nil pass0 (pa_cons (pv 8) (pa_cons (pe_tup (pa_cons (pv 2) (pa_cons (pv 3) (pa_cons (pe_callB c_sortM (by rfl) T.n_sorted (by decide +kernel) (pa_cons (pv 4) pa_nil)) pa_nil)))) pa_nil)))))))))))), ?_⟩
    walk_at "rs"
    refine ⟨a, ns, rfl, hs, hlen, fun p c H1 hp0 hc0 hh1 sm1 => ?_⟩
    walk_at "rs"
    refine ⟨fun σ H2 => ∃ (w h : Int) (ms : List Mir) (l : Addr), σ = [some (.ref a), some (.ref p), some (.int w), some (.int h), some (.ref l), none, none, none, none, none, none, none] ∧ 0 < w ∧ 0 < h ∧ GoodMs w h ms ∧ ms.length ≤ 200 ∧
      MsAt H2 l ms ∧ l ≠ p ∧ l ≠ c ∧ HandAt H2 p c 20000, ?_, ?_⟩
    · walk_at "rs"
      refine ⟨p, c, 0, _, rfl, hh1, by omega, by decide, by decide, fun r H2 r0 r1 hh2 kp2 => ?_⟩
      walk_at "rs"
      refine r_ite (fun c1 => ?_) (fun c1 => ?_)
      · walk_at "rs"
        refine ⟨p, c, 1, 12, _, rfl, hh2, by omega, by decide, by decide, by decide, fun w' h' ms l q H3 hw hh' hwh gd ml hl0 hl hq hh3 kp3 => ?_⟩
        obtain ⟨nlp, nlc⟩ := hh2.ne hl0
        walk_at "rs"
        exact ⟨w', h', ms, l, rfl, hw, hh', gd, by omega, hl, nlp, nlc, hh3.mono (by omega)⟩
      · walk_at "rs"
        refine ⟨p, c, 1, 36, rfl, hh2, by omega, by decide, by decide, fun w' h' q H3 hw hh' hab hq0 hq hh3 kp3 => ?_⟩
        walk_at "rs"
        refine ⟨p, c, 4, w', h', rfl, hh3, by omega, hw, hh', by omega, fun ms l H4 gd ml hl0 hl hh4 kp4 => ?_⟩
        obtain ⟨nlp, nlc⟩ := hh3.ne hl0
        walk_at "rs"
        exact ⟨w', h', ms, l, rfl, hw, hh', gd, ml, hl, nlp, nlc, hh4.mono (by omega)⟩
    · rintro σ H2 ⟨w', h', ms, l, rfl, hw, hh', gd, hml, ⟨as, hl, tt⟩, nlp, nlc, hh2⟩
      walk_at "rs"
      intro wl hwl
      obtain ⟨nwp, nwc⟩ := hh2.ne hwl
      walk_at "rs"
      refine ⟨p, c, 20000, rfl, hh2.new hwl, by omega, fun word H3 hword hh3 kp3 => ?_⟩
      walk_at "rs"
      refine ⟨p, c, 20000 + 20, _, rfl, hh3, by omega, by decide, by decide, fun f H4 f0 f1 hh4 kp4 => ?_⟩
      have hwl4 := kp4 _ _ (kp3 _ _ upd_same nwp nwc) nwp nwc
      have hl4 := kp4 _ _ (kp3 _ _ ((Same.new hwl) _ _ hl) nlp nlc) nlp nlc
      have tt4 := kp4.tups hh3 (kp3.tups (hh2.new hwl) (tt.new hwl))
      walk_at "rs"
      intro l2 hl2
      walk_at "rs"
      intro b dx hb hdx hbd
      have hbx : (upd (upd H4 l2 (.lst (as.map V.ref))) dx (.own b)) b = none := by rw [upd_ne hbd.symm]; exact hb
      have s3' : Same H4 (upd (upd (upd H4 l2 (.lst (as.map V.ref))) dx (.own b)) b (.ins A.C_Board dx [])) := ((Same.new hl2).trans (Same.new hdx)).trans (Same.new hbx)
      have hbl2 : b ≠ l2 := (ne_of_none (upd_same (H := H4)) hb).symm
      have hdl2 : dx ≠ l2 := (ne_of_none (upd_same (H := H4)) hdx).symm
      have hl23 : (upd (upd (upd H4 l2 (.lst (as.map V.ref))) dx (.own b)) b (.ins A.C_Board dx [])) l2 = some (.lst (as.map V.ref)) := by rw [upd_ne hbl2.symm, upd_ne hdl2.symm, upd_same]
      refine ⟨b, dx, w', h', l2, ms, rfl, upd_same, ⟨as, hl23, tt4.keep fun b' xs e => s3' _ _ e⟩, by omega, .inr (.inr (.inl ⟨by omega, by omega, gd, fun H5 km bd => ⟨rfl, ?_⟩⟩))⟩
      have s45 : Same H4 H5 := fun b' o e => km b' o (s3' b' o e) (ne_of_none ((Same.new hl2) b' o e) hb)
      have ml5 : MsAt H5 l ms := MsAt.same ⟨as, hl4, tt4⟩ s45
      have hwl5 := s45 _ _ hwl4
      walk_at "rs"
      intro c1 hc1
      walk_at "rs"
      intro c2 hc2
      have n12 : c1 ≠ c2 := ne_of_none upd_same hc2
      refine ⟨c1, c2, _, _, rfl, rfl, by rw [upd_ne n12]; exact upd_same, upd_same, Nat.le_trans (m := 1000) (by
        have z1 := cutV_length [V.str "same", .str "quarter", .str "half", .str "back", .str "flip", .str "mirror", .str "cross", .str "anti"] (some f) none
        have z2 := cutV_length [V.str "same", .str "quarter", .str "half", .str "back", .str "flip", .str "mirror", .str "cross", .str "anti"] none (some f)
        simp only [List.length_cons, List.length_nil] at z1 z2
        omega) (by decide), fun c3 hc3 => ?_⟩
      have hin : ∀ x ∈ cutV [V.str "same", .str "quarter", .str "half", .str "back", .str "flip", .str "mirror", .str "cross", .str "anti"] (some f) none ++ cutV [V.str "same", .str "quarter", .str "half", .str "back", .str "flip", .str "mirror", .str "cross", .str "anti"] none (some f), ∃ way, x = .str way ∧ wayOk way = true := fun x hx => by
        rcases List.mem_append.mp hx with h | h
        · exact way_of8 (mem_cut h)
        · exact way_of8 (mem_cut h)
      generalize cutV [V.str "same", .str "quarter", .str "half", .str "back", .str "flip", .str "mirror", .str "cross", .str "anti"] (some f) none = k1 at hc2 hc3 hin ⊢
      generalize cutV [V.str "same", .str "quarter", .str "half", .str "back", .str "flip", .str "mirror", .str "cross", .str "anti"] none (some f) = k2 at hc3 hin ⊢
      have s58 := (((Same.new (o := .lst k1) hc1).trans (Same.new (o := .lst k2) hc2)).trans (Same.new (o := .lst (k1 ++ k2)) hc3))
      have hc38 : (upd (upd (upd H5 c1 (.lst k1)) c2 (.lst k2)) c3 (.lst (k1 ++ k2))) c3 = some (.lst (k1 ++ k2)) := upd_same
      generalize upd (upd (upd H5 c1 (.lst k1)) c2 (.lst k2)) c3 (.lst (k1 ++ k2)) = H8 at s58 hc38 ⊢
      have bd8 := bd.same s58
      have ml8 := ml5.same s58
      have hwl8 := s58 _ _ hwl5
      refine ⟨c3, rfl, ⟨_, SqL.of hc38⟩, for_list (K := K) (a := c3) (xs := k1 ++ k2) (fun i σ H9 => ∃ (v9 v10 v11 : Option V), σ = [some (.ref a), some (.ref p), some (.int w'), some (.int h'), some (.ref l), some (.ref wl), some (.str word), some (.int f), some (.ref b), v9, v10, v11] ∧ Same H8 H9) ?_ ?_ ?_ ?_⟩
      · exact ⟨_, _, _, rfl, Same.refl H8⟩
      · rintro i σ H9 _ ⟨_, _, _, _, s9⟩
        exact SqL.of (s9 _ _ hc38)
      · rintro i x σ H9 hi ⟨v9, v10, v11, rfl, s9⟩
        obtain ⟨way, rfl, hway⟩ := hin _ (List.mem_of_getElem? hi)
        have bd9 := bd8.same s9
        have ml9 := ml8.same s9
        have hwl9 := s9 _ _ hwl8
        obtain ⟨dx9, d9, e91, e92⟩ := id bd9
        have tw1 : (1 : Int) ≤ if swp way then h' else w' := by cases swp way; exact hw; exact hh'
        have th1 : (1 : Int) ≤ if swp way then w' else h' := by cases swp way; exact hh'; exact hw
        have noW : ∀ {Z : Prop}, wayOk way = false → Z := fun e => by rw [hway] at e; exact absurd e.symm Bool.false_ne_true
        walk_at "rs"
        have gn : ∀ m ∈ ms, KindOk m.2.2 := gd.kind
        refine ⟨way, w', h', l, ms, rfl, ml9, gn, by omega, fun q l' ns2 H10 pm2 so2 hq2 hm2 s10 => ?_⟩
        walk_at "rs"
        refine ⟨b, dx9, _, rfl, s10 _ _ e91, bf_no _ _ _ (by decide +kernel) (by decide +kernel) (by decide +kernel), ?_⟩
        walk_at "rs"
        refine ⟨b, way, w', h', ms, rfl, bd9.same s10, gd, by omega, by omega, by omega, (fun e => noW e), fun _ b2 H11 ns3 pm3 bd11 s11 => ?_⟩
        have hn3 := pm3.length_eq
        rw [List.length_map] at hn3
        walk_at "rs"
        refine ⟨b2, _, _, ns3, q, l', ns2, rfl, bd11, (gd.moved way).perm pm3, tw1, th1, by omega, s11 _ _ hq2, hm2.same s11, pm2.trans pm3.symm, so2, fun H12 s12 => ?_⟩
        have s1012 := s11.trans s12
        walk_at "rs"
        refine ⟨b, dx9, _, rfl, (s10.trans s1012) _ _ e91, bf_no _ _ _ (by decide +kernel) (by decide +kernel) (by decide +kernel), ?_⟩
        walk_at "rs"
        refine ⟨b, way, w', h', ms, rfl, bd9.same (s10.trans s1012), gd, by omega, by omega, by omega, (fun e => noW e), fun _ b3 H13 ns4 pm4 bd13 s13 => ?_⟩
        have hn4 := pm4.length_eq
        rw [List.length_map] at hn4
        have s1013 := s1012.trans s13
        walk_at "rs"
        refine ⟨b3, _, _, ns4, q, l', ns2, rfl, bd13, (gd.moved way).perm pm4, tw1, th1, by omega, s1013 _ _ hq2, hm2.same s1013, pm2.trans pm4.symm, so2, fun H14 s14 => ?_⟩
        have s1014 := s1013.trans s14
        have s914 := s10.trans s1014
        walk_at "rs"
        refine ⟨l, ms, rfl, ml9.same s914, fun ns5 p5 H15 pm5 so5 hp50 hm5 s15 => ?_⟩
        walk_at "rs"
        intro tq htq
        have s1016 := (s1014.trans s15).trans (Same.new (o := .tup [.int w', .int h', .ref p5]) htq)
        have s916 := s10.trans s1016
        refine r_eqDp (d := bdD (if swp way then h' else w') (if swp way then w' else h') ns2) (e := bdD w' h' ns5) (.tup (SqT.of (s1016 _ _ hq2)) (.cons (.int _) (.cons (.int _) (.cons (hm2.same s1016).dp .nil)))) (.tup (SqT.of upd_same) (.cons (.int _) (.cons (.int _) (.cons (hm5.same (Same.new htq)).dp .nil)))) ?_ ?_ ?_
        · exact okD_shaped (bdD_ok ((gd.moved way).perm pm2).kind (by rw [pm2.length_eq, List.length_map]; omega)) (by decide)
        · exact okD_shaped (bdD_ok (gd.perm pm5).kind (by rw [pm5.length_eq]; omega)) (by decide)
        generalize hbb : PyData.eqv (bdD (if swp way then h' else w') (if swp way then w' else h') ns2) (bdD w' h' ns5) = bb
        walk_at "rs"
        refine ⟨b, dx9, _, rfl, s916 _ _ e91, bf_no _ _ _ (by decide +kernel) (by decide +kernel) (by decide +kernel), ?_⟩
        walk_at "rs"
        refine ⟨b, way, w', h', ms, rfl, bd9.same s916, gd, by omega, by omega, by omega, (fun e => noW e), fun _ b4 H17 ns6 pm6 bd17 s17 => ?_⟩
        have s917 := s916.trans s17
        obtain ⟨dx17, d17, e171, e172⟩ := id bd17
        walk_at "rs"
        refine ⟨b4, b, dx17, dx9, _, _, rfl, rfl, e171, s917 _ _ e91, ?_⟩
        refine ⟨b4, b, _, _, ns6, w', h', ms, rfl, bd17, bd9.same s917, ?_⟩
        rw [bdD_eqv ((gd.moved way).perm pm6).nd gd.nd (pm2.trans pm6.symm) pm5 so2 so5, hbb]
        walk_at "rs"
        refine ⟨b, dx9, _, rfl, s917 _ _ e91, bf_no _ _ _ (by decide +kernel) (by decide +kernel) (by decide +kernel), ?_⟩
        walk_at "rs"
        refine ⟨b, way, w', h', ms, rfl, bd9.same s917, gd, by omega, by omega, by omega, (fun e => noW e), fun _ b5 H18 ns7 pm7 bd18 s18 => ?_⟩
        have s918 := s917.trans s18
        obtain ⟨dx18, d18, e181, e182⟩ := id bd18
        walk_at "rs"
        refine ⟨b, b5, dx9, dx18, _, _, rfl, rfl, s918 _ _ e91, e181, ?_⟩
        refine ⟨b, b5, w', h', ms, _, _, ns7, rfl, bd9.same s918, bd18, ?_⟩
        rw [bdD_eqv gd.nd ((gd.moved way).perm pm7).nd pm5 (pm2.trans pm7.symm) so5 so2, bdD_comm, hbb]
        walk_at "rs"
        intro x1 hx1
        walk_at "rs"
        intro x2 hx2
        refine ⟨.ref x1, .ref x2, .list [.bool bb, .bool bb], rfl, .lst (SqL.of ((Same.new hx2) _ _ upd_same)) (.cons (.bl _) (.cons (.bl _) .nil)), .lst (SqL.of upd_same) (.cons (.bl _) (.cons (.bl _) .nil)), by simp [okD, okDs], fun H20 s20 => ?_⟩
        have s920 := ((s918.trans (Same.new hx1)).trans (Same.new hx2)).trans s20
        walk_at "rs"
        refine ⟨wl, _, rfl, .inl (SqL.of (s920 _ _ hwl9)), rfl, rfl, ?_⟩
        walk_at "rs"
        refine r_iteNB (fun cw => ?_) (fun cw => ?_)
        · walk_at "rs"
          refine ⟨b, w', h', ms, word, rfl, bd9.same s920, gd, by omega, by omega, by omega, cw, fun H21 s21 => ?_⟩
          walk_at "rs"
          refine ⟨.str word, .str word, .str word, rfl, .str _, .str _, (by rw [okD]; exact hword), fun H22 s22 => ?_⟩
          walk_at "rs"
          exact ⟨_, _, _, rfl, s9.trans ((s920.trans s21).trans s22)⟩
        · walk_at "rs"
          exact ⟨_, _, _, rfl, s9.trans s920⟩
      · rintro σ H9 ⟨v9, v10, v11, rfl, s9⟩
        have bd9 := bd8.same s9
        have ml9 := ml8.same s9
        walk_at "rs"
        refine ⟨l, ms, rfl, ml9, fun ns5 p5 H10 pm so hp0 hm5 s10 => ?_⟩
        walk_at "rs"
        intro tq htq
        refine ⟨b, w', h', ms, tq, p5, ns5, rfl, (bd9.same s10).same (Same.new htq), gd, by omega, by omega, by omega, upd_same, hm5.same (Same.new htq), pm, so, fun H11 _ => ?_⟩
        walk_at "rs"
        exact kk H11
end
/-! ### what the top has written -/
theorem exm_ok {K : PySem.W.Frag} {S : Addr} (h1 : PySem.W.subIn K (.ref S) (.type "BaseException") = some true) (h2 : PySem.W.isClsIn K S = true) (h3 : PySem.W.typeIn K (.ref S) = some (.type "type"))
    (h4 : PySem.W.subIn K (.ref S) (.ref S) = some true) : PySem.W.exmOne K (.ref S) (.ref S) = some true := by
  have h5 : (PySem.W.clsIn K S).isSome = true := h2
  unfold PySem.W.exmOne PySem.W.kitCls
  rw [h1, if_pos (beq_self_eq_true _)]
  show (if ((PySem.W.clsIn K S).isSome && PySem.W.typeIn K (.ref S) == some (.type "type")) = true then PySem.W.subIn K (.ref S) (.ref S) else none) = some true
  rw [h5, h3, h4]
  rfl
theorem all_mk {l : PySem.W.OpenLaw} {w : World} {K : PySem.W.Frag} {h : Heap} {mg : Str → Option Value} {fa : Addr} (X : K.In h) (G : h.Ns mainGlobals mg) (hfa : mg "law" = some (.ref fa))
    {S : Addr}
    {C_InvalidSize : Addr}
    {C_InvalidPoint : Addr}
    {C_InvalidMirror : Addr}
    {C_Taken : Addr}
    {C_InvalidTurn : Addr}
    {C_Board : Addr}
    {f_SandError___init__ : Addr} {od_SandError___init__ an_SandError___init__ : Option Addr} {sl_SandError___init__ : Array (Option Value)} {oc_SandError___init__ kV_SandError___init__ dc_SandError___init__ pm_SandError___init__ cd_SandError___init__ ct_SandError___init__ : Value}
    {f_is_inside : Addr} {od_is_inside an_is_inside : Option Addr} {sl_is_inside : Array (Option Value)} {oc_is_inside kV_is_inside dc_is_inside pm_is_inside cd_is_inside ct_is_inside : Value}
    {f_check_mirror : Addr} {od_check_mirror an_check_mirror : Option Addr} {sl_check_mirror : Array (Option Value)} {oc_check_mirror kV_check_mirror dc_check_mirror pm_check_mirror cd_check_mirror ct_check_mirror : Value}
    {f_kinds_of : Addr} {od_kinds_of an_kinds_of : Option Addr} {sl_kinds_of : Array (Option Value)} {oc_kinds_of kV_kinds_of dc_kinds_of pm_kinds_of cd_kinds_of ct_kinds_of : Value}
    {f_other_kind : Addr} {od_other_kind an_other_kind : Option Addr} {sl_other_kind : Array (Option Value)} {oc_other_kind kV_other_kind dc_other_kind pm_other_kind cd_other_kind ct_other_kind : Value}
    {f_moved_place : Addr} {od_moved_place an_moved_place : Option Addr} {sl_moved_place : Array (Option Value)} {oc_moved_place kV_moved_place dc_moved_place pm_moved_place cd_moved_place ct_moved_place : Value}
    {f_Board___init__ : Addr} {od_Board___init__ an_Board___init__ : Option Addr} {sl_Board___init__ : Array (Option Value)} {oc_Board___init__ kV_Board___init__ dc_Board___init__ pm_Board___init__ cd_Board___init__ ct_Board___init__ : Value}
    {f_Board_width : Addr} {od_Board_width an_Board_width : Option Addr} {sl_Board_width : Array (Option Value)} {oc_Board_width kV_Board_width dc_Board_width pm_Board_width cd_Board_width ct_Board_width : Value}
    {f_Board_height : Addr} {od_Board_height an_Board_height : Option Addr} {sl_Board_height : Array (Option Value)} {oc_Board_height kV_Board_height dc_Board_height pm_Board_height cd_Board_height ct_Board_height : Value}
    {f_Board_mirrors : Addr} {od_Board_mirrors an_Board_mirrors : Option Addr} {sl_Board_mirrors : Array (Option Value)} {oc_Board_mirrors kV_Board_mirrors dc_Board_mirrors pm_Board_mirrors cd_Board_mirrors ct_Board_mirrors : Value}
    {f_Board___len__ : Addr} {od_Board___len__ an_Board___len__ : Option Addr} {sl_Board___len__ : Array (Option Value)} {oc_Board___len__ kV_Board___len__ dc_Board___len__ pm_Board___len__ cd_Board___len__ ct_Board___len__ : Value}
    {f_Board___eq__ : Addr} {od_Board___eq__ an_Board___eq__ : Option Addr} {sl_Board___eq__ : Array (Option Value)} {oc_Board___eq__ kV_Board___eq__ dc_Board___eq__ pm_Board___eq__ cd_Board___eq__ ct_Board___eq__ : Value}
    {f_Board_mirror_at : Addr} {od_Board_mirror_at an_Board_mirror_at : Option Addr} {sl_Board_mirror_at : Array (Option Value)} {oc_Board_mirror_at kV_Board_mirror_at dc_Board_mirror_at pm_Board_mirror_at cd_Board_mirror_at ct_Board_mirror_at : Value}
    {f_Board_turned : Addr} {od_Board_turned an_Board_turned : Option Addr} {sl_Board_turned : Array (Option Value)} {oc_Board_turned kV_Board_turned dc_Board_turned pm_Board_turned cd_Board_turned ct_Board_turned : Value}
    {f__law_hand : Addr} {od__law_hand an__law_hand : Option Addr} {sl__law_hand : Array (Option Value)} {oc__law_hand kV__law_hand dc__law_hand pm__law_hand cd__law_hand ct__law_hand : Value}
    {f__law_take : Addr} {od__law_take an__law_take : Option Addr} {sl__law_take : Array (Option Value)} {oc__law_take kV__law_take dc__law_take pm__law_take cd__law_take ct__law_take : Value}
    {f__law_big : Addr} {od__law_big an__law_big : Option Addr} {sl__law_big : Array (Option Value)} {oc__law_big kV__law_big dc__law_big pm__law_big cd__law_big ct__law_big : Value}
    {f__law_points : Addr} {od__law_points an__law_points : Option Addr} {sl__law_points : Array (Option Value)} {oc__law_points kV__law_points dc__law_points pm__law_points cd__law_points ct__law_points : Value}
    {f__law_mirrors : Addr} {od__law_mirrors an__law_mirrors : Option Addr} {sl__law_mirrors : Array (Option Value)} {oc__law_mirrors kV__law_mirrors dc__law_mirrors pm__law_mirrors cd__law_mirrors ct__law_mirrors : Value}
    {f__law_sizes : Addr} {od__law_sizes an__law_sizes : Option Addr} {sl__law_sizes : Array (Option Value)} {oc__law_sizes kV__law_sizes dc__law_sizes pm__law_sizes cd__law_sizes ct__law_sizes : Value}
    {f__law_spot : Addr} {od__law_spot an__law_spot : Option Addr} {sl__law_spot : Array (Option Value)} {oc__law_spot kV__law_spot dc__law_spot pm__law_spot cd__law_spot ct__law_spot : Value}
    {f__law_far : Addr} {od__law_far an__law_far : Option Addr} {sl__law_far : Array (Option Value)} {oc__law_far kV__law_far dc__law_far pm__law_far cd__law_far ct__law_far : Value}
    {f__law_same : Addr} {od__law_same an__law_same : Option Addr} {sl__law_same : Array (Option Value)} {oc__law_same kV__law_same dc__law_same pm__law_same cd__law_same ct__law_same : Value}
    {f__law_is : Addr} {od__law_is an__law_is : Option Addr} {sl__law_is : Array (Option Value)} {oc__law_is kV__law_is dc__law_is pm__law_is cd__law_is ct__law_is : Value}
    {f__law_move : Addr} {od__law_move an__law_move : Option Addr} {sl__law_move : Array (Option Value)} {oc__law_move kV__law_move dc__law_move pm__law_move cd__law_move ct__law_move : Value}
    {f__law_turned : Addr} {od__law_turned an__law_turned : Option Addr} {sl__law_turned : Array (Option Value)} {oc__law_turned kV__law_turned dc__law_turned pm__law_turned cd__law_turned ct__law_turned : Value}
    {f__law_word : Addr} {od__law_word an__law_word : Option Addr} {sl__law_word : Array (Option Value)} {oc__law_word kV__law_word dc__law_word pm__law_word cd__law_word ct__law_word : Value}
    {f__law_refused : Addr} {od__law_refused an__law_refused : Option Addr} {sl__law_refused : Array (Option Value)} {oc__law_refused kV__law_refused dc__law_refused pm__law_refused cd__law_refused ct__law_refused : Value}
    {f_law : Addr} {od_law an_law : Option Addr} {sl_law : Array (Option Value)} {oc_law kV_law dc_law pm_law cd_law ct_law : Value}
    {nm_InvalidSize q_InvalidSize : Str} {N_InvalidSize : Addr} {bs_InvalidSize : List Value} {sn_InvalidSize : List Str} {sub_InvalidSize : List Value} {ab_InvalidSize : Bool} {col_InvalidSize : Option Bool} {dd_InvalidSize : Option Addr} {m0_InvalidSize m1_InvalidSize m2_InvalidSize m3_InvalidSize m5_InvalidSize : Option Value}
    {nm_InvalidPoint q_InvalidPoint : Str} {N_InvalidPoint : Addr} {bs_InvalidPoint : List Value} {sn_InvalidPoint : List Str} {sub_InvalidPoint : List Value} {ab_InvalidPoint : Bool} {col_InvalidPoint : Option Bool} {dd_InvalidPoint : Option Addr} {m0_InvalidPoint m1_InvalidPoint m2_InvalidPoint m3_InvalidPoint m5_InvalidPoint : Option Value}
    {nm_InvalidMirror q_InvalidMirror : Str} {N_InvalidMirror : Addr} {bs_InvalidMirror : List Value} {sn_InvalidMirror : List Str} {sub_InvalidMirror : List Value} {ab_InvalidMirror : Bool} {col_InvalidMirror : Option Bool} {dd_InvalidMirror : Option Addr} {m0_InvalidMirror m1_InvalidMirror m2_InvalidMirror m3_InvalidMirror m5_InvalidMirror : Option Value}
    {nm_Taken q_Taken : Str} {N_Taken : Addr} {bs_Taken : List Value} {sn_Taken : List Str} {sub_Taken : List Value} {ab_Taken : Bool} {col_Taken : Option Bool} {dd_Taken : Option Addr} {m0_Taken m1_Taken m2_Taken m3_Taken m5_Taken : Option Value}
    {nm_InvalidTurn q_InvalidTurn : Str} {N_InvalidTurn : Addr} {bs_InvalidTurn : List Value} {sn_InvalidTurn : List Str} {sub_InvalidTurn : List Value} {ab_InvalidTurn : Bool} {col_InvalidTurn : Option Bool} {dd_InvalidTurn : Option Addr} {m0_InvalidTurn m1_InvalidTurn m2_InvalidTurn m3_InvalidTurn m5_InvalidTurn : Option Value}
    {p_Board_width : Addr} {rest_Board_width : List Value}
    {p_Board_height : Addr} {rest_Board_height : List Value}
    {p_Board_mirrors : Addr} {rest_Board_mirrors : List Value}
    {c_KINDS : Addr} {dd_KINDS : Option Addr} {t_KINDS_0 t_KINDS_1 : Tok} {n_KINDS : Nat} {sl_KINDS : Array (Option Value)}
    {c_WAYS : Addr} {dd_WAYS : Option Addr} {t_WAYS_0 t_WAYS_1 t_WAYS_2 t_WAYS_3 t_WAYS_4 t_WAYS_5 t_WAYS_6 t_WAYS_7 : Tok} {n_WAYS : Nat} {sl_WAYS : Array (Option Value)}
    {c_EXCHANGING : Addr} {dd_EXCHANGING : Option Addr} {t_EXCHANGING_0 t_EXCHANGING_1 t_EXCHANGING_2 t_EXCHANGING_3 : Tok} {n_EXCHANGING : Nat} {sl_EXCHANGING : Array (Option Value)}
    (aC_InvalidSize : PySem.W.nsIn K mainGlobals "InvalidSize" = some (some (.ref C_InvalidSize)))
    (aC_InvalidPoint : PySem.W.nsIn K mainGlobals "InvalidPoint" = some (some (.ref C_InvalidPoint)))
    (aC_InvalidMirror : PySem.W.nsIn K mainGlobals "InvalidMirror" = some (some (.ref C_InvalidMirror)))
    (aC_Taken : PySem.W.nsIn K mainGlobals "Taken" = some (some (.ref C_Taken)))
    (aC_InvalidTurn : PySem.W.nsIn K mainGlobals "InvalidTurn" = some (some (.ref C_InvalidTurn)))
    (aC_Board : PySem.W.nsIn K mainGlobals "Board" = some (some (.ref C_Board)))
    (xL_InvalidSize : K.lookup C_InvalidSize = some (excClassObj nm_InvalidSize q_InvalidSize C_InvalidSize N_InvalidSize bs_InvalidSize [.ref S, .type "ValueError", .type "Exception", .type "BaseException", .type "object"] true sn_InvalidSize sub_InvalidSize ab_InvalidSize col_InvalidSize dd_InvalidSize m0_InvalidSize m1_InvalidSize m2_InvalidSize m3_InvalidSize m5_InvalidSize "ValueError.__new__"))
    (sa_InvalidSize : PySem.W.findIn K (.ref C_InvalidSize) "__setattr__" = some (some (.builtin "object.__setattr__")))
    (ga_InvalidSize : PySem.W.findIn K (.ref C_InvalidSize) "__getattribute__" = some (some (.builtin "BaseException.__getattribute__")))
    (gg_InvalidSize : PySem.W.findIn K (.ref C_InvalidSize) "__getattr__" = some none)
    (nv_InvalidSize : PySem.W.findIn K (.ref C_InvalidSize) "value" = some none)
    (iI_InvalidSize : PySem.W.findIn K (.ref C_InvalidSize) "__init__" = some (some (.ref f_SandError___init__)))
    (kC_InvalidSize : PySem.W.keepIn K (.ref C_InvalidSize) = true)
    (eC_InvalidSize : PySem.W.subIn K (.ref C_InvalidSize) (.type "BaseException") = some true)
    (tC_InvalidSize : PySem.W.typeIn K (.ref C_InvalidSize) = some (.type "type"))
    (hC_InvalidSize : PySem.W.hasDictIn K C_InvalidSize = true)
    (zC_InvalidSize : PySem.W.isClsIn K C_InvalidSize = true)
    (sC_InvalidSize : PySem.W.subIn K (.ref C_InvalidSize) (.ref C_InvalidSize) = some true)
    (xL_InvalidPoint : K.lookup C_InvalidPoint = some (excClassObj nm_InvalidPoint q_InvalidPoint C_InvalidPoint N_InvalidPoint bs_InvalidPoint [.ref S, .type "ValueError", .type "Exception", .type "BaseException", .type "object"] true sn_InvalidPoint sub_InvalidPoint ab_InvalidPoint col_InvalidPoint dd_InvalidPoint m0_InvalidPoint m1_InvalidPoint m2_InvalidPoint m3_InvalidPoint m5_InvalidPoint "ValueError.__new__"))
    (sa_InvalidPoint : PySem.W.findIn K (.ref C_InvalidPoint) "__setattr__" = some (some (.builtin "object.__setattr__")))
    (ga_InvalidPoint : PySem.W.findIn K (.ref C_InvalidPoint) "__getattribute__" = some (some (.builtin "BaseException.__getattribute__")))
    (gg_InvalidPoint : PySem.W.findIn K (.ref C_InvalidPoint) "__getattr__" = some none)
    (nv_InvalidPoint : PySem.W.findIn K (.ref C_InvalidPoint) "value" = some none)
    (iI_InvalidPoint : PySem.W.findIn K (.ref C_InvalidPoint) "__init__" = some (some (.ref f_SandError___init__)))
    (kC_InvalidPoint : PySem.W.keepIn K (.ref C_InvalidPoint) = true)
    (eC_InvalidPoint : PySem.W.subIn K (.ref C_InvalidPoint) (.type "BaseException") = some true)
    (tC_InvalidPoint : PySem.W.typeIn K (.ref C_InvalidPoint) = some (.type "type"))
    (hC_InvalidPoint : PySem.W.hasDictIn K C_InvalidPoint = true)
    (zC_InvalidPoint : PySem.W.isClsIn K C_InvalidPoint = true)
    (sC_InvalidPoint : PySem.W.subIn K (.ref C_InvalidPoint) (.ref C_InvalidPoint) = some true)
    (xL_InvalidMirror : K.lookup C_InvalidMirror = some (excClassObj nm_InvalidMirror q_InvalidMirror C_InvalidMirror N_InvalidMirror bs_InvalidMirror [.ref S, .type "ValueError", .type "Exception", .type "BaseException", .type "object"] true sn_InvalidMirror sub_InvalidMirror ab_InvalidMirror col_InvalidMirror dd_InvalidMirror m0_InvalidMirror m1_InvalidMirror m2_InvalidMirror m3_InvalidMirror m5_InvalidMirror "ValueError.__new__"))
    (sa_InvalidMirror : PySem.W.findIn K (.ref C_InvalidMirror) "__setattr__" = some (some (.builtin "object.__setattr__")))
    (ga_InvalidMirror : PySem.W.findIn K (.ref C_InvalidMirror) "__getattribute__" = some (some (.builtin "BaseException.__getattribute__")))
    (gg_InvalidMirror : PySem.W.findIn K (.ref C_InvalidMirror) "__getattr__" = some none)
    (nv_InvalidMirror : PySem.W.findIn K (.ref C_InvalidMirror) "value" = some none)
    (iI_InvalidMirror : PySem.W.findIn K (.ref C_InvalidMirror) "__init__" = some (some (.ref f_SandError___init__)))
    (kC_InvalidMirror : PySem.W.keepIn K (.ref C_InvalidMirror) = true)
    (eC_InvalidMirror : PySem.W.subIn K (.ref C_InvalidMirror) (.type "BaseException") = some true)
    (tC_InvalidMirror : PySem.W.typeIn K (.ref C_InvalidMirror) = some (.type "type"))
    (hC_InvalidMirror : PySem.W.hasDictIn K C_InvalidMirror = true)
    (zC_InvalidMirror : PySem.W.isClsIn K C_InvalidMirror = true)
    (sC_InvalidMirror : PySem.W.subIn K (.ref C_InvalidMirror) (.ref C_InvalidMirror) = some true)
    (xL_Taken : K.lookup C_Taken = some (excClassObj nm_Taken q_Taken C_Taken N_Taken bs_Taken [.ref S, .type "ValueError", .type "Exception", .type "BaseException", .type "object"] true sn_Taken sub_Taken ab_Taken col_Taken dd_Taken m0_Taken m1_Taken m2_Taken m3_Taken m5_Taken "ValueError.__new__"))
    (sa_Taken : PySem.W.findIn K (.ref C_Taken) "__setattr__" = some (some (.builtin "object.__setattr__")))
    (ga_Taken : PySem.W.findIn K (.ref C_Taken) "__getattribute__" = some (some (.builtin "BaseException.__getattribute__")))
    (gg_Taken : PySem.W.findIn K (.ref C_Taken) "__getattr__" = some none)
    (nv_Taken : PySem.W.findIn K (.ref C_Taken) "value" = some none)
    (iI_Taken : PySem.W.findIn K (.ref C_Taken) "__init__" = some (some (.ref f_SandError___init__)))
    (kC_Taken : PySem.W.keepIn K (.ref C_Taken) = true)
    (eC_Taken : PySem.W.subIn K (.ref C_Taken) (.type "BaseException") = some true)
    (tC_Taken : PySem.W.typeIn K (.ref C_Taken) = some (.type "type"))
    (hC_Taken : PySem.W.hasDictIn K C_Taken = true)
    (zC_Taken : PySem.W.isClsIn K C_Taken = true)
    (sC_Taken : PySem.W.subIn K (.ref C_Taken) (.ref C_Taken) = some true)
    (xL_InvalidTurn : K.lookup C_InvalidTurn = some (excClassObj nm_InvalidTurn q_InvalidTurn C_InvalidTurn N_InvalidTurn bs_InvalidTurn [.ref S, .type "ValueError", .type "Exception", .type "BaseException", .type "object"] true sn_InvalidTurn sub_InvalidTurn ab_InvalidTurn col_InvalidTurn dd_InvalidTurn m0_InvalidTurn m1_InvalidTurn m2_InvalidTurn m3_InvalidTurn m5_InvalidTurn "ValueError.__new__"))
    (sa_InvalidTurn : PySem.W.findIn K (.ref C_InvalidTurn) "__setattr__" = some (some (.builtin "object.__setattr__")))
    (ga_InvalidTurn : PySem.W.findIn K (.ref C_InvalidTurn) "__getattribute__" = some (some (.builtin "BaseException.__getattribute__")))
    (gg_InvalidTurn : PySem.W.findIn K (.ref C_InvalidTurn) "__getattr__" = some none)
    (nv_InvalidTurn : PySem.W.findIn K (.ref C_InvalidTurn) "value" = some none)
    (iI_InvalidTurn : PySem.W.findIn K (.ref C_InvalidTurn) "__init__" = some (some (.ref f_SandError___init__)))
    (kC_InvalidTurn : PySem.W.keepIn K (.ref C_InvalidTurn) = true)
    (eC_InvalidTurn : PySem.W.subIn K (.ref C_InvalidTurn) (.type "BaseException") = some true)
    (tC_InvalidTurn : PySem.W.typeIn K (.ref C_InvalidTurn) = some (.type "type"))
    (hC_InvalidTurn : PySem.W.hasDictIn K C_InvalidTurn = true)
    (zC_InvalidTurn : PySem.W.isClsIn K C_InvalidTurn = true)
    (sC_InvalidTurn : PySem.W.subIn K (.ref C_InvalidTurn) (.ref C_InvalidTurn) = some true)
    (tI : PySem.W.typeIn K (.ref f_SandError___init__) = some (.type "function"))
    (l_SandError___init__ : K.lookup f_SandError___init__ = some ⟨oc_SandError___init__, od_SandError___init__, .func (PySem.W.fnOf "__init__" "SandError.__init__" (defArgs s_SandError___init__) (defBody s_SandError___init__) (defScope s_SandError___init__) .none kV_SandError___init__ dc_SandError___init__ pm_SandError___init__ an_SandError___init__ cd_SandError___init__ ct_SandError___init__), sl_SandError___init__⟩)
    (c_SandError___init__ : PySem.W.codeIn K cd_SandError___init__ "SandError.__init__" = true)
    (k_SandError___init__ : PySem.W.keepIn K (.ref f_SandError___init__) = true)
    (a_is_inside : PySem.W.nsIn K mainGlobals "is_inside" = some (some (.ref f_is_inside)))
    (l_is_inside : K.lookup f_is_inside = some ⟨oc_is_inside, od_is_inside, .func (PySem.W.fnOf "is_inside" "is_inside" (defArgs s_is_inside) (defBody s_is_inside) (defScope s_is_inside) .none kV_is_inside dc_is_inside pm_is_inside an_is_inside cd_is_inside ct_is_inside), sl_is_inside⟩)
    (c_is_inside : PySem.W.codeIn K cd_is_inside "is_inside" = true)
    (k_is_inside : PySem.W.keepIn K (.ref f_is_inside) = true)
    (a_check_mirror : PySem.W.nsIn K mainGlobals "check_mirror" = some (some (.ref f_check_mirror)))
    (l_check_mirror : K.lookup f_check_mirror = some ⟨oc_check_mirror, od_check_mirror, .func (PySem.W.fnOf "check_mirror" "check_mirror" (defArgs s_check_mirror) (defBody s_check_mirror) (defScope s_check_mirror) .none kV_check_mirror dc_check_mirror pm_check_mirror an_check_mirror cd_check_mirror ct_check_mirror), sl_check_mirror⟩)
    (c_check_mirror : PySem.W.codeIn K cd_check_mirror "check_mirror" = true)
    (k_check_mirror : PySem.W.keepIn K (.ref f_check_mirror) = true)
    (a_kinds_of : PySem.W.nsIn K mainGlobals "kinds_of" = some (some (.ref f_kinds_of)))
    (l_kinds_of : K.lookup f_kinds_of = some ⟨oc_kinds_of, od_kinds_of, .func (PySem.W.fnOf "kinds_of" "kinds_of" (defArgs s_kinds_of) (defBody s_kinds_of) (defScope s_kinds_of) .none kV_kinds_of dc_kinds_of pm_kinds_of an_kinds_of cd_kinds_of ct_kinds_of), sl_kinds_of⟩)
    (c_kinds_of : PySem.W.codeIn K cd_kinds_of "kinds_of" = true)
    (k_kinds_of : PySem.W.keepIn K (.ref f_kinds_of) = true)
    (a_other_kind : PySem.W.nsIn K mainGlobals "other_kind" = some (some (.ref f_other_kind)))
    (l_other_kind : K.lookup f_other_kind = some ⟨oc_other_kind, od_other_kind, .func (PySem.W.fnOf "other_kind" "other_kind" (defArgs s_other_kind) (defBody s_other_kind) (defScope s_other_kind) .none kV_other_kind dc_other_kind pm_other_kind an_other_kind cd_other_kind ct_other_kind), sl_other_kind⟩)
    (c_other_kind : PySem.W.codeIn K cd_other_kind "other_kind" = true)
    (k_other_kind : PySem.W.keepIn K (.ref f_other_kind) = true)
    (a_moved_place : PySem.W.nsIn K mainGlobals "moved_place" = some (some (.ref f_moved_place)))
    (l_moved_place : K.lookup f_moved_place = some ⟨oc_moved_place, od_moved_place, .func (PySem.W.fnOf "moved_place" "moved_place" (defArgs s_moved_place) (defBody s_moved_place) (defScope s_moved_place) .none kV_moved_place dc_moved_place pm_moved_place an_moved_place cd_moved_place ct_moved_place), sl_moved_place⟩)
    (c_moved_place : PySem.W.codeIn K cd_moved_place "moved_place" = true)
    (k_moved_place : PySem.W.keepIn K (.ref f_moved_place) = true)
    (a_Board___init__ : PySem.W.findIn K (.ref C_Board) "__init__" = some (some (.ref f_Board___init__)))
    (i_Board___init__ : PySem.W.isFn K (.ref f_Board___init__) = true)
    (l_Board___init__ : K.lookup f_Board___init__ = some ⟨oc_Board___init__, od_Board___init__, .func (PySem.W.fnOf "__init__" "Board.__init__" (defArgs s_Board___init__) (defBody s_Board___init__) (defScope s_Board___init__) .none kV_Board___init__ dc_Board___init__ pm_Board___init__ an_Board___init__ cd_Board___init__ ct_Board___init__), sl_Board___init__⟩)
    (c_Board___init__ : PySem.W.codeIn K cd_Board___init__ "Board.__init__" = true)
    (k_Board___init__ : PySem.W.keepIn K (.ref f_Board___init__) = true)
    (pa_Board_width : PySem.W.findIn K (.ref C_Board) "width" = some (some (.ref p_Board_width)))
    (pg_Board_width : PySem.W.specialIn K (.ref p_Board_width) "__get__" = some (some (.builtin "property.__get__")))
    (pt_Board_width : PySem.W.takesIn K (.ref p_Board_width) = some true)
    (pr_Board_width : PySem.W.recIn K p_Board_width "property" = some (.ref f_Board_width :: rest_Board_width))
    (l_Board_width : K.lookup f_Board_width = some ⟨oc_Board_width, od_Board_width, .func (PySem.W.fnOf "width" "Board.width" (defArgs s_Board_width) (defBody s_Board_width) (defScope s_Board_width) .none kV_Board_width dc_Board_width pm_Board_width an_Board_width cd_Board_width ct_Board_width), sl_Board_width⟩)
    (c_Board_width : PySem.W.codeIn K cd_Board_width "Board.width" = true)
    (k_Board_width : PySem.W.keepIn K (.ref f_Board_width) = true)
    (pa_Board_height : PySem.W.findIn K (.ref C_Board) "height" = some (some (.ref p_Board_height)))
    (pg_Board_height : PySem.W.specialIn K (.ref p_Board_height) "__get__" = some (some (.builtin "property.__get__")))
    (pt_Board_height : PySem.W.takesIn K (.ref p_Board_height) = some true)
    (pr_Board_height : PySem.W.recIn K p_Board_height "property" = some (.ref f_Board_height :: rest_Board_height))
    (l_Board_height : K.lookup f_Board_height = some ⟨oc_Board_height, od_Board_height, .func (PySem.W.fnOf "height" "Board.height" (defArgs s_Board_height) (defBody s_Board_height) (defScope s_Board_height) .none kV_Board_height dc_Board_height pm_Board_height an_Board_height cd_Board_height ct_Board_height), sl_Board_height⟩)
    (c_Board_height : PySem.W.codeIn K cd_Board_height "Board.height" = true)
    (k_Board_height : PySem.W.keepIn K (.ref f_Board_height) = true)
    (pa_Board_mirrors : PySem.W.findIn K (.ref C_Board) "mirrors" = some (some (.ref p_Board_mirrors)))
    (pg_Board_mirrors : PySem.W.specialIn K (.ref p_Board_mirrors) "__get__" = some (some (.builtin "property.__get__")))
    (pt_Board_mirrors : PySem.W.takesIn K (.ref p_Board_mirrors) = some true)
    (pr_Board_mirrors : PySem.W.recIn K p_Board_mirrors "property" = some (.ref f_Board_mirrors :: rest_Board_mirrors))
    (l_Board_mirrors : K.lookup f_Board_mirrors = some ⟨oc_Board_mirrors, od_Board_mirrors, .func (PySem.W.fnOf "mirrors" "Board.mirrors" (defArgs s_Board_mirrors) (defBody s_Board_mirrors) (defScope s_Board_mirrors) .none kV_Board_mirrors dc_Board_mirrors pm_Board_mirrors an_Board_mirrors cd_Board_mirrors ct_Board_mirrors), sl_Board_mirrors⟩)
    (c_Board_mirrors : PySem.W.codeIn K cd_Board_mirrors "Board.mirrors" = true)
    (k_Board_mirrors : PySem.W.keepIn K (.ref f_Board_mirrors) = true)
    (a_Board___len__ : PySem.W.findIn K (.ref C_Board) "__len__" = some (some (.ref f_Board___len__)))
    (i_Board___len__ : PySem.W.isFn K (.ref f_Board___len__) = true)
    (l_Board___len__ : K.lookup f_Board___len__ = some ⟨oc_Board___len__, od_Board___len__, .func (PySem.W.fnOf "__len__" "Board.__len__" (defArgs s_Board___len__) (defBody s_Board___len__) (defScope s_Board___len__) .none kV_Board___len__ dc_Board___len__ pm_Board___len__ an_Board___len__ cd_Board___len__ ct_Board___len__), sl_Board___len__⟩)
    (c_Board___len__ : PySem.W.codeIn K cd_Board___len__ "Board.__len__" = true)
    (k_Board___len__ : PySem.W.keepIn K (.ref f_Board___len__) = true)
    (a_Board___eq__ : PySem.W.findIn K (.ref C_Board) "__eq__" = some (some (.ref f_Board___eq__)))
    (i_Board___eq__ : PySem.W.isFn K (.ref f_Board___eq__) = true)
    (l_Board___eq__ : K.lookup f_Board___eq__ = some ⟨oc_Board___eq__, od_Board___eq__, .func (PySem.W.fnOf "__eq__" "Board.__eq__" (defArgs s_Board___eq__) (defBody s_Board___eq__) (defScope s_Board___eq__) .none kV_Board___eq__ dc_Board___eq__ pm_Board___eq__ an_Board___eq__ cd_Board___eq__ ct_Board___eq__), sl_Board___eq__⟩)
    (c_Board___eq__ : PySem.W.codeIn K cd_Board___eq__ "Board.__eq__" = true)
    (k_Board___eq__ : PySem.W.keepIn K (.ref f_Board___eq__) = true)
    (a_Board_mirror_at : PySem.W.findIn K (.ref C_Board) "mirror_at" = some (some (.ref f_Board_mirror_at)))
    (i_Board_mirror_at : PySem.W.isFn K (.ref f_Board_mirror_at) = true)
    (l_Board_mirror_at : K.lookup f_Board_mirror_at = some ⟨oc_Board_mirror_at, od_Board_mirror_at, .func (PySem.W.fnOf "mirror_at" "Board.mirror_at" (defArgs s_Board_mirror_at) (defBody s_Board_mirror_at) (defScope s_Board_mirror_at) .none kV_Board_mirror_at dc_Board_mirror_at pm_Board_mirror_at an_Board_mirror_at cd_Board_mirror_at ct_Board_mirror_at), sl_Board_mirror_at⟩)
    (c_Board_mirror_at : PySem.W.codeIn K cd_Board_mirror_at "Board.mirror_at" = true)
    (k_Board_mirror_at : PySem.W.keepIn K (.ref f_Board_mirror_at) = true)
    (a_Board_turned : PySem.W.findIn K (.ref C_Board) "turned" = some (some (.ref f_Board_turned)))
    (i_Board_turned : PySem.W.isFn K (.ref f_Board_turned) = true)
    (l_Board_turned : K.lookup f_Board_turned = some ⟨oc_Board_turned, od_Board_turned, .func (PySem.W.fnOf "turned" "Board.turned" (defArgs s_Board_turned) (defBody s_Board_turned) (defScope s_Board_turned) .none kV_Board_turned dc_Board_turned pm_Board_turned an_Board_turned cd_Board_turned ct_Board_turned), sl_Board_turned⟩)
    (c_Board_turned : PySem.W.codeIn K cd_Board_turned "Board.turned" = true)
    (k_Board_turned : PySem.W.keepIn K (.ref f_Board_turned) = true)
    (a__law_hand : PySem.W.nsIn K mainGlobals "_law_hand" = some (some (.ref f__law_hand)))
    (l__law_hand : K.lookup f__law_hand = some ⟨oc__law_hand, od__law_hand, .func (PySem.W.fnOf "_law_hand" "_law_hand" (defArgs s__law_hand) (defBody s__law_hand) (defScope s__law_hand) .none kV__law_hand dc__law_hand pm__law_hand an__law_hand cd__law_hand ct__law_hand), sl__law_hand⟩)
    (c__law_hand : PySem.W.codeIn K cd__law_hand "_law_hand" = true)
    (k__law_hand : PySem.W.keepIn K (.ref f__law_hand) = true)
    (a__law_take : PySem.W.nsIn K mainGlobals "_law_take" = some (some (.ref f__law_take)))
    (l__law_take : K.lookup f__law_take = some ⟨oc__law_take, od__law_take, .func (PySem.W.fnOf "_law_take" "_law_take" (defArgs s__law_take) (defBody s__law_take) (defScope s__law_take) .none kV__law_take dc__law_take pm__law_take an__law_take cd__law_take ct__law_take), sl__law_take⟩)
    (c__law_take : PySem.W.codeIn K cd__law_take "_law_take" = true)
    (k__law_take : PySem.W.keepIn K (.ref f__law_take) = true)
    (a__law_big : PySem.W.nsIn K mainGlobals "_law_big" = some (some (.ref f__law_big)))
    (l__law_big : K.lookup f__law_big = some ⟨oc__law_big, od__law_big, .func (PySem.W.fnOf "_law_big" "_law_big" (defArgs s__law_big) (defBody s__law_big) (defScope s__law_big) .none kV__law_big dc__law_big pm__law_big an__law_big cd__law_big ct__law_big), sl__law_big⟩)
    (c__law_big : PySem.W.codeIn K cd__law_big "_law_big" = true)
    (k__law_big : PySem.W.keepIn K (.ref f__law_big) = true)
    (a__law_points : PySem.W.nsIn K mainGlobals "_law_points" = some (some (.ref f__law_points)))
    (l__law_points : K.lookup f__law_points = some ⟨oc__law_points, od__law_points, .func (PySem.W.fnOf "_law_points" "_law_points" (defArgs s__law_points) (defBody s__law_points) (defScope s__law_points) .none kV__law_points dc__law_points pm__law_points an__law_points cd__law_points ct__law_points), sl__law_points⟩)
    (c__law_points : PySem.W.codeIn K cd__law_points "_law_points" = true)
    (k__law_points : PySem.W.keepIn K (.ref f__law_points) = true)
    (a__law_mirrors : PySem.W.nsIn K mainGlobals "_law_mirrors" = some (some (.ref f__law_mirrors)))
    (l__law_mirrors : K.lookup f__law_mirrors = some ⟨oc__law_mirrors, od__law_mirrors, .func (PySem.W.fnOf "_law_mirrors" "_law_mirrors" (defArgs s__law_mirrors) (defBody s__law_mirrors) (defScope s__law_mirrors) .none kV__law_mirrors dc__law_mirrors pm__law_mirrors an__law_mirrors cd__law_mirrors ct__law_mirrors), sl__law_mirrors⟩)
    (c__law_mirrors : PySem.W.codeIn K cd__law_mirrors "_law_mirrors" = true)
    (k__law_mirrors : PySem.W.keepIn K (.ref f__law_mirrors) = true)
    (a__law_sizes : PySem.W.nsIn K mainGlobals "_law_sizes" = some (some (.ref f__law_sizes)))
    (l__law_sizes : K.lookup f__law_sizes = some ⟨oc__law_sizes, od__law_sizes, .func (PySem.W.fnOf "_law_sizes" "_law_sizes" (defArgs s__law_sizes) (defBody s__law_sizes) (defScope s__law_sizes) .none kV__law_sizes dc__law_sizes pm__law_sizes an__law_sizes cd__law_sizes ct__law_sizes), sl__law_sizes⟩)
    (c__law_sizes : PySem.W.codeIn K cd__law_sizes "_law_sizes" = true)
    (k__law_sizes : PySem.W.keepIn K (.ref f__law_sizes) = true)
    (a__law_spot : PySem.W.nsIn K mainGlobals "_law_spot" = some (some (.ref f__law_spot)))
    (l__law_spot : K.lookup f__law_spot = some ⟨oc__law_spot, od__law_spot, .func (PySem.W.fnOf "_law_spot" "_law_spot" (defArgs s__law_spot) (defBody s__law_spot) (defScope s__law_spot) .none kV__law_spot dc__law_spot pm__law_spot an__law_spot cd__law_spot ct__law_spot), sl__law_spot⟩)
    (c__law_spot : PySem.W.codeIn K cd__law_spot "_law_spot" = true)
    (k__law_spot : PySem.W.keepIn K (.ref f__law_spot) = true)
    (a__law_far : PySem.W.nsIn K mainGlobals "_law_far" = some (some (.ref f__law_far)))
    (l__law_far : K.lookup f__law_far = some ⟨oc__law_far, od__law_far, .func (PySem.W.fnOf "_law_far" "_law_far" (defArgs s__law_far) (defBody s__law_far) (defScope s__law_far) .none kV__law_far dc__law_far pm__law_far an__law_far cd__law_far ct__law_far), sl__law_far⟩)
    (c__law_far : PySem.W.codeIn K cd__law_far "_law_far" = true)
    (k__law_far : PySem.W.keepIn K (.ref f__law_far) = true)
    (a__law_same : PySem.W.nsIn K mainGlobals "_law_same" = some (some (.ref f__law_same)))
    (l__law_same : K.lookup f__law_same = some ⟨oc__law_same, od__law_same, .func (PySem.W.fnOf "_law_same" "_law_same" (defArgs s__law_same) (defBody s__law_same) (defScope s__law_same) .none kV__law_same dc__law_same pm__law_same an__law_same cd__law_same ct__law_same), sl__law_same⟩)
    (c__law_same : PySem.W.codeIn K cd__law_same "_law_same" = true)
    (k__law_same : PySem.W.keepIn K (.ref f__law_same) = true)
    (a__law_is : PySem.W.nsIn K mainGlobals "_law_is" = some (some (.ref f__law_is)))
    (l__law_is : K.lookup f__law_is = some ⟨oc__law_is, od__law_is, .func (PySem.W.fnOf "_law_is" "_law_is" (defArgs s__law_is) (defBody s__law_is) (defScope s__law_is) .none kV__law_is dc__law_is pm__law_is an__law_is cd__law_is ct__law_is), sl__law_is⟩)
    (c__law_is : PySem.W.codeIn K cd__law_is "_law_is" = true)
    (k__law_is : PySem.W.keepIn K (.ref f__law_is) = true)
    (a__law_move : PySem.W.nsIn K mainGlobals "_law_move" = some (some (.ref f__law_move)))
    (l__law_move : K.lookup f__law_move = some ⟨oc__law_move, od__law_move, .func (PySem.W.fnOf "_law_move" "_law_move" (defArgs s__law_move) (defBody s__law_move) (defScope s__law_move) .none kV__law_move dc__law_move pm__law_move an__law_move cd__law_move ct__law_move), sl__law_move⟩)
    (c__law_move : PySem.W.codeIn K cd__law_move "_law_move" = true)
    (k__law_move : PySem.W.keepIn K (.ref f__law_move) = true)
    (a__law_turned : PySem.W.nsIn K mainGlobals "_law_turned" = some (some (.ref f__law_turned)))
    (l__law_turned : K.lookup f__law_turned = some ⟨oc__law_turned, od__law_turned, .func (PySem.W.fnOf "_law_turned" "_law_turned" (defArgs s__law_turned) (defBody s__law_turned) (defScope s__law_turned) .none kV__law_turned dc__law_turned pm__law_turned an__law_turned cd__law_turned ct__law_turned), sl__law_turned⟩)
    (c__law_turned : PySem.W.codeIn K cd__law_turned "_law_turned" = true)
    (k__law_turned : PySem.W.keepIn K (.ref f__law_turned) = true)
    (a__law_word : PySem.W.nsIn K mainGlobals "_law_word" = some (some (.ref f__law_word)))
    (l__law_word : K.lookup f__law_word = some ⟨oc__law_word, od__law_word, .func (PySem.W.fnOf "_law_word" "_law_word" (defArgs s__law_word) (defBody s__law_word) (defScope s__law_word) .none kV__law_word dc__law_word pm__law_word an__law_word cd__law_word ct__law_word), sl__law_word⟩)
    (c__law_word : PySem.W.codeIn K cd__law_word "_law_word" = true)
    (k__law_word : PySem.W.keepIn K (.ref f__law_word) = true)
    (a__law_refused : PySem.W.nsIn K mainGlobals "_law_refused" = some (some (.ref f__law_refused)))
    (l__law_refused : K.lookup f__law_refused = some ⟨oc__law_refused, od__law_refused, .func (PySem.W.fnOf "_law_refused" "_law_refused" (defArgs s__law_refused) (defBody s__law_refused) (defScope s__law_refused) .none kV__law_refused dc__law_refused pm__law_refused an__law_refused cd__law_refused ct__law_refused), sl__law_refused⟩)
    (c__law_refused : PySem.W.codeIn K cd__law_refused "_law_refused" = true)
    (k__law_refused : PySem.W.keepIn K (.ref f__law_refused) = true)
    (a_law : PySem.W.nsIn K mainGlobals "law" = some (some (.ref f_law)))
    (l_law : K.lookup f_law = some ⟨oc_law, od_law, .func (PySem.W.fnOf "law" "law" (defArgs s_law) (defBody s_law) (defScope s_law) .none kV_law dc_law pm_law an_law cd_law ct_law), sl_law⟩)
    (c_law : PySem.W.codeIn K cd_law "law" = true)
    (k_law : PySem.W.keepIn K (.ref f_law) = true)
    (pg_Board : PySem.W.plainGet K C_Board Str.empty = true)
    (hd_Board : PySem.W.hasDictIn K C_Board = true)
    (po_Board : PySem.W.plainOver K C_Board = true)
    (st_Board : PySem.W.findIn K (.ref C_Board) "__setattr__" = some (some (.builtin "object.__setattr__")))
    (mk_Board : PySem.W.makesIn K C_Board = true)
    (kc_Board : PySem.W.keepIn K (.ref C_Board) = true)
    (i1_Board : PySem.W.findIn K (.ref C_Board) "__class__" = some (some (.builtin "object.__class__")))
    (i2_Board : PySem.W.specialIn K (.builtin "object.__class__") "__get__" = some (some (.builtin "getset_descriptor.__get__")))
    (i3_Board : PySem.W.takesIn K (.builtin "object.__class__") = some true)
    (i4_Board : PySem.W.mroIn K C_Board (.type "object") = some true)
    (na_Board_wide : PySem.W.findIn K (.ref C_Board) "wide" = some none)
    (na_Board_high : PySem.W.findIn K (.ref C_Board) "high" = some none)
    (na_Board_kinds : PySem.W.findIn K (.ref C_Board) "kinds" = some none)
    (ac_KINDS : PySem.W.nsIn K mainGlobals "KINDS" = some (some (.ref c_KINDS)))
    (lc_KINDS : K.lookup c_KINDS = some ⟨.type "tuple", dd_KINDS, .seq #[.str "-" t_KINDS_0, .str "|" t_KINDS_1] n_KINDS, sl_KINDS⟩)
    (ac_WAYS : PySem.W.nsIn K mainGlobals "WAYS" = some (some (.ref c_WAYS)))
    (lc_WAYS : K.lookup c_WAYS = some ⟨.type "tuple", dd_WAYS, .seq #[.str "same" t_WAYS_0, .str "quarter" t_WAYS_1, .str "half" t_WAYS_2, .str "back" t_WAYS_3, .str "flip" t_WAYS_4, .str "mirror" t_WAYS_5, .str "cross" t_WAYS_6, .str "anti" t_WAYS_7] n_WAYS, sl_WAYS⟩)
    (ac_EXCHANGING : PySem.W.nsIn K mainGlobals "EXCHANGING" = some (some (.ref c_EXCHANGING)))
    (lc_EXCHANGING : K.lookup c_EXCHANGING = some ⟨.type "tuple", dd_EXCHANGING, .seq #[.str "quarter" t_EXCHANGING_0, .str "back" t_EXCHANGING_1, .str "cross" t_EXCHANGING_2, .str "anti" t_EXCHANGING_3] n_EXCHANGING, sl_EXCHANGING⟩)
    (z_len : PySem.W.nsIn K mainGlobals "len" = some none)
    (z_int : PySem.W.nsIn K mainGlobals "int" = some none)
    (z_abs : PySem.W.nsIn K mainGlobals "abs" = some none)
    (z_min : PySem.W.nsIn K mainGlobals "min" = some none)
    (z_range : PySem.W.nsIn K mainGlobals "range" = some none)
    (z_list : PySem.W.nsIn K mainGlobals "list" = some none)
    (z_isinstance : PySem.W.nsIn K mainGlobals "isinstance" = some none)
    (z_bool : PySem.W.nsIn K mainGlobals "bool" = some none)
    (z_str : PySem.W.nsIn K mainGlobals "str" = some none)
    (z_tuple : PySem.W.nsIn K mainGlobals "tuple" = some none)
    (z_sorted : PySem.W.nsIn K mainGlobals "sorted" = some none) :
    ∃ fd : FuncData, (∀ (s : Shared) (v : Value), BindsTo s fd ⟨[v], []⟩ [("_law_script", v)]) ∧ ∀ base : Heap, K.In base → base.Ns mainGlobals mg → FnOk l.prog w K mg base CX0 10 fa fd ["_law_script"] (spLaw K) := by
  have e := hfa.symm.trans (PySem.W.mg_of X G a_law)
  cases e
  have F_SandError___init__ := fun_mk (st := s_SandError___init__) l_SandError___init__ c_SandError___init__ k_SandError___init__
  have b_SandError___init__ := F_SandError___init__.binds (ps := P_SandError___init__) fun _ _ _ _ _ _ us hl => match us, hl with | [_, _], _ => rfl
  have F_is_inside := fun_mk (st := s_is_inside) l_is_inside c_is_inside k_is_inside
  have b_is_inside := F_is_inside.binds (ps := P_is_inside) fun _ _ _ _ _ _ us hl => match us, hl with | [_, _, _, _], _ => rfl
  have F_check_mirror := fun_mk (st := s_check_mirror) l_check_mirror c_check_mirror k_check_mirror
  have b_check_mirror := F_check_mirror.binds (ps := P_check_mirror) fun _ _ _ _ _ _ us hl => match us, hl with | [_, _, _, _], _ => rfl
  have F_kinds_of := fun_mk (st := s_kinds_of) l_kinds_of c_kinds_of k_kinds_of
  have b_kinds_of := F_kinds_of.binds (ps := P_kinds_of) fun _ _ _ _ _ _ us hl => match us, hl with | [_, _, _], _ => rfl
  have F_other_kind := fun_mk (st := s_other_kind) l_other_kind c_other_kind k_other_kind
  have b_other_kind := F_other_kind.binds (ps := P_other_kind) fun _ _ _ _ _ _ us hl => match us, hl with | [_], _ => rfl
  have F_moved_place := fun_mk (st := s_moved_place) l_moved_place c_moved_place k_moved_place
  have b_moved_place := F_moved_place.binds (ps := P_moved_place) fun _ _ _ _ _ _ us hl => match us, hl with | [_, _, _, _], _ => rfl
  have F_Board___init__ := fun_mk (st := s_Board___init__) l_Board___init__ c_Board___init__ k_Board___init__
  have b_Board___init__ := F_Board___init__.binds (ps := P_Board___init__) fun _ _ _ _ _ _ us hl => match us, hl with | [_, _, _, _], _ => rfl
  have F_Board_width := fun_mk (st := s_Board_width) l_Board_width c_Board_width k_Board_width
  have b_Board_width := F_Board_width.binds (ps := P_Board_width) fun _ _ _ _ _ _ us hl => match us, hl with | [_], _ => rfl
  have F_Board_height := fun_mk (st := s_Board_height) l_Board_height c_Board_height k_Board_height
  have b_Board_height := F_Board_height.binds (ps := P_Board_height) fun _ _ _ _ _ _ us hl => match us, hl with | [_], _ => rfl
  have F_Board_mirrors := fun_mk (st := s_Board_mirrors) l_Board_mirrors c_Board_mirrors k_Board_mirrors
  have b_Board_mirrors := F_Board_mirrors.binds (ps := P_Board_mirrors) fun _ _ _ _ _ _ us hl => match us, hl with | [_], _ => rfl
  have F_Board___len__ := fun_mk (st := s_Board___len__) l_Board___len__ c_Board___len__ k_Board___len__
  have b_Board___len__ := F_Board___len__.binds (ps := P_Board___len__) fun _ _ _ _ _ _ us hl => match us, hl with | [_], _ => rfl
  have F_Board___eq__ := fun_mk (st := s_Board___eq__) l_Board___eq__ c_Board___eq__ k_Board___eq__
  have b_Board___eq__ := F_Board___eq__.binds (ps := P_Board___eq__) fun _ _ _ _ _ _ us hl => match us, hl with | [_, _], _ => rfl
  have F_Board_mirror_at := fun_mk (st := s_Board_mirror_at) l_Board_mirror_at c_Board_mirror_at k_Board_mirror_at
  have b_Board_mirror_at := F_Board_mirror_at.binds (ps := P_Board_mirror_at) fun _ _ _ _ _ _ us hl => match us, hl with | [_, _, _], _ => rfl
  have F_Board_turned := fun_mk (st := s_Board_turned) l_Board_turned c_Board_turned k_Board_turned
  have b_Board_turned := F_Board_turned.binds (ps := P_Board_turned) fun _ _ _ _ _ _ us hl => match us, hl with | [_, _], _ => rfl
  have F__law_hand := fun_mk (st := s__law_hand) l__law_hand c__law_hand k__law_hand
  have b__law_hand := F__law_hand.binds (ps := P__law_hand) fun _ _ _ _ _ _ us hl => match us, hl with | [_], _ => rfl
  have F__law_take := fun_mk (st := s__law_take) l__law_take c__law_take k__law_take
  have b__law_take := F__law_take.binds (ps := P__law_take) fun _ _ _ _ _ _ us hl => match us, hl with | [_, _], _ => rfl
  have F__law_big := fun_mk (st := s__law_big) l__law_big c__law_big k__law_big
  have b__law_big := F__law_big.binds (ps := P__law_big) fun _ _ _ _ _ _ us hl => match us, hl with | [_, _], _ => rfl
  have F__law_points := fun_mk (st := s__law_points) l__law_points c__law_points k__law_points
  have b__law_points := F__law_points.binds (ps := P__law_points) fun _ _ _ _ _ _ us hl => match us, hl with | [_, _], _ => rfl
  have F__law_mirrors := fun_mk (st := s__law_mirrors) l__law_mirrors c__law_mirrors k__law_mirrors
  have b__law_mirrors := F__law_mirrors.binds (ps := P__law_mirrors) fun _ _ _ _ _ _ us hl => match us, hl with | [_, _, _], _ => rfl
  have F__law_sizes := fun_mk (st := s__law_sizes) l__law_sizes c__law_sizes k__law_sizes
  have b__law_sizes := F__law_sizes.binds (ps := P__law_sizes) fun _ _ _ _ _ _ us hl => match us, hl with | [_, _], _ => rfl
  have F__law_spot := fun_mk (st := s__law_spot) l__law_spot c__law_spot k__law_spot
  have b__law_spot := F__law_spot.binds (ps := P__law_spot) fun _ _ _ _ _ _ us hl => match us, hl with | [_, _, _], _ => rfl
  have F__law_far := fun_mk (st := s__law_far) l__law_far c__law_far k__law_far
  have b__law_far := F__law_far.binds (ps := P__law_far) fun _ _ _ _ _ _ us hl => match us, hl with | [_, _, _], _ => rfl
  have F__law_same := fun_mk (st := s__law_same) l__law_same c__law_same k__law_same
  have b__law_same := F__law_same.binds (ps := P__law_same) fun _ _ _ _ _ _ us hl => match us, hl with | [_, _], _ => rfl
  have F__law_is := fun_mk (st := s__law_is) l__law_is c__law_is k__law_is
  have b__law_is := F__law_is.binds (ps := P__law_is) fun _ _ _ _ _ _ us hl => match us, hl with | [_, _], _ => rfl
  have F__law_move := fun_mk (st := s__law_move) l__law_move c__law_move k__law_move
  have b__law_move := F__law_move.binds (ps := P__law_move) fun _ _ _ _ _ _ us hl => match us, hl with | [_, _, _, _, _], _ => rfl
  have F__law_turned := fun_mk (st := s__law_turned) l__law_turned c__law_turned k__law_turned
  have b__law_turned := F__law_turned.binds (ps := P__law_turned) fun _ _ _ _ _ _ us hl => match us, hl with | [_, _, _, _], _ => rfl
  have F__law_word := fun_mk (st := s__law_word) l__law_word c__law_word k__law_word
  have b__law_word := F__law_word.binds (ps := P__law_word) fun _ _ _ _ _ _ us hl => match us, hl with | [_], _ => rfl
  have F__law_refused := fun_mk (st := s__law_refused) l__law_refused c__law_refused k__law_refused
  have b__law_refused := F__law_refused.binds (ps := P__law_refused) fun _ _ _ _ _ _ us hl => match us, hl with | [_, _], _ => rfl
  have F_law := fun_mk (st := s_law) l_law c_law k_law
  have b_law := F_law.binds (ps := P_law) fun _ _ _ _ _ _ us hl => match us, hl with | [_], _ => rfl
  let A : Ad := {
    f_SandError___init__ := f_SandError___init__
    d_SandError___init__ := PySem.W.fnOf "__init__" "SandError.__init__" (defArgs s_SandError___init__) (defBody s_SandError___init__) (defScope s_SandError___init__) .none kV_SandError___init__ dc_SandError___init__ pm_SandError___init__ an_SandError___init__ cd_SandError___init__ ct_SandError___init__
    f_is_inside := f_is_inside
    d_is_inside := PySem.W.fnOf "is_inside" "is_inside" (defArgs s_is_inside) (defBody s_is_inside) (defScope s_is_inside) .none kV_is_inside dc_is_inside pm_is_inside an_is_inside cd_is_inside ct_is_inside
    f_check_mirror := f_check_mirror
    d_check_mirror := PySem.W.fnOf "check_mirror" "check_mirror" (defArgs s_check_mirror) (defBody s_check_mirror) (defScope s_check_mirror) .none kV_check_mirror dc_check_mirror pm_check_mirror an_check_mirror cd_check_mirror ct_check_mirror
    f_kinds_of := f_kinds_of
    d_kinds_of := PySem.W.fnOf "kinds_of" "kinds_of" (defArgs s_kinds_of) (defBody s_kinds_of) (defScope s_kinds_of) .none kV_kinds_of dc_kinds_of pm_kinds_of an_kinds_of cd_kinds_of ct_kinds_of
    f_other_kind := f_other_kind
    d_other_kind := PySem.W.fnOf "other_kind" "other_kind" (defArgs s_other_kind) (defBody s_other_kind) (defScope s_other_kind) .none kV_other_kind dc_other_kind pm_other_kind an_other_kind cd_other_kind ct_other_kind
    f_moved_place := f_moved_place
    d_moved_place := PySem.W.fnOf "moved_place" "moved_place" (defArgs s_moved_place) (defBody s_moved_place) (defScope s_moved_place) .none kV_moved_place dc_moved_place pm_moved_place an_moved_place cd_moved_place ct_moved_place
    f_Board___init__ := f_Board___init__
    d_Board___init__ := PySem.W.fnOf "__init__" "Board.__init__" (defArgs s_Board___init__) (defBody s_Board___init__) (defScope s_Board___init__) .none kV_Board___init__ dc_Board___init__ pm_Board___init__ an_Board___init__ cd_Board___init__ ct_Board___init__
    f_Board_width := f_Board_width
    d_Board_width := PySem.W.fnOf "width" "Board.width" (defArgs s_Board_width) (defBody s_Board_width) (defScope s_Board_width) .none kV_Board_width dc_Board_width pm_Board_width an_Board_width cd_Board_width ct_Board_width
    f_Board_height := f_Board_height
    d_Board_height := PySem.W.fnOf "height" "Board.height" (defArgs s_Board_height) (defBody s_Board_height) (defScope s_Board_height) .none kV_Board_height dc_Board_height pm_Board_height an_Board_height cd_Board_height ct_Board_height
    f_Board_mirrors := f_Board_mirrors
    d_Board_mirrors := PySem.W.fnOf "mirrors" "Board.mirrors" (defArgs s_Board_mirrors) (defBody s_Board_mirrors) (defScope s_Board_mirrors) .none kV_Board_mirrors dc_Board_mirrors pm_Board_mirrors an_Board_mirrors cd_Board_mirrors ct_Board_mirrors
    f_Board___len__ := f_Board___len__
    d_Board___len__ := PySem.W.fnOf "__len__" "Board.__len__" (defArgs s_Board___len__) (defBody s_Board___len__) (defScope s_Board___len__) .none kV_Board___len__ dc_Board___len__ pm_Board___len__ an_Board___len__ cd_Board___len__ ct_Board___len__
    f_Board___eq__ := f_Board___eq__
    d_Board___eq__ := PySem.W.fnOf "__eq__" "Board.__eq__" (defArgs s_Board___eq__) (defBody s_Board___eq__) (defScope s_Board___eq__) .none kV_Board___eq__ dc_Board___eq__ pm_Board___eq__ an_Board___eq__ cd_Board___eq__ ct_Board___eq__
    f_Board_mirror_at := f_Board_mirror_at
    d_Board_mirror_at := PySem.W.fnOf "mirror_at" "Board.mirror_at" (defArgs s_Board_mirror_at) (defBody s_Board_mirror_at) (defScope s_Board_mirror_at) .none kV_Board_mirror_at dc_Board_mirror_at pm_Board_mirror_at an_Board_mirror_at cd_Board_mirror_at ct_Board_mirror_at
    f_Board_turned := f_Board_turned
    d_Board_turned := PySem.W.fnOf "turned" "Board.turned" (defArgs s_Board_turned) (defBody s_Board_turned) (defScope s_Board_turned) .none kV_Board_turned dc_Board_turned pm_Board_turned an_Board_turned cd_Board_turned ct_Board_turned
    f__law_hand := f__law_hand
    d__law_hand := PySem.W.fnOf "_law_hand" "_law_hand" (defArgs s__law_hand) (defBody s__law_hand) (defScope s__law_hand) .none kV__law_hand dc__law_hand pm__law_hand an__law_hand cd__law_hand ct__law_hand
    f__law_take := f__law_take
    d__law_take := PySem.W.fnOf "_law_take" "_law_take" (defArgs s__law_take) (defBody s__law_take) (defScope s__law_take) .none kV__law_take dc__law_take pm__law_take an__law_take cd__law_take ct__law_take
    f__law_big := f__law_big
    d__law_big := PySem.W.fnOf "_law_big" "_law_big" (defArgs s__law_big) (defBody s__law_big) (defScope s__law_big) .none kV__law_big dc__law_big pm__law_big an__law_big cd__law_big ct__law_big
    f__law_points := f__law_points
    d__law_points := PySem.W.fnOf "_law_points" "_law_points" (defArgs s__law_points) (defBody s__law_points) (defScope s__law_points) .none kV__law_points dc__law_points pm__law_points an__law_points cd__law_points ct__law_points
    f__law_mirrors := f__law_mirrors
    d__law_mirrors := PySem.W.fnOf "_law_mirrors" "_law_mirrors" (defArgs s__law_mirrors) (defBody s__law_mirrors) (defScope s__law_mirrors) .none kV__law_mirrors dc__law_mirrors pm__law_mirrors an__law_mirrors cd__law_mirrors ct__law_mirrors
    f__law_sizes := f__law_sizes
    d__law_sizes := PySem.W.fnOf "_law_sizes" "_law_sizes" (defArgs s__law_sizes) (defBody s__law_sizes) (defScope s__law_sizes) .none kV__law_sizes dc__law_sizes pm__law_sizes an__law_sizes cd__law_sizes ct__law_sizes
    f__law_spot := f__law_spot
    d__law_spot := PySem.W.fnOf "_law_spot" "_law_spot" (defArgs s__law_spot) (defBody s__law_spot) (defScope s__law_spot) .none kV__law_spot dc__law_spot pm__law_spot an__law_spot cd__law_spot ct__law_spot
    f__law_far := f__law_far
    d__law_far := PySem.W.fnOf "_law_far" "_law_far" (defArgs s__law_far) (defBody s__law_far) (defScope s__law_far) .none kV__law_far dc__law_far pm__law_far an__law_far cd__law_far ct__law_far
    f__law_same := f__law_same
    d__law_same := PySem.W.fnOf "_law_same" "_law_same" (defArgs s__law_same) (defBody s__law_same) (defScope s__law_same) .none kV__law_same dc__law_same pm__law_same an__law_same cd__law_same ct__law_same
    f__law_is := f__law_is
    d__law_is := PySem.W.fnOf "_law_is" "_law_is" (defArgs s__law_is) (defBody s__law_is) (defScope s__law_is) .none kV__law_is dc__law_is pm__law_is an__law_is cd__law_is ct__law_is
    f__law_move := f__law_move
    d__law_move := PySem.W.fnOf "_law_move" "_law_move" (defArgs s__law_move) (defBody s__law_move) (defScope s__law_move) .none kV__law_move dc__law_move pm__law_move an__law_move cd__law_move ct__law_move
    f__law_turned := f__law_turned
    d__law_turned := PySem.W.fnOf "_law_turned" "_law_turned" (defArgs s__law_turned) (defBody s__law_turned) (defScope s__law_turned) .none kV__law_turned dc__law_turned pm__law_turned an__law_turned cd__law_turned ct__law_turned
    f__law_word := f__law_word
    d__law_word := PySem.W.fnOf "_law_word" "_law_word" (defArgs s__law_word) (defBody s__law_word) (defScope s__law_word) .none kV__law_word dc__law_word pm__law_word an__law_word cd__law_word ct__law_word
    f__law_refused := f__law_refused
    d__law_refused := PySem.W.fnOf "_law_refused" "_law_refused" (defArgs s__law_refused) (defBody s__law_refused) (defScope s__law_refused) .none kV__law_refused dc__law_refused pm__law_refused an__law_refused cd__law_refused ct__law_refused
    f_law := fa
    d_law := PySem.W.fnOf "law" "law" (defArgs s_law) (defBody s_law) (defScope s_law) .none kV_law dc_law pm_law an_law cd_law ct_law
    C_InvalidSize := C_InvalidSize
    C_InvalidPoint := C_InvalidPoint
    C_InvalidMirror := C_InvalidMirror
    C_Taken := C_Taken
    C_InvalidTurn := C_InvalidTurn
    C_Board := C_Board
    c_KINDS := c_KINDS
    c_WAYS := c_WAYS
    c_EXCHANGING := c_EXCHANGING
    p_Board_width := p_Board_width
    p_Board_height := p_Board_height
    p_Board_mirrors := p_Board_mirrors }
  have T : Txt K mg A := {
    F_SandError___init__ := F_SandError___init__, k_SandError___init__ := k_SandError___init__, b_SandError___init__ := b_SandError___init__,
    F_is_inside := F_is_inside, k_is_inside := k_is_inside, b_is_inside := b_is_inside,
    g_is_inside := PySem.W.mg_of X G a_is_inside,
    F_check_mirror := F_check_mirror, k_check_mirror := k_check_mirror, b_check_mirror := b_check_mirror,
    g_check_mirror := PySem.W.mg_of X G a_check_mirror,
    F_kinds_of := F_kinds_of, k_kinds_of := k_kinds_of, b_kinds_of := b_kinds_of,
    g_kinds_of := PySem.W.mg_of X G a_kinds_of,
    F_other_kind := F_other_kind, k_other_kind := k_other_kind, b_other_kind := b_other_kind,
    g_other_kind := PySem.W.mg_of X G a_other_kind,
    F_moved_place := F_moved_place, k_moved_place := k_moved_place, b_moved_place := b_moved_place,
    g_moved_place := PySem.W.mg_of X G a_moved_place,
    F_Board___init__ := F_Board___init__, k_Board___init__ := k_Board___init__, b_Board___init__ := b_Board___init__,
    F_Board_width := F_Board_width, k_Board_width := k_Board_width, b_Board_width := b_Board_width,
    F_Board_height := F_Board_height, k_Board_height := k_Board_height, b_Board_height := b_Board_height,
    F_Board_mirrors := F_Board_mirrors, k_Board_mirrors := k_Board_mirrors, b_Board_mirrors := b_Board_mirrors,
    F_Board___len__ := F_Board___len__, k_Board___len__ := k_Board___len__, b_Board___len__ := b_Board___len__,
    F_Board___eq__ := F_Board___eq__, k_Board___eq__ := k_Board___eq__, b_Board___eq__ := b_Board___eq__,
    F_Board_mirror_at := F_Board_mirror_at, k_Board_mirror_at := k_Board_mirror_at, b_Board_mirror_at := b_Board_mirror_at,
    F_Board_turned := F_Board_turned, k_Board_turned := k_Board_turned, b_Board_turned := b_Board_turned,
    F__law_hand := F__law_hand, k__law_hand := k__law_hand, b__law_hand := b__law_hand,
    g__law_hand := PySem.W.mg_of X G a__law_hand,
    F__law_take := F__law_take, k__law_take := k__law_take, b__law_take := b__law_take,
    g__law_take := PySem.W.mg_of X G a__law_take,
    F__law_big := F__law_big, k__law_big := k__law_big, b__law_big := b__law_big,
    g__law_big := PySem.W.mg_of X G a__law_big,
    F__law_points := F__law_points, k__law_points := k__law_points, b__law_points := b__law_points,
    g__law_points := PySem.W.mg_of X G a__law_points,
    F__law_mirrors := F__law_mirrors, k__law_mirrors := k__law_mirrors, b__law_mirrors := b__law_mirrors,
    g__law_mirrors := PySem.W.mg_of X G a__law_mirrors,
    F__law_sizes := F__law_sizes, k__law_sizes := k__law_sizes, b__law_sizes := b__law_sizes,
    g__law_sizes := PySem.W.mg_of X G a__law_sizes,
    F__law_spot := F__law_spot, k__law_spot := k__law_spot, b__law_spot := b__law_spot,
    g__law_spot := PySem.W.mg_of X G a__law_spot,
    F__law_far := F__law_far, k__law_far := k__law_far, b__law_far := b__law_far,
    g__law_far := PySem.W.mg_of X G a__law_far,
    F__law_same := F__law_same, k__law_same := k__law_same, b__law_same := b__law_same,
    g__law_same := PySem.W.mg_of X G a__law_same,
    F__law_is := F__law_is, k__law_is := k__law_is, b__law_is := b__law_is,
    g__law_is := PySem.W.mg_of X G a__law_is,
    F__law_move := F__law_move, k__law_move := k__law_move, b__law_move := b__law_move,
    g__law_move := PySem.W.mg_of X G a__law_move,
    F__law_turned := F__law_turned, k__law_turned := k__law_turned, b__law_turned := b__law_turned,
    g__law_turned := PySem.W.mg_of X G a__law_turned,
    F__law_word := F__law_word, k__law_word := k__law_word, b__law_word := b__law_word,
    g__law_word := PySem.W.mg_of X G a__law_word,
    F__law_refused := F__law_refused, k__law_refused := k__law_refused, b__law_refused := b__law_refused,
    g__law_refused := PySem.W.mg_of X G a__law_refused,
    F_law := F_law, k_law := k_law, b_law := b_law,
    g_law := PySem.W.mg_of X G a_law,
    g_InvalidSize := PySem.W.mg_of X G aC_InvalidSize,
    X_InvalidSize := ⟨⟨_, _, _, _, _, _, _, _, _, _, _, _, _, _, _, xL_InvalidSize, rfl⟩, sa_InvalidSize, eC_InvalidSize, tC_InvalidSize, kC_InvalidSize⟩,
    i_InvalidSize := iI_InvalidSize,
    xf_InvalidSize := ⟨ga_InvalidSize, gg_InvalidSize, eC_InvalidSize, hC_InvalidSize⟩,
    te_InvalidSize := exm_ok eC_InvalidSize zC_InvalidSize tC_InvalidSize sC_InvalidSize,
    no_InvalidSize := nv_InvalidSize,
    g_InvalidPoint := PySem.W.mg_of X G aC_InvalidPoint,
    X_InvalidPoint := ⟨⟨_, _, _, _, _, _, _, _, _, _, _, _, _, _, _, xL_InvalidPoint, rfl⟩, sa_InvalidPoint, eC_InvalidPoint, tC_InvalidPoint, kC_InvalidPoint⟩,
    i_InvalidPoint := iI_InvalidPoint,
    xf_InvalidPoint := ⟨ga_InvalidPoint, gg_InvalidPoint, eC_InvalidPoint, hC_InvalidPoint⟩,
    te_InvalidPoint := exm_ok eC_InvalidPoint zC_InvalidPoint tC_InvalidPoint sC_InvalidPoint,
    no_InvalidPoint := nv_InvalidPoint,
    g_InvalidMirror := PySem.W.mg_of X G aC_InvalidMirror,
    X_InvalidMirror := ⟨⟨_, _, _, _, _, _, _, _, _, _, _, _, _, _, _, xL_InvalidMirror, rfl⟩, sa_InvalidMirror, eC_InvalidMirror, tC_InvalidMirror, kC_InvalidMirror⟩,
    i_InvalidMirror := iI_InvalidMirror,
    xf_InvalidMirror := ⟨ga_InvalidMirror, gg_InvalidMirror, eC_InvalidMirror, hC_InvalidMirror⟩,
    te_InvalidMirror := exm_ok eC_InvalidMirror zC_InvalidMirror tC_InvalidMirror sC_InvalidMirror,
    no_InvalidMirror := nv_InvalidMirror,
    g_Taken := PySem.W.mg_of X G aC_Taken,
    X_Taken := ⟨⟨_, _, _, _, _, _, _, _, _, _, _, _, _, _, _, xL_Taken, rfl⟩, sa_Taken, eC_Taken, tC_Taken, kC_Taken⟩,
    i_Taken := iI_Taken,
    xf_Taken := ⟨ga_Taken, gg_Taken, eC_Taken, hC_Taken⟩,
    te_Taken := exm_ok eC_Taken zC_Taken tC_Taken sC_Taken,
    no_Taken := nv_Taken,
    g_InvalidTurn := PySem.W.mg_of X G aC_InvalidTurn,
    X_InvalidTurn := ⟨⟨_, _, _, _, _, _, _, _, _, _, _, _, _, _, _, xL_InvalidTurn, rfl⟩, sa_InvalidTurn, eC_InvalidTurn, tC_InvalidTurn, kC_InvalidTurn⟩,
    i_InvalidTurn := iI_InvalidTurn,
    xf_InvalidTurn := ⟨ga_InvalidTurn, gg_InvalidTurn, eC_InvalidTurn, hC_InvalidTurn⟩,
    te_InvalidTurn := exm_ok eC_InvalidTurn zC_InvalidTurn tC_InvalidTurn sC_InvalidTurn,
    no_InvalidTurn := nv_InvalidTurn,
    ti_init := tI,
    g_Board := PySem.W.mg_of X G aC_Board,
    M_Board := ⟨mk_Board, a_Board___init__, i_Board___init__, kc_Board⟩,
    cl_Board := ⟨pg_Board, hd_Board, po_Board, st_Board⟩,
    i1_Board := i1_Board,
    i2_Board := i2_Board,
    i3_Board := i3_Board,
    i4_Board := i4_Board,
    na_Board_wide := na_Board_wide,
    na_Board_high := na_Board_high,
    na_Board_kinds := na_Board_kinds,
    m_Board_mirror_at := ⟨a_Board_mirror_at, i_Board_mirror_at, k_Board_mirror_at⟩,
    m_Board___len__ := ⟨a_Board___len__, i_Board___len__, k_Board___len__⟩,
    m_Board___eq__ := ⟨a_Board___eq__, i_Board___eq__, k_Board___eq__⟩,
    m_Board_turned := ⟨a_Board_turned, i_Board_turned, k_Board_turned⟩,
    pr_Board_width := ⟨pa_Board_width, pg_Board_width, pt_Board_width, _, pr_Board_width⟩,
    pr_Board_height := ⟨pa_Board_height, pg_Board_height, pt_Board_height, _, pr_Board_height⟩,
    pr_Board_mirrors := ⟨pa_Board_mirrors, pg_Board_mirrors, pt_Board_mirrors, _, pr_Board_mirrors⟩,
    g_KINDS := PySem.W.mg_of X G ac_KINDS,
    q_KINDS := fun H => .inr ⟨_, _, _, lc_KINDS, rfl, rfl, (by show 2 ≤ sizeLine; decide), .cons ⟨_, rfl⟩ (.cons ⟨_, rfl⟩ (.nil))⟩,
    g_WAYS := PySem.W.mg_of X G ac_WAYS,
    q_WAYS := fun H => .inr ⟨_, _, _, lc_WAYS, rfl, rfl, (by show 8 ≤ sizeLine; decide), .cons ⟨_, rfl⟩ (.cons ⟨_, rfl⟩ (.cons ⟨_, rfl⟩ (.cons ⟨_, rfl⟩ (.cons ⟨_, rfl⟩ (.cons ⟨_, rfl⟩ (.cons ⟨_, rfl⟩ (.cons ⟨_, rfl⟩ (.nil))))))))⟩,
    g_EXCHANGING := PySem.W.mg_of X G ac_EXCHANGING,
    q_EXCHANGING := fun H => .inr ⟨_, _, _, lc_EXCHANGING, rfl, rfl, (by show 4 ≤ sizeLine; decide), .cons ⟨_, rfl⟩ (.cons ⟨_, rfl⟩ (.cons ⟨_, rfl⟩ (.cons ⟨_, rfl⟩ (.nil))))⟩,
    n_len := PySem.W.mg_none_of X G z_len,
    n_int := PySem.W.mg_none_of X G z_int,
    n_abs := PySem.W.mg_none_of X G z_abs,
    n_min := PySem.W.mg_none_of X G z_min,
    n_range := PySem.W.mg_none_of X G z_range,
    n_list := PySem.W.mg_none_of X G z_list,
    n_isinstance := PySem.W.mg_none_of X G z_isinstance,
    n_bool := PySem.W.mg_none_of X G z_bool,
    n_str := PySem.W.mg_none_of X G z_str,
    n_tuple := PySem.W.mg_none_of X G z_tuple,
    n_sorted := PySem.W.mg_none_of X G z_sorted }
  exact ⟨A.d_law, fun s v => .of_eq rfl, fun base _ _ => ok_law T⟩
theorem walk {l : PySem.W.OpenLaw} {q : Program} {loose : List Str} {XP : (Str → Option Value) → Heap → Prop} {YP : World → Heap → Prop} {d : DefRec} {K : Params → PySem.W.Frag}
    (hn : l.most = some 63) (hdf : d.params.defaults = []) (hY : ∀ (w : World) (h : Heap), YP w h → (K w.params).In h)
    (F : ∀ (w : World) (mg : Str → Option Value) (fa : Addr) (h : Heap), (K w.params).In h → h.Ns mainGlobals mg → mg d.name = some (.ref fa) → ∃ fd : FuncData,
      (∀ (s : Shared) (u : Value), BindsTo s fd ⟨[u], []⟩ [("_law_script", u)]) ∧ ∀ base : Heap, (K w.params).In base → base.Ns mainGlobals mg → FnOk l.prog w (K w.params) mg base CX0 10 fa fd ["_law_script"] (spLaw (K w.params))) :
    PySem.W.WalkO q loose XP YP l.row.toRowW d [] (fun f vs => PySem.call f vs) :=
  L2.walk_of (n := 63) (k := 10) (x := "_law_script") (CX := fun _ => CX0) (sp := fun w => spLaw (K w.params)) hn (by decide) hdf ⟨rfl, by decide, by decide⟩ hY F (fun _ _ a ns hl _ hS => ⟨a, ns, rfl, hS, hl, fun _ => rfl⟩) fun _ _ _ _ _ z => z
end TK
open PySem PySem.W PyProof.Rows
set_option maxRecDepth 100000 in
set_option maxHeartbeats 0 in
theorem PySem.Challenge.cw_sandthreads_k06_turned_holds : PySem.Challenge.rw_sandthreads_k06_turned.Holds := by
  w_on; o_law; k_head; (case hw => w_witness2)
  k_fill
  refine TK.walk (l := PySem.Challenge.rw_sandthreads_k06_turned) rfl rfl (fun w h Y => PySem.W.kIn_of Y) ?F
  case F =>
    intro w mg fa h KX G hmg
    refine' TK.all_mk KX G hmg ?aC_InvalidSize ?aC_InvalidPoint ?aC_InvalidMirror ?aC_Taken ?aC_InvalidTurn ?aC_Board ?xL_InvalidSize ?sa_InvalidSize ?ga_InvalidSize ?gg_InvalidSize ?nv_InvalidSize ?iI_InvalidSize ?kC_InvalidSize ?eC_InvalidSize ?tC_InvalidSize ?hC_InvalidSize ?zC_InvalidSize ?sC_InvalidSize ?xL_InvalidPoint ?sa_InvalidPoint ?ga_InvalidPoint ?gg_InvalidPoint ?nv_InvalidPoint ?iI_InvalidPoint ?kC_InvalidPoint ?eC_InvalidPoint ?tC_InvalidPoint ?hC_InvalidPoint ?zC_InvalidPoint ?sC_InvalidPoint ?xL_InvalidMirror ?sa_InvalidMirror ?ga_InvalidMirror ?gg_InvalidMirror ?nv_InvalidMirror ?iI_InvalidMirror ?kC_InvalidMirror ?eC_InvalidMirror ?tC_InvalidMirror ?hC_InvalidMirror ?zC_InvalidMirror ?sC_InvalidMirror ?xL_Taken ?sa_Taken ?ga_Taken ?gg_Taken ?nv_Taken ?iI_Taken ?kC_Taken ?eC_Taken ?tC_Taken ?hC_Taken ?zC_Taken ?sC_Taken ?xL_InvalidTurn ?sa_InvalidTurn ?ga_InvalidTurn ?gg_InvalidTurn ?nv_InvalidTurn ?iI_InvalidTurn ?kC_InvalidTurn ?eC_InvalidTurn ?tC_InvalidTurn ?hC_InvalidTurn ?zC_InvalidTurn ?sC_InvalidTurn ?tI ?l_SandError___init__ ?c_SandError___init__ ?k_SandError___init__ ?a_is_inside ?l_is_inside ?c_is_inside ?k_is_inside ?a_check_mirror ?l_check_mirror ?c_check_mirror ?k_check_mirror ?a_kinds_of ?l_kinds_of ?c_kinds_of ?k_kinds_of ?a_other_kind ?l_other_kind ?c_other_kind ?k_other_kind ?a_moved_place ?l_moved_place ?c_moved_place ?k_moved_place ?a_Board___init__ ?i_Board___init__ ?l_Board___init__ ?c_Board___init__ ?k_Board___init__ ?pa_Board_width ?pg_Board_width ?pt_Board_width ?pr_Board_width ?l_Board_width ?c_Board_width ?k_Board_width ?pa_Board_height ?pg_Board_height ?pt_Board_height ?pr_Board_height ?l_Board_height ?c_Board_height ?k_Board_height ?pa_Board_mirrors ?pg_Board_mirrors ?pt_Board_mirrors ?pr_Board_mirrors ?l_Board_mirrors ?c_Board_mirrors ?k_Board_mirrors ?a_Board___len__ ?i_Board___len__ ?l_Board___len__ ?c_Board___len__ ?k_Board___len__ ?a_Board___eq__ ?i_Board___eq__ ?l_Board___eq__ ?c_Board___eq__ ?k_Board___eq__ ?a_Board_mirror_at ?i_Board_mirror_at ?l_Board_mirror_at ?c_Board_mirror_at ?k_Board_mirror_at ?a_Board_turned ?i_Board_turned ?l_Board_turned ?c_Board_turned ?k_Board_turned ?a__law_hand ?l__law_hand ?c__law_hand ?k__law_hand ?a__law_take ?l__law_take ?c__law_take ?k__law_take ?a__law_big ?l__law_big ?c__law_big ?k__law_big ?a__law_points ?l__law_points ?c__law_points ?k__law_points ?a__law_mirrors ?l__law_mirrors ?c__law_mirrors ?k__law_mirrors ?a__law_sizes ?l__law_sizes ?c__law_sizes ?k__law_sizes ?a__law_spot ?l__law_spot ?c__law_spot ?k__law_spot ?a__law_far ?l__law_far ?c__law_far ?k__law_far ?a__law_same ?l__law_same ?c__law_same ?k__law_same ?a__law_is ?l__law_is ?c__law_is ?k__law_is ?a__law_move ?l__law_move ?c__law_move ?k__law_move ?a__law_turned ?l__law_turned ?c__law_turned ?k__law_turned ?a__law_word ?l__law_word ?c__law_word ?k__law_word ?a__law_refused ?l__law_refused ?c__law_refused ?k__law_refused ?a_law ?l_law ?c_law ?k_law ?pg_Board ?hd_Board ?po_Board ?st_Board ?mk_Board ?kc_Board ?i1_Board ?i2_Board ?i3_Board ?i4_Board ?na_Board_wide ?na_Board_high ?na_Board_kinds ?ac_KINDS ?lc_KINDS ?ac_WAYS ?lc_WAYS ?ac_EXCHANGING ?lc_EXCHANGING ?z_len ?z_int ?z_abs ?z_min ?z_range ?z_list ?z_isinstance ?z_bool ?z_str ?z_tuple ?z_sorted
    (case aC_InvalidSize => k_is)
    (case aC_InvalidPoint => k_is)
    (case aC_InvalidMirror => k_is)
    (case aC_Taken => k_is)
    (case aC_InvalidTurn => k_is)
    (case aC_Board => k_is)
    (case xL_InvalidSize => k_is)
    (case sa_InvalidSize => k_is)
    (case ga_InvalidSize => k_is)
    (case gg_InvalidSize => k_is)
    (case nv_InvalidSize => k_is)
    (case iI_InvalidSize => k_is)
    (case kC_InvalidSize => k_is)
    (case eC_InvalidSize => k_is)
    (case tC_InvalidSize => k_is)
    (case hC_InvalidSize => k_is)
    (case zC_InvalidSize => k_is)
    (case sC_InvalidSize => first | rfl | k_is)
    (case xL_InvalidPoint => k_is)
    (case sa_InvalidPoint => k_is)
    (case ga_InvalidPoint => k_is)
    (case gg_InvalidPoint => k_is)
    (case nv_InvalidPoint => k_is)
    (case iI_InvalidPoint => k_is)
    (case kC_InvalidPoint => k_is)
    (case eC_InvalidPoint => k_is)
    (case tC_InvalidPoint => k_is)
    (case hC_InvalidPoint => k_is)
    (case zC_InvalidPoint => k_is)
    (case sC_InvalidPoint => first | rfl | k_is)
    (case xL_InvalidMirror => k_is)
    (case sa_InvalidMirror => k_is)
    (case ga_InvalidMirror => k_is)
    (case gg_InvalidMirror => k_is)
    (case nv_InvalidMirror => k_is)
    (case iI_InvalidMirror => k_is)
    (case kC_InvalidMirror => k_is)
    (case eC_InvalidMirror => k_is)
    (case tC_InvalidMirror => k_is)
    (case hC_InvalidMirror => k_is)
    (case zC_InvalidMirror => k_is)
    (case sC_InvalidMirror => first | rfl | k_is)
    (case xL_Taken => k_is)
    (case sa_Taken => k_is)
    (case ga_Taken => k_is)
    (case gg_Taken => k_is)
    (case nv_Taken => k_is)
    (case iI_Taken => k_is)
    (case kC_Taken => k_is)
    (case eC_Taken => k_is)
    (case tC_Taken => k_is)
    (case hC_Taken => k_is)
    (case zC_Taken => k_is)
    (case sC_Taken => first | rfl | k_is)
    (case xL_InvalidTurn => k_is)
    (case sa_InvalidTurn => k_is)
    (case ga_InvalidTurn => k_is)
    (case gg_InvalidTurn => k_is)
    (case nv_InvalidTurn => k_is)
    (case iI_InvalidTurn => k_is)
    (case kC_InvalidTurn => k_is)
    (case eC_InvalidTurn => k_is)
    (case tC_InvalidTurn => k_is)
    (case hC_InvalidTurn => k_is)
    (case zC_InvalidTurn => k_is)
    (case sC_InvalidTurn => first | rfl | k_is)
    (case tI => k_is)
    (case l_SandError___init__ => k_is)
    (case c_SandError___init__ => k_is)
    (case k_SandError___init__ => k_is)
    (case a_is_inside => k_is)
    (case l_is_inside => k_is)
    (case c_is_inside => k_is)
    (case k_is_inside => k_is)
    (case a_check_mirror => k_is)
    (case l_check_mirror => k_is)
    (case c_check_mirror => k_is)
    (case k_check_mirror => k_is)
    (case a_kinds_of => k_is)
    (case l_kinds_of => k_is)
    (case c_kinds_of => k_is)
    (case k_kinds_of => k_is)
    (case a_other_kind => k_is)
    (case l_other_kind => k_is)
    (case c_other_kind => k_is)
    (case k_other_kind => k_is)
    (case a_moved_place => k_is)
    (case l_moved_place => k_is)
    (case c_moved_place => k_is)
    (case k_moved_place => k_is)
    (case a_Board___init__ => k_is)
    (case i_Board___init__ => k_is)
    (case l_Board___init__ => k_is)
    (case c_Board___init__ => k_is)
    (case k_Board___init__ => k_is)
    (case pa_Board_width => k_is)
    (case pg_Board_width => k_is)
    (case pt_Board_width => k_is)
    (case pr_Board_width => k_is)
    (case l_Board_width => k_is)
    (case c_Board_width => k_is)
    (case k_Board_width => k_is)
    (case pa_Board_height => k_is)
    (case pg_Board_height => k_is)
    (case pt_Board_height => k_is)
    (case pr_Board_height => k_is)
    (case l_Board_height => k_is)
    (case c_Board_height => k_is)
    (case k_Board_height => k_is)
    (case pa_Board_mirrors => k_is)
    (case pg_Board_mirrors => k_is)
    (case pt_Board_mirrors => k_is)
    (case pr_Board_mirrors => k_is)
    (case l_Board_mirrors => k_is)
    (case c_Board_mirrors => k_is)
    (case k_Board_mirrors => k_is)
    (case a_Board___len__ => k_is)
    (case i_Board___len__ => k_is)
    (case l_Board___len__ => k_is)
    (case c_Board___len__ => k_is)
    (case k_Board___len__ => k_is)
    (case a_Board___eq__ => k_is)
    (case i_Board___eq__ => k_is)
    (case l_Board___eq__ => k_is)
    (case c_Board___eq__ => k_is)
    (case k_Board___eq__ => k_is)
    (case a_Board_mirror_at => k_is)
    (case i_Board_mirror_at => k_is)
    (case l_Board_mirror_at => k_is)
    (case c_Board_mirror_at => k_is)
    (case k_Board_mirror_at => k_is)
    (case a_Board_turned => k_is)
    (case i_Board_turned => k_is)
    (case l_Board_turned => k_is)
    (case c_Board_turned => k_is)
    (case k_Board_turned => k_is)
    (case a__law_hand => k_is)
    (case l__law_hand => k_is)
    (case c__law_hand => k_is)
    (case k__law_hand => k_is)
    (case a__law_take => k_is)
    (case l__law_take => k_is)
    (case c__law_take => k_is)
    (case k__law_take => k_is)
    (case a__law_big => k_is)
    (case l__law_big => k_is)
    (case c__law_big => k_is)
    (case k__law_big => k_is)
    (case a__law_points => k_is)
    (case l__law_points => k_is)
    (case c__law_points => k_is)
    (case k__law_points => k_is)
    (case a__law_mirrors => k_is)
    (case l__law_mirrors => k_is)
    (case c__law_mirrors => k_is)
    (case k__law_mirrors => k_is)
    (case a__law_sizes => k_is)
    (case l__law_sizes => k_is)
    (case c__law_sizes => k_is)
    (case k__law_sizes => k_is)
    (case a__law_spot => k_is)
    (case l__law_spot => k_is)
    (case c__law_spot => k_is)
    (case k__law_spot => k_is)
    (case a__law_far => k_is)
    (case l__law_far => k_is)
    (case c__law_far => k_is)
    (case k__law_far => k_is)
    (case a__law_same => k_is)
    (case l__law_same => k_is)
    (case c__law_same => k_is)
    (case k__law_same => k_is)
    (case a__law_is => k_is)
    (case l__law_is => k_is)
    (case c__law_is => k_is)
    (case k__law_is => k_is)
    (case a__law_move => k_is)
    (case l__law_move => k_is)
    (case c__law_move => k_is)
    (case k__law_move => k_is)
    (case a__law_turned => k_is)
    (case l__law_turned => k_is)
    (case c__law_turned => k_is)
    (case k__law_turned => k_is)
    (case a__law_word => k_is)
    (case l__law_word => k_is)
    (case c__law_word => k_is)
    (case k__law_word => k_is)
    (case a__law_refused => k_is)
    (case l__law_refused => k_is)
    (case c__law_refused => k_is)
    (case k__law_refused => k_is)
    (case a_law => k_is)
    (case l_law => k_is)
    (case c_law => k_is)
    (case k_law => k_is)
    (case pg_Board => k_is)
    (case hd_Board => k_is)
    (case po_Board => k_is)
    (case st_Board => k_is)
    (case mk_Board => k_is)
    (case kc_Board => k_is)
    (case i1_Board => k_is)
    (case i2_Board => k_is)
    (case i3_Board => k_is)
    (case i4_Board => k_is)
    (case na_Board_wide => k_is)
    (case na_Board_high => k_is)
    (case na_Board_kinds => k_is)
    (case ac_KINDS => k_is)
    (case lc_KINDS => k_is)
    (case ac_WAYS => k_is)
    (case lc_WAYS => k_is)
    (case ac_EXCHANGING => k_is)
    (case lc_EXCHANGING => k_is)
    (case z_len => k_is)
    (case z_int => k_is)
    (case z_abs => k_is)
    (case z_min => k_is)
    (case z_range => k_is)
    (case z_list => k_is)
    (case z_isinstance => k_is)
    (case z_bool => k_is)
    (case z_str => k_is)
    (case z_tuple => k_is)
    (case z_sorted => k_is)
