import PyProof.Rows.All
import Wide.All
import OpenK.AllK
import Wide.FinOn
import HandS.ForMost
import HandS.ForExc
import HandS.IsInst
import HandS.ExcIs
import HandS.TryMany
import HandS.SortInts
import HandS.Evl
import HandS.Conv
import HandS.HotCalls
import HandS.Deep
import PySem.Challenge.RW_twinsum_k02_ledger_gives
set_option Elab.async false
set_option linter.all false
set_option maxRecDepth 100000
set_option maxHeartbeats 4000000
namespace Ts
open PySem L2
/-! ### heaps -/
abbrev Ex := Evl.Ex
theorem ex_refl {H : Hp} : Ex H H := Evl.Ex.refl H
theorem ex_new {H H' : Hp} {p : Addr} {o : HO} (e : Ex H H') (h : H' p = none) : Ex H (upd H' p o) := e.trans (Evl.Ex.new h)
theorem ex_mut {H H' : Hp} {p : Addr} {o : HO} (e : Ex H H') (h : H p = none) : Ex H (upd H' p o) := Evl.Ex.mut e h
theorem ex_free {H H' : Hp} {p : Addr} (e : Ex H H') (h : H' p = none) : H p = none := Evl.fresh_back e h
theorem sz100 {n : Nat} (h : n ≤ 100) : n ≤ sizeLine := Nat.le_trans h (by decide)
theorem szM {n : Nat} (h : n ≤ 1000000) : n ≤ sizeLine := Nat.le_trans h (by decide)
theorem szL {n : Nat} (h : n < 1000000) : n < sizeLine := Nat.lt_of_lt_of_le h (by decide)

/-! ### operators of any kind -/
def rAddI : R2 := rI0 fun i j => .int (i + j)
def rAddS : R2 := fun x y H Q => ∃ i j, x = .str i ∧ y = .str j ∧ i.length + j.length ≤ sizeLine ∧ Q (.str (i ++ j)) H
def rAddU : R2 := fun x y H Q => rAddI x y H Q ∨ rAddS x y H Q ∨ rCat x y H Q
theorem op_addU {X : Cx} : OpR X (binaryOp .Add) rAddU := op_add.or (op_add_str.or op_cat)
def rSubI : R2 := rI0 fun i j => .int (i - j)
theorem op_sub1 {X : Cx} : OpR X (binaryOp .Sub) rSubI := op_sub
def rMul : R2 := rI CMul fun i j => .int (i * j)
theorem op_mul1 {X : Cx} : OpR X (binaryOp .Mult) rMul := op_mul
def rDiv : R2 := rI CDiv fun i j => .int (i / j)
theorem op_div1 {X : Cx} : OpR X (binaryOp .FloorDiv) rDiv := op_fdiv
def rMod : R2 := rI (fun _ j => 0 < j) fun i j => .int (i % j)
theorem op_mod1 {X : Cx} : OpR X (binaryOp .Mod) rMod := op_mod
def rPow : R2 := rI CPow fun i j => .int (i ^ j.toNat)
theorem op_pow1 {X : Cx} : OpR X (binaryOp .Pow) rPow := op_pow
def rLt : R2 := rI0 fun i j => .bl (decide (i < j))
def rLe : R2 := rI0 fun i j => .bl (decide (i ≤ j))
def rGt : R2 := rI0 fun i j => .bl (decide (j < i))
def rGe : R2 := rI0 fun i j => .bl (decide (j ≤ i))
theorem op_lt1 {X : Cx} : OpR X (compareOp .Lt) rLt := op_lt
theorem op_le1 {X : Cx} : OpR X (compareOp .LtE) rLe := op_le
theorem op_gt1 {X : Cx} : OpR X (compareOp .Gt) rGt := op_gt
theorem op_ge1 {X : Cx} : OpR X (compareOp .GtE) rGe := op_ge
def rEqU (K : PySem.W.Frag) : R2 := fun x y H Q => rEq x y H Q ∨ rEqD K x y H Q
def rNeU (K : PySem.W.Frag) : R2 := fun x y H Q => rNe x y H Q ∨ rNeD K x y H Q
theorem op_eqU {X : Cx} (hu : X.A.units + 64 < cLine) : OpR X (compareOp .Eq) (rEqU X.K) := op_eq.or (op_eqD hu)
theorem op_neU {X : Cx} (hu : X.A.units + 64 < cLine) : OpR X (compareOp .NotEq) (rNeU X.K) := op_ne.or (op_neD hu)
def rIsN : R2 := fun x y H Q => y = .non ∧ Q (.bl (decide (x = .non))) H
def rNotN : R2 := fun x y H Q => y = .non ∧ Q (.bl (!decide (x = .non))) H
theorem op_isN1 {X : Cx} : OpR X (compareOp .Is) rIsN := op_isN
theorem op_notN1 {X : Cx} : OpR X (compareOp .IsNot) rNotN := op_notN
def rLen (K : PySem.W.Frag) : List V → Hp → VK → Prop := fun xs H Q => ∃ x n, xs = [x] ∧ LenV K x H n ∧ Q (.int (n : Nat)) H
theorem call_len1 {X : Cx} : CallR X (.builtin "len") (rLen X.K) := call_len
def rMax : List V → Hp → VK → Prop := fun xs H Q => ∃ i j, xs = [.int i, .int j] ∧ Q (.int (if j > i then j else i)) H
def rMin : List V → Hp → VK → Prop := fun xs H Q => ∃ i j, xs = [.int i, .int j] ∧ Q (.int (if j < i then j else i)) H
theorem call_max1 {X : Cx} (hc : X.calm = true) : CallR X (.builtin "max") rMax := call_max2 hc
theorem call_min1 {X : Cx} (hc : X.calm = true) : CallR X (.builtin "min") rMin := call_min2 hc
def rListOf (K : PySem.W.Frag) : List V → Hp → VK → Prop := fun xs H Q => ∃ p ys, xs = [.ref p] ∧ (SqL K H p ys ∨ SqT K H p ys) ∧ ∀ l, H l = none → Q (.ref l) (upd H l (.lst ys))
theorem call_list1 {X : Cx} : CallR X (.type "list") (rListOf X.K) := call_list_of
def rInt1 : List V → Hp → VK → Prop := fun xs H Q => (∃ i, xs = [.int i] ∧ Q (.int i) H) ∨ ∃ k, xs = [.bl k] ∧ Q (.int (if k then 1 else 0)) H
theorem call_int2 {X : Cx} : CallR X (.type "int") rInt1 := call_int1
def rStr1 : List V → Hp → VK → Prop := fun xs H Q => ∃ i, xs = [.int i] ∧ i.natAbs.log2 < 1920 ∧ Q (.str (toString i)) H
theorem call_str1 {X : Cx} : CallR X (.type "str") rStr1 := call_str_int
def rSlU (K : PySem.W.Frag) : V → Option Int → Option Int → Hp → VK → Prop := fun x lo hi H Q => rSlL K x lo hi H Q ∨ rSlS x lo hi H Q
theorem sl_U {X : Cx} : SlR X (rSlU X.K) := by
  intro pins s σ H x v vl vu lo hi sl Q I rx hs pl pu h
  rcases h with h | h
  · exact sl_list pins s σ H x v vl vu lo hi sl Q I rx hs pl pu h
  · exact sl_str pins s σ H x v vl vu lo hi sl Q I rx hs pl pu h

/-! ### steps: expressions -/
section
variable {K : PySem.W.Frag} {σ : St} {H : Hp} {Q : VK} {QT : Bool → Hp → Prop} {QA : List V → Hp → Prop} {v x y : V} {ta tb tc te : TE} {t u : TT} {r r' : R2}
theorem w_c (q : Q v H) : tC v σ H Q := q
theorem w_op (q : ta σ H fun x H1 => tb σ H1 fun y H2 => r x y H2 Q) : tOp r ta tb σ H Q := q
theorem w_un {r : V → Hp → VK → Prop} (q : ta σ H fun x H1 => r x H1 Q) : tUn r ta σ H Q := q
theorem w_neg {i : Int} (q : Q (.int (-i)) H) : rU (fun i => .int (-i)) (.int i) H Q := ⟨i, rfl, q⟩
theorem w_test (q : te σ H fun x H' => ∃ k, x = .bl k ∧ QT k H') : tTest te σ H QT := q
theorem w_tB (q : te σ H fun x H' => ∃ k, x = .bl k ∧ QT k H') : tB te σ H QT := q
theorem w_bl {b : Bool} {P : Bool → Prop} (q : P b) : ∃ k, V.bl b = .bl k ∧ P k := ⟨b, rfl, q⟩
theorem w_chain (q : ta σ H fun x H1 => tb σ H1 fun y H2 => r x y H2 fun z H3 => ∃ k, z = .bl k ∧ (if k = true then tc σ H3 fun w' H4 => r' y w' H4 Q else Q (.bl false) H3)) : tChain r r' ta tb tc σ H Q := q
theorem w_and (q : t σ H fun c H1 => if c = true then u σ H1 QT else QT false H1) : tAnd t u σ H QT := q
theorem w_or (q : t σ H fun c H1 => if c = true then QT true H1 else u σ H1 QT) : tOr t u σ H QT := q
theorem w_not (q : t σ H fun c H1 => QT (!c) H1) : tNot t σ H QT := q
theorem w_andV (q : ta σ H fun x H1 => ∃ c, x = .bl c ∧ if c = true then tb σ H1 Q else Q (.bl false) H1) : tAndV ta tb σ H Q := q
theorem w_orV (q : ta σ H fun x H1 => ∃ c, x = .bl c ∧ if c = true then Q (.bl true) H1 else tb σ H1 Q) : tOrV ta tb σ H Q := q
theorem w_notV (q : ta σ H fun x H1 => ∃ c, x = .bl c ∧ Q (.bl (!c)) H1) : tNotV ta σ H Q := q
theorem w_nil (q : QA [] H) : tNil σ H QA := q
theorem w_cons {tr : TA} (q : ta σ H fun x H1 => tr σ H1 fun xs H2 => QA (x :: xs) H2) : tCons ta tr σ H QA := q
theorem w_tup {tt : TA} (q : tt σ H fun xs H1 => xs.length ≤ sizeLine ∧ ∀ p, H1 p = none → Q (.ref p) (upd H1 p (.tup xs))) : tTup tt σ H Q := q
theorem w_lst {tt : TA} (q : tt σ H fun xs H1 => xs.length ≤ sizeLine ∧ ∀ p, H1 p = none → Q (.ref p) (upd H1 p (.lst xs))) : tLst tt σ H Q := q
theorem w_CB {r : List V → Hp → VK → Prop} {tt : TA} (q : tt σ H fun vs H1 => r vs H1 Q) : tCB r tt σ H Q := q
theorem w_call {sp : Sp} {E : XK} {tt : TA} (q : tt σ H fun vs H1 => sp vs H1 Q E) : tCall sp [] E tt σ H Q := by
  unfold tCall
  have e : (fun (vs : List V) (H1 : Hp) => sp (vs ++ []) H1 Q E) = fun vs H1 => sp vs H1 Q E := by funext vs H1; rw [List.append_nil]
  rw [e]
  exact q
theorem w_meth {C : Addr} {m : Str} {sp : Sp} {E : XK} {tt : TA} (q : ta σ H fun x H1 => ∃ a dx fs, x = .ref a ∧ H1 a = some (.ins C dx fs) ∧ fs.lookup m = none ∧ tt σ H1 fun vs H2 => sp (x :: vs) H2 Q E) : tMeth C m sp [] E ta tt σ H Q := by
  unfold tMeth
  have e : ∀ x : V, (fun (vs : List V) (H1 : Hp) => sp (x :: (vs ++ [])) H1 Q E) = fun vs H1 => sp (x :: vs) H1 Q E := fun x => by funext vs H1; rw [List.append_nil]
  simp only [e]
  exact q
theorem w_methAt {C a dx : Addr} {fs : List (Str × V)} {m : Str} {P : Prop} (h : H a = some (.ins C dx fs)) (hl : fs.lookup m = none) (q : P) : ∃ b dx fs, V.ref a = .ref b ∧ H b = some (.ins C dx fs) ∧ fs.lookup m = none ∧ P := ⟨a, dx, fs, rfl, h, hl, q⟩
theorem w_make {C : Addr} {sp : Sp} {E : XK} {tt : TA} (q : tt σ H fun vs H1 => ∀ x dx, H1 x = none → H1 dx = none → dx ≠ x → sp (.ref x :: vs) (upd (upd H1 dx (.own x)) x (.ins C dx [])) (fun v H2 => v = .non ∧ Q (.ref x) H2) E) : tMake C sp [] E tt σ H Q := by
  unfold tMake
  have e : ∀ vs : List V, vs ++ [] = vs := fun vs => List.append_nil vs
  simp only [e]
  exact q
theorem w_callS {sp : Sp} {E : St → XK} {tt : TA} (q : tt σ H fun vs H1 => sp vs H1 Q (E σ)) : tCallS sp E tt σ H Q := q
theorem w_fld {f : Str} (q : ta σ H fun x H1 => ∃ a C dx fs v, x = .ref a ∧ H1 a = some (.ins C dx fs) ∧ Cls K C ∧ NoAttr K C f ∧ fs.lookup f = some v ∧ Q v H1) : tFld K ta f σ H Q := q
theorem w_fldAt {a C dx : Addr} {fs : List (Str × V)} {f : Str} {P : V → Prop} (h : H a = some (.ins C dx fs)) (hc : Cls K C) (hn : NoAttr K C f) (hl : fs.lookup f = some v) (q : P v) : ∃ b C dx fs v, V.ref a = .ref b ∧ H b = some (.ins C dx fs) ∧ Cls K C ∧ NoAttr K C f ∧ fs.lookup f = some v ∧ P v := ⟨a, C, dx, fs, v, rfl, h, hc, hn, hl, q⟩
theorem w_bm0 {T : String} {r : V → List V → Hp → VK → Prop} (q : ta σ H fun x H1 => tyV K T x H1 ∧ r x [] H1 Q) : tBM0 K T r ta σ H Q := q
theorem w_bm {T : String} {r : V → List V → Hp → VK → Prop} {tt : TA} (q : ta σ H fun x H1 => tyV K T x H1 ∧ tt σ H1 fun xs H2 => r x xs H2 Q) : tBM K T r ta tt σ H Q := q
theorem w_tyL {a : Addr} {xs : List V} (h : SqL K H a xs) : tyV K "list" (.ref a) H := Or.inl ⟨rfl, xs, h⟩
theorem w_sl {r : V → Option Int → Option Int → Hp → VK → Prop} {tl th : TO} (q : ta σ H fun x H1 => tl σ H1 fun l H2 => th σ H2 fun u H3 => r x l u H3 Q) : tSl r ta tl th σ H Q := q

/-! values -/
theorem w_addI {i j : Int} (q : Q (.int (i + j)) H) : rAddU (.int i) (.int j) H Q := .inl ⟨i, j, rfl, rfl, q⟩
theorem w_addS {i j : Str} (h : i.length + j.length ≤ sizeLine) (q : Q (.str (i ++ j)) H) : rAddU (.str i) (.str j) H Q := .inr (.inl ⟨i, j, rfl, rfl, h, q⟩)
theorem w_addL {a b : Addr} {xs ys : List V} (ha : H a = some (.lst xs)) (hb : H b = some (.lst ys)) (h : xs.length + ys.length ≤ sizeLine) (q : ∀ p, H p = none → Q (.ref p) (upd H p (.lst (xs ++ ys)))) : rAddU (.ref a) (.ref b) H Q := .inr (.inr ⟨a, b, xs, ys, rfl, rfl, ha, hb, h, q⟩)
theorem w_sub {i j : Int} (q : Q (.int (i - j)) H) : rSubI (.int i) (.int j) H Q := ⟨i, j, rfl, rfl, q⟩
theorem w_mul {i j : Int} (h : CMul i j) (q : Q (.int (i * j)) H) : rMul (.int i) (.int j) H Q := ⟨i, j, rfl, rfl, h, q⟩
theorem w_div {i j : Int} (h : 0 < j) (h' : j < 1073741824) (q : Q (.int (i / j)) H) : rDiv (.int i) (.int j) H Q := ⟨i, j, rfl, rfl, ⟨h, h'⟩, q⟩
theorem w_mod {i j : Int} (h : 0 < j) (q : Q (.int (i % j)) H) : rMod (.int i) (.int j) H Q := ⟨i, j, rfl, rfl, h, q⟩
theorem w_pow {i j : Int} (h : CPow i j) (q : Q (.int (i ^ j.toNat)) H) : rPow (.int i) (.int j) H Q := ⟨i, j, rfl, rfl, h, q⟩
theorem w_lt {i j : Int} (q : Q (.bl (decide (i < j))) H) : rLt (.int i) (.int j) H Q := ⟨i, j, rfl, rfl, q⟩
theorem w_le {i j : Int} (q : Q (.bl (decide (i ≤ j))) H) : rLe (.int i) (.int j) H Q := ⟨i, j, rfl, rfl, q⟩
theorem w_gt {i j : Int} (q : Q (.bl (decide (j < i))) H) : rGt (.int i) (.int j) H Q := ⟨i, j, rfl, rfl, q⟩
theorem w_ge {i j : Int} (q : Q (.bl (decide (j ≤ i))) H) : rGe (.int i) (.int j) H Q := ⟨i, j, rfl, rfl, q⟩
theorem dec_ii {i j : Int} : decide (V.int i = V.int j) = decide (i = j) := by rw [decide_eq_decide]; exact ⟨fun h => V.int.inj h, fun h => h ▸ rfl⟩
theorem dec_ss {i j : Str} : decide (V.str i = V.str j) = decide (i = j) := by rw [decide_eq_decide]; exact ⟨fun h => V.str.inj h, fun h => h ▸ rfl⟩
theorem w_eqI {i j : Int} (q : Q (.bl (decide (i = j))) H) : rEqU K (.int i) (.int j) H Q := .inl ⟨rfl, by rw [dec_ii]; exact q⟩
theorem w_neI {i j : Int} (q : Q (.bl (!decide (i = j))) H) : rNeU K (.int i) (.int j) H Q := .inl ⟨rfl, by rw [dec_ii]; exact q⟩
theorem w_eqS {i j : Str} (q : Q (.bl (decide (i = j))) H) : rEqU K (.str i) (.str j) H Q := .inl ⟨rfl, by rw [dec_ss]; exact q⟩
theorem w_neS {i j : Str} (q : Q (.bl (!decide (i = j))) H) : rNeU K (.str i) (.str j) H Q := .inl ⟨rfl, by rw [dec_ss]; exact q⟩
theorem w_eqD {d e : PyData} (hx : Dp K H x d) (hy : Dp K H y e) (hd : SeqAt.shaped d = true) (he : SeqAt.shaped e = true) (q : Q (.bl (PyData.eqv d e)) H) : rEqU K x y H Q := .inr ⟨d, e, hx, hy, hd, he, q⟩
theorem w_neD {d e : PyData} (hx : Dp K H x d) (hy : Dp K H y e) (hd : SeqAt.shaped d = true) (he : SeqAt.shaped e = true) (q : Q (.bl (!PyData.eqv d e)) H) : rNeU K x y H Q := .inr ⟨d, e, hx, hy, hd, he, q⟩
theorem w_isN (q : Q (.bl (decide (x = .non))) H) : rIsN x .non H Q := ⟨rfl, q⟩
theorem w_notN (q : Q (.bl (!decide (x = .non))) H) : rNotN x .non H Q := ⟨rfl, q⟩
theorem w_lenL {a : Addr} {xs : List V} (h : SqL K H a xs) (q : Q (.int (xs.length : Nat)) H) : rLen K [.ref a] H Q := ⟨.ref a, xs.length, rfl, Or.inl ⟨xs, h, rfl⟩, q⟩
theorem w_lenT {a : Addr} {xs : List V} (h : SqT K H a xs) (q : Q (.int (xs.length : Nat)) H) : rLen K [.ref a] H Q := ⟨.ref a, xs.length, rfl, Or.inr ⟨xs, h, rfl⟩, q⟩
theorem w_lenS {z : Str} (h : z.length ≤ sizeLine) (q : Q (.int (z.length : Nat)) H) : rLen K [.str z] H Q := ⟨.str z, z.length, rfl, ⟨h, rfl⟩, q⟩
theorem w_max {i j : Int} (q : Q (.int (if j > i then j else i)) H) : rMax [.int i, .int j] H Q := ⟨i, j, rfl, q⟩
theorem w_min {i j : Int} (q : Q (.int (if j < i then j else i)) H) : rMin [.int i, .int j] H Q := ⟨i, j, rfl, q⟩
theorem w_intI {i : Int} (q : Q (.int i) H) : rInt1 [.int i] H Q := .inl ⟨i, rfl, q⟩
theorem w_intB {k : Bool} (q : Q (.int (if k then 1 else 0)) H) : rInt1 [.bl k] H Q := .inr ⟨k, rfl, q⟩
theorem w_str {i : Int} (h : i.natAbs.log2 < 1920) (q : Q (.str (toString i)) H) : rStr1 [.int i] H Q := ⟨i, rfl, h, q⟩
theorem w_listL {a : Addr} {xs : List V} (h : SqL K H a xs) (q : ∀ l, H l = none → Q (.ref l) (upd H l (.lst xs))) : rListOf K [.ref a] H Q := ⟨a, xs, rfl, .inl h, q⟩
theorem w_ixL {a : Addr} {xs : List V} {i : Int} (h : SqL K H a xs) (ha : atI xs i = some v) (q : Q v H) : rIx K (.ref a) (.int i) H Q := .inl ⟨a, xs, i, v, rfl, rfl, h, ha, q⟩
theorem w_ixT {a : Addr} {xs : List V} {i : Int} (h : SqT K H a xs) (ha : atI xs i = some v) (q : Q v H) : rIx K (.ref a) (.int i) H Q := .inr (.inl ⟨a, xs, i, v, rfl, rfl, h, ha, q⟩)
theorem w_ixS {z : Str} {i : Int} {c : Nat} (hz : z.length ≤ sizeLine) (ha : atI z.cps.toList i = some c) (q : Q (.str ⟨#[c]⟩) H) : rIx K (.str z) (.int i) H Q := .inr (.inr ⟨z, i, c, rfl, rfl, hz, ha, q⟩)
theorem atI_lt {α : Type} {xs : List α} {i : Int} (h0 : 0 ≤ i) (h1 : i < xs.length) : ∃ v, v ∈ xs ∧ atI xs i = some v := by
  have hj : i.toNat < xs.length := by omega
  have e : i = (i.toNat : Int) := by omega
  refine ⟨xs[i.toNat], List.getElem_mem hj, ?_⟩
  have z := atI_nat (List.getElem?_eq_getElem hj)
  rw [← e] at z
  exact z
/-- an item of a menu: any of them -/
theorem w_ixAny {a : Addr} {xs : List V} {i : Int} (h : SqL K H a xs) (h0 : 0 ≤ i) (h1 : i < xs.length) (q : ∀ v, v ∈ xs → Q v H) : rIx K (.ref a) (.int i) H Q := by
  obtain ⟨v, hv, e⟩ := atI_lt h0 h1
  exact w_ixL h e (q v hv)
theorem w_slL {a : Addr} {xs : List V} {lo hi : Option Int} (h : SqL K H a xs) (q : ∀ p, H p = none → Q (.ref p) (upd H p (.lst (cutV xs lo hi)))) : rSlU K (.ref a) lo hi H Q := .inl ⟨a, xs, rfl, h, q⟩
theorem w_slS {z : Str} {lo hi : Option Int} (h : z.length ≤ sizeLine) (q : Q (.str (cutS z lo hi)) H) : rSlU K (.str z) lo hi H Q := .inr ⟨z, rfl, h, q⟩
theorem w_app {l : Addr} {xs : List V} (h : H l = some (.lst xs)) (hz : xs.length < sizeLine) (q : Q .non (upd H l (.lst (xs ++ [y])))) : rAppend (.ref l) [y] H Q := ⟨l, xs, y, rfl, rfl, h, hz, q⟩
theorem w_pop {l : Addr} {xs : List V} (h : H l = some (.lst xs)) (hz : xs[xs.length - 1]? = some y) (q : Q y (upd H l (.lst xs.dropLast))) : rPop (.ref l) [] H Q := ⟨l, xs, y, rfl, rfl, h, hz, q⟩
theorem isi_ty {n m : String} {b : Bool} (ty : TyX K H x (.type n)) (h : kitB n m = some b) (q : Q (.bl b) H) : rIsi K [x, .ty m] H Q := ⟨x, .ty m, .type n, .type m, b, rfl, .ty m, ty, kit_ty h, q⟩
end
/-! tests -/
theorem ite_d {p A B : Prop} [Decidable p] (h1 : p → A) (h2 : ¬ p → B) : if decide p = true then A else B := by
  by_cases h : p
  · rw [if_pos (decide_eq_true h)]; exact h1 h
  · rw [if_neg (by rw [decide_eq_false h]; exact Bool.false_ne_true)]; exact h2 h
theorem ite_nd {p A B : Prop} [Decidable p] (h1 : ¬ p → A) (h2 : p → B) : if (!decide p) = true then A else B := by
  by_cases h : p
  · rw [if_neg (by rw [decide_eq_true h]; decide)]; exact h2 h
  · rw [if_pos (by rw [decide_eq_false h]; rfl)]; exact h1 h
theorem ite_b {b : Bool} {A B : Prop} (h1 : b = true → A) (h2 : b = false → B) : if b = true then A else B := by
  cases b with
  | true => rw [if_pos rfl]; exact h1 rfl
  | false => rw [if_neg Bool.false_ne_true]; exact h2 rfl
theorem ite_nb {b : Bool} {A B : Prop} (h1 : b = false → A) (h2 : b = true → B) : if (!b) = true then A else B := by
  cases b with
  | false => exact h1 rfl
  | true => exact h2 rfl

/-! ### steps: statements -/
section
variable {K : PySem.W.Frag} {σ : St} {H : Hp} {t u : TS} {te : TE} {c : TT} {g : TG} {nx bk ct : St → Hp → Prop} {rt : VK}
theorem w_seq (q : t ⟨fun σ' H' => u ⟨nx, rt, bk, ct⟩ σ' H', rt, bk, ct⟩ σ H) : tSeq t u ⟨nx, rt, bk, ct⟩ σ H := q
theorem w_next (q : nx σ H) : tNext ⟨nx, rt, bk, ct⟩ σ H := q
theorem w_break (q : bk σ H) : tBreak ⟨nx, rt, bk, ct⟩ σ H := q
theorem w_cont (q : ct σ H) : tCont ⟨nx, rt, bk, ct⟩ σ H := q
theorem w_asg (q : te σ H fun x H1 => g x σ H1 nx) : tAsg te g ⟨nx, rt, bk, ct⟩ σ H := q
theorem w_ret (q : te σ H rt) : tRet te ⟨nx, rt, bk, ct⟩ σ H := q
theorem w_retN (q : rt .non H) : tRetN ⟨nx, rt, bk, ct⟩ σ H := q
theorem w_drop (q : te σ H fun _ H1 => nx σ H1) : tDrop te ⟨nx, rt, bk, ct⟩ σ H := q
theorem w_if (q : c σ H fun b H1 => if b = true then t ⟨nx, rt, bk, ct⟩ σ H1 else u ⟨nx, rt, bk, ct⟩ σ H1) : tIfS c t u ⟨nx, rt, bk, ct⟩ σ H := q
theorem w_cut {Mid : St → Hp → Prop} (h : t ⟨Mid, rt, bk, ct⟩ σ H) (k : ∀ σ' H', Mid σ' H' → u ⟨nx, rt, bk, ct⟩ σ' H') : Evl.tCut t u ⟨nx, rt, bk, ct⟩ σ H := ⟨Mid, h, k⟩
theorem w_sfld {ta tv : TE} {f : Str} (q : tv σ H fun y H1 => ta σ H1 fun x H2 => ∃ a C dx fs, x = .ref a ∧ H2 a = some (.ins C dx fs) ∧ Cls K C ∧ NoAttr K C f ∧ fs.length < 1000 ∧ nx σ (upd H2 a (.ins C dx (putF f y fs)))) : sFld K ta tv f ⟨nx, rt, bk, ct⟩ σ H := q
theorem w_sfldAt {a C dx : Addr} {fs : List (Str × V)} {f : Str} {R : Addr → Addr → Addr → List (Str × V) → Prop} (h : H a = some (.ins C dx fs)) (hc : Cls K C) (hn : NoAttr K C f) (hl : fs.length < 1000) (q : R a C dx fs) : ∃ b C dx fs, V.ref a = .ref b ∧ H b = some (.ins C dx fs) ∧ Cls K C ∧ NoAttr K C f ∧ fs.length < 1000 ∧ R b C dx fs := ⟨a, C, dx, fs, rfl, h, hc, hn, hl, q⟩
theorem w_gSub {to ti : TE} {ts : TSet} {v : V} {R : St → Hp → Prop} (q : to σ H fun o H1 => ti σ H1 fun i H2 => ts o i v H2 fun H3 => R σ H3) : gSub to ti ts v σ H R := q
theorem w_gTup {n : Nat} {tg : TGs} {a : Addr} {xs : List V} {R : St → Hp → Prop} (h : SqT K H a xs) (hl : xs.length = n) (q : tg xs σ H R) : gTup K n tg (.ref a) σ H R := ⟨a, xs, rfl, h, hl, q⟩
theorem w_gCons {tg : TG} {us : TGs} {v : V} {r : List V} {R : St → Hp → Prop} (q : tg v σ H fun σ' H' => us r σ' H' R) : gCons tg us (v :: r) σ H R := ⟨v, r, rfl, q⟩
theorem w_gNil {R : St → Hp → Prop} (q : R σ H) : gNil [] σ H R := ⟨rfl, q⟩
/-- a loop's word: what a for asks behind its iterator -/
def LB (g : TG) (t : TS) (nx : St → Hp → Prop) (rt : VK) (σ : St) (J : It) (H1 : Hp) : Prop := ∃ W : Nat → Nat → St → Hp → Prop, (∃ m, W 0 m σ H1) ∧ ∀ i m σ H, W i m σ H →
  (J.stop i H ∧ nx σ H) ∨ (J.go i H ∧ ∃ N : St → Hp → Prop, (∀ σ' H', N σ' H' → ∃ m', m' < m ∧ W (i + 1) m' σ' H') ∧ ∀ x H', J.yld i H x H' → g x σ H' fun σ2 H2 => t ⟨N, rt, nx, N⟩ σ2 H2)
theorem w_for {wi : TI} (q : wi σ H fun J H1 => LB g t nx rt σ J H1) : tFor wi g t ⟨nx, rt, bk, ct⟩ σ H := q
theorem w_iR1 {ta : TA} {R : It → Hp → Prop} (q : ta σ H fun vs H1 => ∃ j : Int, vs = [.int j] ∧ -(2 ^ 62) ≤ j ∧ j < 2 ^ 62 ∧ R (Itr 0 j.toNat) H1) : iRng1 ta σ H R := q
theorem w_iR1v {n : Int} {R : It → Hp → Prop} (h1 : -(2 ^ 62) ≤ n) (h2 : n < 2 ^ 62) (q : R (Itr 0 n.toNat) H) : ∃ j : Int, [V.int n] = [.int j] ∧ -(2 ^ 62) ≤ j ∧ j < 2 ^ 62 ∧ R (Itr 0 j.toNat) H := ⟨n, rfl, h1, h2, q⟩
theorem w_iR2 {ta : TA} {R : It → Hp → Prop} (q : ta σ H fun vs H1 => ∃ i j : Int, vs = [.int i, .int j] ∧ (-(2 ^ 62) ≤ i ∧ i < 2 ^ 62 ∧ -(2 ^ 62) ≤ j ∧ j < 2 ^ 62) ∧ R (Itr i (j - i).toNat) H1) : iRng2 ta σ H R := q
theorem w_iR2v {a b : Int} {R : It → Hp → Prop} (h : -(2 ^ 62) ≤ a ∧ a < 2 ^ 62 ∧ -(2 ^ 62) ≤ b ∧ b < 2 ^ 62) (q : R (Itr a (b - a).toNat) H) : ∃ i j : Int, [V.int a, V.int b] = [.int i, .int j] ∧ (-(2 ^ 62) ≤ i ∧ i < 2 ^ 62 ∧ -(2 ^ 62) ≤ j ∧ j < 2 ^ 62) ∧ R (Itr i (j - i).toNat) H := ⟨a, b, rfl, h, q⟩
theorem w_iR3 {ta : TA} {R : It → Hp → Prop} (q : ta σ H fun vs H1 => ∃ (i j c : Int) (n : Nat), vs = [.int i, .int j, .int c] ∧ RgC i j c n ∧ R (Itc i c n) H1) : iRng3 ta σ H R := q
theorem w_iR3v {a b : Int} {R : It → Hp → Prop} (h : -(2 ^ 62) ≤ a ∧ a < 2 ^ 62 ∧ -(2 ^ 62) ≤ b ∧ b < 2 ^ 62) (q : R (Itc a (-1) (a - b).toNat) H) : ∃ (i j c : Int) (n : Nat), [V.int a, V.int b, V.int (-1)] = [.int i, .int j, .int c] ∧ RgC i j c n ∧ R (Itc i c n) H :=
  ⟨a, b, -1, _, rfl, RgC.neg h.1 h.2.1 h.2.2.1 h.2.2.2, q⟩
theorem w_iL {ta : TE} {R : It → Hp → Prop} (q : ta σ H fun x H1 => ∃ a, x = .ref a ∧ (∃ xs, SqL K H1 a xs) ∧ R (Itl K a) H1) : iList K ta σ H R := q
theorem w_iLv {a : Addr} {xs : List V} {R : It → Hp → Prop} (h : SqL K H a xs) (q : R (Itl K a) H) : ∃ b, V.ref a = .ref b ∧ (∃ xs, SqL K H b xs) ∧ R (Itl K b) H := ⟨a, rfl, ⟨xs, h⟩, q⟩
theorem lb_range {lo : Int} {n : Nat} (Pv : Nat → St → Hp → Prop) (h0 : Pv 0 σ H) (hs : ∀ (i : Nat) σ H, i < n → Pv i σ H → g (.int (lo + i)) σ H fun σ2 H2 => t ⟨Pv (i + 1), rt, nx, Pv (i + 1)⟩ σ2 H2) (hd : ∀ σ H, Pv n σ H → nx σ H) :
    LB g t nx rt σ (Itr lo n) H := for_range (D := ⟨nx, rt, fun _ _ => False, fun _ _ => False⟩) (lo := lo) (n := n) Pv h0 hs hd
theorem lb_range0 {n : Nat} (Pv : Nat → St → Hp → Prop) (h0 : Pv 0 σ H) (hs : ∀ (i : Nat) σ H, i < n → Pv i σ H → g (.int (i : Int)) σ H fun σ2 H2 => t ⟨Pv (i + 1), rt, nx, Pv (i + 1)⟩ σ2 H2) (hd : ∀ σ H, Pv n σ H → nx σ H) :
    LB g t nx rt σ (Itr 0 n) H := lb_range Pv h0 (fun i σ H hi p => by rw [Int.zero_add]; exact hs i σ H hi p) hd
theorem lb_rangeC {lo c : Int} {n : Nat} (Pv : Nat → St → Hp → Prop) (h0 : Pv 0 σ H) (hs : ∀ (i : Nat) σ H, i < n → Pv i σ H → g (.int (lo + (i : Nat) * c)) σ H fun σ2 H2 => t ⟨Pv (i + 1), rt, nx, Pv (i + 1)⟩ σ2 H2) (hd : ∀ σ H, Pv n σ H → nx σ H) :
    LB g t nx rt σ (Itc lo c n) H := for_rangeC (D := ⟨nx, rt, fun _ _ => False, fun _ _ => False⟩) (lo := lo) (c := c) (n := n) Pv h0 hs hd
theorem lb_list {a : Addr} {xs : List V} (Pv : Nat → St → Hp → Prop) (h0 : Pv 0 σ H) (hl : ∀ i σ H, i ≤ xs.length → Pv i σ H → SqL K H a xs) (hs : ∀ i x σ H, xs[i]? = some x → Pv i σ H → g x σ H fun σ2 H2 => t ⟨Pv (i + 1), rt, nx, Pv (i + 1)⟩ σ2 H2)
    (hd : ∀ σ H, Pv xs.length σ H → nx σ H) : LB g t nx rt σ (Itl K a) H := for_list (K := K) (a := a) (xs := xs) (D := ⟨nx, rt, fun _ _ => False, fun _ _ => False⟩) Pv h0 hl hs hd
theorem w_while {c : TT} {tb : TS} (Pv : St → Hp → Prop) (μ : St → Hp → Nat) (h0 : Pv σ H)
    (hs : ∀ σ H, Pv σ H → c σ H fun b H1 => if b = true then ∃ N : St → Hp → Prop, (∀ σ' H', N σ' H' → ∃ m', m' < μ σ H ∧ (m' = μ σ' H' ∧ Pv σ' H')) ∧ tb ⟨N, rt, nx, N⟩ σ H1 else nx σ H1) : tWhile c tb ⟨nx, rt, bk, ct⟩ σ H :=
  ⟨fun m σ H => m = μ σ H ∧ Pv σ H, ⟨_, rfl, h0⟩, fun m σ H h => by
    obtain ⟨e, p⟩ := h
    subst e
    exact hs σ H p⟩
theorem w_wN {tb : TS} {Pv : St → Hp → Prop} {μ : St → Hp → Nat} {m : Nat} (q : tb ⟨fun σ' H' => Pv σ' H' ∧ μ σ' H' < m, rt, nx, fun σ' H' => Pv σ' H' ∧ μ σ' H' < m⟩ σ H) :
    ∃ N : St → Hp → Prop, (∀ σ' H', N σ' H' → ∃ m', m' < m ∧ (m' = μ σ' H' ∧ Pv σ' H')) ∧ tb ⟨N, rt, nx, N⟩ σ H := ⟨_, fun _ _ h => ⟨_, h.2, rfl, h.1⟩, q⟩
end
end Ts
namespace Ts
open PySem L2
section
variable {H : Hp} {Q : VK} {R : St → Hp → Prop} {v a : V}
theorem w_v0 {s : St} (q : Q v H) : tVar 0 (some v :: s) H Q := ⟨v, rfl, q⟩
theorem w_n0 {b : Option V} {s : St} (q : R (some v :: s) H) : gName 0 v (b :: s) H R := q
theorem w_v1 {a0 : Option V} {s : St} (q : Q v H) : tVar 1 (a0 :: some v :: s) H Q := ⟨v, rfl, q⟩
theorem w_n1 {a0 : Option V} {b : Option V} {s : St} (q : R (a0 :: some v :: s) H) : gName 1 v (a0 :: b :: s) H R := q
theorem w_v2 {a0 a1 : Option V} {s : St} (q : Q v H) : tVar 2 (a0 :: a1 :: some v :: s) H Q := ⟨v, rfl, q⟩
theorem w_n2 {a0 a1 : Option V} {b : Option V} {s : St} (q : R (a0 :: a1 :: some v :: s) H) : gName 2 v (a0 :: a1 :: b :: s) H R := q
theorem w_v3 {a0 a1 a2 : Option V} {s : St} (q : Q v H) : tVar 3 (a0 :: a1 :: a2 :: some v :: s) H Q := ⟨v, rfl, q⟩
theorem w_n3 {a0 a1 a2 : Option V} {b : Option V} {s : St} (q : R (a0 :: a1 :: a2 :: some v :: s) H) : gName 3 v (a0 :: a1 :: a2 :: b :: s) H R := q
theorem w_v4 {a0 a1 a2 a3 : Option V} {s : St} (q : Q v H) : tVar 4 (a0 :: a1 :: a2 :: a3 :: some v :: s) H Q := ⟨v, rfl, q⟩
theorem w_n4 {a0 a1 a2 a3 : Option V} {b : Option V} {s : St} (q : R (a0 :: a1 :: a2 :: a3 :: some v :: s) H) : gName 4 v (a0 :: a1 :: a2 :: a3 :: b :: s) H R := q
theorem w_v5 {a0 a1 a2 a3 a4 : Option V} {s : St} (q : Q v H) : tVar 5 (a0 :: a1 :: a2 :: a3 :: a4 :: some v :: s) H Q := ⟨v, rfl, q⟩
theorem w_n5 {a0 a1 a2 a3 a4 : Option V} {b : Option V} {s : St} (q : R (a0 :: a1 :: a2 :: a3 :: a4 :: some v :: s) H) : gName 5 v (a0 :: a1 :: a2 :: a3 :: a4 :: b :: s) H R := q
theorem w_v6 {a0 a1 a2 a3 a4 a5 : Option V} {s : St} (q : Q v H) : tVar 6 (a0 :: a1 :: a2 :: a3 :: a4 :: a5 :: some v :: s) H Q := ⟨v, rfl, q⟩
theorem w_n6 {a0 a1 a2 a3 a4 a5 : Option V} {b : Option V} {s : St} (q : R (a0 :: a1 :: a2 :: a3 :: a4 :: a5 :: some v :: s) H) : gName 6 v (a0 :: a1 :: a2 :: a3 :: a4 :: a5 :: b :: s) H R := q
theorem w_v7 {a0 a1 a2 a3 a4 a5 a6 : Option V} {s : St} (q : Q v H) : tVar 7 (a0 :: a1 :: a2 :: a3 :: a4 :: a5 :: a6 :: some v :: s) H Q := ⟨v, rfl, q⟩
theorem w_n7 {a0 a1 a2 a3 a4 a5 a6 : Option V} {b : Option V} {s : St} (q : R (a0 :: a1 :: a2 :: a3 :: a4 :: a5 :: a6 :: some v :: s) H) : gName 7 v (a0 :: a1 :: a2 :: a3 :: a4 :: a5 :: a6 :: b :: s) H R := q
theorem w_v8 {a0 a1 a2 a3 a4 a5 a6 a7 : Option V} {s : St} (q : Q v H) : tVar 8 (a0 :: a1 :: a2 :: a3 :: a4 :: a5 :: a6 :: a7 :: some v :: s) H Q := ⟨v, rfl, q⟩
theorem w_n8 {a0 a1 a2 a3 a4 a5 a6 a7 : Option V} {b : Option V} {s : St} (q : R (a0 :: a1 :: a2 :: a3 :: a4 :: a5 :: a6 :: a7 :: some v :: s) H) : gName 8 v (a0 :: a1 :: a2 :: a3 :: a4 :: a5 :: a6 :: a7 :: b :: s) H R := q
theorem w_v9 {a0 a1 a2 a3 a4 a5 a6 a7 a8 : Option V} {s : St} (q : Q v H) : tVar 9 (a0 :: a1 :: a2 :: a3 :: a4 :: a5 :: a6 :: a7 :: a8 :: some v :: s) H Q := ⟨v, rfl, q⟩
theorem w_n9 {a0 a1 a2 a3 a4 a5 a6 a7 a8 : Option V} {b : Option V} {s : St} (q : R (a0 :: a1 :: a2 :: a3 :: a4 :: a5 :: a6 :: a7 :: a8 :: some v :: s) H) : gName 9 v (a0 :: a1 :: a2 :: a3 :: a4 :: a5 :: a6 :: a7 :: a8 :: b :: s) H R := q
theorem w_v10 {a0 a1 a2 a3 a4 a5 a6 a7 a8 a9 : Option V} {s : St} (q : Q v H) : tVar 10 (a0 :: a1 :: a2 :: a3 :: a4 :: a5 :: a6 :: a7 :: a8 :: a9 :: some v :: s) H Q := ⟨v, rfl, q⟩
theorem w_n10 {a0 a1 a2 a3 a4 a5 a6 a7 a8 a9 : Option V} {b : Option V} {s : St} (q : R (a0 :: a1 :: a2 :: a3 :: a4 :: a5 :: a6 :: a7 :: a8 :: a9 :: some v :: s) H) : gName 10 v (a0 :: a1 :: a2 :: a3 :: a4 :: a5 :: a6 :: a7 :: a8 :: a9 :: b :: s) H R := q
theorem w_v11 {a0 a1 a2 a3 a4 a5 a6 a7 a8 a9 a10 : Option V} {s : St} (q : Q v H) : tVar 11 (a0 :: a1 :: a2 :: a3 :: a4 :: a5 :: a6 :: a7 :: a8 :: a9 :: a10 :: some v :: s) H Q := ⟨v, rfl, q⟩
theorem w_n11 {a0 a1 a2 a3 a4 a5 a6 a7 a8 a9 a10 : Option V} {b : Option V} {s : St} (q : R (a0 :: a1 :: a2 :: a3 :: a4 :: a5 :: a6 :: a7 :: a8 :: a9 :: a10 :: some v :: s) H) : gName 11 v (a0 :: a1 :: a2 :: a3 :: a4 :: a5 :: a6 :: a7 :: a8 :: a9 :: a10 :: b :: s) H R := q
theorem w_v12 {a0 a1 a2 a3 a4 a5 a6 a7 a8 a9 a10 a11 : Option V} {s : St} (q : Q v H) : tVar 12 (a0 :: a1 :: a2 :: a3 :: a4 :: a5 :: a6 :: a7 :: a8 :: a9 :: a10 :: a11 :: some v :: s) H Q := ⟨v, rfl, q⟩
theorem w_n12 {a0 a1 a2 a3 a4 a5 a6 a7 a8 a9 a10 a11 : Option V} {b : Option V} {s : St} (q : R (a0 :: a1 :: a2 :: a3 :: a4 :: a5 :: a6 :: a7 :: a8 :: a9 :: a10 :: a11 :: some v :: s) H) : gName 12 v (a0 :: a1 :: a2 :: a3 :: a4 :: a5 :: a6 :: a7 :: a8 :: a9 :: a10 :: a11 :: b :: s) H R := q
theorem w_v13 {a0 a1 a2 a3 a4 a5 a6 a7 a8 a9 a10 a11 a12 : Option V} {s : St} (q : Q v H) : tVar 13 (a0 :: a1 :: a2 :: a3 :: a4 :: a5 :: a6 :: a7 :: a8 :: a9 :: a10 :: a11 :: a12 :: some v :: s) H Q := ⟨v, rfl, q⟩
theorem w_n13 {a0 a1 a2 a3 a4 a5 a6 a7 a8 a9 a10 a11 a12 : Option V} {b : Option V} {s : St} (q : R (a0 :: a1 :: a2 :: a3 :: a4 :: a5 :: a6 :: a7 :: a8 :: a9 :: a10 :: a11 :: a12 :: some v :: s) H) : gName 13 v (a0 :: a1 :: a2 :: a3 :: a4 :: a5 :: a6 :: a7 :: a8 :: a9 :: a10 :: a11 :: a12 :: b :: s) H R := q
theorem w_v14 {a0 a1 a2 a3 a4 a5 a6 a7 a8 a9 a10 a11 a12 a13 : Option V} {s : St} (q : Q v H) : tVar 14 (a0 :: a1 :: a2 :: a3 :: a4 :: a5 :: a6 :: a7 :: a8 :: a9 :: a10 :: a11 :: a12 :: a13 :: some v :: s) H Q := ⟨v, rfl, q⟩
theorem w_n14 {a0 a1 a2 a3 a4 a5 a6 a7 a8 a9 a10 a11 a12 a13 : Option V} {b : Option V} {s : St} (q : R (a0 :: a1 :: a2 :: a3 :: a4 :: a5 :: a6 :: a7 :: a8 :: a9 :: a10 :: a11 :: a12 :: a13 :: some v :: s) H) : gName 14 v (a0 :: a1 :: a2 :: a3 :: a4 :: a5 :: a6 :: a7 :: a8 :: a9 :: a10 :: a11 :: a12 :: a13 :: b :: s) H R := q
theorem w_v15 {a0 a1 a2 a3 a4 a5 a6 a7 a8 a9 a10 a11 a12 a13 a14 : Option V} {s : St} (q : Q v H) : tVar 15 (a0 :: a1 :: a2 :: a3 :: a4 :: a5 :: a6 :: a7 :: a8 :: a9 :: a10 :: a11 :: a12 :: a13 :: a14 :: some v :: s) H Q := ⟨v, rfl, q⟩
theorem w_n15 {a0 a1 a2 a3 a4 a5 a6 a7 a8 a9 a10 a11 a12 a13 a14 : Option V} {b : Option V} {s : St} (q : R (a0 :: a1 :: a2 :: a3 :: a4 :: a5 :: a6 :: a7 :: a8 :: a9 :: a10 :: a11 :: a12 :: a13 :: a14 :: some v :: s) H) : gName 15 v (a0 :: a1 :: a2 :: a3 :: a4 :: a5 :: a6 :: a7 :: a8 :: a9 :: a10 :: a11 :: a12 :: a13 :: a14 :: b :: s) H R := q
theorem w_v16 {a0 a1 a2 a3 a4 a5 a6 a7 a8 a9 a10 a11 a12 a13 a14 a15 : Option V} {s : St} (q : Q v H) : tVar 16 (a0 :: a1 :: a2 :: a3 :: a4 :: a5 :: a6 :: a7 :: a8 :: a9 :: a10 :: a11 :: a12 :: a13 :: a14 :: a15 :: some v :: s) H Q := ⟨v, rfl, q⟩
theorem w_n16 {a0 a1 a2 a3 a4 a5 a6 a7 a8 a9 a10 a11 a12 a13 a14 a15 : Option V} {b : Option V} {s : St} (q : R (a0 :: a1 :: a2 :: a3 :: a4 :: a5 :: a6 :: a7 :: a8 :: a9 :: a10 :: a11 :: a12 :: a13 :: a14 :: a15 :: some v :: s) H) : gName 16 v (a0 :: a1 :: a2 :: a3 :: a4 :: a5 :: a6 :: a7 :: a8 :: a9 :: a10 :: a11 :: a12 :: a13 :: a14 :: a15 :: b :: s) H R := q
theorem w_v17 {a0 a1 a2 a3 a4 a5 a6 a7 a8 a9 a10 a11 a12 a13 a14 a15 a16 : Option V} {s : St} (q : Q v H) : tVar 17 (a0 :: a1 :: a2 :: a3 :: a4 :: a5 :: a6 :: a7 :: a8 :: a9 :: a10 :: a11 :: a12 :: a13 :: a14 :: a15 :: a16 :: some v :: s) H Q := ⟨v, rfl, q⟩
theorem w_n17 {a0 a1 a2 a3 a4 a5 a6 a7 a8 a9 a10 a11 a12 a13 a14 a15 a16 : Option V} {b : Option V} {s : St} (q : R (a0 :: a1 :: a2 :: a3 :: a4 :: a5 :: a6 :: a7 :: a8 :: a9 :: a10 :: a11 :: a12 :: a13 :: a14 :: a15 :: a16 :: some v :: s) H) : gName 17 v (a0 :: a1 :: a2 :: a3 :: a4 :: a5 :: a6 :: a7 :: a8 :: a9 :: a10 :: a11 :: a12 :: a13 :: a14 :: a15 :: a16 :: b :: s) H R := q
theorem w_v18 {a0 a1 a2 a3 a4 a5 a6 a7 a8 a9 a10 a11 a12 a13 a14 a15 a16 a17 : Option V} {s : St} (q : Q v H) : tVar 18 (a0 :: a1 :: a2 :: a3 :: a4 :: a5 :: a6 :: a7 :: a8 :: a9 :: a10 :: a11 :: a12 :: a13 :: a14 :: a15 :: a16 :: a17 :: some v :: s) H Q := ⟨v, rfl, q⟩
theorem w_n18 {a0 a1 a2 a3 a4 a5 a6 a7 a8 a9 a10 a11 a12 a13 a14 a15 a16 a17 : Option V} {b : Option V} {s : St} (q : R (a0 :: a1 :: a2 :: a3 :: a4 :: a5 :: a6 :: a7 :: a8 :: a9 :: a10 :: a11 :: a12 :: a13 :: a14 :: a15 :: a16 :: a17 :: some v :: s) H) : gName 18 v (a0 :: a1 :: a2 :: a3 :: a4 :: a5 :: a6 :: a7 :: a8 :: a9 :: a10 :: a11 :: a12 :: a13 :: a14 :: a15 :: a16 :: a17 :: b :: s) H R := q
theorem w_v19 {a0 a1 a2 a3 a4 a5 a6 a7 a8 a9 a10 a11 a12 a13 a14 a15 a16 a17 a18 : Option V} {s : St} (q : Q v H) : tVar 19 (a0 :: a1 :: a2 :: a3 :: a4 :: a5 :: a6 :: a7 :: a8 :: a9 :: a10 :: a11 :: a12 :: a13 :: a14 :: a15 :: a16 :: a17 :: a18 :: some v :: s) H Q := ⟨v, rfl, q⟩
theorem w_n19 {a0 a1 a2 a3 a4 a5 a6 a7 a8 a9 a10 a11 a12 a13 a14 a15 a16 a17 a18 : Option V} {b : Option V} {s : St} (q : R (a0 :: a1 :: a2 :: a3 :: a4 :: a5 :: a6 :: a7 :: a8 :: a9 :: a10 :: a11 :: a12 :: a13 :: a14 :: a15 :: a16 :: a17 :: a18 :: some v :: s) H) : gName 19 v (a0 :: a1 :: a2 :: a3 :: a4 :: a5 :: a6 :: a7 :: a8 :: a9 :: a10 :: a11 :: a12 :: a13 :: a14 :: a15 :: a16 :: a17 :: a18 :: b :: s) H R := q
end
end Ts
namespace Ts
open PySem PySem.Spec PyProof.Rows L2
/-! ### defs, methods, classes by their names -/
structure FunG (K : PySem.W.Frag) (mg : Str → Option Value) (x : Str) (st : Stmt) (ps : List Str) : Prop where
  ex : ∃ f fd, Fun K x x st f fd ∧ mg x = some (.ref f) ∧ Binds K fd ps []
structure MetG (K : PySem.W.Frag) (C : Addr) (m qual : Str) (st : Stmt) (ps : List Str) : Prop where
  ex : ∃ f fd, Fun K m qual st f fd ∧ Meth K C m f ∧ Binds K fd ps []
structure IniG (K : PySem.W.Frag) (mg : Str → Option Value) (C : Addr) (x qual : Str) (st : Stmt) (ps : List Str) : Prop where
  ex : ∃ f fd, Fun K "__init__" qual st f fd ∧ Mk K C f ∧ mg x = some (.ref C) ∧ Binds K fd ps []
structure FnG (P : Program) (w : World) (K : PySem.W.Frag) (mg : Str → Option Value) (base : Heap) (k : Nat) (x : Str) (ps : List Str) (sp : Sp) : Prop where
  ex : ∃ f fd, FnOk P w K mg base (L2.CX P w) k f fd ps sp ∧ mg x = some (.ref f) ∧ PySem.W.keepIn K (.ref f) = true ∧ Binds K fd ps []
structure MtG (P : Program) (w : World) (K : PySem.W.Frag) (mg : Str → Option Value) (base : Heap) (k : Nat) (C : Addr) (m : Str) (ps : List Str) (sp : Sp) : Prop where
  ex : ∃ f fd, FnOk P w K mg base (L2.CX P w) k f fd ps sp ∧ Meth K C m f ∧ Binds K fd ps []
structure MkG (P : Program) (w : World) (K : PySem.W.Frag) (mg : Str → Option Value) (base : Heap) (k : Nat) (C : Addr) (x : Str) (ps : List Str) (sp : Sp) : Prop where
  ex : ∃ f fd, FnOk P w K mg base (L2.CX P w) k f fd ps sp ∧ Mk K C f ∧ mg x = some (.ref C) ∧ Binds K fd ps []
section
variable {P : Program} {w : World} {K : PySem.W.Frag} {mg : Str → Option Value} {base : Heap} {x m qual : Str} {st : Stmt} {C : Addr} {ps N : List Str} {k : Nat} {sp sp' : Sp}
/-- what a def's body must show -/
abbrev BodyOk (P : Program) (w : World) (K : PySem.W.Frag) (mg : Str → Option Value) (base : Heap) (N : List Str) (qual : Str) (st : Stmt) (k : Nat) (sp : Sp) : Prop :=
  ∀ (f : Addr) (cdv : Value) (A : Around) (outer : List Env) (s : Shared) (H : Hp) (vs : List V) (Q : VK) (E : XK), Room k (A.deeper (envOfC qual (defScope st) s.heap.objs.size f cdv)) → sp vs H Q E →
      ∃ t, PSs (cxOf (L2.CX P w) P w K mg base N qual (defScope st) f cdv A outer s H E) (defBody st) t ∧ t ⟨fun _ H' => Q .non H', Q, fun _ _ => False, fun _ _ => False⟩ (start N vs) H
theorem FunG.ok (F : FunG K mg x st ps) (S : FnScope N ps (defScope st)) (len : ∀ vs H Q E, sp vs H Q E → vs.length = ps.length) (hb : BodyOk P w K mg base N x st k sp) : FnG P w K mg base (k + 1) x ps sp := by
  obtain ⟨f, fd, F, g, b⟩ := F.ex
  exact ⟨f, fd, F.okX S len (hb f), g, F.kp, b⟩
theorem MetG.ok (F : MetG K C m qual st ps) (S : FnScope N ps (defScope st)) (len : ∀ vs H Q E, sp vs H Q E → vs.length = ps.length) (hb : BodyOk P w K mg base N qual st k sp) : MtG P w K mg base (k + 1) C m ps sp := by
  obtain ⟨f, fd, F, g, b⟩ := F.ex
  exact ⟨f, fd, F.okX S len (hb f), g, b⟩
theorem IniG.ok (F : IniG K mg C x qual st ps) (S : FnScope N ps (defScope st)) (len : ∀ vs H Q E, sp vs H Q E → vs.length = ps.length) (hb : BodyOk P w K mg base N qual st k sp) : MkG P w K mg base (k + 1) C x ps sp := by
  obtain ⟨f, fd, F, g, h, b⟩ := F.ex
  exact ⟨f, fd, F.okX S len (hb f), g, h, b⟩
theorem FnG.mono {j : Nat} (F : FnG P w K mg base j x ps sp) (h : j ≤ k) : FnG P w K mg base k x ps sp := let ⟨f, fd, a, b, c, d⟩ := F.ex; ⟨f, fd, a.mono h, b, c, d⟩
theorem FnG.imp (F : FnG P w K mg base k x ps sp) (h : ∀ vs H Q E, sp' vs H Q E → sp vs H Q E) : FnG P w K mg base k x ps sp' := let ⟨f, fd, a, b, c, d⟩ := F.ex; ⟨f, fd, a.imp h, b, c, d⟩
theorem MtG.mono {j : Nat} (F : MtG P w K mg base j C m ps sp) (h : j ≤ k) : MtG P w K mg base k C m ps sp := let ⟨f, fd, a, b, c⟩ := F.ex; ⟨f, fd, a.mono h, b, c⟩
theorem MtG.imp (F : MtG P w K mg base k C m ps sp) (h : ∀ vs H Q E, sp' vs H Q E → sp vs H Q E) : MtG P w K mg base k C m ps sp' := let ⟨f, fd, a, b, c⟩ := F.ex; ⟨f, fd, a.imp h, b, c⟩
end
section
variable {X : Cx} {k : Nat} {C : Addr} {ps : List Str} {sp : Sp} {E : XK} {ES : L2.St → XK} {x m : Str} {p pos apos : Pos} {e o : Expr} {es : List Expr} {ta : TE} {t : TA}
theorem passE (tk : Takes X (fun cls d _ H => E cls d H)) : Passes (L2.CX X.prog X.w) X E := passes_call tk fun _ _ _ _ h => h
theorem pe_callG (G : FnG X.prog X.w X.K X.mg X.base k x ps sp) (hr : Room k X.A) (hx : Passes (L2.CX X.prog X.w) X E) (ha : PA X (e :: es) t) (hg : Gl X x := by rfl)
    (hdb : (x == ("__debug__" : Str)) = false := by decide) (he : starEach (e :: es) X.env = (false, eval e X.env) :: starEach es X.env := by rfl) (hpl : (backTo pos (starEach es X.env)).any (·.1) = false := by rfl) :
    PE X (.Call (.Name x p) (e :: es) [] pos) (tCall sp [] E t) := by
  obtain ⟨f, fd, F, g, kp, b⟩ := G.ex
  exact pe_call F hr hg g kp b .nil hx ha hdb he hpl
theorem pe_callGS (G : FnG X.prog X.w X.K X.mg X.base k x ps sp) (hr : Room k X.A) (hx : ∀ σ, PassesAt (L2.CX X.prog X.w) X σ (ES σ)) (ha : PA X (e :: es) t) (hg : Gl X x := by rfl)
    (hdb : (x == ("__debug__" : Str)) = false := by decide) (he : starEach (e :: es) X.env = (false, eval e X.env) :: starEach es X.env := by rfl) (hpl : (backTo pos (starEach es X.env)).any (·.1) = false := by rfl) :
    PE X (.Call (.Name x p) (e :: es) [] pos) (tCallS sp ES t) := by
  obtain ⟨f, fd, F, g, kp, b⟩ := G.ex
  exact pe_callS F hr hg g kp b hx ha hdb he hpl
theorem pe_methG {pl : Sem Bool} (he : PE X o ta) (c : Cls X.K C) (G : MtG X.prog X.w X.K X.mg X.base k C m ps sp) (hr : Room k X.A) (hx : Passes (L2.CX X.prog X.w) X E) (ha : PA X (e :: es) t)
    (hst : starEach (e :: es) X.env = (false, eval e X.env) :: starEach es X.env := by rfl) (hpl : (backTo pos (starEach es X.env)).any (·.1) = false := by rfl)
    (ht : eval (.Call (.Attribute o m apos) (e :: es) [] pos) X.env = (do
      let ov ← eval o X.env
      standAt apos.atName
      let (f, first) ← holding [ov] (getMethod ov m pl)
      callWith pos f first (backTo pos (starEach (e :: es) X.env)) (backToKw pos (keywordEach [] X.env))) := by rfl) :
    PE X (.Call (.Attribute o m apos) (e :: es) [] pos) (tMeth C m sp [] E ta t) := by
  obtain ⟨f, fd, F, g, b⟩ := G.ex
  exact pe_meth he c g F hr b .nil hx ha hst hpl ht
theorem pe_methG0 {pl : Sem Bool} (he : PE X o ta) (c : Cls X.K C) (G : MtG X.prog X.w X.K X.mg X.base k C m ps sp) (hr : Room k X.A) (hx : Passes (L2.CX X.prog X.w) X E)
    (ht : eval (.Call (.Attribute o m apos) [] [] pos) X.env = (do
      let ov ← eval o X.env
      standAt apos.atName
      let (f, first) ← holding [ov] (getMethod ov m pl)
      callWith pos f first (backTo pos (starEach [] X.env)) (backToKw pos (keywordEach [] X.env))) := by rfl) :
    PE X (.Call (.Attribute o m apos) [] [] pos) (tMeth C m sp [] E ta tNil) := by
  obtain ⟨f, fd, F, g, b⟩ := G.ex
  exact pe_meth0 he c g F hr b .nil hx ht
/-- the same within a try's body: what is raised is wished for at the slots -/
def tMethS (C : Addr) (m : Str) (sp : Sp) (ES : L2.St → XK) (ta : TE) (t : TA) : TE := fun σ H Q => ta σ H fun x H1 => ∃ a dx fs, x = .ref a ∧ H1 a = some (.ins C dx fs) ∧ fs.lookup m = none ∧ t σ H1 fun vs H2 => sp (x :: vs) H2 Q (ES σ)
theorem pe_methGS {pl : Sem Bool} (he : PE X o ta) (c : Cls X.K C) (G : MtG X.prog X.w X.K X.mg X.base k C m ps sp) (hr : Room k X.A) (hx : ∀ σ, PassesAt (L2.CX X.prog X.w) X σ (ES σ)) (ha : PA X (e :: es) t)
    (hst : starEach (e :: es) X.env = (false, eval e X.env) :: starEach es X.env := by rfl) (hpl : (backTo pos (starEach es X.env)).any (·.1) = false := by rfl)
    (ht : eval (.Call (.Attribute o m apos) (e :: es) [] pos) X.env = (do
      let ov ← eval o X.env
      standAt apos.atName
      let (f, first) ← holding [ov] (getMethod ov m pl)
      callWith pos f first (backTo pos (starEach (e :: es) X.env)) (backToKw pos (keywordEach [] X.env))) := by rfl) :
    PE X (.Call (.Attribute o m apos) (e :: es) [] pos) (tMethS C m sp ES ta t) := by
  obtain ⟨f, fd, F, hm, b⟩ := G.ex
  refine ⟨fun pins s σ H Q I h => ?_⟩
  refine PySem.W.methodCall_KW (pl := pl) (thn (he.run pins s σ H _ I h) fun u s1 ⟨x, H1, I1, rx, a, dx, fs, ex, ea, l, q⟩ => ?_) ht
  subst ex
  obtain rfl : u = Value.ref a := rx
  refine getmeth_ok I1 ea c hm l ?_
  refine PySem.W.callWith_K (first := [.ref a]) (h₀ := X.base) I.ok.mod.kin hm.kp (thn (ha.run pos pins s1 σ H1 _ I1 q) fun us s2 ⟨vs, H2, I2, r, q2⟩ => ⟨I2.kIn, ?_⟩) hst hpl
  exact run_fnS (us := .ref a :: us) (vs := .ref a :: vs) F hr b (hx σ) I2 (.cons rfl r) q2
theorem pe_methG0S {pl : Sem Bool} (he : PE X o ta) (c : Cls X.K C) (G : MtG X.prog X.w X.K X.mg X.base k C m ps sp) (hr : Room k X.A) (hx : ∀ σ, PassesAt (L2.CX X.prog X.w) X σ (ES σ))
    (ht : eval (.Call (.Attribute o m apos) [] [] pos) X.env = (do
      let ov ← eval o X.env
      standAt apos.atName
      let (f, first) ← holding [ov] (getMethod ov m pl)
      callWith pos f first (backTo pos (starEach [] X.env)) (backToKw pos (keywordEach [] X.env))) := by rfl) :
    PE X (.Call (.Attribute o m apos) [] [] pos) (tMethS C m sp ES ta tNil) := by
  obtain ⟨f, fd, F, hm, b⟩ := G.ex
  refine ⟨fun pins s σ H Q I h => ?_⟩
  refine PySem.W.methodCall_KW (pl := pl) (thn (he.run pins s σ H _ I h) fun u s1 ⟨x, H1, I1, rx, a, dx, fs, ex, ea, l, q⟩ => ?_) ht
  subst ex
  obtain rfl : u = Value.ref a := rx
  refine getmeth_ok I1 ea c hm l ?_
  exact PySem.W.callWith_K0 (first := [.ref a]) I1.kIn hm.kp (run_fnS (us := [.ref a]) (vs := [.ref a]) F hr b (hx σ) I1 (.cons rfl .nil) q)
theorem w_methS {σ : L2.St} {H : Hp} {Q : VK} (q : ta σ H fun x H1 => ∃ a dx fs, x = .ref a ∧ H1 a = some (.ins C dx fs) ∧ fs.lookup m = none ∧ t σ H1 fun vs H2 => sp (x :: vs) H2 Q (ES σ)) : tMethS C m sp ES ta t σ H Q := q
theorem pe_makeG (G : MkG X.prog X.w X.K X.mg X.base k C x ps sp) (hr : Room (k + 1) X.A) (hx : Passes (L2.CX X.prog X.w) X E) (ha : PA X (e :: es) t) (hg : Gl X x := by rfl)
    (hdb : (x == ("__debug__" : Str)) = false := by decide) (he : starEach (e :: es) X.env = (false, eval e X.env) :: starEach es X.env := by rfl) (hpl : (backTo pos (starEach es X.env)).any (·.1) = false := by rfl) :
    PE X (.Call (.Name x p) (e :: es) [] pos) (tMake C sp [] E t) := by
  obtain ⟨f, fd, F, M, g, b⟩ := G.ex
  exact pe_make M F hr hg g b .nil hx ha hdb he hpl
theorem pe_makeG0 (G : MkG X.prog X.w X.K X.mg X.base k C x ps sp) (hr : Room (k + 1) X.A) (hx : Passes (L2.CX X.prog X.w) X E) (hg : Gl X x := by rfl)
    (hdb : (x == ("__debug__" : Str)) = false := by decide) : PE X (.Call (.Name x p) [] [] pos) (tMake C sp [] E tNil) := by
  obtain ⟨f, fd, F, M, g, b⟩ := G.ex
  exact pe_make0 M F hr hg g b .nil hx hdb
/-- an own exception class over ValueError without __init__ -/
structure ExcT (K : PySem.W.Frag) (mg : Str → Option Value) (x : Str) (C : Addr) : Prop where
  g : mg x = some (.ref C)
  xP : PySem.W.excIn K C [.type "ValueError", .type "Exception", .type "BaseException", .type "object"] "ValueError.__new__" = true
  kP : PySem.W.keepIn K (.ref C) = true
  bP : PySem.W.subIn K (.ref C) (.type "BaseException") = some true
  tP : PySem.W.typeIn K (.ref C) = some (.type "type")
/-- raise X('..') -/
def tRaiseX (C : Addr) (W : WX) : TS := fun _ σ H => W (.ref C) none σ H
theorem ps_raiseG {W : WX} {y : Str} {j : Nat} {p2 pos2 : Pos} (T : ExcT X.K X.mg x C) (hc : X.calm = true) (tk : Takes X W) (hg : Gl X x := by rfl) (hdb : (x == ("__debug__" : Str)) = false := by decide) :
    PS X (.Raise (some (.Call (.Name x p) [.Constant (.str y) j p2] [] pos)) none pos2) (tRaiseX C W) := ps_raise hc tk (pmk_own PySem.F.excBase_ValueError T.xP T.g T.kP (raises_own T.bP T.tP) hg hdb)
theorem w_raise {W : WX} {D : Ends} {σ : L2.St} {H : Hp} (q : W (.ref C) none σ H) : tRaiseX C W D σ H := q
end
end Ts
namespace Ts
open PySem L2
/-! ### data: what a value means, as data of one kind -/
structure Enc (α : Type) [DecidableEq α] where
  enc : α → PyData
  ok : α → Prop
  lay : ∀ x, ok x → (enc x).canLay0 = true
  dep : Nat
  hdep : ∀ x, (enc x).depth ≤ dep
  eq : ∀ x y, PyData.eqv (enc x) (enc y) = decide (x = y)
section
variable {α β γ : Type} [DecidableEq α] [DecidableEq β] [DecidableEq γ]
theorem Enc.shaped (e : Enc α) (h : e.dep ≤ 64) (x : α) (o : e.ok x) : SeqAt.shaped (e.enc x) = true := by
  unfold SeqAt.shaped
  rw [e.lay x o, Bool.true_and]
  exact decide_eq_true (Nat.le_trans (e.hdep x) h)
theorem eInt_eq (x y : Int) : PyData.eqv (.int x) (.int y) = decide (x = y) := by rw [PyData.eqv]; exact Bool.beq_eq_decide_eq x y
def eInt : Enc Int := ⟨.int, fun _ => True, fun _ _ => rfl, 0, fun _ => Nat.le_refl _, eInt_eq⟩
def eNat : Enc Nat := ⟨fun n => .int n, fun _ => True, fun _ _ => rfl, 0, fun _ => Nat.le_refl _, fun x y => by
  rw [eInt_eq, decide_eq_decide]; omega⟩
def eStr : Enc Str := ⟨.str, fun x => PyData.strOk x = true, fun x h => by simpa [PyData.canLay0] using h, 0, fun _ => by simp [PyData.depth], fun x y => by rw [PyData.eqv, Bool.eq_iff_iff]; simp⟩
def eBool : Enc Bool := ⟨.bool, fun _ => True, fun _ _ => rfl, 0, fun _ => Nat.le_refl _, fun x y => by rw [PyData.eqv]; exact Bool.beq_eq_decide_eq x y⟩
theorem all_lay (e : Enc α) : ∀ xs : List α, (∀ x ∈ xs, e.ok x) → PyData.canLayAll0 (xs.map e.enc) = true
  | [], _ => rfl
  | x :: xs, h => by
    show PyData.canLayAll0 (e.enc x :: xs.map e.enc) = true
    unfold PyData.canLayAll0
    rw [e.lay x (h x List.mem_cons_self), all_lay e xs fun y hy => h y (List.mem_cons_of_mem _ hy)]
    rfl
theorem all_dep (e : Enc α) : ∀ xs : List α, PyData.depthAll (xs.map e.enc) ≤ e.dep
  | [] => Nat.zero_le _
  | x :: xs => by
    show PyData.depthAll (e.enc x :: xs.map e.enc) ≤ e.dep
    unfold PyData.depthAll
    exact Nat.max_le.mpr ⟨e.hdep x, all_dep e xs⟩
theorem all_eq (e : Enc α) : ∀ xs ys : List α, PyData.eqvAll (xs.map e.enc) (ys.map e.enc) = decide (xs = ys)
  | [], [] => rfl
  | [], y :: ys => rfl
  | x :: xs, [] => rfl
  | x :: xs, y :: ys => by
    show PyData.eqvAll (e.enc x :: xs.map e.enc) (e.enc y :: ys.map e.enc) = _
    rw [PyData.eqvAll, e.eq, all_eq e xs ys]
    by_cases h : x = y
    · by_cases h2 : xs = ys
      · simp [h, h2]
      · simp [h, h2]
    · simp [h]
def eList (e : Enc α) : Enc (List α) := ⟨fun xs => .list (xs.map e.enc), fun xs => ∀ x ∈ xs, e.ok x, fun xs h => by unfold PyData.canLay0; exact all_lay e xs h, e.dep + 1, fun xs => by
  unfold PyData.depth
  have := all_dep e xs
  omega, fun xs ys => by rw [PyData.eqv]; exact all_eq e xs ys⟩
def eTup2 (e : Enc α) (f : Enc β) : Enc (α × β) := ⟨fun p => .tuple [e.enc p.1, f.enc p.2], fun p => e.ok p.1 ∧ f.ok p.2, fun p h => by simp [PyData.canLay0, PyData.canLayAll0, e.lay _ h.1, f.lay _ h.2], max e.dep f.dep + 1, fun p => by
  have h1 := e.hdep p.1
  have h2 := f.hdep p.2
  simp only [PyData.depth, PyData.depthAll]
  omega, fun p r => by
  obtain ⟨a, b⟩ := p
  obtain ⟨c, d⟩ := r
  simp only [PyData.eqv, PyData.eqvAll, e.eq, f.eq, Bool.and_true, Prod.mk.injEq]
  by_cases h : a = c
  · by_cases h2 : b = d
    · simp [h, h2]
    · simp [h, h2]
  · simp [h]⟩
def eTup3 (e : Enc α) (f : Enc β) (g : Enc γ) : Enc (α × β × γ) := ⟨fun p => .tuple [e.enc p.1, f.enc p.2.1, g.enc p.2.2], fun p => e.ok p.1 ∧ f.ok p.2.1 ∧ g.ok p.2.2, fun p h => by simp [PyData.canLay0, PyData.canLayAll0, e.lay _ h.1, f.lay _ h.2.1, g.lay _ h.2.2], max e.dep (max f.dep g.dep) + 1, fun p => by
  have h1 := e.hdep p.1
  have h2 := f.hdep p.2.1
  have h3 := g.hdep p.2.2
  simp only [PyData.depth, PyData.depthAll]
  omega, fun p r => by
  obtain ⟨a, b, x⟩ := p
  obtain ⟨c, d, y⟩ := r
  simp only [PyData.eqv, PyData.eqvAll, e.eq, f.eq, g.eq, Bool.and_true, Prod.mk.injEq]
  by_cases h : a = c
  · by_cases h2 : b = d
    · by_cases h3 : x = y
      · simp [h, h2, h3]
      · simp [h, h2, h3]
    · simp [h, h2]
  · simp [h]⟩
end
/-! ### what is read stays read -/
section
variable {K : PySem.W.Frag} {H H' : Hp}
mutual
theorem dp_mono (e : Ex H H') : ∀ {v : V} {d : PyData}, Dp K H v d → Dp K H' v d
  | _, _, .non => .non
  | _, _, .bl b => .bl b
  | _, _, .int i => .int i
  | _, _, .str x => .str x
  | _, _, .lst h a => .lst (Evl.ex_l e h) (dpAll_mono e a)
  | _, _, .tup h a => .tup (Evl.ex_t e h) (dpAll_mono e a)
theorem dpAll_mono (e : Ex H H') : ∀ {vs : List V} {ds : List PyData}, DpAll K H vs ds → DpAll K H' vs ds
  | _, _, .nil => .nil
  | _, _, .cons h t => .cons (dp_mono e h) (dpAll_mono e t)
end
theorem dpAll_len : ∀ {vs : List V} {ds : List PyData}, DpAll K H vs ds → vs.length = ds.length
  | _, _, .nil => rfl
  | _, _, .cons _ t => by rw [List.length_cons, List.length_cons, dpAll_len t]
theorem dpAll_snoc {v : V} {d : PyData} : ∀ {vs : List V} {ds : List PyData}, DpAll K H vs ds → Dp K H v d → DpAll K H (vs ++ [v]) (ds ++ [d])
  | _, _, .nil, h => .cons h .nil
  | _, _, .cons a t, h => .cons a (dpAll_snoc t h)
theorem dpAll_append : ∀ {vs ws : List V} {ds es : List PyData}, DpAll K H vs ds → DpAll K H ws es → DpAll K H (vs ++ ws) (ds ++ es)
  | _, _, _, _, .nil, h => h
  | _, _, _, _, .cons a t, h => .cons a (dpAll_append t h)
theorem dpAll_get : ∀ {vs : List V} {ds : List PyData} {i : Nat} {v : V}, DpAll K H vs ds → vs[i]? = some v → ∃ d, ds[i]? = some d ∧ Dp K H v d
  | _, _, i, v, .nil, e => by simp at e
  | _, _, 0, v, .cons h t, e => by simp at e; subst e; exact ⟨_, rfl, h⟩
  | _, _, i + 1, v, .cons h t, e => by
    obtain ⟨d, h1, h2⟩ := dpAll_get (i := i) (v := v) t (by simpa using e)
    exact ⟨d, by simpa using h1, h2⟩
theorem dpAll_get' : ∀ {vs : List V} {ds : List PyData} {i : Nat} {d : PyData}, DpAll K H vs ds → ds[i]? = some d → ∃ v, vs[i]? = some v ∧ Dp K H v d
  | _, _, i, v, .nil, e => by simp at e
  | _, _, 0, v, .cons h t, e => by simp at e; subst e; exact ⟨_, rfl, h⟩
  | _, _, i + 1, v, .cons h t, e => by
    obtain ⟨d, h1, h2⟩ := dpAll_get' (i := i) (d := v) t (by simpa using e)
    exact ⟨d, by simpa using h1, h2⟩
theorem dpAll_set {v : V} {d : PyData} : ∀ {vs : List V} {ds : List PyData} (i : Nat), DpAll K H vs ds → Dp K H v d → DpAll K H (vs.set i v) (ds.set i d)
  | _, _, _, .nil, _ => .nil
  | _, _, 0, .cons _ t, h => .cons h t
  | _, _, i + 1, .cons a t, h => .cons a (dpAll_set i t h)
theorem dpAll_take : ∀ {vs : List V} {ds : List PyData} (i : Nat), DpAll K H vs ds → DpAll K H (vs.take i) (ds.take i)
  | _, _, 0, _ => .nil
  | _, _, _ + 1, .nil => .nil
  | _, _, i + 1, .cons a t => .cons a (dpAll_take i t)
theorem dpAll_drop : ∀ {vs : List V} {ds : List PyData} (i : Nat), DpAll K H vs ds → DpAll K H (vs.drop i) (ds.drop i)
  | _, _, 0, h => h
  | _, _, _ + 1, .nil => .nil
  | _, _, i + 1, .cons _ t => dpAll_drop i t
/-- texts are their own data -/
theorem dpAll_strs : ∀ (xs : List Str), DpAll K H (xs.map V.str) (xs.map PyData.str)
  | [] => .nil
  | x :: xs => .cons (.str x) (dpAll_strs xs)
theorem dpAll_ints : ∀ (xs : List Int), DpAll K H (xs.map V.int) (xs.map PyData.int)
  | [] => .nil
  | x :: xs => .cons (.int x) (dpAll_ints xs)
theorem dp_tup2 {v : V} {d e : PyData} (h : Dp K H v (.tuple [d, e])) : ∃ a x y, v = .ref a ∧ SqT K H a [x, y] ∧ Dp K H x d ∧ Dp K H y e := by
  cases h with
  | tup hs ha =>
    cases ha with
    | cons h1 t =>
      cases t with
      | cons h2 t =>
        cases t
        exact ⟨_, _, _, rfl, hs, h1, h2⟩
theorem dp_tup3 {v : V} {d e f : PyData} (h : Dp K H v (.tuple [d, e, f])) : ∃ a x y z, v = .ref a ∧ SqT K H a [x, y, z] ∧ Dp K H x d ∧ Dp K H y e ∧ Dp K H z f := by
  cases h with
  | tup hs ha =>
    cases ha with
    | cons h1 t =>
      cases t with
      | cons h2 t =>
        cases t with
        | cons h3 t =>
          cases t
          exact ⟨_, _, _, _, rfl, hs, h1, h2, h3⟩
theorem dp_int {v : V} {i : Int} (h : Dp K H v (.int i)) : v = .int i := by cases h; rfl
theorem dp_str {v : V} {i : Str} (h : Dp K H v (.str i)) : v = .str i := by cases h; rfl
theorem dp_bool {v : V} {i : Bool} (h : Dp K H v (.bool i)) : v = .bl i := by cases h; rfl
/-- a list of data of one kind at v -/
theorem dp_list {v : V} {ds : List PyData} (h : Dp K H v (.list ds)) : ∃ a xs, v = .ref a ∧ SqL K H a xs ∧ DpAll K H xs ds := by
  cases h with
  | lst hs ha => exact ⟨_, _, rfl, hs, ha⟩
theorem sqt_ex {a : Addr} {xs : List V} (e : Ex H H') (h : SqT K H a xs) : SqT K H' a xs := Evl.ex_t e h
theorem sql_ex {a : Addr} {xs : List V} (e : Ex H H') (h : SqL K H a xs) : SqL K H' a xs := Evl.ex_l e h
theorem sql {a : Addr} {xs : List V} (h : H a = some (.lst xs)) : SqL K H a xs := SqL.of h
theorem sqt {a : Addr} {xs : List V} (h : H a = some (.tup xs)) : SqT K H a xs := SqT.of h
theorem ty_sql {a : Addr} {xs : List V} (h : SqL K H a xs) : TyX K H (.ref a) (.type "list") := by
  rcases h with (h | ⟨o, h⟩) | ⟨o, its, n, h, c, _⟩
  · exact .base (.lst h)
  · exact .base (.frz h)
  · exact .kList h c
theorem ty_sqt {a : Addr} {xs : List V} (h : SqT K H a xs) : TyX K H (.ref a) (.type "tuple") := by
  rcases h with (h | ⟨o, h⟩) | ⟨o, its, n, h, c, _⟩
  · exact .base (.tup h)
  · exact .fTuple h
  · exact .kTuple h c
theorem tyL {a : Addr} {xs : List V} (h : H a = some (.lst xs)) : TyX K H (.ref a) (.type "list") := .base (.lst h)
theorem tyT {a : Addr} {xs : List V} (h : H a = some (.tup xs)) : TyX K H (.ref a) (.type "tuple") := .base (.tup h)
theorem tyI {i : Int} : TyX K H (.int i) (.type "int") := .base (.int i)
theorem tyS {i : Str} : TyX K H (.str i) (.type "str") := .base (.str i)
theorem tyB {i : Bool} : TyX K H (.bl i) (.type "bool") := .base (.bl i)
theorem tyN : TyX K H .non (.type "NoneType") := .base .non
end
/-! ### a heap without one object: what does not lean on it -/
def hid (p : Addr) (H : Hp) : Hp := fun b => if b = p then none else H b
theorem hid_ne {p b : Addr} {H : Hp} (h : b ≠ p) : hid p H b = H b := if_neg h
theorem hid_upd {p : Addr} {H : Hp} {o : HO} : hid p (upd H p o) = hid p H := by
  funext b
  unfold hid
  by_cases h : b = p
  · rw [if_pos h, if_pos h]
  · rw [if_neg h, if_neg h, upd_ne h]
theorem ex_hid {p : Addr} {H : Hp} : Ex (hid p H) H := fun b o h => by
  unfold hid at h
  by_cases e : b = p
  · rw [if_pos e] at h; cases h
  · rw [if_neg e] at h; exact h
theorem hid_mono {p : Addr} {H H' : Hp} (e : Ex H H') : Ex (hid p H) (hid p H') := fun b o h => by
  unfold hid at h ⊢
  by_cases q : b = p
  · rw [if_pos q] at h; cases h
  · rw [if_neg q] at h ⊢; exact e b o h
theorem hid_free {p : Addr} {H H' : Hp} (h : H p = none) (e : Ex H H') : Ex H (hid p H') := fun b o q => by
  have hb : b ≠ p := fun z => by rw [z, h] at q; cases q
  rw [hid_ne hb]
  exact e b o q
theorem hid_get {p : Addr} {H : Hp} {b : Addr} {o : HO} (h : H b = some o) (n : b ≠ p) : hid p H b = some o := by rw [hid_ne n]; exact h
theorem cmul_nat {i : Int} {z : Nat} (h : z ≤ 2 ^ 60) : CMul i (z : Int) := Or.inr ⟨by omega, by omega⟩
theorem drop_at {α : Type} {l : List α} {i : Nat} {x : α} (h : l[i]? = some x) : l.drop i = x :: l.drop (i + 1) := by
  obtain ⟨h1, h2⟩ := List.getElem?_eq_some_iff.mp h
  rw [List.drop_eq_getElem_cons h1, h2]
theorem take_at {α : Type} {l : List α} {i : Nat} {x : α} (h : l[i]? = some x) : l.take (i + 1) = l.take i ++ [x] := by
  rw [List.take_add_one, h]; rfl
theorem get_map {α β : Type} {f : α → β} {l : List α} {i : Nat} {y : β} (h : (l.map f)[i]? = some y) : ∃ x, l[i]? = some x ∧ y = f x := by
  rw [List.getElem?_map] at h
  obtain ⟨x, h1, h2⟩ := Option.map_eq_some_iff.mp h
  exact ⟨x, h1, h2.symm⟩
theorem get_lt {α : Type} {l : List α} {i : Nat} {x : α} (h : l[i]? = some x) : i < l.length := (List.getElem?_eq_some_iff.mp h).1
end Ts
namespace Mix
open PySem
open Sem (wp)
/-! # dicts whose keys are texts and tuples of ints, beside one another (my own; over the library's rules of the machine) -/
/-- whether a key is among the keys -/
def hasG {κ : Type} [DecidableEq κ] (k : κ) (l : List κ) : Bool := decide (k ∈ l)
theorem hasG_yes {κ : Type} [DecidableEq κ] {k : κ} {l : List κ} (h : k ∈ l) : hasG k l = true := decide_eq_true h
theorem hasG_no {κ : Type} [DecidableEq κ] {k : κ} {l : List κ} (h : k ∉ l) : hasG k l = false := decide_eq_false h
/-- a kind of key: by value or by object -/
structure MKind (prog : Program) (w : World) (κ : Type) [DecidableEq κ] where
  is : Heap → κ → Value → Prop
  hash : κ → Int
  draws : κ → Nat
  room : Around → Prop
  inj : ∀ {h : Heap} {v : Value} {x y : κ}, is h x v → is h y v → x = y
  text : ∀ {h : Heap} {v : Value} {x y : κ} {z : Str} {t : Tok}, is h x (.str z t) → is h y v → v.isStr z = decide (x = y)
  hashed : ∀ {A : Around} {E : Value → Shared → Prop} {s : Shared} {k : κ} {v : Value} {Q : Int → Shared → Prop}, room A → is s.heap k v → Q (hash k) { s with toks := s.toks + draws k } → wpAny (model prog w) A (pyHash v) Q E s
  same : ∀ {A : Around} {E : Value → Shared → Prop} {s : Shared} {x y : κ} {u v : Value} {Q : Bool → Shared → Prop}, room A → is s.heap x u → is s.heap y v → Q (decide (x = y)) s → wpAny (model prog w) A (eqBool u v) Q E s
  quiet : ∀ {A : Around} {E : Value → Shared → Prop} {s : Shared} {k : κ} {v : Value} {Q : Bool → Shared → Prop}, is s.heap k v → Q true s → wpAny (model prog w) A (eqIsQuiet 8 v) Q E s
section
variable {prog : Program} {w : World} {κ : Type} [DecidableEq κ] (M : MKind prog w κ)
def row (x : κ × Value × Value) : DictEntry := ⟨M.hash x.1, x.2.1, x.2.2⟩
variable {M} {A : Around} {E : Value → Shared → Prop} {s : Shared}
theorem row_at {es : Array DictEntry} {xs : List (κ × Value × Value)} (he : es.toList = xs.map (row M)) (j : Nat) : es[j]? = (xs[j]?).map (row M) := by
  rw [← Array.getElem?_toList, he, List.getElem?_map]
theorem row_size {es : Array DictEntry} {xs : List (κ × Value × Value)} (he : es.toList = xs.map (row M)) : es.size = xs.length := by
  have := congrArg List.length he
  simpa using this
/-- keys once: the place of a key is one -/
theorem one_place {xs : List (κ × Value × Value)} (nd : (xs.map (·.1)).Nodup) {i j : Nat} {k : κ} {p q : Value × Value} (hi : xs[i]? = some (k, p)) (hj : xs[j]? = some (k, q)) : i = j := by
  have a1 : (xs.map (·.1))[i]? = some k := by rw [List.getElem?_map, hi]; rfl
  have a2 : (xs.map (·.1))[j]? = some k := by rw [List.getElem?_map, hj]; rfl
  obtain ⟨b1, c1⟩ := List.getElem?_eq_some_iff.mp a1
  obtain ⟨b2, c2⟩ := List.getElem?_eq_some_iff.mp a2
  exact (List.getElem_inj nd).mp (c1.trans c2.symm)
theorem still {a : Value} {st : List Value} {Q : Bool → Shared → Prop} {k : κ} (hk : M.is s.heap k a) (hst : ∀ v ∈ st, ∃ k', M.is s.heap k' v) (h : Q false s) : wpAny (model prog w) A (tableMayTell a st) Q E s := by
  unfold tableMayTell
  split
  · exact wpAny_pure h
  · refine wpAny_bind (M.quiet hk ?_)
    simp only [Bool.not_true, Bool.false_eq_true, if_false]
    refine wpAny_bind ?_
    refine wpAny_forIn_list _ (fun left r s' => s' = s ∧ r = (none, ()) ∧ ∀ v ∈ left, ∃ k', M.is s.heap k' v) _ ?_ ?_ _ _ ⟨rfl, rfl, hst⟩
    · rintro v left r s' ⟨rfl, rfl, hl⟩
      obtain ⟨k', hv⟩ := hl v List.mem_cons_self
      refine wpAny_bind (M.quiet hv ?_)
      simp only [Bool.not_true, Bool.false_eq_true, if_false]
      exact wpAny_pure ⟨rfl, rfl, fun u hu => hl u (List.mem_cons_of_mem _ hu)⟩
    · rintro r s' ⟨rfl, rfl, _⟩
      exact wpAny_pure h
/-- the look-up: none where the key stands nowhere, else its place -/
theorem find {d : Addr} {o : Obj} {es : Array DictEntry} {ep : Nat} {xs : List (κ × Value × Value)} {k : κ} {key : Value} {Q : Option Nat → Shared → Prop} (hu : M.room A) (hk : M.is s.heap k key) (ho : s.heap.get? d = some o) (hd : o.data = .dict es ep)
    (he : es.toList = xs.map (row M)) (hx : ∀ x ∈ xs, M.is s.heap x.1 x.2.1) (nd : (xs.map (·.1)).Nodup) (hno : (∀ (j : Nat) (p : Value × Value), xs[j]? ≠ some (k, p)) → Q none s) (hyes : ∀ (j : Nat) (p : Value × Value), xs[j]? = some (k, p) → Q (some j) s) :
    wpAny (model prog w) A (dictFind d key (M.hash k)) Q E s := by
  have sz : es.size = xs.length := row_size he
  have hit : ∀ (j : Nat) (p : Value × Value), xs[j]? = some (k, p) → ((es[j]?.map (·.hash)) == some (M.hash k)) = true := fun j p hj => by
    rw [row_at he j, hj]
    show (some (M.hash k) == some (M.hash k)) = true
    simp
  have mem : ∀ e ∈ es, ∃ x ∈ xs, e = row M x := fun e hin => by
    have q : e ∈ xs.map (row M) := he ▸ Array.mem_toList_iff.mpr hin
    obtain ⟨x, h1, h2⟩ := List.mem_map.mp q
    exact ⟨x, h1, h2.symm⟩
  have hst : ∀ v ∈ (placesWithHash es.size (fun i => es[i]?.map (·.hash)) (M.hash k)).filterMap (fun i => es[i]?.map (·.key)), ∃ k', M.is s.heap k' v := fun v hv => by
    obtain ⟨i, _, hi⟩ := List.mem_filterMap.mp hv
    obtain ⟨e, h1, h2⟩ := Option.map_eq_some_iff.mp hi
    obtain ⟨x, h3, rfl⟩ := mem e (Array.mem_of_getElem? h1)
    subst h2
    exact ⟨x.1, hx x h3⟩
  -- the places that bear the hash, one behind the other
  have turn : ∀ {i j : Nat} {left : List Nat}, (j :: left) = (List.range' i (es.size - i)).filter (fun i => (es[i]?.map (·.hash)) == some (M.hash k)) → i ≤ es.size → (∀ a p, a < i → xs[a]? ≠ some (k, p)) →
      j < es.size ∧ left = (List.range' (j + 1) (es.size - (j + 1))).filter (fun i => (es[i]?.map (·.hash)) == some (M.hash k)) ∧ ∀ a p, a < j → xs[a]? ≠ some (k, p) := fun {i j left} hr hi hn => by
    obtain ⟨q1, q2, q3, q4, q5⟩ := filter_range'_cons _ _ _ _ _ hr.symm
    refine ⟨by omega, by rw [q5]; congr 2; omega, fun a p ha hap => ?_⟩
    rcases Nat.lt_or_ge a i with z | z
    · exact hn a p z hap
    · have := q4 a z ha
      rw [hit a p hap] at this
      cases this
  have last : ∀ {i : Nat}, [] = (List.range' i (es.size - i)).filter (fun i => (es[i]?.map (·.hash)) == some (M.hash k)) → (∀ a p, a < i → xs[a]? ≠ some (k, p)) → ∀ a p, xs[a]? ≠ some (k, p) := fun {i} hr hn a p hap => by
    rcases Nat.lt_or_ge a i with z | z
    · exact hn a p z hap
    · have hl : a < es.size := by rw [sz]; exact (List.getElem?_eq_some_iff.mp hap).1
      have := List.filter_eq_nil_iff.mp hr.symm a (List.mem_range'_1.mpr ⟨z, by omega⟩)
      exact this (hit a p hap)
  have there : ∀ {j : Nat}, j < es.size → ∃ y, xs[j]? = some y ∧ es[j]? = some (row M y) ∧ M.is s.heap y.1 y.2.1 := fun {j} hj => by
    have hj' : j < xs.length := by omega
    exact ⟨xs[j], List.getElem?_eq_getElem hj', by rw [row_at he j, List.getElem?_eq_getElem hj']; rfl, hx _ (List.getElem_mem hj')⟩
  have plain : wpAny (model prog w) A (dictWalkPlain d key (M.hash k) es (placesWithHash es.size (fun i => es[i]?.map (·.hash)) (M.hash k))) Q E s := by
    unfold dictWalkPlain
    refine wpAny_bind ?_
    refine wpAny_forIn_list _ (fun left b s' => s' = s ∧ b = (none, ()) ∧ ∃ i, left = (List.range' i (es.size - i)).filter (fun i => (es[i]?.map (·.hash)) == some (M.hash k)) ∧ i ≤ es.size ∧ ∀ a p, a < i → xs[a]? ≠ some (k, p)) _ ?_ ?_ _ _
      ⟨rfl, rfl, 0, by rw [placesWithHash, List.range_eq_range', Nat.sub_zero], Nat.zero_le _, fun _ _ z => absurd z (Nat.not_lt_zero _)⟩
    · rintro j left b s' ⟨rfl, rfl, i, hr, hi, hn⟩
      obtain ⟨t1, t2, t3⟩ := turn hr hi hn
      obtain ⟨y, y1, y2, y3⟩ := there t1
      have go : ¬ y.1 = k → ∃ i, left = (List.range' i (es.size - i)).filter (fun i => (es[i]?.map (·.hash)) == some (M.hash k)) ∧ i ≤ es.size ∧ ∀ a p, a < i → xs[a]? ≠ some (k, p) := fun ne => by
        refine ⟨j + 1, t2, t1, fun a p ha hap => ?_⟩
        rcases Nat.lt_or_ge a j with z | z
        · exact t3 a p z hap
        · have e : a = j := by omega
          rw [e, y1] at hap
          cases hap
          exact ne rfl
      rw [y2]
      dsimp only [row]
      by_cases hh : (M.hash y.1 == M.hash k) = true
      · rw [if_pos hh]
        refine wpAny_bind (wpAny_dictEpoch ho hd (wpAny_bind (M.same hu y3 hk (wpAny_bind (wpAny_dictEpoch ho hd ?_)))))
        show wpAny _ _ (if (ep != ep) = true then _ else _) _ E _
        rw [if_neg (by simp)]
        by_cases ek : y.1 = k
        · rw [decide_eq_true ek]
          refine wpAny_bind (wpAny_rule (wpAny_pure (wpAny_pure (hyes j y.2 ?_))))
          rw [y1, ← ek]
        · rw [decide_eq_false ek]
          exact wpAny_bind (wpAny_rule (wpAny_pure ⟨rfl, rfl, go ek⟩))
      · rw [if_neg hh]
        refine wpAny_pure ⟨rfl, rfl, go fun z => hh ?_⟩
        rw [z]
        exact beq_self_eq_true _
    · rintro b s' ⟨rfl, rfl, i, hr, hi, hn⟩
      exact wpAny_pure (hno (last hr hn))
  have notold : ∀ a, key = .ref a → ¬ (es.any fun e => e.key == Value.ref a && e.hash != M.hash k) = true := fun a ea => by
    rw [← Array.any_toList, List.any_eq_true]
    rintro ⟨e, hin, hc⟩
    obtain ⟨x, h1, rfl⟩ := mem e (Array.mem_toList_iff.mp hin)
    simp only [row, Bool.and_eq_true, beq_iff_eq, bne_iff_ne, ne_eq] at hc
    have q := hx x h1
    rw [hc.1, ← ea] at q
    exact hc.2 (by rw [M.inj q hk])
  unfold dictFind
  try with_reducible refine wpAny_holding ?_
  refine wpAny_bind (wpAny_dictEntries ho hd ?_)
  dsimp only
  have byText : ∀ (z : Str) (t : Tok), key = .str z t → wpAny (model prog w) A (foundByValue d key es z) Q E s := fun z t ek => by
    unfold foundByValue
    have fe : ∀ (j : Nat) (y : κ × Value × Value), xs[j]? = some y → (row M y).key.isStr z = decide (k = y.1) := fun j y hj => M.text (by rw [← ek]; exact hk) (hx y (List.mem_of_getElem? hj))
    cases hf : es.findIdx? (fun e => e.key.isStr z) with
    | none =>
      refine wpAny_pure (hno fun a p hap => ?_)
      have hl : a < es.size := by rw [sz]; exact (List.getElem?_eq_some_iff.mp hap).1
      have q := Array.findIdx?_eq_none_iff.mp hf es[a] (Array.getElem_mem hl)
      have e1 : es[a] = row M (k, p) := by
        have := row_at he a
        rw [hap, Array.getElem?_eq_getElem hl] at this
        exact Option.some.inj this
      rw [e1, fe a _ hap, decide_eq_true rfl] at q
      cases q
    | some i =>
      obtain ⟨hlt, hi, _⟩ := Array.findIdx?_eq_some_iff_getElem.mp hf
      obtain ⟨y, y1, y2, y3⟩ := there hlt
      have e1 : es[i] = row M y := by
        rw [Array.getElem?_eq_getElem hlt] at y2
        exact Option.some.inj y2
      rw [e1, fe i y y1] at hi
      have ek2 : k = y.1 := of_decide_eq_true hi
      dsimp only
      rw [y2]
      refine wpAny_bind (wpAny_dictEpoch ho hd (wpAny_bind (M.same hu y3 hk (wpAny_bind (wpAny_dictEpoch ho hd ?_)))))
      show wpAny _ _ (if (ep != ep) = true then _ else _) _ E _
      rw [if_neg (by simp), decide_eq_true ek2.symm]
      refine wpAny_bind (wpAny_rule (wpAny_pure (hyes i y.2 ?_)))
      rw [y1, ek2]
  split
  · rename_i z t
    by_cases hs : (es.all fun e => isExactStrKey e.key) = true
    · rw [if_pos hs]
      exact byText z t rfl
    · rw [if_neg hs]
      by_cases hall : ((Value.str z t :: (placesWithHash es.size (fun i => es[i]?.map (·.hash)) (M.hash k)).filterMap (fun i => es[i]?.map (·.key))).all carriedByValue) = true
      · rw [if_pos hall]
        exact plain
      · rw [if_neg hall]
        by_cases hone : (((placesWithHash es.size (fun i => es[i]?.map (·.hash)) (M.hash k)).filterMap (fun i => es[i]?.map (·.key))) == [Value.str z t]) = true
        · rw [if_pos hone]
          refine wpAny_bind (wpAny_pure ?_)
          rw [if_neg (by simp)]
          refine wpAny_bind ?_
          refine wpAny_forIn_list _ (fun left r s' => s' = s ∧ ∃ i hit', r = (none, hit') ∧ left = (List.range' i (es.size - i)).filter (fun i => (es[i]?.map (·.hash)) == some (M.hash k)) ∧ i ≤ es.size ∧
              ((hit' = none ∧ ∀ a p, a < i → xs[a]? ≠ some (k, p)) ∨ ∃ a p, hit' = some a ∧ a < i ∧ xs[a]? = some (k, p))) _ ?_ ?_ _ _ ⟨rfl, 0, none, rfl, by rw [placesWithHash, List.range_eq_range', Nat.sub_zero], Nat.zero_le _, .inl ⟨rfl, fun _ _ z => absurd z (Nat.not_lt_zero _)⟩⟩
          · rintro j left r s' ⟨rfl, i, hit', rfl, hr, hi, hh⟩
            obtain ⟨q1, q2, q3, q4, q5⟩ := filter_range'_cons _ _ _ _ _ hr.symm
            have t1 : j < es.size := by omega
            have t2 : left = (List.range' (j + 1) (es.size - (j + 1))).filter (fun i => (es[i]?.map (·.hash)) == some (M.hash k)) := by rw [q5]; congr 2; omega
            obtain ⟨y, y1, y2, y3⟩ := there t1
            -- up to here
            have now : (hit' = none ∧ ∀ a p, a < j → xs[a]? ≠ some (k, p)) ∨ ∃ a p, hit' = some a ∧ a < j ∧ xs[a]? = some (k, p) := by
              rcases hh with ⟨z, hn⟩ | ⟨a, p, z, z2, z3⟩
              · refine .inl ⟨z, fun a p ha hap => ?_⟩
                rcases Nat.lt_or_ge a i with c | c
                · exact hn a p c hap
                · have := q4 a c ha
                  rw [hit a p hap] at this
                  cases this
              · exact .inr ⟨a, p, z, by omega, z3⟩
            have on : ¬ y.1 = k → (hit' = none ∧ ∀ a p, a < j + 1 → xs[a]? ≠ some (k, p)) ∨ ∃ a p, hit' = some a ∧ a < j + 1 ∧ xs[a]? = some (k, p) := fun ne => by
              rcases now with ⟨z, hn⟩ | ⟨a, p, z, z2, z3⟩
              · refine .inl ⟨z, fun a p ha hap => ?_⟩
                rcases Nat.lt_or_ge a j with c | c
                · exact hn a p c hap
                · have e : a = j := by omega
                  rw [e, y1] at hap
                  cases hap
                  exact ne rfl
              · exact .inr ⟨a, p, z, by omega, z3⟩
            rw [y2]
            dsimp only [row]
            by_cases hq : (M.hash y.1 == M.hash k) = true
            · rw [if_pos hq]
              refine wpAny_bind (wpAny_dictEpoch ho hd (wpAny_bind (M.same hu y3 hk (wpAny_bind (wpAny_dictEpoch ho hd ?_)))))
              show wpAny _ _ (if (ep != ep) = true then _ else _) _ E _
              rw [if_neg (by simp)]
              by_cases ek : y.1 = k
              · have here : xs[j]? = some (k, y.2) := by rw [y1, ← ek]
                rw [decide_eq_true ek, if_pos rfl]
                rcases now with ⟨rfl, _⟩ | ⟨a, p, _, z2, z3⟩
                · rw [if_neg (show ¬ ((none : Option Nat).isSome = true) by simp)]
                  refine wpAny_bind (wpAny_rule ?_)
                  split
                  · exact wpAny_pure (wpAny_pure (hyes j y.2 here))
                  · exact wpAny_pure ⟨rfl, j + 1, some j, rfl, t2, t1, .inr ⟨j, y.2, rfl, Nat.lt_succ_self j, here⟩⟩
                · exact absurd (one_place nd z3 here) (by omega)
              · rw [decide_eq_false ek, if_neg Bool.false_ne_true]
                refine wpAny_bind (wpAny_rule ?_)
                rw [if_neg (by simp)]
                exact wpAny_pure ⟨rfl, j + 1, hit', rfl, t2, t1, on ek⟩
            · rw [if_neg hq]
              refine wpAny_pure ⟨rfl, j + 1, hit', rfl, t2, t1, on fun z => hq ?_⟩
              rw [z]
              exact beq_self_eq_true _
          · rintro r s' ⟨rfl, i, hit', rfl, hr, hi, hh⟩
            rcases hh with ⟨rfl, hn⟩ | ⟨a, p, rfl, _, z3⟩
            · exact wpAny_pure (hno (last hr hn))
            · exact wpAny_pure (hyes a p z3)
        · rw [if_neg hone]
          refine wpAny_bind (still hk hst ?_)
          rw [if_neg (by simp)]
          refine wpAny_bind ?_
          refine wpAny_forIn_list _ (fun left r s' => s' = s ∧ ∃ i hit', r = (none, hit') ∧ left = (List.range' i (es.size - i)).filter (fun i => (es[i]?.map (·.hash)) == some (M.hash k)) ∧ i ≤ es.size ∧
              ((hit' = none ∧ ∀ a p, a < i → xs[a]? ≠ some (k, p)) ∨ ∃ a p, hit' = some a ∧ a < i ∧ xs[a]? = some (k, p))) _ ?_ ?_ _ _ ⟨rfl, 0, none, rfl, by rw [placesWithHash, List.range_eq_range', Nat.sub_zero], Nat.zero_le _, .inl ⟨rfl, fun _ _ z => absurd z (Nat.not_lt_zero _)⟩⟩
          · rintro j left r s' ⟨rfl, i, hit', rfl, hr, hi, hh⟩
            obtain ⟨q1, q2, q3, q4, q5⟩ := filter_range'_cons _ _ _ _ _ hr.symm
            have t1 : j < es.size := by omega
            have t2 : left = (List.range' (j + 1) (es.size - (j + 1))).filter (fun i => (es[i]?.map (·.hash)) == some (M.hash k)) := by rw [q5]; congr 2; omega
            obtain ⟨y, y1, y2, y3⟩ := there t1
            -- up to here
            have now : (hit' = none ∧ ∀ a p, a < j → xs[a]? ≠ some (k, p)) ∨ ∃ a p, hit' = some a ∧ a < j ∧ xs[a]? = some (k, p) := by
              rcases hh with ⟨z, hn⟩ | ⟨a, p, z, z2, z3⟩
              · refine .inl ⟨z, fun a p ha hap => ?_⟩
                rcases Nat.lt_or_ge a i with c | c
                · exact hn a p c hap
                · have := q4 a c ha
                  rw [hit a p hap] at this
                  cases this
              · exact .inr ⟨a, p, z, by omega, z3⟩
            have on : ¬ y.1 = k → (hit' = none ∧ ∀ a p, a < j + 1 → xs[a]? ≠ some (k, p)) ∨ ∃ a p, hit' = some a ∧ a < j + 1 ∧ xs[a]? = some (k, p) := fun ne => by
              rcases now with ⟨z, hn⟩ | ⟨a, p, z, z2, z3⟩
              · refine .inl ⟨z, fun a p ha hap => ?_⟩
                rcases Nat.lt_or_ge a j with c | c
                · exact hn a p c hap
                · have e : a = j := by omega
                  rw [e, y1] at hap
                  cases hap
                  exact ne rfl
              · exact .inr ⟨a, p, z, by omega, z3⟩
            rw [y2]
            dsimp only [row]
            by_cases hq : (M.hash y.1 == M.hash k) = true
            · rw [if_pos hq]
              refine wpAny_bind (wpAny_dictEpoch ho hd (wpAny_bind (M.same hu y3 hk (wpAny_bind (wpAny_dictEpoch ho hd ?_)))))
              show wpAny _ _ (if (ep != ep) = true then _ else _) _ E _
              rw [if_neg (by simp)]
              by_cases ek : y.1 = k
              · have here : xs[j]? = some (k, y.2) := by rw [y1, ← ek]
                rw [decide_eq_true ek, if_pos rfl]
                rcases now with ⟨rfl, _⟩ | ⟨a, p, _, z2, z3⟩
                · rw [if_neg (show ¬ ((none : Option Nat).isSome = true) by simp)]
                  refine wpAny_bind (wpAny_rule ?_)
                  split
                  · exact wpAny_pure (wpAny_pure (hyes j y.2 here))
                  · exact wpAny_pure ⟨rfl, j + 1, some j, rfl, t2, t1, .inr ⟨j, y.2, rfl, Nat.lt_succ_self j, here⟩⟩
                · exact absurd (one_place nd z3 here) (by omega)
              · rw [decide_eq_false ek, if_neg Bool.false_ne_true]
                refine wpAny_bind (wpAny_rule ?_)
                rw [if_neg (by simp)]
                exact wpAny_pure ⟨rfl, j + 1, hit', rfl, t2, t1, on ek⟩
            · rw [if_neg hq]
              refine wpAny_pure ⟨rfl, j + 1, hit', rfl, t2, t1, on fun z => hq ?_⟩
              rw [z]
              exact beq_self_eq_true _
          · rintro r s' ⟨rfl, i, hit', rfl, hr, hi, hh⟩
            rcases hh with ⟨rfl, hn⟩ | ⟨a, p, rfl, _, z3⟩
            · exact wpAny_pure (hno (last hr hn))
            · exact wpAny_pure (hyes a p z3)
  · rename_i nstr
    by_cases hall : ((key :: (placesWithHash es.size (fun i => es[i]?.map (·.hash)) (M.hash k)).filterMap (fun i => es[i]?.map (·.key))).all carriedByValue) = true
    · rw [if_pos hall]
      exact plain
    · rw [if_neg hall]
      split
      · rename_i a
        rw [if_neg (notold a rfl)]
        by_cases hone : (((placesWithHash es.size (fun i => es[i]?.map (·.hash)) (M.hash k)).filterMap (fun i => es[i]?.map (·.key))) == [Value.ref a]) = true
        · rw [if_pos hone]
          refine wpAny_bind (wpAny_pure ?_)
          rw [if_neg (by simp)]
          refine wpAny_bind ?_
          refine wpAny_forIn_list _ (fun left r s' => s' = s ∧ ∃ i hit', r = (none, hit') ∧ left = (List.range' i (es.size - i)).filter (fun i => (es[i]?.map (·.hash)) == some (M.hash k)) ∧ i ≤ es.size ∧
              ((hit' = none ∧ ∀ a p, a < i → xs[a]? ≠ some (k, p)) ∨ ∃ a p, hit' = some a ∧ a < i ∧ xs[a]? = some (k, p))) _ ?_ ?_ _ _ ⟨rfl, 0, none, rfl, by rw [placesWithHash, List.range_eq_range', Nat.sub_zero], Nat.zero_le _, .inl ⟨rfl, fun _ _ z => absurd z (Nat.not_lt_zero _)⟩⟩
          · rintro j left r s' ⟨rfl, i, hit', rfl, hr, hi, hh⟩
            obtain ⟨q1, q2, q3, q4, q5⟩ := filter_range'_cons _ _ _ _ _ hr.symm
            have t1 : j < es.size := by omega
            have t2 : left = (List.range' (j + 1) (es.size - (j + 1))).filter (fun i => (es[i]?.map (·.hash)) == some (M.hash k)) := by rw [q5]; congr 2; omega
            obtain ⟨y, y1, y2, y3⟩ := there t1
            -- up to here
            have now : (hit' = none ∧ ∀ a p, a < j → xs[a]? ≠ some (k, p)) ∨ ∃ a p, hit' = some a ∧ a < j ∧ xs[a]? = some (k, p) := by
              rcases hh with ⟨z, hn⟩ | ⟨a, p, z, z2, z3⟩
              · refine .inl ⟨z, fun a p ha hap => ?_⟩
                rcases Nat.lt_or_ge a i with c | c
                · exact hn a p c hap
                · have := q4 a c ha
                  rw [hit a p hap] at this
                  cases this
              · exact .inr ⟨a, p, z, by omega, z3⟩
            have on : ¬ y.1 = k → (hit' = none ∧ ∀ a p, a < j + 1 → xs[a]? ≠ some (k, p)) ∨ ∃ a p, hit' = some a ∧ a < j + 1 ∧ xs[a]? = some (k, p) := fun ne => by
              rcases now with ⟨z, hn⟩ | ⟨a, p, z, z2, z3⟩
              · refine .inl ⟨z, fun a p ha hap => ?_⟩
                rcases Nat.lt_or_ge a j with c | c
                · exact hn a p c hap
                · have e : a = j := by omega
                  rw [e, y1] at hap
                  cases hap
                  exact ne rfl
              · exact .inr ⟨a, p, z, by omega, z3⟩
            rw [y2]
            dsimp only [row]
            by_cases hq : (M.hash y.1 == M.hash k) = true
            · rw [if_pos hq]
              refine wpAny_bind (wpAny_dictEpoch ho hd (wpAny_bind (M.same hu y3 hk (wpAny_bind (wpAny_dictEpoch ho hd ?_)))))
              show wpAny _ _ (if (ep != ep) = true then _ else _) _ E _
              rw [if_neg (by simp)]
              by_cases ek : y.1 = k
              · have here : xs[j]? = some (k, y.2) := by rw [y1, ← ek]
                rw [decide_eq_true ek, if_pos rfl]
                rcases now with ⟨rfl, _⟩ | ⟨a, p, _, z2, z3⟩
                · rw [if_neg (show ¬ ((none : Option Nat).isSome = true) by simp)]
                  refine wpAny_bind (wpAny_rule ?_)
                  split
                  · exact wpAny_pure (wpAny_pure (hyes j y.2 here))
                  · exact wpAny_pure ⟨rfl, j + 1, some j, rfl, t2, t1, .inr ⟨j, y.2, rfl, Nat.lt_succ_self j, here⟩⟩
                · exact absurd (one_place nd z3 here) (by omega)
              · rw [decide_eq_false ek, if_neg Bool.false_ne_true]
                refine wpAny_bind (wpAny_rule ?_)
                rw [if_neg (by simp)]
                exact wpAny_pure ⟨rfl, j + 1, hit', rfl, t2, t1, on ek⟩
            · rw [if_neg hq]
              refine wpAny_pure ⟨rfl, j + 1, hit', rfl, t2, t1, on fun z => hq ?_⟩
              rw [z]
              exact beq_self_eq_true _
          · rintro r s' ⟨rfl, i, hit', rfl, hr, hi, hh⟩
            rcases hh with ⟨rfl, hn⟩ | ⟨a, p, rfl, _, z3⟩
            · exact wpAny_pure (hno (last hr hn))
            · exact wpAny_pure (hyes a p z3)
        · rw [if_neg hone]
          refine wpAny_bind (still hk hst ?_)
          rw [if_neg (by simp)]
          refine wpAny_bind ?_
          refine wpAny_forIn_list _ (fun left r s' => s' = s ∧ ∃ i hit', r = (none, hit') ∧ left = (List.range' i (es.size - i)).filter (fun i => (es[i]?.map (·.hash)) == some (M.hash k)) ∧ i ≤ es.size ∧
              ((hit' = none ∧ ∀ a p, a < i → xs[a]? ≠ some (k, p)) ∨ ∃ a p, hit' = some a ∧ a < i ∧ xs[a]? = some (k, p))) _ ?_ ?_ _ _ ⟨rfl, 0, none, rfl, by rw [placesWithHash, List.range_eq_range', Nat.sub_zero], Nat.zero_le _, .inl ⟨rfl, fun _ _ z => absurd z (Nat.not_lt_zero _)⟩⟩
          · rintro j left r s' ⟨rfl, i, hit', rfl, hr, hi, hh⟩
            obtain ⟨q1, q2, q3, q4, q5⟩ := filter_range'_cons _ _ _ _ _ hr.symm
            have t1 : j < es.size := by omega
            have t2 : left = (List.range' (j + 1) (es.size - (j + 1))).filter (fun i => (es[i]?.map (·.hash)) == some (M.hash k)) := by rw [q5]; congr 2; omega
            obtain ⟨y, y1, y2, y3⟩ := there t1
            -- up to here
            have now : (hit' = none ∧ ∀ a p, a < j → xs[a]? ≠ some (k, p)) ∨ ∃ a p, hit' = some a ∧ a < j ∧ xs[a]? = some (k, p) := by
              rcases hh with ⟨z, hn⟩ | ⟨a, p, z, z2, z3⟩
              · refine .inl ⟨z, fun a p ha hap => ?_⟩
                rcases Nat.lt_or_ge a i with c | c
                · exact hn a p c hap
                · have := q4 a c ha
                  rw [hit a p hap] at this
                  cases this
              · exact .inr ⟨a, p, z, by omega, z3⟩
            have on : ¬ y.1 = k → (hit' = none ∧ ∀ a p, a < j + 1 → xs[a]? ≠ some (k, p)) ∨ ∃ a p, hit' = some a ∧ a < j + 1 ∧ xs[a]? = some (k, p) := fun ne => by
              rcases now with ⟨z, hn⟩ | ⟨a, p, z, z2, z3⟩
              · refine .inl ⟨z, fun a p ha hap => ?_⟩
                rcases Nat.lt_or_ge a j with c | c
                · exact hn a p c hap
                · have e : a = j := by omega
                  rw [e, y1] at hap
                  cases hap
                  exact ne rfl
              · exact .inr ⟨a, p, z, by omega, z3⟩
            rw [y2]
            dsimp only [row]
            by_cases hq : (M.hash y.1 == M.hash k) = true
            · rw [if_pos hq]
              refine wpAny_bind (wpAny_dictEpoch ho hd (wpAny_bind (M.same hu y3 hk (wpAny_bind (wpAny_dictEpoch ho hd ?_)))))
              show wpAny _ _ (if (ep != ep) = true then _ else _) _ E _
              rw [if_neg (by simp)]
              by_cases ek : y.1 = k
              · have here : xs[j]? = some (k, y.2) := by rw [y1, ← ek]
                rw [decide_eq_true ek, if_pos rfl]
                rcases now with ⟨rfl, _⟩ | ⟨a, p, _, z2, z3⟩
                · rw [if_neg (show ¬ ((none : Option Nat).isSome = true) by simp)]
                  refine wpAny_bind (wpAny_rule ?_)
                  split
                  · exact wpAny_pure (wpAny_pure (hyes j y.2 here))
                  · exact wpAny_pure ⟨rfl, j + 1, some j, rfl, t2, t1, .inr ⟨j, y.2, rfl, Nat.lt_succ_self j, here⟩⟩
                · exact absurd (one_place nd z3 here) (by omega)
              · rw [decide_eq_false ek, if_neg Bool.false_ne_true]
                refine wpAny_bind (wpAny_rule ?_)
                rw [if_neg (by simp)]
                exact wpAny_pure ⟨rfl, j + 1, hit', rfl, t2, t1, on ek⟩
            · rw [if_neg hq]
              refine wpAny_pure ⟨rfl, j + 1, hit', rfl, t2, t1, on fun z => hq ?_⟩
              rw [z]
              exact beq_self_eq_true _
          · rintro r s' ⟨rfl, i, hit', rfl, hr, hi, hh⟩
            rcases hh with ⟨rfl, hn⟩ | ⟨a, p, rfl, _, z3⟩
            · exact wpAny_pure (hno (last hr hn))
            · exact wpAny_pure (hyes a p z3)
      · by_cases hone : (((placesWithHash es.size (fun i => es[i]?.map (·.hash)) (M.hash k)).filterMap (fun i => es[i]?.map (·.key))) == [key]) = true
        · rw [if_pos hone]
          refine wpAny_bind (wpAny_pure ?_)
          rw [if_neg (by simp)]
          refine wpAny_bind ?_
          refine wpAny_forIn_list _ (fun left r s' => s' = s ∧ ∃ i hit', r = (none, hit') ∧ left = (List.range' i (es.size - i)).filter (fun i => (es[i]?.map (·.hash)) == some (M.hash k)) ∧ i ≤ es.size ∧
              ((hit' = none ∧ ∀ a p, a < i → xs[a]? ≠ some (k, p)) ∨ ∃ a p, hit' = some a ∧ a < i ∧ xs[a]? = some (k, p))) _ ?_ ?_ _ _ ⟨rfl, 0, none, rfl, by rw [placesWithHash, List.range_eq_range', Nat.sub_zero], Nat.zero_le _, .inl ⟨rfl, fun _ _ z => absurd z (Nat.not_lt_zero _)⟩⟩
          · rintro j left r s' ⟨rfl, i, hit', rfl, hr, hi, hh⟩
            obtain ⟨q1, q2, q3, q4, q5⟩ := filter_range'_cons _ _ _ _ _ hr.symm
            have t1 : j < es.size := by omega
            have t2 : left = (List.range' (j + 1) (es.size - (j + 1))).filter (fun i => (es[i]?.map (·.hash)) == some (M.hash k)) := by rw [q5]; congr 2; omega
            obtain ⟨y, y1, y2, y3⟩ := there t1
            -- up to here
            have now : (hit' = none ∧ ∀ a p, a < j → xs[a]? ≠ some (k, p)) ∨ ∃ a p, hit' = some a ∧ a < j ∧ xs[a]? = some (k, p) := by
              rcases hh with ⟨z, hn⟩ | ⟨a, p, z, z2, z3⟩
              · refine .inl ⟨z, fun a p ha hap => ?_⟩
                rcases Nat.lt_or_ge a i with c | c
                · exact hn a p c hap
                · have := q4 a c ha
                  rw [hit a p hap] at this
                  cases this
              · exact .inr ⟨a, p, z, by omega, z3⟩
            have on : ¬ y.1 = k → (hit' = none ∧ ∀ a p, a < j + 1 → xs[a]? ≠ some (k, p)) ∨ ∃ a p, hit' = some a ∧ a < j + 1 ∧ xs[a]? = some (k, p) := fun ne => by
              rcases now with ⟨z, hn⟩ | ⟨a, p, z, z2, z3⟩
              · refine .inl ⟨z, fun a p ha hap => ?_⟩
                rcases Nat.lt_or_ge a j with c | c
                · exact hn a p c hap
                · have e : a = j := by omega
                  rw [e, y1] at hap
                  cases hap
                  exact ne rfl
              · exact .inr ⟨a, p, z, by omega, z3⟩
            rw [y2]
            dsimp only [row]
            by_cases hq : (M.hash y.1 == M.hash k) = true
            · rw [if_pos hq]
              refine wpAny_bind (wpAny_dictEpoch ho hd (wpAny_bind (M.same hu y3 hk (wpAny_bind (wpAny_dictEpoch ho hd ?_)))))
              show wpAny _ _ (if (ep != ep) = true then _ else _) _ E _
              rw [if_neg (by simp)]
              by_cases ek : y.1 = k
              · have here : xs[j]? = some (k, y.2) := by rw [y1, ← ek]
                rw [decide_eq_true ek, if_pos rfl]
                rcases now with ⟨rfl, _⟩ | ⟨a, p, _, z2, z3⟩
                · rw [if_neg (show ¬ ((none : Option Nat).isSome = true) by simp)]
                  refine wpAny_bind (wpAny_rule ?_)
                  split
                  · exact wpAny_pure (wpAny_pure (hyes j y.2 here))
                  · exact wpAny_pure ⟨rfl, j + 1, some j, rfl, t2, t1, .inr ⟨j, y.2, rfl, Nat.lt_succ_self j, here⟩⟩
                · exact absurd (one_place nd z3 here) (by omega)
              · rw [decide_eq_false ek, if_neg Bool.false_ne_true]
                refine wpAny_bind (wpAny_rule ?_)
                rw [if_neg (by simp)]
                exact wpAny_pure ⟨rfl, j + 1, hit', rfl, t2, t1, on ek⟩
            · rw [if_neg hq]
              refine wpAny_pure ⟨rfl, j + 1, hit', rfl, t2, t1, on fun z => hq ?_⟩
              rw [z]
              exact beq_self_eq_true _
          · rintro r s' ⟨rfl, i, hit', rfl, hr, hi, hh⟩
            rcases hh with ⟨rfl, hn⟩ | ⟨a, p, rfl, _, z3⟩
            · exact wpAny_pure (hno (last hr hn))
            · exact wpAny_pure (hyes a p z3)
        · rw [if_neg hone]
          refine wpAny_bind (still hk hst ?_)
          rw [if_neg (by simp)]
          refine wpAny_bind ?_
          refine wpAny_forIn_list _ (fun left r s' => s' = s ∧ ∃ i hit', r = (none, hit') ∧ left = (List.range' i (es.size - i)).filter (fun i => (es[i]?.map (·.hash)) == some (M.hash k)) ∧ i ≤ es.size ∧
              ((hit' = none ∧ ∀ a p, a < i → xs[a]? ≠ some (k, p)) ∨ ∃ a p, hit' = some a ∧ a < i ∧ xs[a]? = some (k, p))) _ ?_ ?_ _ _ ⟨rfl, 0, none, rfl, by rw [placesWithHash, List.range_eq_range', Nat.sub_zero], Nat.zero_le _, .inl ⟨rfl, fun _ _ z => absurd z (Nat.not_lt_zero _)⟩⟩
          · rintro j left r s' ⟨rfl, i, hit', rfl, hr, hi, hh⟩
            obtain ⟨q1, q2, q3, q4, q5⟩ := filter_range'_cons _ _ _ _ _ hr.symm
            have t1 : j < es.size := by omega
            have t2 : left = (List.range' (j + 1) (es.size - (j + 1))).filter (fun i => (es[i]?.map (·.hash)) == some (M.hash k)) := by rw [q5]; congr 2; omega
            obtain ⟨y, y1, y2, y3⟩ := there t1
            -- up to here
            have now : (hit' = none ∧ ∀ a p, a < j → xs[a]? ≠ some (k, p)) ∨ ∃ a p, hit' = some a ∧ a < j ∧ xs[a]? = some (k, p) := by
              rcases hh with ⟨z, hn⟩ | ⟨a, p, z, z2, z3⟩
              · refine .inl ⟨z, fun a p ha hap => ?_⟩
                rcases Nat.lt_or_ge a i with c | c
                · exact hn a p c hap
                · have := q4 a c ha
                  rw [hit a p hap] at this
                  cases this
              · exact .inr ⟨a, p, z, by omega, z3⟩
            have on : ¬ y.1 = k → (hit' = none ∧ ∀ a p, a < j + 1 → xs[a]? ≠ some (k, p)) ∨ ∃ a p, hit' = some a ∧ a < j + 1 ∧ xs[a]? = some (k, p) := fun ne => by
              rcases now with ⟨z, hn⟩ | ⟨a, p, z, z2, z3⟩
              · refine .inl ⟨z, fun a p ha hap => ?_⟩
                rcases Nat.lt_or_ge a j with c | c
                · exact hn a p c hap
                · have e : a = j := by omega
                  rw [e, y1] at hap
                  cases hap
                  exact ne rfl
              · exact .inr ⟨a, p, z, by omega, z3⟩
            rw [y2]
            dsimp only [row]
            by_cases hq : (M.hash y.1 == M.hash k) = true
            · rw [if_pos hq]
              refine wpAny_bind (wpAny_dictEpoch ho hd (wpAny_bind (M.same hu y3 hk (wpAny_bind (wpAny_dictEpoch ho hd ?_)))))
              show wpAny _ _ (if (ep != ep) = true then _ else _) _ E _
              rw [if_neg (by simp)]
              by_cases ek : y.1 = k
              · have here : xs[j]? = some (k, y.2) := by rw [y1, ← ek]
                rw [decide_eq_true ek, if_pos rfl]
                rcases now with ⟨rfl, _⟩ | ⟨a, p, _, z2, z3⟩
                · rw [if_neg (show ¬ ((none : Option Nat).isSome = true) by simp)]
                  refine wpAny_bind (wpAny_rule ?_)
                  split
                  · exact wpAny_pure (wpAny_pure (hyes j y.2 here))
                  · exact wpAny_pure ⟨rfl, j + 1, some j, rfl, t2, t1, .inr ⟨j, y.2, rfl, Nat.lt_succ_self j, here⟩⟩
                · exact absurd (one_place nd z3 here) (by omega)
              · rw [decide_eq_false ek, if_neg Bool.false_ne_true]
                refine wpAny_bind (wpAny_rule ?_)
                rw [if_neg (by simp)]
                exact wpAny_pure ⟨rfl, j + 1, hit', rfl, t2, t1, on ek⟩
            · rw [if_neg hq]
              refine wpAny_pure ⟨rfl, j + 1, hit', rfl, t2, t1, on fun z => hq ?_⟩
              rw [z]
              exact beq_self_eq_true _
          · rintro r s' ⟨rfl, i, hit', rfl, hr, hi, hh⟩
            rcases hh with ⟨rfl, hn⟩ | ⟨a, p, rfl, _, z3⟩
            · exact wpAny_pure (hno (last hr hn))
            · exact wpAny_pure (hyes a p z3)

/-- at d stands a dict of these rows -/
def Rows (M : MKind prog w κ) (h : Heap) (d : Addr) (xs : List (κ × Value × Value)) : Prop :=
  ∃ o es ep, h.get? d = some o ∧ o.ExactDict ∧ o.data = .dict es ep ∧ es.toList = xs.map (row M) ∧ (xs.map (·.1)).Nodup
theorem Rows.ty {d : Addr} {xs : List (κ × Value × Value)} (R : Rows M s.heap d xs) : s.TypeIs (.ref d) "dict" := let ⟨o, _, _, ho, hc, _⟩ := R; ⟨o, ho, hc.1⟩
variable {d : Addr} {xs : List (κ × Value × Value)} {k : κ} {key v : Value}
theorem get {Q : Option Value → Shared → Prop} (hu : M.room A) (hk : M.is s.heap k key) (R : Rows M s.heap d xs) (hx : ∀ x ∈ xs, M.is s.heap x.1 x.2.1)
    (hno : (∀ (j : Nat) (p : Value × Value), xs[j]? ≠ some (k, p)) → Q none { s with toks := s.toks + M.draws k }) (hyes : ∀ (j : Nat) (p : Value × Value), xs[j]? = some (k, p) → Q (some p.2) { s with toks := s.toks + M.draws k }) :
    wpAny (model prog w) A (dictGet d key) Q E s := by
  obtain ⟨o, es, ep, ho, _, hd, he, nd⟩ := R
  unfold dictGet
  try with_reducible refine wpAny_holding ?_
  refine wpAny_bind (M.hashed hu hk (wpAny_bind (find (s := { s with toks := s.toks + M.draws k }) hu hk ho hd he hx nd (fun z => wpAny_pure (hno z)) fun j p hj => ?_)))
  refine wpAny_bind (wpAny_dictEntries (s := { s with toks := s.toks + M.draws k }) ho hd ?_)
  rw [row_at he j, hj]
  exact wpAny_pure (hyes j p hj)
theorem put {Q : Unit → Shared → Prop} (hu : M.room A) (hk : M.is s.heap k key) (R : Rows M s.heap d xs) (hx : ∀ x ∈ xs, M.is s.heap x.1 x.2.1) (hz : xs.length ≤ sizeLine) (new : k ∉ xs.map (·.1))
    (hQ : ∀ h', Rows M h' d (xs ++ [(k, key, v)]) → Heap.SameBut d s.heap h' → Q () { s with heap := h', toks := s.toks + M.draws k }) : wpAny (model prog w) A (dictSet d key v) Q E s := by
  obtain ⟨o, es, ep, ho, hc, hd, he, nd⟩ := R
  unfold dictSet
  try with_reducible refine wpAny_holding ?_
  refine wpAny_bind (M.hashed hu hk ?_)
  unfold dictSetHashed
  try with_reducible refine wpAny_holding ?_
  refine wpAny_bind (find (s := { s with toks := s.toks + M.draws k }) hu hk ho hd he hx nd (fun _ => ?_) fun j p hj => ?_)
  · have z : es.size ≤ sizeLine := by rw [row_size he]; exact hz
    refine wpAny_bind (wpAny_rule (wpAny_updateDictKeys (hz := z) (s := { s with toks := s.toks + M.draws k }) ho hd (hQ _ ⟨_, _, ep + 1, Heap.get?_update_self _ ho (Obj.isFreed_of_dict (Obj.data_mapDictKeys hd _)), hc.mapDictKeys _, Obj.data_mapDictKeys hd _, ?_, ?_⟩ (Heap.SameBut.update ..))))
    · rw [Array.toList_push, he, List.map_append]
      rfl
    · rw [List.map_append, List.nodup_append]
      refine ⟨nd, by simp, fun a ha b hb => ?_⟩
      have e : b = k := by simpa using hb
      rw [e]
      exact fun z => new (z ▸ ha)
  · exact absurd (List.mem_map.mpr ⟨(k, p), List.mem_of_getElem? hj, rfl⟩) new
/-- k in d, k not in d -/
theorem contains_at {Q : Bool → Shared → Prop} (hu : M.room A.in1) (hk : M.is s.heap k key) (lo : (d == sysModules) = false) (R : Rows M s.heap d xs) (hx : ∀ x ∈ xs, M.is s.heap x.1 x.2.1) (h : Q (hasG k (xs.map (·.1))) { s with toks := s.toks + M.draws k }) :
    wpAny (model prog w) A (contains (.ref d) key) Q E s := by
  unfold contains
  try with_reducible refine wpAny_holding ?_
  refine wpAny_bind (wpAny_specialOf R.ty slot_dict_contains.lookup ?_)
  show wpAny _ _ (if (some (Value.builtin "dict.__contains__") == some Value.none) = true then _ else _) _ E s
  rw [if_neg (by rw [beq_builtin_none]; exact Bool.false_ne_true)]
  refine wpAny_bind (wpAny_callSpecialUnlessNone?_slot (name := Str.ofString "__contains__") R.ty slot_dict_contains (wpAny_call_entry slot_dict_contains R.ty entry_dict_contains ?_ (args_dict_contains _ _)))
  show wpAny _ _ (dictGet d key >>= _) _ _ s
  refine wpAny_bind (get hu hk R hx (fun hn => ?_) fun j p hj => ?_)
  · have e : k ∉ xs.map (·.1) := fun m => by
      obtain ⟨x, h1, h2⟩ := List.mem_map.mp m
      obtain ⟨j, hj⟩ := List.mem_iff_getElem?.mp h1
      exact hn j x.2 (by rw [hj, ← h2])
    rw [hasG_no e] at h
    show wpAny _ _ (Builtin.Dict.pendingKey? d key >>= _) _ _ _
    exact wpAny_bind (wpAny_pendingKey_other lo (wpAny_pure ⟨_, rfl, wpAny_truthy_bool h⟩))
  · have yes : k ∈ xs.map (·.1) := List.mem_map.mpr ⟨(k, p), List.mem_of_getElem? hj, rfl⟩
    rw [hasG_yes yes] at h
    show wpAny _ _ (ret (.bool true)) _ _ _
    exact wpAny_pure ⟨_, rfl, wpAny_truthy_bool h⟩
theorem op_in {Q : Value → Shared → Prop} (hu : M.room A.in1) (hk : M.is s.heap k key) (lo : (d == sysModules) = false) (R : Rows M s.heap d xs) (hx : ∀ x ∈ xs, M.is s.heap x.1 x.2.1) (h : Q (.bool (hasG k (xs.map (·.1)))) { s with toks := s.toks + M.draws k }) :
    wpAny (model prog w) A (compareOp .In key (.ref d)) Q E s := by
  show wpAny _ _ (do return .bool (← contains (.ref d) key)) Q E s
  exact wpAny_bind (contains_at hu hk lo R hx (wpAny_pure h))
theorem op_notin {Q : Value → Shared → Prop} (hu : M.room A.in1) (hk : M.is s.heap k key) (lo : (d == sysModules) = false) (R : Rows M s.heap d xs) (hx : ∀ x ∈ xs, M.is s.heap x.1 x.2.1) (h : Q (.bool (!hasG k (xs.map (·.1)))) { s with toks := s.toks + M.draws k }) :
    wpAny (model prog w) A (compareOp .NotIn key (.ref d)) Q E s := by
  show wpAny _ _ (do return .bool (!(← contains (.ref d) key))) Q E s
  exact wpAny_bind (contains_at hu hk lo R hx (wpAny_pure h))
theorem item {Q : Value → Shared → Prop} {j : Nat} {p : Value × Value} (hu : M.room A.in1) (hk : M.is s.heap k key) (R : Rows M s.heap d xs) (hx : ∀ x ∈ xs, M.is s.heap x.1 x.2.1) (hp : xs[j]? = some (k, p)) (h : Q p.2 { s with toks := s.toks + M.draws k }) :
    wpAny (model prog w) A (getItem (.ref d) key) Q E s := by
  have nd : (xs.map (·.1)).Nodup := let ⟨_, _, _, _, _, _, _, nd⟩ := R; nd
  unfold getItem
  try with_reducible refine wpAny_holding ?_
  refine wpAny_bind (wpAny_sequenceKey R.ty (by decide) ?_)
  refine wpAny_bind (wpAny_callSpecial?_slot (name := Str.ofString "__getitem__") R.ty slot_dict_getitem (wpAny_call_entry slot_dict_getitem R.ty entry_dict_getitem ?_ (args_dict_getitem _ _)))
  show wpAny _ _ (dictGet d key >>= _) _ _ s
  refine wpAny_bind (get hu hk R hx (fun hn => absurd hp (hn j p)) fun i q hq => ?_)
  have e := one_place nd hq hp
  subst e
  rw [hp] at hq
  cases hq
  exact wpAny_pure ⟨p.2, rfl, wpAny_pure h⟩
theorem store {Q : Unit → Shared → Prop} (hu : M.room A.in1) (hk : M.is s.heap k key) (R : Rows M s.heap d xs) (hx : ∀ x ∈ xs, M.is s.heap x.1 x.2.1) (hz : xs.length ≤ sizeLine) (new : k ∉ xs.map (·.1))
    (hQ : ∀ h', Rows M h' d (xs ++ [(k, key, v)]) → Heap.SameBut d s.heap h' → Q () { s with heap := h', toks := s.toks + M.draws k }) : wpAny (model prog w) A (setItem (.ref d) key v) Q E s := by
  unfold setItem
  try with_reducible refine wpAny_holding ?_
  refine wpAny_bind (wpAny_sequenceKey R.ty (by decide) ?_)
  refine wpAny_bind (wpAny_callSpecial?_slot (name := Str.ofString "__setitem__") R.ty slot_dict_setitem (wpAny_call_entry slot_dict_setitem R.ty entry_dict_setitem ?_ (args_dict_setitem _ _ _)))
  show wpAny _ _ (Builtin.Dict.notOrdered "__setitem__" ⟨[.ref d, key, v], []⟩ >>= _) _ _ s
  refine wpAny_bind (wpAny_notOrdered_dict R.ty ?_)
  show wpAny _ _ (dictSet d key v >>= _) _ _ s
  exact wpAny_bind (put hu hk R hx hz new fun h' R' hs => wpAny_pure ⟨.none, rfl, wpAny_pure (hQ h' R' hs)⟩)
end
/-! ## texts and tuples of ints -/
inductive MK where
  | row (x : Str)
  | tup (ks : List Int)
  deriving DecidableEq
def mixIs (prog : Program) (w : World) (h : Heap) : MK → Value → Prop
  | .row x, v => ∃ t, v = .str x t
  | .tup ks, v => ∃ a, v = .ref a ∧ IsTupleKey (intKind prog w) h ks a
theorem tup_of {prog : Program} {w : World} {h : Heap} {ks : List Int} {a : Addr} (x : IsTupleKey (intKind prog w) h ks a) : ∃ its, h.IsTuple a its := by
  obtain ⟨o, items, n, ho, hc, hd, _⟩ := x
  exact ⟨items, o, ho, hc, n, hd⟩
def mixK (prog : Program) (w : World) : MKind prog w MK where
  is := mixIs prog w
  hash := fun k => match k with
    | .row x => hashStr w x
    | .tup ks => tupleKeyHash (intKind prog w) ks
  draws := fun k => match k with
    | .row _ => 1
    | .tup ks => ks.length + 1
  room := fun A => A.units < cLine
  inj := fun {h v x y} hx hy => by
    cases x with
    | row x =>
      cases y with
      | row y =>
        obtain ⟨t, rfl⟩ := hx
        obtain ⟨u, e⟩ := hy
        injection e with e1 _
        rw [e1]
      | tup y =>
        obtain ⟨t, rfl⟩ := hx
        obtain ⟨u, e, _⟩ := hy
        exact nomatch e
    | tup x =>
      cases y with
      | row y =>
        obtain ⟨u, rfl, _⟩ := hx
        obtain ⟨t, e⟩ := hy
        exact nomatch e
      | tup y =>
        obtain ⟨a, rfl, h1⟩ := hx
        obtain ⟨b, e, h2⟩ := hy
        cases e
        rw [h1.inj h2]
  text := fun {h v x y z t} hx hy => by
    cases x with
    | tup x =>
      obtain ⟨a, e, _⟩ := hx
      exact nomatch e
    | row x =>
      obtain ⟨t', e⟩ := hx
      injection e with e1 _
      subst e1
      cases y with
      | row y =>
        obtain ⟨u, rfl⟩ := hy
        by_cases q : z = y
        · subst q; simp [Value.isStr]
        · have q2 : ¬ MK.row z = MK.row y := fun e => q (MK.row.inj e)
          rw [decide_eq_false q2]
          simp [Value.isStr, Ne.symm q]
      | tup y =>
        obtain ⟨a, rfl, _⟩ := hy
        rfl
  hashed := fun {A E s k v Q} hu hk h => by
    cases k with
    | row x =>
      obtain ⟨t, rfl⟩ := hk
      exact wpAny_pyHash_str h
    | tup ks =>
      obtain ⟨a, rfl, hk⟩ := hk
      exact wpAny_pyHash_tuple hu hk h
  same := fun {A E s x y u v Q} hu hx hy h => by
    cases x with
    | row x =>
      obtain ⟨t, rfl⟩ := hx
      cases y with
      | row y =>
        obtain ⟨t', rfl⟩ := hy
        refine wpAny_eqBool_str ?_
        have e : decide (MK.row x = MK.row y) = decide (x = y) := by rw [decide_eq_decide]; exact ⟨MK.row.inj, fun e => by rw [e]⟩
        rw [← e]
        exact h
      | tup y =>
        obtain ⟨a, rfl, hk⟩ := hy
        obtain ⟨its, ht⟩ := tup_of hk
        exact SeqAt.EqAt.str_tuple x t ht hu prog w E Q h
    | tup x =>
      obtain ⟨a, rfl, hk⟩ := hx
      cases y with
      | row y =>
        obtain ⟨t', rfl⟩ := hy
        obtain ⟨its, ht⟩ := tup_of hk
        exact SeqAt.EqAt.tuple_str y t' ht hu prog w E Q h
      | tup y =>
        obtain ⟨b, rfl, hk2⟩ := hy
        refine wpAny_eqBool_tuple hu hk hk2 ?_
        have e : decide (MK.tup x = MK.tup y) = decide (x = y) := by rw [decide_eq_decide]; exact ⟨MK.tup.inj, fun e => by rw [e]⟩
        rw [← e]
        exact h
  quiet := fun {A E s k v Q} hk h => by
    cases k with
    | row x =>
      obtain ⟨t, rfl⟩ := hk
      rw [eqIsQuiet_byValue 8 rfl]
      exact wpAny_pure h
    | tup ks =>
      obtain ⟨a, rfl, hk⟩ := hk
      exact wpAny_eqIsQuiet_tuple hk h
end Mix
namespace Ts
open PySem PySem.Spec PyProof.Rows L2 Mix
abbrev Ks := List (MK × V × V)
/-- the dict at d: keys, their values as handed in, what they hold -/
def MDφ (P : Program) (w : World) (d : Addr) (ks : Ks) (h : Heap) : Prop := (d == sysModules) = false ∧ ks.length ≤ sizeLine ∧
  ∃ xs : List (MK × Value × Value), Paired (fun (p : MK × V × V) (q : MK × Value × Value) => p.1 = q.1 ∧ RelV p.2.1 q.2.1 ∧ RelV p.2.2 q.2.2) ks xs ∧ Rows (mixK P w) h d xs
def MD (P : Program) (w : World) (d : Addr) (ks : Ks) : HO := .ext (MDφ P w d ks)
theorem md_stay {P : Program} {w : World} {d : Addr} {ks : Ks} (h1 h2 : Heap) (p : MDφ P w d ks h1) (k : ∀ o, h1.get? d = some o → h2.get? d = some o) : MDφ P w d ks h2 := by
  obtain ⟨a, b, xs, r, o, es, ep, ho, q⟩ := p
  exact ⟨a, b, xs, r, o, es, ep, k o ho, q⟩
theorem md_ok {P : Program} {w : World} {H : Hp} {h : Heap} {d : Addr} {ks : Ks} (p : MDφ P w d ks h) : ObjOk P w H h d (MD P w d ks) := by
  obtain ⟨a, b, xs, r, o, es, ep, ho, q⟩ := id p
  exact ⟨p, ⟨o, ho⟩, md_stay⟩
/-- a dict's keys -/
def kk (ks : Ks) : List MK := ks.map fun p => p.1
/-- what a key's value is -/
def KeyV (H : Hp) : MK → V → Prop
  | .row x, y => y = .str x
  | .tup is, y => ∃ a, y = .ref a ∧ H a = some (.tup (is.map V.int))
def KeysV (H : Hp) (ks : Ks) : Prop := ∀ p ∈ ks, KeyV H p.1 p.2.1
theorem keyV_ex {H H' : Hp} (e : Ex H H') {k : MK} {y : V} (h : KeyV H k y) : KeyV H' k y := by
  cases k with
  | row x => exact h
  | tup is =>
    obtain ⟨a, h1, h2⟩ := h
    exact ⟨a, h1, e _ _ h2⟩
theorem items_ints {P : Program} {w : World} : ∀ {is : List Int} {its : List Value}, Vals (is.map V.int) its → ItemsAre (intKind P w) is its
  | [], _, .nil => .nil
  | i :: is, _, .cons ⟨t, e⟩ r => by
    subst e
    exact .cons (by show Value.isInt i (.int i t) = true; simp [Value.isInt]) (items_ints r)
theorem key_is {P : Program} {w : World} {H : Hp} {h : Heap} (ok : HOk P w H h) {k : MK} {y : V} {u : Value} (kv : KeyV H k y) (r : RelV y u) : mixIs P w h k u := by
  cases k with
  | row x =>
    cases (show y = .str x from kv)
    exact r
  | tup is =>
    obtain ⟨a, rfl, h2⟩ := kv
    cases (show u = .ref a from r)
    obtain ⟨_, its, rv, o, h3, h4, n, h5⟩ := (show ObjOk P w H h a (.tup (is.map V.int)) from ok a _ h2)
    exact ⟨a, rfl, o, its.toArray, n, h3, h4, h5, by simpa using items_ints rv⟩
section
variable {X : Cx} {o i value : Expr} {pos pos' : Pos} {td ty tv : TE} {pins : List (Addr × Obj)} {σ : L2.St} {H : Hp} {s : Shared}
theorem Inv.md {d : Addr} {ks : Ks} (I : Inv X pins σ H s) (h : H d = some (MD X.prog X.w d ks)) (kv : KeysV H ks) :
    (d == sysModules) = false ∧ ks.length ≤ sizeLine ∧ ∃ xs : List (MK × Value × Value), Paired (fun (p : MK × V × V) (q : MK × Value × Value) => p.1 = q.1 ∧ RelV p.2.1 q.2.1 ∧ RelV p.2.2 q.2.2) ks xs ∧ Rows (mixK X.prog X.w) s.heap d xs ∧ ∀ x ∈ xs, (mixK X.prog X.w).is s.heap x.1 x.2.1 := by
  obtain ⟨⟨a, b, xs, r, R⟩, _⟩ := (show ObjOk X.prog X.w H s.heap d (MD X.prog X.w d ks) from I.hok d _ h)
  refine ⟨a, b, xs, r, R, ?_⟩
  have all : ∀ {l : Ks} {m : List (MK × Value × Value)}, Paired (fun (p : MK × V × V) (q : MK × Value × Value) => p.1 = q.1 ∧ RelV p.2.1 q.2.1 ∧ RelV p.2.2 q.2.2) l m → (∀ p ∈ l, KeyV H p.1 p.2.1) → ∀ x ∈ m, (mixK X.prog X.w).is s.heap x.1 x.2.1 := by
    intro l m q
    induction q with
    | nil => intro _ x hx; exact nomatch hx
    | @cons p q ps qs hq t ih =>
      intro hk x hx
      rcases List.mem_cons.mp hx with e | hx
      · subst e
        have z := key_is I.hok (hk p List.mem_cons_self) hq.2.1
        rw [hq.1] at z
        exact z
      · exact ih (fun p hp => hk p (List.mem_cons_of_mem _ hp)) x hx
  exact all r kv
theorem pairs_keys {l : Ks} {m : List (MK × Value × Value)} (q : Paired (fun (p : MK × V × V) (q : MK × Value × Value) => p.1 = q.1 ∧ RelV p.2.1 q.2.1 ∧ RelV p.2.2 q.2.2) l m) : kk l = m.map (·.1) := by
  induction q with
  | nil => rfl
  | @cons a b as bs hq _ ih =>
    show a.1 :: kk as = b.1 :: bs.map (·.1)
    rw [hq.1, ih]
theorem pairs_get {l : Ks} {m : List (MK × Value × Value)} (q : Paired (fun (p : MK × V × V) (q : MK × Value × Value) => p.1 = q.1 ∧ RelV p.2.1 q.2.1 ∧ RelV p.2.2 q.2.2) l m) : ∀ {j : Nat} {p : MK × V × V}, l[j]? = some p → ∃ r, m[j]? = some r ∧ p.1 = r.1 ∧ RelV p.2.1 r.2.1 ∧ RelV p.2.2 r.2.2 := by
  induction q with
  | nil => intro j p h; simp at h
  | cons hq _ ih =>
    intro j p h
    cases j with
    | zero =>
      simp at h
      subst h
      exact ⟨_, rfl, hq⟩
    | succ j => exact ih (by simpa using h)

/-! the readings; md stands for the dict's description -/
abbrev Mdf := Addr → Ks → HO
def tMNew (md : Mdf) : TE := fun _ H Q => ∀ d, H d = none → Q (.ref d) (upd H d (md d []))
def tMIn (md : Mdf) (ty td : TE) : TE := fun σ H Q => ty σ H fun y H1 => td σ H1 fun x H2 => ∃ (d : Addr) (ks : Ks) (k : MK), x = .ref d ∧ H2 d = some (md d ks) ∧ KeyV H2 k y ∧ KeysV H2 ks ∧ Q (.bl (hasG k (kk ks))) H2
def tMNotIn (md : Mdf) (ty td : TE) : TE := fun σ H Q => ty σ H fun y H1 => td σ H1 fun x H2 => ∃ (d : Addr) (ks : Ks) (k : MK), x = .ref d ∧ H2 d = some (md d ks) ∧ KeyV H2 k y ∧ KeysV H2 ks ∧ Q (.bl (!hasG k (kk ks))) H2
def tMGet (md : Mdf) (td ty : TE) : TE := fun σ H Q => td σ H fun x H1 => ty σ H1 fun y H2 => ∃ (d : Addr) (ks : Ks) (k : MK) (j : Nat) (p : V × V), x = .ref d ∧ H2 d = some (md d ks) ∧ KeyV H2 k y ∧ KeysV H2 ks ∧ ks[j]? = some (k, p) ∧ Q p.2 H2
def sMPut (md : Mdf) (td ty tv : TE) : TS := fun D σ H => tv σ H fun v H1 => td σ H1 fun x H2 => ty σ H2 fun y H3 => ∃ (d : Addr) (ks : Ks) (k : MK), x = .ref d ∧ H3 d = some (md d ks) ∧ KeyV H3 k y ∧ KeysV H3 ks ∧ k ∉ kk ks ∧ ks.length < sizeLine ∧
  D.nx σ (upd H3 d (md d (ks ++ [(k, y, v)])))
variable {md : Mdf}
theorem pe_mnew (hm : md = MD X.prog X.w) : PE X (.Dict [] [] pos) (tMNew md) := ⟨fun pins s σ H Q I h => by
  subst hm
  have hb := I.big
  have ok : MDφ X.prog X.w s.heap.objs.size [] (s.heap.push { cls := .type "dict", data := .dict #[] }) :=
    ⟨beq_eq_false_iff_ne.mpr (Ne.symm (Nat.ne_of_lt hb)), Nat.zero_le _, [], .nil, _, #[], 0, Heap.get?_push_size _ rfl, ⟨rfl, rfl, rfl⟩, rfl, rfl, List.nodup_nil⟩
  exact wpAny_Dict_empty ⟨.ref s.heap.objs.size, _, I.laid (a := s.heap.objs.size) (o := MD X.prog X.w s.heap.objs.size []) (t' := s.toks) (fun _ _ q => Heap.get?_push_of_some _ q) (Nat.le_refl _) (md_ok ok), rfl, h _ (I.hok.fresh (Nat.le_refl _))⟩⟩
theorem room_of {A : Around} (hu : A.units + 1 < cLine) : A.in1.units < cLine := hu
theorem pc_min (hm : md = MD X.prog X.w) (hu : X.A.units + 1 < cLine) (hi : PE X i ty) (ho : PE X o td) : PC X .In i o (tMIn md ty td) := by
  subst hm
  refine ⟨fun pins s σ H Q I h => ?_⟩
  refine thn (hi.run pins s σ H _ I h) fun iv s1 ⟨y, H1, I1, ry, q1⟩ => thn (ho.run pins s1 σ H1 _ I1 q1) fun u s2 ⟨x, H2, I2, rx, d, ks, k, ex, hd, kv, kvs, q2⟩ => ?_
  subst ex
  obtain rfl : u = Value.ref d := rx
  obtain ⟨lo, _, xs, r, R, hx⟩ := Inv.md I2 hd kvs
  refine Mix.op_in (room_of hu) (key_is I2.hok kv ry) lo R hx ⟨.bl _, H2, I2.tok _, rfl, ?_⟩
  rw [← pairs_keys r]
  exact q2
theorem pc_mnotin (hm : md = MD X.prog X.w) (hu : X.A.units + 1 < cLine) (hi : PE X i ty) (ho : PE X o td) : PC X .NotIn i o (tMNotIn md ty td) := by
  subst hm
  refine ⟨fun pins s σ H Q I h => ?_⟩
  refine thn (hi.run pins s σ H _ I h) fun iv s1 ⟨y, H1, I1, ry, q1⟩ => thn (ho.run pins s1 σ H1 _ I1 q1) fun u s2 ⟨x, H2, I2, rx, d, ks, k, ex, hd, kv, kvs, q2⟩ => ?_
  subst ex
  obtain rfl : u = Value.ref d := rx
  obtain ⟨lo, _, xs, r, R, hx⟩ := Inv.md I2 hd kvs
  refine Mix.op_notin (room_of hu) (key_is I2.hok kv ry) lo R hx ⟨.bl _, H2, I2.tok _, rfl, ?_⟩
  rw [← pairs_keys r]
  exact q2
theorem pe_mget (hm : md = MD X.prog X.w) (hu : X.A.units + 1 < cLine) (ho : PE X o td) (hi : PE X i ty) (hs : NoSl i) : PE X (.Subscript o i pos) (tMGet md td ty) := by
  subst hm
  refine ⟨fun pins s σ H Q I h => ?_⟩
  refine subD_of PySem.F.slot_dict_getitem.lookup hs (thn (ho.run pins s σ H _ I h) fun u s1 ⟨x, H1, I1, rx, q1⟩ => thn (hi.run pins s1 σ H1 _ I1 q1) fun iv s2 ⟨y, H2, I2, ry, d, ks, k, j, p, ex, hd, kv, kvs, hp, q2⟩ => ?_)
  subst ex
  obtain rfl : u = Value.ref d := rx
  obtain ⟨lo, _, xs, r, R, hx⟩ := Inv.md I2 hd kvs
  obtain ⟨⟨k', q⟩, h1, h2, _, h4⟩ := pairs_get r hp
  cases (show k = k' from h2)
  exact ⟨R.ty, Mix.item (room_of hu) (key_is I2.hok kv ry) R hx h1 ⟨p.2, H2, I2.tok _, h4, q2⟩⟩
theorem ps_mput (hm : md = MD X.prog X.w) (hu : X.A.units + 1 < cLine) (ho : PE X o td) (hi : PE X i ty) (hv : PE X value tv) (hs : swapsWith value (some (.Subscript o i pos')) pos.line X.env = pure false) :
    PS X (.Assign [.Subscript o i pos'] value pos) (sMPut md td ty tv) := by
  subst hm
  refine ⟨fun pins s σ H D I h => ?_⟩
  refine wpAny_Assign_Subscript (thn (hv.run pins s σ H _ I h) fun r s1 ⟨v, H1, I1, rv, q1⟩ => thn (ho.run pins s1 σ H1 _ I1 q1) fun u s2 ⟨x, H2, I2, rx, q2⟩ => thn (hi.run pins s2 σ H2 _ I2 q2) fun iv s3 ⟨y, H3, I3, ry, d, ks, k, ex, hd, kv, kvs, new, hl, q3⟩ => ?_) hs
  subst ex
  obtain rfl : u = Value.ref d := rx
  obtain ⟨lo, hz, xs, pr, R, hx⟩ := Inv.md I3 hd kvs
  have hxl : xs.length = ks.length := by
    have := congrArg List.length (pairs_keys pr)
    simpa [kk] using this.symm
  refine Mix.store (room_of hu) (key_is I3.hok kv ry) R hx (by omega) (by rw [← pairs_keys pr]; exact new) fun h' R' hs' => ?_
  have ok : MDφ X.prog X.w d (ks ++ [(k, y, v)]) h' := ⟨lo, by rw [List.length_append]; exact hl, _, Paired.snoc pr ⟨rfl, ry, rv⟩, R'⟩
  have he : ∃ q, h'.get? d = some q := let ⟨q, _, _, hq, _⟩ := R'; ⟨q, hq⟩
  exact ⟨σ, _, d_write I3 (by rw [hd]; exact True.intro) hs' he (md_ok ok), q3⟩
theorem w_mnew {Q : VK} (q : ∀ d, H d = none → Q (.ref d) (upd H d (md d []))) : tMNew md σ H Q := q
theorem w_mnotin {Q : VK} (q : ty σ H fun y H1 => td σ H1 fun x H2 => ∃ (d : Addr) (ks : Ks) (k : MK), x = .ref d ∧ H2 d = some (md d ks) ∧ KeyV H2 k y ∧ KeysV H2 ks ∧ Q (.bl (!hasG k (kk ks))) H2) : tMNotIn md ty td σ H Q := q
theorem w_mget {Q : VK} (q : td σ H fun x H1 => ty σ H1 fun y H2 => ∃ (d : Addr) (ks : Ks) (k : MK) (j : Nat) (p : V × V), x = .ref d ∧ H2 d = some (md d ks) ∧ KeyV H2 k y ∧ KeysV H2 ks ∧ ks[j]? = some (k, p) ∧ Q p.2 H2) : tMGet md td ty σ H Q := q
theorem w_mput {nx bk ct : L2.St → Hp → Prop} {rt : VK} (q : tv σ H fun v H1 => td σ H1 fun x H2 => ty σ H2 fun y H3 => ∃ (d : Addr) (ks : Ks) (k : MK), x = .ref d ∧ H3 d = some (md d ks) ∧ KeyV H3 k y ∧ KeysV H3 ks ∧ k ∉ kk ks ∧ ks.length < sizeLine ∧ nx σ (upd H3 d (md d (ks ++ [(k, y, v)])))) : sMPut md td ty tv ⟨nx, rt, bk, ct⟩ σ H := q
end
end Ts
namespace Ts
open PySem L2 Mix
/-- where the program's classes stand, and what stands for a dict's description -/
structure Cs where
  Ledger : Addr
  Book : Addr
  Looker : Addr
  TwinError : Addr
  NoRow : Addr
  NoSum : Addr
  NoPlace : Addr
  NoBlock : Addr
  Full : Addr
  Strange : Addr
  md : Mdf
def Cs.none : Cs := ⟨0, 0, 0, 0, 0, 0, 0, 0, 0, 0, fun _ _ => .lst []⟩
/-- what is a whole number: an int that is no truth; of the kinds that are asked -/
def isWholeV (K : PySem.W.Frag) (H : Hp) (v : V) (b : Bool) : Prop :=
  (∃ i, v = .int i ∧ b = true) ∨ (∃ x, v = .bl x ∧ b = false) ∨ (∃ x, v = .str x ∧ b = false) ∨ (v = .non ∧ b = false) ∨ (∃ a xs, v = .ref a ∧ (SqL K H a xs ∨ SqT K H a xs) ∧ b = false)
/-- what was there is there, but for the objects of S -/
def Kp (S : List Addr) (H H' : Hp) : Prop := ∀ a o, H a = some o → a ∉ S → H' a = some o
theorem Kp.refl {S : List Addr} {H : Hp} : Kp S H H := fun _ _ h _ => h
theorem Kp.trans {S : List Addr} {H H1 H2 : Hp} (a : Kp S H H1) (b : Kp S H1 H2) : Kp S H H2 := fun x o h n => b x o (a x o h n) n
theorem Kp.mono {S S' : List Addr} {H H' : Hp} (a : Kp S H H') (h : ∀ x ∈ S, x ∈ S') : Kp S' H H' := fun x o q n => a x o q fun z => n (h x z)
theorem Kp.of_ex {S : List Addr} {H H' : Hp} (e : Ex H H') : Kp S H H' := fun x o q _ => e x o q
theorem Kp.set {S : List Addr} {H H' : Hp} {p : Addr} {o : HO} (a : Kp S H H') (h : p ∈ S) : Kp S H (upd H' p o) := fun x u q n => by
  have ne : x ≠ p := fun z => n (by rw [z]; exact h)
  rw [upd_ne ne]
  exact a x u q n
theorem Kp.new {S : List Addr} {H H' : Hp} {p : Addr} {o : HO} (a : Kp S H H') (h : H' p = none) : Kp S H (upd H' p o) := fun x u q n => by
  have z := a x u q n
  rw [upd_ne (ne_of_none z h)]
  exact z
/-- a new object does not count among what was there -/
theorem Kp.fresh {S : List Addr} {H H' : Hp} {p : Addr} {o : HO} (a : Kp S H H') (h : H p = none) : Kp S H (upd H' p o) := fun x u q n => by
  rw [upd_ne (ne_of_none q h)]
  exact a x u q n
theorem Kp.drop {S S' : List Addr} {H H' : Hp} (a : Kp S H H') (h : ∀ x ∈ S, x ∈ S' ∨ H x = none) : Kp S' H H' := fun x o q n => a x o q fun z => by
  rcases h x z with r | r
  · exact n r
  · rw [q] at r; cases r
theorem Kp.sql {K : PySem.W.Frag} {S : List Addr} {H H' : Hp} {a : Addr} {xs : List V} (k : Kp S H H') (h : SqL K H a xs) (n : a ∉ S) : SqL K H' a xs := by
  rcases h with (h | ⟨o, h⟩) | h
  · exact .inl (.inl (k _ _ h n))
  · exact .inl (.inr ⟨o, k _ _ h n⟩)
  · exact .inr h
theorem Kp.sqt {K : PySem.W.Frag} {S : List Addr} {H H' : Hp} {a : Addr} {xs : List V} (k : Kp S H H') (h : SqT K H a xs) (n : a ∉ S) : SqT K H' a xs := by
  rcases h with (h | ⟨o, h⟩) | h
  · exact .inl (.inl (k _ _ h n))
  · exact .inl (.inr ⟨o, k _ _ h n⟩)
  · exact .inr h
theorem Kp.keyV {S : List Addr} {H H' : Hp} {k : MK} {v : V} (a : Kp S H H') (h : KeyV H k v) (n : ∀ x o, x ∈ S → H x = some o → ¬ ∃ ys, o = .tup ys) : KeyV H' k v := by
  cases k with
  | row x => exact h
  | tup is =>
    obtain ⟨t, h1, h2⟩ := h
    exact ⟨t, h1, a _ _ h2 fun z => n _ _ z h2 ⟨_, rfl⟩⟩
theorem cast_pow (k : Nat) : ((2 ^ k : Nat) : Int) = (2 : Int) ^ k := by push_cast; rfl
theorem cast_div (a b : Nat) : (a : Int) / (b : Int) = ((a / b : Nat) : Int) := by push_cast; rfl
theorem cast_mod (a b : Nat) : (a : Int) % (b : Int) = ((a % b : Nat) : Int) := by push_cast; rfl
/-! ### the loop over a text's signs, a store into a list -/
section
variable {K : PySem.W.Frag} {σ : L2.St} {H : Hp} {t : TS} {te : TE} {g : TG} {nx bk ct : L2.St → Hp → Prop} {rt : VK}
theorem w_iStr {R : It → Hp → Prop} (q : te σ H fun v H1 => ∃ x, v = .str x ∧ R (Its x) H1) : iStr te σ H R := q
theorem lb_str {z : Str} (Pv : Nat → L2.St → Hp → Prop) (h0 : Pv 0 σ H) (hs : ∀ (i : Nat) (c : Nat) σ H, z.cps[i]? = some c → Pv i σ H → g (.str ⟨#[c]⟩) σ H fun σ2 H2 => t ⟨Pv (i + 1), rt, nx, Pv (i + 1)⟩ σ2 H2) (hd : ∀ σ H, Pv z.cps.size σ H → nx σ H) :
    LB g t nx rt σ (Its z) H := by
  refine ⟨fun i m σ H => m = z.cps.size - i ∧ i ≤ z.cps.size ∧ Pv i σ H, ⟨z.cps.size, by simp, Nat.zero_le _, h0⟩, ?_⟩
  rintro i m σ H ⟨rfl, hi, p⟩
  by_cases hlt : i < z.cps.size
  · refine .inr ⟨hlt, Pv (i + 1), fun σ' H' p' => ⟨z.cps.size - (i + 1), by omega, rfl, hlt, p'⟩, fun x H' y => ?_⟩
    obtain ⟨rfl, c, hc, rfl⟩ := y
    exact hs i c σ _ hc p
  · have e : i = z.cps.size := by omega
    subst e
    exact .inl ⟨Nat.le_refl _, hd σ H p⟩
theorem w_setL {a : Addr} {xs : List V} {i : Nat} {v : V} {R : Hp → Prop} (h : H a = some (.lst xs)) (hi : i < xs.length) (q : R (upd H a (.lst (xs.set i v)))) : rSetL (.ref a) (.int (i : Int)) v H R := ⟨a, xs, i, i, rfl, rfl, h, by
  unfold ixN
  rw [if_pos (by omega), if_pos (by omega)]
  simp, q⟩
def rNotInS : R2 := fun x y H Q => ∃ (c : Nat) (z : Str), x = .str ⟨#[c]⟩ ∧ y = .str z ∧ Q (.bl (!decide (c ∈ z.cps.toList))) H
theorem op_notInS1 {X : Cx} : OpR X (compareOp .NotIn) rNotInS := op_notIn_sign
theorem w_notInS {c : Nat} {z : Str} {Q : VK} (q : Q (.bl (!decide (c ∈ z.cps.toList))) H) : rNotInS (.str ⟨#[c]⟩) (.str z) H Q := ⟨c, z, rfl, rfl, q⟩
end
end Ts
namespace Ts
open PySem L2 Mix
section
variable {K : PySem.W.Frag} {σ : L2.St} {H H1 : Hp} {Q : VK} {t : TE} {tt : TT} {te : TE} {g : TG} {vs : List Nat} {D : Addr}
theorem w_noPart {R : Option Int → Hp → Prop} (q : R none H) : tNoPart σ H R := q
theorem w_part {R : Option Int → Hp → Prop} (q : t σ H fun x H1 => ∃ i, x = .int i ∧ R (some i) H1) : tPart t σ H R := q
theorem w_pi {i : Int} {P : Int → Prop} (q : P i) : ∃ k, V.int i = .int k ∧ P k := ⟨i, rfl, q⟩
/-! comprehensions -/
def LC (g : TG) (tt : TT) (te : TE) (vs : List Nat) (σ : L2.St) (Q : VK) (J : It) (D : Addr) (H0 : Hp) : Prop := ∃ W : Nat → Nat → Hp → Prop, (∃ m, W 0 m H0) ∧ ∀ i m H, W i m H →
  (J.stop i H ∧ Q (.ref D) H) ∨ (J.go i H ∧ ∃ Nx : Hp → Prop, (∀ H', Nx H' → ∃ m', m' < m ∧ W (i + 1) m' H') ∧ ∀ x H', J.yld i H x H' → g x (wipe σ vs) H' fun σ2 H2 => wipe σ2 vs = wipe σ vs ∧ tt σ2 H2 fun b H3 =>
    if b = true then te σ2 H3 fun y H4 => ∃ acc, H4 D = some (.lst acc) ∧ acc.length < sizeLine ∧ Nx (upd H4 D (.lst (acc ++ [y]))) else Nx H3)
theorem w_lc {wi : TI} (q : wi σ H fun J H1 => ∀ D, H1 D = none → LC g tt te vs σ Q J D (upd H1 D (.lst []))) : tLc wi g tt te vs σ H Q := q
theorem lcb_range {n : Nat} (Pv : Nat → Hp → Prop) (h0 : Pv 0 (upd H1 D (.lst [])))
    (hs : ∀ (i : Nat) H, i < n → Pv i H → g (.int (i : Int)) (wipe σ vs) H fun σ2 H2 => wipe σ2 vs = wipe σ vs ∧ tt σ2 H2 fun b H3 =>
      if b = true then te σ2 H3 fun y H4 => ∃ acc, H4 D = some (.lst acc) ∧ acc.length < sizeLine ∧ Pv (i + 1) (upd H4 D (.lst (acc ++ [y]))) else Pv (i + 1) H3) (hd : ∀ H, Pv n H → Q (.ref D) H) : LC g tt te vs σ Q (Itr 0 n) D (upd H1 D (.lst [])) :=
  lc_range (lo := 0) (n := n) (Qd := fun H => Q (.ref D) H) Pv h0 (fun i H hi p => by rw [Int.zero_add]; exact hs i H hi p) hd
theorem lcb_list {a : Addr} {xs : List V} (Pv : Nat → Hp → Prop) (h0 : Pv 0 (upd H1 D (.lst []))) (hl : ∀ i H, i ≤ xs.length → Pv i H → SqL K H a xs)
    (hs : ∀ i x H, xs[i]? = some x → Pv i H → g x (wipe σ vs) H fun σ2 H2 => wipe σ2 vs = wipe σ vs ∧ tt σ2 H2 fun b H3 =>
      if b = true then te σ2 H3 fun y H4 => ∃ acc, H4 D = some (.lst acc) ∧ acc.length < sizeLine ∧ Pv (i + 1) (upd H4 D (.lst (acc ++ [y]))) else Pv (i + 1) H3) (hd : ∀ H, Pv xs.length H → Q (.ref D) H) : LC g tt te vs σ Q (Itl K a) D (upd H1 D (.lst [])) :=
  lc_list (K := K) (a := a) (xs := xs) (Qd := fun H => Q (.ref D) H) Pv h0 hl hs hd
theorem w_lstRg2 {ta tb : TE} (q : ta σ H fun x H1 => tb σ H1 fun y H2 => ∃ i j, x = .int i ∧ y = .int j ∧ RgOk i j ∧ ∀ p, H2 p = none → Q (.ref p) (upd H2 p (.lst (rgV i j)))) : tLstRg (tRg2 ta tb) σ H Q := q
theorem w_lstRg1 {ta : TE} (q : ta σ H fun x H1 => ∃ n, x = .int n ∧ RgOk 0 n ∧ ∀ p, H1 p = none → Q (.ref p) (upd H1 p (.lst (rgV 0 n)))) : tLstRg (tRg1 ta) σ H Q := q
theorem w_yes {QT : Bool → Hp → Prop} (q : QT true H) : tYes σ H QT := q
end
end Ts

local macro_rules | `(tactic| walk_at "s1") => `(tactic| ((with_reducible refine Ts.w_mul ?_ ?_); (first | exact Or.inl ⟨by omega, by omega⟩ | exact Or.inr ⟨by omega, by omega⟩)))
local macro_rules | `(tactic| walk_at "s1") => `(tactic| ((with_reducible refine Ts.w_div ?_ ?_ ?_); (first | decide | omega); (first | decide | omega)))
local macro_rules | `(tactic| walk_at "s1") => `(tactic| ((with_reducible refine Ts.w_mod ?_ ?_); (first | decide | omega)))
local macro_rules | `(tactic| walk_at "s1") => `(tactic| ((with_reducible refine Ts.w_pow ?_ ?_); (exact ⟨by decide, by decide, by decide⟩)))
local macro_rules | `(tactic| walk_at "s1") => `(tactic| first | with_reducible refine Ts.w_seq ?_ | with_reducible refine Ts.w_asg ?_ | with_reducible refine Ts.w_ret ?_ | with_reducible refine Ts.w_op ?_ | with_reducible refine Ts.w_c ?_ | with_reducible refine Ts.w_if ?_ | with_reducible refine Ts.w_v0 ?_ | with_reducible refine Ts.w_v1 ?_ | with_reducible refine Ts.w_v2 ?_ | with_reducible refine Ts.w_v3 ?_ | with_reducible refine Ts.w_v4 ?_ | with_reducible refine Ts.w_v5 ?_ | with_reducible refine Ts.w_v6 ?_ | with_reducible refine Ts.w_v7 ?_ | with_reducible refine Ts.w_v8 ?_ | with_reducible refine Ts.w_v9 ?_ | with_reducible refine Ts.w_v10 ?_ | with_reducible refine Ts.w_v11 ?_ | with_reducible refine Ts.w_v12 ?_ | with_reducible refine Ts.w_v13 ?_ | with_reducible refine Ts.w_v14 ?_ | with_reducible refine Ts.w_v15 ?_ | with_reducible refine Ts.w_v16 ?_ | with_reducible refine Ts.w_v17 ?_ | with_reducible refine Ts.w_v18 ?_ | with_reducible refine Ts.w_v19 ?_ | with_reducible refine Ts.w_n0 ?_ | with_reducible refine Ts.w_n1 ?_ | with_reducible refine Ts.w_n2 ?_ | with_reducible refine Ts.w_n3 ?_ | with_reducible refine Ts.w_n4 ?_ | with_reducible refine Ts.w_n5 ?_ | with_reducible refine Ts.w_n6 ?_ | with_reducible refine Ts.w_n7 ?_ | with_reducible refine Ts.w_n8 ?_ | with_reducible refine Ts.w_n9 ?_ | with_reducible refine Ts.w_n10 ?_ | with_reducible refine Ts.w_n11 ?_ | with_reducible refine Ts.w_n12 ?_ | with_reducible refine Ts.w_n13 ?_ | with_reducible refine Ts.w_n14 ?_ | with_reducible refine Ts.w_n15 ?_ | with_reducible refine Ts.w_n16 ?_ | with_reducible refine Ts.w_n17 ?_ | with_reducible refine Ts.w_n18 ?_ | with_reducible refine Ts.w_n19 ?_ | with_reducible refine Ts.w_test ?_ | with_reducible refine Ts.w_call ?_ | with_reducible refine Ts.w_cons ?_ | with_reducible refine Ts.w_nil ?_ | with_reducible refine Ts.w_drop ?_ | with_reducible refine Ts.w_for ?_ | with_reducible refine Ts.w_next ?_ | with_reducible refine Ts.w_break ?_ | with_reducible refine Ts.w_cont ?_ | with_reducible refine Ts.w_retN ?_ | with_reducible refine Ts.w_un ?_ | with_reducible refine Ts.w_tB ?_ | with_reducible refine Ts.w_bl ?_ | with_reducible refine Ts.w_chain ?_ | with_reducible refine Ts.w_and ?_ | with_reducible refine Ts.w_or ?_ | with_reducible refine Ts.w_not ?_ | with_reducible refine Ts.w_andV ?_ | with_reducible refine Ts.w_orV ?_ | with_reducible refine Ts.w_notV ?_ | with_reducible refine Ts.w_tup ?_ | with_reducible refine Ts.w_lst ?_ | with_reducible refine Ts.w_CB ?_ | with_reducible refine Ts.w_meth ?_ | with_reducible refine Ts.w_make ?_ | with_reducible refine Ts.w_callS ?_ | with_reducible refine Ts.w_fld ?_ | with_reducible refine Ts.w_bm0 ?_ | with_reducible refine Ts.w_bm ?_ | with_reducible refine Ts.w_sl ?_ | with_reducible refine Ts.w_sfld ?_ | with_reducible refine Ts.w_gSub ?_ | with_reducible refine Ts.w_gCons ?_ | with_reducible refine Ts.w_gNil ?_ | with_reducible refine Ts.w_iR1 ?_ | with_reducible refine Ts.w_iR2 ?_ | with_reducible refine Ts.w_iR3 ?_ | with_reducible refine Ts.w_iL ?_ | with_reducible refine Ts.w_iStr ?_ | with_reducible refine Ts.w_notInS ?_ | with_reducible refine Ts.w_mnew ?_ | with_reducible refine Ts.w_mnotin ?_ | with_reducible refine Ts.w_mget ?_ | with_reducible refine Ts.w_mput ?_ | with_reducible refine Ts.w_methS ?_ | with_reducible refine Ts.w_raise ?_ | with_reducible refine Ts.w_noPart ?_ | with_reducible refine Ts.w_part ?_ | with_reducible refine Ts.w_pi ?_ | with_reducible refine Ts.w_lc ?_ | with_reducible refine Ts.w_yes ?_ | with_reducible refine Ts.w_lstRg2 ?_ | with_reducible refine Ts.w_lstRg1 ?_ | with_reducible refine Ts.w_addI ?_ | with_reducible refine Ts.w_sub ?_ | with_reducible refine Ts.w_lt ?_ | with_reducible refine Ts.w_le ?_ | with_reducible refine Ts.w_gt ?_ | with_reducible refine Ts.w_ge ?_ | with_reducible refine Ts.w_eqI ?_ | with_reducible refine Ts.w_neI ?_ | with_reducible refine Ts.w_eqS ?_ | with_reducible refine Ts.w_neS ?_ | with_reducible refine Ts.w_isN ?_ | with_reducible refine Ts.w_notN ?_ | with_reducible refine Ts.w_max ?_ | with_reducible refine Ts.w_min ?_ | with_reducible refine Ts.w_intI ?_ | with_reducible refine Ts.w_intB ?_ | with_reducible refine Ts.w_neg ?_)
local macro_rules | `(tactic| walk_at "s") => `(tactic| repeat (walk_at "s1"))

namespace Ts
open PySem L2
/-- a text times a whole number -/
def repS (z : Str) (k : Int) : Str := if k < 1 then Str.empty else if (k == 1 || z.length == 0) = true then z else ⟨(List.replicate k.toNat z.cps).foldl (· ++ ·) #[]⟩
def rMulS : R2 := fun x y H Q => ∃ z k, x = .str z ∧ y = .int k ∧ 0 ≤ k ∧ k ≤ 1000 ∧ z.length ≤ 1000 ∧ (repS z k).length ≤ sizeLine ∧ Q (.str (repS z k)) H
theorem op_mulS {X : Cx} : OpR X (binaryOp .Mult) rMulS := by
  intro pins s σ H x y v u Q I rx ry h
  obtain ⟨z, k, rfl, rfl, h0, h1, hz, hl, q⟩ := h
  obtain ⟨t, rfl⟩ := rx
  obtain ⟨t', rfl⟩ := ry
  have e1 : decide (k < -(2 ^ 63 : Int)) = false := decide_eq_false (by omega)
  have e2 : decide (k ≥ 2 ^ 63) = false := decide_eq_false (by omega)
  refine PySem.P.mul_str (by rw [e1, e2] <;> rfl) (fun n1 _ => ?_) (fun n1 _ => ?_) ?_
  · have a : (9223372036854775807 : Int) / 1000 ≤ 9223372036854775807 / k := by
      refine Int.le_ediv_of_mul_le (by omega) ?_
      have : (9223372036854775807 : Int) / 1000 = 9223372036854775 := by decide
      rw [this]
      have := Int.mul_le_mul_of_nonneg_left h1 (show (0 : Int) ≤ 9223372036854775 by decide)
      omega
    have b : (9223372036854775807 : Int) / 1000 = 9223372036854775 := by decide
    have c : ((2 : Int) ^ 63 - 1) = 9223372036854775807 := by decide
    rw [c]
    omega
  · have m : z.length * k.toNat ≤ 1000 * 1000 := Nat.mul_le_mul hz (by omega)
    have : ¬ z.length * k.toNat > sizeLine := by
      have : (1000 * 1000 : Nat) ≤ sizeLine := by decide
      omega
    exact decide_eq_false this
  · unfold repS at hl q
    split
    · rename_i c
      rw [if_pos c] at hl q
      exact ⟨hl, .str _, H, I.tok _, ⟨_, rfl⟩, q⟩
    · rename_i c
      rw [if_neg c] at hl q
      split
      · rename_i c2
        rw [if_pos c2] at hl q
        exact ⟨.str z, H, I, ⟨_, rfl⟩, q⟩
      · rename_i c2
        rw [if_neg c2] at hl q
        exact ⟨hl, .str _, H, I.tok _, ⟨_, rfl⟩, q⟩
theorem w_mulS {z : Str} {k : Int} {H : Hp} {Q : VK} (h0 : 0 ≤ k) (h1 : k ≤ 1000) (hz : z.length ≤ 1000) (hl : (repS z k).length ≤ sizeLine) (q : Q (.str (repS z k)) H) : rMulS (.str z) (.int k) H Q := ⟨z, k, rfl, rfl, h0, h1, hz, hl, q⟩
end Ts

namespace L2H
open PySem PySem.Spec PyProof.Rows L2
theorem RoomH.units {k : Nat} {A : Around} (r : RoomH k A) : A.units + 64 < cLine := by have := r.un; omega
end L2H
namespace Ts
open PySem PySem.Spec PyProof.Rows L2 L2H
/-! ### a def that is handed the caught error, within an except suite -/
structure FnE (P : Program) (w : World) (K : PySem.W.Frag) (mg : Str → Option Value) (base : Heap) (k : Nat) (f : Addr) (fd : FuncData) (ps : List Str) (sp : Value → Addr → Sp) : Prop where
  len : ∀ cls a vs H Q E, sp cls a vs H Q E → vs.length = ps.length
  run : ∀ (A : Around) (outer : List Env) (s : Shared) (H : Hp) (args : Args) (us : List Value) (vs : List V) (Q : VK) (E : XK) (p : Addr × Obj) (cls : Value), RoomH k A → PinOk outer H s p → Zc cls none p.2 → (∃ vs, p.2.data = .fields vs) → Env0 P w K mg base A outer s H →
    BindsTo s fd args (ps.zip us) → Vals vs us → sp cls p.1 vs H Q E → codeAny (model P w) A (.call (.ref f) args) (CR (L2.CX P w) outer P w H s Q E) s
structure FnEG (P : Program) (w : World) (K : PySem.W.Frag) (mg : Str → Option Value) (base : Heap) (k : Nat) (x : Str) (ps : List Str) (sp : Value → Addr → Sp) : Prop where
  ex : ∃ f fd, FnE P w K mg base k f fd ps sp ∧ mg x = some (.ref f) ∧ PySem.W.keepIn K (.ref f) = true ∧ Binds K fd ps []
section
variable {P : Program} {w : World} {K : PySem.W.Frag} {mg : Str → Option Value} {base : Heap} {x : Str} {st : Stmt} {ps N : List Str} {k : Nat} {sp : Value → Addr → Sp}
theorem FunG.okE (F : FunG K mg x st ps) (S : FnScope N ps (defScope st)) (len : ∀ cls a vs H Q E, sp cls a vs H Q E → vs.length = ps.length)
    (hb : ∀ (f : Addr) (cdv : Value) (A : Around) (outer : List Env) (s : Shared) (H : Hp) (vs : List V) (Q : VK) (E : XK) (p : Addr × Obj) (cls : Value), RoomH k (A.deeper (envOfC x (defScope st) s.heap.objs.size f cdv)) → Zc cls none p.2 → (∃ vs, p.2.data = .fields vs) → sp cls p.1 vs H Q E →
      ∃ t, PSs (cxH (L2.CX P w) P w K mg base N x (defScope st) f cdv A outer s H E p) (defBody st) t ∧ t ⟨fun _ H' => Q .non H', Q, fun _ _ => False, fun _ _ => False⟩ (start N vs) H) : FnEG P w K mg base (k + 1) x ps sp := by
  obtain ⟨f, fd, F, g, b⟩ := F.ex
  have kp := F.kp
  obtain ⟨oc, od, kV, doc, pm, an, cdv, ct, osl, rfl, lk, hcd⟩ := F.ex
  refine ⟨f, _, ⟨len, fun A outer s H args us vs Q E p cls hr hpin hz hf e0 hbd r hsp => ?_⟩, g, kp, b⟩
  have KX : K.In s.heap := e0.mod.kin.keeps fun b o e => (e0.bs b o e).1
  have lim : s.heap.NoLimit := e0.mod.nolimit.keeps fun b o e => (e0.bs b o e).1
  have hkind : ∀ y ∈ ps.zip us, (defScope st).names.lookup y.1 = some .local ∨ ((defScope st).names.lookup y.1 = some .cell ∧ ((cellsFrom (s.heap.objs.size + 1) (defScope st).names []).lookup y.1).isSome = true) := fun ⟨n, v⟩ hy => by
    rcases S.par n (List.of_mem_zip hy).1 with q | q
    · exact .inl q
    · exact .inr ⟨q, PySem.W.cellsFrom_some _ _ _ (.inl q)⟩
  refine codeAny_call_function hr.depth (KX _ _ lk) rfl S.co S.gen rfl (PySem.W.codeRec_of KX hcd) (hbd _ _ _ _ ?_)
  refine wpAny_newFunctionEnv_cells S.kind hkind fun env he s1 y => ?_
  subst he
  refine ⟨lim.keeps y.toInCall.keep, codeAny_func ?_⟩
  obtain ⟨t, ht, hq⟩ := hb f cdv A outer s H vs Q E p cls (hr.deeper _) hz hf hsp
  have I := inv_startH (CX := L2.CX P w) (qual := x) (f := f) (cd := cdv) (A := A) (E := E) S hpin e0 (len _ _ _ _ _ _ hsp) r y
  refine wpAny_mono (ht.run [] s1 (L2.start N vs) H _ I hq) (fun fl s' hs => ?_) fun e s' hs => hs
  have fin : ∀ {σ' : L2.St} {H' : Hp} {v : V} {u : Value}, Inv (cxH (L2.CX P w) P w K mg base N x (defScope st) f cdv A outer s H E p) [] σ' H' s' → RelV v u → Q v H' → CE outer P w H s Q u s' :=
    fun {σ' H' v u} J rv q => ⟨v, H', J.os, J.bare, J.base, J.hok, rv, q⟩
  cases fl with
  | ret u =>
    obtain ⟨v, σ', H', J, rv, q⟩ := hs
    exact fin J rv q
  | next =>
    obtain ⟨σ', H', J, q⟩ := hs
    exact fin (v := V.non) (u := Value.none) J rfl q
  | brk =>
    obtain ⟨_, _, _, q⟩ := hs
    exact False.elim q
  | cont =>
    obtain ⟨_, _, _, q⟩ := hs
    exact False.elim q
end
/-- the caught error is handed to a def -/
def tCallE (sp : Value → Addr → Sp) (cls : Value) (d : Option Addr) (a : Addr) (t : TA) : TE := fun σ H Q => t σ H fun vs H1 => d = none ∧ sp cls a vs H1 Q E0
section
variable {X : Cx} {k : Nat} {ps : List Str} {sp : Value → Addr → Sp} {x : Str} {q pos : Pos} {e : Expr} {es : List Expr} {t : TA} {a : Addr} {oe : Obj} {cls : Value} {d : Option Addr} {pn : List (Addr × Obj)}
theorem w_callE {σ : L2.St} {H : Hp} {Q : VK} (q : t σ H fun vs H1 => d = none ∧ sp cls a vs H1 Q E0) : tCallE sp cls d a t σ H Q := q
theorem pe_callE (G : FnEG X.prog X.w X.K X.mg X.base k x ps sp) (hr : Room k X.A) (hz : Zc cls d oe) (hf : ∃ vs, oe.data = .fields vs) (ha : PA (X.suite a ((a, oe) :: pn)) (e :: es) t) (hg : Gl X x := by rfl)
    (hdb : (x == ("__debug__" : Str)) = false := by decide) (he : starEach (e :: es) X.env = (false, eval e X.env) :: starEach es X.env := by rfl) (hpl : (backTo pos (starEach es X.env)).any (·.1) = false := by rfl) :
    PE (X.suite a ((a, oe) :: pn)) (.Call (.Name x q) (e :: es) [] pos) (tCallE sp cls d a t) := by
  obtain ⟨f, fd, F, hm, hk, hb⟩ := G.ex
  refine ⟨fun pins s σ H Q I h => ?_⟩
  refine wpAny_Call_Name_kw (ld_glob (X := X.suite a ((a, oe) :: pn)) I hg hm ?_ hdb)
  refine PySem.W.callWith_K (h₀ := X.base) I.ok.mod.kin hk (thn (ha.run pos pins s σ H _ I h) fun us s1 ⟨vs, H1, I1, r, hd, hsp⟩ => ⟨I1.kIn, ?_⟩) he hpl
  subst hd
  have hl : us.length = ps.length := by rw [← r.length]; exact F.len _ _ _ _ _ _ hsp
  have b := hb s1 us I1.kIn (by rw [List.append_nil]; exact hl)
  rw [List.append_nil] at b
  have P1 := I1.pin (a, oe) (List.mem_append_left _ List.mem_cons_self)
  have hpin : PinOk (X.suite a ((a, oe) :: pn)).stack H1 s1 (a, oe) := ⟨P1.1, P1.2.1, fun hm => (List.mem_cons.mp (I1.stkSub a hm)).elim P1.2.2.1 P1.2.2.2.1, P1.2.2.2.2⟩
  refine wpAny_call (codeAny_mono (F.run (X.suite a ((a, oe) :: pn)).A (X.suite a ((a, oe) :: pn)).stack s1 H1 ⟨us, []⟩ us vs Q E0 (a, oe) cls ⟨hr.dp, hr.un⟩ hpin hz hf I1.env0 b r hsp) fun r s' hq => ?_)
  cases r with
  | error e => exact (passL (X := X.suite a ((a, oe) :: pn)) pins σ H1 s1 e s' I1 hq)
  | ok fl =>
    cases fl with
    | ret u => exact I1.after hq
    | next => exact False.elim hq
    | brk => exact False.elim hq
    | cont => exact False.elim hq
/-- isinstance of it -/
def rIsX (K : PySem.W.Frag) (cls : Value) (a : Addr) : List V → Hp → VK → Prop := fun xs H Q => ∃ D, cls = .ref D ∧ ExcC K D ∧ rIsE K D a xs H Q
theorem call_isX {p : Addr × Obj} (hm : p ∈ X.pn) (hz : Zc cls none p.2) (hf : ∃ vs, p.2.data = .fields vs) : CallR X (.builtin "isinstance") (rIsX X.K cls p.1) := by
  intro pins s σ H xs us Q I r h
  obtain ⟨D, rfl, C, c, cv, b, rfl, hcv, e, q⟩ := h
  cases r with
  | cons rx rr =>
    cases rr with
    | cons rt rr =>
      cases rr
      cases rx
      have ec := hcv _ rt
      subst ec
      obtain ⟨hget, _⟩ := I.pin p (List.mem_append.mpr (.inl hm))
      obtain ⟨vs, hv⟩ := hf
      obtain ⟨a, oc, od, oda, osl⟩ := p
      obtain ⟨h1, h2⟩ := hz
      dsimp only at h1 h2 hv
      subst h1 h2 hv
      have J : PySem.W.InstAt s.heap a _ D none := ⟨hget, rfl, rfl, trivial⟩
      exact PySem.W.kia_one (PySem.W.handS_kitx_exc C.hg C.hk C.hs C.hd C.ha C.hn C.ht C.hm) I.kIn J e (fun z => nomatch z) fun tk => ⟨.bl b, H, I.kept (t' := tk) fun _ _ z => z, rfl, q⟩
end
theorem kit_ref {K : PySem.W.Frag} {D C : Addr} {b : Bool} (hd : PySem.W.hasDictIn K C = true) (ht : PySem.W.typeIn K (.ref C) = some (.type "type")) (h : PySem.W.subIn K (.ref D) (.ref C) = some b) (hs : PySem.W.subIn K (.ref D) (.ref D) = some true) : PySem.W.kitOne K (.ref D) (.ref C) = some b := by
  obtain ⟨cd, hc, _⟩ := PySem.W.any_some hd
  unfold PySem.W.kitOne
  by_cases e : D = C
  · subst e
    rw [if_pos (by simp), ← hs, h]
  · rw [if_neg (by simpa using e)]
    unfold PySem.W.kitCls
    dsimp only
    rw [if_pos (by rw [hc, ht]; rfl)]
    exact h
theorem kit_ty {K : PySem.W.Frag} {D : Addr} {T : String} {b : Bool} (hm : PySem.W.kitMeta T = true) (h : PySem.W.subIn K (.ref D) (.type T) = some b) : PySem.W.kitOne K (.ref D) (.type T) = some b := by
  unfold PySem.W.kitOne
  rw [if_neg (by simp)]
  unfold PySem.W.kitCls
  dsimp only
  rw [if_pos hm]
  exact h
theorem units65 {k : Nat} {A : Around} (r : Room k A) : A.units + 65 < cLine := by have := r.un; omega
theorem isX {K : PySem.W.Frag} {D C a : Addr} {b : Bool} {H : Hp} {Q : VK} (x : ExcC K D) (i : PySem.W.kitOne K (.ref D) (.ref C) = some b) (q : Q (.bl b) H) : rIsX K (.ref D) a [.ref a, .ref C] H Q := ⟨D, rfl, x, .ref C, .ref C, b, rfl, fun _ hu => hu, i, q⟩
theorem isXT {K : PySem.W.Frag} {D a : Addr} {T : String} {b : Bool} {H : Hp} {Q : VK} (x : ExcC K D) (i : PySem.W.kitOne K (.ref D) (.type T) = some b) (q : Q (.bl b) H) : rIsX K (.ref D) a [.ref a, .ty T] H Q := ⟨D, rfl, x, .ty T, .type T, b, rfl, fun _ hu => hu, i, q⟩
end Ts

namespace Tw
open PySem L2 Ts
/-- what the text's classes are -/
structure TxK (K : PySem.W.Frag) (c : Cs) : Prop where
  cLedger : Cls K c.Ledger
  n_Ledger_given : NoAttr K c.Ledger "given"
  n_Ledger_things : NoAttr K c.Ledger "things"
  md : ∀ d ks, ∃ φ, c.md d ks = .ext φ
  m_NoRow_TwinError : PySem.W.exmOne K (.ref c.NoRow) (.ref c.TwinError) = some true
  m_NoSum_TwinError : PySem.W.exmOne K (.ref c.NoSum) (.ref c.TwinError) = some true
  x_NoRow : ExcC K c.NoRow
  i_NoRow_Full : PySem.W.kitOne K (.ref c.NoRow) (.ref c.Full) = some false
  i_NoRow_NoBlock : PySem.W.kitOne K (.ref c.NoRow) (.ref c.NoBlock) = some false
  i_NoRow_NoPlace : PySem.W.kitOne K (.ref c.NoRow) (.ref c.NoPlace) = some false
  i_NoRow_Strange : PySem.W.kitOne K (.ref c.NoRow) (.ref c.Strange) = some false
  i_NoRow_NoRow : PySem.W.kitOne K (.ref c.NoRow) (.ref c.NoRow) = some true
  i_NoRow_NoSum : PySem.W.kitOne K (.ref c.NoRow) (.ref c.NoSum) = some false
  i_NoRow_ValueError : PySem.W.kitOne K (.ref c.NoRow) (.type "ValueError") = some true
  x_NoSum : ExcC K c.NoSum
  i_NoSum_Full : PySem.W.kitOne K (.ref c.NoSum) (.ref c.Full) = some false
  i_NoSum_NoBlock : PySem.W.kitOne K (.ref c.NoSum) (.ref c.NoBlock) = some false
  i_NoSum_NoPlace : PySem.W.kitOne K (.ref c.NoSum) (.ref c.NoPlace) = some false
  i_NoSum_Strange : PySem.W.kitOne K (.ref c.NoSum) (.ref c.Strange) = some false
  i_NoSum_NoRow : PySem.W.kitOne K (.ref c.NoSum) (.ref c.NoRow) = some false
  i_NoSum_NoSum : PySem.W.kitOne K (.ref c.NoSum) (.ref c.NoSum) = some true
  i_NoSum_ValueError : PySem.W.kitOne K (.ref c.NoSum) (.type "ValueError") = some true
end Tw

namespace Tw
open PySem L2 Ts
def N_law_cell_at : List Str := ["_law_script", "_law_k"]
def t_law_cell_at (K : PySem.W.Frag) (c : Cs) (E : XK) : TS := (tSeq (tIfS (tTest (tOp rLt (tVar 1) (tCB (rLen K) (tCons (tVar 0) tNil)))) (tRet (tOp (rIx K) (tVar 0) (tVar 1))) tNext)
  (tRet (tC (.int 0))))
/-- a cell of the script, or 0: some whole number -/
def sp_law_cell_at (K : PySem.W.Frag) (_ : Cs) : Sp := fun vs H Q _ => ∃ (a : Addr) (ns : List Int) (i : Nat), vs = [.ref a, .int i] ∧ SqL K H a (ns.map V.int) ∧ ∀ z : Int, Q (.int z) H
theorem len_law_cell_at {K c} : ∀ vs H Q E, sp_law_cell_at K c vs H Q E → vs.length = 2 := by rintro vs H Q E ⟨a, ns, i, rfl, _⟩; rfl
theorem pure_law_cell_at {K : PySem.W.Frag} {c : Cs} {vs : List V} {H : Hp} {Q : VK} {E : XK} (h : sp_law_cell_at K c vs H Q E) : t_law_cell_at K c E ⟨fun _ H' => Q .non H', Q, fun _ _ => False, fun _ _ => False⟩ (start N_law_cell_at vs) H := by
  obtain ⟨a, ns, i, rfl, hs, k⟩ := h
  show t_law_cell_at K c E _ [some (.ref a), some (.int i)] H
  unfold t_law_cell_at
  walk_at "s"
  refine w_lenL hs ?_
  walk_at "s"
  refine ite_d (fun h0 => ?_) fun h0 => ?_
  · walk_at "s"
    have hi : i < (ns.map V.int).length := by omega
    rw [List.length_map] at hi
    exact w_ixL hs (atI_nat (by rw [List.getElem?_map, List.getElem?_eq_getElem hi]; rfl)) (k _)
  · walk_at "s"
    exact k 0
def N_law_whole : List Str := ["_law_found"]
def t_law_whole (K : PySem.W.Frag) (c : Cs) (E : XK) : TS := (tRet (tAndV (tCB (rIsi K) (tCons (tVar 0) (tCons (tC (.ty "int")) tNil))) (tNotV (tCB (rIsi K) (tCons (tVar 0) (tCons (tC (.ty "bool")) tNil))))))
def sp_law_whole (K : PySem.W.Frag) (_ : Cs) : Sp := fun vs H Q _ => ∃ (v : V) (b : Bool), vs = [v] ∧ isWholeV K H v b ∧ Q (.bl b) H
theorem len_law_whole {K c} : ∀ vs H Q E, sp_law_whole K c vs H Q E → vs.length = 1 := by rintro vs H Q E ⟨a, i, rfl, _⟩; rfl
theorem pure_law_whole {K : PySem.W.Frag} {c : Cs} {vs : List V} {H : Hp} {Q : VK} {E : XK} (h : sp_law_whole K c vs H Q E) : t_law_whole K c E ⟨fun _ H' => Q .non H', Q, fun _ _ => False, fun _ _ => False⟩ (start N_law_whole vs) H := by
  obtain ⟨v, b, rfl, hw, k⟩ := h
  show t_law_whole K c E _ [some v] H
  unfold t_law_whole
  walk_at "s"
  rcases hw with ⟨i, rfl, rfl⟩ | ⟨x, rfl, rfl⟩ | ⟨x, rfl, rfl⟩ | ⟨rfl, rfl⟩ | ⟨a, xs, rfl, h, rfl⟩
  · refine isi_ty (b := true) tyI (by decide +kernel) ?_
    walk_at "s"
    refine iteT ?_
    walk_at "s"
    refine isi_ty (b := false) tyI (by decide +kernel) ?_
    walk_at "s"
    exact k
  · refine isi_ty (b := true) tyB (by decide +kernel) ?_
    walk_at "s"
    refine iteT ?_
    walk_at "s"
    refine isi_ty (b := true) tyB (by decide +kernel) ?_
    walk_at "s"
    exact k
  · refine isi_ty (b := false) tyS (by decide +kernel) ?_
    walk_at "s"
    exact iteF k
  · refine isi_ty (b := false) tyN (by decide +kernel) ?_
    walk_at "s"
    exact iteF k
  · rcases h with h | h
    · refine isi_ty (b := false) (ty_sql h) (by decide +kernel) ?_
      walk_at "s"
      exact iteF k
    · refine isi_ty (b := false) (ty_sqt h) (by decide +kernel) ?_
      walk_at "s"
      exact iteF k
theorem whole_int {K : PySem.W.Frag} {c : Cs} {i : Int} {H : Hp} {Q : VK} {E : XK} (k : Q (.bl true) H) : sp_law_whole K c [.int i] H Q E := ⟨_, true, rfl, .inl ⟨i, rfl, rfl⟩, k⟩
end Tw

namespace Tw
open PySem L2 Ts Mix
/-! ### rows -/
def signs : Str := "abcdefghijklmnopqrstuvwxyz0123456789 "
/-- a row's text -/
def Good (z : Str) : Prop := z.length ≤ 40 ∧ ∀ c ∈ z.cps.toList, c ∈ signs.cps.toList
instance (z : Str) : Decidable (Good z) := inferInstanceAs (Decidable (_ ∧ _))
theorem good_ok {z : Str} (h : Good z) : PyData.strOk z = true := by
  unfold PyData.strOk
  rw [Array.all_eq_true']
  intro c hc
  have h1 := h.2 c (by simpa using hc)
  have h2 : signs.cps.toList.all (fun c => decide (c < 0x110000)) = true := by decide +kernel
  exact List.all_eq_true.mp h2 c h1
theorem good_len {z : Str} (h : Good z) : z.length ≤ sizeLine := Nat.le_trans h.1 (by decide)
/-- what is handed in as a row: a text of few signs, or a thing of another kind -/
def RowV (K : PySem.W.Frag) (H : Hp) (v : V) : Prop := (∃ z, v = .str z ∧ z.length ≤ sizeLine) ∨ (∃ i, v = .int i) ∨ v = .non ∨ (∃ b, v = .bl b) ∨ (∃ a xs, v = .ref a ∧ (SqL K H a xs ∨ SqT K H a xs))
def isRowV (v : V) : Prop := ∃ z, v = .str z ∧ Good z
theorem rowV_good {K : PySem.W.Frag} {H : Hp} {z : Str} (h : Good z) : RowV K H (.str z) := .inl ⟨z, rfl, good_len h⟩

def N_is_whole : List Str := ["thing"]
def t_is_whole (K : PySem.W.Frag) (c : Cs) (E : XK) : TS := (tRet (tAndV (tCB (rIsi K) (tCons (tVar 0) (tCons (tC (.ty "int")) tNil))) (tNotV (tCB (rIsi K) (tCons (tVar 0) (tCons (tC (.ty "bool")) tNil))))))
def sp_is_whole (K : PySem.W.Frag) (_ : Cs) : Sp := fun vs H Q _ => ∃ (v : V) (b : Bool), vs = [v] ∧ isWholeV K H v b ∧ Q (.bl b) H
theorem len_is_whole {K c} : ∀ vs H Q E, sp_is_whole K c vs H Q E → vs.length = 1 := by rintro vs H Q E ⟨a, i, rfl, _⟩; rfl
theorem pure_is_whole {K : PySem.W.Frag} {c : Cs} {vs : List V} {H : Hp} {Q : VK} {E : XK} (h : sp_is_whole K c vs H Q E) : t_is_whole K c E ⟨fun _ H' => Q .non H', Q, fun _ _ => False, fun _ _ => False⟩ (start N_is_whole vs) H := by
  obtain ⟨v, b, rfl, hw, k⟩ := h
  show t_is_whole K c E _ [some v] H
  unfold t_is_whole
  walk_at "s"
  rcases hw with ⟨i, rfl, rfl⟩ | ⟨x, rfl, rfl⟩ | ⟨x, rfl, rfl⟩ | ⟨rfl, rfl⟩ | ⟨a, xs, rfl, h, rfl⟩
  · refine isi_ty (b := true) tyI (by decide +kernel) ?_
    walk_at "s"
    refine iteT ?_
    walk_at "s"
    refine isi_ty (b := false) tyI (by decide +kernel) ?_
    walk_at "s"
    exact k
  · refine isi_ty (b := true) tyB (by decide +kernel) ?_
    walk_at "s"
    refine iteT ?_
    walk_at "s"
    refine isi_ty (b := true) tyB (by decide +kernel) ?_
    walk_at "s"
    exact k
  · refine isi_ty (b := false) tyS (by decide +kernel) ?_
    walk_at "s"
    exact iteF k
  · refine isi_ty (b := false) tyN (by decide +kernel) ?_
    walk_at "s"
    exact iteF k
  · rcases h with h | h
    · refine isi_ty (b := false) (ty_sql h) (by decide +kernel) ?_
      walk_at "s"
      exact iteF k
    · refine isi_ty (b := false) (ty_sqt h) (by decide +kernel) ?_
      walk_at "s"
      exact iteF k
def N_is_row : List Str := ["thing", "sign"]
def t_is_row (K : PySem.W.Frag) (c : Cs) (E : XK) : TS := (tSeq (tIfS (tOr (tNot (tB (tCB (rIsi K) (tCons (tVar 0) (tCons (tC (.ty "str")) tNil))))) (tTest (tOp rGt (tCB (rLen K) (tCons (tVar 0) tNil)) (tC (.int 40))))) (tRet (tC (.bl false))) tNext)
  (tSeq (tFor (iStr (tVar 0)) (gName 1) (tIfS (tTest (tOp rNotInS (tVar 1) (tC (.str "abcdefghijklmnopqrstuvwxyz0123456789 ")))) (tRet (tC (.bl false))) tNext))
  (tRet (tC (.bl true)))))
def sp_is_row (K : PySem.W.Frag) (_ : Cs) : Sp := fun vs H Q _ => ∃ v, vs = [v] ∧ RowV K H v ∧ (isRowV v → Q (.bl true) H) ∧ (¬ isRowV v → Q (.bl false) H)
theorem len_is_row {K c} : ∀ vs H Q E, sp_is_row K c vs H Q E → vs.length = 1 := by rintro vs H Q E ⟨v, rfl, _⟩; rfl
theorem pure_is_row {K : PySem.W.Frag} {c : Cs} {vs : List V} {H : Hp} {Q : VK} {E : XK} (h : sp_is_row K c vs H Q E) : t_is_row K c E ⟨fun _ H' => Q .non H', Q, fun _ _ => False, fun _ _ => False⟩ (start N_is_row vs) H := by
  obtain ⟨v, rfl, hv, k1, k2⟩ := h
  show t_is_row K c E _ [some v, none] H
  have other : ∀ t, TyX K H v (.type t) → kitB t "str" = some false → (∀ z, v ≠ .str z) → t_is_row K c E ⟨fun _ H' => Q .non H', Q, fun _ _ => False, fun _ _ => False⟩ [some v, none] H := fun t ty kb ne => by
    unfold t_is_row
    walk_at "s"
    refine isi_ty ty kb ?_
    walk_at "s"
    refine iteT ?_
    refine iteT ?_
    walk_at "s"
    exact k2 fun ⟨z, e, _⟩ => ne z e
  rcases hv with ⟨z, rfl, hz⟩ | ⟨i, rfl⟩ | rfl | ⟨b, rfl⟩ | ⟨a, xs, rfl, h | h⟩
  · unfold t_is_row
    walk_at "s"
    refine isi_ty (b := true) tyS (by decide +kernel) ?_
    walk_at "s"
    refine iteF ?_
    walk_at "s"
    refine w_lenS hz ?_
    walk_at "s"
    refine ite_d (fun h0 => ?_) fun h0 => ?_
    · walk_at "s"
      refine k2 ?_
      rintro ⟨z', e, hg⟩
      cases e
      have := hg.1
      omega
    · walk_at "s"
      refine ⟨z, rfl, lb_str (fun i σ H' => H' = H ∧ (∃ v, σ = [some (.str z), v]) ∧ ∀ j c, j < i → z.cps[j]? = some c → c ∈ signs.cps.toList) ⟨rfl, ⟨none, rfl⟩, fun j _ hj => absurd hj (Nat.not_lt_zero _)⟩ ?_ ?_⟩
      · rintro i ch σ H' hc ⟨rfl, ⟨v, rfl⟩, hb⟩
        walk_at "s"
        refine ite_nd (fun h1 => ?_) fun h1 => ?_
        · walk_at "s"
          refine k2 ?_
          rintro ⟨z', e, hg⟩
          cases e
          exact h1 (hg.2 ch (Array.mem_toList_iff.mpr (Array.mem_of_getElem? hc)))
        · walk_at "s"
          refine ⟨rfl, ⟨_, rfl⟩, fun j cj hj hcj => ?_⟩
          rcases Nat.lt_or_ge j i with q | q
          · exact hb j cj q hcj
          · have e : j = i := by omega
            rw [e, hc] at hcj
            cases hcj
            exact h1
      · rintro σ H' ⟨rfl, ⟨v, rfl⟩, hb⟩
        walk_at "s"
        refine k1 ⟨z, rfl, by omega, fun cj hcj => ?_⟩
        obtain ⟨j, hj, e⟩ := Array.mem_iff_getElem.mp (Array.mem_toList_iff.mp hcj)
        exact hb j cj hj (by rw [Array.getElem?_eq_getElem hj, e])
  · exact other "int" tyI (by decide +kernel) fun z e => nomatch e
  · exact other "NoneType" tyN (by decide +kernel) fun z e => nomatch e
  · exact other "bool" tyB (by decide +kernel) fun z e => nomatch e
  · exact other "list" (ty_sql h) (by decide +kernel) fun z e => nomatch e
  · exact other "tuple" (ty_sqt h) (by decide +kernel) fun z e => nomatch e
def N_sure_row : List Str := ["thing"]
def t_sure_row (K : PySem.W.Frag) (c : Cs) (E : XK) : TS := (tIfS (tNot (tB (tCall (sp_is_row K c) [] E (tCons (tVar 0) tNil)))) (tRaiseX c.NoRow (fun cls d _ H => E cls d H)) tNext)
def sp_sure_row (K : PySem.W.Frag) (c : Cs) : Sp := fun vs H Q E => ∃ v, vs = [v] ∧ RowV K H v ∧ (isRowV v → Q .non H) ∧ (¬ isRowV v → E (.ref c.NoRow) none H)
theorem len_sure_row {K c} : ∀ vs H Q E, sp_sure_row K c vs H Q E → vs.length = 1 := by rintro vs H Q E ⟨v, rfl, _⟩; rfl
theorem pure_sure_row {K : PySem.W.Frag} {c : Cs} {vs : List V} {H : Hp} {Q : VK} {E : XK} (h : sp_sure_row K c vs H Q E) : t_sure_row K c E ⟨fun _ H' => Q .non H', Q, fun _ _ => False, fun _ _ => False⟩ (start N_sure_row vs) H := by
  obtain ⟨v, rfl, hv, k1, k2⟩ := h
  show t_sure_row K c E _ [some v] H
  unfold t_sure_row
  walk_at "s"
  refine ⟨v, rfl, hv, fun y => ?_, fun n => ?_⟩
  · walk_at "s"
    refine iteF ?_
    walk_at "s"
    exact k1 y
  · walk_at "s"
    refine iteT ?_
    walk_at "s"
    exact k2 n
end Tw

namespace Tw
open PySem L2 Ts Mix
/-! ### the ledger -/
/-- what the sum of two sums is given out for -/
def pk (a b : Nat) : MK := .tup [(a : Int), (b : Int)]
theorem pk_inj {a b x y : Nat} (h : pk a b = pk x y) : a = x ∧ b = y := by
  have e := MK.tup.inj h
  simp only [List.cons.injEq, and_true] at e
  omega
/-- asked for the sum of k -/
def ask (ths : List MK) (k : MK) : List MK := if k ∈ ths then ths else ths ++ [k]
def num (ths : List MK) (k : MK) : Nat := ths.idxOf k
theorem ask_mem (ths : List MK) (k : MK) : k ∈ ask ths k := by
  unfold ask
  split
  · assumption
  · simp
theorem ask_nd {ths : List MK} {k : MK} (h : ths.Nodup) : (ask ths k).Nodup := by
  unfold ask
  split
  · exact h
  · rename_i n
    exact nd_snoc h n
theorem ask_pre (ths : List MK) (k : MK) : ths <+: ask ths k := by
  unfold ask
  split
  · exact List.prefix_refl _
  · exact List.prefix_append _ _
theorem ask_len (ths : List MK) (k : MK) : (ask ths k).length ≤ ths.length + 1 := by
  unfold ask
  split
  · omega
  · simp
theorem num_get {ths : List MK} {k : MK} (h : k ∈ ths) : ths[num ths k]? = some k := by
  unfold num
  rw [List.getElem?_eq_getElem (List.idxOf_lt_length_of_mem h)]
  exact congrArg some (List.getElem_idxOf _)
theorem num_lt {ths : List MK} {k : MK} (h : k ∈ ths) : num ths k < ths.length := List.idxOf_lt_length_of_mem h
/-- the dict's entries: each thing, as it was handed in, and its number -/
def ents : Nat → List MK → List V → Ks
  | _, [], _ => []
  | _, _, [] => []
  | i, k :: ks, v :: vs => (k, v, .int (i : Nat)) :: ents (i + 1) ks vs
theorem ents_kk : ∀ (i : Nat) (ks : List MK) (vs : List V), ks.length = vs.length → kk (ents i ks vs) = ks
  | _, [], _, _ => rfl
  | _, _ :: _, [], h => by simp at h
  | i, k :: ks, v :: vs, h => by
    show k :: kk (ents (i + 1) ks vs) = k :: ks
    rw [ents_kk (i + 1) ks vs (by simpa using h)]
theorem ents_len (i : Nat) (ks : List MK) (vs : List V) (h : ks.length = vs.length) : (ents i ks vs).length = ks.length := by
  have e := congrArg List.length (ents_kk i ks vs h)
  simpa [kk] using e
theorem ents_snoc : ∀ (i : Nat) (ks : List MK) (vs : List V) (k : MK) (v : V), ks.length = vs.length → ents i (ks ++ [k]) (vs ++ [v]) = ents i ks vs ++ [(k, v, .int ((i + ks.length : Nat) : Int))]
  | i, [], [], k, v, _ => rfl
  | _, [], _ :: _, _, _, h => by simp at h
  | _, _ :: _, [], _, _, h => by simp at h
  | i, a :: ks, b :: vs, k, v, h => by
    show (a, b, V.int (i : Nat)) :: ents (i + 1) (ks ++ [k]) (vs ++ [v]) = (a, b, V.int (i : Nat)) :: (ents (i + 1) ks vs ++ _)
    rw [ents_snoc (i + 1) ks vs k v (by simpa using h), List.length_cons, show i + 1 + ks.length = i + (ks.length + 1) by omega]
theorem ents_get : ∀ (i : Nat) (ks : List MK) (vs : List V) (j : Nat) (k : MK), ks.length = vs.length → ks[j]? = some k → ∃ v, (ents i ks vs)[j]? = some (k, v, .int ((i + j : Nat) : Int)) ∧ vs[j]? = some v
  | _, [], _, j, k, _, h => by simp at h
  | _, _ :: _, [], _, _, h, _ => by simp at h
  | i, a :: ks, b :: vs, 0, k, h, e => by
    simp at e
    subst e
    exact ⟨b, rfl, rfl⟩
  | i, a :: ks, b :: vs, j + 1, k, h, e => by
    obtain ⟨v, h1, h2⟩ := ents_get (i + 1) ks vs j k (by simpa using h) (by simpa using e)
    refine ⟨v, ?_, by simpa using h2⟩
    show (ents (i + 1) ks vs)[j]? = _
    rw [h1, show i + 1 + j = i + (j + 1) by omega]
theorem ents_keys : ∀ (i : Nat) {H : Hp} {ks : List MK} {vs : List V}, Paired (KeyV H) ks vs → KeysV H (ents i ks vs)
  | _, _, _, _, .nil => fun p hp => nomatch hp
  | i, H, _, _, .cons h t => fun p hp => by
    rcases List.mem_cons.mp hp with e | hp
    · subst e; exact h
    · exact ents_keys (i + 1) t p hp
/-- the ledger's attributes -/
def lfl (d l : Addr) : List (Str × V) := putF "things" (.ref l) (putF "given" (.ref d) [])
theorem lfl_given {d l : Addr} : (lfl d l).lookup ("given" : Str) = some (.ref d) := by
  unfold lfl
  rw [lookup_putF, if_neg (by decide +kernel), lookup_putF, if_pos rfl]
theorem lfl_things {d l : Addr} : (lfl d l).lookup ("things" : Str) = some (.ref l) := by
  unfold lfl
  rw [lookup_putF, if_pos rfl]
theorem lfl_no {d l : Addr} {m : Str} (h1 : ¬ m = "given") (h2 : ¬ m = "things") : (lfl d l).lookup m = none := by
  unfold lfl
  rw [lookup_putF, if_neg h2, lookup_putF, if_neg h1]
  rfl
/-- a ledger that has given out the sums of ths -/
structure LedgerAt (c : Cs) (H : Hp) (p d l : Addr) (ths : List MK) (vs : List V) : Prop where
  ob : ∃ dx, H p = some (.ins c.Ledger dx (lfl d l))
  dc : H d = some (c.md d (ents 0 ths vs))
  ls : H l = some (.lst vs)
  kv : Paired (KeyV H) ths vs
  nd : ths.Nodup
theorem paired_len {α β : Type} {F : α → β → Prop} {xs : List α} {ys : List β} (p : Paired F xs ys) : xs.length = ys.length := Paired.length p
section
variable {K : PySem.W.Frag} {c : Cs} {H H' : Hp} {p d l : Addr} {ths : List MK} {vs : List V}
theorem LedgerAt.len (L : LedgerAt c H p d l ths vs) : ths.length = vs.length := paired_len L.kv
theorem LedgerAt.pd (T : TxK K c) (L : LedgerAt c H p d l ths vs) : p ≠ d := by
  obtain ⟨dx, h⟩ := L.ob
  obtain ⟨φ, e⟩ := T.md d (ents 0 ths vs)
  exact ne_of h L.dc (by rw [e]; exact fun z => nomatch z)
theorem LedgerAt.pl (L : LedgerAt c H p d l ths vs) : p ≠ l := by
  obtain ⟨dx, h⟩ := L.ob
  exact ne_of h L.ls fun z => nomatch z
theorem LedgerAt.dl (T : TxK K c) (L : LedgerAt c H p d l ths vs) : d ≠ l := by
  obtain ⟨φ, e⟩ := T.md d (ents 0 ths vs)
  exact ne_of L.dc L.ls (by rw [e]; exact fun z => nomatch z)
theorem paired_imp {α β : Type} {F G : α → β → Prop} {xs : List α} {ys : List β} (p : Paired F xs ys) (h : ∀ a b, F a b → G a b) : Paired G xs ys := Paired.mapP p h
/-- a ledger stands where what it is made of stands -/
theorem LedgerAt.kp {S : List Addr} (T : TxK K c) (L : LedgerAt c H p d l ths vs) (k : Kp S H H') (h : ∀ x ∈ S, x ≠ d ∧ x ≠ l ∧ (∀ o, H x = some o → ∃ ys, o = .lst ys)) : LedgerAt c H' p d l ths vs := by
  obtain ⟨dx, hp⟩ := L.ob
  refine ⟨⟨dx, k _ _ hp fun z => ?_⟩, k _ _ L.dc fun z => (h _ z).1 rfl, k _ _ L.ls fun z => (h _ z).2.1 rfl, paired_imp L.kv fun a b q => k.keyV q fun x o hx ho => ?_, L.nd⟩
  · obtain ⟨ys, e⟩ := (h _ z).2.2 _ hp
    exact nomatch e
  · obtain ⟨ys, e⟩ := (h _ hx).2.2 _ ho
    rintro ⟨zs, e2⟩
    rw [e] at e2
    exact nomatch e2
theorem LedgerAt.ex (L : LedgerAt c H p d l ths vs) (e : Ex H H') : LedgerAt c H' p d l ths vs := by
  obtain ⟨dx, hp⟩ := L.ob
  exact ⟨⟨dx, e _ _ hp⟩, e _ _ L.dc, e _ _ L.ls, paired_imp L.kv fun a b q => keyV_ex e q, L.nd⟩
end
def N_Ledger_init : List Str := ["self"]
def t_Ledger_init (K : PySem.W.Frag) (c : Cs) (E : XK) : TS := (tSeq (sFld K (tVar 0) (tMNew c.md) "given")
  (sFld K (tVar 0) (tLst tNil) "things"))
def sp_Ledger_init (K : PySem.W.Frag) (c : Cs) : Sp := fun vs H Q _ => ∃ p dx, vs = [.ref p] ∧ H p = some (.ins c.Ledger dx []) ∧ ∀ d l H', H d = none → H l = none → LedgerAt c H' p d l [] [] → Kp [p] H H' → Q .non H'
theorem len_Ledger_init {K c} : ∀ vs H Q E, sp_Ledger_init K c vs H Q E → vs.length = 1 := by rintro vs H Q E ⟨p, dx, rfl, _⟩; rfl
theorem pure_Ledger_init {K : PySem.W.Frag} {c : Cs} {vs : List V} {H : Hp} {Q : VK} {E : XK} (T : TxK K c) (h : sp_Ledger_init K c vs H Q E) : t_Ledger_init K c E ⟨fun _ H' => Q .non H', Q, fun _ _ => False, fun _ _ => False⟩ (start N_Ledger_init vs) H := by
  obtain ⟨p, dx, rfl, hp, k⟩ := h
  show t_Ledger_init K c E _ [some (.ref p)] H
  unfold t_Ledger_init
  walk_at "s"
  intro d hd
  walk_at "s"
  have npd : p ≠ d := ne_of_none hp hd
  refine w_sfldAt (by rw [upd_ne npd]; exact hp) T.cLedger T.n_Ledger_given (by show 0 < 1000; decide) ?_
  walk_at "s"
  refine ⟨Nat.zero_le _, fun l hl => ?_⟩
  walk_at "s"
  have nlp : l ≠ p := fun z => by rw [z, upd_same] at hl; cases hl
  rw [upd_ne nlp] at hl
  have nld : l ≠ d := fun z => by rw [z, upd_same] at hl; cases hl
  rw [upd_ne nld] at hl
  refine w_sfldAt (by rw [upd_ne nlp.symm, upd_same]) T.cLedger T.n_Ledger_things (by show 1 < 1000; decide) ?_
  refine k d l _ hd hl ⟨⟨dx, upd_same⟩, ?_, ?_, .nil, List.nodup_nil⟩ ?_
  · rw [upd_ne npd.symm, upd_ne nld.symm, upd_ne npd.symm, upd_same]; rfl
  · rw [upd_ne nlp, upd_same]
  · exact (((Kp.refl.fresh hd).set List.mem_cons_self).fresh hl).set List.mem_cons_self
def N_Ledger_number_of : List Str := ["self", "thing"]
def t_Ledger_number_of (K : PySem.W.Frag) (c : Cs) (E : XK) : TS := (tSeq (tIfS (tB (tMNotIn c.md (tVar 1) (tFld K (tVar 0) "given"))) (tSeq (sMPut c.md (tFld K (tVar 0) "given") (tVar 1) (tCB (rLen K) (tCons (tFld K (tVar 0) "things") tNil)))
  (tDrop (tBM K "list" rAppend (tFld K (tVar 0) "things") (tCons (tVar 1) tNil)))) tNext)
  (tRet (tMGet c.md (tFld K (tVar 0) "given") (tVar 1))))
def sp_Ledger_number_of (K : PySem.W.Frag) (c : Cs) : Sp := fun vs H Q _ => ∃ p d l ths xs k v, vs = [.ref p, v] ∧ LedgerAt c H p d l ths xs ∧ KeyV H k v ∧ ths.length < 1000000 ∧
  ∀ H' xs', LedgerAt c H' p d l (ask ths k) xs' → Kp [d, l] H H' → Q (.int (num (ask ths k) k : Nat)) H'
theorem len_Ledger_number_of {K c} : ∀ vs H Q E, sp_Ledger_number_of K c vs H Q E → vs.length = 2 := by rintro vs H Q E ⟨p, d, l, ths, xs, k, v, rfl, _⟩; rfl
theorem pure_Ledger_number_of {K : PySem.W.Frag} {c : Cs} {vs : List V} {H : Hp} {Q : VK} {E : XK} (T : TxK K c) (h : sp_Ledger_number_of K c vs H Q E) : t_Ledger_number_of K c E ⟨fun _ H' => Q .non H', Q, fun _ _ => False, fun _ _ => False⟩ (start N_Ledger_number_of vs) H := by
  obtain ⟨p, d, l, ths, xs, k, v, rfl, L, kv, hz, q⟩ := h
  show t_Ledger_number_of K c E _ [some (.ref p), some v] H
  unfold t_Ledger_number_of
  obtain ⟨dx, hp⟩ := L.ob
  have hl := L.len
  have ne1 := L.pd T
  have ne2 := L.pl
  have ne3 := L.dl T
  walk_at "s"
  refine w_fldAt hp T.cLedger T.n_Ledger_given lfl_given ?_
  refine ⟨d, _, k, rfl, L.dc, kv, ents_keys 0 L.kv, ?_⟩
  rw [ents_kk 0 ths xs hl]
  walk_at "s"
  by_cases hk : k ∈ ths
  · rw [hasG_yes hk]
    refine iteF ?_
    walk_at "s"
    refine w_fldAt hp T.cLedger T.n_Ledger_given lfl_given ?_
    walk_at "s"
    obtain ⟨v', h1, _⟩ := ents_get 0 ths xs (num ths k) k hl (num_get hk)
    refine ⟨d, _, k, num ths k, _, rfl, L.dc, kv, ents_keys 0 L.kv, h1, ?_⟩
    have e : ask ths k = ths := by unfold ask; rw [if_pos hk]
    rw [Nat.zero_add]
    have := q H xs (by rw [e]; exact L) Kp.refl
    rw [e] at this
    exact this
  · rw [hasG_no hk]
    refine iteT ?_
    walk_at "s"
    refine w_fldAt hp T.cLedger T.n_Ledger_things lfl_things ?_
    walk_at "s"
    refine w_lenL (sql L.ls) ?_
    walk_at "s"
    refine w_fldAt hp T.cLedger T.n_Ledger_given lfl_given ?_
    walk_at "s"
    refine ⟨d, _, k, rfl, L.dc, kv, ents_keys 0 L.kv, by rw [ents_kk 0 ths xs hl]; exact hk, by rw [ents_len 0 ths xs hl]; exact szL hz, ?_⟩
    walk_at "s"
    have hp1 : ∀ o, (upd H d o) p = some (.ins c.Ledger dx (lfl d l)) := fun o => by rw [upd_ne ne1]; exact hp
    refine w_fldAt (hp1 _) T.cLedger T.n_Ledger_things lfl_things ?_
    have hl1 : ∀ o, (upd H d o) l = some (.lst xs) := fun o => by rw [upd_ne ne3.symm]; exact L.ls
    refine ⟨w_tyL (sql (hl1 _)), ?_⟩
    walk_at "s"
    refine w_app (hl1 _) (by rw [← hl]; exact szL hz) ?_
    walk_at "s"
    refine w_fldAt (by rw [upd_ne ne2]; exact hp1 _) T.cLedger T.n_Ledger_given lfl_given ?_
    walk_at "s"
    have e : ask ths k = ths ++ [k] := by unfold ask; rw [if_neg hk]
    have es := ents_snoc 0 ths xs k v hl
    rw [Nat.zero_add] at es
    -- the tuples stand
    have kv2 : ∀ {k' : MK} {v' : V}, KeyV H k' v' → KeyV (upd (upd H d (c.md d (ents 0 ths xs ++ [(k, v, V.int (xs.length : Nat))]))) l (.lst (xs ++ [v]))) k' v' := fun {k' v'} z => by
      refine (((Kp.refl (S := [d, l])).set (p := d) (by simp)).set (p := l) (by simp)).keyV z fun x o hx ho => ?_
      obtain ⟨φ, e2⟩ := T.md d (ents 0 ths xs)
      rintro ⟨ys, e3⟩
      subst e3
      rcases List.mem_cons.mp hx with r | r
      · rw [r, L.dc, e2] at ho; exact nomatch ho
      · rw [List.mem_singleton.mp r, L.ls] at ho; exact nomatch ho
    have L' : LedgerAt c (upd (upd H d (c.md d (ents 0 ths xs ++ [(k, v, V.int (xs.length : Nat))]))) l (.lst (xs ++ [v]))) p d l (ths ++ [k]) (xs ++ [v]) := by
      refine ⟨⟨dx, by rw [upd_ne ne2]; exact hp1 _⟩, ?_, upd_same, Paired.snoc (paired_imp L.kv fun a b z => kv2 z) (kv2 kv), nd_snoc L.nd hk⟩
      rw [upd_ne ne3, upd_same, es, hl]
    have g : (ents 0 ths xs ++ [(k, v, V.int (xs.length : Nat))])[ths.length]? = some (k, v, V.int (xs.length : Nat)) := by
      rw [List.getElem?_append_right (by rw [ents_len 0 ths xs hl]; exact Nat.le_refl _), ents_len 0 ths xs hl, Nat.sub_self]; rfl
    refine ⟨d, _, k, ths.length, _, rfl, by rw [upd_ne ne3, upd_same], kv2 kv, ?_, g, ?_⟩
    · have z := ents_keys 0 L'.kv
      rw [es, hl] at z
      exact z
    · have z := q _ _ (by rw [e]; exact L') (((Kp.refl (S := [d, l])).set (p := d) (by simp)).set (p := l) (by simp))
      have n : num (ask ths k) k = xs.length := by
        rw [e, ← hl]
        unfold num
        rw [List.idxOf_append, if_neg hk]
        simp
      rw [n] at z
      exact z
end Tw

namespace Tw
open PySem L2 Ts Mix
section
variable {K : PySem.W.Frag} {c : Cs} {H H' : Hp} {p d l : Addr} {ths : List MK} {vs : List V}
theorem LedgerAt.no {m : Str} (h1 : ¬ m = "given") (h2 : ¬ m = "things") : (lfl d l).lookup m = none := lfl_no h1 h2
end
/-- a number that was given out -/
def NumV (n : Nat) (v : V) : Prop := ∃ i : Nat, v = .int i ∧ i < n
theorem whole_of_num {K : PySem.W.Frag} {H : Hp} {n : Nat} {v : V} (h : NumV n v) : isWholeV K H v true := by
  obtain ⟨i, rfl, _⟩ := h
  exact .inl ⟨_, rfl, rfl⟩
def N_Ledger_sure : List Str := ["self", "number"]
def t_Ledger_sure (K : PySem.W.Frag) (c : Cs) (E : XK) : TS := (tIfS (tOr (tNot (tB (tCall (sp_is_whole K c) [] E (tCons (tVar 1) tNil)))) (tNot (tTest (tChain rLe rLt (tC (.int 0)) (tVar 1) (tCB (rLen K) (tCons (tFld K (tVar 0) "things") tNil)))))) (tRaiseX c.NoSum (fun cls d _ H => E cls d H)) tNext)
def sp_Ledger_sure (K : PySem.W.Frag) (c : Cs) : Sp := fun vs H Q E => ∃ p d l ths xs v b, vs = [.ref p, v] ∧ LedgerAt c H p d l ths xs ∧ isWholeV K H v b ∧ (NumV ths.length v → Q .non H) ∧ (¬ NumV ths.length v → E (.ref c.NoSum) none H)
theorem len_Ledger_sure {K c} : ∀ vs H Q E, sp_Ledger_sure K c vs H Q E → vs.length = 2 := by rintro vs H Q E ⟨p, d, l, ths, xs, v, b, rfl, _⟩; rfl
theorem pure_Ledger_sure {K : PySem.W.Frag} {c : Cs} {vs : List V} {H : Hp} {Q : VK} {E : XK} (T : TxK K c) (h : sp_Ledger_sure K c vs H Q E) : t_Ledger_sure K c E ⟨fun _ H' => Q .non H', Q, fun _ _ => False, fun _ _ => False⟩ (start N_Ledger_sure vs) H := by
  obtain ⟨p, d, l, ths, xs, v, b, rfl, L, hw, k1, k2⟩ := h
  show t_Ledger_sure K c E _ [some (.ref p), some v] H
  unfold t_Ledger_sure
  obtain ⟨dx, hp⟩ := L.ob
  have hl := L.len
  walk_at "s"
  refine ⟨v, b, rfl, hw, ?_⟩
  walk_at "s"
  refine ite_nb (fun hb => ?_) fun hb => ?_
  · refine iteT ?_
    walk_at "s"
    refine k2 fun ⟨i, e, _⟩ => ?_
    subst e
    rcases hw with ⟨_, _, z⟩ | ⟨x, z, _⟩ | ⟨x, z, _⟩ | ⟨z, _⟩ | ⟨a, ys, z, _⟩
    · rw [hb] at z; cases z
    all_goals exact nomatch z
  · subst hb
    obtain ⟨i, rfl⟩ : ∃ i, v = .int i := by
      rcases hw with ⟨i, z, _⟩ | ⟨x, _, z⟩ | ⟨x, _, z⟩ | ⟨_, z⟩ | ⟨a, ys, _, _, z⟩
      · exact ⟨i, z⟩
      all_goals cases z
    walk_at "s"
    refine ite_d (fun h0 => ?_) fun h0 => ?_
    · walk_at "s"
      refine w_fldAt hp T.cLedger T.n_Ledger_things lfl_things ?_
      walk_at "s"
      refine w_lenL (sql L.ls) ?_
      walk_at "s"
      refine ite_nd (fun h1 => ?_) fun h1 => ?_
      · walk_at "s"
        refine k2 fun ⟨n, e, hn⟩ => ?_
        cases e
        omega
      · walk_at "s"
        refine k1 ⟨i.toNat, by congr 1; omega, by omega⟩
    · walk_at "s"
      refine iteT ?_
      walk_at "s"
      refine k2 fun ⟨n, e, hn⟩ => ?_
      cases e
      omega
def N_Ledger_of_row : List Str := ["self", "row"]
def t_Ledger_of_row (K : PySem.W.Frag) (c : Cs) (E : XK) : TS := (tSeq (tDrop (tCall (sp_sure_row K c) [] E (tCons (tVar 1) tNil)))
  (tRet (tMeth c.Ledger "number_of" (sp_Ledger_number_of K c) [] E (tVar 0) (tCons (tVar 1) tNil))))
def sp_Ledger_of_row (K : PySem.W.Frag) (c : Cs) : Sp := fun vs H Q E => ∃ p d l ths xs v, vs = [.ref p, v] ∧ LedgerAt c H p d l ths xs ∧ RowV K H v ∧ ths.length < 1000000 ∧
  (∀ z, v = .str z → Good z → ∀ H' xs', LedgerAt c H' p d l (ask ths (.row z)) xs' → Kp [d, l] H H' → Q (.int (num (ask ths (.row z)) (.row z) : Nat)) H') ∧ (¬ isRowV v → E (.ref c.NoRow) none H)
theorem len_Ledger_of_row {K c} : ∀ vs H Q E, sp_Ledger_of_row K c vs H Q E → vs.length = 2 := by rintro vs H Q E ⟨p, d, l, ths, xs, v, rfl, _⟩; rfl
theorem pure_Ledger_of_row {K : PySem.W.Frag} {c : Cs} {vs : List V} {H : Hp} {Q : VK} {E : XK} (h : sp_Ledger_of_row K c vs H Q E) : t_Ledger_of_row K c E ⟨fun _ H' => Q .non H', Q, fun _ _ => False, fun _ _ => False⟩ (start N_Ledger_of_row vs) H := by
  obtain ⟨p, d, l, ths, xs, v, rfl, L, hv, hz, k1, k2⟩ := h
  show t_Ledger_of_row K c E _ [some (.ref p), some v] H
  unfold t_Ledger_of_row
  obtain ⟨dx, hp⟩ := L.ob
  walk_at "s"
  refine ⟨v, rfl, hv, fun y => ?_, k2⟩
  obtain ⟨z, rfl, hg⟩ := y
  walk_at "s"
  refine w_methAt hp (lfl_no (by decide +kernel) (by decide +kernel)) ?_
  walk_at "s"
  exact ⟨p, d, l, ths, xs, .row z, .str z, rfl, L, rfl, hz, fun H' xs' L' kp => k1 z rfl hg H' xs' L' kp⟩
def N_Ledger_of_pair : List Str := ["self", "one", "other"]
def t_Ledger_of_pair (K : PySem.W.Frag) (c : Cs) (E : XK) : TS := (tSeq (tDrop (tMeth c.Ledger "sure" (sp_Ledger_sure K c) [] E (tVar 0) (tCons (tVar 1) tNil)))
  (tSeq (tDrop (tMeth c.Ledger "sure" (sp_Ledger_sure K c) [] E (tVar 0) (tCons (tVar 2) tNil)))
  (tRet (tMeth c.Ledger "number_of" (sp_Ledger_number_of K c) [] E (tVar 0) (tCons (tTup (tCons (tVar 1) (tCons (tVar 2) tNil))) tNil)))))
def sp_Ledger_of_pair (K : PySem.W.Frag) (c : Cs) : Sp := fun vs H Q E => ∃ p d l ths xs v w b b', vs = [.ref p, v, w] ∧ LedgerAt c H p d l ths xs ∧ isWholeV K H v b ∧ isWholeV K H w b' ∧ ths.length < 1000000 ∧
  (∀ i j : Nat, v = .int i → w = .int j → i < ths.length → j < ths.length → ∀ H' xs', LedgerAt c H' p d l (ask ths (pk i j)) xs' → Kp [d, l] H H' → Q (.int (num (ask ths (pk i j)) (pk i j) : Nat)) H') ∧ (¬ (NumV ths.length v ∧ NumV ths.length w) → E (.ref c.NoSum) none H)
theorem len_Ledger_of_pair {K c} : ∀ vs H Q E, sp_Ledger_of_pair K c vs H Q E → vs.length = 3 := by rintro vs H Q E ⟨p, d, l, ths, xs, v, w, b, b', rfl, _⟩; rfl
theorem pure_Ledger_of_pair {K : PySem.W.Frag} {c : Cs} {vs : List V} {H : Hp} {Q : VK} {E : XK} (h : sp_Ledger_of_pair K c vs H Q E) : t_Ledger_of_pair K c E ⟨fun _ H' => Q .non H', Q, fun _ _ => False, fun _ _ => False⟩ (start N_Ledger_of_pair vs) H := by
  obtain ⟨p, d, l, ths, xs, v, w, b, b', rfl, L, hv, hw, hz, k1, k2⟩ := h
  show t_Ledger_of_pair K c E _ [some (.ref p), some v, some w] H
  unfold t_Ledger_of_pair
  obtain ⟨dx, hp⟩ := L.ob
  walk_at "s"
  refine w_methAt hp (lfl_no (by decide +kernel) (by decide +kernel)) ?_
  walk_at "s"
  refine ⟨p, d, l, ths, xs, v, b, rfl, L, hv, fun y1 => ?_, fun n => k2 fun z => n z.1⟩
  walk_at "s"
  refine w_methAt hp (lfl_no (by decide +kernel) (by decide +kernel)) ?_
  walk_at "s"
  refine ⟨p, d, l, ths, xs, w, b', rfl, L, hw, fun y2 => ?_, fun n => k2 fun z => n z.2⟩
  obtain ⟨i, rfl, hi⟩ := y1
  obtain ⟨j, rfl, hj⟩ := y2
  walk_at "s"
  refine w_methAt hp (lfl_no (by decide +kernel) (by decide +kernel)) ?_
  walk_at "s"
  refine ⟨by show 2 ≤ sizeLine; exact sz100 (by decide), fun t ht => ?_⟩
  walk_at "s"
  have e : Ex H (upd H t (.tup [.int i, .int j])) := ex_new ex_refl ht
  exact ⟨p, d, l, ths, xs, pk i j, .ref t, rfl, L.ex e, ⟨t, rfl, upd_same⟩, hz, fun H' xs' L' kp => k1 i j rfl rfl hi hj H' xs' L' ((Kp.of_ex e).trans kp)⟩
def N_Ledger_what : List Str := ["self", "number"]
def t_Ledger_what (K : PySem.W.Frag) (c : Cs) (E : XK) : TS := (tSeq (tDrop (tMeth c.Ledger "sure" (sp_Ledger_sure K c) [] E (tVar 0) (tCons (tVar 1) tNil)))
  (tRet (tOp (rIx K) (tFld K (tVar 0) "things") (tVar 1))))
def sp_Ledger_what (K : PySem.W.Frag) (c : Cs) : Sp := fun vs H Q E => ∃ p d l ths xs v b, vs = [.ref p, v] ∧ LedgerAt c H p d l ths xs ∧ isWholeV K H v b ∧
  (∀ (i : Nat) k w, v = .int i → ths[i]? = some k → xs[i]? = some w → KeyV H k w → Q w H) ∧ (¬ NumV ths.length v → E (.ref c.NoSum) none H)
theorem len_Ledger_what {K c} : ∀ vs H Q E, sp_Ledger_what K c vs H Q E → vs.length = 2 := by rintro vs H Q E ⟨p, d, l, ths, xs, v, b, rfl, _⟩; rfl
theorem paired_get {α β : Type} {F : α → β → Prop} : ∀ {xs : List α} {ys : List β} {i : Nat} {x : α}, Paired F xs ys → xs[i]? = some x → ∃ y, ys[i]? = some y ∧ F x y
  | _, _, i, x, .nil, e => by simp at e
  | _, _, 0, x, .cons h t, e => by simp at e; subst e; exact ⟨_, rfl, h⟩
  | _, _, i + 1, x, .cons h t, e => by
    obtain ⟨y, h1, h2⟩ := paired_get (i := i) (x := x) t (by simpa using e)
    exact ⟨y, by simpa using h1, h2⟩
theorem pure_Ledger_what {K : PySem.W.Frag} {c : Cs} {vs : List V} {H : Hp} {Q : VK} {E : XK} (T : TxK K c) (h : sp_Ledger_what K c vs H Q E) : t_Ledger_what K c E ⟨fun _ H' => Q .non H', Q, fun _ _ => False, fun _ _ => False⟩ (start N_Ledger_what vs) H := by
  obtain ⟨p, d, l, ths, xs, v, b, rfl, L, hv, k1, k2⟩ := h
  show t_Ledger_what K c E _ [some (.ref p), some v] H
  unfold t_Ledger_what
  obtain ⟨dx, hp⟩ := L.ob
  walk_at "s"
  refine w_methAt hp (lfl_no (by decide +kernel) (by decide +kernel)) ?_
  walk_at "s"
  refine ⟨p, d, l, ths, xs, v, b, rfl, L, hv, fun y1 => ?_, k2⟩
  obtain ⟨i, rfl, hi⟩ := y1
  walk_at "s"
  refine w_fldAt hp T.cLedger T.n_Ledger_things lfl_things ?_
  walk_at "s"
  obtain ⟨w, h1, h2⟩ := paired_get L.kv (List.getElem?_eq_getElem hi)
  exact w_ixL (sql L.ls) (atI_nat h1) (k1 i _ w rfl (List.getElem?_eq_getElem hi) h1 h2)
def N_Ledger_many : List Str := ["self"]
def t_Ledger_many (K : PySem.W.Frag) (c : Cs) (E : XK) : TS := (tRet (tCB (rLen K) (tCons (tFld K (tVar 0) "things") tNil)))
def sp_Ledger_many (K : PySem.W.Frag) (c : Cs) : Sp := fun vs H Q _ => ∃ p d l ths xs, vs = [.ref p] ∧ LedgerAt c H p d l ths xs ∧ ths.length < 1000000 ∧ Q (.int (ths.length : Nat)) H
theorem len_Ledger_many {K c} : ∀ vs H Q E, sp_Ledger_many K c vs H Q E → vs.length = 1 := by rintro vs H Q E ⟨p, d, l, ths, xs, rfl, _⟩; rfl
theorem pure_Ledger_many {K : PySem.W.Frag} {c : Cs} {vs : List V} {H : Hp} {Q : VK} {E : XK} (T : TxK K c) (h : sp_Ledger_many K c vs H Q E) : t_Ledger_many K c E ⟨fun _ H' => Q .non H', Q, fun _ _ => False, fun _ _ => False⟩ (start N_Ledger_many vs) H := by
  obtain ⟨p, d, l, ths, xs, rfl, L, hz, k⟩ := h
  show t_Ledger_many K c E _ [some (.ref p)] H
  unfold t_Ledger_many
  obtain ⟨dx, hp⟩ := L.ob
  walk_at "s"
  refine w_fldAt hp T.cLedger T.n_Ledger_things lfl_things ?_
  walk_at "s"
  refine w_lenL (sql L.ls) ?_
  rw [← L.len]
  exact k
end Tw

namespace Tw
open PySem L2 Ts Mix
/-! ### what the laws draw -/
theorem good_nil : Good "" := by decide +kernel
theorem good_app {a b : Str} (ha : ∀ c ∈ a.cps.toList, c ∈ signs.cps.toList) (hb : ∀ c ∈ b.cps.toList, c ∈ signs.cps.toList) : ∀ c ∈ (a ++ b).cps.toList, c ∈ signs.cps.toList := by
  intro c hc
  have e : (a ++ b).cps.toList = a.cps.toList ++ b.cps.toList := by
    show (a.cps ++ b.cps).toList = _
    simp
  rw [e] at hc
  rcases List.mem_append.mp hc with h | h
  · exact ha c h
  · exact hb c h
theorem len_app {a b : Str} : (a ++ b).length = a.length + b.length := by
  show (a.cps ++ b.cps).size = _
  rw [Array.size_append]; rfl
theorem good_num : ∀ n : Fin 40, (Str.ofString (toString ((n.val : Nat) : Int))).length ≤ 2 ∧ ∀ c ∈ (Str.ofString (toString ((n.val : Nat) : Int))).cps.toList, c ∈ signs.cps.toList := by decide +kernel
theorem goodN {n : Nat} (h : n < 40) : (Str.ofString (toString ((n : Nat) : Int))).length ≤ 2 ∧ ∀ c ∈ (Str.ofString (toString ((n : Nat) : Int))).cps.toList, c ∈ signs.cps.toList := good_num ⟨n, h⟩
theorem good_one {c : Nat} (h : c ∈ signs.cps.toList) : ∀ x ∈ (⟨#[c]⟩ : Str).cps.toList, x ∈ signs.cps.toList := by
  intro x hx
  simp at hx
  rw [hx]; exact h
theorem good_cut {z : Str} {lo hi : Option Int} (h : ∀ c ∈ z.cps.toList, c ∈ signs.cps.toList) : ∀ c ∈ (cutS z lo hi).cps.toList, c ∈ signs.cps.toList := by
  intro c hc
  unfold cutS at hc
  exact h c (List.mem_of_mem_drop (List.mem_of_mem_take (by simpa using hc)))
theorem at_signs {i : Int} (h0 : 0 ≤ i) (h1 : i < 37) : ∃ c, c ∈ signs.cps.toList ∧ atI signs.cps.toList i = some c := by
  have e : (37 : Int) = (signs.cps.toList.length : Nat) := by decide +kernel
  exact atI_lt h0 (by rw [← e]; exact h1)
def N_law_mix : List Str := ["_law_number", "_law_k", "_law_more"]
def t_law_mix (K : PySem.W.Frag) (c : Cs) (E : XK) : TS := (tSeq (tAsg (tOp rMod (tOp rAddU (tOp rAddU (tOp rMul (tVar 0) (tC (.int 48271))) (tOp rMul (tVar 1) (tC (.int 69621)))) (tC (.int 11))) (tC (.int 1000003))) (gName 2))
  (tRet (tOp rMod (tOp rAddU (tOp rAddU (tOp rMul (tVar 2) (tVar 2)) (tOp rMul (tC (.int 7)) (tVar 2))) (tVar 1)) (tC (.int 999983)))))
def sp_law_mix (K : PySem.W.Frag) (_ : Cs) : Sp := fun vs H Q _ => ∃ n k : Int, vs = [.int n, .int k] ∧ ∀ r : Nat, r < 999983 → Q (.int (r : Nat)) H
theorem len_law_mix {K c} : ∀ vs H Q E, sp_law_mix K c vs H Q E → vs.length = 2 := by rintro vs H Q E ⟨_, _, rfl, _⟩; rfl
theorem pure_law_mix {K : PySem.W.Frag} {c : Cs} {vs : List V} {H : Hp} {Q : VK} {E : XK} (h : sp_law_mix K c vs H Q E) : t_law_mix K c E ⟨fun _ H' => Q .non H', Q, fun _ _ => False, fun _ _ => False⟩ (start N_law_mix vs) H := by
  obtain ⟨n, k, rfl, q⟩ := h
  show t_law_mix K c E _ [some (.int n), some (.int k), none] H
  unfold t_law_mix
  walk_at "s"
  have h1 := Int.emod_nonneg (n * 48271 + k * 69621 + 11) (show (1000003 : Int) ≠ 0 by decide)
  have h2 := Int.emod_lt_of_pos (n * 48271 + k * 69621 + 11) (show (0 : Int) < 1000003 by decide)
  generalize (n * 48271 + k * 69621 + 11) % 1000003 = m at h1 h2
  obtain ⟨r, hr⟩ := Int.eq_ofNat_of_zero_le (a := (m * m + 7 * m + k) % 999983) (Int.emod_nonneg _ (by decide))
  have h3 := Int.emod_lt_of_pos (m * m + 7 * m + k) (show (0 : Int) < 999983 by decide)
  rw [hr] at h3 ⊢
  exact q r (by omega)
def N_law_text : List Str := ["_law_cell", "_law_signs", "_law_many", "_law_text_here", "_law_k"]
def t_law_text (K : PySem.W.Frag) (c : Cs) (E : XK) : TS := (tSeq (tAsg (tC (.str "abcdefghijklmnopqrstuvwxyz0123456789 ")) (gName 1))
  (tSeq (tAsg (tOp rMod (tVar 0) (tC (.int 9))) (gName 2))
  (tSeq (tIfS (tTest (tOp (rEqU K) (tOp rMod (tOp rDiv (tVar 0) (tC (.int 9))) (tC (.int 6))) (tC (.int 2)))) (tRet (tOp rAddU (tOp rAddU (tCB rStr1 (tCons (tOp rMod (tOp rDiv (tVar 0) (tC (.int 54))) (tC (.int 40))) tNil)) (tOp (rIx K) (tLst (tCons (tC (.str " ")) (tCons (tC (.str "")) tNil))) (tOp rMod (tOp rDiv (tVar 0) (tC (.int 2160))) (tC (.int 2))))) (tCB rStr1 (tCons (tOp rMod (tOp rDiv (tVar 0) (tC (.int 4320))) (tC (.int 40))) tNil)))) tNext)
  (Evl.tCut (tIfS (tTest (tOp (rEqU K) (tOp rMod (tOp rDiv (tVar 0) (tC (.int 9))) (tC (.int 6))) (tC (.int 1)))) (tAsg (tOp (rIx K) (tLst (tCons (tC (.int 40)) (tCons (tC (.int 39)) (tCons (tC (.int 0)) (tCons (tC (.int 1)) tNil))))) (tOp rMod (tOp rDiv (tVar 0) (tC (.int 54))) (tC (.int 4)))) (gName 2)) tNext)
  (tSeq (tAsg (tC (.str "")) (gName 3))
  (tSeq (tFor (iRng1 (tCons (tVar 2) tNil)) (gName 4) (tAsg (tOp rAddU (tVar 3) (tOp (rIx K) (tVar 1) (tOp rMod (tOp rDiv (tCall (sp_law_mix K c) [] E0 (tCons (tVar 0) (tCons (tVar 4) tNil))) (tC (.int 7))) (tC (.int 37))))) (gName 3)))
  (tRet (tVar 3))))))))
def sp_law_text (K : PySem.W.Frag) (_ : Cs) : Sp := fun vs H Q _ => ∃ n : Int, vs = [.int n] ∧ ∀ (z : Str) H', Good z → Ex H H' → Q (.str z) H'
theorem len_law_text {K c} : ∀ vs H Q E, sp_law_text K c vs H Q E → vs.length = 1 := by rintro vs H Q E ⟨_, rfl, _⟩; rfl
theorem pure_law_text {K : PySem.W.Frag} {c : Cs} {vs : List V} {H : Hp} {Q : VK} {E : XK} (h : sp_law_text K c vs H Q E) : t_law_text K c E ⟨fun _ H' => Q .non H', Q, fun _ _ => False, fun _ _ => False⟩ (start N_law_text vs) H := by
  obtain ⟨n, rfl, q⟩ := h
  show t_law_text K c E _ [some (.int n), none, none, none, none] H
  unfold t_law_text
  walk_at "s"
  refine ite_d (fun h0 => ?_) fun h0 => ?_
  · walk_at "s"
    obtain ⟨i, hi⟩ := Int.eq_ofNat_of_zero_le (a := n / 54 % 40) (by omega)
    obtain ⟨j, hj⟩ := Int.eq_ofNat_of_zero_le (a := n / 4320 % 40) (by omega)
    rw [hi]
    have g1 := goodN (n := i) (by omega)
    have g2 := goodN (n := j) (by omega)
    refine w_str (Nat.lt_of_le_of_lt (Nat.log2_le_self _) (by omega)) ?_
    walk_at "s"
    refine ⟨by show 2 ≤ sizeLine; exact sz100 (by decide), fun p hp => ?_⟩
    walk_at "s"
    refine w_ixAny (sql upd_same) (by omega) (by show _ < ((2 : Nat) : Int); omega) fun v hv => ?_
    obtain ⟨y, rfl, g3, g4⟩ : ∃ y : Str, v = .str y ∧ y.length ≤ 1 ∧ ∀ c ∈ y.cps.toList, c ∈ signs.cps.toList := by
      rcases List.mem_cons.mp hv with e | hv
      · exact ⟨_, e, by decide +kernel, by decide +kernel⟩
      · exact ⟨_, List.mem_singleton.mp hv, by decide +kernel, by decide +kernel⟩
    walk_at "s"
    refine w_addS (szM (by have := g1.1; omega)) ?_
    walk_at "s"
    rw [hj]
    refine w_str (Nat.lt_of_le_of_lt (Nat.log2_le_self _) (by omega)) ?_
    have l1 := g1.1
    have l2 := g2.1
    have l3 : (toString ((i : Nat) : Int) ++ y : Str).length ≤ 3 := by rw [len_app]; omega
    refine w_addS (szM (by omega)) ?_
    exact q _ _ ⟨by rw [len_app]; omega, good_app (good_app g1.2 g4) g2.2⟩ (ex_new ex_refl hp)
  walk_at "s"
  refine w_cut (Mid := fun σ' H' => Ex H H' ∧ ∃ m : Nat, m ≤ 40 ∧ σ' = [some (.int n), some (.str signs), some (.int (m : Nat)), none, none]) ?_ ?_
  · walk_at "s"
    refine ite_d (fun h1 => ?_) fun h1 => ?_
    · walk_at "s"
      refine ⟨by show 4 ≤ sizeLine; exact sz100 (by decide), fun p hp => ?_⟩
      walk_at "s"
      refine w_ixAny (sql upd_same) (by omega) (by show _ < ((4 : Nat) : Int); omega) fun v hv => ?_
      walk_at "s"
      simp only [List.mem_cons, List.not_mem_nil, or_false] at hv
      rcases hv with rfl | rfl | rfl | rfl
      · exact ⟨ex_new ex_refl hp, 40, by decide, rfl⟩
      · exact ⟨ex_new ex_refl hp, 39, by decide, rfl⟩
      · exact ⟨ex_new ex_refl hp, 0, by decide, rfl⟩
      · exact ⟨ex_new ex_refl hp, 1, by decide, rfl⟩
    · walk_at "s"
      obtain ⟨m, e⟩ := Int.eq_ofNat_of_zero_le (a := n % 9) (by omega)
      rw [e]
      exact ⟨ex_refl, m, by omega, rfl⟩
  rintro σ H1 ⟨ex1, m, hm, rfl⟩
  walk_at "s"
  refine w_iR1v (by omega) (by omega) ?_
  rw [Int.toNat_natCast]
  refine lb_range0 (fun i σ H' => Ex H H' ∧ ∃ (z : Str) (v : Option V), z.length = i ∧ (∀ c ∈ z.cps.toList, c ∈ signs.cps.toList) ∧ σ = [some (.int n), some (.str signs), some (.int (m : Nat)), some (.str z), v]) ⟨ex1, _, _, rfl, good_nil.2, rfl⟩ ?_ ?_
  · rintro i σ H2 hi ⟨ex2, z, v, hz, hg, rfl⟩
    walk_at "s"
    refine ⟨n, i, rfl, fun r hr => ?_⟩
    walk_at "s"
    obtain ⟨ch, hc, ec⟩ := at_signs (i := (r : Nat) / 7 % 37) (by omega) (by omega)
    refine w_ixS (by decide +kernel) ec ?_
    have l1 : (⟨#[ch]⟩ : Str).length = 1 := rfl
    refine w_addS (szM (by omega)) ?_
    walk_at "s"
    exact ⟨ex2, _, _, by rw [len_app, hz, l1], good_app hg (good_one hc), rfl⟩
  · rintro σ H2 ⟨ex2, z, v, hz, hg, rfl⟩
    walk_at "s"
    exact q z _ ⟨by omega, hg⟩ ex2
theorem cut_hi {z : Str} {k : Nat} (h : k ≤ z.length) : (cutS z none (some (k : Int))).length = k := by
  unfold cutS
  rw [HT.sIx_none, HT.sIx_nat, List.drop_zero, Nat.sub_zero]
  show (List.toArray _).size = k
  rw [List.size_toArray, List.length_take]
  show min (min k z.length) z.cps.toList.length = k
  rw [Array.length_toList]
  show min (min k z.length) z.length = k
  omega
theorem cut_lo {z : Str} {k : Nat} (h : k ≤ z.length) : (cutS z (some (k : Int)) none).length = z.length - k := by
  unfold cutS
  rw [HT.sIx_none, HT.sIx_nat]
  show (List.toArray _).size = _
  rw [List.size_toArray, List.length_take, List.length_drop]
  show min (z.length - min k z.length) (z.cps.toList.length - min k z.length) = z.length - k
  rw [Array.length_toList]
  show min (z.length - min k z.length) (z.length - min k z.length) = z.length - k
  omega
def N_law_near : List Str := ["_law_text_here", "_law_cell", "_law_at", "_law_sign"]
def t_law_near (K : PySem.W.Frag) (c : Cs) (E : XK) : TS := (tSeq (tAsg (tOp rMod (tVar 1) (tOp rAddU (tC (.int 1)) (tCB (rLen K) (tCons (tVar 0) tNil)))) (gName 2))
  (tSeq (tAsg (tOp (rIx K) (tC (.str "abcdefghijklmnopqrstuvwxyz0123456789 ")) (tOp rMod (tOp rDiv (tVar 1) (tC (.int 41))) (tC (.int 37)))) (gName 3))
  (tSeq (tIfS (tAnd (tTest (tOp rLt (tVar 2) (tCB (rLen K) (tCons (tVar 0) tNil)))) (tTest (tOp (rNeU K) (tOp (rIx K) (tVar 0) (tVar 2)) (tVar 3)))) (tRet (tOp rAddU (tOp rAddU (tSl (rSlU K) (tVar 0) tNoPart (tPart (tVar 2))) (tVar 3)) (tSl (rSlU K) (tVar 0) (tPart (tOp rAddU (tVar 2) (tC (.int 1)))) tNoPart))) tNext)
  (tSeq (tIfS (tTest (tOp rLt (tCB (rLen K) (tCons (tVar 0) tNil)) (tC (.int 40)))) (tRet (tOp rAddU (tOp rAddU (tSl (rSlU K) (tVar 0) tNoPart (tPart (tVar 2))) (tVar 3)) (tSl (rSlU K) (tVar 0) (tPart (tVar 2)) tNoPart))) tNext)
  (tRet (tSl (rSlU K) (tVar 0) (tPart (tC (.int 1))) tNoPart))))))
def sp_law_near (K : PySem.W.Frag) (_ : Cs) : Sp := fun vs H Q _ => ∃ (y : Str) (n : Int), vs = [.str y, .int n] ∧ Good y ∧ ∀ (z : Str), Good z → Q (.str z) H
theorem len_law_near {K c} : ∀ vs H Q E, sp_law_near K c vs H Q E → vs.length = 2 := by rintro vs H Q E ⟨_, _, rfl, _⟩; rfl
theorem pure_law_near {K : PySem.W.Frag} {c : Cs} {vs : List V} {H : Hp} {Q : VK} {E : XK} (h : sp_law_near K c vs H Q E) : t_law_near K c E ⟨fun _ H' => Q .non H', Q, fun _ _ => False, fun _ _ => False⟩ (start N_law_near vs) H := by
  obtain ⟨y, n, rfl, hy, q⟩ := h
  show t_law_near K c E _ [some (.str y), some (.int n), none, none] H
  unfold t_law_near
  have hl := hy.1
  walk_at "s"
  refine w_lenS (good_len hy) ?_
  walk_at "s"
  obtain ⟨k, hk⟩ := Int.eq_ofNat_of_zero_le (a := n % (1 + (y.length : Nat))) (Int.emod_nonneg _ (by omega))
  have hk2 := Int.emod_lt_of_pos n (show (0 : Int) < 1 + (y.length : Nat) by omega)
  rw [hk] at hk2 ⊢
  have hk3 : k ≤ y.length := by omega
  walk_at "s"
  obtain ⟨ch, hc, ec⟩ := at_signs (i := n / 41 % 37) (by omega) (by omega)
  refine w_ixS (by decide +kernel) ec ?_
  have l1 : (⟨#[ch]⟩ : Str).length = 1 := rfl
  walk_at "s"
  refine w_lenS (good_len hy) ?_
  walk_at "s"
  have l2 := cut_hi hk3
  have rest : tSeq (tIfS (tTest (tOp rLt (tCB (rLen K) (tCons (tVar 0) tNil)) (tC (.int 40)))) (tRet (tOp rAddU (tOp rAddU (tSl (rSlU K) (tVar 0) tNoPart (tPart (tVar 2))) (tVar 3)) (tSl (rSlU K) (tVar 0) (tPart (tVar 2)) tNoPart))) tNext)
      (tRet (tSl (rSlU K) (tVar 0) (tPart (tC (.int 1))) tNoPart)) ⟨fun _ H' => Q .non H', Q, fun _ _ => False, fun _ _ => False⟩ [some (.str y), some (.int n), some (.int (k : Nat)), some (.str ⟨#[ch]⟩)] H := by
    walk_at "s"
    refine w_lenS (good_len hy) ?_
    walk_at "s"
    refine ite_d (fun h0 => ?_) fun h0 => ?_
    · walk_at "s"
      refine w_slS (good_len hy) ?_
      walk_at "s"
      refine w_addS (szM (by omega)) ?_
      walk_at "s"
      refine w_slS (good_len hy) ?_
      have l3 := cut_lo hk3
      refine w_addS (szM (by rw [len_app]; omega)) ?_
      exact q _ ⟨by rw [len_app, len_app]; omega, good_app (good_app (good_cut hy.2) (good_one hc)) (good_cut hy.2)⟩
    · walk_at "s"
      refine w_slS (good_len hy) ?_
      exact q _ ⟨Nat.le_trans (cutS_length _ _ _) hl, good_cut hy.2⟩
  refine ite_d (fun h0 => ?_) fun h0 => ?_
  · have hk4 : k < y.length := by omega
    obtain ⟨d, hd⟩ : ∃ d, y.cps.toList[k]? = some d := ⟨_, List.getElem?_eq_getElem (by rw [Array.length_toList]; exact hk4)⟩
    walk_at "s"
    refine w_ixS (good_len hy) (atI_nat hd) ?_
    walk_at "s"
    refine ite_nd (fun h1 => ?_) fun h1 => ?_
    · walk_at "s"
      refine w_slS (good_len hy) ?_
      walk_at "s"
      refine w_addS (szM (by omega)) ?_
      walk_at "s"
      refine w_slS (good_len hy) ?_
      have l3 := cut_lo (z := y) (k := k + 1) hk4
      rw [show ((k : Nat) : Int) + 1 = ((k + 1 : Nat) : Int) by push_cast; rfl]
      refine w_addS (szM (by rw [len_app]; omega)) ?_
      exact q _ ⟨by rw [len_app, len_app]; omega, good_app (good_app (good_cut hy.2) (good_one hc)) (good_cut hy.2)⟩
    · exact rest
  · exact rest
def N_law_room : List Str := ["_law_script", "_law_small", "_law_great"]
def t_law_room (K : PySem.W.Frag) (c : Cs) (E : XK) : TS := (tSeq (tIfS (tTest (tOp rGt (tCB (rLen K) (tCons (tVar 0) tNil)) (tC (.int 63)))) (tRet (tVar 2)) tNext)
  (tRet (tVar 1)))
def sp_law_room (K : PySem.W.Frag) (_ : Cs) : Sp := fun vs H Q _ => ∃ (a : Addr) (ns : List Int) (i j : Nat), vs = [.ref a, .int i, .int j] ∧ SqL K H a (ns.map V.int) ∧ ∀ r : Nat, r ≤ max i j → Q (.int (r : Nat)) H
theorem len_law_room {K c} : ∀ vs H Q E, sp_law_room K c vs H Q E → vs.length = 3 := by rintro vs H Q E ⟨_, _, _, _, rfl, _⟩; rfl
theorem pure_law_room {K : PySem.W.Frag} {c : Cs} {vs : List V} {H : Hp} {Q : VK} {E : XK} (h : sp_law_room K c vs H Q E) : t_law_room K c E ⟨fun _ H' => Q .non H', Q, fun _ _ => False, fun _ _ => False⟩ (start N_law_room vs) H := by
  obtain ⟨a, ns, i, j, rfl, hs, q⟩ := h
  show t_law_room K c E _ [some (.ref a), some (.int (i : Nat)), some (.int (j : Nat))] H
  unfold t_law_room
  walk_at "s"
  refine w_lenL hs ?_
  walk_at "s"
  refine ite_d (fun h0 => ?_) fun h0 => ?_
  · walk_at "s"
    exact q j (Nat.le_max_right _ _)
  · walk_at "s"
    exact q i (Nat.le_max_left _ _)
end Tw

namespace Tw
open PySem L2 Ts Mix
/-! the rows that are given out for, and the keys as data -/
def GoodK (ths : List MK) : Prop := ∀ z, MK.row z ∈ ths → Good z
theorem ask_of {ths : List MK} {k x : MK} (h : x ∈ ask ths k) : x ∈ ths ∨ x = k := by
  unfold ask at h
  split at h
  · exact .inl h
  · rcases List.mem_append.mp h with h | h
    · exact .inl h
    · exact .inr (List.mem_singleton.mp h)
theorem goodK_pk {ths : List MK} (g : GoodK ths) (a b : Nat) : GoodK (ask ths (pk a b)) := fun z h => by
  rcases ask_of h with h | h
  · exact g z h
  · exact nomatch h
theorem goodK_row {ths : List MK} {w : Str} (g : GoodK ths) (hw : Good w) : GoodK (ask ths (.row w)) := fun z h => by
  rcases ask_of h with h | h
  · exact g z h
  · cases h; exact hw
def keyD : MK → PyData
  | .row z => .str z
  | .tup ns => .tuple (ns.map PyData.int)
def keyOk : MK → Prop
  | .row z => PyData.strOk z = true
  | .tup _ => True
def encK : Enc MK := ⟨keyD, keyOk, fun k h => by
  cases k with
  | row z => exact eStr.lay z h
  | tup ns =>
    show PyData.canLay0 (.tuple (ns.map eInt.enc)) = true
    unfold PyData.canLay0
    exact all_lay eInt ns fun _ _ => trivial, 1, fun k => by
  cases k with
  | row z => exact Nat.le_trans (eStr.hdep z) (Nat.zero_le _)
  | tup ns =>
    show PyData.depth (.tuple (ns.map eInt.enc)) ≤ 1
    unfold PyData.depth
    have h1 := all_dep eInt ns
    have h2 : eInt.dep = 0 := rfl
    omega, fun x y => by
  cases x with
  | row z =>
    cases y with
    | row w =>
      refine (eStr.eq z w).trans ?_
      rw [decide_eq_decide]
      constructor
      · intro h; rw [h]
      · intro h; cases h; rfl
    | tup ms => simp [keyD, PyData.eqv]
  | tup ns =>
    cases y with
    | row w => simp [keyD, PyData.eqv]
    | tup ms =>
      show PyData.eqv (.tuple (ns.map eInt.enc)) (.tuple (ms.map eInt.enc)) = _
      rw [PyData.eqv]
      refine (all_eq eInt ns ms).trans ?_
      rw [decide_eq_decide]
      constructor
      · intro h; rw [h]
      · intro h; cases h; rfl⟩
theorem keyV_dp {K : PySem.W.Frag} {H : Hp} {k : MK} {v : V} (h : KeyV H k v) : Dp K H v (encK.enc k) := by
  cases k with
  | row z =>
    have h : v = .str z := h
    rw [h]
    exact .str z
  | tup ns =>
    obtain ⟨a, rfl, h1⟩ := (show ∃ a, v = .ref a ∧ H a = some (.tup (ns.map V.int)) from h)
    exact .tup (sqt h1) (dpAll_ints ns)
theorem paired_dp {K : PySem.W.Frag} {H : Hp} : ∀ {ks : List MK} {vs : List V}, Paired (KeyV H) ks vs → DpAll K H vs (ks.map encK.enc)
  | _, _, .nil => .nil
  | _, _, .cons h t => .cons (keyV_dp h) (paired_dp t)
theorem goodK_sh {ths : List MK} (g : GoodK ths) : SeqAt.shaped ((eList encK).enc ths) = true := (eList encK).shaped (by decide) ths fun k hk => by
  cases k with
  | row z => exact good_ok (g z hk)
  | tup ns => trivial
def isR : MK → Bool
  | .row _ => true
  | .tup _ => false
theorem isR_at {K : PySem.W.Frag} {H : Hp} {k : MK} {v : V} {Q : VK} (h : KeyV H k v) (q : Q (.bl (isR k)) H) : rIsi K [v, .ty "str"] H Q := by
  cases k with
  | row z =>
    have h : v = .str z := h
    rw [h]
    exact isi_ty (b := true) tyS (by decide +kernel) q
  | tup ns =>
    obtain ⟨a, rfl, h1⟩ := (show ∃ a, v = .ref a ∧ H a = some (.tup (ns.map V.int)) from h)
    exact isi_ty (b := false) (ty_sqt (sqt h1)) (by decide +kernel) q
theorem dpAll_bls {K : PySem.W.Frag} {H : Hp} : ∀ (bs : List Bool), DpAll K H (bs.map V.bl) (bs.map eBool.enc)
  | [] => .nil
  | b :: bs => .cons (.bl b) (dpAll_bls bs)
end Tw

namespace Tw
open PySem L2 Ts Mix
def N_law_class : List Str := ["_law_e"]
def t_law_class (cls : Value) (a : Addr) (K : PySem.W.Frag) (c : Cs) (E : XK) : TS := (tSeq (tIfS (tOr (tB (tCB (rIsX K cls a) (tCons (tVar 0) (tCons (tC (.ref c.Full)) tNil)))) (tOr (tB (tCB (rIsX K cls a) (tCons (tVar 0) (tCons (tC (.ref c.NoBlock)) tNil)))) (tOr (tB (tCB (rIsX K cls a) (tCons (tVar 0) (tCons (tC (.ref c.NoPlace)) tNil)))) (tB (tCB (rIsX K cls a) (tCons (tVar 0) (tCons (tC (.ref c.Strange)) tNil))))))) (tRet (tC (.str "other"))) tNext)
  (tSeq (tIfS (tOr (tNot (tB (tCB (rIsX K cls a) (tCons (tVar 0) (tCons (tC (.ty "ValueError")) tNil))))) (tTest (tOp (rEqU K) (tCB (rIsX K cls a) (tCons (tVar 0) (tCons (tC (.ref c.NoRow)) tNil))) (tCB (rIsX K cls a) (tCons (tVar 0) (tCons (tC (.ref c.NoSum)) tNil)))))) (tRet (tC (.str "other"))) tNext)
  (tRet (tOp (rIx K) (tLst (tCons (tC (.str "NoRow")) (tCons (tC (.str "NoSum")) tNil))) (tCB rInt1 (tCons (tCB (rIsX K cls a) (tCons (tVar 0) (tCons (tC (.ref c.NoSum)) tNil))) tNil))))))
def sp_law_class (_ : PySem.W.Frag) (c : Cs) (cls : Value) (a : Addr) : Sp := fun vs H Q _ => vs = [.ref a] ∧ ((cls = .ref c.NoRow ∧ ∀ H', Ex H H' → Q (.str "NoRow") H') ∨ (cls = .ref c.NoSum ∧ ∀ H', Ex H H' → Q (.str "NoSum") H'))
theorem len_law_class {K c} : ∀ cls a vs H Q E, sp_law_class K c cls a vs H Q E → vs.length = 1 := by rintro cls a vs H Q E ⟨rfl, _⟩; rfl
theorem pure_law_class {K : PySem.W.Frag} {c : Cs} {cls : Value} {a : Addr} {vs : List V} {H : Hp} {Q : VK} {E : XK} (T : TxK K c) (h : sp_law_class K c cls a vs H Q E) : t_law_class cls a K c E ⟨fun _ H' => Q .non H', Q, fun _ _ => False, fun _ _ => False⟩ (start N_law_class vs) H := by
  obtain ⟨rfl, h⟩ := h
  show t_law_class cls a K c E _ [some (.ref a)] H
  unfold t_law_class
  walk_at "s"
  rcases h with ⟨rfl, q⟩ | ⟨rfl, q⟩
  · refine isX T.x_NoRow T.i_NoRow_Full ?_
    walk_at "s"
    refine iteF ?_
    walk_at "s"
    refine isX T.x_NoRow T.i_NoRow_NoBlock ?_
    walk_at "s"
    refine iteF ?_
    walk_at "s"
    refine isX T.x_NoRow T.i_NoRow_NoPlace ?_
    walk_at "s"
    refine iteF ?_
    walk_at "s"
    refine isX T.x_NoRow T.i_NoRow_Strange ?_
    walk_at "s"
    refine iteF ?_
    walk_at "s"
    refine isXT T.x_NoRow T.i_NoRow_ValueError ?_
    walk_at "s"
    refine iteF ?_
    walk_at "s"
    refine isX T.x_NoRow T.i_NoRow_NoRow ?_
    walk_at "s"
    refine isX T.x_NoRow T.i_NoRow_NoSum ?_
    walk_at "s"
    refine w_eqD (.bl true) (.bl false) (by decide) (by decide) ?_
    rw [show PyData.eqv (.bool true) (.bool false) = false from rfl]
    walk_at "s"
    refine iteF ?_
    walk_at "s"
    refine ⟨by show 2 ≤ sizeLine; exact sz100 (by decide), fun p hp => ?_⟩
    walk_at "s"
    refine isX T.x_NoRow T.i_NoRow_NoSum ?_
    walk_at "s"
    exact w_ixL (v := .str "NoRow") (sql upd_same) rfl (q _ (ex_new ex_refl hp))
  · refine isX T.x_NoSum T.i_NoSum_Full ?_
    walk_at "s"
    refine iteF ?_
    walk_at "s"
    refine isX T.x_NoSum T.i_NoSum_NoBlock ?_
    walk_at "s"
    refine iteF ?_
    walk_at "s"
    refine isX T.x_NoSum T.i_NoSum_NoPlace ?_
    walk_at "s"
    refine iteF ?_
    walk_at "s"
    refine isX T.x_NoSum T.i_NoSum_Strange ?_
    walk_at "s"
    refine iteF ?_
    walk_at "s"
    refine isXT T.x_NoSum T.i_NoSum_ValueError ?_
    walk_at "s"
    refine iteF ?_
    walk_at "s"
    refine isX T.x_NoSum T.i_NoSum_NoRow ?_
    walk_at "s"
    refine isX T.x_NoSum T.i_NoSum_NoSum ?_
    walk_at "s"
    refine w_eqD (.bl false) (.bl true) (by decide) (by decide) ?_
    rw [show PyData.eqv (.bool false) (.bool true) = false from rfl]
    walk_at "s"
    refine iteF ?_
    walk_at "s"
    refine ⟨by show 2 ≤ sizeLine; exact sz100 (by decide), fun p hp => ?_⟩
    walk_at "s"
    refine isX T.x_NoSum T.i_NoSum_NoSum ?_
    walk_at "s"
    exact w_ixL (v := .str "NoSum") (sql upd_same) rfl (q _ (ex_new ex_refl hp))
end Tw

namespace Tw
open PySem L2 Ts Mix
def N_law_asked : List Str := ["_law_ledger", "_law_thing_here", "_law_e"]
def t_law_asked (K : PySem.W.Frag) (c : Cs) (E : XK) : TS := (fun D σ H => (fun (W1 : WX) => (tSeq (tIfS (tB (tCB (rIsi K) (tCons (tVar 1) (tCons (tC (.ty "list")) tNil)))) (tRet (tMethS c.Ledger "of_pair" (sp_Ledger_of_pair K c) (WE W1) (tVar 0) (tCons (tOp (rIx K) (tVar 1) (tC (.int 0))) (tCons (tOp (rIx K) (tVar 1) (tC (.int 1))) tNil)))) tNext)
  (tRet (tMethS c.Ledger "of_row" (sp_Ledger_of_row K c) (WE W1) (tVar 0) (tCons (tVar 1) tNil))))) (wAs K (.ref c.TwinError) 2 (fun a cls d => (tRet (tTup (tCons (tCallE (sp_law_class K c) cls d a (tCons (tVar 2) tNil)) tNil)))) (fun _ _ _ _ => False) D) D σ H)
def sp_law_asked (K : PySem.W.Frag) (c : Cs) : Sp := fun vs H Q _ => ∃ (L d l : Addr) (ths : List MK) (xs : List V) (v : V), vs = [.ref L, v] ∧ LedgerAt c H L d l ths xs ∧ ths.length < 100000 ∧
  ((∃ (a : Addr) (x y : V) (b b' : Bool), v = .ref a ∧ SqL K H a [x, y] ∧ isWholeV K H x b ∧ isWholeV K H y b' ∧
      (∀ i j : Nat, x = .int i → y = .int j → i < ths.length → j < ths.length → ∀ H' xs', LedgerAt c H' L d l (ask ths (pk i j)) xs' → Kp [d, l] H H' → Q (.int (num (ask ths (pk i j)) (pk i j) : Nat)) H') ∧
      (¬ (NumV ths.length x ∧ NumV ths.length y) → ∀ H' t, Ex H H' → H t = none → H' t = some (.tup [.str "NoSum"]) → Q (.ref t) H')) ∨
   (RowV K H v ∧ (∃ ty, TyX K H v (.type ty) ∧ kitB ty "list" = some false) ∧
      (∀ z, v = .str z → Good z → ∀ H' xs', LedgerAt c H' L d l (ask ths (.row z)) xs' → Kp [d, l] H H' → Q (.int (num (ask ths (.row z)) (.row z) : Nat)) H') ∧
      (¬ isRowV v → ∀ H' t, Ex H H' → H t = none → H' t = some (.tup [.str "NoRow"]) → Q (.ref t) H')))
theorem len_law_asked {K c} : ∀ vs H Q E, sp_law_asked K c vs H Q E → vs.length = 2 := by rintro vs H Q E ⟨_, _, _, _, _, _, rfl, _⟩; rfl
theorem pure_law_asked {K : PySem.W.Frag} {c : Cs} {vs : List V} {H : Hp} {Q : VK} {E : XK} (T : TxK K c) (h : sp_law_asked K c vs H Q E) : t_law_asked K c E ⟨fun _ H' => Q .non H', Q, fun _ _ => False, fun _ _ => False⟩ (start N_law_asked vs) H := by
  obtain ⟨L, d, l, ths, xs, v, rfl, La, hz, kind⟩ := h
  show t_law_asked K c E _ [some (.ref L), some v, none] H
  unfold t_law_asked
  obtain ⟨dx, hL⟩ := La.ob
  walk_at "s"
  rcases kind with ⟨a, x, y, b, b', rfl, ha, hx, hy, k1, k2⟩ | ⟨hv, ⟨ty, tv, kb⟩, k1, k2⟩
  · refine isi_ty (b := true) (ty_sql ha) (by decide +kernel) ?_
    walk_at "s"
    refine iteT ?_
    walk_at "s"
    refine w_methAt hL (lfl_no (by decide +kernel) (by decide +kernel)) ?_
    walk_at "s"
    refine w_ixL ha (v := x) rfl ?_
    walk_at "s"
    refine w_ixL ha (v := y) rfl ?_
    walk_at "s"
    refine ⟨L, d, l, ths, xs, x, y, b, b', rfl, La, hx, hy, by omega, k1, fun no => ?_⟩
    refine ⟨true, T.m_NoSum_TwinError, fun _ a' ha' => ?_, fun e => nomatch e⟩
    show tRet _ _ [some (.ref L), some (.ref a), some (.ref a')] _
    walk_at "s"
    refine w_callE ?_
    walk_at "s"
    refine ⟨rfl, rfl, .inr ⟨rfl, fun H1 e1 => ?_⟩⟩
    walk_at "s"
    refine ⟨by show 1 ≤ sizeLine; exact sz100 (by decide), fun t ht => ?_⟩
    exact k2 no _ t (ex_new e1 ht) (ex_free e1 ht) upd_same
  · refine isi_ty tv kb ?_
    walk_at "s"
    refine iteF ?_
    walk_at "s"
    refine w_methAt hL (lfl_no (by decide +kernel) (by decide +kernel)) ?_
    walk_at "s"
    refine ⟨L, d, l, ths, xs, v, rfl, La, hv, by omega, k1, fun no => ?_⟩
    refine ⟨true, T.m_NoRow_TwinError, fun _ a' ha' => ?_, fun e => nomatch e⟩
    show tRet _ _ [some (.ref L), some v, some (.ref a')] _
    walk_at "s"
    refine w_callE ?_
    walk_at "s"
    refine ⟨rfl, rfl, .inl ⟨rfl, fun H1 e1 => ?_⟩⟩
    walk_at "s"
    refine ⟨by show 1 ≤ sizeLine; exact sz100 (by decide), fun t ht => ?_⟩
    exact k2 no _ t (ex_new e1 ht) (ex_free e1 ht) upd_same
def N_law_what : List Str := ["_law_ledger", "_law_number", "_law_e"]
def t_law_what (K : PySem.W.Frag) (c : Cs) (E : XK) : TS := (fun D σ H => (fun (W1 : WX) => (tRet (tMethS c.Ledger "what" (sp_Ledger_what K c) (WE W1) (tVar 0) (tCons (tVar 1) tNil)))) (wAs K (.ref c.TwinError) 2 (fun a cls d => (tRet (tLst (tCons (tCallE (sp_law_class K c) cls d a (tCons (tVar 2) tNil)) tNil)))) (fun _ _ _ _ => False) D) D σ H)
def sp_law_what (K : PySem.W.Frag) (c : Cs) : Sp := fun vs H Q _ => ∃ (L d l : Addr) (ths : List MK) (xs : List V) (v : V) (b : Bool), vs = [.ref L, v] ∧ LedgerAt c H L d l ths xs ∧ isWholeV K H v b ∧ ¬ NumV ths.length v ∧
  ∀ H' t, Ex H H' → H' t = some (.lst [.str "NoSum"]) → Q (.ref t) H'
theorem len_law_what {K c} : ∀ vs H Q E, sp_law_what K c vs H Q E → vs.length = 2 := by rintro vs H Q E ⟨_, _, _, _, _, _, _, rfl, _⟩; rfl
theorem pure_law_what {K : PySem.W.Frag} {c : Cs} {vs : List V} {H : Hp} {Q : VK} {E : XK} (T : TxK K c) (h : sp_law_what K c vs H Q E) : t_law_what K c E ⟨fun _ H' => Q .non H', Q, fun _ _ => False, fun _ _ => False⟩ (start N_law_what vs) H := by
  obtain ⟨L, d, l, ths, xs, v, b, rfl, La, hv, no, k⟩ := h
  show t_law_what K c E _ [some (.ref L), some v, none] H
  unfold t_law_what
  obtain ⟨dx, hL⟩ := La.ob
  walk_at "s"
  refine w_methAt hL (lfl_no (by decide +kernel) (by decide +kernel)) ?_
  walk_at "s"
  refine ⟨L, d, l, ths, xs, v, b, rfl, La, hv, fun i kk w ei ek _ _ => absurd ⟨i, ei, get_lt ek⟩ no, fun no => ?_⟩
  refine ⟨true, T.m_NoSum_TwinError, fun _ a' ha' => ?_, fun e => nomatch e⟩
  show tRet _ _ [some (.ref L), some v, some (.ref a')] _
  walk_at "s"
  refine w_callE ?_
  walk_at "s"
  refine ⟨rfl, rfl, .inr ⟨rfl, fun H1 e1 => ?_⟩⟩
  walk_at "s"
  refine ⟨by show 1 ≤ sizeLine; exact sz100 (by decide), fun t ht => ?_⟩
  exact k _ t (ex_new e1 ht) upd_same
end Tw

namespace Tw
open PySem L2 Ts Mix
theorem good_num100 : ∀ n : Fin 100, (Str.ofString (toString ((n.val : Nat) : Int))).length ≤ 2 ∧ ∀ c ∈ (Str.ofString (toString ((n.val : Nat) : Int))).cps.toList, c ∈ signs.cps.toList := by decide +kernel
theorem goodH {n : Nat} (h : n < 100) : (Str.ofString (toString ((n : Nat) : Int))).length ≤ 2 ∧ ∀ c ∈ (Str.ofString (toString ((n : Nat) : Int))).cps.toList, c ∈ signs.cps.toList := good_num100 ⟨n, h⟩
theorem not_row {z : Str} (h : ¬ Good z) : ¬ isRowV (.str z) := by
  rintro ⟨w, e, g⟩
  cases e
  exact h g
theorem not_row' {v : V} (h : ∀ z, v ≠ .str z) : ¬ isRowV v := by
  rintro ⟨w, e, g⟩
  exact h w e
def odds : Str := ".:_+~^#*\n\t"
theorem odds_not : ∀ ch ∈ odds.cps.toList, ch ∉ signs.cps.toList := by decide +kernel
theorem at_odds {i : Int} (h0 : 0 ≤ i) (h1 : i < 10) : ∃ c, c ∈ odds.cps.toList ∧ atI odds.cps.toList i = some c := by
  have e : (10 : Int) = (odds.cps.toList.length : Nat) := by decide +kernel
  exact atI_lt h0 (by rw [← e]; exact h1)
theorem app_mem {a b : Str} {ch : Nat} : ch ∈ (a ++ b).cps.toList ↔ ch ∈ a.cps.toList ∨ ch ∈ b.cps.toList := by
  have e : (a ++ b).cps.toList = a.cps.toList ++ b.cps.toList := by
    show (a.cps ++ b.cps).toList = _
    simp
  rw [e, List.mem_append]
/-- what is handed in as a row that is none -/
structure BadRow (K : PySem.W.Frag) (H : Hp) (v : V) : Prop where
  rv : RowV K H v
  ty : ∃ ty, TyX K H v (.type ty) ∧ kitB ty "list" = some false
  no : ¬ isRowV v
theorem bad_str {K : PySem.W.Frag} {H : Hp} {z : Str} (hl : z.length ≤ sizeLine) (h : ¬ Good z) : BadRow K H (.str z) := ⟨.inl ⟨z, rfl, hl⟩, ⟨"str", tyS, by decide +kernel⟩, not_row h⟩
theorem bad_int {K : PySem.W.Frag} {H : Hp} {i : Int} : BadRow K H (.int i) := ⟨.inr (.inl ⟨i, rfl⟩), ⟨"int", tyI, by decide +kernel⟩, not_row' fun z e => nomatch e⟩
theorem bad_non {K : PySem.W.Frag} {H : Hp} : BadRow K H .non := ⟨.inr (.inr (.inl rfl)), ⟨"NoneType", tyN, by decide +kernel⟩, not_row' fun z e => nomatch e⟩
theorem bad_tup {K : PySem.W.Frag} {H : Hp} {t : Addr} {xs : List V} (h : H t = some (.tup xs)) : BadRow K H (.ref t) := ⟨.inr (.inr (.inr (.inr ⟨t, xs, rfl, .inr (sqt h)⟩))), ⟨"tuple", ty_sqt (sqt h), by decide +kernel⟩, not_row' fun z e => nomatch e⟩
/-- whole or not, whatever the heap -/
def FlatW (K : PySem.W.Frag) (w : V) : Prop := ∀ H, ∃ b, isWholeV K H w b
theorem flatW_int {K : PySem.W.Frag} (i : Int) : FlatW K (.int i) := fun _ => ⟨true, .inl ⟨_, rfl, rfl⟩⟩
theorem flatW_bl {K : PySem.W.Frag} (b : Bool) : FlatW K (.bl b) := fun _ => ⟨false, .inr (.inl ⟨_, rfl, rfl⟩)⟩
theorem flatW_str {K : PySem.W.Frag} (z : Str) : FlatW K (.str z) := fun _ => ⟨false, .inr (.inr (.inl ⟨_, rfl, rfl⟩))⟩
theorem flatW_non {K : PySem.W.Frag} : FlatW K .non := fun _ => ⟨false, .inr (.inr (.inr (.inl ⟨rfl, rfl⟩)))⟩
/-- a number that was not given out, or none -/
structure OddV (K : PySem.W.Frag) (m : Nat) (v : V) : Prop where
  fl : FlatW K v
  no : ¬ NumV m v
theorem odd_int {K : PySem.W.Frag} {m : Nat} {i : Int} (h : i < 0 ∨ (m : Int) ≤ i) : OddV K m (.int i) := ⟨flatW_int i, fun ⟨j, e, hj⟩ => by have := V.int.inj e; omega⟩
theorem odd_bl {K : PySem.W.Frag} {m : Nat} {b : Bool} : OddV K m (.bl b) := ⟨flatW_bl b, fun ⟨j, e, hj⟩ => nomatch e⟩
theorem odd_str {K : PySem.W.Frag} {m : Nat} {z : Str} : OddV K m (.str z) := ⟨flatW_str z, fun ⟨j, e, hj⟩ => nomatch e⟩
theorem odd_non {K : PySem.W.Frag} {m : Nat} : OddV K m .non := ⟨flatW_non, fun ⟨j, e, hj⟩ => nomatch e⟩
def N_law_bad : List Str := ["_law_cell", "_law_many", "_law_within", "_law_behind", "_law_row", "_law_number"]
def t_law_bad (K : PySem.W.Frag) (c : Cs) (E : XK) : TS := (tSeq (tAsg (tOp rAddU (tOp rAddU (tC (.str "a")) (tOp (rIx K) (tC (.str ".:_+~^#*\n\t")) (tOp rMod (tOp rDiv (tVar 0) (tC (.int 8))) (tC (.int 10))))) (tC (.str "b"))) (gName 2))
  (tSeq (tAsg (tOp rAddU (tOp rMulS (tC (.str "a")) (tOp rMod (tOp rDiv (tVar 0) (tC (.int 8))) (tC (.int 3)))) (tOp (rIx K) (tLst (tCons (tC (.str "\n")) (tCons (tC (.str "\t")) tNil))) (tOp rMod (tOp rDiv (tVar 0) (tC (.int 24))) (tC (.int 2))))) (gName 3))
  (tSeq (tAsg (tOp (rIx K) (tLst (tCons (tC (.int 5)) (tCons (tC .non) (tCons (tOp rMulS (tC (.str "a")) (tC (.int 41))) (tCons (tC (.str "A")) (tCons (tC (.str "a-b")) (tCons (tTup (tCons (tC (.str "a")) tNil)) (tCons (tVar 3) (tCons (tVar 2) tNil))))))))) (tOp rMod (tVar 0) (tC (.int 8)))) (gName 4))
  (tSeq (tIfS (tTest (tOp (rEqU K) (tOp rMod (tOp rDiv (tVar 0) (tC (.int 64))) (tC (.int 2))) (tC (.int 0)))) (tRet (tTup (tCons (tVar 4) (tCons (tC (.str "NoRow")) tNil)))) tNext)
  (tSeq (tAsg (tOp (rIx K) (tLst (tCons (tVar 1) (tCons (tUn (rU fun i => .int (-i)) (tC (.int 1))) (tCons (tOp rAddU (tVar 1) (tOp rMod (tOp rDiv (tVar 0) (tC (.int 999))) (tOp rPow (tC (.int 10)) (tC (.int 9))))) (tCons (tC (.bl true)) (tCons (tC (.str "0")) (tCons (tC .non) tNil))))))) (tOp rMod (tOp rDiv (tVar 0) (tC (.int 128))) (tC (.int 6)))) (gName 5))
  (tSeq (tIfS (tOr (tTest (tOp rLt (tVar 1) (tC (.int 2)))) (tTest (tOp (rEqU K) (tOp rMod (tOp rDiv (tVar 0) (tC (.int 768))) (tC (.int 2))) (tC (.int 0))))) (tRet (tTup (tCons (tLst (tCons (tVar 5) (tCons (tC (.int 0)) tNil))) (tCons (tC (.str "NoSum")) tNil)))) tNext)
  (tRet (tTup (tCons (tLst (tCons (tC (.int 0)) (tCons (tVar 5) tNil))) (tCons (tC (.str "NoSum")) tNil))))))))))
def sp_law_bad (K : PySem.W.Frag) (_ : Cs) : Sp := fun vs H Q _ => ∃ (n : Int) (m : Nat), vs = [.int n, .int (m : Nat)] ∧
  (∀ H' t v, Ex H H' → H' t = some (.tup [v, .str "NoRow"]) → BadRow K H' v → Q (.ref t) H') ∧
  (∀ H' t a x y, Ex H H' → H' t = some (.tup [.ref a, .str "NoSum"]) → H' a = some (.lst [x, y]) → FlatW K x → FlatW K y → ¬ (NumV m x ∧ NumV m y) → Q (.ref t) H')
theorem len_law_bad {K c} : ∀ vs H Q E, sp_law_bad K c vs H Q E → vs.length = 2 := by rintro vs H Q E ⟨_, _, rfl, _⟩; rfl
theorem pure_law_bad {K : PySem.W.Frag} {c : Cs} {vs : List V} {H : Hp} {Q : VK} {E : XK} (h : sp_law_bad K c vs H Q E) : t_law_bad K c E ⟨fun _ H' => Q .non H', Q, fun _ _ => False, fun _ _ => False⟩ (start N_law_bad vs) H := by
  obtain ⟨n, m, rfl, q1, q2⟩ := h
  show t_law_bad K c E _ [some (.int n), some (.int (m : Nat)), none, none, none, none] H
  unfold t_law_bad
  walk_at "s"
  obtain ⟨ch, hc, ec⟩ := at_odds (i := n / 8 % 10) (by omega) (by omega)
  refine w_ixS (z := odds) (by decide +kernel) ec ?_
  have l1 : (⟨#[ch]⟩ : Str).length = 1 := rfl
  have l2 : ("a" : Str).length = 1 := by decide +kernel
  have l3 : ("b" : Str).length = 1 := by decide +kernel
  refine w_addS (szM (by omega)) ?_
  walk_at "s"
  refine w_addS (szM (by rw [len_app]; omega)) ?_
  have bw : ¬ Good ("a" ++ ⟨#[ch]⟩ ++ "b") := fun g => odds_not ch hc (g.2 ch (app_mem.mpr (.inl (app_mem.mpr (.inr (by simp))))))
  have lw : ("a" ++ ⟨#[ch]⟩ ++ "b" : Str).length ≤ sizeLine := szM (by rw [len_app, len_app]; omega)
  generalize ("a" ++ ⟨#[ch]⟩ ++ "b" : Str) = within at bw lw
  walk_at "s"
  obtain ⟨k, hk⟩ := Int.eq_ofNat_of_zero_le (a := n / 8 % 3) (by omega)
  rw [hk]
  have k3 : k < 3 := by omega
  have lr : (repS "a" (k : Int)).length ≤ 2 := by
    obtain rfl | rfl | rfl : k = 0 ∨ k = 1 ∨ k = 2 := by omega
    all_goals decide +kernel
  refine w_mulS (by omega) (by omega) (by omega) (szM (by omega)) ?_
  walk_at "s"
  refine ⟨by show 2 ≤ sizeLine; exact sz100 (by decide), fun p hp => ?_⟩
  have e1 := ex_new (o := .lst [.str "\n", .str "\t"]) ex_refl hp
  walk_at "s"
  refine w_ixAny (sql upd_same) (by omega) (by show _ < ((2 : Nat) : Int); omega) fun v hv => ?_
  obtain ⟨y, rfl, g3, g4⟩ : ∃ y : Str, v = .str y ∧ y.length ≤ 1 ∧ ∃ ch ∈ y.cps.toList, ch ∉ signs.cps.toList := by
    rcases List.mem_cons.mp hv with e | hv
    · exact ⟨_, e, by decide +kernel, by decide +kernel⟩
    · exact ⟨_, List.mem_singleton.mp hv, by decide +kernel, by decide +kernel⟩
  generalize upd H p (.lst [.str "\n", .str "\t"]) = H1 at e1
  refine w_addS (szM (by omega)) ?_
  have bb : ¬ Good (repS "a" (k : Int) ++ y) := fun g => by
    obtain ⟨ch, h1, h2⟩ := g4
    exact h2 (g.2 ch (app_mem.mpr (.inr h1)))
  have lb : (repS "a" (k : Int) ++ y).length ≤ sizeLine := szM (by rw [len_app]; omega)
  generalize repS "a" (k : Int) ++ y = behind at bb lb
  walk_at "s"
  have l41 : (repS "a" 41).length = 41 := by decide +kernel
  refine w_mulS (by decide) (by decide) (by omega) (szM (by omega)) ?_
  walk_at "s"
  refine ⟨by show 1 ≤ sizeLine; exact sz100 (by decide), fun t1 ht1 => ?_⟩
  have e2 := e1.trans (ex_new (o := .tup [.str "a"]) ex_refl ht1)
  have c1 : (upd H1 t1 (.tup [.str "a"])) t1 = some (.tup [.str "a"]) := upd_same
  generalize upd H1 t1 (.tup [.str "a"]) = H2 at e2 c1
  walk_at "s"
  refine ⟨by show 8 ≤ sizeLine; exact sz100 (by decide), fun p2 hp2 => ?_⟩
  have x3 := ex_new (o := .lst [.int 5, .non, .str (repS "a" 41), .str "A", .str "a-b", .ref t1, .str behind, .str within]) ex_refl hp2
  walk_at "s"
  refine w_ixAny (sql upd_same) (by omega) (by show _ < ((8 : Nat) : Int); omega) fun v hv => ?_
  have e3 := e2.trans x3
  have c1 := x3 _ _ c1
  generalize upd H2 p2 (.lst [.int 5, .non, .str (repS "a" 41), .str "A", .str "a-b", .ref t1, .str behind, .str within]) = H3 at e3 c1
  have bad : ∀ {H'}, Ex H3 H' → BadRow K H' v := fun {H'} x => by
    simp only [List.mem_cons, List.not_mem_nil, or_false] at hv
    rcases hv with rfl | rfl | rfl | rfl | rfl | rfl | rfl | rfl
    · exact bad_int
    · exact bad_non
    · exact bad_str (szM (by omega)) fun g => by have := g.1; omega
    · exact bad_str (by decide +kernel) (by decide +kernel)
    · exact bad_str (by decide +kernel) (by decide +kernel)
    · exact bad_tup (x _ _ c1)
    · exact bad_str lb bb
    · exact bad_str lw bw
  walk_at "s"
  refine ite_d (fun h0 => ?_) fun h0 => ?_
  · walk_at "s"
    refine ⟨by show 2 ≤ sizeLine; exact sz100 (by decide), fun t ht => ?_⟩
    have x4 := ex_new (o := .tup [v, .str "NoRow"]) ex_refl ht
    exact q1 _ t v (e3.trans x4) upd_same (bad x4)
  · walk_at "s"
    refine ⟨by show 6 ≤ sizeLine; exact sz100 (by decide), fun p4 hp4 => ?_⟩
    have x4 := ex_new (o := .lst [.int (m : Nat), .int (-1), .int ((m : Nat) + n / 999 % 10 ^ Int.toNat 9), .bl true, .str "0", .non]) ex_refl hp4
    walk_at "s"
    refine w_ixAny (sql upd_same) (by omega) (by show _ < ((6 : Nat) : Int); omega) fun u hu => ?_
    have e4 := e3.trans x4
    have odd : OddV K m u := by
      simp only [List.mem_cons, List.not_mem_nil, or_false] at hu
      rcases hu with rfl | rfl | rfl | rfl | rfl | rfl
      · exact odd_int (.inr (Int.le_refl _))
      · exact odd_int (.inl (by decide))
      · exact odd_int (.inr (by have := Int.emod_nonneg (n / 999) (b := 10 ^ Int.toNat 9) (by decide); omega))
      · exact odd_bl
      · exact odd_str
      · exact odd_non
    generalize upd H3 p4 (.lst [.int (m : Nat), .int (-1), .int ((m : Nat) + n / 999 % 10 ^ Int.toNat 9), .bl true, .str "0", .non]) = H4 at e4
    have fin : ∀ (a t : Addr) (H5 : Hp), H4 a = none → H5 t = none → H5 = upd H4 a (.lst [u, .int 0]) → Q (.ref t) (upd H5 t (.tup [.ref a, .str "NoSum"])) := fun a t H5 ha ht e => by
      have x5 := ex_new (o := .lst [u, .int 0]) ex_refl ha
      rw [← e] at x5
      have x6 := ex_new (o := .tup [.ref a, .str "NoSum"]) ex_refl ht
      exact q2 _ t a u (.int 0) ((e4.trans x5).trans x6) upd_same (x6 _ _ (by rw [e, upd_same])) odd.fl (flatW_int 0) fun z => odd.no z.1
    walk_at "s"
    refine ite_d (fun h1 => ?_) fun h1 => ?_
    · refine iteT ?_
      walk_at "s"
      refine ⟨by show 2 ≤ sizeLine; exact sz100 (by decide), fun a ha => ?_⟩
      walk_at "s"
      refine ⟨by show 2 ≤ sizeLine; exact sz100 (by decide), fun t ht => ?_⟩
      exact fin a t _ ha ht rfl
    walk_at "s"
    refine ite_d (fun h2 => ?_) fun h2 => ?_
    · walk_at "s"
      refine ⟨by show 2 ≤ sizeLine; exact sz100 (by decide), fun a ha => ?_⟩
      walk_at "s"
      refine ⟨by show 2 ≤ sizeLine; exact sz100 (by decide), fun t ht => ?_⟩
      exact fin a t _ ha ht rfl
    · walk_at "s"
      refine ⟨by show 2 ≤ sizeLine; exact sz100 (by decide), fun a ha => ?_⟩
      walk_at "s"
      refine ⟨by show 2 ≤ sizeLine; exact sz100 (by decide), fun t ht => ?_⟩
      have x5 := ex_new (o := .lst [.int 0, u]) ex_refl ha
      have x6 := ex_new (o := .tup [.ref a, .str "NoSum"]) ex_refl ht
      exact q2 _ t a (.int 0) u ((e4.trans x5).trans x6) upd_same (x6 _ _ upd_same) (flatW_int 0) odd.fl fun z => odd.no z.2
end Tw

namespace Tw
open PySem L2 Ts Mix
/-- things that were given out: rows, and pairs of sums that were -/
def WfK (ths : List MK) : Prop := ∀ k ∈ ths, (∃ z, k = .row z ∧ Good z) ∨ ∃ i j : Nat, k = pk i j ∧ i < ths.length ∧ j < ths.length
theorem WfK.good {ths : List MK} (w : WfK ths) : GoodK ths := fun z h => by
  rcases w _ h with ⟨y, e, g⟩ | ⟨i, j, e, _⟩
  · cases e; exact g
  · exact nomatch e
theorem ask_le {ths : List MK} {k : MK} : ths.length ≤ (ask ths k).length := by
  unfold ask
  split
  · exact Nat.le_refl _
  · rw [List.length_append]; exact Nat.le_add_right _ _
theorem WfK.row {ths : List MK} (w : WfK ths) {z : Str} (g : Good z) : WfK (ask ths (.row z)) := fun k h => by
  rcases ask_of h with h | h
  · rcases w k h with r | ⟨i, j, e, hi, hj⟩
    · exact .inl r
    · exact .inr ⟨i, j, e, Nat.lt_of_lt_of_le hi ask_le, Nat.lt_of_lt_of_le hj ask_le⟩
  · exact .inl ⟨z, h, g⟩
theorem WfK.pair {ths : List MK} (w : WfK ths) {i j : Nat} (hi : i < ths.length) (hj : j < ths.length) : WfK (ask ths (pk i j)) := fun k h => by
  rcases ask_of h with h | h
  · rcases w k h with r | ⟨i, j, e, hi, hj⟩
    · exact .inl r
    · exact .inr ⟨i, j, e, Nat.lt_of_lt_of_le hi ask_le, Nat.lt_of_lt_of_le hj ask_le⟩
  · exact .inr ⟨i, j, h, Nat.lt_of_lt_of_le hi ask_le, Nat.lt_of_lt_of_le hj ask_le⟩
theorem paired_at {F : MK → V → Prop} {ths : List MK} {ys : List V} (p : Paired F ths ys) {i : Nat} {v : V} (h : ys[i]? = some v) : ∃ k, ths[i]? = some k ∧ F k v := by
  have hl := get_lt h
  rw [← Paired.length p] at hl
  obtain ⟨y, h1, h2⟩ := paired_get p (List.getElem?_eq_getElem hl)
  rw [h] at h1
  cases h1
  exact ⟨_, List.getElem?_eq_getElem hl, h2⟩
/-- the first place of a key, by data -/
theorem index_at {K : PySem.W.Frag} {H : Hp} {a : Addr} {ths : List MK} {ys : List V} {k : MK} {v : V} {Q : VK} (ha : H a = some (.lst ys)) (p : Paired (KeyV H) ths ys) (g : GoodK ths) (nd : ths.Nodup) (hk : k ∈ ths) (hv : KeyV H k v) (q : Q (.int (num ths k : Nat)) H) : rIndexD K (.ref a) [v] H Q := by
  have gk : SeqAt.shaped (encK.enc k) = true := encK.shaped (by decide) k (by
    cases k with
    | row z => exact good_ok (g z hk)
    | tup ns => trivial)
  refine ⟨a, v, encK.enc k, ths.map encK.enc, num ths k, encK.enc k, rfl, rfl, .lst (sql ha) (paired_dp p), keyV_dp hv, goodK_sh g, gk, by rw [List.getElem?_map, num_get hk]; rfl, by rw [encK.eq, decide_eq_true rfl], fun m z' hm hz => ?_, q⟩
  rw [List.getElem?_map] at hz
  obtain ⟨k', h1, rfl⟩ := Option.map_eq_some_iff.mp hz
  rw [encK.eq]
  refine decide_eq_false fun e => ?_
  rw [e] at h1
  exact absurd (nd_ix nd h1 (num_get hk)) (by omega)
theorem notin_at {K : PySem.W.Frag} {H : Hp} {a : Addr} {ths : List MK} {ys : List V} {k : MK} {v : V} {Q : VK} (ha : H a = some (.lst ys)) (p : Paired (KeyV H) ths ys) (g : GoodK ths) (gk : ∀ z, k = .row z → Good z) (hv : KeyV H k v) (q : Q (.bl (!decide (k ∈ ths))) H) : rNotInD K v (.ref a) H Q := by
  have sk : SeqAt.shaped (encK.enc k) = true := encK.shaped (by decide) k (by
    cases k with
    | row z => exact good_ok (gk z rfl)
    | tup ns => trivial)
  have e : ((ths.map encK.enc).any fun z => PyData.eqv z (encK.enc k)) = decide (k ∈ ths) := by
    rw [Bool.eq_iff_iff, List.any_eq_true, decide_eq_true_eq]
    constructor
    · rintro ⟨z, hz, h⟩
      obtain ⟨k', h1, rfl⟩ := List.mem_map.mp hz
      rw [encK.eq, decide_eq_true_eq] at h
      rw [← h]; exact h1
    · intro h
      exact ⟨_, List.mem_map.mpr ⟨k, h, rfl⟩, by rw [encK.eq, decide_eq_true rfl]⟩
  refine ⟨encK.enc k, ths.map encK.enc, keyV_dp hv, .lst (sql ha) (paired_dp p), sk, goodK_sh g, ?_⟩
  rw [e]
  exact q
def N_law_thing : List Str := ["_law_things", "_law_cell", "_law_many", "_law_one", "_law_other", "_law_known", "_law_between"]
def t_law_thing (K : PySem.W.Frag) (c : Cs) (E : XK) : TS := (tSeq (tAsg (tCB (rLen K) (tCons (tVar 0) tNil)) (gName 2))
  (tSeq (tIfS (tAnd (tTest (tOp (rEqU K) (tOp rMod (tVar 1) (tC (.int 4))) (tC (.int 0)))) (tTest (tOp rGt (tVar 2) (tC (.int 0))))) (tSeq (tAsg (tOp rMod (tCall (sp_law_mix K c) [] E0 (tCons (tVar 1) (tCons (tC (.int 1)) tNil))) (tVar 2)) (gName 3))
  (tSeq (tAsg (tOp (rIx K) (tLst (tCons (tVar 3) (tCons (tOp rMod (tCall (sp_law_mix K c) [] E0 (tCons (tVar 1) (tCons (tC (.int 2)) tNil))) (tVar 2)) (tCons (tOp rSubI (tVar 2) (tC (.int 1))) tNil)))) (tOp rMod (tCall (sp_law_mix K c) [] E0 (tCons (tVar 1) (tCons (tC (.int 3)) tNil))) (tC (.int 3)))) (gName 4))
  (tRet (tLst (tCons (tVar 3) (tCons (tVar 4) tNil)))))) tNext)
  (tSeq (tIfS (tAnd (tTest (tOp (rEqU K) (tOp rMod (tVar 1) (tC (.int 4))) (tC (.int 1)))) (tTest (tOp rGt (tVar 2) (tC (.int 0))))) (tSeq (tAsg (tOp (rIx K) (tVar 0) (tOp rMod (tCall (sp_law_mix K c) [] E0 (tCons (tVar 1) (tCons (tC (.int 4)) tNil))) (tVar 2))) (gName 5))
  (tSeq (tIfS (tAnd (tB (tCB (rIsi K) (tCons (tVar 5) (tCons (tC (.ty "tuple")) tNil)))) (tTest (tOp (rEqU K) (tOp rMod (tOp rDiv (tVar 1) (tC (.int 8))) (tC (.int 2))) (tC (.int 1))))) (tSeq (tAsg (tOp (rIx K) (tLst (tCons (tC (.str " ")) (tCons (tC (.str "")) (tCons (tC (.str "a")) (tCons (tC (.str "  ")) (tCons (tC (.str "0")) (tCons (tC (.str "x")) tNil))))))) (tOp rMod (tOp rDiv (tVar 1) (tC (.int 16))) (tC (.int 6)))) (gName 6))
  (tRet (tOp rAddU (tOp rAddU (tOp rAddU (tOp (rIx K) (tLst (tCons (tC (.str "")) (tCons (tC (.str " ")) (tCons (tC (.str "r")) tNil)))) (tOp rMod (tOp rDiv (tVar 1) (tC (.int 96))) (tC (.int 3)))) (tCB rStr1 (tCons (tOp (rIx K) (tVar 5) (tC (.int 0))) tNil))) (tVar 6)) (tCB rStr1 (tCons (tOp (rIx K) (tVar 5) (tC (.int 1))) tNil))))) tNext)
  (tSeq (tIfS (tB (tCB (rIsi K) (tCons (tVar 5) (tCons (tC (.ty "tuple")) tNil)))) (tRet (tLst (tCons (tOp (rIx K) (tVar 5) (tOp rMod (tOp rDiv (tVar 1) (tC (.int 4))) (tC (.int 2)))) (tCons (tOp (rIx K) (tVar 5) (tOp rSubI (tC (.int 1)) (tOp rMod (tOp rDiv (tVar 1) (tC (.int 4))) (tC (.int 2))))) tNil)))) tNext)
  (tSeq (tIfS (tTest (tOp (rEqU K) (tOp rMod (tOp rDiv (tVar 1) (tC (.int 8))) (tC (.int 3))) (tC (.int 1)))) (tRet (tCB rStr1 (tCons (tBM K "list" (rIndexD K) (tVar 0) (tCons (tVar 5) tNil)) tNil))) tNext)
  (tRet (tCall (sp_law_near K c) [] E0 (tCons (tVar 5) (tCons (tCall (sp_law_mix K c) [] E0 (tCons (tVar 1) (tCons (tC (.int 5)) tNil))) tNil)))))))) tNext)
  (tRet (tCall (sp_law_text K c) [] E0 (tCons (tOp rMod (tCall (sp_law_mix K c) [] E0 (tCons (tVar 1) (tCons (tC (.int 6)) tNil))) (tOp (rIx K) (tLst (tCons (tC (.int 9)) (tCons (tC (.int 99991)) tNil))) (tOp rMod (tOp rDiv (tVar 1) (tC (.int 4))) (tC (.int 2))))) tNil))))))
def sp_law_thing (K : PySem.W.Frag) (_ : Cs) : Sp := fun vs H Q _ => ∃ (kt : Addr) (n : Int) (ths : List MK) (ys : List V), vs = [.ref kt, .int n] ∧ H kt = some (.lst ys) ∧ Paired (KeyV H) ths ys ∧ WfK ths ∧ ths.Nodup ∧ ths.length ≤ 64 ∧
  (∀ H' a (i j : Nat), Ex H H' → H a = none → H' a = some (.lst [.int (i : Nat), .int (j : Nat)]) → i < ths.length → j < ths.length → Q (.ref a) H') ∧ (∀ H' z, Ex H H' → Good z → Q (.str z) H')
theorem len_law_thing {K c} : ∀ vs H Q E, sp_law_thing K c vs H Q E → vs.length = 2 := by rintro vs H Q E ⟨_, _, _, _, rfl, _⟩; rfl
theorem pure_law_thing {K : PySem.W.Frag} {c : Cs} {vs : List V} {H : Hp} {Q : VK} {E : XK} (h : sp_law_thing K c vs H Q E) : t_law_thing K c E ⟨fun _ H' => Q .non H', Q, fun _ _ => False, fun _ _ => False⟩ (start N_law_thing vs) H := by
  obtain ⟨kt, n, ths, ys, rfl, hk, pr, wf, nd, hz, q1, q2⟩ := h
  show t_law_thing K c E _ [some (.ref kt), some (.int n), none, none, none, none, none] H
  unfold t_law_thing
  have hl : ths.length = ys.length := Paired.length pr
  walk_at "s"
  refine w_lenL (sql hk) ?_
  rw [← hl]
  walk_at "s"
  have text : ∀ (v2 v3 v4 v5 v6 : Option V), tRet (tCall (sp_law_text K c) [] E0 (tCons (tOp rMod (tCall (sp_law_mix K c) [] E0 (tCons (tVar 1) (tCons (tC (.int 6)) tNil))) (tOp (rIx K) (tLst (tCons (tC (.int 9)) (tCons (tC (.int 99991)) tNil))) (tOp rMod (tOp rDiv (tVar 1) (tC (.int 4))) (tC (.int 2))))) tNil)) ⟨fun _ H' => Q .non H', Q, fun _ _ => False, fun _ _ => False⟩
      [some (.ref kt), some (.int n), v2, v3, v4, v5, v6] H := by
    intro v2 v3 v4 v5 v6
    walk_at "s"
    refine ⟨n, 6, rfl, fun r hr => ?_⟩
    walk_at "s"
    refine ⟨by show 2 ≤ sizeLine; exact sz100 (by decide), fun p hp => ?_⟩
    walk_at "s"
    refine w_ixAny (sql upd_same) (by omega) (by show _ < ((2 : Nat) : Int); omega) fun v hv => ?_
    obtain ⟨j, hj, rfl⟩ : ∃ j : Int, 0 < j ∧ v = .int j := by
      rcases List.mem_cons.mp hv with e | hv
      · exact ⟨_, by decide, e⟩
      · exact ⟨_, by decide, List.mem_singleton.mp hv⟩
    refine w_mod hj ?_
    walk_at "s"
    exact ⟨_, rfl, fun z H2 gz x2 => q2 H2 z ((ex_new ex_refl hp).trans x2) gz⟩
  have mixed : ∀ (j : Int) {Q' : VK}, 0 < ths.length → (∀ r : Nat, r < ths.length → Q' (.int (r : Nat)) H) → sp_law_mix K c [.int n, .int j] H (fun v H1 => ∃ k, v = .int k ∧ Q' (.int (k % (ths.length : Nat))) H1) E0 := fun j Q' hp k => ⟨n, j, rfl, fun r _ => ⟨_, rfl, by
    rw [cast_mod]
    exact k _ (Nat.mod_lt _ hp)⟩⟩
  refine ite_d (fun h0 => ?_) fun h0 => ?_
  · walk_at "s"
    refine ite_d (fun h1 => ?_) fun h1 => ?_
    · have pos : 0 < ths.length := by omega
      walk_at "s"
      refine ⟨n, 1, rfl, fun r1 _ => ?_⟩
      walk_at "s"
      rw [cast_mod]
      have b1 : r1 % ths.length < ths.length := Nat.mod_lt _ pos
      generalize r1 % ths.length = i at b1
      walk_at "s"
      refine ⟨n, 2, rfl, fun r2 _ => ?_⟩
      walk_at "s"
      rw [cast_mod]
      have b2 : r2 % ths.length < ths.length := Nat.mod_lt _ pos
      generalize r2 % ths.length = j at b2
      walk_at "s"
      refine ⟨by show 3 ≤ sizeLine; exact sz100 (by decide), fun p hp => ?_⟩
      walk_at "s"
      refine ⟨n, 3, rfl, fun r3 _ => ?_⟩
      walk_at "s"
      refine w_ixAny (sql upd_same) (by omega) (by show _ < ((3 : Nat) : Int); omega) fun v hv => ?_
      obtain ⟨m, rfl, hm⟩ : ∃ m : Nat, v = .int (m : Nat) ∧ m < ths.length := by
        simp only [List.mem_cons, List.not_mem_nil, or_false] at hv
        rcases hv with rfl | rfl | rfl
        · exact ⟨i, rfl, b1⟩
        · exact ⟨j, rfl, b2⟩
        · exact ⟨ths.length - 1, by congr 1; omega, by omega⟩
      have e1 := ex_new (o := .lst [.int (i : Nat), .int (j : Nat), .int ((ths.length : Nat) - 1)]) ex_refl hp
      walk_at "s"
      refine ⟨by show 2 ≤ sizeLine; exact sz100 (by decide), fun a ha => ?_⟩
      exact q1 _ a i m (ex_new e1 ha) (ex_free e1 ha) upd_same b1 hm
    · walk_at "s"
      rw [decide_eq_false (show ¬ n % 4 = 1 by omega)]
      refine iteF ?_
      refine iteF ?_
      exact text _ _ _ _ _
  refine iteF ?_
  walk_at "s"
  refine ite_d (fun h1 => ?_) fun h1 => ?_
  · walk_at "s"
    refine ite_d (fun h2 => ?_) fun h2 => ?_
    · have pos : 0 < ths.length := by omega
      walk_at "s"
      refine ⟨n, 4, rfl, fun r1 _ => ?_⟩
      walk_at "s"
      rw [cast_mod]
      have b1 : r1 % ths.length < ths.length := Nat.mod_lt _ pos
      generalize r1 % ths.length = i at b1
      obtain ⟨y, hy, kv⟩ := paired_get pr (List.getElem?_eq_getElem b1)
      have hm : ths[i] ∈ ths := List.getElem_mem b1
      refine w_ixL (sql hk) (atI_nat hy) ?_
      walk_at "s"
      rcases wf _ hm with ⟨z, ez, gz⟩ | ⟨a, b, ep, ha, hb⟩
      · rw [ez] at kv
        have kv : y = .str z := kv
        subst kv
        refine isi_ty (b := false) tyS (by decide +kernel) ?_
        walk_at "s"
        refine iteF ?_
        refine iteF ?_
        walk_at "s"
        refine isi_ty (b := false) tyS (by decide +kernel) ?_
        walk_at "s"
        refine iteF ?_
        walk_at "s"
        refine ite_d (fun h3 => ?_) fun h3 => ?_
        · walk_at "s"
          refine ⟨w_tyL (sql hk), ?_⟩
          walk_at "s"
          refine index_at hk pr wf.good nd (k := .row z) (by rw [← ez]; exact hm) rfl ?_
          walk_at "s"
          have b2 : num ths (.row z) < ths.length := num_lt (by rw [← ez]; exact hm)
          have g := goodH (n := num ths (.row z)) (by omega)
          refine w_str (Nat.lt_of_le_of_lt (Nat.log2_le_self _) (by omega)) ?_
          exact q2 H _ ex_refl ⟨by have := g.1; omega, g.2⟩
        · walk_at "s"
          refine ⟨n, 5, rfl, fun r3 _ => ?_⟩
          walk_at "s"
          exact ⟨z, _, rfl, gz, fun w gw => q2 H w ex_refl gw⟩
      · rw [ep] at kv
        obtain ⟨t, rfl, ht⟩ := (show ∃ t, y = .ref t ∧ H t = some (.tup [.int (a : Nat), .int (b : Nat)]) from kv)
        refine isi_ty (b := true) (ty_sqt (sqt ht)) (by decide +kernel) ?_
        walk_at "s"
        refine iteT ?_
        walk_at "s"
        refine ite_d (fun h3 => ?_) fun h3 => ?_
        · walk_at "s"
          refine ⟨by show 6 ≤ sizeLine; exact sz100 (by decide), fun p hp => ?_⟩
          walk_at "s"
          refine w_ixAny (sql upd_same) (by omega) (by show _ < ((6 : Nat) : Int); omega) fun v hv => ?_
          obtain ⟨bt, rfl, l1, g1⟩ : ∃ y : Str, v = .str y ∧ y.length ≤ 2 ∧ ∀ c ∈ y.cps.toList, c ∈ signs.cps.toList := by
            simp only [List.mem_cons, List.not_mem_nil, or_false] at hv
            rcases hv with rfl | rfl | rfl | rfl | rfl | rfl
            all_goals exact ⟨_, rfl, by decide +kernel, by decide +kernel⟩
          have x1 := ex_new (o := .lst [.str " ", .str "", .str "a", .str "  ", .str "0", .str "x"]) ex_refl hp
          generalize upd H p (.lst [.str " ", .str "", .str "a", .str "  ", .str "0", .str "x"]) = H1 at x1
          walk_at "s"
          refine ⟨by show 3 ≤ sizeLine; exact sz100 (by decide), fun p2 hp2 => ?_⟩
          walk_at "s"
          refine w_ixAny (sql upd_same) (by omega) (by show _ < ((3 : Nat) : Int); omega) fun v hv => ?_
          obtain ⟨hd, rfl, l2, g2⟩ : ∃ y : Str, v = .str y ∧ y.length ≤ 1 ∧ ∀ c ∈ y.cps.toList, c ∈ signs.cps.toList := by
            simp only [List.mem_cons, List.not_mem_nil, or_false] at hv
            rcases hv with rfl | rfl | rfl
            all_goals exact ⟨_, rfl, by decide +kernel, by decide +kernel⟩
          have x2 := x1.trans (ex_new (o := .lst [.str "", .str " ", .str "r"]) ex_refl hp2)
          generalize upd H1 p2 (.lst [.str "", .str " ", .str "r"]) = H2 at x2
          have ht2 := x2 _ _ ht
          have ga := goodH (n := a) (by omega)
          have gb := goodH (n := b) (by omega)
          have la := ga.1
          have lb := gb.1
          walk_at "s"
          refine w_ixT (v := .int (a : Nat)) (sqt ht2) rfl ?_
          walk_at "s"
          refine w_str (Nat.lt_of_le_of_lt (Nat.log2_le_self _) (by omega)) ?_
          walk_at "s"
          refine w_addS (szM (by omega)) ?_
          walk_at "s"
          refine w_addS (szM (by rw [len_app]; omega)) ?_
          walk_at "s"
          refine w_ixT (v := .int (b : Nat)) (sqt ht2) rfl ?_
          walk_at "s"
          refine w_str (Nat.lt_of_le_of_lt (Nat.log2_le_self _) (by omega)) ?_
          walk_at "s"
          refine w_addS (szM (by rw [len_app, len_app]; omega)) ?_
          exact q2 H2 _ x2 ⟨by rw [len_app, len_app, len_app]; omega, good_app (good_app (good_app g2 ga.2) g1) gb.2⟩
        · walk_at "s"
          refine isi_ty (b := true) (ty_sqt (sqt ht)) (by decide +kernel) ?_
          walk_at "s"
          refine iteT ?_
          walk_at "s"
          have r2 : n / 4 % 2 = 0 ∨ n / 4 % 2 = 1 := by omega
          rcases r2 with e | e
          · rw [e]
            refine w_ixT (v := .int (a : Nat)) (sqt ht) rfl ?_
            walk_at "s"
            rw [e]
            refine w_ixT (v := .int (b : Nat)) (sqt ht) rfl ?_
            walk_at "s"
            refine ⟨by show 2 ≤ sizeLine; exact sz100 (by decide), fun p hp => ?_⟩
            exact q1 _ p a b (ex_new ex_refl hp) hp upd_same ha hb
          · rw [e]
            refine w_ixT (v := .int (b : Nat)) (sqt ht) rfl ?_
            walk_at "s"
            rw [e]
            refine w_ixT (v := .int (a : Nat)) (sqt ht) rfl ?_
            walk_at "s"
            refine ⟨by show 2 ≤ sizeLine; exact sz100 (by decide), fun p hp => ?_⟩
            exact q1 _ p b a (ex_new ex_refl hp) hp upd_same hb ha
    · exact text _ _ _ _ _
  · refine iteF ?_
    exact text _ _ _ _ _
end Tw

namespace Tw
open PySem L2 Ts Mix
def N_law_same : List Str := ["_law_ledger", "_law_things", "_law_cell", "_law_many", "_law_odd", "_law_k", "_law_number", "_law_found"]
def t_law_same (K : PySem.W.Frag) (c : Cs) (E : XK) : TS := (tSeq (tAsg (tCB (rLen K) (tCons (tVar 1) tNil)) (gName 3))
  (tSeq (tAsg (tOp (rIx K) (tLst (tCons (tVar 3) (tCons (tUn (rU fun i => .int (-i)) (tC (.int 1))) (tCons (tC (.bl true)) (tCons (tC (.str "0")) (tCons (tC .non) (tCons (tOp rAddU (tVar 3) (tOp rMod (tOp rDiv (tVar 2) (tC (.int 9))) (tOp rPow (tC (.int 10)) (tC (.int 6))))) (tCons (tOp rSubI (tOp rSubI (tC (.int 0)) (tC (.int 1))) (tOp rMod (tOp rDiv (tVar 2) (tC (.int 9))) (tC (.int 99)))) tNil)))))))) (tOp rMod (tCall (sp_law_mix K c) [] E0 (tCons (tVar 2) (tCons (tC (.int 19)) tNil))) (tC (.int 7)))) (gName 4))
  (tSeq (tIfS (tTest (tOp (rNeU K) (tCall (sp_law_what K c) [] E0 (tCons (tVar 0) (tCons (tVar 4) tNil))) (tLst (tCons (tC (.str "NoSum")) tNil)))) (tRet (tC (.bl false))) tNext)
  (tSeq (tIfS (tOr (tNot (tB (tCall (sp_law_whole K c) [] E0 (tCons (tMeth c.Ledger "many" (sp_Ledger_many K c) [] E0 (tVar 0) tNil) tNil)))) (tTest (tOp (rNeU K) (tMeth c.Ledger "many" (sp_Ledger_many K c) [] E0 (tVar 0) tNil) (tCB (rLen K) (tCons (tVar 1) tNil))))) (tRet (tC (.bl false))) tNext)
  (tSeq (tFor (iRng1 (tCons (tCB rMin (tCons (tC (.int 3)) (tCons (tCB (rLen K) (tCons (tVar 1) tNil)) tNil))) tNil)) (gName 5) (tSeq (tAsg (tOp rMod (tCall (sp_law_mix K c) [] E0 (tCons (tVar 2) (tCons (tOp rAddU (tC (.int 20)) (tVar 5)) tNil))) (tCB (rLen K) (tCons (tVar 1) tNil))) (gName 6))
  (tSeq (tAsg (tMeth c.Ledger "what" (sp_Ledger_what K c) [] E0 (tVar 0) (tCons (tVar 6) tNil)) (gName 7))
  (tIfS (tOr (tTest (tOp (rNeU K) (tVar 7) (tOp (rIx K) (tVar 1) (tVar 6)))) (tTest (tOp (rNeU K) (tCB (rIsi K) (tCons (tVar 7) (tCons (tC (.ty "str")) tNil))) (tCB (rIsi K) (tCons (tOp (rIx K) (tVar 1) (tVar 6)) (tCons (tC (.ty "str")) tNil)))))) (tRet (tC (.bl false))) tNext))))
  (tRet (tC (.bl true))))))))
def sp_law_same (K : PySem.W.Frag) (c : Cs) : Sp := fun vs H Q _ => ∃ (L d l kt : Addr) (n : Int) (ths : List MK) (xs ys : List V), vs = [.ref L, .ref kt, .int n] ∧ LedgerAt c H L d l ths xs ∧ H kt = some (.lst ys) ∧ Paired (KeyV H) ths ys ∧ GoodK ths ∧ ths.length < 100000 ∧ ∀ H', Ex H H' → Q (.bl true) H'
theorem len_law_same {K c} : ∀ vs H Q E, sp_law_same K c vs H Q E → vs.length = 3 := by rintro vs H Q E ⟨_, _, _, _, _, _, _, _, rfl, _⟩; rfl
theorem pure_law_same {K : PySem.W.Frag} {c : Cs} {vs : List V} {H : Hp} {Q : VK} {E : XK} (h : sp_law_same K c vs H Q E) : t_law_same K c E ⟨fun _ H' => Q .non H', Q, fun _ _ => False, fun _ _ => False⟩ (start N_law_same vs) H := by
  obtain ⟨L, d, l, kt, n, ths, xs, ys, rfl, La, hk, pr, gd, hz, q⟩ := h
  show t_law_same K c E _ [some (.ref L), some (.ref kt), some (.int n), none, none, none, none, none] H
  unfold t_law_same
  have l1 := La.len
  have hl : ths.length = ys.length := Paired.length pr
  obtain ⟨dx, hL⟩ := La.ob
  walk_at "s"
  refine w_lenL (sql hk) ?_
  rw [← hl]
  walk_at "s"
  refine ⟨by show 7 ≤ sizeLine; exact sz100 (by decide), fun p hp => ?_⟩
  have x1 := ex_new (o := .lst [.int (ths.length : Nat), .int (-1), .bl true, .str "0", .non, .int ((ths.length : Nat) + n / 9 % 10 ^ Int.toNat 6), .int (0 - 1 - n / 9 % 99)]) ex_refl hp
  walk_at "s"
  refine ⟨n, 19, rfl, fun r _ => ?_⟩
  walk_at "s"
  refine w_ixAny (sql upd_same) (by omega) (by show _ < ((7 : Nat) : Int); omega) fun u hu => ?_
  have odd : OddV K ths.length u := by
    simp only [List.mem_cons, List.not_mem_nil, or_false] at hu
    rcases hu with rfl | rfl | rfl | rfl | rfl | rfl | rfl
    · exact odd_int (.inr (Int.le_refl _))
    · exact odd_int (.inl (by decide))
    · exact odd_bl
    · exact odd_str
    · exact odd_non
    · exact odd_int (.inr (by have := Int.emod_nonneg (n / 9) (b := 10 ^ Int.toNat 6) (by decide); omega))
    · exact odd_int (.inl (by omega))
  generalize upd H p (.lst [.int (ths.length : Nat), .int (-1), .bl true, .str "0", .non, .int ((ths.length : Nat) + n / 9 % 10 ^ Int.toNat 6), .int (0 - 1 - n / 9 % 99)]) = H1 at x1
  walk_at "s"
  obtain ⟨b, hb⟩ := odd.fl H1
  refine ⟨L, d, l, ths, xs, u, b, rfl, La.ex x1, hb, odd.no, fun H2 t e2 ht => ?_⟩
  walk_at "s"
  refine ⟨by show 1 ≤ sizeLine; exact sz100 (by decide), fun p2 hp2 => ?_⟩
  have x3 := (x1.trans e2).trans (ex_new (o := .lst [.str "NoSum"]) ex_refl hp2)
  have c1 := ex_new (o := .lst [.str "NoSum"]) ex_refl hp2 _ _ ht
  have c2 : (upd H2 p2 (.lst [.str "NoSum"])) p2 = some (.lst [.str "NoSum"]) := upd_same
  generalize upd H2 p2 (.lst [.str "NoSum"]) = H3 at x3 c1 c2
  have dl : ∀ {t : Addr}, H3 t = some (.lst [.str "NoSum"]) → Dp K H3 (.ref t) (.list [.str "NoSum"]) := fun h => .lst (sql h) (.cons (.str _) .nil)
  refine w_neD (dl c1) (dl c2) (by decide +kernel) (by decide +kernel) ?_
  rw [show PyData.eqv (.list [.str "NoSum"]) (.list [.str "NoSum"]) = true from by decide +kernel]
  walk_at "s"
  refine iteF ?_
  walk_at "s"
  have hL3 := x3 _ _ hL
  have La3 := La.ex x3
  have hk3 := x3 _ _ hk
  have pr3 : Paired (KeyV H3) ths ys := paired_imp pr fun a b q => keyV_ex x3 q
  refine w_methAt hL3 (lfl_no (by decide +kernel) (by decide +kernel)) ?_
  walk_at "s"
  refine ⟨L, d, l, ths, xs, rfl, La3, by omega, ?_⟩
  walk_at "s"
  refine whole_int ?_
  walk_at "s"
  refine iteF ?_
  walk_at "s"
  refine w_methAt hL3 (lfl_no (by decide +kernel) (by decide +kernel)) ?_
  walk_at "s"
  refine ⟨L, d, l, ths, xs, rfl, La3, by omega, ?_⟩
  walk_at "s"
  refine w_lenL (sql hk3) ?_
  rw [← hl]
  walk_at "s"
  rw [decide_eq_true rfl]
  refine iteF ?_
  walk_at "s"
  refine w_lenL (sql hk3) ?_
  rw [← hl]
  walk_at "s"
  have e3 : (if ((ths.length : Nat) : Int) < 3 then ((ths.length : Nat) : Int) else 3) = ((min 3 ths.length : Nat) : Int) := by split <;> omega
  rw [e3]
  refine w_iR1v (by omega) (by omega) ?_
  refine lb_range0 (n := ((min 3 ths.length : Nat) : Int).toNat) (fun i σ H' => (∃ v5 v6 v7, σ = [some (.ref L), some (.ref kt), some (.int n), some (.int (ths.length : Nat)), some u, v5, v6, v7]) ∧ Ex H3 H') ⟨⟨_, _, _, rfl⟩, ex_refl⟩ ?_ ?_
  · rintro i σ H4 hi ⟨⟨v5, v6, v7, rfl⟩, x4⟩
    have hpos : 0 < ths.length := by omega
    have hk4 := x4 _ _ hk3
    walk_at "s"
    refine ⟨n, _, rfl, fun r _ => ?_⟩
    walk_at "s"
    refine w_lenL (sql hk4) ?_
    rw [← hl]
    walk_at "s"
    rw [cast_mod]
    have b1 : r % ths.length < ths.length := Nat.mod_lt _ hpos
    generalize r % ths.length = j at b1
    have hj := List.getElem?_eq_getElem b1
    obtain ⟨w, hw, kw⟩ := paired_get (La3.ex x4).kv hj
    obtain ⟨y, hy, ky⟩ := paired_get (paired_imp pr3 fun a b q => keyV_ex x4 q) hj
    have hm : ths[j] ∈ ths := List.getElem_mem b1
    generalize ths[j] = k at hj kw ky hm
    walk_at "s"
    refine w_methAt (x4 _ _ hL3) (lfl_no (by decide +kernel) (by decide +kernel)) ?_
    walk_at "s"
    refine ⟨L, d, l, ths, xs, _, true, rfl, La3.ex x4, .inl ⟨_, rfl, rfl⟩, fun i' k' w' ei ek ew kv => ?_, fun no => absurd ⟨j, rfl, b1⟩ no⟩
    have ei : i' = j := by have := V.int.inj ei; omega
    rw [ei, hw] at ew
    cases ew
    clear kv ek
    walk_at "s"
    refine w_ixL (sql hk4) (atI_nat hy) ?_
    have sk : SeqAt.shaped (encK.enc k) = true := encK.shaped (by decide) k (by
      cases k with
      | row z => exact good_ok (gd z hm)
      | tup ns => trivial)
    refine w_neD (keyV_dp kw) (keyV_dp ky) sk sk ?_
    rw [encK.eq, decide_eq_true rfl]
    walk_at "s"
    refine iteF ?_
    walk_at "s"
    refine isR_at kw ?_
    walk_at "s"
    refine w_ixL (sql hk4) (atI_nat hy) ?_
    walk_at "s"
    refine isR_at ky ?_
    refine w_neD (.bl _) (.bl _) (by cases isR k <;> decide) (by cases isR k <;> decide) ?_
    rw [show PyData.eqv (.bool (isR k)) (.bool (isR k)) = true from by cases isR k <;> rfl]
    walk_at "s"
    refine iteF ?_
    walk_at "s"
    exact ⟨⟨_, _, _, rfl⟩, x4⟩
  · rintro σ H4 ⟨⟨v5, v6, v7, rfl⟩, x4⟩
    walk_at "s"
    exact q _ (x3.trans x4)
end Tw

namespace Tw
open PySem L2 Ts Mix
def Soft (H : Hp) (S : List Addr) : Prop := ∀ x ∈ S, ∀ o, H x = some o → (∃ ys, o = .lst ys) ∨ ∃ φ, o = .ext φ
theorem soft_one {H : Hp} {p : Addr} {ys : List V} (h : H p = some (.lst ys)) : Soft H [p] := fun x hx o ho => by
  rw [List.mem_singleton.mp hx, h] at ho
  cases ho
  exact .inl ⟨_, rfl⟩
theorem Soft.notTup {H : Hp} {S : List Addr} (s : Soft H S) : ∀ x o, x ∈ S → H x = some o → ¬ ∃ ys, o = .tup ys := fun x o hx ho => by
  rcases s _ hx _ ho with ⟨_, e⟩ | ⟨_, e⟩
  · rw [e]; rintro ⟨_, e2⟩; cases e2
  · rw [e]; rintro ⟨_, e2⟩; cases e2
theorem LedgerAt.kpS {c : Cs} {H H' : Hp} {p d l : Addr} {ths : List MK} {vs : List V} {S : List Addr} (L : LedgerAt c H p d l ths vs) (k : Kp S H H') (s : Soft H S) (hd : d ∉ S) (hl : l ∉ S) : LedgerAt c H' p d l ths vs := by
  obtain ⟨dx, hp⟩ := L.ob
  refine ⟨⟨dx, k _ _ hp fun z => ?_⟩, k _ _ L.dc hd, k _ _ L.ls hl, paired_imp L.kv fun a b q => k.keyV q s.notTup, L.nd⟩
  rcases s _ z _ hp with ⟨_, e⟩ | ⟨_, e⟩ <;> cases e
theorem LedgerAt.soft {K : PySem.W.Frag} {c : Cs} {H : Hp} {p d l : Addr} {ths : List MK} {vs : List V} (T : TxK K c) (L : LedgerAt c H p d l ths vs) : Soft H [d, l] := fun x hx o ho => by
  rcases List.mem_cons.mp hx with e | hx
  · obtain ⟨φ, e2⟩ := T.md d (ents 0 ths vs)
    have := L.dc
    rw [← e, ho] at this
    cases this
    rw [← e] at e2
    exact .inr ⟨φ, e2⟩
  · have := L.ls
    rw [← List.mem_singleton.mp hx, ho] at this
    cases this
    exact .inl ⟨_, rfl⟩
theorem ex_of_kp2 {H0 H H' : Hp} {F : List Addr} (e : Ex H0 H) (fr : ∀ x ∈ F, H0 x = none) (k : Kp F H H') : Ex H0 H' := fun x o h => k _ _ (e _ _ h) fun z => by rw [fr x z] at h; cases h
theorem ne_new {H : Hp} {x y : Addr} {o : HO} (h : H x = some o) (f : H y = none) : x ≠ y := fun e => by rw [e, f] at h; cases h
theorem new_ledger {K : PySem.W.Frag} {c : Cs} {H : Hp} {Q : Addr → Hp → Prop} {E : XK} (q : ∀ L d l H', H L = none → H d = none → H l = none → LedgerAt c H' L d l [] [] → Ex H H' → Q L H') :
    ∀ x dx, H x = none → H dx = none → dx ≠ x → sp_Ledger_init K c [.ref x] (upd (upd H dx (.own x)) x (.ins c.Ledger dx [])) (fun v H2 => v = .non ∧ Q x H2) E := fun x dx hx hdx ne => by
  refine ⟨x, dx, rfl, upd_same, fun d l H' hd hl L k => ⟨rfl, ?_⟩⟩
  have e1 : Ex H (upd (upd H dx (.own x)) x (.ins c.Ledger dx [])) := ex_new (ex_new ex_refl hdx) (by rw [upd_ne (Ne.symm ne)]; exact hx)
  refine q x d l H' hx (ex_free e1 hd) (ex_free e1 hl) L fun b o h => k b o (e1 b o h) fun z => ?_
  rw [List.mem_singleton.mp z, hx] at h
  cases h
theorem cutV_ints (ns : List Int) (lo hi : Option Int) : ∃ ms : List Int, cutV (ns.map V.int) lo hi = ms.map V.int ∧ ms.length ≤ ns.length := by
  unfold cutV
  refine ⟨_, by rw [← List.map_drop, ← List.map_take], ?_⟩
  rw [List.length_take, List.length_drop]
  omega
structure LR where
  L : Addr
  d : Addr
  l : Addr
  k : Addr
/-- two ledgers, and what the law keeps of each -/
structure LS (c : Cs) (H0 H : Hp) (keep : List Addr) (a b : LR) (ta sa tb : List MK) (n : Nat) : Prop where
  la : ∃ xs, LedgerAt c H a.L a.d a.l ta xs
  ka : ∃ ys, H a.k = some (.lst ys) ∧ Paired (KeyV H) sa ys
  wa : WfK sa ∧ sa.length ≤ n ∧ ta.length ≤ n ∧ sa.Nodup
  lb : ∃ xs, LedgerAt c H b.L b.d b.l tb xs
  kb : ∃ ys, H b.k = some (.lst ys) ∧ Paired (KeyV H) tb ys
  wb : WfK tb ∧ tb.length ≤ n ∧ tb.Nodup
  n1 : (a.k ≠ a.d ∧ a.k ≠ a.l) ∧ b.k ≠ b.d ∧ b.k ≠ b.l
  n2 : ∀ x ∈ [a.d, a.l, a.k], x ∉ [b.d, b.l, b.k]
  n3 : ∀ x ∈ keep, x ∉ [a.d, a.l, a.k] ∧ x ∉ [b.d, b.l, b.k]
  fr : ∀ x, x ∈ [a.d, a.l, a.k] ∨ x ∈ [b.d, b.l, b.k] → H0 x = none
  ex : Ex H0 H
def Keeps (keep : List Addr) (H H' : Hp) : Prop := ∀ x o, x ∈ keep → H x = some o → H' x = some o
section
variable {K : PySem.W.Frag} {c : Cs} {H0 H H' : Hp} {keep : List Addr} {a b : LR} {ta ta' sa tb : List MK} {n n' : Nat}
theorem LS.swap (S : LS c H0 H keep a b ta ta tb n) : LS c H0 H keep b a tb tb ta n :=
  ⟨S.lb, S.kb, ⟨S.wb.1, S.wb.2.1, S.wb.2.1, S.wb.2.2⟩, S.la, S.ka, ⟨S.wa.1, S.wa.2.1, S.wa.2.2.2⟩, ⟨S.n1.2, S.n1.1⟩, fun x h z => S.n2 x z h, fun x h => ⟨(S.n3 x h).2, (S.n3 x h).1⟩, fun x h => S.fr x h.symm, S.ex⟩
theorem LS.mono (S : LS c H0 H keep a b ta sa tb n) (e : Ex H H') : LS c H0 H' keep a b ta sa tb n :=
  ⟨let ⟨xs, h⟩ := S.la; ⟨xs, h.ex e⟩, let ⟨ys, h, p⟩ := S.ka; ⟨ys, e _ _ h, paired_imp p fun _ _ q => keyV_ex e q⟩, S.wa, let ⟨xs, h⟩ := S.lb; ⟨xs, h.ex e⟩, let ⟨ys, h, p⟩ := S.kb; ⟨ys, e _ _ h, paired_imp p fun _ _ q => keyV_ex e q⟩, S.wb, S.n1, S.n2, S.n3, S.fr, S.ex.trans e⟩
theorem LS.wide (S : LS c H0 H keep a b ta sa tb n) (h : n ≤ n') : LS c H0 H keep a b ta sa tb n' :=
  ⟨S.la, S.ka, ⟨S.wa.1, Nat.le_trans S.wa.2.1 h, Nat.le_trans S.wa.2.2.1 h, S.wa.2.2.2⟩, S.lb, S.kb, ⟨S.wb.1, Nat.le_trans S.wb.2.1 h, S.wb.2.2⟩, S.n1, S.n2, S.n3, S.fr, S.ex⟩
/-- the ledger is asked -/
theorem LS.asked (T : TxK K c) (S : LS c H0 H keep a b ta sa tb n) {xs' : List V} (L : LedgerAt c H' a.L a.d a.l ta' xs') (k : Kp [a.d, a.l] H H') (hn : ta'.length ≤ n') (hh : n ≤ n') : Keeps keep H H' ∧ LS c H0 H' keep a b ta' sa tb n' := by
  obtain ⟨xs, la⟩ := S.la
  have s := la.soft T
  have sub : ∀ x ∈ [a.d, a.l], x ∈ [a.d, a.l, a.k] := fun x hx => by
    rcases List.mem_cons.mp hx with e | hx
    · rw [e]; simp
    · rw [List.mem_singleton.mp hx]; simp
  have nb : ∀ x ∈ [b.d, b.l, b.k], x ∉ [a.d, a.l] := fun x hx z => S.n2 x (sub x z) hx
  refine ⟨fun x o hx h => k _ _ h fun z => (S.n3 x hx).1 (sub x z), ⟨xs', L⟩, ?_, ⟨S.wa.1, Nat.le_trans S.wa.2.1 hh, hn, S.wa.2.2.2⟩, ?_, ?_, ⟨S.wb.1, Nat.le_trans S.wb.2.1 hh, S.wb.2.2⟩, S.n1, S.n2, S.n3, S.fr, ex_of_kp2 S.ex (fun x hx => S.fr x (.inl (sub x hx))) k⟩
  · obtain ⟨ys, h, p⟩ := S.ka
    exact ⟨ys, k _ _ h (by simpa using S.n1.1), paired_imp p fun _ _ q => k.keyV q s.notTup⟩
  · obtain ⟨xs, h⟩ := S.lb
    exact ⟨xs, h.kpS k s (nb _ (by simp)) (nb _ (by simp))⟩
  · obtain ⟨ys, h, p⟩ := S.kb
    exact ⟨ys, k _ _ h (nb _ (by simp)), paired_imp p fun _ _ q => k.keyV q s.notTup⟩
/-- a thing is kept -/
theorem LS.push (S : LS c H0 H keep a b ta sa tb n) {ys : List V} {v : V} {k : MK} (hk : H a.k = some (.lst ys)) (kv : KeyV H k v) (w : WfK (sa ++ [k])) (nd : (sa ++ [k]).Nodup) (hn : (sa ++ [k]).length ≤ n) : Keeps keep H (upd H a.k (.lst (ys ++ [v]))) ∧ LS c H0 (upd H a.k (.lst (ys ++ [v]))) keep a b ta (sa ++ [k]) tb n := by
  have s := soft_one hk
  have kp : Kp [a.k] H (upd H a.k (.lst (ys ++ [v]))) := Kp.refl.set (by simp)
  have nb : ∀ x ∈ [b.d, b.l, b.k], x ∉ [a.k] := fun x hx z => S.n2 x (by rw [List.mem_singleton.mp z]; simp) hx
  obtain ⟨ys', h, p⟩ := S.ka
  rw [hk] at h
  cases h
  refine ⟨fun x o hx h => kp _ _ h fun z => (S.n3 x hx).1 (by rw [List.mem_singleton.mp z]; simp), ?_, ⟨_, upd_same, Paired.snoc (paired_imp p fun _ _ q => kp.keyV q s.notTup) (kp.keyV kv s.notTup)⟩, ⟨w, hn, S.wa.2.2.1, nd⟩, ?_, ?_, S.wb, S.n1, S.n2, S.n3, S.fr, ex_of_kp2 S.ex (fun x hx => S.fr x (.inl (by rw [List.mem_singleton.mp hx]; simp))) kp⟩
  · obtain ⟨xs, h⟩ := S.la
    exact ⟨xs, h.kpS kp s (by simpa using Ne.symm S.n1.1.1) (by simpa using Ne.symm S.n1.1.2)⟩
  · obtain ⟨xs, h⟩ := S.lb
    exact ⟨xs, h.kpS kp s (nb _ (by simp)) (nb _ (by simp))⟩
  · obtain ⟨ys, h, p⟩ := S.kb
    exact ⟨ys, kp _ _ h (nb _ (by simp)), paired_imp p fun _ _ q => kp.keyV q s.notTup⟩
end
/-- what is handed in for a key -/
def KeyFor (F : List Addr) (H : Hp) (ths : List MK) (k : MK) (v : V) : Prop := (∃ z, k = .row z ∧ v = .str z ∧ Good z) ∨ ∃ (q : Addr) (i j : Nat), k = pk i j ∧ v = .ref q ∧ q ∉ F ∧ H q = some (.lst [.int (i : Nat), .int (j : Nat)]) ∧ i < ths.length ∧ j < ths.length
theorem KeyFor.ex {F : List Addr} {H H' : Hp} {ths : List MK} {k : MK} {v : V} (h : KeyFor F H ths k v) (e : Ex H H') : KeyFor F H' ths k v := by
  rcases h with h | ⟨q, i, j, h1, h2, nf, h3, h4⟩
  · exact .inl h
  · exact .inr ⟨q, i, j, h1, h2, nf, e _ _ h3, h4⟩
theorem KeyFor.wf {F : List Addr} {H : Hp} {ths : List MK} {k : MK} {v : V} (h : KeyFor F H ths k v) (w : WfK ths) : WfK (ask ths k) := by
  rcases h with ⟨z, rfl, _, g⟩ | ⟨q, i, j, rfl, _, _, _, hi, hj⟩
  · exact w.row g
  · exact w.pair hi hj
theorem KeyFor.good {F : List Addr} {H : Hp} {ths : List MK} {k : MK} {v : V} (h : KeyFor F H ths k v) : ∀ z, k = .row z → Good z := fun z e => by
  rcases h with ⟨y, rfl, _, g⟩ | ⟨q, i, j, rfl, _⟩
  · cases e; exact g
  · exact nomatch e
/-- what is handed in and must be refused -/
def BadFor (K : PySem.W.Frag) (H : Hp) (m : Nat) (v : V) (nm : Str) : Prop := (nm = "NoRow" ∧ BadRow K H v) ∨ (nm = "NoSum" ∧ ∃ (a : Addr) (x y : V), v = .ref a ∧ H a = some (.lst [x, y]) ∧ FlatW K x ∧ FlatW K y ∧ ¬ (NumV m x ∧ NumV m y))
end Tw

namespace Tw
open PySem L2 Ts Mix
def N_law : List Str := ["_law_script", "_law_ledgers", "_law_kept", "_law_cell", "_law_turn", "_law_things", "_law_thing_here", "_law_due", "_law_found", "_law_known"]
def t_law (K : PySem.W.Frag) (c : Cs) (E : XK) : TS := (tSeq (tAsg (tLst (tCons (tMake c.Ledger (sp_Ledger_init K c) [] E0 tNil) (tCons (tMake c.Ledger (sp_Ledger_init K c) [] E0 tNil) tNil))) (gName 1))
  (tSeq (tAsg (tLst (tCons (tLst tNil) (tCons (tLst tNil) tNil))) (gName 2))
  (tSeq (tFor (iList K (tSl (rSlU K) (tVar 0) (tPart (tC (.int 1))) (tPart (tOp rAddU (tC (.int 1)) (tCall (sp_law_room K c) [] E0 (tCons (tVar 0) (tCons (tC (.int 20)) (tCons (tC (.int 60)) tNil)))))))) (gName 3) (tSeq (tAsg (tOp rMod (tVar 3) (tC (.int 2))) (gName 4))
  (tSeq (tAsg (tOp (rIx K) (tVar 2) (tVar 4)) (gName 5))
  (Evl.tCut (tAsg (tCall (sp_law_thing K c) [] E0 (tCons (tVar 5) (tCons (tOp rDiv (tVar 3) (tC (.int 2))) tNil))) (gName 6))
  (tSeq (tAsg (tC .non) (gName 7))
  (Evl.tCut (tIfS (tTest (tOp (rEqU K) (tOp rMod (tOp rDiv (tVar 3) (tC (.int 2))) (tC (.int 6))) (tC (.int 5)))) (tAsg (tCall (sp_law_bad K c) [] E0 (tCons (tCall (sp_law_mix K c) [] E0 (tCons (tVar 3) (tCons (tC (.int 9)) tNil))) (tCons (tCB (rLen K) (tCons (tVar 5) tNil)) tNil))) (gTup K 2 (gCons (gName 6) (gCons (gName 7) gNil)))) tNext)
  (Evl.tCut (tAsg (tCall (sp_law_asked K c) [] E0 (tCons (tOp (rIx K) (tVar 1) (tVar 4)) (tCons (tVar 6) tNil))) (gName 8))
  (Evl.tCut (tIfS (tTest (tOp rNotN (tVar 7) (tC .non))) (tIfS (tTest (tOp (rNeU K) (tVar 8) (tTup (tCons (tVar 7) tNil)))) (tRet (tC (.bl false))) tNext) (tSeq (tAsg (tVar 6) (gName 9))
  (Evl.tCut (tIfS (tB (tCB (rIsi K) (tCons (tVar 6) (tCons (tC (.ty "list")) tNil)))) (tAsg (tTup (tCons (tOp (rIx K) (tVar 6) (tC (.int 0))) (tCons (tOp (rIx K) (tVar 6) (tC (.int 1))) tNil))) (gName 9)) tNext)
  (Evl.tCut (tIfS (tTest (tOp (rNotInD K) (tVar 9) (tVar 5))) (tDrop (tBM K "list" rAppend (tVar 5) (tCons (tVar 9) tNil))) tNext)
  (tSeq (tIfS (tOr (tNot (tB (tCall (sp_law_whole K c) [] E0 (tCons (tVar 8) tNil)))) (tTest (tOp (rNeU K) (tVar 8) (tBM K "list" (rIndexD K) (tVar 5) (tCons (tVar 9) tNil))))) (tRet (tC (.bl false))) tNext)
  (tIfS (tAnd (tTest (tOp rGt (tCB (rLen K) (tCons (tVar 5) tNil)) (tC (.int 1)))) (tTest (tOp (rNeU K) (tCall (sp_law_asked K c) [] E0 (tCons (tOp (rIx K) (tVar 1) (tVar 4)) (tCons (tLst (tCons (tCB (rLen K) (tCons (tVar 5) tNil)) (tCons (tC (.int 0)) tNil))) tNil))) (tTup (tCons (tC (.str "NoSum")) tNil))))) (tRet (tC (.bl false))) tNext))))))
  (tIfS (tOr (tNot (tB (tCall (sp_law_same K c) [] E0 (tCons (tOp (rIx K) (tVar 1) (tC (.int 0))) (tCons (tOp (rIx K) (tVar 2) (tC (.int 0))) (tCons (tVar 3) tNil)))))) (tNot (tB (tCall (sp_law_same K c) [] E0 (tCons (tOp (rIx K) (tVar 1) (tC (.int 1))) (tCons (tOp (rIx K) (tVar 2) (tC (.int 1))) (tCons (tVar 3) tNil))))))) (tRet (tC (.bl false))) tNext)))))))))
  (tRet (tC (.bl true))))))
def sp_law (K : PySem.W.Frag) (_ : Cs) : Sp := fun vs H Q _ => ∃ (a : Addr) (ns : List Int), vs = [.ref a] ∧ SqL K H a (ns.map V.int) ∧ ns.length ≤ 63 ∧ ∀ H', Q (.bl true) H'
theorem len_law {K c} : ∀ vs H Q E, sp_law K c vs H Q E → vs.length = 1 := by rintro vs H Q E ⟨a, ns, rfl, _⟩; rfl
theorem pure_law {K : PySem.W.Frag} {c : Cs} {vs : List V} {H : Hp} {Q : VK} {E : XK} (T : TxK K c) (h : sp_law K c vs H Q E) : t_law K c E ⟨fun _ H' => Q .non H', Q, fun _ _ => False, fun _ _ => False⟩ (start N_law vs) H := by
  obtain ⟨s, ns, rfl, hs, hlen, q⟩ := h
  show t_law K c E _ [some (.ref s), none, none, none, none, none, none, none, none, none] H
  unfold t_law
  walk_at "s"
  refine new_ledger fun L0 d0 l0 H1 fL0 fd0 fl0 La0 e1 => ?_
  walk_at "s"
  refine new_ledger fun L1 d1 l1 H2 fL1 fd1 fl1 La1 x2 => ?_
  have e2 := e1.trans x2
  walk_at "s"
  refine ⟨by show 2 ≤ sizeLine; exact sz100 (by decide), fun Lg hLg => ?_⟩
  have x3 := ex_new (o := .lst [.ref L0, .ref L1]) ex_refl hLg
  have cL : (upd H2 Lg (.lst [.ref L0, .ref L1])) Lg = some (.lst [.ref L0, .ref L1]) := upd_same
  generalize upd H2 Lg (.lst [.ref L0, .ref L1]) = H3 at x3 cL
  have e3 := e2.trans x3
  walk_at "s"
  refine ⟨Nat.zero_le _, fun k0 hk0 => ?_⟩
  have x4 := ex_new (o := .lst []) ex_refl hk0
  have c0 : (upd H3 k0 (.lst [])) k0 = some (.lst []) := upd_same
  generalize upd H3 k0 (.lst []) = H4 at x4 c0
  have e4 := e3.trans x4
  walk_at "s"
  refine ⟨Nat.zero_le _, fun k1 hk1 => ?_⟩
  have x5 := ex_new (o := .lst []) ex_refl hk1
  have c1 : (upd H4 k1 (.lst [])) k1 = some (.lst []) := upd_same
  generalize upd H4 k1 (.lst []) = H5 at x5 c1
  have e5 := e4.trans x5
  walk_at "s"
  refine ⟨by show 2 ≤ sizeLine; exact sz100 (by decide), fun kl hkl => ?_⟩
  have x6 := ex_new (o := .lst [.ref k0, .ref k1]) ex_refl hkl
  have ck : (upd H5 kl (.lst [.ref k0, .ref k1])) kl = some (.lst [.ref k0, .ref k1]) := upd_same
  generalize upd H5 kl (.lst [.ref k0, .ref k1]) = H6 at x6 ck
  have e6 := e5.trans x6
  walk_at "s"
  have hs6 := sql_ex e6 hs
  refine ⟨s, ns, 20, 60, rfl, hs6, fun room _ => ?_⟩
  walk_at "s"
  refine w_slL hs6 fun p hp => ?_
  obtain ⟨ms, em, hm⟩ := cutV_ints ns (some 1) (some (1 + (room : Nat)))
  rw [em]
  have x7 := ex_new (o := .lst (ms.map V.int)) ex_refl hp
  have cp : (upd H6 p (.lst (ms.map V.int))) p = some (.lst (ms.map V.int)) := upd_same
  generalize upd H6 p (.lst (ms.map V.int)) = H7 at x7 cp
  -- all of these are apart
  have S : LS c H H7 [p, kl, Lg] ⟨L0, d0, l0, k0⟩ ⟨L1, d1, l1, k1⟩ [] [] [] 0 := by
    have b0 : Ex H1 H3 := x2.trans x3
    have b1 : Ex H2 H3 := x3
    have a1 := ne_new (b0 _ _ La0.dc) hk0
    have a2 := ne_new (b0 _ _ La0.ls) hk0
    have a3 := ne_new (b1 _ _ La1.dc) hk0
    have a4 := ne_new (b1 _ _ La1.ls) hk0
    have a5 := ne_new (x4 _ _ (b0 _ _ La0.dc)) hk1
    have a6 := ne_new (x4 _ _ (b0 _ _ La0.ls)) hk1
    have a7 := ne_new (x4 _ _ (b1 _ _ La1.dc)) hk1
    have a8 := ne_new (x4 _ _ (b1 _ _ La1.ls)) hk1
    have a9 := ne_new c0 hk1
    have g1 := ne_new La0.dc fd1
    have g2 := ne_new La0.dc fl1
    have g3 := ne_new La0.ls fd1
    have g4 := ne_new La0.ls fl1
    have y5 : Ex H3 H5 := x4.trans x5
    have y6 : Ex H3 H6 := y5.trans x6
    have h1 := ne_new (x2 _ _ La0.dc) hLg
    have h2 := ne_new (x2 _ _ La0.ls) hLg
    have h3 := ne_new La1.dc hLg
    have h4 := ne_new La1.ls hLg
    have h5 := ne_new cL hk0
    have h6 := ne_new (x4 _ _ cL) hk1
    have h7 := ne_new (y5 _ _ (b0 _ _ La0.dc)) hkl
    have h8 := ne_new (y5 _ _ (b0 _ _ La0.ls)) hkl
    have h9 := ne_new (y5 _ _ (b1 _ _ La1.dc)) hkl
    have h10 := ne_new (y5 _ _ (b1 _ _ La1.ls)) hkl
    have h11 := ne_new (x5 _ _ c0) hkl
    have h12 := ne_new c1 hkl
    have h13 := ne_new (y6 _ _ (b0 _ _ La0.dc)) hp
    have h14 := ne_new (y6 _ _ (b0 _ _ La0.ls)) hp
    have h15 := ne_new (y6 _ _ (b1 _ _ La1.dc)) hp
    have h16 := ne_new (y6 _ _ (b1 _ _ La1.ls)) hp
    have h17 := ne_new ((x5.trans x6) _ _ c0) hp
    have h18 := ne_new (x6 _ _ c1) hp
    have wf : WfK [] := fun k h => absurd h List.not_mem_nil
    refine ⟨⟨[], La0.ex ((b0.trans y6).trans x7)⟩, ⟨[], ((x5.trans x6).trans x7) _ _ c0, .nil⟩, ⟨wf, Nat.le_refl _, Nat.le_refl _, List.nodup_nil⟩, ⟨[], La1.ex ((b1.trans y6).trans x7)⟩, ⟨[], (x6.trans x7) _ _ c1, .nil⟩, ⟨wf, Nat.le_refl _, List.nodup_nil⟩, ⟨⟨Ne.symm a1, Ne.symm a2⟩, Ne.symm a7, Ne.symm a8⟩, fun x hx => ?_, fun x hx => ?_, fun x hx => ?_, e6.trans x7⟩
    · simp only [List.mem_cons, List.not_mem_nil, or_false] at hx
      rcases hx with rfl | rfl | rfl
      · simp [g1, g2, a5]
      · simp [g3, g4, a6]
      · simp [Ne.symm a3, Ne.symm a4, a9]
    · simp only [List.mem_cons, List.not_mem_nil, or_false] at hx
      rcases hx with rfl | rfl | rfl
      · simp [Ne.symm h13, Ne.symm h14, Ne.symm h15, Ne.symm h16, Ne.symm h17, Ne.symm h18]
      · simp [Ne.symm h7, Ne.symm h8, Ne.symm h9, Ne.symm h10, Ne.symm h11, Ne.symm h12]
      · simp [Ne.symm h1, Ne.symm h2, Ne.symm h3, Ne.symm h4, h5, h6]
    · simp only [List.mem_cons, List.not_mem_nil, or_false] at hx
      rcases hx with (rfl | rfl | rfl) | (rfl | rfl | rfl)
      · exact fd0
      · exact fl0
      · exact ex_free e3 hk0
      · exact ex_free e1 fd1
      · exact ex_free e1 fl1
      · exact ex_free e4 hk1
  have cL := ((((x4.trans x5).trans x6).trans x7)) _ _ cL
  have ck := x7 _ _ ck
  clear La0 La1 fL0 fd0 fl0 fL1 fd1 fl1 hLg hk0 hk1 hkl hp x2 x3 x4 x5 x6 x7 e1 e2 e3 e4 e5 e6 c0 c1 hs6 em
  let kept : Hp → Prop := fun H' => H' p = some (.lst (ms.map V.int)) ∧ H' Lg = some (.lst [.ref L0, .ref L1]) ∧ H' kl = some (.lst [.ref k0, .ref k1])
  have k_of : ∀ {Ha Hb : Hp}, Keeps [p, kl, Lg] Ha Hb → kept Ha → kept Hb := fun {Ha Hb} k h => ⟨k _ _ (by simp) h.1, k _ _ (by simp) h.2.1, k _ _ (by simp) h.2.2⟩
  have k_ex : ∀ {Ha Hb : Hp}, Ex Ha Hb → kept Ha → kept Hb := fun {Ha Hb} k h => ⟨k _ _ h.1, k _ _ h.2.1, k _ _ h.2.2⟩
  have K7 : kept H7 := ⟨cp, cL, ck⟩
  refine w_iLv (sql cp) (lb_list (K := K) (xs := ms.map V.int) (fun i σ H' => (∃ v3 v4 v5 v6 v7 v8 v9, σ = [some (.ref s), some (.ref Lg), some (.ref kl), v3, v4, v5, v6, v7, v8, v9]) ∧ kept H' ∧
      ∃ t0 t1, LS c H H' [p, kl, Lg] ⟨L0, d0, l0, k0⟩ ⟨L1, d1, l1, k1⟩ t0 t0 t1 i) ⟨⟨_, _, _, _, _, _, _, rfl⟩, K7, _, _, S⟩ (fun i σ H' _ h => sql h.2.1.1) ?_ ?_)
  · clear S cp cL ck K7
    rintro i y σ H8 hi ⟨⟨v3, v4, v5, v6, v7, v8, v9, rfl⟩, K8, t0, t1, S0⟩
    obtain ⟨m, hm1, rfl⟩ := get_map hi
    have hi63 := get_lt hm1
    obtain ⟨x1, x2, ta, tb, iL, ik, S, fin⟩ : ∃ (x1 x2 : LR) (ta tb : List MK), atI [V.ref L0, V.ref L1] (m % 2) = some (.ref x1.L) ∧ atI [V.ref k0, V.ref k1] (m % 2) = some (.ref x1.k) ∧ LS c H H8 [p, kl, Lg] x1 x2 ta ta tb i ∧
        ∀ H' ta' n', LS c H H' [p, kl, Lg] x1 x2 ta' ta' tb n' → ∃ t0 t1, LS c H H' [p, kl, Lg] ⟨L0, d0, l0, k0⟩ ⟨L1, d1, l1, k1⟩ t0 t0 t1 n' := by
      have r2 : m % 2 = 0 ∨ m % 2 = 1 := by omega
      rcases r2 with e | e
      · exact ⟨_, _, t0, t1, by rw [e]; rfl, by rw [e]; rfl, S0, fun H' ta' n' S => ⟨_, _, S⟩⟩
      · exact ⟨_, _, t1, t0, by rw [e]; rfl, by rw [e]; rfl, S0.swap, fun H' ta' n' S => ⟨_, _, S.swap⟩⟩
    clear S0
    walk_at "s"
    refine w_ixL (sql K8.2.2) ik ?_
    walk_at "s"
    -- a thing is drawn
    refine w_cut (Mid := fun σ' H' => Ex H8 H' ∧ ∃ v k, KeyFor [x1.d, x1.l, x1.k] H' ta k v ∧ σ' = [some (.ref s), some (.ref Lg), some (.ref kl), some (.int m), some (.int (m % 2)), some (.ref x1.k), some v, v7, v8, v9]) ?_ ?_
    · walk_at "s"
      obtain ⟨ys, hk, pr⟩ := S.ka
      have w := S.wa
      refine ⟨x1.k, _, ta, ys, rfl, hk, pr, w.1, w.2.2.2, by omega, fun H' a i j e fa ha hi hj => ?_, fun H' z e gz => ?_⟩
      · walk_at "s"
        refine ⟨e, _, _, .inr ⟨a, i, j, rfl, rfl, fun z => ?_, ha, hi, hj⟩, rfl⟩
        obtain ⟨xs, La⟩ := S.la
        rcases List.mem_cons.mp z with r | z
        · exact ne_new La.dc fa r.symm
        rcases List.mem_cons.mp z with r | z
        · exact ne_new La.ls fa r.symm
        · exact ne_new hk fa (List.mem_singleton.mp z).symm
      · walk_at "s"
        exact ⟨e, _, _, .inl ⟨z, rfl, rfl, gz⟩, rfl⟩
    rintro σ H9 ⟨e9, v, k, kf, rfl⟩
    have S := S.mono e9
    have K9 := k_ex e9 K8
    clear e9 K8
    walk_at "s"
    refine w_cut (Mid := fun σ' H' => Ex H9 H' ∧ ∃ v u, ((u = .non ∧ ∃ k, KeyFor [x1.d, x1.l, x1.k] H' ta k v) ∨ ∃ nm, u = .str nm ∧ BadFor K H' ta.length v nm) ∧ σ' = [some (.ref s), some (.ref Lg), some (.ref kl), some (.int m), some (.int (m % 2)), some (.ref x1.k), some v, some u, v8, v9]) ?_ ?_
    · walk_at "s"
      refine ite_d (fun h0 => ?_) fun h0 => ?_
      · obtain ⟨ys, hk, pr⟩ := S.ka
        have hl : ta.length = ys.length := Paired.length pr
        walk_at "s"
        refine ⟨m, 9, rfl, fun r _ => ?_⟩
        walk_at "s"
        refine w_lenL (sql hk) ?_
        rw [← hl]
        walk_at "s"
        refine ⟨_, ta.length, rfl, fun H' t w e ht bad => ?_, fun H' t a x y e ht ha fx fy no => ?_⟩
        · refine w_gTup (sqt ht) rfl ?_
          walk_at "s"
          exact ⟨e, _, _, .inr ⟨_, rfl, .inl ⟨rfl, bad⟩⟩, rfl⟩
        · refine w_gTup (sqt ht) rfl ?_
          walk_at "s"
          exact ⟨e, _, _, .inr ⟨_, rfl, .inr ⟨rfl, a, x, y, rfl, ha, fx, fy, no⟩⟩, rfl⟩
      · walk_at "s"
        exact ⟨ex_refl, _, _, .inl ⟨rfl, k, kf⟩, rfl⟩
    clear kf k v
    rintro σ H10 ⟨e10, v, u, kind, rfl⟩
    have S := S.mono e10
    have K10 := k_ex e10 K9
    clear e10 K9
    obtain ⟨xs, La⟩ := S.la
    have w := S.wa
    -- asked
    refine w_cut (Mid := fun σ' H' => kept H' ∧ ((∃ k f, u = .non ∧ KeyFor [x1.d, x1.l, x1.k] H' ta k v ∧ f = .int (num (ask ta k) k : Nat) ∧ LS c H H' [p, kl, Lg] x1 x2 (ask ta k) ta tb (i + 1) ∧
          σ' = [some (.ref s), some (.ref Lg), some (.ref kl), some (.int m), some (.int (m % 2)), some (.ref x1.k), some v, some u, some f, v9]) ∨
        ∃ nm t, (nm = "NoRow" ∨ nm = "NoSum") ∧ u = .str nm ∧ H' t = some (.tup [.str nm]) ∧ LS c H H' [p, kl, Lg] x1 x2 ta ta tb i ∧ σ' = [some (.ref s), some (.ref Lg), some (.ref kl), some (.int m), some (.int (m % 2)), some (.ref x1.k), some v, some u, some (.ref t), v9])) ?_ ?_
    · walk_at "s"
      refine w_ixL (sql K10.2.1) iL ?_
      walk_at "s"
      have al : ∀ k, (ask ta k).length ≤ i + 1 := fun k => by have := ask_len ta k; omega
      rcases kind with ⟨rfl, k, kf⟩ | ⟨nm, rfl, ⟨rfl, bad⟩ | ⟨rfl, a, x, y, rfl, ha, fx, fy, no⟩⟩
      · rcases kf with ⟨z, rfl, rfl, gz⟩ | ⟨q, a, b, rfl, rfl, nf, hq, ha, hb⟩
        · refine ⟨x1.L, x1.d, x1.l, ta, xs, .str z, rfl, La, by omega, .inr ⟨rowV_good gz, ⟨"str", tyS, by decide +kernel⟩, fun z' e _ H' xs' L' kp => ?_, fun n => absurd ⟨z, rfl, gz⟩ n⟩⟩
          cases e
          obtain ⟨kk, S'⟩ := S.asked T L' kp (al _) (Nat.le_succ i)
          walk_at "s"
          exact ⟨k_of kk K10, .inl ⟨_, _, rfl, .inl ⟨z, rfl, rfl, gz⟩, rfl, S', rfl⟩⟩
        · refine ⟨x1.L, x1.d, x1.l, ta, xs, .ref q, rfl, La, by omega, .inl ⟨q, _, _, true, true, rfl, sql hq, .inl ⟨_, rfl, rfl⟩, .inl ⟨_, rfl, rfl⟩, fun a' b' ea eb _ _ H' xs' L' kp => ?_, fun n => absurd ⟨⟨a, rfl, ha⟩, ⟨b, rfl, hb⟩⟩ n⟩⟩
          have ea : a' = a := by have := V.int.inj ea; omega
          have eb : b' = b := by have := V.int.inj eb; omega
          subst ea eb
          obtain ⟨kk, S'⟩ := S.asked T L' kp (al _) (Nat.le_succ i)
          have nq : q ∉ [x1.d, x1.l] := fun z => nf (by
            rcases List.mem_cons.mp z with e | e
            · rw [e]; simp
            · rw [List.mem_singleton.mp e]; simp)
          walk_at "s"
          exact ⟨k_of kk K10, .inl ⟨_, _, rfl, .inr ⟨q, _, _, rfl, rfl, nf, kp _ _ hq nq, ha, hb⟩, rfl, S', rfl⟩⟩
      · refine ⟨x1.L, x1.d, x1.l, ta, xs, v, rfl, La, by omega, .inr ⟨bad.rv, bad.ty, fun z e g => absurd ⟨z, e, g⟩ bad.no, fun _ H' t e ht0 ht => ?_⟩⟩
        walk_at "s"
        exact ⟨k_ex e K10, .inr ⟨_, t, .inl rfl, rfl, ht, S.mono e, rfl⟩⟩
      · obtain ⟨b, hb⟩ := fx H10
        obtain ⟨b', hb'⟩ := fy H10
        refine ⟨x1.L, x1.d, x1.l, ta, xs, .ref a, rfl, La, by omega, .inl ⟨a, x, y, b, b', rfl, sql ha, hb, hb', fun i' j' e1 e2 h1 h2 => absurd ⟨⟨i', e1, h1⟩, ⟨j', e2, h2⟩⟩ no, fun _ H' t e ht0 ht => ?_⟩⟩
        walk_at "s"
        exact ⟨k_ex e K10, .inr ⟨_, t, .inr rfl, rfl, ht, S.mono e, rfl⟩⟩
    clear kind La w xs S K10
    rintro σ H11 ⟨K11, kind⟩
    refine w_cut (Mid := fun σ' H' => (∃ v6 v7 v8 v9, σ' = [some (.ref s), some (.ref Lg), some (.ref kl), some (.int m), some (.int (m % 2)), some (.ref x1.k), v6, v7, v8, v9]) ∧ kept H' ∧ ∃ ta', LS c H H' [p, kl, Lg] x1 x2 ta' ta' tb (i + 1)) ?_ ?_
    · rcases kind with ⟨k, f, rfl, kf, rfl, S, rfl⟩ | ⟨nm, t, hnm, rfl, ht, S, rfl⟩
      · walk_at "s"
        refine ite_nd (fun h => absurd rfl h) fun _ => ?_
        walk_at "s"
        refine w_cut (Mid := fun σ' H' => Ex H11 H' ∧ ∃ w, KeyV H' k w ∧ σ' = [some (.ref s), some (.ref Lg), some (.ref kl), some (.int m), some (.int (m % 2)), some (.ref x1.k), some v, some .non, some (.int (num (ask ta k) k : Nat)), some w]) ?_ ?_
        · walk_at "s"
          rcases kf with ⟨z, rfl, rfl, gz⟩ | ⟨q, a, b, rfl, rfl, nf, hq, ha, hb⟩
          · refine isi_ty (b := false) tyS (by decide +kernel) ?_
            walk_at "s"
            refine iteF ?_
            walk_at "s"
            exact ⟨ex_refl, _, rfl, rfl⟩
          · refine isi_ty (b := true) (ty_sql (sql hq)) (by decide +kernel) ?_
            walk_at "s"
            refine iteT ?_
            walk_at "s"
            refine w_ixL (v := .int (a : Nat)) (sql hq) rfl ?_
            walk_at "s"
            refine w_ixL (v := .int (b : Nat)) (sql hq) rfl ?_
            walk_at "s"
            refine ⟨by show 2 ≤ sizeLine; exact sz100 (by decide), fun t ht => ?_⟩
            exact ⟨ex_new ex_refl ht, _, ⟨t, rfl, upd_same⟩, rfl⟩
        rintro σ H12 ⟨e12, w, kv, rfl⟩
        have S := S.mono e12
        have K12 := k_ex e12 K11
        have kg := kf.good
        have wfk := kf.wf S.wa.1
        clear e12 K11 kf
        refine w_cut (Mid := fun σ' H' => kept H' ∧ KeyV H' k w ∧ LS c H H' [p, kl, Lg] x1 x2 (ask ta k) (ask ta k) tb (i + 1) ∧ σ' = [some (.ref s), some (.ref Lg), some (.ref kl), some (.int m), some (.int (m % 2)), some (.ref x1.k), some v, some .non, some (.int (num (ask ta k) k : Nat)), some w]) ?_ ?_
        · obtain ⟨ys, hk, pr⟩ := S.ka
          obtain ⟨w1, w2, w3, w4⟩ := S.wa
          obtain ⟨xsA, LaA⟩ := S.la
          walk_at "s"
          refine notin_at hk pr w1.good kg kv ?_
          walk_at "s"
          refine ite_nd (fun h => ?_) fun h => ?_
          · walk_at "s"
            refine ⟨w_tyL (sql hk), ?_⟩
            walk_at "s"
            have hl : ta.length = ys.length := Paired.length pr
            refine w_app hk (szL (by omega)) ?_
            have ea : ask ta k = ta ++ [k] := by unfold ask; rw [if_neg h]
            have nd := LaA.nd
            rw [ea] at S w3 nd ⊢
            obtain ⟨kk, S'⟩ := S.push hk kv (by rw [← ea]; exact wfk) nd w3
            exact ⟨k_of kk K12, (Kp.refl.set (S := [x1.k]) (by simp)).keyV kv (soft_one hk).notTup, S', rfl⟩
          · walk_at "s"
            have h : k ∈ ta := h
            have ea : ask ta k = ta := by unfold ask; rw [if_pos h]
            rw [ea] at S ⊢
            exact ⟨K12, kv, S, rfl⟩
        clear S K12 kv
        rintro σ H13 ⟨K13, kv, S, rfl⟩
        obtain ⟨ys, hk, pr⟩ := S.ka
        obtain ⟨w1, w2, w3, w4⟩ := S.wa
        obtain ⟨xsA, LaA⟩ := S.la
        have hl : (ask ta k).length = ys.length := Paired.length pr
        walk_at "s"
        refine whole_int ?_
        walk_at "s"
        refine iteF ?_
        walk_at "s"
        refine ⟨w_tyL (sql hk), ?_⟩
        walk_at "s"
        refine index_at hk pr w1.good w4 (ask_mem ta k) kv ?_
        walk_at "s"
        rw [decide_eq_true rfl]
        refine iteF ?_
        walk_at "s"
        refine w_lenL (sql hk) ?_
        rw [← hl]
        walk_at "s"
        refine ite_d (fun h => ?_) fun h => ?_
        · walk_at "s"
          refine w_ixL (sql K13.2.1) iL ?_
          walk_at "s"
          refine w_lenL (sql hk) ?_
          rw [← hl]
          walk_at "s"
          refine ⟨by show 2 ≤ sizeLine; exact sz100 (by decide), fun a ha => ?_⟩
          have x14 := ex_new (o := .lst [.int ((ask ta k).length : Nat), .int 0]) ex_refl ha
          have ca : (upd H13 a (.lst [.int ((ask ta k).length : Nat), .int 0])) a = some (.lst [.int ((ask ta k).length : Nat), .int 0]) := upd_same
          generalize upd H13 a (.lst [.int ((ask ta k).length : Nat), .int 0]) = H14 at x14 ca
          walk_at "s"
          refine ⟨x1.L, x1.d, x1.l, ask ta k, xsA, .ref a, rfl, LaA.ex x14, by omega, .inl ⟨a, _, _, true, true, rfl, sql ca, .inl ⟨_, rfl, rfl⟩, .inl ⟨_, rfl, rfl⟩, fun i' j' ei _ hi' _ => absurd (V.int.inj ei) (by omega), fun _ H15 t e15 _ ht => ?_⟩⟩
          walk_at "s"
          refine ⟨by show 1 ≤ sizeLine; exact sz100 (by decide), fun t2 ht2 => ?_⟩
          have x16 := ex_new (o := .tup [.str "NoSum"]) ex_refl ht2
          have e16 := (x14.trans e15).trans x16
          have dt : ∀ {H' : Hp} {t : Addr}, H' t = some (.tup [.str "NoSum"]) → Dp K H' (.ref t) (.tuple [.str "NoSum"]) := fun h => .tup (sqt h) (.cons (.str _) .nil)
          refine w_neD (dt (x16 _ _ ht)) (dt upd_same) (by decide +kernel) (by decide +kernel) ?_
          rw [show PyData.eqv (.tuple [.str "NoSum"]) (.tuple [.str "NoSum"]) = true from by decide +kernel]
          walk_at "s"
          refine iteF ?_
          walk_at "s"
          exact ⟨⟨_, _, _, _, rfl⟩, k_ex e16 K13, _, S.mono e16⟩
        · refine iteF ?_
          walk_at "s"
          exact ⟨⟨_, _, _, _, rfl⟩, K13, _, S⟩
      · walk_at "s"
        refine ite_nd (fun _ => ?_) fun h => nomatch h
        walk_at "s"
        refine ⟨by show 1 ≤ sizeLine; exact sz100 (by decide), fun t2 ht2 => ?_⟩
        have x12 := ex_new (o := .tup [.str nm]) ex_refl ht2
        have dt : ∀ {H' : Hp} {t : Addr}, H' t = some (.tup [.str nm]) → Dp K H' (.ref t) (.tuple [.str nm]) := fun h => .tup (sqt h) (.cons (.str _) .nil)
        have sh : SeqAt.shaped (.tuple [.str nm]) = true := by rcases hnm with rfl | rfl <;> decide +kernel
        have ev : PyData.eqv (.tuple [.str nm]) (.tuple [.str nm]) = true := by rcases hnm with rfl | rfl <;> decide +kernel
        refine w_neD (dt (x12 _ _ ht)) (dt upd_same) sh sh ?_
        rw [ev]
        walk_at "s"
        refine iteF ?_
        walk_at "s"
        exact ⟨⟨_, _, _, _, rfl⟩, k_ex x12 K11, _, (S.mono x12).wide (Nat.le_succ i)⟩
    clear kind K11
    rintro σ H14 ⟨⟨v6, v7, v8, v9, rfl⟩, K14, ta', S'⟩
    obtain ⟨t0, t1, S⟩ := fin _ _ _ S'
    clear S' fin
    obtain ⟨xs0, La0⟩ := S.la
    obtain ⟨ys0, hk0, pr0⟩ := S.ka
    obtain ⟨xs1, La1⟩ := S.lb
    obtain ⟨ys1, hk1, pr1⟩ := S.kb
    have w0 := S.wa
    have w1 := S.wb
    walk_at "s"
    refine w_ixL (v := .ref L0) (sql K14.2.1) rfl ?_
    walk_at "s"
    refine w_ixL (v := .ref k0) (sql K14.2.2) rfl ?_
    walk_at "s"
    refine ⟨L0, d0, l0, k0, m, t0, xs0, ys0, rfl, La0, hk0, pr0, w0.1.good, by omega, fun H15 e15 => ?_⟩
    walk_at "s"
    refine iteF ?_
    walk_at "s"
    refine w_ixL (v := .ref L1) (sql (e15 _ _ K14.2.1)) rfl ?_
    walk_at "s"
    refine w_ixL (v := .ref k1) (sql (e15 _ _ K14.2.2)) rfl ?_
    walk_at "s"
    refine ⟨L1, d1, l1, k1, m, t1, xs1, ys1, rfl, La1.ex e15, e15 _ _ hk1, paired_imp pr1 fun _ _ q => keyV_ex e15 q, w1.1.good, by omega, fun H16 e16 => ?_⟩
    walk_at "s"
    refine iteF ?_
    walk_at "s"
    exact ⟨⟨_, _, _, _, _, _, _, rfl⟩, k_ex (e15.trans e16) K14, t0, t1, S.mono (e15.trans e16)⟩
  · rintro σ H8 ⟨⟨v3, v4, v5, v6, v7, v8, v9, rfl⟩, _⟩
    walk_at "s"
    exact q _
end Tw

namespace Tw
open PySem PySem.Spec PyProof.Rows L2 Ts
def topS (i : Nat) : Stmt := PySem.Challenge.pw_twinsum_k02_ledger_gives.main.body.getD i (.Pass ⟨0, 0, 0, 0⟩)
structure BM (mg : Str → Option Value) : Prop where
  ValueError : mg "ValueError" = none
  bool : mg "bool" = none
  int : mg "int" = none
  isinstance : mg "isinstance" = none
  len : mg "len" = none
  list : mg "list" = none
  min : mg "min" = none
  range : mg "range" = none
  str : mg "str" = none
  tuple : mg "tuple" = none
  MOST_SIGNS : ∃ t, mg "MOST_SIGNS" = some (.int 40 t)
  SIGNS : ∃ t, mg "SIGNS" = some (.str "abcdefghijklmnopqrstuvwxyz0123456789 " t)
section
variable {P : Program} {w : World} {K : PySem.W.Frag} {mg : Str → Option Value} {base : Heap} {c : Cs}
abbrev s_Ledger_init : Stmt := inClass (topS 14) 0
theorem sc_Ledger_init : FnScope N_Ledger_init ["self"] (defScope s_Ledger_init) := ⟨rfl, rfl, rfl, by decide +kernel, rfl, by decide +kernel, by decide +kernel⟩
theorem ok_Ledger_init (M : BM mg) (T : TxK K c) (F : IniG K mg c.Ledger "Ledger" "Ledger.__init__" s_Ledger_init ["self"]) (D : c.md = MD P w) : MkG P w K mg base 1 c.Ledger "Ledger" ["self"] (sp_Ledger_init K c) := by
  refine F.ok sc_Ledger_init len_Ledger_init (fun f cdv A outer s H vs Q E hr h => ⟨t_Ledger_init K c E, ?_, pure_Ledger_init T h⟩)
  exact (pss_cons (ps_fld (pv 0) (pe_mnew D) rfl)
  (pss_one (ps_fld (pv 0) (pe_lst pa_nil) rfl)))
abbrev s_law_mix : Stmt := topS 18
theorem sc_law_mix : FnScope N_law_mix ["_law_number", "_law_k"] (defScope s_law_mix) := ⟨rfl, rfl, rfl, by decide +kernel, rfl, by decide +kernel, by decide +kernel⟩
theorem ok_law_mix (M : BM mg) (T : TxK K c) (F : FunG K mg "_law_mix" s_law_mix ["_law_number", "_law_k"]) (D : c.md = MD P w) : FnG P w K mg base 1 "_law_mix" ["_law_number", "_law_k"] (sp_law_mix K c) := by
  refine F.ok sc_law_mix len_law_mix (fun f cdv A outer s H vs Q E hr h => ⟨t_law_mix K c E, ?_, pure_law_mix h⟩)
  exact (pss_cons (ps_set (i := 2) sc_law_mix.nd rfl (Or.inl rfl) (pe_op op_mod1 (pe_op op_addU (pe_op op_addU (pe_op op_mul1 (pv 0) pe_int) (pe_op op_mul1 (pv 1) pe_int)) pe_int) pe_int))
  (pss_one (ps_ret (pe_op op_mod1 (pe_op op_addU (pe_op op_addU (pe_op op_mul1 (pv 2) (pv 2)) (pe_op op_mul1 pe_int (pv 2))) (pv 1)) pe_int))))
abbrev s_law_text : Stmt := topS 19
theorem sc_law_text : FnScope N_law_text ["_law_cell"] (defScope s_law_text) := ⟨rfl, rfl, rfl, by decide +kernel, rfl, by decide +kernel, by decide +kernel⟩
theorem ok_law_text (M : BM mg) (T : TxK K c) (F : FunG K mg "_law_text" s_law_text ["_law_cell"]) (D : c.md = MD P w) (G_law_mix : FnG P w K mg base 1 "_law_mix" ["_law_number", "_law_k"] (sp_law_mix K c)) : FnG P w K mg base 2 "_law_text" ["_law_cell"] (sp_law_text K c) := by
  refine F.ok sc_law_text len_law_text (fun f cdv A outer s H vs Q E hr h => ⟨t_law_text K c E, ?_, pure_law_text h⟩)
  exact (pss_cons (ps_set (i := 1) sc_law_text.nd rfl (Or.inl rfl) pe_str)
  (pss_cons (ps_set (i := 2) sc_law_text.nd rfl (Or.inl rfl) (pe_op op_mod1 (pv 0) pe_int))
  (pss_cons (ps_if (pt_cmpR (op_eqU hr.units) (pe_op op_mod1 (pe_op op_div1 (pv 0) pe_int) pe_int) pe_int (nomark _)) (pss_one (ps_ret (pe_op op_addU (pe_op op_addU (pe_callTy call_str1 (by rfl) M.str (by decide +kernel) (pa_cons (pe_op op_mod1 (pe_op op_div1 (pv 0) pe_int) pe_int) pa_nil)) (pe_ix ix_seq (pe_lst (pa_cons pe_str (pa_cons pe_str pa_nil))) (pe_op op_mod1 (pe_op op_div1 (pv 0) pe_int) pe_int) (fun _ _ => rfl))) (pe_callTy call_str1 (by rfl) M.str (by decide +kernel) (pa_cons (pe_op op_mod1 (pe_op op_div1 (pv 0) pe_int) pe_int) pa_nil))))) pss_nil)
  (Evl.pss_cut (ps_if (pt_cmpR (op_eqU hr.units) (pe_op op_mod1 (pe_op op_div1 (pv 0) pe_int) pe_int) pe_int (nomark _)) (pss_one (ps_set (i := 2) sc_law_text.nd rfl (Or.inl rfl) (pe_ix ix_seq (pe_lst (pa_cons pe_int (pa_cons pe_int (pa_cons pe_int (pa_cons pe_int pa_nil))))) (pe_op op_mod1 (pe_op op_div1 (pv 0) pe_int) pe_int) (fun _ _ => rfl)))) pss_nil) (pss_cons (ps_set (i := 3) sc_law_text.nd rfl (Or.inl rfl) pe_str)
  (pss_cons (ps_for (passes_of rfl) rfl (pi_range1 (by rfl) M.range (pa_cons (pv 2) pa_nil)) (pg_name (i := 4) sc_law_text.nd rfl (Or.inl rfl)) (pss_one (ps_set (i := 3) sc_law_text.nd rfl (Or.inl rfl) (pe_op op_addU (pv 3) (pe_ix ix_seq (pv 1) (pe_op op_mod1 (pe_op op_div1 (pe_callG (E := E0) G_law_mix (hr.mono (by decide)) passL (by exact (pa_cons (pv 0) (pa_cons (pv 4) pa_nil)))) pe_int) pe_int) (fun _ _ => rfl))))))
  (pss_one (ps_ret (pv 3)))))))))
abbrev s_law_near : Stmt := topS 20
theorem sc_law_near : FnScope N_law_near ["_law_text_here", "_law_cell"] (defScope s_law_near) := ⟨rfl, rfl, rfl, by decide +kernel, rfl, by decide +kernel, by decide +kernel⟩
theorem ok_law_near (M : BM mg) (T : TxK K c) (F : FunG K mg "_law_near" s_law_near ["_law_text_here", "_law_cell"]) (D : c.md = MD P w) : FnG P w K mg base 1 "_law_near" ["_law_text_here", "_law_cell"] (sp_law_near K c) := by
  refine F.ok sc_law_near len_law_near (fun f cdv A outer s H vs Q E hr h => ⟨t_law_near K c E, ?_, pure_law_near h⟩)
  exact (pss_cons (ps_set (i := 2) sc_law_near.nd rfl (Or.inl rfl) (pe_op op_mod1 (pv 1) (pe_op op_addU pe_int (pe_callB call_len1 (by rfl) M.len (by decide +kernel) (pa_cons (pv 0) pa_nil)))))
  (pss_cons (ps_set (i := 3) sc_law_near.nd rfl (Or.inl rfl) (pe_ix ix_seq pe_str (pe_op op_mod1 (pe_op op_div1 (pv 1) pe_int) pe_int) (fun _ _ => rfl)))
  (pss_cons (ps_if (PW.pt (pw_and (pt_cmpR op_lt1 (pv 2) (pe_callB call_len1 (by rfl) M.len (by decide +kernel) (pa_cons (pv 0) pa_nil)) (nomark _)) (pw_and1 (pt_cmpR (op_neU hr.units) (pe_ix ix_seq (pv 0) (pv 2) (fun _ _ => rfl)) (pv 3) (nomark _))))) (pss_one (ps_ret (pe_op op_addU (pe_op op_addU (pe_slice sl_U (pv 0) po_none (po_some (pv 2))) (pv 3)) (pe_slice sl_U (pv 0) (po_some (pe_op op_addU (pv 2) pe_int)) po_none)))) pss_nil)
  (pss_cons (ps_if (pt_cmpR op_lt1 (pe_callB call_len1 (by rfl) M.len (by decide +kernel) (pa_cons (pv 0) pa_nil)) pe_int (nomark _)) (pss_one (ps_ret (pe_op op_addU (pe_op op_addU (pe_slice sl_U (pv 0) po_none (po_some (pv 2))) (pv 3)) (pe_slice sl_U (pv 0) (po_some (pv 2)) po_none)))) pss_nil)
  (pss_one (ps_ret (pe_slice sl_U (pv 0) (po_some pe_int) po_none)))))))
abbrev s_law_thing : Stmt := topS 25
theorem sc_law_thing : FnScope N_law_thing ["_law_things", "_law_cell"] (defScope s_law_thing) := ⟨rfl, rfl, rfl, by decide +kernel, rfl, by decide +kernel, by decide +kernel⟩
theorem ok_law_thing (M : BM mg) (T : TxK K c) (F : FunG K mg "_law_thing" s_law_thing ["_law_things", "_law_cell"]) (D : c.md = MD P w) (G_law_text : FnG P w K mg base 2 "_law_text" ["_law_cell"] (sp_law_text K c)) (G_law_near : FnG P w K mg base 1 "_law_near" ["_law_text_here", "_law_cell"] (sp_law_near K c)) (G_law_mix : FnG P w K mg base 1 "_law_mix" ["_law_number", "_law_k"] (sp_law_mix K c)) : FnG P w K mg base 3 "_law_thing" ["_law_things", "_law_cell"] (sp_law_thing K c) := by
  refine F.ok sc_law_thing len_law_thing (fun f cdv A outer s H vs Q E hr h => ⟨t_law_thing K c E, ?_, pure_law_thing h⟩)
  exact (pss_cons (ps_set (i := 2) sc_law_thing.nd rfl (Or.inl rfl) (pe_callB call_len1 (by rfl) M.len (by decide +kernel) (pa_cons (pv 0) pa_nil)))
  (pss_cons (ps_if (PW.pt (pw_and (pt_cmpR (op_eqU hr.units) (pe_op op_mod1 (pv 1) pe_int) pe_int (nomark _)) (pw_and1 (pt_cmpR op_gt1 (pv 2) pe_int (nomark _))))) (pss_cons (ps_set (i := 3) sc_law_thing.nd rfl (Or.inl rfl) (pe_op op_mod1 (pe_callG (E := E0) G_law_mix (hr.mono (by decide)) passL (by exact (pa_cons (pv 1) (pa_cons pe_int pa_nil)))) (pv 2)))
  (pss_cons (ps_set (i := 4) sc_law_thing.nd rfl (Or.inl rfl) (pe_ix ix_seq (pe_lst (pa_cons (pv 3) (pa_cons (pe_op op_mod1 (pe_callG (E := E0) G_law_mix (hr.mono (by decide)) passL (by exact (pa_cons (pv 1) (pa_cons pe_int pa_nil)))) (pv 2)) (pa_cons (pe_op op_sub1 (pv 2) pe_int) pa_nil)))) (pe_op op_mod1 (pe_callG (E := E0) G_law_mix (hr.mono (by decide)) passL (by exact (pa_cons (pv 1) (pa_cons pe_int pa_nil)))) pe_int) (fun _ _ => rfl)))
  (pss_one (ps_ret (pe_lst (pa_cons (pv 3) (pa_cons (pv 4) pa_nil))))))) pss_nil)
  (pss_cons (ps_if (PW.pt (pw_and (pt_cmpR (op_eqU hr.units) (pe_op op_mod1 (pv 1) pe_int) pe_int (nomark _)) (pw_and1 (pt_cmpR op_gt1 (pv 2) pe_int (nomark _))))) (pss_cons (ps_set (i := 5) sc_law_thing.nd rfl (Or.inl rfl) (pe_ix ix_seq (pv 0) (pe_op op_mod1 (pe_callG (E := E0) G_law_mix (hr.mono (by decide)) passL (by exact (pa_cons (pv 1) (pa_cons pe_int pa_nil)))) (pv 2)) (fun _ _ => rfl)))
  (pss_cons (ps_if (PW.pt (pw_and (pt_val (pe_callB call_isi (by rfl) M.isinstance (by decide +kernel) (pa_cons (pv 5) (pa_cons (pe_bltn (v := .ty "tuple") (by rfl) M.tuple (by decide +kernel) rfl) pa_nil)))) (pw_and1 (pt_cmpR (op_eqU hr.units) (pe_op op_mod1 (pe_op op_div1 (pv 1) pe_int) pe_int) pe_int (nomark _))))) (pss_cons (ps_set (i := 6) sc_law_thing.nd rfl (Or.inl rfl) (pe_ix ix_seq (pe_lst (pa_cons pe_str (pa_cons pe_str (pa_cons pe_str (pa_cons pe_str (pa_cons pe_str (pa_cons pe_str pa_nil))))))) (pe_op op_mod1 (pe_op op_div1 (pv 1) pe_int) pe_int) (fun _ _ => rfl)))
  (pss_one (ps_ret (pe_op op_addU (pe_op op_addU (pe_op op_addU (pe_ix ix_seq (pe_lst (pa_cons pe_str (pa_cons pe_str (pa_cons pe_str pa_nil)))) (pe_op op_mod1 (pe_op op_div1 (pv 1) pe_int) pe_int) (fun _ _ => rfl)) (pe_callTy call_str1 (by rfl) M.str (by decide +kernel) (pa_cons (pe_ix ix_seq (pv 5) pe_int (fun _ _ => rfl)) pa_nil))) (pv 6)) (pe_callTy call_str1 (by rfl) M.str (by decide +kernel) (pa_cons (pe_ix ix_seq (pv 5) pe_int (fun _ _ => rfl)) pa_nil)))))) pss_nil)
  (pss_cons (ps_if (pt_val (pe_callB call_isi (by rfl) M.isinstance (by decide +kernel) (pa_cons (pv 5) (pa_cons (pe_bltn (v := .ty "tuple") (by rfl) M.tuple (by decide +kernel) rfl) pa_nil)))) (pss_one (ps_ret (pe_lst (pa_cons (pe_ix ix_seq (pv 5) (pe_op op_mod1 (pe_op op_div1 (pv 1) pe_int) pe_int) (fun _ _ => rfl)) (pa_cons (pe_ix ix_seq (pv 5) (pe_op op_sub1 pe_int (pe_op op_mod1 (pe_op op_div1 (pv 1) pe_int) pe_int)) (fun _ _ => rfl)) pa_nil))))) pss_nil)
  (pss_cons (ps_if (pt_cmpR (op_eqU hr.units) (pe_op op_mod1 (pe_op op_div1 (pv 1) pe_int) pe_int) pe_int (nomark _)) (pss_one (ps_ret (pe_callTy call_str1 (by rfl) M.str (by decide +kernel) (pa_cons (pe_bm PySem.F.plainAttrs_list PySem.F.slot_list_index PySem.F.type_list_index (mt_indexD (units65 hr)) (pv 0) (pa_cons (pv 5) pa_nil)) pa_nil)))) pss_nil)
  (pss_one (ps_ret (pe_callG (E := E0) G_law_near (hr.mono (by decide)) passL (by exact (pa_cons (pv 5) (pa_cons (pe_callG (E := E0) G_law_mix (hr.mono (by decide)) passL (by exact (pa_cons (pv 1) (pa_cons pe_int pa_nil)))) pa_nil)))))))))) pss_nil)
  (pss_one (ps_ret (pe_callG (E := E0) G_law_text (hr.mono (by decide)) passL (by exact (pa_cons (pe_op op_mod1 (pe_callG (E := E0) G_law_mix (hr.mono (by decide)) passL (by exact (pa_cons (pv 1) (pa_cons pe_int pa_nil)))) (pe_ix ix_seq (pe_lst (pa_cons pe_int (pa_cons pe_int pa_nil))) (pe_op op_mod1 (pe_op op_div1 (pv 1) pe_int) pe_int) (fun _ _ => rfl))) pa_nil))))))))
abbrev s_is_row : Stmt := topS 12
theorem sc_is_row : FnScope N_is_row ["thing"] (defScope s_is_row) := ⟨rfl, rfl, rfl, by decide +kernel, rfl, by decide +kernel, by decide +kernel⟩
theorem ok_is_row (M : BM mg) (T : TxK K c) (F : FunG K mg "is_row" s_is_row ["thing"]) (D : c.md = MD P w) : FnG P w K mg base 1 "is_row" ["thing"] (sp_is_row K c) := by
  refine F.ok sc_is_row len_is_row (fun f cdv A outer s H vs Q E hr h => ⟨t_is_row K c E, ?_, pure_is_row h⟩)
  exact (pss_cons (ps_if (PW.pt (pw_or (pt_not (pt_val (pe_callB call_isi (by rfl) M.isinstance (by decide +kernel) (pa_cons (pv 0) (pa_cons (pe_bltn (v := .ty "str") (by rfl) M.str (by decide +kernel) rfl) pa_nil))))) (pw_or1 (pt_cmpR op_gt1 (pe_callB call_len1 (by rfl) M.len (by decide +kernel) (pa_cons (pv 0) pa_nil)) (pe_glob (by rfl) M.MOST_SIGNS.choose_spec ⟨_, rfl⟩) (nomark _))))) (pss_one (ps_ret pe_bl)) pss_nil)
  (pss_cons (ps_for (passes_of rfl) rfl (pi_str (pv 0)) (pg_name (i := 1) sc_is_row.nd rfl (Or.inl rfl)) (pss_one (ps_if (pt_cmpR op_notInS1 (pv 1) (pe_glob (by rfl) M.SIGNS.choose_spec ⟨_, rfl⟩) (by rfl)) (pss_one (ps_ret pe_bl)) pss_nil)))
  (pss_one (ps_ret pe_bl))))
abbrev s_sure_row : Stmt := topS 13
theorem sc_sure_row : FnScope N_sure_row ["thing"] (defScope s_sure_row) := ⟨rfl, rfl, rfl, by decide +kernel, rfl, by decide +kernel, by decide +kernel⟩
theorem ok_sure_row (M : BM mg) (T : TxK K c) (F : FunG K mg "sure_row" s_sure_row ["thing"]) (D : c.md = MD P w) (X_NoRow : ExcT K mg "NoRow" c.NoRow) (G_is_row : FnG P w K mg base 1 "is_row" ["thing"] (sp_is_row K c)) : FnG P w K mg base 2 "sure_row" ["thing"] (sp_sure_row K c) := by
  refine F.ok sc_sure_row len_sure_row (fun f cdv A outer s H vs Q E hr h => ⟨t_sure_row K c E, ?_, pure_sure_row h⟩)
  exact (pss_one (ps_if (pt_not (pt_val (pe_callG (E := E) G_is_row (hr.mono (by decide)) (passE (takes_of rfl rfl rfl rfl)) (by exact (pa_cons (pv 0) pa_nil))))) (pss_one (ps_raiseG X_NoRow rfl (takes_of rfl rfl rfl rfl))) pss_nil))
abbrev s_Ledger_number_of : Stmt := inClass (topS 14) 1
theorem sc_Ledger_number_of : FnScope N_Ledger_number_of ["self", "thing"] (defScope s_Ledger_number_of) := ⟨rfl, rfl, rfl, by decide +kernel, rfl, by decide +kernel, by decide +kernel⟩
theorem ok_Ledger_number_of (M : BM mg) (T : TxK K c) (F : MetG K c.Ledger "number_of" "Ledger.number_of" s_Ledger_number_of ["self", "thing"]) (D : c.md = MD P w) : MtG P w K mg base 1 c.Ledger "number_of" ["self", "thing"] (sp_Ledger_number_of K c) := by
  refine F.ok sc_Ledger_number_of len_Ledger_number_of (fun f cdv A outer s H vs Q E hr h => ⟨t_Ledger_number_of K c E, ?_, pure_Ledger_number_of T h⟩)
  exact (pss_cons (ps_if (pt_cmp (pc_mnotin D (hu_of hr) (pv 1) (pe_fld (pv 0) rfl))) (pss_cons (ps_mput D (hu_of hr) (pe_fld (pv 0) rfl) (pv 1) (pe_callB call_len1 (by rfl) M.len (by decide +kernel) (pa_cons (pe_fld (pv 0) rfl) pa_nil)) rfl)
  (pss_one (ps_expr (pe_bm PySem.F.plainAttrs_list PySem.F.slot_list_append PySem.F.type_list_append mt_append (pe_fld (pv 0) rfl) (pa_cons (pv 1) pa_nil))))) pss_nil)
  (pss_one (ps_ret (pe_mget D (hu_of hr) (pe_fld (pv 0) rfl) (pv 1) (fun _ _ => rfl)))))
abbrev s_Ledger_of_row : Stmt := inClass (topS 14) 3
theorem sc_Ledger_of_row : FnScope N_Ledger_of_row ["self", "row"] (defScope s_Ledger_of_row) := ⟨rfl, rfl, rfl, by decide +kernel, rfl, by decide +kernel, by decide +kernel⟩
theorem ok_Ledger_of_row (M : BM mg) (T : TxK K c) (F : MetG K c.Ledger "of_row" "Ledger.of_row" s_Ledger_of_row ["self", "row"]) (D : c.md = MD P w) (G_sure_row : FnG P w K mg base 2 "sure_row" ["thing"] (sp_sure_row K c)) (G_Ledger_number_of : MtG P w K mg base 1 c.Ledger "number_of" ["self", "thing"] (sp_Ledger_number_of K c)) : MtG P w K mg base 3 c.Ledger "of_row" ["self", "row"] (sp_Ledger_of_row K c) := by
  refine F.ok sc_Ledger_of_row len_Ledger_of_row (fun f cdv A outer s H vs Q E hr h => ⟨t_Ledger_of_row K c E, ?_, pure_Ledger_of_row h⟩)
  exact (pss_cons (ps_expr (pe_callG (E := E) G_sure_row (hr.mono (by decide)) (passE (takes_of rfl rfl rfl rfl)) (by exact (pa_cons (pv 1) pa_nil))))
  (pss_one (ps_ret (pe_methG (E := E) (pv 0) T.cLedger G_Ledger_number_of (hr.mono (by decide)) (passE (takes_of rfl rfl rfl rfl)) (by exact (pa_cons (pv 1) pa_nil))))))
abbrev s_is_whole : Stmt := topS 11
theorem sc_is_whole : FnScope N_is_whole ["thing"] (defScope s_is_whole) := ⟨rfl, rfl, rfl, by decide +kernel, rfl, by decide +kernel, by decide +kernel⟩
theorem ok_is_whole (M : BM mg) (T : TxK K c) (F : FunG K mg "is_whole" s_is_whole ["thing"]) (D : c.md = MD P w) : FnG P w K mg base 1 "is_whole" ["thing"] (sp_is_whole K c) := by
  refine F.ok sc_is_whole len_is_whole (fun f cdv A outer s H vs Q E hr h => ⟨t_is_whole K c E, ?_, pure_is_whole h⟩)
  exact (pss_one (ps_ret (pe_and (pe_callB call_isi (by rfl) M.isinstance (by decide +kernel) (pa_cons (pv 0) (pa_cons (pe_bltn (v := .ty "int") (by rfl) M.int (by decide +kernel) rfl) pa_nil))) (pe_one (pe_not (pe_callB call_isi (by rfl) M.isinstance (by decide +kernel) (pa_cons (pv 0) (pa_cons (pe_bltn (v := .ty "bool") (by rfl) M.bool (by decide +kernel) rfl) pa_nil))))))))
abbrev s_Ledger_sure : Stmt := inClass (topS 14) 2
theorem sc_Ledger_sure : FnScope N_Ledger_sure ["self", "number"] (defScope s_Ledger_sure) := ⟨rfl, rfl, rfl, by decide +kernel, rfl, by decide +kernel, by decide +kernel⟩
theorem ok_Ledger_sure (M : BM mg) (T : TxK K c) (F : MetG K c.Ledger "sure" "Ledger.sure" s_Ledger_sure ["self", "number"]) (D : c.md = MD P w) (X_NoSum : ExcT K mg "NoSum" c.NoSum) (G_is_whole : FnG P w K mg base 1 "is_whole" ["thing"] (sp_is_whole K c)) : MtG P w K mg base 2 c.Ledger "sure" ["self", "number"] (sp_Ledger_sure K c) := by
  refine F.ok sc_Ledger_sure len_Ledger_sure (fun f cdv A outer s H vs Q E hr h => ⟨t_Ledger_sure K c E, ?_, pure_Ledger_sure T h⟩)
  exact (pss_one (ps_if (PW.pt (pw_or (pt_not (pt_val (pe_callG (E := E) G_is_whole (hr.mono (by decide)) (passE (takes_of rfl rfl rfl rfl)) (by exact (pa_cons (pv 1) pa_nil))))) (pw_or1 (pt_not (pt_chain op_le1 op_lt1 pe_int (pv 1) (pe_callB call_len1 (by rfl) M.len (by decide +kernel) (pa_cons (pe_fld (pv 0) rfl) pa_nil))))))) (pss_one (ps_raiseG X_NoSum rfl (takes_of rfl rfl rfl rfl))) pss_nil))
abbrev s_Ledger_of_pair : Stmt := inClass (topS 14) 4
theorem sc_Ledger_of_pair : FnScope N_Ledger_of_pair ["self", "one", "other"] (defScope s_Ledger_of_pair) := ⟨rfl, rfl, rfl, by decide +kernel, rfl, by decide +kernel, by decide +kernel⟩
theorem ok_Ledger_of_pair (M : BM mg) (T : TxK K c) (F : MetG K c.Ledger "of_pair" "Ledger.of_pair" s_Ledger_of_pair ["self", "one", "other"]) (D : c.md = MD P w) (G_Ledger_sure : MtG P w K mg base 2 c.Ledger "sure" ["self", "number"] (sp_Ledger_sure K c)) (G_Ledger_number_of : MtG P w K mg base 1 c.Ledger "number_of" ["self", "thing"] (sp_Ledger_number_of K c)) : MtG P w K mg base 3 c.Ledger "of_pair" ["self", "one", "other"] (sp_Ledger_of_pair K c) := by
  refine F.ok sc_Ledger_of_pair len_Ledger_of_pair (fun f cdv A outer s H vs Q E hr h => ⟨t_Ledger_of_pair K c E, ?_, pure_Ledger_of_pair h⟩)
  exact (pss_cons (ps_expr (pe_methG (E := E) (pv 0) T.cLedger G_Ledger_sure (hr.mono (by decide)) (passE (takes_of rfl rfl rfl rfl)) (by exact (pa_cons (pv 1) pa_nil))))
  (pss_cons (ps_expr (pe_methG (E := E) (pv 0) T.cLedger G_Ledger_sure (hr.mono (by decide)) (passE (takes_of rfl rfl rfl rfl)) (by exact (pa_cons (pv 2) pa_nil))))
  (pss_one (ps_ret (pe_methG (E := E) (pv 0) T.cLedger G_Ledger_number_of (hr.mono (by decide)) (passE (takes_of rfl rfl rfl rfl)) (by exact (pa_cons (pe_tup (pa_cons (pv 1) (pa_cons (pv 2) pa_nil))) pa_nil)))))))
abbrev s_law_class : Stmt := topS 22
theorem sc_law_class : FnScope N_law_class ["_law_e"] (defScope s_law_class) := ⟨rfl, rfl, rfl, by decide +kernel, rfl, by decide +kernel, by decide +kernel⟩
theorem ok_law_class (M : BM mg) (T : TxK K c) (F : FunG K mg "_law_class" s_law_class ["_law_e"]) (D : c.md = MD P w) (X_Full : ExcT K mg "Full" c.Full) (X_NoBlock : ExcT K mg "NoBlock" c.NoBlock) (X_NoPlace : ExcT K mg "NoPlace" c.NoPlace) (X_Strange : ExcT K mg "Strange" c.Strange) (X_NoRow : ExcT K mg "NoRow" c.NoRow) (X_NoSum : ExcT K mg "NoSum" c.NoSum) : FnEG P w K mg base 1 "_law_class" ["_law_e"] (sp_law_class K c) := by
  refine F.okE sc_law_class len_law_class (fun f cdv A outer s H vs Q E p cls hr hz hf h => ⟨t_law_class cls p.1 K c E, ?_, pure_law_class T h⟩)
  exact (pss_cons (ps_if (PW.pt (pw_or (pt_val (pe_callB (call_isX (p := p) (cls := cls) (by exact List.mem_singleton.mpr rfl) hz hf) (by rfl) M.isinstance (by decide +kernel) (pa_cons (pv 0) (pa_cons (pe_glob (v := .ref c.Full) (by rfl) X_Full.g rfl) pa_nil)))) (pw_or (pt_val (pe_callB (call_isX (p := p) (cls := cls) (by exact List.mem_singleton.mpr rfl) hz hf) (by rfl) M.isinstance (by decide +kernel) (pa_cons (pv 0) (pa_cons (pe_glob (v := .ref c.NoBlock) (by rfl) X_NoBlock.g rfl) pa_nil)))) (pw_or (pt_val (pe_callB (call_isX (p := p) (cls := cls) (by exact List.mem_singleton.mpr rfl) hz hf) (by rfl) M.isinstance (by decide +kernel) (pa_cons (pv 0) (pa_cons (pe_glob (v := .ref c.NoPlace) (by rfl) X_NoPlace.g rfl) pa_nil)))) (pw_or1 (pt_val (pe_callB (call_isX (p := p) (cls := cls) (by exact List.mem_singleton.mpr rfl) hz hf) (by rfl) M.isinstance (by decide +kernel) (pa_cons (pv 0) (pa_cons (pe_glob (v := .ref c.Strange) (by rfl) X_Strange.g rfl) pa_nil))))))))) (pss_one (ps_ret pe_str)) pss_nil)
  (pss_cons (ps_if (PW.pt (pw_or (pt_not (pt_val (pe_callB (call_isX (p := p) (cls := cls) (by exact List.mem_singleton.mpr rfl) hz hf) (by rfl) M.isinstance (by decide +kernel) (pa_cons (pv 0) (pa_cons (pe_bltn (v := .ty "ValueError") (by rfl) M.ValueError (by decide +kernel) rfl) pa_nil))))) (pw_or1 (pt_cmpR (op_eqU hr.units) (pe_callB (call_isX (p := p) (cls := cls) (by exact List.mem_singleton.mpr rfl) hz hf) (by rfl) M.isinstance (by decide +kernel) (pa_cons (pv 0) (pa_cons (pe_glob (v := .ref c.NoRow) (by rfl) X_NoRow.g rfl) pa_nil))) (pe_callB (call_isX (p := p) (cls := cls) (by exact List.mem_singleton.mpr rfl) hz hf) (by rfl) M.isinstance (by decide +kernel) (pa_cons (pv 0) (pa_cons (pe_glob (v := .ref c.NoSum) (by rfl) X_NoSum.g rfl) pa_nil))) (nomark _))))) (pss_one (ps_ret pe_str)) pss_nil)
  (pss_one (ps_ret (pe_ix ix_seq (pe_lst (pa_cons pe_str (pa_cons pe_str pa_nil))) (pe_callTy call_int2 (by rfl) M.int (by decide +kernel) (pa_cons (pe_callB (call_isX (p := p) (cls := cls) (by exact List.mem_singleton.mpr rfl) hz hf) (by rfl) M.isinstance (by decide +kernel) (pa_cons (pv 0) (pa_cons (pe_glob (v := .ref c.NoSum) (by rfl) X_NoSum.g rfl) pa_nil))) pa_nil)) (fun _ _ => rfl))))))
abbrev s_law_asked : Stmt := topS 23
theorem sc_law_asked : FnScope N_law_asked ["_law_ledger", "_law_thing_here"] (defScope s_law_asked) := ⟨rfl, rfl, rfl, by decide +kernel, rfl, by decide +kernel, by decide +kernel⟩
theorem ok_law_asked (M : BM mg) (T : TxK K c) (F : FunG K mg "_law_asked" s_law_asked ["_law_ledger", "_law_thing_here"]) (D : c.md = MD P w) (X_TwinError : ExcT K mg "TwinError" c.TwinError) (G_Ledger_of_row : MtG P w K mg base 3 c.Ledger "of_row" ["self", "row"] (sp_Ledger_of_row K c)) (G_Ledger_of_pair : MtG P w K mg base 3 c.Ledger "of_pair" ["self", "one", "other"] (sp_Ledger_of_pair K c)) (G_law_class : FnEG P w K mg base 1 "_law_class" ["_law_e"] (sp_law_class K c)) : FnG P w K mg base 4 "_law_asked" ["_law_ledger", "_law_thing_here"] (sp_law_asked K c) := by
  refine F.ok sc_law_asked len_law_asked (fun f cdv A outer s H vs Q E hr h => ⟨t_law_asked K c E, ?_, pure_law_asked T h⟩)
  exact (pss_one (ps_try_as (i := 2) (tb := fun W1 => (tSeq (tIfS (tB (tCB (rIsi K) (tCons (tVar 1) (tCons (tC (.ty "list")) tNil)))) (tRet (tMethS c.Ledger "of_pair" (sp_Ledger_of_pair K c) (WE W1) (tVar 0) (tCons (tOp (rIx K) (tVar 1) (tC (.int 0))) (tCons (tOp (rIx K) (tVar 1) (tC (.int 1))) tNil)))) tNext)
  (tRet (tMethS c.Ledger "of_row" (sp_Ledger_of_row K c) (WE W1) (tVar 0) (tCons (tVar 1) tNil))))) (ts := fun a cls d => (tRet (tTup (tCons (tCallE (sp_law_class K c) cls d a (tCons (tVar 2) tNil)) tNil)))) (Wout := (fun _ _ _ _ => False)) rfl rfl sc_law_asked.nd rfl rfl ⟨rfl, by decide, Or.inl X_TwinError.g⟩ takes0 (fun W1 pn1 xe1 tk1 po1 => (pss_cons (ps_if (pt_val (pe_callB call_isi (by rfl) M.isinstance (by decide +kernel) (pa_cons (pv 1) (pa_cons (pe_bltn (v := .ty "list") (by rfl) M.list (by decide +kernel) rfl) pa_nil)))) (pss_one (ps_ret (pe_methGS (pv 0) T.cLedger G_Ledger_of_pair (hr.mono (by decide)) (fun σ => passAt tk1 σ) (by exact (pa_cons (pe_ix ix_seq (pv 1) pe_int (fun _ _ => rfl)) (pa_cons (pe_ix ix_seq (pv 1) pe_int (fun _ _ => rfl)) pa_nil)))))) pss_nil)
  (pss_one (ps_ret (pe_methGS (pv 0) T.cLedger G_Ledger_of_row (hr.mono (by decide)) (fun σ => passAt tk1 σ) (by exact (pa_cons (pv 1) pa_nil))))))) (fun a oe cls d pn hz hf => (pss_one (ps_ret (pe_tup (pa_cons (pe_callE G_law_class (hr.mono (by decide)) hz hf (by exact (pa_cons (pv 2) pa_nil))) pa_nil)))))))
abbrev s_law_bad : Stmt := topS 24
theorem sc_law_bad : FnScope N_law_bad ["_law_cell", "_law_many"] (defScope s_law_bad) := ⟨rfl, rfl, rfl, by decide +kernel, rfl, by decide +kernel, by decide +kernel⟩
theorem ok_law_bad (M : BM mg) (T : TxK K c) (F : FunG K mg "_law_bad" s_law_bad ["_law_cell", "_law_many"]) (D : c.md = MD P w) : FnG P w K mg base 1 "_law_bad" ["_law_cell", "_law_many"] (sp_law_bad K c) := by
  refine F.ok sc_law_bad len_law_bad (fun f cdv A outer s H vs Q E hr h => ⟨t_law_bad K c E, ?_, pure_law_bad h⟩)
  exact (pss_cons (ps_set (i := 2) sc_law_bad.nd rfl (Or.inl rfl) (pe_op op_addU (pe_op op_addU pe_str (pe_ix ix_seq pe_str (pe_op op_mod1 (pe_op op_div1 (pv 0) pe_int) pe_int) (fun _ _ => rfl))) pe_str))
  (pss_cons (ps_set (i := 3) sc_law_bad.nd rfl (Or.inl rfl) (pe_op op_addU (pe_op op_mulS pe_str (pe_op op_mod1 (pe_op op_div1 (pv 0) pe_int) pe_int)) (pe_ix ix_seq (pe_lst (pa_cons pe_str (pa_cons pe_str pa_nil))) (pe_op op_mod1 (pe_op op_div1 (pv 0) pe_int) pe_int) (fun _ _ => rfl))))
  (pss_cons (ps_set (i := 4) sc_law_bad.nd rfl (Or.inl rfl) (pe_ix ix_seq (pe_lst (pa_cons pe_int (pa_cons pe_non (pa_cons (pe_op op_mulS pe_str pe_int) (pa_cons pe_str (pa_cons pe_str (pa_cons (pe_tup (pa_cons pe_str pa_nil)) (pa_cons (pv 3) (pa_cons (pv 2) pa_nil))))))))) (pe_op op_mod1 (pv 0) pe_int) (fun _ _ => rfl)))
  (pss_cons (ps_if (pt_cmpR (op_eqU hr.units) (pe_op op_mod1 (pe_op op_div1 (pv 0) pe_int) pe_int) pe_int (nomark _)) (pss_one (ps_ret (pe_tup (pa_cons (pv 4) (pa_cons pe_str pa_nil))))) pss_nil)
  (pss_cons (ps_set (i := 5) sc_law_bad.nd rfl (Or.inl rfl) (pe_ix ix_seq (pe_lst (pa_cons (pv 1) (pa_cons (pe_un un_neg pe_int) (pa_cons (pe_op op_addU (pv 1) (pe_op op_mod1 (pe_op op_div1 (pv 0) pe_int) (pe_op op_pow1 pe_int pe_int))) (pa_cons pe_bl (pa_cons pe_str (pa_cons pe_non pa_nil))))))) (pe_op op_mod1 (pe_op op_div1 (pv 0) pe_int) pe_int) (fun _ _ => rfl)))
  (pss_cons (ps_if (PW.pt (pw_or (pt_cmpR op_lt1 (pv 1) pe_int (nomark _)) (pw_or1 (pt_cmpR (op_eqU hr.units) (pe_op op_mod1 (pe_op op_div1 (pv 0) pe_int) pe_int) pe_int (nomark _))))) (pss_one (ps_ret (pe_tup (pa_cons (pe_lst (pa_cons (pv 5) (pa_cons pe_int pa_nil))) (pa_cons pe_str pa_nil))))) pss_nil)
  (pss_one (ps_ret (pe_tup (pa_cons (pe_lst (pa_cons pe_int (pa_cons (pv 5) pa_nil))) (pa_cons pe_str pa_nil)))))))))))
abbrev s_law_room : Stmt := topS 21
theorem sc_law_room : FnScope N_law_room ["_law_script", "_law_small", "_law_great"] (defScope s_law_room) := ⟨rfl, rfl, rfl, by decide +kernel, rfl, by decide +kernel, by decide +kernel⟩
theorem ok_law_room (M : BM mg) (T : TxK K c) (F : FunG K mg "_law_room" s_law_room ["_law_script", "_law_small", "_law_great"]) (D : c.md = MD P w) : FnG P w K mg base 1 "_law_room" ["_law_script", "_law_small", "_law_great"] (sp_law_room K c) := by
  refine F.ok sc_law_room len_law_room (fun f cdv A outer s H vs Q E hr h => ⟨t_law_room K c E, ?_, pure_law_room h⟩)
  exact (pss_cons (ps_if (pt_cmpR op_gt1 (pe_callB call_len1 (by rfl) M.len (by decide +kernel) (pa_cons (pv 0) pa_nil)) pe_int (nomark _)) (pss_one (ps_ret (pv 2))) pss_nil)
  (pss_one (ps_ret (pv 1))))
abbrev s_Ledger_what : Stmt := inClass (topS 14) 5
theorem sc_Ledger_what : FnScope N_Ledger_what ["self", "number"] (defScope s_Ledger_what) := ⟨rfl, rfl, rfl, by decide +kernel, rfl, by decide +kernel, by decide +kernel⟩
theorem ok_Ledger_what (M : BM mg) (T : TxK K c) (F : MetG K c.Ledger "what" "Ledger.what" s_Ledger_what ["self", "number"]) (D : c.md = MD P w) (G_Ledger_sure : MtG P w K mg base 2 c.Ledger "sure" ["self", "number"] (sp_Ledger_sure K c)) : MtG P w K mg base 3 c.Ledger "what" ["self", "number"] (sp_Ledger_what K c) := by
  refine F.ok sc_Ledger_what len_Ledger_what (fun f cdv A outer s H vs Q E hr h => ⟨t_Ledger_what K c E, ?_, pure_Ledger_what T h⟩)
  exact (pss_cons (ps_expr (pe_methG (E := E) (pv 0) T.cLedger G_Ledger_sure (hr.mono (by decide)) (passE (takes_of rfl rfl rfl rfl)) (by exact (pa_cons (pv 1) pa_nil))))
  (pss_one (ps_ret (pe_ix ix_seq (pe_fld (pv 0) rfl) (pv 1) (fun _ _ => rfl)))))
abbrev s_law_what : Stmt := topS 26
theorem sc_law_what : FnScope N_law_what ["_law_ledger", "_law_number"] (defScope s_law_what) := ⟨rfl, rfl, rfl, by decide +kernel, rfl, by decide +kernel, by decide +kernel⟩
theorem ok_law_what (M : BM mg) (T : TxK K c) (F : FunG K mg "_law_what" s_law_what ["_law_ledger", "_law_number"]) (D : c.md = MD P w) (X_TwinError : ExcT K mg "TwinError" c.TwinError) (G_Ledger_what : MtG P w K mg base 3 c.Ledger "what" ["self", "number"] (sp_Ledger_what K c)) (G_law_class : FnEG P w K mg base 1 "_law_class" ["_law_e"] (sp_law_class K c)) : FnG P w K mg base 4 "_law_what" ["_law_ledger", "_law_number"] (sp_law_what K c) := by
  refine F.ok sc_law_what len_law_what (fun f cdv A outer s H vs Q E hr h => ⟨t_law_what K c E, ?_, pure_law_what T h⟩)
  exact (pss_one (ps_try_as (i := 2) (tb := fun W1 => (tRet (tMethS c.Ledger "what" (sp_Ledger_what K c) (WE W1) (tVar 0) (tCons (tVar 1) tNil)))) (ts := fun a cls d => (tRet (tLst (tCons (tCallE (sp_law_class K c) cls d a (tCons (tVar 2) tNil)) tNil)))) (Wout := (fun _ _ _ _ => False)) rfl rfl sc_law_what.nd rfl rfl ⟨rfl, by decide, Or.inl X_TwinError.g⟩ takes0 (fun W1 pn1 xe1 tk1 po1 => (pss_one (ps_ret (pe_methGS (pv 0) T.cLedger G_Ledger_what (hr.mono (by decide)) (fun σ => passAt tk1 σ) (by exact (pa_cons (pv 1) pa_nil)))))) (fun a oe cls d pn hz hf => (pss_one (ps_ret (pe_lst (pa_cons (pe_callE G_law_class (hr.mono (by decide)) hz hf (by exact (pa_cons (pv 2) pa_nil))) pa_nil)))))))
abbrev s_law_whole : Stmt := topS 17
theorem sc_law_whole : FnScope N_law_whole ["_law_found"] (defScope s_law_whole) := ⟨rfl, rfl, rfl, by decide +kernel, rfl, by decide +kernel, by decide +kernel⟩
theorem ok_law_whole (M : BM mg) (T : TxK K c) (F : FunG K mg "_law_whole" s_law_whole ["_law_found"]) (D : c.md = MD P w) : FnG P w K mg base 1 "_law_whole" ["_law_found"] (sp_law_whole K c) := by
  refine F.ok sc_law_whole len_law_whole (fun f cdv A outer s H vs Q E hr h => ⟨t_law_whole K c E, ?_, pure_law_whole h⟩)
  exact (pss_one (ps_ret (pe_and (pe_callB call_isi (by rfl) M.isinstance (by decide +kernel) (pa_cons (pv 0) (pa_cons (pe_bltn (v := .ty "int") (by rfl) M.int (by decide +kernel) rfl) pa_nil))) (pe_one (pe_not (pe_callB call_isi (by rfl) M.isinstance (by decide +kernel) (pa_cons (pv 0) (pa_cons (pe_bltn (v := .ty "bool") (by rfl) M.bool (by decide +kernel) rfl) pa_nil))))))))
abbrev s_Ledger_many : Stmt := inClass (topS 14) 6
theorem sc_Ledger_many : FnScope N_Ledger_many ["self"] (defScope s_Ledger_many) := ⟨rfl, rfl, rfl, by decide +kernel, rfl, by decide +kernel, by decide +kernel⟩
theorem ok_Ledger_many (M : BM mg) (T : TxK K c) (F : MetG K c.Ledger "many" "Ledger.many" s_Ledger_many ["self"]) (D : c.md = MD P w) : MtG P w K mg base 1 c.Ledger "many" ["self"] (sp_Ledger_many K c) := by
  refine F.ok sc_Ledger_many len_Ledger_many (fun f cdv A outer s H vs Q E hr h => ⟨t_Ledger_many K c E, ?_, pure_Ledger_many T h⟩)
  exact (pss_one (ps_ret (pe_callB call_len1 (by rfl) M.len (by decide +kernel) (pa_cons (pe_fld (pv 0) rfl) pa_nil))))
abbrev s_law_same : Stmt := topS 27
theorem sc_law_same : FnScope N_law_same ["_law_ledger", "_law_things", "_law_cell"] (defScope s_law_same) := ⟨rfl, rfl, rfl, by decide +kernel, rfl, by decide +kernel, by decide +kernel⟩
theorem ok_law_same (M : BM mg) (T : TxK K c) (F : FunG K mg "_law_same" s_law_same ["_law_ledger", "_law_things", "_law_cell"]) (D : c.md = MD P w) (G_law_what : FnG P w K mg base 4 "_law_what" ["_law_ledger", "_law_number"] (sp_law_what K c)) (G_Ledger_what : MtG P w K mg base 3 c.Ledger "what" ["self", "number"] (sp_Ledger_what K c)) (G_law_mix : FnG P w K mg base 1 "_law_mix" ["_law_number", "_law_k"] (sp_law_mix K c)) (G_law_whole : FnG P w K mg base 1 "_law_whole" ["_law_found"] (sp_law_whole K c)) (G_Ledger_many : MtG P w K mg base 1 c.Ledger "many" ["self"] (sp_Ledger_many K c)) : FnG P w K mg base 5 "_law_same" ["_law_ledger", "_law_things", "_law_cell"] (sp_law_same K c) := by
  refine F.ok sc_law_same len_law_same (fun f cdv A outer s H vs Q E hr h => ⟨t_law_same K c E, ?_, pure_law_same h⟩)
  exact (pss_cons (ps_set (i := 3) sc_law_same.nd rfl (Or.inl rfl) (pe_callB call_len1 (by rfl) M.len (by decide +kernel) (pa_cons (pv 1) pa_nil)))
  (pss_cons (ps_set (i := 4) sc_law_same.nd rfl (Or.inl rfl) (pe_ix ix_seq (pe_lst (pa_cons (pv 3) (pa_cons (pe_un un_neg pe_int) (pa_cons pe_bl (pa_cons pe_str (pa_cons pe_non (pa_cons (pe_op op_addU (pv 3) (pe_op op_mod1 (pe_op op_div1 (pv 2) pe_int) (pe_op op_pow1 pe_int pe_int))) (pa_cons (pe_op op_sub1 (pe_op op_sub1 pe_int pe_int) (pe_op op_mod1 (pe_op op_div1 (pv 2) pe_int) pe_int)) pa_nil)))))))) (pe_op op_mod1 (pe_callG (E := E0) G_law_mix (hr.mono (by decide)) passL (by exact (pa_cons (pv 2) (pa_cons pe_int pa_nil)))) pe_int) (fun _ _ => rfl)))
  (pss_cons (ps_if (pt_cmpR (op_neU hr.units) (pe_callG (E := E0) G_law_what (hr.mono (by decide)) passL (by exact (pa_cons (pv 0) (pa_cons (pv 4) pa_nil)))) (pe_lst (pa_cons pe_str pa_nil)) (nomark _)) (pss_one (ps_ret pe_bl)) pss_nil)
  (pss_cons (ps_if (PW.pt (pw_or (pt_not (pt_val (pe_callG (E := E0) G_law_whole (hr.mono (by decide)) passL (by exact (pa_cons (pe_methG0 (E := E0) (pv 0) T.cLedger G_Ledger_many (hr.mono (by decide)) passL) pa_nil))))) (pw_or1 (pt_cmpR (op_neU hr.units) (pe_methG0 (E := E0) (pv 0) T.cLedger G_Ledger_many (hr.mono (by decide)) passL) (pe_callB call_len1 (by rfl) M.len (by decide +kernel) (pa_cons (pv 1) pa_nil)) (nomark _))))) (pss_one (ps_ret pe_bl)) pss_nil)
  (pss_cons (ps_for (passes_of rfl) rfl (pi_range1 (by rfl) M.range (pa_cons (pe_callB (call_min1 rfl) (by rfl) M.min (by decide +kernel) (pa_cons pe_int (pa_cons (pe_callB call_len1 (by rfl) M.len (by decide +kernel) (pa_cons (pv 1) pa_nil)) pa_nil))) pa_nil)) (pg_name (i := 5) sc_law_same.nd rfl (Or.inl rfl)) (pss_cons (ps_set (i := 6) sc_law_same.nd rfl (Or.inl rfl) (pe_op op_mod1 (pe_callG (E := E0) G_law_mix (hr.mono (by decide)) passL (by exact (pa_cons (pv 2) (pa_cons (pe_op op_addU pe_int (pv 5)) pa_nil)))) (pe_callB call_len1 (by rfl) M.len (by decide +kernel) (pa_cons (pv 1) pa_nil))))
  (pss_cons (ps_set (i := 7) sc_law_same.nd rfl (Or.inl rfl) (pe_methG (E := E0) (pv 0) T.cLedger G_Ledger_what (hr.mono (by decide)) passL (by exact (pa_cons (pv 6) pa_nil))))
  (pss_one (ps_if (PW.pt (pw_or (pt_cmpR (op_neU hr.units) (pv 7) (pe_ix ix_seq (pv 1) (pv 6) (fun _ _ => rfl)) (nomark _)) (pw_or1 (pt_cmpR (op_neU hr.units) (pe_callB call_isi (by rfl) M.isinstance (by decide +kernel) (pa_cons (pv 7) (pa_cons (pe_bltn (v := .ty "str") (by rfl) M.str (by decide +kernel) rfl) pa_nil))) (pe_callB call_isi (by rfl) M.isinstance (by decide +kernel) (pa_cons (pe_ix ix_seq (pv 1) (pv 6) (fun _ _ => rfl)) (pa_cons (pe_bltn (v := .ty "str") (by rfl) M.str (by decide +kernel) rfl) pa_nil))) (nomark _))))) (pss_one (ps_ret pe_bl)) pss_nil)))))
  (pss_one (ps_ret pe_bl)))))))
abbrev s_law : Stmt := topS 28
theorem sc_law : FnScope N_law ["_law_script"] (defScope s_law) := ⟨rfl, rfl, rfl, by decide +kernel, rfl, by decide +kernel, by decide +kernel⟩
theorem ok_law (M : BM mg) (T : TxK K c) {f : Addr} {fd : FuncData} (F : Fun K "law" "law" s_law f fd) (D : c.md = MD P w) (G_Ledger_init : MkG P w K mg base 1 c.Ledger "Ledger" ["self"] (sp_Ledger_init K c)) (G_law_thing : FnG P w K mg base 3 "_law_thing" ["_law_things", "_law_cell"] (sp_law_thing K c)) (G_law_asked : FnG P w K mg base 4 "_law_asked" ["_law_ledger", "_law_thing_here"] (sp_law_asked K c)) (G_law_bad : FnG P w K mg base 1 "_law_bad" ["_law_cell", "_law_many"] (sp_law_bad K c)) (G_law_room : FnG P w K mg base 1 "_law_room" ["_law_script", "_law_small", "_law_great"] (sp_law_room K c)) (G_law_mix : FnG P w K mg base 1 "_law_mix" ["_law_number", "_law_k"] (sp_law_mix K c)) (G_law_same : FnG P w K mg base 5 "_law_same" ["_law_ledger", "_law_things", "_law_cell"] (sp_law_same K c)) (G_law_whole : FnG P w K mg base 1 "_law_whole" ["_law_found"] (sp_law_whole K c)) : FnOk P w K mg base (L2.CX P w) 6 f fd ["_law_script"] (sp_law K c) := by
  refine F.okX sc_law len_law (fun cdv A outer s H vs Q E hr h => ⟨t_law K c E, ?_, pure_law T h⟩)
  exact (pss_cons (ps_set (i := 1) sc_law.nd rfl (Or.inl rfl) (pe_lst (pa_cons (pe_makeG0 (E := E0) G_Ledger_init (hr.mono (by decide)) passL) (pa_cons (pe_makeG0 (E := E0) G_Ledger_init (hr.mono (by decide)) passL) pa_nil))))
  (pss_cons (ps_set (i := 2) sc_law.nd rfl (Or.inl rfl) (pe_lst (pa_cons (pe_lst pa_nil) (pa_cons (pe_lst pa_nil) pa_nil))))
  (pss_cons (ps_for (passes_of rfl) rfl (pi_list (pe_slice sl_U (pv 0) (po_some pe_int) (po_some (pe_op op_addU pe_int (pe_callG (E := E0) G_law_room (hr.mono (by decide)) passL (by exact (pa_cons (pv 0) (pa_cons pe_int (pa_cons pe_int pa_nil))))))))) (pg_name (i := 3) sc_law.nd rfl (Or.inl rfl)) (pss_cons (ps_set (i := 4) sc_law.nd rfl (Or.inl rfl) (pe_op op_mod1 (pv 3) pe_int))
  (pss_cons (ps_set (i := 5) sc_law.nd rfl (Or.inl rfl) (pe_ix ix_seq (pv 2) (pv 4) (fun _ _ => rfl)))
  (Evl.pss_cut (ps_set (i := 6) sc_law.nd rfl (Or.inl rfl) (pe_callG (E := E0) G_law_thing (hr.mono (by decide)) passL (by exact (pa_cons (pv 5) (pa_cons (pe_op op_div1 (pv 3) pe_int) pa_nil))))) (pss_cons (ps_set (i := 7) sc_law.nd rfl (Or.inl rfl) pe_non)
  (Evl.pss_cut (ps_if (pt_cmpR (op_eqU hr.units) (pe_op op_mod1 (pe_op op_div1 (pv 3) pe_int) pe_int) pe_int (nomark _)) (pss_one (ps_asg (pe_callG (E := E0) G_law_bad (hr.mono (by decide)) passL (by exact (pa_cons (pe_callG (E := E0) G_law_mix (hr.mono (by decide)) passL (by exact (pa_cons (pv 3) (pa_cons pe_int pa_nil)))) (pa_cons (pe_callB call_len1 (by rfl) M.len (by decide +kernel) (pa_cons (pv 5) pa_nil)) pa_nil)))) (pg_tup rfl (pgs_cons (pg_name (i := 6) sc_law.nd rfl (Or.inl rfl)) (pgs_cons (pg_name (i := 7) sc_law.nd rfl (Or.inl rfl)) pgs_nil))))) pss_nil) (Evl.pss_cut (ps_set (i := 8) sc_law.nd rfl (Or.inl rfl) (pe_callG (E := E0) G_law_asked (hr.mono (by decide)) passL (by exact (pa_cons (pe_ix ix_seq (pv 1) (pv 4) (fun _ _ => rfl)) (pa_cons (pv 6) pa_nil))))) (Evl.pss_cut (ps_if (pt_cmpR op_notN1 (pv 7) pe_non (nomark _)) (pss_one (ps_if (pt_cmpR (op_neU hr.units) (pv 8) (pe_tup (pa_cons (pv 7) pa_nil)) (nomark _)) (pss_one (ps_ret pe_bl)) pss_nil)) (pss_cons (ps_set (i := 9) sc_law.nd rfl (Or.inl rfl) (pv 6))
  (Evl.pss_cut (ps_if (pt_val (pe_callB call_isi (by rfl) M.isinstance (by decide +kernel) (pa_cons (pv 6) (pa_cons (pe_bltn (v := .ty "list") (by rfl) M.list (by decide +kernel) rfl) pa_nil)))) (pss_one (ps_set (i := 9) sc_law.nd rfl (Or.inl rfl) (pe_tup (pa_cons (pe_ix ix_seq (pv 6) pe_int (fun _ _ => rfl)) (pa_cons (pe_ix ix_seq (pv 6) pe_int (fun _ _ => rfl)) pa_nil))))) pss_nil) (Evl.pss_cut (ps_if (pt_cmpR (op_notInD (units65 hr)) (pv 9) (pv 5) (by rfl)) (pss_one (ps_expr (pe_bm PySem.F.plainAttrs_list PySem.F.slot_list_append PySem.F.type_list_append mt_append (pv 5) (pa_cons (pv 9) pa_nil)))) pss_nil) (pss_cons (ps_if (PW.pt (pw_or (pt_not (pt_val (pe_callG (E := E0) G_law_whole (hr.mono (by decide)) passL (by exact (pa_cons (pv 8) pa_nil))))) (pw_or1 (pt_cmpR (op_neU hr.units) (pv 8) (pe_bm PySem.F.plainAttrs_list PySem.F.slot_list_index PySem.F.type_list_index (mt_indexD (units65 hr)) (pv 5) (pa_cons (pv 9) pa_nil)) (nomark _))))) (pss_one (ps_ret pe_bl)) pss_nil)
  (pss_one (ps_if (PW.pt (pw_and (pt_cmpR op_gt1 (pe_callB call_len1 (by rfl) M.len (by decide +kernel) (pa_cons (pv 5) pa_nil)) pe_int (nomark _)) (pw_and1 (pt_cmpR (op_neU hr.units) (pe_callG (E := E0) G_law_asked (hr.mono (by decide)) passL (by exact (pa_cons (pe_ix ix_seq (pv 1) (pv 4) (fun _ _ => rfl)) (pa_cons (pe_lst (pa_cons (pe_callB call_len1 (by rfl) M.len (by decide +kernel) (pa_cons (pv 5) pa_nil)) (pa_cons pe_int pa_nil))) pa_nil)))) (pe_tup (pa_cons pe_str pa_nil)) (nomark _))))) (pss_one (ps_ret pe_bl)) pss_nil))))))) (pss_one (ps_if (PW.pt (pw_or (pt_not (pt_val (pe_callG (E := E0) G_law_same (hr.mono (by decide)) passL (by exact (pa_cons (pe_ix ix_seq (pv 1) pe_int (fun _ _ => rfl)) (pa_cons (pe_ix ix_seq (pv 2) pe_int (fun _ _ => rfl)) (pa_cons (pv 3) pa_nil))))))) (pw_or1 (pt_not (pt_val (pe_callG (E := E0) G_law_same (hr.mono (by decide)) passL (by exact (pa_cons (pe_ix ix_seq (pv 1) pe_int (fun _ _ => rfl)) (pa_cons (pe_ix ix_seq (pv 2) pe_int (fun _ _ => rfl)) (pa_cons (pv 3) pa_nil)))))))))) (pss_one (ps_ret pe_bl)) pss_nil))))))))))
  (pss_one (ps_ret pe_bl)))))
end
theorem all_mk {l : PySem.W.OpenLaw} {w : World} {K : PySem.W.Frag} {h : Heap} {mg : Str → Option Value} {fa : Addr} (X : K.In h) (G : h.Ns mainGlobals mg) (hfa : mg "law" = some (.ref fa))
    {C_Ledger : Addr}
    {C_NoRow : Addr}
    {C_NoSum : Addr}
    {C_Full : Addr}
    {C_NoBlock : Addr}
    {C_NoPlace : Addr}
    {C_Strange : Addr}
    {C_TwinError : Addr}
    {f_Ledger_init : Addr} {od_Ledger_init an_Ledger_init : Option Addr} {sl_Ledger_init : Array (Option Value)} {oc_Ledger_init kV_Ledger_init dc_Ledger_init pm_Ledger_init cd_Ledger_init ct_Ledger_init : Value}
    {f_law_mix : Addr} {od_law_mix an_law_mix : Option Addr} {sl_law_mix : Array (Option Value)} {oc_law_mix kV_law_mix dc_law_mix pm_law_mix cd_law_mix ct_law_mix : Value}
    {f_law_text : Addr} {od_law_text an_law_text : Option Addr} {sl_law_text : Array (Option Value)} {oc_law_text kV_law_text dc_law_text pm_law_text cd_law_text ct_law_text : Value}
    {f_law_near : Addr} {od_law_near an_law_near : Option Addr} {sl_law_near : Array (Option Value)} {oc_law_near kV_law_near dc_law_near pm_law_near cd_law_near ct_law_near : Value}
    {f_law_thing : Addr} {od_law_thing an_law_thing : Option Addr} {sl_law_thing : Array (Option Value)} {oc_law_thing kV_law_thing dc_law_thing pm_law_thing cd_law_thing ct_law_thing : Value}
    {f_is_row : Addr} {od_is_row an_is_row : Option Addr} {sl_is_row : Array (Option Value)} {oc_is_row kV_is_row dc_is_row pm_is_row cd_is_row ct_is_row : Value}
    {f_sure_row : Addr} {od_sure_row an_sure_row : Option Addr} {sl_sure_row : Array (Option Value)} {oc_sure_row kV_sure_row dc_sure_row pm_sure_row cd_sure_row ct_sure_row : Value}
    {f_Ledger_number_of : Addr} {od_Ledger_number_of an_Ledger_number_of : Option Addr} {sl_Ledger_number_of : Array (Option Value)} {oc_Ledger_number_of kV_Ledger_number_of dc_Ledger_number_of pm_Ledger_number_of cd_Ledger_number_of ct_Ledger_number_of : Value}
    {f_Ledger_of_row : Addr} {od_Ledger_of_row an_Ledger_of_row : Option Addr} {sl_Ledger_of_row : Array (Option Value)} {oc_Ledger_of_row kV_Ledger_of_row dc_Ledger_of_row pm_Ledger_of_row cd_Ledger_of_row ct_Ledger_of_row : Value}
    {f_is_whole : Addr} {od_is_whole an_is_whole : Option Addr} {sl_is_whole : Array (Option Value)} {oc_is_whole kV_is_whole dc_is_whole pm_is_whole cd_is_whole ct_is_whole : Value}
    {f_Ledger_sure : Addr} {od_Ledger_sure an_Ledger_sure : Option Addr} {sl_Ledger_sure : Array (Option Value)} {oc_Ledger_sure kV_Ledger_sure dc_Ledger_sure pm_Ledger_sure cd_Ledger_sure ct_Ledger_sure : Value}
    {f_Ledger_of_pair : Addr} {od_Ledger_of_pair an_Ledger_of_pair : Option Addr} {sl_Ledger_of_pair : Array (Option Value)} {oc_Ledger_of_pair kV_Ledger_of_pair dc_Ledger_of_pair pm_Ledger_of_pair cd_Ledger_of_pair ct_Ledger_of_pair : Value}
    {f_law_class : Addr} {od_law_class an_law_class : Option Addr} {sl_law_class : Array (Option Value)} {oc_law_class kV_law_class dc_law_class pm_law_class cd_law_class ct_law_class : Value}
    {f_law_asked : Addr} {od_law_asked an_law_asked : Option Addr} {sl_law_asked : Array (Option Value)} {oc_law_asked kV_law_asked dc_law_asked pm_law_asked cd_law_asked ct_law_asked : Value}
    {f_law_bad : Addr} {od_law_bad an_law_bad : Option Addr} {sl_law_bad : Array (Option Value)} {oc_law_bad kV_law_bad dc_law_bad pm_law_bad cd_law_bad ct_law_bad : Value}
    {f_law_room : Addr} {od_law_room an_law_room : Option Addr} {sl_law_room : Array (Option Value)} {oc_law_room kV_law_room dc_law_room pm_law_room cd_law_room ct_law_room : Value}
    {f_Ledger_what : Addr} {od_Ledger_what an_Ledger_what : Option Addr} {sl_Ledger_what : Array (Option Value)} {oc_Ledger_what kV_Ledger_what dc_Ledger_what pm_Ledger_what cd_Ledger_what ct_Ledger_what : Value}
    {f_law_what : Addr} {od_law_what an_law_what : Option Addr} {sl_law_what : Array (Option Value)} {oc_law_what kV_law_what dc_law_what pm_law_what cd_law_what ct_law_what : Value}
    {f_law_whole : Addr} {od_law_whole an_law_whole : Option Addr} {sl_law_whole : Array (Option Value)} {oc_law_whole kV_law_whole dc_law_whole pm_law_whole cd_law_whole ct_law_whole : Value}
    {f_Ledger_many : Addr} {od_Ledger_many an_Ledger_many : Option Addr} {sl_Ledger_many : Array (Option Value)} {oc_Ledger_many kV_Ledger_many dc_Ledger_many pm_Ledger_many cd_Ledger_many ct_Ledger_many : Value}
    {f_law_same : Addr} {od_law_same an_law_same : Option Addr} {sl_law_same : Array (Option Value)} {oc_law_same kV_law_same dc_law_same pm_law_same cd_law_same ct_law_same : Value}
    {f_law : Addr} {od_law an_law : Option Addr} {sl_law : Array (Option Value)} {oc_law kV_law dc_law pm_law cd_law ct_law : Value}
    {tk_MOST_SIGNS : Tok}
    {tk_SIGNS : Tok}
    (a_Ledger : PySem.W.nsIn K mainGlobals "Ledger" = some (some (.ref C_Ledger)))
    (pg_Ledger : PySem.W.plainGet K C_Ledger Str.empty = true)
    (hd_Ledger : PySem.W.hasDictIn K C_Ledger = true)
    (po_Ledger : PySem.W.plainOver K C_Ledger = true)
    (sa_Ledger : PySem.W.findIn K (.ref C_Ledger) "__setattr__" = some (some (.builtin "object.__setattr__")))
    (mk_Ledger : PySem.W.makesIn K C_Ledger = true)
    (kc_Ledger : PySem.W.keepIn K (.ref C_Ledger) = true)
    (nf_Ledger_given : PySem.W.findIn K (.ref C_Ledger) "given" = some none)
    (nf_Ledger_things : PySem.W.findIn K (.ref C_Ledger) "things" = some none)
    (a_NoRow : PySem.W.nsIn K mainGlobals "NoRow" = some (some (.ref C_NoRow)))
    (xP_NoRow : PySem.W.excIn K C_NoRow [.type "ValueError", .type "Exception", .type "BaseException", .type "object"] "ValueError.__new__" = true)
    (kP_NoRow : PySem.W.keepIn K (.ref C_NoRow) = true)
    (bP_NoRow : PySem.W.subIn K (.ref C_NoRow) (.type "BaseException") = some true)
    (tP_NoRow : PySem.W.typeIn K (.ref C_NoRow) = some (.type "type"))
    (a_NoSum : PySem.W.nsIn K mainGlobals "NoSum" = some (some (.ref C_NoSum)))
    (xP_NoSum : PySem.W.excIn K C_NoSum [.type "ValueError", .type "Exception", .type "BaseException", .type "object"] "ValueError.__new__" = true)
    (kP_NoSum : PySem.W.keepIn K (.ref C_NoSum) = true)
    (bP_NoSum : PySem.W.subIn K (.ref C_NoSum) (.type "BaseException") = some true)
    (tP_NoSum : PySem.W.typeIn K (.ref C_NoSum) = some (.type "type"))
    (a_Full : PySem.W.nsIn K mainGlobals "Full" = some (some (.ref C_Full)))
    (xP_Full : PySem.W.excIn K C_Full [.type "ValueError", .type "Exception", .type "BaseException", .type "object"] "ValueError.__new__" = true)
    (kP_Full : PySem.W.keepIn K (.ref C_Full) = true)
    (bP_Full : PySem.W.subIn K (.ref C_Full) (.type "BaseException") = some true)
    (tP_Full : PySem.W.typeIn K (.ref C_Full) = some (.type "type"))
    (a_NoBlock : PySem.W.nsIn K mainGlobals "NoBlock" = some (some (.ref C_NoBlock)))
    (xP_NoBlock : PySem.W.excIn K C_NoBlock [.type "ValueError", .type "Exception", .type "BaseException", .type "object"] "ValueError.__new__" = true)
    (kP_NoBlock : PySem.W.keepIn K (.ref C_NoBlock) = true)
    (bP_NoBlock : PySem.W.subIn K (.ref C_NoBlock) (.type "BaseException") = some true)
    (tP_NoBlock : PySem.W.typeIn K (.ref C_NoBlock) = some (.type "type"))
    (a_NoPlace : PySem.W.nsIn K mainGlobals "NoPlace" = some (some (.ref C_NoPlace)))
    (xP_NoPlace : PySem.W.excIn K C_NoPlace [.type "ValueError", .type "Exception", .type "BaseException", .type "object"] "ValueError.__new__" = true)
    (kP_NoPlace : PySem.W.keepIn K (.ref C_NoPlace) = true)
    (bP_NoPlace : PySem.W.subIn K (.ref C_NoPlace) (.type "BaseException") = some true)
    (tP_NoPlace : PySem.W.typeIn K (.ref C_NoPlace) = some (.type "type"))
    (a_Strange : PySem.W.nsIn K mainGlobals "Strange" = some (some (.ref C_Strange)))
    (xP_Strange : PySem.W.excIn K C_Strange [.type "ValueError", .type "Exception", .type "BaseException", .type "object"] "ValueError.__new__" = true)
    (kP_Strange : PySem.W.keepIn K (.ref C_Strange) = true)
    (bP_Strange : PySem.W.subIn K (.ref C_Strange) (.type "BaseException") = some true)
    (tP_Strange : PySem.W.typeIn K (.ref C_Strange) = some (.type "type"))
    (a_TwinError : PySem.W.nsIn K mainGlobals "TwinError" = some (some (.ref C_TwinError)))
    (xP_TwinError : PySem.W.excIn K C_TwinError [.type "ValueError", .type "Exception", .type "BaseException", .type "object"] "ValueError.__new__" = true)
    (kP_TwinError : PySem.W.keepIn K (.ref C_TwinError) = true)
    (bP_TwinError : PySem.W.subIn K (.ref C_TwinError) (.type "BaseException") = some true)
    (tP_TwinError : PySem.W.typeIn K (.ref C_TwinError) = some (.type "type"))
    (m_NoRow_TwinError : PySem.W.subIn K (.ref C_NoRow) (.ref C_TwinError) = some true)
    (m_NoSum_TwinError : PySem.W.subIn K (.ref C_NoSum) (.ref C_TwinError) = some true)
    (hd_TwinError : PySem.W.hasDictIn K C_TwinError = true)
    (hd_NoRow : PySem.W.hasDictIn K C_NoRow = true)
    (hd_NoSum : PySem.W.hasDictIn K C_NoSum = true)
    (hd_Full : PySem.W.hasDictIn K C_Full = true)
    (hd_NoBlock : PySem.W.hasDictIn K C_NoBlock = true)
    (hd_NoPlace : PySem.W.hasDictIn K C_NoPlace = true)
    (hd_Strange : PySem.W.hasDictIn K C_Strange = true)
    (ga_NoRow : PySem.W.findIn K (.ref C_NoRow) "__getattribute__" = some (some (.builtin "BaseException.__getattribute__")))
    (gt_NoRow : PySem.W.findIn K (.ref C_NoRow) "__getattr__" = some none)
    (cl_NoRow : PySem.W.findIn K (.ref C_NoRow) "__class__" = some (some (.builtin "object.__class__")))
    (mo_NoRow : PySem.W.mroIn K C_NoRow (.type "object") = some true)
    (ve_NoRow : PySem.W.subIn K (.ref C_NoRow) (.type "ValueError") = some true)
    (s_NoRow_NoRow : PySem.W.subIn K (.ref C_NoRow) (.ref C_NoRow) = some true)
    (s_NoRow_Full : PySem.W.subIn K (.ref C_NoRow) (.ref C_Full) = some false)
    (s_NoRow_NoBlock : PySem.W.subIn K (.ref C_NoRow) (.ref C_NoBlock) = some false)
    (s_NoRow_NoPlace : PySem.W.subIn K (.ref C_NoRow) (.ref C_NoPlace) = some false)
    (s_NoRow_Strange : PySem.W.subIn K (.ref C_NoRow) (.ref C_Strange) = some false)
    (s_NoRow_NoSum : PySem.W.subIn K (.ref C_NoRow) (.ref C_NoSum) = some false)
    (ga_NoSum : PySem.W.findIn K (.ref C_NoSum) "__getattribute__" = some (some (.builtin "BaseException.__getattribute__")))
    (gt_NoSum : PySem.W.findIn K (.ref C_NoSum) "__getattr__" = some none)
    (cl_NoSum : PySem.W.findIn K (.ref C_NoSum) "__class__" = some (some (.builtin "object.__class__")))
    (mo_NoSum : PySem.W.mroIn K C_NoSum (.type "object") = some true)
    (ve_NoSum : PySem.W.subIn K (.ref C_NoSum) (.type "ValueError") = some true)
    (s_NoSum_NoSum : PySem.W.subIn K (.ref C_NoSum) (.ref C_NoSum) = some true)
    (s_NoSum_Full : PySem.W.subIn K (.ref C_NoSum) (.ref C_Full) = some false)
    (s_NoSum_NoBlock : PySem.W.subIn K (.ref C_NoSum) (.ref C_NoBlock) = some false)
    (s_NoSum_NoPlace : PySem.W.subIn K (.ref C_NoSum) (.ref C_NoPlace) = some false)
    (s_NoSum_Strange : PySem.W.subIn K (.ref C_NoSum) (.ref C_Strange) = some false)
    (s_NoSum_NoRow : PySem.W.subIn K (.ref C_NoSum) (.ref C_NoRow) = some false)
    (sp_cls : PySem.W.specialIn K (.builtin "object.__class__") "__get__" = some (some (.builtin "getset_descriptor.__get__")))
    (tk_cls : PySem.W.takesIn K (.builtin "object.__class__") = some true)
    (a_Ledger_init : PySem.W.findIn K (.ref C_Ledger) "__init__" = some (some (.ref f_Ledger_init)))
    (i_Ledger_init : PySem.W.isFn K (.ref f_Ledger_init) = true)
    (l_Ledger_init : K.lookup f_Ledger_init = some ⟨oc_Ledger_init, od_Ledger_init, .func (PySem.W.fnOf "__init__" "Ledger.__init__" (defArgs s_Ledger_init) (defBody s_Ledger_init) (defScope s_Ledger_init) .none kV_Ledger_init dc_Ledger_init pm_Ledger_init an_Ledger_init cd_Ledger_init ct_Ledger_init), sl_Ledger_init⟩)
    (c_Ledger_init : PySem.W.codeIn K cd_Ledger_init "Ledger.__init__" = true)
    (k_Ledger_init : PySem.W.keepIn K (.ref f_Ledger_init) = true)
    (a_law_mix : PySem.W.nsIn K mainGlobals "_law_mix" = some (some (.ref f_law_mix)))
    (l_law_mix : K.lookup f_law_mix = some ⟨oc_law_mix, od_law_mix, .func (PySem.W.fnOf "_law_mix" "_law_mix" (defArgs s_law_mix) (defBody s_law_mix) (defScope s_law_mix) .none kV_law_mix dc_law_mix pm_law_mix an_law_mix cd_law_mix ct_law_mix), sl_law_mix⟩)
    (c_law_mix : PySem.W.codeIn K cd_law_mix "_law_mix" = true)
    (k_law_mix : PySem.W.keepIn K (.ref f_law_mix) = true)
    (a_law_text : PySem.W.nsIn K mainGlobals "_law_text" = some (some (.ref f_law_text)))
    (l_law_text : K.lookup f_law_text = some ⟨oc_law_text, od_law_text, .func (PySem.W.fnOf "_law_text" "_law_text" (defArgs s_law_text) (defBody s_law_text) (defScope s_law_text) .none kV_law_text dc_law_text pm_law_text an_law_text cd_law_text ct_law_text), sl_law_text⟩)
    (c_law_text : PySem.W.codeIn K cd_law_text "_law_text" = true)
    (k_law_text : PySem.W.keepIn K (.ref f_law_text) = true)
    (a_law_near : PySem.W.nsIn K mainGlobals "_law_near" = some (some (.ref f_law_near)))
    (l_law_near : K.lookup f_law_near = some ⟨oc_law_near, od_law_near, .func (PySem.W.fnOf "_law_near" "_law_near" (defArgs s_law_near) (defBody s_law_near) (defScope s_law_near) .none kV_law_near dc_law_near pm_law_near an_law_near cd_law_near ct_law_near), sl_law_near⟩)
    (c_law_near : PySem.W.codeIn K cd_law_near "_law_near" = true)
    (k_law_near : PySem.W.keepIn K (.ref f_law_near) = true)
    (a_law_thing : PySem.W.nsIn K mainGlobals "_law_thing" = some (some (.ref f_law_thing)))
    (l_law_thing : K.lookup f_law_thing = some ⟨oc_law_thing, od_law_thing, .func (PySem.W.fnOf "_law_thing" "_law_thing" (defArgs s_law_thing) (defBody s_law_thing) (defScope s_law_thing) .none kV_law_thing dc_law_thing pm_law_thing an_law_thing cd_law_thing ct_law_thing), sl_law_thing⟩)
    (c_law_thing : PySem.W.codeIn K cd_law_thing "_law_thing" = true)
    (k_law_thing : PySem.W.keepIn K (.ref f_law_thing) = true)
    (a_is_row : PySem.W.nsIn K mainGlobals "is_row" = some (some (.ref f_is_row)))
    (l_is_row : K.lookup f_is_row = some ⟨oc_is_row, od_is_row, .func (PySem.W.fnOf "is_row" "is_row" (defArgs s_is_row) (defBody s_is_row) (defScope s_is_row) .none kV_is_row dc_is_row pm_is_row an_is_row cd_is_row ct_is_row), sl_is_row⟩)
    (c_is_row : PySem.W.codeIn K cd_is_row "is_row" = true)
    (k_is_row : PySem.W.keepIn K (.ref f_is_row) = true)
    (a_sure_row : PySem.W.nsIn K mainGlobals "sure_row" = some (some (.ref f_sure_row)))
    (l_sure_row : K.lookup f_sure_row = some ⟨oc_sure_row, od_sure_row, .func (PySem.W.fnOf "sure_row" "sure_row" (defArgs s_sure_row) (defBody s_sure_row) (defScope s_sure_row) .none kV_sure_row dc_sure_row pm_sure_row an_sure_row cd_sure_row ct_sure_row), sl_sure_row⟩)
    (c_sure_row : PySem.W.codeIn K cd_sure_row "sure_row" = true)
    (k_sure_row : PySem.W.keepIn K (.ref f_sure_row) = true)
    (a_Ledger_number_of : PySem.W.findIn K (.ref C_Ledger) "number_of" = some (some (.ref f_Ledger_number_of)))
    (i_Ledger_number_of : PySem.W.isFn K (.ref f_Ledger_number_of) = true)
    (l_Ledger_number_of : K.lookup f_Ledger_number_of = some ⟨oc_Ledger_number_of, od_Ledger_number_of, .func (PySem.W.fnOf "number_of" "Ledger.number_of" (defArgs s_Ledger_number_of) (defBody s_Ledger_number_of) (defScope s_Ledger_number_of) .none kV_Ledger_number_of dc_Ledger_number_of pm_Ledger_number_of an_Ledger_number_of cd_Ledger_number_of ct_Ledger_number_of), sl_Ledger_number_of⟩)
    (c_Ledger_number_of : PySem.W.codeIn K cd_Ledger_number_of "Ledger.number_of" = true)
    (k_Ledger_number_of : PySem.W.keepIn K (.ref f_Ledger_number_of) = true)
    (a_Ledger_of_row : PySem.W.findIn K (.ref C_Ledger) "of_row" = some (some (.ref f_Ledger_of_row)))
    (i_Ledger_of_row : PySem.W.isFn K (.ref f_Ledger_of_row) = true)
    (l_Ledger_of_row : K.lookup f_Ledger_of_row = some ⟨oc_Ledger_of_row, od_Ledger_of_row, .func (PySem.W.fnOf "of_row" "Ledger.of_row" (defArgs s_Ledger_of_row) (defBody s_Ledger_of_row) (defScope s_Ledger_of_row) .none kV_Ledger_of_row dc_Ledger_of_row pm_Ledger_of_row an_Ledger_of_row cd_Ledger_of_row ct_Ledger_of_row), sl_Ledger_of_row⟩)
    (c_Ledger_of_row : PySem.W.codeIn K cd_Ledger_of_row "Ledger.of_row" = true)
    (k_Ledger_of_row : PySem.W.keepIn K (.ref f_Ledger_of_row) = true)
    (a_is_whole : PySem.W.nsIn K mainGlobals "is_whole" = some (some (.ref f_is_whole)))
    (l_is_whole : K.lookup f_is_whole = some ⟨oc_is_whole, od_is_whole, .func (PySem.W.fnOf "is_whole" "is_whole" (defArgs s_is_whole) (defBody s_is_whole) (defScope s_is_whole) .none kV_is_whole dc_is_whole pm_is_whole an_is_whole cd_is_whole ct_is_whole), sl_is_whole⟩)
    (c_is_whole : PySem.W.codeIn K cd_is_whole "is_whole" = true)
    (k_is_whole : PySem.W.keepIn K (.ref f_is_whole) = true)
    (a_Ledger_sure : PySem.W.findIn K (.ref C_Ledger) "sure" = some (some (.ref f_Ledger_sure)))
    (i_Ledger_sure : PySem.W.isFn K (.ref f_Ledger_sure) = true)
    (l_Ledger_sure : K.lookup f_Ledger_sure = some ⟨oc_Ledger_sure, od_Ledger_sure, .func (PySem.W.fnOf "sure" "Ledger.sure" (defArgs s_Ledger_sure) (defBody s_Ledger_sure) (defScope s_Ledger_sure) .none kV_Ledger_sure dc_Ledger_sure pm_Ledger_sure an_Ledger_sure cd_Ledger_sure ct_Ledger_sure), sl_Ledger_sure⟩)
    (c_Ledger_sure : PySem.W.codeIn K cd_Ledger_sure "Ledger.sure" = true)
    (k_Ledger_sure : PySem.W.keepIn K (.ref f_Ledger_sure) = true)
    (a_Ledger_of_pair : PySem.W.findIn K (.ref C_Ledger) "of_pair" = some (some (.ref f_Ledger_of_pair)))
    (i_Ledger_of_pair : PySem.W.isFn K (.ref f_Ledger_of_pair) = true)
    (l_Ledger_of_pair : K.lookup f_Ledger_of_pair = some ⟨oc_Ledger_of_pair, od_Ledger_of_pair, .func (PySem.W.fnOf "of_pair" "Ledger.of_pair" (defArgs s_Ledger_of_pair) (defBody s_Ledger_of_pair) (defScope s_Ledger_of_pair) .none kV_Ledger_of_pair dc_Ledger_of_pair pm_Ledger_of_pair an_Ledger_of_pair cd_Ledger_of_pair ct_Ledger_of_pair), sl_Ledger_of_pair⟩)
    (c_Ledger_of_pair : PySem.W.codeIn K cd_Ledger_of_pair "Ledger.of_pair" = true)
    (k_Ledger_of_pair : PySem.W.keepIn K (.ref f_Ledger_of_pair) = true)
    (a_law_class : PySem.W.nsIn K mainGlobals "_law_class" = some (some (.ref f_law_class)))
    (l_law_class : K.lookup f_law_class = some ⟨oc_law_class, od_law_class, .func (PySem.W.fnOf "_law_class" "_law_class" (defArgs s_law_class) (defBody s_law_class) (defScope s_law_class) .none kV_law_class dc_law_class pm_law_class an_law_class cd_law_class ct_law_class), sl_law_class⟩)
    (c_law_class : PySem.W.codeIn K cd_law_class "_law_class" = true)
    (k_law_class : PySem.W.keepIn K (.ref f_law_class) = true)
    (a_law_asked : PySem.W.nsIn K mainGlobals "_law_asked" = some (some (.ref f_law_asked)))
    (l_law_asked : K.lookup f_law_asked = some ⟨oc_law_asked, od_law_asked, .func (PySem.W.fnOf "_law_asked" "_law_asked" (defArgs s_law_asked) (defBody s_law_asked) (defScope s_law_asked) .none kV_law_asked dc_law_asked pm_law_asked an_law_asked cd_law_asked ct_law_asked), sl_law_asked⟩)
    (c_law_asked : PySem.W.codeIn K cd_law_asked "_law_asked" = true)
    (k_law_asked : PySem.W.keepIn K (.ref f_law_asked) = true)
    (a_law_bad : PySem.W.nsIn K mainGlobals "_law_bad" = some (some (.ref f_law_bad)))
    (l_law_bad : K.lookup f_law_bad = some ⟨oc_law_bad, od_law_bad, .func (PySem.W.fnOf "_law_bad" "_law_bad" (defArgs s_law_bad) (defBody s_law_bad) (defScope s_law_bad) .none kV_law_bad dc_law_bad pm_law_bad an_law_bad cd_law_bad ct_law_bad), sl_law_bad⟩)
    (c_law_bad : PySem.W.codeIn K cd_law_bad "_law_bad" = true)
    (k_law_bad : PySem.W.keepIn K (.ref f_law_bad) = true)
    (a_law_room : PySem.W.nsIn K mainGlobals "_law_room" = some (some (.ref f_law_room)))
    (l_law_room : K.lookup f_law_room = some ⟨oc_law_room, od_law_room, .func (PySem.W.fnOf "_law_room" "_law_room" (defArgs s_law_room) (defBody s_law_room) (defScope s_law_room) .none kV_law_room dc_law_room pm_law_room an_law_room cd_law_room ct_law_room), sl_law_room⟩)
    (c_law_room : PySem.W.codeIn K cd_law_room "_law_room" = true)
    (k_law_room : PySem.W.keepIn K (.ref f_law_room) = true)
    (a_Ledger_what : PySem.W.findIn K (.ref C_Ledger) "what" = some (some (.ref f_Ledger_what)))
    (i_Ledger_what : PySem.W.isFn K (.ref f_Ledger_what) = true)
    (l_Ledger_what : K.lookup f_Ledger_what = some ⟨oc_Ledger_what, od_Ledger_what, .func (PySem.W.fnOf "what" "Ledger.what" (defArgs s_Ledger_what) (defBody s_Ledger_what) (defScope s_Ledger_what) .none kV_Ledger_what dc_Ledger_what pm_Ledger_what an_Ledger_what cd_Ledger_what ct_Ledger_what), sl_Ledger_what⟩)
    (c_Ledger_what : PySem.W.codeIn K cd_Ledger_what "Ledger.what" = true)
    (k_Ledger_what : PySem.W.keepIn K (.ref f_Ledger_what) = true)
    (a_law_what : PySem.W.nsIn K mainGlobals "_law_what" = some (some (.ref f_law_what)))
    (l_law_what : K.lookup f_law_what = some ⟨oc_law_what, od_law_what, .func (PySem.W.fnOf "_law_what" "_law_what" (defArgs s_law_what) (defBody s_law_what) (defScope s_law_what) .none kV_law_what dc_law_what pm_law_what an_law_what cd_law_what ct_law_what), sl_law_what⟩)
    (c_law_what : PySem.W.codeIn K cd_law_what "_law_what" = true)
    (k_law_what : PySem.W.keepIn K (.ref f_law_what) = true)
    (a_law_whole : PySem.W.nsIn K mainGlobals "_law_whole" = some (some (.ref f_law_whole)))
    (l_law_whole : K.lookup f_law_whole = some ⟨oc_law_whole, od_law_whole, .func (PySem.W.fnOf "_law_whole" "_law_whole" (defArgs s_law_whole) (defBody s_law_whole) (defScope s_law_whole) .none kV_law_whole dc_law_whole pm_law_whole an_law_whole cd_law_whole ct_law_whole), sl_law_whole⟩)
    (c_law_whole : PySem.W.codeIn K cd_law_whole "_law_whole" = true)
    (k_law_whole : PySem.W.keepIn K (.ref f_law_whole) = true)
    (a_Ledger_many : PySem.W.findIn K (.ref C_Ledger) "many" = some (some (.ref f_Ledger_many)))
    (i_Ledger_many : PySem.W.isFn K (.ref f_Ledger_many) = true)
    (l_Ledger_many : K.lookup f_Ledger_many = some ⟨oc_Ledger_many, od_Ledger_many, .func (PySem.W.fnOf "many" "Ledger.many" (defArgs s_Ledger_many) (defBody s_Ledger_many) (defScope s_Ledger_many) .none kV_Ledger_many dc_Ledger_many pm_Ledger_many an_Ledger_many cd_Ledger_many ct_Ledger_many), sl_Ledger_many⟩)
    (c_Ledger_many : PySem.W.codeIn K cd_Ledger_many "Ledger.many" = true)
    (k_Ledger_many : PySem.W.keepIn K (.ref f_Ledger_many) = true)
    (a_law_same : PySem.W.nsIn K mainGlobals "_law_same" = some (some (.ref f_law_same)))
    (l_law_same : K.lookup f_law_same = some ⟨oc_law_same, od_law_same, .func (PySem.W.fnOf "_law_same" "_law_same" (defArgs s_law_same) (defBody s_law_same) (defScope s_law_same) .none kV_law_same dc_law_same pm_law_same an_law_same cd_law_same ct_law_same), sl_law_same⟩)
    (c_law_same : PySem.W.codeIn K cd_law_same "_law_same" = true)
    (k_law_same : PySem.W.keepIn K (.ref f_law_same) = true)
    (a_law : PySem.W.nsIn K mainGlobals "law" = some (some (.ref f_law)))
    (l_law : K.lookup f_law = some ⟨oc_law, od_law, .func (PySem.W.fnOf "law" "law" (defArgs s_law) (defBody s_law) (defScope s_law) .none kV_law dc_law pm_law an_law cd_law ct_law), sl_law⟩)
    (c_law : PySem.W.codeIn K cd_law "law" = true)
    (k_law : PySem.W.keepIn K (.ref f_law) = true)
    (z_ValueError : PySem.W.nsIn K mainGlobals "ValueError" = some none)
    (z_bool : PySem.W.nsIn K mainGlobals "bool" = some none)
    (z_int : PySem.W.nsIn K mainGlobals "int" = some none)
    (z_isinstance : PySem.W.nsIn K mainGlobals "isinstance" = some none)
    (z_len : PySem.W.nsIn K mainGlobals "len" = some none)
    (z_list : PySem.W.nsIn K mainGlobals "list" = some none)
    (z_min : PySem.W.nsIn K mainGlobals "min" = some none)
    (z_range : PySem.W.nsIn K mainGlobals "range" = some none)
    (z_str : PySem.W.nsIn K mainGlobals "str" = some none)
    (z_tuple : PySem.W.nsIn K mainGlobals "tuple" = some none)
    (z_MOST_SIGNS : PySem.W.nsIn K mainGlobals "MOST_SIGNS" = some (some (.int 40 tk_MOST_SIGNS)))
    (z_SIGNS : PySem.W.nsIn K mainGlobals "SIGNS" = some (some (.str "abcdefghijklmnopqrstuvwxyz0123456789 " tk_SIGNS)))
    : ∃ fd : FuncData, (∀ (s : Shared) (v : Value), BindsTo s fd ⟨[v], []⟩ [("_law_script", v)]) ∧ ∀ base : Heap, K.In base → base.Ns mainGlobals mg → FnOk l.prog w K mg base (L2.CX l.prog w) 6 fa fd ["_law_script"] (sp_law K Cs.none) := by
  have e := hfa.symm.trans (PySem.W.mg_of X G a_law)
  cases e
  let c : Cs := { Ledger := C_Ledger, Book := 0, Looker := 0, TwinError := C_TwinError, NoRow := C_NoRow, NoSum := C_NoSum, NoPlace := C_NoPlace, NoBlock := C_NoBlock, Full := C_Full, Strange := C_Strange, md := MD l.prog w }
  have D : c.md = MD l.prog w := rfl
  have M : BM mg := ⟨PySem.W.mg_none_of X G z_ValueError, PySem.W.mg_none_of X G z_bool, PySem.W.mg_none_of X G z_int, PySem.W.mg_none_of X G z_isinstance, PySem.W.mg_none_of X G z_len, PySem.W.mg_none_of X G z_list, PySem.W.mg_none_of X G z_min, PySem.W.mg_none_of X G z_range, PySem.W.mg_none_of X G z_str, PySem.W.mg_none_of X G z_tuple, ⟨_, PySem.W.mg_of X G z_MOST_SIGNS⟩, ⟨_, PySem.W.mg_of X G z_SIGNS⟩⟩
  have cl_Ledger : Cls K C_Ledger := ⟨pg_Ledger, hd_Ledger, po_Ledger, sa_Ledger⟩
  have T : TxK K c := ⟨cl_Ledger, nf_Ledger_given, nf_Ledger_things, fun d ks => ⟨_, rfl⟩, PySem.W.exm_ref bP_TwinError hd_TwinError tP_TwinError m_NoRow_TwinError, PySem.W.exm_ref bP_TwinError hd_TwinError tP_TwinError m_NoSum_TwinError, ⟨ga_NoRow, gt_NoRow, bP_NoRow, hd_NoRow, cl_NoRow, sp_cls, tk_cls, mo_NoRow⟩, kit_ref hd_Full tP_Full s_NoRow_Full s_NoRow_NoRow, kit_ref hd_NoBlock tP_NoBlock s_NoRow_NoBlock s_NoRow_NoRow, kit_ref hd_NoPlace tP_NoPlace s_NoRow_NoPlace s_NoRow_NoRow, kit_ref hd_Strange tP_Strange s_NoRow_Strange s_NoRow_NoRow, kit_ref hd_NoRow tP_NoRow s_NoRow_NoRow s_NoRow_NoRow, kit_ref hd_NoSum tP_NoSum s_NoRow_NoSum s_NoRow_NoRow, kit_ty (by decide +kernel) ve_NoRow, ⟨ga_NoSum, gt_NoSum, bP_NoSum, hd_NoSum, cl_NoSum, sp_cls, tk_cls, mo_NoSum⟩, kit_ref hd_Full tP_Full s_NoSum_Full s_NoSum_NoSum, kit_ref hd_NoBlock tP_NoBlock s_NoSum_NoBlock s_NoSum_NoSum, kit_ref hd_NoPlace tP_NoPlace s_NoSum_NoPlace s_NoSum_NoSum, kit_ref hd_Strange tP_Strange s_NoSum_Strange s_NoSum_NoSum, kit_ref hd_NoRow tP_NoRow s_NoSum_NoRow s_NoSum_NoSum, kit_ref hd_NoSum tP_NoSum s_NoSum_NoSum s_NoSum_NoSum, kit_ty (by decide +kernel) ve_NoSum⟩
  have X_NoRow : ExcT K mg "NoRow" c.NoRow := ⟨PySem.W.mg_of X G a_NoRow, xP_NoRow, kP_NoRow, bP_NoRow, tP_NoRow⟩
  have X_NoSum : ExcT K mg "NoSum" c.NoSum := ⟨PySem.W.mg_of X G a_NoSum, xP_NoSum, kP_NoSum, bP_NoSum, tP_NoSum⟩
  have X_Full : ExcT K mg "Full" c.Full := ⟨PySem.W.mg_of X G a_Full, xP_Full, kP_Full, bP_Full, tP_Full⟩
  have X_NoBlock : ExcT K mg "NoBlock" c.NoBlock := ⟨PySem.W.mg_of X G a_NoBlock, xP_NoBlock, kP_NoBlock, bP_NoBlock, tP_NoBlock⟩
  have X_NoPlace : ExcT K mg "NoPlace" c.NoPlace := ⟨PySem.W.mg_of X G a_NoPlace, xP_NoPlace, kP_NoPlace, bP_NoPlace, tP_NoPlace⟩
  have X_Strange : ExcT K mg "Strange" c.Strange := ⟨PySem.W.mg_of X G a_Strange, xP_Strange, kP_Strange, bP_Strange, tP_Strange⟩
  have X_TwinError : ExcT K mg "TwinError" c.TwinError := ⟨PySem.W.mg_of X G a_TwinError, xP_TwinError, kP_TwinError, bP_TwinError, tP_TwinError⟩
  have F_Ledger_init := fun_mk (st := s_Ledger_init) l_Ledger_init c_Ledger_init k_Ledger_init
  have b_Ledger_init := F_Ledger_init.binds (ps := ["self"]) fun _ _ _ _ _ _ us hl => match us, hl with | [_], _ => rfl
  have H_Ledger_init : IniG K mg c.Ledger "Ledger" "Ledger.__init__" s_Ledger_init ["self"] := ⟨⟨_, _, F_Ledger_init, ⟨mk_Ledger, a_Ledger_init, i_Ledger_init, kc_Ledger⟩, PySem.W.mg_of X G a_Ledger, b_Ledger_init⟩⟩
  have F_law_mix := fun_mk (st := s_law_mix) l_law_mix c_law_mix k_law_mix
  have b_law_mix := F_law_mix.binds (ps := ["_law_number", "_law_k"]) fun _ _ _ _ _ _ us hl => match us, hl with | [_, _], _ => rfl
  have H_law_mix : FunG K mg "_law_mix" s_law_mix ["_law_number", "_law_k"] := ⟨⟨_, _, F_law_mix, PySem.W.mg_of X G a_law_mix, b_law_mix⟩⟩
  have F_law_text := fun_mk (st := s_law_text) l_law_text c_law_text k_law_text
  have b_law_text := F_law_text.binds (ps := ["_law_cell"]) fun _ _ _ _ _ _ us hl => match us, hl with | [_], _ => rfl
  have H_law_text : FunG K mg "_law_text" s_law_text ["_law_cell"] := ⟨⟨_, _, F_law_text, PySem.W.mg_of X G a_law_text, b_law_text⟩⟩
  have F_law_near := fun_mk (st := s_law_near) l_law_near c_law_near k_law_near
  have b_law_near := F_law_near.binds (ps := ["_law_text_here", "_law_cell"]) fun _ _ _ _ _ _ us hl => match us, hl with | [_, _], _ => rfl
  have H_law_near : FunG K mg "_law_near" s_law_near ["_law_text_here", "_law_cell"] := ⟨⟨_, _, F_law_near, PySem.W.mg_of X G a_law_near, b_law_near⟩⟩
  have F_law_thing := fun_mk (st := s_law_thing) l_law_thing c_law_thing k_law_thing
  have b_law_thing := F_law_thing.binds (ps := ["_law_things", "_law_cell"]) fun _ _ _ _ _ _ us hl => match us, hl with | [_, _], _ => rfl
  have H_law_thing : FunG K mg "_law_thing" s_law_thing ["_law_things", "_law_cell"] := ⟨⟨_, _, F_law_thing, PySem.W.mg_of X G a_law_thing, b_law_thing⟩⟩
  have F_is_row := fun_mk (st := s_is_row) l_is_row c_is_row k_is_row
  have b_is_row := F_is_row.binds (ps := ["thing"]) fun _ _ _ _ _ _ us hl => match us, hl with | [_], _ => rfl
  have H_is_row : FunG K mg "is_row" s_is_row ["thing"] := ⟨⟨_, _, F_is_row, PySem.W.mg_of X G a_is_row, b_is_row⟩⟩
  have F_sure_row := fun_mk (st := s_sure_row) l_sure_row c_sure_row k_sure_row
  have b_sure_row := F_sure_row.binds (ps := ["thing"]) fun _ _ _ _ _ _ us hl => match us, hl with | [_], _ => rfl
  have H_sure_row : FunG K mg "sure_row" s_sure_row ["thing"] := ⟨⟨_, _, F_sure_row, PySem.W.mg_of X G a_sure_row, b_sure_row⟩⟩
  have F_Ledger_number_of := fun_mk (st := s_Ledger_number_of) l_Ledger_number_of c_Ledger_number_of k_Ledger_number_of
  have b_Ledger_number_of := F_Ledger_number_of.binds (ps := ["self", "thing"]) fun _ _ _ _ _ _ us hl => match us, hl with | [_, _], _ => rfl
  have H_Ledger_number_of : MetG K c.Ledger "number_of" "Ledger.number_of" s_Ledger_number_of ["self", "thing"] := ⟨⟨_, _, F_Ledger_number_of, ⟨a_Ledger_number_of, i_Ledger_number_of, k_Ledger_number_of⟩, b_Ledger_number_of⟩⟩
  have F_Ledger_of_row := fun_mk (st := s_Ledger_of_row) l_Ledger_of_row c_Ledger_of_row k_Ledger_of_row
  have b_Ledger_of_row := F_Ledger_of_row.binds (ps := ["self", "row"]) fun _ _ _ _ _ _ us hl => match us, hl with | [_, _], _ => rfl
  have H_Ledger_of_row : MetG K c.Ledger "of_row" "Ledger.of_row" s_Ledger_of_row ["self", "row"] := ⟨⟨_, _, F_Ledger_of_row, ⟨a_Ledger_of_row, i_Ledger_of_row, k_Ledger_of_row⟩, b_Ledger_of_row⟩⟩
  have F_is_whole := fun_mk (st := s_is_whole) l_is_whole c_is_whole k_is_whole
  have b_is_whole := F_is_whole.binds (ps := ["thing"]) fun _ _ _ _ _ _ us hl => match us, hl with | [_], _ => rfl
  have H_is_whole : FunG K mg "is_whole" s_is_whole ["thing"] := ⟨⟨_, _, F_is_whole, PySem.W.mg_of X G a_is_whole, b_is_whole⟩⟩
  have F_Ledger_sure := fun_mk (st := s_Ledger_sure) l_Ledger_sure c_Ledger_sure k_Ledger_sure
  have b_Ledger_sure := F_Ledger_sure.binds (ps := ["self", "number"]) fun _ _ _ _ _ _ us hl => match us, hl with | [_, _], _ => rfl
  have H_Ledger_sure : MetG K c.Ledger "sure" "Ledger.sure" s_Ledger_sure ["self", "number"] := ⟨⟨_, _, F_Ledger_sure, ⟨a_Ledger_sure, i_Ledger_sure, k_Ledger_sure⟩, b_Ledger_sure⟩⟩
  have F_Ledger_of_pair := fun_mk (st := s_Ledger_of_pair) l_Ledger_of_pair c_Ledger_of_pair k_Ledger_of_pair
  have b_Ledger_of_pair := F_Ledger_of_pair.binds (ps := ["self", "one", "other"]) fun _ _ _ _ _ _ us hl => match us, hl with | [_, _, _], _ => rfl
  have H_Ledger_of_pair : MetG K c.Ledger "of_pair" "Ledger.of_pair" s_Ledger_of_pair ["self", "one", "other"] := ⟨⟨_, _, F_Ledger_of_pair, ⟨a_Ledger_of_pair, i_Ledger_of_pair, k_Ledger_of_pair⟩, b_Ledger_of_pair⟩⟩
  have F_law_class := fun_mk (st := s_law_class) l_law_class c_law_class k_law_class
  have b_law_class := F_law_class.binds (ps := ["_law_e"]) fun _ _ _ _ _ _ us hl => match us, hl with | [_], _ => rfl
  have H_law_class : FunG K mg "_law_class" s_law_class ["_law_e"] := ⟨⟨_, _, F_law_class, PySem.W.mg_of X G a_law_class, b_law_class⟩⟩
  have F_law_asked := fun_mk (st := s_law_asked) l_law_asked c_law_asked k_law_asked
  have b_law_asked := F_law_asked.binds (ps := ["_law_ledger", "_law_thing_here"]) fun _ _ _ _ _ _ us hl => match us, hl with | [_, _], _ => rfl
  have H_law_asked : FunG K mg "_law_asked" s_law_asked ["_law_ledger", "_law_thing_here"] := ⟨⟨_, _, F_law_asked, PySem.W.mg_of X G a_law_asked, b_law_asked⟩⟩
  have F_law_bad := fun_mk (st := s_law_bad) l_law_bad c_law_bad k_law_bad
  have b_law_bad := F_law_bad.binds (ps := ["_law_cell", "_law_many"]) fun _ _ _ _ _ _ us hl => match us, hl with | [_, _], _ => rfl
  have H_law_bad : FunG K mg "_law_bad" s_law_bad ["_law_cell", "_law_many"] := ⟨⟨_, _, F_law_bad, PySem.W.mg_of X G a_law_bad, b_law_bad⟩⟩
  have F_law_room := fun_mk (st := s_law_room) l_law_room c_law_room k_law_room
  have b_law_room := F_law_room.binds (ps := ["_law_script", "_law_small", "_law_great"]) fun _ _ _ _ _ _ us hl => match us, hl with | [_, _, _], _ => rfl
  have H_law_room : FunG K mg "_law_room" s_law_room ["_law_script", "_law_small", "_law_great"] := ⟨⟨_, _, F_law_room, PySem.W.mg_of X G a_law_room, b_law_room⟩⟩
  have F_Ledger_what := fun_mk (st := s_Ledger_what) l_Ledger_what c_Ledger_what k_Ledger_what
  have b_Ledger_what := F_Ledger_what.binds (ps := ["self", "number"]) fun _ _ _ _ _ _ us hl => match us, hl with | [_, _], _ => rfl
  have H_Ledger_what : MetG K c.Ledger "what" "Ledger.what" s_Ledger_what ["self", "number"] := ⟨⟨_, _, F_Ledger_what, ⟨a_Ledger_what, i_Ledger_what, k_Ledger_what⟩, b_Ledger_what⟩⟩
  have F_law_what := fun_mk (st := s_law_what) l_law_what c_law_what k_law_what
  have b_law_what := F_law_what.binds (ps := ["_law_ledger", "_law_number"]) fun _ _ _ _ _ _ us hl => match us, hl with | [_, _], _ => rfl
  have H_law_what : FunG K mg "_law_what" s_law_what ["_law_ledger", "_law_number"] := ⟨⟨_, _, F_law_what, PySem.W.mg_of X G a_law_what, b_law_what⟩⟩
  have F_law_whole := fun_mk (st := s_law_whole) l_law_whole c_law_whole k_law_whole
  have b_law_whole := F_law_whole.binds (ps := ["_law_found"]) fun _ _ _ _ _ _ us hl => match us, hl with | [_], _ => rfl
  have H_law_whole : FunG K mg "_law_whole" s_law_whole ["_law_found"] := ⟨⟨_, _, F_law_whole, PySem.W.mg_of X G a_law_whole, b_law_whole⟩⟩
  have F_Ledger_many := fun_mk (st := s_Ledger_many) l_Ledger_many c_Ledger_many k_Ledger_many
  have b_Ledger_many := F_Ledger_many.binds (ps := ["self"]) fun _ _ _ _ _ _ us hl => match us, hl with | [_], _ => rfl
  have H_Ledger_many : MetG K c.Ledger "many" "Ledger.many" s_Ledger_many ["self"] := ⟨⟨_, _, F_Ledger_many, ⟨a_Ledger_many, i_Ledger_many, k_Ledger_many⟩, b_Ledger_many⟩⟩
  have F_law_same := fun_mk (st := s_law_same) l_law_same c_law_same k_law_same
  have b_law_same := F_law_same.binds (ps := ["_law_ledger", "_law_things", "_law_cell"]) fun _ _ _ _ _ _ us hl => match us, hl with | [_, _, _], _ => rfl
  have H_law_same : FunG K mg "_law_same" s_law_same ["_law_ledger", "_law_things", "_law_cell"] := ⟨⟨_, _, F_law_same, PySem.W.mg_of X G a_law_same, b_law_same⟩⟩
  have F_law := fun_mk (st := s_law) l_law c_law k_law
  have b_law := F_law.binds (ps := ["_law_script"]) fun _ _ _ _ _ _ us hl => match us, hl with | [_], _ => rfl
  refine ⟨PySem.W.fnOf "law" "law" (defArgs s_law) (defBody s_law) (defScope s_law) .none kV_law dc_law pm_law an_law cd_law ct_law, fun s v => .of_eq rfl, fun base _ _ => ?_⟩
  have G_Ledger_init : MkG l.prog w K mg base 1 c.Ledger "Ledger" ["self"] (sp_Ledger_init K c) := ok_Ledger_init M T H_Ledger_init D
  have G_law_mix : FnG l.prog w K mg base 1 "_law_mix" ["_law_number", "_law_k"] (sp_law_mix K c) := ok_law_mix M T H_law_mix D
  have G_law_text : FnG l.prog w K mg base 2 "_law_text" ["_law_cell"] (sp_law_text K c) := ok_law_text M T H_law_text D G_law_mix
  have G_law_near : FnG l.prog w K mg base 1 "_law_near" ["_law_text_here", "_law_cell"] (sp_law_near K c) := ok_law_near M T H_law_near D
  have G_law_thing : FnG l.prog w K mg base 3 "_law_thing" ["_law_things", "_law_cell"] (sp_law_thing K c) := ok_law_thing M T H_law_thing D G_law_text G_law_near G_law_mix
  have G_is_row : FnG l.prog w K mg base 1 "is_row" ["thing"] (sp_is_row K c) := ok_is_row M T H_is_row D
  have G_sure_row : FnG l.prog w K mg base 2 "sure_row" ["thing"] (sp_sure_row K c) := ok_sure_row M T H_sure_row D X_NoRow G_is_row
  have G_Ledger_number_of : MtG l.prog w K mg base 1 c.Ledger "number_of" ["self", "thing"] (sp_Ledger_number_of K c) := ok_Ledger_number_of M T H_Ledger_number_of D
  have G_Ledger_of_row : MtG l.prog w K mg base 3 c.Ledger "of_row" ["self", "row"] (sp_Ledger_of_row K c) := ok_Ledger_of_row M T H_Ledger_of_row D G_sure_row G_Ledger_number_of
  have G_is_whole : FnG l.prog w K mg base 1 "is_whole" ["thing"] (sp_is_whole K c) := ok_is_whole M T H_is_whole D
  have G_Ledger_sure : MtG l.prog w K mg base 2 c.Ledger "sure" ["self", "number"] (sp_Ledger_sure K c) := ok_Ledger_sure M T H_Ledger_sure D X_NoSum G_is_whole
  have G_Ledger_of_pair : MtG l.prog w K mg base 3 c.Ledger "of_pair" ["self", "one", "other"] (sp_Ledger_of_pair K c) := ok_Ledger_of_pair M T H_Ledger_of_pair D G_Ledger_sure G_Ledger_number_of
  have G_law_class : FnEG l.prog w K mg base 1 "_law_class" ["_law_e"] (sp_law_class K c) := ok_law_class M T H_law_class D X_Full X_NoBlock X_NoPlace X_Strange X_NoRow X_NoSum
  have G_law_asked : FnG l.prog w K mg base 4 "_law_asked" ["_law_ledger", "_law_thing_here"] (sp_law_asked K c) := ok_law_asked M T H_law_asked D X_TwinError G_Ledger_of_row G_Ledger_of_pair G_law_class
  have G_law_bad : FnG l.prog w K mg base 1 "_law_bad" ["_law_cell", "_law_many"] (sp_law_bad K c) := ok_law_bad M T H_law_bad D
  have G_law_room : FnG l.prog w K mg base 1 "_law_room" ["_law_script", "_law_small", "_law_great"] (sp_law_room K c) := ok_law_room M T H_law_room D
  have G_Ledger_what : MtG l.prog w K mg base 3 c.Ledger "what" ["self", "number"] (sp_Ledger_what K c) := ok_Ledger_what M T H_Ledger_what D G_Ledger_sure
  have G_law_what : FnG l.prog w K mg base 4 "_law_what" ["_law_ledger", "_law_number"] (sp_law_what K c) := ok_law_what M T H_law_what D X_TwinError G_Ledger_what G_law_class
  have G_law_whole : FnG l.prog w K mg base 1 "_law_whole" ["_law_found"] (sp_law_whole K c) := ok_law_whole M T H_law_whole D
  have G_Ledger_many : MtG l.prog w K mg base 1 c.Ledger "many" ["self"] (sp_Ledger_many K c) := ok_Ledger_many M T H_Ledger_many D
  have G_law_same : FnG l.prog w K mg base 5 "_law_same" ["_law_ledger", "_law_things", "_law_cell"] (sp_law_same K c) := ok_law_same M T H_law_same D G_law_what G_Ledger_what G_law_mix G_law_whole G_Ledger_many
  have G_law := ok_law (P := l.prog) (w := w) (base := base) M T F_law D G_Ledger_init G_law_thing G_law_asked G_law_bad G_law_room G_law_mix G_law_same G_law_whole
  exact G_law
theorem walk {l : PySem.W.OpenLaw} {q : Program} {loose : List Str} {XP : (Str → Option Value) → Heap → Prop} {YP : World → Heap → Prop} {d : DefRec} {K : Params → PySem.W.Frag} (hn : l.most = some 63) (hdf : d.params.defaults = [])
    (hY : ∀ (w : World) (h : Heap), YP w h → (K w.params).In h)
    (F : ∀ (w : World) (mg : Str → Option Value) (fa : Addr) (h : Heap), (K w.params).In h → h.Ns mainGlobals mg → mg d.name = some (.ref fa) →
      ∃ fd : FuncData, (∀ (s : Shared) (u : Value), BindsTo s fd ⟨[u], []⟩ [("_law_script", u)]) ∧ ∀ base : Heap, (K w.params).In base → base.Ns mainGlobals mg → FnOk l.prog w (K w.params) mg base (L2.CX l.prog w) 6 fa fd ["_law_script"] (sp_law (K w.params) Cs.none)) :
    PySem.W.WalkO q loose XP YP l.row.toRowW d [] (fun f vs => PySem.call f vs) :=
  L2.walk_of (n := 63) (k := 6) (x := "_law_script") (CX := fun w => L2.CX l.prog w) (sp := fun w => sp_law (K w.params) Cs.none) hn (by decide) hdf ⟨rfl, by decide, by decide⟩ hY F (fun _ _ a ns hl _ hS => ⟨a, ns, rfl, hS, hl, fun _ => rfl⟩)
    fun _ _ _ _ _ h => by
      obtain ⟨_, _, _, _, _, _, _, _, _, _, _, _, z⟩ := h
      exact z.elim
end Tw
open PySem PySem.W PyProof.Rows
set_option maxRecDepth 100000 in
set_option maxHeartbeats 0 in
theorem PySem.Challenge.cw_twinsum_k02_ledger_gives_holds : PySem.Challenge.rw_twinsum_k02_ledger_gives.Holds := by
  w_on; o_law; k_head; (case hw => w_witness2)
  k_fill
  refine Tw.walk (l := PySem.Challenge.rw_twinsum_k02_ledger_gives) rfl rfl (fun w h Y => PySem.W.kIn_of Y) ?F
  case F =>
    intro w mg fa h KX G hmg
    refine' Tw.all_mk KX G hmg ?a_Ledger ?pg_Ledger ?hd_Ledger ?po_Ledger ?sa_Ledger ?mk_Ledger ?kc_Ledger ?nf_Ledger_given ?nf_Ledger_things ?a_NoRow ?xP_NoRow ?kP_NoRow ?bP_NoRow ?tP_NoRow ?a_NoSum ?xP_NoSum ?kP_NoSum ?bP_NoSum ?tP_NoSum ?a_Full ?xP_Full ?kP_Full ?bP_Full ?tP_Full ?a_NoBlock ?xP_NoBlock ?kP_NoBlock ?bP_NoBlock ?tP_NoBlock ?a_NoPlace ?xP_NoPlace ?kP_NoPlace ?bP_NoPlace ?tP_NoPlace ?a_Strange ?xP_Strange ?kP_Strange ?bP_Strange ?tP_Strange ?a_TwinError ?xP_TwinError ?kP_TwinError ?bP_TwinError ?tP_TwinError ?m_NoRow_TwinError ?m_NoSum_TwinError ?hd_TwinError ?hd_NoRow ?hd_NoSum ?hd_Full ?hd_NoBlock ?hd_NoPlace ?hd_Strange ?ga_NoRow ?gt_NoRow ?cl_NoRow ?mo_NoRow ?ve_NoRow ?s_NoRow_NoRow ?s_NoRow_Full ?s_NoRow_NoBlock ?s_NoRow_NoPlace ?s_NoRow_Strange ?s_NoRow_NoSum ?ga_NoSum ?gt_NoSum ?cl_NoSum ?mo_NoSum ?ve_NoSum ?s_NoSum_NoSum ?s_NoSum_Full ?s_NoSum_NoBlock ?s_NoSum_NoPlace ?s_NoSum_Strange ?s_NoSum_NoRow ?sp_cls ?tk_cls ?a_Ledger_init ?i_Ledger_init ?l_Ledger_init ?c_Ledger_init ?k_Ledger_init ?a_law_mix ?l_law_mix ?c_law_mix ?k_law_mix ?a_law_text ?l_law_text ?c_law_text ?k_law_text ?a_law_near ?l_law_near ?c_law_near ?k_law_near ?a_law_thing ?l_law_thing ?c_law_thing ?k_law_thing ?a_is_row ?l_is_row ?c_is_row ?k_is_row ?a_sure_row ?l_sure_row ?c_sure_row ?k_sure_row ?a_Ledger_number_of ?i_Ledger_number_of ?l_Ledger_number_of ?c_Ledger_number_of ?k_Ledger_number_of ?a_Ledger_of_row ?i_Ledger_of_row ?l_Ledger_of_row ?c_Ledger_of_row ?k_Ledger_of_row ?a_is_whole ?l_is_whole ?c_is_whole ?k_is_whole ?a_Ledger_sure ?i_Ledger_sure ?l_Ledger_sure ?c_Ledger_sure ?k_Ledger_sure ?a_Ledger_of_pair ?i_Ledger_of_pair ?l_Ledger_of_pair ?c_Ledger_of_pair ?k_Ledger_of_pair ?a_law_class ?l_law_class ?c_law_class ?k_law_class ?a_law_asked ?l_law_asked ?c_law_asked ?k_law_asked ?a_law_bad ?l_law_bad ?c_law_bad ?k_law_bad ?a_law_room ?l_law_room ?c_law_room ?k_law_room ?a_Ledger_what ?i_Ledger_what ?l_Ledger_what ?c_Ledger_what ?k_Ledger_what ?a_law_what ?l_law_what ?c_law_what ?k_law_what ?a_law_whole ?l_law_whole ?c_law_whole ?k_law_whole ?a_Ledger_many ?i_Ledger_many ?l_Ledger_many ?c_Ledger_many ?k_Ledger_many ?a_law_same ?l_law_same ?c_law_same ?k_law_same ?a_law ?l_law ?c_law ?k_law ?z_ValueError ?z_bool ?z_int ?z_isinstance ?z_len ?z_list ?z_min ?z_range ?z_str ?z_tuple ?z_MOST_SIGNS ?z_SIGNS
    (case a_Ledger => k_is)
    (case pg_Ledger => k_is)
    (case hd_Ledger => k_is)
    (case po_Ledger => k_is)
    (case sa_Ledger => k_is)
    (case mk_Ledger => k_is)
    (case kc_Ledger => k_is)
    (case nf_Ledger_given => k_is)
    (case nf_Ledger_things => k_is)
    (case a_NoRow => k_is)
    (case xP_NoRow => k_exc)
    (case kP_NoRow => k_is)
    (case bP_NoRow => k_is)
    (case tP_NoRow => k_is)
    (case a_NoSum => k_is)
    (case xP_NoSum => k_exc)
    (case kP_NoSum => k_is)
    (case bP_NoSum => k_is)
    (case tP_NoSum => k_is)
    (case a_Full => k_is)
    (case xP_Full => k_exc)
    (case kP_Full => k_is)
    (case bP_Full => k_is)
    (case tP_Full => k_is)
    (case a_NoBlock => k_is)
    (case xP_NoBlock => k_exc)
    (case kP_NoBlock => k_is)
    (case bP_NoBlock => k_is)
    (case tP_NoBlock => k_is)
    (case a_NoPlace => k_is)
    (case xP_NoPlace => k_exc)
    (case kP_NoPlace => k_is)
    (case bP_NoPlace => k_is)
    (case tP_NoPlace => k_is)
    (case a_Strange => k_is)
    (case xP_Strange => k_exc)
    (case kP_Strange => k_is)
    (case bP_Strange => k_is)
    (case tP_Strange => k_is)
    (case a_TwinError => k_is)
    (case xP_TwinError => k_exc)
    (case kP_TwinError => k_is)
    (case bP_TwinError => k_is)
    (case tP_TwinError => k_is)
    (case m_NoRow_TwinError => k_is)
    (case m_NoSum_TwinError => k_is)
    (case hd_TwinError => k_is)
    (case hd_NoRow => k_is)
    (case hd_NoSum => k_is)
    (case hd_Full => k_is)
    (case hd_NoBlock => k_is)
    (case hd_NoPlace => k_is)
    (case hd_Strange => k_is)
    (case ga_NoRow => k_is)
    (case gt_NoRow => k_is)
    (case cl_NoRow => k_is)
    (case mo_NoRow => k_is)
    (case ve_NoRow => k_is)
    (case s_NoRow_NoRow => k_is)
    (case s_NoRow_Full => k_is)
    (case s_NoRow_NoBlock => k_is)
    (case s_NoRow_NoPlace => k_is)
    (case s_NoRow_Strange => k_is)
    (case s_NoRow_NoSum => k_is)
    (case ga_NoSum => k_is)
    (case gt_NoSum => k_is)
    (case cl_NoSum => k_is)
    (case mo_NoSum => k_is)
    (case ve_NoSum => k_is)
    (case s_NoSum_NoSum => k_is)
    (case s_NoSum_Full => k_is)
    (case s_NoSum_NoBlock => k_is)
    (case s_NoSum_NoPlace => k_is)
    (case s_NoSum_Strange => k_is)
    (case s_NoSum_NoRow => k_is)
    (case sp_cls => k_is)
    (case tk_cls => k_is)
    (case a_Ledger_init => k_is)
    (case i_Ledger_init => k_is)
    (case l_Ledger_init => k_is)
    (case c_Ledger_init => k_is)
    (case k_Ledger_init => k_is)
    (case a_law_mix => k_is)
    (case l_law_mix => k_is)
    (case c_law_mix => k_is)
    (case k_law_mix => k_is)
    (case a_law_text => k_is)
    (case l_law_text => k_is)
    (case c_law_text => k_is)
    (case k_law_text => k_is)
    (case a_law_near => k_is)
    (case l_law_near => k_is)
    (case c_law_near => k_is)
    (case k_law_near => k_is)
    (case a_law_thing => k_is)
    (case l_law_thing => k_is)
    (case c_law_thing => k_is)
    (case k_law_thing => k_is)
    (case a_is_row => k_is)
    (case l_is_row => k_is)
    (case c_is_row => k_is)
    (case k_is_row => k_is)
    (case a_sure_row => k_is)
    (case l_sure_row => k_is)
    (case c_sure_row => k_is)
    (case k_sure_row => k_is)
    (case a_Ledger_number_of => k_is)
    (case i_Ledger_number_of => k_is)
    (case l_Ledger_number_of => k_is)
    (case c_Ledger_number_of => k_is)
    (case k_Ledger_number_of => k_is)
    (case a_Ledger_of_row => k_is)
    (case i_Ledger_of_row => k_is)
    (case l_Ledger_of_row => k_is)
    (case c_Ledger_of_row => k_is)
    (case k_Ledger_of_row => k_is)
    (case a_is_whole => k_is)
    (case l_is_whole => k_is)
    (case c_is_whole => k_is)
    (case k_is_whole => k_is)
    (case a_Ledger_sure => k_is)
    (case i_Ledger_sure => k_is)
    (case l_Ledger_sure => k_is)
    (case c_Ledger_sure => k_is)
    (case k_Ledger_sure => k_is)
    (case a_Ledger_of_pair => k_is)
    (case i_Ledger_of_pair => k_is)
    (case l_Ledger_of_pair => k_is)
    (case c_Ledger_of_pair => k_is)
    (case k_Ledger_of_pair => k_is)
    (case a_law_class => k_is)
    (case l_law_class => k_is)
    (case c_law_class => k_is)
    (case k_law_class => k_is)
    (case a_law_asked => k_is)
    (case l_law_asked => k_is)
    (case c_law_asked => k_is)
    (case k_law_asked => k_is)
    (case a_law_bad => k_is)
    (case l_law_bad => k_is)
    (case c_law_bad => k_is)
    (case k_law_bad => k_is)
    (case a_law_room => k_is)
    (case l_law_room => k_is)
    (case c_law_room => k_is)
    (case k_law_room => k_is)
    (case a_Ledger_what => k_is)
    (case i_Ledger_what => k_is)
    (case l_Ledger_what => k_is)
    (case c_Ledger_what => k_is)
    (case k_Ledger_what => k_is)
    (case a_law_what => k_is)
    (case l_law_what => k_is)
    (case c_law_what => k_is)
    (case k_law_what => k_is)
    (case a_law_whole => k_is)
    (case l_law_whole => k_is)
    (case c_law_whole => k_is)
    (case k_law_whole => k_is)
    (case a_Ledger_many => k_is)
    (case i_Ledger_many => k_is)
    (case l_Ledger_many => k_is)
    (case c_Ledger_many => k_is)
    (case k_Ledger_many => k_is)
    (case a_law_same => k_is)
    (case l_law_same => k_is)
    (case c_law_same => k_is)
    (case k_law_same => k_is)
    (case a_law => k_is)
    (case l_law => k_is)
    (case c_law => k_is)
    (case k_law => k_is)
    (case z_ValueError => k_is)
    (case z_bool => k_is)
    (case z_int => k_is)
    (case z_isinstance => k_is)
    (case z_len => k_is)
    (case z_list => k_is)
    (case z_min => k_is)
    (case z_range => k_is)
    (case z_str => k_is)
    (case z_tuple => k_is)
    (case z_MOST_SIGNS => k_is)
    (case z_SIGNS => k_is)
#print axioms PySem.Challenge.cw_twinsum_k02_ledger_gives_holds

