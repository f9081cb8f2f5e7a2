import PyProof.Rows.All
import Wide.All
import OpenK.AllK
import Wide.FinOn
import HandS.ForMost
import HandS.ForExc
import HandS.IsInst
import HandS.ExcIs
import HandS.TryMany
import HandS.SortInts
import HandS.Evl
import PySem.Challenge.RW_twinsum_k01_digits_and_parts
set_option Elab.async false
set_option linter.all false
set_option maxRecDepth 100000
set_option maxHeartbeats 4000000
namespace Ts
open PySem L2
/-! ### heaps -/
abbrev Ex := Evl.Ex
theorem ex_refl {H : Hp} : Ex H H := Evl.Ex.refl H
theorem ex_new {H H' : Hp} {p : Addr} {o : HO} (e : Ex H H') (h : H' p = none) : Ex H (upd H' p o) := e.trans (Evl.Ex.new h)
theorem ex_mut {H H' : Hp} {p : Addr} {o : HO} (e : Ex H H') (h : H p = none) : Ex H (upd H' p o) := Evl.Ex.mut e h
theorem ex_free {H H' : Hp} {p : Addr} (e : Ex H H') (h : H' p = none) : H p = none := Evl.fresh_back e h
theorem sz100 {n : Nat} (h : n ≤ 100) : n ≤ sizeLine := Nat.le_trans h (by decide)
theorem szM {n : Nat} (h : n ≤ 1000000) : n ≤ sizeLine := Nat.le_trans h (by decide)
theorem szL {n : Nat} (h : n < 1000000) : n < sizeLine := Nat.lt_of_lt_of_le h (by decide)

/-! ### operators of any kind -/
def rAddI : R2 := rI0 fun i j => .int (i + j)
def rAddS : R2 := fun x y H Q => ∃ i j, x = .str i ∧ y = .str j ∧ i.length + j.length ≤ sizeLine ∧ Q (.str (i ++ j)) H
def rAddU : R2 := fun x y H Q => rAddI x y H Q ∨ rAddS x y H Q ∨ rCat x y H Q
theorem op_addU {X : Cx} : OpR X (binaryOp .Add) rAddU := op_add.or (op_add_str.or op_cat)
def rSubI : R2 := rI0 fun i j => .int (i - j)
theorem op_sub1 {X : Cx} : OpR X (binaryOp .Sub) rSubI := op_sub
def rMul : R2 := rI CMul fun i j => .int (i * j)
theorem op_mul1 {X : Cx} : OpR X (binaryOp .Mult) rMul := op_mul
def rDiv : R2 := rI CDiv fun i j => .int (i / j)
theorem op_div1 {X : Cx} : OpR X (binaryOp .FloorDiv) rDiv := op_fdiv
def rMod : R2 := rI (fun _ j => 0 < j) fun i j => .int (i % j)
theorem op_mod1 {X : Cx} : OpR X (binaryOp .Mod) rMod := op_mod
def rPow : R2 := rI CPow fun i j => .int (i ^ j.toNat)
theorem op_pow1 {X : Cx} : OpR X (binaryOp .Pow) rPow := op_pow
def rLt : R2 := rI0 fun i j => .bl (decide (i < j))
def rLe : R2 := rI0 fun i j => .bl (decide (i ≤ j))
def rGt : R2 := rI0 fun i j => .bl (decide (j < i))
def rGe : R2 := rI0 fun i j => .bl (decide (j ≤ i))
theorem op_lt1 {X : Cx} : OpR X (compareOp .Lt) rLt := op_lt
theorem op_le1 {X : Cx} : OpR X (compareOp .LtE) rLe := op_le
theorem op_gt1 {X : Cx} : OpR X (compareOp .Gt) rGt := op_gt
theorem op_ge1 {X : Cx} : OpR X (compareOp .GtE) rGe := op_ge
def rEqU (K : PySem.W.Frag) : R2 := fun x y H Q => rEq x y H Q ∨ rEqD K x y H Q
def rNeU (K : PySem.W.Frag) : R2 := fun x y H Q => rNe x y H Q ∨ rNeD K x y H Q
theorem op_eqU {X : Cx} (hu : X.A.units + 64 < cLine) : OpR X (compareOp .Eq) (rEqU X.K) := op_eq.or (op_eqD hu)
theorem op_neU {X : Cx} (hu : X.A.units + 64 < cLine) : OpR X (compareOp .NotEq) (rNeU X.K) := op_ne.or (op_neD hu)
def rIsN : R2 := fun x y H Q => y = .non ∧ Q (.bl (decide (x = .non))) H
def rNotN : R2 := fun x y H Q => y = .non ∧ Q (.bl (!decide (x = .non))) H
theorem op_isN1 {X : Cx} : OpR X (compareOp .Is) rIsN := op_isN
theorem op_notN1 {X : Cx} : OpR X (compareOp .IsNot) rNotN := op_notN
def rLen (K : PySem.W.Frag) : List V → Hp → VK → Prop := fun xs H Q => ∃ x n, xs = [x] ∧ LenV K x H n ∧ Q (.int (n : Nat)) H
theorem call_len1 {X : Cx} : CallR X (.builtin "len") (rLen X.K) := call_len
def rMax : List V → Hp → VK → Prop := fun xs H Q => ∃ i j, xs = [.int i, .int j] ∧ Q (.int (if j > i then j else i)) H
def rMin : List V → Hp → VK → Prop := fun xs H Q => ∃ i j, xs = [.int i, .int j] ∧ Q (.int (if j < i then j else i)) H
theorem call_max1 {X : Cx} (hc : X.calm = true) : CallR X (.builtin "max") rMax := call_max2 hc
theorem call_min1 {X : Cx} (hc : X.calm = true) : CallR X (.builtin "min") rMin := call_min2 hc
def rListOf (K : PySem.W.Frag) : List V → Hp → VK → Prop := fun xs H Q => ∃ p ys, xs = [.ref p] ∧ (SqL K H p ys ∨ SqT K H p ys) ∧ ∀ l, H l = none → Q (.ref l) (upd H l (.lst ys))
theorem call_list1 {X : Cx} : CallR X (.type "list") (rListOf X.K) := call_list_of
def rInt1 : List V → Hp → VK → Prop := fun xs H Q => (∃ i, xs = [.int i] ∧ Q (.int i) H) ∨ ∃ k, xs = [.bl k] ∧ Q (.int (if k then 1 else 0)) H
theorem call_int2 {X : Cx} : CallR X (.type "int") rInt1 := call_int1
def rStr1 : List V → Hp → VK → Prop := fun xs H Q => ∃ i, xs = [.int i] ∧ i.natAbs.log2 < 1920 ∧ Q (.str (toString i)) H
theorem call_str1 {X : Cx} : CallR X (.type "str") rStr1 := call_str_int
def rSlU (K : PySem.W.Frag) : V → Option Int → Option Int → Hp → VK → Prop := fun x lo hi H Q => rSlL K x lo hi H Q ∨ rSlS x lo hi H Q
theorem sl_U {X : Cx} : SlR X (rSlU X.K) := by
  intro pins s σ H x v vl vu lo hi sl Q I rx hs pl pu h
  rcases h with h | h
  · exact sl_list pins s σ H x v vl vu lo hi sl Q I rx hs pl pu h
  · exact sl_str pins s σ H x v vl vu lo hi sl Q I rx hs pl pu h

/-! ### steps: expressions -/
section
variable {K : PySem.W.Frag} {σ : St} {H : Hp} {Q : VK} {QT : Bool → Hp → Prop} {QA : List V → Hp → Prop} {v x y : V} {ta tb tc te : TE} {t u : TT} {r r' : R2}
theorem w_c (q : Q v H) : tC v σ H Q := q
theorem w_op (q : ta σ H fun x H1 => tb σ H1 fun y H2 => r x y H2 Q) : tOp r ta tb σ H Q := q
theorem w_un {r : V → Hp → VK → Prop} (q : ta σ H fun x H1 => r x H1 Q) : tUn r ta σ H Q := q
theorem w_neg {i : Int} (q : Q (.int (-i)) H) : rU (fun i => .int (-i)) (.int i) H Q := ⟨i, rfl, q⟩
theorem w_test (q : te σ H fun x H' => ∃ k, x = .bl k ∧ QT k H') : tTest te σ H QT := q
theorem w_tB (q : te σ H fun x H' => ∃ k, x = .bl k ∧ QT k H') : tB te σ H QT := q
theorem w_bl {b : Bool} {P : Bool → Prop} (q : P b) : ∃ k, V.bl b = .bl k ∧ P k := ⟨b, rfl, q⟩
theorem w_chain (q : ta σ H fun x H1 => tb σ H1 fun y H2 => r x y H2 fun z H3 => ∃ k, z = .bl k ∧ (if k = true then tc σ H3 fun w' H4 => r' y w' H4 Q else Q (.bl false) H3)) : tChain r r' ta tb tc σ H Q := q
theorem w_and (q : t σ H fun c H1 => if c = true then u σ H1 QT else QT false H1) : tAnd t u σ H QT := q
theorem w_or (q : t σ H fun c H1 => if c = true then QT true H1 else u σ H1 QT) : tOr t u σ H QT := q
theorem w_not (q : t σ H fun c H1 => QT (!c) H1) : tNot t σ H QT := q
theorem w_andV (q : ta σ H fun x H1 => ∃ c, x = .bl c ∧ if c = true then tb σ H1 Q else Q (.bl false) H1) : tAndV ta tb σ H Q := q
theorem w_orV (q : ta σ H fun x H1 => ∃ c, x = .bl c ∧ if c = true then Q (.bl true) H1 else tb σ H1 Q) : tOrV ta tb σ H Q := q
theorem w_notV (q : ta σ H fun x H1 => ∃ c, x = .bl c ∧ Q (.bl (!c)) H1) : tNotV ta σ H Q := q
theorem w_nil (q : QA [] H) : tNil σ H QA := q
theorem w_cons {tr : TA} (q : ta σ H fun x H1 => tr σ H1 fun xs H2 => QA (x :: xs) H2) : tCons ta tr σ H QA := q
theorem w_tup {tt : TA} (q : tt σ H fun xs H1 => xs.length ≤ sizeLine ∧ ∀ p, H1 p = none → Q (.ref p) (upd H1 p (.tup xs))) : tTup tt σ H Q := q
theorem w_lst {tt : TA} (q : tt σ H fun xs H1 => xs.length ≤ sizeLine ∧ ∀ p, H1 p = none → Q (.ref p) (upd H1 p (.lst xs))) : tLst tt σ H Q := q
theorem w_CB {r : List V → Hp → VK → Prop} {tt : TA} (q : tt σ H fun vs H1 => r vs H1 Q) : tCB r tt σ H Q := q
theorem w_call {sp : Sp} {E : XK} {tt : TA} (q : tt σ H fun vs H1 => sp vs H1 Q E) : tCall sp [] E tt σ H Q := by
  unfold tCall
  have e : (fun (vs : List V) (H1 : Hp) => sp (vs ++ []) H1 Q E) = fun vs H1 => sp vs H1 Q E := by funext vs H1; rw [List.append_nil]
  rw [e]
  exact q
theorem w_meth {C : Addr} {m : Str} {sp : Sp} {E : XK} {tt : TA} (q : ta σ H fun x H1 => ∃ a dx fs, x = .ref a ∧ H1 a = some (.ins C dx fs) ∧ fs.lookup m = none ∧ tt σ H1 fun vs H2 => sp (x :: vs) H2 Q E) : tMeth C m sp [] E ta tt σ H Q := by
  unfold tMeth
  have e : ∀ x : V, (fun (vs : List V) (H1 : Hp) => sp (x :: (vs ++ [])) H1 Q E) = fun vs H1 => sp (x :: vs) H1 Q E := fun x => by funext vs H1; rw [List.append_nil]
  simp only [e]
  exact q
theorem w_methAt {C a dx : Addr} {fs : List (Str × V)} {m : Str} {P : Prop} (h : H a = some (.ins C dx fs)) (hl : fs.lookup m = none) (q : P) : ∃ b dx fs, V.ref a = .ref b ∧ H b = some (.ins C dx fs) ∧ fs.lookup m = none ∧ P := ⟨a, dx, fs, rfl, h, hl, q⟩
theorem w_make {C : Addr} {sp : Sp} {E : XK} {tt : TA} (q : tt σ H fun vs H1 => ∀ x dx, H1 x = none → H1 dx = none → dx ≠ x → sp (.ref x :: vs) (upd (upd H1 dx (.own x)) x (.ins C dx [])) (fun v H2 => v = .non ∧ Q (.ref x) H2) E) : tMake C sp [] E tt σ H Q := by
  unfold tMake
  have e : ∀ vs : List V, vs ++ [] = vs := fun vs => List.append_nil vs
  simp only [e]
  exact q
theorem w_callS {sp : Sp} {E : St → XK} {tt : TA} (q : tt σ H fun vs H1 => sp vs H1 Q (E σ)) : tCallS sp E tt σ H Q := q
theorem w_fld {f : Str} (q : ta σ H fun x H1 => ∃ a C dx fs v, x = .ref a ∧ H1 a = some (.ins C dx fs) ∧ Cls K C ∧ NoAttr K C f ∧ fs.lookup f = some v ∧ Q v H1) : tFld K ta f σ H Q := q
theorem w_fldAt {a C dx : Addr} {fs : List (Str × V)} {f : Str} (h : H a = some (.ins C dx fs)) (hc : Cls K C) (hn : NoAttr K C f) (hl : fs.lookup f = some v) (q : Q v H) : ∃ b C dx fs v, V.ref a = .ref b ∧ H b = some (.ins C dx fs) ∧ Cls K C ∧ NoAttr K C f ∧ fs.lookup f = some v ∧ Q v H := ⟨a, C, dx, fs, v, rfl, h, hc, hn, hl, q⟩
theorem w_bm0 {T : String} {r : V → List V → Hp → VK → Prop} (q : ta σ H fun x H1 => tyV K T x H1 ∧ r x [] H1 Q) : tBM0 K T r ta σ H Q := q
theorem w_bm {T : String} {r : V → List V → Hp → VK → Prop} {tt : TA} (q : ta σ H fun x H1 => tyV K T x H1 ∧ tt σ H1 fun xs H2 => r x xs H2 Q) : tBM K T r ta tt σ H Q := q
theorem w_tyL {a : Addr} {xs : List V} (h : SqL K H a xs) : tyV K "list" (.ref a) H := Or.inl ⟨rfl, xs, h⟩
theorem w_sl {r : V → Option Int → Option Int → Hp → VK → Prop} {tl th : TO} (q : ta σ H fun x H1 => tl σ H1 fun l H2 => th σ H2 fun u H3 => r x l u H3 Q) : tSl r ta tl th σ H Q := q

/-! values -/
theorem w_addI {i j : Int} (q : Q (.int (i + j)) H) : rAddU (.int i) (.int j) H Q := .inl ⟨i, j, rfl, rfl, q⟩
theorem w_addS {i j : Str} (h : i.length + j.length ≤ sizeLine) (q : Q (.str (i ++ j)) H) : rAddU (.str i) (.str j) H Q := .inr (.inl ⟨i, j, rfl, rfl, h, q⟩)
theorem w_addL {a b : Addr} {xs ys : List V} (ha : H a = some (.lst xs)) (hb : H b = some (.lst ys)) (h : xs.length + ys.length ≤ sizeLine) (q : ∀ p, H p = none → Q (.ref p) (upd H p (.lst (xs ++ ys)))) : rAddU (.ref a) (.ref b) H Q := .inr (.inr ⟨a, b, xs, ys, rfl, rfl, ha, hb, h, q⟩)
theorem w_sub {i j : Int} (q : Q (.int (i - j)) H) : rSubI (.int i) (.int j) H Q := ⟨i, j, rfl, rfl, q⟩
theorem w_mul {i j : Int} (h : CMul i j) (q : Q (.int (i * j)) H) : rMul (.int i) (.int j) H Q := ⟨i, j, rfl, rfl, h, q⟩
theorem w_div {i j : Int} (h : 0 < j) (h' : j < 1073741824) (q : Q (.int (i / j)) H) : rDiv (.int i) (.int j) H Q := ⟨i, j, rfl, rfl, ⟨h, h'⟩, q⟩
theorem w_mod {i j : Int} (h : 0 < j) (q : Q (.int (i % j)) H) : rMod (.int i) (.int j) H Q := ⟨i, j, rfl, rfl, h, q⟩
theorem w_pow {i j : Int} (h : CPow i j) (q : Q (.int (i ^ j.toNat)) H) : rPow (.int i) (.int j) H Q := ⟨i, j, rfl, rfl, h, q⟩
theorem w_lt {i j : Int} (q : Q (.bl (decide (i < j))) H) : rLt (.int i) (.int j) H Q := ⟨i, j, rfl, rfl, q⟩
theorem w_le {i j : Int} (q : Q (.bl (decide (i ≤ j))) H) : rLe (.int i) (.int j) H Q := ⟨i, j, rfl, rfl, q⟩
theorem w_gt {i j : Int} (q : Q (.bl (decide (j < i))) H) : rGt (.int i) (.int j) H Q := ⟨i, j, rfl, rfl, q⟩
theorem w_ge {i j : Int} (q : Q (.bl (decide (j ≤ i))) H) : rGe (.int i) (.int j) H Q := ⟨i, j, rfl, rfl, q⟩
theorem dec_ii {i j : Int} : decide (V.int i = V.int j) = decide (i = j) := by rw [decide_eq_decide]; exact ⟨fun h => V.int.inj h, fun h => h ▸ rfl⟩
theorem dec_ss {i j : Str} : decide (V.str i = V.str j) = decide (i = j) := by rw [decide_eq_decide]; exact ⟨fun h => V.str.inj h, fun h => h ▸ rfl⟩
theorem w_eqI {i j : Int} (q : Q (.bl (decide (i = j))) H) : rEqU K (.int i) (.int j) H Q := .inl ⟨rfl, by rw [dec_ii]; exact q⟩
theorem w_neI {i j : Int} (q : Q (.bl (!decide (i = j))) H) : rNeU K (.int i) (.int j) H Q := .inl ⟨rfl, by rw [dec_ii]; exact q⟩
theorem w_eqS {i j : Str} (q : Q (.bl (decide (i = j))) H) : rEqU K (.str i) (.str j) H Q := .inl ⟨rfl, by rw [dec_ss]; exact q⟩
theorem w_neS {i j : Str} (q : Q (.bl (!decide (i = j))) H) : rNeU K (.str i) (.str j) H Q := .inl ⟨rfl, by rw [dec_ss]; exact q⟩
theorem w_eqD {d e : PyData} (hx : Dp K H x d) (hy : Dp K H y e) (hd : SeqAt.shaped d = true) (he : SeqAt.shaped e = true) (q : Q (.bl (PyData.eqv d e)) H) : rEqU K x y H Q := .inr ⟨d, e, hx, hy, hd, he, q⟩
theorem w_neD {d e : PyData} (hx : Dp K H x d) (hy : Dp K H y e) (hd : SeqAt.shaped d = true) (he : SeqAt.shaped e = true) (q : Q (.bl (!PyData.eqv d e)) H) : rNeU K x y H Q := .inr ⟨d, e, hx, hy, hd, he, q⟩
theorem w_isN (q : Q (.bl (decide (x = .non))) H) : rIsN x .non H Q := ⟨rfl, q⟩
theorem w_notN (q : Q (.bl (!decide (x = .non))) H) : rNotN x .non H Q := ⟨rfl, q⟩
theorem w_lenL {a : Addr} {xs : List V} (h : SqL K H a xs) (q : Q (.int (xs.length : Nat)) H) : rLen K [.ref a] H Q := ⟨.ref a, xs.length, rfl, Or.inl ⟨xs, h, rfl⟩, q⟩
theorem w_lenT {a : Addr} {xs : List V} (h : SqT K H a xs) (q : Q (.int (xs.length : Nat)) H) : rLen K [.ref a] H Q := ⟨.ref a, xs.length, rfl, Or.inr ⟨xs, h, rfl⟩, q⟩
theorem w_lenS {z : Str} (h : z.length ≤ sizeLine) (q : Q (.int (z.length : Nat)) H) : rLen K [.str z] H Q := ⟨.str z, z.length, rfl, ⟨h, rfl⟩, q⟩
theorem w_max {i j : Int} (q : Q (.int (if j > i then j else i)) H) : rMax [.int i, .int j] H Q := ⟨i, j, rfl, q⟩
theorem w_min {i j : Int} (q : Q (.int (if j < i then j else i)) H) : rMin [.int i, .int j] H Q := ⟨i, j, rfl, q⟩
theorem w_intI {i : Int} (q : Q (.int i) H) : rInt1 [.int i] H Q := .inl ⟨i, rfl, q⟩
theorem w_intB {k : Bool} (q : Q (.int (if k then 1 else 0)) H) : rInt1 [.bl k] H Q := .inr ⟨k, rfl, q⟩
theorem w_str {i : Int} (h : i.natAbs.log2 < 1920) (q : Q (.str (toString i)) H) : rStr1 [.int i] H Q := ⟨i, rfl, h, q⟩
theorem w_listL {a : Addr} {xs : List V} (h : SqL K H a xs) (q : ∀ l, H l = none → Q (.ref l) (upd H l (.lst xs))) : rListOf K [.ref a] H Q := ⟨a, xs, rfl, .inl h, q⟩
theorem w_ixL {a : Addr} {xs : List V} {i : Int} (h : SqL K H a xs) (ha : atI xs i = some v) (q : Q v H) : rIx K (.ref a) (.int i) H Q := .inl ⟨a, xs, i, v, rfl, rfl, h, ha, q⟩
theorem w_ixT {a : Addr} {xs : List V} {i : Int} (h : SqT K H a xs) (ha : atI xs i = some v) (q : Q v H) : rIx K (.ref a) (.int i) H Q := .inr (.inl ⟨a, xs, i, v, rfl, rfl, h, ha, q⟩)
theorem w_ixS {z : Str} {i : Int} {c : Nat} (hz : z.length ≤ sizeLine) (ha : atI z.cps.toList i = some c) (q : Q (.str ⟨#[c]⟩) H) : rIx K (.str z) (.int i) H Q := .inr (.inr ⟨z, i, c, rfl, rfl, hz, ha, q⟩)
theorem atI_lt {α : Type} {xs : List α} {i : Int} (h0 : 0 ≤ i) (h1 : i < xs.length) : ∃ v, v ∈ xs ∧ atI xs i = some v := by
  have hj : i.toNat < xs.length := by omega
  have e : i = (i.toNat : Int) := by omega
  refine ⟨xs[i.toNat], List.getElem_mem hj, ?_⟩
  have z := atI_nat (List.getElem?_eq_getElem hj)
  rw [← e] at z
  exact z
/-- an item of a menu: any of them -/
theorem w_ixAny {a : Addr} {xs : List V} {i : Int} (h : SqL K H a xs) (h0 : 0 ≤ i) (h1 : i < xs.length) (q : ∀ v, v ∈ xs → Q v H) : rIx K (.ref a) (.int i) H Q := by
  obtain ⟨v, hv, e⟩ := atI_lt h0 h1
  exact w_ixL h e (q v hv)
theorem w_slL {a : Addr} {xs : List V} {lo hi : Option Int} (h : SqL K H a xs) (q : ∀ p, H p = none → Q (.ref p) (upd H p (.lst (cutV xs lo hi)))) : rSlU K (.ref a) lo hi H Q := .inl ⟨a, xs, rfl, h, q⟩
theorem w_slS {z : Str} {lo hi : Option Int} (h : z.length ≤ sizeLine) (q : Q (.str (cutS z lo hi)) H) : rSlU K (.str z) lo hi H Q := .inr ⟨z, rfl, h, q⟩
theorem w_app {l : Addr} {xs : List V} (h : H l = some (.lst xs)) (hz : xs.length < sizeLine) (q : Q .non (upd H l (.lst (xs ++ [y])))) : rAppend (.ref l) [y] H Q := ⟨l, xs, y, rfl, rfl, h, hz, q⟩
theorem w_pop {l : Addr} {xs : List V} (h : H l = some (.lst xs)) (hz : xs[xs.length - 1]? = some y) (q : Q y (upd H l (.lst xs.dropLast))) : rPop (.ref l) [] H Q := ⟨l, xs, y, rfl, rfl, h, hz, q⟩
theorem isi_ty {n m : String} {b : Bool} (ty : TyX K H x (.type n)) (h : kitB n m = some b) (q : Q (.bl b) H) : rIsi K [x, .ty m] H Q := ⟨x, .ty m, .type n, .type m, b, rfl, .ty m, ty, kit_ty h, q⟩
end
/-! tests -/
theorem ite_d {p A B : Prop} [Decidable p] (h1 : p → A) (h2 : ¬ p → B) : if decide p = true then A else B := by
  by_cases h : p
  · rw [if_pos (decide_eq_true h)]; exact h1 h
  · rw [if_neg (by rw [decide_eq_false h]; exact Bool.false_ne_true)]; exact h2 h
theorem ite_nd {p A B : Prop} [Decidable p] (h1 : ¬ p → A) (h2 : p → B) : if (!decide p) = true then A else B := by
  by_cases h : p
  · rw [if_neg (by rw [decide_eq_true h]; decide)]; exact h2 h
  · rw [if_pos (by rw [decide_eq_false h]; rfl)]; exact h1 h
theorem ite_b {b : Bool} {A B : Prop} (h1 : b = true → A) (h2 : b = false → B) : if b = true then A else B := by
  cases b with
  | true => rw [if_pos rfl]; exact h1 rfl
  | false => rw [if_neg Bool.false_ne_true]; exact h2 rfl
theorem ite_nb {b : Bool} {A B : Prop} (h1 : b = false → A) (h2 : b = true → B) : if (!b) = true then A else B := by
  cases b with
  | false => exact h1 rfl
  | true => exact h2 rfl

/-! ### steps: statements -/
section
variable {K : PySem.W.Frag} {σ : St} {H : Hp} {t u : TS} {te : TE} {c : TT} {g : TG} {nx bk ct : St → Hp → Prop} {rt : VK}
theorem w_seq (q : t ⟨fun σ' H' => u ⟨nx, rt, bk, ct⟩ σ' H', rt, bk, ct⟩ σ H) : tSeq t u ⟨nx, rt, bk, ct⟩ σ H := q
theorem w_next (q : nx σ H) : tNext ⟨nx, rt, bk, ct⟩ σ H := q
theorem w_break (q : bk σ H) : tBreak ⟨nx, rt, bk, ct⟩ σ H := q
theorem w_cont (q : ct σ H) : tCont ⟨nx, rt, bk, ct⟩ σ H := q
theorem w_asg (q : te σ H fun x H1 => g x σ H1 nx) : tAsg te g ⟨nx, rt, bk, ct⟩ σ H := q
theorem w_ret (q : te σ H rt) : tRet te ⟨nx, rt, bk, ct⟩ σ H := q
theorem w_retN (q : rt .non H) : tRetN ⟨nx, rt, bk, ct⟩ σ H := q
theorem w_drop (q : te σ H fun _ H1 => nx σ H1) : tDrop te ⟨nx, rt, bk, ct⟩ σ H := q
theorem w_if (q : c σ H fun b H1 => if b = true then t ⟨nx, rt, bk, ct⟩ σ H1 else u ⟨nx, rt, bk, ct⟩ σ H1) : tIfS c t u ⟨nx, rt, bk, ct⟩ σ H := q
theorem w_cut {Mid : St → Hp → Prop} (h : t ⟨Mid, rt, bk, ct⟩ σ H) (k : ∀ σ' H', Mid σ' H' → u ⟨nx, rt, bk, ct⟩ σ' H') : Evl.tCut t u ⟨nx, rt, bk, ct⟩ σ H := ⟨Mid, h, k⟩
theorem w_sfld {ta tv : TE} {f : Str} (q : tv σ H fun y H1 => ta σ H1 fun x H2 => ∃ a C dx fs, x = .ref a ∧ H2 a = some (.ins C dx fs) ∧ Cls K C ∧ NoAttr K C f ∧ fs.length < 1000 ∧ nx σ (upd H2 a (.ins C dx (putF f y fs)))) : sFld K ta tv f ⟨nx, rt, bk, ct⟩ σ H := q
theorem w_sfldAt {a C dx : Addr} {fs : List (Str × V)} {f : Str} {y : V} {P : Hp → Prop} (h : H a = some (.ins C dx fs)) (hc : Cls K C) (hn : NoAttr K C f) (hl : fs.length < 1000) (q : P (upd H a (.ins C dx (putF f y fs)))) : ∃ b C dx fs, V.ref a = .ref b ∧ H b = some (.ins C dx fs) ∧ Cls K C ∧ NoAttr K C f ∧ fs.length < 1000 ∧ P (upd H b (.ins C dx (putF f y fs))) := ⟨a, C, dx, fs, rfl, h, hc, hn, hl, q⟩
theorem w_gSub {to ti : TE} {ts : TSet} {v : V} {R : St → Hp → Prop} (q : to σ H fun o H1 => ti σ H1 fun i H2 => ts o i v H2 fun H3 => R σ H3) : gSub to ti ts v σ H R := q
theorem w_gTup {n : Nat} {tg : TGs} {a : Addr} {xs : List V} {R : St → Hp → Prop} (h : SqT K H a xs) (hl : xs.length = n) (q : tg xs σ H R) : gTup K n tg (.ref a) σ H R := ⟨a, xs, rfl, h, hl, q⟩
theorem w_gCons {tg : TG} {us : TGs} {v : V} {r : List V} {R : St → Hp → Prop} (q : tg v σ H fun σ' H' => us r σ' H' R) : gCons tg us (v :: r) σ H R := ⟨v, r, rfl, q⟩
theorem w_gNil {R : St → Hp → Prop} (q : R σ H) : gNil [] σ H R := ⟨rfl, q⟩
/-- a loop's word: what a for asks behind its iterator -/
def LB (g : TG) (t : TS) (nx : St → Hp → Prop) (rt : VK) (σ : St) (J : It) (H1 : Hp) : Prop := ∃ W : Nat → Nat → St → Hp → Prop, (∃ m, W 0 m σ H1) ∧ ∀ i m σ H, W i m σ H →
  (J.stop i H ∧ nx σ H) ∨ (J.go i H ∧ ∃ N : St → Hp → Prop, (∀ σ' H', N σ' H' → ∃ m', m' < m ∧ W (i + 1) m' σ' H') ∧ ∀ x H', J.yld i H x H' → g x σ H' fun σ2 H2 => t ⟨N, rt, nx, N⟩ σ2 H2)
theorem w_for {wi : TI} (q : wi σ H fun J H1 => LB g t nx rt σ J H1) : tFor wi g t ⟨nx, rt, bk, ct⟩ σ H := q
theorem w_iR1 {ta : TA} {R : It → Hp → Prop} (q : ta σ H fun vs H1 => ∃ j : Int, vs = [.int j] ∧ -(2 ^ 62) ≤ j ∧ j < 2 ^ 62 ∧ R (Itr 0 j.toNat) H1) : iRng1 ta σ H R := q
theorem w_iR1v {n : Int} {R : It → Hp → Prop} (h1 : -(2 ^ 62) ≤ n) (h2 : n < 2 ^ 62) (q : R (Itr 0 n.toNat) H) : ∃ j : Int, [V.int n] = [.int j] ∧ -(2 ^ 62) ≤ j ∧ j < 2 ^ 62 ∧ R (Itr 0 j.toNat) H := ⟨n, rfl, h1, h2, q⟩
theorem w_iR2 {ta : TA} {R : It → Hp → Prop} (q : ta σ H fun vs H1 => ∃ i j : Int, vs = [.int i, .int j] ∧ (-(2 ^ 62) ≤ i ∧ i < 2 ^ 62 ∧ -(2 ^ 62) ≤ j ∧ j < 2 ^ 62) ∧ R (Itr i (j - i).toNat) H1) : iRng2 ta σ H R := q
theorem w_iR2v {a b : Int} {R : It → Hp → Prop} (h : -(2 ^ 62) ≤ a ∧ a < 2 ^ 62 ∧ -(2 ^ 62) ≤ b ∧ b < 2 ^ 62) (q : R (Itr a (b - a).toNat) H) : ∃ i j : Int, [V.int a, V.int b] = [.int i, .int j] ∧ (-(2 ^ 62) ≤ i ∧ i < 2 ^ 62 ∧ -(2 ^ 62) ≤ j ∧ j < 2 ^ 62) ∧ R (Itr i (j - i).toNat) H := ⟨a, b, rfl, h, q⟩
theorem w_iR3 {ta : TA} {R : It → Hp → Prop} (q : ta σ H fun vs H1 => ∃ (i j c : Int) (n : Nat), vs = [.int i, .int j, .int c] ∧ RgC i j c n ∧ R (Itc i c n) H1) : iRng3 ta σ H R := q
theorem w_iR3v {a b : Int} {R : It → Hp → Prop} (h : -(2 ^ 62) ≤ a ∧ a < 2 ^ 62 ∧ -(2 ^ 62) ≤ b ∧ b < 2 ^ 62) (q : R (Itc a (-1) (a - b).toNat) H) : ∃ (i j c : Int) (n : Nat), [V.int a, V.int b, V.int (-1)] = [.int i, .int j, .int c] ∧ RgC i j c n ∧ R (Itc i c n) H :=
  ⟨a, b, -1, _, rfl, RgC.neg h.1 h.2.1 h.2.2.1 h.2.2.2, q⟩
theorem w_iL {ta : TE} {R : It → Hp → Prop} (q : ta σ H fun x H1 => ∃ a, x = .ref a ∧ (∃ xs, SqL K H1 a xs) ∧ R (Itl K a) H1) : iList K ta σ H R := q
theorem w_iLv {a : Addr} {xs : List V} {R : It → Hp → Prop} (h : SqL K H a xs) (q : R (Itl K a) H) : ∃ b, V.ref a = .ref b ∧ (∃ xs, SqL K H b xs) ∧ R (Itl K b) H := ⟨a, rfl, ⟨xs, h⟩, q⟩
theorem lb_range {lo : Int} {n : Nat} (Pv : Nat → St → Hp → Prop) (h0 : Pv 0 σ H) (hs : ∀ (i : Nat) σ H, i < n → Pv i σ H → g (.int (lo + i)) σ H fun σ2 H2 => t ⟨Pv (i + 1), rt, nx, Pv (i + 1)⟩ σ2 H2) (hd : ∀ σ H, Pv n σ H → nx σ H) :
    LB g t nx rt σ (Itr lo n) H := for_range (D := ⟨nx, rt, fun _ _ => False, fun _ _ => False⟩) (lo := lo) (n := n) Pv h0 hs hd
theorem lb_range0 {n : Nat} (Pv : Nat → St → Hp → Prop) (h0 : Pv 0 σ H) (hs : ∀ (i : Nat) σ H, i < n → Pv i σ H → g (.int (i : Int)) σ H fun σ2 H2 => t ⟨Pv (i + 1), rt, nx, Pv (i + 1)⟩ σ2 H2) (hd : ∀ σ H, Pv n σ H → nx σ H) :
    LB g t nx rt σ (Itr 0 n) H := lb_range Pv h0 (fun i σ H hi p => by rw [Int.zero_add]; exact hs i σ H hi p) hd
theorem lb_rangeC {lo c : Int} {n : Nat} (Pv : Nat → St → Hp → Prop) (h0 : Pv 0 σ H) (hs : ∀ (i : Nat) σ H, i < n → Pv i σ H → g (.int (lo + (i : Nat) * c)) σ H fun σ2 H2 => t ⟨Pv (i + 1), rt, nx, Pv (i + 1)⟩ σ2 H2) (hd : ∀ σ H, Pv n σ H → nx σ H) :
    LB g t nx rt σ (Itc lo c n) H := for_rangeC (D := ⟨nx, rt, fun _ _ => False, fun _ _ => False⟩) (lo := lo) (c := c) (n := n) Pv h0 hs hd
theorem lb_list {a : Addr} {xs : List V} (Pv : Nat → St → Hp → Prop) (h0 : Pv 0 σ H) (hl : ∀ i σ H, i ≤ xs.length → Pv i σ H → SqL K H a xs) (hs : ∀ i x σ H, xs[i]? = some x → Pv i σ H → g x σ H fun σ2 H2 => t ⟨Pv (i + 1), rt, nx, Pv (i + 1)⟩ σ2 H2)
    (hd : ∀ σ H, Pv xs.length σ H → nx σ H) : LB g t nx rt σ (Itl K a) H := for_list (K := K) (a := a) (xs := xs) (D := ⟨nx, rt, fun _ _ => False, fun _ _ => False⟩) Pv h0 hl hs hd
theorem w_while {c : TT} {tb : TS} (Pv : St → Hp → Prop) (μ : St → Hp → Nat) (h0 : Pv σ H)
    (hs : ∀ σ H, Pv σ H → c σ H fun b H1 => if b = true then ∃ N : St → Hp → Prop, (∀ σ' H', N σ' H' → ∃ m', m' < μ σ H ∧ (m' = μ σ' H' ∧ Pv σ' H')) ∧ tb ⟨N, rt, nx, N⟩ σ H1 else nx σ H1) : tWhile c tb ⟨nx, rt, bk, ct⟩ σ H :=
  ⟨fun m σ H => m = μ σ H ∧ Pv σ H, ⟨_, rfl, h0⟩, fun m σ H h => by
    obtain ⟨e, p⟩ := h
    subst e
    exact hs σ H p⟩
theorem w_wN {tb : TS} {Pv : St → Hp → Prop} {μ : St → Hp → Nat} {m : Nat} (q : tb ⟨fun σ' H' => Pv σ' H' ∧ μ σ' H' < m, rt, nx, fun σ' H' => Pv σ' H' ∧ μ σ' H' < m⟩ σ H) :
    ∃ N : St → Hp → Prop, (∀ σ' H', N σ' H' → ∃ m', m' < m ∧ (m' = μ σ' H' ∧ Pv σ' H')) ∧ tb ⟨N, rt, nx, N⟩ σ H := ⟨_, fun _ _ h => ⟨_, h.2, rfl, h.1⟩, q⟩
end
end Ts
namespace Ts
open PySem L2
section
variable {H : Hp} {Q : VK} {R : St → Hp → Prop} {v a : V}
theorem w_v0 {s : St} (q : Q v H) : tVar 0 (some v :: s) H Q := ⟨v, rfl, q⟩
theorem w_n0 {b : Option V} {s : St} (q : R (some v :: s) H) : gName 0 v (b :: s) H R := q
theorem w_v1 {a0 : Option V} {s : St} (q : Q v H) : tVar 1 (a0 :: some v :: s) H Q := ⟨v, rfl, q⟩
theorem w_n1 {a0 : Option V} {b : Option V} {s : St} (q : R (a0 :: some v :: s) H) : gName 1 v (a0 :: b :: s) H R := q
theorem w_v2 {a0 a1 : Option V} {s : St} (q : Q v H) : tVar 2 (a0 :: a1 :: some v :: s) H Q := ⟨v, rfl, q⟩
theorem w_n2 {a0 a1 : Option V} {b : Option V} {s : St} (q : R (a0 :: a1 :: some v :: s) H) : gName 2 v (a0 :: a1 :: b :: s) H R := q
theorem w_v3 {a0 a1 a2 : Option V} {s : St} (q : Q v H) : tVar 3 (a0 :: a1 :: a2 :: some v :: s) H Q := ⟨v, rfl, q⟩
theorem w_n3 {a0 a1 a2 : Option V} {b : Option V} {s : St} (q : R (a0 :: a1 :: a2 :: some v :: s) H) : gName 3 v (a0 :: a1 :: a2 :: b :: s) H R := q
theorem w_v4 {a0 a1 a2 a3 : Option V} {s : St} (q : Q v H) : tVar 4 (a0 :: a1 :: a2 :: a3 :: some v :: s) H Q := ⟨v, rfl, q⟩
theorem w_n4 {a0 a1 a2 a3 : Option V} {b : Option V} {s : St} (q : R (a0 :: a1 :: a2 :: a3 :: some v :: s) H) : gName 4 v (a0 :: a1 :: a2 :: a3 :: b :: s) H R := q
theorem w_v5 {a0 a1 a2 a3 a4 : Option V} {s : St} (q : Q v H) : tVar 5 (a0 :: a1 :: a2 :: a3 :: a4 :: some v :: s) H Q := ⟨v, rfl, q⟩
theorem w_n5 {a0 a1 a2 a3 a4 : Option V} {b : Option V} {s : St} (q : R (a0 :: a1 :: a2 :: a3 :: a4 :: some v :: s) H) : gName 5 v (a0 :: a1 :: a2 :: a3 :: a4 :: b :: s) H R := q
theorem w_v6 {a0 a1 a2 a3 a4 a5 : Option V} {s : St} (q : Q v H) : tVar 6 (a0 :: a1 :: a2 :: a3 :: a4 :: a5 :: some v :: s) H Q := ⟨v, rfl, q⟩
theorem w_n6 {a0 a1 a2 a3 a4 a5 : Option V} {b : Option V} {s : St} (q : R (a0 :: a1 :: a2 :: a3 :: a4 :: a5 :: some v :: s) H) : gName 6 v (a0 :: a1 :: a2 :: a3 :: a4 :: a5 :: b :: s) H R := q
theorem w_v7 {a0 a1 a2 a3 a4 a5 a6 : Option V} {s : St} (q : Q v H) : tVar 7 (a0 :: a1 :: a2 :: a3 :: a4 :: a5 :: a6 :: some v :: s) H Q := ⟨v, rfl, q⟩
theorem w_n7 {a0 a1 a2 a3 a4 a5 a6 : Option V} {b : Option V} {s : St} (q : R (a0 :: a1 :: a2 :: a3 :: a4 :: a5 :: a6 :: some v :: s) H) : gName 7 v (a0 :: a1 :: a2 :: a3 :: a4 :: a5 :: a6 :: b :: s) H R := q
theorem w_v8 {a0 a1 a2 a3 a4 a5 a6 a7 : Option V} {s : St} (q : Q v H) : tVar 8 (a0 :: a1 :: a2 :: a3 :: a4 :: a5 :: a6 :: a7 :: some v :: s) H Q := ⟨v, rfl, q⟩
theorem w_n8 {a0 a1 a2 a3 a4 a5 a6 a7 : Option V} {b : Option V} {s : St} (q : R (a0 :: a1 :: a2 :: a3 :: a4 :: a5 :: a6 :: a7 :: some v :: s) H) : gName 8 v (a0 :: a1 :: a2 :: a3 :: a4 :: a5 :: a6 :: a7 :: b :: s) H R := q
theorem w_v9 {a0 a1 a2 a3 a4 a5 a6 a7 a8 : Option V} {s : St} (q : Q v H) : tVar 9 (a0 :: a1 :: a2 :: a3 :: a4 :: a5 :: a6 :: a7 :: a8 :: some v :: s) H Q := ⟨v, rfl, q⟩
theorem w_n9 {a0 a1 a2 a3 a4 a5 a6 a7 a8 : Option V} {b : Option V} {s : St} (q : R (a0 :: a1 :: a2 :: a3 :: a4 :: a5 :: a6 :: a7 :: a8 :: some v :: s) H) : gName 9 v (a0 :: a1 :: a2 :: a3 :: a4 :: a5 :: a6 :: a7 :: a8 :: b :: s) H R := q
theorem w_v10 {a0 a1 a2 a3 a4 a5 a6 a7 a8 a9 : Option V} {s : St} (q : Q v H) : tVar 10 (a0 :: a1 :: a2 :: a3 :: a4 :: a5 :: a6 :: a7 :: a8 :: a9 :: some v :: s) H Q := ⟨v, rfl, q⟩
theorem w_n10 {a0 a1 a2 a3 a4 a5 a6 a7 a8 a9 : Option V} {b : Option V} {s : St} (q : R (a0 :: a1 :: a2 :: a3 :: a4 :: a5 :: a6 :: a7 :: a8 :: a9 :: some v :: s) H) : gName 10 v (a0 :: a1 :: a2 :: a3 :: a4 :: a5 :: a6 :: a7 :: a8 :: a9 :: b :: s) H R := q
theorem w_v11 {a0 a1 a2 a3 a4 a5 a6 a7 a8 a9 a10 : Option V} {s : St} (q : Q v H) : tVar 11 (a0 :: a1 :: a2 :: a3 :: a4 :: a5 :: a6 :: a7 :: a8 :: a9 :: a10 :: some v :: s) H Q := ⟨v, rfl, q⟩
theorem w_n11 {a0 a1 a2 a3 a4 a5 a6 a7 a8 a9 a10 : Option V} {b : Option V} {s : St} (q : R (a0 :: a1 :: a2 :: a3 :: a4 :: a5 :: a6 :: a7 :: a8 :: a9 :: a10 :: some v :: s) H) : gName 11 v (a0 :: a1 :: a2 :: a3 :: a4 :: a5 :: a6 :: a7 :: a8 :: a9 :: a10 :: b :: s) H R := q
theorem w_v12 {a0 a1 a2 a3 a4 a5 a6 a7 a8 a9 a10 a11 : Option V} {s : St} (q : Q v H) : tVar 12 (a0 :: a1 :: a2 :: a3 :: a4 :: a5 :: a6 :: a7 :: a8 :: a9 :: a10 :: a11 :: some v :: s) H Q := ⟨v, rfl, q⟩
theorem w_n12 {a0 a1 a2 a3 a4 a5 a6 a7 a8 a9 a10 a11 : Option V} {b : Option V} {s : St} (q : R (a0 :: a1 :: a2 :: a3 :: a4 :: a5 :: a6 :: a7 :: a8 :: a9 :: a10 :: a11 :: some v :: s) H) : gName 12 v (a0 :: a1 :: a2 :: a3 :: a4 :: a5 :: a6 :: a7 :: a8 :: a9 :: a10 :: a11 :: b :: s) H R := q
theorem w_v13 {a0 a1 a2 a3 a4 a5 a6 a7 a8 a9 a10 a11 a12 : Option V} {s : St} (q : Q v H) : tVar 13 (a0 :: a1 :: a2 :: a3 :: a4 :: a5 :: a6 :: a7 :: a8 :: a9 :: a10 :: a11 :: a12 :: some v :: s) H Q := ⟨v, rfl, q⟩
theorem w_n13 {a0 a1 a2 a3 a4 a5 a6 a7 a8 a9 a10 a11 a12 : Option V} {b : Option V} {s : St} (q : R (a0 :: a1 :: a2 :: a3 :: a4 :: a5 :: a6 :: a7 :: a8 :: a9 :: a10 :: a11 :: a12 :: some v :: s) H) : gName 13 v (a0 :: a1 :: a2 :: a3 :: a4 :: a5 :: a6 :: a7 :: a8 :: a9 :: a10 :: a11 :: a12 :: b :: s) H R := q
theorem w_v14 {a0 a1 a2 a3 a4 a5 a6 a7 a8 a9 a10 a11 a12 a13 : Option V} {s : St} (q : Q v H) : tVar 14 (a0 :: a1 :: a2 :: a3 :: a4 :: a5 :: a6 :: a7 :: a8 :: a9 :: a10 :: a11 :: a12 :: a13 :: some v :: s) H Q := ⟨v, rfl, q⟩
theorem w_n14 {a0 a1 a2 a3 a4 a5 a6 a7 a8 a9 a10 a11 a12 a13 : Option V} {b : Option V} {s : St} (q : R (a0 :: a1 :: a2 :: a3 :: a4 :: a5 :: a6 :: a7 :: a8 :: a9 :: a10 :: a11 :: a12 :: a13 :: some v :: s) H) : gName 14 v (a0 :: a1 :: a2 :: a3 :: a4 :: a5 :: a6 :: a7 :: a8 :: a9 :: a10 :: a11 :: a12 :: a13 :: b :: s) H R := q
theorem w_v15 {a0 a1 a2 a3 a4 a5 a6 a7 a8 a9 a10 a11 a12 a13 a14 : Option V} {s : St} (q : Q v H) : tVar 15 (a0 :: a1 :: a2 :: a3 :: a4 :: a5 :: a6 :: a7 :: a8 :: a9 :: a10 :: a11 :: a12 :: a13 :: a14 :: some v :: s) H Q := ⟨v, rfl, q⟩
theorem w_n15 {a0 a1 a2 a3 a4 a5 a6 a7 a8 a9 a10 a11 a12 a13 a14 : Option V} {b : Option V} {s : St} (q : R (a0 :: a1 :: a2 :: a3 :: a4 :: a5 :: a6 :: a7 :: a8 :: a9 :: a10 :: a11 :: a12 :: a13 :: a14 :: some v :: s) H) : gName 15 v (a0 :: a1 :: a2 :: a3 :: a4 :: a5 :: a6 :: a7 :: a8 :: a9 :: a10 :: a11 :: a12 :: a13 :: a14 :: b :: s) H R := q
theorem w_v16 {a0 a1 a2 a3 a4 a5 a6 a7 a8 a9 a10 a11 a12 a13 a14 a15 : Option V} {s : St} (q : Q v H) : tVar 16 (a0 :: a1 :: a2 :: a3 :: a4 :: a5 :: a6 :: a7 :: a8 :: a9 :: a10 :: a11 :: a12 :: a13 :: a14 :: a15 :: some v :: s) H Q := ⟨v, rfl, q⟩
theorem w_n16 {a0 a1 a2 a3 a4 a5 a6 a7 a8 a9 a10 a11 a12 a13 a14 a15 : Option V} {b : Option V} {s : St} (q : R (a0 :: a1 :: a2 :: a3 :: a4 :: a5 :: a6 :: a7 :: a8 :: a9 :: a10 :: a11 :: a12 :: a13 :: a14 :: a15 :: some v :: s) H) : gName 16 v (a0 :: a1 :: a2 :: a3 :: a4 :: a5 :: a6 :: a7 :: a8 :: a9 :: a10 :: a11 :: a12 :: a13 :: a14 :: a15 :: b :: s) H R := q
theorem w_v17 {a0 a1 a2 a3 a4 a5 a6 a7 a8 a9 a10 a11 a12 a13 a14 a15 a16 : Option V} {s : St} (q : Q v H) : tVar 17 (a0 :: a1 :: a2 :: a3 :: a4 :: a5 :: a6 :: a7 :: a8 :: a9 :: a10 :: a11 :: a12 :: a13 :: a14 :: a15 :: a16 :: some v :: s) H Q := ⟨v, rfl, q⟩
theorem w_n17 {a0 a1 a2 a3 a4 a5 a6 a7 a8 a9 a10 a11 a12 a13 a14 a15 a16 : Option V} {b : Option V} {s : St} (q : R (a0 :: a1 :: a2 :: a3 :: a4 :: a5 :: a6 :: a7 :: a8 :: a9 :: a10 :: a11 :: a12 :: a13 :: a14 :: a15 :: a16 :: some v :: s) H) : gName 17 v (a0 :: a1 :: a2 :: a3 :: a4 :: a5 :: a6 :: a7 :: a8 :: a9 :: a10 :: a11 :: a12 :: a13 :: a14 :: a15 :: a16 :: b :: s) H R := q
theorem w_v18 {a0 a1 a2 a3 a4 a5 a6 a7 a8 a9 a10 a11 a12 a13 a14 a15 a16 a17 : Option V} {s : St} (q : Q v H) : tVar 18 (a0 :: a1 :: a2 :: a3 :: a4 :: a5 :: a6 :: a7 :: a8 :: a9 :: a10 :: a11 :: a12 :: a13 :: a14 :: a15 :: a16 :: a17 :: some v :: s) H Q := ⟨v, rfl, q⟩
theorem w_n18 {a0 a1 a2 a3 a4 a5 a6 a7 a8 a9 a10 a11 a12 a13 a14 a15 a16 a17 : Option V} {b : Option V} {s : St} (q : R (a0 :: a1 :: a2 :: a3 :: a4 :: a5 :: a6 :: a7 :: a8 :: a9 :: a10 :: a11 :: a12 :: a13 :: a14 :: a15 :: a16 :: a17 :: some v :: s) H) : gName 18 v (a0 :: a1 :: a2 :: a3 :: a4 :: a5 :: a6 :: a7 :: a8 :: a9 :: a10 :: a11 :: a12 :: a13 :: a14 :: a15 :: a16 :: a17 :: b :: s) H R := q
theorem w_v19 {a0 a1 a2 a3 a4 a5 a6 a7 a8 a9 a10 a11 a12 a13 a14 a15 a16 a17 a18 : Option V} {s : St} (q : Q v H) : tVar 19 (a0 :: a1 :: a2 :: a3 :: a4 :: a5 :: a6 :: a7 :: a8 :: a9 :: a10 :: a11 :: a12 :: a13 :: a14 :: a15 :: a16 :: a17 :: a18 :: some v :: s) H Q := ⟨v, rfl, q⟩
theorem w_n19 {a0 a1 a2 a3 a4 a5 a6 a7 a8 a9 a10 a11 a12 a13 a14 a15 a16 a17 a18 : Option V} {b : Option V} {s : St} (q : R (a0 :: a1 :: a2 :: a3 :: a4 :: a5 :: a6 :: a7 :: a8 :: a9 :: a10 :: a11 :: a12 :: a13 :: a14 :: a15 :: a16 :: a17 :: a18 :: some v :: s) H) : gName 19 v (a0 :: a1 :: a2 :: a3 :: a4 :: a5 :: a6 :: a7 :: a8 :: a9 :: a10 :: a11 :: a12 :: a13 :: a14 :: a15 :: a16 :: a17 :: a18 :: b :: s) H R := q
end
end Ts
namespace Ts
open PySem PySem.Spec PyProof.Rows L2
/-! ### defs, methods, classes by their names -/
structure FunG (K : PySem.W.Frag) (mg : Str → Option Value) (x : Str) (st : Stmt) (ps : List Str) : Prop where
  ex : ∃ f fd, Fun K x x st f fd ∧ mg x = some (.ref f) ∧ Binds K fd ps []
structure MetG (K : PySem.W.Frag) (C : Addr) (m qual : Str) (st : Stmt) (ps : List Str) : Prop where
  ex : ∃ f fd, Fun K m qual st f fd ∧ Meth K C m f ∧ Binds K fd ps []
structure IniG (K : PySem.W.Frag) (mg : Str → Option Value) (C : Addr) (x qual : Str) (st : Stmt) (ps : List Str) : Prop where
  ex : ∃ f fd, Fun K "__init__" qual st f fd ∧ Mk K C f ∧ mg x = some (.ref C) ∧ Binds K fd ps []
structure FnG (P : Program) (w : World) (K : PySem.W.Frag) (mg : Str → Option Value) (base : Heap) (k : Nat) (x : Str) (ps : List Str) (sp : Sp) : Prop where
  ex : ∃ f fd, FnOk P w K mg base (L2.CX P w) k f fd ps sp ∧ mg x = some (.ref f) ∧ PySem.W.keepIn K (.ref f) = true ∧ Binds K fd ps []
structure MtG (P : Program) (w : World) (K : PySem.W.Frag) (mg : Str → Option Value) (base : Heap) (k : Nat) (C : Addr) (m : Str) (ps : List Str) (sp : Sp) : Prop where
  ex : ∃ f fd, FnOk P w K mg base (L2.CX P w) k f fd ps sp ∧ Meth K C m f ∧ Binds K fd ps []
structure MkG (P : Program) (w : World) (K : PySem.W.Frag) (mg : Str → Option Value) (base : Heap) (k : Nat) (C : Addr) (x : Str) (ps : List Str) (sp : Sp) : Prop where
  ex : ∃ f fd, FnOk P w K mg base (L2.CX P w) k f fd ps sp ∧ Mk K C f ∧ mg x = some (.ref C) ∧ Binds K fd ps []
section
variable {P : Program} {w : World} {K : PySem.W.Frag} {mg : Str → Option Value} {base : Heap} {x m qual : Str} {st : Stmt} {C : Addr} {ps N : List Str} {k : Nat} {sp sp' : Sp}
/-- what a def's body must show -/
abbrev BodyOk (P : Program) (w : World) (K : PySem.W.Frag) (mg : Str → Option Value) (base : Heap) (N : List Str) (qual : Str) (st : Stmt) (k : Nat) (sp : Sp) : Prop :=
  ∀ (f : Addr) (cdv : Value) (A : Around) (outer : List Env) (s : Shared) (H : Hp) (vs : List V) (Q : VK) (E : XK), Room k (A.deeper (envOfC qual (defScope st) s.heap.objs.size f cdv)) → sp vs H Q E →
      ∃ t, PSs (cxOf (L2.CX P w) P w K mg base N qual (defScope st) f cdv A outer s H E) (defBody st) t ∧ t ⟨fun _ H' => Q .non H', Q, fun _ _ => False, fun _ _ => False⟩ (start N vs) H
theorem FunG.ok (F : FunG K mg x st ps) (S : FnScope N ps (defScope st)) (len : ∀ vs H Q E, sp vs H Q E → vs.length = ps.length) (hb : BodyOk P w K mg base N x st k sp) : FnG P w K mg base (k + 1) x ps sp := by
  obtain ⟨f, fd, F, g, b⟩ := F.ex
  exact ⟨f, fd, F.okX S len (hb f), g, F.kp, b⟩
theorem MetG.ok (F : MetG K C m qual st ps) (S : FnScope N ps (defScope st)) (len : ∀ vs H Q E, sp vs H Q E → vs.length = ps.length) (hb : BodyOk P w K mg base N qual st k sp) : MtG P w K mg base (k + 1) C m ps sp := by
  obtain ⟨f, fd, F, g, b⟩ := F.ex
  exact ⟨f, fd, F.okX S len (hb f), g, b⟩
theorem IniG.ok (F : IniG K mg C x qual st ps) (S : FnScope N ps (defScope st)) (len : ∀ vs H Q E, sp vs H Q E → vs.length = ps.length) (hb : BodyOk P w K mg base N qual st k sp) : MkG P w K mg base (k + 1) C x ps sp := by
  obtain ⟨f, fd, F, g, h, b⟩ := F.ex
  exact ⟨f, fd, F.okX S len (hb f), g, h, b⟩
theorem FnG.mono {j : Nat} (F : FnG P w K mg base j x ps sp) (h : j ≤ k) : FnG P w K mg base k x ps sp := let ⟨f, fd, a, b, c, d⟩ := F.ex; ⟨f, fd, a.mono h, b, c, d⟩
theorem FnG.imp (F : FnG P w K mg base k x ps sp) (h : ∀ vs H Q E, sp' vs H Q E → sp vs H Q E) : FnG P w K mg base k x ps sp' := let ⟨f, fd, a, b, c, d⟩ := F.ex; ⟨f, fd, a.imp h, b, c, d⟩
theorem MtG.mono {j : Nat} (F : MtG P w K mg base j C m ps sp) (h : j ≤ k) : MtG P w K mg base k C m ps sp := let ⟨f, fd, a, b, c⟩ := F.ex; ⟨f, fd, a.mono h, b, c⟩
theorem MtG.imp (F : MtG P w K mg base k C m ps sp) (h : ∀ vs H Q E, sp' vs H Q E → sp vs H Q E) : MtG P w K mg base k C m ps sp' := let ⟨f, fd, a, b, c⟩ := F.ex; ⟨f, fd, a.imp h, b, c⟩
end
section
variable {X : Cx} {k : Nat} {C : Addr} {ps : List Str} {sp : Sp} {E : XK} {ES : L2.St → XK} {x m : Str} {p pos apos : Pos} {e o : Expr} {es : List Expr} {ta : TE} {t : TA}
theorem passE (tk : Takes X (fun cls d _ H => E cls d H)) : Passes (L2.CX X.prog X.w) X E := passes_call tk fun _ _ _ _ h => h
theorem pe_callG (G : FnG X.prog X.w X.K X.mg X.base k x ps sp) (hr : Room k X.A) (hx : Passes (L2.CX X.prog X.w) X E) (ha : PA X (e :: es) t) (hg : Gl X x := by rfl)
    (hdb : (x == ("__debug__" : Str)) = false := by decide) (he : starEach (e :: es) X.env = (false, eval e X.env) :: starEach es X.env := by rfl) (hpl : (backTo pos (starEach es X.env)).any (·.1) = false := by rfl) :
    PE X (.Call (.Name x p) (e :: es) [] pos) (tCall sp [] E t) := by
  obtain ⟨f, fd, F, g, kp, b⟩ := G.ex
  exact pe_call F hr hg g kp b .nil hx ha hdb he hpl
theorem pe_callGS (G : FnG X.prog X.w X.K X.mg X.base k x ps sp) (hr : Room k X.A) (hx : ∀ σ, PassesAt (L2.CX X.prog X.w) X σ (ES σ)) (ha : PA X (e :: es) t) (hg : Gl X x := by rfl)
    (hdb : (x == ("__debug__" : Str)) = false := by decide) (he : starEach (e :: es) X.env = (false, eval e X.env) :: starEach es X.env := by rfl) (hpl : (backTo pos (starEach es X.env)).any (·.1) = false := by rfl) :
    PE X (.Call (.Name x p) (e :: es) [] pos) (tCallS sp ES t) := by
  obtain ⟨f, fd, F, g, kp, b⟩ := G.ex
  exact pe_callS F hr hg g kp b hx ha hdb he hpl
theorem pe_methG {pl : Sem Bool} (he : PE X o ta) (c : Cls X.K C) (G : MtG X.prog X.w X.K X.mg X.base k C m ps sp) (hr : Room k X.A) (hx : Passes (L2.CX X.prog X.w) X E) (ha : PA X (e :: es) t)
    (hst : starEach (e :: es) X.env = (false, eval e X.env) :: starEach es X.env := by rfl) (hpl : (backTo pos (starEach es X.env)).any (·.1) = false := by rfl)
    (ht : eval (.Call (.Attribute o m apos) (e :: es) [] pos) X.env = (do
      let ov ← eval o X.env
      standAt apos.atName
      let (f, first) ← holding [ov] (getMethod ov m pl)
      callWith pos f first (backTo pos (starEach (e :: es) X.env)) (backToKw pos (keywordEach [] X.env))) := by rfl) :
    PE X (.Call (.Attribute o m apos) (e :: es) [] pos) (tMeth C m sp [] E ta t) := by
  obtain ⟨f, fd, F, g, b⟩ := G.ex
  exact pe_meth he c g F hr b .nil hx ha hst hpl ht
theorem pe_methG0 {pl : Sem Bool} (he : PE X o ta) (c : Cls X.K C) (G : MtG X.prog X.w X.K X.mg X.base k C m ps sp) (hr : Room k X.A) (hx : Passes (L2.CX X.prog X.w) X E)
    (ht : eval (.Call (.Attribute o m apos) [] [] pos) X.env = (do
      let ov ← eval o X.env
      standAt apos.atName
      let (f, first) ← holding [ov] (getMethod ov m pl)
      callWith pos f first (backTo pos (starEach [] X.env)) (backToKw pos (keywordEach [] X.env))) := by rfl) :
    PE X (.Call (.Attribute o m apos) [] [] pos) (tMeth C m sp [] E ta tNil) := by
  obtain ⟨f, fd, F, g, b⟩ := G.ex
  exact pe_meth0 he c g F hr b .nil hx ht
/-- the same within a try's body: what is raised is wished for at the slots -/
def tMethS (C : Addr) (m : Str) (sp : Sp) (ES : L2.St → XK) (ta : TE) (t : TA) : TE := fun σ H Q => ta σ H fun x H1 => ∃ a dx fs, x = .ref a ∧ H1 a = some (.ins C dx fs) ∧ fs.lookup m = none ∧ t σ H1 fun vs H2 => sp (x :: vs) H2 Q (ES σ)
theorem pe_methGS {pl : Sem Bool} (he : PE X o ta) (c : Cls X.K C) (G : MtG X.prog X.w X.K X.mg X.base k C m ps sp) (hr : Room k X.A) (hx : ∀ σ, PassesAt (L2.CX X.prog X.w) X σ (ES σ)) (ha : PA X (e :: es) t)
    (hst : starEach (e :: es) X.env = (false, eval e X.env) :: starEach es X.env := by rfl) (hpl : (backTo pos (starEach es X.env)).any (·.1) = false := by rfl)
    (ht : eval (.Call (.Attribute o m apos) (e :: es) [] pos) X.env = (do
      let ov ← eval o X.env
      standAt apos.atName
      let (f, first) ← holding [ov] (getMethod ov m pl)
      callWith pos f first (backTo pos (starEach (e :: es) X.env)) (backToKw pos (keywordEach [] X.env))) := by rfl) :
    PE X (.Call (.Attribute o m apos) (e :: es) [] pos) (tMethS C m sp ES ta t) := by
  obtain ⟨f, fd, F, hm, b⟩ := G.ex
  refine ⟨fun pins s σ H Q I h => ?_⟩
  refine PySem.W.methodCall_KW (pl := pl) (thn (he.run pins s σ H _ I h) fun u s1 ⟨x, H1, I1, rx, a, dx, fs, ex, ea, l, q⟩ => ?_) ht
  subst ex
  obtain rfl : u = Value.ref a := rx
  refine getmeth_ok I1 ea c hm l ?_
  refine PySem.W.callWith_K (first := [.ref a]) (h₀ := X.base) I.ok.mod.kin hm.kp (thn (ha.run pos pins s1 σ H1 _ I1 q) fun us s2 ⟨vs, H2, I2, r, q2⟩ => ⟨I2.kIn, ?_⟩) hst hpl
  exact run_fnS (us := .ref a :: us) (vs := .ref a :: vs) F hr b (hx σ) I2 (.cons rfl r) q2
theorem pe_methG0S {pl : Sem Bool} (he : PE X o ta) (c : Cls X.K C) (G : MtG X.prog X.w X.K X.mg X.base k C m ps sp) (hr : Room k X.A) (hx : ∀ σ, PassesAt (L2.CX X.prog X.w) X σ (ES σ))
    (ht : eval (.Call (.Attribute o m apos) [] [] pos) X.env = (do
      let ov ← eval o X.env
      standAt apos.atName
      let (f, first) ← holding [ov] (getMethod ov m pl)
      callWith pos f first (backTo pos (starEach [] X.env)) (backToKw pos (keywordEach [] X.env))) := by rfl) :
    PE X (.Call (.Attribute o m apos) [] [] pos) (tMethS C m sp ES ta tNil) := by
  obtain ⟨f, fd, F, hm, b⟩ := G.ex
  refine ⟨fun pins s σ H Q I h => ?_⟩
  refine PySem.W.methodCall_KW (pl := pl) (thn (he.run pins s σ H _ I h) fun u s1 ⟨x, H1, I1, rx, a, dx, fs, ex, ea, l, q⟩ => ?_) ht
  subst ex
  obtain rfl : u = Value.ref a := rx
  refine getmeth_ok I1 ea c hm l ?_
  exact PySem.W.callWith_K0 (first := [.ref a]) I1.kIn hm.kp (run_fnS (us := [.ref a]) (vs := [.ref a]) F hr b (hx σ) I1 (.cons rfl .nil) q)
theorem w_methS {σ : L2.St} {H : Hp} {Q : VK} (q : ta σ H fun x H1 => ∃ a dx fs, x = .ref a ∧ H1 a = some (.ins C dx fs) ∧ fs.lookup m = none ∧ t σ H1 fun vs H2 => sp (x :: vs) H2 Q (ES σ)) : tMethS C m sp ES ta t σ H Q := q
theorem pe_makeG (G : MkG X.prog X.w X.K X.mg X.base k C x ps sp) (hr : Room (k + 1) X.A) (hx : Passes (L2.CX X.prog X.w) X E) (ha : PA X (e :: es) t) (hg : Gl X x := by rfl)
    (hdb : (x == ("__debug__" : Str)) = false := by decide) (he : starEach (e :: es) X.env = (false, eval e X.env) :: starEach es X.env := by rfl) (hpl : (backTo pos (starEach es X.env)).any (·.1) = false := by rfl) :
    PE X (.Call (.Name x p) (e :: es) [] pos) (tMake C sp [] E t) := by
  obtain ⟨f, fd, F, M, g, b⟩ := G.ex
  exact pe_make M F hr hg g b .nil hx ha hdb he hpl
theorem pe_makeG0 (G : MkG X.prog X.w X.K X.mg X.base k C x ps sp) (hr : Room (k + 1) X.A) (hx : Passes (L2.CX X.prog X.w) X E) (hg : Gl X x := by rfl)
    (hdb : (x == ("__debug__" : Str)) = false := by decide) : PE X (.Call (.Name x p) [] [] pos) (tMake C sp [] E tNil) := by
  obtain ⟨f, fd, F, M, g, b⟩ := G.ex
  exact pe_make0 M F hr hg g b .nil hx hdb
/-- an own exception class over ValueError without __init__ -/
structure ExcT (K : PySem.W.Frag) (mg : Str → Option Value) (x : Str) (C : Addr) : Prop where
  g : mg x = some (.ref C)
  xP : PySem.W.excIn K C [.type "ValueError", .type "Exception", .type "BaseException", .type "object"] "ValueError.__new__" = true
  kP : PySem.W.keepIn K (.ref C) = true
  bP : PySem.W.subIn K (.ref C) (.type "BaseException") = some true
  tP : PySem.W.typeIn K (.ref C) = some (.type "type")
/-- raise X('..') -/
def tRaiseX (C : Addr) (W : WX) : TS := fun _ σ H => W (.ref C) none σ H
theorem ps_raiseG {W : WX} {y : Str} {j : Nat} {p2 pos2 : Pos} (T : ExcT X.K X.mg x C) (hc : X.calm = true) (tk : Takes X W) (hg : Gl X x := by rfl) (hdb : (x == ("__debug__" : Str)) = false := by decide) :
    PS X (.Raise (some (.Call (.Name x p) [.Constant (.str y) j p2] [] pos)) none pos2) (tRaiseX C W) := ps_raise hc tk (pmk_own PySem.F.excBase_ValueError T.xP T.g T.kP (raises_own T.bP T.tP) hg hdb)
theorem w_raise {W : WX} {D : Ends} {σ : L2.St} {H : Hp} (q : W (.ref C) none σ H) : tRaiseX C W D σ H := q
end
end Ts
namespace Ts
open PySem L2
/-! ### data: what a value means, as data of one kind -/
structure Enc (α : Type) [DecidableEq α] where
  enc : α → PyData
  ok : α → Prop
  lay : ∀ x, ok x → (enc x).canLay0 = true
  dep : Nat
  hdep : ∀ x, (enc x).depth ≤ dep
  eq : ∀ x y, PyData.eqv (enc x) (enc y) = decide (x = y)
section
variable {α β γ : Type} [DecidableEq α] [DecidableEq β] [DecidableEq γ]
theorem Enc.shaped (e : Enc α) (h : e.dep ≤ 64) (x : α) (o : e.ok x) : SeqAt.shaped (e.enc x) = true := by
  unfold SeqAt.shaped
  rw [e.lay x o, Bool.true_and]
  exact decide_eq_true (Nat.le_trans (e.hdep x) h)
theorem eInt_eq (x y : Int) : PyData.eqv (.int x) (.int y) = decide (x = y) := by rw [PyData.eqv]; exact Bool.beq_eq_decide_eq x y
def eInt : Enc Int := ⟨.int, fun _ => True, fun _ _ => rfl, 0, fun _ => Nat.le_refl _, eInt_eq⟩
def eNat : Enc Nat := ⟨fun n => .int n, fun _ => True, fun _ _ => rfl, 0, fun _ => Nat.le_refl _, fun x y => by
  rw [eInt_eq, decide_eq_decide]; omega⟩
def eStr : Enc Str := ⟨.str, fun x => PyData.strOk x = true, fun x h => by simpa [PyData.canLay0] using h, 0, fun _ => by simp [PyData.depth], fun x y => by rw [PyData.eqv, Bool.eq_iff_iff]; simp⟩
def eBool : Enc Bool := ⟨.bool, fun _ => True, fun _ _ => rfl, 0, fun _ => Nat.le_refl _, fun x y => by rw [PyData.eqv]; exact Bool.beq_eq_decide_eq x y⟩
theorem all_lay (e : Enc α) : ∀ xs : List α, (∀ x ∈ xs, e.ok x) → PyData.canLayAll0 (xs.map e.enc) = true
  | [], _ => rfl
  | x :: xs, h => by
    show PyData.canLayAll0 (e.enc x :: xs.map e.enc) = true
    unfold PyData.canLayAll0
    rw [e.lay x (h x List.mem_cons_self), all_lay e xs fun y hy => h y (List.mem_cons_of_mem _ hy)]
    rfl
theorem all_dep (e : Enc α) : ∀ xs : List α, PyData.depthAll (xs.map e.enc) ≤ e.dep
  | [] => Nat.zero_le _
  | x :: xs => by
    show PyData.depthAll (e.enc x :: xs.map e.enc) ≤ e.dep
    unfold PyData.depthAll
    exact Nat.max_le.mpr ⟨e.hdep x, all_dep e xs⟩
theorem all_eq (e : Enc α) : ∀ xs ys : List α, PyData.eqvAll (xs.map e.enc) (ys.map e.enc) = decide (xs = ys)
  | [], [] => rfl
  | [], y :: ys => rfl
  | x :: xs, [] => rfl
  | x :: xs, y :: ys => by
    show PyData.eqvAll (e.enc x :: xs.map e.enc) (e.enc y :: ys.map e.enc) = _
    rw [PyData.eqvAll, e.eq, all_eq e xs ys]
    by_cases h : x = y
    · by_cases h2 : xs = ys
      · simp [h, h2]
      · simp [h, h2]
    · simp [h]
def eList (e : Enc α) : Enc (List α) := ⟨fun xs => .list (xs.map e.enc), fun xs => ∀ x ∈ xs, e.ok x, fun xs h => by unfold PyData.canLay0; exact all_lay e xs h, e.dep + 1, fun xs => by
  unfold PyData.depth
  have := all_dep e xs
  omega, fun xs ys => by rw [PyData.eqv]; exact all_eq e xs ys⟩
def eTup2 (e : Enc α) (f : Enc β) : Enc (α × β) := ⟨fun p => .tuple [e.enc p.1, f.enc p.2], fun p => e.ok p.1 ∧ f.ok p.2, fun p h => by simp [PyData.canLay0, PyData.canLayAll0, e.lay _ h.1, f.lay _ h.2], max e.dep f.dep + 1, fun p => by
  have h1 := e.hdep p.1
  have h2 := f.hdep p.2
  simp only [PyData.depth, PyData.depthAll]
  omega, fun p r => by
  obtain ⟨a, b⟩ := p
  obtain ⟨c, d⟩ := r
  simp only [PyData.eqv, PyData.eqvAll, e.eq, f.eq, Bool.and_true, Prod.mk.injEq]
  by_cases h : a = c
  · by_cases h2 : b = d
    · simp [h, h2]
    · simp [h, h2]
  · simp [h]⟩
def eTup3 (e : Enc α) (f : Enc β) (g : Enc γ) : Enc (α × β × γ) := ⟨fun p => .tuple [e.enc p.1, f.enc p.2.1, g.enc p.2.2], fun p => e.ok p.1 ∧ f.ok p.2.1 ∧ g.ok p.2.2, fun p h => by simp [PyData.canLay0, PyData.canLayAll0, e.lay _ h.1, f.lay _ h.2.1, g.lay _ h.2.2], max e.dep (max f.dep g.dep) + 1, fun p => by
  have h1 := e.hdep p.1
  have h2 := f.hdep p.2.1
  have h3 := g.hdep p.2.2
  simp only [PyData.depth, PyData.depthAll]
  omega, fun p r => by
  obtain ⟨a, b, x⟩ := p
  obtain ⟨c, d, y⟩ := r
  simp only [PyData.eqv, PyData.eqvAll, e.eq, f.eq, g.eq, Bool.and_true, Prod.mk.injEq]
  by_cases h : a = c
  · by_cases h2 : b = d
    · by_cases h3 : x = y
      · simp [h, h2, h3]
      · simp [h, h2, h3]
    · simp [h, h2]
  · simp [h]⟩
end
/-! ### what is read stays read -/
section
variable {K : PySem.W.Frag} {H H' : Hp}
mutual
theorem dp_mono (e : Ex H H') : ∀ {v : V} {d : PyData}, Dp K H v d → Dp K H' v d
  | _, _, .non => .non
  | _, _, .bl b => .bl b
  | _, _, .int i => .int i
  | _, _, .str x => .str x
  | _, _, .lst h a => .lst (Evl.ex_l e h) (dpAll_mono e a)
  | _, _, .tup h a => .tup (Evl.ex_t e h) (dpAll_mono e a)
theorem dpAll_mono (e : Ex H H') : ∀ {vs : List V} {ds : List PyData}, DpAll K H vs ds → DpAll K H' vs ds
  | _, _, .nil => .nil
  | _, _, .cons h t => .cons (dp_mono e h) (dpAll_mono e t)
end
theorem dpAll_len : ∀ {vs : List V} {ds : List PyData}, DpAll K H vs ds → vs.length = ds.length
  | _, _, .nil => rfl
  | _, _, .cons _ t => by rw [List.length_cons, List.length_cons, dpAll_len t]
theorem dpAll_snoc {v : V} {d : PyData} : ∀ {vs : List V} {ds : List PyData}, DpAll K H vs ds → Dp K H v d → DpAll K H (vs ++ [v]) (ds ++ [d])
  | _, _, .nil, h => .cons h .nil
  | _, _, .cons a t, h => .cons a (dpAll_snoc t h)
theorem dpAll_append : ∀ {vs ws : List V} {ds es : List PyData}, DpAll K H vs ds → DpAll K H ws es → DpAll K H (vs ++ ws) (ds ++ es)
  | _, _, _, _, .nil, h => h
  | _, _, _, _, .cons a t, h => .cons a (dpAll_append t h)
theorem dpAll_get : ∀ {vs : List V} {ds : List PyData} {i : Nat} {v : V}, DpAll K H vs ds → vs[i]? = some v → ∃ d, ds[i]? = some d ∧ Dp K H v d
  | _, _, i, v, .nil, e => by simp at e
  | _, _, 0, v, .cons h t, e => by simp at e; subst e; exact ⟨_, rfl, h⟩
  | _, _, i + 1, v, .cons h t, e => by
    obtain ⟨d, h1, h2⟩ := dpAll_get (i := i) (v := v) t (by simpa using e)
    exact ⟨d, by simpa using h1, h2⟩
theorem dpAll_get' : ∀ {vs : List V} {ds : List PyData} {i : Nat} {d : PyData}, DpAll K H vs ds → ds[i]? = some d → ∃ v, vs[i]? = some v ∧ Dp K H v d
  | _, _, i, v, .nil, e => by simp at e
  | _, _, 0, v, .cons h t, e => by simp at e; subst e; exact ⟨_, rfl, h⟩
  | _, _, i + 1, v, .cons h t, e => by
    obtain ⟨d, h1, h2⟩ := dpAll_get' (i := i) (d := v) t (by simpa using e)
    exact ⟨d, by simpa using h1, h2⟩
theorem dpAll_set {v : V} {d : PyData} : ∀ {vs : List V} {ds : List PyData} (i : Nat), DpAll K H vs ds → Dp K H v d → DpAll K H (vs.set i v) (ds.set i d)
  | _, _, _, .nil, _ => .nil
  | _, _, 0, .cons _ t, h => .cons h t
  | _, _, i + 1, .cons a t, h => .cons a (dpAll_set i t h)
theorem dpAll_take : ∀ {vs : List V} {ds : List PyData} (i : Nat), DpAll K H vs ds → DpAll K H (vs.take i) (ds.take i)
  | _, _, 0, _ => .nil
  | _, _, _ + 1, .nil => .nil
  | _, _, i + 1, .cons a t => .cons a (dpAll_take i t)
theorem dpAll_drop : ∀ {vs : List V} {ds : List PyData} (i : Nat), DpAll K H vs ds → DpAll K H (vs.drop i) (ds.drop i)
  | _, _, 0, h => h
  | _, _, _ + 1, .nil => .nil
  | _, _, i + 1, .cons _ t => dpAll_drop i t
/-- texts are their own data -/
theorem dpAll_strs : ∀ (xs : List Str), DpAll K H (xs.map V.str) (xs.map PyData.str)
  | [] => .nil
  | x :: xs => .cons (.str x) (dpAll_strs xs)
theorem dpAll_ints : ∀ (xs : List Int), DpAll K H (xs.map V.int) (xs.map PyData.int)
  | [] => .nil
  | x :: xs => .cons (.int x) (dpAll_ints xs)
theorem dp_tup2 {v : V} {d e : PyData} (h : Dp K H v (.tuple [d, e])) : ∃ a x y, v = .ref a ∧ SqT K H a [x, y] ∧ Dp K H x d ∧ Dp K H y e := by
  cases h with
  | tup hs ha =>
    cases ha with
    | cons h1 t =>
      cases t with
      | cons h2 t =>
        cases t
        exact ⟨_, _, _, rfl, hs, h1, h2⟩
theorem dp_tup3 {v : V} {d e f : PyData} (h : Dp K H v (.tuple [d, e, f])) : ∃ a x y z, v = .ref a ∧ SqT K H a [x, y, z] ∧ Dp K H x d ∧ Dp K H y e ∧ Dp K H z f := by
  cases h with
  | tup hs ha =>
    cases ha with
    | cons h1 t =>
      cases t with
      | cons h2 t =>
        cases t with
        | cons h3 t =>
          cases t
          exact ⟨_, _, _, _, rfl, hs, h1, h2, h3⟩
theorem dp_int {v : V} {i : Int} (h : Dp K H v (.int i)) : v = .int i := by cases h; rfl
theorem dp_str {v : V} {i : Str} (h : Dp K H v (.str i)) : v = .str i := by cases h; rfl
theorem dp_bool {v : V} {i : Bool} (h : Dp K H v (.bool i)) : v = .bl i := by cases h; rfl
/-- a list of data of one kind at v -/
theorem dp_list {v : V} {ds : List PyData} (h : Dp K H v (.list ds)) : ∃ a xs, v = .ref a ∧ SqL K H a xs ∧ DpAll K H xs ds := by
  cases h with
  | lst hs ha => exact ⟨_, _, rfl, hs, ha⟩
theorem sqt_ex {a : Addr} {xs : List V} (e : Ex H H') (h : SqT K H a xs) : SqT K H' a xs := Evl.ex_t e h
theorem sql_ex {a : Addr} {xs : List V} (e : Ex H H') (h : SqL K H a xs) : SqL K H' a xs := Evl.ex_l e h
theorem sql {a : Addr} {xs : List V} (h : H a = some (.lst xs)) : SqL K H a xs := SqL.of h
theorem sqt {a : Addr} {xs : List V} (h : H a = some (.tup xs)) : SqT K H a xs := SqT.of h
theorem ty_sql {a : Addr} {xs : List V} (h : SqL K H a xs) : TyX K H (.ref a) (.type "list") := by
  rcases h with (h | ⟨o, h⟩) | ⟨o, its, n, h, c, _⟩
  · exact .base (.lst h)
  · exact .base (.frz h)
  · exact .kList h c
theorem ty_sqt {a : Addr} {xs : List V} (h : SqT K H a xs) : TyX K H (.ref a) (.type "tuple") := by
  rcases h with (h | ⟨o, h⟩) | ⟨o, its, n, h, c, _⟩
  · exact .base (.tup h)
  · exact .fTuple h
  · exact .kTuple h c
theorem tyL {a : Addr} {xs : List V} (h : H a = some (.lst xs)) : TyX K H (.ref a) (.type "list") := .base (.lst h)
theorem tyT {a : Addr} {xs : List V} (h : H a = some (.tup xs)) : TyX K H (.ref a) (.type "tuple") := .base (.tup h)
theorem tyI {i : Int} : TyX K H (.int i) (.type "int") := .base (.int i)
theorem tyS {i : Str} : TyX K H (.str i) (.type "str") := .base (.str i)
theorem tyB {i : Bool} : TyX K H (.bl i) (.type "bool") := .base (.bl i)
theorem tyN : TyX K H .non (.type "NoneType") := .base .non
end
/-! ### a heap without one object: what does not lean on it -/
def hid (p : Addr) (H : Hp) : Hp := fun b => if b = p then none else H b
theorem hid_ne {p b : Addr} {H : Hp} (h : b ≠ p) : hid p H b = H b := if_neg h
theorem hid_upd {p : Addr} {H : Hp} {o : HO} : hid p (upd H p o) = hid p H := by
  funext b
  unfold hid
  by_cases h : b = p
  · rw [if_pos h, if_pos h]
  · rw [if_neg h, if_neg h, upd_ne h]
theorem ex_hid {p : Addr} {H : Hp} : Ex (hid p H) H := fun b o h => by
  unfold hid at h
  by_cases e : b = p
  · rw [if_pos e] at h; cases h
  · rw [if_neg e] at h; exact h
theorem hid_mono {p : Addr} {H H' : Hp} (e : Ex H H') : Ex (hid p H) (hid p H') := fun b o h => by
  unfold hid at h ⊢
  by_cases q : b = p
  · rw [if_pos q] at h; cases h
  · rw [if_neg q] at h ⊢; exact e b o h
theorem hid_free {p : Addr} {H H' : Hp} (h : H p = none) (e : Ex H H') : Ex H (hid p H') := fun b o q => by
  have hb : b ≠ p := fun z => by rw [z, h] at q; cases q
  rw [hid_ne hb]
  exact e b o q
theorem hid_get {p : Addr} {H : Hp} {b : Addr} {o : HO} (h : H b = some o) (n : b ≠ p) : hid p H b = some o := by rw [hid_ne n]; exact h
theorem cmul_nat {i : Int} {z : Nat} (h : z ≤ 2 ^ 60) : CMul i (z : Int) := Or.inr ⟨by omega, by omega⟩
theorem drop_at {α : Type} {l : List α} {i : Nat} {x : α} (h : l[i]? = some x) : l.drop i = x :: l.drop (i + 1) := by
  obtain ⟨h1, h2⟩ := List.getElem?_eq_some_iff.mp h
  rw [List.drop_eq_getElem_cons h1, h2]
theorem take_at {α : Type} {l : List α} {i : Nat} {x : α} (h : l[i]? = some x) : l.take (i + 1) = l.take i ++ [x] := by
  rw [List.take_add_one, h]; rfl
theorem get_map {α β : Type} {f : α → β} {l : List α} {i : Nat} {y : β} (h : (l.map f)[i]? = some y) : ∃ x, l[i]? = some x ∧ y = f x := by
  rw [List.getElem?_map] at h
  obtain ⟨x, h1, h2⟩ := Option.map_eq_some_iff.mp h
  exact ⟨x, h1, h2.symm⟩
theorem get_lt {α : Type} {l : List α} {i : Nat} {x : α} (h : l[i]? = some x) : i < l.length := (List.getElem?_eq_some_iff.mp h).1
/-- where the program's classes stand -/
structure Cs where
  Ledger : Addr
  Book : Addr
  Looker : Addr
  TwinError : Addr
  NoRow : Addr
  NoSum : Addr
  NoPlace : Addr
  NoBlock : Addr
  Full : Addr
  Strange : Addr
def Cs.none : Cs := ⟨0, 0, 0, 0, 0, 0, 0, 0, 0, 0⟩
end Ts

local macro_rules | `(tactic| walk_at "s1") => `(tactic| ((with_reducible refine Ts.w_mul ?_ ?_); (first | exact Or.inl ⟨by omega, by omega⟩ | exact Or.inr ⟨by omega, by omega⟩)))
local macro_rules | `(tactic| walk_at "s1") => `(tactic| ((with_reducible refine Ts.w_div ?_ ?_ ?_); (first | decide | omega); (first | decide | omega)))
local macro_rules | `(tactic| walk_at "s1") => `(tactic| ((with_reducible refine Ts.w_mod ?_ ?_); (first | decide | omega)))
local macro_rules | `(tactic| walk_at "s1") => `(tactic| ((with_reducible refine Ts.w_pow ?_ ?_); (exact ⟨by decide, by decide, by decide⟩)))
local macro_rules | `(tactic| walk_at "s1") => `(tactic| first | with_reducible refine Ts.w_seq ?_ | with_reducible refine Ts.w_asg ?_ | with_reducible refine Ts.w_ret ?_ | with_reducible refine Ts.w_op ?_ | with_reducible refine Ts.w_c ?_ | with_reducible refine Ts.w_if ?_ | with_reducible refine Ts.w_v0 ?_ | with_reducible refine Ts.w_v1 ?_ | with_reducible refine Ts.w_v2 ?_ | with_reducible refine Ts.w_v3 ?_ | with_reducible refine Ts.w_v4 ?_ | with_reducible refine Ts.w_v5 ?_ | with_reducible refine Ts.w_v6 ?_ | with_reducible refine Ts.w_v7 ?_ | with_reducible refine Ts.w_v8 ?_ | with_reducible refine Ts.w_v9 ?_ | with_reducible refine Ts.w_v10 ?_ | with_reducible refine Ts.w_v11 ?_ | with_reducible refine Ts.w_v12 ?_ | with_reducible refine Ts.w_v13 ?_ | with_reducible refine Ts.w_v14 ?_ | with_reducible refine Ts.w_v15 ?_ | with_reducible refine Ts.w_v16 ?_ | with_reducible refine Ts.w_v17 ?_ | with_reducible refine Ts.w_v18 ?_ | with_reducible refine Ts.w_v19 ?_ | with_reducible refine Ts.w_n0 ?_ | with_reducible refine Ts.w_n1 ?_ | with_reducible refine Ts.w_n2 ?_ | with_reducible refine Ts.w_n3 ?_ | with_reducible refine Ts.w_n4 ?_ | with_reducible refine Ts.w_n5 ?_ | with_reducible refine Ts.w_n6 ?_ | with_reducible refine Ts.w_n7 ?_ | with_reducible refine Ts.w_n8 ?_ | with_reducible refine Ts.w_n9 ?_ | with_reducible refine Ts.w_n10 ?_ | with_reducible refine Ts.w_n11 ?_ | with_reducible refine Ts.w_n12 ?_ | with_reducible refine Ts.w_n13 ?_ | with_reducible refine Ts.w_n14 ?_ | with_reducible refine Ts.w_n15 ?_ | with_reducible refine Ts.w_n16 ?_ | with_reducible refine Ts.w_n17 ?_ | with_reducible refine Ts.w_n18 ?_ | with_reducible refine Ts.w_n19 ?_ | with_reducible refine Ts.w_test ?_ | with_reducible refine Ts.w_call ?_ | with_reducible refine Ts.w_cons ?_ | with_reducible refine Ts.w_nil ?_ | with_reducible refine Ts.w_drop ?_ | with_reducible refine Ts.w_for ?_ | with_reducible refine Ts.w_next ?_ | with_reducible refine Ts.w_break ?_ | with_reducible refine Ts.w_cont ?_ | with_reducible refine Ts.w_retN ?_ | with_reducible refine Ts.w_un ?_ | with_reducible refine Ts.w_tB ?_ | with_reducible refine Ts.w_bl ?_ | with_reducible refine Ts.w_chain ?_ | with_reducible refine Ts.w_and ?_ | with_reducible refine Ts.w_or ?_ | with_reducible refine Ts.w_not ?_ | with_reducible refine Ts.w_andV ?_ | with_reducible refine Ts.w_orV ?_ | with_reducible refine Ts.w_notV ?_ | with_reducible refine Ts.w_tup ?_ | with_reducible refine Ts.w_lst ?_ | with_reducible refine Ts.w_CB ?_ | with_reducible refine Ts.w_meth ?_ | with_reducible refine Ts.w_make ?_ | with_reducible refine Ts.w_callS ?_ | with_reducible refine Ts.w_fld ?_ | with_reducible refine Ts.w_bm0 ?_ | with_reducible refine Ts.w_bm ?_ | with_reducible refine Ts.w_sl ?_ | with_reducible refine Ts.w_sfld ?_ | with_reducible refine Ts.w_gSub ?_ | with_reducible refine Ts.w_gCons ?_ | with_reducible refine Ts.w_gNil ?_ | with_reducible refine Ts.w_iR1 ?_ | with_reducible refine Ts.w_iR2 ?_ | with_reducible refine Ts.w_iR3 ?_ | with_reducible refine Ts.w_iL ?_ | with_reducible refine Ts.w_addI ?_ | with_reducible refine Ts.w_sub ?_ | with_reducible refine Ts.w_lt ?_ | with_reducible refine Ts.w_le ?_ | with_reducible refine Ts.w_gt ?_ | with_reducible refine Ts.w_ge ?_ | with_reducible refine Ts.w_eqI ?_ | with_reducible refine Ts.w_neI ?_ | with_reducible refine Ts.w_eqS ?_ | with_reducible refine Ts.w_neS ?_ | with_reducible refine Ts.w_isN ?_ | with_reducible refine Ts.w_notN ?_ | with_reducible refine Ts.w_max ?_ | with_reducible refine Ts.w_min ?_ | with_reducible refine Ts.w_intI ?_ | with_reducible refine Ts.w_intB ?_ | with_reducible refine Ts.w_neg ?_)
local macro_rules | `(tactic| walk_at "s") => `(tactic| repeat (walk_at "s1"))

namespace Tw
open PySem L2 Ts
/-! ### counts, digits, sizes, parts: the mirror -/
def digs (n : Nat) : Nat := if h : n = 0 then 0 else digs (n / 2) + 1
decreasing_by omega
theorem digs_zero : digs 0 = 0 := by rw [digs]; rfl
theorem digs_pos {n : Nat} (h : n ≠ 0) : digs n = digs (n / 2) + 1 := by rw [digs, dif_neg h]
theorem digs_lt (n : Nat) : n < 2 ^ digs n := by
  induction n using Nat.strongRecOn with
  | _ n ih =>
    by_cases h : n = 0
    · subst h; rw [digs_zero]; decide
    · rw [digs_pos h, Nat.pow_succ]
      have := ih (n / 2) (by omega)
      omega
theorem digs_le {n k : Nat} (h : n < 2 ^ k) : digs n ≤ k := by
  induction k generalizing n with
  | zero =>
    have : n = 0 := by simpa using h
    subst this; rw [digs_zero]; exact Nat.le_refl _
  | succ k ih =>
    by_cases h0 : n = 0
    · subst h0; rw [digs_zero]; exact Nat.zero_le _
    · rw [digs_pos h0]
      have : n / 2 < 2 ^ k := by rw [Nat.pow_succ] at h; omega
      exact Nat.succ_le_succ (ih this)
theorem digs_ge {n k : Nat} (h : 2 ^ k ≤ n) : k < digs n := by
  rcases Nat.lt_or_ge k (digs n) with h1 | h1
  · exact h1
  · have h2 := digs_lt n
    have h3 : 2 ^ digs n ≤ 2 ^ k := Nat.pow_le_pow_right (by decide) h1
    omega
/-- the parts: heights below k, from the place on -/
def partsF (n place : Nat) : Nat → List (Nat × Nat)
  | 0 => []
  | k + 1 => if n / 2 ^ k % 2 = 1 then (k, place / 2 ^ k) :: partsF n (place + 2 ^ k) k else partsF n place k
def parts (n : Nat) : List (Nat × Nat) := partsF n 0 (digs n)
def encP : Enc (Nat × Nat) := eTup2 eNat eNat
/-- the place ahead of height k is the count without its low digits -/
def placeAt (n k : Nat) : Nat := n / 2 ^ k * 2 ^ k
theorem placeAt_succ (n k : Nat) : placeAt n k = placeAt n (k + 1) + (n / 2 ^ k % 2) * 2 ^ k := by
  unfold placeAt
  have h1 : n / 2 ^ (k + 1) = n / 2 ^ k / 2 := by rw [Nat.pow_succ, Nat.div_div_eq_div_mul]
  rw [h1, Nat.pow_succ, Nat.mul_comm (2 ^ k) 2, ← Nat.mul_assoc, ← Nat.add_mul]
  congr 1
  omega
theorem placeAt_le (n k : Nat) : placeAt n k ≤ n := Nat.div_mul_le_self _ _
theorem placeAt_lt (n k : Nat) : n < placeAt n k + 2 ^ k := by
  unfold placeAt
  have := Nat.div_add_mod n (2 ^ k)
  have h2 := Nat.mod_lt n (Nat.two_pow_pos k)
  rw [Nat.mul_comm] at this
  omega
theorem placeAt_digs (n : Nat) : placeAt n (digs n) = 0 := by
  unfold placeAt
  rw [Nat.div_eq_of_lt (digs_lt n), Nat.zero_mul]
theorem placeAt_zero (n : Nat) : placeAt n 0 = n := by simp [placeAt]
/-- the digit is 1 just where there is room -/
theorem bit_room (n k : Nat) : n / 2 ^ k % 2 = 1 ↔ placeAt n (k + 1) + 2 ^ k ≤ n := by
  have h1 := placeAt_succ n k
  have h2 := placeAt_le n k
  have h3 := placeAt_lt n k
  have h4 : n / 2 ^ k % 2 = 0 ∨ n / 2 ^ k % 2 = 1 := by omega
  rcases h4 with h4 | h4
  · rw [h4, Nat.zero_mul] at h1
    constructor
    · intro h; omega
    · intro h; omega
  · rw [h4, Nat.one_mul] at h1
    constructor
    · intro _; omega
    · intro _; exact h4
theorem parts_cons {n k : Nat} (h : n / 2 ^ k % 2 = 1) : partsF n (placeAt n (k + 1)) (k + 1) = (k, placeAt n (k + 1) / 2 ^ k) :: partsF n (placeAt n k) k := by
  have e := placeAt_succ n k
  rw [h, Nat.one_mul] at e
  rw [partsF, if_pos h, ← e]
theorem parts_skip {n k : Nat} (h : ¬ n / 2 ^ k % 2 = 1) : partsF n (placeAt n (k + 1)) (k + 1) = partsF n (placeAt n k) k := by
  have e := placeAt_succ n k
  have h0 : n / 2 ^ k % 2 = 0 := by omega
  rw [h0, Nat.zero_mul, Nat.add_zero] at e
  rw [partsF, if_neg h, ← e]

theorem pow_small {i : Nat} (h : i ≤ 60) : 2 ^ i ≤ 2 ^ 60 := Nat.pow_le_pow_right (by decide) h
/-! ### the readings -/
def N_digits : List Str := ["count", "found"]
def t_digits (K : PySem.W.Frag) (c : Cs) (E : XK) : TS := (tSeq (tAsg (tC (.int 0)) (gName 1))
  (tSeq (tWhile (tTest (tOp rGt (tVar 0) (tC (.int 0)))) (tSeq (tAsg (tOp rDiv (tVar 0) (tC (.int 2))) (gName 0))
  (tAsg (tOp rAddU (tVar 1) (tC (.int 1))) (gName 1))))
  (tRet (tVar 1))))
def sp_digits (_ : PySem.W.Frag) (_ : Cs) : Sp := fun vs H Q _ => ∃ n : Nat, vs = [.int n] ∧ Q (.int (digs n : Nat)) H
theorem len_digits {K c} : ∀ vs H Q E, sp_digits K c vs H Q E → vs.length = 1 := by rintro vs H Q E ⟨n, rfl, _⟩; rfl
theorem pure_digits {K : PySem.W.Frag} {c : Cs} {vs : List V} {H : Hp} {Q : VK} {E : XK} (h : sp_digits K c vs H Q E) : t_digits K c E ⟨fun _ H' => Q .non H', Q, fun _ _ => False, fun _ _ => False⟩ (start N_digits vs) H := by
  obtain ⟨n, rfl, k⟩ := h
  show t_digits K c E _ [some (.int n), none] H
  unfold t_digits
  walk_at "s"
  refine w_while (fun σ H' => H' = H ∧ ∃ m f : Nat, σ = [some (.int m), some (.int f)] ∧ digs m + f = digs n) (fun σ _ => match σ with | some (.int m) :: _ => m.toNat | _ => 0) ⟨rfl, n, 0, rfl, rfl⟩ ?_
  rintro σ H' ⟨rfl, m, f, rfl, e⟩
  walk_at "s"
  refine ite_d (fun h0 => ?_) fun h0 => ?_
  · refine w_wN ?_
    walk_at "s"
    have h1 : m ≠ 0 := by omega
    rw [digs_pos h1] at e
    refine ⟨⟨rfl, m / 2, f + 1, rfl, by omega⟩, ?_⟩
    show ((m : Int) / 2).toNat < ((m : Int)).toNat
    omega
  · walk_at "s"
    have h1 : m = 0 := by omega
    subst h1
    rw [digs_zero, Nat.zero_add] at e
    rw [e]
    exact k

def N_size_of : List Str := ["height", "found", "turn"]
def t_size_of (K : PySem.W.Frag) (c : Cs) (E : XK) : TS := (tSeq (tAsg (tC (.int 1)) (gName 1))
  (tSeq (tFor (iRng1 (tCons (tVar 0) tNil)) (gName 2) (tAsg (tOp rMul (tC (.int 2)) (tVar 1)) (gName 1)))
  (tRet (tVar 1))))
def sp_size_of (_ : PySem.W.Frag) (_ : Cs) : Sp := fun vs H Q _ => ∃ h : Nat, vs = [.int h] ∧ h ≤ 60 ∧ Q (.int ((2 ^ h : Nat) : Int)) H
theorem len_size_of {K c} : ∀ vs H Q E, sp_size_of K c vs H Q E → vs.length = 1 := by rintro vs H Q E ⟨n, rfl, _⟩; rfl
theorem pure_size_of {K : PySem.W.Frag} {c : Cs} {vs : List V} {H : Hp} {Q : VK} {E : XK} (h : sp_size_of K c vs H Q E) : t_size_of K c E ⟨fun _ H' => Q .non H', Q, fun _ _ => False, fun _ _ => False⟩ (start N_size_of vs) H := by
  obtain ⟨n, rfl, hn, k⟩ := h
  show t_size_of K c E _ [some (.int n), none, none] H
  unfold t_size_of
  walk_at "s"
  refine w_iR1v (by omega) (by omega) (lb_range0 (fun i σ H' => H' = H ∧ ∃ v, σ = [some (.int n), some (.int ((2 ^ i : Nat) : Int)), v]) ⟨rfl, none, rfl⟩ ?_ ?_)
  · rintro i σ H' hi ⟨rfl, v, rfl⟩
    have hp := pow_small (i := i) (by omega)
    walk_at "s"
    refine ⟨rfl, some (.int (i : Int)), ?_⟩
    congr 4 <;> (rw [Nat.pow_succ]; push_cast; try omega)
  · rintro σ H' ⟨rfl, v, rfl⟩
    walk_at "s"
    have e : ((n : Int)).toNat = n := by omega
    rw [e]
    exact k

def N_parted : List Str := ["count", "found", "place", "height", "size"]
def t_parted (K : PySem.W.Frag) (c : Cs) (E : XK) : TS := (tSeq (tAsg (tLst tNil) (gName 1))
  (tSeq (tAsg (tC (.int 0)) (gName 2))
  (tSeq (tFor (iRng3 (tCons (tOp rSubI (tCall (sp_digits K c) [] E0 (tCons (tVar 0) tNil)) (tC (.int 1))) (tCons (tUn (rU fun i => .int (-i)) (tC (.int 1))) (tCons (tUn (rU fun i => .int (-i)) (tC (.int 1))) tNil)))) (gName 3) (tSeq (tAsg (tCall (sp_size_of K c) [] E0 (tCons (tVar 3) tNil)) (gName 4))
  (tIfS (tTest (tOp (rEqU K) (tOp rMod (tOp rDiv (tVar 0) (tVar 4)) (tC (.int 2))) (tC (.int 1)))) (tSeq (tDrop (tBM K "list" rAppend (tVar 1) (tCons (tTup (tCons (tVar 3) (tCons (tOp rDiv (tVar 2) (tVar 4)) tNil))) tNil)))
  (tAsg (tOp rAddU (tVar 2) (tVar 4)) (gName 2))) tNext)))
  (tRet (tVar 1)))))
def sp_parted (K : PySem.W.Frag) (_ : Cs) : Sp := fun vs H Q _ => ∃ n : Nat, vs = [.int n] ∧ n < 2 ^ 29 ∧
  ∀ H' p xs, Ex H H' → H p = none → H' p = some (.lst xs) → DpAll K H' xs ((parts n).map encP.enc) → Q (.ref p) H'
theorem len_parted {K c} : ∀ vs H Q E, sp_parted K c vs H Q E → vs.length = 1 := by rintro vs H Q E ⟨n, rfl, _⟩; rfl
theorem cast_pow (k : Nat) : ((2 ^ k : Nat) : Int) = (2 : Int) ^ k := by push_cast; rfl
theorem cast_div (a b : Nat) : (a : Int) / (b : Int) = ((a / b : Nat) : Int) := by push_cast; rfl
theorem cast_mod (a b : Nat) : (a : Int) % (b : Int) = ((a % b : Nat) : Int) := by push_cast; rfl
theorem dp_pair {K : PySem.W.Frag} {H : Hp} {t : Addr} {a b : Nat} (h : H t = some (.tup [.int (a : Int), .int (b : Int)])) : Dp K H (.ref t) (encP.enc (a, b)) := .tup (sqt h) (.cons (.int _) (.cons (.int _) .nil))
theorem parts_len : ∀ (n place k : Nat), (partsF n place k).length ≤ k
  | _, _, 0 => Nat.le_refl _
  | n, place, k + 1 => by
    unfold partsF
    split
    · rw [List.length_cons]; exact Nat.succ_le_succ (parts_len n _ k)
    · exact Nat.le_succ_of_le (parts_len n _ k)
/-- what the loop over heights keeps: done so far at p, the rest at height k -/
structure PartsAt (K : PySem.W.Frag) (H H' : Hp) (p : Addr) (n k : Nat) : Prop where
  fr : H p = none
  ex : Ex H H'
  at' : ∃ xs done, H' p = some (.lst xs) ∧ DpAll K (hid p H') xs (done.map encP.enc) ∧ done ++ partsF n (placeAt n k) k = parts n ∧ done.length + k ≤ 64
theorem PartsAt.skip {K : PySem.W.Frag} {H H' : Hp} {p : Addr} {n k : Nat} (S : PartsAt K H H' p n (k + 1)) (h : ¬ n / 2 ^ k % 2 = 1) : PartsAt K H H' p n k := by
  obtain ⟨fr, ex, xs, done, h1, h2, h3, h4⟩ := S
  exact ⟨fr, ex, xs, done, h1, h2, by rw [← parts_skip h]; exact h3, by omega⟩
theorem PartsAt.more {K : PySem.W.Frag} {H H' : Hp} {p t : Addr} {n k : Nat} {xs : List V} {j : Int} (S : PartsAt K H H' p n (k + 1)) (h : n / 2 ^ k % 2 = 1) (hx : H' p = some (.lst xs)) (ht : H' t = none) (hj : j = ((placeAt n (k + 1) / 2 ^ k : Nat) : Int)) :
    PartsAt K H (upd (upd H' t (.tup [.int (k : Nat), .int j])) p (.lst (xs ++ [.ref t]))) p n k := by
  subst hj
  obtain ⟨fr, ex, xs', done, h1, h2, h3, h4⟩ := S
  rw [h1] at hx; cases hx
  have tp : t ≠ p := fun z => by rw [z, h1] at ht; cases ht
  refine ⟨fr, ex_mut (ex_new ex ht) fr, _, done ++ [(k, placeAt n (k + 1) / 2 ^ k)], upd_same, ?_, ?_, ?_⟩
  · rw [hid_upd, List.map_append]
    refine dpAll_snoc (dpAll_mono (hid_mono (ex_new ex_refl ht)) h2) (dp_pair ?_)
    rw [hid_ne tp, upd_same]
  · rw [List.append_assoc, List.singleton_append, ← parts_cons h]; exact h3
  · rw [List.length_append]; show done.length + 1 + k ≤ 64; omega
theorem pure_parted {K : PySem.W.Frag} {c : Cs} {vs : List V} {H : Hp} {Q : VK} {E : XK} (h : sp_parted K c vs H Q E) : t_parted K c E ⟨fun _ H' => Q .non H', Q, fun _ _ => False, fun _ _ => False⟩ (start N_parted vs) H := by
  obtain ⟨n, rfl, hn, k⟩ := h
  show t_parted K c E _ [some (.int n), none, none, none, none] H
  unfold t_parted
  walk_at "s"
  refine ⟨Nat.zero_le _, fun p hp => ?_⟩
  walk_at "s"
  have hd : digs n ≤ 29 := digs_le hn
  refine ⟨n, rfl, ?_⟩
  walk_at "s"
  refine w_iR3v (by omega) ?_
  have e1 : ((digs n : Int) - 1 - -1).toNat = digs n := by omega
  rw [e1]
  refine lb_rangeC (fun i σ H' => ∃ v w, σ = [some (.int n), some (.ref p), some (.int (placeAt n (digs n - i) : Nat)), v, w] ∧ PartsAt K H H' p n (digs n - i)) ?_ ?_ ?_
  · refine ⟨none, none, ?_, hp, ex_new ex_refl hp, [], [], upd_same, .nil, ?_, ?_⟩
    · rw [Nat.sub_zero, placeAt_digs]; rfl
    · rw [Nat.sub_zero, placeAt_digs]; rfl
    · show 0 + _ ≤ 64; omega
  · rintro i σ H' hi ⟨v, w, rfl, S⟩
    obtain ⟨h, eh⟩ : ∃ h, digs n - i = h + 1 := ⟨digs n - i - 1, by omega⟩
    have eh2 : (digs n : Int) - 1 + (i : Nat) * -1 = (h : Nat) := by omega
    have eh3 : digs n - (i + 1) = h := by omega
    rw [eh2, eh3]
    rw [eh] at S ⊢
    walk_at "s"
    refine ⟨h, rfl, by omega, ?_⟩
    have hp1 := Nat.two_pow_pos h
    have hp2 : 2 ^ h ≤ 2 ^ 29 := Nat.pow_le_pow_right (by decide) (by omega)
    have hp3 : (2 : Nat) ^ 29 = 536870912 := by decide
    generalize hz : 2 ^ h = z at hp1 hp2
    walk_at "s"
    rw [cast_div, show (2 : Int) = ((2 : Nat) : Int) from rfl, cast_mod]
    refine ite_d (fun h0 => ?_) fun h0 => ?_
    · have hb : n / 2 ^ h % 2 = 1 := by rw [hz]; omega
      obtain ⟨xs, done, h1, h2, h3, h4⟩ := S.at'
      walk_at "s"
      refine ⟨w_tyL (sql h1), ?_⟩
      walk_at "s"
      refine ⟨by show 2 ≤ sizeLine; exact sz100 (by decide), fun t ht => ?_⟩
      have tp : t ≠ p := fun e => by rw [e, h1] at ht; cases ht
      have hl := dpAll_len h2
      rw [List.length_map] at hl
      walk_at "s"
      refine w_app (by rw [upd_ne tp.symm]; exact h1) (szL (by omega)) ?_
      walk_at "s"
      have e2 := placeAt_succ n h
      rw [hb, hz, Nat.one_mul] at e2
      rw [show ((placeAt n (h + 1) : Nat) : Int) + (z : Int) = (placeAt n h : Nat) by omega]
      exact ⟨_, _, rfl, S.more hb h1 ht (by rw [hz, cast_div])⟩
    · have hb : ¬ n / 2 ^ h % 2 = 1 := by rw [hz]; omega
      walk_at "s"
      have e2 := placeAt_succ n h
      have hb0 : n / 2 ^ h % 2 = 0 := by omega
      rw [hb0, Nat.zero_mul, Nat.add_zero] at e2
      rw [show ((placeAt n (h + 1) : Nat) : Int) = (placeAt n h : Nat) by omega]
      exact ⟨_, _, rfl, S.skip hb⟩
  · rintro σ H' ⟨v, w, rfl, S⟩
    rw [Nat.sub_self] at S
    obtain ⟨xs, done, h1, h2, h3, h4⟩ := S.at'
    walk_at "s"
    have e3 : done = parts n := by rw [← h3]; simp [partsF]
    rw [e3] at h2
    exact k H' p xs S.ex hp h1 (dpAll_mono ex_hid h2)
end Tw

namespace Tw
open PySem L2 Ts
structure TxK (K : PySem.W.Frag) (c : Cs) : Prop where
  triv : True
def N_law_cell_at : List Str := ["_law_script", "_law_k"]
def t_law_cell_at (K : PySem.W.Frag) (c : Cs) (E : XK) : TS := (tSeq (tIfS (tTest (tOp rLt (tVar 1) (tCB (rLen K) (tCons (tVar 0) tNil)))) (tRet (tOp (rIx K) (tVar 0) (tVar 1))) tNext)
  (tRet (tC (.int 0))))
/-- a cell of the script, or 0: some whole number -/
def sp_law_cell_at (K : PySem.W.Frag) (_ : Cs) : Sp := fun vs H Q _ => ∃ (a : Addr) (ns : List Int) (i : Nat), vs = [.ref a, .int i] ∧ SqL K H a (ns.map V.int) ∧ ∀ z : Int, Q (.int z) H
theorem len_law_cell_at {K c} : ∀ vs H Q E, sp_law_cell_at K c vs H Q E → vs.length = 2 := by rintro vs H Q E ⟨a, ns, i, rfl, _⟩; rfl
theorem pure_law_cell_at {K : PySem.W.Frag} {c : Cs} {vs : List V} {H : Hp} {Q : VK} {E : XK} (h : sp_law_cell_at K c vs H Q E) : t_law_cell_at K c E ⟨fun _ H' => Q .non H', Q, fun _ _ => False, fun _ _ => False⟩ (start N_law_cell_at vs) H := by
  obtain ⟨a, ns, i, rfl, hs, k⟩ := h
  show t_law_cell_at K c E _ [some (.ref a), some (.int i)] H
  unfold t_law_cell_at
  walk_at "s"
  refine w_lenL hs ?_
  walk_at "s"
  refine ite_d (fun h0 => ?_) fun h0 => ?_
  · walk_at "s"
    have hi : i < (ns.map V.int).length := by omega
    rw [List.length_map] at hi
    exact w_ixL hs (atI_nat (by rw [List.getElem?_map, List.getElem?_eq_getElem hi]; rfl)) (k _)
  · walk_at "s"
    exact k 0
def N_law_whole : List Str := ["_law_found"]
def t_law_whole (K : PySem.W.Frag) (c : Cs) (E : XK) : TS := (tRet (tAndV (tCB (rIsi K) (tCons (tVar 0) (tCons (tC (.ty "int")) tNil))) (tNotV (tCB (rIsi K) (tCons (tVar 0) (tCons (tC (.ty "bool")) tNil))))))
/-- what is a whole number: an int that is no truth -/
def isWholeV (K : PySem.W.Frag) (H : Hp) (v : V) (b : Bool) : Prop :=
  (∃ i, v = .int i ∧ b = true) ∨ (∃ x, v = .bl x ∧ b = false) ∨ (∃ x, v = .str x ∧ b = false) ∨ (v = .non ∧ b = false) ∨ (∃ a xs, v = .ref a ∧ (SqL K H a xs ∨ SqT K H a xs) ∧ b = false)
def sp_law_whole (K : PySem.W.Frag) (_ : Cs) : Sp := fun vs H Q _ => ∃ (v : V) (b : Bool), vs = [v] ∧ isWholeV K H v b ∧ Q (.bl b) H
theorem len_law_whole {K c} : ∀ vs H Q E, sp_law_whole K c vs H Q E → vs.length = 1 := by rintro vs H Q E ⟨a, i, rfl, _⟩; rfl
theorem pure_law_whole {K : PySem.W.Frag} {c : Cs} {vs : List V} {H : Hp} {Q : VK} {E : XK} (h : sp_law_whole K c vs H Q E) : t_law_whole K c E ⟨fun _ H' => Q .non H', Q, fun _ _ => False, fun _ _ => False⟩ (start N_law_whole vs) H := by
  obtain ⟨v, b, rfl, hw, k⟩ := h
  show t_law_whole K c E _ [some v] H
  unfold t_law_whole
  walk_at "s"
  rcases hw with ⟨i, rfl, rfl⟩ | ⟨x, rfl, rfl⟩ | ⟨x, rfl, rfl⟩ | ⟨rfl, rfl⟩ | ⟨a, xs, rfl, h, rfl⟩
  · refine isi_ty (b := true) tyI (by decide +kernel) ?_
    walk_at "s"
    refine iteT ?_
    walk_at "s"
    refine isi_ty (b := false) tyI (by decide +kernel) ?_
    walk_at "s"
    exact k
  · refine isi_ty (b := true) tyB (by decide +kernel) ?_
    walk_at "s"
    refine iteT ?_
    walk_at "s"
    refine isi_ty (b := true) tyB (by decide +kernel) ?_
    walk_at "s"
    exact k
  · refine isi_ty (b := false) tyS (by decide +kernel) ?_
    walk_at "s"
    exact iteF k
  · refine isi_ty (b := false) tyN (by decide +kernel) ?_
    walk_at "s"
    exact iteF k
  · rcases h with h | h
    · refine isi_ty (b := false) (ty_sql h) (by decide +kernel) ?_
      walk_at "s"
      exact iteF k
    · refine isi_ty (b := false) (ty_sqt h) (by decide +kernel) ?_
      walk_at "s"
      exact iteF k
theorem whole_int {K : PySem.W.Frag} {c : Cs} {i : Int} {H : Hp} {Q : VK} {E : XK} (k : Q (.bl true) H) : sp_law_whole K c [.int i] H Q E := ⟨_, true, rfl, .inl ⟨i, rfl, rfl⟩, k⟩
end Tw

namespace Tw
open PySem L2 Ts
def N_law_digits : List Str := ["_law_count", "_law_found"]
def t_law_digits (K : PySem.W.Frag) (c : Cs) (E : XK) : TS := (tSeq (tAsg (tC (.int 0)) (gName 1))
  (tSeq (tWhile (tTest (tOp rGt (tVar 0) (tC (.int 0)))) (tSeq (tAsg (tOp rDiv (tVar 0) (tC (.int 2))) (gName 0))
  (tAsg (tOp rAddU (tVar 1) (tC (.int 1))) (gName 1))))
  (tRet (tVar 1))))
def sp_law_digits (_ : PySem.W.Frag) (_ : Cs) : Sp := fun vs H Q _ => ∃ n : Nat, vs = [.int n] ∧ Q (.int (digs n : Nat)) H
theorem len_law_digits {K c} : ∀ vs H Q E, sp_law_digits K c vs H Q E → vs.length = 1 := by rintro vs H Q E ⟨n, rfl, _⟩; rfl
theorem pure_law_digits {K : PySem.W.Frag} {c : Cs} {vs : List V} {H : Hp} {Q : VK} {E : XK} (h : sp_law_digits K c vs H Q E) : t_law_digits K c E ⟨fun _ H' => Q .non H', Q, fun _ _ => False, fun _ _ => False⟩ (start N_law_digits vs) H := by
  obtain ⟨n, rfl, k⟩ := h
  show t_law_digits K c E _ [some (.int n), none] H
  unfold t_law_digits
  walk_at "s"
  refine w_while (fun σ H' => H' = H ∧ ∃ m f : Nat, σ = [some (.int m), some (.int f)] ∧ digs m + f = digs n) (fun σ _ => match σ with | some (.int m) :: _ => m.toNat | _ => 0) ⟨rfl, n, 0, rfl, rfl⟩ ?_
  rintro σ H' ⟨rfl, m, f, rfl, e⟩
  walk_at "s"
  refine ite_d (fun h0 => ?_) fun h0 => ?_
  · refine w_wN ?_
    walk_at "s"
    have h1 : m ≠ 0 := by omega
    rw [digs_pos h1] at e
    refine ⟨⟨rfl, m / 2, f + 1, rfl, by omega⟩, ?_⟩
    show ((m : Int) / 2).toNat < ((m : Int)).toNat
    omega
  · walk_at "s"
    have h1 : m = 0 := by omega
    subst h1
    rw [digs_zero, Nat.zero_add] at e
    rw [e]
    exact k
def N_law_size : List Str := ["_law_height", "_law_size_here", "_law_turn"]
def t_law_size (K : PySem.W.Frag) (c : Cs) (E : XK) : TS := (tSeq (tAsg (tC (.int 1)) (gName 1))
  (tSeq (tFor (iRng1 (tCons (tVar 0) tNil)) (gName 2) (tAsg (tOp rMul (tVar 1) (tC (.int 2))) (gName 1)))
  (tRet (tVar 1))))
def sp_law_size (_ : PySem.W.Frag) (_ : Cs) : Sp := fun vs H Q _ => ∃ h : Nat, vs = [.int h] ∧ h ≤ 60 ∧ Q (.int ((2 ^ h : Nat) : Int)) H
theorem len_law_size {K c} : ∀ vs H Q E, sp_law_size K c vs H Q E → vs.length = 1 := by rintro vs H Q E ⟨n, rfl, _⟩; rfl
theorem pure_law_size {K : PySem.W.Frag} {c : Cs} {vs : List V} {H : Hp} {Q : VK} {E : XK} (h : sp_law_size K c vs H Q E) : t_law_size K c E ⟨fun _ H' => Q .non H', Q, fun _ _ => False, fun _ _ => False⟩ (start N_law_size vs) H := by
  obtain ⟨n, rfl, hn, k⟩ := h
  show t_law_size K c E _ [some (.int n), none, none] H
  unfold t_law_size
  walk_at "s"
  refine w_iR1v (by omega) (by omega) (lb_range0 (fun i σ H' => H' = H ∧ ∃ v, σ = [some (.int n), some (.int ((2 ^ i : Nat) : Int)), v]) ⟨rfl, none, rfl⟩ ?_ ?_)
  · rintro i σ H' hi ⟨rfl, v, rfl⟩
    have hp := pow_small (i := i) (by omega)
    walk_at "s"
    refine ⟨rfl, some (.int (i : Int)), ?_⟩
    congr 4 <;> (rw [Nat.pow_succ]; push_cast; try omega)
  · rintro σ H' ⟨rfl, v, rfl⟩
    walk_at "s"
    have e : ((n : Int)).toNat = n := by omega
    rw [e]
    exact k
def N_law_parted : List Str := ["_law_count", "_law_found", "_law_place", "_law_height"]
def t_law_parted (K : PySem.W.Frag) (c : Cs) (E : XK) : TS := (tSeq (tAsg (tLst tNil) (gName 1))
  (tSeq (tAsg (tC (.int 0)) (gName 2))
  (tSeq (tFor (iRng3 (tCons (tCall (sp_law_digits K c) [] E0 (tCons (tVar 0) tNil)) (tCons (tUn (rU fun i => .int (-i)) (tC (.int 1))) (tCons (tUn (rU fun i => .int (-i)) (tC (.int 1))) tNil)))) (gName 3) (tIfS (tTest (tOp rLe (tOp rAddU (tVar 2) (tCall (sp_law_size K c) [] E0 (tCons (tVar 3) tNil))) (tVar 0))) (tSeq (tDrop (tBM K "list" rAppend (tVar 1) (tCons (tTup (tCons (tVar 3) (tCons (tOp rDiv (tVar 2) (tCall (sp_law_size K c) [] E0 (tCons (tVar 3) tNil))) tNil))) tNil)))
  (tAsg (tOp rAddU (tVar 2) (tCall (sp_law_size K c) [] E0 (tCons (tVar 3) tNil))) (gName 2))) tNext))
  (tRet (tVar 1)))))
def sp_law_parted (K : PySem.W.Frag) (c : Cs) : Sp := sp_parted K c
theorem len_law_parted {K c} : ∀ vs H Q E, sp_law_parted K c vs H Q E → vs.length = 1 := by rintro vs H Q E ⟨n, rfl, _⟩; rfl
theorem pure_law_parted {K : PySem.W.Frag} {c : Cs} {vs : List V} {H : Hp} {Q : VK} {E : XK} (h : sp_law_parted K c vs H Q E) : t_law_parted K c E ⟨fun _ H' => Q .non H', Q, fun _ _ => False, fun _ _ => False⟩ (start N_law_parted vs) H := by
  obtain ⟨n, rfl, hn, k⟩ := h
  show t_law_parted K c E _ [some (.int n), none, none, none] H
  unfold t_law_parted
  walk_at "s"
  refine ⟨Nat.zero_le _, fun p hp => ?_⟩
  walk_at "s"
  have hd : digs n ≤ 29 := digs_le hn
  refine ⟨n, rfl, ?_⟩
  walk_at "s"
  refine w_iR3v (by omega) ?_
  have e1 : ((digs n : Int) - -1).toNat = digs n + 1 := by omega
  have z1 : placeAt n (digs n + 1) = 0 := by
    unfold placeAt
    rw [Nat.div_eq_of_lt (Nat.lt_of_lt_of_le (digs_lt n) (Nat.pow_le_pow_right (by decide) (Nat.le_succ _))), Nat.zero_mul]
  have z2 : ¬ n / 2 ^ digs n % 2 = 1 := by rw [Nat.div_eq_of_lt (digs_lt n)]; decide
  have z3 : partsF n (placeAt n (digs n + 1)) (digs n + 1) = parts n := by rw [parts_skip z2, placeAt_digs]; rfl
  rw [e1]
  refine lb_rangeC (fun i σ H' => ∃ v, σ = [some (.int n), some (.ref p), some (.int (placeAt n (digs n + 1 - i) : Nat)), v] ∧ PartsAt K H H' p n (digs n + 1 - i)) ?_ ?_ ?_
  · refine ⟨none, ?_, hp, ex_new ex_refl hp, [], [], upd_same, .nil, ?_, ?_⟩
    · rw [Nat.sub_zero, z1]; rfl
    · rw [Nat.sub_zero]; exact z3
    · show 0 + _ ≤ 64; omega
  · rintro i σ H' hi ⟨v, rfl, S⟩
    obtain ⟨h, eh⟩ : ∃ h, digs n + 1 - i = h + 1 := ⟨digs n - i, by omega⟩
    have eh2 : (digs n : Int) + (i : Nat) * -1 = (h : Nat) := by omega
    have eh3 : digs n + 1 - (i + 1) = h := by omega
    rw [eh2, eh3]
    rw [eh] at S ⊢
    walk_at "s"
    refine ⟨h, rfl, by omega, ?_⟩
    have hp1 := Nat.two_pow_pos h
    have hp2 : 2 ^ h ≤ 2 ^ 29 := Nat.pow_le_pow_right (by decide) (by omega)
    have hp3 : (2 : Nat) ^ 29 = 536870912 := by decide
    have room := bit_room n h
    have e2 := placeAt_succ n h
    walk_at "s"
    generalize hz : 2 ^ h = z at hp1 hp2 room e2
    refine ite_d (fun h0 => ?_) fun h0 => ?_
    · have hb : n / 2 ^ h % 2 = 1 := by rw [hz]; exact room.mpr (by omega)
      obtain ⟨xs, done, h1, h2, h3, h4⟩ := S.at'
      walk_at "s"
      refine ⟨w_tyL (sql h1), ?_⟩
      walk_at "s"
      refine ⟨h, rfl, by omega, ?_⟩
      rw [hz]
      walk_at "s"
      refine ⟨by show 2 ≤ sizeLine; exact sz100 (by decide), fun t ht => ?_⟩
      have tp : t ≠ p := fun e => by rw [e, h1] at ht; cases ht
      have hl := dpAll_len h2
      rw [List.length_map] at hl
      walk_at "s"
      refine w_app (by rw [upd_ne tp.symm]; exact h1) (szL (by omega)) ?_
      walk_at "s"
      refine ⟨h, rfl, by omega, ?_⟩
      rw [hz]
      walk_at "s"
      rw [hz] at hb
      rw [hb, Nat.one_mul] at e2
      rw [show ((placeAt n (h + 1) : Nat) : Int) + (z : Int) = (placeAt n h : Nat) by omega]
      exact ⟨_, rfl, S.more (by rw [hz]; exact hb) h1 ht (by rw [hz, cast_div])⟩
    · have hb : ¬ n / 2 ^ h % 2 = 1 := by rw [hz]; intro q; exact h0 (by have := room.mp q; omega)
      walk_at "s"
      rw [hz] at hb
      have hb0 : n / z % 2 = 0 := by omega
      rw [hb0, Nat.zero_mul, Nat.add_zero] at e2
      rw [show ((placeAt n (h + 1) : Nat) : Int) = (placeAt n h : Nat) by omega]
      exact ⟨_, rfl, S.skip (by rw [hz]; exact hb)⟩
  · rintro σ H' ⟨v, rfl, S⟩
    rw [Nat.sub_self] at S
    obtain ⟨xs, done, h1, h2, h3, h4⟩ := S.at'
    walk_at "s"
    have e3 : done = parts n := by rw [← h3]; simp [partsF]
    rw [e3] at h2
    exact k H' p xs S.ex hp h1 (dpAll_mono ex_hid h2)

/-- what the law goes through: from the place at height k on, lesser heights one behind the other -/
def Chk (place last : Nat) : List (Nat × Nat) → Nat → Prop
  | [], n => place = n
  | (h, j) :: r, n => h < last ∧ h ≤ 60 ∧ j * 2 ^ h = place ∧ Chk (place + 2 ^ h) h r n
theorem chk_parts (n : Nat) (hn : n < 2 ^ 29) : ∀ (k last : Nat), k ≤ last → k ≤ 60 → Chk (placeAt n k) last (partsF n (placeAt n k) k) n
  | 0, _, _, _ => placeAt_zero n
  | k + 1, last, h, hk => by
    by_cases b : n / 2 ^ k % 2 = 1
    · rw [parts_cons b]
      have e := placeAt_succ n k
      rw [b, Nat.one_mul] at e
      refine ⟨by omega, by omega, ?_, ?_⟩
      · have : 2 ^ k ∣ placeAt n (k + 1) := ⟨n / 2 ^ (k + 1) * 2, by unfold placeAt; rw [Nat.pow_succ, Nat.mul_comm (2 ^ k) 2, ← Nat.mul_assoc, Nat.mul_comm (2 ^ k)]⟩
        exact Nat.div_mul_cancel this
      · rw [← e]; exact chk_parts n hn k k (Nat.le_refl _) (by omega)
    · rw [parts_skip b]
      have e := placeAt_succ n k
      have b0 : n / 2 ^ k % 2 = 0 := by omega
      rw [b0, Nat.zero_mul, Nat.add_zero] at e
      rw [← e]
      exact chk_parts n hn k last (by omega) (by omega)

def N_law : List Str := ["_law_script", "_law_cell", "_law_count", "_law_many", "_law_found", "_law_place", "_law_last", "_law_part"]
def t_law (K : PySem.W.Frag) (c : Cs) (E : XK) : TS := (tSeq (tAsg (tCall (sp_law_cell_at K c) [] E0 (tCons (tVar 0) (tCons (tC (.int 0)) tNil))) (gName 1))
  (tSeq (tAsg (tOp rMod (tOp rDiv (tVar 1) (tC (.int 3))) (tC (.int 71))) (gName 2))
  (Evl.tCut (tIfS (tTest (tOp (rEqU K) (tOp rMod (tVar 1) (tC (.int 3))) (tC (.int 1)))) (tAsg (tOp rMod (tOp rDiv (tVar 1) (tC (.int 3))) (tOp rAddU (tOp rPow (tC (.int 10)) (tC (.int 6))) (tC (.int 1)))) (gName 2)) tNext)
  (Evl.tCut (tIfS (tTest (tOp (rEqU K) (tOp rMod (tVar 1) (tC (.int 3))) (tC (.int 2)))) (tAsg (tCB rMax (tCons (tC (.int 0)) (tCons (tOp rAddU (tOp rSubI (tCall (sp_law_size K c) [] E0 (tCons (tOp rMod (tOp rDiv (tVar 1) (tC (.int 3))) (tC (.int 20))) tNil)) (tC (.int 1))) (tOp rMod (tOp rDiv (tVar 1) (tC (.int 60))) (tC (.int 3)))) tNil))) (gName 2)) tNext)
  (tSeq (tAsg (tCall (sp_digits K c) [] E0 (tCons (tVar 2) tNil)) (gName 3))
  (tSeq (tAsg (tCall (sp_parted K c) [] E0 (tCons (tVar 2) tNil)) (gName 4))
  (tSeq (tIfS (tOr (tNot (tB (tCall (sp_law_whole K c) [] E0 (tCons (tVar 3) tNil)))) (tOr (tTest (tOp (rNeU K) (tVar 3) (tCall (sp_law_digits K c) [] E0 (tCons (tVar 2) tNil)))) (tNot (tB (tCB (rIsi K) (tCons (tVar 4) (tCons (tC (.ty "list")) tNil))))))) (tRet (tC (.bl false))) tNext)
  (tSeq (tAsg (tC (.int 0)) (gName 5))
  (tSeq (tAsg (tVar 3) (gName 6))
  (tSeq (tFor (iList K (tVar 4)) (gName 7) (tSeq (tIfS (tOr (tNot (tB (tCB (rIsi K) (tCons (tVar 7) (tCons (tC (.ty "tuple")) tNil))))) (tOr (tTest (tOp (rNeU K) (tCB (rLen K) (tCons (tVar 7) tNil)) (tC (.int 2)))) (tOr (tNot (tB (tCall (sp_law_whole K c) [] E0 (tCons (tOp (rIx K) (tVar 7) (tC (.int 0))) tNil)))) (tNot (tB (tCall (sp_law_whole K c) [] E0 (tCons (tOp (rIx K) (tVar 7) (tC (.int 1))) tNil))))))) (tRet (tC (.bl false))) tNext)
  (tSeq (tIfS (tOr (tNot (tTest (tChain rLe rLt (tC (.int 0)) (tOp (rIx K) (tVar 7) (tC (.int 0))) (tVar 6)))) (tTest (tOp (rNeU K) (tOp rMul (tOp (rIx K) (tVar 7) (tC (.int 1))) (tCall (sp_law_size K c) [] E0 (tCons (tOp (rIx K) (tVar 7) (tC (.int 0))) tNil))) (tVar 5)))) (tRet (tC (.bl false))) tNext)
  (tSeq (tAsg (tOp rAddU (tVar 5) (tCall (sp_law_size K c) [] E0 (tCons (tOp (rIx K) (tVar 7) (tC (.int 0))) tNil))) (gName 5))
  (tAsg (tOp (rIx K) (tVar 7) (tC (.int 0))) (gName 6))))))
  (tSeq (tDrop (tBM K "list" rAppend (tVar 4) (tCons (tTup (tCons (tC (.int 0)) (tCons (tC (.int 0)) tNil))) tNil)))
  (tRet (tAndV (tOp (rEqU K) (tVar 5) (tVar 2)) (tOp (rEqU K) (tCall (sp_parted K c) [] E0 (tCons (tVar 2) tNil)) (tCall (sp_law_parted K c) [] E0 (tCons (tVar 2) tNil))))))))))))))))
def sp_law (K : PySem.W.Frag) (_ : Cs) : Sp := fun vs H Q _ => ∃ (a : Addr) (ns : List Int), vs = [.ref a] ∧ SqL K H a (ns.map V.int) ∧ ns.length ≤ 63 ∧ ∀ H', Q (.bl true) H'
theorem len_law {K c} : ∀ vs H Q E, sp_law K c vs H Q E → vs.length = 1 := by rintro vs H Q E ⟨a, ns, rfl, _⟩; rfl
theorem pure_law {K : PySem.W.Frag} {c : Cs} {vs : List V} {H : Hp} {Q : VK} {E : XK} (h : sp_law K c vs H Q E) : t_law K c E ⟨fun _ H' => Q .non H', Q, fun _ _ => False, fun _ _ => False⟩ (start N_law vs) H := by
  obtain ⟨a, ns, rfl, hs, hl, k⟩ := h
  show t_law K c E _ [some (.ref a), none, none, none, none, none, none, none] H
  unfold t_law
  walk_at "s"
  refine ⟨a, ns, 0, rfl, hs, fun z => ?_⟩
  walk_at "s"
  refine w_cut (Mid := fun σ' H' => H' = H ∧ ∃ m : Nat, m < 2 ^ 29 ∧ σ' = [some (.ref a), some (.int z), some (.int m), none, none, none, none, none]) ?_ ?_
  · walk_at "s"
    refine ite_d (fun h0 => ?_) fun h0 => ?_
    · walk_at "s"
      obtain ⟨m, e⟩ := Int.eq_ofNat_of_zero_le (a := z / 3 % (10 ^ Int.toNat 6 + 1)) (Int.emod_nonneg _ (by decide))
      have e2 : z / 3 % (10 ^ Int.toNat 6 + 1) < 10 ^ Int.toNat 6 + 1 := Int.emod_lt_of_pos _ (by decide)
      have e3 : (10 : Int) ^ Int.toNat 6 + 1 = 1000001 := by decide
      rw [e, e3] at e2
      rw [e]
      exact ⟨rfl, m, by omega, rfl⟩
    · walk_at "s"
      obtain ⟨m, e⟩ := Int.eq_ofNat_of_zero_le (a := z / 3 % 71) (by omega)
      rw [e]
      exact ⟨rfl, m, by omega, rfl⟩
  rintro σ H1 ⟨rfl, m0, hm0, rfl⟩
  refine w_cut (Mid := fun σ' H' => H' = H1 ∧ ∃ m : Nat, m < 2 ^ 29 ∧ σ' = [some (.ref a), some (.int z), some (.int m), none, none, none, none, none]) ?_ ?_
  · walk_at "s"
    refine ite_d (fun h0 => ?_) fun h0 => ?_
    · walk_at "s"
      obtain ⟨m, e⟩ := Int.eq_ofNat_of_zero_le (a := z / 3 % 20) (by omega)
      rw [e]
      refine ⟨m, rfl, by omega, ?_⟩
      walk_at "s"
      have hp : 2 ^ m ≤ 2 ^ 19 := Nat.pow_le_pow_right (by decide) (by omega)
      have hp3 : (2 : Nat) ^ 19 = 524288 := by decide
      obtain ⟨q, e2⟩ := Int.eq_ofNat_of_zero_le (a := (if ((2 ^ m : Nat) : Int) - 1 + z / 60 % 3 > 0 then ((2 ^ m : Nat) : Int) - 1 + z / 60 % 3 else 0)) (by split <;> omega)
      have e3 : (q : Int) < 1000000 := by rw [← e2]; split <;> omega
      rw [e2]
      exact ⟨rfl, q, by omega, rfl⟩
    · walk_at "s"
      exact ⟨rfl, m0, hm0, rfl⟩
  rintro σ H2 ⟨rfl, m, hm, rfl⟩
  walk_at "s"
  refine ⟨m, rfl, ?_⟩
  walk_at "s"
  refine ⟨m, rfl, hm, fun H1 p xs ex hp hx hd => ?_⟩
  walk_at "s"
  refine whole_int ?_
  walk_at "s"
  refine iteF ?_
  walk_at "s"
  refine ⟨m, rfl, ?_⟩
  walk_at "s"
  rw [decide_eq_true rfl]
  refine iteF ?_
  walk_at "s"
  refine isi_ty (b := true) (tyL hx) (by decide +kernel) ?_
  walk_at "s"
  refine iteF ?_
  walk_at "s"
  have hxl : xs.length = (parts m).length := by have := dpAll_len hd; rw [List.length_map] at this; exact this
  have hd29 : digs m ≤ 29 := digs_le hm
  have ck : Chk 0 (digs m) (parts m) m := by have := chk_parts m hm (digs m) (digs m) (Nat.le_refl _) (by omega); rw [placeAt_digs] at this; exact this
  refine w_iLv (sql hx) (lb_list (K := K) (xs := xs) (fun i σ H' => H' = H1 ∧ ∃ (pl la : Nat) (v : Option V), Chk pl la ((parts m).drop i) m ∧ σ = [some (.ref a), some (.int z), some (.int m), some (.int (digs m : Nat)), some (.ref p), some (.int pl), some (.int la), v]) ⟨rfl, 0, digs m, none, ck, rfl⟩ ?_ ?_ ?_)
  · rintro i σ H' _ ⟨rfl, _⟩
    exact sql hx
  · rintro i x σ H' hi ⟨rfl, pl, la, v, hc, rfl⟩
    obtain ⟨d, hd1, hd2⟩ := dpAll_get hd hi
    rw [List.getElem?_map] at hd1
    obtain ⟨⟨h, j⟩, hp1, rfl⟩ := Option.map_eq_some_iff.mp hd1
    obtain ⟨t, x1, y1, rfl, ht, hx1, hy1⟩ := dp_tup2 hd2
    have hx1 := dp_int hx1
    have hy1 := dp_int hy1
    subst hx1 hy1
    have hdr : (parts m).drop i = (h, j) :: (parts m).drop (i + 1) := drop_at hp1
    rw [hdr] at hc
    obtain ⟨c1, c2, c3, c4⟩ := hc
    have i0 : atI [V.int (h : Nat), V.int (j : Nat)] 0 = some (V.int (h : Nat)) := rfl
    have i1 : atI [V.int (h : Nat), V.int (j : Nat)] 1 = some (V.int (j : Nat)) := rfl
    walk_at "s"
    refine isi_ty (b := true) (ty_sqt ht) (by decide +kernel) ?_
    walk_at "s"
    refine iteF ?_
    walk_at "s"
    refine w_lenT ht ?_
    walk_at "s"
    refine iteF ?_
    walk_at "s"
    refine w_ixT ht i0 ?_
    walk_at "s"
    refine whole_int ?_
    walk_at "s"
    refine iteF ?_
    walk_at "s"
    refine w_ixT ht i1 ?_
    walk_at "s"
    refine whole_int ?_
    walk_at "s"
    refine iteF ?_
    walk_at "s"
    refine w_ixT ht i0 ?_
    walk_at "s"
    rw [decide_eq_true (show (0 : Int) ≤ (h : Nat) by omega)]
    refine iteT ?_
    walk_at "s"
    rw [decide_eq_true (show ((h : Nat) : Int) < (la : Nat) by omega)]
    refine iteF ?_
    walk_at "s"
    refine w_ixT ht i1 ?_
    walk_at "s"
    refine w_ixT ht i0 ?_
    walk_at "s"
    refine ⟨h, rfl, c2, ?_⟩
    have hp2 := pow_small c2
    refine w_mul (cmul_nat hp2) ?_
    walk_at "s"
    rw [show ((j : Nat) : Int) * ((2 ^ h : Nat) : Int) = (pl : Nat) by rw [← c3]; push_cast; rfl, decide_eq_true rfl]
    refine iteF ?_
    walk_at "s"
    refine w_ixT ht i0 ?_
    walk_at "s"
    refine ⟨h, rfl, c2, ?_⟩
    walk_at "s"
    refine w_ixT ht i0 ?_
    walk_at "s"
    rw [show ((pl : Nat) : Int) + ((2 ^ h : Nat) : Int) = ((pl + 2 ^ h : Nat) : Int) by push_cast; rfl]
    exact ⟨rfl, _, _, _, c4, rfl⟩
  · rintro σ H' ⟨rfl, pl, la, v, hc, rfl⟩
    rw [hxl, List.drop_length] at hc
    have hc : pl = m := hc
    subst hc
    walk_at "s"
    refine ⟨w_tyL (sql hx), ?_⟩
    walk_at "s"
    refine ⟨by show 2 ≤ sizeLine; exact sz100 (by decide), fun t ht => ?_⟩
    walk_at "s"
    have tp : p ≠ t := ne_of_none hx ht
    have hsz : xs.length < sizeLine := by
      rw [hxl]
      have := parts_len pl 0 (digs pl)
      exact szL (by unfold parts; omega)
    refine w_app (by rw [upd_ne tp]; exact hx) hsz ?_
    walk_at "s"
    rw [decide_eq_true rfl]
    refine iteT ?_
    walk_at "s"
    refine ⟨pl, rfl, hm, fun H3 p3 xs3 ex3 hp3 hx3 hd3 => ?_⟩
    walk_at "s"
    refine ⟨pl, rfl, hm, fun H4 p4 xs4 ex4 hp4 hx4 hd4 => ?_⟩
    walk_at "s"
    have sh := (eList encP).shaped (by decide) (parts pl) (fun _ _ => ⟨trivial, trivial⟩)
    refine w_eqD (d := (eList encP).enc (parts pl)) (e := (eList encP).enc (parts pl)) (.lst (sql (ex4 _ _ hx3)) (dpAll_mono ex4 hd3)) (.lst (sql hx4) hd4) sh sh ?_
    rw [(eList encP).eq, decide_eq_true rfl]
    exact k _
end Tw

namespace Tw
open PySem PySem.Spec PyProof.Rows L2 Ts
def topS (i : Nat) : Stmt := PySem.Challenge.pw_twinsum_k01_digits_and_parts.main.body.getD i (.Pass ⟨0, 0, 0, 0⟩)
structure BM (mg : Str → Option Value) : Prop where
  bool : mg "bool" = none
  int : mg "int" = none
  isinstance : mg "isinstance" = none
  len : mg "len" = none
  list : mg "list" = none
  max : mg "max" = none
  range : mg "range" = none
  tuple : mg "tuple" = none
section
variable {P : Program} {w : World} {K : PySem.W.Frag} {mg : Str → Option Value} {base : Heap} {c : Cs}
abbrev s_law_cell_at : Stmt := topS 5
theorem sc_law_cell_at : FnScope N_law_cell_at ["_law_script", "_law_k"] (defScope s_law_cell_at) := ⟨rfl, rfl, rfl, by decide +kernel, rfl, by decide +kernel, by decide +kernel⟩
theorem ok_law_cell_at (M : BM mg) (T : TxK K c) (F : FunG K mg "_law_cell_at" s_law_cell_at ["_law_script", "_law_k"]) : FnG P w K mg base 1 "_law_cell_at" ["_law_script", "_law_k"] (sp_law_cell_at K c) := by
  refine F.ok sc_law_cell_at len_law_cell_at (fun f cdv A outer s H vs Q E hr h => ⟨t_law_cell_at K c E, ?_, pure_law_cell_at h⟩)
  exact (pss_cons (ps_if (pt_cmpR op_lt1 (pv 1) (pe_callB call_len1 (by rfl) M.len (by decide +kernel) (pa_cons (pv 0) pa_nil)) (nomark _)) (pss_one (ps_ret (pe_ix ix_seq (pv 0) (pv 1) (fun _ _ => rfl)))) pss_nil)
  (pss_one (ps_ret pe_int)))
abbrev s_digits : Stmt := topS 1
theorem sc_digits : FnScope N_digits ["count"] (defScope s_digits) := ⟨rfl, rfl, rfl, by decide +kernel, rfl, by decide +kernel, by decide +kernel⟩
theorem ok_digits (M : BM mg) (T : TxK K c) (F : FunG K mg "digits" s_digits ["count"]) : FnG P w K mg base 1 "digits" ["count"] (sp_digits K c) := by
  refine F.ok sc_digits len_digits (fun f cdv A outer s H vs Q E hr h => ⟨t_digits K c E, ?_, pure_digits h⟩)
  exact (pss_cons (ps_set (i := 1) sc_digits.nd rfl (Or.inl rfl) pe_int)
  (pss_cons (ps_while (passes_of rfl) (pt_cmpR op_gt1 (pv 0) pe_int (nomark _)) (pss_cons (ps_set (i := 0) sc_digits.nd rfl (Or.inl rfl) (pe_op op_div1 (pv 0) pe_int))
  (pss_one (ps_set (i := 1) sc_digits.nd rfl (Or.inl rfl) (pe_op op_addU (pv 1) pe_int)))))
  (pss_one (ps_ret (pv 1)))))
abbrev s_size_of : Stmt := topS 2
theorem sc_size_of : FnScope N_size_of ["height"] (defScope s_size_of) := ⟨rfl, rfl, rfl, by decide +kernel, rfl, by decide +kernel, by decide +kernel⟩
theorem ok_size_of (M : BM mg) (T : TxK K c) (F : FunG K mg "size_of" s_size_of ["height"]) : FnG P w K mg base 1 "size_of" ["height"] (sp_size_of K c) := by
  refine F.ok sc_size_of len_size_of (fun f cdv A outer s H vs Q E hr h => ⟨t_size_of K c E, ?_, pure_size_of h⟩)
  exact (pss_cons (ps_set (i := 1) sc_size_of.nd rfl (Or.inl rfl) pe_int)
  (pss_cons (ps_for (passes_of rfl) rfl (pi_range1 (by rfl) M.range (pa_cons (pv 0) pa_nil)) (pg_name (i := 2) sc_size_of.nd rfl (Or.inl rfl)) (pss_one (ps_set (i := 1) sc_size_of.nd rfl (Or.inl rfl) (pe_op op_mul1 pe_int (pv 1)))))
  (pss_one (ps_ret (pv 1)))))
abbrev s_parted : Stmt := topS 3
theorem sc_parted : FnScope N_parted ["count"] (defScope s_parted) := ⟨rfl, rfl, rfl, by decide +kernel, rfl, by decide +kernel, by decide +kernel⟩
theorem ok_parted (M : BM mg) (T : TxK K c) (F : FunG K mg "parted" s_parted ["count"]) (G_size_of : FnG P w K mg base 1 "size_of" ["height"] (sp_size_of K c)) (G_digits : FnG P w K mg base 1 "digits" ["count"] (sp_digits K c)) : FnG P w K mg base 2 "parted" ["count"] (sp_parted K c) := by
  refine F.ok sc_parted len_parted (fun f cdv A outer s H vs Q E hr h => ⟨t_parted K c E, ?_, pure_parted h⟩)
  exact (pss_cons (ps_set (i := 1) sc_parted.nd rfl (Or.inl rfl) (pe_lst pa_nil))
  (pss_cons (ps_set (i := 2) sc_parted.nd rfl (Or.inl rfl) pe_int)
  (pss_cons (ps_for (passes_of rfl) rfl (pi_range3 (by rfl) M.range (pa_cons (pe_op op_sub1 (pe_callG (E := E0) G_digits (hr.mono (by decide)) passL (by exact (pa_cons (pv 0) pa_nil))) pe_int) (pa_cons (pe_un un_neg pe_int) (pa_cons (pe_un un_neg pe_int) pa_nil)))) (pg_name (i := 3) sc_parted.nd rfl (Or.inl rfl)) (pss_cons (ps_set (i := 4) sc_parted.nd rfl (Or.inl rfl) (pe_callG (E := E0) G_size_of (hr.mono (by decide)) passL (by exact (pa_cons (pv 3) pa_nil))))
  (pss_one (ps_if (pt_cmpR (op_eqU hr.units) (pe_op op_mod1 (pe_op op_div1 (pv 0) (pv 4)) pe_int) pe_int (nomark _)) (pss_cons (ps_expr (pe_bm PySem.F.plainAttrs_list PySem.F.slot_list_append PySem.F.type_list_append mt_append (pv 1) (pa_cons (pe_tup (pa_cons (pv 3) (pa_cons (pe_op op_div1 (pv 2) (pv 4)) pa_nil))) pa_nil)))
  (pss_one (ps_set (i := 2) sc_parted.nd rfl (Or.inl rfl) (pe_op op_addU (pv 2) (pv 4))))) pss_nil))))
  (pss_one (ps_ret (pv 1))))))
abbrev s_law_whole : Stmt := topS 6
theorem sc_law_whole : FnScope N_law_whole ["_law_found"] (defScope s_law_whole) := ⟨rfl, rfl, rfl, by decide +kernel, rfl, by decide +kernel, by decide +kernel⟩
theorem ok_law_whole (M : BM mg) (T : TxK K c) (F : FunG K mg "_law_whole" s_law_whole ["_law_found"]) : FnG P w K mg base 1 "_law_whole" ["_law_found"] (sp_law_whole K c) := by
  refine F.ok sc_law_whole len_law_whole (fun f cdv A outer s H vs Q E hr h => ⟨t_law_whole K c E, ?_, pure_law_whole h⟩)
  exact (pss_one (ps_ret (pe_and (pe_callB call_isi (by rfl) M.isinstance (by decide +kernel) (pa_cons (pv 0) (pa_cons (pe_bltn (v := .ty "int") (by rfl) M.int (by decide +kernel) rfl) pa_nil))) (pe_one (pe_not (pe_callB call_isi (by rfl) M.isinstance (by decide +kernel) (pa_cons (pv 0) (pa_cons (pe_bltn (v := .ty "bool") (by rfl) M.bool (by decide +kernel) rfl) pa_nil))))))))
abbrev s_law_digits : Stmt := topS 7
theorem sc_law_digits : FnScope N_law_digits ["_law_count"] (defScope s_law_digits) := ⟨rfl, rfl, rfl, by decide +kernel, rfl, by decide +kernel, by decide +kernel⟩
theorem ok_law_digits (M : BM mg) (T : TxK K c) (F : FunG K mg "_law_digits" s_law_digits ["_law_count"]) : FnG P w K mg base 1 "_law_digits" ["_law_count"] (sp_law_digits K c) := by
  refine F.ok sc_law_digits len_law_digits (fun f cdv A outer s H vs Q E hr h => ⟨t_law_digits K c E, ?_, pure_law_digits h⟩)
  exact (pss_cons (ps_set (i := 1) sc_law_digits.nd rfl (Or.inl rfl) pe_int)
  (pss_cons (ps_while (passes_of rfl) (pt_cmpR op_gt1 (pv 0) pe_int (nomark _)) (pss_cons (ps_set (i := 0) sc_law_digits.nd rfl (Or.inl rfl) (pe_op op_div1 (pv 0) pe_int))
  (pss_one (ps_set (i := 1) sc_law_digits.nd rfl (Or.inl rfl) (pe_op op_addU (pv 1) pe_int)))))
  (pss_one (ps_ret (pv 1)))))
abbrev s_law_size : Stmt := topS 8
theorem sc_law_size : FnScope N_law_size ["_law_height"] (defScope s_law_size) := ⟨rfl, rfl, rfl, by decide +kernel, rfl, by decide +kernel, by decide +kernel⟩
theorem ok_law_size (M : BM mg) (T : TxK K c) (F : FunG K mg "_law_size" s_law_size ["_law_height"]) : FnG P w K mg base 1 "_law_size" ["_law_height"] (sp_law_size K c) := by
  refine F.ok sc_law_size len_law_size (fun f cdv A outer s H vs Q E hr h => ⟨t_law_size K c E, ?_, pure_law_size h⟩)
  exact (pss_cons (ps_set (i := 1) sc_law_size.nd rfl (Or.inl rfl) pe_int)
  (pss_cons (ps_for (passes_of rfl) rfl (pi_range1 (by rfl) M.range (pa_cons (pv 0) pa_nil)) (pg_name (i := 2) sc_law_size.nd rfl (Or.inl rfl)) (pss_one (ps_set (i := 1) sc_law_size.nd rfl (Or.inl rfl) (pe_op op_mul1 (pv 1) pe_int))))
  (pss_one (ps_ret (pv 1)))))
abbrev s_law_parted : Stmt := topS 9
theorem sc_law_parted : FnScope N_law_parted ["_law_count"] (defScope s_law_parted) := ⟨rfl, rfl, rfl, by decide +kernel, rfl, by decide +kernel, by decide +kernel⟩
theorem ok_law_parted (M : BM mg) (T : TxK K c) (F : FunG K mg "_law_parted" s_law_parted ["_law_count"]) (G_law_digits : FnG P w K mg base 1 "_law_digits" ["_law_count"] (sp_law_digits K c)) (G_law_size : FnG P w K mg base 1 "_law_size" ["_law_height"] (sp_law_size K c)) : FnG P w K mg base 2 "_law_parted" ["_law_count"] (sp_law_parted K c) := by
  refine F.ok sc_law_parted len_law_parted (fun f cdv A outer s H vs Q E hr h => ⟨t_law_parted K c E, ?_, pure_law_parted h⟩)
  exact (pss_cons (ps_set (i := 1) sc_law_parted.nd rfl (Or.inl rfl) (pe_lst pa_nil))
  (pss_cons (ps_set (i := 2) sc_law_parted.nd rfl (Or.inl rfl) pe_int)
  (pss_cons (ps_for (passes_of rfl) rfl (pi_range3 (by rfl) M.range (pa_cons (pe_callG (E := E0) G_law_digits (hr.mono (by decide)) passL (by exact (pa_cons (pv 0) pa_nil))) (pa_cons (pe_un un_neg pe_int) (pa_cons (pe_un un_neg pe_int) pa_nil)))) (pg_name (i := 3) sc_law_parted.nd rfl (Or.inl rfl)) (pss_one (ps_if (pt_cmpR op_le1 (pe_op op_addU (pv 2) (pe_callG (E := E0) G_law_size (hr.mono (by decide)) passL (by exact (pa_cons (pv 3) pa_nil)))) (pv 0) (nomark _)) (pss_cons (ps_expr (pe_bm PySem.F.plainAttrs_list PySem.F.slot_list_append PySem.F.type_list_append mt_append (pv 1) (pa_cons (pe_tup (pa_cons (pv 3) (pa_cons (pe_op op_div1 (pv 2) (pe_callG (E := E0) G_law_size (hr.mono (by decide)) passL (by exact (pa_cons (pv 3) pa_nil)))) pa_nil))) pa_nil)))
  (pss_one (ps_set (i := 2) sc_law_parted.nd rfl (Or.inl rfl) (pe_op op_addU (pv 2) (pe_callG (E := E0) G_law_size (hr.mono (by decide)) passL (by exact (pa_cons (pv 3) pa_nil))))))) pss_nil)))
  (pss_one (ps_ret (pv 1))))))
abbrev s_law : Stmt := topS 10
theorem sc_law : FnScope N_law ["_law_script"] (defScope s_law) := ⟨rfl, rfl, rfl, by decide +kernel, rfl, by decide +kernel, by decide +kernel⟩
theorem ok_law (M : BM mg) (T : TxK K c) {f : Addr} {fd : FuncData} (F : Fun K "law" "law" s_law f fd) (G_law_cell_at : FnG P w K mg base 1 "_law_cell_at" ["_law_script", "_law_k"] (sp_law_cell_at K c)) (G_digits : FnG P w K mg base 1 "digits" ["count"] (sp_digits K c)) (G_parted : FnG P w K mg base 2 "parted" ["count"] (sp_parted K c)) (G_law_whole : FnG P w K mg base 1 "_law_whole" ["_law_found"] (sp_law_whole K c)) (G_law_digits : FnG P w K mg base 1 "_law_digits" ["_law_count"] (sp_law_digits K c)) (G_law_size : FnG P w K mg base 1 "_law_size" ["_law_height"] (sp_law_size K c)) (G_law_parted : FnG P w K mg base 2 "_law_parted" ["_law_count"] (sp_law_parted K c)) : FnOk P w K mg base (L2.CX P w) 3 f fd ["_law_script"] (sp_law K c) := by
  refine F.okX sc_law len_law (fun cdv A outer s H vs Q E hr h => ⟨t_law K c E, ?_, pure_law h⟩)
  exact (pss_cons (ps_set (i := 1) sc_law.nd rfl (Or.inl rfl) (pe_callG (E := E0) G_law_cell_at (hr.mono (by decide)) passL (by exact (pa_cons (pv 0) (pa_cons pe_int pa_nil)))))
  (pss_cons (ps_set (i := 2) sc_law.nd rfl (Or.inl rfl) (pe_op op_mod1 (pe_op op_div1 (pv 1) pe_int) pe_int))
  (Evl.pss_cut (ps_if (pt_cmpR (op_eqU hr.units) (pe_op op_mod1 (pv 1) pe_int) pe_int (nomark _)) (pss_one (ps_set (i := 2) sc_law.nd rfl (Or.inl rfl) (pe_op op_mod1 (pe_op op_div1 (pv 1) pe_int) (pe_op op_addU (pe_op op_pow1 pe_int pe_int) pe_int)))) pss_nil) (Evl.pss_cut (ps_if (pt_cmpR (op_eqU hr.units) (pe_op op_mod1 (pv 1) pe_int) pe_int (nomark _)) (pss_one (ps_set (i := 2) sc_law.nd rfl (Or.inl rfl) (pe_callB (call_max1 rfl) (by rfl) M.max (by decide +kernel) (pa_cons pe_int (pa_cons (pe_op op_addU (pe_op op_sub1 (pe_callG (E := E0) G_law_size (hr.mono (by decide)) passL (by exact (pa_cons (pe_op op_mod1 (pe_op op_div1 (pv 1) pe_int) pe_int) pa_nil))) pe_int) (pe_op op_mod1 (pe_op op_div1 (pv 1) pe_int) pe_int)) pa_nil))))) pss_nil) (pss_cons (ps_set (i := 3) sc_law.nd rfl (Or.inl rfl) (pe_callG (E := E0) G_digits (hr.mono (by decide)) passL (by exact (pa_cons (pv 2) pa_nil))))
  (pss_cons (ps_set (i := 4) sc_law.nd rfl (Or.inl rfl) (pe_callG (E := E0) G_parted (hr.mono (by decide)) passL (by exact (pa_cons (pv 2) pa_nil))))
  (pss_cons (ps_if (PW.pt (pw_or (pt_not (pt_val (pe_callG (E := E0) G_law_whole (hr.mono (by decide)) passL (by exact (pa_cons (pv 3) pa_nil))))) (pw_or (pt_cmpR (op_neU hr.units) (pv 3) (pe_callG (E := E0) G_law_digits (hr.mono (by decide)) passL (by exact (pa_cons (pv 2) pa_nil))) (nomark _)) (pw_or1 (pt_not (pt_val (pe_callB call_isi (by rfl) M.isinstance (by decide +kernel) (pa_cons (pv 4) (pa_cons (pe_bltn (v := .ty "list") (by rfl) M.list (by decide +kernel) rfl) pa_nil))))))))) (pss_one (ps_ret pe_bl)) pss_nil)
  (pss_cons (ps_set (i := 5) sc_law.nd rfl (Or.inl rfl) pe_int)
  (pss_cons (ps_set (i := 6) sc_law.nd rfl (Or.inl rfl) (pv 3))
  (pss_cons (ps_for (passes_of rfl) rfl (pi_list (pv 4)) (pg_name (i := 7) sc_law.nd rfl (Or.inl rfl)) (pss_cons (ps_if (PW.pt (pw_or (pt_not (pt_val (pe_callB call_isi (by rfl) M.isinstance (by decide +kernel) (pa_cons (pv 7) (pa_cons (pe_bltn (v := .ty "tuple") (by rfl) M.tuple (by decide +kernel) rfl) pa_nil))))) (pw_or (pt_cmpR (op_neU hr.units) (pe_callB call_len1 (by rfl) M.len (by decide +kernel) (pa_cons (pv 7) pa_nil)) pe_int (nomark _)) (pw_or (pt_not (pt_val (pe_callG (E := E0) G_law_whole (hr.mono (by decide)) passL (by exact (pa_cons (pe_ix ix_seq (pv 7) pe_int (fun _ _ => rfl)) pa_nil))))) (pw_or1 (pt_not (pt_val (pe_callG (E := E0) G_law_whole (hr.mono (by decide)) passL (by exact (pa_cons (pe_ix ix_seq (pv 7) pe_int (fun _ _ => rfl)) pa_nil)))))))))) (pss_one (ps_ret pe_bl)) pss_nil)
  (pss_cons (ps_if (PW.pt (pw_or (pt_not (pt_chain op_le1 op_lt1 pe_int (pe_ix ix_seq (pv 7) pe_int (fun _ _ => rfl)) (pv 6))) (pw_or1 (pt_cmpR (op_neU hr.units) (pe_op op_mul1 (pe_ix ix_seq (pv 7) pe_int (fun _ _ => rfl)) (pe_callG (E := E0) G_law_size (hr.mono (by decide)) passL (by exact (pa_cons (pe_ix ix_seq (pv 7) pe_int (fun _ _ => rfl)) pa_nil)))) (pv 5) (nomark _))))) (pss_one (ps_ret pe_bl)) pss_nil)
  (pss_cons (ps_set (i := 5) sc_law.nd rfl (Or.inl rfl) (pe_op op_addU (pv 5) (pe_callG (E := E0) G_law_size (hr.mono (by decide)) passL (by exact (pa_cons (pe_ix ix_seq (pv 7) pe_int (fun _ _ => rfl)) pa_nil)))))
  (pss_one (ps_set (i := 6) sc_law.nd rfl (Or.inl rfl) (pe_ix ix_seq (pv 7) pe_int (fun _ _ => rfl))))))))
  (pss_cons (ps_expr (pe_bm PySem.F.plainAttrs_list PySem.F.slot_list_append PySem.F.type_list_append mt_append (pv 4) (pa_cons (pe_tup (pa_cons pe_int (pa_cons pe_int pa_nil))) pa_nil)))
  (pss_one (ps_ret (pe_and (pe_cmpR (op_eqU hr.units) (pv 5) (pv 2) (nomark _)) (pe_one (pe_cmpR (op_eqU hr.units) (pe_callG (E := E0) G_parted (hr.mono (by decide)) passL (by exact (pa_cons (pv 2) pa_nil))) (pe_callG (E := E0) G_law_parted (hr.mono (by decide)) passL (by exact (pa_cons (pv 2) pa_nil))) (nomark _)))))))))))))))))
end
theorem all_mk {l : PySem.W.OpenLaw} {w : World} {K : PySem.W.Frag} {h : Heap} {mg : Str → Option Value} {fa : Addr} (X : K.In h) (G : h.Ns mainGlobals mg) (hfa : mg "law" = some (.ref fa))
    {f_law_cell_at : Addr} {od_law_cell_at an_law_cell_at : Option Addr} {sl_law_cell_at : Array (Option Value)} {oc_law_cell_at kV_law_cell_at dc_law_cell_at pm_law_cell_at cd_law_cell_at ct_law_cell_at : Value}
    {f_digits : Addr} {od_digits an_digits : Option Addr} {sl_digits : Array (Option Value)} {oc_digits kV_digits dc_digits pm_digits cd_digits ct_digits : Value}
    {f_size_of : Addr} {od_size_of an_size_of : Option Addr} {sl_size_of : Array (Option Value)} {oc_size_of kV_size_of dc_size_of pm_size_of cd_size_of ct_size_of : Value}
    {f_parted : Addr} {od_parted an_parted : Option Addr} {sl_parted : Array (Option Value)} {oc_parted kV_parted dc_parted pm_parted cd_parted ct_parted : Value}
    {f_law_whole : Addr} {od_law_whole an_law_whole : Option Addr} {sl_law_whole : Array (Option Value)} {oc_law_whole kV_law_whole dc_law_whole pm_law_whole cd_law_whole ct_law_whole : Value}
    {f_law_digits : Addr} {od_law_digits an_law_digits : Option Addr} {sl_law_digits : Array (Option Value)} {oc_law_digits kV_law_digits dc_law_digits pm_law_digits cd_law_digits ct_law_digits : Value}
    {f_law_size : Addr} {od_law_size an_law_size : Option Addr} {sl_law_size : Array (Option Value)} {oc_law_size kV_law_size dc_law_size pm_law_size cd_law_size ct_law_size : Value}
    {f_law_parted : Addr} {od_law_parted an_law_parted : Option Addr} {sl_law_parted : Array (Option Value)} {oc_law_parted kV_law_parted dc_law_parted pm_law_parted cd_law_parted ct_law_parted : Value}
    {f_law : Addr} {od_law an_law : Option Addr} {sl_law : Array (Option Value)} {oc_law kV_law dc_law pm_law cd_law ct_law : Value}
    (a_law_cell_at : PySem.W.nsIn K mainGlobals "_law_cell_at" = some (some (.ref f_law_cell_at)))
    (l_law_cell_at : K.lookup f_law_cell_at = some ⟨oc_law_cell_at, od_law_cell_at, .func (PySem.W.fnOf "_law_cell_at" "_law_cell_at" (defArgs s_law_cell_at) (defBody s_law_cell_at) (defScope s_law_cell_at) .none kV_law_cell_at dc_law_cell_at pm_law_cell_at an_law_cell_at cd_law_cell_at ct_law_cell_at), sl_law_cell_at⟩)
    (c_law_cell_at : PySem.W.codeIn K cd_law_cell_at "_law_cell_at" = true)
    (k_law_cell_at : PySem.W.keepIn K (.ref f_law_cell_at) = true)
    (a_digits : PySem.W.nsIn K mainGlobals "digits" = some (some (.ref f_digits)))
    (l_digits : K.lookup f_digits = some ⟨oc_digits, od_digits, .func (PySem.W.fnOf "digits" "digits" (defArgs s_digits) (defBody s_digits) (defScope s_digits) .none kV_digits dc_digits pm_digits an_digits cd_digits ct_digits), sl_digits⟩)
    (c_digits : PySem.W.codeIn K cd_digits "digits" = true)
    (k_digits : PySem.W.keepIn K (.ref f_digits) = true)
    (a_size_of : PySem.W.nsIn K mainGlobals "size_of" = some (some (.ref f_size_of)))
    (l_size_of : K.lookup f_size_of = some ⟨oc_size_of, od_size_of, .func (PySem.W.fnOf "size_of" "size_of" (defArgs s_size_of) (defBody s_size_of) (defScope s_size_of) .none kV_size_of dc_size_of pm_size_of an_size_of cd_size_of ct_size_of), sl_size_of⟩)
    (c_size_of : PySem.W.codeIn K cd_size_of "size_of" = true)
    (k_size_of : PySem.W.keepIn K (.ref f_size_of) = true)
    (a_parted : PySem.W.nsIn K mainGlobals "parted" = some (some (.ref f_parted)))
    (l_parted : K.lookup f_parted = some ⟨oc_parted, od_parted, .func (PySem.W.fnOf "parted" "parted" (defArgs s_parted) (defBody s_parted) (defScope s_parted) .none kV_parted dc_parted pm_parted an_parted cd_parted ct_parted), sl_parted⟩)
    (c_parted : PySem.W.codeIn K cd_parted "parted" = true)
    (k_parted : PySem.W.keepIn K (.ref f_parted) = true)
    (a_law_whole : PySem.W.nsIn K mainGlobals "_law_whole" = some (some (.ref f_law_whole)))
    (l_law_whole : K.lookup f_law_whole = some ⟨oc_law_whole, od_law_whole, .func (PySem.W.fnOf "_law_whole" "_law_whole" (defArgs s_law_whole) (defBody s_law_whole) (defScope s_law_whole) .none kV_law_whole dc_law_whole pm_law_whole an_law_whole cd_law_whole ct_law_whole), sl_law_whole⟩)
    (c_law_whole : PySem.W.codeIn K cd_law_whole "_law_whole" = true)
    (k_law_whole : PySem.W.keepIn K (.ref f_law_whole) = true)
    (a_law_digits : PySem.W.nsIn K mainGlobals "_law_digits" = some (some (.ref f_law_digits)))
    (l_law_digits : K.lookup f_law_digits = some ⟨oc_law_digits, od_law_digits, .func (PySem.W.fnOf "_law_digits" "_law_digits" (defArgs s_law_digits) (defBody s_law_digits) (defScope s_law_digits) .none kV_law_digits dc_law_digits pm_law_digits an_law_digits cd_law_digits ct_law_digits), sl_law_digits⟩)
    (c_law_digits : PySem.W.codeIn K cd_law_digits "_law_digits" = true)
    (k_law_digits : PySem.W.keepIn K (.ref f_law_digits) = true)
    (a_law_size : PySem.W.nsIn K mainGlobals "_law_size" = some (some (.ref f_law_size)))
    (l_law_size : K.lookup f_law_size = some ⟨oc_law_size, od_law_size, .func (PySem.W.fnOf "_law_size" "_law_size" (defArgs s_law_size) (defBody s_law_size) (defScope s_law_size) .none kV_law_size dc_law_size pm_law_size an_law_size cd_law_size ct_law_size), sl_law_size⟩)
    (c_law_size : PySem.W.codeIn K cd_law_size "_law_size" = true)
    (k_law_size : PySem.W.keepIn K (.ref f_law_size) = true)
    (a_law_parted : PySem.W.nsIn K mainGlobals "_law_parted" = some (some (.ref f_law_parted)))
    (l_law_parted : K.lookup f_law_parted = some ⟨oc_law_parted, od_law_parted, .func (PySem.W.fnOf "_law_parted" "_law_parted" (defArgs s_law_parted) (defBody s_law_parted) (defScope s_law_parted) .none kV_law_parted dc_law_parted pm_law_parted an_law_parted cd_law_parted ct_law_parted), sl_law_parted⟩)
    (c_law_parted : PySem.W.codeIn K cd_law_parted "_law_parted" = true)
    (k_law_parted : PySem.W.keepIn K (.ref f_law_parted) = true)
    (a_law : PySem.W.nsIn K mainGlobals "law" = some (some (.ref f_law)))
    (l_law : K.lookup f_law = some ⟨oc_law, od_law, .func (PySem.W.fnOf "law" "law" (defArgs s_law) (defBody s_law) (defScope s_law) .none kV_law dc_law pm_law an_law cd_law ct_law), sl_law⟩)
    (c_law : PySem.W.codeIn K cd_law "law" = true)
    (k_law : PySem.W.keepIn K (.ref f_law) = true)
    (z_bool : PySem.W.nsIn K mainGlobals "bool" = some none)
    (z_int : PySem.W.nsIn K mainGlobals "int" = some none)
    (z_isinstance : PySem.W.nsIn K mainGlobals "isinstance" = some none)
    (z_len : PySem.W.nsIn K mainGlobals "len" = some none)
    (z_list : PySem.W.nsIn K mainGlobals "list" = some none)
    (z_max : PySem.W.nsIn K mainGlobals "max" = some none)
    (z_range : PySem.W.nsIn K mainGlobals "range" = some none)
    (z_tuple : PySem.W.nsIn K mainGlobals "tuple" = some none)
    : ∃ fd : FuncData, (∀ (s : Shared) (v : Value), BindsTo s fd ⟨[v], []⟩ [("_law_script", v)]) ∧ ∀ base : Heap, K.In base → base.Ns mainGlobals mg → FnOk l.prog w K mg base (L2.CX l.prog w) 3 fa fd ["_law_script"] (sp_law K Cs.none) := by
  have e := hfa.symm.trans (PySem.W.mg_of X G a_law)
  cases e
  let c : Cs := { Ledger := 0, Book := 0, Looker := 0, TwinError := 0, NoRow := 0, NoSum := 0, NoPlace := 0, NoBlock := 0, Full := 0, Strange := 0 }
  have M : BM mg := ⟨PySem.W.mg_none_of X G z_bool, PySem.W.mg_none_of X G z_int, PySem.W.mg_none_of X G z_isinstance, PySem.W.mg_none_of X G z_len, PySem.W.mg_none_of X G z_list, PySem.W.mg_none_of X G z_max, PySem.W.mg_none_of X G z_range, PySem.W.mg_none_of X G z_tuple⟩
  have T : TxK K c := ⟨trivial⟩
  have F_law_cell_at := fun_mk (st := s_law_cell_at) l_law_cell_at c_law_cell_at k_law_cell_at
  have b_law_cell_at := F_law_cell_at.binds (ps := ["_law_script", "_law_k"]) fun _ _ _ _ _ _ us hl => match us, hl with | [_, _], _ => rfl
  have H_law_cell_at : FunG K mg "_law_cell_at" s_law_cell_at ["_law_script", "_law_k"] := ⟨⟨_, _, F_law_cell_at, PySem.W.mg_of X G a_law_cell_at, b_law_cell_at⟩⟩
  have F_digits := fun_mk (st := s_digits) l_digits c_digits k_digits
  have b_digits := F_digits.binds (ps := ["count"]) fun _ _ _ _ _ _ us hl => match us, hl with | [_], _ => rfl
  have H_digits : FunG K mg "digits" s_digits ["count"] := ⟨⟨_, _, F_digits, PySem.W.mg_of X G a_digits, b_digits⟩⟩
  have F_size_of := fun_mk (st := s_size_of) l_size_of c_size_of k_size_of
  have b_size_of := F_size_of.binds (ps := ["height"]) fun _ _ _ _ _ _ us hl => match us, hl with | [_], _ => rfl
  have H_size_of : FunG K mg "size_of" s_size_of ["height"] := ⟨⟨_, _, F_size_of, PySem.W.mg_of X G a_size_of, b_size_of⟩⟩
  have F_parted := fun_mk (st := s_parted) l_parted c_parted k_parted
  have b_parted := F_parted.binds (ps := ["count"]) fun _ _ _ _ _ _ us hl => match us, hl with | [_], _ => rfl
  have H_parted : FunG K mg "parted" s_parted ["count"] := ⟨⟨_, _, F_parted, PySem.W.mg_of X G a_parted, b_parted⟩⟩
  have F_law_whole := fun_mk (st := s_law_whole) l_law_whole c_law_whole k_law_whole
  have b_law_whole := F_law_whole.binds (ps := ["_law_found"]) fun _ _ _ _ _ _ us hl => match us, hl with | [_], _ => rfl
  have H_law_whole : FunG K mg "_law_whole" s_law_whole ["_law_found"] := ⟨⟨_, _, F_law_whole, PySem.W.mg_of X G a_law_whole, b_law_whole⟩⟩
  have F_law_digits := fun_mk (st := s_law_digits) l_law_digits c_law_digits k_law_digits
  have b_law_digits := F_law_digits.binds (ps := ["_law_count"]) fun _ _ _ _ _ _ us hl => match us, hl with | [_], _ => rfl
  have H_law_digits : FunG K mg "_law_digits" s_law_digits ["_law_count"] := ⟨⟨_, _, F_law_digits, PySem.W.mg_of X G a_law_digits, b_law_digits⟩⟩
  have F_law_size := fun_mk (st := s_law_size) l_law_size c_law_size k_law_size
  have b_law_size := F_law_size.binds (ps := ["_law_height"]) fun _ _ _ _ _ _ us hl => match us, hl with | [_], _ => rfl
  have H_law_size : FunG K mg "_law_size" s_law_size ["_law_height"] := ⟨⟨_, _, F_law_size, PySem.W.mg_of X G a_law_size, b_law_size⟩⟩
  have F_law_parted := fun_mk (st := s_law_parted) l_law_parted c_law_parted k_law_parted
  have b_law_parted := F_law_parted.binds (ps := ["_law_count"]) fun _ _ _ _ _ _ us hl => match us, hl with | [_], _ => rfl
  have H_law_parted : FunG K mg "_law_parted" s_law_parted ["_law_count"] := ⟨⟨_, _, F_law_parted, PySem.W.mg_of X G a_law_parted, b_law_parted⟩⟩
  have F_law := fun_mk (st := s_law) l_law c_law k_law
  have b_law := F_law.binds (ps := ["_law_script"]) fun _ _ _ _ _ _ us hl => match us, hl with | [_], _ => rfl
  refine ⟨PySem.W.fnOf "law" "law" (defArgs s_law) (defBody s_law) (defScope s_law) .none kV_law dc_law pm_law an_law cd_law ct_law, fun s v => .of_eq rfl, fun base _ _ => ?_⟩
  have G_law_cell_at : FnG l.prog w K mg base 1 "_law_cell_at" ["_law_script", "_law_k"] (sp_law_cell_at K c) := ok_law_cell_at M T H_law_cell_at
  have G_digits : FnG l.prog w K mg base 1 "digits" ["count"] (sp_digits K c) := ok_digits M T H_digits
  have G_size_of : FnG l.prog w K mg base 1 "size_of" ["height"] (sp_size_of K c) := ok_size_of M T H_size_of
  have G_parted : FnG l.prog w K mg base 2 "parted" ["count"] (sp_parted K c) := ok_parted M T H_parted G_size_of G_digits
  have G_law_whole : FnG l.prog w K mg base 1 "_law_whole" ["_law_found"] (sp_law_whole K c) := ok_law_whole M T H_law_whole
  have G_law_digits : FnG l.prog w K mg base 1 "_law_digits" ["_law_count"] (sp_law_digits K c) := ok_law_digits M T H_law_digits
  have G_law_size : FnG l.prog w K mg base 1 "_law_size" ["_law_height"] (sp_law_size K c) := ok_law_size M T H_law_size
  have G_law_parted : FnG l.prog w K mg base 2 "_law_parted" ["_law_count"] (sp_law_parted K c) := ok_law_parted M T H_law_parted G_law_digits G_law_size
  have G_law := ok_law (P := l.prog) (w := w) (base := base) M T F_law G_law_cell_at G_digits G_parted G_law_whole G_law_digits G_law_size G_law_parted
  exact G_law
theorem walk {l : PySem.W.OpenLaw} {q : Program} {loose : List Str} {XP : (Str → Option Value) → Heap → Prop} {YP : World → Heap → Prop} {d : DefRec} {K : Params → PySem.W.Frag} (hn : l.most = some 63) (hdf : d.params.defaults = [])
    (hY : ∀ (w : World) (h : Heap), YP w h → (K w.params).In h)
    (F : ∀ (w : World) (mg : Str → Option Value) (fa : Addr) (h : Heap), (K w.params).In h → h.Ns mainGlobals mg → mg d.name = some (.ref fa) →
      ∃ fd : FuncData, (∀ (s : Shared) (u : Value), BindsTo s fd ⟨[u], []⟩ [("_law_script", u)]) ∧ ∀ base : Heap, (K w.params).In base → base.Ns mainGlobals mg → FnOk l.prog w (K w.params) mg base (L2.CX l.prog w) 3 fa fd ["_law_script"] (sp_law (K w.params) Cs.none)) :
    PySem.W.WalkO q loose XP YP l.row.toRowW d [] (fun f vs => PySem.call f vs) :=
  L2.walk_of (n := 63) (k := 3) (x := "_law_script") (CX := fun w => L2.CX l.prog w) (sp := fun w => sp_law (K w.params) Cs.none) hn (by decide) hdf ⟨rfl, by decide, by decide⟩ hY F (fun _ _ a ns hl _ hS => ⟨a, ns, rfl, hS, hl, fun _ => rfl⟩)
    fun _ _ _ _ _ h => by
      obtain ⟨_, _, _, _, _, _, _, _, _, _, _, _, z⟩ := h
      exact z.elim
end Tw
open PySem PySem.W PyProof.Rows
set_option maxRecDepth 100000 in
set_option maxHeartbeats 0 in
theorem PySem.Challenge.cw_twinsum_k01_digits_and_parts_holds : PySem.Challenge.rw_twinsum_k01_digits_and_parts.Holds := by
  w_on; o_law; k_head; (case hw => w_witness2)
  k_fill
  refine Tw.walk (l := PySem.Challenge.rw_twinsum_k01_digits_and_parts) rfl rfl (fun w h Y => PySem.W.kIn_of Y) ?F
  case F =>
    intro w mg fa h KX G hmg
    refine' Tw.all_mk KX G hmg ?a_law_cell_at ?l_law_cell_at ?c_law_cell_at ?k_law_cell_at ?a_digits ?l_digits ?c_digits ?k_digits ?a_size_of ?l_size_of ?c_size_of ?k_size_of ?a_parted ?l_parted ?c_parted ?k_parted ?a_law_whole ?l_law_whole ?c_law_whole ?k_law_whole ?a_law_digits ?l_law_digits ?c_law_digits ?k_law_digits ?a_law_size ?l_law_size ?c_law_size ?k_law_size ?a_law_parted ?l_law_parted ?c_law_parted ?k_law_parted ?a_law ?l_law ?c_law ?k_law ?z_bool ?z_int ?z_isinstance ?z_len ?z_list ?z_max ?z_range ?z_tuple
    (case a_law_cell_at => k_is)
    (case l_law_cell_at => k_is)
    (case c_law_cell_at => k_is)
    (case k_law_cell_at => k_is)
    (case a_digits => k_is)
    (case l_digits => k_is)
    (case c_digits => k_is)
    (case k_digits => k_is)
    (case a_size_of => k_is)
    (case l_size_of => k_is)
    (case c_size_of => k_is)
    (case k_size_of => k_is)
    (case a_parted => k_is)
    (case l_parted => k_is)
    (case c_parted => k_is)
    (case k_parted => k_is)
    (case a_law_whole => k_is)
    (case l_law_whole => k_is)
    (case c_law_whole => k_is)
    (case k_law_whole => k_is)
    (case a_law_digits => k_is)
    (case l_law_digits => k_is)
    (case c_law_digits => k_is)
    (case k_law_digits => k_is)
    (case a_law_size => k_is)
    (case l_law_size => k_is)
    (case c_law_size => k_is)
    (case k_law_size => k_is)
    (case a_law_parted => k_is)
    (case l_law_parted => k_is)
    (case c_law_parted => k_is)
    (case k_law_parted => k_is)
    (case a_law => k_is)
    (case l_law => k_is)
    (case c_law => k_is)
    (case k_law => k_is)
    (case z_bool => k_is)
    (case z_int => k_is)
    (case z_isinstance => k_is)
    (case z_len => k_is)
    (case z_list => k_is)
    (case z_max => k_is)
    (case z_range => k_is)
    (case z_tuple => k_is)
#print axioms PySem.Challenge.cw_twinsum_k01_digits_and_parts_holds

