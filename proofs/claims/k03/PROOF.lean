import PyProof.Rows.All
import Wide.All
import OpenK.AllK
import Wide.FinOn
import HandS.ForMost
import HandS.ForExc
import HandS.IsInst
import HandS.ExcIs
import HandS.TryMany
import HandS.SortInts
import HandS.Evl
import HandS.Conv
import PySem.Challenge.RW_twinsum_k03_books_change
set_option Elab.async false
set_option linter.all false
set_option maxRecDepth 100000
set_option maxHeartbeats 4000000
namespace Ts
open PySem L2
/-! ### heaps -/
abbrev Ex := Evl.Ex
theorem ex_refl {H : Hp} : Ex H H := Evl.Ex.refl H
theorem ex_new {H H' : Hp} {p : Addr} {o : HO} (e : Ex H H') (h : H' p = none) : Ex H (upd H' p o) := e.trans (Evl.Ex.new h)
theorem ex_mut {H H' : Hp} {p : Addr} {o : HO} (e : Ex H H') (h : H p = none) : Ex H (upd H' p o) := Evl.Ex.mut e h
theorem ex_free {H H' : Hp} {p : Addr} (e : Ex H H') (h : H' p = none) : H p = none := Evl.fresh_back e h
theorem sz100 {n : Nat} (h : n ≤ 100) : n ≤ sizeLine := Nat.le_trans h (by decide)
theorem szM {n : Nat} (h : n ≤ 1000000) : n ≤ sizeLine := Nat.le_trans h (by decide)
theorem szL {n : Nat} (h : n < 1000000) : n < sizeLine := Nat.lt_of_lt_of_le h (by decide)

/-! ### operators of any kind -/
def rAddI : R2 := rI0 fun i j => .int (i + j)
def rAddS : R2 := fun x y H Q => ∃ i j, x = .str i ∧ y = .str j ∧ i.length + j.length ≤ sizeLine ∧ Q (.str (i ++ j)) H
def rAddU : R2 := fun x y H Q => rAddI x y H Q ∨ rAddS x y H Q ∨ rCat x y H Q
theorem op_addU {X : Cx} : OpR X (binaryOp .Add) rAddU := op_add.or (op_add_str.or op_cat)
def rSubI : R2 := rI0 fun i j => .int (i - j)
theorem op_sub1 {X : Cx} : OpR X (binaryOp .Sub) rSubI := op_sub
def rMul : R2 := rI CMul fun i j => .int (i * j)
theorem op_mul1 {X : Cx} : OpR X (binaryOp .Mult) rMul := op_mul
def rDiv : R2 := rI CDiv fun i j => .int (i / j)
theorem op_div1 {X : Cx} : OpR X (binaryOp .FloorDiv) rDiv := op_fdiv
def rMod : R2 := rI (fun _ j => 0 < j) fun i j => .int (i % j)
theorem op_mod1 {X : Cx} : OpR X (binaryOp .Mod) rMod := op_mod
def rPow : R2 := rI CPow fun i j => .int (i ^ j.toNat)
theorem op_pow1 {X : Cx} : OpR X (binaryOp .Pow) rPow := op_pow
def rLt : R2 := rI0 fun i j => .bl (decide (i < j))
def rLe : R2 := rI0 fun i j => .bl (decide (i ≤ j))
def rGt : R2 := rI0 fun i j => .bl (decide (j < i))
def rGe : R2 := rI0 fun i j => .bl (decide (j ≤ i))
theorem op_lt1 {X : Cx} : OpR X (compareOp .Lt) rLt := op_lt
theorem op_le1 {X : Cx} : OpR X (compareOp .LtE) rLe := op_le
theorem op_gt1 {X : Cx} : OpR X (compareOp .Gt) rGt := op_gt
theorem op_ge1 {X : Cx} : OpR X (compareOp .GtE) rGe := op_ge
def rEqU (K : PySem.W.Frag) : R2 := fun x y H Q => rEq x y H Q ∨ rEqD K x y H Q
def rNeU (K : PySem.W.Frag) : R2 := fun x y H Q => rNe x y H Q ∨ rNeD K x y H Q
theorem op_eqU {X : Cx} (hu : X.A.units + 64 < cLine) : OpR X (compareOp .Eq) (rEqU X.K) := op_eq.or (op_eqD hu)
theorem op_neU {X : Cx} (hu : X.A.units + 64 < cLine) : OpR X (compareOp .NotEq) (rNeU X.K) := op_ne.or (op_neD hu)
def rIsN : R2 := fun x y H Q => y = .non ∧ Q (.bl (decide (x = .non))) H
def rNotN : R2 := fun x y H Q => y = .non ∧ Q (.bl (!decide (x = .non))) H
theorem op_isN1 {X : Cx} : OpR X (compareOp .Is) rIsN := op_isN
theorem op_notN1 {X : Cx} : OpR X (compareOp .IsNot) rNotN := op_notN
def rLen (K : PySem.W.Frag) : List V → Hp → VK → Prop := fun xs H Q => ∃ x n, xs = [x] ∧ LenV K x H n ∧ Q (.int (n : Nat)) H
theorem call_len1 {X : Cx} : CallR X (.builtin "len") (rLen X.K) := call_len
def rMax : List V → Hp → VK → Prop := fun xs H Q => ∃ i j, xs = [.int i, .int j] ∧ Q (.int (if j > i then j else i)) H
def rMin : List V → Hp → VK → Prop := fun xs H Q => ∃ i j, xs = [.int i, .int j] ∧ Q (.int (if j < i then j else i)) H
theorem call_max1 {X : Cx} (hc : X.calm = true) : CallR X (.builtin "max") rMax := call_max2 hc
theorem call_min1 {X : Cx} (hc : X.calm = true) : CallR X (.builtin "min") rMin := call_min2 hc
def rListOf (K : PySem.W.Frag) : List V → Hp → VK → Prop := fun xs H Q => ∃ p ys, xs = [.ref p] ∧ (SqL K H p ys ∨ SqT K H p ys) ∧ ∀ l, H l = none → Q (.ref l) (upd H l (.lst ys))
theorem call_list1 {X : Cx} : CallR X (.type "list") (rListOf X.K) := call_list_of
def rInt1 : List V → Hp → VK → Prop := fun xs H Q => (∃ i, xs = [.int i] ∧ Q (.int i) H) ∨ ∃ k, xs = [.bl k] ∧ Q (.int (if k then 1 else 0)) H
theorem call_int2 {X : Cx} : CallR X (.type "int") rInt1 := call_int1
def rStr1 : List V → Hp → VK → Prop := fun xs H Q => ∃ i, xs = [.int i] ∧ i.natAbs.log2 < 1920 ∧ Q (.str (toString i)) H
theorem call_str1 {X : Cx} : CallR X (.type "str") rStr1 := call_str_int
def rSlU (K : PySem.W.Frag) : V → Option Int → Option Int → Hp → VK → Prop := fun x lo hi H Q => rSlL K x lo hi H Q ∨ rSlS x lo hi H Q
theorem sl_U {X : Cx} : SlR X (rSlU X.K) := by
  intro pins s σ H x v vl vu lo hi sl Q I rx hs pl pu h
  rcases h with h | h
  · exact sl_list pins s σ H x v vl vu lo hi sl Q I rx hs pl pu h
  · exact sl_str pins s σ H x v vl vu lo hi sl Q I rx hs pl pu h

/-! ### steps: expressions -/
section
variable {K : PySem.W.Frag} {σ : St} {H : Hp} {Q : VK} {QT : Bool → Hp → Prop} {QA : List V → Hp → Prop} {v x y : V} {ta tb tc te : TE} {t u : TT} {r r' : R2}
theorem w_c (q : Q v H) : tC v σ H Q := q
theorem w_op (q : ta σ H fun x H1 => tb σ H1 fun y H2 => r x y H2 Q) : tOp r ta tb σ H Q := q
theorem w_un {r : V → Hp → VK → Prop} (q : ta σ H fun x H1 => r x H1 Q) : tUn r ta σ H Q := q
theorem w_neg {i : Int} (q : Q (.int (-i)) H) : rU (fun i => .int (-i)) (.int i) H Q := ⟨i, rfl, q⟩
theorem w_test (q : te σ H fun x H' => ∃ k, x = .bl k ∧ QT k H') : tTest te σ H QT := q
theorem w_tB (q : te σ H fun x H' => ∃ k, x = .bl k ∧ QT k H') : tB te σ H QT := q
theorem w_bl {b : Bool} {P : Bool → Prop} (q : P b) : ∃ k, V.bl b = .bl k ∧ P k := ⟨b, rfl, q⟩
theorem w_chain (q : ta σ H fun x H1 => tb σ H1 fun y H2 => r x y H2 fun z H3 => ∃ k, z = .bl k ∧ (if k = true then tc σ H3 fun w' H4 => r' y w' H4 Q else Q (.bl false) H3)) : tChain r r' ta tb tc σ H Q := q
theorem w_and (q : t σ H fun c H1 => if c = true then u σ H1 QT else QT false H1) : tAnd t u σ H QT := q
theorem w_or (q : t σ H fun c H1 => if c = true then QT true H1 else u σ H1 QT) : tOr t u σ H QT := q
theorem w_not (q : t σ H fun c H1 => QT (!c) H1) : tNot t σ H QT := q
theorem w_andV (q : ta σ H fun x H1 => ∃ c, x = .bl c ∧ if c = true then tb σ H1 Q else Q (.bl false) H1) : tAndV ta tb σ H Q := q
theorem w_orV (q : ta σ H fun x H1 => ∃ c, x = .bl c ∧ if c = true then Q (.bl true) H1 else tb σ H1 Q) : tOrV ta tb σ H Q := q
theorem w_notV (q : ta σ H fun x H1 => ∃ c, x = .bl c ∧ Q (.bl (!c)) H1) : tNotV ta σ H Q := q
theorem w_nil (q : QA [] H) : tNil σ H QA := q
theorem w_cons {tr : TA} (q : ta σ H fun x H1 => tr σ H1 fun xs H2 => QA (x :: xs) H2) : tCons ta tr σ H QA := q
theorem w_tup {tt : TA} (q : tt σ H fun xs H1 => xs.length ≤ sizeLine ∧ ∀ p, H1 p = none → Q (.ref p) (upd H1 p (.tup xs))) : tTup tt σ H Q := q
theorem w_lst {tt : TA} (q : tt σ H fun xs H1 => xs.length ≤ sizeLine ∧ ∀ p, H1 p = none → Q (.ref p) (upd H1 p (.lst xs))) : tLst tt σ H Q := q
theorem w_CB {r : List V → Hp → VK → Prop} {tt : TA} (q : tt σ H fun vs H1 => r vs H1 Q) : tCB r tt σ H Q := q
theorem w_call {sp : Sp} {E : XK} {tt : TA} (q : tt σ H fun vs H1 => sp vs H1 Q E) : tCall sp [] E tt σ H Q := by
  unfold tCall
  have e : (fun (vs : List V) (H1 : Hp) => sp (vs ++ []) H1 Q E) = fun vs H1 => sp vs H1 Q E := by funext vs H1; rw [List.append_nil]
  rw [e]
  exact q
theorem w_meth {C : Addr} {m : Str} {sp : Sp} {E : XK} {tt : TA} (q : ta σ H fun x H1 => ∃ a dx fs, x = .ref a ∧ H1 a = some (.ins C dx fs) ∧ fs.lookup m = none ∧ tt σ H1 fun vs H2 => sp (x :: vs) H2 Q E) : tMeth C m sp [] E ta tt σ H Q := by
  unfold tMeth
  have e : ∀ x : V, (fun (vs : List V) (H1 : Hp) => sp (x :: (vs ++ [])) H1 Q E) = fun vs H1 => sp (x :: vs) H1 Q E := fun x => by funext vs H1; rw [List.append_nil]
  simp only [e]
  exact q
theorem w_methAt {C a dx : Addr} {fs : List (Str × V)} {m : Str} {P : Prop} (h : H a = some (.ins C dx fs)) (hl : fs.lookup m = none) (q : P) : ∃ b dx fs, V.ref a = .ref b ∧ H b = some (.ins C dx fs) ∧ fs.lookup m = none ∧ P := ⟨a, dx, fs, rfl, h, hl, q⟩
theorem w_make {C : Addr} {sp : Sp} {E : XK} {tt : TA} (q : tt σ H fun vs H1 => ∀ x dx, H1 x = none → H1 dx = none → dx ≠ x → sp (.ref x :: vs) (upd (upd H1 dx (.own x)) x (.ins C dx [])) (fun v H2 => v = .non ∧ Q (.ref x) H2) E) : tMake C sp [] E tt σ H Q := by
  unfold tMake
  have e : ∀ vs : List V, vs ++ [] = vs := fun vs => List.append_nil vs
  simp only [e]
  exact q
theorem w_callS {sp : Sp} {E : St → XK} {tt : TA} (q : tt σ H fun vs H1 => sp vs H1 Q (E σ)) : tCallS sp E tt σ H Q := q
theorem w_fld {f : Str} (q : ta σ H fun x H1 => ∃ a C dx fs v, x = .ref a ∧ H1 a = some (.ins C dx fs) ∧ Cls K C ∧ NoAttr K C f ∧ fs.lookup f = some v ∧ Q v H1) : tFld K ta f σ H Q := q
theorem w_fldAt {a C dx : Addr} {fs : List (Str × V)} {f : Str} {P : V → Prop} (h : H a = some (.ins C dx fs)) (hc : Cls K C) (hn : NoAttr K C f) (hl : fs.lookup f = some v) (q : P v) : ∃ b C dx fs v, V.ref a = .ref b ∧ H b = some (.ins C dx fs) ∧ Cls K C ∧ NoAttr K C f ∧ fs.lookup f = some v ∧ P v := ⟨a, C, dx, fs, v, rfl, h, hc, hn, hl, q⟩
theorem w_bm0 {T : String} {r : V → List V → Hp → VK → Prop} (q : ta σ H fun x H1 => tyV K T x H1 ∧ r x [] H1 Q) : tBM0 K T r ta σ H Q := q
theorem w_bm {T : String} {r : V → List V → Hp → VK → Prop} {tt : TA} (q : ta σ H fun x H1 => tyV K T x H1 ∧ tt σ H1 fun xs H2 => r x xs H2 Q) : tBM K T r ta tt σ H Q := q
theorem w_tyL {a : Addr} {xs : List V} (h : SqL K H a xs) : tyV K "list" (.ref a) H := Or.inl ⟨rfl, xs, h⟩
theorem w_sl {r : V → Option Int → Option Int → Hp → VK → Prop} {tl th : TO} (q : ta σ H fun x H1 => tl σ H1 fun l H2 => th σ H2 fun u H3 => r x l u H3 Q) : tSl r ta tl th σ H Q := q

/-! values -/
theorem w_addI {i j : Int} (q : Q (.int (i + j)) H) : rAddU (.int i) (.int j) H Q := .inl ⟨i, j, rfl, rfl, q⟩
theorem w_addS {i j : Str} (h : i.length + j.length ≤ sizeLine) (q : Q (.str (i ++ j)) H) : rAddU (.str i) (.str j) H Q := .inr (.inl ⟨i, j, rfl, rfl, h, q⟩)
theorem w_addL {a b : Addr} {xs ys : List V} (ha : H a = some (.lst xs)) (hb : H b = some (.lst ys)) (h : xs.length + ys.length ≤ sizeLine) (q : ∀ p, H p = none → Q (.ref p) (upd H p (.lst (xs ++ ys)))) : rAddU (.ref a) (.ref b) H Q := .inr (.inr ⟨a, b, xs, ys, rfl, rfl, ha, hb, h, q⟩)
theorem w_sub {i j : Int} (q : Q (.int (i - j)) H) : rSubI (.int i) (.int j) H Q := ⟨i, j, rfl, rfl, q⟩
theorem w_mul {i j : Int} (h : CMul i j) (q : Q (.int (i * j)) H) : rMul (.int i) (.int j) H Q := ⟨i, j, rfl, rfl, h, q⟩
theorem w_div {i j : Int} (h : 0 < j) (h' : j < 1073741824) (q : Q (.int (i / j)) H) : rDiv (.int i) (.int j) H Q := ⟨i, j, rfl, rfl, ⟨h, h'⟩, q⟩
theorem w_mod {i j : Int} (h : 0 < j) (q : Q (.int (i % j)) H) : rMod (.int i) (.int j) H Q := ⟨i, j, rfl, rfl, h, q⟩
theorem w_pow {i j : Int} (h : CPow i j) (q : Q (.int (i ^ j.toNat)) H) : rPow (.int i) (.int j) H Q := ⟨i, j, rfl, rfl, h, q⟩
theorem w_lt {i j : Int} (q : Q (.bl (decide (i < j))) H) : rLt (.int i) (.int j) H Q := ⟨i, j, rfl, rfl, q⟩
theorem w_le {i j : Int} (q : Q (.bl (decide (i ≤ j))) H) : rLe (.int i) (.int j) H Q := ⟨i, j, rfl, rfl, q⟩
theorem w_gt {i j : Int} (q : Q (.bl (decide (j < i))) H) : rGt (.int i) (.int j) H Q := ⟨i, j, rfl, rfl, q⟩
theorem w_ge {i j : Int} (q : Q (.bl (decide (j ≤ i))) H) : rGe (.int i) (.int j) H Q := ⟨i, j, rfl, rfl, q⟩
theorem dec_ii {i j : Int} : decide (V.int i = V.int j) = decide (i = j) := by rw [decide_eq_decide]; exact ⟨fun h => V.int.inj h, fun h => h ▸ rfl⟩
theorem dec_ss {i j : Str} : decide (V.str i = V.str j) = decide (i = j) := by rw [decide_eq_decide]; exact ⟨fun h => V.str.inj h, fun h => h ▸ rfl⟩
theorem w_eqI {i j : Int} (q : Q (.bl (decide (i = j))) H) : rEqU K (.int i) (.int j) H Q := .inl ⟨rfl, by rw [dec_ii]; exact q⟩
theorem w_neI {i j : Int} (q : Q (.bl (!decide (i = j))) H) : rNeU K (.int i) (.int j) H Q := .inl ⟨rfl, by rw [dec_ii]; exact q⟩
theorem w_eqS {i j : Str} (q : Q (.bl (decide (i = j))) H) : rEqU K (.str i) (.str j) H Q := .inl ⟨rfl, by rw [dec_ss]; exact q⟩
theorem w_neS {i j : Str} (q : Q (.bl (!decide (i = j))) H) : rNeU K (.str i) (.str j) H Q := .inl ⟨rfl, by rw [dec_ss]; exact q⟩
theorem w_eqD {d e : PyData} (hx : Dp K H x d) (hy : Dp K H y e) (hd : SeqAt.shaped d = true) (he : SeqAt.shaped e = true) (q : Q (.bl (PyData.eqv d e)) H) : rEqU K x y H Q := .inr ⟨d, e, hx, hy, hd, he, q⟩
theorem w_neD {d e : PyData} (hx : Dp K H x d) (hy : Dp K H y e) (hd : SeqAt.shaped d = true) (he : SeqAt.shaped e = true) (q : Q (.bl (!PyData.eqv d e)) H) : rNeU K x y H Q := .inr ⟨d, e, hx, hy, hd, he, q⟩
theorem w_isN (q : Q (.bl (decide (x = .non))) H) : rIsN x .non H Q := ⟨rfl, q⟩
theorem w_notN (q : Q (.bl (!decide (x = .non))) H) : rNotN x .non H Q := ⟨rfl, q⟩
theorem w_lenL {a : Addr} {xs : List V} (h : SqL K H a xs) (q : Q (.int (xs.length : Nat)) H) : rLen K [.ref a] H Q := ⟨.ref a, xs.length, rfl, Or.inl ⟨xs, h, rfl⟩, q⟩
theorem w_lenT {a : Addr} {xs : List V} (h : SqT K H a xs) (q : Q (.int (xs.length : Nat)) H) : rLen K [.ref a] H Q := ⟨.ref a, xs.length, rfl, Or.inr ⟨xs, h, rfl⟩, q⟩
theorem w_lenS {z : Str} (h : z.length ≤ sizeLine) (q : Q (.int (z.length : Nat)) H) : rLen K [.str z] H Q := ⟨.str z, z.length, rfl, ⟨h, rfl⟩, q⟩
theorem w_max {i j : Int} (q : Q (.int (if j > i then j else i)) H) : rMax [.int i, .int j] H Q := ⟨i, j, rfl, q⟩
theorem w_min {i j : Int} (q : Q (.int (if j < i then j else i)) H) : rMin [.int i, .int j] H Q := ⟨i, j, rfl, q⟩
theorem w_intI {i : Int} (q : Q (.int i) H) : rInt1 [.int i] H Q := .inl ⟨i, rfl, q⟩
theorem w_intB {k : Bool} (q : Q (.int (if k then 1 else 0)) H) : rInt1 [.bl k] H Q := .inr ⟨k, rfl, q⟩
theorem w_str {i : Int} (h : i.natAbs.log2 < 1920) (q : Q (.str (toString i)) H) : rStr1 [.int i] H Q := ⟨i, rfl, h, q⟩
theorem w_listL {a : Addr} {xs : List V} (h : SqL K H a xs) (q : ∀ l, H l = none → Q (.ref l) (upd H l (.lst xs))) : rListOf K [.ref a] H Q := ⟨a, xs, rfl, .inl h, q⟩
theorem w_ixL {a : Addr} {xs : List V} {i : Int} (h : SqL K H a xs) (ha : atI xs i = some v) (q : Q v H) : rIx K (.ref a) (.int i) H Q := .inl ⟨a, xs, i, v, rfl, rfl, h, ha, q⟩
theorem w_ixT {a : Addr} {xs : List V} {i : Int} (h : SqT K H a xs) (ha : atI xs i = some v) (q : Q v H) : rIx K (.ref a) (.int i) H Q := .inr (.inl ⟨a, xs, i, v, rfl, rfl, h, ha, q⟩)
theorem w_ixS {z : Str} {i : Int} {c : Nat} (hz : z.length ≤ sizeLine) (ha : atI z.cps.toList i = some c) (q : Q (.str ⟨#[c]⟩) H) : rIx K (.str z) (.int i) H Q := .inr (.inr ⟨z, i, c, rfl, rfl, hz, ha, q⟩)
theorem atI_lt {α : Type} {xs : List α} {i : Int} (h0 : 0 ≤ i) (h1 : i < xs.length) : ∃ v, v ∈ xs ∧ atI xs i = some v := by
  have hj : i.toNat < xs.length := by omega
  have e : i = (i.toNat : Int) := by omega
  refine ⟨xs[i.toNat], List.getElem_mem hj, ?_⟩
  have z := atI_nat (List.getElem?_eq_getElem hj)
  rw [← e] at z
  exact z
/-- an item of a menu: any of them -/
theorem w_ixAny {a : Addr} {xs : List V} {i : Int} (h : SqL K H a xs) (h0 : 0 ≤ i) (h1 : i < xs.length) (q : ∀ v, v ∈ xs → Q v H) : rIx K (.ref a) (.int i) H Q := by
  obtain ⟨v, hv, e⟩ := atI_lt h0 h1
  exact w_ixL h e (q v hv)
theorem w_slL {a : Addr} {xs : List V} {lo hi : Option Int} (h : SqL K H a xs) (q : ∀ p, H p = none → Q (.ref p) (upd H p (.lst (cutV xs lo hi)))) : rSlU K (.ref a) lo hi H Q := .inl ⟨a, xs, rfl, h, q⟩
theorem w_slS {z : Str} {lo hi : Option Int} (h : z.length ≤ sizeLine) (q : Q (.str (cutS z lo hi)) H) : rSlU K (.str z) lo hi H Q := .inr ⟨z, rfl, h, q⟩
theorem w_app {l : Addr} {xs : List V} (h : H l = some (.lst xs)) (hz : xs.length < sizeLine) (q : Q .non (upd H l (.lst (xs ++ [y])))) : rAppend (.ref l) [y] H Q := ⟨l, xs, y, rfl, rfl, h, hz, q⟩
theorem w_pop {l : Addr} {xs : List V} (h : H l = some (.lst xs)) (hz : xs[xs.length - 1]? = some y) (q : Q y (upd H l (.lst xs.dropLast))) : rPop (.ref l) [] H Q := ⟨l, xs, y, rfl, rfl, h, hz, q⟩
theorem isi_ty {n m : String} {b : Bool} (ty : TyX K H x (.type n)) (h : kitB n m = some b) (q : Q (.bl b) H) : rIsi K [x, .ty m] H Q := ⟨x, .ty m, .type n, .type m, b, rfl, .ty m, ty, kit_ty h, q⟩
end
/-! tests -/
theorem ite_d {p A B : Prop} [Decidable p] (h1 : p → A) (h2 : ¬ p → B) : if decide p = true then A else B := by
  by_cases h : p
  · rw [if_pos (decide_eq_true h)]; exact h1 h
  · rw [if_neg (by rw [decide_eq_false h]; exact Bool.false_ne_true)]; exact h2 h
theorem ite_nd {p A B : Prop} [Decidable p] (h1 : ¬ p → A) (h2 : p → B) : if (!decide p) = true then A else B := by
  by_cases h : p
  · rw [if_neg (by rw [decide_eq_true h]; decide)]; exact h2 h
  · rw [if_pos (by rw [decide_eq_false h]; rfl)]; exact h1 h
theorem ite_b {b : Bool} {A B : Prop} (h1 : b = true → A) (h2 : b = false → B) : if b = true then A else B := by
  cases b with
  | true => rw [if_pos rfl]; exact h1 rfl
  | false => rw [if_neg Bool.false_ne_true]; exact h2 rfl
theorem ite_nb {b : Bool} {A B : Prop} (h1 : b = false → A) (h2 : b = true → B) : if (!b) = true then A else B := by
  cases b with
  | false => exact h1 rfl
  | true => exact h2 rfl

/-! ### steps: statements -/
section
variable {K : PySem.W.Frag} {σ : St} {H : Hp} {t u : TS} {te : TE} {c : TT} {g : TG} {nx bk ct : St → Hp → Prop} {rt : VK}
theorem w_seq (q : t ⟨fun σ' H' => u ⟨nx, rt, bk, ct⟩ σ' H', rt, bk, ct⟩ σ H) : tSeq t u ⟨nx, rt, bk, ct⟩ σ H := q
theorem w_next (q : nx σ H) : tNext ⟨nx, rt, bk, ct⟩ σ H := q
theorem w_break (q : bk σ H) : tBreak ⟨nx, rt, bk, ct⟩ σ H := q
theorem w_cont (q : ct σ H) : tCont ⟨nx, rt, bk, ct⟩ σ H := q
theorem w_asg (q : te σ H fun x H1 => g x σ H1 nx) : tAsg te g ⟨nx, rt, bk, ct⟩ σ H := q
theorem w_ret (q : te σ H rt) : tRet te ⟨nx, rt, bk, ct⟩ σ H := q
theorem w_retN (q : rt .non H) : tRetN ⟨nx, rt, bk, ct⟩ σ H := q
theorem w_drop (q : te σ H fun _ H1 => nx σ H1) : tDrop te ⟨nx, rt, bk, ct⟩ σ H := q
theorem w_if (q : c σ H fun b H1 => if b = true then t ⟨nx, rt, bk, ct⟩ σ H1 else u ⟨nx, rt, bk, ct⟩ σ H1) : tIfS c t u ⟨nx, rt, bk, ct⟩ σ H := q
theorem w_cut {Mid : St → Hp → Prop} (h : t ⟨Mid, rt, bk, ct⟩ σ H) (k : ∀ σ' H', Mid σ' H' → u ⟨nx, rt, bk, ct⟩ σ' H') : Evl.tCut t u ⟨nx, rt, bk, ct⟩ σ H := ⟨Mid, h, k⟩
theorem w_sfld {ta tv : TE} {f : Str} (q : tv σ H fun y H1 => ta σ H1 fun x H2 => ∃ a C dx fs, x = .ref a ∧ H2 a = some (.ins C dx fs) ∧ Cls K C ∧ NoAttr K C f ∧ fs.length < 1000 ∧ nx σ (upd H2 a (.ins C dx (putF f y fs)))) : sFld K ta tv f ⟨nx, rt, bk, ct⟩ σ H := q
theorem w_sfldAt {a C dx : Addr} {fs : List (Str × V)} {f : Str} {R : Addr → Addr → Addr → List (Str × V) → Prop} (h : H a = some (.ins C dx fs)) (hc : Cls K C) (hn : NoAttr K C f) (hl : fs.length < 1000) (q : R a C dx fs) : ∃ b C dx fs, V.ref a = .ref b ∧ H b = some (.ins C dx fs) ∧ Cls K C ∧ NoAttr K C f ∧ fs.length < 1000 ∧ R b C dx fs := ⟨a, C, dx, fs, rfl, h, hc, hn, hl, q⟩
theorem w_gSub {to ti : TE} {ts : TSet} {v : V} {R : St → Hp → Prop} (q : to σ H fun o H1 => ti σ H1 fun i H2 => ts o i v H2 fun H3 => R σ H3) : gSub to ti ts v σ H R := q
theorem w_gTup {n : Nat} {tg : TGs} {a : Addr} {xs : List V} {R : St → Hp → Prop} (h : SqT K H a xs) (hl : xs.length = n) (q : tg xs σ H R) : gTup K n tg (.ref a) σ H R := ⟨a, xs, rfl, h, hl, q⟩
theorem w_gCons {tg : TG} {us : TGs} {v : V} {r : List V} {R : St → Hp → Prop} (q : tg v σ H fun σ' H' => us r σ' H' R) : gCons tg us (v :: r) σ H R := ⟨v, r, rfl, q⟩
theorem w_gNil {R : St → Hp → Prop} (q : R σ H) : gNil [] σ H R := ⟨rfl, q⟩
/-- a loop's word: what a for asks behind its iterator -/
def LB (g : TG) (t : TS) (nx : St → Hp → Prop) (rt : VK) (σ : St) (J : It) (H1 : Hp) : Prop := ∃ W : Nat → Nat → St → Hp → Prop, (∃ m, W 0 m σ H1) ∧ ∀ i m σ H, W i m σ H →
  (J.stop i H ∧ nx σ H) ∨ (J.go i H ∧ ∃ N : St → Hp → Prop, (∀ σ' H', N σ' H' → ∃ m', m' < m ∧ W (i + 1) m' σ' H') ∧ ∀ x H', J.yld i H x H' → g x σ H' fun σ2 H2 => t ⟨N, rt, nx, N⟩ σ2 H2)
theorem w_for {wi : TI} (q : wi σ H fun J H1 => LB g t nx rt σ J H1) : tFor wi g t ⟨nx, rt, bk, ct⟩ σ H := q
theorem w_iR1 {ta : TA} {R : It → Hp → Prop} (q : ta σ H fun vs H1 => ∃ j : Int, vs = [.int j] ∧ -(2 ^ 62) ≤ j ∧ j < 2 ^ 62 ∧ R (Itr 0 j.toNat) H1) : iRng1 ta σ H R := q
theorem w_iR1v {n : Int} {R : It → Hp → Prop} (h1 : -(2 ^ 62) ≤ n) (h2 : n < 2 ^ 62) (q : R (Itr 0 n.toNat) H) : ∃ j : Int, [V.int n] = [.int j] ∧ -(2 ^ 62) ≤ j ∧ j < 2 ^ 62 ∧ R (Itr 0 j.toNat) H := ⟨n, rfl, h1, h2, q⟩
theorem w_iR2 {ta : TA} {R : It → Hp → Prop} (q : ta σ H fun vs H1 => ∃ i j : Int, vs = [.int i, .int j] ∧ (-(2 ^ 62) ≤ i ∧ i < 2 ^ 62 ∧ -(2 ^ 62) ≤ j ∧ j < 2 ^ 62) ∧ R (Itr i (j - i).toNat) H1) : iRng2 ta σ H R := q
theorem w_iR2v {a b : Int} {R : It → Hp → Prop} (h : -(2 ^ 62) ≤ a ∧ a < 2 ^ 62 ∧ -(2 ^ 62) ≤ b ∧ b < 2 ^ 62) (q : R (Itr a (b - a).toNat) H) : ∃ i j : Int, [V.int a, V.int b] = [.int i, .int j] ∧ (-(2 ^ 62) ≤ i ∧ i < 2 ^ 62 ∧ -(2 ^ 62) ≤ j ∧ j < 2 ^ 62) ∧ R (Itr i (j - i).toNat) H := ⟨a, b, rfl, h, q⟩
theorem w_iR3 {ta : TA} {R : It → Hp → Prop} (q : ta σ H fun vs H1 => ∃ (i j c : Int) (n : Nat), vs = [.int i, .int j, .int c] ∧ RgC i j c n ∧ R (Itc i c n) H1) : iRng3 ta σ H R := q
theorem w_iR3v {a b : Int} {R : It → Hp → Prop} (h : -(2 ^ 62) ≤ a ∧ a < 2 ^ 62 ∧ -(2 ^ 62) ≤ b ∧ b < 2 ^ 62) (q : R (Itc a (-1) (a - b).toNat) H) : ∃ (i j c : Int) (n : Nat), [V.int a, V.int b, V.int (-1)] = [.int i, .int j, .int c] ∧ RgC i j c n ∧ R (Itc i c n) H :=
  ⟨a, b, -1, _, rfl, RgC.neg h.1 h.2.1 h.2.2.1 h.2.2.2, q⟩
theorem w_iL {ta : TE} {R : It → Hp → Prop} (q : ta σ H fun x H1 => ∃ a, x = .ref a ∧ (∃ xs, SqL K H1 a xs) ∧ R (Itl K a) H1) : iList K ta σ H R := q
theorem w_iLv {a : Addr} {xs : List V} {R : It → Hp → Prop} (h : SqL K H a xs) (q : R (Itl K a) H) : ∃ b, V.ref a = .ref b ∧ (∃ xs, SqL K H b xs) ∧ R (Itl K b) H := ⟨a, rfl, ⟨xs, h⟩, q⟩
theorem lb_range {lo : Int} {n : Nat} (Pv : Nat → St → Hp → Prop) (h0 : Pv 0 σ H) (hs : ∀ (i : Nat) σ H, i < n → Pv i σ H → g (.int (lo + i)) σ H fun σ2 H2 => t ⟨Pv (i + 1), rt, nx, Pv (i + 1)⟩ σ2 H2) (hd : ∀ σ H, Pv n σ H → nx σ H) :
    LB g t nx rt σ (Itr lo n) H := for_range (D := ⟨nx, rt, fun _ _ => False, fun _ _ => False⟩) (lo := lo) (n := n) Pv h0 hs hd
theorem lb_range0 {n : Nat} (Pv : Nat → St → Hp → Prop) (h0 : Pv 0 σ H) (hs : ∀ (i : Nat) σ H, i < n → Pv i σ H → g (.int (i : Int)) σ H fun σ2 H2 => t ⟨Pv (i + 1), rt, nx, Pv (i + 1)⟩ σ2 H2) (hd : ∀ σ H, Pv n σ H → nx σ H) :
    LB g t nx rt σ (Itr 0 n) H := lb_range Pv h0 (fun i σ H hi p => by rw [Int.zero_add]; exact hs i σ H hi p) hd
theorem lb_rangeC {lo c : Int} {n : Nat} (Pv : Nat → St → Hp → Prop) (h0 : Pv 0 σ H) (hs : ∀ (i : Nat) σ H, i < n → Pv i σ H → g (.int (lo + (i : Nat) * c)) σ H fun σ2 H2 => t ⟨Pv (i + 1), rt, nx, Pv (i + 1)⟩ σ2 H2) (hd : ∀ σ H, Pv n σ H → nx σ H) :
    LB g t nx rt σ (Itc lo c n) H := for_rangeC (D := ⟨nx, rt, fun _ _ => False, fun _ _ => False⟩) (lo := lo) (c := c) (n := n) Pv h0 hs hd
theorem lb_list {a : Addr} {xs : List V} (Pv : Nat → St → Hp → Prop) (h0 : Pv 0 σ H) (hl : ∀ i σ H, i ≤ xs.length → Pv i σ H → SqL K H a xs) (hs : ∀ i x σ H, xs[i]? = some x → Pv i σ H → g x σ H fun σ2 H2 => t ⟨Pv (i + 1), rt, nx, Pv (i + 1)⟩ σ2 H2)
    (hd : ∀ σ H, Pv xs.length σ H → nx σ H) : LB g t nx rt σ (Itl K a) H := for_list (K := K) (a := a) (xs := xs) (D := ⟨nx, rt, fun _ _ => False, fun _ _ => False⟩) Pv h0 hl hs hd
theorem w_while {c : TT} {tb : TS} (Pv : St → Hp → Prop) (μ : St → Hp → Nat) (h0 : Pv σ H)
    (hs : ∀ σ H, Pv σ H → c σ H fun b H1 => if b = true then ∃ N : St → Hp → Prop, (∀ σ' H', N σ' H' → ∃ m', m' < μ σ H ∧ (m' = μ σ' H' ∧ Pv σ' H')) ∧ tb ⟨N, rt, nx, N⟩ σ H1 else nx σ H1) : tWhile c tb ⟨nx, rt, bk, ct⟩ σ H :=
  ⟨fun m σ H => m = μ σ H ∧ Pv σ H, ⟨_, rfl, h0⟩, fun m σ H h => by
    obtain ⟨e, p⟩ := h
    subst e
    exact hs σ H p⟩
theorem w_wN {tb : TS} {Pv : St → Hp → Prop} {μ : St → Hp → Nat} {m : Nat} (q : tb ⟨fun σ' H' => Pv σ' H' ∧ μ σ' H' < m, rt, nx, fun σ' H' => Pv σ' H' ∧ μ σ' H' < m⟩ σ H) :
    ∃ N : St → Hp → Prop, (∀ σ' H', N σ' H' → ∃ m', m' < m ∧ (m' = μ σ' H' ∧ Pv σ' H')) ∧ tb ⟨N, rt, nx, N⟩ σ H := ⟨_, fun _ _ h => ⟨_, h.2, rfl, h.1⟩, q⟩
end
end Ts
namespace Ts
open PySem L2
section
variable {H : Hp} {Q : VK} {R : St → Hp → Prop} {v a : V}
theorem w_v0 {s : St} (q : Q v H) : tVar 0 (some v :: s) H Q := ⟨v, rfl, q⟩
theorem w_n0 {b : Option V} {s : St} (q : R (some v :: s) H) : gName 0 v (b :: s) H R := q
theorem w_v1 {a0 : Option V} {s : St} (q : Q v H) : tVar 1 (a0 :: some v :: s) H Q := ⟨v, rfl, q⟩
theorem w_n1 {a0 : Option V} {b : Option V} {s : St} (q : R (a0 :: some v :: s) H) : gName 1 v (a0 :: b :: s) H R := q
theorem w_v2 {a0 a1 : Option V} {s : St} (q : Q v H) : tVar 2 (a0 :: a1 :: some v :: s) H Q := ⟨v, rfl, q⟩
theorem w_n2 {a0 a1 : Option V} {b : Option V} {s : St} (q : R (a0 :: a1 :: some v :: s) H) : gName 2 v (a0 :: a1 :: b :: s) H R := q
theorem w_v3 {a0 a1 a2 : Option V} {s : St} (q : Q v H) : tVar 3 (a0 :: a1 :: a2 :: some v :: s) H Q := ⟨v, rfl, q⟩
theorem w_n3 {a0 a1 a2 : Option V} {b : Option V} {s : St} (q : R (a0 :: a1 :: a2 :: some v :: s) H) : gName 3 v (a0 :: a1 :: a2 :: b :: s) H R := q
theorem w_v4 {a0 a1 a2 a3 : Option V} {s : St} (q : Q v H) : tVar 4 (a0 :: a1 :: a2 :: a3 :: some v :: s) H Q := ⟨v, rfl, q⟩
theorem w_n4 {a0 a1 a2 a3 : Option V} {b : Option V} {s : St} (q : R (a0 :: a1 :: a2 :: a3 :: some v :: s) H) : gName 4 v (a0 :: a1 :: a2 :: a3 :: b :: s) H R := q
theorem w_v5 {a0 a1 a2 a3 a4 : Option V} {s : St} (q : Q v H) : tVar 5 (a0 :: a1 :: a2 :: a3 :: a4 :: some v :: s) H Q := ⟨v, rfl, q⟩
theorem w_n5 {a0 a1 a2 a3 a4 : Option V} {b : Option V} {s : St} (q : R (a0 :: a1 :: a2 :: a3 :: a4 :: some v :: s) H) : gName 5 v (a0 :: a1 :: a2 :: a3 :: a4 :: b :: s) H R := q
theorem w_v6 {a0 a1 a2 a3 a4 a5 : Option V} {s : St} (q : Q v H) : tVar 6 (a0 :: a1 :: a2 :: a3 :: a4 :: a5 :: some v :: s) H Q := ⟨v, rfl, q⟩
theorem w_n6 {a0 a1 a2 a3 a4 a5 : Option V} {b : Option V} {s : St} (q : R (a0 :: a1 :: a2 :: a3 :: a4 :: a5 :: some v :: s) H) : gName 6 v (a0 :: a1 :: a2 :: a3 :: a4 :: a5 :: b :: s) H R := q
theorem w_v7 {a0 a1 a2 a3 a4 a5 a6 : Option V} {s : St} (q : Q v H) : tVar 7 (a0 :: a1 :: a2 :: a3 :: a4 :: a5 :: a6 :: some v :: s) H Q := ⟨v, rfl, q⟩
theorem w_n7 {a0 a1 a2 a3 a4 a5 a6 : Option V} {b : Option V} {s : St} (q : R (a0 :: a1 :: a2 :: a3 :: a4 :: a5 :: a6 :: some v :: s) H) : gName 7 v (a0 :: a1 :: a2 :: a3 :: a4 :: a5 :: a6 :: b :: s) H R := q
theorem w_v8 {a0 a1 a2 a3 a4 a5 a6 a7 : Option V} {s : St} (q : Q v H) : tVar 8 (a0 :: a1 :: a2 :: a3 :: a4 :: a5 :: a6 :: a7 :: some v :: s) H Q := ⟨v, rfl, q⟩
theorem w_n8 {a0 a1 a2 a3 a4 a5 a6 a7 : Option V} {b : Option V} {s : St} (q : R (a0 :: a1 :: a2 :: a3 :: a4 :: a5 :: a6 :: a7 :: some v :: s) H) : gName 8 v (a0 :: a1 :: a2 :: a3 :: a4 :: a5 :: a6 :: a7 :: b :: s) H R := q
theorem w_v9 {a0 a1 a2 a3 a4 a5 a6 a7 a8 : Option V} {s : St} (q : Q v H) : tVar 9 (a0 :: a1 :: a2 :: a3 :: a4 :: a5 :: a6 :: a7 :: a8 :: some v :: s) H Q := ⟨v, rfl, q⟩
theorem w_n9 {a0 a1 a2 a3 a4 a5 a6 a7 a8 : Option V} {b : Option V} {s : St} (q : R (a0 :: a1 :: a2 :: a3 :: a4 :: a5 :: a6 :: a7 :: a8 :: some v :: s) H) : gName 9 v (a0 :: a1 :: a2 :: a3 :: a4 :: a5 :: a6 :: a7 :: a8 :: b :: s) H R := q
theorem w_v10 {a0 a1 a2 a3 a4 a5 a6 a7 a8 a9 : Option V} {s : St} (q : Q v H) : tVar 10 (a0 :: a1 :: a2 :: a3 :: a4 :: a5 :: a6 :: a7 :: a8 :: a9 :: some v :: s) H Q := ⟨v, rfl, q⟩
theorem w_n10 {a0 a1 a2 a3 a4 a5 a6 a7 a8 a9 : Option V} {b : Option V} {s : St} (q : R (a0 :: a1 :: a2 :: a3 :: a4 :: a5 :: a6 :: a7 :: a8 :: a9 :: some v :: s) H) : gName 10 v (a0 :: a1 :: a2 :: a3 :: a4 :: a5 :: a6 :: a7 :: a8 :: a9 :: b :: s) H R := q
theorem w_v11 {a0 a1 a2 a3 a4 a5 a6 a7 a8 a9 a10 : Option V} {s : St} (q : Q v H) : tVar 11 (a0 :: a1 :: a2 :: a3 :: a4 :: a5 :: a6 :: a7 :: a8 :: a9 :: a10 :: some v :: s) H Q := ⟨v, rfl, q⟩
theorem w_n11 {a0 a1 a2 a3 a4 a5 a6 a7 a8 a9 a10 : Option V} {b : Option V} {s : St} (q : R (a0 :: a1 :: a2 :: a3 :: a4 :: a5 :: a6 :: a7 :: a8 :: a9 :: a10 :: some v :: s) H) : gName 11 v (a0 :: a1 :: a2 :: a3 :: a4 :: a5 :: a6 :: a7 :: a8 :: a9 :: a10 :: b :: s) H R := q
theorem w_v12 {a0 a1 a2 a3 a4 a5 a6 a7 a8 a9 a10 a11 : Option V} {s : St} (q : Q v H) : tVar 12 (a0 :: a1 :: a2 :: a3 :: a4 :: a5 :: a6 :: a7 :: a8 :: a9 :: a10 :: a11 :: some v :: s) H Q := ⟨v, rfl, q⟩
theorem w_n12 {a0 a1 a2 a3 a4 a5 a6 a7 a8 a9 a10 a11 : Option V} {b : Option V} {s : St} (q : R (a0 :: a1 :: a2 :: a3 :: a4 :: a5 :: a6 :: a7 :: a8 :: a9 :: a10 :: a11 :: some v :: s) H) : gName 12 v (a0 :: a1 :: a2 :: a3 :: a4 :: a5 :: a6 :: a7 :: a8 :: a9 :: a10 :: a11 :: b :: s) H R := q
theorem w_v13 {a0 a1 a2 a3 a4 a5 a6 a7 a8 a9 a10 a11 a12 : Option V} {s : St} (q : Q v H) : tVar 13 (a0 :: a1 :: a2 :: a3 :: a4 :: a5 :: a6 :: a7 :: a8 :: a9 :: a10 :: a11 :: a12 :: some v :: s) H Q := ⟨v, rfl, q⟩
theorem w_n13 {a0 a1 a2 a3 a4 a5 a6 a7 a8 a9 a10 a11 a12 : Option V} {b : Option V} {s : St} (q : R (a0 :: a1 :: a2 :: a3 :: a4 :: a5 :: a6 :: a7 :: a8 :: a9 :: a10 :: a11 :: a12 :: some v :: s) H) : gName 13 v (a0 :: a1 :: a2 :: a3 :: a4 :: a5 :: a6 :: a7 :: a8 :: a9 :: a10 :: a11 :: a12 :: b :: s) H R := q
theorem w_v14 {a0 a1 a2 a3 a4 a5 a6 a7 a8 a9 a10 a11 a12 a13 : Option V} {s : St} (q : Q v H) : tVar 14 (a0 :: a1 :: a2 :: a3 :: a4 :: a5 :: a6 :: a7 :: a8 :: a9 :: a10 :: a11 :: a12 :: a13 :: some v :: s) H Q := ⟨v, rfl, q⟩
theorem w_n14 {a0 a1 a2 a3 a4 a5 a6 a7 a8 a9 a10 a11 a12 a13 : Option V} {b : Option V} {s : St} (q : R (a0 :: a1 :: a2 :: a3 :: a4 :: a5 :: a6 :: a7 :: a8 :: a9 :: a10 :: a11 :: a12 :: a13 :: some v :: s) H) : gName 14 v (a0 :: a1 :: a2 :: a3 :: a4 :: a5 :: a6 :: a7 :: a8 :: a9 :: a10 :: a11 :: a12 :: a13 :: b :: s) H R := q
theorem w_v15 {a0 a1 a2 a3 a4 a5 a6 a7 a8 a9 a10 a11 a12 a13 a14 : Option V} {s : St} (q : Q v H) : tVar 15 (a0 :: a1 :: a2 :: a3 :: a4 :: a5 :: a6 :: a7 :: a8 :: a9 :: a10 :: a11 :: a12 :: a13 :: a14 :: some v :: s) H Q := ⟨v, rfl, q⟩
theorem w_n15 {a0 a1 a2 a3 a4 a5 a6 a7 a8 a9 a10 a11 a12 a13 a14 : Option V} {b : Option V} {s : St} (q : R (a0 :: a1 :: a2 :: a3 :: a4 :: a5 :: a6 :: a7 :: a8 :: a9 :: a10 :: a11 :: a12 :: a13 :: a14 :: some v :: s) H) : gName 15 v (a0 :: a1 :: a2 :: a3 :: a4 :: a5 :: a6 :: a7 :: a8 :: a9 :: a10 :: a11 :: a12 :: a13 :: a14 :: b :: s) H R := q
theorem w_v16 {a0 a1 a2 a3 a4 a5 a6 a7 a8 a9 a10 a11 a12 a13 a14 a15 : Option V} {s : St} (q : Q v H) : tVar 16 (a0 :: a1 :: a2 :: a3 :: a4 :: a5 :: a6 :: a7 :: a8 :: a9 :: a10 :: a11 :: a12 :: a13 :: a14 :: a15 :: some v :: s) H Q := ⟨v, rfl, q⟩
theorem w_n16 {a0 a1 a2 a3 a4 a5 a6 a7 a8 a9 a10 a11 a12 a13 a14 a15 : Option V} {b : Option V} {s : St} (q : R (a0 :: a1 :: a2 :: a3 :: a4 :: a5 :: a6 :: a7 :: a8 :: a9 :: a10 :: a11 :: a12 :: a13 :: a14 :: a15 :: some v :: s) H) : gName 16 v (a0 :: a1 :: a2 :: a3 :: a4 :: a5 :: a6 :: a7 :: a8 :: a9 :: a10 :: a11 :: a12 :: a13 :: a14 :: a15 :: b :: s) H R := q
theorem w_v17 {a0 a1 a2 a3 a4 a5 a6 a7 a8 a9 a10 a11 a12 a13 a14 a15 a16 : Option V} {s : St} (q : Q v H) : tVar 17 (a0 :: a1 :: a2 :: a3 :: a4 :: a5 :: a6 :: a7 :: a8 :: a9 :: a10 :: a11 :: a12 :: a13 :: a14 :: a15 :: a16 :: some v :: s) H Q := ⟨v, rfl, q⟩
theorem w_n17 {a0 a1 a2 a3 a4 a5 a6 a7 a8 a9 a10 a11 a12 a13 a14 a15 a16 : Option V} {b : Option V} {s : St} (q : R (a0 :: a1 :: a2 :: a3 :: a4 :: a5 :: a6 :: a7 :: a8 :: a9 :: a10 :: a11 :: a12 :: a13 :: a14 :: a15 :: a16 :: some v :: s) H) : gName 17 v (a0 :: a1 :: a2 :: a3 :: a4 :: a5 :: a6 :: a7 :: a8 :: a9 :: a10 :: a11 :: a12 :: a13 :: a14 :: a15 :: a16 :: b :: s) H R := q
theorem w_v18 {a0 a1 a2 a3 a4 a5 a6 a7 a8 a9 a10 a11 a12 a13 a14 a15 a16 a17 : Option V} {s : St} (q : Q v H) : tVar 18 (a0 :: a1 :: a2 :: a3 :: a4 :: a5 :: a6 :: a7 :: a8 :: a9 :: a10 :: a11 :: a12 :: a13 :: a14 :: a15 :: a16 :: a17 :: some v :: s) H Q := ⟨v, rfl, q⟩
theorem w_n18 {a0 a1 a2 a3 a4 a5 a6 a7 a8 a9 a10 a11 a12 a13 a14 a15 a16 a17 : Option V} {b : Option V} {s : St} (q : R (a0 :: a1 :: a2 :: a3 :: a4 :: a5 :: a6 :: a7 :: a8 :: a9 :: a10 :: a11 :: a12 :: a13 :: a14 :: a15 :: a16 :: a17 :: some v :: s) H) : gName 18 v (a0 :: a1 :: a2 :: a3 :: a4 :: a5 :: a6 :: a7 :: a8 :: a9 :: a10 :: a11 :: a12 :: a13 :: a14 :: a15 :: a16 :: a17 :: b :: s) H R := q
theorem w_v19 {a0 a1 a2 a3 a4 a5 a6 a7 a8 a9 a10 a11 a12 a13 a14 a15 a16 a17 a18 : Option V} {s : St} (q : Q v H) : tVar 19 (a0 :: a1 :: a2 :: a3 :: a4 :: a5 :: a6 :: a7 :: a8 :: a9 :: a10 :: a11 :: a12 :: a13 :: a14 :: a15 :: a16 :: a17 :: a18 :: some v :: s) H Q := ⟨v, rfl, q⟩
theorem w_n19 {a0 a1 a2 a3 a4 a5 a6 a7 a8 a9 a10 a11 a12 a13 a14 a15 a16 a17 a18 : Option V} {b : Option V} {s : St} (q : R (a0 :: a1 :: a2 :: a3 :: a4 :: a5 :: a6 :: a7 :: a8 :: a9 :: a10 :: a11 :: a12 :: a13 :: a14 :: a15 :: a16 :: a17 :: a18 :: some v :: s) H) : gName 19 v (a0 :: a1 :: a2 :: a3 :: a4 :: a5 :: a6 :: a7 :: a8 :: a9 :: a10 :: a11 :: a12 :: a13 :: a14 :: a15 :: a16 :: a17 :: a18 :: b :: s) H R := q
end
end Ts
namespace Ts
open PySem PySem.Spec PyProof.Rows L2
/-! ### defs, methods, classes by their names -/
structure FunG (K : PySem.W.Frag) (mg : Str → Option Value) (x : Str) (st : Stmt) (ps : List Str) : Prop where
  ex : ∃ f fd, Fun K x x st f fd ∧ mg x = some (.ref f) ∧ Binds K fd ps []
structure MetG (K : PySem.W.Frag) (C : Addr) (m qual : Str) (st : Stmt) (ps : List Str) : Prop where
  ex : ∃ f fd, Fun K m qual st f fd ∧ Meth K C m f ∧ Binds K fd ps []
structure IniG (K : PySem.W.Frag) (mg : Str → Option Value) (C : Addr) (x qual : Str) (st : Stmt) (ps : List Str) : Prop where
  ex : ∃ f fd, Fun K "__init__" qual st f fd ∧ Mk K C f ∧ mg x = some (.ref C) ∧ Binds K fd ps []
structure FnG (P : Program) (w : World) (K : PySem.W.Frag) (mg : Str → Option Value) (base : Heap) (k : Nat) (x : Str) (ps : List Str) (sp : Sp) : Prop where
  ex : ∃ f fd, FnOk P w K mg base (L2.CX P w) k f fd ps sp ∧ mg x = some (.ref f) ∧ PySem.W.keepIn K (.ref f) = true ∧ Binds K fd ps []
structure MtG (P : Program) (w : World) (K : PySem.W.Frag) (mg : Str → Option Value) (base : Heap) (k : Nat) (C : Addr) (m : Str) (ps : List Str) (sp : Sp) : Prop where
  ex : ∃ f fd, FnOk P w K mg base (L2.CX P w) k f fd ps sp ∧ Meth K C m f ∧ Binds K fd ps []
structure MkG (P : Program) (w : World) (K : PySem.W.Frag) (mg : Str → Option Value) (base : Heap) (k : Nat) (C : Addr) (x : Str) (ps : List Str) (sp : Sp) : Prop where
  ex : ∃ f fd, FnOk P w K mg base (L2.CX P w) k f fd ps sp ∧ Mk K C f ∧ mg x = some (.ref C) ∧ Binds K fd ps []
section
variable {P : Program} {w : World} {K : PySem.W.Frag} {mg : Str → Option Value} {base : Heap} {x m qual : Str} {st : Stmt} {C : Addr} {ps N : List Str} {k : Nat} {sp sp' : Sp}
/-- what a def's body must show -/
abbrev BodyOk (P : Program) (w : World) (K : PySem.W.Frag) (mg : Str → Option Value) (base : Heap) (N : List Str) (qual : Str) (st : Stmt) (k : Nat) (sp : Sp) : Prop :=
  ∀ (f : Addr) (cdv : Value) (A : Around) (outer : List Env) (s : Shared) (H : Hp) (vs : List V) (Q : VK) (E : XK), Room k (A.deeper (envOfC qual (defScope st) s.heap.objs.size f cdv)) → sp vs H Q E →
      ∃ t, PSs (cxOf (L2.CX P w) P w K mg base N qual (defScope st) f cdv A outer s H E) (defBody st) t ∧ t ⟨fun _ H' => Q .non H', Q, fun _ _ => False, fun _ _ => False⟩ (start N vs) H
theorem FunG.ok (F : FunG K mg x st ps) (S : FnScope N ps (defScope st)) (len : ∀ vs H Q E, sp vs H Q E → vs.length = ps.length) (hb : BodyOk P w K mg base N x st k sp) : FnG P w K mg base (k + 1) x ps sp := by
  obtain ⟨f, fd, F, g, b⟩ := F.ex
  exact ⟨f, fd, F.okX S len (hb f), g, F.kp, b⟩
theorem MetG.ok (F : MetG K C m qual st ps) (S : FnScope N ps (defScope st)) (len : ∀ vs H Q E, sp vs H Q E → vs.length = ps.length) (hb : BodyOk P w K mg base N qual st k sp) : MtG P w K mg base (k + 1) C m ps sp := by
  obtain ⟨f, fd, F, g, b⟩ := F.ex
  exact ⟨f, fd, F.okX S len (hb f), g, b⟩
theorem IniG.ok (F : IniG K mg C x qual st ps) (S : FnScope N ps (defScope st)) (len : ∀ vs H Q E, sp vs H Q E → vs.length = ps.length) (hb : BodyOk P w K mg base N qual st k sp) : MkG P w K mg base (k + 1) C x ps sp := by
  obtain ⟨f, fd, F, g, h, b⟩ := F.ex
  exact ⟨f, fd, F.okX S len (hb f), g, h, b⟩
theorem FnG.mono {j : Nat} (F : FnG P w K mg base j x ps sp) (h : j ≤ k) : FnG P w K mg base k x ps sp := let ⟨f, fd, a, b, c, d⟩ := F.ex; ⟨f, fd, a.mono h, b, c, d⟩
theorem FnG.imp (F : FnG P w K mg base k x ps sp) (h : ∀ vs H Q E, sp' vs H Q E → sp vs H Q E) : FnG P w K mg base k x ps sp' := let ⟨f, fd, a, b, c, d⟩ := F.ex; ⟨f, fd, a.imp h, b, c, d⟩
theorem MtG.mono {j : Nat} (F : MtG P w K mg base j C m ps sp) (h : j ≤ k) : MtG P w K mg base k C m ps sp := let ⟨f, fd, a, b, c⟩ := F.ex; ⟨f, fd, a.mono h, b, c⟩
theorem MtG.imp (F : MtG P w K mg base k C m ps sp) (h : ∀ vs H Q E, sp' vs H Q E → sp vs H Q E) : MtG P w K mg base k C m ps sp' := let ⟨f, fd, a, b, c⟩ := F.ex; ⟨f, fd, a.imp h, b, c⟩
end
section
variable {X : Cx} {k : Nat} {C : Addr} {ps : List Str} {sp : Sp} {E : XK} {ES : L2.St → XK} {x m : Str} {p pos apos : Pos} {e o : Expr} {es : List Expr} {ta : TE} {t : TA}
theorem passE (tk : Takes X (fun cls d _ H => E cls d H)) : Passes (L2.CX X.prog X.w) X E := passes_call tk fun _ _ _ _ h => h
theorem pe_callG (G : FnG X.prog X.w X.K X.mg X.base k x ps sp) (hr : Room k X.A) (hx : Passes (L2.CX X.prog X.w) X E) (ha : PA X (e :: es) t) (hg : Gl X x := by rfl)
    (hdb : (x == ("__debug__" : Str)) = false := by decide) (he : starEach (e :: es) X.env = (false, eval e X.env) :: starEach es X.env := by rfl) (hpl : (backTo pos (starEach es X.env)).any (·.1) = false := by rfl) :
    PE X (.Call (.Name x p) (e :: es) [] pos) (tCall sp [] E t) := by
  obtain ⟨f, fd, F, g, kp, b⟩ := G.ex
  exact pe_call F hr hg g kp b .nil hx ha hdb he hpl
theorem pe_callGS (G : FnG X.prog X.w X.K X.mg X.base k x ps sp) (hr : Room k X.A) (hx : ∀ σ, PassesAt (L2.CX X.prog X.w) X σ (ES σ)) (ha : PA X (e :: es) t) (hg : Gl X x := by rfl)
    (hdb : (x == ("__debug__" : Str)) = false := by decide) (he : starEach (e :: es) X.env = (false, eval e X.env) :: starEach es X.env := by rfl) (hpl : (backTo pos (starEach es X.env)).any (·.1) = false := by rfl) :
    PE X (.Call (.Name x p) (e :: es) [] pos) (tCallS sp ES t) := by
  obtain ⟨f, fd, F, g, kp, b⟩ := G.ex
  exact pe_callS F hr hg g kp b hx ha hdb he hpl
theorem pe_methG {pl : Sem Bool} (he : PE X o ta) (c : Cls X.K C) (G : MtG X.prog X.w X.K X.mg X.base k C m ps sp) (hr : Room k X.A) (hx : Passes (L2.CX X.prog X.w) X E) (ha : PA X (e :: es) t)
    (hst : starEach (e :: es) X.env = (false, eval e X.env) :: starEach es X.env := by rfl) (hpl : (backTo pos (starEach es X.env)).any (·.1) = false := by rfl)
    (ht : eval (.Call (.Attribute o m apos) (e :: es) [] pos) X.env = (do
      let ov ← eval o X.env
      standAt apos.atName
      let (f, first) ← holding [ov] (getMethod ov m pl)
      callWith pos f first (backTo pos (starEach (e :: es) X.env)) (backToKw pos (keywordEach [] X.env))) := by rfl) :
    PE X (.Call (.Attribute o m apos) (e :: es) [] pos) (tMeth C m sp [] E ta t) := by
  obtain ⟨f, fd, F, g, b⟩ := G.ex
  exact pe_meth he c g F hr b .nil hx ha hst hpl ht
theorem pe_methG0 {pl : Sem Bool} (he : PE X o ta) (c : Cls X.K C) (G : MtG X.prog X.w X.K X.mg X.base k C m ps sp) (hr : Room k X.A) (hx : Passes (L2.CX X.prog X.w) X E)
    (ht : eval (.Call (.Attribute o m apos) [] [] pos) X.env = (do
      let ov ← eval o X.env
      standAt apos.atName
      let (f, first) ← holding [ov] (getMethod ov m pl)
      callWith pos f first (backTo pos (starEach [] X.env)) (backToKw pos (keywordEach [] X.env))) := by rfl) :
    PE X (.Call (.Attribute o m apos) [] [] pos) (tMeth C m sp [] E ta tNil) := by
  obtain ⟨f, fd, F, g, b⟩ := G.ex
  exact pe_meth0 he c g F hr b .nil hx ht
/-- the same within a try's body: what is raised is wished for at the slots -/
def tMethS (C : Addr) (m : Str) (sp : Sp) (ES : L2.St → XK) (ta : TE) (t : TA) : TE := fun σ H Q => ta σ H fun x H1 => ∃ a dx fs, x = .ref a ∧ H1 a = some (.ins C dx fs) ∧ fs.lookup m = none ∧ t σ H1 fun vs H2 => sp (x :: vs) H2 Q (ES σ)
theorem pe_methGS {pl : Sem Bool} (he : PE X o ta) (c : Cls X.K C) (G : MtG X.prog X.w X.K X.mg X.base k C m ps sp) (hr : Room k X.A) (hx : ∀ σ, PassesAt (L2.CX X.prog X.w) X σ (ES σ)) (ha : PA X (e :: es) t)
    (hst : starEach (e :: es) X.env = (false, eval e X.env) :: starEach es X.env := by rfl) (hpl : (backTo pos (starEach es X.env)).any (·.1) = false := by rfl)
    (ht : eval (.Call (.Attribute o m apos) (e :: es) [] pos) X.env = (do
      let ov ← eval o X.env
      standAt apos.atName
      let (f, first) ← holding [ov] (getMethod ov m pl)
      callWith pos f first (backTo pos (starEach (e :: es) X.env)) (backToKw pos (keywordEach [] X.env))) := by rfl) :
    PE X (.Call (.Attribute o m apos) (e :: es) [] pos) (tMethS C m sp ES ta t) := by
  obtain ⟨f, fd, F, hm, b⟩ := G.ex
  refine ⟨fun pins s σ H Q I h => ?_⟩
  refine PySem.W.methodCall_KW (pl := pl) (thn (he.run pins s σ H _ I h) fun u s1 ⟨x, H1, I1, rx, a, dx, fs, ex, ea, l, q⟩ => ?_) ht
  subst ex
  obtain rfl : u = Value.ref a := rx
  refine getmeth_ok I1 ea c hm l ?_
  refine PySem.W.callWith_K (first := [.ref a]) (h₀ := X.base) I.ok.mod.kin hm.kp (thn (ha.run pos pins s1 σ H1 _ I1 q) fun us s2 ⟨vs, H2, I2, r, q2⟩ => ⟨I2.kIn, ?_⟩) hst hpl
  exact run_fnS (us := .ref a :: us) (vs := .ref a :: vs) F hr b (hx σ) I2 (.cons rfl r) q2
theorem pe_methG0S {pl : Sem Bool} (he : PE X o ta) (c : Cls X.K C) (G : MtG X.prog X.w X.K X.mg X.base k C m ps sp) (hr : Room k X.A) (hx : ∀ σ, PassesAt (L2.CX X.prog X.w) X σ (ES σ))
    (ht : eval (.Call (.Attribute o m apos) [] [] pos) X.env = (do
      let ov ← eval o X.env
      standAt apos.atName
      let (f, first) ← holding [ov] (getMethod ov m pl)
      callWith pos f first (backTo pos (starEach [] X.env)) (backToKw pos (keywordEach [] X.env))) := by rfl) :
    PE X (.Call (.Attribute o m apos) [] [] pos) (tMethS C m sp ES ta tNil) := by
  obtain ⟨f, fd, F, hm, b⟩ := G.ex
  refine ⟨fun pins s σ H Q I h => ?_⟩
  refine PySem.W.methodCall_KW (pl := pl) (thn (he.run pins s σ H _ I h) fun u s1 ⟨x, H1, I1, rx, a, dx, fs, ex, ea, l, q⟩ => ?_) ht
  subst ex
  obtain rfl : u = Value.ref a := rx
  refine getmeth_ok I1 ea c hm l ?_
  exact PySem.W.callWith_K0 (first := [.ref a]) I1.kIn hm.kp (run_fnS (us := [.ref a]) (vs := [.ref a]) F hr b (hx σ) I1 (.cons rfl .nil) q)
theorem w_methS {σ : L2.St} {H : Hp} {Q : VK} (q : ta σ H fun x H1 => ∃ a dx fs, x = .ref a ∧ H1 a = some (.ins C dx fs) ∧ fs.lookup m = none ∧ t σ H1 fun vs H2 => sp (x :: vs) H2 Q (ES σ)) : tMethS C m sp ES ta t σ H Q := q
theorem pe_makeG (G : MkG X.prog X.w X.K X.mg X.base k C x ps sp) (hr : Room (k + 1) X.A) (hx : Passes (L2.CX X.prog X.w) X E) (ha : PA X (e :: es) t) (hg : Gl X x := by rfl)
    (hdb : (x == ("__debug__" : Str)) = false := by decide) (he : starEach (e :: es) X.env = (false, eval e X.env) :: starEach es X.env := by rfl) (hpl : (backTo pos (starEach es X.env)).any (·.1) = false := by rfl) :
    PE X (.Call (.Name x p) (e :: es) [] pos) (tMake C sp [] E t) := by
  obtain ⟨f, fd, F, M, g, b⟩ := G.ex
  exact pe_make M F hr hg g b .nil hx ha hdb he hpl
theorem pe_makeG0 (G : MkG X.prog X.w X.K X.mg X.base k C x ps sp) (hr : Room (k + 1) X.A) (hx : Passes (L2.CX X.prog X.w) X E) (hg : Gl X x := by rfl)
    (hdb : (x == ("__debug__" : Str)) = false := by decide) : PE X (.Call (.Name x p) [] [] pos) (tMake C sp [] E tNil) := by
  obtain ⟨f, fd, F, M, g, b⟩ := G.ex
  exact pe_make0 M F hr hg g b .nil hx hdb
/-- an own exception class over ValueError without __init__ -/
structure ExcT (K : PySem.W.Frag) (mg : Str → Option Value) (x : Str) (C : Addr) : Prop where
  g : mg x = some (.ref C)
  xP : PySem.W.excIn K C [.type "ValueError", .type "Exception", .type "BaseException", .type "object"] "ValueError.__new__" = true
  kP : PySem.W.keepIn K (.ref C) = true
  bP : PySem.W.subIn K (.ref C) (.type "BaseException") = some true
  tP : PySem.W.typeIn K (.ref C) = some (.type "type")
/-- raise X('..') -/
def tRaiseX (C : Addr) (W : WX) : TS := fun _ σ H => W (.ref C) none σ H
theorem ps_raiseG {W : WX} {y : Str} {j : Nat} {p2 pos2 : Pos} (T : ExcT X.K X.mg x C) (hc : X.calm = true) (tk : Takes X W) (hg : Gl X x := by rfl) (hdb : (x == ("__debug__" : Str)) = false := by decide) :
    PS X (.Raise (some (.Call (.Name x p) [.Constant (.str y) j p2] [] pos)) none pos2) (tRaiseX C W) := ps_raise hc tk (pmk_own PySem.F.excBase_ValueError T.xP T.g T.kP (raises_own T.bP T.tP) hg hdb)
theorem w_raise {W : WX} {D : Ends} {σ : L2.St} {H : Hp} (q : W (.ref C) none σ H) : tRaiseX C W D σ H := q
end
end Ts
namespace Ts
open PySem L2
/-! ### data: what a value means, as data of one kind -/
structure Enc (α : Type) [DecidableEq α] where
  enc : α → PyData
  ok : α → Prop
  lay : ∀ x, ok x → (enc x).canLay0 = true
  dep : Nat
  hdep : ∀ x, (enc x).depth ≤ dep
  eq : ∀ x y, PyData.eqv (enc x) (enc y) = decide (x = y)
section
variable {α β γ : Type} [DecidableEq α] [DecidableEq β] [DecidableEq γ]
theorem Enc.shaped (e : Enc α) (h : e.dep ≤ 64) (x : α) (o : e.ok x) : SeqAt.shaped (e.enc x) = true := by
  unfold SeqAt.shaped
  rw [e.lay x o, Bool.true_and]
  exact decide_eq_true (Nat.le_trans (e.hdep x) h)
theorem eInt_eq (x y : Int) : PyData.eqv (.int x) (.int y) = decide (x = y) := by rw [PyData.eqv]; exact Bool.beq_eq_decide_eq x y
def eInt : Enc Int := ⟨.int, fun _ => True, fun _ _ => rfl, 0, fun _ => Nat.le_refl _, eInt_eq⟩
def eNat : Enc Nat := ⟨fun n => .int n, fun _ => True, fun _ _ => rfl, 0, fun _ => Nat.le_refl _, fun x y => by
  rw [eInt_eq, decide_eq_decide]; omega⟩
def eStr : Enc Str := ⟨.str, fun x => PyData.strOk x = true, fun x h => by simpa [PyData.canLay0] using h, 0, fun _ => by simp [PyData.depth], fun x y => by rw [PyData.eqv, Bool.eq_iff_iff]; simp⟩
def eBool : Enc Bool := ⟨.bool, fun _ => True, fun _ _ => rfl, 0, fun _ => Nat.le_refl _, fun x y => by rw [PyData.eqv]; exact Bool.beq_eq_decide_eq x y⟩
theorem all_lay (e : Enc α) : ∀ xs : List α, (∀ x ∈ xs, e.ok x) → PyData.canLayAll0 (xs.map e.enc) = true
  | [], _ => rfl
  | x :: xs, h => by
    show PyData.canLayAll0 (e.enc x :: xs.map e.enc) = true
    unfold PyData.canLayAll0
    rw [e.lay x (h x List.mem_cons_self), all_lay e xs fun y hy => h y (List.mem_cons_of_mem _ hy)]
    rfl
theorem all_dep (e : Enc α) : ∀ xs : List α, PyData.depthAll (xs.map e.enc) ≤ e.dep
  | [] => Nat.zero_le _
  | x :: xs => by
    show PyData.depthAll (e.enc x :: xs.map e.enc) ≤ e.dep
    unfold PyData.depthAll
    exact Nat.max_le.mpr ⟨e.hdep x, all_dep e xs⟩
theorem all_eq (e : Enc α) : ∀ xs ys : List α, PyData.eqvAll (xs.map e.enc) (ys.map e.enc) = decide (xs = ys)
  | [], [] => rfl
  | [], y :: ys => rfl
  | x :: xs, [] => rfl
  | x :: xs, y :: ys => by
    show PyData.eqvAll (e.enc x :: xs.map e.enc) (e.enc y :: ys.map e.enc) = _
    rw [PyData.eqvAll, e.eq, all_eq e xs ys]
    by_cases h : x = y
    · by_cases h2 : xs = ys
      · simp [h, h2]
      · simp [h, h2]
    · simp [h]
def eList (e : Enc α) : Enc (List α) := ⟨fun xs => .list (xs.map e.enc), fun xs => ∀ x ∈ xs, e.ok x, fun xs h => by unfold PyData.canLay0; exact all_lay e xs h, e.dep + 1, fun xs => by
  unfold PyData.depth
  have := all_dep e xs
  omega, fun xs ys => by rw [PyData.eqv]; exact all_eq e xs ys⟩
def eTup2 (e : Enc α) (f : Enc β) : Enc (α × β) := ⟨fun p => .tuple [e.enc p.1, f.enc p.2], fun p => e.ok p.1 ∧ f.ok p.2, fun p h => by simp [PyData.canLay0, PyData.canLayAll0, e.lay _ h.1, f.lay _ h.2], max e.dep f.dep + 1, fun p => by
  have h1 := e.hdep p.1
  have h2 := f.hdep p.2
  simp only [PyData.depth, PyData.depthAll]
  omega, fun p r => by
  obtain ⟨a, b⟩ := p
  obtain ⟨c, d⟩ := r
  simp only [PyData.eqv, PyData.eqvAll, e.eq, f.eq, Bool.and_true, Prod.mk.injEq]
  by_cases h : a = c
  · by_cases h2 : b = d
    · simp [h, h2]
    · simp [h, h2]
  · simp [h]⟩
def eTup3 (e : Enc α) (f : Enc β) (g : Enc γ) : Enc (α × β × γ) := ⟨fun p => .tuple [e.enc p.1, f.enc p.2.1, g.enc p.2.2], fun p => e.ok p.1 ∧ f.ok p.2.1 ∧ g.ok p.2.2, fun p h => by simp [PyData.canLay0, PyData.canLayAll0, e.lay _ h.1, f.lay _ h.2.1, g.lay _ h.2.2], max e.dep (max f.dep g.dep) + 1, fun p => by
  have h1 := e.hdep p.1
  have h2 := f.hdep p.2.1
  have h3 := g.hdep p.2.2
  simp only [PyData.depth, PyData.depthAll]
  omega, fun p r => by
  obtain ⟨a, b, x⟩ := p
  obtain ⟨c, d, y⟩ := r
  simp only [PyData.eqv, PyData.eqvAll, e.eq, f.eq, g.eq, Bool.and_true, Prod.mk.injEq]
  by_cases h : a = c
  · by_cases h2 : b = d
    · by_cases h3 : x = y
      · simp [h, h2, h3]
      · simp [h, h2, h3]
    · simp [h, h2]
  · simp [h]⟩
end
/-! ### what is read stays read -/
section
variable {K : PySem.W.Frag} {H H' : Hp}
mutual
theorem dp_mono (e : Ex H H') : ∀ {v : V} {d : PyData}, Dp K H v d → Dp K H' v d
  | _, _, .non => .non
  | _, _, .bl b => .bl b
  | _, _, .int i => .int i
  | _, _, .str x => .str x
  | _, _, .lst h a => .lst (Evl.ex_l e h) (dpAll_mono e a)
  | _, _, .tup h a => .tup (Evl.ex_t e h) (dpAll_mono e a)
theorem dpAll_mono (e : Ex H H') : ∀ {vs : List V} {ds : List PyData}, DpAll K H vs ds → DpAll K H' vs ds
  | _, _, .nil => .nil
  | _, _, .cons h t => .cons (dp_mono e h) (dpAll_mono e t)
end
theorem dpAll_len : ∀ {vs : List V} {ds : List PyData}, DpAll K H vs ds → vs.length = ds.length
  | _, _, .nil => rfl
  | _, _, .cons _ t => by rw [List.length_cons, List.length_cons, dpAll_len t]
theorem dpAll_snoc {v : V} {d : PyData} : ∀ {vs : List V} {ds : List PyData}, DpAll K H vs ds → Dp K H v d → DpAll K H (vs ++ [v]) (ds ++ [d])
  | _, _, .nil, h => .cons h .nil
  | _, _, .cons a t, h => .cons a (dpAll_snoc t h)
theorem dpAll_append : ∀ {vs ws : List V} {ds es : List PyData}, DpAll K H vs ds → DpAll K H ws es → DpAll K H (vs ++ ws) (ds ++ es)
  | _, _, _, _, .nil, h => h
  | _, _, _, _, .cons a t, h => .cons a (dpAll_append t h)
theorem dpAll_get : ∀ {vs : List V} {ds : List PyData} {i : Nat} {v : V}, DpAll K H vs ds → vs[i]? = some v → ∃ d, ds[i]? = some d ∧ Dp K H v d
  | _, _, i, v, .nil, e => by simp at e
  | _, _, 0, v, .cons h t, e => by simp at e; subst e; exact ⟨_, rfl, h⟩
  | _, _, i + 1, v, .cons h t, e => by
    obtain ⟨d, h1, h2⟩ := dpAll_get (i := i) (v := v) t (by simpa using e)
    exact ⟨d, by simpa using h1, h2⟩
theorem dpAll_get' : ∀ {vs : List V} {ds : List PyData} {i : Nat} {d : PyData}, DpAll K H vs ds → ds[i]? = some d → ∃ v, vs[i]? = some v ∧ Dp K H v d
  | _, _, i, v, .nil, e => by simp at e
  | _, _, 0, v, .cons h t, e => by simp at e; subst e; exact ⟨_, rfl, h⟩
  | _, _, i + 1, v, .cons h t, e => by
    obtain ⟨d, h1, h2⟩ := dpAll_get' (i := i) (d := v) t (by simpa using e)
    exact ⟨d, by simpa using h1, h2⟩
theorem dpAll_set {v : V} {d : PyData} : ∀ {vs : List V} {ds : List PyData} (i : Nat), DpAll K H vs ds → Dp K H v d → DpAll K H (vs.set i v) (ds.set i d)
  | _, _, _, .nil, _ => .nil
  | _, _, 0, .cons _ t, h => .cons h t
  | _, _, i + 1, .cons a t, h => .cons a (dpAll_set i t h)
theorem dpAll_take : ∀ {vs : List V} {ds : List PyData} (i : Nat), DpAll K H vs ds → DpAll K H (vs.take i) (ds.take i)
  | _, _, 0, _ => .nil
  | _, _, _ + 1, .nil => .nil
  | _, _, i + 1, .cons a t => .cons a (dpAll_take i t)
theorem dpAll_drop : ∀ {vs : List V} {ds : List PyData} (i : Nat), DpAll K H vs ds → DpAll K H (vs.drop i) (ds.drop i)
  | _, _, 0, h => h
  | _, _, _ + 1, .nil => .nil
  | _, _, i + 1, .cons _ t => dpAll_drop i t
/-- texts are their own data -/
theorem dpAll_strs : ∀ (xs : List Str), DpAll K H (xs.map V.str) (xs.map PyData.str)
  | [] => .nil
  | x :: xs => .cons (.str x) (dpAll_strs xs)
theorem dpAll_ints : ∀ (xs : List Int), DpAll K H (xs.map V.int) (xs.map PyData.int)
  | [] => .nil
  | x :: xs => .cons (.int x) (dpAll_ints xs)
theorem dp_tup2 {v : V} {d e : PyData} (h : Dp K H v (.tuple [d, e])) : ∃ a x y, v = .ref a ∧ SqT K H a [x, y] ∧ Dp K H x d ∧ Dp K H y e := by
  cases h with
  | tup hs ha =>
    cases ha with
    | cons h1 t =>
      cases t with
      | cons h2 t =>
        cases t
        exact ⟨_, _, _, rfl, hs, h1, h2⟩
theorem dp_tup3 {v : V} {d e f : PyData} (h : Dp K H v (.tuple [d, e, f])) : ∃ a x y z, v = .ref a ∧ SqT K H a [x, y, z] ∧ Dp K H x d ∧ Dp K H y e ∧ Dp K H z f := by
  cases h with
  | tup hs ha =>
    cases ha with
    | cons h1 t =>
      cases t with
      | cons h2 t =>
        cases t with
        | cons h3 t =>
          cases t
          exact ⟨_, _, _, _, rfl, hs, h1, h2, h3⟩
theorem dp_int {v : V} {i : Int} (h : Dp K H v (.int i)) : v = .int i := by cases h; rfl
theorem dp_str {v : V} {i : Str} (h : Dp K H v (.str i)) : v = .str i := by cases h; rfl
theorem dp_bool {v : V} {i : Bool} (h : Dp K H v (.bool i)) : v = .bl i := by cases h; rfl
/-- a list of data of one kind at v -/
theorem dp_list {v : V} {ds : List PyData} (h : Dp K H v (.list ds)) : ∃ a xs, v = .ref a ∧ SqL K H a xs ∧ DpAll K H xs ds := by
  cases h with
  | lst hs ha => exact ⟨_, _, rfl, hs, ha⟩
theorem sqt_ex {a : Addr} {xs : List V} (e : Ex H H') (h : SqT K H a xs) : SqT K H' a xs := Evl.ex_t e h
theorem sql_ex {a : Addr} {xs : List V} (e : Ex H H') (h : SqL K H a xs) : SqL K H' a xs := Evl.ex_l e h
theorem sql {a : Addr} {xs : List V} (h : H a = some (.lst xs)) : SqL K H a xs := SqL.of h
theorem sqt {a : Addr} {xs : List V} (h : H a = some (.tup xs)) : SqT K H a xs := SqT.of h
theorem ty_sql {a : Addr} {xs : List V} (h : SqL K H a xs) : TyX K H (.ref a) (.type "list") := by
  rcases h with (h | ⟨o, h⟩) | ⟨o, its, n, h, c, _⟩
  · exact .base (.lst h)
  · exact .base (.frz h)
  · exact .kList h c
theorem ty_sqt {a : Addr} {xs : List V} (h : SqT K H a xs) : TyX K H (.ref a) (.type "tuple") := by
  rcases h with (h | ⟨o, h⟩) | ⟨o, its, n, h, c, _⟩
  · exact .base (.tup h)
  · exact .fTuple h
  · exact .kTuple h c
theorem tyL {a : Addr} {xs : List V} (h : H a = some (.lst xs)) : TyX K H (.ref a) (.type "list") := .base (.lst h)
theorem tyT {a : Addr} {xs : List V} (h : H a = some (.tup xs)) : TyX K H (.ref a) (.type "tuple") := .base (.tup h)
theorem tyI {i : Int} : TyX K H (.int i) (.type "int") := .base (.int i)
theorem tyS {i : Str} : TyX K H (.str i) (.type "str") := .base (.str i)
theorem tyB {i : Bool} : TyX K H (.bl i) (.type "bool") := .base (.bl i)
theorem tyN : TyX K H .non (.type "NoneType") := .base .non
end
/-! ### a heap without one object: what does not lean on it -/
def hid (p : Addr) (H : Hp) : Hp := fun b => if b = p then none else H b
theorem hid_ne {p b : Addr} {H : Hp} (h : b ≠ p) : hid p H b = H b := if_neg h
theorem hid_upd {p : Addr} {H : Hp} {o : HO} : hid p (upd H p o) = hid p H := by
  funext b
  unfold hid
  by_cases h : b = p
  · rw [if_pos h, if_pos h]
  · rw [if_neg h, if_neg h, upd_ne h]
theorem ex_hid {p : Addr} {H : Hp} : Ex (hid p H) H := fun b o h => by
  unfold hid at h
  by_cases e : b = p
  · rw [if_pos e] at h; cases h
  · rw [if_neg e] at h; exact h
theorem hid_mono {p : Addr} {H H' : Hp} (e : Ex H H') : Ex (hid p H) (hid p H') := fun b o h => by
  unfold hid at h ⊢
  by_cases q : b = p
  · rw [if_pos q] at h; cases h
  · rw [if_neg q] at h ⊢; exact e b o h
theorem hid_free {p : Addr} {H H' : Hp} (h : H p = none) (e : Ex H H') : Ex H (hid p H') := fun b o q => by
  have hb : b ≠ p := fun z => by rw [z, h] at q; cases q
  rw [hid_ne hb]
  exact e b o q
theorem hid_get {p : Addr} {H : Hp} {b : Addr} {o : HO} (h : H b = some o) (n : b ≠ p) : hid p H b = some o := by rw [hid_ne n]; exact h
theorem cmul_nat {i : Int} {z : Nat} (h : z ≤ 2 ^ 60) : CMul i (z : Int) := Or.inr ⟨by omega, by omega⟩
theorem drop_at {α : Type} {l : List α} {i : Nat} {x : α} (h : l[i]? = some x) : l.drop i = x :: l.drop (i + 1) := by
  obtain ⟨h1, h2⟩ := List.getElem?_eq_some_iff.mp h
  rw [List.drop_eq_getElem_cons h1, h2]
theorem take_at {α : Type} {l : List α} {i : Nat} {x : α} (h : l[i]? = some x) : l.take (i + 1) = l.take i ++ [x] := by
  rw [List.take_add_one, h]; rfl
theorem get_map {α β : Type} {f : α → β} {l : List α} {i : Nat} {y : β} (h : (l.map f)[i]? = some y) : ∃ x, l[i]? = some x ∧ y = f x := by
  rw [List.getElem?_map] at h
  obtain ⟨x, h1, h2⟩ := Option.map_eq_some_iff.mp h
  exact ⟨x, h1, h2.symm⟩
theorem get_lt {α : Type} {l : List α} {i : Nat} {x : α} (h : l[i]? = some x) : i < l.length := (List.getElem?_eq_some_iff.mp h).1
end Ts
namespace Mix
open PySem
open Sem (wp)
/-! # dicts whose keys are texts and tuples of ints, beside one another (my own; over the library's rules of the machine) -/
/-- whether a key is among the keys -/
def hasG {κ : Type} [DecidableEq κ] (k : κ) (l : List κ) : Bool := decide (k ∈ l)
theorem hasG_yes {κ : Type} [DecidableEq κ] {k : κ} {l : List κ} (h : k ∈ l) : hasG k l = true := decide_eq_true h
theorem hasG_no {κ : Type} [DecidableEq κ] {k : κ} {l : List κ} (h : k ∉ l) : hasG k l = false := decide_eq_false h
/-- a kind of key: by value or by object -/
structure MKind (prog : Program) (w : World) (κ : Type) [DecidableEq κ] where
  is : Heap → κ → Value → Prop
  hash : κ → Int
  draws : κ → Nat
  room : Around → Prop
  inj : ∀ {h : Heap} {v : Value} {x y : κ}, is h x v → is h y v → x = y
  text : ∀ {h : Heap} {v : Value} {x y : κ} {z : Str} {t : Tok}, is h x (.str z t) → is h y v → v.isStr z = decide (x = y)
  hashed : ∀ {A : Around} {E : Value → Shared → Prop} {s : Shared} {k : κ} {v : Value} {Q : Int → Shared → Prop}, room A → is s.heap k v → Q (hash k) { s with toks := s.toks + draws k } → wpAny (model prog w) A (pyHash v) Q E s
  same : ∀ {A : Around} {E : Value → Shared → Prop} {s : Shared} {x y : κ} {u v : Value} {Q : Bool → Shared → Prop}, room A → is s.heap x u → is s.heap y v → Q (decide (x = y)) s → wpAny (model prog w) A (eqBool u v) Q E s
  quiet : ∀ {A : Around} {E : Value → Shared → Prop} {s : Shared} {k : κ} {v : Value} {Q : Bool → Shared → Prop}, is s.heap k v → Q true s → wpAny (model prog w) A (eqIsQuiet 8 v) Q E s
section
variable {prog : Program} {w : World} {κ : Type} [DecidableEq κ] (M : MKind prog w κ)
def row (x : κ × Value × Value) : DictEntry := ⟨M.hash x.1, x.2.1, x.2.2⟩
variable {M} {A : Around} {E : Value → Shared → Prop} {s : Shared}
theorem row_at {es : Array DictEntry} {xs : List (κ × Value × Value)} (he : es.toList = xs.map (row M)) (j : Nat) : es[j]? = (xs[j]?).map (row M) := by
  rw [← Array.getElem?_toList, he, List.getElem?_map]
theorem row_size {es : Array DictEntry} {xs : List (κ × Value × Value)} (he : es.toList = xs.map (row M)) : es.size = xs.length := by
  have := congrArg List.length he
  simpa using this
/-- keys once: the place of a key is one -/
theorem one_place {xs : List (κ × Value × Value)} (nd : (xs.map (·.1)).Nodup) {i j : Nat} {k : κ} {p q : Value × Value} (hi : xs[i]? = some (k, p)) (hj : xs[j]? = some (k, q)) : i = j := by
  have a1 : (xs.map (·.1))[i]? = some k := by rw [List.getElem?_map, hi]; rfl
  have a2 : (xs.map (·.1))[j]? = some k := by rw [List.getElem?_map, hj]; rfl
  obtain ⟨b1, c1⟩ := List.getElem?_eq_some_iff.mp a1
  obtain ⟨b2, c2⟩ := List.getElem?_eq_some_iff.mp a2
  exact (List.getElem_inj nd).mp (c1.trans c2.symm)
theorem still {a : Value} {st : List Value} {Q : Bool → Shared → Prop} {k : κ} (hk : M.is s.heap k a) (hst : ∀ v ∈ st, ∃ k', M.is s.heap k' v) (h : Q false s) : wpAny (model prog w) A (tableMayTell a st) Q E s := by
  unfold tableMayTell
  split
  · exact wpAny_pure h
  · refine wpAny_bind (M.quiet hk ?_)
    simp only [Bool.not_true, Bool.false_eq_true, if_false]
    refine wpAny_bind ?_
    refine wpAny_forIn_list _ (fun left r s' => s' = s ∧ r = (none, ()) ∧ ∀ v ∈ left, ∃ k', M.is s.heap k' v) _ ?_ ?_ _ _ ⟨rfl, rfl, hst⟩
    · rintro v left r s' ⟨rfl, rfl, hl⟩
      obtain ⟨k', hv⟩ := hl v List.mem_cons_self
      refine wpAny_bind (M.quiet hv ?_)
      simp only [Bool.not_true, Bool.false_eq_true, if_false]
      exact wpAny_pure ⟨rfl, rfl, fun u hu => hl u (List.mem_cons_of_mem _ hu)⟩
    · rintro r s' ⟨rfl, rfl, _⟩
      exact wpAny_pure h
/-- the look-up: none where the key stands nowhere, else its place -/
theorem find {d : Addr} {o : Obj} {es : Array DictEntry} {ep : Nat} {xs : List (κ × Value × Value)} {k : κ} {key : Value} {Q : Option Nat → Shared → Prop} (hu : M.room A) (hk : M.is s.heap k key) (ho : s.heap.get? d = some o) (hd : o.data = .dict es ep)
    (he : es.toList = xs.map (row M)) (hx : ∀ x ∈ xs, M.is s.heap x.1 x.2.1) (nd : (xs.map (·.1)).Nodup) (hno : (∀ (j : Nat) (p : Value × Value), xs[j]? ≠ some (k, p)) → Q none s) (hyes : ∀ (j : Nat) (p : Value × Value), xs[j]? = some (k, p) → Q (some j) s) :
    wpAny (model prog w) A (dictFind d key (M.hash k)) Q E s := by
  have sz : es.size = xs.length := row_size he
  have hit : ∀ (j : Nat) (p : Value × Value), xs[j]? = some (k, p) → ((es[j]?.map (·.hash)) == some (M.hash k)) = true := fun j p hj => by
    rw [row_at he j, hj]
    show (some (M.hash k) == some (M.hash k)) = true
    simp
  have mem : ∀ e ∈ es, ∃ x ∈ xs, e = row M x := fun e hin => by
    have q : e ∈ xs.map (row M) := he ▸ Array.mem_toList_iff.mpr hin
    obtain ⟨x, h1, h2⟩ := List.mem_map.mp q
    exact ⟨x, h1, h2.symm⟩
  have hst : ∀ v ∈ (placesWithHash es.size (fun i => es[i]?.map (·.hash)) (M.hash k)).filterMap (fun i => es[i]?.map (·.key)), ∃ k', M.is s.heap k' v := fun v hv => by
    obtain ⟨i, _, hi⟩ := List.mem_filterMap.mp hv
    obtain ⟨e, h1, h2⟩ := Option.map_eq_some_iff.mp hi
    obtain ⟨x, h3, rfl⟩ := mem e (Array.mem_of_getElem? h1)
    subst h2
    exact ⟨x.1, hx x h3⟩
  -- the places that bear the hash, one behind the other
  have turn : ∀ {i j : Nat} {left : List Nat}, (j :: left) = (List.range' i (es.size - i)).filter (fun i => (es[i]?.map (·.hash)) == some (M.hash k)) → i ≤ es.size → (∀ a p, a < i → xs[a]? ≠ some (k, p)) →
      j < es.size ∧ left = (List.range' (j + 1) (es.size - (j + 1))).filter (fun i => (es[i]?.map (·.hash)) == some (M.hash k)) ∧ ∀ a p, a < j → xs[a]? ≠ some (k, p) := fun {i j left} hr hi hn => by
    obtain ⟨q1, q2, q3, q4, q5⟩ := filter_range'_cons _ _ _ _ _ hr.symm
    refine ⟨by omega, by rw [q5]; congr 2; omega, fun a p ha hap => ?_⟩
    rcases Nat.lt_or_ge a i with z | z
    · exact hn a p z hap
    · have := q4 a z ha
      rw [hit a p hap] at this
      cases this
  have last : ∀ {i : Nat}, [] = (List.range' i (es.size - i)).filter (fun i => (es[i]?.map (·.hash)) == some (M.hash k)) → (∀ a p, a < i → xs[a]? ≠ some (k, p)) → ∀ a p, xs[a]? ≠ some (k, p) := fun {i} hr hn a p hap => by
    rcases Nat.lt_or_ge a i with z | z
    · exact hn a p z hap
    · have hl : a < es.size := by rw [sz]; exact (List.getElem?_eq_some_iff.mp hap).1
      have := List.filter_eq_nil_iff.mp hr.symm a (List.mem_range'_1.mpr ⟨z, by omega⟩)
      exact this (hit a p hap)
  have there : ∀ {j : Nat}, j < es.size → ∃ y, xs[j]? = some y ∧ es[j]? = some (row M y) ∧ M.is s.heap y.1 y.2.1 := fun {j} hj => by
    have hj' : j < xs.length := by omega
    exact ⟨xs[j], List.getElem?_eq_getElem hj', by rw [row_at he j, List.getElem?_eq_getElem hj']; rfl, hx _ (List.getElem_mem hj')⟩
  have plain : wpAny (model prog w) A (dictWalkPlain d key (M.hash k) es (placesWithHash es.size (fun i => es[i]?.map (·.hash)) (M.hash k))) Q E s := by
    unfold dictWalkPlain
    refine wpAny_bind ?_
    refine wpAny_forIn_list _ (fun left b s' => s' = s ∧ b = (none, ()) ∧ ∃ i, left = (List.range' i (es.size - i)).filter (fun i => (es[i]?.map (·.hash)) == some (M.hash k)) ∧ i ≤ es.size ∧ ∀ a p, a < i → xs[a]? ≠ some (k, p)) _ ?_ ?_ _ _
      ⟨rfl, rfl, 0, by rw [placesWithHash, List.range_eq_range', Nat.sub_zero], Nat.zero_le _, fun _ _ z => absurd z (Nat.not_lt_zero _)⟩
    · rintro j left b s' ⟨rfl, rfl, i, hr, hi, hn⟩
      obtain ⟨t1, t2, t3⟩ := turn hr hi hn
      obtain ⟨y, y1, y2, y3⟩ := there t1
      have go : ¬ y.1 = k → ∃ i, left = (List.range' i (es.size - i)).filter (fun i => (es[i]?.map (·.hash)) == some (M.hash k)) ∧ i ≤ es.size ∧ ∀ a p, a < i → xs[a]? ≠ some (k, p) := fun ne => by
        refine ⟨j + 1, t2, t1, fun a p ha hap => ?_⟩
        rcases Nat.lt_or_ge a j with z | z
        · exact t3 a p z hap
        · have e : a = j := by omega
          rw [e, y1] at hap
          cases hap
          exact ne rfl
      rw [y2]
      dsimp only [row]
      by_cases hh : (M.hash y.1 == M.hash k) = true
      · rw [if_pos hh]
        refine wpAny_bind (wpAny_dictEpoch ho hd (wpAny_bind (M.same hu y3 hk (wpAny_bind (wpAny_dictEpoch ho hd ?_)))))
        show wpAny _ _ (if (ep != ep) = true then _ else _) _ E _
        rw [if_neg (by simp)]
        by_cases ek : y.1 = k
        · rw [decide_eq_true ek]
          refine wpAny_bind (wpAny_rule (wpAny_pure (wpAny_pure (hyes j y.2 ?_))))
          rw [y1, ← ek]
        · rw [decide_eq_false ek]
          exact wpAny_bind (wpAny_rule (wpAny_pure ⟨rfl, rfl, go ek⟩))
      · rw [if_neg hh]
        refine wpAny_pure ⟨rfl, rfl, go fun z => hh ?_⟩
        rw [z]
        exact beq_self_eq_true _
    · rintro b s' ⟨rfl, rfl, i, hr, hi, hn⟩
      exact wpAny_pure (hno (last hr hn))
  have notold : ∀ a, key = .ref a → ¬ (es.any fun e => e.key == Value.ref a && e.hash != M.hash k) = true := fun a ea => by
    rw [← Array.any_toList, List.any_eq_true]
    rintro ⟨e, hin, hc⟩
    obtain ⟨x, h1, rfl⟩ := mem e (Array.mem_toList_iff.mp hin)
    simp only [row, Bool.and_eq_true, beq_iff_eq, bne_iff_ne, ne_eq] at hc
    have q := hx x h1
    rw [hc.1, ← ea] at q
    exact hc.2 (by rw [M.inj q hk])
  unfold dictFind
  try with_reducible refine wpAny_holding ?_
  refine wpAny_bind (wpAny_dictEntries ho hd ?_)
  dsimp only
  have byText : ∀ (z : Str) (t : Tok), key = .str z t → wpAny (model prog w) A (foundByValue d key es z) Q E s := fun z t ek => by
    unfold foundByValue
    have fe : ∀ (j : Nat) (y : κ × Value × Value), xs[j]? = some y → (row M y).key.isStr z = decide (k = y.1) := fun j y hj => M.text (by rw [← ek]; exact hk) (hx y (List.mem_of_getElem? hj))
    cases hf : es.findIdx? (fun e => e.key.isStr z) with
    | none =>
      refine wpAny_pure (hno fun a p hap => ?_)
      have hl : a < es.size := by rw [sz]; exact (List.getElem?_eq_some_iff.mp hap).1
      have q := Array.findIdx?_eq_none_iff.mp hf es[a] (Array.getElem_mem hl)
      have e1 : es[a] = row M (k, p) := by
        have := row_at he a
        rw [hap, Array.getElem?_eq_getElem hl] at this
        exact Option.some.inj this
      rw [e1, fe a _ hap, decide_eq_true rfl] at q
      cases q
    | some i =>
      obtain ⟨hlt, hi, _⟩ := Array.findIdx?_eq_some_iff_getElem.mp hf
      obtain ⟨y, y1, y2, y3⟩ := there hlt
      have e1 : es[i] = row M y := by
        rw [Array.getElem?_eq_getElem hlt] at y2
        exact Option.some.inj y2
      rw [e1, fe i y y1] at hi
      have ek2 : k = y.1 := of_decide_eq_true hi
      dsimp only
      rw [y2]
      refine wpAny_bind (wpAny_dictEpoch ho hd (wpAny_bind (M.same hu y3 hk (wpAny_bind (wpAny_dictEpoch ho hd ?_)))))
      show wpAny _ _ (if (ep != ep) = true then _ else _) _ E _
      rw [if_neg (by simp), decide_eq_true ek2.symm]
      refine wpAny_bind (wpAny_rule (wpAny_pure (hyes i y.2 ?_)))
      rw [y1, ek2]
  split
  · rename_i z t
    by_cases hs : (es.all fun e => isExactStrKey e.key) = true
    · rw [if_pos hs]
      exact byText z t rfl
    · rw [if_neg hs]
      by_cases hall : ((Value.str z t :: (placesWithHash es.size (fun i => es[i]?.map (·.hash)) (M.hash k)).filterMap (fun i => es[i]?.map (·.key))).all carriedByValue) = true
      · rw [if_pos hall]
        exact plain
      · rw [if_neg hall]
        by_cases hone : (((placesWithHash es.size (fun i => es[i]?.map (·.hash)) (M.hash k)).filterMap (fun i => es[i]?.map (·.key))) == [Value.str z t]) = true
        · rw [if_pos hone]
          refine wpAny_bind (wpAny_pure ?_)
          rw [if_neg (by simp)]
          refine wpAny_bind ?_
          refine wpAny_forIn_list _ (fun left r s' => s' = s ∧ ∃ i hit', r = (none, hit') ∧ left = (List.range' i (es.size - i)).filter (fun i => (es[i]?.map (·.hash)) == some (M.hash k)) ∧ i ≤ es.size ∧
              ((hit' = none ∧ ∀ a p, a < i → xs[a]? ≠ some (k, p)) ∨ ∃ a p, hit' = some a ∧ a < i ∧ xs[a]? = some (k, p))) _ ?_ ?_ _ _ ⟨rfl, 0, none, rfl, by rw [placesWithHash, List.range_eq_range', Nat.sub_zero], Nat.zero_le _, .inl ⟨rfl, fun _ _ z => absurd z (Nat.not_lt_zero _)⟩⟩
          · rintro j left r s' ⟨rfl, i, hit', rfl, hr, hi, hh⟩
            obtain ⟨q1, q2, q3, q4, q5⟩ := filter_range'_cons _ _ _ _ _ hr.symm
            have t1 : j < es.size := by omega
            have t2 : left = (List.range' (j + 1) (es.size - (j + 1))).filter (fun i => (es[i]?.map (·.hash)) == some (M.hash k)) := by rw [q5]; congr 2; omega
            obtain ⟨y, y1, y2, y3⟩ := there t1
            -- up to here
            have now : (hit' = none ∧ ∀ a p, a < j → xs[a]? ≠ some (k, p)) ∨ ∃ a p, hit' = some a ∧ a < j ∧ xs[a]? = some (k, p) := by
              rcases hh with ⟨z, hn⟩ | ⟨a, p, z, z2, z3⟩
              · refine .inl ⟨z, fun a p ha hap => ?_⟩
                rcases Nat.lt_or_ge a i with c | c
                · exact hn a p c hap
                · have := q4 a c ha
                  rw [hit a p hap] at this
                  cases this
              · exact .inr ⟨a, p, z, by omega, z3⟩
            have on : ¬ y.1 = k → (hit' = none ∧ ∀ a p, a < j + 1 → xs[a]? ≠ some (k, p)) ∨ ∃ a p, hit' = some a ∧ a < j + 1 ∧ xs[a]? = some (k, p) := fun ne => by
              rcases now with ⟨z, hn⟩ | ⟨a, p, z, z2, z3⟩
              · refine .inl ⟨z, fun a p ha hap => ?_⟩
                rcases Nat.lt_or_ge a j with c | c
                · exact hn a p c hap
                · have e : a = j := by omega
                  rw [e, y1] at hap
                  cases hap
                  exact ne rfl
              · exact .inr ⟨a, p, z, by omega, z3⟩
            rw [y2]
            dsimp only [row]
            by_cases hq : (M.hash y.1 == M.hash k) = true
            · rw [if_pos hq]
              refine wpAny_bind (wpAny_dictEpoch ho hd (wpAny_bind (M.same hu y3 hk (wpAny_bind (wpAny_dictEpoch ho hd ?_)))))
              show wpAny _ _ (if (ep != ep) = true then _ else _) _ E _
              rw [if_neg (by simp)]
              by_cases ek : y.1 = k
              · have here : xs[j]? = some (k, y.2) := by rw [y1, ← ek]
                rw [decide_eq_true ek, if_pos rfl]
                rcases now with ⟨rfl, _⟩ | ⟨a, p, _, z2, z3⟩
                · rw [if_neg (show ¬ ((none : Option Nat).isSome = true) by simp)]
                  refine wpAny_bind (wpAny_rule ?_)
                  split
                  · exact wpAny_pure (wpAny_pure (hyes j y.2 here))
                  · exact wpAny_pure ⟨rfl, j + 1, some j, rfl, t2, t1, .inr ⟨j, y.2, rfl, Nat.lt_succ_self j, here⟩⟩
                · exact absurd (one_place nd z3 here) (by omega)
              · rw [decide_eq_false ek, if_neg Bool.false_ne_true]
                refine wpAny_bind (wpAny_rule ?_)
                rw [if_neg (by simp)]
                exact wpAny_pure ⟨rfl, j + 1, hit', rfl, t2, t1, on ek⟩
            · rw [if_neg hq]
              refine wpAny_pure ⟨rfl, j + 1, hit', rfl, t2, t1, on fun z => hq ?_⟩
              rw [z]
              exact beq_self_eq_true _
          · rintro r s' ⟨rfl, i, hit', rfl, hr, hi, hh⟩
            rcases hh with ⟨rfl, hn⟩ | ⟨a, p, rfl, _, z3⟩
            · exact wpAny_pure (hno (last hr hn))
            · exact wpAny_pure (hyes a p z3)
        · rw [if_neg hone]
          refine wpAny_bind (still hk hst ?_)
          rw [if_neg (by simp)]
          refine wpAny_bind ?_
          refine wpAny_forIn_list _ (fun left r s' => s' = s ∧ ∃ i hit', r = (none, hit') ∧ left = (List.range' i (es.size - i)).filter (fun i => (es[i]?.map (·.hash)) == some (M.hash k)) ∧ i ≤ es.size ∧
              ((hit' = none ∧ ∀ a p, a < i → xs[a]? ≠ some (k, p)) ∨ ∃ a p, hit' = some a ∧ a < i ∧ xs[a]? = some (k, p))) _ ?_ ?_ _ _ ⟨rfl, 0, none, rfl, by rw [placesWithHash, List.range_eq_range', Nat.sub_zero], Nat.zero_le _, .inl ⟨rfl, fun _ _ z => absurd z (Nat.not_lt_zero _)⟩⟩
          · rintro j left r s' ⟨rfl, i, hit', rfl, hr, hi, hh⟩
            obtain ⟨q1, q2, q3, q4, q5⟩ := filter_range'_cons _ _ _ _ _ hr.symm
            have t1 : j < es.size := by omega
            have t2 : left = (List.range' (j + 1) (es.size - (j + 1))).filter (fun i => (es[i]?.map (·.hash)) == some (M.hash k)) := by rw [q5]; congr 2; omega
            obtain ⟨y, y1, y2, y3⟩ := there t1
            -- up to here
            have now : (hit' = none ∧ ∀ a p, a < j → xs[a]? ≠ some (k, p)) ∨ ∃ a p, hit' = some a ∧ a < j ∧ xs[a]? = some (k, p) := by
              rcases hh with ⟨z, hn⟩ | ⟨a, p, z, z2, z3⟩
              · refine .inl ⟨z, fun a p ha hap => ?_⟩
                rcases Nat.lt_or_ge a i with c | c
                · exact hn a p c hap
                · have := q4 a c ha
                  rw [hit a p hap] at this
                  cases this
              · exact .inr ⟨a, p, z, by omega, z3⟩
            have on : ¬ y.1 = k → (hit' = none ∧ ∀ a p, a < j + 1 → xs[a]? ≠ some (k, p)) ∨ ∃ a p, hit' = some a ∧ a < j + 1 ∧ xs[a]? = some (k, p) := fun ne => by
              rcases now with ⟨z, hn⟩ | ⟨a, p, z, z2, z3⟩
              · refine .inl ⟨z, fun a p ha hap => ?_⟩
                rcases Nat.lt_or_ge a j with c | c
                · exact hn a p c hap
                · have e : a = j := by omega
                  rw [e, y1] at hap
                  cases hap
                  exact ne rfl
              · exact .inr ⟨a, p, z, by omega, z3⟩
            rw [y2]
            dsimp only [row]
            by_cases hq : (M.hash y.1 == M.hash k) = true
            · rw [if_pos hq]
              refine wpAny_bind (wpAny_dictEpoch ho hd (wpAny_bind (M.same hu y3 hk (wpAny_bind (wpAny_dictEpoch ho hd ?_)))))
              show wpAny _ _ (if (ep != ep) = true then _ else _) _ E _
              rw [if_neg (by simp)]
              by_cases ek : y.1 = k
              · have here : xs[j]? = some (k, y.2) := by rw [y1, ← ek]
                rw [decide_eq_true ek, if_pos rfl]
                rcases now with ⟨rfl, _⟩ | ⟨a, p, _, z2, z3⟩
                · rw [if_neg (show ¬ ((none : Option Nat).isSome = true) by simp)]
                  refine wpAny_bind (wpAny_rule ?_)
                  split
                  · exact wpAny_pure (wpAny_pure (hyes j y.2 here))
                  · exact wpAny_pure ⟨rfl, j + 1, some j, rfl, t2, t1, .inr ⟨j, y.2, rfl, Nat.lt_succ_self j, here⟩⟩
                · exact absurd (one_place nd z3 here) (by omega)
              · rw [decide_eq_false ek, if_neg Bool.false_ne_true]
                refine wpAny_bind (wpAny_rule ?_)
                rw [if_neg (by simp)]
                exact wpAny_pure ⟨rfl, j + 1, hit', rfl, t2, t1, on ek⟩
            · rw [if_neg hq]
              refine wpAny_pure ⟨rfl, j + 1, hit', rfl, t2, t1, on fun z => hq ?_⟩
              rw [z]
              exact beq_self_eq_true _
          · rintro r s' ⟨rfl, i, hit', rfl, hr, hi, hh⟩
            rcases hh with ⟨rfl, hn⟩ | ⟨a, p, rfl, _, z3⟩
            · exact wpAny_pure (hno (last hr hn))
            · exact wpAny_pure (hyes a p z3)
  · rename_i nstr
    by_cases hall : ((key :: (placesWithHash es.size (fun i => es[i]?.map (·.hash)) (M.hash k)).filterMap (fun i => es[i]?.map (·.key))).all carriedByValue) = true
    · rw [if_pos hall]
      exact plain
    · rw [if_neg hall]
      split
      · rename_i a
        rw [if_neg (notold a rfl)]
        by_cases hone : (((placesWithHash es.size (fun i => es[i]?.map (·.hash)) (M.hash k)).filterMap (fun i => es[i]?.map (·.key))) == [Value.ref a]) = true
        · rw [if_pos hone]
          refine wpAny_bind (wpAny_pure ?_)
          rw [if_neg (by simp)]
          refine wpAny_bind ?_
          refine wpAny_forIn_list _ (fun left r s' => s' = s ∧ ∃ i hit', r = (none, hit') ∧ left = (List.range' i (es.size - i)).filter (fun i => (es[i]?.map (·.hash)) == some (M.hash k)) ∧ i ≤ es.size ∧
              ((hit' = none ∧ ∀ a p, a < i → xs[a]? ≠ some (k, p)) ∨ ∃ a p, hit' = some a ∧ a < i ∧ xs[a]? = some (k, p))) _ ?_ ?_ _ _ ⟨rfl, 0, none, rfl, by rw [placesWithHash, List.range_eq_range', Nat.sub_zero], Nat.zero_le _, .inl ⟨rfl, fun _ _ z => absurd z (Nat.not_lt_zero _)⟩⟩
          · rintro j left r s' ⟨rfl, i, hit', rfl, hr, hi, hh⟩
            obtain ⟨q1, q2, q3, q4, q5⟩ := filter_range'_cons _ _ _ _ _ hr.symm
            have t1 : j < es.size := by omega
            have t2 : left = (List.range' (j + 1) (es.size - (j + 1))).filter (fun i => (es[i]?.map (·.hash)) == some (M.hash k)) := by rw [q5]; congr 2; omega
            obtain ⟨y, y1, y2, y3⟩ := there t1
            -- up to here
            have now : (hit' = none ∧ ∀ a p, a < j → xs[a]? ≠ some (k, p)) ∨ ∃ a p, hit' = some a ∧ a < j ∧ xs[a]? = some (k, p) := by
              rcases hh with ⟨z, hn⟩ | ⟨a, p, z, z2, z3⟩
              · refine .inl ⟨z, fun a p ha hap => ?_⟩
                rcases Nat.lt_or_ge a i with c | c
                · exact hn a p c hap
                · have := q4 a c ha
                  rw [hit a p hap] at this
                  cases this
              · exact .inr ⟨a, p, z, by omega, z3⟩
            have on : ¬ y.1 = k → (hit' = none ∧ ∀ a p, a < j + 1 → xs[a]? ≠ some (k, p)) ∨ ∃ a p, hit' = some a ∧ a < j + 1 ∧ xs[a]? = some (k, p) := fun ne => by
              rcases now with ⟨z, hn⟩ | ⟨a, p, z, z2, z3⟩
              · refine .inl ⟨z, fun a p ha hap => ?_⟩
                rcases Nat.lt_or_ge a j with c | c
                · exact hn a p c hap
                · have e : a = j := by omega
                  rw [e, y1] at hap
                  cases hap
                  exact ne rfl
              · exact .inr ⟨a, p, z, by omega, z3⟩
            rw [y2]
            dsimp only [row]
            by_cases hq : (M.hash y.1 == M.hash k) = true
            · rw [if_pos hq]
              refine wpAny_bind (wpAny_dictEpoch ho hd (wpAny_bind (M.same hu y3 hk (wpAny_bind (wpAny_dictEpoch ho hd ?_)))))
              show wpAny _ _ (if (ep != ep) = true then _ else _) _ E _
              rw [if_neg (by simp)]
              by_cases ek : y.1 = k
              · have here : xs[j]? = some (k, y.2) := by rw [y1, ← ek]
                rw [decide_eq_true ek, if_pos rfl]
                rcases now with ⟨rfl, _⟩ | ⟨a, p, _, z2, z3⟩
                · rw [if_neg (show ¬ ((none : Option Nat).isSome = true) by simp)]
                  refine wpAny_bind (wpAny_rule ?_)
                  split
                  · exact wpAny_pure (wpAny_pure (hyes j y.2 here))
                  · exact wpAny_pure ⟨rfl, j + 1, some j, rfl, t2, t1, .inr ⟨j, y.2, rfl, Nat.lt_succ_self j, here⟩⟩
                · exact absurd (one_place nd z3 here) (by omega)
              · rw [decide_eq_false ek, if_neg Bool.false_ne_true]
                refine wpAny_bind (wpAny_rule ?_)
                rw [if_neg (by simp)]
                exact wpAny_pure ⟨rfl, j + 1, hit', rfl, t2, t1, on ek⟩
            · rw [if_neg hq]
              refine wpAny_pure ⟨rfl, j + 1, hit', rfl, t2, t1, on fun z => hq ?_⟩
              rw [z]
              exact beq_self_eq_true _
          · rintro r s' ⟨rfl, i, hit', rfl, hr, hi, hh⟩
            rcases hh with ⟨rfl, hn⟩ | ⟨a, p, rfl, _, z3⟩
            · exact wpAny_pure (hno (last hr hn))
            · exact wpAny_pure (hyes a p z3)
        · rw [if_neg hone]
          refine wpAny_bind (still hk hst ?_)
          rw [if_neg (by simp)]
          refine wpAny_bind ?_
          refine wpAny_forIn_list _ (fun left r s' => s' = s ∧ ∃ i hit', r = (none, hit') ∧ left = (List.range' i (es.size - i)).filter (fun i => (es[i]?.map (·.hash)) == some (M.hash k)) ∧ i ≤ es.size ∧
              ((hit' = none ∧ ∀ a p, a < i → xs[a]? ≠ some (k, p)) ∨ ∃ a p, hit' = some a ∧ a < i ∧ xs[a]? = some (k, p))) _ ?_ ?_ _ _ ⟨rfl, 0, none, rfl, by rw [placesWithHash, List.range_eq_range', Nat.sub_zero], Nat.zero_le _, .inl ⟨rfl, fun _ _ z => absurd z (Nat.not_lt_zero _)⟩⟩
          · rintro j left r s' ⟨rfl, i, hit', rfl, hr, hi, hh⟩
            obtain ⟨q1, q2, q3, q4, q5⟩ := filter_range'_cons _ _ _ _ _ hr.symm
            have t1 : j < es.size := by omega
            have t2 : left = (List.range' (j + 1) (es.size - (j + 1))).filter (fun i => (es[i]?.map (·.hash)) == some (M.hash k)) := by rw [q5]; congr 2; omega
            obtain ⟨y, y1, y2, y3⟩ := there t1
            -- up to here
            have now : (hit' = none ∧ ∀ a p, a < j → xs[a]? ≠ some (k, p)) ∨ ∃ a p, hit' = some a ∧ a < j ∧ xs[a]? = some (k, p) := by
              rcases hh with ⟨z, hn⟩ | ⟨a, p, z, z2, z3⟩
              · refine .inl ⟨z, fun a p ha hap => ?_⟩
                rcases Nat.lt_or_ge a i with c | c
                · exact hn a p c hap
                · have := q4 a c ha
                  rw [hit a p hap] at this
                  cases this
              · exact .inr ⟨a, p, z, by omega, z3⟩
            have on : ¬ y.1 = k → (hit' = none ∧ ∀ a p, a < j + 1 → xs[a]? ≠ some (k, p)) ∨ ∃ a p, hit' = some a ∧ a < j + 1 ∧ xs[a]? = some (k, p) := fun ne => by
              rcases now with ⟨z, hn⟩ | ⟨a, p, z, z2, z3⟩
              · refine .inl ⟨z, fun a p ha hap => ?_⟩
                rcases Nat.lt_or_ge a j with c | c
                · exact hn a p c hap
                · have e : a = j := by omega
                  rw [e, y1] at hap
                  cases hap
                  exact ne rfl
              · exact .inr ⟨a, p, z, by omega, z3⟩
            rw [y2]
            dsimp only [row]
            by_cases hq : (M.hash y.1 == M.hash k) = true
            · rw [if_pos hq]
              refine wpAny_bind (wpAny_dictEpoch ho hd (wpAny_bind (M.same hu y3 hk (wpAny_bind (wpAny_dictEpoch ho hd ?_)))))
              show wpAny _ _ (if (ep != ep) = true then _ else _) _ E _
              rw [if_neg (by simp)]
              by_cases ek : y.1 = k
              · have here : xs[j]? = some (k, y.2) := by rw [y1, ← ek]
                rw [decide_eq_true ek, if_pos rfl]
                rcases now with ⟨rfl, _⟩ | ⟨a, p, _, z2, z3⟩
                · rw [if_neg (show ¬ ((none : Option Nat).isSome = true) by simp)]
                  refine wpAny_bind (wpAny_rule ?_)
                  split
                  · exact wpAny_pure (wpAny_pure (hyes j y.2 here))
                  · exact wpAny_pure ⟨rfl, j + 1, some j, rfl, t2, t1, .inr ⟨j, y.2, rfl, Nat.lt_succ_self j, here⟩⟩
                · exact absurd (one_place nd z3 here) (by omega)
              · rw [decide_eq_false ek, if_neg Bool.false_ne_true]
                refine wpAny_bind (wpAny_rule ?_)
                rw [if_neg (by simp)]
                exact wpAny_pure ⟨rfl, j + 1, hit', rfl, t2, t1, on ek⟩
            · rw [if_neg hq]
              refine wpAny_pure ⟨rfl, j + 1, hit', rfl, t2, t1, on fun z => hq ?_⟩
              rw [z]
              exact beq_self_eq_true _
          · rintro r s' ⟨rfl, i, hit', rfl, hr, hi, hh⟩
            rcases hh with ⟨rfl, hn⟩ | ⟨a, p, rfl, _, z3⟩
            · exact wpAny_pure (hno (last hr hn))
            · exact wpAny_pure (hyes a p z3)
      · by_cases hone : (((placesWithHash es.size (fun i => es[i]?.map (·.hash)) (M.hash k)).filterMap (fun i => es[i]?.map (·.key))) == [key]) = true
        · rw [if_pos hone]
          refine wpAny_bind (wpAny_pure ?_)
          rw [if_neg (by simp)]
          refine wpAny_bind ?_
          refine wpAny_forIn_list _ (fun left r s' => s' = s ∧ ∃ i hit', r = (none, hit') ∧ left = (List.range' i (es.size - i)).filter (fun i => (es[i]?.map (·.hash)) == some (M.hash k)) ∧ i ≤ es.size ∧
              ((hit' = none ∧ ∀ a p, a < i → xs[a]? ≠ some (k, p)) ∨ ∃ a p, hit' = some a ∧ a < i ∧ xs[a]? = some (k, p))) _ ?_ ?_ _ _ ⟨rfl, 0, none, rfl, by rw [placesWithHash, List.range_eq_range', Nat.sub_zero], Nat.zero_le _, .inl ⟨rfl, fun _ _ z => absurd z (Nat.not_lt_zero _)⟩⟩
          · rintro j left r s' ⟨rfl, i, hit', rfl, hr, hi, hh⟩
            obtain ⟨q1, q2, q3, q4, q5⟩ := filter_range'_cons _ _ _ _ _ hr.symm
            have t1 : j < es.size := by omega
            have t2 : left = (List.range' (j + 1) (es.size - (j + 1))).filter (fun i => (es[i]?.map (·.hash)) == some (M.hash k)) := by rw [q5]; congr 2; omega
            obtain ⟨y, y1, y2, y3⟩ := there t1
            -- up to here
            have now : (hit' = none ∧ ∀ a p, a < j → xs[a]? ≠ some (k, p)) ∨ ∃ a p, hit' = some a ∧ a < j ∧ xs[a]? = some (k, p) := by
              rcases hh with ⟨z, hn⟩ | ⟨a, p, z, z2, z3⟩
              · refine .inl ⟨z, fun a p ha hap => ?_⟩
                rcases Nat.lt_or_ge a i with c | c
                · exact hn a p c hap
                · have := q4 a c ha
                  rw [hit a p hap] at this
                  cases this
              · exact .inr ⟨a, p, z, by omega, z3⟩
            have on : ¬ y.1 = k → (hit' = none ∧ ∀ a p, a < j + 1 → xs[a]? ≠ some (k, p)) ∨ ∃ a p, hit' = some a ∧ a < j + 1 ∧ xs[a]? = some (k, p) := fun ne => by
              rcases now with ⟨z, hn⟩ | ⟨a, p, z, z2, z3⟩
              · refine .inl ⟨z, fun a p ha hap => ?_⟩
                rcases Nat.lt_or_ge a j with c | c
                · exact hn a p c hap
                · have e : a = j := by omega
                  rw [e, y1] at hap
                  cases hap
                  exact ne rfl
              · exact .inr ⟨a, p, z, by omega, z3⟩
            rw [y2]
            dsimp only [row]
            by_cases hq : (M.hash y.1 == M.hash k) = true
            · rw [if_pos hq]
              refine wpAny_bind (wpAny_dictEpoch ho hd (wpAny_bind (M.same hu y3 hk (wpAny_bind (wpAny_dictEpoch ho hd ?_)))))
              show wpAny _ _ (if (ep != ep) = true then _ else _) _ E _
              rw [if_neg (by simp)]
              by_cases ek : y.1 = k
              · have here : xs[j]? = some (k, y.2) := by rw [y1, ← ek]
                rw [decide_eq_true ek, if_pos rfl]
                rcases now with ⟨rfl, _⟩ | ⟨a, p, _, z2, z3⟩
                · rw [if_neg (show ¬ ((none : Option Nat).isSome = true) by simp)]
                  refine wpAny_bind (wpAny_rule ?_)
                  split
                  · exact wpAny_pure (wpAny_pure (hyes j y.2 here))
                  · exact wpAny_pure ⟨rfl, j + 1, some j, rfl, t2, t1, .inr ⟨j, y.2, rfl, Nat.lt_succ_self j, here⟩⟩
                · exact absurd (one_place nd z3 here) (by omega)
              · rw [decide_eq_false ek, if_neg Bool.false_ne_true]
                refine wpAny_bind (wpAny_rule ?_)
                rw [if_neg (by simp)]
                exact wpAny_pure ⟨rfl, j + 1, hit', rfl, t2, t1, on ek⟩
            · rw [if_neg hq]
              refine wpAny_pure ⟨rfl, j + 1, hit', rfl, t2, t1, on fun z => hq ?_⟩
              rw [z]
              exact beq_self_eq_true _
          · rintro r s' ⟨rfl, i, hit', rfl, hr, hi, hh⟩
            rcases hh with ⟨rfl, hn⟩ | ⟨a, p, rfl, _, z3⟩
            · exact wpAny_pure (hno (last hr hn))
            · exact wpAny_pure (hyes a p z3)
        · rw [if_neg hone]
          refine wpAny_bind (still hk hst ?_)
          rw [if_neg (by simp)]
          refine wpAny_bind ?_
          refine wpAny_forIn_list _ (fun left r s' => s' = s ∧ ∃ i hit', r = (none, hit') ∧ left = (List.range' i (es.size - i)).filter (fun i => (es[i]?.map (·.hash)) == some (M.hash k)) ∧ i ≤ es.size ∧
              ((hit' = none ∧ ∀ a p, a < i → xs[a]? ≠ some (k, p)) ∨ ∃ a p, hit' = some a ∧ a < i ∧ xs[a]? = some (k, p))) _ ?_ ?_ _ _ ⟨rfl, 0, none, rfl, by rw [placesWithHash, List.range_eq_range', Nat.sub_zero], Nat.zero_le _, .inl ⟨rfl, fun _ _ z => absurd z (Nat.not_lt_zero _)⟩⟩
          · rintro j left r s' ⟨rfl, i, hit', rfl, hr, hi, hh⟩
            obtain ⟨q1, q2, q3, q4, q5⟩ := filter_range'_cons _ _ _ _ _ hr.symm
            have t1 : j < es.size := by omega
            have t2 : left = (List.range' (j + 1) (es.size - (j + 1))).filter (fun i => (es[i]?.map (·.hash)) == some (M.hash k)) := by rw [q5]; congr 2; omega
            obtain ⟨y, y1, y2, y3⟩ := there t1
            -- up to here
            have now : (hit' = none ∧ ∀ a p, a < j → xs[a]? ≠ some (k, p)) ∨ ∃ a p, hit' = some a ∧ a < j ∧ xs[a]? = some (k, p) := by
              rcases hh with ⟨z, hn⟩ | ⟨a, p, z, z2, z3⟩
              · refine .inl ⟨z, fun a p ha hap => ?_⟩
                rcases Nat.lt_or_ge a i with c | c
                · exact hn a p c hap
                · have := q4 a c ha
                  rw [hit a p hap] at this
                  cases this
              · exact .inr ⟨a, p, z, by omega, z3⟩
            have on : ¬ y.1 = k → (hit' = none ∧ ∀ a p, a < j + 1 → xs[a]? ≠ some (k, p)) ∨ ∃ a p, hit' = some a ∧ a < j + 1 ∧ xs[a]? = some (k, p) := fun ne => by
              rcases now with ⟨z, hn⟩ | ⟨a, p, z, z2, z3⟩
              · refine .inl ⟨z, fun a p ha hap => ?_⟩
                rcases Nat.lt_or_ge a j with c | c
                · exact hn a p c hap
                · have e : a = j := by omega
                  rw [e, y1] at hap
                  cases hap
                  exact ne rfl
              · exact .inr ⟨a, p, z, by omega, z3⟩
            rw [y2]
            dsimp only [row]
            by_cases hq : (M.hash y.1 == M.hash k) = true
            · rw [if_pos hq]
              refine wpAny_bind (wpAny_dictEpoch ho hd (wpAny_bind (M.same hu y3 hk (wpAny_bind (wpAny_dictEpoch ho hd ?_)))))
              show wpAny _ _ (if (ep != ep) = true then _ else _) _ E _
              rw [if_neg (by simp)]
              by_cases ek : y.1 = k
              · have here : xs[j]? = some (k, y.2) := by rw [y1, ← ek]
                rw [decide_eq_true ek, if_pos rfl]
                rcases now with ⟨rfl, _⟩ | ⟨a, p, _, z2, z3⟩
                · rw [if_neg (show ¬ ((none : Option Nat).isSome = true) by simp)]
                  refine wpAny_bind (wpAny_rule ?_)
                  split
                  · exact wpAny_pure (wpAny_pure (hyes j y.2 here))
                  · exact wpAny_pure ⟨rfl, j + 1, some j, rfl, t2, t1, .inr ⟨j, y.2, rfl, Nat.lt_succ_self j, here⟩⟩
                · exact absurd (one_place nd z3 here) (by omega)
              · rw [decide_eq_false ek, if_neg Bool.false_ne_true]
                refine wpAny_bind (wpAny_rule ?_)
                rw [if_neg (by simp)]
                exact wpAny_pure ⟨rfl, j + 1, hit', rfl, t2, t1, on ek⟩
            · rw [if_neg hq]
              refine wpAny_pure ⟨rfl, j + 1, hit', rfl, t2, t1, on fun z => hq ?_⟩
              rw [z]
              exact beq_self_eq_true _
          · rintro r s' ⟨rfl, i, hit', rfl, hr, hi, hh⟩
            rcases hh with ⟨rfl, hn⟩ | ⟨a, p, rfl, _, z3⟩
            · exact wpAny_pure (hno (last hr hn))
            · exact wpAny_pure (hyes a p z3)

/-- at d stands a dict of these rows -/
def Rows (M : MKind prog w κ) (h : Heap) (d : Addr) (xs : List (κ × Value × Value)) : Prop :=
  ∃ o es ep, h.get? d = some o ∧ o.ExactDict ∧ o.data = .dict es ep ∧ es.toList = xs.map (row M) ∧ (xs.map (·.1)).Nodup
theorem Rows.ty {d : Addr} {xs : List (κ × Value × Value)} (R : Rows M s.heap d xs) : s.TypeIs (.ref d) "dict" := let ⟨o, _, _, ho, hc, _⟩ := R; ⟨o, ho, hc.1⟩
variable {d : Addr} {xs : List (κ × Value × Value)} {k : κ} {key v : Value}
theorem get {Q : Option Value → Shared → Prop} (hu : M.room A) (hk : M.is s.heap k key) (R : Rows M s.heap d xs) (hx : ∀ x ∈ xs, M.is s.heap x.1 x.2.1)
    (hno : (∀ (j : Nat) (p : Value × Value), xs[j]? ≠ some (k, p)) → Q none { s with toks := s.toks + M.draws k }) (hyes : ∀ (j : Nat) (p : Value × Value), xs[j]? = some (k, p) → Q (some p.2) { s with toks := s.toks + M.draws k }) :
    wpAny (model prog w) A (dictGet d key) Q E s := by
  obtain ⟨o, es, ep, ho, _, hd, he, nd⟩ := R
  unfold dictGet
  try with_reducible refine wpAny_holding ?_
  refine wpAny_bind (M.hashed hu hk (wpAny_bind (find (s := { s with toks := s.toks + M.draws k }) hu hk ho hd he hx nd (fun z => wpAny_pure (hno z)) fun j p hj => ?_)))
  refine wpAny_bind (wpAny_dictEntries (s := { s with toks := s.toks + M.draws k }) ho hd ?_)
  rw [row_at he j, hj]
  exact wpAny_pure (hyes j p hj)
theorem put {Q : Unit → Shared → Prop} (hu : M.room A) (hk : M.is s.heap k key) (R : Rows M s.heap d xs) (hx : ∀ x ∈ xs, M.is s.heap x.1 x.2.1) (hz : xs.length ≤ sizeLine) (new : k ∉ xs.map (·.1))
    (hQ : ∀ h', Rows M h' d (xs ++ [(k, key, v)]) → Heap.SameBut d s.heap h' → Q () { s with heap := h', toks := s.toks + M.draws k }) : wpAny (model prog w) A (dictSet d key v) Q E s := by
  obtain ⟨o, es, ep, ho, hc, hd, he, nd⟩ := R
  unfold dictSet
  try with_reducible refine wpAny_holding ?_
  refine wpAny_bind (M.hashed hu hk ?_)
  unfold dictSetHashed
  try with_reducible refine wpAny_holding ?_
  refine wpAny_bind (find (s := { s with toks := s.toks + M.draws k }) hu hk ho hd he hx nd (fun _ => ?_) fun j p hj => ?_)
  · have z : es.size ≤ sizeLine := by rw [row_size he]; exact hz
    refine wpAny_bind (wpAny_rule (wpAny_updateDictKeys (hz := z) (s := { s with toks := s.toks + M.draws k }) ho hd (hQ _ ⟨_, _, ep + 1, Heap.get?_update_self _ ho (Obj.isFreed_of_dict (Obj.data_mapDictKeys hd _)), hc.mapDictKeys _, Obj.data_mapDictKeys hd _, ?_, ?_⟩ (Heap.SameBut.update ..))))
    · rw [Array.toList_push, he, List.map_append]
      rfl
    · rw [List.map_append, List.nodup_append]
      refine ⟨nd, by simp, fun a ha b hb => ?_⟩
      have e : b = k := by simpa using hb
      rw [e]
      exact fun z => new (z ▸ ha)
  · exact absurd (List.mem_map.mpr ⟨(k, p), List.mem_of_getElem? hj, rfl⟩) new
/-- k in d, k not in d -/
theorem contains_at {Q : Bool → Shared → Prop} (hu : M.room A.in1) (hk : M.is s.heap k key) (lo : (d == sysModules) = false) (R : Rows M s.heap d xs) (hx : ∀ x ∈ xs, M.is s.heap x.1 x.2.1) (h : Q (hasG k (xs.map (·.1))) { s with toks := s.toks + M.draws k }) :
    wpAny (model prog w) A (contains (.ref d) key) Q E s := by
  unfold contains
  try with_reducible refine wpAny_holding ?_
  refine wpAny_bind (wpAny_specialOf R.ty slot_dict_contains.lookup ?_)
  show wpAny _ _ (if (some (Value.builtin "dict.__contains__") == some Value.none) = true then _ else _) _ E s
  rw [if_neg (by rw [beq_builtin_none]; exact Bool.false_ne_true)]
  refine wpAny_bind (wpAny_callSpecialUnlessNone?_slot (name := Str.ofString "__contains__") R.ty slot_dict_contains (wpAny_call_entry slot_dict_contains R.ty entry_dict_contains ?_ (args_dict_contains _ _)))
  show wpAny _ _ (dictGet d key >>= _) _ _ s
  refine wpAny_bind (get hu hk R hx (fun hn => ?_) fun j p hj => ?_)
  · have e : k ∉ xs.map (·.1) := fun m => by
      obtain ⟨x, h1, h2⟩ := List.mem_map.mp m
      obtain ⟨j, hj⟩ := List.mem_iff_getElem?.mp h1
      exact hn j x.2 (by rw [hj, ← h2])
    rw [hasG_no e] at h
    show wpAny _ _ (Builtin.Dict.pendingKey? d key >>= _) _ _ _
    exact wpAny_bind (wpAny_pendingKey_other lo (wpAny_pure ⟨_, rfl, wpAny_truthy_bool h⟩))
  · have yes : k ∈ xs.map (·.1) := List.mem_map.mpr ⟨(k, p), List.mem_of_getElem? hj, rfl⟩
    rw [hasG_yes yes] at h
    show wpAny _ _ (ret (.bool true)) _ _ _
    exact wpAny_pure ⟨_, rfl, wpAny_truthy_bool h⟩
theorem op_in {Q : Value → Shared → Prop} (hu : M.room A.in1) (hk : M.is s.heap k key) (lo : (d == sysModules) = false) (R : Rows M s.heap d xs) (hx : ∀ x ∈ xs, M.is s.heap x.1 x.2.1) (h : Q (.bool (hasG k (xs.map (·.1)))) { s with toks := s.toks + M.draws k }) :
    wpAny (model prog w) A (compareOp .In key (.ref d)) Q E s := by
  show wpAny _ _ (do return .bool (← contains (.ref d) key)) Q E s
  exact wpAny_bind (contains_at hu hk lo R hx (wpAny_pure h))
theorem op_notin {Q : Value → Shared → Prop} (hu : M.room A.in1) (hk : M.is s.heap k key) (lo : (d == sysModules) = false) (R : Rows M s.heap d xs) (hx : ∀ x ∈ xs, M.is s.heap x.1 x.2.1) (h : Q (.bool (!hasG k (xs.map (·.1)))) { s with toks := s.toks + M.draws k }) :
    wpAny (model prog w) A (compareOp .NotIn key (.ref d)) Q E s := by
  show wpAny _ _ (do return .bool (!(← contains (.ref d) key))) Q E s
  exact wpAny_bind (contains_at hu hk lo R hx (wpAny_pure h))
theorem item {Q : Value → Shared → Prop} {j : Nat} {p : Value × Value} (hu : M.room A.in1) (hk : M.is s.heap k key) (R : Rows M s.heap d xs) (hx : ∀ x ∈ xs, M.is s.heap x.1 x.2.1) (hp : xs[j]? = some (k, p)) (h : Q p.2 { s with toks := s.toks + M.draws k }) :
    wpAny (model prog w) A (getItem (.ref d) key) Q E s := by
  have nd : (xs.map (·.1)).Nodup := let ⟨_, _, _, _, _, _, _, nd⟩ := R; nd
  unfold getItem
  try with_reducible refine wpAny_holding ?_
  refine wpAny_bind (wpAny_sequenceKey R.ty (by decide) ?_)
  refine wpAny_bind (wpAny_callSpecial?_slot (name := Str.ofString "__getitem__") R.ty slot_dict_getitem (wpAny_call_entry slot_dict_getitem R.ty entry_dict_getitem ?_ (args_dict_getitem _ _)))
  show wpAny _ _ (dictGet d key >>= _) _ _ s
  refine wpAny_bind (get hu hk R hx (fun hn => absurd hp (hn j p)) fun i q hq => ?_)
  have e := one_place nd hq hp
  subst e
  rw [hp] at hq
  cases hq
  exact wpAny_pure ⟨p.2, rfl, wpAny_pure h⟩
theorem store {Q : Unit → Shared → Prop} (hu : M.room A.in1) (hk : M.is s.heap k key) (R : Rows M s.heap d xs) (hx : ∀ x ∈ xs, M.is s.heap x.1 x.2.1) (hz : xs.length ≤ sizeLine) (new : k ∉ xs.map (·.1))
    (hQ : ∀ h', Rows M h' d (xs ++ [(k, key, v)]) → Heap.SameBut d s.heap h' → Q () { s with heap := h', toks := s.toks + M.draws k }) : wpAny (model prog w) A (setItem (.ref d) key v) Q E s := by
  unfold setItem
  try with_reducible refine wpAny_holding ?_
  refine wpAny_bind (wpAny_sequenceKey R.ty (by decide) ?_)
  refine wpAny_bind (wpAny_callSpecial?_slot (name := Str.ofString "__setitem__") R.ty slot_dict_setitem (wpAny_call_entry slot_dict_setitem R.ty entry_dict_setitem ?_ (args_dict_setitem _ _ _)))
  show wpAny _ _ (Builtin.Dict.notOrdered "__setitem__" ⟨[.ref d, key, v], []⟩ >>= _) _ _ s
  refine wpAny_bind (wpAny_notOrdered_dict R.ty ?_)
  show wpAny _ _ (dictSet d key v >>= _) _ _ s
  exact wpAny_bind (put hu hk R hx hz new fun h' R' hs => wpAny_pure ⟨.none, rfl, wpAny_pure (hQ h' R' hs)⟩)
end
/-! ## texts and tuples of ints -/
inductive MK where
  | row (x : Str)
  | tup (ks : List Int)
  deriving DecidableEq
def mixIs (prog : Program) (w : World) (h : Heap) : MK → Value → Prop
  | .row x, v => ∃ t, v = .str x t
  | .tup ks, v => ∃ a, v = .ref a ∧ IsTupleKey (intKind prog w) h ks a
theorem tup_of {prog : Program} {w : World} {h : Heap} {ks : List Int} {a : Addr} (x : IsTupleKey (intKind prog w) h ks a) : ∃ its, h.IsTuple a its := by
  obtain ⟨o, items, n, ho, hc, hd, _⟩ := x
  exact ⟨items, o, ho, hc, n, hd⟩
def mixK (prog : Program) (w : World) : MKind prog w MK where
  is := mixIs prog w
  hash := fun k => match k with
    | .row x => hashStr w x
    | .tup ks => tupleKeyHash (intKind prog w) ks
  draws := fun k => match k with
    | .row _ => 1
    | .tup ks => ks.length + 1
  room := fun A => A.units < cLine
  inj := fun {h v x y} hx hy => by
    cases x with
    | row x =>
      cases y with
      | row y =>
        obtain ⟨t, rfl⟩ := hx
        obtain ⟨u, e⟩ := hy
        injection e with e1 _
        rw [e1]
      | tup y =>
        obtain ⟨t, rfl⟩ := hx
        obtain ⟨u, e, _⟩ := hy
        exact nomatch e
    | tup x =>
      cases y with
      | row y =>
        obtain ⟨u, rfl, _⟩ := hx
        obtain ⟨t, e⟩ := hy
        exact nomatch e
      | tup y =>
        obtain ⟨a, rfl, h1⟩ := hx
        obtain ⟨b, e, h2⟩ := hy
        cases e
        rw [h1.inj h2]
  text := fun {h v x y z t} hx hy => by
    cases x with
    | tup x =>
      obtain ⟨a, e, _⟩ := hx
      exact nomatch e
    | row x =>
      obtain ⟨t', e⟩ := hx
      injection e with e1 _
      subst e1
      cases y with
      | row y =>
        obtain ⟨u, rfl⟩ := hy
        by_cases q : z = y
        · subst q; simp [Value.isStr]
        · have q2 : ¬ MK.row z = MK.row y := fun e => q (MK.row.inj e)
          rw [decide_eq_false q2]
          simp [Value.isStr, Ne.symm q]
      | tup y =>
        obtain ⟨a, rfl, _⟩ := hy
        rfl
  hashed := fun {A E s k v Q} hu hk h => by
    cases k with
    | row x =>
      obtain ⟨t, rfl⟩ := hk
      exact wpAny_pyHash_str h
    | tup ks =>
      obtain ⟨a, rfl, hk⟩ := hk
      exact wpAny_pyHash_tuple hu hk h
  same := fun {A E s x y u v Q} hu hx hy h => by
    cases x with
    | row x =>
      obtain ⟨t, rfl⟩ := hx
      cases y with
      | row y =>
        obtain ⟨t', rfl⟩ := hy
        refine wpAny_eqBool_str ?_
        have e : decide (MK.row x = MK.row y) = decide (x = y) := by rw [decide_eq_decide]; exact ⟨MK.row.inj, fun e => by rw [e]⟩
        rw [← e]
        exact h
      | tup y =>
        obtain ⟨a, rfl, hk⟩ := hy
        obtain ⟨its, ht⟩ := tup_of hk
        exact SeqAt.EqAt.str_tuple x t ht hu prog w E Q h
    | tup x =>
      obtain ⟨a, rfl, hk⟩ := hx
      cases y with
      | row y =>
        obtain ⟨t', rfl⟩ := hy
        obtain ⟨its, ht⟩ := tup_of hk
        exact SeqAt.EqAt.tuple_str y t' ht hu prog w E Q h
      | tup y =>
        obtain ⟨b, rfl, hk2⟩ := hy
        refine wpAny_eqBool_tuple hu hk hk2 ?_
        have e : decide (MK.tup x = MK.tup y) = decide (x = y) := by rw [decide_eq_decide]; exact ⟨MK.tup.inj, fun e => by rw [e]⟩
        rw [← e]
        exact h
  quiet := fun {A E s k v Q} hk h => by
    cases k with
    | row x =>
      obtain ⟨t, rfl⟩ := hk
      rw [eqIsQuiet_byValue 8 rfl]
      exact wpAny_pure h
    | tup ks =>
      obtain ⟨a, rfl, hk⟩ := hk
      exact wpAny_eqIsQuiet_tuple hk h
end Mix
namespace Ts
open PySem PySem.Spec PyProof.Rows L2 Mix
abbrev Ks := List (MK × V × V)
/-- the dict at d: keys, their values as handed in, what they hold -/
def MDφ (P : Program) (w : World) (d : Addr) (ks : Ks) (h : Heap) : Prop := (d == sysModules) = false ∧ ks.length ≤ sizeLine ∧
  ∃ xs : List (MK × Value × Value), Paired (fun (p : MK × V × V) (q : MK × Value × Value) => p.1 = q.1 ∧ RelV p.2.1 q.2.1 ∧ RelV p.2.2 q.2.2) ks xs ∧ Rows (mixK P w) h d xs
def MD (P : Program) (w : World) (d : Addr) (ks : Ks) : HO := .ext (MDφ P w d ks)
theorem md_stay {P : Program} {w : World} {d : Addr} {ks : Ks} (h1 h2 : Heap) (p : MDφ P w d ks h1) (k : ∀ o, h1.get? d = some o → h2.get? d = some o) : MDφ P w d ks h2 := by
  obtain ⟨a, b, xs, r, o, es, ep, ho, q⟩ := p
  exact ⟨a, b, xs, r, o, es, ep, k o ho, q⟩
theorem md_ok {P : Program} {w : World} {H : Hp} {h : Heap} {d : Addr} {ks : Ks} (p : MDφ P w d ks h) : ObjOk P w H h d (MD P w d ks) := by
  obtain ⟨a, b, xs, r, o, es, ep, ho, q⟩ := id p
  exact ⟨p, ⟨o, ho⟩, md_stay⟩
/-- a dict's keys -/
def kk (ks : Ks) : List MK := ks.map fun p => p.1
/-- what a key's value is -/
def KeyV (H : Hp) : MK → V → Prop
  | .row x, y => y = .str x
  | .tup is, y => ∃ a, y = .ref a ∧ H a = some (.tup (is.map V.int))
def KeysV (H : Hp) (ks : Ks) : Prop := ∀ p ∈ ks, KeyV H p.1 p.2.1
theorem keyV_ex {H H' : Hp} (e : Ex H H') {k : MK} {y : V} (h : KeyV H k y) : KeyV H' k y := by
  cases k with
  | row x => exact h
  | tup is =>
    obtain ⟨a, h1, h2⟩ := h
    exact ⟨a, h1, e _ _ h2⟩
theorem items_ints {P : Program} {w : World} : ∀ {is : List Int} {its : List Value}, Vals (is.map V.int) its → ItemsAre (intKind P w) is its
  | [], _, .nil => .nil
  | i :: is, _, .cons ⟨t, e⟩ r => by
    subst e
    exact .cons (by show Value.isInt i (.int i t) = true; simp [Value.isInt]) (items_ints r)
theorem key_is {P : Program} {w : World} {H : Hp} {h : Heap} (ok : HOk P w H h) {k : MK} {y : V} {u : Value} (kv : KeyV H k y) (r : RelV y u) : mixIs P w h k u := by
  cases k with
  | row x =>
    cases (show y = .str x from kv)
    exact r
  | tup is =>
    obtain ⟨a, rfl, h2⟩ := kv
    cases (show u = .ref a from r)
    obtain ⟨_, its, rv, o, h3, h4, n, h5⟩ := (show ObjOk P w H h a (.tup (is.map V.int)) from ok a _ h2)
    exact ⟨a, rfl, o, its.toArray, n, h3, h4, h5, by simpa using items_ints rv⟩
section
variable {X : Cx} {o i value : Expr} {pos pos' : Pos} {td ty tv : TE} {pins : List (Addr × Obj)} {σ : L2.St} {H : Hp} {s : Shared}
theorem Inv.md {d : Addr} {ks : Ks} (I : Inv X pins σ H s) (h : H d = some (MD X.prog X.w d ks)) (kv : KeysV H ks) :
    (d == sysModules) = false ∧ ks.length ≤ sizeLine ∧ ∃ xs : List (MK × Value × Value), Paired (fun (p : MK × V × V) (q : MK × Value × Value) => p.1 = q.1 ∧ RelV p.2.1 q.2.1 ∧ RelV p.2.2 q.2.2) ks xs ∧ Rows (mixK X.prog X.w) s.heap d xs ∧ ∀ x ∈ xs, (mixK X.prog X.w).is s.heap x.1 x.2.1 := by
  obtain ⟨⟨a, b, xs, r, R⟩, _⟩ := (show ObjOk X.prog X.w H s.heap d (MD X.prog X.w d ks) from I.hok d _ h)
  refine ⟨a, b, xs, r, R, ?_⟩
  have all : ∀ {l : Ks} {m : List (MK × Value × Value)}, Paired (fun (p : MK × V × V) (q : MK × Value × Value) => p.1 = q.1 ∧ RelV p.2.1 q.2.1 ∧ RelV p.2.2 q.2.2) l m → (∀ p ∈ l, KeyV H p.1 p.2.1) → ∀ x ∈ m, (mixK X.prog X.w).is s.heap x.1 x.2.1 := by
    intro l m q
    induction q with
    | nil => intro _ x hx; exact nomatch hx
    | @cons p q ps qs hq t ih =>
      intro hk x hx
      rcases List.mem_cons.mp hx with e | hx
      · subst e
        have z := key_is I.hok (hk p List.mem_cons_self) hq.2.1
        rw [hq.1] at z
        exact z
      · exact ih (fun p hp => hk p (List.mem_cons_of_mem _ hp)) x hx
  exact all r kv
theorem pairs_keys {l : Ks} {m : List (MK × Value × Value)} (q : Paired (fun (p : MK × V × V) (q : MK × Value × Value) => p.1 = q.1 ∧ RelV p.2.1 q.2.1 ∧ RelV p.2.2 q.2.2) l m) : kk l = m.map (·.1) := by
  induction q with
  | nil => rfl
  | @cons a b as bs hq _ ih =>
    show a.1 :: kk as = b.1 :: bs.map (·.1)
    rw [hq.1, ih]
theorem pairs_get {l : Ks} {m : List (MK × Value × Value)} (q : Paired (fun (p : MK × V × V) (q : MK × Value × Value) => p.1 = q.1 ∧ RelV p.2.1 q.2.1 ∧ RelV p.2.2 q.2.2) l m) : ∀ {j : Nat} {p : MK × V × V}, l[j]? = some p → ∃ r, m[j]? = some r ∧ p.1 = r.1 ∧ RelV p.2.1 r.2.1 ∧ RelV p.2.2 r.2.2 := by
  induction q with
  | nil => intro j p h; simp at h
  | cons hq _ ih =>
    intro j p h
    cases j with
    | zero =>
      simp at h
      subst h
      exact ⟨_, rfl, hq⟩
    | succ j => exact ih (by simpa using h)

/-! the readings; md stands for the dict's description -/
abbrev Mdf := Addr → Ks → HO
def tMNew (md : Mdf) : TE := fun _ H Q => ∀ d, H d = none → Q (.ref d) (upd H d (md d []))
def tMIn (md : Mdf) (ty td : TE) : TE := fun σ H Q => ty σ H fun y H1 => td σ H1 fun x H2 => ∃ (d : Addr) (ks : Ks) (k : MK), x = .ref d ∧ H2 d = some (md d ks) ∧ KeyV H2 k y ∧ KeysV H2 ks ∧ Q (.bl (hasG k (kk ks))) H2
def tMNotIn (md : Mdf) (ty td : TE) : TE := fun σ H Q => ty σ H fun y H1 => td σ H1 fun x H2 => ∃ (d : Addr) (ks : Ks) (k : MK), x = .ref d ∧ H2 d = some (md d ks) ∧ KeyV H2 k y ∧ KeysV H2 ks ∧ Q (.bl (!hasG k (kk ks))) H2
def tMGet (md : Mdf) (td ty : TE) : TE := fun σ H Q => td σ H fun x H1 => ty σ H1 fun y H2 => ∃ (d : Addr) (ks : Ks) (k : MK) (j : Nat) (p : V × V), x = .ref d ∧ H2 d = some (md d ks) ∧ KeyV H2 k y ∧ KeysV H2 ks ∧ ks[j]? = some (k, p) ∧ Q p.2 H2
def sMPut (md : Mdf) (td ty tv : TE) : TS := fun D σ H => tv σ H fun v H1 => td σ H1 fun x H2 => ty σ H2 fun y H3 => ∃ (d : Addr) (ks : Ks) (k : MK), x = .ref d ∧ H3 d = some (md d ks) ∧ KeyV H3 k y ∧ KeysV H3 ks ∧ k ∉ kk ks ∧ ks.length < sizeLine ∧
  D.nx σ (upd H3 d (md d (ks ++ [(k, y, v)])))
variable {md : Mdf}
theorem pe_mnew (hm : md = MD X.prog X.w) : PE X (.Dict [] [] pos) (tMNew md) := ⟨fun pins s σ H Q I h => by
  subst hm
  have hb := I.big
  have ok : MDφ X.prog X.w s.heap.objs.size [] (s.heap.push { cls := .type "dict", data := .dict #[] }) :=
    ⟨beq_eq_false_iff_ne.mpr (Ne.symm (Nat.ne_of_lt hb)), Nat.zero_le _, [], .nil, _, #[], 0, Heap.get?_push_size _ rfl, ⟨rfl, rfl, rfl⟩, rfl, rfl, List.nodup_nil⟩
  exact wpAny_Dict_empty ⟨.ref s.heap.objs.size, _, I.laid (a := s.heap.objs.size) (o := MD X.prog X.w s.heap.objs.size []) (t' := s.toks) (fun _ _ q => Heap.get?_push_of_some _ q) (Nat.le_refl _) (md_ok ok), rfl, h _ (I.hok.fresh (Nat.le_refl _))⟩⟩
theorem room_of {A : Around} (hu : A.units + 1 < cLine) : A.in1.units < cLine := hu
theorem pc_min (hm : md = MD X.prog X.w) (hu : X.A.units + 1 < cLine) (hi : PE X i ty) (ho : PE X o td) : PC X .In i o (tMIn md ty td) := by
  subst hm
  refine ⟨fun pins s σ H Q I h => ?_⟩
  refine thn (hi.run pins s σ H _ I h) fun iv s1 ⟨y, H1, I1, ry, q1⟩ => thn (ho.run pins s1 σ H1 _ I1 q1) fun u s2 ⟨x, H2, I2, rx, d, ks, k, ex, hd, kv, kvs, q2⟩ => ?_
  subst ex
  obtain rfl : u = Value.ref d := rx
  obtain ⟨lo, _, xs, r, R, hx⟩ := Inv.md I2 hd kvs
  refine Mix.op_in (room_of hu) (key_is I2.hok kv ry) lo R hx ⟨.bl _, H2, I2.tok _, rfl, ?_⟩
  rw [← pairs_keys r]
  exact q2
theorem pc_mnotin (hm : md = MD X.prog X.w) (hu : X.A.units + 1 < cLine) (hi : PE X i ty) (ho : PE X o td) : PC X .NotIn i o (tMNotIn md ty td) := by
  subst hm
  refine ⟨fun pins s σ H Q I h => ?_⟩
  refine thn (hi.run pins s σ H _ I h) fun iv s1 ⟨y, H1, I1, ry, q1⟩ => thn (ho.run pins s1 σ H1 _ I1 q1) fun u s2 ⟨x, H2, I2, rx, d, ks, k, ex, hd, kv, kvs, q2⟩ => ?_
  subst ex
  obtain rfl : u = Value.ref d := rx
  obtain ⟨lo, _, xs, r, R, hx⟩ := Inv.md I2 hd kvs
  refine Mix.op_notin (room_of hu) (key_is I2.hok kv ry) lo R hx ⟨.bl _, H2, I2.tok _, rfl, ?_⟩
  rw [← pairs_keys r]
  exact q2
theorem pe_mget (hm : md = MD X.prog X.w) (hu : X.A.units + 1 < cLine) (ho : PE X o td) (hi : PE X i ty) (hs : NoSl i) : PE X (.Subscript o i pos) (tMGet md td ty) := by
  subst hm
  refine ⟨fun pins s σ H Q I h => ?_⟩
  refine subD_of PySem.F.slot_dict_getitem.lookup hs (thn (ho.run pins s σ H _ I h) fun u s1 ⟨x, H1, I1, rx, q1⟩ => thn (hi.run pins s1 σ H1 _ I1 q1) fun iv s2 ⟨y, H2, I2, ry, d, ks, k, j, p, ex, hd, kv, kvs, hp, q2⟩ => ?_)
  subst ex
  obtain rfl : u = Value.ref d := rx
  obtain ⟨lo, _, xs, r, R, hx⟩ := Inv.md I2 hd kvs
  obtain ⟨⟨k', q⟩, h1, h2, _, h4⟩ := pairs_get r hp
  cases (show k = k' from h2)
  exact ⟨R.ty, Mix.item (room_of hu) (key_is I2.hok kv ry) R hx h1 ⟨p.2, H2, I2.tok _, h4, q2⟩⟩
theorem ps_mput (hm : md = MD X.prog X.w) (hu : X.A.units + 1 < cLine) (ho : PE X o td) (hi : PE X i ty) (hv : PE X value tv) (hs : swapsWith value (some (.Subscript o i pos')) pos.line X.env = pure false) :
    PS X (.Assign [.Subscript o i pos'] value pos) (sMPut md td ty tv) := by
  subst hm
  refine ⟨fun pins s σ H D I h => ?_⟩
  refine wpAny_Assign_Subscript (thn (hv.run pins s σ H _ I h) fun r s1 ⟨v, H1, I1, rv, q1⟩ => thn (ho.run pins s1 σ H1 _ I1 q1) fun u s2 ⟨x, H2, I2, rx, q2⟩ => thn (hi.run pins s2 σ H2 _ I2 q2) fun iv s3 ⟨y, H3, I3, ry, d, ks, k, ex, hd, kv, kvs, new, hl, q3⟩ => ?_) hs
  subst ex
  obtain rfl : u = Value.ref d := rx
  obtain ⟨lo, hz, xs, pr, R, hx⟩ := Inv.md I3 hd kvs
  have hxl : xs.length = ks.length := by
    have := congrArg List.length (pairs_keys pr)
    simpa [kk] using this.symm
  refine Mix.store (room_of hu) (key_is I3.hok kv ry) R hx (by omega) (by rw [← pairs_keys pr]; exact new) fun h' R' hs' => ?_
  have ok : MDφ X.prog X.w d (ks ++ [(k, y, v)]) h' := ⟨lo, by rw [List.length_append]; exact hl, _, Paired.snoc pr ⟨rfl, ry, rv⟩, R'⟩
  have he : ∃ q, h'.get? d = some q := let ⟨q, _, _, hq, _⟩ := R'; ⟨q, hq⟩
  exact ⟨σ, _, d_write I3 (by rw [hd]; exact True.intro) hs' he (md_ok ok), q3⟩
theorem w_mnew {Q : VK} (q : ∀ d, H d = none → Q (.ref d) (upd H d (md d []))) : tMNew md σ H Q := q
theorem w_mnotin {Q : VK} (q : ty σ H fun y H1 => td σ H1 fun x H2 => ∃ (d : Addr) (ks : Ks) (k : MK), x = .ref d ∧ H2 d = some (md d ks) ∧ KeyV H2 k y ∧ KeysV H2 ks ∧ Q (.bl (!hasG k (kk ks))) H2) : tMNotIn md ty td σ H Q := q
theorem w_mget {Q : VK} (q : td σ H fun x H1 => ty σ H1 fun y H2 => ∃ (d : Addr) (ks : Ks) (k : MK) (j : Nat) (p : V × V), x = .ref d ∧ H2 d = some (md d ks) ∧ KeyV H2 k y ∧ KeysV H2 ks ∧ ks[j]? = some (k, p) ∧ Q p.2 H2) : tMGet md td ty σ H Q := q
theorem w_mput {nx bk ct : L2.St → Hp → Prop} {rt : VK} (q : tv σ H fun v H1 => td σ H1 fun x H2 => ty σ H2 fun y H3 => ∃ (d : Addr) (ks : Ks) (k : MK), x = .ref d ∧ H3 d = some (md d ks) ∧ KeyV H3 k y ∧ KeysV H3 ks ∧ k ∉ kk ks ∧ ks.length < sizeLine ∧ nx σ (upd H3 d (md d (ks ++ [(k, y, v)])))) : sMPut md td ty tv ⟨nx, rt, bk, ct⟩ σ H := q
end
end Ts
namespace Ts
open PySem L2 Mix
/-- where the program's classes stand, and what stands for a dict's description -/
structure Cs where
  Ledger : Addr
  Book : Addr
  Looker : Addr
  TwinError : Addr
  NoRow : Addr
  NoSum : Addr
  NoPlace : Addr
  NoBlock : Addr
  Full : Addr
  Strange : Addr
  md : Mdf
def Cs.none : Cs := ⟨0, 0, 0, 0, 0, 0, 0, 0, 0, 0, fun _ _ => .lst []⟩
/-- what is a whole number: an int that is no truth; of the kinds that are asked -/
def isWholeV (K : PySem.W.Frag) (H : Hp) (v : V) (b : Bool) : Prop :=
  (∃ i, v = .int i ∧ b = true) ∨ (∃ x, v = .bl x ∧ b = false) ∨ (∃ x, v = .str x ∧ b = false) ∨ (v = .non ∧ b = false) ∨ (∃ a xs, v = .ref a ∧ (SqL K H a xs ∨ SqT K H a xs) ∧ b = false)
/-- what was there is there, but for the objects of S -/
def Kp (S : List Addr) (H H' : Hp) : Prop := ∀ a o, H a = some o → a ∉ S → H' a = some o
theorem Kp.refl {S : List Addr} {H : Hp} : Kp S H H := fun _ _ h _ => h
theorem Kp.trans {S : List Addr} {H H1 H2 : Hp} (a : Kp S H H1) (b : Kp S H1 H2) : Kp S H H2 := fun x o h n => b x o (a x o h n) n
theorem Kp.mono {S S' : List Addr} {H H' : Hp} (a : Kp S H H') (h : ∀ x ∈ S, x ∈ S') : Kp S' H H' := fun x o q n => a x o q fun z => n (h x z)
theorem Kp.of_ex {S : List Addr} {H H' : Hp} (e : Ex H H') : Kp S H H' := fun x o q _ => e x o q
theorem Kp.set {S : List Addr} {H H' : Hp} {p : Addr} {o : HO} (a : Kp S H H') (h : p ∈ S) : Kp S H (upd H' p o) := fun x u q n => by
  have ne : x ≠ p := fun z => n (by rw [z]; exact h)
  rw [upd_ne ne]
  exact a x u q n
theorem Kp.new {S : List Addr} {H H' : Hp} {p : Addr} {o : HO} (a : Kp S H H') (h : H' p = none) : Kp S H (upd H' p o) := fun x u q n => by
  have z := a x u q n
  rw [upd_ne (ne_of_none z h)]
  exact z
/-- a new object does not count among what was there -/
theorem Kp.fresh {S : List Addr} {H H' : Hp} {p : Addr} {o : HO} (a : Kp S H H') (h : H p = none) : Kp S H (upd H' p o) := fun x u q n => by
  rw [upd_ne (ne_of_none q h)]
  exact a x u q n
theorem Kp.drop {S S' : List Addr} {H H' : Hp} (a : Kp S H H') (h : ∀ x ∈ S, x ∈ S' ∨ H x = none) : Kp S' H H' := fun x o q n => a x o q fun z => by
  rcases h x z with r | r
  · exact n r
  · rw [q] at r; cases r
theorem Kp.sql {K : PySem.W.Frag} {S : List Addr} {H H' : Hp} {a : Addr} {xs : List V} (k : Kp S H H') (h : SqL K H a xs) (n : a ∉ S) : SqL K H' a xs := by
  rcases h with (h | ⟨o, h⟩) | h
  · exact .inl (.inl (k _ _ h n))
  · exact .inl (.inr ⟨o, k _ _ h n⟩)
  · exact .inr h
theorem Kp.sqt {K : PySem.W.Frag} {S : List Addr} {H H' : Hp} {a : Addr} {xs : List V} (k : Kp S H H') (h : SqT K H a xs) (n : a ∉ S) : SqT K H' a xs := by
  rcases h with (h | ⟨o, h⟩) | h
  · exact .inl (.inl (k _ _ h n))
  · exact .inl (.inr ⟨o, k _ _ h n⟩)
  · exact .inr h
theorem Kp.keyV {S : List Addr} {H H' : Hp} {k : MK} {v : V} (a : Kp S H H') (h : KeyV H k v) (n : ∀ x o, x ∈ S → H x = some o → ¬ ∃ ys, o = .tup ys) : KeyV H' k v := by
  cases k with
  | row x => exact h
  | tup is =>
    obtain ⟨t, h1, h2⟩ := h
    exact ⟨t, h1, a _ _ h2 fun z => n _ _ z h2 ⟨_, rfl⟩⟩
theorem cast_pow (k : Nat) : ((2 ^ k : Nat) : Int) = (2 : Int) ^ k := by push_cast; rfl
theorem cast_div (a b : Nat) : (a : Int) / (b : Int) = ((a / b : Nat) : Int) := by push_cast; rfl
theorem cast_mod (a b : Nat) : (a : Int) % (b : Int) = ((a % b : Nat) : Int) := by push_cast; rfl
/-! ### the loop over a text's signs, a store into a list -/
section
variable {K : PySem.W.Frag} {σ : L2.St} {H : Hp} {t : TS} {te : TE} {g : TG} {nx bk ct : L2.St → Hp → Prop} {rt : VK}
theorem w_iStr {R : It → Hp → Prop} (q : te σ H fun v H1 => ∃ x, v = .str x ∧ R (Its x) H1) : iStr te σ H R := q
theorem lb_str {z : Str} (Pv : Nat → L2.St → Hp → Prop) (h0 : Pv 0 σ H) (hs : ∀ (i : Nat) (c : Nat) σ H, z.cps[i]? = some c → Pv i σ H → g (.str ⟨#[c]⟩) σ H fun σ2 H2 => t ⟨Pv (i + 1), rt, nx, Pv (i + 1)⟩ σ2 H2) (hd : ∀ σ H, Pv z.cps.size σ H → nx σ H) :
    LB g t nx rt σ (Its z) H := by
  refine ⟨fun i m σ H => m = z.cps.size - i ∧ i ≤ z.cps.size ∧ Pv i σ H, ⟨z.cps.size, by simp, Nat.zero_le _, h0⟩, ?_⟩
  rintro i m σ H ⟨rfl, hi, p⟩
  by_cases hlt : i < z.cps.size
  · refine .inr ⟨hlt, Pv (i + 1), fun σ' H' p' => ⟨z.cps.size - (i + 1), by omega, rfl, hlt, p'⟩, fun x H' y => ?_⟩
    obtain ⟨rfl, c, hc, rfl⟩ := y
    exact hs i c σ _ hc p
  · have e : i = z.cps.size := by omega
    subst e
    exact .inl ⟨Nat.le_refl _, hd σ H p⟩
theorem w_setL {a : Addr} {xs : List V} {i : Nat} {v : V} {R : Hp → Prop} (h : H a = some (.lst xs)) (hi : i < xs.length) (q : R (upd H a (.lst (xs.set i v)))) : rSetL (.ref a) (.int (i : Int)) v H R := ⟨a, xs, i, i, rfl, rfl, h, by
  unfold ixN
  rw [if_pos (by omega), if_pos (by omega)]
  simp, q⟩
def rNotInS : R2 := fun x y H Q => ∃ (c : Nat) (z : Str), x = .str ⟨#[c]⟩ ∧ y = .str z ∧ Q (.bl (!decide (c ∈ z.cps.toList))) H
theorem op_notInS1 {X : Cx} : OpR X (compareOp .NotIn) rNotInS := op_notIn_sign
theorem w_notInS {c : Nat} {z : Str} {Q : VK} (q : Q (.bl (!decide (c ∈ z.cps.toList))) H) : rNotInS (.str ⟨#[c]⟩) (.str z) H Q := ⟨c, z, rfl, rfl, q⟩
end
end Ts
namespace Ts
open PySem L2 Mix
section
variable {K : PySem.W.Frag} {σ : L2.St} {H H1 : Hp} {Q : VK} {t : TE} {tt : TT} {te : TE} {g : TG} {vs : List Nat} {D : Addr}
theorem w_noPart {R : Option Int → Hp → Prop} (q : R none H) : tNoPart σ H R := q
theorem w_part {R : Option Int → Hp → Prop} (q : t σ H fun x H1 => ∃ i, x = .int i ∧ R (some i) H1) : tPart t σ H R := q
theorem w_pi {i : Int} {P : Int → Prop} (q : P i) : ∃ k, V.int i = .int k ∧ P k := ⟨i, rfl, q⟩
/-! comprehensions -/
def LC (g : TG) (tt : TT) (te : TE) (vs : List Nat) (σ : L2.St) (Q : VK) (J : It) (D : Addr) (H0 : Hp) : Prop := ∃ W : Nat → Nat → Hp → Prop, (∃ m, W 0 m H0) ∧ ∀ i m H, W i m H →
  (J.stop i H ∧ Q (.ref D) H) ∨ (J.go i H ∧ ∃ Nx : Hp → Prop, (∀ H', Nx H' → ∃ m', m' < m ∧ W (i + 1) m' H') ∧ ∀ x H', J.yld i H x H' → g x (wipe σ vs) H' fun σ2 H2 => wipe σ2 vs = wipe σ vs ∧ tt σ2 H2 fun b H3 =>
    if b = true then te σ2 H3 fun y H4 => ∃ acc, H4 D = some (.lst acc) ∧ acc.length < sizeLine ∧ Nx (upd H4 D (.lst (acc ++ [y]))) else Nx H3)
theorem w_lc {wi : TI} (q : wi σ H fun J H1 => ∀ D, H1 D = none → LC g tt te vs σ Q J D (upd H1 D (.lst []))) : tLc wi g tt te vs σ H Q := q
theorem lcb_range {n : Nat} (Pv : Nat → Hp → Prop) (h0 : Pv 0 (upd H1 D (.lst [])))
    (hs : ∀ (i : Nat) H, i < n → Pv i H → g (.int (i : Int)) (wipe σ vs) H fun σ2 H2 => wipe σ2 vs = wipe σ vs ∧ tt σ2 H2 fun b H3 =>
      if b = true then te σ2 H3 fun y H4 => ∃ acc, H4 D = some (.lst acc) ∧ acc.length < sizeLine ∧ Pv (i + 1) (upd H4 D (.lst (acc ++ [y]))) else Pv (i + 1) H3) (hd : ∀ H, Pv n H → Q (.ref D) H) : LC g tt te vs σ Q (Itr 0 n) D (upd H1 D (.lst [])) :=
  lc_range (lo := 0) (n := n) (Qd := fun H => Q (.ref D) H) Pv h0 (fun i H hi p => by rw [Int.zero_add]; exact hs i H hi p) hd
theorem lcb_list {a : Addr} {xs : List V} (Pv : Nat → Hp → Prop) (h0 : Pv 0 (upd H1 D (.lst []))) (hl : ∀ i H, i ≤ xs.length → Pv i H → SqL K H a xs)
    (hs : ∀ i x H, xs[i]? = some x → Pv i H → g x (wipe σ vs) H fun σ2 H2 => wipe σ2 vs = wipe σ vs ∧ tt σ2 H2 fun b H3 =>
      if b = true then te σ2 H3 fun y H4 => ∃ acc, H4 D = some (.lst acc) ∧ acc.length < sizeLine ∧ Pv (i + 1) (upd H4 D (.lst (acc ++ [y]))) else Pv (i + 1) H3) (hd : ∀ H, Pv xs.length H → Q (.ref D) H) : LC g tt te vs σ Q (Itl K a) D (upd H1 D (.lst [])) :=
  lc_list (K := K) (a := a) (xs := xs) (Qd := fun H => Q (.ref D) H) Pv h0 hl hs hd
theorem w_lstRg2 {ta tb : TE} (q : ta σ H fun x H1 => tb σ H1 fun y H2 => ∃ i j, x = .int i ∧ y = .int j ∧ RgOk i j ∧ ∀ p, H2 p = none → Q (.ref p) (upd H2 p (.lst (rgV i j)))) : tLstRg (tRg2 ta tb) σ H Q := q
theorem w_lstRg1 {ta : TE} (q : ta σ H fun x H1 => ∃ n, x = .int n ∧ RgOk 0 n ∧ ∀ p, H1 p = none → Q (.ref p) (upd H1 p (.lst (rgV 0 n)))) : tLstRg (tRg1 ta) σ H Q := q
theorem w_yes {QT : Bool → Hp → Prop} (q : QT true H) : tYes σ H QT := q
end
end Ts

local macro_rules | `(tactic| walk_at "s1") => `(tactic| ((with_reducible refine Ts.w_mul ?_ ?_); (first | exact Or.inl ⟨by omega, by omega⟩ | exact Or.inr ⟨by omega, by omega⟩)))
local macro_rules | `(tactic| walk_at "s1") => `(tactic| ((with_reducible refine Ts.w_div ?_ ?_ ?_); (first | decide | omega); (first | decide | omega)))
local macro_rules | `(tactic| walk_at "s1") => `(tactic| ((with_reducible refine Ts.w_mod ?_ ?_); (first | decide | omega)))
local macro_rules | `(tactic| walk_at "s1") => `(tactic| ((with_reducible refine Ts.w_pow ?_ ?_); (exact ⟨by decide, by decide, by decide⟩)))
local macro_rules | `(tactic| walk_at "s1") => `(tactic| first | with_reducible refine Ts.w_seq ?_ | with_reducible refine Ts.w_asg ?_ | with_reducible refine Ts.w_ret ?_ | with_reducible refine Ts.w_op ?_ | with_reducible refine Ts.w_c ?_ | with_reducible refine Ts.w_if ?_ | with_reducible refine Ts.w_v0 ?_ | with_reducible refine Ts.w_v1 ?_ | with_reducible refine Ts.w_v2 ?_ | with_reducible refine Ts.w_v3 ?_ | with_reducible refine Ts.w_v4 ?_ | with_reducible refine Ts.w_v5 ?_ | with_reducible refine Ts.w_v6 ?_ | with_reducible refine Ts.w_v7 ?_ | with_reducible refine Ts.w_v8 ?_ | with_reducible refine Ts.w_v9 ?_ | with_reducible refine Ts.w_v10 ?_ | with_reducible refine Ts.w_v11 ?_ | with_reducible refine Ts.w_v12 ?_ | with_reducible refine Ts.w_v13 ?_ | with_reducible refine Ts.w_v14 ?_ | with_reducible refine Ts.w_v15 ?_ | with_reducible refine Ts.w_v16 ?_ | with_reducible refine Ts.w_v17 ?_ | with_reducible refine Ts.w_v18 ?_ | with_reducible refine Ts.w_v19 ?_ | with_reducible refine Ts.w_n0 ?_ | with_reducible refine Ts.w_n1 ?_ | with_reducible refine Ts.w_n2 ?_ | with_reducible refine Ts.w_n3 ?_ | with_reducible refine Ts.w_n4 ?_ | with_reducible refine Ts.w_n5 ?_ | with_reducible refine Ts.w_n6 ?_ | with_reducible refine Ts.w_n7 ?_ | with_reducible refine Ts.w_n8 ?_ | with_reducible refine Ts.w_n9 ?_ | with_reducible refine Ts.w_n10 ?_ | with_reducible refine Ts.w_n11 ?_ | with_reducible refine Ts.w_n12 ?_ | with_reducible refine Ts.w_n13 ?_ | with_reducible refine Ts.w_n14 ?_ | with_reducible refine Ts.w_n15 ?_ | with_reducible refine Ts.w_n16 ?_ | with_reducible refine Ts.w_n17 ?_ | with_reducible refine Ts.w_n18 ?_ | with_reducible refine Ts.w_n19 ?_ | with_reducible refine Ts.w_test ?_ | with_reducible refine Ts.w_call ?_ | with_reducible refine Ts.w_cons ?_ | with_reducible refine Ts.w_nil ?_ | with_reducible refine Ts.w_drop ?_ | with_reducible refine Ts.w_for ?_ | with_reducible refine Ts.w_next ?_ | with_reducible refine Ts.w_break ?_ | with_reducible refine Ts.w_cont ?_ | with_reducible refine Ts.w_retN ?_ | with_reducible refine Ts.w_un ?_ | with_reducible refine Ts.w_tB ?_ | with_reducible refine Ts.w_bl ?_ | with_reducible refine Ts.w_chain ?_ | with_reducible refine Ts.w_and ?_ | with_reducible refine Ts.w_or ?_ | with_reducible refine Ts.w_not ?_ | with_reducible refine Ts.w_andV ?_ | with_reducible refine Ts.w_orV ?_ | with_reducible refine Ts.w_notV ?_ | with_reducible refine Ts.w_tup ?_ | with_reducible refine Ts.w_lst ?_ | with_reducible refine Ts.w_CB ?_ | with_reducible refine Ts.w_meth ?_ | with_reducible refine Ts.w_make ?_ | with_reducible refine Ts.w_callS ?_ | with_reducible refine Ts.w_fld ?_ | with_reducible refine Ts.w_bm0 ?_ | with_reducible refine Ts.w_bm ?_ | with_reducible refine Ts.w_sl ?_ | with_reducible refine Ts.w_sfld ?_ | with_reducible refine Ts.w_gSub ?_ | with_reducible refine Ts.w_gCons ?_ | with_reducible refine Ts.w_gNil ?_ | with_reducible refine Ts.w_iR1 ?_ | with_reducible refine Ts.w_iR2 ?_ | with_reducible refine Ts.w_iR3 ?_ | with_reducible refine Ts.w_iL ?_ | with_reducible refine Ts.w_iStr ?_ | with_reducible refine Ts.w_notInS ?_ | with_reducible refine Ts.w_mnew ?_ | with_reducible refine Ts.w_mnotin ?_ | with_reducible refine Ts.w_mget ?_ | with_reducible refine Ts.w_mput ?_ | with_reducible refine Ts.w_methS ?_ | with_reducible refine Ts.w_raise ?_ | with_reducible refine Ts.w_noPart ?_ | with_reducible refine Ts.w_part ?_ | with_reducible refine Ts.w_pi ?_ | with_reducible refine Ts.w_lc ?_ | with_reducible refine Ts.w_yes ?_ | with_reducible refine Ts.w_lstRg2 ?_ | with_reducible refine Ts.w_lstRg1 ?_ | with_reducible refine Ts.w_addI ?_ | with_reducible refine Ts.w_sub ?_ | with_reducible refine Ts.w_lt ?_ | with_reducible refine Ts.w_le ?_ | with_reducible refine Ts.w_gt ?_ | with_reducible refine Ts.w_ge ?_ | with_reducible refine Ts.w_eqI ?_ | with_reducible refine Ts.w_neI ?_ | with_reducible refine Ts.w_eqS ?_ | with_reducible refine Ts.w_neS ?_ | with_reducible refine Ts.w_isN ?_ | with_reducible refine Ts.w_notN ?_ | with_reducible refine Ts.w_max ?_ | with_reducible refine Ts.w_min ?_ | with_reducible refine Ts.w_intI ?_ | with_reducible refine Ts.w_intB ?_ | with_reducible refine Ts.w_neg ?_)
local macro_rules | `(tactic| walk_at "s") => `(tactic| repeat (walk_at "s1"))

namespace Ts
open PySem L2
/-- a text times a whole number -/
def repS (z : Str) (k : Int) : Str := if k < 1 then Str.empty else if (k == 1 || z.length == 0) = true then z else ⟨(List.replicate k.toNat z.cps).foldl (· ++ ·) #[]⟩
def rMulS : R2 := fun x y H Q => ∃ z k, x = .str z ∧ y = .int k ∧ 0 ≤ k ∧ k ≤ 1000 ∧ z.length ≤ 1000 ∧ (repS z k).length ≤ sizeLine ∧ Q (.str (repS z k)) H
theorem op_mulS {X : Cx} : OpR X (binaryOp .Mult) rMulS := by
  intro pins s σ H x y v u Q I rx ry h
  obtain ⟨z, k, rfl, rfl, h0, h1, hz, hl, q⟩ := h
  obtain ⟨t, rfl⟩ := rx
  obtain ⟨t', rfl⟩ := ry
  have e1 : decide (k < -(2 ^ 63 : Int)) = false := decide_eq_false (by omega)
  have e2 : decide (k ≥ 2 ^ 63) = false := decide_eq_false (by omega)
  refine PySem.P.mul_str (by rw [e1, e2] <;> rfl) (fun n1 _ => ?_) (fun n1 _ => ?_) ?_
  · have a : (9223372036854775807 : Int) / 1000 ≤ 9223372036854775807 / k := by
      refine Int.le_ediv_of_mul_le (by omega) ?_
      have : (9223372036854775807 : Int) / 1000 = 9223372036854775 := by decide
      rw [this]
      have := Int.mul_le_mul_of_nonneg_left h1 (show (0 : Int) ≤ 9223372036854775 by decide)
      omega
    have b : (9223372036854775807 : Int) / 1000 = 9223372036854775 := by decide
    have c : ((2 : Int) ^ 63 - 1) = 9223372036854775807 := by decide
    rw [c]
    omega
  · have m : z.length * k.toNat ≤ 1000 * 1000 := Nat.mul_le_mul hz (by omega)
    have : ¬ z.length * k.toNat > sizeLine := by
      have : (1000 * 1000 : Nat) ≤ sizeLine := by decide
      omega
    exact decide_eq_false this
  · unfold repS at hl q
    split
    · rename_i c
      rw [if_pos c] at hl q
      exact ⟨hl, .str _, H, I.tok _, ⟨_, rfl⟩, q⟩
    · rename_i c
      rw [if_neg c] at hl q
      split
      · rename_i c2
        rw [if_pos c2] at hl q
        exact ⟨.str z, H, I, ⟨_, rfl⟩, q⟩
      · rename_i c2
        rw [if_neg c2] at hl q
        exact ⟨hl, .str _, H, I.tok _, ⟨_, rfl⟩, q⟩
theorem w_mulS {z : Str} {k : Int} {H : Hp} {Q : VK} (h0 : 0 ≤ k) (h1 : k ≤ 1000) (hz : z.length ≤ 1000) (hl : (repS z k).length ≤ sizeLine) (q : Q (.str (repS z k)) H) : rMulS (.str z) (.int k) H Q := ⟨z, k, rfl, rfl, h0, h1, hz, hl, q⟩
end Ts

namespace Tw
open PySem L2 Ts
/-- what the text's classes are -/
structure TxK (K : PySem.W.Frag) (c : Cs) : Prop where
  cLedger : Cls K c.Ledger
  n_Ledger_given : NoAttr K c.Ledger "given"
  n_Ledger_things : NoAttr K c.Ledger "things"
  cBook : Cls K c.Book
  n_Book_ledger : NoAttr K c.Book "ledger"
  n_Book_lines : NoAttr K c.Book "lines"
  n_Book_levels : NoAttr K c.Book "levels"
  md : ∀ d ks, ∃ φ, c.md d ks = .ext φ
  m_NoRow_NoPlace : PySem.W.exmOne K (.ref c.NoRow) (.ref c.NoPlace) = some false
  m_NoSum_NoPlace : PySem.W.exmOne K (.ref c.NoSum) (.ref c.NoPlace) = some false
  m_Full_NoPlace : PySem.W.exmOne K (.ref c.Full) (.ref c.NoPlace) = some false
  m_NoPlace_NoPlace : PySem.W.exmOne K (.ref c.NoPlace) (.ref c.NoPlace) = some true
  m_NoRow_NoRow : PySem.W.exmOne K (.ref c.NoRow) (.ref c.NoRow) = some true
  m_NoSum_NoRow : PySem.W.exmOne K (.ref c.NoSum) (.ref c.NoRow) = some false
  m_Full_NoRow : PySem.W.exmOne K (.ref c.Full) (.ref c.NoRow) = some false
  m_NoPlace_NoRow : PySem.W.exmOne K (.ref c.NoPlace) (.ref c.NoRow) = some false
end Tw

namespace Tw
open PySem L2 Ts
/-! ### counts, digits, sizes, parts: the mirror -/
def digs (n : Nat) : Nat := if h : n = 0 then 0 else digs (n / 2) + 1
decreasing_by omega
theorem digs_zero : digs 0 = 0 := by rw [digs]; rfl
theorem digs_pos {n : Nat} (h : n ≠ 0) : digs n = digs (n / 2) + 1 := by rw [digs, dif_neg h]
theorem digs_lt (n : Nat) : n < 2 ^ digs n := by
  induction n using Nat.strongRecOn with
  | _ n ih =>
    by_cases h : n = 0
    · subst h; rw [digs_zero]; decide
    · rw [digs_pos h, Nat.pow_succ]
      have := ih (n / 2) (by omega)
      omega
theorem digs_le {n k : Nat} (h : n < 2 ^ k) : digs n ≤ k := by
  induction k generalizing n with
  | zero =>
    have : n = 0 := by simpa using h
    subst this; rw [digs_zero]; exact Nat.le_refl _
  | succ k ih =>
    by_cases h0 : n = 0
    · subst h0; rw [digs_zero]; exact Nat.zero_le _
    · rw [digs_pos h0]
      have : n / 2 < 2 ^ k := by rw [Nat.pow_succ] at h; omega
      exact Nat.succ_le_succ (ih this)
theorem digs_ge {n k : Nat} (h : 2 ^ k ≤ n) : k < digs n := by
  rcases Nat.lt_or_ge k (digs n) with h1 | h1
  · exact h1
  · have h2 := digs_lt n
    have h3 : 2 ^ digs n ≤ 2 ^ k := Nat.pow_le_pow_right (by decide) h1
    omega
/-- the parts: heights below k, from the place on -/
def partsF (n place : Nat) : Nat → List (Nat × Nat)
  | 0 => []
  | k + 1 => if n / 2 ^ k % 2 = 1 then (k, place / 2 ^ k) :: partsF n (place + 2 ^ k) k else partsF n place k
def parts (n : Nat) : List (Nat × Nat) := partsF n 0 (digs n)
def encP : Enc (Nat × Nat) := eTup2 eNat eNat
/-- the place ahead of height k is the count without its low digits -/
def placeAt (n k : Nat) : Nat := n / 2 ^ k * 2 ^ k
theorem placeAt_succ (n k : Nat) : placeAt n k = placeAt n (k + 1) + (n / 2 ^ k % 2) * 2 ^ k := by
  unfold placeAt
  have h1 : n / 2 ^ (k + 1) = n / 2 ^ k / 2 := by rw [Nat.pow_succ, Nat.div_div_eq_div_mul]
  rw [h1, Nat.pow_succ, Nat.mul_comm (2 ^ k) 2, ← Nat.mul_assoc, ← Nat.add_mul]
  congr 1
  omega
theorem placeAt_le (n k : Nat) : placeAt n k ≤ n := Nat.div_mul_le_self _ _
theorem placeAt_lt (n k : Nat) : n < placeAt n k + 2 ^ k := by
  unfold placeAt
  have := Nat.div_add_mod n (2 ^ k)
  have h2 := Nat.mod_lt n (Nat.two_pow_pos k)
  rw [Nat.mul_comm] at this
  omega
theorem placeAt_digs (n : Nat) : placeAt n (digs n) = 0 := by
  unfold placeAt
  rw [Nat.div_eq_of_lt (digs_lt n), Nat.zero_mul]
theorem placeAt_zero (n : Nat) : placeAt n 0 = n := by simp [placeAt]
/-- the digit is 1 just where there is room -/
theorem bit_room (n k : Nat) : n / 2 ^ k % 2 = 1 ↔ placeAt n (k + 1) + 2 ^ k ≤ n := by
  have h1 := placeAt_succ n k
  have h2 := placeAt_le n k
  have h3 := placeAt_lt n k
  have h4 : n / 2 ^ k % 2 = 0 ∨ n / 2 ^ k % 2 = 1 := by omega
  rcases h4 with h4 | h4
  · rw [h4, Nat.zero_mul] at h1
    constructor
    · intro h; omega
    · intro h; omega
  · rw [h4, Nat.one_mul] at h1
    constructor
    · intro _; omega
    · intro _; exact h4
theorem parts_cons {n k : Nat} (h : n / 2 ^ k % 2 = 1) : partsF n (placeAt n (k + 1)) (k + 1) = (k, placeAt n (k + 1) / 2 ^ k) :: partsF n (placeAt n k) k := by
  have e := placeAt_succ n k
  rw [h, Nat.one_mul] at e
  rw [partsF, if_pos h, ← e]
theorem parts_skip {n k : Nat} (h : ¬ n / 2 ^ k % 2 = 1) : partsF n (placeAt n (k + 1)) (k + 1) = partsF n (placeAt n k) k := by
  have e := placeAt_succ n k
  have h0 : n / 2 ^ k % 2 = 0 := by omega
  rw [h0, Nat.zero_mul, Nat.add_zero] at e
  rw [partsF, if_neg h, ← e]

theorem pow_small {i : Nat} (h : i ≤ 60) : 2 ^ i ≤ 2 ^ 60 := Nat.pow_le_pow_right (by decide) h
/-! ### the readings -/

def N_size_of : List Str := ["height", "found", "turn"]
def t_size_of (K : PySem.W.Frag) (c : Cs) (E : XK) : TS := (tSeq (tAsg (tC (.int 1)) (gName 1))
  (tSeq (tFor (iRng1 (tCons (tVar 0) tNil)) (gName 2) (tAsg (tOp rMul (tC (.int 2)) (tVar 1)) (gName 1)))
  (tRet (tVar 1))))
def sp_size_of (_ : PySem.W.Frag) (_ : Cs) : Sp := fun vs H Q _ => ∃ h : Nat, vs = [.int h] ∧ h ≤ 60 ∧ Q (.int ((2 ^ h : Nat) : Int)) H
theorem len_size_of {K c} : ∀ vs H Q E, sp_size_of K c vs H Q E → vs.length = 1 := by rintro vs H Q E ⟨n, rfl, _⟩; rfl
theorem pure_size_of {K : PySem.W.Frag} {c : Cs} {vs : List V} {H : Hp} {Q : VK} {E : XK} (h : sp_size_of K c vs H Q E) : t_size_of K c E ⟨fun _ H' => Q .non H', Q, fun _ _ => False, fun _ _ => False⟩ (start N_size_of vs) H := by
  obtain ⟨n, rfl, hn, k⟩ := h
  show t_size_of K c E _ [some (.int n), none, none] H
  unfold t_size_of
  walk_at "s"
  refine w_iR1v (by omega) (by omega) (lb_range0 (fun i σ H' => H' = H ∧ ∃ v, σ = [some (.int n), some (.int ((2 ^ i : Nat) : Int)), v]) ⟨rfl, none, rfl⟩ ?_ ?_)
  · rintro i σ H' hi ⟨rfl, v, rfl⟩
    have hp := pow_small (i := i) (by omega)
    walk_at "s"
    refine ⟨rfl, some (.int (i : Int)), ?_⟩
    congr 4 <;> (rw [Nat.pow_succ]; push_cast; try omega)
  · rintro σ H' ⟨rfl, v, rfl⟩
    walk_at "s"
    have e : ((n : Int)).toNat = n := by omega
    rw [e]
    exact k

def sp_parted (K : PySem.W.Frag) (_ : Cs) : Sp := fun vs H Q _ => ∃ n : Nat, vs = [.int n] ∧ n < 2 ^ 29 ∧
  ∀ H' p xs, Ex H H' → H p = none → H' p = some (.lst xs) → DpAll K H' xs ((parts n).map encP.enc) → Q (.ref p) H'
theorem len_parted {K c} : ∀ vs H Q E, sp_parted K c vs H Q E → vs.length = 1 := by rintro vs H Q E ⟨n, rfl, _⟩; rfl
theorem dp_pair {K : PySem.W.Frag} {H : Hp} {t : Addr} {a b : Nat} (h : H t = some (.tup [.int (a : Int), .int (b : Int)])) : Dp K H (.ref t) (encP.enc (a, b)) := .tup (sqt h) (.cons (.int _) (.cons (.int _) .nil))
theorem parts_len : ∀ (n place k : Nat), (partsF n place k).length ≤ k
  | _, _, 0 => Nat.le_refl _
  | n, place, k + 1 => by
    unfold partsF
    split
    · rw [List.length_cons]; exact Nat.succ_le_succ (parts_len n _ k)
    · exact Nat.le_succ_of_le (parts_len n _ k)
/-- what the loop over heights keeps: done so far at p, the rest at height k -/
structure PartsAt (K : PySem.W.Frag) (H H' : Hp) (p : Addr) (n k : Nat) : Prop where
  fr : H p = none
  ex : Ex H H'
  at' : ∃ xs done, H' p = some (.lst xs) ∧ DpAll K (hid p H') xs (done.map encP.enc) ∧ done ++ partsF n (placeAt n k) k = parts n ∧ done.length + k ≤ 64
theorem PartsAt.skip {K : PySem.W.Frag} {H H' : Hp} {p : Addr} {n k : Nat} (S : PartsAt K H H' p n (k + 1)) (h : ¬ n / 2 ^ k % 2 = 1) : PartsAt K H H' p n k := by
  obtain ⟨fr, ex, xs, done, h1, h2, h3, h4⟩ := S
  exact ⟨fr, ex, xs, done, h1, h2, by rw [← parts_skip h]; exact h3, by omega⟩
theorem PartsAt.more {K : PySem.W.Frag} {H H' : Hp} {p t : Addr} {n k : Nat} {xs : List V} {j : Int} (S : PartsAt K H H' p n (k + 1)) (h : n / 2 ^ k % 2 = 1) (hx : H' p = some (.lst xs)) (ht : H' t = none) (hj : j = ((placeAt n (k + 1) / 2 ^ k : Nat) : Int)) :
    PartsAt K H (upd (upd H' t (.tup [.int (k : Nat), .int j])) p (.lst (xs ++ [.ref t]))) p n k := by
  subst hj
  obtain ⟨fr, ex, xs', done, h1, h2, h3, h4⟩ := S
  rw [h1] at hx; cases hx
  have tp : t ≠ p := fun z => by rw [z, h1] at ht; cases ht
  refine ⟨fr, ex_mut (ex_new ex ht) fr, _, done ++ [(k, placeAt n (k + 1) / 2 ^ k)], upd_same, ?_, ?_, ?_⟩
  · rw [hid_upd, List.map_append]
    refine dpAll_snoc (dpAll_mono (hid_mono (ex_new ex_refl ht)) h2) (dp_pair ?_)
    rw [hid_ne tp, upd_same]
  · rw [List.append_assoc, List.singleton_append, ← parts_cons h]; exact h3
  · rw [List.length_append]; show done.length + 1 + k ≤ 64; omega
end Tw

namespace Tw
open PySem L2 Ts
def N_law_cell_at : List Str := ["_law_script", "_law_k"]
def t_law_cell_at (K : PySem.W.Frag) (c : Cs) (E : XK) : TS := (tSeq (tIfS (tTest (tOp rLt (tVar 1) (tCB (rLen K) (tCons (tVar 0) tNil)))) (tRet (tOp (rIx K) (tVar 0) (tVar 1))) tNext)
  (tRet (tC (.int 0))))
/-- a cell of the script, or 0: some whole number -/
def sp_law_cell_at (K : PySem.W.Frag) (_ : Cs) : Sp := fun vs H Q _ => ∃ (a : Addr) (ns : List Int) (i : Nat), vs = [.ref a, .int i] ∧ SqL K H a (ns.map V.int) ∧ ∀ z : Int, Q (.int z) H
theorem len_law_cell_at {K c} : ∀ vs H Q E, sp_law_cell_at K c vs H Q E → vs.length = 2 := by rintro vs H Q E ⟨a, ns, i, rfl, _⟩; rfl
theorem pure_law_cell_at {K : PySem.W.Frag} {c : Cs} {vs : List V} {H : Hp} {Q : VK} {E : XK} (h : sp_law_cell_at K c vs H Q E) : t_law_cell_at K c E ⟨fun _ H' => Q .non H', Q, fun _ _ => False, fun _ _ => False⟩ (start N_law_cell_at vs) H := by
  obtain ⟨a, ns, i, rfl, hs, k⟩ := h
  show t_law_cell_at K c E _ [some (.ref a), some (.int i)] H
  unfold t_law_cell_at
  walk_at "s"
  refine w_lenL hs ?_
  walk_at "s"
  refine ite_d (fun h0 => ?_) fun h0 => ?_
  · walk_at "s"
    have hi : i < (ns.map V.int).length := by omega
    rw [List.length_map] at hi
    exact w_ixL hs (atI_nat (by rw [List.getElem?_map, List.getElem?_eq_getElem hi]; rfl)) (k _)
  · walk_at "s"
    exact k 0
def N_law_whole : List Str := ["_law_found"]
def t_law_whole (K : PySem.W.Frag) (c : Cs) (E : XK) : TS := (tRet (tAndV (tCB (rIsi K) (tCons (tVar 0) (tCons (tC (.ty "int")) tNil))) (tNotV (tCB (rIsi K) (tCons (tVar 0) (tCons (tC (.ty "bool")) tNil))))))
def sp_law_whole (K : PySem.W.Frag) (_ : Cs) : Sp := fun vs H Q _ => ∃ (v : V) (b : Bool), vs = [v] ∧ isWholeV K H v b ∧ Q (.bl b) H
theorem len_law_whole {K c} : ∀ vs H Q E, sp_law_whole K c vs H Q E → vs.length = 1 := by rintro vs H Q E ⟨a, i, rfl, _⟩; rfl
theorem pure_law_whole {K : PySem.W.Frag} {c : Cs} {vs : List V} {H : Hp} {Q : VK} {E : XK} (h : sp_law_whole K c vs H Q E) : t_law_whole K c E ⟨fun _ H' => Q .non H', Q, fun _ _ => False, fun _ _ => False⟩ (start N_law_whole vs) H := by
  obtain ⟨v, b, rfl, hw, k⟩ := h
  show t_law_whole K c E _ [some v] H
  unfold t_law_whole
  walk_at "s"
  rcases hw with ⟨i, rfl, rfl⟩ | ⟨x, rfl, rfl⟩ | ⟨x, rfl, rfl⟩ | ⟨rfl, rfl⟩ | ⟨a, xs, rfl, h, rfl⟩
  · refine isi_ty (b := true) tyI (by decide +kernel) ?_
    walk_at "s"
    refine iteT ?_
    walk_at "s"
    refine isi_ty (b := false) tyI (by decide +kernel) ?_
    walk_at "s"
    exact k
  · refine isi_ty (b := true) tyB (by decide +kernel) ?_
    walk_at "s"
    refine iteT ?_
    walk_at "s"
    refine isi_ty (b := true) tyB (by decide +kernel) ?_
    walk_at "s"
    exact k
  · refine isi_ty (b := false) tyS (by decide +kernel) ?_
    walk_at "s"
    exact iteF k
  · refine isi_ty (b := false) tyN (by decide +kernel) ?_
    walk_at "s"
    exact iteF k
  · rcases h with h | h
    · refine isi_ty (b := false) (ty_sql h) (by decide +kernel) ?_
      walk_at "s"
      exact iteF k
    · refine isi_ty (b := false) (ty_sqt h) (by decide +kernel) ?_
      walk_at "s"
      exact iteF k
theorem whole_int {K : PySem.W.Frag} {c : Cs} {i : Int} {H : Hp} {Q : VK} {E : XK} (k : Q (.bl true) H) : sp_law_whole K c [.int i] H Q E := ⟨_, true, rfl, .inl ⟨i, rfl, rfl⟩, k⟩
end Tw

namespace Tw
open PySem L2 Ts Mix
/-! ### rows -/
def signs : Str := "abcdefghijklmnopqrstuvwxyz0123456789 "
/-- a row's text -/
def Good (z : Str) : Prop := z.length ≤ 40 ∧ ∀ c ∈ z.cps.toList, c ∈ signs.cps.toList
instance (z : Str) : Decidable (Good z) := inferInstanceAs (Decidable (_ ∧ _))
theorem good_ok {z : Str} (h : Good z) : PyData.strOk z = true := by
  unfold PyData.strOk
  rw [Array.all_eq_true']
  intro c hc
  have h1 := h.2 c (by simpa using hc)
  have h2 : signs.cps.toList.all (fun c => decide (c < 0x110000)) = true := by decide +kernel
  exact List.all_eq_true.mp h2 c h1
theorem good_len {z : Str} (h : Good z) : z.length ≤ sizeLine := Nat.le_trans h.1 (by decide)
/-- what is handed in as a row: a text of few signs, or a thing of another kind -/
def RowV (K : PySem.W.Frag) (H : Hp) (v : V) : Prop := (∃ z, v = .str z ∧ z.length ≤ sizeLine) ∨ (∃ i, v = .int i) ∨ v = .non ∨ (∃ b, v = .bl b) ∨ (∃ a xs, v = .ref a ∧ (SqL K H a xs ∨ SqT K H a xs))
def isRowV (v : V) : Prop := ∃ z, v = .str z ∧ Good z
theorem rowV_good {K : PySem.W.Frag} {H : Hp} {z : Str} (h : Good z) : RowV K H (.str z) := .inl ⟨z, rfl, good_len h⟩

def N_is_whole : List Str := ["thing"]
def t_is_whole (K : PySem.W.Frag) (c : Cs) (E : XK) : TS := (tRet (tAndV (tCB (rIsi K) (tCons (tVar 0) (tCons (tC (.ty "int")) tNil))) (tNotV (tCB (rIsi K) (tCons (tVar 0) (tCons (tC (.ty "bool")) tNil))))))
def sp_is_whole (K : PySem.W.Frag) (_ : Cs) : Sp := fun vs H Q _ => ∃ (v : V) (b : Bool), vs = [v] ∧ isWholeV K H v b ∧ Q (.bl b) H
theorem len_is_whole {K c} : ∀ vs H Q E, sp_is_whole K c vs H Q E → vs.length = 1 := by rintro vs H Q E ⟨a, i, rfl, _⟩; rfl
theorem pure_is_whole {K : PySem.W.Frag} {c : Cs} {vs : List V} {H : Hp} {Q : VK} {E : XK} (h : sp_is_whole K c vs H Q E) : t_is_whole K c E ⟨fun _ H' => Q .non H', Q, fun _ _ => False, fun _ _ => False⟩ (start N_is_whole vs) H := by
  obtain ⟨v, b, rfl, hw, k⟩ := h
  show t_is_whole K c E _ [some v] H
  unfold t_is_whole
  walk_at "s"
  rcases hw with ⟨i, rfl, rfl⟩ | ⟨x, rfl, rfl⟩ | ⟨x, rfl, rfl⟩ | ⟨rfl, rfl⟩ | ⟨a, xs, rfl, h, rfl⟩
  · refine isi_ty (b := true) tyI (by decide +kernel) ?_
    walk_at "s"
    refine iteT ?_
    walk_at "s"
    refine isi_ty (b := false) tyI (by decide +kernel) ?_
    walk_at "s"
    exact k
  · refine isi_ty (b := true) tyB (by decide +kernel) ?_
    walk_at "s"
    refine iteT ?_
    walk_at "s"
    refine isi_ty (b := true) tyB (by decide +kernel) ?_
    walk_at "s"
    exact k
  · refine isi_ty (b := false) tyS (by decide +kernel) ?_
    walk_at "s"
    exact iteF k
  · refine isi_ty (b := false) tyN (by decide +kernel) ?_
    walk_at "s"
    exact iteF k
  · rcases h with h | h
    · refine isi_ty (b := false) (ty_sql h) (by decide +kernel) ?_
      walk_at "s"
      exact iteF k
    · refine isi_ty (b := false) (ty_sqt h) (by decide +kernel) ?_
      walk_at "s"
      exact iteF k
def N_is_row : List Str := ["thing", "sign"]
def t_is_row (K : PySem.W.Frag) (c : Cs) (E : XK) : TS := (tSeq (tIfS (tOr (tNot (tB (tCB (rIsi K) (tCons (tVar 0) (tCons (tC (.ty "str")) tNil))))) (tTest (tOp rGt (tCB (rLen K) (tCons (tVar 0) tNil)) (tC (.int 40))))) (tRet (tC (.bl false))) tNext)
  (tSeq (tFor (iStr (tVar 0)) (gName 1) (tIfS (tTest (tOp rNotInS (tVar 1) (tC (.str "abcdefghijklmnopqrstuvwxyz0123456789 ")))) (tRet (tC (.bl false))) tNext))
  (tRet (tC (.bl true)))))
def sp_is_row (K : PySem.W.Frag) (_ : Cs) : Sp := fun vs H Q _ => ∃ v, vs = [v] ∧ RowV K H v ∧ (isRowV v → Q (.bl true) H) ∧ (¬ isRowV v → Q (.bl false) H)
theorem len_is_row {K c} : ∀ vs H Q E, sp_is_row K c vs H Q E → vs.length = 1 := by rintro vs H Q E ⟨v, rfl, _⟩; rfl
theorem pure_is_row {K : PySem.W.Frag} {c : Cs} {vs : List V} {H : Hp} {Q : VK} {E : XK} (h : sp_is_row K c vs H Q E) : t_is_row K c E ⟨fun _ H' => Q .non H', Q, fun _ _ => False, fun _ _ => False⟩ (start N_is_row vs) H := by
  obtain ⟨v, rfl, hv, k1, k2⟩ := h
  show t_is_row K c E _ [some v, none] H
  have other : ∀ t, TyX K H v (.type t) → kitB t "str" = some false → (∀ z, v ≠ .str z) → t_is_row K c E ⟨fun _ H' => Q .non H', Q, fun _ _ => False, fun _ _ => False⟩ [some v, none] H := fun t ty kb ne => by
    unfold t_is_row
    walk_at "s"
    refine isi_ty ty kb ?_
    walk_at "s"
    refine iteT ?_
    refine iteT ?_
    walk_at "s"
    exact k2 fun ⟨z, e, _⟩ => ne z e
  rcases hv with ⟨z, rfl, hz⟩ | ⟨i, rfl⟩ | rfl | ⟨b, rfl⟩ | ⟨a, xs, rfl, h | h⟩
  · unfold t_is_row
    walk_at "s"
    refine isi_ty (b := true) tyS (by decide +kernel) ?_
    walk_at "s"
    refine iteF ?_
    walk_at "s"
    refine w_lenS hz ?_
    walk_at "s"
    refine ite_d (fun h0 => ?_) fun h0 => ?_
    · walk_at "s"
      refine k2 ?_
      rintro ⟨z', e, hg⟩
      cases e
      have := hg.1
      omega
    · walk_at "s"
      refine ⟨z, rfl, lb_str (fun i σ H' => H' = H ∧ (∃ v, σ = [some (.str z), v]) ∧ ∀ j c, j < i → z.cps[j]? = some c → c ∈ signs.cps.toList) ⟨rfl, ⟨none, rfl⟩, fun j _ hj => absurd hj (Nat.not_lt_zero _)⟩ ?_ ?_⟩
      · rintro i ch σ H' hc ⟨rfl, ⟨v, rfl⟩, hb⟩
        walk_at "s"
        refine ite_nd (fun h1 => ?_) fun h1 => ?_
        · walk_at "s"
          refine k2 ?_
          rintro ⟨z', e, hg⟩
          cases e
          exact h1 (hg.2 ch (Array.mem_toList_iff.mpr (Array.mem_of_getElem? hc)))
        · walk_at "s"
          refine ⟨rfl, ⟨_, rfl⟩, fun j cj hj hcj => ?_⟩
          rcases Nat.lt_or_ge j i with q | q
          · exact hb j cj q hcj
          · have e : j = i := by omega
            rw [e, hc] at hcj
            cases hcj
            exact h1
      · rintro σ H' ⟨rfl, ⟨v, rfl⟩, hb⟩
        walk_at "s"
        refine k1 ⟨z, rfl, by omega, fun cj hcj => ?_⟩
        obtain ⟨j, hj, e⟩ := Array.mem_iff_getElem.mp (Array.mem_toList_iff.mp hcj)
        exact hb j cj hj (by rw [Array.getElem?_eq_getElem hj, e])
  · exact other "int" tyI (by decide +kernel) fun z e => nomatch e
  · exact other "NoneType" tyN (by decide +kernel) fun z e => nomatch e
  · exact other "bool" tyB (by decide +kernel) fun z e => nomatch e
  · exact other "list" (ty_sql h) (by decide +kernel) fun z e => nomatch e
  · exact other "tuple" (ty_sqt h) (by decide +kernel) fun z e => nomatch e
def N_sure_row : List Str := ["thing"]
def t_sure_row (K : PySem.W.Frag) (c : Cs) (E : XK) : TS := (tIfS (tNot (tB (tCall (sp_is_row K c) [] E (tCons (tVar 0) tNil)))) (tRaiseX c.NoRow (fun cls d _ H => E cls d H)) tNext)
def sp_sure_row (K : PySem.W.Frag) (c : Cs) : Sp := fun vs H Q E => ∃ v, vs = [v] ∧ RowV K H v ∧ (isRowV v → Q .non H) ∧ (¬ isRowV v → E (.ref c.NoRow) none H)
theorem len_sure_row {K c} : ∀ vs H Q E, sp_sure_row K c vs H Q E → vs.length = 1 := by rintro vs H Q E ⟨v, rfl, _⟩; rfl
theorem pure_sure_row {K : PySem.W.Frag} {c : Cs} {vs : List V} {H : Hp} {Q : VK} {E : XK} (h : sp_sure_row K c vs H Q E) : t_sure_row K c E ⟨fun _ H' => Q .non H', Q, fun _ _ => False, fun _ _ => False⟩ (start N_sure_row vs) H := by
  obtain ⟨v, rfl, hv, k1, k2⟩ := h
  show t_sure_row K c E _ [some v] H
  unfold t_sure_row
  walk_at "s"
  refine ⟨v, rfl, hv, fun y => ?_, fun n => ?_⟩
  · walk_at "s"
    refine iteF ?_
    walk_at "s"
    exact k1 y
  · walk_at "s"
    refine iteT ?_
    walk_at "s"
    exact k2 n
end Tw

namespace Tw
open PySem L2 Ts Mix
/-! ### the ledger -/
/-- what the sum of two sums is given out for -/
def pk (a b : Nat) : MK := .tup [(a : Int), (b : Int)]
theorem pk_inj {a b x y : Nat} (h : pk a b = pk x y) : a = x ∧ b = y := by
  have e := MK.tup.inj h
  simp only [List.cons.injEq, and_true] at e
  omega
/-- asked for the sum of k -/
def ask (ths : List MK) (k : MK) : List MK := if k ∈ ths then ths else ths ++ [k]
def num (ths : List MK) (k : MK) : Nat := ths.idxOf k
theorem ask_mem (ths : List MK) (k : MK) : k ∈ ask ths k := by
  unfold ask
  split
  · assumption
  · simp
theorem ask_nd {ths : List MK} {k : MK} (h : ths.Nodup) : (ask ths k).Nodup := by
  unfold ask
  split
  · exact h
  · rename_i n
    exact nd_snoc h n
theorem ask_pre (ths : List MK) (k : MK) : ths <+: ask ths k := by
  unfold ask
  split
  · exact List.prefix_refl _
  · exact List.prefix_append _ _
theorem ask_len (ths : List MK) (k : MK) : (ask ths k).length ≤ ths.length + 1 := by
  unfold ask
  split
  · omega
  · simp
theorem num_get {ths : List MK} {k : MK} (h : k ∈ ths) : ths[num ths k]? = some k := by
  unfold num
  rw [List.getElem?_eq_getElem (List.idxOf_lt_length_of_mem h)]
  exact congrArg some (List.getElem_idxOf _)
theorem num_lt {ths : List MK} {k : MK} (h : k ∈ ths) : num ths k < ths.length := List.idxOf_lt_length_of_mem h
/-- the dict's entries: each thing, as it was handed in, and its number -/
def ents : Nat → List MK → List V → Ks
  | _, [], _ => []
  | _, _, [] => []
  | i, k :: ks, v :: vs => (k, v, .int (i : Nat)) :: ents (i + 1) ks vs
theorem ents_kk : ∀ (i : Nat) (ks : List MK) (vs : List V), ks.length = vs.length → kk (ents i ks vs) = ks
  | _, [], _, _ => rfl
  | _, _ :: _, [], h => by simp at h
  | i, k :: ks, v :: vs, h => by
    show k :: kk (ents (i + 1) ks vs) = k :: ks
    rw [ents_kk (i + 1) ks vs (by simpa using h)]
theorem ents_len (i : Nat) (ks : List MK) (vs : List V) (h : ks.length = vs.length) : (ents i ks vs).length = ks.length := by
  have e := congrArg List.length (ents_kk i ks vs h)
  simpa [kk] using e
theorem ents_snoc : ∀ (i : Nat) (ks : List MK) (vs : List V) (k : MK) (v : V), ks.length = vs.length → ents i (ks ++ [k]) (vs ++ [v]) = ents i ks vs ++ [(k, v, .int ((i + ks.length : Nat) : Int))]
  | i, [], [], k, v, _ => rfl
  | _, [], _ :: _, _, _, h => by simp at h
  | _, _ :: _, [], _, _, h => by simp at h
  | i, a :: ks, b :: vs, k, v, h => by
    show (a, b, V.int (i : Nat)) :: ents (i + 1) (ks ++ [k]) (vs ++ [v]) = (a, b, V.int (i : Nat)) :: (ents (i + 1) ks vs ++ _)
    rw [ents_snoc (i + 1) ks vs k v (by simpa using h), List.length_cons, show i + 1 + ks.length = i + (ks.length + 1) by omega]
theorem ents_get : ∀ (i : Nat) (ks : List MK) (vs : List V) (j : Nat) (k : MK), ks.length = vs.length → ks[j]? = some k → ∃ v, (ents i ks vs)[j]? = some (k, v, .int ((i + j : Nat) : Int)) ∧ vs[j]? = some v
  | _, [], _, j, k, _, h => by simp at h
  | _, _ :: _, [], _, _, h, _ => by simp at h
  | i, a :: ks, b :: vs, 0, k, h, e => by
    simp at e
    subst e
    exact ⟨b, rfl, rfl⟩
  | i, a :: ks, b :: vs, j + 1, k, h, e => by
    obtain ⟨v, h1, h2⟩ := ents_get (i + 1) ks vs j k (by simpa using h) (by simpa using e)
    refine ⟨v, ?_, by simpa using h2⟩
    show (ents (i + 1) ks vs)[j]? = _
    rw [h1, show i + 1 + j = i + (j + 1) by omega]
theorem ents_keys : ∀ (i : Nat) {H : Hp} {ks : List MK} {vs : List V}, Paired (KeyV H) ks vs → KeysV H (ents i ks vs)
  | _, _, _, _, .nil => fun p hp => nomatch hp
  | i, H, _, _, .cons h t => fun p hp => by
    rcases List.mem_cons.mp hp with e | hp
    · subst e; exact h
    · exact ents_keys (i + 1) t p hp
/-- the ledger's attributes -/
def lfl (d l : Addr) : List (Str × V) := putF "things" (.ref l) (putF "given" (.ref d) [])
theorem lfl_given {d l : Addr} : (lfl d l).lookup ("given" : Str) = some (.ref d) := by
  unfold lfl
  rw [lookup_putF, if_neg (by decide +kernel), lookup_putF, if_pos rfl]
theorem lfl_things {d l : Addr} : (lfl d l).lookup ("things" : Str) = some (.ref l) := by
  unfold lfl
  rw [lookup_putF, if_pos rfl]
theorem lfl_no {d l : Addr} {m : Str} (h1 : ¬ m = "given") (h2 : ¬ m = "things") : (lfl d l).lookup m = none := by
  unfold lfl
  rw [lookup_putF, if_neg h2, lookup_putF, if_neg h1]
  rfl
/-- a ledger that has given out the sums of ths -/
structure LedgerAt (c : Cs) (H : Hp) (p d l : Addr) (ths : List MK) (vs : List V) : Prop where
  ob : ∃ dx, H p = some (.ins c.Ledger dx (lfl d l))
  dc : H d = some (c.md d (ents 0 ths vs))
  ls : H l = some (.lst vs)
  kv : Paired (KeyV H) ths vs
  nd : ths.Nodup
theorem paired_len {α β : Type} {F : α → β → Prop} {xs : List α} {ys : List β} (p : Paired F xs ys) : xs.length = ys.length := Paired.length p
section
variable {K : PySem.W.Frag} {c : Cs} {H H' : Hp} {p d l : Addr} {ths : List MK} {vs : List V}
theorem LedgerAt.len (L : LedgerAt c H p d l ths vs) : ths.length = vs.length := paired_len L.kv
theorem LedgerAt.pd (T : TxK K c) (L : LedgerAt c H p d l ths vs) : p ≠ d := by
  obtain ⟨dx, h⟩ := L.ob
  obtain ⟨φ, e⟩ := T.md d (ents 0 ths vs)
  exact ne_of h L.dc (by rw [e]; exact fun z => nomatch z)
theorem LedgerAt.pl (L : LedgerAt c H p d l ths vs) : p ≠ l := by
  obtain ⟨dx, h⟩ := L.ob
  exact ne_of h L.ls fun z => nomatch z
theorem LedgerAt.dl (T : TxK K c) (L : LedgerAt c H p d l ths vs) : d ≠ l := by
  obtain ⟨φ, e⟩ := T.md d (ents 0 ths vs)
  exact ne_of L.dc L.ls (by rw [e]; exact fun z => nomatch z)
theorem paired_imp {α β : Type} {F G : α → β → Prop} {xs : List α} {ys : List β} (p : Paired F xs ys) (h : ∀ a b, F a b → G a b) : Paired G xs ys := Paired.mapP p h
/-- a ledger stands where what it is made of stands -/
theorem LedgerAt.kp {S : List Addr} (T : TxK K c) (L : LedgerAt c H p d l ths vs) (k : Kp S H H') (h : ∀ x ∈ S, x ≠ d ∧ x ≠ l ∧ (∀ o, H x = some o → ∃ ys, o = .lst ys)) : LedgerAt c H' p d l ths vs := by
  obtain ⟨dx, hp⟩ := L.ob
  refine ⟨⟨dx, k _ _ hp fun z => ?_⟩, k _ _ L.dc fun z => (h _ z).1 rfl, k _ _ L.ls fun z => (h _ z).2.1 rfl, paired_imp L.kv fun a b q => k.keyV q fun x o hx ho => ?_, L.nd⟩
  · obtain ⟨ys, e⟩ := (h _ z).2.2 _ hp
    exact nomatch e
  · obtain ⟨ys, e⟩ := (h _ hx).2.2 _ ho
    rintro ⟨zs, e2⟩
    rw [e] at e2
    exact nomatch e2
theorem LedgerAt.ex (L : LedgerAt c H p d l ths vs) (e : Ex H H') : LedgerAt c H' p d l ths vs := by
  obtain ⟨dx, hp⟩ := L.ob
  exact ⟨⟨dx, e _ _ hp⟩, e _ _ L.dc, e _ _ L.ls, paired_imp L.kv fun a b q => keyV_ex e q, L.nd⟩
end
def N_Ledger_init : List Str := ["self"]
def t_Ledger_init (K : PySem.W.Frag) (c : Cs) (E : XK) : TS := (tSeq (sFld K (tVar 0) (tMNew c.md) "given")
  (sFld K (tVar 0) (tLst tNil) "things"))
def sp_Ledger_init (K : PySem.W.Frag) (c : Cs) : Sp := fun vs H Q _ => ∃ p dx, vs = [.ref p] ∧ H p = some (.ins c.Ledger dx []) ∧ ∀ d l H', H d = none → H l = none → LedgerAt c H' p d l [] [] → Kp [p] H H' → Q .non H'
theorem len_Ledger_init {K c} : ∀ vs H Q E, sp_Ledger_init K c vs H Q E → vs.length = 1 := by rintro vs H Q E ⟨p, dx, rfl, _⟩; rfl
theorem pure_Ledger_init {K : PySem.W.Frag} {c : Cs} {vs : List V} {H : Hp} {Q : VK} {E : XK} (T : TxK K c) (h : sp_Ledger_init K c vs H Q E) : t_Ledger_init K c E ⟨fun _ H' => Q .non H', Q, fun _ _ => False, fun _ _ => False⟩ (start N_Ledger_init vs) H := by
  obtain ⟨p, dx, rfl, hp, k⟩ := h
  show t_Ledger_init K c E _ [some (.ref p)] H
  unfold t_Ledger_init
  walk_at "s"
  intro d hd
  walk_at "s"
  have npd : p ≠ d := ne_of_none hp hd
  refine w_sfldAt (by rw [upd_ne npd]; exact hp) T.cLedger T.n_Ledger_given (by show 0 < 1000; decide) ?_
  walk_at "s"
  refine ⟨Nat.zero_le _, fun l hl => ?_⟩
  walk_at "s"
  have nlp : l ≠ p := fun z => by rw [z, upd_same] at hl; cases hl
  rw [upd_ne nlp] at hl
  have nld : l ≠ d := fun z => by rw [z, upd_same] at hl; cases hl
  rw [upd_ne nld] at hl
  refine w_sfldAt (by rw [upd_ne nlp.symm, upd_same]) T.cLedger T.n_Ledger_things (by show 1 < 1000; decide) ?_
  refine k d l _ hd hl ⟨⟨dx, upd_same⟩, ?_, ?_, .nil, List.nodup_nil⟩ ?_
  · rw [upd_ne npd.symm, upd_ne nld.symm, upd_ne npd.symm, upd_same]; rfl
  · rw [upd_ne nlp, upd_same]
  · exact (((Kp.refl.fresh hd).set List.mem_cons_self).fresh hl).set List.mem_cons_self
def N_Ledger_number_of : List Str := ["self", "thing"]
def t_Ledger_number_of (K : PySem.W.Frag) (c : Cs) (E : XK) : TS := (tSeq (tIfS (tB (tMNotIn c.md (tVar 1) (tFld K (tVar 0) "given"))) (tSeq (sMPut c.md (tFld K (tVar 0) "given") (tVar 1) (tCB (rLen K) (tCons (tFld K (tVar 0) "things") tNil)))
  (tDrop (tBM K "list" rAppend (tFld K (tVar 0) "things") (tCons (tVar 1) tNil)))) tNext)
  (tRet (tMGet c.md (tFld K (tVar 0) "given") (tVar 1))))
def sp_Ledger_number_of (K : PySem.W.Frag) (c : Cs) : Sp := fun vs H Q _ => ∃ p d l ths xs k v, vs = [.ref p, v] ∧ LedgerAt c H p d l ths xs ∧ KeyV H k v ∧ ths.length < 1000000 ∧
  ∀ H' xs', LedgerAt c H' p d l (ask ths k) xs' → Kp [d, l] H H' → Q (.int (num (ask ths k) k : Nat)) H'
theorem len_Ledger_number_of {K c} : ∀ vs H Q E, sp_Ledger_number_of K c vs H Q E → vs.length = 2 := by rintro vs H Q E ⟨p, d, l, ths, xs, k, v, rfl, _⟩; rfl
theorem pure_Ledger_number_of {K : PySem.W.Frag} {c : Cs} {vs : List V} {H : Hp} {Q : VK} {E : XK} (T : TxK K c) (h : sp_Ledger_number_of K c vs H Q E) : t_Ledger_number_of K c E ⟨fun _ H' => Q .non H', Q, fun _ _ => False, fun _ _ => False⟩ (start N_Ledger_number_of vs) H := by
  obtain ⟨p, d, l, ths, xs, k, v, rfl, L, kv, hz, q⟩ := h
  show t_Ledger_number_of K c E _ [some (.ref p), some v] H
  unfold t_Ledger_number_of
  obtain ⟨dx, hp⟩ := L.ob
  have hl := L.len
  have ne1 := L.pd T
  have ne2 := L.pl
  have ne3 := L.dl T
  walk_at "s"
  refine w_fldAt hp T.cLedger T.n_Ledger_given lfl_given ?_
  refine ⟨d, _, k, rfl, L.dc, kv, ents_keys 0 L.kv, ?_⟩
  rw [ents_kk 0 ths xs hl]
  walk_at "s"
  by_cases hk : k ∈ ths
  · rw [hasG_yes hk]
    refine iteF ?_
    walk_at "s"
    refine w_fldAt hp T.cLedger T.n_Ledger_given lfl_given ?_
    walk_at "s"
    obtain ⟨v', h1, _⟩ := ents_get 0 ths xs (num ths k) k hl (num_get hk)
    refine ⟨d, _, k, num ths k, _, rfl, L.dc, kv, ents_keys 0 L.kv, h1, ?_⟩
    have e : ask ths k = ths := by unfold ask; rw [if_pos hk]
    rw [Nat.zero_add]
    have := q H xs (by rw [e]; exact L) Kp.refl
    rw [e] at this
    exact this
  · rw [hasG_no hk]
    refine iteT ?_
    walk_at "s"
    refine w_fldAt hp T.cLedger T.n_Ledger_things lfl_things ?_
    walk_at "s"
    refine w_lenL (sql L.ls) ?_
    walk_at "s"
    refine w_fldAt hp T.cLedger T.n_Ledger_given lfl_given ?_
    walk_at "s"
    refine ⟨d, _, k, rfl, L.dc, kv, ents_keys 0 L.kv, by rw [ents_kk 0 ths xs hl]; exact hk, by rw [ents_len 0 ths xs hl]; exact szL hz, ?_⟩
    walk_at "s"
    have hp1 : ∀ o, (upd H d o) p = some (.ins c.Ledger dx (lfl d l)) := fun o => by rw [upd_ne ne1]; exact hp
    refine w_fldAt (hp1 _) T.cLedger T.n_Ledger_things lfl_things ?_
    have hl1 : ∀ o, (upd H d o) l = some (.lst xs) := fun o => by rw [upd_ne ne3.symm]; exact L.ls
    refine ⟨w_tyL (sql (hl1 _)), ?_⟩
    walk_at "s"
    refine w_app (hl1 _) (by rw [← hl]; exact szL hz) ?_
    walk_at "s"
    refine w_fldAt (by rw [upd_ne ne2]; exact hp1 _) T.cLedger T.n_Ledger_given lfl_given ?_
    walk_at "s"
    have e : ask ths k = ths ++ [k] := by unfold ask; rw [if_neg hk]
    have es := ents_snoc 0 ths xs k v hl
    rw [Nat.zero_add] at es
    -- the tuples stand
    have kv2 : ∀ {k' : MK} {v' : V}, KeyV H k' v' → KeyV (upd (upd H d (c.md d (ents 0 ths xs ++ [(k, v, V.int (xs.length : Nat))]))) l (.lst (xs ++ [v]))) k' v' := fun {k' v'} z => by
      refine (((Kp.refl (S := [d, l])).set (p := d) (by simp)).set (p := l) (by simp)).keyV z fun x o hx ho => ?_
      obtain ⟨φ, e2⟩ := T.md d (ents 0 ths xs)
      rintro ⟨ys, e3⟩
      subst e3
      rcases List.mem_cons.mp hx with r | r
      · rw [r, L.dc, e2] at ho; exact nomatch ho
      · rw [List.mem_singleton.mp r, L.ls] at ho; exact nomatch ho
    have L' : LedgerAt c (upd (upd H d (c.md d (ents 0 ths xs ++ [(k, v, V.int (xs.length : Nat))]))) l (.lst (xs ++ [v]))) p d l (ths ++ [k]) (xs ++ [v]) := by
      refine ⟨⟨dx, by rw [upd_ne ne2]; exact hp1 _⟩, ?_, upd_same, Paired.snoc (paired_imp L.kv fun a b z => kv2 z) (kv2 kv), nd_snoc L.nd hk⟩
      rw [upd_ne ne3, upd_same, es, hl]
    have g : (ents 0 ths xs ++ [(k, v, V.int (xs.length : Nat))])[ths.length]? = some (k, v, V.int (xs.length : Nat)) := by
      rw [List.getElem?_append_right (by rw [ents_len 0 ths xs hl]; exact Nat.le_refl _), ents_len 0 ths xs hl, Nat.sub_self]; rfl
    refine ⟨d, _, k, ths.length, _, rfl, by rw [upd_ne ne3, upd_same], kv2 kv, ?_, g, ?_⟩
    · have z := ents_keys 0 L'.kv
      rw [es, hl] at z
      exact z
    · have z := q _ _ (by rw [e]; exact L') (((Kp.refl (S := [d, l])).set (p := d) (by simp)).set (p := l) (by simp))
      have n : num (ask ths k) k = xs.length := by
        rw [e, ← hl]
        unfold num
        rw [List.idxOf_append, if_neg hk]
        simp
      rw [n] at z
      exact z
end Tw

namespace Tw
open PySem L2 Ts Mix
section
variable {K : PySem.W.Frag} {c : Cs} {H H' : Hp} {p d l : Addr} {ths : List MK} {vs : List V}
theorem LedgerAt.no {m : Str} (h1 : ¬ m = "given") (h2 : ¬ m = "things") : (lfl d l).lookup m = none := lfl_no h1 h2
end
/-- a number that was given out -/
def NumV (n : Nat) (v : V) : Prop := ∃ i : Nat, v = .int i ∧ i < n
theorem whole_of_num {K : PySem.W.Frag} {H : Hp} {n : Nat} {v : V} (h : NumV n v) : isWholeV K H v true := by
  obtain ⟨i, rfl, _⟩ := h
  exact .inl ⟨_, rfl, rfl⟩
def N_Ledger_sure : List Str := ["self", "number"]
def t_Ledger_sure (K : PySem.W.Frag) (c : Cs) (E : XK) : TS := (tIfS (tOr (tNot (tB (tCall (sp_is_whole K c) [] E (tCons (tVar 1) tNil)))) (tNot (tTest (tChain rLe rLt (tC (.int 0)) (tVar 1) (tCB (rLen K) (tCons (tFld K (tVar 0) "things") tNil)))))) (tRaiseX c.NoSum (fun cls d _ H => E cls d H)) tNext)
def sp_Ledger_sure (K : PySem.W.Frag) (c : Cs) : Sp := fun vs H Q E => ∃ p d l ths xs v b, vs = [.ref p, v] ∧ LedgerAt c H p d l ths xs ∧ isWholeV K H v b ∧ (NumV ths.length v → Q .non H) ∧ (¬ NumV ths.length v → E (.ref c.NoSum) none H)
theorem len_Ledger_sure {K c} : ∀ vs H Q E, sp_Ledger_sure K c vs H Q E → vs.length = 2 := by rintro vs H Q E ⟨p, d, l, ths, xs, v, b, rfl, _⟩; rfl
theorem pure_Ledger_sure {K : PySem.W.Frag} {c : Cs} {vs : List V} {H : Hp} {Q : VK} {E : XK} (T : TxK K c) (h : sp_Ledger_sure K c vs H Q E) : t_Ledger_sure K c E ⟨fun _ H' => Q .non H', Q, fun _ _ => False, fun _ _ => False⟩ (start N_Ledger_sure vs) H := by
  obtain ⟨p, d, l, ths, xs, v, b, rfl, L, hw, k1, k2⟩ := h
  show t_Ledger_sure K c E _ [some (.ref p), some v] H
  unfold t_Ledger_sure
  obtain ⟨dx, hp⟩ := L.ob
  have hl := L.len
  walk_at "s"
  refine ⟨v, b, rfl, hw, ?_⟩
  walk_at "s"
  refine ite_nb (fun hb => ?_) fun hb => ?_
  · refine iteT ?_
    walk_at "s"
    refine k2 fun ⟨i, e, _⟩ => ?_
    subst e
    rcases hw with ⟨_, _, z⟩ | ⟨x, z, _⟩ | ⟨x, z, _⟩ | ⟨z, _⟩ | ⟨a, ys, z, _⟩
    · rw [hb] at z; cases z
    all_goals exact nomatch z
  · subst hb
    obtain ⟨i, rfl⟩ : ∃ i, v = .int i := by
      rcases hw with ⟨i, z, _⟩ | ⟨x, _, z⟩ | ⟨x, _, z⟩ | ⟨_, z⟩ | ⟨a, ys, _, _, z⟩
      · exact ⟨i, z⟩
      all_goals cases z
    walk_at "s"
    refine ite_d (fun h0 => ?_) fun h0 => ?_
    · walk_at "s"
      refine w_fldAt hp T.cLedger T.n_Ledger_things lfl_things ?_
      walk_at "s"
      refine w_lenL (sql L.ls) ?_
      walk_at "s"
      refine ite_nd (fun h1 => ?_) fun h1 => ?_
      · walk_at "s"
        refine k2 fun ⟨n, e, hn⟩ => ?_
        cases e
        omega
      · walk_at "s"
        refine k1 ⟨i.toNat, by congr 1; omega, by omega⟩
    · walk_at "s"
      refine iteT ?_
      walk_at "s"
      refine k2 fun ⟨n, e, hn⟩ => ?_
      cases e
      omega
def N_Ledger_of_row : List Str := ["self", "row"]
def t_Ledger_of_row (K : PySem.W.Frag) (c : Cs) (E : XK) : TS := (tSeq (tDrop (tCall (sp_sure_row K c) [] E (tCons (tVar 1) tNil)))
  (tRet (tMeth c.Ledger "number_of" (sp_Ledger_number_of K c) [] E (tVar 0) (tCons (tVar 1) tNil))))
def sp_Ledger_of_row (K : PySem.W.Frag) (c : Cs) : Sp := fun vs H Q E => ∃ p d l ths xs v, vs = [.ref p, v] ∧ LedgerAt c H p d l ths xs ∧ RowV K H v ∧ ths.length < 1000000 ∧
  (∀ z, v = .str z → Good z → ∀ H' xs', LedgerAt c H' p d l (ask ths (.row z)) xs' → Kp [d, l] H H' → Q (.int (num (ask ths (.row z)) (.row z) : Nat)) H') ∧ (¬ isRowV v → E (.ref c.NoRow) none H)
theorem len_Ledger_of_row {K c} : ∀ vs H Q E, sp_Ledger_of_row K c vs H Q E → vs.length = 2 := by rintro vs H Q E ⟨p, d, l, ths, xs, v, rfl, _⟩; rfl
theorem pure_Ledger_of_row {K : PySem.W.Frag} {c : Cs} {vs : List V} {H : Hp} {Q : VK} {E : XK} (h : sp_Ledger_of_row K c vs H Q E) : t_Ledger_of_row K c E ⟨fun _ H' => Q .non H', Q, fun _ _ => False, fun _ _ => False⟩ (start N_Ledger_of_row vs) H := by
  obtain ⟨p, d, l, ths, xs, v, rfl, L, hv, hz, k1, k2⟩ := h
  show t_Ledger_of_row K c E _ [some (.ref p), some v] H
  unfold t_Ledger_of_row
  obtain ⟨dx, hp⟩ := L.ob
  walk_at "s"
  refine ⟨v, rfl, hv, fun y => ?_, k2⟩
  obtain ⟨z, rfl, hg⟩ := y
  walk_at "s"
  refine w_methAt hp (lfl_no (by decide +kernel) (by decide +kernel)) ?_
  walk_at "s"
  exact ⟨p, d, l, ths, xs, .row z, .str z, rfl, L, rfl, hz, fun H' xs' L' kp => k1 z rfl hg H' xs' L' kp⟩
def N_Ledger_of_pair : List Str := ["self", "one", "other"]
def t_Ledger_of_pair (K : PySem.W.Frag) (c : Cs) (E : XK) : TS := (tSeq (tDrop (tMeth c.Ledger "sure" (sp_Ledger_sure K c) [] E (tVar 0) (tCons (tVar 1) tNil)))
  (tSeq (tDrop (tMeth c.Ledger "sure" (sp_Ledger_sure K c) [] E (tVar 0) (tCons (tVar 2) tNil)))
  (tRet (tMeth c.Ledger "number_of" (sp_Ledger_number_of K c) [] E (tVar 0) (tCons (tTup (tCons (tVar 1) (tCons (tVar 2) tNil))) tNil)))))
def sp_Ledger_of_pair (K : PySem.W.Frag) (c : Cs) : Sp := fun vs H Q E => ∃ p d l ths xs v w b b', vs = [.ref p, v, w] ∧ LedgerAt c H p d l ths xs ∧ isWholeV K H v b ∧ isWholeV K H w b' ∧ ths.length < 1000000 ∧
  (∀ i j : Nat, v = .int i → w = .int j → i < ths.length → j < ths.length → ∀ H' xs', LedgerAt c H' p d l (ask ths (pk i j)) xs' → Kp [d, l] H H' → Q (.int (num (ask ths (pk i j)) (pk i j) : Nat)) H') ∧ (¬ (NumV ths.length v ∧ NumV ths.length w) → E (.ref c.NoSum) none H)
theorem len_Ledger_of_pair {K c} : ∀ vs H Q E, sp_Ledger_of_pair K c vs H Q E → vs.length = 3 := by rintro vs H Q E ⟨p, d, l, ths, xs, v, w, b, b', rfl, _⟩; rfl
theorem pure_Ledger_of_pair {K : PySem.W.Frag} {c : Cs} {vs : List V} {H : Hp} {Q : VK} {E : XK} (h : sp_Ledger_of_pair K c vs H Q E) : t_Ledger_of_pair K c E ⟨fun _ H' => Q .non H', Q, fun _ _ => False, fun _ _ => False⟩ (start N_Ledger_of_pair vs) H := by
  obtain ⟨p, d, l, ths, xs, v, w, b, b', rfl, L, hv, hw, hz, k1, k2⟩ := h
  show t_Ledger_of_pair K c E _ [some (.ref p), some v, some w] H
  unfold t_Ledger_of_pair
  obtain ⟨dx, hp⟩ := L.ob
  walk_at "s"
  refine w_methAt hp (lfl_no (by decide +kernel) (by decide +kernel)) ?_
  walk_at "s"
  refine ⟨p, d, l, ths, xs, v, b, rfl, L, hv, fun y1 => ?_, fun n => k2 fun z => n z.1⟩
  walk_at "s"
  refine w_methAt hp (lfl_no (by decide +kernel) (by decide +kernel)) ?_
  walk_at "s"
  refine ⟨p, d, l, ths, xs, w, b', rfl, L, hw, fun y2 => ?_, fun n => k2 fun z => n z.2⟩
  obtain ⟨i, rfl, hi⟩ := y1
  obtain ⟨j, rfl, hj⟩ := y2
  walk_at "s"
  refine w_methAt hp (lfl_no (by decide +kernel) (by decide +kernel)) ?_
  walk_at "s"
  refine ⟨by show 2 ≤ sizeLine; exact sz100 (by decide), fun t ht => ?_⟩
  walk_at "s"
  have e : Ex H (upd H t (.tup [.int i, .int j])) := ex_new ex_refl ht
  exact ⟨p, d, l, ths, xs, pk i j, .ref t, rfl, L.ex e, ⟨t, rfl, upd_same⟩, hz, fun H' xs' L' kp => k1 i j rfl rfl hi hj H' xs' L' ((Kp.of_ex e).trans kp)⟩
def N_Ledger_what : List Str := ["self", "number"]
def t_Ledger_what (K : PySem.W.Frag) (c : Cs) (E : XK) : TS := (tSeq (tDrop (tMeth c.Ledger "sure" (sp_Ledger_sure K c) [] E (tVar 0) (tCons (tVar 1) tNil)))
  (tRet (tOp (rIx K) (tFld K (tVar 0) "things") (tVar 1))))
def sp_Ledger_what (K : PySem.W.Frag) (c : Cs) : Sp := fun vs H Q E => ∃ p d l ths xs v b, vs = [.ref p, v] ∧ LedgerAt c H p d l ths xs ∧ isWholeV K H v b ∧
  (∀ (i : Nat) k w, v = .int i → ths[i]? = some k → xs[i]? = some w → KeyV H k w → Q w H) ∧ (¬ NumV ths.length v → E (.ref c.NoSum) none H)
theorem len_Ledger_what {K c} : ∀ vs H Q E, sp_Ledger_what K c vs H Q E → vs.length = 2 := by rintro vs H Q E ⟨p, d, l, ths, xs, v, b, rfl, _⟩; rfl
theorem paired_get {α β : Type} {F : α → β → Prop} : ∀ {xs : List α} {ys : List β} {i : Nat} {x : α}, Paired F xs ys → xs[i]? = some x → ∃ y, ys[i]? = some y ∧ F x y
  | _, _, i, x, .nil, e => by simp at e
  | _, _, 0, x, .cons h t, e => by simp at e; subst e; exact ⟨_, rfl, h⟩
  | _, _, i + 1, x, .cons h t, e => by
    obtain ⟨y, h1, h2⟩ := paired_get (i := i) (x := x) t (by simpa using e)
    exact ⟨y, by simpa using h1, h2⟩
theorem pure_Ledger_what {K : PySem.W.Frag} {c : Cs} {vs : List V} {H : Hp} {Q : VK} {E : XK} (T : TxK K c) (h : sp_Ledger_what K c vs H Q E) : t_Ledger_what K c E ⟨fun _ H' => Q .non H', Q, fun _ _ => False, fun _ _ => False⟩ (start N_Ledger_what vs) H := by
  obtain ⟨p, d, l, ths, xs, v, b, rfl, L, hv, k1, k2⟩ := h
  show t_Ledger_what K c E _ [some (.ref p), some v] H
  unfold t_Ledger_what
  obtain ⟨dx, hp⟩ := L.ob
  walk_at "s"
  refine w_methAt hp (lfl_no (by decide +kernel) (by decide +kernel)) ?_
  walk_at "s"
  refine ⟨p, d, l, ths, xs, v, b, rfl, L, hv, fun y1 => ?_, k2⟩
  obtain ⟨i, rfl, hi⟩ := y1
  walk_at "s"
  refine w_fldAt hp T.cLedger T.n_Ledger_things lfl_things ?_
  walk_at "s"
  obtain ⟨w, h1, h2⟩ := paired_get L.kv (List.getElem?_eq_getElem hi)
  exact w_ixL (sql L.ls) (atI_nat h1) (k1 i _ w rfl (List.getElem?_eq_getElem hi) h1 h2)
def N_Ledger_many : List Str := ["self"]
def t_Ledger_many (K : PySem.W.Frag) (c : Cs) (E : XK) : TS := (tRet (tCB (rLen K) (tCons (tFld K (tVar 0) "things") tNil)))
def sp_Ledger_many (K : PySem.W.Frag) (c : Cs) : Sp := fun vs H Q _ => ∃ p d l ths xs, vs = [.ref p] ∧ LedgerAt c H p d l ths xs ∧ ths.length < 1000000 ∧ Q (.int (ths.length : Nat)) H
theorem len_Ledger_many {K c} : ∀ vs H Q E, sp_Ledger_many K c vs H Q E → vs.length = 1 := by rintro vs H Q E ⟨p, d, l, ths, xs, rfl, _⟩; rfl
theorem pure_Ledger_many {K : PySem.W.Frag} {c : Cs} {vs : List V} {H : Hp} {Q : VK} {E : XK} (T : TxK K c) (h : sp_Ledger_many K c vs H Q E) : t_Ledger_many K c E ⟨fun _ H' => Q .non H', Q, fun _ _ => False, fun _ _ => False⟩ (start N_Ledger_many vs) H := by
  obtain ⟨p, d, l, ths, xs, rfl, L, hz, k⟩ := h
  show t_Ledger_many K c E _ [some (.ref p)] H
  unfold t_Ledger_many
  obtain ⟨dx, hp⟩ := L.ob
  walk_at "s"
  refine w_fldAt hp T.cLedger T.n_Ledger_things lfl_things ?_
  walk_at "s"
  refine w_lenL (sql L.ls) ?_
  rw [← L.len]
  exact k
end Tw

namespace Tw
open PySem L2 Ts Mix
/-! ### blocks, and what a sum is of: the mathematics -/
def lev (levels : List (List Nat)) (h : Nat) : List Nat := levels.getD h []
/-- the rows of a block -/
def blk (rows : List Str) (h j : Nat) : List Str := (rows.drop (j * 2 ^ h)).take (2 ^ h)
/-- the number n is given out for the rows rs, by halves, h high -/
def Den (ths : List MK) : Nat → Nat → List Str → Prop
  | 0, n, rs => ∃ z, rs = [z] ∧ ths[n]? = some (.row z)
  | h + 1, n, rs => ∃ a b r1 r2, ths[n]? = some (pk a b) ∧ Den ths h a r1 ∧ Den ths h b r2 ∧ rs = r1 ++ r2
theorem pre_get {α : Type} {xs ys : List α} (h : xs <+: ys) {i : Nat} {x : α} (e : xs[i]? = some x) : ys[i]? = some x := by
  obtain ⟨t, rfl⟩ := h
  rw [List.getElem?_append_left (List.getElem?_eq_some_iff.mp e).1]
  exact e
theorem Den.mono {ths ths' : List MK} (p : ths <+: ths') : ∀ {h n : Nat} {rs : List Str}, Den ths h n rs → Den ths' h n rs
  | 0, _, _, ⟨z, e, g⟩ => ⟨z, e, pre_get p g⟩
  | _ + 1, _, _, ⟨a, b, r1, r2, g, d1, d2, e⟩ => ⟨a, b, r1, r2, pre_get p g, d1.mono p, d2.mono p, e⟩
theorem Den.lt {ths : List MK} : ∀ {h n : Nat} {rs : List Str}, Den ths h n rs → n < ths.length
  | 0, _, _, ⟨_, _, g⟩ => get_lt g
  | _ + 1, _, _, ⟨_, _, _, _, g, _⟩ => get_lt g
theorem Den.len {ths : List MK} : ∀ {h n : Nat} {rs : List Str}, Den ths h n rs → rs.length = 2 ^ h
  | 0, _, _, ⟨_, e, _⟩ => by rw [e]; rfl
  | h + 1, _, _, ⟨_, _, _, _, _, d1, d2, e⟩ => by rw [e, List.length_append, d1.len, d2.len, Nat.pow_succ]; omega
/-- one number, one block -/
theorem Den.rows_eq {ths : List MK} : ∀ {h n : Nat} {r s : List Str}, Den ths h n r → Den ths h n s → r = s
  | 0, _, _, _, ⟨z, e, g⟩, ⟨z', e', g'⟩ => by rw [g] at g'; cases g'; rw [e, e']
  | h + 1, _, _, _, ⟨a, b, r1, r2, g, d1, d2, e⟩, ⟨a', b', s1, s2, g', d1', d2', e'⟩ => by
    rw [g] at g'
    obtain ⟨rfl, rfl⟩ := pk_inj (Option.some.inj g')
    rw [e, e', d1.rows_eq d1', d2.rows_eq d2']
/-- one block, one number -/
theorem Den.num_eq {ths : List MK} (nd : ths.Nodup) : ∀ {h n m : Nat} {r : List Str}, Den ths h n r → Den ths h m r → n = m
  | 0, _, _, _, ⟨z, e, g⟩, ⟨z', e', g'⟩ => by
    rw [e] at e'
    cases e'
    exact nd_ix nd g g'
  | h + 1, n, m, _, ⟨a, b, r1, r2, g, d1, d2, e⟩, ⟨a', b', s1, s2, g', d1', d2', e'⟩ => by
    rw [e] at e'
    have hl : r1.length = s1.length := by rw [d1.len, d1'.len]
    obtain ⟨e1, e2⟩ := List.append_inj e' hl
    subst e1 e2
    have x1 := d1.num_eq nd d1'
    have x2 := d2.num_eq nd d2'
    subst x1 x2
    exact nd_ix nd g g'
theorem Den.iff {ths : List MK} (nd : ths.Nodup) {h n m : Nat} {r s : List Str} (a : Den ths h n r) (b : Den ths h m s) : n = m ↔ r = s :=
  ⟨fun e => by subst e; exact a.rows_eq b, fun e => by subst e; exact a.num_eq nd b⟩
/-! blocks of rows -/
theorem blk_len {rows : List Str} {h j : Nat} (hj : (j + 1) * 2 ^ h ≤ rows.length) : (blk rows h j).length = 2 ^ h := by
  unfold blk
  rw [List.length_take, List.length_drop]
  have : (j + 1) * 2 ^ h = j * 2 ^ h + 2 ^ h := by rw [Nat.add_mul, Nat.one_mul]
  omega
theorem blk_succ (rows : List Str) (h j : Nat) : blk rows (h + 1) j = blk rows h (2 * j) ++ blk rows h (2 * j + 1) := by
  unfold blk
  have e1 : 2 ^ (h + 1) = 2 ^ h + 2 ^ h := by rw [Nat.pow_succ]; omega
  have e2 : j * (2 ^ h + 2 ^ h) = 2 * j * 2 ^ h := by rw [Nat.mul_add, Nat.mul_comm 2 j, Nat.mul_assoc, Nat.two_mul, Nat.mul_add]
  have e3 : (2 * j + 1) * 2 ^ h = 2 * j * 2 ^ h + 2 ^ h := by rw [Nat.add_mul, Nat.one_mul]
  rw [e1, e2, e3, List.take_add, List.drop_drop]
theorem lt_div_iff {j n h : Nat} : j < n / 2 ^ h ↔ (j + 1) * 2 ^ h ≤ n := by
  rw [← Nat.succ_le_iff]
  exact Nat.le_div_iff_mul_le (Nat.two_pow_pos h)
theorem blk_zero {rows : List Str} {j : Nat} {z : Str} (h : rows[j]? = some z) : blk rows 0 j = [z] := by
  unfold blk
  rw [Nat.pow_zero, Nat.mul_one, drop_at h]
  rfl
/-- rows further on don't matter -/
theorem blk_append {rows more : List Str} {h j : Nat} (hj : (j + 1) * 2 ^ h ≤ rows.length) : blk (rows ++ more) h j = blk rows h j := by
  unfold blk
  have : (j + 1) * 2 ^ h = j * 2 ^ h + 2 ^ h := by rw [Nat.add_mul, Nat.one_mul]
  generalize 2 ^ h = s at *
  rw [List.drop_append_of_le_length (by omega), List.take_append_of_le_length (by rw [List.length_drop]; omega)]
/-- a row elsewhere doesn't matter -/
theorem blk_set {rows : List Str} {place h j : Nat} {z : Str} (hj : j ≠ place / 2 ^ h) : blk (rows.set place z) h j = blk rows h j := by
  unfold blk
  apply List.ext_getElem?
  intro i
  rw [List.getElem?_take, List.getElem?_take]
  by_cases hi : i < 2 ^ h
  · rw [if_pos hi, if_pos hi, List.getElem?_drop, List.getElem?_drop, List.getElem?_set_ne]
    intro e
    apply hj
    rw [e, Nat.mul_comm, Nat.mul_add_div (Nat.two_pow_pos h), Nat.div_eq_of_lt hi, Nat.add_zero]
  · rw [if_neg hi, if_neg hi]

/-! ### the levels -/
def shp (levels : List (List Nat)) (n : Nat) : Prop := ∀ h, (lev levels h).length = n / 2 ^ h
/-- the levels of a book's rows, by what was given out -/
structure BookInv (ths : List MK) (rows : List Str) (levels : List (List Nat)) : Prop where
  len : ∀ h, (lev levels h).length = rows.length / 2 ^ h
  den : ∀ h j x, (lev levels h)[j]? = some x → Den ths h x (blk rows h j)
theorem BookInv.mono {ths ths' : List MK} {rows : List Str} {levels : List (List Nat)} (I : BookInv ths rows levels) (p : ths <+: ths') : BookInv ths' rows levels := ⟨I.len, fun h j x e => (I.den h j x e).mono p⟩
theorem lev_get {levels : List (List Nat)} {h : Nat} {l : List Nat} (e : levels[h]? = some l) : lev levels h = l := by unfold lev; rw [List.getD_eq_getElem?_getD, e]; rfl
theorem lev_out {levels : List (List Nat)} {h : Nat} (e : levels.length ≤ h) : lev levels h = [] := by unfold lev; rw [List.getD_eq_getElem?_getD, List.getElem?_eq_none e]; rfl
theorem lev_set {levels : List (List Nat)} {h k : Nat} {l : List Nat} (hk : h < levels.length) : lev (levels.set h l) k = if k = h then l else lev levels k := by
  unfold lev
  rw [List.getD_eq_getElem?_getD, List.getD_eq_getElem?_getD, List.getElem?_set]
  by_cases e : h = k
  · subst e
    rw [if_pos rfl, if_pos hk, if_pos rfl]; rfl
  · rw [if_neg e, if_neg (Ne.symm e)]
/-- a sum more at a height -/
def addAt (levels : List (List Nat)) (h x : Nat) : List (List Nat) := if h = levels.length then levels ++ [[x]] else levels.set h (lev levels h ++ [x])
theorem lev_addAt {levels : List (List Nat)} {h x k : Nat} (hh : h ≤ levels.length) : lev (addAt levels h x) k = if k = h then lev levels h ++ [x] else lev levels k := by
  unfold addAt
  by_cases e : h = levels.length
  · rw [if_pos e]
    unfold lev
    rw [List.getD_eq_getElem?_getD, List.getD_eq_getElem?_getD, List.getD_eq_getElem?_getD, List.getElem?_append]
    by_cases q : k = h
    · subst q
      rw [if_neg (by omega), if_pos rfl, e, Nat.sub_self, List.getElem?_eq_none (l := levels) (by omega)]; rfl
    · rw [if_neg q]
      by_cases r : k < levels.length
      · rw [if_pos r]
      · rw [if_neg r, List.getElem?_eq_none (l := levels) (by omega), List.getElem?_eq_none (by simp; omega)]
  · rw [if_neg e, lev_set (by omega)]
theorem addAt_len {levels : List (List Nat)} {h x : Nat} (hh : h ≤ levels.length) : (addAt levels h x).length = max levels.length (h + 1) := by
  unfold addAt
  split
  · rw [List.length_append]; simp; omega
  · rw [List.length_set]; omega
/-! growing -/
def growL : Nat → Nat → Nat → Nat → List MK → List (List Nat) → List MK × List (List Nat) × Nat
  | 0, h, _, _, ths, levels => (ths, levels, h)
  | f + 1, h, size, found, ths, levels =>
    if size % 2 = 1 then (ths, addAt levels h found, h + 1)
    else growL f (h + 1) (size / 2) (num (ask ths (pk ((lev (addAt levels h found) h).getD (size - 2) 0) ((lev (addAt levels h found) h).getD (size - 1) 0))) (pk ((lev (addAt levels h found) h).getD (size - 2) 0) ((lev (addAt levels h found) h).getD (size - 1) 0)))
      (ask ths (pk ((lev (addAt levels h found) h).getD (size - 2) 0) ((lev (addAt levels h found) h).getD (size - 1) 0))) (addAt levels h found)
def growM (ths : List MK) (rows : List Str) (levels : List (List Nat)) (z : Str) : List MK × List (List Nat) × Nat :=
  growL (rows.length + 1) 0 (rows.length + 1) (num (ask ths (.row z)) (.row z)) (ask ths (.row z)) levels
/-- what holds ahead of a turn at height h: the heights below are done, found is the block's sum that comes here -/
structure GInv (ths : List MK) (rows : List Str) (h size found : Nat) (levels : List (List Nat)) : Prop where
  n : rows.length = size * 2 ^ h
  pos : 0 < size
  lo : ∀ k, k < h → (lev levels k).length = rows.length / 2 ^ k
  hi : ∀ k, h ≤ k → (lev levels k).length = (rows.length - 1) / 2 ^ k
  den : ∀ k j x, (lev levels k)[j]? = some x → Den ths k x (blk rows k j)
  fd : Den ths h found (blk rows h (size - 1))
section
variable {ths : List MK} {rows : List Str} {h size found : Nat} {levels : List (List Nat)}
theorem GInv.le (G : GInv ths rows h size found levels) : h ≤ levels.length := by
  rcases Nat.lt_or_ge levels.length h with q | q
  · have e := G.lo levels.length q
    rw [lev_out (Nat.le_refl _)] at e
    have h1 : 2 ^ levels.length ≤ 2 ^ h := Nat.pow_le_pow_right (by decide) (by omega)
    have h2 : 2 ^ h ≤ rows.length := by rw [G.n]; exact Nat.le_mul_of_pos_left _ G.pos
    have h3 : 0 < rows.length / 2 ^ levels.length := Nat.div_pos (by omega) (Nat.two_pow_pos _)
    simp at e
    omega
  · exact q
theorem GInv.here (G : GInv ths rows h size found levels) : (lev levels h).length + 1 = size := by
  rw [G.hi h (Nat.le_refl _), G.n]
  have hp := Nat.two_pow_pos h
  obtain ⟨s, e⟩ : ∃ s, size = s + 1 := ⟨size - 1, by have := G.pos; omega⟩
  subst e
  have : (s + 1) * 2 ^ h - 1 = 2 ^ h * s + (2 ^ h - 1) := by rw [Nat.add_mul, Nat.one_mul, Nat.mul_comm]; omega
  rw [this, Nat.mul_add_div hp, Nat.div_eq_of_lt (by omega)]
theorem GInv.den1 (G : GInv ths rows h size found levels) : ∀ k j x, (lev (addAt levels h found) k)[j]? = some x → Den ths k x (blk rows k j) := by
  intro k j x e
  rw [lev_addAt G.le] at e
  by_cases q : k = h
  · subst q
    rw [if_pos rfl, List.getElem?_append] at e
    split at e
    · exact G.den k j x e
    · have h1 := G.here
      have hj : j = (lev levels k).length := by
        have := get_lt e
        simp at this
        omega
      rw [hj, Nat.sub_self] at e
      have e : found = x := by simpa using e
      subst e
      have : j = size - 1 := by omega
      rw [this]
      exact G.fd
  · rw [if_neg q] at e
    exact G.den k j x e
theorem half_odd {n k : Nat} (hn : 0 < n) (hd : ¬ n % 2 ^ k = 0) : (n - 1) / 2 ^ k = n / 2 ^ k := by
  have h1 := Nat.div_add_mod n (2 ^ k)
  have h2 := Nat.mod_lt n (Nat.two_pow_pos k)
  have e : n - 1 = 2 ^ k * (n / 2 ^ k) + (n % 2 ^ k - 1) := by omega
  rw [e, Nat.mul_add_div (Nat.two_pow_pos k), Nat.div_eq_of_lt (show n % 2 ^ k - 1 < 2 ^ k by omega), Nat.add_zero]
/-- the last turn -/
theorem GInv.stop (G : GInv ths rows h size found levels) (odd : size % 2 = 1) : BookInv ths rows (addAt levels h found) := by
  refine ⟨fun k => ?_, G.den1⟩
  rw [lev_addAt G.le]
  by_cases q : k = h
  · subst q
    rw [if_pos rfl, List.length_append, G.n, Nat.mul_div_cancel _ (Nat.two_pow_pos _)]
    exact G.here
  · rw [if_neg q]
    rcases Nat.lt_or_ge k h with r | r
    · exact G.lo k r
    · have r2 : h < k := by omega
      rw [G.hi k r]
      refine half_odd ?_ fun z => ?_
      · rw [G.n]; exact Nat.mul_pos G.pos (Nat.two_pow_pos _)
      · obtain ⟨t, rfl⟩ : ∃ t, k = h + 1 + t := ⟨k - (h + 1), by omega⟩
        have d1 : 2 ^ (h + 1) ∣ rows.length := Nat.dvd_trans (Nat.pow_dvd_pow 2 (by omega)) (Nat.dvd_of_mod_eq_zero z)
        rw [G.n, Nat.pow_succ, Nat.mul_comm size] at d1
        have := Nat.dvd_of_mul_dvd_mul_left (Nat.two_pow_pos h) d1
        omega
/-- the two sums that come to the next one -/
theorem GInv.two (G : GInv ths rows h size found levels) (even : ¬ size % 2 = 1) : ∃ a b, (lev (addAt levels h found) h)[size - 2]? = some a ∧ (lev (addAt levels h found) h)[size - 1]? = some b ∧ Den ths h a (blk rows h (size - 2)) ∧ Den ths h b (blk rows h (size - 1)) ∧
    (lev (addAt levels h found) h).getD (size - 2) 0 = a ∧ (lev (addAt levels h found) h).getD (size - 1) 0 = b := by
  have hl : (lev (addAt levels h found) h).length = size := by rw [lev_addAt G.le, if_pos rfl, List.length_append]; exact G.here
  have hp := G.pos
  have g1 : (lev (addAt levels h found) h)[size - 2]? = some ((lev (addAt levels h found) h)[size - 2]'(by omega)) := List.getElem?_eq_getElem _
  have g2 : (lev (addAt levels h found) h)[size - 1]? = some ((lev (addAt levels h found) h)[size - 1]'(by omega)) := List.getElem?_eq_getElem _
  refine ⟨_, _, g1, g2, G.den1 _ _ _ g1, G.den1 _ _ _ g2, ?_, ?_⟩
  · rw [List.getD_eq_getElem?_getD, g1]; rfl
  · rw [List.getD_eq_getElem?_getD, g2]; rfl
theorem den_pair {a b h : Nat} {r1 r2 : List Str} (d1 : Den ths h a r1) (d2 : Den ths h b r2) : Den (ask ths (pk a b)) (h + 1) (num (ask ths (pk a b)) (pk a b)) (r1 ++ r2) :=
  ⟨a, b, r1, r2, num_get (ask_mem _ _), d1.mono (ask_pre _ _), d2.mono (ask_pre _ _), rfl⟩
theorem den_row (z : Str) : Den (ask ths (.row z)) 0 (num (ask ths (.row z)) (.row z)) [z] := ⟨z, rfl, num_get (ask_mem _ _)⟩
theorem GInv.next (G : GInv ths rows h size found levels) (even : ¬ size % 2 = 1) {a b : Nat} (d1 : Den ths h a (blk rows h (size - 2))) (d2 : Den ths h b (blk rows h (size - 1))) :
    GInv (ask ths (pk a b)) rows (h + 1) (size / 2) (num (ask ths (pk a b)) (pk a b)) (addAt levels h found) := by
  have hp := G.pos
  have e2 : size = 2 * (size / 2) := by omega
  refine ⟨?_, by omega, fun k hk => ?_, fun k hk => ?_, fun k j x e => (G.den1 k j x e).mono (ask_pre _ _), ?_⟩
  · rw [G.n, Nat.pow_succ]
    conv => lhs; rw [e2]
    rw [Nat.mul_comm 2, Nat.mul_assoc, Nat.mul_comm 2]
  · rw [lev_addAt G.le]
    by_cases q : k = h
    · subst q
      rw [if_pos rfl, List.length_append, G.n, Nat.mul_div_cancel _ (Nat.two_pow_pos _)]
      exact G.here
    · rw [if_neg q]; exact G.lo k (by omega)
  · rw [lev_addAt G.le, if_neg (by omega)]
    exact G.hi k (by omega)
  · have e3 : blk rows (h + 1) (size / 2 - 1) = blk rows h (size - 2) ++ blk rows h (size - 1) := by
      rw [blk_succ, show 2 * (size / 2 - 1) = size - 2 by omega, show size - 2 + 1 = size - 1 by omega]
    rw [e3]
    exact den_pair d1 d2
end
theorem GInv.start {ths : List MK} {rows : List Str} {levels : List (List Nat)} (I : BookInv ths rows levels) (z : Str) : GInv (ask ths (.row z)) (rows ++ [z]) 0 (rows.length + 1) (num (ask ths (.row z)) (.row z)) levels := by
  have hl : (rows ++ [z]).length = rows.length + 1 := by simp
  refine ⟨by rw [hl]; simp, by omega, fun k hk => absurd hk (Nat.not_lt_zero _), fun k _ => by rw [hl]; exact I.len k, fun k j x e => ?_, ?_⟩
  · have hj := get_lt e
    rw [I.len] at hj
    rw [blk_append (lt_div_iff.mp hj)]
    exact (I.den k j x e).mono (ask_pre _ _)
  · rw [Nat.add_sub_cancel, blk_zero (z := z) (by simp)]
    exact den_row z
end Tw

namespace Tw
open PySem L2 Ts Mix
def nv (n : Nat) : V := .int (n : Int)
/-- a book's attributes -/
def bfl (L ln lv : Addr) : List (Str × V) := putF "levels" (.ref lv) (putF "lines" (.ref ln) (putF "ledger" (.ref L) []))
theorem bfl_ledger {L ln lv : Addr} : (bfl L ln lv).lookup ("ledger" : Str) = some (.ref L) := by
  unfold bfl
  rw [lookup_putF, if_neg (by decide +kernel), lookup_putF, if_neg (by decide +kernel), lookup_putF, if_pos rfl]
theorem bfl_lines {L ln lv : Addr} : (bfl L ln lv).lookup ("lines" : Str) = some (.ref ln) := by
  unfold bfl
  rw [lookup_putF, if_neg (by decide +kernel), lookup_putF, if_pos rfl]
theorem bfl_levels {L ln lv : Addr} : (bfl L ln lv).lookup ("levels" : Str) = some (.ref lv) := by
  unfold bfl
  rw [lookup_putF, if_pos rfl]
theorem bfl_no {L ln lv : Addr} {m : Str} (h1 : ¬ m = "ledger") (h2 : ¬ m = "lines") (h3 : ¬ m = "levels") : (bfl L ln lv).lookup m = none := by
  unfold bfl
  rw [lookup_putF, if_neg h3, lookup_putF, if_neg h2, lookup_putF, if_neg h1]
  rfl
/-- a book as it lies in the heap -/
structure BookAt (c : Cs) (H : Hp) (B L ln lv : Addr) (lvs : List Addr) (rows : List Str) (levels : List (List Nat)) : Prop where
  ob : ∃ dx, H B = some (.ins c.Book dx (bfl L ln lv))
  hln : H ln = some (.lst (rows.map V.str))
  hlv : H lv = some (.lst (lvs.map V.ref))
  hl : lvs.length = levels.length
  hs : ∀ (i : Nat) a x, lvs[i]? = some a → levels[i]? = some x → H a = some (.lst (x.map nv))
  nd : (ln :: lv :: lvs).Nodup
section
variable {K : PySem.W.Frag} {c : Cs} {H H' : Hp} {B L ln lv : Addr} {lvs : List Addr} {rows : List Str} {levels : List (List Nat)}
theorem BookAt.fp (b : BookAt c H B L ln lv lvs rows levels) : ∀ x ∈ ln :: lv :: lvs, ∃ ys, H x = some (.lst ys) := by
  intro x hx
  rcases List.mem_cons.mp hx with e | hx
  · subst e; exact ⟨_, b.hln⟩
  rcases List.mem_cons.mp hx with e | hx
  · subst e; exact ⟨_, b.hlv⟩
  obtain ⟨i, hi⟩ := List.mem_iff_getElem?.mp hx
  have h1 := get_lt hi
  rw [b.hl] at h1
  exact ⟨_, b.hs i x _ hi (List.getElem?_eq_getElem h1)⟩
theorem BookAt.notB (b : BookAt c H B L ln lv lvs rows levels) : B ∉ ln :: lv :: lvs := fun hx => by
  obtain ⟨ys, e⟩ := b.fp B hx
  obtain ⟨dx, h⟩ := b.ob
  rw [h] at e
  cases e
theorem BookAt.kp {S : List Addr} (b : BookAt c H B L ln lv lvs rows levels) (k : Kp S H H') (h : ∀ x ∈ S, x ∉ ln :: lv :: lvs) (hB : B ∉ S) : BookAt c H' B L ln lv lvs rows levels := by
  obtain ⟨dx, h1⟩ := b.ob
  refine ⟨⟨dx, k _ _ h1 hB⟩, k _ _ b.hln fun z => h _ z (by simp), k _ _ b.hlv fun z => h _ z (by simp), b.hl, fun i a x e1 e2 => k _ _ (b.hs i a x e1 e2) fun z => h _ z ?_, b.nd⟩
  exact List.mem_cons_of_mem _ (List.mem_cons_of_mem _ (List.mem_of_getElem? e1))
theorem BookAt.ex (b : BookAt c H B L ln lv lvs rows levels) (e : Ex H H') : BookAt c H' B L ln lv lvs rows levels := b.kp (S := []) (Kp.of_ex e) (fun _ z => nomatch z) (fun z => nomatch z)
/-- the rows are stored anew -/
theorem BookAt.lines {rows' : List Str} (b : BookAt c H B L ln lv lvs rows levels) : BookAt c (upd H ln (.lst (rows'.map V.str))) B L ln lv lvs rows' levels := by
  obtain ⟨dx, h1⟩ := b.ob
  have nd := b.nd
  rw [List.nodup_cons] at nd
  have nB : B ≠ ln := fun e => b.notB (by rw [e]; simp)
  refine ⟨⟨dx, by rw [upd_ne nB]; exact h1⟩, upd_same, ?_, b.hl, fun i a x e1 e2 => ?_, b.nd⟩
  · rw [upd_ne fun e => nd.1 (by rw [e]; simp)]; exact b.hlv
  · rw [upd_ne fun e => nd.1 (by rw [← e]; exact List.mem_cons_of_mem _ (List.mem_of_getElem? e1))]; exact b.hs i a x e1 e2
/-- a level is stored anew -/
theorem BookAt.level {i : Nat} {a : Addr} {x : List Nat} (b : BookAt c H B L ln lv lvs rows levels) (ha : lvs[i]? = some a) : BookAt c (upd H a (.lst (x.map nv))) B L ln lv lvs rows (levels.set i x) := by
  obtain ⟨dx, h1⟩ := b.ob
  have nd := b.nd
  rw [List.nodup_cons, List.nodup_cons] at nd
  have hm := List.mem_of_getElem? ha
  have nB : B ≠ a := fun e => b.notB (by rw [e]; exact List.mem_cons_of_mem _ (List.mem_cons_of_mem _ hm))
  refine ⟨⟨dx, by rw [upd_ne nB]; exact h1⟩, ?_, ?_, by rw [List.length_set]; exact b.hl, fun j a' y e1 e2 => ?_, b.nd⟩
  · rw [upd_ne fun e => nd.1 (by rw [e]; exact List.mem_cons_of_mem _ hm)]; exact b.hln
  · rw [upd_ne fun e => nd.2.1 (by rw [e]; exact hm)]; exact b.hlv
  · rw [List.getElem?_set] at e2
    by_cases q : i = j
    · subst q
      rw [ha] at e1
      cases e1
      rw [if_pos rfl] at e2
      split at e2
      · cases e2; exact upd_same
      · cases e2
    · rw [if_neg q] at e2
      have ne : a' ≠ a := fun e => by
        subst e
        exact q (nd_ix nd.2.2 ha e1)
      rw [upd_ne ne]
      exact b.hs j a' y e1 e2
/-- a level more -/
theorem BookAt.more {a : Addr} (b : BookAt c H B L ln lv lvs rows levels) (ha : H a = none) : BookAt c (upd (upd H a (.lst [])) lv (.lst (lvs.map V.ref ++ [.ref a]))) B L ln lv (lvs ++ [a]) rows (levels ++ [[]]) := by
  obtain ⟨dx, h1⟩ := b.ob
  have nd := b.nd
  rw [List.nodup_cons, List.nodup_cons] at nd
  have ne : ∀ {x : Addr} {o : HO}, H x = some o → x ≠ a := fun h => ne_of_none h ha
  have nB : B ≠ lv := fun e => b.notB (by rw [e]; simp)
  have na : a ∉ ln :: lv :: lvs := fun hx => by
    obtain ⟨ys, e⟩ := b.fp a hx
    rw [ha] at e
    cases e
  refine ⟨⟨dx, by rw [upd_ne nB, upd_ne (ne h1)]; exact h1⟩, ?_, ?_, by simp [b.hl], fun j a' y e1 e2 => ?_, ?_⟩
  · rw [upd_ne fun e => nd.1 (by rw [e]; simp), upd_ne (ne b.hln)]; exact b.hln
  · rw [upd_same, List.map_append]; rfl
  · rw [List.getElem?_append] at e1 e2
    rw [← b.hl] at e2
    by_cases q : j < lvs.length
    · rw [if_pos q] at e1 e2
      have h3 := b.hs j a' y e1 e2
      rw [upd_ne fun e => nd.2.1 (by rw [← e]; exact List.mem_of_getElem? e1), upd_ne (ne h3)]
      exact h3
    · rw [if_neg q] at e1 e2
      have q0 : j - lvs.length = 0 := by
        have := get_lt e1
        simp at this
        omega
      rw [q0] at e1 e2
      simp at e1 e2
      subst e1 e2
      rw [upd_ne fun e => na (by rw [e]; simp), upd_same]
      rfl
  · have : ln :: lv :: (lvs ++ [a]) = (ln :: lv :: lvs) ++ [a] := rfl
    rw [this]
    exact nd_snoc b.nd na
end
/-- a ledger and a book of it -/
structure BS (c : Cs) (H : Hp) (B L d l ln lv : Addr) (lvs : List Addr) (ths : List MK) (xs : List V) (rows : List Str) (levels : List (List Nat)) : Prop where
  la : LedgerAt c H L d l ths xs
  ba : BookAt c H B L ln lv lvs rows levels
  nd : (d :: l :: ln :: lv :: lvs).Nodup
section
variable {K : PySem.W.Frag} {c : Cs} {H H' : Hp} {B L d l ln lv : Addr} {lvs : List Addr} {ths : List MK} {xs : List V} {rows : List Str} {levels : List (List Nat)}
theorem BS.dl (S : BS c H B L d l ln lv lvs ths xs rows levels) : d ∉ ln :: lv :: lvs ∧ l ∉ ln :: lv :: lvs := by
  have nd := S.nd
  rw [List.nodup_cons, List.nodup_cons] at nd
  exact ⟨fun z => nd.1 (List.mem_cons_of_mem _ z), nd.2.1⟩
/-- behind the ledger's change -/
theorem BS.ledger (T : TxK K c) (S : BS c H B L d l ln lv lvs ths xs rows levels) {ths' : List MK} {xs' : List V} (L' : LedgerAt c H' L d l ths' xs') (k : Kp [d, l] H H') : BS c H' B L d l ln lv lvs ths' xs' rows levels := by
  refine ⟨L', S.ba.kp k (fun x hx => ?_) fun hB => ?_, S.nd⟩
  · rcases List.mem_cons.mp hx with e | e
    · rw [e]; exact S.dl.1
    · rw [List.mem_singleton.mp e]; exact S.dl.2
  · obtain ⟨dx, h1⟩ := S.ba.ob
    rcases List.mem_cons.mp hB with e | e
    · obtain ⟨φ, e2⟩ := T.md d (ents 0 ths xs)
      rw [e, S.la.dc, e2] at h1
      cases h1
    · have := S.la.ls
      rw [← List.mem_singleton.mp e, h1] at this
      cases this
/-- behind a store into one of the book's lists -/
theorem BS.book (T : TxK K c) (S : BS c H B L d l ln lv lvs ths xs rows levels) {rows' : List Str} {levels' : List (List Nat)} {a : Addr} {o : HO} (ha : a ∈ ln :: lv :: lvs) (B' : BookAt c (upd H a o) B L ln lv lvs rows' levels') : BS c (upd H a o) B L d l ln lv lvs ths xs rows' levels' := by
  refine ⟨S.la.kp T (S := ln :: lv :: lvs) (Kp.refl.set ha) fun x hx => ⟨fun e => S.dl.1 (e ▸ hx), fun e => S.dl.2 (e ▸ hx), fun u hu => ?_⟩, B', S.nd⟩
  obtain ⟨ys, h1⟩ := S.ba.fp x hx
  rw [h1] at hu
  cases hu
  exact ⟨ys, rfl⟩
theorem BS.more {a : Addr} (T : TxK K c) (S : BS c H B L d l ln lv lvs ths xs rows levels) (ha : H a = none) : BS c (upd (upd H a (.lst [])) lv (.lst (lvs.map V.ref ++ [.ref a]))) B L d l ln lv (lvs ++ [a]) ths xs rows (levels ++ [[]]) := by
  have na : a ∉ d :: l :: ln :: lv :: lvs := fun hx => by
    rcases List.mem_cons.mp hx with e | hx
    · rw [e, S.la.dc] at ha; cases ha
    rcases List.mem_cons.mp hx with e | hx
    · rw [e, S.la.ls] at ha; cases ha
    obtain ⟨ys, e⟩ := S.ba.fp a hx
    rw [e] at ha
    cases ha
  have nlv : lv ≠ a := fun e => na (by rw [← e]; simp)
  refine ⟨(S.la.ex (ex_new (o := .lst []) ex_refl ha)).kp T (S := [lv]) (Kp.refl.set (by simp)) fun x hx => ?_, S.ba.more ha, ?_⟩
  · rw [List.mem_singleton.mp hx]
    refine ⟨fun e => S.dl.1 (by rw [← e]; simp), fun e => S.dl.2 (by rw [← e]; simp), fun o ho => ?_⟩
    rw [upd_ne nlv, S.ba.hlv] at ho
    cases ho
    exact ⟨_, rfl⟩
  · have e : d :: l :: ln :: lv :: (lvs ++ [a]) = (d :: l :: ln :: lv :: lvs) ++ [a] := rfl
    rw [e]
    exact nd_snoc S.nd na
/-- what is not there is none of the book's -/
theorem BS.new {a : Addr} (S : BS c H B L d l ln lv lvs ths xs rows levels) (ha : H a = none) : a ∉ d :: l :: ln :: lv :: lvs := fun hx => by
  rcases List.mem_cons.mp hx with e | hx
  · rw [e, S.la.dc] at ha; cases ha
  rcases List.mem_cons.mp hx with e | hx
  · rw [e, S.la.ls] at ha; cases ha
  obtain ⟨ys, e⟩ := S.ba.fp a hx
  rw [e] at ha
  cases ha
theorem BS.ex (S : BS c H B L d l ln lv lvs ths xs rows levels) (e : Ex H H') : BS c H' B L d l ln lv lvs ths xs rows levels := ⟨S.la.ex e, S.ba.ex e, S.nd⟩
end
/-- the lists of a book, and what the ledger changes -/
abbrev fpS (d l ln lv : Addr) (lvs : List Addr) : List Addr := d :: l :: ln :: lv :: lvs
/-! ### the readings -/
def N_Book_half_sums : List Str := ["self", "height", "number", "below"]
def t_Book_half_sums (K : PySem.W.Frag) (c : Cs) (E : XK) : TS := (tSeq (tAsg (tOp (rIx K) (tFld K (tVar 0) "levels") (tOp rSubI (tVar 1) (tC (.int 1)))) (gName 3))
  (tRet (tMeth c.Ledger "of_pair" (sp_Ledger_of_pair K c) [] E0 (tFld K (tVar 0) "ledger") (tCons (tOp (rIx K) (tVar 3) (tOp rMul (tC (.int 2)) (tVar 2))) (tCons (tOp (rIx K) (tVar 3) (tOp rAddU (tOp rMul (tC (.int 2)) (tVar 2)) (tC (.int 1)))) tNil)))))
def sp_Book_half_sums (K : PySem.W.Frag) (c : Cs) : Sp := fun vs H Q _ => ∃ (B L d l ln lv : Addr) (lvs : List Addr) (ths : List MK) (xs : List V) (rows : List Str) (levels : List (List Nat)) (h j a b : Nat), vs = [.ref B, .int ((h + 1 : Nat) : Int), .int (j : Int)] ∧ BS c H B L d l ln lv lvs ths xs rows levels ∧ ths.length < 1000000 ∧
  (lev levels h)[2 * j]? = some a ∧ (lev levels h)[2 * j + 1]? = some b ∧ a < ths.length ∧ b < ths.length ∧
  ∀ H' xs', BS c H' B L d l ln lv lvs (ask ths (pk a b)) xs' rows levels → Kp [d, l] H H' → Q (.int (num (ask ths (pk a b)) (pk a b) : Nat)) H'
theorem len_Book_half_sums {K c} : ∀ vs H Q E, sp_Book_half_sums K c vs H Q E → vs.length = 3 := by rintro vs H Q E ⟨_, _, _, _, _, _, _, _, _, _, _, _, _, _, _, rfl, _⟩; rfl
theorem lev_at {levels : List (List Nat)} {h j a : Nat} (e : (lev levels h)[j]? = some a) : ∃ x, levels[h]? = some x ∧ x[j]? = some a := by
  rcases Nat.lt_or_ge h levels.length with q | q
  · have e2 := List.getElem?_eq_getElem q
    rw [lev_get e2] at e
    exact ⟨_, e2, e⟩
  · rw [lev_out q] at e
    simp at e
theorem pure_Book_half_sums {K : PySem.W.Frag} {c : Cs} {vs : List V} {H : Hp} {Q : VK} {E : XK} (T : TxK K c) (h : sp_Book_half_sums K c vs H Q E) : t_Book_half_sums K c E ⟨fun _ H' => Q .non H', Q, fun _ _ => False, fun _ _ => False⟩ (start N_Book_half_sums vs) H := by
  obtain ⟨B, L, d, l, ln, lv, lvs, ths, xs, rows, levels, h, j, a, b, rfl, S, hz, g1, g2, ha, hb, k⟩ := h
  show t_Book_half_sums K c E _ [some (.ref B), some (.int ((h + 1 : Nat) : Int)), some (.int (j : Int)), none] H
  unfold t_Book_half_sums
  obtain ⟨dx, hB⟩ := S.ba.ob
  obtain ⟨dy, hL⟩ := S.la.ob
  obtain ⟨x, x1, x2⟩ := lev_at g1
  obtain ⟨x', x3, x4⟩ := lev_at g2
  rw [x1] at x3
  cases x3
  have hv := S.ba.hl
  obtain ⟨A, hA⟩ : ∃ A, lvs[h]? = some A := ⟨_, List.getElem?_eq_getElem (by rw [hv]; exact get_lt x1)⟩
  have hx := S.ba.hs h A x hA x1
  walk_at "s"
  refine w_fldAt hB T.cBook T.n_Book_levels bfl_levels ?_
  walk_at "s"
  refine w_ixL (sql S.ba.hlv) (at_of (j := h) (v := .ref A) (by omega) (by rw [List.getElem?_map, hA]; rfl)) ?_
  walk_at "s"
  refine w_fldAt hB T.cBook T.n_Book_ledger bfl_ledger ?_
  refine w_methAt hL (lfl_no (by decide +kernel) (by decide +kernel)) ?_
  walk_at "s"
  refine w_ixL (sql hx) (at_of (j := 2 * j) (v := nv a) (by push_cast; rfl) (by rw [List.getElem?_map, x2]; rfl)) ?_
  walk_at "s"
  refine w_ixL (sql hx) (at_of (j := 2 * j + 1) (v := nv b) (by push_cast; rfl) (by rw [List.getElem?_map, x4]; rfl)) ?_
  walk_at "s"
  refine ⟨L, d, l, ths, xs, nv a, nv b, true, true, rfl, S.la, whole_of_num ⟨a, rfl, ha⟩, whole_of_num ⟨b, rfl, hb⟩, hz, fun i1 j1 e1 e2 _ _ H' xs' L' kp => ?_, fun n => absurd ⟨⟨a, rfl, ha⟩, ⟨b, rfl, hb⟩⟩ n⟩
  have e1 : i1 = a := by have := V.int.inj e1; omega
  have e2 : j1 = b := by have := V.int.inj e2; omega
  subst e1 e2
  exact k H' xs' (S.ledger T L' kp) kp
def N_Book_sure : List Str := ["self", "place"]
def t_Book_sure (K : PySem.W.Frag) (c : Cs) (E : XK) : TS := (tIfS (tOr (tNot (tB (tCall (sp_is_whole K c) [] E (tCons (tVar 1) tNil)))) (tNot (tTest (tChain rLe rLt (tC (.int 0)) (tVar 1) (tCB (rLen K) (tCons (tFld K (tVar 0) "lines") tNil)))))) (tRaiseX c.NoPlace (fun cls d _ H => E cls d H)) tNext)
def sp_Book_sure (K : PySem.W.Frag) (c : Cs) : Sp := fun vs H Q E => ∃ (B L ln lv : Addr) (lvs : List Addr) (rows : List Str) (levels : List (List Nat)) (v : V) (b : Bool), vs = [.ref B, v] ∧ BookAt c H B L ln lv lvs rows levels ∧ isWholeV K H v b ∧ rows.length ≤ 100000 ∧ (NumV rows.length v → Q .non H) ∧ (¬ NumV rows.length v → E (.ref c.NoPlace) none H)
theorem len_Book_sure {K c} : ∀ vs H Q E, sp_Book_sure K c vs H Q E → vs.length = 2 := by rintro vs H Q E ⟨_, _, _, _, _, _, _, _, _, rfl, _⟩; rfl
theorem pure_Book_sure {K : PySem.W.Frag} {c : Cs} {vs : List V} {H : Hp} {Q : VK} {E : XK} (T : TxK K c) (h : sp_Book_sure K c vs H Q E) : t_Book_sure K c E ⟨fun _ H' => Q .non H', Q, fun _ _ => False, fun _ _ => False⟩ (start N_Book_sure vs) H := by
  obtain ⟨B, L, ln, lv, lvs, rows, levels, v, b, rfl, S, hw, hz, k1, k2⟩ := h
  show t_Book_sure K c E _ [some (.ref B), some v] H
  unfold t_Book_sure
  obtain ⟨dx, hB⟩ := S.ob
  walk_at "s"
  refine ⟨v, b, rfl, hw, ?_⟩
  walk_at "s"
  refine ite_nb (fun hb => ?_) fun hb => ?_
  · refine iteT ?_
    walk_at "s"
    refine k2 fun ⟨i, e, _⟩ => ?_
    subst e
    rcases hw with ⟨_, _, z⟩ | ⟨x, z, _⟩ | ⟨x, z, _⟩ | ⟨z, _⟩ | ⟨a, ys, z, _⟩
    · rw [hb] at z; cases z
    all_goals exact nomatch z
  · subst hb
    obtain ⟨i, rfl⟩ : ∃ i, v = .int i := by
      rcases hw with ⟨i, z, _⟩ | ⟨x, _, z⟩ | ⟨x, _, z⟩ | ⟨_, z⟩ | ⟨a, ys, _, _, z⟩
      · exact ⟨i, z⟩
      all_goals cases z
    walk_at "s"
    refine ite_d (fun h0 => ?_) fun h0 => ?_
    · walk_at "s"
      refine w_fldAt hB T.cBook T.n_Book_lines bfl_lines ?_
      walk_at "s"
      refine w_lenL (sql S.hln) ?_
      rw [List.length_map]
      walk_at "s"
      refine ite_nd (fun h1 => ?_) fun h1 => ?_
      · walk_at "s"
        refine k2 fun ⟨n, e, hn⟩ => ?_
        cases e
        omega
      · walk_at "s"
        refine k1 ⟨i.toNat, by congr 1; omega, by omega⟩
    · walk_at "s"
      refine iteT ?_
      walk_at "s"
      refine k2 fun ⟨n, e, hn⟩ => ?_
      cases e
      omega
end Tw

namespace Tw
open PySem L2 Ts Mix
/-- the level that is to be written stands -/
def mid (levels : List (List Nat)) (h : Nat) : List (List Nat) := if h = levels.length then levels ++ [[]] else levels
theorem mid_add {levels : List (List Nat)} {h x : Nat} (hh : h ≤ levels.length) : (mid levels h).set h (lev levels h ++ [x]) = addAt levels h x := by
  unfold mid addAt
  by_cases e : h = levels.length
  · rw [if_pos e, if_pos e, lev_out (by omega), e]
    simp
  · rw [if_neg e, if_neg e]
theorem mid_lev {levels : List (List Nat)} {h : Nat} (hh : h ≤ levels.length) : (mid levels h)[h]? = some (lev levels h) := by
  unfold mid
  by_cases e : h = levels.length
  · rw [if_pos e, lev_out (by omega), e]
    simp
  · rw [if_neg e]
    unfold lev
    rw [List.getD_eq_getElem?_getD, List.getElem?_eq_getElem (by omega)]
    rfl
theorem growL_bound : ∀ (f h size found : Nat) (ths : List MK) (levels : List (List Nat)), 0 < size → size ≤ f → (growL f h size found ths levels).1.length ≤ ths.length + ((growL f h size found ths levels).2.2 - h - 1) ∧ h + 1 ≤ (growL f h size found ths levels).2.2
  | 0, h, _, _, ths, levels, h1, h2 => by omega
  | f + 1, h, size, found, ths, levels, p1, p2 => by
    unfold growL
    split
    · exact ⟨by show ths.length ≤ _; omega, Nat.le_refl _⟩
    · generalize hk : pk ((lev (addAt levels h found) h).getD (size - 2) 0) ((lev (addAt levels h found) h).getD (size - 1) 0) = k
      obtain ⟨h1, h2⟩ := growL_bound f (h + 1) (size / 2) (num (ask ths k) k) (ask ths k) (addAt levels h found) (by omega) (by omega)
      have h3 := ask_len ths k
      generalize growL f (h + 1) (size / 2) (num (ask ths k) k) (ask ths k) (addAt levels h found) = g at *
      exact ⟨by omega, by omega⟩
theorem growL_pre : ∀ (f h size found : Nat) (ths : List MK) (levels : List (List Nat)), ths <+: (growL f h size found ths levels).1
  | 0, h, _, _, ths, levels => List.prefix_refl _
  | f + 1, h, size, found, ths, levels => by
    unfold growL
    split
    · exact List.prefix_refl _
    · exact (ask_pre _ _).trans (growL_pre f _ _ _ _ _)
/-- a place lies in just n of the blocks of cnt rows -/
def IsBc (cnt place n : Nat) : Prop := (∀ h, h < n → (place / 2 ^ h + 1) * 2 ^ h ≤ cnt) ∧ ¬ (place / 2 ^ n + 1) * 2 ^ n ≤ cnt
theorem GInv.bc {ths : List MK} {rows : List Str} {h size found : Nat} {levels : List (List Nat)} (G : GInv ths rows h size found levels) (odd : size % 2 = 1) : IsBc rows.length (rows.length - 1) (h + 1) := by
  have hp := G.pos
  have hn : 0 < rows.length := by rw [G.n]; exact Nat.mul_pos hp (Nat.two_pow_pos _)
  -- 2 ^ k divides the count just for k up to h
  have key : ∀ k, (rows.length - 1) / 2 ^ k * 2 ^ k + 2 ^ k ≤ rows.length ↔ rows.length % 2 ^ k = 0 := fun k => by
    have h1 := Nat.div_add_mod rows.length (2 ^ k)
    have h2 := Nat.mod_lt rows.length (Nat.two_pow_pos k)
    constructor
    · intro q
      rcases Nat.eq_zero_or_pos (rows.length % 2 ^ k) with z | z
      · exact z
      · rw [half_odd hn (by omega), Nat.mul_comm] at q
        omega
    · intro q
      obtain ⟨m, hm⟩ := Nat.dvd_of_mod_eq_zero q
      have m0 : 0 < m := by
        rcases Nat.eq_zero_or_pos m with z | z
        · rw [z, Nat.mul_zero] at hm; omega
        · exact z
      obtain ⟨m', rfl⟩ : ∃ m', m = m' + 1 := ⟨m - 1, by omega⟩
      have e : rows.length - 1 = 2 ^ k * m' + (2 ^ k - 1) := by
        rw [hm, Nat.mul_add, Nat.mul_one]
        have := Nat.two_pow_pos k
        omega
      rw [e, Nat.mul_add_div (Nat.two_pow_pos k), Nat.div_eq_of_lt (by have := Nat.two_pow_pos k; omega), Nat.add_zero, hm, Nat.mul_add, Nat.mul_one, Nat.mul_comm]
      exact Nat.le_refl _
  refine ⟨fun k hk => ?_, fun z => ?_⟩
  · rw [Nat.add_mul, Nat.one_mul]
    refine (key k).mpr ?_
    refine Nat.mod_eq_zero_of_dvd ?_
    rw [G.n]
    exact Nat.dvd_trans (Nat.pow_dvd_pow 2 (by omega)) (Nat.dvd_mul_left _ _)
  · rw [Nat.add_mul, Nat.one_mul] at z
    have d1 := Nat.dvd_of_mod_eq_zero ((key (h + 1)).mp z)
    rw [G.n, Nat.pow_succ, Nat.mul_comm size] at d1
    have := Nat.dvd_of_mul_dvd_mul_left (Nat.two_pow_pos h) d1
    omega
/-- the lists of a book may have become more -/
def Wider (H : Hp) (lvs lvs' : List Addr) : Prop := lvs <+: lvs' ∧ ∀ x ∈ lvs', x ∈ lvs ∨ H x = none
def N_Book_grow : List Str := ["self", "row", "size", "height", "found"]
def t_Book_grow (K : PySem.W.Frag) (c : Cs) (E : XK) : TS := (tSeq (tDrop (tBM K "list" rAppend (tFld K (tVar 0) "lines") (tCons (tVar 1) tNil)))
  (tSeq (tAsg (tCB (rLen K) (tCons (tFld K (tVar 0) "lines") tNil)) (gName 2))
  (tSeq (tAsg (tC (.int 0)) (gName 3))
  (tSeq (tAsg (tMeth c.Ledger "of_row" (sp_Ledger_of_row K c) [] E0 (tFld K (tVar 0) "ledger") (tCons (tVar 1) tNil)) (gName 4))
  (tWhile (tB (tC (.bl true))) (Evl.tCut (tIfS (tTest (tOp (rEqU K) (tVar 3) (tCB (rLen K) (tCons (tFld K (tVar 0) "levels") tNil)))) (tDrop (tBM K "list" rAppend (tFld K (tVar 0) "levels") (tCons (tLst tNil) tNil))) tNext)
  (tSeq (tDrop (tBM K "list" rAppend (tOp (rIx K) (tFld K (tVar 0) "levels") (tVar 3)) (tCons (tVar 4) tNil)))
  (tSeq (tIfS (tTest (tOp (rEqU K) (tOp rMod (tVar 2) (tC (.int 2))) (tC (.int 1)))) (tRet (tOp rAddU (tVar 3) (tC (.int 1)))) tNext)
  (tSeq (tAsg (tOp rDiv (tVar 2) (tC (.int 2))) (gName 2))
  (tSeq (tAsg (tOp rAddU (tVar 3) (tC (.int 1))) (gName 3))
  (tAsg (tMeth c.Book "half_sums" (sp_Book_half_sums K c) [] E0 (tVar 0) (tCons (tVar 3) (tCons (tOp rSubI (tVar 2) (tC (.int 1))) tNil))) (gName 4))))))))))))
def sp_Book_grow (K : PySem.W.Frag) (c : Cs) : Sp := fun vs H Q _ => ∃ (B L d l ln lv : Addr) (lvs : List Addr) (ths : List MK) (xs : List V) (rows : List Str) (levels : List (List Nat)) (z : Str), vs = [.ref B, .str z] ∧ BS c H B L d l ln lv lvs ths xs rows levels ∧ BookInv ths rows levels ∧ Good z ∧
  rows.length < 100000 ∧ ths.length < 900000 ∧
  ∀ H' xs' lvs', BS c H' B L d l ln lv lvs' (growM ths rows levels z).1 xs' (rows ++ [z]) (growM ths rows levels z).2.1 → BookInv (growM ths rows levels z).1 (rows ++ [z]) (growM ths rows levels z).2.1 → IsBc (rows.length + 1) rows.length (growM ths rows levels z).2.2 →
    Kp (fpS d l ln lv lvs) H H' → Wider H lvs lvs' → Q (.int ((growM ths rows levels z).2.2 : Nat)) H'
theorem len_Book_grow {K c} : ∀ vs H Q E, sp_Book_grow K c vs H Q E → vs.length = 2 := by rintro vs H Q E ⟨_, _, _, _, _, _, _, _, _, _, _, _, rfl, _⟩; rfl
/-- what the loop keeps -/
structure GrowAt (c : Cs) (H H' : Hp) (B L d l ln lv : Addr) (lvs : List Addr) (ths : List MK) (rows : List Str) (levels : List (List Nat)) (z : Str) (h size found : Nat) : Prop where
  ex : ∃ (f : Nat) (lvs1 : List Addr) (ths1 : List MK) (xs1 : List V) (levels1 : List (List Nat)), BS c H' B L d l ln lv lvs1 ths1 xs1 (rows ++ [z]) levels1 ∧ GInv ths1 (rows ++ [z]) h size found levels1 ∧ Kp (fpS d l ln lv lvs) H H' ∧ Wider H lvs lvs1 ∧
    growL f h size found ths1 levels1 = growM ths rows levels z ∧ size ≤ f ∧ ths1.length ≤ ths.length + 1 + h
theorem GInv.low {ths : List MK} {rows : List Str} {h size found : Nat} {levels : List (List Nat)} (G : GInv ths rows h size found levels) (hr : rows.length ≤ 100000) : h ≤ 16 := by
  rcases Nat.lt_or_ge 16 h with q | q
  · have h1 : 2 ^ 17 ≤ 2 ^ h := Nat.pow_le_pow_right (by decide) (by omega)
    have h2 : 2 ^ h ≤ rows.length := by rw [G.n]; exact Nat.le_mul_of_pos_left _ G.pos
    have h3 : (2 : Nat) ^ 17 = 131072 := by decide
    omega
  · exact q
theorem pure_Book_grow {K : PySem.W.Frag} {c : Cs} {vs : List V} {H : Hp} {Q : VK} {E : XK} (T : TxK K c) (h : sp_Book_grow K c vs H Q E) : t_Book_grow K c E ⟨fun _ H' => Q .non H', Q, fun _ _ => False, fun _ _ => False⟩ (start N_Book_grow vs) H := by
  obtain ⟨B, L, d, l, ln, lv, lvs, ths, xs, rows, levels, z, rfl, S, I, hg, hr, hz, k⟩ := h
  show t_Book_grow K c E _ [some (.ref B), some (.str z), none, none, none] H
  unfold t_Book_grow
  obtain ⟨dx, hB⟩ := S.ba.ob
  have hnl : (rows ++ [z]).length = rows.length + 1 := by simp
  walk_at "s"
  refine w_fldAt hB T.cBook T.n_Book_lines bfl_lines ?_
  refine ⟨w_tyL (sql S.ba.hln), ?_⟩
  walk_at "s"
  refine w_app S.ba.hln (by rw [List.length_map]; exact szL (by omega)) ?_
  walk_at "s"
  have S1 : BS c (upd H ln (.lst (rows.map V.str ++ [.str z]))) B L d l ln lv lvs ths xs (rows ++ [z]) levels := by
    have e : rows.map V.str ++ [.str z] = (rows ++ [z]).map V.str := by rw [List.map_append]; rfl
    rw [e]
    exact S.book T (by simp) S.ba.lines
  have k1 : Kp (fpS d l ln lv lvs) H (upd H ln (.lst (rows.map V.str ++ [.str z]))) := Kp.refl.set (by simp)
  generalize upd H ln (.lst (rows.map V.str ++ [.str z])) = H1 at S1 k1
  obtain ⟨dx1, hB1⟩ := S1.ba.ob
  refine w_fldAt hB1 T.cBook T.n_Book_lines bfl_lines ?_
  walk_at "s"
  refine w_lenL (sql S1.ba.hln) ?_
  rw [List.length_map, hnl]
  walk_at "s"
  refine w_fldAt hB1 T.cBook T.n_Book_ledger bfl_ledger ?_
  obtain ⟨dy, hL1⟩ := S1.la.ob
  refine w_methAt hL1 (lfl_no (by decide +kernel) (by decide +kernel)) ?_
  walk_at "s"
  refine ⟨L, d, l, ths, xs, .str z, rfl, S1.la, rowV_good hg, by omega, fun z' ez _ H2 xs2 L2 kp2 => ?_, fun n => absurd ⟨z, rfl, hg⟩ n⟩
  cases ez
  walk_at "s"
  refine w_while (fun σ H' => ∃ h size found : Nat, σ = [some (.ref B), some (.str z), some (.int (size : Nat)), some (.int (h : Nat)), some (.int (found : Nat))] ∧ GrowAt c H H' B L d l ln lv lvs ths rows levels z h size found)
    (fun σ _ => match σ with | [_, _, some (.int m), _, _] => m.toNat | _ => 0) ?_ ?_
  · refine ⟨0, rows.length + 1, _, rfl, rows.length + 1, lvs, ask ths (.row z), xs2, levels, S1.ledger T L2 kp2, GInv.start I z, ?_, ⟨List.prefix_refl _, fun x hx => .inl hx⟩, rfl, Nat.le_refl _, by have := ask_len ths (.row z); omega⟩
    exact k1.trans (kp2.mono fun x hx => by
      rcases List.mem_cons.mp hx with e | e
      · rw [e]; simp
      · rw [List.mem_singleton.mp e]; simp)
  · rintro σ H3 ⟨h, size, found, rfl, f, lvs1, ths1, xs1, levels1, S3, G, k3, w3, eg, hf, hb⟩
    have hle := G.le
    have hlow := G.low (by omega)
    walk_at "s"
    refine iteT ?_
    refine w_wN ?_
    obtain ⟨dx3, hB3⟩ := S3.ba.ob
    walk_at "s"
    -- the level is there, or a new one
    refine w_cut (Mid := fun σ' H' => σ' = [some (.ref B), some (.str z), some (.int (size : Nat)), some (.int (h : Nat)), some (.int (found : Nat))] ∧ ∃ lvs2, BS c H' B L d l ln lv lvs2 ths1 xs1 (rows ++ [z]) (mid levels1 h) ∧ Kp (fpS d l ln lv lvs) H H' ∧ Wider H lvs lvs2) ?_ ?_
    · walk_at "s"
      refine w_fldAt hB3 T.cBook T.n_Book_levels bfl_levels ?_
      walk_at "s"
      refine w_lenL (sql S3.ba.hlv) ?_
      rw [List.length_map, S3.ba.hl]
      walk_at "s"
      refine ite_d (fun h0 => ?_) fun h0 => ?_
      · have h0 : h = levels1.length := by omega
        walk_at "s"
        refine w_fldAt hB3 T.cBook T.n_Book_levels bfl_levels ?_
        refine ⟨w_tyL (sql S3.ba.hlv), ?_⟩
        walk_at "s"
        refine ⟨Nat.zero_le _, fun a ha => ?_⟩
        walk_at "s"
        have nlv : lv ≠ a := ne_of_none S3.ba.hlv ha
        refine w_app (by rw [upd_ne nlv]; exact S3.ba.hlv) (by rw [List.length_map, S3.ba.hl]; exact szL (by omega)) ?_
        have aH : H a = none := by
          cases q : H a with
          | none => rfl
          | some o =>
            have := k3 a o q fun hx => S3.new ha (by
              rcases List.mem_cons.mp hx with e | hx
              · rw [e]; simp
              rcases List.mem_cons.mp hx with e | hx
              · rw [e]; simp
              rcases List.mem_cons.mp hx with e | hx
              · rw [e]; simp
              rcases List.mem_cons.mp hx with e | hx
              · rw [e]; simp
              · exact List.mem_cons_of_mem _ (List.mem_cons_of_mem _ (List.mem_cons_of_mem _ (List.mem_cons_of_mem _ (w3.1.subset hx)))))
            rw [ha] at this
            cases this
        refine ⟨rfl, lvs1 ++ [a], ?_, (k3.new ha).set (by simp), w3.1.trans (List.prefix_append _ _), fun x hx => ?_⟩
        · unfold mid
          rw [if_pos h0]
          exact S3.more T ha
        · rcases List.mem_append.mp hx with r | r
          · exact w3.2 x r
          · rw [List.mem_singleton.mp r]
            exact .inr aH
      · walk_at "s"
        refine ⟨rfl, lvs1, ?_, k3, w3⟩
        unfold mid
        rw [if_neg fun e => h0 (by omega)]
        exact S3
    · rintro σ H4 ⟨rfl, lvs2, S4, k4, w4⟩
      obtain ⟨dx4, hB4⟩ := S4.ba.ob
      have hm := mid_lev (levels := levels1) hle
      obtain ⟨A, hA⟩ : ∃ A, lvs2[h]? = some A := ⟨_, List.getElem?_eq_getElem (by rw [S4.ba.hl]; exact get_lt hm)⟩
      have hx := S4.ba.hs h A _ hA hm
      have hlev := G.here
      have hsz : size ≤ rows.length + 1 := by
        have := G.n
        rw [hnl] at this
        have h2 := Nat.two_pow_pos h
        rw [this]
        exact Nat.le_mul_of_pos_right _ h2
      walk_at "s"
      refine w_fldAt hB4 T.cBook T.n_Book_levels bfl_levels ?_
      walk_at "s"
      refine w_ixL (sql S4.ba.hlv) (atI_nat (v := .ref A) (by rw [List.getElem?_map, hA]; rfl)) ?_
      refine ⟨w_tyL (sql hx), ?_⟩
      walk_at "s"
      refine w_app hx (by rw [List.length_map]; exact szL (by omega)) ?_
      have hA2 : A ∈ ln :: lv :: lvs2 := List.mem_cons_of_mem _ (List.mem_cons_of_mem _ (List.mem_of_getElem? hA))
      have S5 : BS c (upd H4 A (.lst ((lev levels1 h).map nv ++ [.int (found : Nat)]))) B L d l ln lv lvs2 ths1 xs1 (rows ++ [z]) (addAt levels1 h found) := by
        have e : (lev levels1 h).map nv ++ [.int (found : Nat)] = (lev levels1 h ++ [found]).map nv := by rw [List.map_append]; rfl
        rw [e, ← mid_add hle]
        exact S4.book T hA2 (S4.ba.level hA)
      have k5 : Kp (fpS d l ln lv lvs) H (upd H4 A (.lst ((lev levels1 h).map nv ++ [.int (found : Nat)]))) := by
        rcases w4.2 A (List.mem_of_getElem? hA) with r | r
        · exact k4.set (by simp [r])
        · exact k4.fresh r
      generalize upd H4 A (.lst ((lev levels1 h).map nv ++ [.int (found : Nat)])) = H5 at S5 k5
      walk_at "s"
      refine ite_d (fun h0 => ?_) fun h0 => ?_
      · have odd : size % 2 = 1 := by omega
        walk_at "s"
        cases f with
        | zero => have := G.pos; omega
        | succ f =>
          have eg2 := eg
          unfold growL at eg2
          rw [if_pos odd] at eg2
          have I5 := G.stop odd
          have bc := G.bc odd
          rw [hnl, Nat.add_sub_cancel] at bc
          rw [show ((h : Nat) : Int) + 1 = ((h + 1 : Nat) : Int) by push_cast; rfl]
          have := k H5 xs1 lvs2
          rw [← eg2] at this
          exact this S5 I5 bc k5 w4
      · have even : ¬ size % 2 = 1 := by omega
        obtain ⟨a, b, g1, g2, d1, d2, e1, e2⟩ := G.two even
        have hp := G.pos
        walk_at "s"
        obtain ⟨dx5, hB5⟩ := S5.ba.ob
        refine w_methAt hB5 (bfl_no (by decide +kernel) (by decide +kernel) (by decide +kernel)) ?_
        walk_at "s"
        have i1 : ((h : Nat) : Int) + 1 = ((h + 1 : Nat) : Int) := by push_cast; rfl
        have i3 : ((size : Nat) : Int) / 2 - 1 = ((size / 2 - 1 : Nat) : Int) := by omega
        rw [i1, i3]
        refine ⟨B, L, d, l, ln, lv, lvs2, ths1, xs1, rows ++ [z], addAt levels1 h found, h, size / 2 - 1, a, b, rfl, S5, by omega, by rw [show 2 * (size / 2 - 1) = size - 2 by omega]; exact g1, by rw [show 2 * (size / 2 - 1) + 1 = size - 1 by omega]; exact g2, d1.lt, d2.lt, fun H6 xs6 S6 kp6 => ?_⟩
        walk_at "s"
        cases f with
        | zero => omega
        | succ f =>
          have eg2 := eg
          unfold growL at eg2
          rw [if_neg even, e1, e2] at eg2
          have al := ask_len ths1 (pk a b)
          refine ⟨⟨h + 1, size / 2, _, ?_, f, lvs2, ask ths1 (pk a b), xs6, addAt levels1 h found, S6, G.next even d1 d2, k5.trans (kp6.mono fun x hx => ?_), w4, eg2, by omega, by omega⟩, ?_⟩
          · rw [show ((size : Nat) : Int) / 2 = ((size / 2 : Nat) : Int) by omega]
          · rcases List.mem_cons.mp hx with e | e
            · rw [e]; simp
            · rw [List.mem_singleton.mp e]; simp
          · show (((size : Nat) : Int) / 2).toNat < ((size : Nat) : Int).toNat
            omega
end Tw

namespace Tw
open PySem L2 Ts Mix
/-! putting: the levels from below -/
def putL : Nat → Nat → Nat → List MK → List (List Nat) → List MK × List (List Nat) × Nat
  | 0, h, _, ths, levels => (ths, levels, h)
  | f + 1, h, j, ths, levels =>
    if h < levels.length ∧ j < (lev levels h).length then
      putL f (h + 1) (j / 2) (ask ths (pk ((lev levels (h - 1)).getD (2 * j) 0) ((lev levels (h - 1)).getD (2 * j + 1) 0)))
        (levels.set h ((lev levels h).set j (num (ask ths (pk ((lev levels (h - 1)).getD (2 * j) 0) ((lev levels (h - 1)).getD (2 * j + 1) 0))) (pk ((lev levels (h - 1)).getD (2 * j) 0) ((lev levels (h - 1)).getD (2 * j + 1) 0)))))
    else (ths, levels, h)
def putM (ths : List MK) (levels : List (List Nat)) (place : Nat) (z : Str) : List MK × List (List Nat) × Nat :=
  putL (levels.length + 1) 1 (place / 2) (ask ths (.row z)) (levels.set 0 ((lev levels 0).set place (num (ask ths (.row z)) (.row z))))
theorem putL_bound : ∀ (f h j : Nat) (ths : List MK) (levels : List (List Nat)), (putL f h j ths levels).1.length ≤ ths.length + ((putL f h j ths levels).2.2 - h) ∧ h ≤ (putL f h j ths levels).2.2
  | 0, h, _, ths, levels => ⟨Nat.le_add_right _ _, Nat.le_refl _⟩
  | f + 1, h, j, ths, levels => by
    unfold putL
    split
    · generalize hk : pk ((lev levels (h - 1)).getD (2 * j) 0) ((lev levels (h - 1)).getD (2 * j + 1) 0) = k
      obtain ⟨h1, h2⟩ := putL_bound f (h + 1) (j / 2) (ask ths k) (levels.set h ((lev levels h).set j (num (ask ths k) k)))
      have h3 := ask_len ths k
      generalize putL f (h + 1) (j / 2) (ask ths k) (levels.set h ((lev levels h).set j (num (ask ths k) k))) = g at *
      exact ⟨by omega, by omega⟩
    · exact ⟨Nat.le_add_right _ _, Nat.le_refl _⟩
theorem putL_pre : ∀ (f h j : Nat) (ths : List MK) (levels : List (List Nat)), ths <+: (putL f h j ths levels).1
  | 0, _, _, _, _ => List.prefix_refl _
  | f + 1, h, j, ths, levels => by
    unfold putL
    split
    · exact (ask_pre _ _).trans (putL_pre f _ _ _ _)
    · exact List.prefix_refl _
/-- ahead of a turn at height h: below it all is done; from it on all but the block that has the place -/
structure PInv (ths : List MK) (rows : List Str) (place h : Nat) (levels : List (List Nat)) : Prop where
  pl : place < rows.length
  len : ∀ k, (lev levels k).length = rows.length / 2 ^ k
  lo : ∀ k j x, k < h → (lev levels k)[j]? = some x → Den ths k x (blk rows k j)
  hi : ∀ k j x, h ≤ k → j ≠ place / 2 ^ k → (lev levels k)[j]? = some x → Den ths k x (blk rows k j)
  lt : h ≤ levels.length
section
variable {ths : List MK} {rows : List Str} {place h : Nat} {levels : List (List Nat)}
theorem PInv.stop (G : PInv ths rows place h levels) (q : ¬ (h < levels.length ∧ place / 2 ^ h < (lev levels h).length)) : BookInv ths rows levels := by
  refine ⟨G.len, fun k j x e => ?_⟩
  rcases Nat.lt_or_ge k h with r | r
  · exact G.lo k j x r e
  · refine G.hi k j x r (fun z => ?_) e
    have h1 := get_lt e
    have h2 : k < levels.length := by
      rcases Nat.lt_or_ge k levels.length with w | w
      · exact w
      · rw [lev_out w] at h1; simp at h1
    apply q
    refine ⟨by omega, ?_⟩
    rw [G.len, z] at h1
    rw [G.len]
    have h3 := (lt_div_iff (j := place / 2 ^ k) (n := rows.length) (h := k)).mp h1
    refine lt_div_iff.mpr ?_
    obtain ⟨t, rfl⟩ : ∃ t, k = h + t := ⟨k - h, by omega⟩
    have e1 : place / 2 ^ (h + t) = place / 2 ^ h / 2 ^ t := by rw [Nat.pow_add, Nat.div_div_eq_div_mul]
    rw [e1, Nat.pow_add, Nat.mul_comm (2 ^ h), ← Nat.mul_assoc] at h3
    refine Nat.le_trans (Nat.mul_le_mul_right _ ?_) h3
    have h4 := Nat.div_add_mod (place / 2 ^ h) (2 ^ t)
    have h5 := Nat.mod_lt (place / 2 ^ h) (Nat.two_pow_pos t)
    rw [Nat.add_mul, Nat.one_mul, Nat.mul_comm]
    omega
theorem PInv.two (G : PInv ths rows place (h + 1) levels) (q : place / 2 ^ (h + 1) < (lev levels (h + 1)).length) : ∃ a b, (lev levels h)[2 * (place / 2 ^ (h + 1))]? = some a ∧ (lev levels h)[2 * (place / 2 ^ (h + 1)) + 1]? = some b ∧
    Den ths h a (blk rows h (2 * (place / 2 ^ (h + 1)))) ∧ Den ths h b (blk rows h (2 * (place / 2 ^ (h + 1)) + 1)) ∧ (lev levels h).getD (2 * (place / 2 ^ (h + 1))) 0 = a ∧ (lev levels h).getD (2 * (place / 2 ^ (h + 1)) + 1) 0 = b := by
  generalize place / 2 ^ (h + 1) = j at *
  rw [G.len, lt_div_iff, Nat.pow_succ] at q
  have q2 : 2 * j + 1 < (lev levels h).length := by
    rw [G.len, lt_div_iff]
    have : (2 * j + 1 + 1) * 2 ^ h = (j + 1) * (2 ^ h * 2) := by rw [show 2 * j + 1 + 1 = (j + 1) * 2 by omega, Nat.mul_assoc, Nat.mul_comm 2]
    omega
  have g1 : (lev levels h)[2 * j]? = some ((lev levels h)[2 * j]'(by omega)) := List.getElem?_eq_getElem _
  have g2 : (lev levels h)[2 * j + 1]? = some ((lev levels h)[2 * j + 1]'(by omega)) := List.getElem?_eq_getElem _
  refine ⟨_, _, g1, g2, G.lo _ _ _ (Nat.lt_succ_self h) g1, G.lo _ _ _ (Nat.lt_succ_self h) g2, ?_, ?_⟩
  · rw [List.getD_eq_getElem?_getD, g1]; rfl
  · rw [List.getD_eq_getElem?_getD, g2]; rfl
theorem PInv.next (G : PInv ths rows place (h + 1) levels) (q : h + 1 < levels.length) {a b : Nat} (d1 : Den ths h a (blk rows h (2 * (place / 2 ^ (h + 1))))) (d2 : Den ths h b (blk rows h (2 * (place / 2 ^ (h + 1)) + 1))) :
    PInv (ask ths (pk a b)) rows place (h + 2) (levels.set (h + 1) ((lev levels (h + 1)).set (place / 2 ^ (h + 1)) (num (ask ths (pk a b)) (pk a b)))) := by
  refine ⟨G.pl, fun k => ?_, fun k j x hk e => ?_, fun k j x hk hj e => ?_, by rw [List.length_set]; omega⟩
  · rw [lev_set q]
    by_cases w : k = h + 1
    · rw [if_pos w, List.length_set, w]; exact G.len _
    · rw [if_neg w]; exact G.len k
  · rw [lev_set q] at e
    by_cases w : k = h + 1
    · subst w
      rw [if_pos rfl, List.getElem?_set] at e
      by_cases r : place / 2 ^ (h + 1) = j
      · rw [if_pos r] at e
        split at e
        · cases e
          rw [← r, blk_succ]
          exact den_pair d1 d2
        · cases e
      · rw [if_neg r] at e
        exact (G.hi _ j x (Nat.le_refl _) (Ne.symm r) e).mono (ask_pre _ _)
    · rw [if_neg w] at e
      exact (G.lo k j x (by omega) e).mono (ask_pre _ _)
  · rw [lev_set q, if_neg (by omega)] at e
    exact (G.hi k j x (by omega) hj e).mono (ask_pre _ _)
theorem PInv.start {levels : List (List Nat)} (I : BookInv ths rows levels) (hp : place < rows.length) (z : Str) : PInv (ask ths (.row z)) (rows.set place z) place 1 (levels.set 0 ((lev levels 0).set place (num (ask ths (.row z)) (.row z)))) := by
  have l0 : (lev levels 0).length = rows.length := by rw [I.len, Nat.pow_zero, Nat.div_one]
  have q : 0 < levels.length := by
    rcases Nat.eq_zero_or_pos levels.length with w | w
    · rw [lev_out (by omega)] at l0; simp at l0; omega
    · exact w
  refine ⟨by rw [List.length_set]; exact hp, fun k => ?_, fun k j x hk e => ?_, fun k j x hk hj e => ?_, by rw [List.length_set]; omega⟩
  · rw [List.length_set, lev_set q]
    by_cases w : k = 0
    · rw [if_pos w, List.length_set, w]; exact I.len _
    · rw [if_neg w]; exact I.len k
  · have k0 : k = 0 := by omega
    subst k0
    rw [lev_set q, if_pos rfl, List.getElem?_set] at e
    by_cases r : place = j
    · subst r
      rw [if_pos rfl] at e
      split at e
      · cases e
        rw [blk_zero (z := z) (by rw [List.getElem?_set]; simp [hp])]
        exact den_row z
      · cases e
    · rw [if_neg r] at e
      rw [blk_set (by rw [Nat.pow_zero, Nat.div_one]; exact Ne.symm r)]
      exact (I.den 0 j x e).mono (ask_pre _ _)
  · rw [lev_set q, if_neg (by omega)] at e
    rw [blk_set hj]
    exact (I.den k j x e).mono (ask_pre _ _)
end
def N_Book_put : List Str := ["self", "place", "row", "height", "number"]
def t_Book_put (K : PySem.W.Frag) (c : Cs) (E : XK) : TS := (tSeq (tDrop (tMeth c.Book "sure" (sp_Book_sure K c) [] E (tVar 0) (tCons (tVar 1) tNil)))
  (tSeq (tDrop (tCall (sp_sure_row K c) [] E (tCons (tVar 2) tNil)))
  (tSeq (tAsg (tVar 2) (gSub (tFld K (tVar 0) "lines") (tVar 1) rSetL))
  (tSeq (tAsg (tMeth c.Ledger "of_row" (sp_Ledger_of_row K c) [] E (tFld K (tVar 0) "ledger") (tCons (tVar 2) tNil)) (gSub (tOp (rIx K) (tFld K (tVar 0) "levels") (tC (.int 0))) (tVar 1) rSetL))
  (tSeq (tAsg (tC (.int 1)) (gName 3))
  (tSeq (tAsg (tOp rDiv (tVar 1) (tC (.int 2))) (gName 4))
  (tSeq (tWhile (tAnd (tTest (tOp rLt (tVar 3) (tCB (rLen K) (tCons (tFld K (tVar 0) "levels") tNil)))) (tTest (tOp rLt (tVar 4) (tCB (rLen K) (tCons (tOp (rIx K) (tFld K (tVar 0) "levels") (tVar 3)) tNil))))) (tSeq (tAsg (tMeth c.Book "half_sums" (sp_Book_half_sums K c) [] E (tVar 0) (tCons (tVar 3) (tCons (tVar 4) tNil))) (gSub (tOp (rIx K) (tFld K (tVar 0) "levels") (tVar 3)) (tVar 4) rSetL))
  (tSeq (tAsg (tOp rAddU (tVar 3) (tC (.int 1))) (gName 3))
  (tAsg (tOp rDiv (tVar 4) (tC (.int 2))) (gName 4)))))
  (tRet (tVar 3)))))))))
def sp_Book_put (K : PySem.W.Frag) (c : Cs) : Sp := fun vs H Q E => ∃ (B L d l ln lv : Addr) (lvs : List Addr) (ths : List MK) (xs : List V) (rows : List Str) (levels : List (List Nat)) (p v : V) (b : Bool), vs = [.ref B, p, v] ∧ BS c H B L d l ln lv lvs ths xs rows levels ∧ BookInv ths rows levels ∧ isWholeV K H p b ∧ RowV K H v ∧
  rows.length ≤ 100000 ∧ ths.length < 900000 ∧
  (¬ NumV rows.length p → E (.ref c.NoPlace) none H) ∧ (NumV rows.length p → ¬ isRowV v → E (.ref c.NoRow) none H) ∧
  (∀ (place : Nat) (z : Str), p = .int place → v = .str z → place < rows.length → Good z → ∀ H' xs', BS c H' B L d l ln lv lvs (putM ths levels place z).1 xs' (rows.set place z) (putM ths levels place z).2.1 → BookInv (putM ths levels place z).1 (rows.set place z) (putM ths levels place z).2.1 →
    IsBc rows.length place (putM ths levels place z).2.2 → Kp (fpS d l ln lv lvs) H H' → Q (.int ((putM ths levels place z).2.2 : Nat)) H')
theorem len_Book_put {K c} : ∀ vs H Q E, sp_Book_put K c vs H Q E → vs.length = 3 := by rintro vs H Q E ⟨_, _, _, _, _, _, _, _, _, _, _, _, _, _, rfl, _⟩; rfl
theorem pure_Book_put {K : PySem.W.Frag} {c : Cs} {vs : List V} {H : Hp} {Q : VK} {E : XK} (T : TxK K c) (h : sp_Book_put K c vs H Q E) : t_Book_put K c E ⟨fun _ H' => Q .non H', Q, fun _ _ => False, fun _ _ => False⟩ (start N_Book_put vs) H := by
  obtain ⟨B, L, d, l, ln, lv, lvs, ths, xs, rows, levels, p, v, b, rfl, S, I, hw, hv, hr, hz, k1, k2, k3⟩ := h
  show t_Book_put K c E _ [some (.ref B), some p, some v, none, none] H
  unfold t_Book_put
  obtain ⟨dx, hB⟩ := S.ba.ob
  walk_at "s"
  refine w_methAt hB (bfl_no (by decide +kernel) (by decide +kernel) (by decide +kernel)) ?_
  walk_at "s"
  refine ⟨B, L, ln, lv, lvs, rows, levels, p, b, rfl, S.ba, hw, hr, fun y => ?_, k1⟩
  obtain ⟨place, rfl, hp⟩ := y
  walk_at "s"
  refine ⟨v, rfl, hv, fun y2 => ?_, fun n => k2 ⟨place, rfl, hp⟩ n⟩
  obtain ⟨z, rfl, hg⟩ := y2
  have k := k3 place z rfl rfl hp hg
  clear k1 k2 k3
  walk_at "s"
  refine w_fldAt hB T.cBook T.n_Book_lines bfl_lines ?_
  walk_at "s"
  refine w_setL S.ba.hln (by rw [List.length_map]; exact hp) ?_
  walk_at "s"
  have S1 : BS c (upd H ln (.lst ((rows.map V.str).set place (.str z)))) B L d l ln lv lvs ths xs (rows.set place z) levels := by
    rw [← List.map_set]
    exact S.book T (by simp) S.ba.lines
  have q1 : Kp (fpS d l ln lv lvs) H (upd H ln (.lst ((rows.map V.str).set place (.str z)))) := Kp.refl.set (by simp)
  generalize upd H ln (.lst ((rows.map V.str).set place (.str z))) = H1 at S1 q1
  obtain ⟨dx1, hB1⟩ := S1.ba.ob
  refine w_fldAt hB1 T.cBook T.n_Book_ledger bfl_ledger ?_
  obtain ⟨dy, hL1⟩ := S1.la.ob
  refine w_methAt hL1 (lfl_no (by decide +kernel) (by decide +kernel)) ?_
  walk_at "s"
  refine ⟨L, d, l, ths, xs, .str z, rfl, S1.la, rowV_good hg, by omega, fun z' ez _ H2 xs2 L2 kp2 => ?_, fun n => absurd ⟨z, rfl, hg⟩ n⟩
  cases ez
  have S2 := S1.ledger T L2 kp2
  have q2 := q1.trans (kp2.mono (S' := fpS d l ln lv lvs) fun x hx => by
      rcases List.mem_cons.mp hx with e | e
      · rw [e]; simp
      · rw [List.mem_singleton.mp e]; simp)
  walk_at "s"
  obtain ⟨dx2, hB2⟩ := S2.ba.ob
  refine w_fldAt hB2 T.cBook T.n_Book_levels bfl_levels ?_
  walk_at "s"
  have l0 : (lev levels 0).length = rows.length := by rw [I.len, Nat.pow_zero, Nat.div_one]
  have g0 : ∃ x, levels[0]? = some x ∧ lev levels 0 = x := by
    rcases Nat.eq_zero_or_pos levels.length with w | w
    · rw [lev_out (by omega)] at l0; simp at l0; omega
    · exact ⟨_, List.getElem?_eq_getElem w, lev_get (List.getElem?_eq_getElem w)⟩
  obtain ⟨x0, g1, g2⟩ := g0
  obtain ⟨A, hA⟩ : ∃ A, lvs[0]? = some A := ⟨_, List.getElem?_eq_getElem (by rw [S2.ba.hl]; exact get_lt g1)⟩
  have hx0 := S2.ba.hs 0 A _ hA g1
  refine w_ixL (sql S2.ba.hlv) (atI_nat (j := 0) (v := .ref A) (by rw [List.getElem?_map, hA]; rfl)) ?_
  walk_at "s"
  refine w_setL hx0 (by rw [List.length_map, ← g2, l0]; exact hp) ?_
  have hA2 : A ∈ ln :: lv :: lvs := List.mem_cons_of_mem _ (List.mem_cons_of_mem _ (List.mem_of_getElem? hA))
  have S3 : BS c (upd H2 A (.lst ((x0.map nv).set place (.int (num (ask ths (.row z)) (.row z) : Nat))))) B L d l ln lv lvs (ask ths (.row z)) xs2 (rows.set place z) (levels.set 0 ((lev levels 0).set place (num (ask ths (.row z)) (.row z)))) := by
    have e : (x0.map nv).set place (.int (num (ask ths (.row z)) (.row z) : Nat)) = (x0.set place (num (ask ths (.row z)) (.row z))).map nv := by rw [List.map_set]; rfl
    rw [e, g2]
    exact S2.book T hA2 (S2.ba.level hA)
  have q3 : Kp (fpS d l ln lv lvs) H (upd H2 A (.lst ((x0.map nv).set place (.int (num (ask ths (.row z)) (.row z) : Nat))))) := q2.set (List.mem_cons_of_mem _ (List.mem_cons_of_mem _ hA2))
  generalize upd H2 A (.lst ((x0.map nv).set place (.int (num (ask ths (.row z)) (.row z) : Nat)))) = H3 at S3 q3
  have G3 := PInv.start I hp z
  walk_at "s"
  have ea := ask_len ths (.row z)
  refine w_while (fun σ H' => ∃ (h f : Nat) (ths1 : List MK) (xs1 : List V) (levels1 : List (List Nat)), σ = [some (.ref B), some (.int (place : Nat)), some (.str z), some (.int ((h + 1 : Nat) : Int)), some (.int ((place / 2 ^ (h + 1) : Nat) : Int))] ∧ BS c H' B L d l ln lv lvs ths1 xs1 (rows.set place z) levels1 ∧
      PInv ths1 (rows.set place z) place (h + 1) levels1 ∧ Kp (fpS d l ln lv lvs) H H' ∧ putL f (h + 1) (place / 2 ^ (h + 1)) ths1 levels1 = putM ths levels place z ∧ levels1.length ≤ f + h ∧ ths1.length ≤ ths.length + 1 + h ∧ h ≤ 17 ∧ (∀ k, k < h + 1 → (place / 2 ^ k + 1) * 2 ^ k ≤ rows.length) ∧ levels1.length = levels.length)
    (fun σ _ => match σ with | [_, _, _, some (.int m), _] => levels.length + 1 - m.toNat | _ => 0) ?_ ?_
  · refine ⟨0, levels.length + 1, ask ths (.row z), xs2, _, ?_, S3, G3, q3, rfl, by rw [List.length_set]; omega, by omega, by omega, fun k hk => ?_, by rw [List.length_set]⟩
    · rw [show ((place : Nat) : Int) / 2 = ((place / 2 ^ (0 + 1) : Nat) : Int) by rw [Nat.zero_add, Nat.pow_one]; omega]
      rfl
    · have : k = 0 := by omega
      subst this
      simp
      omega
  · rintro σ H4 ⟨h, f, ths1, xs1, levels1, rfl, S4, G, q4, ep, hf, hb, hh, hbc, hll⟩
    obtain ⟨dx4, hB4⟩ := S4.ba.ob
    have hrl : (rows.set place z).length = rows.length := List.length_set
    walk_at "s"
    refine w_fldAt hB4 T.cBook T.n_Book_levels bfl_levels ?_
    walk_at "s"
    refine w_lenL (sql S4.ba.hlv) ?_
    rw [List.length_map, S4.ba.hl]
    walk_at "s"
    have fin : ¬ (h + 1 < levels1.length ∧ place / 2 ^ (h + 1) < (lev levels1 (h + 1)).length) → Q (.int ((h + 1 : Nat) : Int)) H4 := fun no => by
      have e : putL f (h + 1) (place / 2 ^ (h + 1)) ths1 levels1 = (ths1, levels1, h + 1) := by
        cases f with
        | zero => rfl
        | succ f => unfold putL; rw [if_neg no]
      rw [e] at ep
      have I4 := G.stop no
      have k4 := k H4 xs1
      rw [← ep] at k4
      refine k4 S4 I4 ⟨hbc, fun z2 => no ?_⟩ q4
      rw [← lt_div_iff] at z2
      have e2 := G.len (h + 1)
      rw [hrl] at e2
      refine ⟨?_, by rw [e2]; exact z2⟩
      rcases Nat.lt_or_ge (h + 1) levels1.length with w | w
      · exact w
      · rw [lev_out w] at e2
        have e3 : 0 = rows.length / 2 ^ (h + 1) := e2
        have z3 : place / 2 ^ (h + 1) < rows.length / 2 ^ (h + 1) := z2
        rw [← e3] at z3
        exact absurd z3 (Nat.not_lt_zero _)
    refine ite_d (fun h1 => ?_) fun h1 => ?_
    · have h1 : h + 1 < levels1.length := by omega
      obtain ⟨A1, hA1⟩ : ∃ A, lvs[h + 1]? = some A := ⟨_, List.getElem?_eq_getElem (by rw [S4.ba.hl]; exact h1)⟩
      have gl := List.getElem?_eq_getElem h1
      have hx1 := S4.ba.hs (h + 1) A1 _ hA1 gl
      have gl2 := lev_get gl
      rw [← gl2] at hx1
      walk_at "s"
      refine w_fldAt hB4 T.cBook T.n_Book_levels bfl_levels ?_
      walk_at "s"
      refine w_ixL (sql S4.ba.hlv) (atI_nat (v := .ref A1) (by rw [List.getElem?_map, hA1]; rfl)) ?_
      walk_at "s"
      refine w_lenL (sql hx1) ?_
      rw [List.length_map]
      walk_at "s"
      refine ite_d (fun h2 => ?_) fun h2 => ?_
      · have h2 : place / 2 ^ (h + 1) < (lev levels1 (h + 1)).length := by omega
        have yes : h + 1 < levels1.length ∧ place / 2 ^ (h + 1) < (lev levels1 (h + 1)).length := ⟨h1, h2⟩
        obtain ⟨a, b2, g1, g2, d1, d2, e1, e2⟩ := G.two h2
        have hbc2 : (place / 2 ^ (h + 1) + 1) * 2 ^ (h + 1) ≤ rows.length := by
          rw [G.len, hrl, lt_div_iff] at h2
          exact h2
        have hlow : h + 1 ≤ 16 := by
          rcases Nat.lt_or_ge 16 (h + 1) with w | w
          · have w1 : 2 ^ 17 ≤ 2 ^ (h + 1) := Nat.pow_le_pow_right (by decide) (by omega)
            have w2 : 2 ^ (h + 1) ≤ (place / 2 ^ (h + 1) + 1) * 2 ^ (h + 1) := Nat.le_mul_of_pos_left _ (Nat.succ_pos _)
            have w3 : (2 : Nat) ^ 17 = 131072 := by decide
            omega
          · exact w
        refine w_wN ?_
        walk_at "s"
        refine w_methAt hB4 (bfl_no (by decide +kernel) (by decide +kernel) (by decide +kernel)) ?_
        walk_at "s"
        refine ⟨B, L, d, l, ln, lv, lvs, ths1, xs1, rows.set place z, levels1, h, place / 2 ^ (h + 1), a, b2, rfl, S4, by omega, g1, g2, d1.lt, d2.lt, fun H5 xs5 S5 kp5 => ?_⟩
        walk_at "s"
        obtain ⟨dx5, hB5⟩ := S5.ba.ob
        refine w_fldAt hB5 T.cBook T.n_Book_levels bfl_levels ?_
        walk_at "s"
        refine w_ixL (sql S5.ba.hlv) (atI_nat (v := .ref A1) (by rw [List.getElem?_map, hA1]; rfl)) ?_
        walk_at "s"
        have hx5 := S5.ba.hs (h + 1) A1 _ hA1 gl
        rw [← gl2] at hx5
        refine w_setL hx5 (by rw [List.length_map]; exact h2) ?_
        have hA3 : A1 ∈ ln :: lv :: lvs := List.mem_cons_of_mem _ (List.mem_cons_of_mem _ (List.mem_of_getElem? hA1))
        have S6 : BS c (upd H5 A1 (.lst (((lev levels1 (h + 1)).map nv).set (place / 2 ^ (h + 1)) (.int (num (ask ths1 (pk a b2)) (pk a b2) : Nat))))) B L d l ln lv lvs (ask ths1 (pk a b2)) xs5 (rows.set place z) (levels1.set (h + 1) ((lev levels1 (h + 1)).set (place / 2 ^ (h + 1)) (num (ask ths1 (pk a b2)) (pk a b2)))) := by
          have e : ((lev levels1 (h + 1)).map nv).set (place / 2 ^ (h + 1)) (.int (num (ask ths1 (pk a b2)) (pk a b2) : Nat)) = ((lev levels1 (h + 1)).set (place / 2 ^ (h + 1)) (num (ask ths1 (pk a b2)) (pk a b2))).map nv := by rw [List.map_set]; rfl
          rw [e]
          exact S5.book T hA3 (S5.ba.level hA1)
        have q6 : Kp (fpS d l ln lv lvs) H (upd H5 A1 (.lst (((lev levels1 (h + 1)).map nv).set (place / 2 ^ (h + 1)) (.int (num (ask ths1 (pk a b2)) (pk a b2) : Nat))))) := (q4.trans (kp5.mono fun x hx => by
          rcases List.mem_cons.mp hx with e | e
          · rw [e]; simp
          · rw [List.mem_singleton.mp e]; simp)).set (List.mem_cons_of_mem _ (List.mem_cons_of_mem _ hA3))
        generalize upd H5 A1 (.lst (((lev levels1 (h + 1)).map nv).set (place / 2 ^ (h + 1)) (.int (num (ask ths1 (pk a b2)) (pk a b2) : Nat)))) = H6 at S6 q6
        walk_at "s"
        have al := ask_len ths1 (pk a b2)
        cases f with
        | zero => omega
        | succ f =>
          have ep2 := ep
          unfold putL at ep2
          rw [if_pos yes, Nat.add_sub_cancel, e1, e2, show place / 2 ^ (h + 1) / 2 = place / 2 ^ (h + 1 + 1) by rw [Nat.pow_succ 2 (h + 1), Nat.div_div_eq_div_mul]] at ep2
          refine ⟨⟨h + 1, f, ask ths1 (pk a b2), xs5, _, ?_, S6, G.next h1 d1 d2, q6, ep2, by rw [List.length_set]; omega, by omega, by omega, fun k' hk' => ?_, by rw [List.length_set]; exact hll⟩, ?_⟩
          · rw [show ((h + 1 : Nat) : Int) + 1 = ((h + 1 + 1 : Nat) : Int) by push_cast; rfl, show ((place / 2 ^ (h + 1) : Nat) : Int) / 2 = ((place / 2 ^ (h + 1 + 1) : Nat) : Int) by rw [Nat.pow_succ 2 (h + 1), ← Nat.div_div_eq_div_mul]; omega]
          · rcases Nat.lt_or_ge k' (h + 1) with w | w
            · exact hbc k' w
            · have : k' = h + 1 := by omega
              rw [this]; exact hbc2
          · show levels.length + 1 - (((h + 1 : Nat) : Int) + 1).toNat < levels.length + 1 - ((h + 1 : Nat) : Int).toNat
            omega
      · walk_at "s"
        exact fin fun w => h2 (by have := w.2; omega)
    · refine iteF ?_
      walk_at "s"
      exact fin fun w => h1 (by have := w.1; omega)
end Tw

namespace Tw
open PySem L2 Ts Mix
/-! ### small ones -/
section
variable {K : PySem.W.Frag} {c : Cs} {H H' : Hp} {B L ln lv : Addr} {lvs : List Addr} {rows : List Str} {levels : List (List Nat)}
theorem BookAt.lvl (b : BookAt c H B L ln lv lvs rows levels) {h : Nat} (hh : h < levels.length) : ∃ A, lvs[h]? = some A ∧ (lvs.map V.ref)[h]? = some (.ref A) ∧ H A = some (.lst ((lev levels h).map nv)) := by
  obtain ⟨A, hA⟩ : ∃ A, lvs[h]? = some A := ⟨_, List.getElem?_eq_getElem (by rw [b.hl]; exact hh)⟩
  have g := List.getElem?_eq_getElem hh
  refine ⟨A, hA, by rw [List.getElem?_map, hA]; rfl, ?_⟩
  rw [lev_get g]
  exact b.hs h A _ hA g
end
def N_Book_count : List Str := ["self"]
def t_Book_count (K : PySem.W.Frag) (c : Cs) (E : XK) : TS := (tRet (tCB (rLen K) (tCons (tFld K (tVar 0) "lines") tNil)))
def sp_Book_count (K : PySem.W.Frag) (c : Cs) : Sp := fun vs H Q _ => ∃ (B L ln lv : Addr) (lvs : List Addr) (rows : List Str) (levels : List (List Nat)), vs = [.ref B] ∧ BookAt c H B L ln lv lvs rows levels ∧ Q (.int (rows.length : Nat)) H
theorem len_Book_count {K c} : ∀ vs H Q E, sp_Book_count K c vs H Q E → vs.length = 1 := by rintro vs H Q E ⟨_, _, _, _, _, _, _, rfl, _⟩; rfl
theorem pure_Book_count {K : PySem.W.Frag} {c : Cs} {vs : List V} {H : Hp} {Q : VK} {E : XK} (T : TxK K c) (h : sp_Book_count K c vs H Q E) : t_Book_count K c E ⟨fun _ H' => Q .non H', Q, fun _ _ => False, fun _ _ => False⟩ (start N_Book_count vs) H := by
  obtain ⟨B, L, ln, lv, lvs, rows, levels, rfl, S, k⟩ := h
  show t_Book_count K c E _ [some (.ref B)] H
  unfold t_Book_count
  obtain ⟨dx, hB⟩ := S.ob
  walk_at "s"
  refine w_fldAt hB T.cBook T.n_Book_lines bfl_lines ?_
  walk_at "s"
  refine w_lenL (sql S.hln) ?_
  rw [List.length_map]
  exact k
def N_Book_row : List Str := ["self", "place"]
def t_Book_row (K : PySem.W.Frag) (c : Cs) (E : XK) : TS := (tSeq (tDrop (tMeth c.Book "sure" (sp_Book_sure K c) [] E (tVar 0) (tCons (tVar 1) tNil)))
  (tRet (tOp (rIx K) (tFld K (tVar 0) "lines") (tVar 1))))
def sp_Book_row (K : PySem.W.Frag) (c : Cs) : Sp := fun vs H Q E => ∃ (B L ln lv : Addr) (lvs : List Addr) (rows : List Str) (levels : List (List Nat)) (v : V) (b : Bool), vs = [.ref B, v] ∧ BookAt c H B L ln lv lvs rows levels ∧ isWholeV K H v b ∧ rows.length ≤ 100000 ∧
  (∀ (i : Nat) z, v = .int i → rows[i]? = some z → Q (.str z) H) ∧ (¬ NumV rows.length v → E (.ref c.NoPlace) none H)
theorem len_Book_row {K c} : ∀ vs H Q E, sp_Book_row K c vs H Q E → vs.length = 2 := by rintro vs H Q E ⟨_, _, _, _, _, _, _, _, _, rfl, _⟩; rfl
theorem pure_Book_row {K : PySem.W.Frag} {c : Cs} {vs : List V} {H : Hp} {Q : VK} {E : XK} (T : TxK K c) (h : sp_Book_row K c vs H Q E) : t_Book_row K c E ⟨fun _ H' => Q .non H', Q, fun _ _ => False, fun _ _ => False⟩ (start N_Book_row vs) H := by
  obtain ⟨B, L, ln, lv, lvs, rows, levels, v, b, rfl, S, hw, hr, k1, k2⟩ := h
  show t_Book_row K c E _ [some (.ref B), some v] H
  unfold t_Book_row
  obtain ⟨dx, hB⟩ := S.ob
  walk_at "s"
  refine w_methAt hB (bfl_no (by decide +kernel) (by decide +kernel) (by decide +kernel)) ?_
  walk_at "s"
  refine ⟨B, L, ln, lv, lvs, rows, levels, v, b, rfl, S, hw, hr, fun y => ?_, k2⟩
  obtain ⟨i, rfl, hi⟩ := y
  walk_at "s"
  refine w_fldAt hB T.cBook T.n_Book_lines bfl_lines ?_
  walk_at "s"
  exact w_ixL (sql S.hln) (atI_nat (v := .str rows[i]) (by rw [List.getElem?_map, List.getElem?_eq_getElem hi]; rfl)) (k1 i _ rfl (List.getElem?_eq_getElem hi))
def N_Book_rows : List Str := ["self"]
def t_Book_rows (K : PySem.W.Frag) (c : Cs) (E : XK) : TS := (tRet (tCB (rListOf K) (tCons (tFld K (tVar 0) "lines") tNil)))
def sp_Book_rows (K : PySem.W.Frag) (c : Cs) : Sp := fun vs H Q _ => ∃ (B L ln lv : Addr) (lvs : List Addr) (rows : List Str) (levels : List (List Nat)), vs = [.ref B] ∧ BookAt c H B L ln lv lvs rows levels ∧ ∀ p, H p = none → Q (.ref p) (upd H p (.lst (rows.map V.str)))
theorem len_Book_rows {K c} : ∀ vs H Q E, sp_Book_rows K c vs H Q E → vs.length = 1 := by rintro vs H Q E ⟨_, _, _, _, _, _, _, rfl, _⟩; rfl
theorem pure_Book_rows {K : PySem.W.Frag} {c : Cs} {vs : List V} {H : Hp} {Q : VK} {E : XK} (T : TxK K c) (h : sp_Book_rows K c vs H Q E) : t_Book_rows K c E ⟨fun _ H' => Q .non H', Q, fun _ _ => False, fun _ _ => False⟩ (start N_Book_rows vs) H := by
  obtain ⟨B, L, ln, lv, lvs, rows, levels, rfl, S, k⟩ := h
  show t_Book_rows K c E _ [some (.ref B)] H
  unfold t_Book_rows
  obtain ⟨dx, hB⟩ := S.ob
  walk_at "s"
  refine w_fldAt hB T.cBook T.n_Book_lines bfl_lines ?_
  walk_at "s"
  exact w_listL (sql S.hln) k
def N_Book_add : List Str := ["self", "row"]
def t_Book_add (K : PySem.W.Frag) (c : Cs) (E : XK) : TS := (tSeq (tDrop (tCall (sp_sure_row K c) [] E (tCons (tVar 1) tNil)))
  (tSeq (tIfS (tTest (tOp (rEqU K) (tCB (rLen K) (tCons (tFld K (tVar 0) "lines") tNil)) (tC (.int 1024)))) (tRaiseX c.Full (fun cls d _ H => E cls d H)) tNext)
  (tRet (tMeth c.Book "grow" (sp_Book_grow K c) [] E (tVar 0) (tCons (tVar 1) tNil)))))
def sp_Book_add (K : PySem.W.Frag) (c : Cs) : Sp := fun vs H Q E => ∃ (B L d l ln lv : Addr) (lvs : List Addr) (ths : List MK) (xs : List V) (rows : List Str) (levels : List (List Nat)) (v : V), vs = [.ref B, v] ∧ BS c H B L d l ln lv lvs ths xs rows levels ∧ BookInv ths rows levels ∧ RowV K H v ∧
  rows.length ≤ 1024 ∧ ths.length < 900000 ∧ (¬ isRowV v → E (.ref c.NoRow) none H) ∧ (isRowV v → rows.length = 1024 → E (.ref c.Full) none H) ∧
  ∀ z, v = .str z → Good z → rows.length < 1024 → ∀ H' xs' lvs', BS c H' B L d l ln lv lvs' (growM ths rows levels z).1 xs' (rows ++ [z]) (growM ths rows levels z).2.1 → BookInv (growM ths rows levels z).1 (rows ++ [z]) (growM ths rows levels z).2.1 → IsBc (rows.length + 1) rows.length (growM ths rows levels z).2.2 →
    Kp (fpS d l ln lv lvs) H H' → Wider H lvs lvs' → Q (.int ((growM ths rows levels z).2.2 : Nat)) H'
theorem len_Book_add {K c} : ∀ vs H Q E, sp_Book_add K c vs H Q E → vs.length = 2 := by rintro vs H Q E ⟨_, _, _, _, _, _, _, _, _, _, _, _, rfl, _⟩; rfl
theorem pure_Book_add {K : PySem.W.Frag} {c : Cs} {vs : List V} {H : Hp} {Q : VK} {E : XK} (T : TxK K c) (h : sp_Book_add K c vs H Q E) : t_Book_add K c E ⟨fun _ H' => Q .non H', Q, fun _ _ => False, fun _ _ => False⟩ (start N_Book_add vs) H := by
  obtain ⟨B, L, d, l, ln, lv, lvs, ths, xs, rows, levels, v, rfl, S, I, hv, hr, hz, k1, k2, k3⟩ := h
  show t_Book_add K c E _ [some (.ref B), some v] H
  unfold t_Book_add
  obtain ⟨dx, hB⟩ := S.ba.ob
  walk_at "s"
  refine ⟨v, rfl, hv, fun y => ?_, k1⟩
  walk_at "s"
  refine w_fldAt hB T.cBook T.n_Book_lines bfl_lines ?_
  walk_at "s"
  refine w_lenL (sql S.ba.hln) ?_
  rw [List.length_map]
  walk_at "s"
  refine ite_d (fun h0 => ?_) fun h0 => ?_
  · walk_at "s"
    exact k2 y (by omega)
  · obtain ⟨z, rfl, hg⟩ := y
    walk_at "s"
    refine w_methAt hB (bfl_no (by decide +kernel) (by decide +kernel) (by decide +kernel)) ?_
    walk_at "s"
    exact ⟨B, L, d, l, ln, lv, lvs, ths, xs, rows, levels, z, rfl, S, I, hg, by omega, hz, k3 z rfl hg (by omega)⟩
/-- the block stands -/
def HasB (levels : List (List Nat)) (v w : V) : Prop := ∃ h j : Nat, v = .int h ∧ w = .int j ∧ j < (lev levels h).length
end Tw

namespace Tw
open PySem L2 Ts Mix
theorem getLast_at {α : Type} {l : List α} (h : l ≠ []) : ∃ x, l[l.length - 1]? = some x ∧ l = l.dropLast ++ [x] := by
  refine ⟨l.getLast h, ?_, (List.dropLast_concat_getLast h).symm⟩
  rw [List.getLast_eq_getElem]
  exact List.getElem?_eq_getElem _
theorem div_pred {n k : Nat} (hn : 0 < n) : (n - 1) / 2 ^ k = if n % 2 ^ k = 0 then n / 2 ^ k - 1 else n / 2 ^ k := by
  by_cases h : n % 2 ^ k = 0
  · rw [if_pos h]
    obtain ⟨m, hm⟩ := Nat.dvd_of_mod_eq_zero h
    have p := Nat.two_pow_pos k
    generalize 2 ^ k = s at *
    have m0 : 0 < m := by
      rcases Nat.eq_zero_or_pos m with z | z
      · rw [z, Nat.mul_zero] at hm; omega
      · exact z
    obtain ⟨m', rfl⟩ : ∃ m', m = m' + 1 := ⟨m - 1, by omega⟩
    have e : n - 1 = s * m' + (s - 1) := by rw [hm, Nat.mul_add, Nat.mul_one]; omega
    rw [e, Nat.mul_add_div p, Nat.div_eq_of_lt (by omega), hm, Nat.mul_div_cancel_left _ p]
    omega
  · rw [if_neg h]
    exact half_odd hn h
/-- ahead of a turn: the heights below h have lost their last block -/
structure DInv (ths : List MK) (rows : List Str) (h : Nat) (levels : List (List Nat)) : Prop where
  pos : 0 < rows.length
  dv : ∀ k, k < h → rows.length % 2 ^ k = 0
  lo : ∀ k, k < h → (lev levels k).length = rows.length / 2 ^ k - 1
  hi : ∀ k, h ≤ k → (lev levels k).length = rows.length / 2 ^ k
  den : ∀ k j x, (lev levels k)[j]? = some x → Den ths k x (blk rows k j)
section
variable {ths : List MK} {rows : List Str} {h : Nat} {levels : List (List Nat)}
theorem dropLast_get {α : Type} {l : List α} {j : Nat} {x : α} (e : l.dropLast[j]? = some x) : l[j]? = some x := by
  have h1 := get_lt e
  rw [List.length_dropLast] at h1
  rw [List.getElem?_dropLast, if_pos h1] at e
  exact e
theorem dvd_low {n k m : Nat} (h : n % 2 ^ m = 0) (hk : k ≤ m) : n % 2 ^ k = 0 := Nat.mod_eq_zero_of_dvd (Nat.dvd_trans (Nat.pow_dvd_pow 2 hk) (Nat.dvd_of_mod_eq_zero h))
theorem DInv.next (G : DInv ths rows h levels) (q : rows.length % 2 ^ h = 0) (hl : h < levels.length) : DInv ths rows (h + 1) (levels.set h (lev levels h).dropLast) := by
  refine ⟨G.pos, fun k hk => dvd_low q (by omega), fun k hk => ?_, fun k hk => ?_, fun k j x e => ?_⟩
  · rw [lev_set hl]
    by_cases w : k = h
    · rw [if_pos w, List.length_dropLast, G.hi h (Nat.le_refl _), w]
    · rw [if_neg w]; exact G.lo k (by omega)
  · rw [lev_set hl, if_neg (by omega)]
    exact G.hi k (by omega)
  · rw [lev_set hl] at e
    by_cases w : k = h
    · rw [if_pos w] at e
      subst w
      exact G.den k j x (dropLast_get e)
    · rw [if_neg w] at e
      exact G.den k j x e
theorem DInv.there (G : DInv ths rows h levels) (q : rows.length % 2 ^ h = 0) : h < levels.length ∧ lev levels h ≠ [] := by
  have p : 0 < (lev levels h).length := by
    rw [G.hi h (Nat.le_refl _)]
    refine Nat.div_pos ?_ (Nat.two_pow_pos h)
    exact Nat.le_of_dvd G.pos (Nat.dvd_of_mod_eq_zero q)
  refine ⟨?_, fun z => by rw [z] at p; exact absurd p (Nat.lt_irrefl _)⟩
  rcases Nat.lt_or_ge h levels.length with w | w
  · exact w
  · rw [lev_out w] at p
    exact absurd p (Nat.lt_irrefl _)
theorem DInv.stop (G : DInv ths rows h levels) (q : ¬ rows.length % 2 ^ h = 0) : BookInv ths rows.dropLast levels ∧ IsBc rows.length (rows.length - 1) h := by
  have hd : rows.dropLast.length = rows.length - 1 := List.length_dropLast
  have len : ∀ k, (lev levels k).length = rows.dropLast.length / 2 ^ k := fun k => by
    rw [hd, div_pred G.pos]
    rcases Nat.lt_or_ge k h with w | w
    · rw [if_pos (G.dv k w)]; exact G.lo k w
    · rw [if_neg fun z => q (dvd_low z w)]; exact G.hi k w
  refine ⟨⟨len, fun k j x e => ?_⟩, fun k hk => ?_, fun z => ?_⟩
  · have hj := get_lt e
    rw [len, lt_div_iff] at hj
    have d := G.den k j x e
    obtain ⟨y, _, ey⟩ := getLast_at (l := rows) (fun z => by have := G.pos; rw [z] at this; exact absurd this (Nat.lt_irrefl _))
    rw [ey, blk_append hj] at d
    exact d
  · rw [← lt_div_iff]
    have := div_pred (k := k) G.pos
    rw [if_pos (G.dv k hk)] at this
    have p : 0 < rows.length / 2 ^ k := Nat.div_pos (Nat.le_of_dvd G.pos (Nat.dvd_of_mod_eq_zero (G.dv k hk))) (Nat.two_pow_pos k)
    omega
  · rw [← lt_div_iff] at z
    have := div_pred (k := h) G.pos
    rw [if_neg q] at this
    omega
theorem DInv.low (G : DInv ths rows h levels) (hr : rows.length ≤ 100000) : h ≤ 17 := by
  rcases Nat.lt_or_ge 17 h with w | w
  · have d := G.dv 17 w
    have h1 := Nat.le_of_dvd G.pos (Nat.dvd_of_mod_eq_zero d)
    have h3 : (2 : Nat) ^ 17 = 131072 := by decide
    omega
  · exact w
theorem DInv.start {levels : List (List Nat)} (I : BookInv ths rows levels) (hp : 0 < rows.length) (hl : 0 < levels.length) : DInv ths rows 1 (levels.set 0 (lev levels 0).dropLast) := by
  have G0 : DInv ths rows 0 levels := ⟨hp, fun k hk => absurd hk (Nat.not_lt_zero _), fun k hk => absurd hk (Nat.not_lt_zero _), fun k _ => I.len k, I.den⟩
  exact G0.next (by rw [Nat.pow_zero, Nat.mod_one]) hl
end
def N_Book_cut : List Str := ["self", "size", "height"]
def t_Book_cut (K : PySem.W.Frag) (c : Cs) (E : XK) : TS := (tSeq (tIfS (tTest (tOp (rEqU K) (tCB (rLen K) (tCons (tFld K (tVar 0) "lines") tNil)) (tC (.int 0)))) (tRaiseX c.NoPlace (fun cls d _ H => E cls d H)) tNext)
  (tSeq (tAsg (tCB (rLen K) (tCons (tFld K (tVar 0) "lines") tNil)) (gName 1))
  (tSeq (tDrop (tBM0 K "list" rPop (tFld K (tVar 0) "lines")))
  (tSeq (tDrop (tBM0 K "list" rPop (tOp (rIx K) (tFld K (tVar 0) "levels") (tC (.int 0)))))
  (tSeq (tAsg (tC (.int 1)) (gName 2))
  (tSeq (tWhile (tTest (tOp (rEqU K) (tOp rMod (tVar 1) (tCall (sp_size_of K c) [] E (tCons (tVar 2) tNil))) (tC (.int 0)))) (tSeq (tDrop (tBM0 K "list" rPop (tOp (rIx K) (tFld K (tVar 0) "levels") (tVar 2))))
  (tAsg (tOp rAddU (tVar 2) (tC (.int 1))) (gName 2))))
  (tRet (tVar 2))))))))
def sp_Book_cut (K : PySem.W.Frag) (c : Cs) : Sp := fun vs H Q E => ∃ (B L d l ln lv : Addr) (lvs : List Addr) (ths : List MK) (xs : List V) (rows : List Str) (levels : List (List Nat)), vs = [.ref B] ∧ BS c H B L d l ln lv lvs ths xs rows levels ∧ BookInv ths rows levels ∧ rows.length ≤ 100000 ∧
  (rows = [] → E (.ref c.NoPlace) none H) ∧
  (rows ≠ [] → ∀ H' levels' n, BS c H' B L d l ln lv lvs ths xs rows.dropLast levels' → BookInv ths rows.dropLast levels' → IsBc rows.length (rows.length - 1) n → Kp (ln :: lv :: lvs) H H' → Q (.int (n : Nat)) H')
theorem len_Book_cut {K c} : ∀ vs H Q E, sp_Book_cut K c vs H Q E → vs.length = 1 := by rintro vs H Q E ⟨_, _, _, _, _, _, _, _, _, _, _, rfl, _⟩; rfl
theorem pure_Book_cut {K : PySem.W.Frag} {c : Cs} {vs : List V} {H : Hp} {Q : VK} {E : XK} (T : TxK K c) (h : sp_Book_cut K c vs H Q E) : t_Book_cut K c E ⟨fun _ H' => Q .non H', Q, fun _ _ => False, fun _ _ => False⟩ (start N_Book_cut vs) H := by
  obtain ⟨B, L, d, l, ln, lv, lvs, ths, xs, rows, levels, rfl, S, I, hr, k1, k2⟩ := h
  show t_Book_cut K c E _ [some (.ref B), none, none] H
  unfold t_Book_cut
  obtain ⟨dx, hB⟩ := S.ba.ob
  walk_at "s"
  refine w_fldAt hB T.cBook T.n_Book_lines bfl_lines ?_
  walk_at "s"
  refine w_lenL (sql S.ba.hln) ?_
  rw [List.length_map]
  walk_at "s"
  refine ite_d (fun h0 => ?_) fun h0 => ?_
  · walk_at "s"
    exact k1 (List.length_eq_zero_iff.mp (by omega))
  have ne : rows ≠ [] := fun z => h0 (by rw [z]; rfl)
  have hp : 0 < rows.length := List.length_pos_iff.mpr ne
  have k := k2 ne
  walk_at "s"
  refine w_fldAt hB T.cBook T.n_Book_lines bfl_lines ?_
  walk_at "s"
  refine w_lenL (sql S.ba.hln) ?_
  rw [List.length_map]
  walk_at "s"
  refine w_fldAt hB T.cBook T.n_Book_lines bfl_lines ?_
  refine ⟨w_tyL (sql S.ba.hln), ?_⟩
  obtain ⟨y, ey, er⟩ := getLast_at (l := rows.map V.str) (fun z => ne (List.map_eq_nil_iff.mp z))
  refine w_pop S.ba.hln ey ?_
  have S1 : BS c (upd H ln (.lst (rows.map V.str).dropLast)) B L d l ln lv lvs ths xs rows.dropLast levels := by
    rw [← List.map_dropLast]
    exact S.book T (by simp) S.ba.lines
  have q1 : Kp (ln :: lv :: lvs) H (upd H ln (.lst (rows.map V.str).dropLast)) := Kp.refl.set (by simp)
  generalize upd H ln (.lst (rows.map V.str).dropLast) = H1 at S1 q1
  walk_at "s"
  obtain ⟨dx1, hB1⟩ := S1.ba.ob
  refine w_fldAt hB1 T.cBook T.n_Book_levels bfl_levels ?_
  walk_at "s"
  have l0 : (lev levels 0).length = rows.length := by rw [I.len, Nat.pow_zero, Nat.div_one]
  have hl0 : 0 < levels.length := by
    rcases Nat.eq_zero_or_pos levels.length with w | w
    · rw [lev_out (by omega)] at l0; simp at l0; omega
    · exact w
  obtain ⟨A, a1, a2, a3⟩ := S1.ba.lvl hl0
  refine w_ixL (sql S1.ba.hlv) (atI_nat (j := 0) a2) ?_
  refine ⟨w_tyL (sql a3), ?_⟩
  obtain ⟨y0, ey0, _⟩ := getLast_at (l := (lev levels 0).map nv) (fun z => by have := List.map_eq_nil_iff.mp z; rw [this] at l0; simp at l0; omega)
  refine w_pop a3 ey0 ?_
  have hA2 : A ∈ ln :: lv :: lvs := List.mem_cons_of_mem _ (List.mem_cons_of_mem _ (List.mem_of_getElem? a1))
  have S2 : BS c (upd H1 A (.lst ((lev levels 0).map nv).dropLast)) B L d l ln lv lvs ths xs rows.dropLast (levels.set 0 (lev levels 0).dropLast) := by
    rw [← List.map_dropLast]
    exact S1.book T hA2 (S1.ba.level a1)
  have q2 : Kp (ln :: lv :: lvs) H (upd H1 A (.lst ((lev levels 0).map nv).dropLast)) := q1.set hA2
  generalize upd H1 A (.lst ((lev levels 0).map nv).dropLast) = H2 at S2 q2
  have G2 := DInv.start I hp hl0
  walk_at "s"
  refine w_while (fun σ H' => ∃ (h : Nat) (levels1 : List (List Nat)), σ = [some (.ref B), some (.int (rows.length : Nat)), some (.int (h : Nat))] ∧ BS c H' B L d l ln lv lvs ths xs rows.dropLast levels1 ∧ DInv ths rows h levels1 ∧ Kp (ln :: lv :: lvs) H H')
    (fun σ _ => match σ with | [_, _, some (.int m)] => 20 - m.toNat | _ => 0) ⟨1, _, rfl, S2, G2, q2⟩ ?_
  rintro σ H3 ⟨h, levels1, rfl, S3, G, q3⟩
  have hlow := G.low hr
  walk_at "s"
  refine ⟨h, rfl, by omega, ?_⟩
  have hp1 := Nat.two_pow_pos h
  refine w_mod (by omega) ?_
  rw [cast_mod]
  walk_at "s"
  refine ite_d (fun h1 => ?_) fun h1 => ?_
  · have h1 : rows.length % 2 ^ h = 0 := by omega
    obtain ⟨t1, t2⟩ := G.there h1
    refine w_wN ?_
    obtain ⟨dx3, hB3⟩ := S3.ba.ob
    walk_at "s"
    refine w_fldAt hB3 T.cBook T.n_Book_levels bfl_levels ?_
    walk_at "s"
    obtain ⟨A3, b1, b2, b3⟩ := S3.ba.lvl t1
    refine w_ixL (sql S3.ba.hlv) (atI_nat b2) ?_
    refine ⟨w_tyL (sql b3), ?_⟩
    obtain ⟨y3, ey3, _⟩ := getLast_at (l := (lev levels1 h).map nv) (fun z => t2 (List.map_eq_nil_iff.mp z))
    refine w_pop b3 ey3 ?_
    have hA3 : A3 ∈ ln :: lv :: lvs := List.mem_cons_of_mem _ (List.mem_cons_of_mem _ (List.mem_of_getElem? b1))
    have S4 : BS c (upd H3 A3 (.lst ((lev levels1 h).map nv).dropLast)) B L d l ln lv lvs ths xs rows.dropLast (levels1.set h (lev levels1 h).dropLast) := by
      rw [← List.map_dropLast]
      exact S3.book T hA3 (S3.ba.level b1)
    have q4 : Kp (ln :: lv :: lvs) H (upd H3 A3 (.lst ((lev levels1 h).map nv).dropLast)) := q3.set hA3
    generalize upd H3 A3 (.lst ((lev levels1 h).map nv).dropLast) = H4 at S4 q4
    walk_at "s"
    refine ⟨⟨h + 1, _, ?_, S4, G.next h1 t1, q4⟩, ?_⟩
    · rw [show ((h : Nat) : Int) + 1 = ((h + 1 : Nat) : Int) by push_cast; rfl]
    · show 20 - (((h : Nat) : Int) + 1).toNat < 20 - ((h : Nat) : Int).toNat
      omega
  · have h1 : ¬ rows.length % 2 ^ h = 0 := by omega
    walk_at "s"
    obtain ⟨I4, bc⟩ := G.stop h1
    exact k H3 levels1 h S3 I4 bc q3
/-! ### a book is made -/
def growsM : List MK → List Str → List (List Nat) → List Str → List MK × List (List Nat)
  | ths, _, levels, [] => (ths, levels)
  | ths, rows, levels, z :: zs => growsM (growM ths rows levels z).1 (rows ++ [z]) (growM ths rows levels z).2.1 zs
theorem growM_len {ths : List MK} {rows : List Str} {levels : List (List Nat)} {z : Str} : (growM ths rows levels z).1.length ≤ ths.length + (growM ths rows levels z).2.2 := by
  obtain ⟨h1, h2⟩ := growL_bound (rows.length + 1) 0 (rows.length + 1) (num (ask ths (.row z)) (.row z)) (ask ths (.row z)) levels (by omega) (by omega)
  have h3 := ask_len ths (.row z)
  unfold growM
  omega
theorem growM_pre {ths : List MK} {rows : List Str} {levels : List (List Nat)} {z : Str} : ths <+: (growM ths rows levels z).1 := (ask_pre _ _).trans (growL_pre _ _ _ _ _ _)
theorem putM_len {ths : List MK} {levels : List (List Nat)} {place : Nat} {z : Str} : (putM ths levels place z).1.length ≤ ths.length + (putM ths levels place z).2.2 := by
  obtain ⟨h1, h2⟩ := putL_bound (levels.length + 1) 1 (place / 2) (ask ths (.row z)) (levels.set 0 ((lev levels 0).set place (num (ask ths (.row z)) (.row z))))
  have h3 := ask_len ths (.row z)
  unfold putM
  omega
theorem putM_pre {ths : List MK} {levels : List (List Nat)} {place : Nat} {z : Str} : ths <+: (putM ths levels place z).1 := (ask_pre _ _).trans (putL_pre _ _ _ _ _)
theorem IsBc.low {n p m : Nat} (h : IsBc n p m) (hn : n ≤ 100000) : m ≤ 17 := by
  rcases Nat.lt_or_ge 17 m with w | w
  · have h1 := h.1 17 w
    have h2 : 2 ^ 17 ≤ (p / 2 ^ 17 + 1) * 2 ^ 17 := Nat.le_mul_of_pos_left _ (Nat.succ_pos _)
    have h3 : (2 : Nat) ^ 17 = 131072 := by decide
    omega
  · exact w
theorem IsBc.one {n p m m' : Nat} (h : IsBc n p m) (h' : IsBc n p m') : m = m' := by
  rcases Nat.lt_trichotomy m m' with w | w | w
  · exact absurd (h'.1 m w) h.2
  · exact w
  · exact absurd (h.1 m' w) h'.2
end Tw

namespace Tw
open PySem L2 Ts Mix
/-! ### a book is made -/
def N_Book_init : List Str := ["self", "ledger", "rows", "row"]
def t_Book_init (K : PySem.W.Frag) (c : Cs) (E : XK) : TS := (tSeq (tFor (iList K (tVar 2)) (gName 3) (tDrop (tCall (sp_sure_row K c) [] E (tCons (tVar 3) tNil))))
  (tSeq (tIfS (tTest (tOp rGt (tCB (rLen K) (tCons (tVar 2) tNil)) (tC (.int 1024)))) (tRaiseX c.Full (fun cls d _ H => E cls d H)) tNext)
  (tSeq (sFld K (tVar 0) (tVar 1) "ledger")
  (tSeq (sFld K (tVar 0) (tLst tNil) "lines")
  (tSeq (sFld K (tVar 0) (tLst tNil) "levels")
  (tFor (iList K (tVar 2)) (gName 3) (tDrop (tMeth c.Book "grow" (sp_Book_grow K c) [] E (tVar 0) (tCons (tVar 3) tNil)))))))))
def sp_Book_init (K : PySem.W.Frag) (c : Cs) : Sp := fun vs H Q E => ∃ (B dx L d l a : Addr) (ths : List MK) (xs ys : List V), vs = [.ref B, .ref L, .ref a] ∧ H B = some (.ins c.Book dx []) ∧ LedgerAt c H L d l ths xs ∧ SqL K H a ys ∧ a ≠ d ∧ a ≠ l ∧ (∀ y ∈ ys, RowV K H y) ∧ ys.length ≤ 100000 ∧ ths.length < 500000 ∧
  ((∃ y ∈ ys, ¬ isRowV y) → E (.ref c.NoRow) none H) ∧ ((∀ y ∈ ys, isRowV y) → 1024 < ys.length → E (.ref c.Full) none H) ∧
  (∀ zs, ys = zs.map V.str → (∀ z ∈ zs, Good z) → zs.length ≤ 1024 → ∀ H' ln lv lvs xs', BS c H' B L d l ln lv lvs (growsM ths [] [] zs).1 xs' zs (growsM ths [] [] zs).2 → BookInv (growsM ths [] [] zs).1 zs (growsM ths [] [] zs).2 → Kp [B, d, l] H H' → (∀ x ∈ ln :: lv :: lvs, H x = none) →
    (growsM ths [] [] zs).1.length ≤ ths.length + 17 * zs.length → Q .non H')
theorem len_Book_init {K c} : ∀ vs H Q E, sp_Book_init K c vs H Q E → vs.length = 3 := by rintro vs H Q E ⟨_, _, _, _, _, _, _, _, _, rfl, _⟩; rfl
theorem sql_stay {K : PySem.W.Frag} {S : List Addr} {H H' : Hp} {a : Addr} {ys : List V} (h : SqL K H a ys) (k : Kp S H H') (n : ∀ o, H a = some o → (∀ C dx fs, o ≠ .ins C dx fs) → a ∉ S) : SqL K H' a ys := by
  rcases h with (h | ⟨o, h⟩) | h
  · exact .inl (.inl (k _ _ h (n _ h fun _ _ _ e => nomatch e)))
  · exact .inl (.inr ⟨o, k _ _ h (n _ h fun _ _ _ e => nomatch e)⟩)
  · exact .inr h
theorem kp_trans2 {S S' : List Addr} {H H1 H2 : Hp} (a : Kp S H H1) (b : Kp S' H1 H2) (h : ∀ x ∈ S', x ∈ S ∨ H x = none) : Kp S H H2 := fun x o q n => b x o (a x o q n) fun z => by
  rcases h x z with r | r
  · exact n r
  · rw [q] at r; cases r
/-- what a loop over the rows keeps -/
structure MakeAt (c : Cs) (H H' : Hp) (B L d l : Addr) (ths : List MK) (zs : List Str) (i : Nat) : Prop where
  ex : ∃ (ln lv : Addr) (lvs : List Addr) (xs : List V) (ths1 : List MK) (levels1 : List (List Nat)), BS c H' B L d l ln lv lvs ths1 xs (zs.take i) levels1 ∧ BookInv ths1 (zs.take i) levels1 ∧ Kp [B, d, l] H H' ∧ (∀ x ∈ ln :: lv :: lvs, H x = none) ∧
    growsM ths1 (zs.take i) levels1 (zs.drop i) = growsM ths [] [] zs ∧ ths1.length ≤ ths.length + 17 * i
theorem bookInv_nil (ths : List MK) : BookInv ths [] [] := ⟨fun h => by rw [lev_out (Nat.zero_le _)]; simp, fun h j x e => by rw [lev_out (Nat.zero_le _)] at e; simp at e⟩
theorem pure_Book_init {K : PySem.W.Frag} {c : Cs} {vs : List V} {H : Hp} {Q : VK} {E : XK} (T : TxK K c) (h : sp_Book_init K c vs H Q E) : t_Book_init K c E ⟨fun _ H' => Q .non H', Q, fun _ _ => False, fun _ _ => False⟩ (start N_Book_init vs) H := by
  obtain ⟨B, dx, L, d, l, a, ths, xs, ys, rfl, hB, hL, ha, nad, nal, hy, hyl, hz, k1, k2, k3⟩ := h
  show t_Book_init K c E _ [some (.ref B), some (.ref L), some (.ref a), none] H
  unfold t_Book_init
  have nBd : B ≠ d := fun e => by
    obtain ⟨φ, e2⟩ := T.md d (ents 0 ths xs)
    have := hL.dc
    rw [e2, ← e, hB] at this
    exact nomatch this
  have nBl : B ≠ l := fun e => by
    have := hL.ls
    rw [← e, hB] at this
    exact nomatch this
  have nBL : B ≠ L := fun e => by
    obtain ⟨dy, h1⟩ := hL.ob
    rw [← e, hB] at h1
    have h2 := (HO.ins.inj (Option.some.inj h1)).2.2
    unfold lfl at h2
    exact nomatch (show ([] : List (Str × V)) = _ from h2)
  walk_at "s"
  refine w_iLv ha (lb_list (K := K) (xs := ys) (fun i σ H' => H = H' ∧ (∃ v, σ = [some (.ref B), some (.ref L), some (.ref a), v]) ∧ ∀ j y, j < i → ys[j]? = some y → isRowV y) ⟨rfl, ⟨none, rfl⟩, fun j _ hj => absurd hj (Nat.not_lt_zero _)⟩ ?_ ?_ ?_)
  · rintro i σ H' _ ⟨rfl, _⟩
    exact ha
  · rintro i y σ H' hi ⟨rfl, ⟨v, rfl⟩, hb⟩
    walk_at "s"
    refine ⟨y, rfl, hy y (List.mem_of_getElem? hi), fun g => ?_, fun n => k1 ⟨y, List.mem_of_getElem? hi, n⟩⟩
    refine ⟨rfl, ⟨_, rfl⟩, fun j y' hj e => ?_⟩
    rcases Nat.lt_or_ge j i with q | q
    · exact hb j y' q e
    · have e2 : j = i := by omega
      rw [e2, hi] at e
      cases e
      exact g
  rintro σ H' ⟨rfl, ⟨v, rfl⟩, hb⟩
  have hg : ∀ y ∈ ys, isRowV y := fun y hy => by
    obtain ⟨j, hj⟩ := List.mem_iff_getElem?.mp hy
    exact hb j y (get_lt hj) hj
  obtain ⟨zs, rfl, hzs⟩ : ∃ zs : List Str, ys = zs.map V.str ∧ ∀ z ∈ zs, Good z := by
    clear hb k1 k2 k3 ha hy hyl
    induction ys with
    | nil => exact ⟨[], rfl, fun z hz => nomatch hz⟩
    | cons y ys ih =>
      obtain ⟨zs, e, h1⟩ := ih fun y hy => hg y (List.mem_cons_of_mem _ hy)
      obtain ⟨z, e2, h2⟩ := hg y List.mem_cons_self
      refine ⟨z :: zs, by rw [e, e2]; rfl, fun x hx => ?_⟩
      rcases List.mem_cons.mp hx with r | r
      · rw [r]; exact h2
      · exact h1 x r
  rw [List.length_map] at hyl k2
  walk_at "s"
  refine w_lenL ha ?_
  rw [List.length_map]
  walk_at "s"
  refine ite_d (fun h0 => ?_) fun h0 => ?_
  · walk_at "s"
    exact k2 hg (by omega)
  have hm : zs.length ≤ 1024 := by omega
  have k := k3 zs rfl hzs hm
  clear k1 k2 k3
  walk_at "s"
  refine w_sfldAt hB T.cBook T.n_Book_ledger (by show 0 < 1000; decide) ?_
  walk_at "s"
  refine ⟨Nat.zero_le _, fun ln hln => ?_⟩
  have nB1 : B ≠ ln := fun e => by rw [← e, upd_same] at hln; exact nomatch hln
  have fln : H ln = none := by rw [upd_ne (Ne.symm nB1)] at hln; exact hln
  walk_at "s"
  refine w_sfldAt (by rw [upd_ne nB1, upd_same]) T.cBook T.n_Book_lines (by show 1 < 1000; decide) ?_
  walk_at "s"
  refine ⟨Nat.zero_le _, fun lv hlv => ?_⟩
  have nB2 : B ≠ lv := fun e => by rw [← e, upd_same] at hlv; exact nomatch hlv
  have n12 : ln ≠ lv := fun e => by rw [← e, upd_ne (Ne.symm nB1), upd_same] at hlv; exact nomatch hlv
  have flv : H lv = none := by rw [upd_ne (Ne.symm nB2), upd_ne (Ne.symm n12), upd_ne (Ne.symm nB2)] at hlv; exact hlv
  walk_at "s"
  refine w_sfldAt (by rw [upd_ne nB2, upd_same]) T.cBook T.n_Book_levels (by show 2 < 1000; decide) ?_
  walk_at "s"
  have q1 : Kp [B, d, l] H (upd (upd (upd (upd (upd H B (.ins c.Book dx (putF "ledger" (.ref L) []))) ln (.lst [])) B (.ins c.Book dx (putF "lines" (.ref ln) (putF "ledger" (.ref L) [])))) lv (.lst [])) B (.ins c.Book dx (putF "levels" (.ref lv) (putF "lines" (.ref ln) (putF "ledger" (.ref L) []))))) :=
    ((((Kp.refl.set (by simp)).fresh fln).set (by simp)).fresh flv).set (by simp)
  have b1 : BookAt c (upd (upd (upd (upd (upd H B (.ins c.Book dx (putF "ledger" (.ref L) []))) ln (.lst [])) B (.ins c.Book dx (putF "lines" (.ref ln) (putF "ledger" (.ref L) [])))) lv (.lst [])) B (.ins c.Book dx (putF "levels" (.ref lv) (putF "lines" (.ref ln) (putF "ledger" (.ref L) []))))) B L ln lv [] [] [] := by
    refine ⟨⟨dx, upd_same⟩, ?_, ?_, rfl, fun i a x e _ => by simp at e, ?_⟩
    · rw [upd_ne (Ne.symm nB1), upd_ne n12, upd_ne (Ne.symm nB1), upd_same]; rfl
    · rw [upd_ne (Ne.symm nB2), upd_same]; rfl
    · rw [List.nodup_cons]
      exact ⟨by simpa using n12, by simp⟩
  have q0 : Kp [B] H (upd (upd (upd (upd (upd H B (.ins c.Book dx (putF "ledger" (.ref L) []))) ln (.lst [])) B (.ins c.Book dx (putF "lines" (.ref ln) (putF "ledger" (.ref L) [])))) lv (.lst [])) B (.ins c.Book dx (putF "levels" (.ref lv) (putF "lines" (.ref ln) (putF "ledger" (.ref L) []))))) :=
    ((((Kp.refl.set (by simp)).fresh fln).set (by simp)).fresh flv).set (by simp)
  generalize upd (upd (upd (upd (upd H B (.ins c.Book dx (putF "ledger" (.ref L) []))) ln (.lst [])) B (.ins c.Book dx (putF "lines" (.ref ln) (putF "ledger" (.ref L) [])))) lv (.lst [])) B (.ins c.Book dx (putF "levels" (.ref lv) (putF "lines" (.ref ln) (putF "ledger" (.ref L) [])))) = H1 at q1 q0 b1
  have l1 : LedgerAt c H1 L d l ths xs := by
    obtain ⟨dy, hp⟩ := hL.ob
    refine ⟨⟨dy, q0 _ _ hp (by simpa using Ne.symm nBL)⟩, q0 _ _ hL.dc (by simpa using Ne.symm nBd), q0 _ _ hL.ls (by simpa using Ne.symm nBl), paired_imp hL.kv fun a b q => q0.keyV q fun x o hx ho => ?_, hL.nd⟩
    rw [List.mem_singleton.mp hx, hB] at ho
    cases ho
    rintro ⟨_, e⟩
    cases e
  have S1 : BS c H1 B L d l ln lv [] ths xs [] [] := by
    refine ⟨l1, b1, ?_⟩
    have nd : ∀ {x : Addr} {o : HO}, H x = some o → x ≠ ln ∧ x ≠ lv := fun h => ⟨ne_of_none h fln, ne_of_none h flv⟩
    rw [List.nodup_cons, List.nodup_cons]
    refine ⟨?_, ?_, b1.nd⟩
    · simp [hL.dl T, (nd hL.dc).1, (nd hL.dc).2]
    · simp [(nd hL.ls).1, (nd hL.ls).2]
  have ha1 : ∀ {H' : Hp}, Kp [B, d, l] H H' → SqL K H' a (zs.map V.str) := fun k => sql_stay ha k fun o ho no hx => by
    rcases List.mem_cons.mp hx with e | hx
    · rw [e, hB] at ho
      cases ho
      exact no _ _ _ rfl
    rcases List.mem_cons.mp hx with e | hx
    · exact nad e
    · exact nal (List.mem_singleton.mp hx)
  refine w_iLv (ha1 q1) (lb_list (K := K) (xs := zs.map V.str) (fun i σ H' => (∃ v, σ = [some (.ref B), some (.ref L), some (.ref a), v]) ∧ MakeAt c H H' B L d l ths zs i) ⟨⟨_, rfl⟩, ln, lv, [], xs, ths, [], by rw [List.take_zero]; exact S1, by rw [List.take_zero]; exact bookInv_nil _, q1, fun x hx => ?_, rfl, by omega⟩ ?_ ?_ ?_)
  · rcases List.mem_cons.mp hx with e | hx
    · rw [e]; exact fln
    · rw [List.mem_singleton.mp hx]; exact flv
  · rintro i σ H' _ ⟨_, ln1, lv1, lvs1, xs1, ths1, levels1, _, _, q, _⟩
    exact ha1 q
  · rintro i y σ H2 hi ⟨⟨v, rfl⟩, ln1, lv1, lvs1, xs1, ths1, levels1, S2, I2, q2, f2, e2, b2⟩
    obtain ⟨z, hz1, rfl⟩ := get_map hi
    have hlt := get_lt hz1
    have htl : (zs.take i).length = i := by rw [List.length_take]; omega
    walk_at "s"
    obtain ⟨dx2, hB2⟩ := S2.ba.ob
    refine w_methAt hB2 (bfl_no (by decide +kernel) (by decide +kernel) (by decide +kernel)) ?_
    walk_at "s"
    refine ⟨B, L, d, l, ln1, lv1, lvs1, ths1, xs1, zs.take i, levels1, z, rfl, S2, I2, hzs z (List.mem_of_getElem? hz1), by omega, by omega, fun H3 xs3 lvs3 S3 I3 bc k3 w3 => ?_⟩
    rw [drop_at hz1] at e2
    rw [← take_at hz1] at S3 I3
    have low := bc.low (by omega)
    have gl := growM_len (ths := ths1) (rows := zs.take i) (levels := levels1) (z := z)
    refine ⟨⟨_, rfl⟩, ln1, lv1, lvs3, xs3, _, _, S3, I3, kp_trans2 q2 k3 fun x hx => ?_, fun x hx => ?_, ?_, by omega⟩
    · rcases List.mem_cons.mp hx with e | hx
      · rw [e]; simp
      rcases List.mem_cons.mp hx with e | hx
      · rw [e]; simp
      exact .inr (f2 x hx)
    · have key : x ∈ ln1 :: lv1 :: lvs1 ∨ H2 x = none := by
        rcases List.mem_cons.mp hx with e | hx
        · rw [e]; simp
        rcases List.mem_cons.mp hx with e | hx
        · rw [e]; simp
        rcases w3.2 x hx with r | r
        · exact .inl (List.mem_cons_of_mem _ (List.mem_cons_of_mem _ r))
        · exact .inr r
      rcases key with r | r
      · exact f2 x r
      · cases q : H x with
        | none => rfl
        | some o =>
          have := q2 x o q fun hx => by
            rcases List.mem_cons.mp hx with e | hx
            · rw [e, hB2] at r; cases r
            rcases List.mem_cons.mp hx with e | hx
            · rw [e, S2.la.dc] at r; cases r
            · rw [List.mem_singleton.mp hx, S2.la.ls] at r; cases r
          rw [this] at r
          cases r
    · rw [take_at hz1]; exact e2
  · rintro σ H2 ⟨⟨v, rfl⟩, ln1, lv1, lvs1, xs1, ths1, levels1, S2, I2, q2, f2, e2, b2⟩
    rw [List.length_map, List.take_length] at S2 I2 e2
    rw [List.length_map] at b2
    rw [List.drop_length] at e2
    have e3 : growsM ths [] [] zs = (ths1, levels1) := e2.symm
    walk_at "s"
    have := k H2 ln1 lv1 lvs1 xs1
    rw [e3] at this
    exact this S2 I2 q2 f2 b2
end Tw

namespace Tw
open PySem L2 Ts
/-! ### the laws' own digits, sizes, parts -/
def N_law_digits : List Str := ["_law_count", "_law_found"]
def t_law_digits (K : PySem.W.Frag) (c : Cs) (E : XK) : TS := (tSeq (tAsg (tC (.int 0)) (gName 1))
  (tSeq (tWhile (tTest (tOp rGt (tVar 0) (tC (.int 0)))) (tSeq (tAsg (tOp rDiv (tVar 0) (tC (.int 2))) (gName 0))
  (tAsg (tOp rAddU (tVar 1) (tC (.int 1))) (gName 1))))
  (tRet (tVar 1))))
def sp_law_digits (_ : PySem.W.Frag) (_ : Cs) : Sp := fun vs H Q _ => ∃ n : Nat, vs = [.int n] ∧ Q (.int (digs n : Nat)) H
theorem len_law_digits {K c} : ∀ vs H Q E, sp_law_digits K c vs H Q E → vs.length = 1 := by rintro vs H Q E ⟨n, rfl, _⟩; rfl
theorem pure_law_digits {K : PySem.W.Frag} {c : Cs} {vs : List V} {H : Hp} {Q : VK} {E : XK} (h : sp_law_digits K c vs H Q E) : t_law_digits K c E ⟨fun _ H' => Q .non H', Q, fun _ _ => False, fun _ _ => False⟩ (start N_law_digits vs) H := by
  obtain ⟨n, rfl, k⟩ := h
  show t_law_digits K c E _ [some (.int n), none] H
  unfold t_law_digits
  walk_at "s"
  refine w_while (fun σ H' => H' = H ∧ ∃ m f : Nat, σ = [some (.int m), some (.int f)] ∧ digs m + f = digs n) (fun σ _ => match σ with | some (.int m) :: _ => m.toNat | _ => 0) ⟨rfl, n, 0, rfl, rfl⟩ ?_
  rintro σ H' ⟨rfl, m, f, rfl, e⟩
  walk_at "s"
  refine ite_d (fun h0 => ?_) fun h0 => ?_
  · refine w_wN ?_
    walk_at "s"
    have h1 : m ≠ 0 := by omega
    rw [digs_pos h1] at e
    refine ⟨⟨rfl, m / 2, f + 1, rfl, by omega⟩, ?_⟩
    show ((m : Int) / 2).toNat < ((m : Int)).toNat
    omega
  · walk_at "s"
    have h1 : m = 0 := by omega
    subst h1
    rw [digs_zero, Nat.zero_add] at e
    rw [e]
    exact k
def N_law_size : List Str := ["_law_height", "_law_size_here", "_law_turn"]
def t_law_size (K : PySem.W.Frag) (c : Cs) (E : XK) : TS := (tSeq (tAsg (tC (.int 1)) (gName 1))
  (tSeq (tFor (iRng1 (tCons (tVar 0) tNil)) (gName 2) (tAsg (tOp rMul (tVar 1) (tC (.int 2))) (gName 1)))
  (tRet (tVar 1))))
def sp_law_size (_ : PySem.W.Frag) (_ : Cs) : Sp := fun vs H Q _ => ∃ h : Nat, vs = [.int h] ∧ h ≤ 60 ∧ Q (.int ((2 ^ h : Nat) : Int)) H
theorem len_law_size {K c} : ∀ vs H Q E, sp_law_size K c vs H Q E → vs.length = 1 := by rintro vs H Q E ⟨n, rfl, _⟩; rfl
theorem pure_law_size {K : PySem.W.Frag} {c : Cs} {vs : List V} {H : Hp} {Q : VK} {E : XK} (h : sp_law_size K c vs H Q E) : t_law_size K c E ⟨fun _ H' => Q .non H', Q, fun _ _ => False, fun _ _ => False⟩ (start N_law_size vs) H := by
  obtain ⟨n, rfl, hn, k⟩ := h
  show t_law_size K c E _ [some (.int n), none, none] H
  unfold t_law_size
  walk_at "s"
  refine w_iR1v (by omega) (by omega) (lb_range0 (fun i σ H' => H' = H ∧ ∃ v, σ = [some (.int n), some (.int ((2 ^ i : Nat) : Int)), v]) ⟨rfl, none, rfl⟩ ?_ ?_)
  · rintro i σ H' hi ⟨rfl, v, rfl⟩
    have hp := pow_small (i := i) (by omega)
    walk_at "s"
    refine ⟨rfl, some (.int (i : Int)), ?_⟩
    congr 4 <;> (rw [Nat.pow_succ]; push_cast; try omega)
  · rintro σ H' ⟨rfl, v, rfl⟩
    walk_at "s"
    have e : ((n : Int)).toNat = n := by omega
    rw [e]
    exact k
def N_law_parted : List Str := ["_law_count", "_law_found", "_law_place", "_law_height"]
def t_law_parted (K : PySem.W.Frag) (c : Cs) (E : XK) : TS := (tSeq (tAsg (tLst tNil) (gName 1))
  (tSeq (tAsg (tC (.int 0)) (gName 2))
  (tSeq (tFor (iRng3 (tCons (tCall (sp_law_digits K c) [] E0 (tCons (tVar 0) tNil)) (tCons (tUn (rU fun i => .int (-i)) (tC (.int 1))) (tCons (tUn (rU fun i => .int (-i)) (tC (.int 1))) tNil)))) (gName 3) (tIfS (tTest (tOp rLe (tOp rAddU (tVar 2) (tCall (sp_law_size K c) [] E0 (tCons (tVar 3) tNil))) (tVar 0))) (tSeq (tDrop (tBM K "list" rAppend (tVar 1) (tCons (tTup (tCons (tVar 3) (tCons (tOp rDiv (tVar 2) (tCall (sp_law_size K c) [] E0 (tCons (tVar 3) tNil))) tNil))) tNil)))
  (tAsg (tOp rAddU (tVar 2) (tCall (sp_law_size K c) [] E0 (tCons (tVar 3) tNil))) (gName 2))) tNext))
  (tRet (tVar 1)))))
def sp_law_parted (K : PySem.W.Frag) (c : Cs) : Sp := sp_parted K c
theorem len_law_parted {K c} : ∀ vs H Q E, sp_law_parted K c vs H Q E → vs.length = 1 := by rintro vs H Q E ⟨n, rfl, _⟩; rfl
theorem pure_law_parted {K : PySem.W.Frag} {c : Cs} {vs : List V} {H : Hp} {Q : VK} {E : XK} (h : sp_law_parted K c vs H Q E) : t_law_parted K c E ⟨fun _ H' => Q .non H', Q, fun _ _ => False, fun _ _ => False⟩ (start N_law_parted vs) H := by
  obtain ⟨n, rfl, hn, k⟩ := h
  show t_law_parted K c E _ [some (.int n), none, none, none] H
  unfold t_law_parted
  walk_at "s"
  refine ⟨Nat.zero_le _, fun p hp => ?_⟩
  walk_at "s"
  have hd : digs n ≤ 29 := digs_le hn
  refine ⟨n, rfl, ?_⟩
  walk_at "s"
  refine w_iR3v (by omega) ?_
  have e1 : ((digs n : Int) - -1).toNat = digs n + 1 := by omega
  have z1 : placeAt n (digs n + 1) = 0 := by
    unfold placeAt
    rw [Nat.div_eq_of_lt (Nat.lt_of_lt_of_le (digs_lt n) (Nat.pow_le_pow_right (by decide) (Nat.le_succ _))), Nat.zero_mul]
  have z2 : ¬ n / 2 ^ digs n % 2 = 1 := by rw [Nat.div_eq_of_lt (digs_lt n)]; decide
  have z3 : partsF n (placeAt n (digs n + 1)) (digs n + 1) = parts n := by rw [parts_skip z2, placeAt_digs]; rfl
  rw [e1]
  refine lb_rangeC (fun i σ H' => ∃ v, σ = [some (.int n), some (.ref p), some (.int (placeAt n (digs n + 1 - i) : Nat)), v] ∧ PartsAt K H H' p n (digs n + 1 - i)) ?_ ?_ ?_
  · refine ⟨none, ?_, hp, ex_new ex_refl hp, [], [], upd_same, .nil, ?_, ?_⟩
    · rw [Nat.sub_zero, z1]; rfl
    · rw [Nat.sub_zero]; exact z3
    · show 0 + _ ≤ 64; omega
  · rintro i σ H' hi ⟨v, rfl, S⟩
    obtain ⟨h, eh⟩ : ∃ h, digs n + 1 - i = h + 1 := ⟨digs n - i, by omega⟩
    have eh2 : (digs n : Int) + (i : Nat) * -1 = (h : Nat) := by omega
    have eh3 : digs n + 1 - (i + 1) = h := by omega
    rw [eh2, eh3]
    rw [eh] at S ⊢
    walk_at "s"
    refine ⟨h, rfl, by omega, ?_⟩
    have hp1 := Nat.two_pow_pos h
    have hp2 : 2 ^ h ≤ 2 ^ 29 := Nat.pow_le_pow_right (by decide) (by omega)
    have hp3 : (2 : Nat) ^ 29 = 536870912 := by decide
    have room := bit_room n h
    have e2 := placeAt_succ n h
    walk_at "s"
    generalize hz : 2 ^ h = z at hp1 hp2 room e2
    refine ite_d (fun h0 => ?_) fun h0 => ?_
    · have hb : n / 2 ^ h % 2 = 1 := by rw [hz]; exact room.mpr (by omega)
      obtain ⟨xs, done, h1, h2, h3, h4⟩ := S.at'
      walk_at "s"
      refine ⟨w_tyL (sql h1), ?_⟩
      walk_at "s"
      refine ⟨h, rfl, by omega, ?_⟩
      rw [hz]
      walk_at "s"
      refine ⟨by show 2 ≤ sizeLine; exact sz100 (by decide), fun t ht => ?_⟩
      have tp : t ≠ p := fun e => by rw [e, h1] at ht; cases ht
      have hl := dpAll_len h2
      rw [List.length_map] at hl
      walk_at "s"
      refine w_app (by rw [upd_ne tp.symm]; exact h1) (szL (by omega)) ?_
      walk_at "s"
      refine ⟨h, rfl, by omega, ?_⟩
      rw [hz]
      walk_at "s"
      rw [hz] at hb
      rw [hb, Nat.one_mul] at e2
      rw [show ((placeAt n (h + 1) : Nat) : Int) + (z : Int) = (placeAt n h : Nat) by omega]
      exact ⟨_, rfl, S.more (by rw [hz]; exact hb) h1 ht (by rw [hz, cast_div])⟩
    · have hb : ¬ n / 2 ^ h % 2 = 1 := by rw [hz]; intro q; exact h0 (by have := room.mp q; omega)
      walk_at "s"
      rw [hz] at hb
      have hb0 : n / z % 2 = 0 := by omega
      rw [hb0, Nat.zero_mul, Nat.add_zero] at e2
      rw [show ((placeAt n (h + 1) : Nat) : Int) = (placeAt n h : Nat) by omega]
      exact ⟨_, rfl, S.skip (by rw [hz]; exact hb)⟩
  · rintro σ H' ⟨v, rfl, S⟩
    rw [Nat.sub_self] at S
    obtain ⟨xs, done, h1, h2, h3, h4⟩ := S.at'
    walk_at "s"
    have e3 : done = parts n := by rw [← h3]; simp [partsF]
    rw [e3] at h2
    exact k H' p xs S.ex hp h1 (dpAll_mono ex_hid h2)
end Tw

namespace Tw
open PySem L2 Ts Mix
/-! ### what the laws draw -/
theorem good_nil : Good "" := by decide +kernel
theorem good_app {a b : Str} (ha : ∀ c ∈ a.cps.toList, c ∈ signs.cps.toList) (hb : ∀ c ∈ b.cps.toList, c ∈ signs.cps.toList) : ∀ c ∈ (a ++ b).cps.toList, c ∈ signs.cps.toList := by
  intro c hc
  have e : (a ++ b).cps.toList = a.cps.toList ++ b.cps.toList := by
    show (a.cps ++ b.cps).toList = _
    simp
  rw [e] at hc
  rcases List.mem_append.mp hc with h | h
  · exact ha c h
  · exact hb c h
theorem len_app {a b : Str} : (a ++ b).length = a.length + b.length := by
  show (a.cps ++ b.cps).size = _
  rw [Array.size_append]; rfl
theorem good_num : ∀ n : Fin 40, (Str.ofString (toString ((n.val : Nat) : Int))).length ≤ 2 ∧ ∀ c ∈ (Str.ofString (toString ((n.val : Nat) : Int))).cps.toList, c ∈ signs.cps.toList := by decide +kernel
theorem goodN {n : Nat} (h : n < 40) : (Str.ofString (toString ((n : Nat) : Int))).length ≤ 2 ∧ ∀ c ∈ (Str.ofString (toString ((n : Nat) : Int))).cps.toList, c ∈ signs.cps.toList := good_num ⟨n, h⟩
theorem good_one {c : Nat} (h : c ∈ signs.cps.toList) : ∀ x ∈ (⟨#[c]⟩ : Str).cps.toList, x ∈ signs.cps.toList := by
  intro x hx
  simp at hx
  rw [hx]; exact h
theorem good_cut {z : Str} {lo hi : Option Int} (h : ∀ c ∈ z.cps.toList, c ∈ signs.cps.toList) : ∀ c ∈ (cutS z lo hi).cps.toList, c ∈ signs.cps.toList := by
  intro c hc
  unfold cutS at hc
  exact h c (List.mem_of_mem_drop (List.mem_of_mem_take (by simpa using hc)))
theorem at_signs {i : Int} (h0 : 0 ≤ i) (h1 : i < 37) : ∃ c, c ∈ signs.cps.toList ∧ atI signs.cps.toList i = some c := by
  have e : (37 : Int) = (signs.cps.toList.length : Nat) := by decide +kernel
  exact atI_lt h0 (by rw [← e]; exact h1)
def N_law_mix : List Str := ["_law_number", "_law_k", "_law_more"]
def t_law_mix (K : PySem.W.Frag) (c : Cs) (E : XK) : TS := (tSeq (tAsg (tOp rMod (tOp rAddU (tOp rAddU (tOp rMul (tVar 0) (tC (.int 48271))) (tOp rMul (tVar 1) (tC (.int 69621)))) (tC (.int 11))) (tC (.int 1000003))) (gName 2))
  (tRet (tOp rMod (tOp rAddU (tOp rAddU (tOp rMul (tVar 2) (tVar 2)) (tOp rMul (tC (.int 7)) (tVar 2))) (tVar 1)) (tC (.int 999983)))))
def sp_law_mix (K : PySem.W.Frag) (_ : Cs) : Sp := fun vs H Q _ => ∃ n k : Int, vs = [.int n, .int k] ∧ ∀ r : Nat, r < 999983 → Q (.int (r : Nat)) H
theorem len_law_mix {K c} : ∀ vs H Q E, sp_law_mix K c vs H Q E → vs.length = 2 := by rintro vs H Q E ⟨_, _, rfl, _⟩; rfl
theorem pure_law_mix {K : PySem.W.Frag} {c : Cs} {vs : List V} {H : Hp} {Q : VK} {E : XK} (h : sp_law_mix K c vs H Q E) : t_law_mix K c E ⟨fun _ H' => Q .non H', Q, fun _ _ => False, fun _ _ => False⟩ (start N_law_mix vs) H := by
  obtain ⟨n, k, rfl, q⟩ := h
  show t_law_mix K c E _ [some (.int n), some (.int k), none] H
  unfold t_law_mix
  walk_at "s"
  have h1 := Int.emod_nonneg (n * 48271 + k * 69621 + 11) (show (1000003 : Int) ≠ 0 by decide)
  have h2 := Int.emod_lt_of_pos (n * 48271 + k * 69621 + 11) (show (0 : Int) < 1000003 by decide)
  generalize (n * 48271 + k * 69621 + 11) % 1000003 = m at h1 h2
  obtain ⟨r, hr⟩ := Int.eq_ofNat_of_zero_le (a := (m * m + 7 * m + k) % 999983) (Int.emod_nonneg _ (by decide))
  have h3 := Int.emod_lt_of_pos (m * m + 7 * m + k) (show (0 : Int) < 999983 by decide)
  rw [hr] at h3 ⊢
  exact q r (by omega)
def N_law_text : List Str := ["_law_cell", "_law_signs", "_law_many", "_law_text_here", "_law_k"]
def t_law_text (K : PySem.W.Frag) (c : Cs) (E : XK) : TS := (tSeq (tAsg (tC (.str "abcdefghijklmnopqrstuvwxyz0123456789 ")) (gName 1))
  (tSeq (tAsg (tOp rMod (tVar 0) (tC (.int 9))) (gName 2))
  (tSeq (tIfS (tTest (tOp (rEqU K) (tOp rMod (tOp rDiv (tVar 0) (tC (.int 9))) (tC (.int 6))) (tC (.int 2)))) (tRet (tOp rAddU (tOp rAddU (tCB rStr1 (tCons (tOp rMod (tOp rDiv (tVar 0) (tC (.int 54))) (tC (.int 40))) tNil)) (tOp (rIx K) (tLst (tCons (tC (.str " ")) (tCons (tC (.str "")) tNil))) (tOp rMod (tOp rDiv (tVar 0) (tC (.int 2160))) (tC (.int 2))))) (tCB rStr1 (tCons (tOp rMod (tOp rDiv (tVar 0) (tC (.int 4320))) (tC (.int 40))) tNil)))) tNext)
  (Evl.tCut (tIfS (tTest (tOp (rEqU K) (tOp rMod (tOp rDiv (tVar 0) (tC (.int 9))) (tC (.int 6))) (tC (.int 1)))) (tAsg (tOp (rIx K) (tLst (tCons (tC (.int 40)) (tCons (tC (.int 39)) (tCons (tC (.int 0)) (tCons (tC (.int 1)) tNil))))) (tOp rMod (tOp rDiv (tVar 0) (tC (.int 54))) (tC (.int 4)))) (gName 2)) tNext)
  (tSeq (tAsg (tC (.str "")) (gName 3))
  (tSeq (tFor (iRng1 (tCons (tVar 2) tNil)) (gName 4) (tAsg (tOp rAddU (tVar 3) (tOp (rIx K) (tVar 1) (tOp rMod (tOp rDiv (tCall (sp_law_mix K c) [] E0 (tCons (tVar 0) (tCons (tVar 4) tNil))) (tC (.int 7))) (tC (.int 37))))) (gName 3)))
  (tRet (tVar 3))))))))
def sp_law_text (K : PySem.W.Frag) (_ : Cs) : Sp := fun vs H Q _ => ∃ n : Int, vs = [.int n] ∧ ∀ (z : Str) H', Good z → Ex H H' → Q (.str z) H'
theorem len_law_text {K c} : ∀ vs H Q E, sp_law_text K c vs H Q E → vs.length = 1 := by rintro vs H Q E ⟨_, rfl, _⟩; rfl
theorem pure_law_text {K : PySem.W.Frag} {c : Cs} {vs : List V} {H : Hp} {Q : VK} {E : XK} (h : sp_law_text K c vs H Q E) : t_law_text K c E ⟨fun _ H' => Q .non H', Q, fun _ _ => False, fun _ _ => False⟩ (start N_law_text vs) H := by
  obtain ⟨n, rfl, q⟩ := h
  show t_law_text K c E _ [some (.int n), none, none, none, none] H
  unfold t_law_text
  walk_at "s"
  refine ite_d (fun h0 => ?_) fun h0 => ?_
  · walk_at "s"
    obtain ⟨i, hi⟩ := Int.eq_ofNat_of_zero_le (a := n / 54 % 40) (by omega)
    obtain ⟨j, hj⟩ := Int.eq_ofNat_of_zero_le (a := n / 4320 % 40) (by omega)
    rw [hi]
    have g1 := goodN (n := i) (by omega)
    have g2 := goodN (n := j) (by omega)
    refine w_str (Nat.lt_of_le_of_lt (Nat.log2_le_self _) (by omega)) ?_
    walk_at "s"
    refine ⟨by show 2 ≤ sizeLine; exact sz100 (by decide), fun p hp => ?_⟩
    walk_at "s"
    refine w_ixAny (sql upd_same) (by omega) (by show _ < ((2 : Nat) : Int); omega) fun v hv => ?_
    obtain ⟨y, rfl, g3, g4⟩ : ∃ y : Str, v = .str y ∧ y.length ≤ 1 ∧ ∀ c ∈ y.cps.toList, c ∈ signs.cps.toList := by
      rcases List.mem_cons.mp hv with e | hv
      · exact ⟨_, e, by decide +kernel, by decide +kernel⟩
      · exact ⟨_, List.mem_singleton.mp hv, by decide +kernel, by decide +kernel⟩
    walk_at "s"
    refine w_addS (szM (by have := g1.1; omega)) ?_
    walk_at "s"
    rw [hj]
    refine w_str (Nat.lt_of_le_of_lt (Nat.log2_le_self _) (by omega)) ?_
    have l1 := g1.1
    have l2 := g2.1
    have l3 : (toString ((i : Nat) : Int) ++ y : Str).length ≤ 3 := by rw [len_app]; omega
    refine w_addS (szM (by omega)) ?_
    exact q _ _ ⟨by rw [len_app]; omega, good_app (good_app g1.2 g4) g2.2⟩ (ex_new ex_refl hp)
  walk_at "s"
  refine w_cut (Mid := fun σ' H' => Ex H H' ∧ ∃ m : Nat, m ≤ 40 ∧ σ' = [some (.int n), some (.str signs), some (.int (m : Nat)), none, none]) ?_ ?_
  · walk_at "s"
    refine ite_d (fun h1 => ?_) fun h1 => ?_
    · walk_at "s"
      refine ⟨by show 4 ≤ sizeLine; exact sz100 (by decide), fun p hp => ?_⟩
      walk_at "s"
      refine w_ixAny (sql upd_same) (by omega) (by show _ < ((4 : Nat) : Int); omega) fun v hv => ?_
      walk_at "s"
      simp only [List.mem_cons, List.not_mem_nil, or_false] at hv
      rcases hv with rfl | rfl | rfl | rfl
      · exact ⟨ex_new ex_refl hp, 40, by decide, rfl⟩
      · exact ⟨ex_new ex_refl hp, 39, by decide, rfl⟩
      · exact ⟨ex_new ex_refl hp, 0, by decide, rfl⟩
      · exact ⟨ex_new ex_refl hp, 1, by decide, rfl⟩
    · walk_at "s"
      obtain ⟨m, e⟩ := Int.eq_ofNat_of_zero_le (a := n % 9) (by omega)
      rw [e]
      exact ⟨ex_refl, m, by omega, rfl⟩
  rintro σ H1 ⟨ex1, m, hm, rfl⟩
  walk_at "s"
  refine w_iR1v (by omega) (by omega) ?_
  rw [Int.toNat_natCast]
  refine lb_range0 (fun i σ H' => Ex H H' ∧ ∃ (z : Str) (v : Option V), z.length = i ∧ (∀ c ∈ z.cps.toList, c ∈ signs.cps.toList) ∧ σ = [some (.int n), some (.str signs), some (.int (m : Nat)), some (.str z), v]) ⟨ex1, _, _, rfl, good_nil.2, rfl⟩ ?_ ?_
  · rintro i σ H2 hi ⟨ex2, z, v, hz, hg, rfl⟩
    walk_at "s"
    refine ⟨n, i, rfl, fun r hr => ?_⟩
    walk_at "s"
    obtain ⟨ch, hc, ec⟩ := at_signs (i := (r : Nat) / 7 % 37) (by omega) (by omega)
    refine w_ixS (by decide +kernel) ec ?_
    have l1 : (⟨#[ch]⟩ : Str).length = 1 := rfl
    refine w_addS (szM (by omega)) ?_
    walk_at "s"
    exact ⟨ex2, _, _, by rw [len_app, hz, l1], good_app hg (good_one hc), rfl⟩
  · rintro σ H2 ⟨ex2, z, v, hz, hg, rfl⟩
    walk_at "s"
    exact q z _ ⟨by omega, hg⟩ ex2
theorem cut_hi {z : Str} {k : Nat} (h : k ≤ z.length) : (cutS z none (some (k : Int))).length = k := by
  unfold cutS
  rw [HT.sIx_none, HT.sIx_nat, List.drop_zero, Nat.sub_zero]
  show (List.toArray _).size = k
  rw [List.size_toArray, List.length_take]
  show min (min k z.length) z.cps.toList.length = k
  rw [Array.length_toList]
  show min (min k z.length) z.length = k
  omega
theorem cut_lo {z : Str} {k : Nat} (h : k ≤ z.length) : (cutS z (some (k : Int)) none).length = z.length - k := by
  unfold cutS
  rw [HT.sIx_none, HT.sIx_nat]
  show (List.toArray _).size = _
  rw [List.size_toArray, List.length_take, List.length_drop]
  show min (z.length - min k z.length) (z.cps.toList.length - min k z.length) = z.length - k
  rw [Array.length_toList]
  show min (z.length - min k z.length) (z.length - min k z.length) = z.length - k
  omega
def N_law_near : List Str := ["_law_text_here", "_law_cell", "_law_at", "_law_sign"]
def t_law_near (K : PySem.W.Frag) (c : Cs) (E : XK) : TS := (tSeq (tAsg (tOp rMod (tVar 1) (tOp rAddU (tC (.int 1)) (tCB (rLen K) (tCons (tVar 0) tNil)))) (gName 2))
  (tSeq (tAsg (tOp (rIx K) (tC (.str "abcdefghijklmnopqrstuvwxyz0123456789 ")) (tOp rMod (tOp rDiv (tVar 1) (tC (.int 41))) (tC (.int 37)))) (gName 3))
  (tSeq (tIfS (tAnd (tTest (tOp rLt (tVar 2) (tCB (rLen K) (tCons (tVar 0) tNil)))) (tTest (tOp (rNeU K) (tOp (rIx K) (tVar 0) (tVar 2)) (tVar 3)))) (tRet (tOp rAddU (tOp rAddU (tSl (rSlU K) (tVar 0) tNoPart (tPart (tVar 2))) (tVar 3)) (tSl (rSlU K) (tVar 0) (tPart (tOp rAddU (tVar 2) (tC (.int 1)))) tNoPart))) tNext)
  (tSeq (tIfS (tTest (tOp rLt (tCB (rLen K) (tCons (tVar 0) tNil)) (tC (.int 40)))) (tRet (tOp rAddU (tOp rAddU (tSl (rSlU K) (tVar 0) tNoPart (tPart (tVar 2))) (tVar 3)) (tSl (rSlU K) (tVar 0) (tPart (tVar 2)) tNoPart))) tNext)
  (tRet (tSl (rSlU K) (tVar 0) (tPart (tC (.int 1))) tNoPart))))))
def sp_law_near (K : PySem.W.Frag) (_ : Cs) : Sp := fun vs H Q _ => ∃ (y : Str) (n : Int), vs = [.str y, .int n] ∧ Good y ∧ ∀ (z : Str), Good z → Q (.str z) H
theorem len_law_near {K c} : ∀ vs H Q E, sp_law_near K c vs H Q E → vs.length = 2 := by rintro vs H Q E ⟨_, _, rfl, _⟩; rfl
theorem pure_law_near {K : PySem.W.Frag} {c : Cs} {vs : List V} {H : Hp} {Q : VK} {E : XK} (h : sp_law_near K c vs H Q E) : t_law_near K c E ⟨fun _ H' => Q .non H', Q, fun _ _ => False, fun _ _ => False⟩ (start N_law_near vs) H := by
  obtain ⟨y, n, rfl, hy, q⟩ := h
  show t_law_near K c E _ [some (.str y), some (.int n), none, none] H
  unfold t_law_near
  have hl := hy.1
  walk_at "s"
  refine w_lenS (good_len hy) ?_
  walk_at "s"
  obtain ⟨k, hk⟩ := Int.eq_ofNat_of_zero_le (a := n % (1 + (y.length : Nat))) (Int.emod_nonneg _ (by omega))
  have hk2 := Int.emod_lt_of_pos n (show (0 : Int) < 1 + (y.length : Nat) by omega)
  rw [hk] at hk2 ⊢
  have hk3 : k ≤ y.length := by omega
  walk_at "s"
  obtain ⟨ch, hc, ec⟩ := at_signs (i := n / 41 % 37) (by omega) (by omega)
  refine w_ixS (by decide +kernel) ec ?_
  have l1 : (⟨#[ch]⟩ : Str).length = 1 := rfl
  walk_at "s"
  refine w_lenS (good_len hy) ?_
  walk_at "s"
  have l2 := cut_hi hk3
  have rest : tSeq (tIfS (tTest (tOp rLt (tCB (rLen K) (tCons (tVar 0) tNil)) (tC (.int 40)))) (tRet (tOp rAddU (tOp rAddU (tSl (rSlU K) (tVar 0) tNoPart (tPart (tVar 2))) (tVar 3)) (tSl (rSlU K) (tVar 0) (tPart (tVar 2)) tNoPart))) tNext)
      (tRet (tSl (rSlU K) (tVar 0) (tPart (tC (.int 1))) tNoPart)) ⟨fun _ H' => Q .non H', Q, fun _ _ => False, fun _ _ => False⟩ [some (.str y), some (.int n), some (.int (k : Nat)), some (.str ⟨#[ch]⟩)] H := by
    walk_at "s"
    refine w_lenS (good_len hy) ?_
    walk_at "s"
    refine ite_d (fun h0 => ?_) fun h0 => ?_
    · walk_at "s"
      refine w_slS (good_len hy) ?_
      walk_at "s"
      refine w_addS (szM (by omega)) ?_
      walk_at "s"
      refine w_slS (good_len hy) ?_
      have l3 := cut_lo hk3
      refine w_addS (szM (by rw [len_app]; omega)) ?_
      exact q _ ⟨by rw [len_app, len_app]; omega, good_app (good_app (good_cut hy.2) (good_one hc)) (good_cut hy.2)⟩
    · walk_at "s"
      refine w_slS (good_len hy) ?_
      exact q _ ⟨Nat.le_trans (cutS_length _ _ _) hl, good_cut hy.2⟩
  refine ite_d (fun h0 => ?_) fun h0 => ?_
  · have hk4 : k < y.length := by omega
    obtain ⟨d, hd⟩ : ∃ d, y.cps.toList[k]? = some d := ⟨_, List.getElem?_eq_getElem (by rw [Array.length_toList]; exact hk4)⟩
    walk_at "s"
    refine w_ixS (good_len hy) (atI_nat hd) ?_
    walk_at "s"
    refine ite_nd (fun h1 => ?_) fun h1 => ?_
    · walk_at "s"
      refine w_slS (good_len hy) ?_
      walk_at "s"
      refine w_addS (szM (by omega)) ?_
      walk_at "s"
      refine w_slS (good_len hy) ?_
      have l3 := cut_lo (z := y) (k := k + 1) hk4
      rw [show ((k : Nat) : Int) + 1 = ((k + 1 : Nat) : Int) by push_cast; rfl]
      refine w_addS (szM (by rw [len_app]; omega)) ?_
      exact q _ ⟨by rw [len_app, len_app]; omega, good_app (good_app (good_cut hy.2) (good_one hc)) (good_cut hy.2)⟩
    · exact rest
  · exact rest
def N_law_room : List Str := ["_law_script", "_law_small", "_law_great"]
def t_law_room (K : PySem.W.Frag) (c : Cs) (E : XK) : TS := (tSeq (tIfS (tTest (tOp rGt (tCB (rLen K) (tCons (tVar 0) tNil)) (tC (.int 63)))) (tRet (tVar 2)) tNext)
  (tRet (tVar 1)))
def sp_law_room (K : PySem.W.Frag) (_ : Cs) : Sp := fun vs H Q _ => ∃ (a : Addr) (ns : List Int) (i j : Nat), vs = [.ref a, .int i, .int j] ∧ SqL K H a (ns.map V.int) ∧ ∀ r : Nat, r ≤ max i j → Q (.int (r : Nat)) H
theorem len_law_room {K c} : ∀ vs H Q E, sp_law_room K c vs H Q E → vs.length = 3 := by rintro vs H Q E ⟨_, _, _, _, rfl, _⟩; rfl
theorem pure_law_room {K : PySem.W.Frag} {c : Cs} {vs : List V} {H : Hp} {Q : VK} {E : XK} (h : sp_law_room K c vs H Q E) : t_law_room K c E ⟨fun _ H' => Q .non H', Q, fun _ _ => False, fun _ _ => False⟩ (start N_law_room vs) H := by
  obtain ⟨a, ns, i, j, rfl, hs, q⟩ := h
  show t_law_room K c E _ [some (.ref a), some (.int (i : Nat)), some (.int (j : Nat))] H
  unfold t_law_room
  walk_at "s"
  refine w_lenL hs ?_
  walk_at "s"
  refine ite_d (fun h0 => ?_) fun h0 => ?_
  · walk_at "s"
    exact q j (Nat.le_max_right _ _)
  · walk_at "s"
    exact q i (Nat.le_max_left _ _)
end Tw

namespace Tw
open PySem L2 Ts Mix
/-- a list of rows, made anew -/
structure NewRows (H H' : Hp) (a : Addr) (zs : List Str) : Prop where
  new : H a = none
  at' : H' a = some (.lst (zs.map V.str))
  ex : Ex H H'
  good : ∀ z ∈ zs, Good z
theorem good_snoc {zs : List Str} {z : Str} (h : ∀ z ∈ zs, Good z) (hz : Good z) : ∀ x ∈ zs ++ [z], Good x := fun x hx => by
  rcases List.mem_append.mp hx with q | q
  · exact h x q
  · rw [List.mem_singleton.mp q]; exact hz
theorem map_snoc (zs : List Str) (z : Str) : zs.map V.str ++ [.str z] = (zs ++ [z]).map V.str := by rw [List.map_append]; rfl
def N_law_rows : List Str := ["_law_cell", "_law_more", "_law_many", "_law_kinds", "_law_rows_here", "_law_k"]
def t_law_rows (K : PySem.W.Frag) (c : Cs) (E : XK) : TS := (tSeq (tAsg (tOp rMod (tVar 0) (tC (.int 21))) (gName 2))
  (Evl.tCut (tIfS (tTest (tOp (rEqU K) (tOp rMod (tOp rDiv (tVar 0) (tC (.int 21))) (tC (.int 8))) (tC (.int 1)))) (tAsg (tOp (rIx K) (tLst (tCons (tC (.int 16)) (tCons (tC (.int 17)) (tCons (tC (.int 31)) (tCons (tC (.int 32)) (tCons (tC (.int 33)) (tCons (tC (.int 64)) (tCons (tC (.int 63)) (tCons (tC (.int 100)) (tCons (tC (.int 128)) (tCons (tC (.int 200)) (tCons (tC (.int 600)) (tCons (tC (.int 900)) tNil))))))))))))) (tOp rMod (tOp rDiv (tVar 0) (tC (.int 168))) (tC (.int 12)))) (gName 2)) tNext)
  (tSeq (tAsg (tOp rAddU (tC (.int 1)) (tOp rMod (tVar 1) (tC (.int 5)))) (gName 3))
  (tSeq (tAsg (tLst tNil) (gName 4))
  (tSeq (tFor (iRng1 (tCons (tVar 2) tNil)) (gName 5) (tDrop (tBM K "list" rAppend (tVar 4) (tCons (tCall (sp_law_text K c) [] E0 (tCons (tOp rMod (tOp rDiv (tCall (sp_law_mix K c) [] E0 (tCons (tVar 1) (tCons (tVar 5) tNil))) (tC (.int 3))) (tOp (rIx K) (tLst (tCons (tVar 3) (tCons (tC (.int 99991)) tNil))) (tOp rDiv (tOp rMod (tVar 5) (tC (.int 3))) (tC (.int 2))))) tNil)) tNil))))
  (tRet (tVar 4)))))))
def sp_law_rows (K : PySem.W.Frag) (_ : Cs) : Sp := fun vs H Q _ => ∃ n m : Int, vs = [.int n, .int m] ∧ ∀ a zs H', NewRows H H' a zs → zs.length ≤ 900 → Q (.ref a) H'
theorem len_law_rows {K c} : ∀ vs H Q E, sp_law_rows K c vs H Q E → vs.length = 2 := by rintro vs H Q E ⟨_, _, rfl, _⟩; rfl
theorem pure_law_rows {K : PySem.W.Frag} {c : Cs} {vs : List V} {H : Hp} {Q : VK} {E : XK} (h : sp_law_rows K c vs H Q E) : t_law_rows K c E ⟨fun _ H' => Q .non H', Q, fun _ _ => False, fun _ _ => False⟩ (start N_law_rows vs) H := by
  obtain ⟨n, m, rfl, q⟩ := h
  show t_law_rows K c E _ [some (.int n), some (.int m), none, none, none, none] H
  unfold t_law_rows
  walk_at "s"
  refine w_cut (Mid := fun σ' H' => Ex H H' ∧ ∃ k : Nat, k ≤ 900 ∧ σ' = [some (.int n), some (.int m), some (.int (k : Nat)), none, none, none]) ?_ ?_
  · walk_at "s"
    refine ite_d (fun h1 => ?_) fun h1 => ?_
    · walk_at "s"
      refine ⟨by show 12 ≤ sizeLine; exact sz100 (by decide), fun p hp => ?_⟩
      walk_at "s"
      refine w_ixAny (sql upd_same) (by omega) (by show _ < ((12 : Nat) : Int); omega) fun v hv => ?_
      walk_at "s"
      simp only [List.mem_cons, List.not_mem_nil, or_false] at hv
      obtain ⟨k, hk, rfl⟩ : ∃ k : Nat, k ≤ 900 ∧ v = .int (k : Nat) := by
        rcases hv with rfl | rfl | rfl | rfl | rfl | rfl | rfl | rfl | rfl | rfl | rfl | rfl
        · exact ⟨16, by decide, rfl⟩
        · exact ⟨17, by decide, rfl⟩
        · exact ⟨31, by decide, rfl⟩
        · exact ⟨32, by decide, rfl⟩
        · exact ⟨33, by decide, rfl⟩
        · exact ⟨64, by decide, rfl⟩
        · exact ⟨63, by decide, rfl⟩
        · exact ⟨100, by decide, rfl⟩
        · exact ⟨128, by decide, rfl⟩
        · exact ⟨200, by decide, rfl⟩
        · exact ⟨600, by decide, rfl⟩
        · exact ⟨900, by decide, rfl⟩
      exact ⟨ex_new ex_refl hp, k, hk, rfl⟩
    · walk_at "s"
      obtain ⟨k, e⟩ := Int.eq_ofNat_of_zero_le (a := n % 21) (by omega)
      rw [e]
      exact ⟨ex_refl, k, by omega, rfl⟩
  rintro σ H1 ⟨ex1, k, hk, rfl⟩
  walk_at "s"
  refine ⟨Nat.zero_le _, fun a ha => ?_⟩
  walk_at "s"
  have fa : H a = none := ex_free ex1 ha
  refine w_iR1v (by omega) (by omega) ?_
  rw [Int.toNat_natCast]
  refine lb_range0 (fun i σ H' => ∃ (zs : List Str) (v : Option V), zs.length = i ∧ NewRows H H' a zs ∧ σ = [some (.int n), some (.int m), some (.int (k : Nat)), some (.int (1 + m % 5)), some (.ref a), v]) ⟨[], _, rfl, ⟨fa, upd_same, ex_mut ex1 fa, fun z hz => nomatch hz⟩, rfl⟩ ?_ ?_
  · rintro i σ H2 hi ⟨zs, v, hz, S, rfl⟩
    walk_at "s"
    refine ⟨w_tyL (sql S.at'), ?_⟩
    walk_at "s"
    refine ⟨m, i, rfl, fun r hr => ?_⟩
    walk_at "s"
    refine ⟨by show 2 ≤ sizeLine; exact sz100 (by decide), fun p hp => ?_⟩
    walk_at "s"
    have np : a ≠ p := ne_of_none S.at' hp
    refine w_ixAny (sql upd_same) (by omega) (by show _ < ((2 : Nat) : Int); omega) fun v hv => ?_
    obtain ⟨j, hj, rfl⟩ : ∃ j : Int, 0 < j ∧ v = .int j := by
      rcases List.mem_cons.mp hv with e | hv
      · exact ⟨_, by omega, e⟩
      · exact ⟨_, by decide, List.mem_singleton.mp hv⟩
    refine w_mod hj ?_
    walk_at "s"
    refine ⟨_, rfl, fun z H3 gz ex3 => ?_⟩
    walk_at "s"
    have a3 : H3 a = some (.lst (zs.map V.str)) := ex3 _ _ (by rw [upd_ne np]; exact S.at')
    refine w_app a3 (by rw [List.length_map]; exact szL (by omega)) ?_
    refine ⟨zs ++ [z], _, by simp [hz], ⟨S.new, by rw [upd_same, map_snoc], ?_, good_snoc S.good gz⟩, rfl⟩
    exact ex_mut ((ex_new S.ex hp).trans ex3) S.new
  · rintro σ H2 ⟨zs, v, hz, S, rfl⟩
    walk_at "s"
    exact q a zs H2 S (by omega)
end Tw

namespace Tw
open PySem L2 Ts Mix
/-- a book, its rows kept beside in the list a -/
structure Bk (c : Cs) (H : Hp) (L d l : Addr) (ths : List MK) (B ln lv : Addr) (lvs : List Addr) (a : Addr) (rows : List Str) (levels : List (List Nat)) : Prop where
  ba : BookAt c H B L ln lv lvs rows levels
  iv : BookInv ths rows levels
  kept : H a = some (.lst (rows.map V.str))
  nd : (a :: d :: l :: ln :: lv :: lvs).Nodup
  good : ∀ z ∈ rows, Good z
section
variable {K : PySem.W.Frag} {c : Cs} {H H' : Hp} {B L d l ln lv a : Addr} {lvs lvs' : List Addr} {ths ths' : List MK} {xs xs' : List V} {rows rows' : List Str} {levels levels' : List (List Nat)}
theorem Bk.bs (b : Bk c H L d l ths B ln lv lvs a rows levels) (L1 : LedgerAt c H L d l ths xs) : BS c H B L d l ln lv lvs ths xs rows levels := ⟨L1, b.ba, (List.nodup_cons.mp b.nd).2⟩
theorem Bk.na (b : Bk c H L d l ths B ln lv lvs a rows levels) : a ∉ fpS d l ln lv lvs := (List.nodup_cons.mp b.nd).1
theorem Bk.nB (b : Bk c H L d l ths B ln lv lvs a rows levels) : B ≠ a := by
  obtain ⟨dx, h⟩ := b.ba.ob
  exact ne_of h b.kept fun z => nomatch z
/-- behind a deed the rows beside are kept anew -/
theorem Bk.step (T : TxK K c) (b : Bk c H L d l ths B ln lv lvs a rows levels) (S' : BS c H' B L d l ln lv lvs' ths' xs' rows' levels') (I' : BookInv ths' rows' levels') (w : Wider H lvs lvs') (k : Kp (fpS d l ln lv lvs) H H') (g : ∀ z ∈ rows', Good z) :
    H' a = some (.lst (rows.map V.str)) ∧ LedgerAt c (upd H' a (.lst (rows'.map V.str))) L d l ths' xs' ∧ Bk c (upd H' a (.lst (rows'.map V.str))) L d l ths' B ln lv lvs' a rows' levels' ∧ Kp (a :: fpS d l ln lv lvs) H (upd H' a (.lst (rows'.map V.str))) := by
  have na := b.na
  have ha := k _ _ b.kept na
  have k1 : Kp [a] H' (upd H' a (.lst (rows'.map V.str))) := Kp.refl.set (by simp)
  have na2 : a ∉ fpS d l ln lv lvs' := fun hx => by
    rcases List.mem_cons.mp hx with e | hx
    · exact na (by rw [e]; simp)
    rcases List.mem_cons.mp hx with e | hx
    · exact na (by rw [e]; simp)
    rcases List.mem_cons.mp hx with e | hx
    · exact na (by rw [e]; simp)
    rcases List.mem_cons.mp hx with e | hx
    · exact na (by rw [e]; simp)
    rcases w.2 a hx with r | r
    · exact na (by simp [r])
    · rw [b.kept] at r; cases r
  refine ⟨ha, S'.la.kp T k1 fun x hx => ?_, ⟨S'.ba.kp k1 (fun x hx => ?_) ?_, I', upd_same, List.nodup_cons.mpr ⟨na2, S'.nd⟩, g⟩, (k.mono fun x hx => List.mem_cons_of_mem _ hx).set List.mem_cons_self⟩
  · rw [List.mem_singleton.mp hx]
    refine ⟨fun e => na2 (by rw [e]; simp), fun e => na2 (by rw [e]; simp), fun o ho => ?_⟩
    rw [ha] at ho
    cases ho
    exact ⟨_, rfl⟩
  · rw [List.mem_singleton.mp hx]
    exact fun z => na2 (List.mem_cons_of_mem _ (List.mem_cons_of_mem _ z))
  · intro hx
    exact b.nB (List.mem_singleton.mp hx)
/-- a book that the change does not touch -/
theorem Bk.kp {S : List Addr} (b : Bk c H L d l ths B ln lv lvs a rows levels) (k : Kp S H H') (p : ths <+: ths') (h : ∀ x ∈ S, x ∉ a :: ln :: lv :: lvs) (hB : B ∉ S) : Bk c H' L d l ths' B ln lv lvs a rows levels :=
  ⟨b.ba.kp k (fun x hx z => h x hx (List.mem_cons_of_mem _ z)) hB, b.iv.mono p, k _ _ b.kept fun z => h _ z List.mem_cons_self, b.nd, b.good⟩
theorem Bk.ex (b : Bk c H L d l ths B ln lv lvs a rows levels) (e : Ex H H') : Bk c H' L d l ths B ln lv lvs a rows levels :=
  ⟨b.ba.ex e, b.iv, e _ _ b.kept, b.nd, b.good⟩
/-- B is no list, no dict -/
theorem Bk.notB (T : TxK K c) (b : Bk c H L d l ths B ln lv lvs a rows levels) (L1 : LedgerAt c H L d l ths xs) {S : List Addr} (h : ∀ x ∈ S, (∃ ys, H x = some (.lst ys)) ∨ x = d) : B ∉ S := fun hx => by
  obtain ⟨dx, hb⟩ := b.ba.ob
  rcases h B hx with ⟨ys, e⟩ | e
  · rw [hb] at e; cases e
  · obtain ⟨φ, e2⟩ := T.md d (ents 0 ths xs)
    have := L1.dc
    rw [← e, hb] at this
    rw [← e] at e2
    rw [e2] at this
    cases this
theorem Bk.lists (b : Bk c H L d l ths B ln lv lvs a rows levels) : ∀ x ∈ a :: ln :: lv :: lvs, ∃ ys, H x = some (.lst ys) := fun x hx => by
  rcases List.mem_cons.mp hx with e | hx
  · rw [e]; exact ⟨_, b.kept⟩
  · exact b.ba.fp x hx
theorem wider_refl : Wider H lvs lvs := ⟨List.prefix_refl _, fun _ h => .inl h⟩
end
/-- what a deed that the law does brings: the book has other rows, kept beside -/
def Deed (c : Cs) (H H' : Hp) (L d l : Addr) (ths : List MK) (B ln lv : Addr) (lvs : List Addr) (a : Addr) (n : Nat) : Prop :=
  ∃ (lvs' : List Addr) (ths' : List MK) (xs' : List V) (rows' : List Str) (levels' : List (List Nat)), LedgerAt c H' L d l ths' xs' ∧ Bk c H' L d l ths' B ln lv lvs' a rows' levels' ∧ Kp (a :: fpS d l ln lv lvs) H H' ∧ Wider H lvs lvs' ∧
    ths <+: ths' ∧ ths'.length ≤ ths.length + 18 ∧ rows'.length ≤ n + 1
theorem deed_ex {c : Cs} {H H1 H' : Hp} {L d l : Addr} {ths : List MK} {B ln lv : Addr} {lvs : List Addr} {a : Addr} {n : Nat} (e : Ex H H1) (D : Deed c H1 H' L d l ths B ln lv lvs a n) : Deed c H H' L d l ths B ln lv lvs a n := by
  obtain ⟨lvs', ths', xs', rows', levels', h1, h2, h3, h4, h5⟩ := D
  refine ⟨lvs', ths', xs', rows', levels', h1, h2, (Kp.of_ex e).trans h3, ⟨h4.1, fun x hx => ?_⟩, h5⟩
  rcases h4.2 x hx with r | r
  · exact .inl r
  · refine .inr ?_
    cases q : H x with
    | none => rfl
    | some o => rw [e _ _ q] at r; cases r
section
variable {K : PySem.W.Frag} {c : Cs} {H : Hp} {B L d l ln lv a : Addr} {lvs : List Addr} {ths : List MK} {xs : List V} {rows : List Str} {levels : List (List Nat)} {Q : Hp → Prop} {E : XK}
/-- a row put, and kept beside -/
theorem deed_put (T : TxK K c) (L1 : LedgerAt c H L d l ths xs) (b : Bk c H L d l ths B ln lv lvs a rows levels) (hr : rows.length ≤ 1000) (hz : ths.length < 800000) {place : Nat} {z : Str} (hp : place < rows.length) (hg : Good z)
    (q : ∀ H', H' a = some (.lst (rows.map V.str)) → Deed c H (upd H' a (.lst ((rows.map V.str).set place (.str z)))) L d l ths B ln lv lvs a rows.length → Q H') :
    sp_Book_put K c [.ref B, .int (place : Nat), .str z] H (fun _ H' => Q H') E := by
  refine ⟨B, L, d, l, ln, lv, lvs, ths, xs, rows, levels, _, _, true, rfl, b.bs L1, b.iv, .inl ⟨_, rfl, rfl⟩, rowV_good hg, by omega, by omega, fun n => absurd ⟨place, rfl, hp⟩ n, fun _ n => absurd ⟨z, rfl, hg⟩ n, ?_⟩
  intro place' z' e1 e2 _ _ H' xs' S' I' bc k
  have e1 : place' = place := by have := V.int.inj e1; omega
  cases e2
  subst e1
  obtain ⟨h1, h2, h3, h4⟩ := b.step T S' I' wider_refl k fun x hx => by
    rcases List.mem_or_eq_of_mem_set hx with r | r
    · exact b.good x r
    · rw [r]; exact hg
  have low := bc.low (by omega)
  have gl := putM_len (ths := ths) (levels := levels) (place := place') (z := z)
  refine q H' h1 ?_
  rw [List.map_set] at h2 h3 h4
  exact ⟨lvs, _, xs', _, _, h2, h3, h4, wider_refl, putM_pre, by omega, by rw [List.length_set]; omega⟩
theorem deed_add (T : TxK K c) (L1 : LedgerAt c H L d l ths xs) (b : Bk c H L d l ths B ln lv lvs a rows levels) (hr : rows.length ≤ 1000) (hz : ths.length < 800000) {z : Str} (hg : Good z)
    (q : ∀ H', H' a = some (.lst (rows.map V.str)) → Deed c H (upd H' a (.lst (rows.map V.str ++ [.str z]))) L d l ths B ln lv lvs a rows.length → Q H') :
    sp_Book_add K c [.ref B, .str z] H (fun _ H' => Q H') E := by
  refine ⟨B, L, d, l, ln, lv, lvs, ths, xs, rows, levels, _, rfl, b.bs L1, b.iv, rowV_good hg, by omega, by omega, fun n => absurd ⟨z, rfl, hg⟩ n, fun _ n => absurd n (by omega), ?_⟩
  intro z' e2 _ _ H' xs' lvs' S' I' bc k w
  cases e2
  obtain ⟨h1, h2, h3, h4⟩ := b.step T S' I' w k (good_snoc b.good hg)
  have low := bc.low (by omega)
  have gl := growM_len (ths := ths) (rows := rows) (levels := levels) (z := z)
  refine q H' h1 ?_
  rw [← map_snoc] at h2 h3 h4
  exact ⟨lvs', _, xs', _, _, h2, h3, h4, w, growM_pre, by omega, by simp⟩
theorem deed_cut (T : TxK K c) (L1 : LedgerAt c H L d l ths xs) (b : Bk c H L d l ths B ln lv lvs a rows levels) (hr : rows.length ≤ 1000) (hz : ths.length < 800000) (ne : rows ≠ [])
    (q : ∀ H', H' a = some (.lst (rows.map V.str)) → Deed c H (upd H' a (.lst (rows.map V.str).dropLast)) L d l ths B ln lv lvs a rows.length → Q H') :
    sp_Book_cut K c [.ref B] H (fun _ H' => Q H') E := by
  refine ⟨B, L, d, l, ln, lv, lvs, ths, xs, rows, levels, rfl, b.bs L1, b.iv, by omega, fun n => absurd n ne, ?_⟩
  intro _ H' levels' n S' I' bc k
  obtain ⟨h1, h2, h3, h4⟩ := b.step T S' I' wider_refl (k.mono fun x hx => List.mem_cons_of_mem _ (List.mem_cons_of_mem _ hx)) fun x hx => b.good x (List.dropLast_subset _ hx)
  refine q H' h1 ?_
  rw [List.map_dropLast] at h2 h3 h4
  exact ⟨lvs, _, xs, _, _, h2, h3, h4, wider_refl, List.prefix_refl _, by omega, by rw [List.length_dropLast]; omega⟩
end
end Tw

namespace Tw
open PySem L2 Ts Mix
section
variable {K : PySem.W.Frag} {c : Cs} {H : Hp} {Q : Addr → Hp → Prop} {E : XK}
theorem new_ledger (q : ∀ L d l H', H L = none → H d = none → H l = none → LedgerAt c H' L d l [] [] → Ex H H' → Q L H') :
    ∀ x dx, H x = none → H dx = none → dx ≠ x → sp_Ledger_init K c [.ref x] (upd (upd H dx (.own x)) x (.ins c.Ledger dx [])) (fun v H2 => v = .non ∧ Q x H2) E := fun x dx hx hdx ne => by
  refine ⟨x, dx, rfl, upd_same, fun d l H' hd hl L k => ⟨rfl, ?_⟩⟩
  have e1 : Ex H (upd (upd H dx (.own x)) x (.ins c.Ledger dx [])) := ex_new (ex_new ex_refl hdx) (by rw [upd_ne (Ne.symm ne)]; exact hx)
  refine q x d l H' hx (ex_free e1 hd) (ex_free e1 hl) L fun b o h => k b o (e1 b o h) fun z => ?_
  rw [List.mem_singleton.mp z, hx] at h
  cases h
theorem new_book {L d l p : Addr} {ths : List MK} {xs : List V} {zs : List Str} (L1 : LedgerAt c H L d l ths xs) (hp : H p = some (.lst (zs.map V.str))) (T : TxK K c) (np : p ≠ d ∧ p ≠ l) (hg : ∀ z ∈ zs, Good z) (hl : zs.length ≤ 1024) (hz : ths.length < 500000)
    (q : ∀ B ln lv lvs xs' H', H B = none → (∀ x ∈ ln :: lv :: lvs, H x = none) → BS c H' B L d l ln lv lvs (growsM ths [] [] zs).1 xs' zs (growsM ths [] [] zs).2 → BookInv (growsM ths [] [] zs).1 zs (growsM ths [] [] zs).2 → Kp [d, l] H H' →
      (growsM ths [] [] zs).1.length ≤ ths.length + 17 * zs.length → Q B H') :
    ∀ x dx, H x = none → H dx = none → dx ≠ x → sp_Book_init K c [.ref x, .ref L, .ref p] (upd (upd H dx (.own x)) x (.ins c.Book dx [])) (fun v H2 => v = .non ∧ Q x H2) E := fun x dx hx hdx ne => by
  have e1 : Ex H (upd (upd H dx (.own x)) x (.ins c.Book dx [])) := ex_new (ex_new ex_refl hdx) (by rw [upd_ne (Ne.symm ne)]; exact hx)
  refine ⟨x, dx, L, d, l, p, ths, xs, zs.map V.str, rfl, upd_same, L1.ex e1, sql (e1 _ _ hp), np.1, np.2, fun y hy => ?_, by rw [List.length_map]; omega, hz, fun n => ?_, fun _ n => absurd n (by rw [List.length_map]; omega), fun zs' ez g' l' H' ln lv lvs xs' S I k f b => ⟨rfl, ?_⟩⟩
  · obtain ⟨z, hz, rfl⟩ := List.mem_map.mp hy
    exact rowV_good (hg z hz)
  · obtain ⟨y, hy, n⟩ := n
    obtain ⟨z, hz, rfl⟩ := List.mem_map.mp hy
    exact absurd ⟨z, rfl, hg z hz⟩ n
  · have ez : zs' = zs := (List.map_inj_right (fun a b h => V.str.inj h)).mp ez.symm
    subst ez
    refine q x ln lv lvs xs' H' hx (fun y hy => ex_free e1 (f y hy)) S I (fun b o h n => k b o (e1 b o h) fun z => ?_) b
    rcases List.mem_cons.mp z with e | z
    · rw [e, hx] at h; cases h
    · exact n z
theorem growsM_pre : ∀ (zs rows : List Str) (ths : List MK) (levels : List (List Nat)), ths <+: (growsM ths rows levels zs).1
  | [], _, ths, _ => List.prefix_refl _
  | z :: zs, rows, ths, levels => growM_pre.trans (growsM_pre zs _ _ _)
end
theorem ne_new {H : Hp} {x y : Addr} {o : HO} (h : H x = some o) (f : H y = none) : x ≠ y := fun e => by rw [e, f] at h; cases h
theorem num_at {ths : List MK} (nd : ths.Nodup) {x : Nat} {k : MK} (e : ths[x]? = some k) : ask ths k = ths ∧ num ths k = x := by
  have hm := List.mem_of_getElem? e
  refine ⟨by unfold ask; rw [if_pos hm], nd_ix nd (num_get hm) e⟩
theorem cutV_nat {xs : List V} {i j : Nat} : cutV xs (some (i : Int)) (some (j : Int)) = (xs.drop i).take (j - i) := by
  unfold cutV
  rw [HT.sIx_nat, HT.sIx_nat]
  apply List.ext_getElem?
  intro k
  rw [List.getElem?_take, List.getElem?_take, List.getElem?_drop, List.getElem?_drop]
  by_cases h : k < j - i
  · rw [if_pos h]
    by_cases h2 : k < min j xs.length - min i xs.length
    · rw [if_pos h2]
      congr 1
      omega
    · rw [if_neg h2, List.getElem?_eq_none (by omega)]
  · rw [if_neg h]
    by_cases h2 : k < min j xs.length - min i xs.length
    · rw [if_pos h2, List.getElem?_eq_none (by omega)]
    · rw [if_neg h2]
theorem cut_blk {rows : List Str} {h j : Nat} : cutV (rows.map V.str) (some ((j * 2 ^ h : Nat) : Int)) (some (((j + 1) * 2 ^ h : Nat) : Int)) = (blk rows h j).map V.str := by
  rw [cutV_nat]
  unfold blk
  rw [List.map_take, List.map_drop, Nat.add_mul, Nat.one_mul, Nat.add_sub_cancel_left]
theorem cutV_ints (ns : List Int) (lo hi : Option Int) : ∃ ms : List Int, cutV (ns.map V.int) lo hi = ms.map V.int ∧ ms.length ≤ ns.length := by
  unfold cutV
  refine ⟨_, by rw [← List.map_drop, ← List.map_take], ?_⟩
  rw [List.length_take, List.length_drop]
  omega
/-- the block stands just where its rows do -/
theorem hasB_iff {ths : List MK} {rows : List Str} {levels : List (List Nat)} (I : BookInv ths rows levels) {h j : Nat} : HasB levels (.int (h : Nat)) (.int (j : Nat)) ↔ (j + 1) * 2 ^ h ≤ rows.length := by
  rw [← lt_div_iff, ← I.len]
  constructor
  · rintro ⟨h', j', e1, e2, z⟩
    have e1 : h' = h := by have := V.int.inj e1; omega
    have e2 : j' = j := by have := V.int.inj e2; omega
    rw [← e1, ← e2]
    exact z
  · intro z
    exact ⟨h, j, rfl, rfl, z⟩
end Tw

namespace Tw
open PySem L2 Ts Mix
/-- one book of a ledger, and its rows beside; all of it made behind H0; the objects of keep are none of it -/
structure One (c : Cs) (H0 H : Hp) (L d l B ln lv a : Addr) (keep : List Addr) (lvs : List Addr) (ths : List MK) (xs : List V) (rows : List Str) (levels : List (List Nat)) (n t : Nat) : Prop where
  la : LedgerAt c H L d l ths xs
  bk : Bk c H L d l ths B ln lv lvs a rows levels
  ex : Ex H0 H
  fr : ∀ x ∈ a :: fpS d l ln lv lvs, H0 x = none
  kp : ∀ x ∈ keep, (∃ o, H x = some o) ∧ x ∉ a :: fpS d l ln lv lvs
  hn : rows.length ≤ n
  ht : ths.length ≤ t
section
variable {K : PySem.W.Frag} {c : Cs} {H0 H H' : Hp} {L d l B ln lv a : Addr} {keep : List Addr} {lvs : List Addr} {ths : List MK} {xs xs' : List V} {rows : List Str} {levels : List (List Nat)} {n t : Nat}
theorem One.mono (S : One c H0 H L d l B ln lv a keep lvs ths xs rows levels n t) (e : Ex H H') : One c H0 H' L d l B ln lv a keep lvs ths xs rows levels n t :=
  ⟨S.la.ex e, S.bk.ex e, S.ex.trans e, S.fr, fun x hx => ⟨let ⟨o, h⟩ := (S.kp x hx).1; ⟨o, e _ _ h⟩, (S.kp x hx).2⟩, S.hn, S.ht⟩
/-- an object more to be kept: a new one -/
theorem One.more {p : Addr} (S : One c H0 H L d l B ln lv a keep lvs ths xs rows levels n t) (hp : H p = none) (e : Ex H H') (hp' : ∃ o, H' p = some o) : One c H0 H' L d l B ln lv a (p :: keep) lvs ths xs rows levels n t := by
  have S' := S.mono e
  refine ⟨S'.la, S'.bk, S'.ex, S'.fr, fun x hx => ?_, S.hn, S.ht⟩
  rcases List.mem_cons.mp hx with r | r
  · rw [r]
    refine ⟨hp', fun z => ?_⟩
    rcases List.mem_cons.mp z with e | z
    · rw [e, S.bk.kept] at hp; cases hp
    · exact (S.bk.bs S.la).new hp z
  · exact S'.kp x r
theorem One.less {keep' : List Addr} (S : One c H0 H L d l B ln lv a keep lvs ths xs rows levels n t) (h : ∀ x ∈ keep', x ∈ keep) : One c H0 H L d l B ln lv a keep' lvs ths xs rows levels n t :=
  ⟨S.la, S.bk, S.ex, S.fr, fun x hx => S.kp x (h x hx), S.hn, S.ht⟩
theorem One.keeps {x : Addr} {o : HO} (S : One c H0 H L d l B ln lv a keep lvs ths xs rows levels n t) (k : Kp (a :: fpS d l ln lv lvs) H H') (hx : x ∈ keep) (h : H x = some o) : H' x = some o := k _ _ h (S.kp x hx).2
theorem One.sub (k : Kp [d, l] H H') : Kp (a :: fpS d l ln lv lvs) H H' := k.mono fun x hx => by
  rcases List.mem_cons.mp hx with e | e
  · rw [e]; simp
  · rw [List.mem_singleton.mp e]; simp
theorem ex_of_kp {F : List Addr} (e : Ex H0 H) (fr : ∀ x ∈ F, H0 x = none) (k : Kp F H H') : Ex H0 H' := fun x o h => k _ _ (e _ _ h) fun z => by rw [fr x z] at h; cases h
theorem One.asked (S : One c H0 H L d l B ln lv a keep lvs ths xs rows levels n t) (L1 : LedgerAt c H' L d l ths xs') (b : Bk c H' L d l ths B ln lv lvs a rows levels) (k : Kp [d, l] H H') : One c H0 H' L d l B ln lv a keep lvs ths xs' rows levels n t :=
  ⟨L1, b, ex_of_kp S.ex S.fr (One.sub k), S.fr, fun x hx => ⟨let ⟨_, h⟩ := (S.kp x hx).1; ⟨_, S.keeps (One.sub k) hx h⟩, (S.kp x hx).2⟩, S.hn, S.ht⟩
theorem One.deed (S : One c H0 H L d l B ln lv a keep lvs ths xs rows levels n t) (D : Deed c H H' L d l ths B ln lv lvs a rows.length) : Kp (a :: fpS d l ln lv lvs) H H' ∧ ∃ lvs' ths' xs' rows' levels', One c H0 H' L d l B ln lv a keep lvs' ths' xs' rows' levels' (n + 1) (t + 18) := by
  obtain ⟨lvs', ths', xs', rows', levels', h1, h2, h3, h4, h5, h6, h7⟩ := D
  have hn := S.hn
  have ht := S.ht
  have key : ∀ x ∈ a :: fpS d l ln lv lvs', x ∈ a :: fpS d l ln lv lvs ∨ H x = none := fun x hx => by
    rcases List.mem_cons.mp hx with e | hx
    · exact .inl (by rw [e]; simp)
    rcases List.mem_cons.mp hx with e | hx
    · exact .inl (by rw [e]; simp)
    rcases List.mem_cons.mp hx with e | hx
    · exact .inl (by rw [e]; simp)
    rcases List.mem_cons.mp hx with e | hx
    · exact .inl (by rw [e]; simp)
    rcases List.mem_cons.mp hx with e | hx
    · exact .inl (by rw [e]; simp)
    rcases h4.2 x hx with r | r
    · exact .inl (by simp [r])
    · exact .inr r
  refine ⟨h3, lvs', ths', xs', rows', levels', h1, h2, ex_of_kp S.ex S.fr h3, fun x hx => ?_, fun x hx => ⟨let ⟨_, h⟩ := (S.kp x hx).1; ⟨_, S.keeps h3 hx h⟩, fun z => ?_⟩, by omega, by omega⟩
  · rcases key x hx with r | r
    · exact S.fr x r
    · cases q : H0 x with
      | none => rfl
      | some o => rw [S.ex _ _ q] at r; cases r
  · rcases key x z with r | r
    · exact (S.kp x hx).2 r
    · obtain ⟨o, h⟩ := (S.kp x hx).1
      rw [h] at r; cases r
/-- a ledger, rows, and a book of them -/
theorem One.make {zs : List Str} {p : Addr} {H1 H2 : Hp} (L1 : LedgerAt c H1 L d l ths xs) (T : TxK K c) (e1 : Ex H0 H1) (f1 : H0 d = none ∧ H0 l = none) (N : NewRows H1 H2 a zs) (hl : zs.length ≤ 1000) (hz : ths.length < 400000) (hp : H2 p = none) {Q : Addr → Hp → Prop} {E : XK}
    (q : ∀ H' B ln lv lvs ths' xs' levels, One c H0 H' L d l B ln lv a [] lvs ths' xs' zs levels zs.length (ths.length + 17 * zs.length) → Q B H') :
    ∀ x dx, (upd H2 p (.lst (zs.map V.str))) x = none → (upd H2 p (.lst (zs.map V.str))) dx = none → dx ≠ x → sp_Book_init K c [.ref x, .ref L, .ref p] (upd (upd (upd H2 p (.lst (zs.map V.str))) dx (.own x)) x (.ins c.Book dx [])) (fun v H2 => v = .non ∧ Q x H2) E := by
  have e3 : Ex H2 (upd H2 p (.lst (zs.map V.str))) := ex_new ex_refl hp
  have e2 := N.ex.trans e3
  have L3 := L1.ex e2
  have e0 := e1.trans e2
  refine new_book L3 upd_same T ⟨fun z => ?_, fun z => ?_⟩ N.good (by omega) (by omega) fun B ln lv lvs xs' H' hB hf S I k hb => q H' B ln lv lvs (growsM ths [] [] zs).1 xs' (growsM ths [] [] zs).2 ?_
  · have := N.ex _ _ L1.dc
    rw [← z, hp] at this; cases this
  · have := N.ex _ _ L1.ls
    rw [← z, hp] at this; cases this
  have ha := e3 _ _ N.at'
  have na : a ∉ fpS d l ln lv lvs := fun z => by
    rcases List.mem_cons.mp z with e | z
    · have := N.new; rw [e, L1.dc] at this; cases this
    rcases List.mem_cons.mp z with e | z
    · have := N.new; rw [e, L1.ls] at this; cases this
    · rw [hf a z] at ha; cases ha
  have fr : ∀ x ∈ a :: fpS d l ln lv lvs, H0 x = none := fun x hx => by
    rcases List.mem_cons.mp hx with e | hx
    · rw [e]; exact ex_free e1 N.new
    rcases List.mem_cons.mp hx with e | hx
    · rw [e]; exact f1.1
    rcases List.mem_cons.mp hx with e | hx
    · rw [e]; exact f1.2
    · exact ex_free e0 (hf x hx)
  have nd2 : a ∉ [d, l] := fun z => na (by
    rcases List.mem_cons.mp z with e | z
    · rw [e]; simp
    · rw [List.mem_singleton.mp z]; simp)
  have b : Bk c H' L d l (growsM ths [] [] zs).1 B ln lv lvs a zs (growsM ths [] [] zs).2 := ⟨S.ba, I, k _ _ ha nd2, List.nodup_cons.mpr ⟨na, S.nd⟩, N.good⟩
  exact ⟨S.la, b, ex_of_kp e0 fr (One.sub k), fr, fun x hx => (nomatch hx), Nat.le_refl _, hb⟩
end
end Tw

namespace Tw
open PySem L2 Ts Mix
/-! lists of whole numbers -/
def numsV (l : List Nat) : List V := l.map fun n : Nat => V.int n
theorem numsV_len {l : List Nat} : (numsV l).length = l.length := List.length_map _
theorem numsV_app {l m : List Nat} : numsV (l ++ m) = numsV l ++ numsV m := List.map_append
theorem numsV_dp {K : PySem.W.Frag} {H : Hp} : ∀ l : List Nat, DpAll K H (numsV l) (l.map eNat.enc)
  | [] => .nil
  | _ :: l => .cons (.int _) (numsV_dp l)
theorem numsV_int {l : List Nat} : numsV l = (l.map fun n : Nat => (n : Int)).map V.int := by
  unfold numsV
  rw [List.map_map]
  rfl
theorem rgV_nat {a b : Nat} : rgV (a : Nat) (b : Nat) = numsV ((List.range (b - a)).map fun x => a + x) := by
  unfold rgV numsV
  rw [List.map_map, show ((b : Int) - (a : Int)).toNat = b - a by omega]
  refine List.map_congr_left fun x _ => ?_
  show V.int _ = V.int _
  congr 1
theorem rgV_zero {b : Nat} : rgV 0 (b : Nat) = numsV (List.range b) := by
  have h := rgV_nat (a := 0) (b := b)
  rw [show ((0 : Nat) : Int) = 0 from rfl] at h
  rw [h, Nat.sub_zero]
  congr 1
  conv => rhs; rw [← List.map_id (List.range b)]
  exact List.map_congr_left fun x _ => Nat.zero_add x
theorem numsV_more {a b : Nat} (h : a ≤ b) : numsV (List.range a) ++ rgV (a : Nat) (b : Nat) = numsV (List.range b) := by
  rw [rgV_nat, ← numsV_app, ← List.range_add, show a + (b - a) = b by omega]
theorem rgOk {a b : Nat} (ha : a ≤ 100000) (hb : b ≤ 100000) : RgOk (a : Nat) (b : Nat) := ⟨by omega, by omega, by omega, by omega, by omega⟩
theorem rgOk0 {b : Nat} (hb : b ≤ 100000) : RgOk 0 (b : Nat) := ⟨by omega, by omega, by omega, by omega, by omega⟩
/-- numbers that rise are left as they are -/
theorem sorted_range {k : Nat} {ns : List Int} (p : ns.Perm ((List.range k).map fun n : Nat => (n : Int))) (w : ns.Pairwise (· ≤ ·)) : ns.map V.int = numsV (List.range k) := by
  have e : ns = (List.range k).map fun n : Nat => (n : Int) := by
    refine List.Perm.eq_of_pairwise (le := fun x y : Int => x ≤ y) (fun a b _ _ h1 h2 => by omega) w ?_ p
    rw [List.pairwise_map]
    exact List.pairwise_lt_range.imp fun h => by omega
  rw [e, numsV_int]
theorem numsV_flat (l : List Nat) : (numsV l).all flatV = true := by
  rw [List.all_eq_true]
  intro x hx
  obtain ⟨n, _, rfl⟩ := List.mem_map.mp hx
  rfl
theorem numsV_in (m : Nat) (l : List Nat) : inV (.int (m : Nat)) (numsV l) = decide (m ∈ l) := by
  unfold inV numsV
  rw [List.any_map, Bool.eq_iff_iff, List.any_eq_true, decide_eq_true_iff]
  constructor
  · rintro ⟨x, hx, e⟩
    have e : (((x : Nat) : Int) == ((m : Nat) : Int)) = true := e
    have := eq_of_beq e
    rw [show m = x by omega]
    exact hx
  · intro h
    exact ⟨m, h, beq_self_eq_true (α := Int) _⟩
end Tw

namespace Tw
open PySem L2 Ts Mix
theorem call_mid {sp : Sp} {vs : List V} {H : Hp} {Q : VK} {E : XK} (Mid : V → Hp → Prop) (h : ∀ Q : VK, (∀ v H', Mid v H' → Q v H') → sp vs H Q E) (k : ∀ v H', Mid v H' → Q v H') : sp vs H Q E := h Q k
/-! deeds, as they are drawn -/
inductive Dd where
  | put (p v : V)
  | add (v : V)
  | cut
def Dd.items : Dd → List V
  | .put p v => [.str "put", p, v]
  | .add v => [.str "add", v]
  | .cut => [.str "cut"]
/-- a text that is a row, or one of those that are none -/
def TextV (v : V) (b : Bool) : Prop := (b = true ∧ ∃ z, v = .str z ∧ Good z) ∨ (b = false ∧ (v = .str "a\n" ∨ v = .str "\tZ" ∨ v = .non ∨ v = .int 7 ∨ v = .str (repS "b" 41)))
theorem bad_rows : ¬ Good "a\n" ∧ ¬ Good "\tZ" ∧ ¬ Good (repS "b" 41) := by decide +kernel
theorem TextV.row {v : V} {b : Bool} (h : TextV v b) : isRowV v ↔ b = true := by
  rcases h with ⟨rfl, z, rfl, g⟩ | ⟨rfl, h⟩
  · exact ⟨fun _ => rfl, fun _ => ⟨z, rfl, g⟩⟩
  · refine ⟨fun ⟨z, e, g⟩ => ?_, fun e => nomatch e⟩
    rcases h with rfl | rfl | rfl | rfl | rfl
    · cases e; exact absurd g bad_rows.1
    · cases e; exact absurd g bad_rows.2.1
    · cases e
    · cases e
    · cases e; exact absurd g bad_rows.2.2
theorem TextV.rowV {K : PySem.W.Frag} {H : Hp} {v : V} {b : Bool} (h : TextV v b) : RowV K H v := by
  rcases h with ⟨_, z, rfl, g⟩ | ⟨_, h⟩
  · exact rowV_good g
  · rcases h with rfl | rfl | rfl | rfl | rfl
    · exact .inl ⟨_, rfl, by decide +kernel⟩
    · exact .inl ⟨_, rfl, by decide +kernel⟩
    · exact .inr (.inr (.inl rfl))
    · exact .inr (.inl ⟨_, rfl⟩)
    · exact .inl ⟨_, rfl, by decide +kernel⟩
/-- a place, or what is none, told apart without a look at the heap -/
def FlatP (p : V) : Prop := ∃ b, ∀ K H, isWholeV K H p b
def Dd.Ok : Dd → Prop
  | .put p v => FlatP p ∧ ∃ b, TextV v b
  | .add v => ∃ b, TextV v b
  | .cut => True
/-- what a deed that is taken makes of the rows, and in how many blocks -/
def Succ (rows zs : List Str) (m : Nat) : Dd → Prop
  | .put p v => ∃ (i : Nat) (z : Str), p = .int (i : Nat) ∧ v = .str z ∧ i < rows.length ∧ Good z ∧ zs = rows.set i z ∧ IsBc rows.length i m
  | .add v => ∃ z, v = .str z ∧ Good z ∧ zs = rows ++ [z] ∧ IsBc (rows.length + 1) rows.length m
  | .cut => rows ≠ [] ∧ zs = rows.dropLast ∧ IsBc rows.length (rows.length - 1) m
/-- what refuses a deed -/
def Ref (rows : List Str) (nm : Str) : Dd → Prop
  | .put p v => (¬ NumV rows.length p ∧ nm = "NoPlace") ∨ (NumV rows.length p ∧ ¬ isRowV v ∧ nm = "NoRow")
  | .add v => ¬ isRowV v ∧ nm = "NoRow"
  | .cut => rows = [] ∧ nm = "NoPlace"
def N_law_good : List Str := ["_law_text_here"]
def t_law_good (K : PySem.W.Frag) (c : Cs) (E : XK) : TS := (tRet (tAndV (tCB (rIsi K) (tCons (tVar 0) (tCons (tC (.ty "str")) tNil))) (tAndV (tOp rLt (tCB (rLen K) (tCons (tVar 0) tNil)) (tC (.int 41))) (tOp (rIn K true) (tVar 0) (tLst (tCons (tC (.str "a\n")) (tCons (tC (.str "\tZ")) tNil)))))))
def sp_law_good (K : PySem.W.Frag) (_ : Cs) : Sp := fun vs H Q _ => ∃ (v : V) (b : Bool), vs = [v] ∧ TextV v b ∧ ∀ H', Ex H H' → Q (.bl b) H'
theorem len_law_good {K c} : ∀ vs H Q E, sp_law_good K c vs H Q E → vs.length = 1 := by rintro vs H Q E ⟨_, _, rfl, _⟩; rfl
theorem pure_law_good {K : PySem.W.Frag} {c : Cs} {vs : List V} {H : Hp} {Q : VK} {E : XK} (g : sp_law_good K c vs H Q E) : t_law_good K c E ⟨fun _ H' => Q .non H', Q, fun _ _ => False, fun _ _ => False⟩ (start N_law_good vs) H := by
  obtain ⟨v, b, rfl, hv, k⟩ := g
  show t_law_good K c E _ [some v] H
  unfold t_law_good
  have str : ∀ (z : Str) (b : Bool), z.length ≤ 1000 → (decide (z.length < 41) && (!(decide (z = "a\n") || decide (z = "\tZ")))) = b → (∀ H', Ex H H' → Q (.bl b) H') → tRet (tAndV (tCB (rIsi K) (tCons (tVar 0) (tCons (tC (.ty "str")) tNil))) (tAndV (tOp rLt (tCB (rLen K) (tCons (tVar 0) tNil)) (tC (.int 41))) (tOp (rIn K true) (tVar 0) (tLst (tCons (tC (.str "a\n")) (tCons (tC (.str "\tZ")) tNil)))))) ⟨fun _ H' => Q .non H', Q, fun _ _ => False, fun _ _ => False⟩ [some (.str z)] H := by
    intro z b hz hb k
    walk_at "s"
    refine isi_ty (b := true) tyS (by decide +kernel) ?_
    walk_at "s"
    refine iteT ?_
    walk_at "s"
    refine w_lenS (Nat.le_trans hz (by decide)) ?_
    walk_at "s"
    refine ite_d (fun h0 => ?_) fun h0 => ?_
    · rw [decide_eq_true (show z.length < 41 by omega), Bool.true_and] at hb
      walk_at "s"
      refine ⟨by show 2 ≤ sizeLine; exact sz100 (by decide), fun p hp => ?_⟩
      refine ⟨p, _, rfl, .inl (sql upd_same), rfl, rfl, ?_⟩
      rw [if_pos rfl]
      have e : inV (.str z) [V.str "a\n", V.str "\tZ"] = (decide (z = "a\n") || decide (z = "\tZ")) := by
        have e1 : ∀ w : Str, eqV (.str w) (.str z) = decide (z = w) := fun w => by
          show (w == z) = _
          rw [Bool.eq_iff_iff]
          simp only [beq_iff_eq, decide_eq_true_eq]
          exact eq_comm
        show ([V.str "a\n", V.str "\tZ"].any fun y => eqV y (.str z)) = _
        rw [List.any_cons, List.any_cons, List.any_nil, e1, e1, Bool.or_false]
      rw [e, hb]
      exact k _ (ex_new ex_refl hp)
    · rw [decide_eq_false (show ¬ z.length < 41 by omega), Bool.false_and] at hb
      subst hb
      exact k _ ex_refl
  rcases hv with ⟨rfl, z, rfl, g⟩ | ⟨rfl, h⟩
  · refine str z true (Nat.le_trans g.1 (by decide)) ?_ k
    rw [decide_eq_true (show z.length < 41 from Nat.lt_succ_of_le g.1), decide_eq_false (fun e => bad_rows.1 (by rw [← e]; exact g)), decide_eq_false (fun e => bad_rows.2.1 (by rw [← e]; exact g))]
    rfl
  · rcases h with rfl | rfl | rfl | rfl | rfl
    · exact str _ false (by decide +kernel) (by decide +kernel) k
    · exact str _ false (by decide +kernel) (by decide +kernel) k
    · walk_at "s"
      refine isi_ty (b := false) tyN (by decide +kernel) ?_
      walk_at "s"
      refine iteF ?_
      exact k _ ex_refl
    · walk_at "s"
      refine isi_ty (b := false) tyI (by decide +kernel) ?_
      walk_at "s"
      refine iteF ?_
      exact k _ ex_refl
    · exact str _ false (by decide +kernel) (by decide +kernel) k
def N_law_blocks : List Str := ["_law_count", "_law_place", "_law_found", "_law_height"]
def t_law_blocks (K : PySem.W.Frag) (c : Cs) (E : XK) : TS := (tSeq (tAsg (tC (.int 0)) (gName 2))
  (tSeq (tAsg (tC (.int 0)) (gName 3))
  (tSeq (tWhile (tTest (tOp rLe (tOp rMul (tOp rAddU (tOp rDiv (tVar 1) (tCall (sp_law_size K c) [] E0 (tCons (tVar 3) tNil))) (tC (.int 1))) (tCall (sp_law_size K c) [] E0 (tCons (tVar 3) tNil))) (tVar 0))) (tSeq (tAsg (tOp rAddU (tVar 2) (tC (.int 1))) (gName 2))
  (tAsg (tOp rAddU (tVar 3) (tC (.int 1))) (gName 3))))
  (tRet (tVar 2)))))
def sp_law_blocks (K : PySem.W.Frag) (_ : Cs) : Sp := fun vs H Q _ => ∃ n p : Nat, vs = [.int (n : Nat), .int (p : Nat)] ∧ n ≤ 100000 ∧ ∀ m : Nat, IsBc n p m → Q (.int (m : Nat)) H
theorem len_law_blocks {K c} : ∀ vs H Q E, sp_law_blocks K c vs H Q E → vs.length = 2 := by rintro vs H Q E ⟨_, _, rfl, _⟩; rfl
theorem blk_low {p h n : Nat} (h1 : (p / 2 ^ h + 1) * 2 ^ h ≤ n) (hn : n ≤ 100000) : h < 18 := by
  rcases Nat.lt_or_ge h 18 with w | w
  · exact w
  · have h2 : 2 ^ h ≤ (p / 2 ^ h + 1) * 2 ^ h := Nat.le_mul_of_pos_left _ (Nat.succ_pos _)
    have h3 : 2 ^ 18 ≤ 2 ^ h := Nat.pow_le_pow_right (by decide) w
    have h4 : (2 : Nat) ^ 18 = 262144 := by decide
    omega
theorem pure_law_blocks {K : PySem.W.Frag} {c : Cs} {vs : List V} {H : Hp} {Q : VK} {E : XK} (g : sp_law_blocks K c vs H Q E) : t_law_blocks K c E ⟨fun _ H' => Q .non H', Q, fun _ _ => False, fun _ _ => False⟩ (start N_law_blocks vs) H := by
  obtain ⟨n, p, rfl, hn, k⟩ := g
  show t_law_blocks K c E _ [some (.int (n : Nat)), some (.int (p : Nat)), none, none] H
  unfold t_law_blocks
  walk_at "s"
  refine w_while (fun σ H' => H = H' ∧ ∃ h : Nat, σ = [some (.int (n : Nat)), some (.int (p : Nat)), some (.int (h : Nat)), some (.int (h : Nat))] ∧ h ≤ 18 ∧ ∀ k, k < h → (p / 2 ^ k + 1) * 2 ^ k ≤ n)
    (fun σ _ => match σ with | [_, _, some (.int m), _] => 100 - m.toNat | _ => 0) ⟨rfl, 0, rfl, by omega, fun k hk => absurd hk (Nat.not_lt_zero _)⟩ ?_
  rintro σ H' ⟨rfl, h, rfl, h18, hb⟩
  have pp := Nat.two_pow_pos h
  have hp3 : 2 ^ h ≤ 2 ^ 18 := Nat.pow_le_pow_right (by decide) h18
  have hp4 : (2 : Nat) ^ 18 = 262144 := by decide
  have ei : ((h : Nat) : Int) + 1 = ((h + 1 : Nat) : Int) := by push_cast; rfl
  walk_at "s"
  refine ⟨h, rfl, by omega, ?_⟩
  walk_at "s"
  try refine w_div (by omega) (by omega) ?_
  rw [cast_div]
  walk_at "s"
  refine ⟨h, rfl, by omega, ?_⟩
  walk_at "s"
  try refine w_mul (cmul_nat (Nat.le_trans hp3 (by decide))) ?_
  rw [show (((p / 2 ^ h : Nat) : Int) + 1) * ((2 ^ h : Nat) : Int) = (((p / 2 ^ h + 1) * 2 ^ h : Nat) : Int) by push_cast; rfl]
  walk_at "s"
  refine ite_d (fun h0 => ?_) fun h0 => ?_
  · have h0 : (p / 2 ^ h + 1) * 2 ^ h ≤ n := by omega
    have hl := blk_low h0 hn
    refine w_wN ?_
    walk_at "s"
    rw [ei]
    refine ⟨⟨rfl, h + 1, rfl, by omega, fun k hk => ?_⟩, ?_⟩
    · rcases Nat.lt_or_ge k h with w | w
      · exact hb k w
      · rw [show k = h by omega]; exact h0
    · show 100 - ((h + 1 : Nat) : Int).toNat < 100 - ((h : Nat) : Int).toNat
      omega
  · walk_at "s"
    exact k h ⟨hb, by omega⟩
def N_law_due : List Str := ["_law_rows_here", "_law_deed_here", "_law_place", "_law_many"]
def t_law_due (K : PySem.W.Frag) (c : Cs) (E : XK) : TS := (tSeq (tIfS (tTest (tOp (rEqU K) (tOp (rIx K) (tVar 1) (tC (.int 0))) (tC (.str "put")))) (tSeq (tAsg (tOp (rIx K) (tVar 1) (tC (.int 1))) (gName 2))
  (tIfS (tOr (tNot (tB (tCall (sp_law_whole K c) [] E0 (tCons (tVar 2) tNil)))) (tNot (tTest (tChain rLe rLt (tC (.int 0)) (tVar 2) (tCB (rLen K) (tCons (tVar 0) tNil)))))) (tRet (tTup (tCons (tC (.str "NoPlace")) tNil))) tNext)) tNext)
  (tSeq (tIfS (tAnd (tTest (tOp (rNeU K) (tOp (rIx K) (tVar 1) (tC (.int 0))) (tC (.str "cut")))) (tNot (tB (tCall (sp_law_good K c) [] E0 (tCons (tOp (rIx K) (tVar 1) (tUn (rU fun i => .int (-i)) (tC (.int 1)))) tNil))))) (tRet (tTup (tCons (tC (.str "NoRow")) tNil))) tNext)
  (tSeq (tIfS (tTest (tOp (rEqU K) (tOp (rIx K) (tVar 1) (tC (.int 0))) (tC (.str "put")))) (tSeq (tAsg (tOp (rIx K) (tVar 1) (tC (.int 2))) (gSub (tVar 0) (tVar 2) rSetL))
  (tRet (tCall (sp_law_blocks K c) [] E0 (tCons (tCB (rLen K) (tCons (tVar 0) tNil)) (tCons (tVar 2) tNil))))) tNext)
  (tSeq (tIfS (tTest (tOp (rEqU K) (tOp (rIx K) (tVar 1) (tC (.int 0))) (tC (.str "add")))) (tSeq (tDrop (tBM K "list" rAppend (tVar 0) (tCons (tOp (rIx K) (tVar 1) (tC (.int 1))) tNil)))
  (tRet (tCall (sp_law_blocks K c) [] E0 (tCons (tCB (rLen K) (tCons (tVar 0) tNil)) (tCons (tOp rSubI (tCB (rLen K) (tCons (tVar 0) tNil)) (tC (.int 1))) tNil))))) tNext)
  (tSeq (tIfS (tTest (tOp (rEqU K) (tVar 0) (tLst tNil))) (tRet (tTup (tCons (tC (.str "NoPlace")) tNil))) tNext)
  (tSeq (tAsg (tCall (sp_law_blocks K c) [] E0 (tCons (tCB (rLen K) (tCons (tVar 0) tNil)) (tCons (tOp rSubI (tCB (rLen K) (tCons (tVar 0) tNil)) (tC (.int 1))) tNil))) (gName 3))
  (tSeq (tDrop (tBM0 K "list" rPop (tVar 0)))
  (tRet (tVar 3)))))))))
def sp_law_due (K : PySem.W.Frag) (_ : Cs) : Sp := fun vs H Q _ => ∃ (a t : Addr) (rows : List Str) (dd : Dd), vs = [.ref a, .ref t] ∧ H a = some (.lst (rows.map V.str)) ∧ (∀ z ∈ rows, Good z) ∧ SqT K H t dd.items ∧ dd.Ok ∧ rows.length ≤ 10000 ∧
  (∀ nm H' t', Ref rows nm dd → Ex H H' → H t' = none → H' t' = some (.tup [.str nm]) → Q (.ref t') H') ∧ (∀ zs m H1, Succ rows zs m dd → Ex H H1 → Q (.int (m : Nat)) (upd H1 a (.lst (zs.map V.str))))
theorem len_law_due {K c} : ∀ vs H Q E, sp_law_due K c vs H Q E → vs.length = 2 := by rintro vs H Q E ⟨_, _, _, _, rfl, _⟩; rfl
theorem whole_yes' {K : PySem.W.Frag} {H : Hp} {v : V} (h : isWholeV K H v true) : ∃ i, v = .int i := by
  rcases h with ⟨i, z, _⟩ | ⟨x, _, z⟩ | ⟨x, _, z⟩ | ⟨_, z⟩ | ⟨a, ys, _, _, z⟩
  · exact ⟨i, z⟩
  all_goals cases z
theorem whole_no' {K : PySem.W.Frag} {H : Hp} {v : V} (h : isWholeV K H v false) : ∀ i, v ≠ .int i := by
  rintro i rfl
  rcases h with ⟨j, _, z⟩ | ⟨x, z, _⟩ | ⟨x, z, _⟩ | ⟨z, _⟩ | ⟨a, ys, z, _, _⟩ <;> cases z
theorem flat_num {K : PySem.W.Frag} {H : Hp} {p : V} {b : Bool} (h : isWholeV K H p b) (n : Nat) : (b = true ∧ ∃ i : Int, p = .int i) ∨ (b = false ∧ ¬ NumV n p) := by
  cases b with
  | true => exact .inl ⟨rfl, whole_yes' h⟩
  | false => exact .inr ⟨rfl, fun ⟨i, e, _⟩ => whole_no' h i e⟩
theorem pure_law_due {K : PySem.W.Frag} {c : Cs} {vs : List V} {H : Hp} {Q : VK} {E : XK} (g : sp_law_due K c vs H Q E) : t_law_due K c E ⟨fun _ H' => Q .non H', Q, fun _ _ => False, fun _ _ => False⟩ (start N_law_due vs) H := by
  obtain ⟨a, t, rows, dd, rfl, ha, gr, ht, ok, hr, k1, k2⟩ := g
  show t_law_due K c E _ [some (.ref a), some (.ref t), none, none] H
  unfold t_law_due
  cases dd with
  | put p v =>
    obtain ⟨⟨b, hb⟩, b2, tv⟩ := ok
    have a0 : atI (Dd.put p v).items 0 = some (V.str "put") := rfl
    have a1 : atI (Dd.put p v).items 1 = some p := rfl
    have a2 : atI (Dd.put p v).items 2 = some v := rfl
    have am : atI (Dd.put p v).items (-1) = some v := rfl
    walk_at "s"
    refine w_ixT ht a0 ?_
    walk_at "s"
    rw [decide_eq_true rfl]
    refine iteT ?_
    walk_at "s"
    refine w_ixT ht a1 ?_
    walk_at "s"
    refine ⟨p, b, rfl, hb K H, ?_⟩
    walk_at "s"
    rcases flat_num (hb K H) rows.length with ⟨rfl, i, rfl⟩ | ⟨rfl, nn⟩
    · refine iteF ?_
      walk_at "s"
      have bad : ¬ NumV rows.length (.int i) → tTup (tCons (tC (.str "NoPlace")) tNil) [some (.ref a), some (.ref t), some (.int i), none] H Q := fun nn => by
        walk_at "s"
        refine ⟨by show 1 ≤ sizeLine; exact sz100 (by decide), fun t' ht' => ?_⟩
        exact k1 _ _ t' (.inl ⟨nn, rfl⟩) (ex_new ex_refl ht') ht' upd_same
      refine ite_d (fun h0 => ?_) fun h0 => ?_
      · walk_at "s"
        refine w_lenL (sql ha) ?_
        rw [List.length_map]
        walk_at "s"
        refine ite_nd (fun h1 => ?_) fun h1 => ?_
        · walk_at "s"
          exact bad fun ⟨j, e, hj⟩ => by have := V.int.inj e; omega
        · obtain ⟨i, rfl⟩ : ∃ j : Nat, i = (j : Int) := ⟨i.toNat, by omega⟩
          have hi : i < rows.length := by omega
          walk_at "s"
          refine w_ixT ht a0 ?_
          walk_at "s"
          rw [decide_eq_false (by decide +kernel)]
          refine iteT ?_
          walk_at "s"
          refine w_ixT ht am ?_
          walk_at "s"
          refine ⟨v, b2, rfl, tv, fun H1 e1 => ?_⟩
          walk_at "s"
          cases b2 with
          | false =>
            refine iteT ?_
            walk_at "s"
            refine ⟨by show 1 ≤ sizeLine; exact sz100 (by decide), fun t' ht' => ?_⟩
            exact k1 _ _ t' (.inr ⟨⟨i, rfl, hi⟩, fun r => (by have := tv.row.mp r; cases this), rfl⟩) (ex_new e1 ht') (ex_free e1 ht') upd_same
          | true =>
            refine iteF ?_
            obtain ⟨z, rfl, gz⟩ := tv.row.mpr rfl
            have ht1 := sqt_ex e1 ht
            walk_at "s"
            refine w_ixT ht1 a0 ?_
            walk_at "s"
            rw [decide_eq_true rfl]
            refine iteT ?_
            walk_at "s"
            refine w_ixT ht1 a2 ?_
            walk_at "s"
            refine w_setL (e1 _ _ ha) (by rw [List.length_map]; exact hi) ?_
            have em : (rows.map V.str).set i (.str z) = (rows.set i z).map V.str := List.map_set.symm
            rw [em]
            walk_at "s"
            refine w_lenL (sql upd_same) ?_
            rw [List.length_map, List.length_set]
            walk_at "s"
            refine ⟨_, _, rfl, by omega, fun m bc => ?_⟩
            exact k2 _ m H1 ⟨i, z, rfl, rfl, hi, gz, rfl, bc⟩ e1
      · walk_at "s"
        refine iteT ?_
        walk_at "s"
        exact bad fun ⟨j, e, hj⟩ => by have := V.int.inj e; omega
    · refine iteT ?_
      walk_at "s"
      refine ⟨by show 1 ≤ sizeLine; exact sz100 (by decide), fun t' ht' => ?_⟩
      exact k1 _ _ t' (.inl ⟨nn, rfl⟩) (ex_new ex_refl ht') ht' upd_same
  | add v =>
    obtain ⟨b2, tv⟩ := ok
    have a0 : atI (Dd.add v).items 0 = some (V.str "add") := rfl
    have a1 : atI (Dd.add v).items 1 = some v := rfl
    have am : atI (Dd.add v).items (-1) = some v := rfl
    walk_at "s"
    refine w_ixT ht a0 ?_
    walk_at "s"
    rw [decide_eq_false (by decide +kernel)]
    refine iteF ?_
    walk_at "s"
    refine w_ixT ht a0 ?_
    walk_at "s"
    rw [decide_eq_false (by decide +kernel)]
    refine iteT ?_
    walk_at "s"
    refine w_ixT ht am ?_
    walk_at "s"
    refine ⟨v, b2, rfl, tv, fun H1 e1 => ?_⟩
    walk_at "s"
    cases b2 with
    | false =>
      refine iteT ?_
      walk_at "s"
      refine ⟨by show 1 ≤ sizeLine; exact sz100 (by decide), fun t' ht' => ?_⟩
      exact k1 _ _ t' ⟨fun r => (by have := tv.row.mp r; cases this), rfl⟩ (ex_new e1 ht') (ex_free e1 ht') upd_same
    | true =>
      refine iteF ?_
      obtain ⟨z, rfl, gz⟩ := tv.row.mpr rfl
      have ht1 := sqt_ex e1 ht
      walk_at "s"
      refine w_ixT ht1 a0 ?_
      walk_at "s"
      rw [decide_eq_false (by decide +kernel)]
      refine iteF ?_
      walk_at "s"
      refine w_ixT ht1 a0 ?_
      walk_at "s"
      rw [decide_eq_true rfl]
      refine iteT ?_
      walk_at "s"
      refine ⟨w_tyL (sql (e1 _ _ ha)), ?_⟩
      walk_at "s"
      refine w_ixT ht1 a1 ?_
      walk_at "s"
      refine w_app (e1 _ _ ha) (by rw [List.length_map]; exact szL (by omega)) ?_
      have em : rows.map V.str ++ [.str z] = (rows ++ [z]).map V.str := by rw [List.map_append]; rfl
      rw [em]
      walk_at "s"
      refine w_lenL (sql upd_same) ?_
      rw [List.length_map]
      walk_at "s"
      refine w_lenL (sql upd_same) ?_
      rw [List.length_map]
      walk_at "s"
      have l1 : (rows ++ [z]).length = rows.length + 1 := by rw [List.length_append]; rfl
      rw [l1, show ((rows.length + 1 : Nat) : Int) - 1 = (rows.length : Nat) by omega]
      refine ⟨_, _, rfl, by omega, fun m bc => ?_⟩
      exact k2 _ m H1 ⟨z, rfl, gz, rfl, bc⟩ e1
  | cut =>
    have a0 : atI Dd.cut.items 0 = some (V.str "cut") := rfl
    walk_at "s"
    refine w_ixT ht a0 ?_
    walk_at "s"
    rw [decide_eq_false (by decide +kernel)]
    refine iteF ?_
    walk_at "s"
    refine w_ixT ht a0 ?_
    walk_at "s"
    rw [decide_eq_true rfl]
    refine iteF ?_
    walk_at "s"
    refine iteF ?_
    walk_at "s"
    refine w_ixT ht a0 ?_
    walk_at "s"
    rw [decide_eq_false (by decide +kernel)]
    refine iteF ?_
    walk_at "s"
    refine w_ixT ht a0 ?_
    walk_at "s"
    rw [decide_eq_false (by decide +kernel)]
    refine iteF ?_
    walk_at "s"
    refine ⟨Nat.zero_le _, fun p hp => ?_⟩
    have e1 := ex_new (o := .lst []) ex_refl hp
    have c1 : (upd H p (.lst [])) p = some (.lst (([] : List Str).map V.str)) := upd_same
    generalize upd H p (.lst []) = H1 at e1 c1
    refine w_eqD (d := (eList eStr).enc rows) (e := (eList eStr).enc []) (.lst (sql (e1 _ _ ha)) (dpAll_strs _)) (.lst (sql c1) (dpAll_strs _)) ((eList eStr).shaped (by decide) rows fun z hz => good_ok (gr z hz)) ((eList eStr).shaped (by decide) _ fun z hz => absurd hz List.not_mem_nil) ?_
    rw [(eList eStr).eq]
    walk_at "s"
    refine ite_d (fun h0 => ?_) fun h0 => ?_
    · walk_at "s"
      refine ⟨by show 1 ≤ sizeLine; exact sz100 (by decide), fun t' ht' => ?_⟩
      exact k1 _ _ t' ⟨h0, rfl⟩ (ex_new e1 ht') (ex_free e1 ht') upd_same
    · have hpos : 0 < rows.length := List.length_pos_iff.mpr h0
      walk_at "s"
      refine w_lenL (sql (e1 _ _ ha)) ?_
      rw [List.length_map]
      walk_at "s"
      refine w_lenL (sql (e1 _ _ ha)) ?_
      rw [List.length_map]
      walk_at "s"
      rw [show ((rows.length : Nat) : Int) - 1 = ((rows.length - 1 : Nat) : Int) by omega]
      refine ⟨_, _, rfl, by omega, fun m bc => ?_⟩
      walk_at "s"
      refine ⟨w_tyL (sql (e1 _ _ ha)), ?_⟩
      obtain ⟨y, ey, _⟩ := getLast_at (l := rows.map V.str) (fun z => h0 (List.map_eq_nil_iff.mp z))
      refine w_pop (e1 _ _ ha) ey ?_
      rw [← List.map_dropLast]
      walk_at "s"
      exact k2 _ m H1 ⟨h0, rfl, bc⟩ e1
def N_law_deed : List Str := ["_law_book", "_law_deed_here"]
def t_law_deed (K : PySem.W.Frag) (c : Cs) (E : XK) : TS := (fun D σ H => (fun (W1 : WX) => (tSeq (tIfS (tTest (tOp (rEqU K) (tOp (rIx K) (tVar 1) (tC (.int 0))) (tC (.str "put")))) (tRet (tMethS c.Book "put" (sp_Book_put K c) (WE W1) (tVar 0) (tCons (tOp (rIx K) (tVar 1) (tC (.int 1))) (tCons (tOp (rIx K) (tVar 1) (tC (.int 2))) tNil)))) tNext)
  (tSeq (tIfS (tTest (tOp (rEqU K) (tOp (rIx K) (tVar 1) (tC (.int 0))) (tC (.str "add")))) (tRet (tMethS c.Book "add" (sp_Book_add K c) (WE W1) (tVar 0) (tCons (tOp (rIx K) (tVar 1) (tC (.int 1))) tNil))) tNext)
  (tRet (tMethS c.Book "cut" (sp_Book_cut K c) (WE W1) (tVar 0) tNil))))) (wMany K (fun _ _ _ _ => False) D [(.ref c.NoPlace, fun _ _ _ => (tRet (tTup (tCons (tC (.str "NoPlace")) tNil)))), (.ref c.NoRow, fun _ _ _ => (tRet (tTup (tCons (tC (.str "NoRow")) tNil))))]) D σ H)
def sp_law_deed (K : PySem.W.Frag) (c : Cs) : Sp := fun vs H Q _ => ∃ (B t dx L ln lv : Addr) (dd : Dd), vs = [.ref B, .ref t] ∧ H B = some (.ins c.Book dx (bfl L ln lv)) ∧ SqT K H t dd.items ∧
  ∀ (E' : XK) (Q' : VK), (∀ (nm : Str) e H', ((e = c.NoPlace ∧ nm = "NoPlace") ∨ (e = c.NoRow ∧ nm = "NoRow")) → (∀ t', H' t' = none → Q (.ref t') (upd H' t' (.tup [.str nm]))) → E' (.ref e) none H') → (∀ v H', Q v H' → Q' v H') →
    match dd with
    | .put p v => sp_Book_put K c [.ref B, p, v] H Q' E'
    | .add v => sp_Book_add K c [.ref B, v] H Q' E'
    | .cut => sp_Book_cut K c [.ref B] H Q' E'
theorem len_law_deed {K c} : ∀ vs H Q E, sp_law_deed K c vs H Q E → vs.length = 2 := by rintro vs H Q E ⟨_, _, _, _, _, _, _, rfl, _⟩; rfl
theorem pure_law_deed {K : PySem.W.Frag} {c : Cs} {vs : List V} {H : Hp} {Q : VK} {E : XK} (T : TxK K c) (g : sp_law_deed K c vs H Q E) : t_law_deed K c E ⟨fun _ H' => Q .non H', Q, fun _ _ => False, fun _ _ => False⟩ (start N_law_deed vs) H := by
  obtain ⟨B, t, dx, L, ln, lv, dd, rfl, hB, ht, M⟩ := g
  show t_law_deed K c E _ [some (.ref B), some (.ref t)] H
  unfold t_law_deed
  cases dd with
  | put p v =>
    have a0 : atI (Dd.put p v).items 0 = some (V.str "put") := rfl
    have a1 : atI (Dd.put p v).items 1 = some p := rfl
    have a2 : atI (Dd.put p v).items 2 = some v := rfl
    walk_at "s"
    refine w_ixT ht a0 ?_
    walk_at "s"
    rw [decide_eq_true rfl]
    refine iteT ?_
    walk_at "s"
    refine w_methAt hB (bfl_no (by decide +kernel) (by decide +kernel) (by decide +kernel)) ?_
    walk_at "s"
    refine w_ixT ht a1 ?_
    walk_at "s"
    refine w_ixT ht a2 ?_
    walk_at "s"
    refine M _ _ (fun nm e H' h q => ?_) fun v H' q => ?_
    · rcases h with ⟨rfl, rfl⟩ | ⟨rfl, rfl⟩
      · refine ⟨true, T.m_NoPlace_NoPlace, fun _ a ha => ?_, fun e => nomatch e⟩
        walk_at "s"
        exact ⟨by show 1 ≤ sizeLine; exact sz100 (by decide), fun t' ht' => q t' ht'⟩
      · refine ⟨false, T.m_NoRow_NoPlace, fun e => (nomatch e), fun _ => ⟨true, T.m_NoRow_NoRow, fun _ a ha => ?_, fun e => nomatch e⟩⟩
        walk_at "s"
        exact ⟨by show 1 ≤ sizeLine; exact sz100 (by decide), fun t' ht' => q t' ht'⟩
    · exact q
  | add v =>
    have a0 : atI (Dd.add v).items 0 = some (V.str "add") := rfl
    have a1 : atI (Dd.add v).items 1 = some v := rfl
    walk_at "s"
    refine w_ixT ht a0 ?_
    walk_at "s"
    rw [decide_eq_false (by decide +kernel)]
    refine iteF ?_
    walk_at "s"
    refine w_ixT ht a0 ?_
    walk_at "s"
    rw [decide_eq_true rfl]
    refine iteT ?_
    walk_at "s"
    refine w_methAt hB (bfl_no (by decide +kernel) (by decide +kernel) (by decide +kernel)) ?_
    walk_at "s"
    refine w_ixT ht a1 ?_
    walk_at "s"
    refine M _ _ (fun nm e H' h q => ?_) fun v H' q => ?_
    · rcases h with ⟨rfl, rfl⟩ | ⟨rfl, rfl⟩
      · refine ⟨true, T.m_NoPlace_NoPlace, fun _ a ha => ?_, fun e => nomatch e⟩
        walk_at "s"
        exact ⟨by show 1 ≤ sizeLine; exact sz100 (by decide), fun t' ht' => q t' ht'⟩
      · refine ⟨false, T.m_NoRow_NoPlace, fun e => (nomatch e), fun _ => ⟨true, T.m_NoRow_NoRow, fun _ a ha => ?_, fun e => nomatch e⟩⟩
        walk_at "s"
        exact ⟨by show 1 ≤ sizeLine; exact sz100 (by decide), fun t' ht' => q t' ht'⟩
    · exact q
  | cut =>
    have a0 : atI Dd.cut.items 0 = some (V.str "cut") := rfl
    walk_at "s"
    refine w_ixT ht a0 ?_
    walk_at "s"
    rw [decide_eq_false (by decide +kernel)]
    refine iteF ?_
    walk_at "s"
    refine w_ixT ht a0 ?_
    walk_at "s"
    rw [decide_eq_false (by decide +kernel)]
    refine iteF ?_
    walk_at "s"
    refine w_methAt hB (bfl_no (by decide +kernel) (by decide +kernel) (by decide +kernel)) ?_
    walk_at "s"
    refine M _ _ (fun nm e H' h q => ?_) fun v H' q => ?_
    · rcases h with ⟨rfl, rfl⟩ | ⟨rfl, rfl⟩
      · refine ⟨true, T.m_NoPlace_NoPlace, fun _ a ha => ?_, fun e => nomatch e⟩
        walk_at "s"
        exact ⟨by show 1 ≤ sizeLine; exact sz100 (by decide), fun t' ht' => q t' ht'⟩
      · refine ⟨false, T.m_NoRow_NoPlace, fun e => (nomatch e), fun _ => ⟨true, T.m_NoRow_NoRow, fun _ a ha => ?_, fun e => nomatch e⟩⟩
        walk_at "s"
        exact ⟨by show 1 ≤ sizeLine; exact sz100 (by decide), fun t' ht' => q t' ht'⟩
    · exact q
end Tw

namespace Tw
open PySem L2 Ts Mix
def N_law_drawn : List Str := ["_law_rows_here", "_law_cell", "_law_text_here", "_law_kind", "_law_place"]
def t_law_drawn (K : PySem.W.Frag) (c : Cs) (E : XK) : TS := (tSeq (tAsg (tCall (sp_law_text K c) [] E0 (tCons (tOp rMod (tCall (sp_law_mix K c) [] E0 (tCons (tVar 1) (tCons (tC (.int 1)) tNil))) (tOp (rIx K) (tLst (tCons (tC (.int 9)) (tCons (tC (.int 99991)) tNil))) (tOp rMod (tVar 1) (tC (.int 2))))) tNil)) (gName 2))
  (tSeq (tAsg (tOp rMod (tOp rDiv (tVar 1) (tC (.int 2))) (tC (.int 8))) (gName 3))
  (tSeq (tIfS (tTest (tOp rLt (tVar 3) (tC (.int 4)))) (tSeq (tAsg (tOp rMod (tCall (sp_law_mix K c) [] E0 (tCons (tVar 1) (tCons (tC (.int 2)) tNil))) (tOp rAddU (tCB (rLen K) (tCons (tVar 0) tNil)) (tC (.int 1)))) (gName 4))
  (Evl.tCut (tIfS (tTest (tOp (rEqU K) (tVar 3) (tC (.int 0)))) (tAsg (tOp (rIx K) (tLst (tCons (tC (.int 0)) (tCons (tOp rSubI (tCB (rLen K) (tCons (tVar 0) tNil)) (tC (.int 1))) (tCons (tUn (rU fun i => .int (-i)) (tC (.int 1))) (tCons (tCB (rLen K) (tCons (tVar 0) tNil)) (tCons (tOp rAddU (tOp rAddU (tCB (rLen K) (tCons (tVar 0) tNil)) (tC (.int 1))) (tOp rMod (tOp rDiv (tVar 1) (tC (.int 99))) (tOp rPow (tC (.int 10)) (tC (.int 6))))) tNil)))))) (tOp rMod (tCall (sp_law_mix K c) [] E0 (tCons (tVar 1) (tCons (tC (.int 3)) tNil))) (tC (.int 5)))) (gName 4)) tNext)
  (Evl.tCut (tIfS (tAnd (tTest (tOp (rEqU K) (tVar 3) (tC (.int 1)))) (tTest (tChain rLe rLt (tC (.int 0)) (tVar 4) (tCB (rLen K) (tCons (tVar 0) tNil))))) (tAsg (tOp (rIx K) (tVar 0) (tVar 4)) (gName 2)) tNext)
  (Evl.tCut (tIfS (tTest (tOp (rEqU K) (tOp rMod (tOp rDiv (tVar 1) (tC (.int 16))) (tC (.int 9))) (tC (.int 1)))) (tAsg (tOp (rIx K) (tLst (tCons (tC (.bl true)) (tCons (tC (.str "0")) (tCons (tC .non) (tCons (tOp rSubI (tOp rSubI (tC (.int 0)) (tC (.int 1))) (tOp rMod (tOp rDiv (tVar 1) (tC (.int 144))) (tC (.int 99)))) tNil))))) (tOp rMod (tOp rDiv (tVar 1) (tC (.int 144))) (tC (.int 4)))) (gName 4)) tNext)
  (Evl.tCut (tIfS (tTest (tOp (rEqU K) (tOp rMod (tOp rDiv (tVar 1) (tC (.int 16))) (tC (.int 7))) (tC (.int 1)))) (tAsg (tOp (rIx K) (tLst (tCons (tC (.str "a\n")) (tCons (tC .non) (tCons (tC (.int 7)) (tCons (tOp rMulS (tC (.str "b")) (tC (.int 41))) tNil))))) (tOp rMod (tOp rDiv (tVar 1) (tC (.int 112))) (tC (.int 4)))) (gName 2)) tNext)
  (tRet (tTup (tCons (tC (.str "put")) (tCons (tVar 4) (tCons (tVar 2) tNil)))))))))) tNext)
  (tSeq (tIfS (tTest (tOp rLt (tVar 3) (tC (.int 6)))) (Evl.tCut (tIfS (tTest (tOp (rEqU K) (tOp rMod (tOp rDiv (tVar 1) (tC (.int 16))) (tC (.int 7))) (tC (.int 1)))) (tAsg (tOp (rIx K) (tLst (tCons (tC (.str "\tZ")) (tCons (tC .non) (tCons (tC (.int 7)) (tCons (tOp rMulS (tC (.str "b")) (tC (.int 41))) tNil))))) (tOp rMod (tOp rDiv (tVar 1) (tC (.int 112))) (tC (.int 4)))) (gName 2)) tNext)
  (tRet (tTup (tCons (tC (.str "add")) (tCons (tVar 2) tNil))))) tNext)
  (tRet (tTup (tCons (tC (.str "cut")) tNil)))))))
def sp_law_drawn (K : PySem.W.Frag) (_ : Cs) : Sp := fun vs H Q _ => ∃ (a : Addr) (rows : List Str) (n : Int), vs = [.ref a, .int n] ∧ H a = some (.lst (rows.map V.str)) ∧ (∀ z ∈ rows, Good z) ∧ ∀ H' t (dd : Dd), dd.Ok → Ex H H' → H t = none → H' t = some (.tup dd.items) → Q (.ref t) H'
theorem len_law_drawn {K c} : ∀ vs H Q E, sp_law_drawn K c vs H Q E → vs.length = 2 := by rintro vs H Q E ⟨_, _, _, rfl, _⟩; rfl
theorem flatP_int (i : Int) : FlatP (.int i) := ⟨true, fun _ _ => .inl ⟨_, rfl, rfl⟩⟩
theorem pure_law_drawn {K : PySem.W.Frag} {c : Cs} {vs : List V} {H : Hp} {Q : VK} {E : XK} (g : sp_law_drawn K c vs H Q E) : t_law_drawn K c E ⟨fun _ H' => Q .non H', Q, fun _ _ => False, fun _ _ => False⟩ (start N_law_drawn vs) H := by
  obtain ⟨a, rows, n, rfl, ha, gr, k⟩ := g
  show t_law_drawn K c E _ [some (.ref a), some (.int n), none, none, none] H
  unfold t_law_drawn
  walk_at "s"
  refine ⟨n, 1, rfl, fun r _ => ?_⟩
  walk_at "s"
  refine ⟨by show 2 ≤ sizeLine; exact sz100 (by decide), fun p hp => ?_⟩
  walk_at "s"
  refine w_ixAny (sql upd_same) (by omega) (by show _ < ((2 : Nat) : Int); omega) fun v hv => ?_
  obtain ⟨j, hj, rfl⟩ : ∃ j : Int, 0 < j ∧ v = .int j := by
    rcases List.mem_cons.mp hv with e | hv
    · exact ⟨_, by decide, e⟩
    · exact ⟨_, by decide, List.mem_singleton.mp hv⟩
  refine w_mod hj ?_
  refine ⟨_, rfl, fun z H1 gz e1 => ?_⟩
  have e1 : Ex H H1 := (ex_new ex_refl hp).trans e1
  clear hp
  walk_at "s"
  have tz : TextV (.str z) true := .inl ⟨rfl, z, rfl, gz⟩
  refine ite_d (fun h0 => ?_) fun h0 => ?_
  · walk_at "s"
    refine ⟨n, 2, rfl, fun r2 _ => ?_⟩
    walk_at "s"
    refine w_lenL (sql (e1 _ _ ha)) ?_
    rw [List.length_map]
    walk_at "s"
    try refine w_mod (by omega) ?_
    walk_at "s"
    generalize (r2 : Int) % ((rows.length : Int) + 1) = pl
    refine w_cut (Mid := fun σ' H' => ∃ i : Int, σ' = [some (.ref a), some (.int n), some (.str z), some (.int (n / 2 % 8)), some (.int i)] ∧ Ex H H') ?_ ?_
    · walk_at "s"
      refine ite_d (fun h1 => ?_) fun h1 => ?_
      · walk_at "s"
        refine w_lenL (sql (e1 _ _ ha)) ?_
        rw [List.length_map]
        walk_at "s"
        refine w_lenL (sql (e1 _ _ ha)) ?_
        rw [List.length_map]
        walk_at "s"
        refine w_lenL (sql (e1 _ _ ha)) ?_
        rw [List.length_map]
        walk_at "s"
        refine ⟨by show 5 ≤ sizeLine; exact sz100 (by decide), fun p2 hp2 => ?_⟩
        walk_at "s"
        refine ⟨n, 3, rfl, fun r3 _ => ?_⟩
        walk_at "s"
        refine w_ixAny (sql upd_same) (by omega) (by show _ < ((5 : Nat) : Int); omega) fun w hw => ?_
        obtain ⟨i, rfl⟩ : ∃ i : Int, w = .int i := by
          rcases List.mem_cons.mp hw with e | hw
          · exact ⟨_, e⟩
          rcases List.mem_cons.mp hw with e | hw
          · exact ⟨_, e⟩
          rcases List.mem_cons.mp hw with e | hw
          · exact ⟨_, e⟩
          rcases List.mem_cons.mp hw with e | hw
          · exact ⟨_, e⟩
          · exact ⟨_, List.mem_singleton.mp hw⟩
        walk_at "s"
        exact ⟨i, rfl, ex_new e1 hp2⟩
      · walk_at "s"
        exact ⟨_, rfl, e1⟩
    clear e1
    rintro σ H2 ⟨i, rfl, e2⟩
    refine w_cut (Mid := fun σ' H' => ∃ z, Good z ∧ σ' = [some (.ref a), some (.int n), some (.str z), some (.int (n / 2 % 8)), some (.int i)] ∧ Ex H H') ?_ ?_
    · walk_at "s"
      refine ite_d (fun h1 => ?_) fun h1 => ?_
      · walk_at "s"
        refine ite_d (fun h2 => ?_) fun h2 => ?_
        · walk_at "s"
          refine w_lenL (sql (e2 _ _ ha)) ?_
          rw [List.length_map]
          walk_at "s"
          refine ite_d (fun h3 => ?_) fun h3 => ?_
          · obtain ⟨i, rfl⟩ : ∃ j : Nat, i = (j : Int) := ⟨i.toNat, by omega⟩
            have hi : i < rows.length := by omega
            walk_at "s"
            refine w_ixL (sql (e2 _ _ ha)) (atI_nat (v := .str rows[i]) (by rw [List.getElem?_map, List.getElem?_eq_getElem hi]; rfl)) ?_
            walk_at "s"
            exact ⟨_, gr _ (List.getElem_mem hi), rfl, e2⟩
          · walk_at "s"
            exact ⟨z, gz, rfl, e2⟩
        · walk_at "s"
          exact ⟨z, gz, rfl, e2⟩
      · walk_at "s"
        exact ⟨z, gz, rfl, e2⟩
    clear e2
    rintro σ H3 ⟨z3, gz3, rfl, e3⟩
    refine w_cut (Mid := fun σ' H' => ∃ p, FlatP p ∧ σ' = [some (.ref a), some (.int n), some (.str z3), some (.int (n / 2 % 8)), some p] ∧ Ex H H') ?_ ?_
    · walk_at "s"
      refine ite_d (fun h1 => ?_) fun h1 => ?_
      · walk_at "s"
        refine ⟨by show 4 ≤ sizeLine; exact sz100 (by decide), fun p2 hp2 => ?_⟩
        walk_at "s"
        refine w_ixAny (sql upd_same) (by omega) (by show _ < ((4 : Nat) : Int); omega) fun w hw => ?_
        walk_at "s"
        refine ⟨w, ?_, rfl, ex_new e3 hp2⟩
        rcases List.mem_cons.mp hw with e | hw
        · rw [e]; exact ⟨false, fun _ _ => .inr (.inl ⟨_, rfl, rfl⟩)⟩
        rcases List.mem_cons.mp hw with e | hw
        · rw [e]; exact ⟨false, fun _ _ => .inr (.inr (.inl ⟨_, rfl, rfl⟩))⟩
        rcases List.mem_cons.mp hw with e | hw
        · rw [e]; exact ⟨false, fun _ _ => .inr (.inr (.inr (.inl ⟨rfl, rfl⟩)))⟩
        · rw [List.mem_singleton.mp hw]; exact flatP_int _
      · walk_at "s"
        exact ⟨_, flatP_int _, rfl, e3⟩
    clear e3
    rintro σ H4 ⟨p4, fp4, rfl, e4⟩
    refine w_cut (Mid := fun σ' H' => ∃ v b, TextV v b ∧ σ' = [some (.ref a), some (.int n), some v, some (.int (n / 2 % 8)), some p4] ∧ Ex H H') ?_ ?_
    · walk_at "s"
      refine ite_d (fun h1 => ?_) fun h1 => ?_
      · walk_at "s"
        refine w_mulS (by decide) (by decide) (by decide +kernel) (by decide +kernel) ?_
        walk_at "s"
        refine ⟨by show 4 ≤ sizeLine; exact sz100 (by decide), fun p2 hp2 => ?_⟩
        walk_at "s"
        refine w_ixAny (sql upd_same) (by omega) (by show _ < ((4 : Nat) : Int); omega) fun w hw => ?_
        walk_at "s"
        refine ⟨w, false, .inr ⟨rfl, ?_⟩, rfl, ex_new e4 hp2⟩
        rcases List.mem_cons.mp hw with e | hw
        · exact .inl e
        rcases List.mem_cons.mp hw with e | hw
        · exact .inr (.inr (.inl e))
        rcases List.mem_cons.mp hw with e | hw
        · exact .inr (.inr (.inr (.inl e)))
        · exact .inr (.inr (.inr (.inr (List.mem_singleton.mp hw))))
      · walk_at "s"
        exact ⟨_, true, .inl ⟨rfl, z3, rfl, gz3⟩, rfl, e4⟩
    clear e4
    rintro σ H5 ⟨v5, b5, tv5, rfl, e5⟩
    walk_at "s"
    refine ⟨by show 3 ≤ sizeLine; exact sz100 (by decide), fun t ht => ?_⟩
    exact k _ t (.put p4 v5) ⟨fp4, b5, tv5⟩ (ex_new e5 ht) (ex_free e5 ht) upd_same
  · walk_at "s"
    refine ite_d (fun h1 => ?_) fun h1 => ?_
    · walk_at "s"
      refine w_cut (Mid := fun σ' H' => ∃ v b, TextV v b ∧ σ' = [some (.ref a), some (.int n), some v, some (.int (n / 2 % 8)), none] ∧ Ex H H') ?_ ?_
      · walk_at "s"
        refine ite_d (fun h1 => ?_) fun h1 => ?_
        · walk_at "s"
          refine w_mulS (by decide) (by decide) (by decide +kernel) (by decide +kernel) ?_
          walk_at "s"
          refine ⟨by show 4 ≤ sizeLine; exact sz100 (by decide), fun p2 hp2 => ?_⟩
          walk_at "s"
          refine w_ixAny (sql upd_same) (by omega) (by show _ < ((4 : Nat) : Int); omega) fun w hw => ?_
          walk_at "s"
          refine ⟨w, false, .inr ⟨rfl, ?_⟩, rfl, ex_new e1 hp2⟩
          rcases List.mem_cons.mp hw with e | hw
          · exact .inr (.inl e)
          rcases List.mem_cons.mp hw with e | hw
          · exact .inr (.inr (.inl e))
          rcases List.mem_cons.mp hw with e | hw
          · exact .inr (.inr (.inr (.inl e)))
          · exact .inr (.inr (.inr (.inr (List.mem_singleton.mp hw))))
        · walk_at "s"
          exact ⟨_, true, tz, rfl, e1⟩
      clear e1
      rintro σ H5 ⟨v5, b5, tv5, rfl, e5⟩
      walk_at "s"
      refine ⟨by show 2 ≤ sizeLine; exact sz100 (by decide), fun t ht => ?_⟩
      exact k _ t (.add v5) ⟨b5, tv5⟩ (ex_new e5 ht) (ex_free e5 ht) upd_same
    · walk_at "s"
      refine ⟨by show 1 ≤ sizeLine; exact sz100 (by decide), fun t ht => ?_⟩
      exact k _ t .cut trivial (ex_new e1 ht) (ex_free e1 ht) upd_same
def N_law_no_row : List Str := ["_law_book", "_law_rows_here", "_law_cell", "_law_place"]
def t_law_no_row (K : PySem.W.Frag) (c : Cs) (E : XK) : TS := (tSeq (tAsg (tOp (rIx K) (tLst (tCons (tUn (rU fun i => .int (-i)) (tC (.int 1))) (tCons (tCB (rLen K) (tCons (tVar 1) tNil)) (tCons (tC (.bl true)) (tCons (tC (.str "0")) (tCons (tC .non) (tCons (tOp rAddU (tCB (rLen K) (tCons (tVar 1) tNil)) (tOp rMod (tOp rDiv (tVar 2) (tC (.int 9))) (tOp rPow (tC (.int 10)) (tC (.int 6))))) (tCons (tOp rSubI (tOp rSubI (tC (.int 0)) (tC (.int 1))) (tOp rMod (tOp rDiv (tVar 2) (tC (.int 9))) (tC (.int 99)))) tNil)))))))) (tOp rMod (tVar 2) (tC (.int 7)))) (gName 3))
  (tSeq (fun D σ H => (fun (W1 : WX) => (tDrop (tMethS c.Book "row" (sp_Book_row K c) (WE W1) (tVar 0) (tCons (tVar 3) tNil)))) (wMany K (fun _ _ _ _ => False) D [(.ref c.NoPlace, fun _ _ _ => (tRet (tC (.bl true))))]) D σ H)
  (tRet (tC (.bl false)))))
def sp_law_no_row (K : PySem.W.Frag) (c : Cs) : Sp := fun vs H Q _ => ∃ (B L ln lv a : Addr) (lvs : List Addr) (rows : List Str) (levels : List (List Nat)) (n : Int), vs = [.ref B, .ref a, .int n] ∧ BookAt c H B L ln lv lvs rows levels ∧ H a = some (.lst (rows.map V.str)) ∧ rows.length ≤ 100000 ∧ ∀ H', Ex H H' → Q (.bl true) H'
theorem len_law_no_row {K c} : ∀ vs H Q E, sp_law_no_row K c vs H Q E → vs.length = 3 := by rintro vs H Q E ⟨_, _, _, _, _, _, _, _, _, rfl, _⟩; rfl
theorem pure_law_no_row {K : PySem.W.Frag} {c : Cs} {vs : List V} {H : Hp} {Q : VK} {E : XK} (T : TxK K c) (g : sp_law_no_row K c vs H Q E) : t_law_no_row K c E ⟨fun _ H' => Q .non H', Q, fun _ _ => False, fun _ _ => False⟩ (start N_law_no_row vs) H := by
  obtain ⟨B, L, ln, lv, a, lvs, rows, levels, n, rfl, S, ha, hr, k⟩ := g
  show t_law_no_row K c E _ [some (.ref B), some (.ref a), some (.int n), none] H
  unfold t_law_no_row
  walk_at "s"
  refine w_lenL (sql ha) ?_
  rw [List.length_map]
  walk_at "s"
  refine w_lenL (sql ha) ?_
  rw [List.length_map]
  walk_at "s"
  have hm0 := Int.emod_nonneg (n / 9) (show (10 : Int) ^ Int.toNat 6 ≠ 0 by decide)
  have hm1 := Int.emod_nonneg (n / 9) (show (99 : Int) ≠ 0 by decide)
  generalize n / 9 % 10 ^ Int.toNat 6 = far at hm0
  generalize n / 9 % 99 = low at hm1
  refine ⟨by show 7 ≤ sizeLine; exact sz100 (by decide), fun p7 hp7 => ?_⟩
  walk_at "s"
  refine w_ixAny (sql upd_same) (by omega) (by show _ < ((7 : Nat) : Int); omega) fun w hw => ?_
  obtain ⟨⟨b, hb⟩, nw⟩ : FlatP w ∧ ¬ NumV rows.length w := by
    have num : ∀ i : Int, (i < 0 ∨ (rows.length : Int) ≤ i) → FlatP (.int i) ∧ ¬ NumV rows.length (.int i) := fun i h => ⟨flatP_int _, fun ⟨j, e, hj⟩ => by
      have := V.int.inj e
      omega⟩
    rcases List.mem_cons.mp hw with e | hw
    · rw [e]; exact num _ (by omega)
    rcases List.mem_cons.mp hw with e | hw
    · rw [e]; exact num _ (by omega)
    rcases List.mem_cons.mp hw with e | hw
    · rw [e]; exact ⟨⟨false, fun _ _ => .inr (.inl ⟨_, rfl, rfl⟩)⟩, fun ⟨j, e, _⟩ => by cases e⟩
    rcases List.mem_cons.mp hw with e | hw
    · rw [e]; exact ⟨⟨false, fun _ _ => .inr (.inr (.inl ⟨_, rfl, rfl⟩))⟩, fun ⟨j, e, _⟩ => by cases e⟩
    rcases List.mem_cons.mp hw with e | hw
    · rw [e]; exact ⟨⟨false, fun _ _ => .inr (.inr (.inr (.inl ⟨rfl, rfl⟩)))⟩, fun ⟨j, e, _⟩ => by cases e⟩
    rcases List.mem_cons.mp hw with e | hw
    · rw [e]; exact num _ (by omega)
    · rw [List.mem_singleton.mp hw]; exact num _ (by omega)
  have e7 := ex_new (o := .lst [.int (-1), .int (rows.length : Nat), .bl true, .str "0", .non, .int ((rows.length : Nat) + far), .int (0 - 1 - low)]) ex_refl hp7
  generalize upd H p7 (.lst [.int (-1), .int (rows.length : Nat), .bl true, .str "0", .non, .int ((rows.length : Nat) + far), .int (0 - 1 - low)]) = H7 at e7
  have S7 := S.ex e7
  obtain ⟨dx, hB⟩ := S7.ob
  walk_at "s"
  refine w_methAt hB (bfl_no (by decide +kernel) (by decide +kernel) (by decide +kernel)) ?_
  walk_at "s"
  refine ⟨B, L, ln, lv, lvs, rows, levels, w, b, rfl, S7, hb _ _, hr, fun i z ei ez => absurd ⟨i, ei, get_lt ez⟩ nw, fun _ => ?_⟩
  refine ⟨true, T.m_NoPlace_NoPlace, fun _ a ha => ?_, fun e => nomatch e⟩
  exact k _ e7
theorem rows_ne {K : PySem.W.Frag} {H : Hp} {p a : Addr} {r : List Str} {Q : VK} (g : ∀ z ∈ r, Good z) (h1 : H p = some (.lst (r.map V.str))) (h2 : H a = some (.lst (r.map V.str))) (q : Q (.bl false) H) : rNeU K (.ref p) (.ref a) H Q := by
  have sh := (eList eStr).shaped (by decide) r fun z hz => good_ok (g z hz)
  refine w_neD (d := (eList eStr).enc r) (e := (eList eStr).enc r) (.lst (sql h1) (dpAll_strs _)) (.lst (sql h2) (dpAll_strs _)) sh sh ?_
  rw [(eList eStr).eq, decide_eq_true rfl]
  exact q
theorem rows_eq {K : PySem.W.Frag} {H : Hp} {p a : Addr} {r : List Str} {Q : VK} (g : ∀ z ∈ r, Good z) (h1 : H p = some (.lst (r.map V.str))) (h2 : H a = some (.lst (r.map V.str))) (q : Q (.bl true) H) : rEqU K (.ref p) (.ref a) H Q := by
  have sh := (eList eStr).shaped (by decide) r fun z hz => good_ok (g z hz)
  refine w_eqD (d := (eList eStr).enc r) (e := (eList eStr).enc r) (.lst (sql h1) (dpAll_strs _)) (.lst (sql h2) (dpAll_strs _)) sh sh ?_
  rw [(eList eStr).eq, decide_eq_true rfl]
  exact q
def N_law_same : List Str := ["_law_book", "_law_rows_here", "_law_cell", "_law_k", "_law_place"]
def t_law_same (K : PySem.W.Frag) (c : Cs) (E : XK) : TS := (tSeq (tIfS (tNot (tB (tCall (sp_law_no_row K c) [] E0 (tCons (tVar 0) (tCons (tVar 1) (tCons (tCall (sp_law_mix K c) [] E0 (tCons (tVar 2) (tCons (tC (.int 29)) tNil))) tNil)))))) (tRet (tC (.bl false))) tNext)
  (Evl.tCut (tIfS (tAnd (tTest (tOp (rEqU K) (tOp rMod (tVar 2) (tC (.int 3))) (tC (.int 1)))) (tTest (tOp (rNeU K) (tMeth c.Book "rows" (sp_Book_rows K c) [] E0 (tVar 0) tNil) (tVar 1)))) (tRet (tC (.bl false))) tNext)
  (tSeq (tFor (iRng1 (tCons (tCB rMin (tCons (tC (.int 3)) (tCons (tCB (rLen K) (tCons (tVar 1) tNil)) tNil))) tNil)) (gName 3) (tSeq (tAsg (tOp rMod (tCall (sp_law_mix K c) [] E0 (tCons (tVar 2) (tCons (tOp rAddU (tC (.int 30)) (tVar 3)) tNil))) (tCB (rLen K) (tCons (tVar 1) tNil))) (gName 4))
  (tIfS (tTest (tOp (rNeU K) (tMeth c.Book "row" (sp_Book_row K c) [] E0 (tVar 0) (tCons (tVar 4) tNil)) (tOp (rIx K) (tVar 1) (tVar 4)))) (tRet (tC (.bl false))) tNext)))
  (tRet (tAndV (tCall (sp_law_whole K c) [] E0 (tCons (tMeth c.Book "count" (sp_Book_count K c) [] E0 (tVar 0) tNil) tNil)) (tAndV (tOp (rEqU K) (tMeth c.Book "count" (sp_Book_count K c) [] E0 (tVar 0) tNil) (tCB (rLen K) (tCons (tVar 1) tNil))) (tOp (rEqU K) (tMeth c.Book "rows" (sp_Book_rows K c) [] E0 (tVar 0) tNil) (tVar 1))))))))
def sp_law_same (K : PySem.W.Frag) (c : Cs) : Sp := fun vs H Q _ => ∃ (B L ln lv a : Addr) (lvs : List Addr) (rows : List Str) (levels : List (List Nat)) (n : Int), vs = [.ref B, .ref a, .int n] ∧ BookAt c H B L ln lv lvs rows levels ∧ H a = some (.lst (rows.map V.str)) ∧ (∀ z ∈ rows, Good z) ∧ rows.length ≤ 100000 ∧ ∀ H', Ex H H' → Q (.bl true) H'
theorem len_law_same {K c} : ∀ vs H Q E, sp_law_same K c vs H Q E → vs.length = 3 := by rintro vs H Q E ⟨_, _, _, _, _, _, _, _, _, rfl, _⟩; rfl
theorem pure_law_same {K : PySem.W.Frag} {c : Cs} {vs : List V} {H : Hp} {Q : VK} {E : XK} (g : sp_law_same K c vs H Q E) : t_law_same K c E ⟨fun _ H' => Q .non H', Q, fun _ _ => False, fun _ _ => False⟩ (start N_law_same vs) H := by
  obtain ⟨B, L, ln, lv, a, lvs, rows, levels, n, rfl, S, ha, gr, hr, k⟩ := g
  show t_law_same K c E _ [some (.ref B), some (.ref a), some (.int n), none, none] H
  unfold t_law_same
  walk_at "s"
  refine ⟨n, 29, rfl, fun r _ => ?_⟩
  walk_at "s"
  refine ⟨B, L, ln, lv, a, lvs, rows, levels, _, rfl, S, ha, hr, fun H1 e1 => ?_⟩
  walk_at "s"
  refine iteF ?_
  walk_at "s"
  refine w_cut (Mid := fun σ' H' => σ' = [some (.ref B), some (.ref a), some (.int n), none, none] ∧ Ex H H') ?_ ?_
  · walk_at "s"
    refine ite_d (fun h0 => ?_) fun h0 => ?_
    · obtain ⟨dx, hB⟩ := (S.ex e1).ob
      walk_at "s"
      refine w_methAt hB (bfl_no (by decide +kernel) (by decide +kernel) (by decide +kernel)) ?_
      walk_at "s"
      refine ⟨B, L, ln, lv, lvs, rows, levels, rfl, S.ex e1, fun p hp => ?_⟩
      have e2 := ex_new (o := .lst (rows.map V.str)) e1 hp
      walk_at "s"
      refine rows_ne gr upd_same (e2 _ _ ha) ?_
      walk_at "s"
      refine iteF ?_
      walk_at "s"
      exact ⟨rfl, e2⟩
    · walk_at "s"
      exact ⟨rfl, e1⟩
  clear e1
  rintro σ H2 ⟨rfl, e2⟩
  walk_at "s"
  refine w_lenL (sql (e2 _ _ ha)) ?_
  rw [List.length_map]
  walk_at "s"
  have e3 : (if ((rows.length : Nat) : Int) < 3 then ((rows.length : Nat) : Int) else 3) = ((min 3 rows.length : Nat) : Int) := by split <;> omega
  rw [e3]
  refine w_iR1v (by omega) (by omega) ?_
  refine lb_range0 (n := ((min 3 rows.length : Nat) : Int).toNat) (fun i σ H' => (∃ v3 v4, σ = [some (.ref B), some (.ref a), some (.int n), v3, v4]) ∧ Ex H H') ⟨⟨_, _, rfl⟩, e2⟩ ?_ ?_
  · rintro i σ H3 hi ⟨⟨v3, v4, rfl⟩, e3⟩
    have hpos : 0 < rows.length := by omega
    walk_at "s"
    refine ⟨n, _, rfl, fun r _ => ?_⟩
    walk_at "s"
    refine w_lenL (sql (e3 _ _ ha)) ?_
    rw [List.length_map]
    try refine w_mod (by omega) ?_
    rw [cast_mod]
    have hp := Nat.mod_lt r hpos
    generalize r % rows.length = place at hp
    have gp := List.getElem?_eq_getElem hp
    obtain ⟨dx, hB⟩ := (S.ex e3).ob
    walk_at "s"
    refine w_methAt hB (bfl_no (by decide +kernel) (by decide +kernel) (by decide +kernel)) ?_
    walk_at "s"
    refine ⟨B, L, ln, lv, lvs, rows, levels, .int (place : Nat), true, rfl, S.ex e3, .inl ⟨_, rfl, rfl⟩, hr, fun i z ei ez => ?_, fun nn => absurd ⟨place, rfl, hp⟩ nn⟩
    have ei : i = place := by have := V.int.inj ei; omega
    rw [ei, gp] at ez
    cases ez
    walk_at "s"
    refine w_ixL (sql (e3 _ _ ha)) (atI_nat (v := .str rows[place]) (by rw [List.getElem?_map, gp]; rfl)) ?_
    walk_at "s"
    rw [decide_eq_true rfl]
    refine iteF ?_
    walk_at "s"
    exact ⟨⟨_, _, rfl⟩, e3⟩
  · rintro σ H3 ⟨⟨v3, v4, rfl⟩, e3⟩
    obtain ⟨dx, hB⟩ := (S.ex e3).ob
    walk_at "s"
    refine w_methAt hB (bfl_no (by decide +kernel) (by decide +kernel) (by decide +kernel)) ?_
    walk_at "s"
    refine ⟨B, L, ln, lv, lvs, rows, levels, rfl, S.ex e3, ?_⟩
    walk_at "s"
    refine whole_int ?_
    walk_at "s"
    refine iteT ?_
    walk_at "s"
    refine w_methAt hB (bfl_no (by decide +kernel) (by decide +kernel) (by decide +kernel)) ?_
    walk_at "s"
    refine ⟨B, L, ln, lv, lvs, rows, levels, rfl, S.ex e3, ?_⟩
    walk_at "s"
    refine w_lenL (sql (e3 _ _ ha)) ?_
    rw [List.length_map]
    walk_at "s"
    rw [decide_eq_true rfl]
    refine iteT ?_
    walk_at "s"
    refine w_methAt hB (bfl_no (by decide +kernel) (by decide +kernel) (by decide +kernel)) ?_
    walk_at "s"
    refine ⟨B, L, ln, lv, lvs, rows, levels, rfl, S.ex e3, fun p hp => ?_⟩
    have e4 := ex_new (o := .lst (rows.map V.str)) e3 hp
    walk_at "s"
    refine rows_eq gr upd_same (e4 _ _ ha) ?_
    exact k _ e4
end Tw

namespace Tw
open PySem L2 Ts Mix
/-- a book's places, and what it holds -/
structure BR where
  B : Addr
  ln : Addr
  lv : Addr
  a : Addr
  lvs : List Addr
  rows : List Str
  levels : List (List Nat)
def BR.fp (b : BR) : List Addr := b.a :: b.ln :: b.lv :: b.lvs
def BR.At (b : BR) (c : Cs) (H : Hp) (L d l : Addr) (ths : List MK) : Prop := Bk c H L d l ths b.B b.ln b.lv b.lvs b.a b.rows b.levels
/-- two books of a ledger, their rows beside; all of it made behind H0; the objects of keep are none of it -/
structure Two (c : Cs) (H0 H : Hp) (L d l : Addr) (keep : List Addr) (b1 b2 : BR) (ths : List MK) (xs : List V) (n t : Nat) : Prop where
  la : LedgerAt c H L d l ths xs
  k1 : b1.At c H L d l ths
  k2 : b2.At c H L d l ths
  dis : ∀ x ∈ b1.fp, x ∉ b2.fp
  ex : Ex H0 H
  fr : ∀ x, x = d ∨ x = l ∨ x ∈ b1.fp ∨ x ∈ b2.fp → H0 x = none
  kp : ∀ x ∈ keep, (∃ o, H x = some o) ∧ ¬ (x = d ∨ x = l ∨ x ∈ b1.fp ∨ x ∈ b2.fp)
  n1 : b1.rows.length ≤ n
  n2 : b2.rows.length ≤ n
  ht : ths.length ≤ t
section
variable {K : PySem.W.Frag} {c : Cs} {H0 H H' : Hp} {L d l : Addr} {keep : List Addr} {b1 b2 : BR} {ths ths' : List MK} {xs xs' : List V} {n t : Nat}
theorem Two.swap (S : Two c H0 H L d l keep b1 b2 ths xs n t) : Two c H0 H L d l keep b2 b1 ths xs n t :=
  ⟨S.la, S.k2, S.k1, fun x h z => S.dis x z h, S.ex, fun x h => S.fr x (by rcases h with h | h | h | h <;> simp [h]), fun x hx => ⟨(S.kp x hx).1, fun h => (S.kp x hx).2 (by rcases h with h | h | h | h <;> simp [h])⟩, S.n2, S.n1, S.ht⟩
theorem Two.mono (S : Two c H0 H L d l keep b1 b2 ths xs n t) (e : Ex H H') : Two c H0 H' L d l keep b1 b2 ths xs n t :=
  ⟨S.la.ex e, Bk.ex S.k1 e, Bk.ex S.k2 e, S.dis, S.ex.trans e, S.fr, fun x hx => ⟨let ⟨o, h⟩ := (S.kp x hx).1; ⟨o, e _ _ h⟩, (S.kp x hx).2⟩, S.n1, S.n2, S.ht⟩
/-- what the two are made of is there -/
theorem Two.there (S : Two c H0 H L d l keep b1 b2 ths xs n t) {x : Addr} (h : x = d ∨ x = l ∨ x ∈ b1.fp ∨ x ∈ b2.fp) : ∃ o, H x = some o := by
  rcases h with h | h | h | h
  · rw [h]; exact ⟨_, S.la.dc⟩
  · rw [h]; exact ⟨_, S.la.ls⟩
  · obtain ⟨ys, h⟩ := Bk.lists S.k1 x h; exact ⟨_, h⟩
  · obtain ⟨ys, h⟩ := Bk.lists S.k2 x h; exact ⟨_, h⟩
theorem Two.more {p : Addr} (S : Two c H0 H L d l keep b1 b2 ths xs n t) (hp : H p = none) (e : Ex H H') (hp' : ∃ o, H' p = some o) : Two c H0 H' L d l (p :: keep) b1 b2 ths xs n t := by
  have S' := S.mono e
  refine ⟨S'.la, S'.k1, S'.k2, S'.dis, S'.ex, S'.fr, fun x hx => ?_, S'.n1, S'.n2, S'.ht⟩
  rcases List.mem_cons.mp hx with r | r
  · rw [r]
    refine ⟨hp', fun z => ?_⟩
    obtain ⟨o, h⟩ := S.there z
    rw [hp] at h
    cases h
  · exact S'.kp x r
theorem Two.less {keep' : List Addr} (S : Two c H0 H L d l keep b1 b2 ths xs n t) (h : ∀ x ∈ keep', x ∈ keep) : Two c H0 H L d l keep' b1 b2 ths xs n t :=
  ⟨S.la, S.k1, S.k2, S.dis, S.ex, S.fr, fun x hx => S.kp x (h x hx), S.n1, S.n2, S.ht⟩
theorem Two.wide {n' t' : Nat} (S : Two c H0 H L d l keep b1 b2 ths xs n t) (hn : n ≤ n') (ht : t ≤ t') : Two c H0 H L d l keep b1 b2 ths xs n' t' :=
  ⟨S.la, S.k1, S.k2, S.dis, S.ex, S.fr, S.kp, Nat.le_trans S.n1 hn, Nat.le_trans S.n2 hn, Nat.le_trans S.ht ht⟩
/-- a deed changes nothing that is kept -/
theorem Two.keeps {x : Addr} {o : HO} (S : Two c H0 H L d l keep b1 b2 ths xs n t) (k : Kp (b1.a :: fpS d l b1.ln b1.lv b1.lvs) H H') (hx : x ∈ keep) (h : H x = some o) : H' x = some o := k _ _ h fun z => (S.kp x hx).2 (by
  rcases List.mem_cons.mp z with e | z
  · exact .inr (.inr (.inl (by rw [e]; exact List.mem_cons_self)))
  rcases List.mem_cons.mp z with e | z
  · exact .inl e
  rcases List.mem_cons.mp z with e | z
  · exact .inr (.inl e)
  · exact .inr (.inr (.inl (List.mem_cons_of_mem _ z))))
/-- the first book behind a deed of it -/
theorem Two.deed1 (T : TxK K c) {m : Nat} (S : Two c H0 H L d l keep b1 b2 ths xs n t) (D : Deed c H H' L d l ths b1.B b1.ln b1.lv b1.lvs b1.a m) (hm : m ≤ n) :
    Kp (b1.a :: fpS d l b1.ln b1.lv b1.lvs) H H' ∧ ∃ (b : BR) (ths' : List MK) (xs' : List V), b.B = b1.B ∧ b.a = b1.a ∧ Two c H0 H' L d l keep b b2 ths' xs' (n + 1) (t + 18) := by
  obtain ⟨lvs', ths', xs', rows', levels', h1, h2, h3, h4, h5, h6, h7⟩ := D
  refine ⟨h3, ⟨b1.B, b1.ln, b1.lv, b1.a, lvs', rows', levels'⟩, ths', xs', rfl, rfl, ?_⟩
  have key : ∀ x ∈ (⟨b1.B, b1.ln, b1.lv, b1.a, lvs', rows', levels'⟩ : BR).fp, x ∈ b1.fp ∨ H x = none := fun x hx => by
    rcases List.mem_cons.mp hx with e | hx
    · exact .inl (by rw [e]; exact List.mem_cons_self)
    rcases List.mem_cons.mp hx with e | hx
    · exact .inl (by rw [e]; exact List.mem_cons_of_mem _ List.mem_cons_self)
    rcases List.mem_cons.mp hx with e | hx
    · exact .inl (by rw [e]; exact List.mem_cons_of_mem _ (List.mem_cons_of_mem _ List.mem_cons_self))
    rcases h4.2 x hx with r | r
    · exact .inl (List.mem_cons_of_mem _ (List.mem_cons_of_mem _ (List.mem_cons_of_mem _ r)))
    · exact .inr r
  have mem1 : ∀ x ∈ b1.a :: fpS d l b1.ln b1.lv b1.lvs, x = d ∨ x = l ∨ x ∈ b1.fp := fun x z => by
    rcases List.mem_cons.mp z with e | z
    · exact .inr (.inr (by rw [e]; exact List.mem_cons_self))
    rcases List.mem_cons.mp z with e | z
    · exact .inl e
    rcases List.mem_cons.mp z with e | z
    · exact .inr (.inl e)
    · exact .inr (.inr (List.mem_cons_of_mem _ z))
  have nd2 := S.k2.nd
  rw [List.nodup_cons, List.nodup_cons, List.nodup_cons] at nd2
  have o2 : b2.At c H' L d l ths' := Bk.kp S.k2 h3 h5 (fun x hx z => by
    rcases mem1 x hx with e | e | e
    · rcases List.mem_cons.mp z with r | r
      · exact nd2.1 (by rw [← r, e]; simp)
      · exact nd2.2.1 (by rw [← e]; exact List.mem_cons_of_mem _ r)
    · rcases List.mem_cons.mp z with r | r
      · exact nd2.1 (by rw [← r, e]; simp)
      · exact nd2.2.2.1 (by rw [← e]; exact r)
    · exact S.dis x e z) (Bk.notB T S.k2 S.la fun x hx => by
    rcases mem1 x hx with e | e | e
    · exact .inr e
    · rw [e]; exact .inl ⟨_, S.la.ls⟩
    · exact .inl (Bk.lists S.k1 x e))
  have hn1 := S.n1
  have hn2 := S.n2
  have ht := S.ht
  refine ⟨h1, h2, o2, fun x hx z => ?_, ex_of_kp S.ex (fun x hx => ?_) h3, fun x hx => ?_, fun x hx => ⟨let ⟨_, h⟩ := (S.kp x hx).1; ⟨_, S.keeps h3 hx h⟩, fun z => ?_⟩, by show rows'.length ≤ n + 1; omega, by omega, by omega⟩
  · rcases key x hx with r | r
    · exact S.dis x r z
    · obtain ⟨ys, h⟩ := Bk.lists S.k2 x z
      rw [r] at h; cases h
  · rcases mem1 x hx with e | e | e
    · exact S.fr x (.inl e)
    · exact S.fr x (.inr (.inl e))
    · exact S.fr x (.inr (.inr (.inl e)))
  · rcases hx with e | e | e | e
    · exact S.fr x (.inl e)
    · exact S.fr x (.inr (.inl e))
    · rcases key x e with r | r
      · exact S.fr x (.inr (.inr (.inl r)))
      · exact ex_free S.ex r
    · exact S.fr x (.inr (.inr (.inr e)))
  · obtain ⟨o, h⟩ := (S.kp x hx).1
    rcases z with e | e | e | e
    · exact (S.kp x hx).2 (.inl e)
    · exact (S.kp x hx).2 (.inr (.inl e))
    · rcases key x e with r | r
      · exact (S.kp x hx).2 (.inr (.inr (.inl r)))
      · rw [h] at r; cases r
    · exact (S.kp x hx).2 (.inr (.inr (.inr e)))
end
section
variable {K : PySem.W.Frag} {c : Cs} {H0 H H' : Hp} {L d l : Addr} {keep : List Addr} {ths : List MK} {xs : List V} {n t : Nat}
/-- a first book -/
theorem make_one {zs : List Str} {a p : Addr} (L1 : LedgerAt c H L d l ths xs) (T : TxK K c) (e0 : Ex H0 H) (f1 : H0 d = none ∧ H0 l = none ∧ H0 a = none) (ha : H a = some (.lst (zs.map V.str))) (na : a ≠ d ∧ a ≠ l) (hg : ∀ z ∈ zs, Good z) (hl : zs.length ≤ 1000) (hz : ths.length < 400000) (hp : H p = none)
    (hk : ∀ x ∈ keep, (∃ o, H x = some o) ∧ x ≠ d ∧ x ≠ l ∧ x ≠ a) {Q : Addr → Hp → Prop} {E : XK}
    (q : ∀ H' B ln lv lvs ths' xs' levels, One c H0 H' L d l B ln lv a keep lvs ths' xs' zs levels zs.length (ths.length + 17 * zs.length) → Kp [d, l] H H' → (∀ x ∈ ln :: lv :: lvs, H x = none) → ths <+: ths' → Q B H') :
    ∀ x dx, (upd H p (.lst (zs.map V.str))) x = none → (upd H p (.lst (zs.map V.str))) dx = none → dx ≠ x → sp_Book_init K c [.ref x, .ref L, .ref p] (upd (upd (upd H p (.lst (zs.map V.str))) dx (.own x)) x (.ins c.Book dx [])) (fun v H2 => v = .non ∧ Q x H2) E := by
  have e3 : Ex H (upd H p (.lst (zs.map V.str))) := ex_new ex_refl hp
  have e00 := e0.trans e3
  refine new_book (L1.ex e3) upd_same T ⟨fun z => ?_, fun z => ?_⟩ hg (by omega) (by omega) fun B ln lv lvs xs' H' hB hf S I k hb => q H' B ln lv lvs (growsM ths [] [] zs).1 xs' (growsM ths [] [] zs).2 ?_ ((Kp.of_ex e3).trans k) (fun x hx => ex_free e3 (hf x hx)) (growsM_pre _ _ _ _)
  · have := L1.dc
    rw [← z, hp] at this; cases this
  · have := L1.ls
    rw [← z, hp] at this; cases this
  have ha := e3 _ _ ha
  have nf : ∀ x o, (upd H p (.lst (zs.map V.str))) x = some o → x ∉ ln :: lv :: lvs := fun x o h z => by rw [hf x z] at h; cases h
  have na2 : a ∉ fpS d l ln lv lvs := fun z => by
    rcases List.mem_cons.mp z with e | z
    · exact na.1 e
    rcases List.mem_cons.mp z with e | z
    · exact na.2 e
    · exact nf _ _ ha z
  have fr : ∀ x ∈ a :: fpS d l ln lv lvs, H0 x = none := fun x hx => by
    rcases List.mem_cons.mp hx with e | hx
    · rw [e]; exact f1.2.2
    rcases List.mem_cons.mp hx with e | hx
    · rw [e]; exact f1.1
    rcases List.mem_cons.mp hx with e | hx
    · rw [e]; exact f1.2.1
    · exact ex_free e00 (hf x hx)
  have nd2 : a ∉ [d, l] := fun z => na2 (by
    rcases List.mem_cons.mp z with e | z
    · rw [e]; simp
    · rw [List.mem_singleton.mp z]; simp)
  have b : Bk c H' L d l (growsM ths [] [] zs).1 B ln lv lvs a zs (growsM ths [] [] zs).2 := ⟨S.ba, I, k _ _ ha nd2, List.nodup_cons.mpr ⟨na2, S.nd⟩, hg⟩
  refine ⟨S.la, b, ex_of_kp e00 fr (One.sub k), fr, fun x hx => ?_, Nat.le_refl _, hb⟩
  obtain ⟨⟨o, ho⟩, n1, n2, n3⟩ := hk x hx
  have ho := e3 _ _ ho
  refine ⟨⟨o, k _ _ ho fun z => ?_⟩, fun z => ?_⟩
  · rcases List.mem_cons.mp z with e | z
    · exact n1 e
    · exact n2 (List.mem_singleton.mp z)
  · rcases List.mem_cons.mp z with e | z
    · exact n3 e
    rcases List.mem_cons.mp z with e | z
    · exact n1 e
    rcases List.mem_cons.mp z with e | z
    · exact n2 e
    · exact nf _ _ ho z
/-- a second one -/
theorem make_two {B1 ln1 lv1 a1 : Addr} {lvs1 : List Addr} {rows1 : List Str} {levels1 : List (List Nat)} {zs : List Str} {a p : Addr} (T : TxK K c) (S1 : One c H0 H L d l B1 ln1 lv1 a1 keep lvs1 ths xs rows1 levels1 n t) (hk : a ∈ keep) (fa : H0 a = none) (ha : H a = some (.lst (zs.map V.str)))
    (hg : ∀ z ∈ zs, Good z) (hl : zs.length ≤ n) (hn : n ≤ 1000) (hz : t < 400000) (hp : H p = none) {Q : Addr → Hp → Prop} {E : XK}
    (q : ∀ H' (b1 b2 : BR) ths' xs', b1.B = B1 → b1.a = a1 → b2.a = a → b1.rows = rows1 → b2.rows = zs → Two c H0 H' L d l [] b1 b2 ths' xs' n (t + 17 * n) → Q b2.B H') :
    ∀ x dx, (upd H p (.lst (zs.map V.str))) x = none → (upd H p (.lst (zs.map V.str))) dx = none → dx ≠ x → sp_Book_init K c [.ref x, .ref L, .ref p] (upd (upd (upd H p (.lst (zs.map V.str))) dx (.own x)) x (.ins c.Book dx [])) (fun v H2 => v = .non ∧ Q x H2) E := by
  have ht := S1.ht
  have na := (S1.kp a hk).2
  have fr1 := S1.fr
  have fd : H0 d = none := fr1 d (by simp)
  have fl : H0 l = none := fr1 l (by simp)
  refine make_one (keep := []) S1.la T S1.ex ⟨fd, fl, fa⟩ ha ⟨fun e => na (by rw [e]; simp), fun e => na (by rw [e]; simp)⟩ hg (by omega) (by omega) hp (fun x hx => nomatch hx) fun H' B ln lv lvs ths' xs' levels S2 k hf hpre => ?_
  refine q H' ⟨B1, ln1, lv1, a1, lvs1, rows1, levels1⟩ ⟨B, ln, lv, a, lvs, zs, levels⟩ ths' xs' rfl rfl rfl rfl rfl ?_
  have nd := S1.bk.nd
  rw [List.nodup_cons, List.nodup_cons, List.nodup_cons] at nd
  have o1 : Bk c H' L d l ths' B1 ln1 lv1 lvs1 a1 rows1 levels1 := by
    refine Bk.kp S1.bk k hpre (fun x hx z => ?_) (Bk.notB T S1.bk S1.la fun x hx => ?_)
    · rcases List.mem_cons.mp hx with e | e
      · rcases List.mem_cons.mp z with r | r
        · exact nd.1 (by rw [← r, e]; simp)
        · exact nd.2.1 (by rw [← e]; exact List.mem_cons_of_mem _ r)
      · have e := List.mem_singleton.mp e
        rcases List.mem_cons.mp z with r | r
        · exact nd.1 (by rw [← r, e]; simp)
        · exact nd.2.2.1 (by rw [← e]; exact r)
    · rcases List.mem_cons.mp hx with e | e
      · exact .inr e
      · rw [List.mem_singleton.mp e]; exact .inl ⟨_, S1.la.ls⟩
  have h1 : ∀ x ∈ a1 :: ln1 :: lv1 :: lvs1, (∃ o, H x = some o) ∧ H0 x = none := fun x hx => by
    obtain ⟨ys, h⟩ := S1.bk.lists x hx
    refine ⟨⟨_, h⟩, fr1 x ?_⟩
    rcases List.mem_cons.mp hx with e | e
    · rw [e]; simp
    · exact List.mem_cons_of_mem _ (List.mem_cons_of_mem _ (List.mem_cons_of_mem _ e))
  have hn2 := S2.hn
  have ht2 := S2.ht
  refine ⟨S2.la, o1, S2.bk, fun x hx z => ?_, S2.ex, fun x hx => ?_, fun x hx => (nomatch hx), S1.hn, by show zs.length ≤ n; exact hl, by omega⟩
  · rcases List.mem_cons.mp z with e | z
    · have e : x = a := e
      rw [e] at hx
      refine na ?_
      rcases List.mem_cons.mp hx with r | r
      · rw [show a = a1 from r]; simp
      · exact List.mem_cons_of_mem _ (List.mem_cons_of_mem _ (List.mem_cons_of_mem _ r))
    · obtain ⟨⟨o, h⟩, _⟩ := h1 x hx
      rw [hf x z] at h
      cases h
  · rcases hx with e | e | e | e
    · rw [e]; exact fd
    · rw [e]; exact fl
    · exact (h1 x e).2
    · refine S2.fr x ?_
      rcases List.mem_cons.mp e with r | r
      · rw [show x = a from r]; simp
      · exact List.mem_cons_of_mem _ (List.mem_cons_of_mem _ (List.mem_cons_of_mem _ r))
end
end Tw

namespace Tw
open PySem L2 Ts Mix
def Soft (H : Hp) (S : List Addr) : Prop := ∀ x ∈ S, ∀ o, H x = some o → (∃ ys, o = .lst ys) ∨ ∃ φ, o = .ext φ
theorem sqt_keep {K : PySem.W.Frag} {H H' : Hp} {S : List Addr} {a : Addr} {xs : List V} (k : Kp S H H') (s : Soft H S) (h : SqT K H a xs) : SqT K H' a xs := by
  rcases h with (h | ⟨o, h⟩) | h
  · refine .inl (.inl (k _ _ h fun z => ?_))
    rcases s a z _ h with ⟨_, e⟩ | ⟨_, e⟩ <;> cases e
  · refine .inl (.inr ⟨o, k _ _ h fun z => ?_⟩)
    rcases s a z _ h with ⟨_, e⟩ | ⟨_, e⟩ <;> cases e
  · exact .inr h
section
variable {K : PySem.W.Frag} {c : Cs} {H0 H H' : Hp} {L d l : Addr} {keep : List Addr} {b1 b2 : BR} {ths ths' : List MK} {xs xs' : List V} {n t : Nat}
theorem Two.soft (T : TxK K c) (S : Two c H0 H L d l keep b1 b2 ths xs n t) : Soft H (b1.a :: fpS d l b1.ln b1.lv b1.lvs) := fun x hx o ho => by
  rcases List.mem_cons.mp hx with e | hx
  · have := S.k1.kept
    rw [← e, ho] at this
    cases this
    exact .inl ⟨_, rfl⟩
  rcases List.mem_cons.mp hx with e | hx
  · obtain ⟨φ, e2⟩ := T.md d (ents 0 ths xs)
    have := S.la.dc
    rw [← e, ho] at this
    cases this
    rw [← e] at e2
    exact .inr ⟨φ, e2⟩
  rcases List.mem_cons.mp hx with e | hx
  · have := S.la.ls
    rw [← e, ho] at this
    cases this
    exact .inl ⟨_, rfl⟩
  · obtain ⟨ys, h⟩ := Bk.lists S.k1 x (List.mem_cons_of_mem _ hx)
    rw [ho] at h
    cases h
    exact .inl ⟨_, rfl⟩
end
theorem soft_one {p : Addr} {ys : List V} (h : H p = some (.lst ys)) : Soft H [p] := fun x hx o ho => by
  rw [List.mem_singleton.mp hx, h] at ho
  cases ho
  exact .inl ⟨_, rfl⟩
section
variable {K : PySem.W.Frag} {c : Cs} {H0 H H' : Hp} {L d l : Addr} {keep : List Addr} {b1 b2 : BR} {ths ths' : List MK} {xs xs' : List V} {n t : Nat}
theorem Two.side (T : TxK K c) (S : Two c H0 H L d l keep b1 b2 ths xs n t) {p : Addr} (hp : p ∈ keep) (f : H0 p = none) {ys : List V} (h : H p = some (.lst ys)) (o : HO) : Two c H0 (upd H p o) L d l keep b1 b2 ths xs n t := by
  have no := (S.kp p hp).2
  have k : Kp [p] H (upd H p o) := Kp.refl.set (by simp)
  have nB : ∀ {b : BR}, b.At c H L d l ths → b.B ∉ [p] := fun {b} k z => by
    obtain ⟨dx, h2⟩ := k.ba.ob
    rw [List.mem_singleton.mp z, h] at h2
    cases h2
  refine ⟨S.la.kp T k fun x hx => ?_, Bk.kp S.k1 k (List.prefix_refl _) (fun x hx z => ?_) (nB S.k1), Bk.kp S.k2 k (List.prefix_refl _) (fun x hx z => ?_) (nB S.k2), S.dis, ex_mut S.ex f, S.fr, fun x hx => ⟨?_, (S.kp x hx).2⟩, S.n1, S.n2, S.ht⟩
  · rw [List.mem_singleton.mp hx]
    refine ⟨fun e => no (.inl e), fun e => no (.inr (.inl e)), fun o ho => ?_⟩
    rw [h] at ho
    cases ho
    exact ⟨_, rfl⟩
  · rw [List.mem_singleton.mp hx] at z
    exact no (.inr (.inr (.inl z)))
  · rw [List.mem_singleton.mp hx] at z
    exact no (.inr (.inr (.inr z)))
  · by_cases e : x = p
    · rw [e]; exact ⟨_, upd_same⟩
    · rw [upd_ne e]; exact (S.kp x hx).1
theorem Two.deedR (T : TxK K c) {lvs' : List Addr} {rows' : List Str} {levels' : List (List Nat)} {n' : Nat} (S : Two c H0 H L d l keep b1 b2 ths xs n t) (h1 : LedgerAt c H' L d l ths' xs') (h2 : Bk c H' L d l ths' b1.B b1.ln b1.lv lvs' b1.a rows' levels')
    (h3 : Kp (b1.a :: fpS d l b1.ln b1.lv b1.lvs) H H') (h4 : Wider H b1.lvs lvs') (h5 : ths <+: ths') (h6 : ths'.length ≤ ths.length + 18) (hn : n ≤ n') (h7 : rows'.length ≤ n') :
    Two c H0 H' L d l keep ⟨b1.B, b1.ln, b1.lv, b1.a, lvs', rows', levels'⟩ b2 ths' xs' n' (t + 18) := by
  have key : ∀ x ∈ (⟨b1.B, b1.ln, b1.lv, b1.a, lvs', rows', levels'⟩ : BR).fp, x ∈ b1.fp ∨ H x = none := fun x hx => by
    rcases List.mem_cons.mp hx with e | hx
    · exact .inl (by rw [e]; exact List.mem_cons_self)
    rcases List.mem_cons.mp hx with e | hx
    · exact .inl (by rw [e]; exact List.mem_cons_of_mem _ List.mem_cons_self)
    rcases List.mem_cons.mp hx with e | hx
    · exact .inl (by rw [e]; exact List.mem_cons_of_mem _ (List.mem_cons_of_mem _ List.mem_cons_self))
    rcases h4.2 x hx with r | r
    · exact .inl (List.mem_cons_of_mem _ (List.mem_cons_of_mem _ (List.mem_cons_of_mem _ r)))
    · exact .inr r
  have mem1 : ∀ x ∈ b1.a :: fpS d l b1.ln b1.lv b1.lvs, x = d ∨ x = l ∨ x ∈ b1.fp := fun x z => by
    rcases List.mem_cons.mp z with e | z
    · exact .inr (.inr (by rw [e]; exact List.mem_cons_self))
    rcases List.mem_cons.mp z with e | z
    · exact .inl e
    rcases List.mem_cons.mp z with e | z
    · exact .inr (.inl e)
    · exact .inr (.inr (List.mem_cons_of_mem _ z))
  have nd2 := S.k2.nd
  rw [List.nodup_cons, List.nodup_cons, List.nodup_cons] at nd2
  have o2 : b2.At c H' L d l ths' := Bk.kp S.k2 h3 h5 (fun x hx z => by
    rcases mem1 x hx with e | e | e
    · rcases List.mem_cons.mp z with r | r
      · exact nd2.1 (by rw [← r, e]; simp)
      · exact nd2.2.1 (by rw [← e]; exact List.mem_cons_of_mem _ r)
    · rcases List.mem_cons.mp z with r | r
      · exact nd2.1 (by rw [← r, e]; simp)
      · exact nd2.2.2.1 (by rw [← e]; exact r)
    · exact S.dis x e z) (Bk.notB T S.k2 S.la fun x hx => by
    rcases mem1 x hx with e | e | e
    · exact .inr e
    · rw [e]; exact .inl ⟨_, S.la.ls⟩
    · exact .inl (Bk.lists S.k1 x e))
  have hn2 := S.n2
  have ht := S.ht
  refine ⟨h1, h2, o2, fun x hx z => ?_, ex_of_kp S.ex (fun x hx => ?_) h3, fun x hx => ?_, fun x hx => ⟨let ⟨_, h⟩ := (S.kp x hx).1; ⟨_, S.keeps h3 hx h⟩, fun z => ?_⟩, h7, by omega, by omega⟩
  · rcases key x hx with r | r
    · exact S.dis x r z
    · obtain ⟨ys, h⟩ := Bk.lists S.k2 x z
      rw [r] at h; cases h
  · rcases mem1 x hx with e | e | e
    · exact S.fr x (.inl e)
    · exact S.fr x (.inr (.inl e))
    · exact S.fr x (.inr (.inr (.inl e)))
  · rcases hx with e | e | e | e
    · exact S.fr x (.inl e)
    · exact S.fr x (.inr (.inl e))
    · rcases key x e with r | r
      · exact S.fr x (.inr (.inr (.inl r)))
      · exact ex_free S.ex r
    · exact S.fr x (.inr (.inr (.inr e)))
  · obtain ⟨o, h⟩ := (S.kp x hx).1
    rcases z with e | e | e | e
    · exact (S.kp x hx).2 (.inl e)
    · exact (S.kp x hx).2 (.inr (.inl e))
    · rcases key x e with r | r
      · exact (S.kp x hx).2 (.inr (.inr (.inl r)))
      · rw [h] at r; cases r
    · exact (S.kp x hx).2 (.inr (.inr (.inr e)))
/-- the rows kept beside have changed first: where the book stands -/
theorem Two.first (T : TxK K c) (S : Two c H0 H L d l keep b1 b2 ths xs n t) (o : HO) : BS c (upd H b1.a o) b1.B L d l b1.ln b1.lv b1.lvs ths xs b1.rows b1.levels := by
  have na := Bk.na S.k1
  have k0 : Kp [b1.a] H (upd H b1.a o) := Kp.refl.set (by simp)
  refine ⟨S.la.kp T k0 fun x hx => ?_, BookAt.kp S.k1.ba k0 (fun x hx h => ?_) fun h => Bk.nB S.k1 (List.mem_singleton.mp h), (List.nodup_cons.mp S.k1.nd).2⟩
  · rw [List.mem_singleton.mp hx]
    refine ⟨fun e => na (by rw [e]; simp), fun e => na (by rw [e]; simp), fun o ho => ?_⟩
    have := S.k1.kept
    rw [ho] at this
    cases this
    exact ⟨_, rfl⟩
  · rw [List.mem_singleton.mp hx] at h
    exact na (List.mem_cons_of_mem _ (List.mem_cons_of_mem _ h))
theorem Two.told (T : TxK K c) {lvs' : List Addr} {rows' : List Str} {levels' : List (List Nat)} (S : Two c H0 H L d l keep b1 b2 ths xs n t) (S' : BS c H' b1.B L d l b1.ln b1.lv lvs' ths' xs' rows' levels') (I' : BookInv ths' rows' levels') (w : Wider (upd H b1.a (.lst (rows'.map V.str))) b1.lvs lvs')
    (k : Kp (fpS d l b1.ln b1.lv b1.lvs) (upd H b1.a (.lst (rows'.map V.str))) H') (p : ths <+: ths') (hl : ths'.length ≤ ths.length + 18) (g : ∀ z ∈ rows', Good z) (hn : rows'.length ≤ n + 1) :
    Two c H0 H' L d l keep ⟨b1.B, b1.ln, b1.lv, b1.a, lvs', rows', levels'⟩ b2 ths' xs' (n + 1) (t + 18) ∧ Kp (b1.a :: fpS d l b1.ln b1.lv b1.lvs) H H' := by
  have na := Bk.na S.k1
  have kk : Kp (b1.a :: fpS d l b1.ln b1.lv b1.lvs) H H' := fun x o q n => by
    refine k x o ?_ fun z => n (List.mem_cons_of_mem _ z)
    rw [upd_ne (fun e => n (by rw [e]; simp))]
    exact q
  have w' : Wider H b1.lvs lvs' := ⟨w.1, fun x hx => by
    rcases w.2 x hx with r | r
    · exact .inl r
    · refine .inr ?_
      by_cases e : x = b1.a
      · rw [e, upd_same] at r; cases r
      · rw [upd_ne e] at r; exact r⟩
  refine ⟨S.deedR T S'.la ⟨S'.ba, I', k _ _ upd_same na, List.nodup_cons.mpr ⟨fun z => ?_, S'.nd⟩, g⟩ kk w' p hl (by omega) hn, kk⟩
  rcases List.mem_cons.mp z with e | z
  · exact na (by rw [e]; simp)
  rcases List.mem_cons.mp z with e | z
  · exact na (by rw [e]; simp)
  rcases List.mem_cons.mp z with e | z
  · exact na (by rw [e]; simp)
  rcases List.mem_cons.mp z with e | z
  · exact na (by rw [e]; simp)
  rcases w.2 _ z with r | r
  · exact na (List.mem_cons_of_mem _ (List.mem_cons_of_mem _ (List.mem_cons_of_mem _ (List.mem_cons_of_mem _ r))))
  · rw [upd_same] at r; cases r
end
end Tw

namespace Tw
open PySem L2 Ts Mix
section
variable {K : PySem.W.Frag} {c : Cs} {H0 H H1 H' : Hp} {L d l : Addr} {keep : List Addr} {b1 b2 : BR} {ths ths' : List MK} {xs xs' : List V} {n t : Nat}
/-- what stands behind a deed, as it is due and as it is done -/
structure Out (K : PySem.W.Frag) (c : Cs) (H0 H H' : Hp) (L d l : Addr) (keep : List Addr) (b1 b2 : BR) (ths : List MK) (n t : Nat) (dd : Dd) (dv fv : V) : Prop where
  two : ∃ (b : BR) (ths' : List MK) (xs' : List V), b.B = b1.B ∧ b.a = b1.a ∧ Two c H0 H' L d l keep b b2 ths' xs' (n + 1) (t + 18) ∧
    ((∃ m : Nat, dv = .int (m : Nat) ∧ fv = .int (m : Nat) ∧ ths'.length ≤ ths.length + m ∧ (dd = .cut → ths'.length = ths.length)) ∨
     (∃ (nm : Str) (t1 t2 : Addr), (nm = "NoPlace" ∨ nm = "NoRow") ∧ Ref b1.rows nm dd ∧ b.rows = b1.rows ∧ dv = .ref t1 ∧ fv = .ref t2 ∧ H' t1 = some (.tup [.str nm]) ∧ H' t2 = some (.tup [.str nm]) ∧ ths' = ths))
  kp : ∀ x o, x ∈ keep → H x = some o → H' x = some o
theorem Ref.name {rows : List Str} {nm : Str} {dd : Dd} (h : Ref rows nm dd) : nm = "NoPlace" ∨ nm = "NoRow" := by
  cases dd with
  | put p v =>
    rcases h with ⟨_, e⟩ | ⟨_, _, e⟩
    · exact .inl e
    · exact .inr e
  | add v => exact .inr h.2
  | cut => exact .inl h.2
/-- the deed itself, behind what is due -/
theorem deed_ref (S : Two c H0 H L d l keep b1 b2 ths xs n t) (hn : n ≤ 1000) (hz : t < 800000) {nm : Str} {dd : Dd} (rf : Ref b1.rows nm dd) (ok : dd.Ok) {tt : Addr} (ht : SqT K H tt dd.items) {Q : VK} {E : XK}
    (k : ∀ t', H t' = none → Q (.ref t') (upd H t' (.tup [.str nm]))) : sp_law_deed K c [.ref b1.B, .ref tt] H Q E := by
  obtain ⟨dx, hB⟩ := S.k1.ba.ob
  have n1 := S.n1
  have hth := S.ht
  refine ⟨b1.B, tt, dx, L, b1.ln, b1.lv, dd, rfl, hB, ht, fun E' Q' g1 g2 => ?_⟩
  have bs := Bk.bs S.k1 S.la
  have I := S.k1.iv
  cases dd with
  | put p v =>
    obtain ⟨⟨b, hb⟩, b2', tv⟩ := ok
    refine ⟨b1.B, L, d, l, b1.ln, b1.lv, b1.lvs, ths, xs, b1.rows, b1.levels, p, v, b, rfl, bs, I, hb _ _, tv.rowV, by omega, by omega, fun nn => ?_, fun yn nr => ?_, fun i z e1 e2 hi gz => ?_⟩
    · rcases rf with ⟨_, e⟩ | ⟨h, _, _⟩
      · exact g1 nm _ _ (.inl ⟨rfl, e⟩) k
      · exact absurd h nn
    · rcases rf with ⟨h, _⟩ | ⟨_, _, e⟩
      · exact absurd yn h
      · exact g1 nm _ _ (.inr ⟨rfl, e⟩) k
    · rcases rf with ⟨h, _⟩ | ⟨_, h, _⟩
      · exact absurd ⟨i, e1, hi⟩ h
      · exact absurd ⟨z, e2, gz⟩ h
  | add v =>
    obtain ⟨b2', tv⟩ := ok
    obtain ⟨h, e⟩ := rf
    refine ⟨b1.B, L, d, l, b1.ln, b1.lv, b1.lvs, ths, xs, b1.rows, b1.levels, v, rfl, bs, I, tv.rowV, by omega, by omega, fun nr => g1 nm _ _ (.inr ⟨rfl, e⟩) k, fun yr => absurd yr h, fun z e2 gz => absurd ⟨z, e2, gz⟩ h⟩
  | cut =>
    obtain ⟨h, e⟩ := rf
    exact ⟨b1.B, L, d, l, b1.ln, b1.lv, b1.lvs, ths, xs, b1.rows, b1.levels, rfl, bs, I, by omega, fun _ => g1 nm _ _ (.inl ⟨rfl, e⟩) k, fun ne => absurd h ne⟩
theorem deed_do (T : TxK K c) (S : Two c H0 H L d l keep b1 b2 ths xs n t) (hn : n ≤ 1000) (hz : t < 800000) {zs : List Str} {m : Nat} {dd : Dd} (su : Succ b1.rows zs m dd) {tt : Addr} (ht : SqT K (upd H b1.a (.lst (zs.map V.str))) tt dd.items) {Q : VK} {E : XK}
    (k : ∀ H' (b : BR) ths' xs', b.B = b1.B → b.a = b1.a → Two c H0 H' L d l keep b b2 ths' xs' (n + 1) (t + 18) → Kp (b1.a :: fpS d l b1.ln b1.lv b1.lvs) H H' → ths'.length ≤ ths.length + m → (dd = .cut → ths'.length = ths.length) → Q (.int (m : Nat)) H') : sp_law_deed K c [.ref b1.B, .ref tt] (upd H b1.a (.lst (zs.map V.str))) Q E := by
  have n1 := S.n1
  have hth := S.ht
  have bs := S.first T (.lst (zs.map V.str))
  obtain ⟨dx, hB⟩ := bs.ba.ob
  have I := S.k1.iv
  have gr := S.k1.good
  refine ⟨b1.B, tt, dx, L, b1.ln, b1.lv, dd, rfl, hB, ht, fun E' Q' g1 g2 => ?_⟩
  cases dd with
  | put p v =>
    obtain ⟨i, z, rfl, rfl, hi, gz, ez, bc⟩ := su
    refine ⟨b1.B, L, d, l, b1.ln, b1.lv, b1.lvs, ths, xs, b1.rows, b1.levels, _, _, true, rfl, bs, I, .inl ⟨_, rfl, rfl⟩, rowV_good gz, by omega, by omega, fun nn => absurd ⟨i, rfl, hi⟩ nn, fun _ nr => absurd ⟨z, rfl, gz⟩ nr, ?_⟩
    intro i' z' e1 e2 _ _ H' xs' S' I' bc' k'
    have e1 : i' = i := by have := V.int.inj e1; omega
    cases e2
    subst e1
    have em := bc'.one bc
    have low := bc'.low (by omega)
    have gl := putM_len (ths := ths) (levels := b1.levels) (place := i') (z := z)
    rw [ez] at k'
    obtain ⟨S2, kk⟩ := S.told T S' I' wider_refl k' putM_pre (by omega) (fun x hx => by
      rcases List.mem_or_eq_of_mem_set hx with r | r
      · exact gr x r
      · rw [r]; exact gz) (by rw [List.length_set]; omega)
    rw [em]
    exact g2 _ _ (k H' ⟨b1.B, b1.ln, b1.lv, b1.a, b1.lvs, b1.rows.set i' z, (putM ths b1.levels i' z).2.1⟩ (putM ths b1.levels i' z).1 xs' rfl rfl S2 kk (by omega) fun h => nomatch h)
  | add v =>
    obtain ⟨z, rfl, gz, ez, bc⟩ := su
    refine ⟨b1.B, L, d, l, b1.ln, b1.lv, b1.lvs, ths, xs, b1.rows, b1.levels, _, rfl, bs, I, rowV_good gz, by omega, by omega, fun nr => absurd ⟨z, rfl, gz⟩ nr, fun _ e => absurd e (by omega), ?_⟩
    intro z' e2 _ _ H' xs' lvs' S' I' bc' k' w'
    cases e2
    have em := bc'.one bc
    have low := bc'.low (by omega)
    have gl := growM_len (ths := ths) (rows := b1.rows) (levels := b1.levels) (z := z)
    rw [ez] at k' w'
    obtain ⟨S2, kk⟩ := S.told T S' I' w' k' growM_pre (by omega) (good_snoc gr gz) (by rw [List.length_append]; simp; omega)
    rw [em]
    exact g2 _ _ (k H' ⟨b1.B, b1.ln, b1.lv, b1.a, lvs', b1.rows ++ [z], (growM ths b1.rows b1.levels z).2.1⟩ (growM ths b1.rows b1.levels z).1 xs' rfl rfl S2 kk (by omega) fun h => nomatch h)
  | cut =>
    obtain ⟨ne, ez, bc⟩ := su
    refine ⟨b1.B, L, d, l, b1.ln, b1.lv, b1.lvs, ths, xs, b1.rows, b1.levels, rfl, bs, I, by omega, fun e => absurd e ne, ?_⟩
    intro _ H' levels' m' S' I' bc' k'
    have em := bc'.one bc
    rw [ez] at k'
    obtain ⟨S2, kk⟩ := S.told T S' I' wider_refl (k'.mono fun x hx => List.mem_cons_of_mem _ (List.mem_cons_of_mem _ hx)) (List.prefix_refl _) (by omega) (fun x hx => gr x (List.dropLast_subset _ hx)) (by rw [List.length_dropLast]; omega)
    rw [em]
    exact g2 _ _ (k H' ⟨b1.B, b1.ln, b1.lv, b1.a, b1.lvs, b1.rows.dropLast, levels'⟩ ths xs rfl rfl S2 kk (by omega) fun _ => rfl)
end
end Tw

namespace Tw
open PySem L2 Ts Mix
theorem good_a : Good "a" := by decide +kernel
def N_law_again : List Str := ["_law_book", "_law_rows_here", "_law_deed_here", "_law_many"]
def t_law_again (K : PySem.W.Frag) (c : Cs) (E : XK) : TS := (tSeq (tIfS (tOr (tTest (tOp (rNeU K) (tOp (rIx K) (tVar 2) (tC (.int 0))) (tC (.str "put")))) (tOr (tNot (tB (tCall (sp_law_whole K c) [] E0 (tCons (tOp (rIx K) (tVar 2) (tC (.int 1))) tNil)))) (tOr (tTest (tOp (rNeU K) (tOp (rIx K) (tVar 2) (tC (.int 1))) (tCB (rLen K) (tCons (tVar 1) tNil)))) (tNot (tB (tCall (sp_law_good K c) [] E0 (tCons (tOp (rIx K) (tVar 2) (tC (.int 2))) tNil))))))) (tRet (tC (.bl true))) tNext)
  (tSeq (tAsg (tCall (sp_law_due K c) [] E0 (tCons (tVar 1) (tCons (tTup (tCons (tC (.str "add")) (tCons (tC (.str "a")) tNil))) tNil))) (gName 3))
  (tRet (tAndV (tOp (rEqU K) (tMeth c.Book "add" (sp_Book_add K c) [] E0 (tVar 0) (tCons (tC (.str "a")) tNil)) (tVar 3)) (tOp (rEqU K) (tMeth c.Book "put" (sp_Book_put K c) [] E0 (tVar 0) (tCons (tOp (rIx K) (tVar 2) (tC (.int 1))) (tCons (tOp (rIx K) (tVar 2) (tC (.int 2))) tNil))) (tCall (sp_law_due K c) [] E0 (tCons (tVar 1) (tCons (tVar 2) tNil))))))))
def sp_law_again (K : PySem.W.Frag) (c : Cs) : Sp := fun vs H Q _ => ∃ (H0 : Hp) (L d l tt : Addr) (keep : List Addr) (b1 b2 : BR) (ths : List MK) (xs : List V) (n t : Nat) (dd : Dd), vs = [.ref b1.B, .ref b1.a, .ref tt] ∧ Two c H0 H L d l keep b1 b2 ths xs n t ∧ n ≤ 1000 ∧ t < 700000 ∧ dd.Ok ∧ SqT K H tt dd.items ∧
  ∀ H' (b : BR) ths' xs', b.B = b1.B → b.a = b1.a → Two c H0 H' L d l keep b b2 ths' xs' (n + 1) (t + 36) → (∀ x o, x ∈ keep → H x = some o → H' x = some o) → Q (.bl true) H'
theorem len_law_again {K c} : ∀ vs H Q E, sp_law_again K c vs H Q E → vs.length = 3 := by rintro vs H Q E ⟨_, _, _, _, _, _, _, _, _, _, _, _, _, rfl, _⟩; rfl
theorem pure_law_again {K : PySem.W.Frag} {c : Cs} {vs : List V} {H : Hp} {Q : VK} {E : XK} (T : TxK K c) (g : sp_law_again K c vs H Q E) : t_law_again K c E ⟨fun _ H' => Q .non H', Q, fun _ _ => False, fun _ _ => False⟩ (start N_law_again vs) H := by
  obtain ⟨H0, L, d, l, tt, keep, b1, b2, ths, xs, n, t, dd, rfl, S, hn, hz, ok, ht, k⟩ := g
  show t_law_again K c E _ [some (.ref b1.B), some (.ref b1.a), some (.ref tt), none] H
  unfold t_law_again
  have n1 := S.n1
  have hth := S.ht
  have triv : ∀ H', Ex H H' → Q (.bl true) H' := fun H' e => k H' b1 ths xs rfl rfl ((S.mono e).wide (by omega) (by omega)) fun x o _ h => e _ _ h
  cases dd with
  | add v =>
    have a0 : atI (Dd.add v).items 0 = some (V.str "add") := rfl
    walk_at "s"
    refine w_ixT ht a0 ?_
    walk_at "s"
    rw [decide_eq_false (by decide +kernel)]
    refine iteT ?_
    walk_at "s"
    exact triv _ ex_refl
  | cut =>
    have a0 : atI Dd.cut.items 0 = some (V.str "cut") := rfl
    walk_at "s"
    refine w_ixT ht a0 ?_
    walk_at "s"
    rw [decide_eq_false (by decide +kernel)]
    refine iteT ?_
    walk_at "s"
    exact triv _ ex_refl
  | put p v =>
    obtain ⟨⟨b, hb⟩, bb, tv⟩ := ok
    have a0 : atI (Dd.put p v).items 0 = some (V.str "put") := rfl
    have a1 : atI (Dd.put p v).items 1 = some p := rfl
    have a2 : atI (Dd.put p v).items 2 = some v := rfl
    walk_at "s"
    refine w_ixT ht a0 ?_
    walk_at "s"
    rw [decide_eq_true rfl]
    refine iteF ?_
    walk_at "s"
    refine w_ixT ht a1 ?_
    walk_at "s"
    refine ⟨p, b, rfl, hb K H, ?_⟩
    walk_at "s"
    rcases flat_num (hb K H) b1.rows.length with ⟨rfl, i, rfl⟩ | ⟨rfl, nn⟩
    · refine iteF ?_
      walk_at "s"
      refine w_ixT ht a1 ?_
      walk_at "s"
      refine w_lenL (sql S.k1.kept) ?_
      rw [List.length_map]
      walk_at "s"
      refine ite_nd (fun h0 => ?_) fun h0 => ?_
      · walk_at "s"
        exact triv _ ex_refl
      · have h0 : i = ((b1.rows.length : Nat) : Int) := by omega
        subst h0
        walk_at "s"
        refine w_ixT ht a2 ?_
        walk_at "s"
        refine ⟨v, bb, rfl, tv, fun H1 e1 => ?_⟩
        walk_at "s"
        cases bb with
        | false =>
          refine iteT ?_
          walk_at "s"
          exact triv _ e1
        | true =>
          refine iteF ?_
          obtain ⟨z, rfl, gz⟩ := tv.row.mpr rfl
          have S1 := S.mono e1
          have ht1 := sqt_ex e1 ht
          walk_at "s"
          refine ⟨by show 2 ≤ sizeLine; exact sz100 (by decide), fun t9 ht9 => ?_⟩
          have e2 := ex_new (o := .tup [.str "add", .str "a"]) ex_refl ht9
          have c2 : (upd H1 t9 (.tup [.str "add", .str "a"])) t9 = some (.tup (Dd.add (.str "a")).items) := upd_same
          generalize upd H1 t9 (.tup [.str "add", .str "a"]) = H2 at e2 c2
          have S2 := S1.mono e2
          have ht2 := sqt_ex e2 ht1
          have e12 := e1.trans e2
          clear S1 ht1 e1 e2
          walk_at "s"
          refine ⟨b1.a, t9, b1.rows, .add (.str "a"), rfl, S2.k1.kept, S2.k1.good, sqt c2, ⟨true, .inl ⟨rfl, _, rfl, good_a⟩⟩, by omega, fun nm H' t' rf => absurd ⟨_, rfl, good_a⟩ rf.1, fun zs m H3 su e3 => ?_⟩
          obtain ⟨y, ey, gy, ez, bc⟩ := su
          have ey : ("a" : Str) = y := V.str.inj ey
          subst ey ez
          have S3 := S2.mono e3
          have ht3 := sqt_ex e3 ht2
          have e13 := e12.trans e3
          clear S2 ht2 e12 e3 c2
          have bs := S3.first T (.lst ((b1.rows ++ [("a" : Str)]).map V.str))
          obtain ⟨dx, hB⟩ := bs.ba.ob
          walk_at "s"
          refine w_methAt hB (bfl_no (by decide +kernel) (by decide +kernel) (by decide +kernel)) ?_
          walk_at "s"
          refine ⟨b1.B, L, d, l, b1.ln, b1.lv, b1.lvs, ths, xs, b1.rows, b1.levels, _, rfl, bs, S3.k1.iv, rowV_good good_a, by omega, by omega, fun nr => absurd ⟨_, rfl, good_a⟩ nr, fun _ e => absurd e (by omega), ?_⟩
          intro z' e2' _ _ H4 xs4 lvs4 S4 I4 bc4 k4 w4
          cases e2'
          have em := bc4.one bc
          have low := bc4.low (by omega)
          have gl := growM_len (ths := ths) (rows := b1.rows) (levels := b1.levels) (z := "a")
          obtain ⟨T4, kk4⟩ := S3.told T S4 I4 w4 k4 growM_pre (by omega) (good_snoc S3.k1.good good_a) (by rw [List.length_append]; simp; omega)
          have ht4 : SqT K H4 tt (Dd.put (.int ((b1.rows.length : Nat) : Int)) (.str z)).items := sqt_keep kk4 (S3.soft T) ht3
          have kept4 : ∀ x o, x ∈ keep → H x = some o → H4 x = some o := fun x o hx h => S3.keeps kk4 hx (e13 _ _ h)
          have gr4 := good_snoc S3.k1.good good_a
          have lr : (b1.rows ++ [("a" : Str)]).length = b1.rows.length + 1 := by rw [List.length_append]; rfl
          clear S3 bs hB ht3 e13 S4 I4 k4 w4 kk4
          generalize hths : (growM ths b1.rows b1.levels "a").1 = ths4 at T4 gl
          generalize hlev : (growM ths b1.rows b1.levels "a").2.1 = lev4 at T4
          walk_at "s"
          rw [decide_eq_true (by rw [em])]
          refine iteT ?_
          have t4 := T4.ht
          obtain ⟨dx4, hB4⟩ := T4.k1.ba.ob
          have hB4 : H4 b1.B = some (.ins c.Book dx4 (bfl L b1.ln b1.lv)) := hB4
          walk_at "s"
          refine w_methAt hB4 (bfl_no (by decide +kernel) (by decide +kernel) (by decide +kernel)) ?_
          walk_at "s"
          refine w_ixT ht4 a1 ?_
          walk_at "s"
          refine w_ixT ht4 a2 ?_
          walk_at "s"
          have bs4 : BS c H4 b1.B L d l b1.ln b1.lv lvs4 ths4 xs4 (b1.rows ++ [("a" : Str)]) lev4 := Bk.bs T4.k1 T4.la
          have iv4 : BookInv ths4 (b1.rows ++ [("a" : Str)]) lev4 := T4.k1.iv
          refine ⟨b1.B, L, d, l, b1.ln, b1.lv, lvs4, ths4, xs4, b1.rows ++ [("a" : Str)], lev4, _, _, true, rfl, bs4, iv4, .inl ⟨_, rfl, rfl⟩, rowV_good gz, by omega, by omega, fun nn => absurd ⟨b1.rows.length, rfl, by omega⟩ nn, fun _ nr => absurd ⟨z, rfl, gz⟩ nr, ?_⟩
          intro i' z' e1' e2' _ _ H5 xs5 S5 I5 bc5 k5
          have e1' : i' = b1.rows.length := by have := V.int.inj e1'; omega
          cases e2'
          have low5 := bc5.low (by omega)
          have gl5 := putM_len (ths := ths4) (levels := lev4) (place := i') (z := z)
          have ht5 : SqT K H5 tt (Dd.put (.int ((b1.rows.length : Nat) : Int)) (.str z)).items := sqt_keep (k5.mono fun x hx => List.mem_cons_of_mem b1.a hx) (T4.soft T) ht4
          have kept5 := k5 _ _ T4.k1.kept (Bk.na T4.k1)
          walk_at "s"
          refine ⟨b1.a, tt, b1.rows ++ [("a" : Str)], .put (.int ((b1.rows.length : Nat) : Int)) (.str z), rfl, kept5, gr4, ht5, ⟨⟨true, hb⟩, true, tv⟩, by omega, fun nm H' t' rf => ?_, fun zs m6 H6 su e6 => ?_⟩
          · rcases rf with ⟨h, _⟩ | ⟨_, h, _⟩
            · exact absurd ⟨b1.rows.length, rfl, by omega⟩ h
            · exact absurd ⟨z, rfl, gz⟩ h
          · obtain ⟨j, y, ej, ey, hj, gy, ez, bc6⟩ := su
            have ej : j = b1.rows.length := by have := V.int.inj ej; omega
            cases ey
            rw [e1'] at S5 I5 bc5 gl5
            rw [ej] at ez bc6
            subst ez
            have em6 := bc5.one bc6
            rw [e1'] at low5 ⊢
            have S6 : BS c H6 b1.B L d l b1.ln b1.lv lvs4 (putM ths4 lev4 b1.rows.length z).1 xs5 ((b1.rows ++ [("a" : Str)]).set b1.rows.length z) (putM ths4 lev4 b1.rows.length z).2.1 := ⟨S5.la.ex e6, S5.ba.ex e6, S5.nd⟩
            have gset : ∀ x ∈ (b1.rows ++ [("a" : Str)]).set b1.rows.length z, Good x := fun x hx => by
              rcases List.mem_or_eq_of_mem_set hx with r | r
              · exact gr4 x r
              · rw [r]; exact gz
            obtain ⟨_, u1, u2, u3⟩ := Bk.step T T4.k1 S6 I5 wider_refl (k5.trans (Kp.of_ex e6)) gset
            have S7 := T4.deedR T (n' := n + 1) u1 u2 u3 wider_refl putM_pre (by omega) (Nat.le_refl _) (by rw [List.length_set]; omega)
            rw [em6]
            walk_at "s"
            rw [decide_eq_true rfl]
            refine k _ ⟨b1.B, b1.ln, b1.lv, b1.a, lvs4, (b1.rows ++ [("a" : Str)]).set b1.rows.length z, (putM ths4 lev4 b1.rows.length z).2.1⟩ _ _ rfl rfl (S7.wide (Nat.le_refl _) (by omega)) fun x o hx h => ?_
            exact T4.keeps u3 hx (kept4 x o hx h)
    · refine iteT ?_
      walk_at "s"
      exact triv _ ex_refl
end Tw

namespace Tw
open PySem L2 Ts Mix
section
variable {K : PySem.W.Frag} {c : Cs} {H0 H H' : Hp} {L d l B ln lv a : Addr} {keep : List Addr} {lvs : List Addr} {ths : List MK} {xs : List V} {rows : List Str} {levels : List (List Nat)} {n t : Nat}
theorem One.side (T : TxK K c) (S : One c H0 H L d l B ln lv a keep lvs ths xs rows levels n t) {p : Addr} (hp : p ∈ keep) (f : H0 p = none) {ys : List V} (h : H p = some (.lst ys)) (o : HO) : One c H0 (upd H p o) L d l B ln lv a keep lvs ths xs rows levels n t := by
  have no := (S.kp p hp).2
  have k : Kp [p] H (upd H p o) := Kp.refl.set (by simp)
  refine ⟨S.la.kp T k fun x hx => ?_, Bk.kp S.bk k (List.prefix_refl _) (fun x hx z => ?_) (fun z => ?_), ex_mut S.ex f, S.fr, fun x hx => ⟨?_, (S.kp x hx).2⟩, S.hn, S.ht⟩
  · rw [List.mem_singleton.mp hx]
    refine ⟨fun e => no (by rw [e]; simp), fun e => no (by rw [e]; simp), fun o ho => ?_⟩
    rw [h] at ho
    cases ho
    exact ⟨_, rfl⟩
  · rw [List.mem_singleton.mp hx] at z
    refine no ?_
    rcases List.mem_cons.mp z with e | z
    · rw [e]; simp
    · exact List.mem_cons_of_mem _ (List.mem_cons_of_mem _ (List.mem_cons_of_mem _ z))
  · obtain ⟨dx, h2⟩ := S.bk.ba.ob
    rw [List.mem_singleton.mp z, h] at h2
    cases h2
  · by_cases e : x = p
    · rw [e]; exact ⟨_, upd_same⟩
    · rw [upd_ne e]; exact (S.kp x hx).1
end
section
variable {K : PySem.W.Frag} {c : Cs} {H0 H H' : Hp} {L d l : Addr} {keep keep' : List Addr} {ths : List MK} {xs : List V} {n t : Nat}
theorem make_oneG {zs : List Str} {a p : Addr} (L1 : LedgerAt c H L d l ths xs) (T : TxK K c) (e0 : Ex H0 H) (f1 : H0 d = none ∧ H0 l = none ∧ H0 a = none) (ha : H a = some (.lst (zs.map V.str))) (na : a ≠ d ∧ a ≠ l) (hg : ∀ z ∈ zs, Good z) (hl : zs.length ≤ 1000) (hz : ths.length < 400000) (hp : H p = some (.lst (zs.map V.str))) (np : p ≠ d ∧ p ≠ l)
    (hk : ∀ x ∈ keep, (∃ o, H x = some o) ∧ x ≠ d ∧ x ≠ l ∧ x ≠ a) {Q : Addr → Hp → Prop} {E : XK}
    (q : ∀ H' B ln lv lvs ths' xs' levels, One c H0 H' L d l B ln lv a keep lvs ths' xs' zs levels zs.length (ths.length + 17 * zs.length) → Kp [d, l] H H' → (∀ x ∈ ln :: lv :: lvs, H x = none) → ths <+: ths' → Q B H') :
    ∀ x dx, H x = none → H dx = none → dx ≠ x → sp_Book_init K c [.ref x, .ref L, .ref p] (upd (upd H dx (.own x)) x (.ins c.Book dx [])) (fun v H2 => v = .non ∧ Q x H2) E := by
  refine new_book L1 hp T np hg (by omega) (by omega) fun B ln lv lvs xs' H' hB hf S I k hb => q H' B ln lv lvs (growsM ths [] [] zs).1 xs' (growsM ths [] [] zs).2 ?_ k hf (growsM_pre _ _ _ _)
  have nf : ∀ x o, H x = some o → x ∉ ln :: lv :: lvs := fun x o h z => by rw [hf x z] at h; cases h
  have na2 : a ∉ fpS d l ln lv lvs := fun z => by
    rcases List.mem_cons.mp z with e | z
    · exact na.1 e
    rcases List.mem_cons.mp z with e | z
    · exact na.2 e
    · exact nf _ _ ha z
  have fr : ∀ x ∈ a :: fpS d l ln lv lvs, H0 x = none := fun x hx => by
    rcases List.mem_cons.mp hx with e | hx
    · rw [e]; exact f1.2.2
    rcases List.mem_cons.mp hx with e | hx
    · rw [e]; exact f1.1
    rcases List.mem_cons.mp hx with e | hx
    · rw [e]; exact f1.2.1
    · exact ex_free e0 (hf x hx)
  have nd2 : a ∉ [d, l] := fun z => na2 (by
    rcases List.mem_cons.mp z with e | z
    · rw [e]; simp
    · rw [List.mem_singleton.mp z]; simp)
  have b : Bk c H' L d l (growsM ths [] [] zs).1 B ln lv lvs a zs (growsM ths [] [] zs).2 := ⟨S.ba, I, k _ _ ha nd2, List.nodup_cons.mpr ⟨na2, S.nd⟩, hg⟩
  refine ⟨S.la, b, ex_of_kp e0 fr (One.sub k), fr, fun x hx => ?_, Nat.le_refl _, hb⟩
  obtain ⟨⟨o, ho⟩, n1, n2, n3⟩ := hk x hx
  refine ⟨⟨o, k _ _ ho fun z => ?_⟩, fun z => ?_⟩
  · rcases List.mem_cons.mp z with e | z
    · exact n1 e
    · exact n2 (List.mem_singleton.mp z)
  · rcases List.mem_cons.mp z with e | z
    · exact n3 e
    rcases List.mem_cons.mp z with e | z
    · exact n1 e
    rcases List.mem_cons.mp z with e | z
    · exact n2 e
    · exact nf _ _ ho z
theorem make_twoG {B1 ln1 lv1 a1 : Addr} {lvs1 : List Addr} {rows1 : List Str} {levels1 : List (List Nat)} {zs : List Str} {a p : Addr} (T : TxK K c) (S1 : One c H0 H L d l B1 ln1 lv1 a1 keep lvs1 ths xs rows1 levels1 n t) (hk : a ∈ keep) (fa : H0 a = none) (ha : H a = some (.lst (zs.map V.str)))
    (hg : ∀ z ∈ zs, Good z) (hl : zs.length ≤ n) (hn : n ≤ 1000) (hz : t < 400000) (hp : H p = some (.lst (zs.map V.str))) (np : p ≠ d ∧ p ≠ l) (hk' : ∀ x ∈ keep', x ∈ keep ∧ x ≠ a) {Q : Addr → Hp → Prop} {E : XK}
    (q : ∀ H' (b1 b2 : BR) ths' xs', b1.B = B1 → b1.a = a1 → b2.a = a → Two c H0 H' L d l keep' b1 b2 ths' xs' n (t + 17 * n) → Kp [d, l] H H' → Q b2.B H') :
    ∀ x dx, H x = none → H dx = none → dx ≠ x → sp_Book_init K c [.ref x, .ref L, .ref p] (upd (upd H dx (.own x)) x (.ins c.Book dx [])) (fun v H2 => v = .non ∧ Q x H2) E := by
  have ht := S1.ht
  have na := (S1.kp a hk).2
  have fr1 := S1.fr
  have fd : H0 d = none := fr1 d (by simp)
  have fl : H0 l = none := fr1 l (by simp)
  refine make_oneG (keep := keep') S1.la T S1.ex ⟨fd, fl, fa⟩ ha ⟨fun e => na (by rw [e]; simp), fun e => na (by rw [e]; simp)⟩ hg (by omega) (by omega) hp np (fun x hx => ?_) fun H' B ln lv lvs ths' xs' levels S2 k hf hpre => ?_
  · obtain ⟨h1, h2⟩ := hk' x hx
    obtain ⟨h3, h4⟩ := S1.kp x h1
    exact ⟨h3, fun e => h4 (by rw [e]; simp), fun e => h4 (by rw [e]; simp), h2⟩
  refine q H' ⟨B1, ln1, lv1, a1, lvs1, rows1, levels1⟩ ⟨B, ln, lv, a, lvs, zs, levels⟩ ths' xs' rfl rfl rfl ?_ k
  have nd := S1.bk.nd
  rw [List.nodup_cons, List.nodup_cons, List.nodup_cons] at nd
  have o1 : Bk c H' L d l ths' B1 ln1 lv1 lvs1 a1 rows1 levels1 := by
    refine Bk.kp S1.bk k hpre (fun x hx z => ?_) (Bk.notB T S1.bk S1.la fun x hx => ?_)
    · rcases List.mem_cons.mp hx with e | e
      · rcases List.mem_cons.mp z with r | r
        · exact nd.1 (by rw [← r, e]; simp)
        · exact nd.2.1 (by rw [← e]; exact List.mem_cons_of_mem _ r)
      · have e := List.mem_singleton.mp e
        rcases List.mem_cons.mp z with r | r
        · exact nd.1 (by rw [← r, e]; simp)
        · exact nd.2.2.1 (by rw [← e]; exact r)
    · rcases List.mem_cons.mp hx with e | e
      · exact .inr e
      · rw [List.mem_singleton.mp e]; exact .inl ⟨_, S1.la.ls⟩
  have h1 : ∀ x ∈ a1 :: ln1 :: lv1 :: lvs1, (∃ o, H x = some o) ∧ H0 x = none := fun x hx => by
    obtain ⟨ys, h⟩ := S1.bk.lists x hx
    refine ⟨⟨_, h⟩, fr1 x ?_⟩
    rcases List.mem_cons.mp hx with e | e
    · rw [e]; simp
    · exact List.mem_cons_of_mem _ (List.mem_cons_of_mem _ (List.mem_cons_of_mem _ e))
  have hn2 := S2.hn
  have ht2 := S2.ht
  refine ⟨S2.la, o1, S2.bk, fun x hx z => ?_, S2.ex, fun x hx => ?_, fun x hx => ⟨(S2.kp x hx).1, fun z => ?_⟩, S1.hn, by show zs.length ≤ n; exact hl, by omega⟩
  · rcases List.mem_cons.mp z with e | z
    · have e : x = a := e
      rw [e] at hx
      refine na ?_
      rcases List.mem_cons.mp hx with r | r
      · rw [show a = a1 from r]; simp
      · exact List.mem_cons_of_mem _ (List.mem_cons_of_mem _ (List.mem_cons_of_mem _ r))
    · obtain ⟨⟨o, h⟩, _⟩ := h1 x hx
      rw [hf x z] at h
      cases h
  · rcases hx with e | e | e | e
    · rw [e]; exact fd
    · rw [e]; exact fl
    · exact (h1 x e).2
    · refine S2.fr x ?_
      rcases List.mem_cons.mp e with r | r
      · rw [show x = a from r]; simp
      · exact List.mem_cons_of_mem _ (List.mem_cons_of_mem _ (List.mem_cons_of_mem _ r))
  · have n1 := (S1.kp x (hk' x hx).1).2
    have n2 := (S2.kp x hx).2
    rcases z with e | e | e | e
    · exact n1 (by rw [e]; simp)
    · exact n1 (by rw [e]; simp)
    · rcases List.mem_cons.mp e with r | r
      · exact n1 (by rw [show x = a1 from r]; simp)
      · exact n1 (List.mem_cons_of_mem _ (List.mem_cons_of_mem _ (List.mem_cons_of_mem _ r)))
    · rcases List.mem_cons.mp e with r | r
      · exact n2 (by rw [show x = a from r]; simp)
      · exact n2 (List.mem_cons_of_mem _ (List.mem_cons_of_mem _ (List.mem_cons_of_mem _ r)))
end
end Tw

namespace Tw
open PySem L2 Ts Mix
/-- rows told, and a copy of them -/
structure Bsd where
  t : Addr
  x : Addr
  y : Addr
  r : List Str
structure BOk (K : PySem.W.Frag) (H : Hp) (keep : List Addr) (q : Addr) (b : Bsd) : Prop where
  ht : H b.t = some (.tup [.ref b.x, .ref b.y])
  hx : H b.x = some (.lst (b.r.map V.str))
  hy : H b.y = some (.lst (b.r.map V.str))
  g : ∀ z ∈ b.r, Good z
  kt : b.t ∈ keep ∧ b.x ∈ keep ∧ b.y ∈ keep
  nx : b.x ≠ q ∧ b.y ≠ q ∧ b.t ≠ q
theorem BOk.step {K : PySem.W.Frag} {H H' : Hp} {keep keep' : List Addr} {q : Addr} {b : Bsd} (h : BOk K H keep q b) (k : ∀ x o, x ∈ keep → H x = some o → H' x = some o) (s : ∀ x ∈ keep, x ∈ keep') : BOk K H' keep' q b :=
  ⟨k _ _ h.kt.1 h.ht, k _ _ h.kt.2.1 h.hx, k _ _ h.kt.2.2 h.hy, h.g, ⟨s _ h.kt.1, s _ h.kt.2.1, s _ h.kt.2.2⟩, h.nx⟩
def N_law : List Str := ["_law_script", "_law_ledger", "_law_kept", "_law_handed", "_law_books", "_law_beside", "_law_cell", "_law_turn", "_law_deed_here", "_law_many", "_law_due_here", "_law_found", "_law_told", "_law_rows_here", "_law_one"]
def t_law (K : PySem.W.Frag) (c : Cs) (E : XK) : TS := (tSeq (tAsg (tMake c.Ledger (sp_Ledger_init K c) [] E0 tNil) (gName 1))
  (tSeq (tAsg (tLst (tCons (tCall (sp_law_rows K c) [] E0 (tCons (tCall (sp_law_cell_at K c) [] E0 (tCons (tVar 0) (tCons (tC (.int 0)) tNil))) (tCons (tCall (sp_law_cell_at K c) [] E0 (tCons (tVar 0) (tCons (tC (.int 1)) tNil))) tNil))) tNil)) (gName 2))
  (tSeq (tDrop (tBM K "list" rAppend (tVar 2) (tCons (tCall (sp_law_rows K c) [] E0 (tCons (tCall (sp_law_cell_at K c) [] E0 (tCons (tVar 0) (tCons (tC (.int 2)) tNil))) (tCons (tCall (sp_law_cell_at K c) [] E0 (tCons (tVar 0) (tCons (tC (.int 1)) tNil))) tNil))) tNil)))
  (Evl.tCut (tIfS (tTest (tOp (rEqU K) (tOp rMod (tCall (sp_law_cell_at K c) [] E0 (tCons (tVar 0) (tCons (tC (.int 2)) tNil))) (tC (.int 3))) (tC (.int 1)))) (tAsg (tCB (rListOf K) (tCons (tOp (rIx K) (tVar 2) (tC (.int 0))) tNil)) (gSub (tVar 2) (tC (.int 1)) rSetL)) tNext)
  (tSeq (tAsg (tLc (iList K (tVar 2)) (gName 13) tYes (tCB (rListOf K) (tCons (tVar 13) tNil)) [13]) (gName 3))
  (tSeq (tAsg (tLc (iList K (tVar 3)) (gName 13) tYes (tMake c.Book (sp_Book_init K c) [] E0 (tCons (tVar 1) (tCons (tVar 13) tNil))) [13]) (gName 4))
  (tSeq (tDrop (tBM K "list" rAppend (tOp (rIx K) (tVar 3) (tC (.int 0))) (tCons (tC (.str "zz")) tNil)))
  (tSeq (tDrop (tBM0 K "list" rClear (tOp (rIx K) (tVar 3) (tC (.int 1)))))
  (tSeq (tAsg (tLst tNil) (gName 5))
  (tSeq (tFor (iList K (tSl (rSlU K) (tVar 0) (tPart (tC (.int 3))) (tPart (tOp rAddU (tC (.int 3)) (tCall (sp_law_room K c) [] E0 (tCons (tVar 0) (tCons (tC (.int 16)) (tCons (tC (.int 40)) tNil)))))))) (gName 6) (tSeq (tAsg (tOp rMod (tVar 6) (tC (.int 2))) (gName 7))
  (tSeq (tAsg (tCall (sp_law_drawn K c) [] E0 (tCons (tOp (rIx K) (tVar 2) (tVar 7)) (tCons (tOp rDiv (tVar 6) (tC (.int 2))) tNil))) (gName 8))
  (tSeq (tAsg (tMeth c.Ledger "many" (sp_Ledger_many K c) [] E0 (tVar 1) tNil) (gName 9))
  (tSeq (tAsg (tCall (sp_law_due K c) [] E0 (tCons (tOp (rIx K) (tVar 2) (tVar 7)) (tCons (tVar 8) tNil))) (gName 10))
  (tSeq (tAsg (tCall (sp_law_deed K c) [] E0 (tCons (tOp (rIx K) (tVar 4) (tVar 7)) (tCons (tVar 8) tNil))) (gName 11))
  (Evl.tCut (tIfS (tOr (tTest (tOp (rNeU K) (tVar 11) (tVar 10))) (tAnd (tB (tCB (rIsi K) (tCons (tVar 10) (tCons (tC (.ty "tuple")) tNil)))) (tTest (tOp (rNeU K) (tMeth c.Ledger "many" (sp_Ledger_many K c) [] E0 (tVar 1) tNil) (tVar 9))))) (tRet (tC (.bl false))) tNext)
  (Evl.tCut (tIfS (tAnd (tNot (tB (tCB (rIsi K) (tCons (tVar 10) (tCons (tC (.ty "tuple")) tNil))))) (tNot (tB (tCall (sp_law_whole K c) [] E0 (tCons (tVar 11) tNil))))) (tRet (tC (.bl false))) tNext)
  (Evl.tCut (tIfS (tAnd (tNot (tB (tCB (rIsi K) (tCons (tVar 10) (tCons (tC (.ty "tuple")) tNil))))) (tTest (tOp rGt (tOp rSubI (tMeth c.Ledger "many" (sp_Ledger_many K c) [] E0 (tVar 1) tNil) (tVar 9)) (tOp rMul (tVar 10) (tCB rInt1 (tCons (tOp (rNeU K) (tOp (rIx K) (tVar 8) (tC (.int 0))) (tC (.str "cut"))) tNil)))))) (tRet (tC (.bl false))) tNext)
  (Evl.tCut (tIfS (tAnd (tTest (tOp (rEqU K) (tVar 10) (tTup (tCons (tC (.str "NoPlace")) tNil)))) (tNot (tB (tCall (sp_law_again K c) [] E0 (tCons (tOp (rIx K) (tVar 4) (tVar 7)) (tCons (tOp (rIx K) (tVar 2) (tVar 7)) (tCons (tVar 8) tNil))))))) (tRet (tC (.bl false))) tNext)
  (tSeq (tAsg (tMeth c.Book "rows" (sp_Book_rows K c) [] E0 (tOp (rIx K) (tVar 4) (tVar 7)) tNil) (gName 12))
  (tSeq (tDrop (tBM K "list" rAppend (tVar 5) (tCons (tTup (tCons (tVar 12) (tCons (tCB (rListOf K) (tCons (tVar 12) tNil)) tNil))) tNil)))
  (tSeq (tDrop (tBM K "list" rAppend (tMeth c.Book "rows" (sp_Book_rows K c) [] E0 (tOp (rIx K) (tVar 4) (tOp rSubI (tC (.int 1)) (tVar 7))) tNil) (tCons (tC (.str "zz")) tNil)))
  (tIfS (tOr (tNot (tB (tCall (sp_law_same K c) [] E0 (tCons (tOp (rIx K) (tVar 4) (tC (.int 0))) (tCons (tOp (rIx K) (tVar 2) (tC (.int 0))) (tCons (tVar 6) tNil)))))) (tNot (tB (tCall (sp_law_same K c) [] E0 (tCons (tOp (rIx K) (tVar 4) (tC (.int 1))) (tCons (tOp (rIx K) (tVar 2) (tC (.int 1))) (tCons (tVar 6) tNil))))))) (tRet (tC (.bl false))) tNext))))))))))))))
  (tRet (tOp (rEqU K) (tLc (iList K (tVar 5)) (gName 14) (tTest (tOp (rNeU K) (tOp (rIx K) (tVar 14) (tC (.int 0))) (tOp (rIx K) (tVar 14) (tC (.int 1))))) (tVar 14) [14]) (tLst tNil)))))))))))))
def sp_law (K : PySem.W.Frag) (_ : Cs) : Sp := fun vs H Q _ => ∃ (a : Addr) (ns : List Int), vs = [.ref a] ∧ SqL K H a (ns.map V.int) ∧ ns.length ≤ 63 ∧ ∀ H', Q (.bl true) H'
theorem len_law {K c} : ∀ vs H Q E, sp_law K c vs H Q E → vs.length = 1 := by rintro vs H Q E ⟨a, ns, rfl, _⟩; rfl
theorem pure_law {K : PySem.W.Frag} {c : Cs} {vs : List V} {H : Hp} {Q : VK} {E : XK} (T : TxK K c) (h : sp_law K c vs H Q E) : t_law K c E ⟨fun _ H' => Q .non H', Q, fun _ _ => False, fun _ _ => False⟩ (start N_law vs) H := by
  obtain ⟨s, ns, rfl, hs, hlen, q⟩ := h
  show t_law K c E _ [some (.ref s), none, none, none, none, none, none, none, none, none, none, none, none, none, none] H
  unfold t_law
  walk_at "s"
  refine new_ledger fun L d l H1 fL fd fl L1 e1 => ?_
  walk_at "s"
  refine ⟨s, ns, 0, rfl, sql_ex e1 hs, fun z0 => ?_⟩
  walk_at "s"
  refine ⟨s, ns, 1, rfl, sql_ex e1 hs, fun z1 => ?_⟩
  walk_at "s"
  refine ⟨z0, z1, rfl, fun a1 zs1 H2 N1 hz1 => ?_⟩
  walk_at "s"
  refine ⟨by show 1 ≤ sizeLine; exact sz100 (by decide), fun kl hkl => ?_⟩
  have L2' := L1.ex N1.ex
  have e2 := e1.trans N1.ex
  have na1 : a1 ≠ d ∧ a1 ≠ l := ⟨fun e => by have := N1.new; rw [e, L1.dc] at this; (cases this), fun e => by have := N1.new; rw [e, L1.ls] at this; (cases this)⟩
  have nkl : kl ≠ d ∧ kl ≠ l ∧ kl ≠ a1 := ⟨fun e => by rw [e, L2'.dc] at hkl; (cases hkl), fun e => by rw [e, L2'.ls] at hkl; (cases hkl), fun e => by rw [e, N1.at'] at hkl; (cases hkl)⟩
  have fa1 := ex_free e1 N1.new
  have fkl := ex_free e2 hkl
  have e3 := ex_new (o := .lst [.ref a1]) e2 hkl
  have e23 := ex_new (o := .lst [.ref a1]) ex_refl hkl
  have la3 := L2'.ex e23
  have h31 := e23 _ _ N1.at'
  have k3 : (upd H2 kl (.lst [.ref a1])) kl = some (.lst [.ref a1]) := upd_same
  generalize upd H2 kl (.lst [.ref a1]) = H3 at e3 e23 la3 h31 k3
  have gz1 := N1.good
  clear L2' e23 N1 e2 hkl L1 e1
  walk_at "s"
  refine ⟨w_tyL (sql k3), ?_⟩
  walk_at "s"
  refine ⟨s, ns, 2, rfl, sql_ex e3 hs, fun z2 => ?_⟩
  walk_at "s"
  refine ⟨s, ns, 1, rfl, sql_ex e3 hs, fun z1' => ?_⟩
  walk_at "s"
  refine ⟨z2, z1', rfl, fun a2 zs2 H4 N2 hz2 => ?_⟩
  have na2 : a2 ≠ d ∧ a2 ≠ l ∧ a2 ≠ a1 ∧ a2 ≠ kl := ⟨fun e => by have := N2.new; rw [e, la3.dc] at this; (cases this), fun e => by have := N2.new; rw [e, la3.ls] at this; (cases this), fun e => by have := N2.new; rw [e, h31] at this; (cases this), fun e => by have := N2.new; rw [e, k3] at this; (cases this)⟩
  walk_at "s"
  refine w_app (N2.ex _ _ k3) (szL (by show 1 < 1000000; decide)) ?_
  have e4 := e3.trans N2.ex
  have fa2 := ex_free e3 N2.new
  have kk4 : Kp [kl] H4 (upd H4 kl (.lst ([V.ref a1] ++ [.ref a2]))) := Kp.refl.set (by simp)
  have k4 : (upd H4 kl (.lst ([V.ref a1] ++ [.ref a2]))) kl = some (.lst [.ref a1, .ref a2]) := upd_same
  have e5 : Ex H (upd H4 kl (.lst ([V.ref a1] ++ [.ref a2]))) := ex_mut e4 fkl
  have h51 : (upd H4 kl (.lst ([V.ref a1] ++ [.ref a2]))) a1 = some (.lst (zs1.map V.str)) := kk4 _ _ (N2.ex _ _ h31) (by simpa using Ne.symm nkl.2.2)
  have h52 : (upd H4 kl (.lst ([V.ref a1] ++ [.ref a2]))) a2 = some (.lst (zs2.map V.str)) := kk4 _ _ N2.at' (by simpa using na2.2.2.2)
  have la5 : LedgerAt c (upd H4 kl (.lst ([V.ref a1] ++ [.ref a2]))) L d l [] [] := (la3.ex N2.ex).kp T kk4 fun x hx => by
    rw [List.mem_singleton.mp hx]
    exact ⟨nkl.1, nkl.2.1, fun o ho => by rw [N2.ex _ _ k3] at ho; cases ho; exact ⟨_, rfl⟩⟩
  generalize upd H4 kl (.lst ([V.ref a1] ++ [.ref a2])) = H5 at k4 e5 h51 h52 la5
  have gz2 := N2.good
  clear kk4 e4 e3 N2 k3 la3 h31
  walk_at "s"
  refine w_cut (Mid := fun σ' H' => ∃ (a2 : Addr) (zs2 : List Str), σ' = [some (.ref s), some (.ref L), some (.ref kl), none, none, none, none, none, none, none, none, none, none, none, none] ∧ H' kl = some (.lst [.ref a1, .ref a2]) ∧ Ex H H' ∧ H' a1 = some (.lst (zs1.map V.str)) ∧ H' a2 = some (.lst (zs2.map V.str)) ∧ LedgerAt c H' L d l [] [] ∧
      (∀ z ∈ zs2, Good z) ∧ zs2.length ≤ 900 ∧ a2 ≠ d ∧ a2 ≠ l ∧ a2 ≠ a1 ∧ a2 ≠ kl ∧ H a2 = none) ?_ ?_
  · walk_at "s"
    refine ⟨s, ns, 2, rfl, sql_ex e5 hs, fun z => ?_⟩
    walk_at "s"
    refine ite_d (fun h0 => ?_) fun h0 => ?_
    · walk_at "s"
      refine w_ixL (v := .ref a1) (sql k4) rfl ?_
      walk_at "s"
      refine w_listL (sql h51) fun a3 ha3 => ?_
      have x6 := ex_new (o := .lst (zs1.map V.str)) ex_refl ha3
      have c6 : (upd H5 a3 (.lst (zs1.map V.str))) a3 = some (.lst (zs1.map V.str)) := upd_same
      have na3 : a3 ≠ d ∧ a3 ≠ l ∧ a3 ≠ a1 ∧ a3 ≠ kl := ⟨fun e => by rw [e, la5.dc] at ha3; (cases ha3), fun e => by rw [e, la5.ls] at ha3; (cases ha3), fun e => by rw [e, h51] at ha3; (cases ha3), fun e => by rw [e, k4] at ha3; (cases ha3)⟩
      have fa3 := ex_free e5 ha3
      have e6 := e5.trans x6
      have la6 := la5.ex x6
      have k6 := x6 _ _ k4
      have h61 := x6 _ _ h51
      generalize upd H5 a3 (.lst (zs1.map V.str)) = H6 at x6 c6 e6 la6 k6 h61
      walk_at "s"
      refine w_setL (i := 1) k6 (by show 1 < 2; decide) ?_
      have kk7 : Kp [kl] H6 (upd H6 kl (.lst ([V.ref a1, V.ref a2].set 1 (.ref a3)))) := Kp.refl.set (by simp)
      exact ⟨a3, zs1, rfl, upd_same, ex_mut e6 fkl, kk7 _ _ h61 (by simpa using Ne.symm nkl.2.2), kk7 _ _ c6 (by simpa using na3.2.2.2), la6.kp T kk7 fun x hx => by
        rw [List.mem_singleton.mp hx]
        exact ⟨nkl.1, nkl.2.1, fun o ho => by rw [k6] at ho; cases ho; exact ⟨_, rfl⟩⟩, gz1, hz1, na3.1, na3.2.1, na3.2.2.1, na3.2.2.2, fa3⟩
    · walk_at "s"
      exact ⟨a2, zs2, rfl, k4, e5, h51, h52, la5, gz2, hz2, na2.1, na2.2.1, na2.2.2.1, na2.2.2.2, fa2⟩
  clear k4 e5 h51 h52 la5 gz2 hz2 na2 fa2
  rintro σ H6 ⟨a2, zs2, rfl, k6, e6, h61, h62, la6, gz2, hz2, n2d, n2l, n21, n2k, fa2⟩
  walk_at "s"
  -- copies of both
  refine ⟨_, rfl, ⟨_, sql k6⟩, fun hl hhl => ?_⟩
  refine lcb_list (xs := [.ref a1, .ref a2]) (fun i H' => Ex H6 H' ∧ ∃ h1 h2, H' hl = some (.lst ([V.ref h1, V.ref h2].take i)) ∧ (1 ≤ i → H6 h1 = none ∧ H' h1 = some (.lst (zs1.map V.str)) ∧ h1 ≠ hl) ∧ (2 ≤ i → H6 h2 = none ∧ H' h2 = some (.lst (zs2.map V.str)) ∧ h2 ≠ hl)) ⟨ex_new ex_refl hhl, a1, a1, upd_same, fun h => by omega, fun h => by omega⟩ (fun i H' _ h => sql (h.1 _ _ k6)) ?_ ?_
  · rintro i x H7 hi ⟨e7, h1, h2, hD, p1, p2⟩
    have hi2 := get_lt hi
    have i2 : i = 0 ∨ i = 1 := by have : i < 2 := hi2; omega
    rcases i2 with rfl | rfl
    · cases hi
      show gName 13 _ [some (.ref s), some (.ref L), some (.ref kl), none, none, none, none, none, none, none, none, none, none, none, none] _ _
      refine ⟨rfl, ?_⟩
      refine w_yes ?_
      rw [if_pos rfl]
      show tCB _ _ [some (.ref s), some (.ref L), some (.ref kl), none, none, none, none, none, none, none, none, none, none, some (.ref a1), none] _ _
      walk_at "s"
      refine w_listL (sql (e7 _ _ h61)) fun p hp => ?_
      have np : hl ≠ p := ne_new hD hp
      have e8 := ex_new (o := .lst (zs1.map V.str)) e7 hp
      refine ⟨_, by rw [upd_ne np]; exact hD, by show 0 < sizeLine; decide, ex_mut e8 hhl, p, a1, upd_same, fun _ => ⟨ex_free e7 hp, by rw [upd_ne (Ne.symm np), upd_same], Ne.symm np⟩, fun h => by omega⟩
    · cases hi
      obtain ⟨f1, c1, n1⟩ := p1 (by omega)
      show gName 13 _ [some (.ref s), some (.ref L), some (.ref kl), none, none, none, none, none, none, none, none, none, none, none, none] _ _
      refine ⟨rfl, ?_⟩
      refine w_yes ?_
      rw [if_pos rfl]
      show tCB _ _ [some (.ref s), some (.ref L), some (.ref kl), none, none, none, none, none, none, none, none, none, none, some (.ref a2), none] _ _
      walk_at "s"
      refine w_listL (sql (e7 _ _ h62)) fun p hp => ?_
      have np : hl ≠ p := ne_new hD hp
      have n1p : h1 ≠ p := ne_new c1 hp
      have e8 := ex_new (o := .lst (zs2.map V.str)) e7 hp
      refine ⟨_, by rw [upd_ne np]; exact hD, by show 1 < sizeLine; decide, ex_mut e8 hhl, h1, p, upd_same, fun _ => ⟨f1, by rw [upd_ne n1, upd_ne n1p]; exact c1, n1⟩, fun _ => ⟨ex_free e7 hp, by rw [upd_ne (Ne.symm np), upd_same], Ne.symm np⟩⟩
  rintro H7 ⟨e67, h1, h2, chl, p1, p2⟩
  obtain ⟨f1, c1, nh1⟩ := p1 (by show 1 ≤ 2; omega)
  obtain ⟨f2, c2, nh2⟩ := p2 (by show 2 ≤ 2; omega)
  have chl : H7 hl = some (.lst [.ref h1, .ref h2]) := chl
  clear p1 p2
  have ne6 : ∀ {x y : Addr} {o : HO}, H6 x = some o → H6 y = none → x ≠ y := fun h f => ne_new h f
  have nh1d : h1 ≠ d ∧ h1 ≠ l := ⟨Ne.symm (ne6 la6.dc f1), Ne.symm (ne6 la6.ls f1)⟩
  have nh2d : h2 ≠ d ∧ h2 ≠ l := ⟨Ne.symm (ne6 la6.dc f2), Ne.symm (ne6 la6.ls f2)⟩
  have nhld : hl ≠ d ∧ hl ≠ l := ⟨Ne.symm (ne6 la6.dc hhl), Ne.symm (ne6 la6.ls hhl)⟩
  have n1h : h1 ≠ a1 ∧ h1 ≠ a2 ∧ h1 ≠ kl := ⟨Ne.symm (ne6 h61 f1), Ne.symm (ne6 h62 f1), Ne.symm (ne6 k6 f1)⟩
  have n2h : h2 ≠ a1 ∧ h2 ≠ a2 ∧ h2 ≠ kl := ⟨Ne.symm (ne6 h61 f2), Ne.symm (ne6 h62 f2), Ne.symm (ne6 k6 f2)⟩
  have nlh : hl ≠ a1 ∧ hl ≠ a2 ∧ hl ≠ kl := ⟨Ne.symm (ne6 h61 hhl), Ne.symm (ne6 h62 hhl), Ne.symm (ne6 k6 hhl)⟩
  have fh1 := ex_free e6 f1
  have fh2 := ex_free e6 f2
  have la7 := la6.ex e67
  have k7 := e67 _ _ k6
  have h71 := e67 _ _ h61
  have h72 := e67 _ _ h62
  have e7 := e6.trans e67
  clear ne6 f1 f2 hhl la6 h61 h62 k6 e6 e67
  walk_at "s"
  -- two books of them
  refine ⟨_, rfl, ⟨_, sql chl⟩, fun bl hbl => ?_⟩
  have fbl := ex_free e7 hbl
  have nbl : bl ≠ d ∧ bl ≠ l ∧ bl ≠ a1 ∧ bl ≠ a2 ∧ bl ≠ kl ∧ bl ≠ hl ∧ bl ≠ h1 ∧ bl ≠ h2 := ⟨Ne.symm (ne_new la7.dc hbl), Ne.symm (ne_new la7.ls hbl), Ne.symm (ne_new h71 hbl), Ne.symm (ne_new h72 hbl), Ne.symm (ne_new k7 hbl), Ne.symm (ne_new chl hbl), Ne.symm (ne_new c1 hbl), Ne.symm (ne_new c2 hbl)⟩
  refine lcb_list (xs := [.ref h1, .ref h2]) (fun i H' => H' hl = some (.lst [.ref h1, .ref h2]) ∧ H' kl = some (.lst [.ref a1, .ref a2]) ∧ H' h1 = some (.lst (zs1.map V.str)) ∧ H' h2 = some (.lst (zs2.map V.str)) ∧ 
      ((i = 0 ∧ Ex H7 H' ∧ H' bl = some (.lst [])) ∨ (i = 1 ∧ ∃ B ln lv lvs ths xs levels, H' bl = some (.lst [.ref B]) ∧ H' a2 = some (.lst (zs2.map V.str)) ∧ One c H H' L d l B ln lv a1 [a2, bl, hl, kl, h1, h2] lvs ths xs zs1 levels 909 15500) ∨ (i = 2 ∧ ∃ b1 b2 ths xs, b1.a = a1 ∧ b2.a = a2 ∧ H' bl = some (.lst [.ref b1.B, .ref b2.B]) ∧ Two c H H' L d l [bl, hl, kl, h1, h2] b1 b2 ths xs 909 30953)))
    ⟨by rw [upd_ne (Ne.symm nbl.2.2.2.2.2.1)]; exact chl, by rw [upd_ne (Ne.symm nbl.2.2.2.2.1)]; exact k7, by rw [upd_ne (Ne.symm nbl.2.2.2.2.2.2.1)]; exact c1, by rw [upd_ne (Ne.symm nbl.2.2.2.2.2.2.2)]; exact c2, .inl ⟨rfl, ex_new ex_refl hbl, upd_same⟩⟩ (fun i H' _ h => sql h.1) ?_ ?_
  · rintro i x H8 hi ⟨q1, q2, q3, q4, cs⟩
    have hi2 : i < 2 := get_lt hi
    rcases cs with ⟨rfl, e8, hD⟩ | ⟨rfl, B1, ln1, lv1, lvs1, ths1, xs1, lev1, hD, ha2, S1⟩ | ⟨rfl, _⟩
    · cases hi
      show gName 13 _ [some (.ref s), some (.ref L), some (.ref kl), some (.ref hl), none, none, none, none, none, none, none, none, none, none, none] _ _
      refine ⟨rfl, ?_⟩
      refine w_yes ?_
      rw [if_pos rfl]
      refine w_make ?_
      show tCons _ _ [some (.ref s), some (.ref L), some (.ref kl), some (.ref hl), none, none, none, none, none, none, none, none, none, some (.ref h1), none] _ _
      walk_at "s"
      have ex8 := e7.trans e8
      refine make_oneG (keep := [a2, bl, hl, kl, h1, h2]) (la7.ex e8) T ex8 ⟨fd, fl, fa1⟩ (e8 _ _ h71) na1 gz1 (by omega) (by show 0 < 400000; decide) q3 nh1d (fun x hx => ?_) fun H9 B ln lv lvs ths xs levels S k9 hf _ => ?_
      · simp only [List.mem_cons, List.not_mem_nil, or_false] at hx
        rcases hx with e | e | e | e | e | e
        · rw [e]; exact ⟨⟨_, e8 _ _ h72⟩, n2d, n2l, n21⟩
        · rw [e]; exact ⟨⟨_, hD⟩, nbl.1, nbl.2.1, nbl.2.2.1⟩
        · rw [e]; exact ⟨⟨_, q1⟩, nhld.1, nhld.2, nlh.1⟩
        · rw [e]; exact ⟨⟨_, q2⟩, nkl.1, nkl.2.1, nkl.2.2⟩
        · rw [e]; exact ⟨⟨_, q3⟩, nh1d.1, nh1d.2, n1h.1⟩
        · rw [e]; exact ⟨⟨_, q4⟩, nh2d.1, nh2d.2, n2h.1⟩
      have m : ∀ {x : Addr} {o : HO}, x ≠ d ∧ x ≠ l → H8 x = some o → H9 x = some o := fun n h => k9 _ _ h (by simp; exact n)
      have r0 := m ⟨nbl.1, nbl.2.1⟩ hD
      have r1 := m nhld q1
      have r2 := m ⟨nkl.1, nkl.2.1⟩ q2
      have r3 := m nh1d q3
      have r4 := m nh2d q4
      have r5 := m ⟨n2d, n2l⟩ (e8 _ _ h72)
      have S' := S.side T (p := bl) (by simp) fbl r0 (.lst ([] ++ [.ref B]))
      have ht := S'.ht
      simp at ht
      exact ⟨_, r0, by decide, by rw [upd_ne (Ne.symm nbl.2.2.2.2.2.1)]; exact r1, by rw [upd_ne (Ne.symm nbl.2.2.2.2.1)]; exact r2, by rw [upd_ne (Ne.symm nbl.2.2.2.2.2.2.1)]; exact r3, by rw [upd_ne (Ne.symm nbl.2.2.2.2.2.2.2)]; exact r4,
        .inr (.inl ⟨rfl, B, ln, lv, lvs, ths, xs, levels, upd_same, by rw [upd_ne (Ne.symm nbl.2.2.2.1)]; exact r5, S'.la, S'.bk, S'.ex, S'.fr, S'.kp, by omega, by omega⟩)⟩
    · cases hi
      show gName 13 _ [some (.ref s), some (.ref L), some (.ref kl), some (.ref hl), none, none, none, none, none, none, none, none, none, none, none] _ _
      refine ⟨rfl, ?_⟩
      refine w_yes ?_
      rw [if_pos rfl]
      refine w_make ?_
      show tCons _ _ [some (.ref s), some (.ref L), some (.ref kl), some (.ref hl), none, none, none, none, none, none, none, none, none, some (.ref h2), none] _ _
      walk_at "s"
      refine make_twoG (keep' := [bl, hl, kl, h1, h2]) T S1 (by simp) fa2 ha2 gz2 (by omega) (by decide) (by decide) q4 nh2d (fun x hx => ?_) fun H9 b1 b2 ths xs u1 u2 u3 S k9 => ?_
      · simp only [List.mem_cons, List.not_mem_nil, or_false] at hx
        rcases hx with e | e | e | e | e
        · rw [e]; exact ⟨by simp, nbl.2.2.2.1⟩
        · rw [e]; exact ⟨by simp, nlh.2.1⟩
        · rw [e]; exact ⟨by simp, Ne.symm n2k⟩
        · rw [e]; exact ⟨by simp, n1h.2.1⟩
        · rw [e]; exact ⟨by simp, n2h.2.1⟩
      have m : ∀ {x : Addr} {o : HO}, x ≠ d ∧ x ≠ l → H8 x = some o → H9 x = some o := fun n h => k9 _ _ h (by simp; exact n)
      have r0 := m ⟨nbl.1, nbl.2.1⟩ hD
      have r1 := m nhld q1
      have r2 := m ⟨nkl.1, nkl.2.1⟩ q2
      have r3 := m nh1d q3
      have r4 := m nh2d q4
      have S' := S.side T (p := bl) (by simp) fbl r0 (.lst ([.ref B1] ++ [.ref b2.B]))
      exact ⟨_, r0, by show 1 < sizeLine; decide, by rw [upd_ne (Ne.symm nbl.2.2.2.2.2.1)]; exact r1, by rw [upd_ne (Ne.symm nbl.2.2.2.2.1)]; exact r2, by rw [upd_ne (Ne.symm nbl.2.2.2.2.2.2.1)]; exact r3, by rw [upd_ne (Ne.symm nbl.2.2.2.2.2.2.2)]; exact r4,
        .inr (.inr ⟨rfl, b1, b2, ths, xs, u2, u3, by rw [upd_same, u1]; rfl, S'⟩)⟩
    · omega
  rintro H8 ⟨q1, q2, q3, q4, cs⟩
  rcases cs with ⟨h, _⟩ | ⟨h, _⟩ | ⟨_, b1, b2, ths, xs, ea1, ea2, tb8, S8⟩
  · cases h
  · cases h
  rw [← ea1, ← ea2] at q2
  clear hbl h71 h72 k7 e7 la7 c1 c2 chl
  walk_at "s"
  -- what was handed in is changed
  refine w_ixL (v := .ref h1) (sql q1) rfl ?_
  walk_at "s"
  refine ⟨w_tyL (sql q3), ?_⟩
  walk_at "s"
  refine w_app q3 (by rw [List.length_map]; exact szL (by omega)) ?_
  have S9 := S8.side T (p := h1) (by simp) fh1 q3 (.lst (zs1.map V.str ++ [.str "zz"]))
  have kk9 : Kp [h1] H8 (upd H8 h1 (.lst (zs1.map V.str ++ [.str "zz"]))) := Kp.refl.set (by simp)
  have q1 := kk9 _ _ q1 (by simpa using Ne.symm nh1)
  have q2 := kk9 _ _ q2 (by simpa using Ne.symm n1h.2.2)
  have tb9 := kk9 _ _ tb8 (by simpa using nbl.2.2.2.2.2.2.1)
  obtain ⟨ys, q4⟩ : ∃ ys, (upd H8 h1 (.lst (zs1.map V.str ++ [.str "zz"]))) h2 = some (.lst ys) := by
    by_cases e : h2 = h1
    · rw [e]; exact ⟨_, upd_same⟩
    · exact ⟨_, kk9 _ _ q4 (by simpa using e)⟩
  generalize upd H8 h1 (.lst (zs1.map V.str ++ [.str "zz"])) = H9 at S9 q1 q2 tb9 q4
  clear S8 q3 kk9 tb8
  walk_at "s"
  refine w_ixL (v := .ref h2) (sql q1) rfl ?_
  walk_at "s"
  refine ⟨w_tyL (sql q4), ?_⟩
  refine ⟨h2, ys, rfl, rfl, q4, ?_⟩
  have S10 := S9.side T (p := h2) (by simp) fh2 q4 (.lst [])
  have kk10 : Kp [h2] H9 (upd H9 h2 (.lst [])) := Kp.refl.set (by simp)
  have tk10 := kk10 _ _ q2 (by simpa using Ne.symm n2h.2.2)
  have tb10 := kk10 _ _ tb9 (by simpa using nbl.2.2.2.2.2.2.2)
  generalize upd H9 h2 (.lst []) = H10 at S10 tk10 tb10
  have S10 := S10.less (keep' := [bl, kl]) (fun x hx => by simp at hx ⊢; rcases hx with e | e <;> simp [e])
  clear S9 q1 q2 q4 tb9 kk10
  walk_at "s"
  refine ⟨Nat.zero_le _, fun bq hbq => ?_⟩
  have x11 := ex_new (o := .lst []) ex_refl hbq
  have fbq := ex_free S10.ex hbq
  have S11 := S10.more hbq x11 ⟨_, upd_same⟩
  have c11 : (upd H10 bq (.lst [])) bq = some (.lst []) := upd_same
  have tk11 := x11 _ _ tk10
  have tb11 := x11 _ _ tb10
  have nbq : bq ≠ bl ∧ bq ≠ kl := ⟨Ne.symm (ne_new tb10 hbq), Ne.symm (ne_new tk10 hbq)⟩
  generalize upd H10 bq (.lst []) = H11 at x11 S11 c11 tk11 tb11
  clear S10 hbq tk10 tb10 x11
  have hs11 := sql_ex S11.ex hs
  walk_at "s"
  refine ⟨s, ns, 16, 40, rfl, hs11, fun room _ => ?_⟩
  walk_at "s"
  refine w_slL hs11 fun p hp => ?_
  obtain ⟨ms, em, hm⟩ := cutV_ints ns (some 3) (some (3 + (room : Nat)))
  rw [em]
  have x12 := ex_new (o := .lst (ms.map V.int)) ex_refl hp
  have S12 := S11.more hp x12 ⟨_, upd_same⟩
  have c12 : (upd H11 p (.lst (ms.map V.int))) p = some (.lst (ms.map V.int)) := upd_same
  have np : p ≠ bq := Ne.symm (ne_new c11 hp)
  have tk12 := x12 _ _ tk11
  have tb12 := x12 _ _ tb11
  have q12 := x12 _ _ c11
  generalize upd H11 p (.lst (ms.map V.int)) = H12 at x12 S12 c12 tk12 tb12 q12
  clear S11 hp x12 tk11 tb11 c11 em hs11
  refine w_iLv (sql c12) (lb_list (K := K) (xs := ms.map V.int) (fun i σ H' => (∃ v6 v7 v8 v9 v10 v11 v12, σ = [some (.ref s), some (.ref L), some (.ref kl), some (.ref hl), some (.ref bl), some (.ref bq), v6, v7, v8, v9, v10, v11, v12, none, none]) ∧ H' p = some (.lst (ms.map V.int)) ∧
      H' kl = some (.lst [.ref b1.a, .ref b2.a]) ∧ H' bl = some (.lst [.ref b1.B, .ref b2.B]) ∧ ∃ (bs : List Bsd) (keep : List Addr) (c1 c2 : BR) (ths : List MK) (xs : List V), H' bq = some (.lst (bs.map fun b => V.ref b.t)) ∧ bs.length = i ∧ (∀ b ∈ bs, BOk K H' keep bq b) ∧ (p ∈ keep ∧ kl ∈ keep ∧ bl ∈ keep ∧ bq ∈ keep) ∧
      c1.B = b1.B ∧ c1.a = b1.a ∧ c2.B = b2.B ∧ c2.a = b2.a ∧ Two c H H' L d l keep c1 c2 ths xs (909 + i) (31000 + 54 * i))
      ⟨⟨_, _, _, _, _, _, _, rfl⟩, c12, tk12, tb12, [], [p, bq, bl, kl], b1, b2, ths, xs, q12, rfl, fun b hb => absurd hb List.not_mem_nil, by simp, rfl, rfl, rfl, rfl, S12.wide (by omega) (by omega)⟩ (fun i σ H' _ h => sql h.2.1) ?_ ?_)
  · rintro i y σ H13 hi ⟨⟨v6, v7, v8, v9, v10, v11, v12, rfl⟩, c13, tk13, tb13, bs, keep, c1, c2, ths, xs, q13, lbs, hbs, ⟨kp1, kp2, kp3, kp4⟩, u1, u2, u3, u4, S13⟩
    obtain ⟨m, hm1, rfl⟩ := get_map hi
    have hi63 := get_lt hm1
    obtain ⟨x1, x2, iB, ia, iO, S13, fin⟩ : ∃ x1 x2 : BR, atI [V.ref b1.B, V.ref b2.B] (m % 2) = some (.ref x1.B) ∧ atI [V.ref b1.a, V.ref b2.a] (m % 2) = some (.ref x1.a) ∧ atI [V.ref b1.B, V.ref b2.B] (1 - m % 2) = some (.ref x2.B) ∧ Two c H H13 L d l keep x1 x2 ths xs (909 + i) (31000 + 54 * i) ∧
        ∀ H' (y1 : BR) ths' xs' n' t' keep', y1.B = x1.B → y1.a = x1.a → Two c H H' L d l keep' y1 x2 ths' xs' n' t' → ∃ d1 d2 : BR, d1.B = b1.B ∧ d1.a = b1.a ∧ d2.B = b2.B ∧ d2.a = b2.a ∧ Two c H H' L d l keep' d1 d2 ths' xs' n' t' := by
      have r2 : m % 2 = 0 ∨ m % 2 = 1 := by omega
      rcases r2 with e | e
      · exact ⟨c1, c2, by rw [e, u1]; rfl, by rw [e, u2]; rfl, by rw [e, u3]; rfl, S13, fun H' y1 ths' xs' n' t' keep' e1 e2 S => ⟨y1, c2, e1.trans u1, e2.trans u2, u3, u4, S⟩⟩
      · exact ⟨c2, c1, by rw [e, u3]; rfl, by rw [e, u4]; rfl, by rw [e, u1]; rfl, S13.swap, fun H' y1 ths' xs' n' t' keep' e1 e2 S => ⟨c1, y1, u1, u2, e1.trans u3, e2.trans u4, S.swap⟩⟩
    clear u1 u2 u3 u4
    have sn1 := S13.n1
    have st := S13.ht
    walk_at "s"
    refine w_ixL (sql tk13) ia ?_
    walk_at "s"
    refine ⟨x1.a, x1.rows, _, rfl, S13.k1.kept, S13.k1.good, fun H14 tt dd ok e14 ft14 c14 => ?_⟩
    have S14 := S13.more ft14 e14 ⟨_, c14⟩
    have st14 : SqT K H14 tt dd.items := sqt c14
    have keep0 : ∀ x o, x ∈ keep → H13 x = some o → H14 x = some o := fun x o _ h => e14 _ _ h
    have tk14 := e14 _ _ tk13
    have tb14 := e14 _ _ tb13
    obtain ⟨dxL, hL14⟩ := S14.la.ob
    walk_at "s"
    refine w_methAt hL14 (lfl_no (by decide +kernel) (by decide +kernel)) ?_
    walk_at "s"
    refine ⟨L, d, l, ths, xs, rfl, S14.la, by omega, ?_⟩
    walk_at "s"
    refine w_ixL (sql tk14) ia ?_
    walk_at "s"
    refine call_mid (Mid := fun dv H' => (∀ x o, x ∈ tt :: keep → H14 x = some o → H' x = some o) ∧ ((∃ nm t', Ref x1.rows nm dd ∧ Ex H14 H' ∧ H14 t' = none ∧ H' t' = some (.tup [.str nm]) ∧ dv = .ref t') ∨ (∃ zs mm H1, Succ x1.rows zs mm dd ∧ Ex H14 H1 ∧ H' = upd H1 x1.a (.lst (zs.map V.str)) ∧ dv = .int (mm : Nat)))) (fun Qg kg => ?_) fun dv H15 M15 => ?_
    · refine ⟨x1.a, tt, x1.rows, dd, rfl, S14.k1.kept, S14.k1.good, st14, ok, by omega, fun nm H' t' rf e f cc => kg _ _ ⟨fun x o _ h => e _ _ h, .inl ⟨nm, t', rf, e, f, cc, rfl⟩⟩, fun zs mm H1 su e => kg _ _ ⟨fun x o hx h => ?_, .inr ⟨zs, mm, H1, su, e, rfl, rfl⟩⟩⟩
      have nx : x ≠ x1.a := fun e2 => (S14.kp x hx).2 (.inr (.inr (.inl (by rw [e2]; exact List.mem_cons_self))))
      rw [upd_ne nx]
      exact e _ _ h
    obtain ⟨kp15, M15⟩ := M15
    have tb15 := kp15 _ _ (List.mem_cons_of_mem _ kp3) tb14
    walk_at "s"
    refine w_ixL (sql tb15) iB ?_
    walk_at "s"
    refine call_mid (Mid := fun fv H' => Out K c H H14 H' L d l (tt :: keep) x1 x2 ths (909 + i) (31000 + 54 * i) dd dv fv) (fun Qg kg => ?_) fun fv H16 O16 => ?_
    · have nn : 909 + i ≤ 1000 := by omega
      rcases M15 with ⟨nm, t', rf, e, f, cc, rfl⟩ | ⟨zs, mm, H1, su, e, rfl, rfl⟩
      · have S15 := S14.mono e
        refine deed_ref S15 nn (by omega) rf ok (sqt_ex e st14) fun t2 ht2 => kg _ _ ⟨⟨x1, ths, xs, rfl, rfl, (S15.mono (ex_new ex_refl ht2)).wide (by omega) (by omega), .inr ⟨nm, t', t2, rf.name, rf, rfl, rfl, rfl, ?_, upd_same, rfl⟩⟩, fun x o hx h => ?_⟩
        · exact ex_new ex_refl ht2 _ _ cc
        · exact ex_new ex_refl ht2 _ _ (kp15 _ _ hx h)
      · have S15 := S14.mono e
        refine deed_do T S15 nn (by omega) su (sqt (kp15 _ _ List.mem_cons_self c14)) fun H' b ths' xs' eB ea S' kk gl gc => kg _ _ ⟨⟨b, ths', xs', eB, ea, S', .inl ⟨mm, rfl, rfl, gl, gc⟩⟩, fun x o hx h => S15.keeps kk hx (e _ _ h)⟩
    clear M15 kp15 tb15
    obtain ⟨⟨b, ths', xs', eB, ea, S16, kind⟩, kp16⟩ := O16
    have s16 := S16.ht
    have s16n := S16.n1
    have c16 := kp16 _ _ List.mem_cons_self c14
    obtain ⟨dxL, hL16⟩ := S16.la.ob
    walk_at "s"
    refine w_cut (Mid := fun σ' H' => H16 = H' ∧ σ' = [some (.ref s), some (.ref L), some (.ref kl), some (.ref hl), some (.ref bl), some (.ref bq), some (.int m), some (.int (m % 2)), some (.ref tt), some (.int (ths.length : Nat)), some dv, some fv, v12, none, none]) ?_ ?_
    · walk_at "s"
      rcases kind with ⟨mm, rfl, rfl, gl, gc⟩ | ⟨nm, t1, t2, hnm, rf, er, rfl, rfl, d1, d2, rfl⟩
      · walk_at "s"
        rw [decide_eq_true rfl]
        refine iteF ?_
        walk_at "s"
        refine isi_ty (b := false) tyI (by decide +kernel) ?_
        walk_at "s"
        refine iteF ?_
        walk_at "s"
        refine iteF ?_
        walk_at "s"
        exact ⟨rfl, rfl⟩
      · have dt : ∀ {t : Addr}, H16 t = some (.tup [.str nm]) → Dp K H16 (.ref t) (.tuple [.str nm]) := fun h => .tup (sqt h) (.cons (.str _) .nil)
        have sh : SeqAt.shaped (.tuple [.str nm]) = true := by rcases hnm with rfl | rfl <;> decide +kernel
        have ev : PyData.eqv (.tuple [.str nm]) (.tuple [.str nm]) = true := by rcases hnm with rfl | rfl <;> decide +kernel
        refine w_neD (dt d2) (dt d1) sh sh ?_
        rw [ev]
        walk_at "s"
        refine iteF ?_
        walk_at "s"
        refine isi_ty (b := true) (ty_sqt (sqt d1)) (by decide +kernel) ?_
        walk_at "s"
        refine iteT ?_
        walk_at "s"
        refine w_methAt hL16 (lfl_no (by decide +kernel) (by decide +kernel)) ?_
        walk_at "s"
        refine ⟨L, d, l, _, _, rfl, S16.la, by omega, ?_⟩
        walk_at "s"
        rw [decide_eq_true rfl]
        refine iteF ?_
        walk_at "s"
        exact ⟨rfl, rfl⟩
    rintro σ H' ⟨rfl, rfl⟩
    refine w_cut (Mid := fun σ' H' => H16 = H' ∧ σ' = [some (.ref s), some (.ref L), some (.ref kl), some (.ref hl), some (.ref bl), some (.ref bq), some (.int m), some (.int (m % 2)), some (.ref tt), some (.int (ths.length : Nat)), some dv, some fv, v12, none, none]) ?_ ?_
    · walk_at "s"
      rcases kind with ⟨mm, rfl, rfl, gl, gc⟩ | ⟨nm, t1, t2, hnm, rf, er, rfl, rfl, d1, d2, rfl⟩
      · refine isi_ty (b := false) tyI (by decide +kernel) ?_
        walk_at "s"
        refine iteT ?_
        walk_at "s"
        refine whole_int ?_
        walk_at "s"
        refine iteF ?_
        walk_at "s"
        exact ⟨rfl, rfl⟩
      · refine isi_ty (b := true) (ty_sqt (sqt d1)) (by decide +kernel) ?_
        walk_at "s"
        refine iteF ?_
        walk_at "s"
        refine iteF ?_
        walk_at "s"
        exact ⟨rfl, rfl⟩
    rintro σ H' ⟨rfl, rfl⟩
    refine w_cut (Mid := fun σ' H' => H16 = H' ∧ σ' = [some (.ref s), some (.ref L), some (.ref kl), some (.ref hl), some (.ref bl), some (.ref bq), some (.int m), some (.int (m % 2)), some (.ref tt), some (.int (ths.length : Nat)), some dv, some fv, v12, none, none]) ?_ ?_
    · walk_at "s"
      rcases kind with ⟨mm, rfl, rfl, gl, gc⟩ | ⟨nm, t1, t2, hnm, rf, er, rfl, rfl, d1, d2, rfl⟩
      · refine isi_ty (b := false) tyI (by decide +kernel) ?_
        walk_at "s"
        refine iteT ?_
        walk_at "s"
        refine w_methAt hL16 (lfl_no (by decide +kernel) (by decide +kernel)) ?_
        walk_at "s"
        refine ⟨L, d, l, _, _, rfl, S16.la, by omega, ?_⟩
        walk_at "s"
        cases dd with
        | put pp vv =>
          refine w_ixT (v := .str "put") (sqt c16) rfl ?_
          walk_at "s"
          rw [show decide (("put" : Str) = "cut") = false from by decide +kernel, show (if (!false) = true then (1 : Int) else 0) = 1 from rfl, decide_eq_false (by omega)]
          refine iteF ?_
          walk_at "s"
          exact ⟨rfl, rfl⟩
        | add vv =>
          refine w_ixT (v := .str "add") (sqt c16) rfl ?_
          walk_at "s"
          rw [show decide (("add" : Str) = "cut") = false from by decide +kernel, show (if (!false) = true then (1 : Int) else 0) = 1 from rfl, decide_eq_false (by omega)]
          refine iteF ?_
          walk_at "s"
          exact ⟨rfl, rfl⟩
        | cut =>
          have gc := gc rfl
          refine w_ixT (v := .str "cut") (sqt c16) rfl ?_
          walk_at "s"
          rw [show decide (("cut" : Str) = "cut") = true from by decide +kernel, show (if (!true) = true then (1 : Int) else 0) = 0 from rfl, decide_eq_false (by omega)]
          refine iteF ?_
          walk_at "s"
          exact ⟨rfl, rfl⟩
      · refine isi_ty (b := true) (ty_sqt (sqt d1)) (by decide +kernel) ?_
        walk_at "s"
        refine iteF ?_
        walk_at "s"
        refine iteF ?_
        walk_at "s"
        exact ⟨rfl, rfl⟩
    rintro σ H' ⟨rfl, rfl⟩
    have s13n2 := S13.n2
    refine w_cut (Mid := fun σ' H' => σ' = [some (.ref s), some (.ref L), some (.ref kl), some (.ref hl), some (.ref bl), some (.ref bq), some (.int m), some (.int (m % 2)), some (.ref tt), some (.int (ths.length : Nat)), some dv, some fv, v12, none, none] ∧
      (∀ x o, x ∈ tt :: keep → H14 x = some o → H' x = some o) ∧ ∃ (b : BR) (ths' : List MK) (xs' : List V), b.B = x1.B ∧ b.a = x1.a ∧ Two c H H' L d l (tt :: keep) b x2 ths' xs' (909 + (i + 1)) (31000 + 54 * (i + 1))) ?_ ?_
    · walk_at "s"
      refine ⟨by show 1 ≤ sizeLine; exact sz100 (by decide), fun t9 ht9 => ?_⟩
      have e9 := ex_new (o := .tup [.str "NoPlace"]) ex_refl ht9
      have c9 : (upd H16 t9 (.tup [.str "NoPlace"])) t9 = some (.tup [.str "NoPlace"]) := upd_same
      generalize upd H16 t9 (.tup [.str "NoPlace"]) = H9' at e9 c9
      have dt : ∀ {t : Addr} {nm : Str}, H9' t = some (.tup [.str nm]) → Dp K H9' (.ref t) (.tuple [.str nm]) := fun h => .tup (sqt h) (.cons (.str _) .nil)
      have S9' := S16.mono e9
      have kp9 : ∀ x o, x ∈ tt :: keep → H14 x = some o → H9' x = some o := fun x o hx h => e9 _ _ (kp16 x o hx h)
      rcases kind with ⟨mm, rfl, rfl, gl, gc⟩ | ⟨nm, t1, t2, hnm, rf, er, rfl, rfl, d1, d2, rfl⟩
      · refine w_eqD (d := .int (mm : Nat)) (e := .tuple [.str "NoPlace"]) (.int _) (dt c9) rfl (by decide +kernel) ?_
        rw [show PyData.eqv (.int ((mm : Nat) : Int)) (.tuple [.str "NoPlace"]) = false from rfl]
        walk_at "s"
        refine iteF ?_
        walk_at "s"
        refine iteF ?_
        walk_at "s"
        exact ⟨rfl, kp9, b, _, _, eB, ea, S9'.wide (by omega) (by omega)⟩
      · rcases hnm with rfl | rfl
        · refine w_eqD (dt (e9 _ _ d1)) (dt c9) (by decide +kernel) (by decide +kernel) ?_
          rw [show PyData.eqv (.tuple [.str "NoPlace"]) (.tuple [.str "NoPlace"]) = true from by decide +kernel]
          walk_at "s"
          refine iteT ?_
          walk_at "s"
          refine w_ixL (sql (kp9 _ _ (List.mem_cons_of_mem _ kp3) tb14)) iB ?_
          walk_at "s"
          refine w_ixL (sql (kp9 _ _ (List.mem_cons_of_mem _ kp2) tk14)) ia ?_
          walk_at "s"
          have Sn : Two c H H9' L d l (tt :: keep) b x2 ths' xs' (909 + i) (31000 + 54 * i + 18) := ⟨S9'.la, S9'.k1, S9'.k2, S9'.dis, S9'.ex, S9'.fr, S9'.kp, by rw [er]; exact sn1, s13n2, S9'.ht⟩
          refine ⟨H, L, d, l, tt, tt :: keep, b, x2, ths', xs', 909 + i, 31000 + 54 * i + 18, dd, by rw [eB, ea], Sn, by omega, by omega, ok, sqt (e9 _ _ c16), fun H' b' ths2 xs2 eB' ea' S' kk' => ?_⟩
          walk_at "s"
          refine iteF ?_
          walk_at "s"
          exact ⟨rfl, fun x o hx h => kk' x o hx (kp9 x o hx h), b', ths2, xs2, eB'.trans eB, ea'.trans ea, S'.wide (by omega) (by omega)⟩
        · refine w_eqD (dt (e9 _ _ d1)) (dt c9) (by decide +kernel) (by decide +kernel) ?_
          rw [show PyData.eqv (.tuple [.str "NoRow"]) (.tuple [.str "NoPlace"]) = false from by decide +kernel]
          walk_at "s"
          refine iteF ?_
          walk_at "s"
          refine iteF ?_
          walk_at "s"
          exact ⟨rfl, kp9, b, _, _, eB, ea, S9'.wide (by omega) (by omega)⟩
    clear kind S16 kp16 c16 hL16 s16 s16n eB ea
    rintro σ H17 ⟨rfl, kp17, b', ths2, xs2, eB', ea', S17⟩
    have kpA : ∀ x o, x ∈ keep → H13 x = some o → H17 x = some o := fun x o hx h => kp17 x o (List.mem_cons_of_mem _ hx) (keep0 x o hx h)
    have tb17 := kpA _ _ kp3 tb13
    have tk17 := kpA _ _ kp2 tk13
    have c17 := kpA _ _ kp1 c13
    have q17 := kpA _ _ kp4 q13
    have hbs17 : ∀ b ∈ bs, BOk K H17 (tt :: keep) bq b := fun b hb => (hbs b hb).step kpA fun x hx => List.mem_cons_of_mem _ hx
    have n17 := S17.n1
    have g17 := S17.k1.good
    obtain ⟨dx17, hB17⟩ := S17.k1.ba.ob
    have ba17 := S17.k1.ba
    rw [eB'] at hB17 ba17
    clear kp17 S14 S13
    walk_at "s"
    refine w_ixL (sql tb17) iB ?_
    walk_at "s"
    refine w_methAt hB17 (bfl_no (by decide +kernel) (by decide +kernel) (by decide +kernel)) ?_
    walk_at "s"
    refine ⟨x1.B, L, b'.ln, b'.lv, b'.lvs, b'.rows, b'.levels, rfl, ba17, fun p18 hp18 => ?_⟩
    have e18 := ex_new (o := .lst (b'.rows.map V.str)) ex_refl hp18
    have c18 : (upd H17 p18 (.lst (b'.rows.map V.str))) p18 = some (.lst (b'.rows.map V.str)) := upd_same
    have S18 := S17.more hp18 e18 ⟨_, upd_same⟩
    have n18 : p18 ≠ bq := Ne.symm (ne_new q17 hp18)
    generalize upd H17 p18 (.lst (b'.rows.map V.str)) = H18 at e18 c18 S18
    walk_at "s"
    refine ⟨w_tyL (sql (e18 _ _ q17)), ?_⟩
    walk_at "s"
    refine w_listL (sql c18) fun p19 hp19 => ?_
    have x19 := ex_new (o := .lst (b'.rows.map V.str)) ex_refl hp19
    have e19 := e18.trans x19
    have c19 : (upd H18 p19 (.lst (b'.rows.map V.str))) p19 = some (.lst (b'.rows.map V.str)) := upd_same
    have c18 := x19 _ _ c18
    have S19 := S18.more hp19 x19 ⟨_, upd_same⟩
    have n19 : p19 ≠ bq := Ne.symm (ne_new (e18 _ _ q17) hp19)
    generalize upd H18 p19 (.lst (b'.rows.map V.str)) = H19 at x19 e19 c19 c18 S19
    walk_at "s"
    refine ⟨by show 2 ≤ sizeLine; exact sz100 (by decide), fun t20 ht20 => ?_⟩
    have x20 := ex_new (o := .tup [.ref p18, .ref p19]) ex_refl ht20
    have e20 := e19.trans x20
    have c20 : (upd H19 t20 (.tup [.ref p18, .ref p19])) t20 = some (.tup [.ref p18, .ref p19]) := upd_same
    have c18 := x20 _ _ c18
    have c19 := x20 _ _ c19
    have S20 := S19.more ht20 x20 ⟨_, upd_same⟩
    have n20 : t20 ≠ bq := Ne.symm (ne_new (e19 _ _ q17) ht20)
    generalize upd H19 t20 (.tup [.ref p18, .ref p19]) = H20 at x20 e20 c20 c19 c18 S20
    clear S17 S18 S19 x19 x20 e18 e19
    walk_at "s"
    have q20 := e20 _ _ q17
    refine w_app q20 (by rw [List.length_map]; exact szL (by omega)) ?_
    have S21 := S20.side T (p := bq) (by simp [kp4]) fbq q20 (.lst (bs.map (fun b => V.ref b.t) ++ [.ref t20]))
    have k21 : Kp [bq] H20 (upd H20 bq (.lst (bs.map (fun b => V.ref b.t) ++ [.ref t20]))) := Kp.refl.set (by simp)
    have q21 : (upd H20 bq (.lst (bs.map (fun b => V.ref b.t) ++ [.ref t20]))) bq = some (.lst ((bs ++ [(⟨t20, p18, p19, b'.rows⟩ : Bsd)]).map fun b => V.ref b.t)) := by rw [upd_same, List.map_append]; rfl
    have tb21 := k21 _ _ (e20 _ _ tb17) (by simpa using Ne.symm nbq.1)
    have tk21 := k21 _ _ (e20 _ _ tk17) (by simpa using Ne.symm nbq.2)
    have cc21 := k21 _ _ (e20 _ _ c17) (by simpa using np)
    have hbs21 : ∀ b ∈ bs ++ [(⟨t20, p18, p19, b'.rows⟩ : Bsd)], BOk K (upd H20 bq (.lst (bs.map (fun b => V.ref b.t) ++ [.ref t20]))) (t20 :: p19 :: p18 :: tt :: keep) bq b := fun b hb => by
      rcases List.mem_append.mp hb with hb | hb
      · have h := hbs17 b hb
        exact ⟨k21 _ _ (e20 _ _ h.ht) (by simpa using h.nx.2.2), k21 _ _ (e20 _ _ h.hx) (by simpa using h.nx.1), k21 _ _ (e20 _ _ h.hy) (by simpa using h.nx.2.1), h.g, ⟨List.mem_cons_of_mem _ (List.mem_cons_of_mem _ (List.mem_cons_of_mem _ h.kt.1)), List.mem_cons_of_mem _ (List.mem_cons_of_mem _ (List.mem_cons_of_mem _ h.kt.2.1)), List.mem_cons_of_mem _ (List.mem_cons_of_mem _ (List.mem_cons_of_mem _ h.kt.2.2))⟩, h.nx⟩
      · rw [List.mem_singleton.mp hb]
        exact ⟨k21 _ _ c20 (by simpa using n20), k21 _ _ c18 (by simpa using n18), k21 _ _ c19 (by simpa using n19), g17, ⟨by simp, by simp, by simp⟩, n18, n19, n20⟩
    generalize upd H20 bq (.lst (bs.map (fun b => V.ref b.t) ++ [.ref t20])) = H21 at S21 q21 tb21 tk21 cc21 hbs21
    clear S20 k21 q20 c18 c19 c20 e20
    have n2_21 := S21.n2
    obtain ⟨dx21, hB21⟩ := S21.k2.ba.ob
    walk_at "s"
    refine w_ixL (sql tb21) iO ?_
    walk_at "s"
    refine w_methAt hB21 (bfl_no (by decide +kernel) (by decide +kernel) (by decide +kernel)) ?_
    walk_at "s"
    refine ⟨x2.B, L, x2.ln, x2.lv, x2.lvs, x2.rows, x2.levels, rfl, S21.k2.ba, fun p22 hp22 => ?_⟩
    walk_at "s"
    refine ⟨w_tyL (sql upd_same), ?_⟩
    walk_at "s"
    refine w_app upd_same (by rw [List.length_map]; exact szL (by omega)) ?_
    have e23 : Ex H21 (upd (upd H21 p22 (.lst (x2.rows.map V.str))) p22 (.lst (x2.rows.map V.str ++ [.str "zz"]))) := ex_mut (ex_new ex_refl hp22) hp22
    generalize upd (upd H21 p22 (.lst (x2.rows.map V.str))) p22 (.lst (x2.rows.map V.str ++ [.str "zz"])) = H23 at e23
    obtain ⟨d1, d2, w1, w2, w3, w4, S23⟩ := fin H23 b' ths2 xs2 _ _ _ eB' ea' (S21.mono e23)
    have m1 := S23.n1
    have m2 := S23.n2
    have da1 := S23.k1.ba
    have da2 := S23.k2.ba
    have dk1 := S23.k1.kept
    have dk2 := S23.k2.kept
    rw [w1] at da1
    rw [w3] at da2
    rw [w2] at dk1
    rw [w4] at dk2
    walk_at "s"
    refine w_ixL (v := .ref b1.B) (sql (e23 _ _ tb21)) rfl ?_
    walk_at "s"
    refine w_ixL (v := .ref b1.a) (sql (e23 _ _ tk21)) rfl ?_
    walk_at "s"
    refine ⟨b1.B, L, d1.ln, d1.lv, b1.a, d1.lvs, d1.rows, d1.levels, m, rfl, da1, dk1, S23.k1.good, by omega, fun H24 e24 => ?_⟩
    have x24 := e23.trans e24
    walk_at "s"
    refine iteF ?_
    walk_at "s"
    refine w_ixL (v := .ref b2.B) (sql (x24 _ _ tb21)) rfl ?_
    walk_at "s"
    refine w_ixL (v := .ref b2.a) (sql (x24 _ _ tk21)) rfl ?_
    walk_at "s"
    refine ⟨b2.B, L, d2.ln, d2.lv, b2.a, d2.lvs, d2.rows, d2.levels, m, rfl, da2.ex e24, e24 _ _ dk2, S23.k2.good, by omega, fun H25 e25 => ?_⟩
    have x25 := x24.trans e25
    walk_at "s"
    refine iteF ?_
    walk_at "s"
    refine ⟨⟨_, _, _, _, _, _, _, rfl⟩, x25 _ _ cc21, x25 _ _ tk21, x25 _ _ tb21, bs ++ [(⟨t20, p18, p19, b'.rows⟩ : Bsd)], t20 :: p19 :: p18 :: tt :: keep, d1, d2, ths2, xs2, x25 _ _ q21, by rw [List.length_append, lbs]; rfl, fun b hb => (hbs21 b hb).step (fun x o _ h => x25 _ _ h) fun x hx => hx, ⟨by simp [kp1], by simp [kp2], by simp [kp3], by simp [kp4]⟩, w1, w2, w3, w4, (S23.mono (e24.trans e25))⟩
  · rintro σ H13 ⟨⟨v6, v7, v8, v9, v10, v11, v12, rfl⟩, c13, tk13, tb13, bs, keep, c1, c2, ths, xs, q13, lbs, hbs, _, _, _, _, _, S13⟩
    walk_at "s"
    refine ⟨_, rfl, ⟨_, sql q13⟩, fun D hD => ?_⟩
    refine lcb_list (xs := bs.map fun b => V.ref b.t) (fun i H' => Ex H13 H' ∧ H' D = some (.lst [])) ⟨ex_new ex_refl hD, upd_same⟩ (fun i H' _ h => sql (h.1 _ _ q13)) ?_ ?_
    · rintro i y H' hi ⟨e, hD'⟩
      obtain ⟨b, hb, rfl⟩ := get_map hi
      have h := hbs b (List.mem_of_getElem? hb)
      show gName 14 _ [some (.ref s), some (.ref L), some (.ref kl), some (.ref hl), some (.ref bl), some (.ref bq), v6, v7, v8, v9, v10, v11, v12, none, none] _ _
      refine ⟨rfl, ?_⟩
      show tTest _ [some (.ref s), some (.ref L), some (.ref kl), some (.ref hl), some (.ref bl), some (.ref bq), v6, v7, v8, v9, v10, v11, v12, none, some (.ref b.t)] _ _
      walk_at "s"
      refine w_ixT (v := .ref b.x) (sqt (e _ _ h.ht)) rfl ?_
      walk_at "s"
      refine w_ixT (v := .ref b.y) (sqt (e _ _ h.ht)) rfl ?_
      refine rows_ne h.g (e _ _ h.hx) (e _ _ h.hy) ?_
      walk_at "s"
      refine iteF ?_
      exact ⟨e, hD'⟩
    · rintro H' ⟨e, hD'⟩
      walk_at "s"
      refine ⟨Nat.zero_le _, fun p2 hp2 => ?_⟩
      have e2 := ex_new (o := .lst []) ex_refl hp2
      have sh : SeqAt.shaped ((eList eNat).enc []) = true := (eList eNat).shaped (by decide) _ fun _ _ => trivial
      refine w_eqD (d := (eList eNat).enc []) (e := (eList eNat).enc []) (.lst (sql (e2 _ _ hD')) .nil) (.lst (sql upd_same) .nil) sh sh ?_
      rw [(eList eNat).eq, decide_eq_true rfl]
      exact q _
end Tw

namespace Tw
open PySem PySem.Spec PyProof.Rows L2 Ts
def topS (i : Nat) : Stmt := PySem.Challenge.pw_twinsum_k03_books_change.main.body.getD i (.Pass ⟨0, 0, 0, 0⟩)
structure BM (mg : Str → Option Value) : Prop where
  bool : mg "bool" = none
  int : mg "int" = none
  isinstance : mg "isinstance" = none
  len : mg "len" = none
  list : mg "list" = none
  min : mg "min" = none
  range : mg "range" = none
  str : mg "str" = none
  tuple : mg "tuple" = none
  MOST_ROWS : ∃ t, mg "MOST_ROWS" = some (.int 1024 t)
  MOST_SIGNS : ∃ t, mg "MOST_SIGNS" = some (.int 40 t)
  SIGNS : ∃ t, mg "SIGNS" = some (.str "abcdefghijklmnopqrstuvwxyz0123456789 " t)
section
variable {P : Program} {w : World} {K : PySem.W.Frag} {mg : Str → Option Value} {base : Heap} {c : Cs}
abbrev s_Ledger_init : Stmt := inClass (topS 15) 0
theorem sc_Ledger_init : FnScope N_Ledger_init ["self"] (defScope s_Ledger_init) := ⟨rfl, rfl, rfl, by decide +kernel, rfl, by decide +kernel, by decide +kernel⟩
theorem ok_Ledger_init (M : BM mg) (T : TxK K c) (F : IniG K mg c.Ledger "Ledger" "Ledger.__init__" s_Ledger_init ["self"]) (D : c.md = MD P w) : MkG P w K mg base 1 c.Ledger "Ledger" ["self"] (sp_Ledger_init K c) := by
  refine F.ok sc_Ledger_init len_Ledger_init (fun f cdv A outer s H vs Q E hr h => ⟨t_Ledger_init K c E, ?_, pure_Ledger_init T h⟩)
  exact (pss_cons (ps_fld (pv 0) (pe_mnew D) rfl)
  (pss_one (ps_fld (pv 0) (pe_lst pa_nil) rfl)))
abbrev s_law_mix : Stmt := topS 22
theorem sc_law_mix : FnScope N_law_mix ["_law_number", "_law_k"] (defScope s_law_mix) := ⟨rfl, rfl, rfl, by decide +kernel, rfl, by decide +kernel, by decide +kernel⟩
theorem ok_law_mix (M : BM mg) (T : TxK K c) (F : FunG K mg "_law_mix" s_law_mix ["_law_number", "_law_k"]) (D : c.md = MD P w) : FnG P w K mg base 1 "_law_mix" ["_law_number", "_law_k"] (sp_law_mix K c) := by
  refine F.ok sc_law_mix len_law_mix (fun f cdv A outer s H vs Q E hr h => ⟨t_law_mix K c E, ?_, pure_law_mix h⟩)
  exact (pss_cons (ps_set (i := 2) sc_law_mix.nd rfl (Or.inl rfl) (pe_op op_mod1 (pe_op op_addU (pe_op op_addU (pe_op op_mul1 (pv 0) pe_int) (pe_op op_mul1 (pv 1) pe_int)) pe_int) pe_int))
  (pss_one (ps_ret (pe_op op_mod1 (pe_op op_addU (pe_op op_addU (pe_op op_mul1 (pv 2) (pv 2)) (pe_op op_mul1 pe_int (pv 2))) (pv 1)) pe_int))))
abbrev s_law_text : Stmt := topS 23
theorem sc_law_text : FnScope N_law_text ["_law_cell"] (defScope s_law_text) := ⟨rfl, rfl, rfl, by decide +kernel, rfl, by decide +kernel, by decide +kernel⟩
theorem ok_law_text (M : BM mg) (T : TxK K c) (F : FunG K mg "_law_text" s_law_text ["_law_cell"]) (D : c.md = MD P w) (G_law_mix : FnG P w K mg base 1 "_law_mix" ["_law_number", "_law_k"] (sp_law_mix K c)) : FnG P w K mg base 2 "_law_text" ["_law_cell"] (sp_law_text K c) := by
  refine F.ok sc_law_text len_law_text (fun f cdv A outer s H vs Q E hr h => ⟨t_law_text K c E, ?_, pure_law_text h⟩)
  exact (pss_cons (ps_set (i := 1) sc_law_text.nd rfl (Or.inl rfl) pe_str)
  (pss_cons (ps_set (i := 2) sc_law_text.nd rfl (Or.inl rfl) (pe_op op_mod1 (pv 0) pe_int))
  (pss_cons (ps_if (pt_cmpR (op_eqU hr.units) (pe_op op_mod1 (pe_op op_div1 (pv 0) pe_int) pe_int) pe_int (nomark _)) (pss_one (ps_ret (pe_op op_addU (pe_op op_addU (pe_callTy call_str1 (by rfl) M.str (by decide +kernel) (pa_cons (pe_op op_mod1 (pe_op op_div1 (pv 0) pe_int) pe_int) pa_nil)) (pe_ix ix_seq (pe_lst (pa_cons pe_str (pa_cons pe_str pa_nil))) (pe_op op_mod1 (pe_op op_div1 (pv 0) pe_int) pe_int) (fun _ _ => rfl))) (pe_callTy call_str1 (by rfl) M.str (by decide +kernel) (pa_cons (pe_op op_mod1 (pe_op op_div1 (pv 0) pe_int) pe_int) pa_nil))))) pss_nil)
  (Evl.pss_cut (ps_if (pt_cmpR (op_eqU hr.units) (pe_op op_mod1 (pe_op op_div1 (pv 0) pe_int) pe_int) pe_int (nomark _)) (pss_one (ps_set (i := 2) sc_law_text.nd rfl (Or.inl rfl) (pe_ix ix_seq (pe_lst (pa_cons pe_int (pa_cons pe_int (pa_cons pe_int (pa_cons pe_int pa_nil))))) (pe_op op_mod1 (pe_op op_div1 (pv 0) pe_int) pe_int) (fun _ _ => rfl)))) pss_nil) (pss_cons (ps_set (i := 3) sc_law_text.nd rfl (Or.inl rfl) pe_str)
  (pss_cons (ps_for (passes_of rfl) rfl (pi_range1 (by rfl) M.range (pa_cons (pv 2) pa_nil)) (pg_name (i := 4) sc_law_text.nd rfl (Or.inl rfl)) (pss_one (ps_set (i := 3) sc_law_text.nd rfl (Or.inl rfl) (pe_op op_addU (pv 3) (pe_ix ix_seq (pv 1) (pe_op op_mod1 (pe_op op_div1 (pe_callG (E := E0) G_law_mix (hr.mono (by decide)) passL (by exact (pa_cons (pv 0) (pa_cons (pv 4) pa_nil)))) pe_int) pe_int) (fun _ _ => rfl))))))
  (pss_one (ps_ret (pv 3)))))))))
abbrev s_law_rows : Stmt := topS 25
theorem sc_law_rows : FnScope N_law_rows ["_law_cell", "_law_more"] (defScope s_law_rows) := ⟨rfl, rfl, rfl, by decide +kernel, rfl, by decide +kernel, by decide +kernel⟩
theorem ok_law_rows (M : BM mg) (T : TxK K c) (F : FunG K mg "_law_rows" s_law_rows ["_law_cell", "_law_more"]) (D : c.md = MD P w) (G_law_text : FnG P w K mg base 2 "_law_text" ["_law_cell"] (sp_law_text K c)) (G_law_mix : FnG P w K mg base 1 "_law_mix" ["_law_number", "_law_k"] (sp_law_mix K c)) : FnG P w K mg base 3 "_law_rows" ["_law_cell", "_law_more"] (sp_law_rows K c) := by
  refine F.ok sc_law_rows len_law_rows (fun f cdv A outer s H vs Q E hr h => ⟨t_law_rows K c E, ?_, pure_law_rows h⟩)
  exact (pss_cons (ps_set (i := 2) sc_law_rows.nd rfl (Or.inl rfl) (pe_op op_mod1 (pv 0) pe_int))
  (Evl.pss_cut (ps_if (pt_cmpR (op_eqU hr.units) (pe_op op_mod1 (pe_op op_div1 (pv 0) pe_int) pe_int) pe_int (nomark _)) (pss_one (ps_set (i := 2) sc_law_rows.nd rfl (Or.inl rfl) (pe_ix ix_seq (pe_lst (pa_cons pe_int (pa_cons pe_int (pa_cons pe_int (pa_cons pe_int (pa_cons pe_int (pa_cons pe_int (pa_cons pe_int (pa_cons pe_int (pa_cons pe_int (pa_cons pe_int (pa_cons pe_int (pa_cons pe_int pa_nil))))))))))))) (pe_op op_mod1 (pe_op op_div1 (pv 0) pe_int) pe_int) (fun _ _ => rfl)))) pss_nil) (pss_cons (ps_set (i := 3) sc_law_rows.nd rfl (Or.inl rfl) (pe_op op_addU pe_int (pe_op op_mod1 (pv 1) pe_int)))
  (pss_cons (ps_set (i := 4) sc_law_rows.nd rfl (Or.inl rfl) (pe_lst pa_nil))
  (pss_cons (ps_for (passes_of rfl) rfl (pi_range1 (by rfl) M.range (pa_cons (pv 2) pa_nil)) (pg_name (i := 5) sc_law_rows.nd rfl (Or.inl rfl)) (pss_one (ps_expr (pe_bm PySem.F.plainAttrs_list PySem.F.slot_list_append PySem.F.type_list_append mt_append (pv 4) (pa_cons (pe_callG (E := E0) G_law_text (hr.mono (by decide)) passL (by exact (pa_cons (pe_op op_mod1 (pe_op op_div1 (pe_callG (E := E0) G_law_mix (hr.mono (by decide)) passL (by exact (pa_cons (pv 1) (pa_cons (pv 5) pa_nil)))) pe_int) (pe_ix ix_seq (pe_lst (pa_cons (pv 3) (pa_cons pe_int pa_nil))) (pe_op op_div1 (pe_op op_mod1 (pv 5) pe_int) pe_int) (fun _ _ => rfl))) pa_nil))) pa_nil)))))
  (pss_one (ps_ret (pv 4))))))))
abbrev s_is_row : Stmt := topS 13
theorem sc_is_row : FnScope N_is_row ["thing"] (defScope s_is_row) := ⟨rfl, rfl, rfl, by decide +kernel, rfl, by decide +kernel, by decide +kernel⟩
theorem ok_is_row (M : BM mg) (T : TxK K c) (F : FunG K mg "is_row" s_is_row ["thing"]) (D : c.md = MD P w) : FnG P w K mg base 1 "is_row" ["thing"] (sp_is_row K c) := by
  refine F.ok sc_is_row len_is_row (fun f cdv A outer s H vs Q E hr h => ⟨t_is_row K c E, ?_, pure_is_row h⟩)
  exact (pss_cons (ps_if (PW.pt (pw_or (pt_not (pt_val (pe_callB call_isi (by rfl) M.isinstance (by decide +kernel) (pa_cons (pv 0) (pa_cons (pe_bltn (v := .ty "str") (by rfl) M.str (by decide +kernel) rfl) pa_nil))))) (pw_or1 (pt_cmpR op_gt1 (pe_callB call_len1 (by rfl) M.len (by decide +kernel) (pa_cons (pv 0) pa_nil)) (pe_glob (by rfl) M.MOST_SIGNS.choose_spec ⟨_, rfl⟩) (nomark _))))) (pss_one (ps_ret pe_bl)) pss_nil)
  (pss_cons (ps_for (passes_of rfl) rfl (pi_str (pv 0)) (pg_name (i := 1) sc_is_row.nd rfl (Or.inl rfl)) (pss_one (ps_if (pt_cmpR op_notInS1 (pv 1) (pe_glob (by rfl) M.SIGNS.choose_spec ⟨_, rfl⟩) (by rfl)) (pss_one (ps_ret pe_bl)) pss_nil)))
  (pss_one (ps_ret pe_bl))))
abbrev s_sure_row : Stmt := topS 14
theorem sc_sure_row : FnScope N_sure_row ["thing"] (defScope s_sure_row) := ⟨rfl, rfl, rfl, by decide +kernel, rfl, by decide +kernel, by decide +kernel⟩
theorem ok_sure_row (M : BM mg) (T : TxK K c) (F : FunG K mg "sure_row" s_sure_row ["thing"]) (D : c.md = MD P w) (X_NoRow : ExcT K mg "NoRow" c.NoRow) (G_is_row : FnG P w K mg base 1 "is_row" ["thing"] (sp_is_row K c)) : FnG P w K mg base 2 "sure_row" ["thing"] (sp_sure_row K c) := by
  refine F.ok sc_sure_row len_sure_row (fun f cdv A outer s H vs Q E hr h => ⟨t_sure_row K c E, ?_, pure_sure_row h⟩)
  exact (pss_one (ps_if (pt_not (pt_val (pe_callG (E := E) G_is_row (hr.mono (by decide)) (passE (takes_of rfl rfl rfl rfl)) (by exact (pa_cons (pv 0) pa_nil))))) (pss_one (ps_raiseG X_NoRow rfl (takes_of rfl rfl rfl rfl))) pss_nil))
abbrev s_Ledger_number_of : Stmt := inClass (topS 15) 1
theorem sc_Ledger_number_of : FnScope N_Ledger_number_of ["self", "thing"] (defScope s_Ledger_number_of) := ⟨rfl, rfl, rfl, by decide +kernel, rfl, by decide +kernel, by decide +kernel⟩
theorem ok_Ledger_number_of (M : BM mg) (T : TxK K c) (F : MetG K c.Ledger "number_of" "Ledger.number_of" s_Ledger_number_of ["self", "thing"]) (D : c.md = MD P w) : MtG P w K mg base 1 c.Ledger "number_of" ["self", "thing"] (sp_Ledger_number_of K c) := by
  refine F.ok sc_Ledger_number_of len_Ledger_number_of (fun f cdv A outer s H vs Q E hr h => ⟨t_Ledger_number_of K c E, ?_, pure_Ledger_number_of T h⟩)
  exact (pss_cons (ps_if (pt_cmp (pc_mnotin D (hu_of hr) (pv 1) (pe_fld (pv 0) rfl))) (pss_cons (ps_mput D (hu_of hr) (pe_fld (pv 0) rfl) (pv 1) (pe_callB call_len1 (by rfl) M.len (by decide +kernel) (pa_cons (pe_fld (pv 0) rfl) pa_nil)) rfl)
  (pss_one (ps_expr (pe_bm PySem.F.plainAttrs_list PySem.F.slot_list_append PySem.F.type_list_append mt_append (pe_fld (pv 0) rfl) (pa_cons (pv 1) pa_nil))))) pss_nil)
  (pss_one (ps_ret (pe_mget D (hu_of hr) (pe_fld (pv 0) rfl) (pv 1) (fun _ _ => rfl)))))
abbrev s_Ledger_of_row : Stmt := inClass (topS 15) 3
theorem sc_Ledger_of_row : FnScope N_Ledger_of_row ["self", "row"] (defScope s_Ledger_of_row) := ⟨rfl, rfl, rfl, by decide +kernel, rfl, by decide +kernel, by decide +kernel⟩
theorem ok_Ledger_of_row (M : BM mg) (T : TxK K c) (F : MetG K c.Ledger "of_row" "Ledger.of_row" s_Ledger_of_row ["self", "row"]) (D : c.md = MD P w) (G_sure_row : FnG P w K mg base 2 "sure_row" ["thing"] (sp_sure_row K c)) (G_Ledger_number_of : MtG P w K mg base 1 c.Ledger "number_of" ["self", "thing"] (sp_Ledger_number_of K c)) : MtG P w K mg base 3 c.Ledger "of_row" ["self", "row"] (sp_Ledger_of_row K c) := by
  refine F.ok sc_Ledger_of_row len_Ledger_of_row (fun f cdv A outer s H vs Q E hr h => ⟨t_Ledger_of_row K c E, ?_, pure_Ledger_of_row h⟩)
  exact (pss_cons (ps_expr (pe_callG (E := E) G_sure_row (hr.mono (by decide)) (passE (takes_of rfl rfl rfl rfl)) (by exact (pa_cons (pv 1) pa_nil))))
  (pss_one (ps_ret (pe_methG (E := E) (pv 0) T.cLedger G_Ledger_number_of (hr.mono (by decide)) (passE (takes_of rfl rfl rfl rfl)) (by exact (pa_cons (pv 1) pa_nil))))))
abbrev s_is_whole : Stmt := topS 12
theorem sc_is_whole : FnScope N_is_whole ["thing"] (defScope s_is_whole) := ⟨rfl, rfl, rfl, by decide +kernel, rfl, by decide +kernel, by decide +kernel⟩
theorem ok_is_whole (M : BM mg) (T : TxK K c) (F : FunG K mg "is_whole" s_is_whole ["thing"]) (D : c.md = MD P w) : FnG P w K mg base 1 "is_whole" ["thing"] (sp_is_whole K c) := by
  refine F.ok sc_is_whole len_is_whole (fun f cdv A outer s H vs Q E hr h => ⟨t_is_whole K c E, ?_, pure_is_whole h⟩)
  exact (pss_one (ps_ret (pe_and (pe_callB call_isi (by rfl) M.isinstance (by decide +kernel) (pa_cons (pv 0) (pa_cons (pe_bltn (v := .ty "int") (by rfl) M.int (by decide +kernel) rfl) pa_nil))) (pe_one (pe_not (pe_callB call_isi (by rfl) M.isinstance (by decide +kernel) (pa_cons (pv 0) (pa_cons (pe_bltn (v := .ty "bool") (by rfl) M.bool (by decide +kernel) rfl) pa_nil))))))))
abbrev s_Ledger_sure : Stmt := inClass (topS 15) 2
theorem sc_Ledger_sure : FnScope N_Ledger_sure ["self", "number"] (defScope s_Ledger_sure) := ⟨rfl, rfl, rfl, by decide +kernel, rfl, by decide +kernel, by decide +kernel⟩
theorem ok_Ledger_sure (M : BM mg) (T : TxK K c) (F : MetG K c.Ledger "sure" "Ledger.sure" s_Ledger_sure ["self", "number"]) (D : c.md = MD P w) (X_NoSum : ExcT K mg "NoSum" c.NoSum) (G_is_whole : FnG P w K mg base 1 "is_whole" ["thing"] (sp_is_whole K c)) : MtG P w K mg base 2 c.Ledger "sure" ["self", "number"] (sp_Ledger_sure K c) := by
  refine F.ok sc_Ledger_sure len_Ledger_sure (fun f cdv A outer s H vs Q E hr h => ⟨t_Ledger_sure K c E, ?_, pure_Ledger_sure T h⟩)
  exact (pss_one (ps_if (PW.pt (pw_or (pt_not (pt_val (pe_callG (E := E) G_is_whole (hr.mono (by decide)) (passE (takes_of rfl rfl rfl rfl)) (by exact (pa_cons (pv 1) pa_nil))))) (pw_or1 (pt_not (pt_chain op_le1 op_lt1 pe_int (pv 1) (pe_callB call_len1 (by rfl) M.len (by decide +kernel) (pa_cons (pe_fld (pv 0) rfl) pa_nil))))))) (pss_one (ps_raiseG X_NoSum rfl (takes_of rfl rfl rfl rfl))) pss_nil))
abbrev s_Ledger_of_pair : Stmt := inClass (topS 15) 4
theorem sc_Ledger_of_pair : FnScope N_Ledger_of_pair ["self", "one", "other"] (defScope s_Ledger_of_pair) := ⟨rfl, rfl, rfl, by decide +kernel, rfl, by decide +kernel, by decide +kernel⟩
theorem ok_Ledger_of_pair (M : BM mg) (T : TxK K c) (F : MetG K c.Ledger "of_pair" "Ledger.of_pair" s_Ledger_of_pair ["self", "one", "other"]) (D : c.md = MD P w) (G_Ledger_sure : MtG P w K mg base 2 c.Ledger "sure" ["self", "number"] (sp_Ledger_sure K c)) (G_Ledger_number_of : MtG P w K mg base 1 c.Ledger "number_of" ["self", "thing"] (sp_Ledger_number_of K c)) : MtG P w K mg base 3 c.Ledger "of_pair" ["self", "one", "other"] (sp_Ledger_of_pair K c) := by
  refine F.ok sc_Ledger_of_pair len_Ledger_of_pair (fun f cdv A outer s H vs Q E hr h => ⟨t_Ledger_of_pair K c E, ?_, pure_Ledger_of_pair h⟩)
  exact (pss_cons (ps_expr (pe_methG (E := E) (pv 0) T.cLedger G_Ledger_sure (hr.mono (by decide)) (passE (takes_of rfl rfl rfl rfl)) (by exact (pa_cons (pv 1) pa_nil))))
  (pss_cons (ps_expr (pe_methG (E := E) (pv 0) T.cLedger G_Ledger_sure (hr.mono (by decide)) (passE (takes_of rfl rfl rfl rfl)) (by exact (pa_cons (pv 2) pa_nil))))
  (pss_one (ps_ret (pe_methG (E := E) (pv 0) T.cLedger G_Ledger_number_of (hr.mono (by decide)) (passE (takes_of rfl rfl rfl rfl)) (by exact (pa_cons (pe_tup (pa_cons (pv 1) (pa_cons (pv 2) pa_nil))) pa_nil)))))))
abbrev s_Book_half_sums : Stmt := inClass (topS 18) 2
theorem sc_Book_half_sums : FnScope N_Book_half_sums ["self", "height", "number"] (defScope s_Book_half_sums) := ⟨rfl, rfl, rfl, by decide +kernel, rfl, by decide +kernel, by decide +kernel⟩
theorem ok_Book_half_sums (M : BM mg) (T : TxK K c) (F : MetG K c.Book "half_sums" "Book.half_sums" s_Book_half_sums ["self", "height", "number"]) (D : c.md = MD P w) (G_Ledger_of_pair : MtG P w K mg base 3 c.Ledger "of_pair" ["self", "one", "other"] (sp_Ledger_of_pair K c)) : MtG P w K mg base 4 c.Book "half_sums" ["self", "height", "number"] (sp_Book_half_sums K c) := by
  refine F.ok sc_Book_half_sums len_Book_half_sums (fun f cdv A outer s H vs Q E hr h => ⟨t_Book_half_sums K c E, ?_, pure_Book_half_sums T h⟩)
  exact (pss_cons (ps_set (i := 3) sc_Book_half_sums.nd rfl (Or.inl rfl) (pe_ix ix_seq (pe_fld (pv 0) rfl) (pe_op op_sub1 (pv 1) pe_int) (fun _ _ => rfl)))
  (pss_one (ps_ret (pe_methG (E := E0) (pe_fld (pv 0) rfl) T.cLedger G_Ledger_of_pair (hr.mono (by decide)) passL (by exact (pa_cons (pe_ix ix_seq (pv 3) (pe_op op_mul1 pe_int (pv 2)) (fun _ _ => rfl)) (pa_cons (pe_ix ix_seq (pv 3) (pe_op op_addU (pe_op op_mul1 pe_int (pv 2)) pe_int) (fun _ _ => rfl)) pa_nil)))))))
abbrev s_Book_grow : Stmt := inClass (topS 18) 3
theorem sc_Book_grow : FnScope N_Book_grow ["self", "row"] (defScope s_Book_grow) := ⟨rfl, rfl, rfl, by decide +kernel, rfl, by decide +kernel, by decide +kernel⟩
theorem ok_Book_grow (M : BM mg) (T : TxK K c) (F : MetG K c.Book "grow" "Book.grow" s_Book_grow ["self", "row"]) (D : c.md = MD P w) (G_Ledger_of_row : MtG P w K mg base 3 c.Ledger "of_row" ["self", "row"] (sp_Ledger_of_row K c)) (G_Book_half_sums : MtG P w K mg base 4 c.Book "half_sums" ["self", "height", "number"] (sp_Book_half_sums K c)) : MtG P w K mg base 5 c.Book "grow" ["self", "row"] (sp_Book_grow K c) := by
  refine F.ok sc_Book_grow len_Book_grow (fun f cdv A outer s H vs Q E hr h => ⟨t_Book_grow K c E, ?_, pure_Book_grow T h⟩)
  exact (pss_cons (ps_expr (pe_bm PySem.F.plainAttrs_list PySem.F.slot_list_append PySem.F.type_list_append mt_append (pe_fld (pv 0) rfl) (pa_cons (pv 1) pa_nil)))
  (pss_cons (ps_set (i := 2) sc_Book_grow.nd rfl (Or.inl rfl) (pe_callB call_len1 (by rfl) M.len (by decide +kernel) (pa_cons (pe_fld (pv 0) rfl) pa_nil)))
  (pss_cons (ps_set (i := 3) sc_Book_grow.nd rfl (Or.inl rfl) pe_int)
  (pss_cons (ps_set (i := 4) sc_Book_grow.nd rfl (Or.inl rfl) (pe_methG (E := E0) (pe_fld (pv 0) rfl) T.cLedger G_Ledger_of_row (hr.mono (by decide)) passL (by exact (pa_cons (pv 1) pa_nil))))
  (pss_one (ps_while (passes_of rfl) (pt_val pe_bl) (Evl.pss_cut (ps_if (pt_cmpR (op_eqU hr.units) (pv 3) (pe_callB call_len1 (by rfl) M.len (by decide +kernel) (pa_cons (pe_fld (pv 0) rfl) pa_nil)) (nomark _)) (pss_one (ps_expr (pe_bm PySem.F.plainAttrs_list PySem.F.slot_list_append PySem.F.type_list_append mt_append (pe_fld (pv 0) rfl) (pa_cons (pe_lst pa_nil) pa_nil)))) pss_nil) (pss_cons (ps_expr (pe_bm PySem.F.plainAttrs_list PySem.F.slot_list_append PySem.F.type_list_append mt_append (pe_ix ix_seq (pe_fld (pv 0) rfl) (pv 3) (fun _ _ => rfl)) (pa_cons (pv 4) pa_nil)))
  (pss_cons (ps_if (pt_cmpR (op_eqU hr.units) (pe_op op_mod1 (pv 2) pe_int) pe_int (nomark _)) (pss_one (ps_ret (pe_op op_addU (pv 3) pe_int))) pss_nil)
  (pss_cons (ps_set (i := 2) sc_Book_grow.nd rfl (Or.inl rfl) (pe_op op_div1 (pv 2) pe_int))
  (pss_cons (ps_set (i := 3) sc_Book_grow.nd rfl (Or.inl rfl) (pe_op op_addU (pv 3) pe_int))
  (pss_one (ps_set (i := 4) sc_Book_grow.nd rfl (Or.inl rfl) (pe_methG (E := E0) (pv 0) T.cBook G_Book_half_sums (hr.mono (by decide)) passL (by exact (pa_cons (pv 3) (pa_cons (pe_op op_sub1 (pv 2) pe_int) pa_nil)))))))))))))))))
abbrev s_Book_init : Stmt := inClass (topS 18) 0
theorem sc_Book_init : FnScope N_Book_init ["self", "ledger", "rows"] (defScope s_Book_init) := ⟨rfl, rfl, rfl, by decide +kernel, rfl, by decide +kernel, by decide +kernel⟩
theorem ok_Book_init (M : BM mg) (T : TxK K c) (F : IniG K mg c.Book "Book" "Book.__init__" s_Book_init ["self", "ledger", "rows"]) (D : c.md = MD P w) (X_Full : ExcT K mg "Full" c.Full) (G_sure_row : FnG P w K mg base 2 "sure_row" ["thing"] (sp_sure_row K c)) (G_Book_grow : MtG P w K mg base 5 c.Book "grow" ["self", "row"] (sp_Book_grow K c)) : MkG P w K mg base 6 c.Book "Book" ["self", "ledger", "rows"] (sp_Book_init K c) := by
  refine F.ok sc_Book_init len_Book_init (fun f cdv A outer s H vs Q E hr h => ⟨t_Book_init K c E, ?_, pure_Book_init T h⟩)
  exact (pss_cons (ps_for (passes_of rfl) rfl (pi_list (pv 2)) (pg_name (i := 3) sc_Book_init.nd rfl (Or.inl rfl)) (pss_one (ps_expr (pe_callG (E := E) G_sure_row (hr.mono (by decide)) (passE (takes_of rfl rfl rfl rfl)) (by exact (pa_cons (pv 3) pa_nil))))))
  (pss_cons (ps_if (pt_cmpR op_gt1 (pe_callB call_len1 (by rfl) M.len (by decide +kernel) (pa_cons (pv 2) pa_nil)) (pe_glob (by rfl) M.MOST_ROWS.choose_spec ⟨_, rfl⟩) (nomark _)) (pss_one (ps_raiseG X_Full rfl (takes_of rfl rfl rfl rfl))) pss_nil)
  (pss_cons (ps_fld (pv 0) (pv 1) rfl)
  (pss_cons (ps_fld (pv 0) (pe_lst pa_nil) rfl)
  (pss_cons (ps_fld (pv 0) (pe_lst pa_nil) rfl)
  (pss_one (ps_for (passes_of rfl) rfl (pi_list (pv 2)) (pg_name (i := 3) sc_Book_init.nd rfl (Or.inl rfl)) (pss_one (ps_expr (pe_methG (E := E) (pv 0) T.cBook G_Book_grow (hr.mono (by decide)) (passE (takes_of rfl rfl rfl rfl)) (by exact (pa_cons (pv 3) pa_nil))))))))))))
abbrev s_law_drawn : Stmt := topS 32
theorem sc_law_drawn : FnScope N_law_drawn ["_law_rows_here", "_law_cell"] (defScope s_law_drawn) := ⟨rfl, rfl, rfl, by decide +kernel, rfl, by decide +kernel, by decide +kernel⟩
theorem ok_law_drawn (M : BM mg) (T : TxK K c) (F : FunG K mg "_law_drawn" s_law_drawn ["_law_rows_here", "_law_cell"]) (D : c.md = MD P w) (G_law_text : FnG P w K mg base 2 "_law_text" ["_law_cell"] (sp_law_text K c)) (G_law_mix : FnG P w K mg base 1 "_law_mix" ["_law_number", "_law_k"] (sp_law_mix K c)) : FnG P w K mg base 3 "_law_drawn" ["_law_rows_here", "_law_cell"] (sp_law_drawn K c) := by
  refine F.ok sc_law_drawn len_law_drawn (fun f cdv A outer s H vs Q E hr h => ⟨t_law_drawn K c E, ?_, pure_law_drawn h⟩)
  exact (pss_cons (ps_set (i := 2) sc_law_drawn.nd rfl (Or.inl rfl) (pe_callG (E := E0) G_law_text (hr.mono (by decide)) passL (by exact (pa_cons (pe_op op_mod1 (pe_callG (E := E0) G_law_mix (hr.mono (by decide)) passL (by exact (pa_cons (pv 1) (pa_cons pe_int pa_nil)))) (pe_ix ix_seq (pe_lst (pa_cons pe_int (pa_cons pe_int pa_nil))) (pe_op op_mod1 (pv 1) pe_int) (fun _ _ => rfl))) pa_nil))))
  (pss_cons (ps_set (i := 3) sc_law_drawn.nd rfl (Or.inl rfl) (pe_op op_mod1 (pe_op op_div1 (pv 1) pe_int) pe_int))
  (pss_cons (ps_if (pt_cmpR op_lt1 (pv 3) pe_int (nomark _)) (pss_cons (ps_set (i := 4) sc_law_drawn.nd rfl (Or.inl rfl) (pe_op op_mod1 (pe_callG (E := E0) G_law_mix (hr.mono (by decide)) passL (by exact (pa_cons (pv 1) (pa_cons pe_int pa_nil)))) (pe_op op_addU (pe_callB call_len1 (by rfl) M.len (by decide +kernel) (pa_cons (pv 0) pa_nil)) pe_int)))
  (Evl.pss_cut (ps_if (pt_cmpR (op_eqU hr.units) (pv 3) pe_int (nomark _)) (pss_one (ps_set (i := 4) sc_law_drawn.nd rfl (Or.inl rfl) (pe_ix ix_seq (pe_lst (pa_cons pe_int (pa_cons (pe_op op_sub1 (pe_callB call_len1 (by rfl) M.len (by decide +kernel) (pa_cons (pv 0) pa_nil)) pe_int) (pa_cons (pe_un un_neg pe_int) (pa_cons (pe_callB call_len1 (by rfl) M.len (by decide +kernel) (pa_cons (pv 0) pa_nil)) (pa_cons (pe_op op_addU (pe_op op_addU (pe_callB call_len1 (by rfl) M.len (by decide +kernel) (pa_cons (pv 0) pa_nil)) pe_int) (pe_op op_mod1 (pe_op op_div1 (pv 1) pe_int) (pe_op op_pow1 pe_int pe_int))) pa_nil)))))) (pe_op op_mod1 (pe_callG (E := E0) G_law_mix (hr.mono (by decide)) passL (by exact (pa_cons (pv 1) (pa_cons pe_int pa_nil)))) pe_int) (fun _ _ => rfl)))) pss_nil) (Evl.pss_cut (ps_if (PW.pt (pw_and (pt_cmpR (op_eqU hr.units) (pv 3) pe_int (nomark _)) (pw_and1 (pt_chain op_le1 op_lt1 pe_int (pv 4) (pe_callB call_len1 (by rfl) M.len (by decide +kernel) (pa_cons (pv 0) pa_nil)))))) (pss_one (ps_set (i := 2) sc_law_drawn.nd rfl (Or.inl rfl) (pe_ix ix_seq (pv 0) (pv 4) (fun _ _ => rfl)))) pss_nil) (Evl.pss_cut (ps_if (pt_cmpR (op_eqU hr.units) (pe_op op_mod1 (pe_op op_div1 (pv 1) pe_int) pe_int) pe_int (nomark _)) (pss_one (ps_set (i := 4) sc_law_drawn.nd rfl (Or.inl rfl) (pe_ix ix_seq (pe_lst (pa_cons pe_bl (pa_cons pe_str (pa_cons pe_non (pa_cons (pe_op op_sub1 (pe_op op_sub1 pe_int pe_int) (pe_op op_mod1 (pe_op op_div1 (pv 1) pe_int) pe_int)) pa_nil))))) (pe_op op_mod1 (pe_op op_div1 (pv 1) pe_int) pe_int) (fun _ _ => rfl)))) pss_nil) (Evl.pss_cut (ps_if (pt_cmpR (op_eqU hr.units) (pe_op op_mod1 (pe_op op_div1 (pv 1) pe_int) pe_int) pe_int (nomark _)) (pss_one (ps_set (i := 2) sc_law_drawn.nd rfl (Or.inl rfl) (pe_ix ix_seq (pe_lst (pa_cons pe_str (pa_cons pe_non (pa_cons pe_int (pa_cons (pe_op op_mulS pe_str pe_int) pa_nil))))) (pe_op op_mod1 (pe_op op_div1 (pv 1) pe_int) pe_int) (fun _ _ => rfl)))) pss_nil) (pss_one (ps_ret (pe_tup (pa_cons pe_str (pa_cons (pv 4) (pa_cons (pv 2) pa_nil))))))))))) pss_nil)
  (pss_cons (ps_if (pt_cmpR op_lt1 (pv 3) pe_int (nomark _)) (Evl.pss_cut (ps_if (pt_cmpR (op_eqU hr.units) (pe_op op_mod1 (pe_op op_div1 (pv 1) pe_int) pe_int) pe_int (nomark _)) (pss_one (ps_set (i := 2) sc_law_drawn.nd rfl (Or.inl rfl) (pe_ix ix_seq (pe_lst (pa_cons pe_str (pa_cons pe_non (pa_cons pe_int (pa_cons (pe_op op_mulS pe_str pe_int) pa_nil))))) (pe_op op_mod1 (pe_op op_div1 (pv 1) pe_int) pe_int) (fun _ _ => rfl)))) pss_nil) (pss_one (ps_ret (pe_tup (pa_cons pe_str (pa_cons (pv 2) pa_nil)))))) pss_nil)
  (pss_one (ps_ret (pe_tup (pa_cons pe_str pa_nil))))))))
abbrev s_Ledger_many : Stmt := inClass (topS 15) 6
theorem sc_Ledger_many : FnScope N_Ledger_many ["self"] (defScope s_Ledger_many) := ⟨rfl, rfl, rfl, by decide +kernel, rfl, by decide +kernel, by decide +kernel⟩
theorem ok_Ledger_many (M : BM mg) (T : TxK K c) (F : MetG K c.Ledger "many" "Ledger.many" s_Ledger_many ["self"]) (D : c.md = MD P w) : MtG P w K mg base 1 c.Ledger "many" ["self"] (sp_Ledger_many K c) := by
  refine F.ok sc_Ledger_many len_Ledger_many (fun f cdv A outer s H vs Q E hr h => ⟨t_Ledger_many K c E, ?_, pure_Ledger_many T h⟩)
  exact (pss_one (ps_ret (pe_callB call_len1 (by rfl) M.len (by decide +kernel) (pa_cons (pe_fld (pv 0) rfl) pa_nil))))
abbrev s_law_size : Stmt := topS 27
theorem sc_law_size : FnScope N_law_size ["_law_height"] (defScope s_law_size) := ⟨rfl, rfl, rfl, by decide +kernel, rfl, by decide +kernel, by decide +kernel⟩
theorem ok_law_size (M : BM mg) (T : TxK K c) (F : FunG K mg "_law_size" s_law_size ["_law_height"]) (D : c.md = MD P w) : FnG P w K mg base 1 "_law_size" ["_law_height"] (sp_law_size K c) := by
  refine F.ok sc_law_size len_law_size (fun f cdv A outer s H vs Q E hr h => ⟨t_law_size K c E, ?_, pure_law_size h⟩)
  exact (pss_cons (ps_set (i := 1) sc_law_size.nd rfl (Or.inl rfl) pe_int)
  (pss_cons (ps_for (passes_of rfl) rfl (pi_range1 (by rfl) M.range (pa_cons (pv 0) pa_nil)) (pg_name (i := 2) sc_law_size.nd rfl (Or.inl rfl)) (pss_one (ps_set (i := 1) sc_law_size.nd rfl (Or.inl rfl) (pe_op op_mul1 (pv 1) pe_int))))
  (pss_one (ps_ret (pv 1)))))
abbrev s_law_blocks : Stmt := topS 31
theorem sc_law_blocks : FnScope N_law_blocks ["_law_count", "_law_place"] (defScope s_law_blocks) := ⟨rfl, rfl, rfl, by decide +kernel, rfl, by decide +kernel, by decide +kernel⟩
theorem ok_law_blocks (M : BM mg) (T : TxK K c) (F : FunG K mg "_law_blocks" s_law_blocks ["_law_count", "_law_place"]) (D : c.md = MD P w) (G_law_size : FnG P w K mg base 1 "_law_size" ["_law_height"] (sp_law_size K c)) : FnG P w K mg base 2 "_law_blocks" ["_law_count", "_law_place"] (sp_law_blocks K c) := by
  refine F.ok sc_law_blocks len_law_blocks (fun f cdv A outer s H vs Q E hr h => ⟨t_law_blocks K c E, ?_, pure_law_blocks h⟩)
  exact (pss_cons (ps_set (i := 2) sc_law_blocks.nd rfl (Or.inl rfl) pe_int)
  (pss_cons (ps_set (i := 3) sc_law_blocks.nd rfl (Or.inl rfl) pe_int)
  (pss_cons (ps_while (passes_of rfl) (pt_cmpR op_le1 (pe_op op_mul1 (pe_op op_addU (pe_op op_div1 (pv 1) (pe_callG (E := E0) G_law_size (hr.mono (by decide)) passL (by exact (pa_cons (pv 3) pa_nil)))) pe_int) (pe_callG (E := E0) G_law_size (hr.mono (by decide)) passL (by exact (pa_cons (pv 3) pa_nil)))) (pv 0) (nomark _)) (pss_cons (ps_set (i := 2) sc_law_blocks.nd rfl (Or.inl rfl) (pe_op op_addU (pv 2) pe_int))
  (pss_one (ps_set (i := 3) sc_law_blocks.nd rfl (Or.inl rfl) (pe_op op_addU (pv 3) pe_int)))))
  (pss_one (ps_ret (pv 2))))))
abbrev s_law_good : Stmt := topS 33
theorem sc_law_good : FnScope N_law_good ["_law_text_here"] (defScope s_law_good) := ⟨rfl, rfl, rfl, by decide +kernel, rfl, by decide +kernel, by decide +kernel⟩
theorem ok_law_good (M : BM mg) (T : TxK K c) (F : FunG K mg "_law_good" s_law_good ["_law_text_here"]) (D : c.md = MD P w) : FnG P w K mg base 1 "_law_good" ["_law_text_here"] (sp_law_good K c) := by
  refine F.ok sc_law_good len_law_good (fun f cdv A outer s H vs Q E hr h => ⟨t_law_good K c E, ?_, pure_law_good h⟩)
  exact (pss_one (ps_ret (pe_and (pe_callB call_isi (by rfl) M.isinstance (by decide +kernel) (pa_cons (pv 0) (pa_cons (pe_bltn (v := .ty "str") (by rfl) M.str (by decide +kernel) rfl) pa_nil))) (pe_and (pe_cmpR op_lt1 (pe_callB call_len1 (by rfl) M.len (by decide +kernel) (pa_cons (pv 0) pa_nil)) pe_int (nomark _)) (pe_one (pe_cmpR op_notIn_seq (pv 0) (pe_lst (pa_cons pe_str (pa_cons pe_str pa_nil))) (by rfl)))))))
abbrev s_law_whole : Stmt := topS 21
theorem sc_law_whole : FnScope N_law_whole ["_law_found"] (defScope s_law_whole) := ⟨rfl, rfl, rfl, by decide +kernel, rfl, by decide +kernel, by decide +kernel⟩
theorem ok_law_whole (M : BM mg) (T : TxK K c) (F : FunG K mg "_law_whole" s_law_whole ["_law_found"]) (D : c.md = MD P w) : FnG P w K mg base 1 "_law_whole" ["_law_found"] (sp_law_whole K c) := by
  refine F.ok sc_law_whole len_law_whole (fun f cdv A outer s H vs Q E hr h => ⟨t_law_whole K c E, ?_, pure_law_whole h⟩)
  exact (pss_one (ps_ret (pe_and (pe_callB call_isi (by rfl) M.isinstance (by decide +kernel) (pa_cons (pv 0) (pa_cons (pe_bltn (v := .ty "int") (by rfl) M.int (by decide +kernel) rfl) pa_nil))) (pe_one (pe_not (pe_callB call_isi (by rfl) M.isinstance (by decide +kernel) (pa_cons (pv 0) (pa_cons (pe_bltn (v := .ty "bool") (by rfl) M.bool (by decide +kernel) rfl) pa_nil))))))))
abbrev s_law_due : Stmt := topS 34
theorem sc_law_due : FnScope N_law_due ["_law_rows_here", "_law_deed_here"] (defScope s_law_due) := ⟨rfl, rfl, rfl, by decide +kernel, rfl, by decide +kernel, by decide +kernel⟩
theorem ok_law_due (M : BM mg) (T : TxK K c) (F : FunG K mg "_law_due" s_law_due ["_law_rows_here", "_law_deed_here"]) (D : c.md = MD P w) (G_law_blocks : FnG P w K mg base 2 "_law_blocks" ["_law_count", "_law_place"] (sp_law_blocks K c)) (G_law_good : FnG P w K mg base 1 "_law_good" ["_law_text_here"] (sp_law_good K c)) (G_law_whole : FnG P w K mg base 1 "_law_whole" ["_law_found"] (sp_law_whole K c)) : FnG P w K mg base 3 "_law_due" ["_law_rows_here", "_law_deed_here"] (sp_law_due K c) := by
  refine F.ok sc_law_due len_law_due (fun f cdv A outer s H vs Q E hr h => ⟨t_law_due K c E, ?_, pure_law_due h⟩)
  exact (pss_cons (ps_if (pt_cmpR (op_eqU hr.units) (pe_ix ix_seq (pv 1) pe_int (fun _ _ => rfl)) pe_str (nomark _)) (pss_cons (ps_set (i := 2) sc_law_due.nd rfl (Or.inl rfl) (pe_ix ix_seq (pv 1) pe_int (fun _ _ => rfl)))
  (pss_one (ps_if (PW.pt (pw_or (pt_not (pt_val (pe_callG (E := E0) G_law_whole (hr.mono (by decide)) passL (by exact (pa_cons (pv 2) pa_nil))))) (pw_or1 (pt_not (pt_chain op_le1 op_lt1 pe_int (pv 2) (pe_callB call_len1 (by rfl) M.len (by decide +kernel) (pa_cons (pv 0) pa_nil))))))) (pss_one (ps_ret (pe_tup (pa_cons pe_str pa_nil)))) pss_nil))) pss_nil)
  (pss_cons (ps_if (PW.pt (pw_and (pt_cmpR (op_neU hr.units) (pe_ix ix_seq (pv 1) pe_int (fun _ _ => rfl)) pe_str (nomark _)) (pw_and1 (pt_not (pt_val (pe_callG (E := E0) G_law_good (hr.mono (by decide)) passL (by exact (pa_cons (pe_ix ix_seq (pv 1) (pe_un un_neg pe_int) (fun _ _ => rfl)) pa_nil)))))))) (pss_one (ps_ret (pe_tup (pa_cons pe_str pa_nil)))) pss_nil)
  (pss_cons (ps_if (pt_cmpR (op_eqU hr.units) (pe_ix ix_seq (pv 1) pe_int (fun _ _ => rfl)) pe_str (nomark _)) (pss_cons (ps_asg (pe_ix ix_seq (pv 1) pe_int (fun _ _ => rfl)) (pg_sub (pv 0) (pv 2) set_list))
  (pss_one (ps_ret (pe_callG (E := E0) G_law_blocks (hr.mono (by decide)) passL (by exact (pa_cons (pe_callB call_len1 (by rfl) M.len (by decide +kernel) (pa_cons (pv 0) pa_nil)) (pa_cons (pv 2) pa_nil))))))) pss_nil)
  (pss_cons (ps_if (pt_cmpR (op_eqU hr.units) (pe_ix ix_seq (pv 1) pe_int (fun _ _ => rfl)) pe_str (nomark _)) (pss_cons (ps_expr (pe_bm PySem.F.plainAttrs_list PySem.F.slot_list_append PySem.F.type_list_append mt_append (pv 0) (pa_cons (pe_ix ix_seq (pv 1) pe_int (fun _ _ => rfl)) pa_nil)))
  (pss_one (ps_ret (pe_callG (E := E0) G_law_blocks (hr.mono (by decide)) passL (by exact (pa_cons (pe_callB call_len1 (by rfl) M.len (by decide +kernel) (pa_cons (pv 0) pa_nil)) (pa_cons (pe_op op_sub1 (pe_callB call_len1 (by rfl) M.len (by decide +kernel) (pa_cons (pv 0) pa_nil)) pe_int) pa_nil))))))) pss_nil)
  (pss_cons (ps_if (pt_cmpR (op_eqU hr.units) (pv 0) (pe_lst pa_nil) (nomark _)) (pss_one (ps_ret (pe_tup (pa_cons pe_str pa_nil)))) pss_nil)
  (pss_cons (ps_set (i := 3) sc_law_due.nd rfl (Or.inl rfl) (pe_callG (E := E0) G_law_blocks (hr.mono (by decide)) passL (by exact (pa_cons (pe_callB call_len1 (by rfl) M.len (by decide +kernel) (pa_cons (pv 0) pa_nil)) (pa_cons (pe_op op_sub1 (pe_callB call_len1 (by rfl) M.len (by decide +kernel) (pa_cons (pv 0) pa_nil)) pe_int) pa_nil)))))
  (pss_cons (ps_expr (pe_bm0 PySem.F.plainAttrs_list PySem.F.slot_list_pop PySem.F.type_list_pop mt_pop (pv 0)))
  (pss_one (ps_ret (pv 3))))))))))
abbrev s_size_of : Stmt := topS 2
theorem sc_size_of : FnScope N_size_of ["height"] (defScope s_size_of) := ⟨rfl, rfl, rfl, by decide +kernel, rfl, by decide +kernel, by decide +kernel⟩
theorem ok_size_of (M : BM mg) (T : TxK K c) (F : FunG K mg "size_of" s_size_of ["height"]) (D : c.md = MD P w) : FnG P w K mg base 1 "size_of" ["height"] (sp_size_of K c) := by
  refine F.ok sc_size_of len_size_of (fun f cdv A outer s H vs Q E hr h => ⟨t_size_of K c E, ?_, pure_size_of h⟩)
  exact (pss_cons (ps_set (i := 1) sc_size_of.nd rfl (Or.inl rfl) pe_int)
  (pss_cons (ps_for (passes_of rfl) rfl (pi_range1 (by rfl) M.range (pa_cons (pv 0) pa_nil)) (pg_name (i := 2) sc_size_of.nd rfl (Or.inl rfl)) (pss_one (ps_set (i := 1) sc_size_of.nd rfl (Or.inl rfl) (pe_op op_mul1 pe_int (pv 1)))))
  (pss_one (ps_ret (pv 1)))))
abbrev s_Book_cut : Stmt := inClass (topS 18) 6
theorem sc_Book_cut : FnScope N_Book_cut ["self"] (defScope s_Book_cut) := ⟨rfl, rfl, rfl, by decide +kernel, rfl, by decide +kernel, by decide +kernel⟩
theorem ok_Book_cut (M : BM mg) (T : TxK K c) (F : MetG K c.Book "cut" "Book.cut" s_Book_cut ["self"]) (D : c.md = MD P w) (X_NoPlace : ExcT K mg "NoPlace" c.NoPlace) (G_size_of : FnG P w K mg base 1 "size_of" ["height"] (sp_size_of K c)) : MtG P w K mg base 2 c.Book "cut" ["self"] (sp_Book_cut K c) := by
  refine F.ok sc_Book_cut len_Book_cut (fun f cdv A outer s H vs Q E hr h => ⟨t_Book_cut K c E, ?_, pure_Book_cut T h⟩)
  exact (pss_cons (ps_if (pt_cmpR (op_eqU hr.units) (pe_callB call_len1 (by rfl) M.len (by decide +kernel) (pa_cons (pe_fld (pv 0) rfl) pa_nil)) pe_int (nomark _)) (pss_one (ps_raiseG X_NoPlace rfl (takes_of rfl rfl rfl rfl))) pss_nil)
  (pss_cons (ps_set (i := 1) sc_Book_cut.nd rfl (Or.inl rfl) (pe_callB call_len1 (by rfl) M.len (by decide +kernel) (pa_cons (pe_fld (pv 0) rfl) pa_nil)))
  (pss_cons (ps_expr (pe_bm0 PySem.F.plainAttrs_list PySem.F.slot_list_pop PySem.F.type_list_pop mt_pop (pe_fld (pv 0) rfl)))
  (pss_cons (ps_expr (pe_bm0 PySem.F.plainAttrs_list PySem.F.slot_list_pop PySem.F.type_list_pop mt_pop (pe_ix ix_seq (pe_fld (pv 0) rfl) pe_int (fun _ _ => rfl))))
  (pss_cons (ps_set (i := 2) sc_Book_cut.nd rfl (Or.inl rfl) pe_int)
  (pss_cons (ps_while (passes_of rfl) (pt_cmpR (op_eqU hr.units) (pe_op op_mod1 (pv 1) (pe_callG (E := E) G_size_of (hr.mono (by decide)) (passE (takes_of rfl rfl rfl rfl)) (by exact (pa_cons (pv 2) pa_nil)))) pe_int (nomark _)) (pss_cons (ps_expr (pe_bm0 PySem.F.plainAttrs_list PySem.F.slot_list_pop PySem.F.type_list_pop mt_pop (pe_ix ix_seq (pe_fld (pv 0) rfl) (pv 2) (fun _ _ => rfl))))
  (pss_one (ps_set (i := 2) sc_Book_cut.nd rfl (Or.inl rfl) (pe_op op_addU (pv 2) pe_int)))))
  (pss_one (ps_ret (pv 2)))))))))
abbrev s_Book_sure : Stmt := inClass (topS 18) 1
theorem sc_Book_sure : FnScope N_Book_sure ["self", "place"] (defScope s_Book_sure) := ⟨rfl, rfl, rfl, by decide +kernel, rfl, by decide +kernel, by decide +kernel⟩
theorem ok_Book_sure (M : BM mg) (T : TxK K c) (F : MetG K c.Book "sure" "Book.sure" s_Book_sure ["self", "place"]) (D : c.md = MD P w) (X_NoPlace : ExcT K mg "NoPlace" c.NoPlace) (G_is_whole : FnG P w K mg base 1 "is_whole" ["thing"] (sp_is_whole K c)) : MtG P w K mg base 2 c.Book "sure" ["self", "place"] (sp_Book_sure K c) := by
  refine F.ok sc_Book_sure len_Book_sure (fun f cdv A outer s H vs Q E hr h => ⟨t_Book_sure K c E, ?_, pure_Book_sure T h⟩)
  exact (pss_one (ps_if (PW.pt (pw_or (pt_not (pt_val (pe_callG (E := E) G_is_whole (hr.mono (by decide)) (passE (takes_of rfl rfl rfl rfl)) (by exact (pa_cons (pv 1) pa_nil))))) (pw_or1 (pt_not (pt_chain op_le1 op_lt1 pe_int (pv 1) (pe_callB call_len1 (by rfl) M.len (by decide +kernel) (pa_cons (pe_fld (pv 0) rfl) pa_nil))))))) (pss_one (ps_raiseG X_NoPlace rfl (takes_of rfl rfl rfl rfl))) pss_nil))
abbrev s_Book_put : Stmt := inClass (topS 18) 4
theorem sc_Book_put : FnScope N_Book_put ["self", "place", "row"] (defScope s_Book_put) := ⟨rfl, rfl, rfl, by decide +kernel, rfl, by decide +kernel, by decide +kernel⟩
theorem ok_Book_put (M : BM mg) (T : TxK K c) (F : MetG K c.Book "put" "Book.put" s_Book_put ["self", "place", "row"]) (D : c.md = MD P w) (G_Book_sure : MtG P w K mg base 2 c.Book "sure" ["self", "place"] (sp_Book_sure K c)) (G_sure_row : FnG P w K mg base 2 "sure_row" ["thing"] (sp_sure_row K c)) (G_Ledger_of_row : MtG P w K mg base 3 c.Ledger "of_row" ["self", "row"] (sp_Ledger_of_row K c)) (G_Book_half_sums : MtG P w K mg base 4 c.Book "half_sums" ["self", "height", "number"] (sp_Book_half_sums K c)) : MtG P w K mg base 5 c.Book "put" ["self", "place", "row"] (sp_Book_put K c) := by
  refine F.ok sc_Book_put len_Book_put (fun f cdv A outer s H vs Q E hr h => ⟨t_Book_put K c E, ?_, pure_Book_put T h⟩)
  exact (pss_cons (ps_expr (pe_methG (E := E) (pv 0) T.cBook G_Book_sure (hr.mono (by decide)) (passE (takes_of rfl rfl rfl rfl)) (by exact (pa_cons (pv 1) pa_nil))))
  (pss_cons (ps_expr (pe_callG (E := E) G_sure_row (hr.mono (by decide)) (passE (takes_of rfl rfl rfl rfl)) (by exact (pa_cons (pv 2) pa_nil))))
  (pss_cons (ps_asg (pv 2) (pg_sub (pe_fld (pv 0) rfl) (pv 1) set_list))
  (pss_cons (ps_asg (pe_methG (E := E) (pe_fld (pv 0) rfl) T.cLedger G_Ledger_of_row (hr.mono (by decide)) (passE (takes_of rfl rfl rfl rfl)) (by exact (pa_cons (pv 2) pa_nil))) (pg_sub (pe_ix ix_seq (pe_fld (pv 0) rfl) pe_int (fun _ _ => rfl)) (pv 1) set_list))
  (pss_cons (ps_set (i := 3) sc_Book_put.nd rfl (Or.inl rfl) pe_int)
  (pss_cons (ps_set (i := 4) sc_Book_put.nd rfl (Or.inl rfl) (pe_op op_div1 (pv 1) pe_int))
  (pss_cons (ps_while (passes_of rfl) (PW.pt (pw_and (pt_cmpR op_lt1 (pv 3) (pe_callB call_len1 (by rfl) M.len (by decide +kernel) (pa_cons (pe_fld (pv 0) rfl) pa_nil)) (nomark _)) (pw_and1 (pt_cmpR op_lt1 (pv 4) (pe_callB call_len1 (by rfl) M.len (by decide +kernel) (pa_cons (pe_ix ix_seq (pe_fld (pv 0) rfl) (pv 3) (fun _ _ => rfl)) pa_nil)) (nomark _))))) (pss_cons (ps_asg (pe_methG (E := E) (pv 0) T.cBook G_Book_half_sums (hr.mono (by decide)) (passE (takes_of rfl rfl rfl rfl)) (by exact (pa_cons (pv 3) (pa_cons (pv 4) pa_nil)))) (pg_sub (pe_ix ix_seq (pe_fld (pv 0) rfl) (pv 3) (fun _ _ => rfl)) (pv 4) set_list))
  (pss_cons (ps_set (i := 3) sc_Book_put.nd rfl (Or.inl rfl) (pe_op op_addU (pv 3) pe_int))
  (pss_one (ps_set (i := 4) sc_Book_put.nd rfl (Or.inl rfl) (pe_op op_div1 (pv 4) pe_int))))))
  (pss_one (ps_ret (pv 3))))))))))
abbrev s_Book_add : Stmt := inClass (topS 18) 5
theorem sc_Book_add : FnScope N_Book_add ["self", "row"] (defScope s_Book_add) := ⟨rfl, rfl, rfl, by decide +kernel, rfl, by decide +kernel, by decide +kernel⟩
theorem ok_Book_add (M : BM mg) (T : TxK K c) (F : MetG K c.Book "add" "Book.add" s_Book_add ["self", "row"]) (D : c.md = MD P w) (X_Full : ExcT K mg "Full" c.Full) (G_sure_row : FnG P w K mg base 2 "sure_row" ["thing"] (sp_sure_row K c)) (G_Book_grow : MtG P w K mg base 5 c.Book "grow" ["self", "row"] (sp_Book_grow K c)) : MtG P w K mg base 6 c.Book "add" ["self", "row"] (sp_Book_add K c) := by
  refine F.ok sc_Book_add len_Book_add (fun f cdv A outer s H vs Q E hr h => ⟨t_Book_add K c E, ?_, pure_Book_add T h⟩)
  exact (pss_cons (ps_expr (pe_callG (E := E) G_sure_row (hr.mono (by decide)) (passE (takes_of rfl rfl rfl rfl)) (by exact (pa_cons (pv 1) pa_nil))))
  (pss_cons (ps_if (pt_cmpR (op_eqU hr.units) (pe_callB call_len1 (by rfl) M.len (by decide +kernel) (pa_cons (pe_fld (pv 0) rfl) pa_nil)) (pe_glob (by rfl) M.MOST_ROWS.choose_spec ⟨_, rfl⟩) (nomark _)) (pss_one (ps_raiseG X_Full rfl (takes_of rfl rfl rfl rfl))) pss_nil)
  (pss_one (ps_ret (pe_methG (E := E) (pv 0) T.cBook G_Book_grow (hr.mono (by decide)) (passE (takes_of rfl rfl rfl rfl)) (by exact (pa_cons (pv 1) pa_nil)))))))
abbrev s_law_deed : Stmt := topS 30
theorem sc_law_deed : FnScope N_law_deed ["_law_book", "_law_deed_here"] (defScope s_law_deed) := ⟨rfl, rfl, rfl, by decide +kernel, rfl, by decide +kernel, by decide +kernel⟩
theorem ok_law_deed (M : BM mg) (T : TxK K c) (F : FunG K mg "_law_deed" s_law_deed ["_law_book", "_law_deed_here"]) (D : c.md = MD P w) (X_NoPlace : ExcT K mg "NoPlace" c.NoPlace) (X_NoRow : ExcT K mg "NoRow" c.NoRow) (G_Book_cut : MtG P w K mg base 2 c.Book "cut" ["self"] (sp_Book_cut K c)) (G_Book_put : MtG P w K mg base 5 c.Book "put" ["self", "place", "row"] (sp_Book_put K c)) (G_Book_add : MtG P w K mg base 6 c.Book "add" ["self", "row"] (sp_Book_add K c)) : FnG P w K mg base 7 "_law_deed" ["_law_book", "_law_deed_here"] (sp_law_deed K c) := by
  refine F.ok sc_law_deed len_law_deed (fun f cdv A outer s H vs Q E hr h => ⟨t_law_deed K c E, ?_, pure_law_deed T h⟩)
  exact (pss_one (ps_try_many (tb := fun W1 => (tSeq (tIfS (tTest (tOp (rEqU K) (tOp (rIx K) (tVar 1) (tC (.int 0))) (tC (.str "put")))) (tRet (tMethS c.Book "put" (sp_Book_put K c) (WE W1) (tVar 0) (tCons (tOp (rIx K) (tVar 1) (tC (.int 1))) (tCons (tOp (rIx K) (tVar 1) (tC (.int 2))) tNil)))) tNext)
  (tSeq (tIfS (tTest (tOp (rEqU K) (tOp (rIx K) (tVar 1) (tC (.int 0))) (tC (.str "add")))) (tRet (tMethS c.Book "add" (sp_Book_add K c) (WE W1) (tVar 0) (tCons (tOp (rIx K) (tVar 1) (tC (.int 1))) tNil))) tNext)
  (tRet (tMethS c.Book "cut" (sp_Book_cut K c) (WE W1) (tVar 0) tNil))))) (Wout := (fun _ _ _ _ => False)) rfl rfl takes0 (fun W1 pn1 xe1 tk1 po1 => (pss_cons (ps_if (pt_cmpR (op_eqU hr.units) (pe_ix ix_seq (pv 1) pe_int (fun _ _ => rfl)) pe_str (nomark _)) (pss_one (ps_ret (pe_methGS (pv 0) T.cBook G_Book_put (hr.mono (by decide)) (fun σ => passAt tk1 σ) (by exact (pa_cons (pe_ix ix_seq (pv 1) pe_int (fun _ _ => rfl)) (pa_cons (pe_ix ix_seq (pv 1) pe_int (fun _ _ => rfl)) pa_nil)))))) pss_nil)
  (pss_cons (ps_if (pt_cmpR (op_eqU hr.units) (pe_ix ix_seq (pv 1) pe_int (fun _ _ => rfl)) pe_str (nomark _)) (pss_one (ps_ret (pe_methGS (pv 0) T.cBook G_Book_add (hr.mono (by decide)) (fun σ => passAt tk1 σ) (by exact (pa_cons (pe_ix ix_seq (pv 1) pe_int (fun _ _ => rfl)) pa_nil))))) pss_nil)
  (pss_one (ps_ret (pe_methG0S (pv 0) T.cBook G_Book_cut (hr.mono (by decide)) (fun σ => passAt tk1 σ))))))) (HdsOk.cons (ts := fun _ _ _ => (tRet (tTup (tCons (tC (.str "NoPlace")) tNil)))) ⟨rfl, by decide, Or.inl X_NoPlace.g⟩ (fun a oe cls d pn hz hf => (pss_one (ps_ret (pe_tup (pa_cons pe_str pa_nil))))) (HdsOk.cons (ts := fun _ _ _ => (tRet (tTup (tCons (tC (.str "NoRow")) tNil)))) ⟨rfl, by decide, Or.inl X_NoRow.g⟩ (fun a oe cls d pn hz hf => (pss_one (ps_ret (pe_tup (pa_cons pe_str pa_nil))))) HdsOk.nil))))
abbrev s_Book_rows : Stmt := inClass (topS 18) 9
theorem sc_Book_rows : FnScope N_Book_rows ["self"] (defScope s_Book_rows) := ⟨rfl, rfl, rfl, by decide +kernel, rfl, by decide +kernel, by decide +kernel⟩
theorem ok_Book_rows (M : BM mg) (T : TxK K c) (F : MetG K c.Book "rows" "Book.rows" s_Book_rows ["self"]) (D : c.md = MD P w) : MtG P w K mg base 1 c.Book "rows" ["self"] (sp_Book_rows K c) := by
  refine F.ok sc_Book_rows len_Book_rows (fun f cdv A outer s H vs Q E hr h => ⟨t_Book_rows K c E, ?_, pure_Book_rows T h⟩)
  exact (pss_one (ps_ret (pe_callTy call_list1 (by rfl) M.list (by decide +kernel) (pa_cons (pe_fld (pv 0) rfl) pa_nil))))
abbrev s_law_cell_at : Stmt := topS 20
theorem sc_law_cell_at : FnScope N_law_cell_at ["_law_script", "_law_k"] (defScope s_law_cell_at) := ⟨rfl, rfl, rfl, by decide +kernel, rfl, by decide +kernel, by decide +kernel⟩
theorem ok_law_cell_at (M : BM mg) (T : TxK K c) (F : FunG K mg "_law_cell_at" s_law_cell_at ["_law_script", "_law_k"]) (D : c.md = MD P w) : FnG P w K mg base 1 "_law_cell_at" ["_law_script", "_law_k"] (sp_law_cell_at K c) := by
  refine F.ok sc_law_cell_at len_law_cell_at (fun f cdv A outer s H vs Q E hr h => ⟨t_law_cell_at K c E, ?_, pure_law_cell_at h⟩)
  exact (pss_cons (ps_if (pt_cmpR op_lt1 (pv 1) (pe_callB call_len1 (by rfl) M.len (by decide +kernel) (pa_cons (pv 0) pa_nil)) (nomark _)) (pss_one (ps_ret (pe_ix ix_seq (pv 0) (pv 1) (fun _ _ => rfl)))) pss_nil)
  (pss_one (ps_ret pe_int)))
abbrev s_law_room : Stmt := topS 29
theorem sc_law_room : FnScope N_law_room ["_law_script", "_law_small", "_law_great"] (defScope s_law_room) := ⟨rfl, rfl, rfl, by decide +kernel, rfl, by decide +kernel, by decide +kernel⟩
theorem ok_law_room (M : BM mg) (T : TxK K c) (F : FunG K mg "_law_room" s_law_room ["_law_script", "_law_small", "_law_great"]) (D : c.md = MD P w) : FnG P w K mg base 1 "_law_room" ["_law_script", "_law_small", "_law_great"] (sp_law_room K c) := by
  refine F.ok sc_law_room len_law_room (fun f cdv A outer s H vs Q E hr h => ⟨t_law_room K c E, ?_, pure_law_room h⟩)
  exact (pss_cons (ps_if (pt_cmpR op_gt1 (pe_callB call_len1 (by rfl) M.len (by decide +kernel) (pa_cons (pv 0) pa_nil)) pe_int (nomark _)) (pss_one (ps_ret (pv 2))) pss_nil)
  (pss_one (ps_ret (pv 1))))
abbrev s_law_again : Stmt := topS 35
theorem sc_law_again : FnScope N_law_again ["_law_book", "_law_rows_here", "_law_deed_here"] (defScope s_law_again) := ⟨rfl, rfl, rfl, by decide +kernel, rfl, by decide +kernel, by decide +kernel⟩
theorem ok_law_again (M : BM mg) (T : TxK K c) (F : FunG K mg "_law_again" s_law_again ["_law_book", "_law_rows_here", "_law_deed_here"]) (D : c.md = MD P w) (G_law_due : FnG P w K mg base 3 "_law_due" ["_law_rows_here", "_law_deed_here"] (sp_law_due K c)) (G_law_whole : FnG P w K mg base 1 "_law_whole" ["_law_found"] (sp_law_whole K c)) (G_law_good : FnG P w K mg base 1 "_law_good" ["_law_text_here"] (sp_law_good K c)) (G_Book_add : MtG P w K mg base 6 c.Book "add" ["self", "row"] (sp_Book_add K c)) (G_Book_put : MtG P w K mg base 5 c.Book "put" ["self", "place", "row"] (sp_Book_put K c)) : FnG P w K mg base 7 "_law_again" ["_law_book", "_law_rows_here", "_law_deed_here"] (sp_law_again K c) := by
  refine F.ok sc_law_again len_law_again (fun f cdv A outer s H vs Q E hr h => ⟨t_law_again K c E, ?_, pure_law_again T h⟩)
  exact (pss_cons (ps_if (PW.pt (pw_or (pt_cmpR (op_neU hr.units) (pe_ix ix_seq (pv 2) pe_int (fun _ _ => rfl)) pe_str (nomark _)) (pw_or (pt_not (pt_val (pe_callG (E := E0) G_law_whole (hr.mono (by decide)) passL (by exact (pa_cons (pe_ix ix_seq (pv 2) pe_int (fun _ _ => rfl)) pa_nil))))) (pw_or (pt_cmpR (op_neU hr.units) (pe_ix ix_seq (pv 2) pe_int (fun _ _ => rfl)) (pe_callB call_len1 (by rfl) M.len (by decide +kernel) (pa_cons (pv 1) pa_nil)) (nomark _)) (pw_or1 (pt_not (pt_val (pe_callG (E := E0) G_law_good (hr.mono (by decide)) passL (by exact (pa_cons (pe_ix ix_seq (pv 2) pe_int (fun _ _ => rfl)) pa_nil)))))))))) (pss_one (ps_ret pe_bl)) pss_nil)
  (pss_cons (ps_set (i := 3) sc_law_again.nd rfl (Or.inl rfl) (pe_callG (E := E0) G_law_due (hr.mono (by decide)) passL (by exact (pa_cons (pv 1) (pa_cons (pe_tup (pa_cons pe_str (pa_cons pe_str pa_nil))) pa_nil)))))
  (pss_one (ps_ret (pe_and (pe_cmpR (op_eqU hr.units) (pe_methG (E := E0) (pv 0) T.cBook G_Book_add (hr.mono (by decide)) passL (by exact (pa_cons pe_str pa_nil))) (pv 3) (nomark _)) (pe_one (pe_cmpR (op_eqU hr.units) (pe_methG (E := E0) (pv 0) T.cBook G_Book_put (hr.mono (by decide)) passL (by exact (pa_cons (pe_ix ix_seq (pv 2) pe_int (fun _ _ => rfl)) (pa_cons (pe_ix ix_seq (pv 2) pe_int (fun _ _ => rfl)) pa_nil)))) (pe_callG (E := E0) G_law_due (hr.mono (by decide)) passL (by exact (pa_cons (pv 1) (pa_cons (pv 2) pa_nil)))) (nomark _))))))))
abbrev s_Book_row : Stmt := inClass (topS 18) 8
theorem sc_Book_row : FnScope N_Book_row ["self", "place"] (defScope s_Book_row) := ⟨rfl, rfl, rfl, by decide +kernel, rfl, by decide +kernel, by decide +kernel⟩
theorem ok_Book_row (M : BM mg) (T : TxK K c) (F : MetG K c.Book "row" "Book.row" s_Book_row ["self", "place"]) (D : c.md = MD P w) (G_Book_sure : MtG P w K mg base 2 c.Book "sure" ["self", "place"] (sp_Book_sure K c)) : MtG P w K mg base 3 c.Book "row" ["self", "place"] (sp_Book_row K c) := by
  refine F.ok sc_Book_row len_Book_row (fun f cdv A outer s H vs Q E hr h => ⟨t_Book_row K c E, ?_, pure_Book_row T h⟩)
  exact (pss_cons (ps_expr (pe_methG (E := E) (pv 0) T.cBook G_Book_sure (hr.mono (by decide)) (passE (takes_of rfl rfl rfl rfl)) (by exact (pa_cons (pv 1) pa_nil))))
  (pss_one (ps_ret (pe_ix ix_seq (pe_fld (pv 0) rfl) (pv 1) (fun _ _ => rfl)))))
abbrev s_law_no_row : Stmt := topS 36
theorem sc_law_no_row : FnScope N_law_no_row ["_law_book", "_law_rows_here", "_law_cell"] (defScope s_law_no_row) := ⟨rfl, rfl, rfl, by decide +kernel, rfl, by decide +kernel, by decide +kernel⟩
theorem ok_law_no_row (M : BM mg) (T : TxK K c) (F : FunG K mg "_law_no_row" s_law_no_row ["_law_book", "_law_rows_here", "_law_cell"]) (D : c.md = MD P w) (X_NoPlace : ExcT K mg "NoPlace" c.NoPlace) (G_Book_row : MtG P w K mg base 3 c.Book "row" ["self", "place"] (sp_Book_row K c)) : FnG P w K mg base 4 "_law_no_row" ["_law_book", "_law_rows_here", "_law_cell"] (sp_law_no_row K c) := by
  refine F.ok sc_law_no_row len_law_no_row (fun f cdv A outer s H vs Q E hr h => ⟨t_law_no_row K c E, ?_, pure_law_no_row T h⟩)
  exact (pss_cons (ps_set (i := 3) sc_law_no_row.nd rfl (Or.inl rfl) (pe_ix ix_seq (pe_lst (pa_cons (pe_un un_neg pe_int) (pa_cons (pe_callB call_len1 (by rfl) M.len (by decide +kernel) (pa_cons (pv 1) pa_nil)) (pa_cons pe_bl (pa_cons pe_str (pa_cons pe_non (pa_cons (pe_op op_addU (pe_callB call_len1 (by rfl) M.len (by decide +kernel) (pa_cons (pv 1) pa_nil)) (pe_op op_mod1 (pe_op op_div1 (pv 2) pe_int) (pe_op op_pow1 pe_int pe_int))) (pa_cons (pe_op op_sub1 (pe_op op_sub1 pe_int pe_int) (pe_op op_mod1 (pe_op op_div1 (pv 2) pe_int) pe_int)) pa_nil)))))))) (pe_op op_mod1 (pv 2) pe_int) (fun _ _ => rfl)))
  (pss_cons (ps_try_many (tb := fun W1 => (tDrop (tMethS c.Book "row" (sp_Book_row K c) (WE W1) (tVar 0) (tCons (tVar 3) tNil)))) (Wout := (fun _ _ _ _ => False)) rfl rfl takes0 (fun W1 pn1 xe1 tk1 po1 => (pss_one (ps_expr (pe_methGS (pv 0) T.cBook G_Book_row (hr.mono (by decide)) (fun σ => passAt tk1 σ) (by exact (pa_cons (pv 3) pa_nil)))))) (HdsOk.cons (ts := fun _ _ _ => (tRet (tC (.bl true)))) ⟨rfl, by decide, Or.inl X_NoPlace.g⟩ (fun a oe cls d pn hz hf => (pss_one (ps_ret pe_bl))) HdsOk.nil))
  (pss_one (ps_ret pe_bl))))
abbrev s_Book_count : Stmt := inClass (topS 18) 7
theorem sc_Book_count : FnScope N_Book_count ["self"] (defScope s_Book_count) := ⟨rfl, rfl, rfl, by decide +kernel, rfl, by decide +kernel, by decide +kernel⟩
theorem ok_Book_count (M : BM mg) (T : TxK K c) (F : MetG K c.Book "count" "Book.count" s_Book_count ["self"]) (D : c.md = MD P w) : MtG P w K mg base 1 c.Book "count" ["self"] (sp_Book_count K c) := by
  refine F.ok sc_Book_count len_Book_count (fun f cdv A outer s H vs Q E hr h => ⟨t_Book_count K c E, ?_, pure_Book_count T h⟩)
  exact (pss_one (ps_ret (pe_callB call_len1 (by rfl) M.len (by decide +kernel) (pa_cons (pe_fld (pv 0) rfl) pa_nil))))
abbrev s_law_same : Stmt := topS 37
theorem sc_law_same : FnScope N_law_same ["_law_book", "_law_rows_here", "_law_cell"] (defScope s_law_same) := ⟨rfl, rfl, rfl, by decide +kernel, rfl, by decide +kernel, by decide +kernel⟩
theorem ok_law_same (M : BM mg) (T : TxK K c) (F : FunG K mg "_law_same" s_law_same ["_law_book", "_law_rows_here", "_law_cell"]) (D : c.md = MD P w) (G_law_no_row : FnG P w K mg base 4 "_law_no_row" ["_law_book", "_law_rows_here", "_law_cell"] (sp_law_no_row K c)) (G_law_whole : FnG P w K mg base 1 "_law_whole" ["_law_found"] (sp_law_whole K c)) (G_law_mix : FnG P w K mg base 1 "_law_mix" ["_law_number", "_law_k"] (sp_law_mix K c)) (G_Book_rows : MtG P w K mg base 1 c.Book "rows" ["self"] (sp_Book_rows K c)) (G_Book_row : MtG P w K mg base 3 c.Book "row" ["self", "place"] (sp_Book_row K c)) (G_Book_count : MtG P w K mg base 1 c.Book "count" ["self"] (sp_Book_count K c)) : FnG P w K mg base 5 "_law_same" ["_law_book", "_law_rows_here", "_law_cell"] (sp_law_same K c) := by
  refine F.ok sc_law_same len_law_same (fun f cdv A outer s H vs Q E hr h => ⟨t_law_same K c E, ?_, pure_law_same h⟩)
  exact (pss_cons (ps_if (pt_not (pt_val (pe_callG (E := E0) G_law_no_row (hr.mono (by decide)) passL (by exact (pa_cons (pv 0) (pa_cons (pv 1) (pa_cons (pe_callG (E := E0) G_law_mix (hr.mono (by decide)) passL (by exact (pa_cons (pv 2) (pa_cons pe_int pa_nil)))) pa_nil))))))) (pss_one (ps_ret pe_bl)) pss_nil)
  (Evl.pss_cut (ps_if (PW.pt (pw_and (pt_cmpR (op_eqU hr.units) (pe_op op_mod1 (pv 2) pe_int) pe_int (nomark _)) (pw_and1 (pt_cmpR (op_neU hr.units) (pe_methG0 (E := E0) (pv 0) T.cBook G_Book_rows (hr.mono (by decide)) passL) (pv 1) (nomark _))))) (pss_one (ps_ret pe_bl)) pss_nil) (pss_cons (ps_for (passes_of rfl) rfl (pi_range1 (by rfl) M.range (pa_cons (pe_callB (call_min1 rfl) (by rfl) M.min (by decide +kernel) (pa_cons pe_int (pa_cons (pe_callB call_len1 (by rfl) M.len (by decide +kernel) (pa_cons (pv 1) pa_nil)) pa_nil))) pa_nil)) (pg_name (i := 3) sc_law_same.nd rfl (Or.inl rfl)) (pss_cons (ps_set (i := 4) sc_law_same.nd rfl (Or.inl rfl) (pe_op op_mod1 (pe_callG (E := E0) G_law_mix (hr.mono (by decide)) passL (by exact (pa_cons (pv 2) (pa_cons (pe_op op_addU pe_int (pv 3)) pa_nil)))) (pe_callB call_len1 (by rfl) M.len (by decide +kernel) (pa_cons (pv 1) pa_nil))))
  (pss_one (ps_if (pt_cmpR (op_neU hr.units) (pe_methG (E := E0) (pv 0) T.cBook G_Book_row (hr.mono (by decide)) passL (by exact (pa_cons (pv 4) pa_nil))) (pe_ix ix_seq (pv 1) (pv 4) (fun _ _ => rfl)) (nomark _)) (pss_one (ps_ret pe_bl)) pss_nil))))
  (pss_one (ps_ret (pe_and (pe_callG (E := E0) G_law_whole (hr.mono (by decide)) passL (by exact (pa_cons (pe_methG0 (E := E0) (pv 0) T.cBook G_Book_count (hr.mono (by decide)) passL) pa_nil))) (pe_and (pe_cmpR (op_eqU hr.units) (pe_methG0 (E := E0) (pv 0) T.cBook G_Book_count (hr.mono (by decide)) passL) (pe_callB call_len1 (by rfl) M.len (by decide +kernel) (pa_cons (pv 1) pa_nil)) (nomark _)) (pe_one (pe_cmpR (op_eqU hr.units) (pe_methG0 (E := E0) (pv 0) T.cBook G_Book_rows (hr.mono (by decide)) passL) (pv 1) (nomark _))))))))))
abbrev s_law : Stmt := topS 38
theorem sc_law : FnScope N_law ["_law_script"] (defScope s_law) := ⟨rfl, rfl, rfl, by decide +kernel, rfl, by decide +kernel, by decide +kernel⟩
theorem ok_law (M : BM mg) (T : TxK K c) {f : Addr} {fd : FuncData} (F : Fun K "law" "law" s_law f fd) (D : c.md = MD P w) (G_Ledger_init : MkG P w K mg base 1 c.Ledger "Ledger" ["self"] (sp_Ledger_init K c)) (G_law_rows : FnG P w K mg base 3 "_law_rows" ["_law_cell", "_law_more"] (sp_law_rows K c)) (G_Book_init : MkG P w K mg base 6 c.Book "Book" ["self", "ledger", "rows"] (sp_Book_init K c)) (G_law_drawn : FnG P w K mg base 3 "_law_drawn" ["_law_rows_here", "_law_cell"] (sp_law_drawn K c)) (G_Ledger_many : MtG P w K mg base 1 c.Ledger "many" ["self"] (sp_Ledger_many K c)) (G_law_due : FnG P w K mg base 3 "_law_due" ["_law_rows_here", "_law_deed_here"] (sp_law_due K c)) (G_law_deed : FnG P w K mg base 7 "_law_deed" ["_law_book", "_law_deed_here"] (sp_law_deed K c)) (G_Book_rows : MtG P w K mg base 1 c.Book "rows" ["self"] (sp_Book_rows K c)) (G_law_cell_at : FnG P w K mg base 1 "_law_cell_at" ["_law_script", "_law_k"] (sp_law_cell_at K c)) (G_law_room : FnG P w K mg base 1 "_law_room" ["_law_script", "_law_small", "_law_great"] (sp_law_room K c)) (G_law_whole : FnG P w K mg base 1 "_law_whole" ["_law_found"] (sp_law_whole K c)) (G_law_again : FnG P w K mg base 7 "_law_again" ["_law_book", "_law_rows_here", "_law_deed_here"] (sp_law_again K c)) (G_law_same : FnG P w K mg base 5 "_law_same" ["_law_book", "_law_rows_here", "_law_cell"] (sp_law_same K c)) : FnOk P w K mg base (L2.CX P w) 8 f fd ["_law_script"] (sp_law K c) := by
  refine F.okX sc_law len_law (fun cdv A outer s H vs Q E hr h => ⟨t_law K c E, ?_, pure_law T h⟩)
  exact (pss_cons (ps_set (i := 1) sc_law.nd rfl (Or.inr rfl) (pe_makeG0 (E := E0) G_Ledger_init (hr.mono (by decide)) passL))
  (pss_cons (ps_set (i := 2) sc_law.nd rfl (Or.inl rfl) (pe_lst (pa_cons (pe_callG (E := E0) G_law_rows (hr.mono (by decide)) passL (by exact (pa_cons (pe_callG (E := E0) G_law_cell_at (hr.mono (by decide)) passL (by exact (pa_cons (pv 0) (pa_cons pe_int pa_nil)))) (pa_cons (pe_callG (E := E0) G_law_cell_at (hr.mono (by decide)) passL (by exact (pa_cons (pv 0) (pa_cons pe_int pa_nil)))) pa_nil)))) pa_nil)))
  (pss_cons (ps_expr (pe_bm PySem.F.plainAttrs_list PySem.F.slot_list_append PySem.F.type_list_append mt_append (pv 2) (pa_cons (pe_callG (E := E0) G_law_rows (hr.mono (by decide)) passL (by exact (pa_cons (pe_callG (E := E0) G_law_cell_at (hr.mono (by decide)) passL (by exact (pa_cons (pv 0) (pa_cons pe_int pa_nil)))) (pa_cons (pe_callG (E := E0) G_law_cell_at (hr.mono (by decide)) passL (by exact (pa_cons (pv 0) (pa_cons pe_int pa_nil)))) pa_nil)))) pa_nil)))
  (Evl.pss_cut (ps_if (pt_cmpR (op_eqU hr.units) (pe_op op_mod1 (pe_callG (E := E0) G_law_cell_at (hr.mono (by decide)) passL (by exact (pa_cons (pv 0) (pa_cons pe_int pa_nil)))) pe_int) pe_int (nomark _)) (pss_one (ps_asg (pe_callTy call_list1 (by rfl) M.list (by decide +kernel) (pa_cons (pe_ix ix_seq (pv 2) pe_int (fun _ _ => rfl)) pa_nil)) (pg_sub (pv 2) pe_int set_list))) pss_nil) (pss_cons (ps_setLc (i := 3) (own := [("_law_rows_here", 13)]) (g := (gName 13)) (tt := tYes) rfl sc_law.nd rfl rfl (sw_true rfl rfl rfl (by decide +kernel)) (pi_list (pv 2)) (blkOk_by (N := N_law) (sc := defScope s_law) (by decide +kernel)) (fun _ _ _ _ _ => (pg_name (i := 13) sc_law.nd rfl (Or.inl rfl))) (fun _ _ _ _ _ => pts_nil) (fun _ _ _ _ _ => (by exact (pe_callTy call_list1 (by rfl) M.list (by decide +kernel) (pa_cons (pv 13) pa_nil)))))
  (pss_cons (ps_setLc (i := 4) (own := [("_law_rows_here", 13)]) (g := (gName 13)) (tt := tYes) rfl sc_law.nd rfl rfl (sw_true rfl rfl rfl (by decide +kernel)) (pi_list (pv 3)) (blkOk_by (N := N_law) (sc := defScope s_law) (by decide +kernel)) (fun _ _ _ _ _ => (pg_name (i := 13) sc_law.nd rfl (Or.inl rfl))) (fun _ _ _ _ _ => pts_nil) (fun _ _ _ _ _ => (by exact (pe_makeG (E := E0) G_Book_init (hr.mono (by decide)) passL (by exact (pa_cons (pv 1) (pa_cons (pv 13) pa_nil)))))))
  (pss_cons (ps_expr (pe_bm PySem.F.plainAttrs_list PySem.F.slot_list_append PySem.F.type_list_append mt_append (pe_ix ix_seq (pv 3) pe_int (fun _ _ => rfl)) (pa_cons pe_str pa_nil)))
  (pss_cons (ps_expr (pe_bm0 PySem.F.plainAttrs_list PySem.F.slot_list_clear PySem.F.type_list_clear mt_clear (pe_ix ix_seq (pv 3) pe_int (fun _ _ => rfl))))
  (pss_cons (ps_set (i := 5) sc_law.nd rfl (Or.inl rfl) (pe_lst pa_nil))
  (pss_cons (ps_for (passes_of rfl) rfl (pi_list (pe_slice sl_U (pv 0) (po_some pe_int) (po_some (pe_op op_addU pe_int (pe_callG (E := E0) G_law_room (hr.mono (by decide)) passL (by exact (pa_cons (pv 0) (pa_cons pe_int (pa_cons pe_int pa_nil))))))))) (pg_name (i := 6) sc_law.nd rfl (Or.inl rfl)) (pss_cons (ps_set (i := 7) sc_law.nd rfl (Or.inl rfl) (pe_op op_mod1 (pv 6) pe_int))
  (pss_cons (ps_set (i := 8) sc_law.nd rfl (Or.inl rfl) (pe_callG (E := E0) G_law_drawn (hr.mono (by decide)) passL (by exact (pa_cons (pe_ix ix_seq (pv 2) (pv 7) (fun _ _ => rfl)) (pa_cons (pe_op op_div1 (pv 6) pe_int) pa_nil)))))
  (pss_cons (ps_set (i := 9) sc_law.nd rfl (Or.inl rfl) (pe_methG0 (E := E0) (pv 1) T.cLedger G_Ledger_many (hr.mono (by decide)) passL))
  (pss_cons (ps_set (i := 10) sc_law.nd rfl (Or.inl rfl) (pe_callG (E := E0) G_law_due (hr.mono (by decide)) passL (by exact (pa_cons (pe_ix ix_seq (pv 2) (pv 7) (fun _ _ => rfl)) (pa_cons (pv 8) pa_nil)))))
  (pss_cons (ps_set (i := 11) sc_law.nd rfl (Or.inl rfl) (pe_callG (E := E0) G_law_deed (hr.mono (by decide)) passL (by exact (pa_cons (pe_ix ix_seq (pv 4) (pv 7) (fun _ _ => rfl)) (pa_cons (pv 8) pa_nil)))))
  (Evl.pss_cut (ps_if (PW.pt (pw_or (pt_cmpR (op_neU hr.units) (pv 11) (pv 10) (nomark _)) (pw_or1 (PW.pt (pw_and (pt_val (pe_callB call_isi (by rfl) M.isinstance (by decide +kernel) (pa_cons (pv 10) (pa_cons (pe_bltn (v := .ty "tuple") (by rfl) M.tuple (by decide +kernel) rfl) pa_nil)))) (pw_and1 (pt_cmpR (op_neU hr.units) (pe_methG0 (E := E0) (pv 1) T.cLedger G_Ledger_many (hr.mono (by decide)) passL) (pv 9) (nomark _)))))))) (pss_one (ps_ret pe_bl)) pss_nil) (Evl.pss_cut (ps_if (PW.pt (pw_and (pt_not (pt_val (pe_callB call_isi (by rfl) M.isinstance (by decide +kernel) (pa_cons (pv 10) (pa_cons (pe_bltn (v := .ty "tuple") (by rfl) M.tuple (by decide +kernel) rfl) pa_nil))))) (pw_and1 (pt_not (pt_val (pe_callG (E := E0) G_law_whole (hr.mono (by decide)) passL (by exact (pa_cons (pv 11) pa_nil)))))))) (pss_one (ps_ret pe_bl)) pss_nil) (Evl.pss_cut (ps_if (PW.pt (pw_and (pt_not (pt_val (pe_callB call_isi (by rfl) M.isinstance (by decide +kernel) (pa_cons (pv 10) (pa_cons (pe_bltn (v := .ty "tuple") (by rfl) M.tuple (by decide +kernel) rfl) pa_nil))))) (pw_and1 (pt_cmpR op_gt1 (pe_op op_sub1 (pe_methG0 (E := E0) (pv 1) T.cLedger G_Ledger_many (hr.mono (by decide)) passL) (pv 9)) (pe_op op_mul1 (pv 10) (pe_callTy call_int2 (by rfl) M.int (by decide +kernel) (pa_cons (pe_cmpR (op_neU hr.units) (pe_ix ix_seq (pv 8) pe_int (fun _ _ => rfl)) pe_str (nomark _)) pa_nil))) (nomark _))))) (pss_one (ps_ret pe_bl)) pss_nil) (Evl.pss_cut (ps_if (PW.pt (pw_and (pt_cmpR (op_eqU hr.units) (pv 10) (pe_tup (pa_cons pe_str pa_nil)) (nomark _)) (pw_and1 (pt_not (pt_val (pe_callG (E := E0) G_law_again (hr.mono (by decide)) passL (by exact (pa_cons (pe_ix ix_seq (pv 4) (pv 7) (fun _ _ => rfl)) (pa_cons (pe_ix ix_seq (pv 2) (pv 7) (fun _ _ => rfl)) (pa_cons (pv 8) pa_nil)))))))))) (pss_one (ps_ret pe_bl)) pss_nil) (pss_cons (ps_set (i := 12) sc_law.nd rfl (Or.inl rfl) (pe_methG0 (E := E0) (pe_ix ix_seq (pv 4) (pv 7) (fun _ _ => rfl)) T.cBook G_Book_rows (hr.mono (by decide)) passL))
  (pss_cons (ps_expr (pe_bm PySem.F.plainAttrs_list PySem.F.slot_list_append PySem.F.type_list_append mt_append (pv 5) (pa_cons (pe_tup (pa_cons (pv 12) (pa_cons (pe_callTy call_list1 (by rfl) M.list (by decide +kernel) (pa_cons (pv 12) pa_nil)) pa_nil))) pa_nil)))
  (pss_cons (ps_expr (pe_bm PySem.F.plainAttrs_list PySem.F.slot_list_append PySem.F.type_list_append mt_append (pe_methG0 (E := E0) (pe_ix ix_seq (pv 4) (pe_op op_sub1 pe_int (pv 7)) (fun _ _ => rfl)) T.cBook G_Book_rows (hr.mono (by decide)) passL) (pa_cons pe_str pa_nil)))
  (pss_one (ps_if (PW.pt (pw_or (pt_not (pt_val (pe_callG (E := E0) G_law_same (hr.mono (by decide)) passL (by exact (pa_cons (pe_ix ix_seq (pv 4) pe_int (fun _ _ => rfl)) (pa_cons (pe_ix ix_seq (pv 2) pe_int (fun _ _ => rfl)) (pa_cons (pv 6) pa_nil))))))) (pw_or1 (pt_not (pt_val (pe_callG (E := E0) G_law_same (hr.mono (by decide)) passL (by exact (pa_cons (pe_ix ix_seq (pv 4) pe_int (fun _ _ => rfl)) (pa_cons (pe_ix ix_seq (pv 2) pe_int (fun _ _ => rfl)) (pa_cons (pv 6) pa_nil)))))))))) (pss_one (ps_ret pe_bl)) pss_nil)))))))))))))))
  (pss_one (ps_ret (pe_cmpR (op_eqU hr.units) (pe_lc (own := [("_law_one", 14)]) (g := (gName 14)) (tt := (tTest (tOp (rNeU K) (tOp (rIx K) (tVar 14) (tC (.int 0))) (tOp (rIx K) (tVar 14) (tC (.int 1)))))) rfl sc_law.nd (pi_list (pv 5)) (blkOk_by (N := N_law) (sc := defScope s_law) (by decide +kernel)) (fun _ _ _ _ _ => (pg_name (i := 14) sc_law.nd rfl (Or.inl rfl))) (fun _ _ _ _ _ => (pts_one (pt_cmpR (op_neU hr.units) (pe_ix ix_seq (pv 14) pe_int (fun _ _ => rfl)) (pe_ix ix_seq (pv 14) pe_int (fun _ _ => rfl)) (nomark _)))) (fun _ _ _ _ _ => (by exact (pv 14)))) (pe_lst pa_nil) (nomark _))))))))))))))
end
theorem all_mk {l : PySem.W.OpenLaw} {w : World} {K : PySem.W.Frag} {h : Heap} {mg : Str → Option Value} {fa : Addr} (X : K.In h) (G : h.Ns mainGlobals mg) (hfa : mg "law" = some (.ref fa))
    {C_Ledger : Addr}
    {C_Book : Addr}
    {C_NoRow : Addr}
    {C_NoSum : Addr}
    {C_Full : Addr}
    {C_NoPlace : Addr}
    {f_Ledger_init : Addr} {od_Ledger_init an_Ledger_init : Option Addr} {sl_Ledger_init : Array (Option Value)} {oc_Ledger_init kV_Ledger_init dc_Ledger_init pm_Ledger_init cd_Ledger_init ct_Ledger_init : Value}
    {f_law_mix : Addr} {od_law_mix an_law_mix : Option Addr} {sl_law_mix : Array (Option Value)} {oc_law_mix kV_law_mix dc_law_mix pm_law_mix cd_law_mix ct_law_mix : Value}
    {f_law_text : Addr} {od_law_text an_law_text : Option Addr} {sl_law_text : Array (Option Value)} {oc_law_text kV_law_text dc_law_text pm_law_text cd_law_text ct_law_text : Value}
    {f_law_rows : Addr} {od_law_rows an_law_rows : Option Addr} {sl_law_rows : Array (Option Value)} {oc_law_rows kV_law_rows dc_law_rows pm_law_rows cd_law_rows ct_law_rows : Value}
    {f_is_row : Addr} {od_is_row an_is_row : Option Addr} {sl_is_row : Array (Option Value)} {oc_is_row kV_is_row dc_is_row pm_is_row cd_is_row ct_is_row : Value}
    {f_sure_row : Addr} {od_sure_row an_sure_row : Option Addr} {sl_sure_row : Array (Option Value)} {oc_sure_row kV_sure_row dc_sure_row pm_sure_row cd_sure_row ct_sure_row : Value}
    {f_Ledger_number_of : Addr} {od_Ledger_number_of an_Ledger_number_of : Option Addr} {sl_Ledger_number_of : Array (Option Value)} {oc_Ledger_number_of kV_Ledger_number_of dc_Ledger_number_of pm_Ledger_number_of cd_Ledger_number_of ct_Ledger_number_of : Value}
    {f_Ledger_of_row : Addr} {od_Ledger_of_row an_Ledger_of_row : Option Addr} {sl_Ledger_of_row : Array (Option Value)} {oc_Ledger_of_row kV_Ledger_of_row dc_Ledger_of_row pm_Ledger_of_row cd_Ledger_of_row ct_Ledger_of_row : Value}
    {f_is_whole : Addr} {od_is_whole an_is_whole : Option Addr} {sl_is_whole : Array (Option Value)} {oc_is_whole kV_is_whole dc_is_whole pm_is_whole cd_is_whole ct_is_whole : Value}
    {f_Ledger_sure : Addr} {od_Ledger_sure an_Ledger_sure : Option Addr} {sl_Ledger_sure : Array (Option Value)} {oc_Ledger_sure kV_Ledger_sure dc_Ledger_sure pm_Ledger_sure cd_Ledger_sure ct_Ledger_sure : Value}
    {f_Ledger_of_pair : Addr} {od_Ledger_of_pair an_Ledger_of_pair : Option Addr} {sl_Ledger_of_pair : Array (Option Value)} {oc_Ledger_of_pair kV_Ledger_of_pair dc_Ledger_of_pair pm_Ledger_of_pair cd_Ledger_of_pair ct_Ledger_of_pair : Value}
    {f_Book_half_sums : Addr} {od_Book_half_sums an_Book_half_sums : Option Addr} {sl_Book_half_sums : Array (Option Value)} {oc_Book_half_sums kV_Book_half_sums dc_Book_half_sums pm_Book_half_sums cd_Book_half_sums ct_Book_half_sums : Value}
    {f_Book_grow : Addr} {od_Book_grow an_Book_grow : Option Addr} {sl_Book_grow : Array (Option Value)} {oc_Book_grow kV_Book_grow dc_Book_grow pm_Book_grow cd_Book_grow ct_Book_grow : Value}
    {f_Book_init : Addr} {od_Book_init an_Book_init : Option Addr} {sl_Book_init : Array (Option Value)} {oc_Book_init kV_Book_init dc_Book_init pm_Book_init cd_Book_init ct_Book_init : Value}
    {f_law_drawn : Addr} {od_law_drawn an_law_drawn : Option Addr} {sl_law_drawn : Array (Option Value)} {oc_law_drawn kV_law_drawn dc_law_drawn pm_law_drawn cd_law_drawn ct_law_drawn : Value}
    {f_Ledger_many : Addr} {od_Ledger_many an_Ledger_many : Option Addr} {sl_Ledger_many : Array (Option Value)} {oc_Ledger_many kV_Ledger_many dc_Ledger_many pm_Ledger_many cd_Ledger_many ct_Ledger_many : Value}
    {f_law_size : Addr} {od_law_size an_law_size : Option Addr} {sl_law_size : Array (Option Value)} {oc_law_size kV_law_size dc_law_size pm_law_size cd_law_size ct_law_size : Value}
    {f_law_blocks : Addr} {od_law_blocks an_law_blocks : Option Addr} {sl_law_blocks : Array (Option Value)} {oc_law_blocks kV_law_blocks dc_law_blocks pm_law_blocks cd_law_blocks ct_law_blocks : Value}
    {f_law_good : Addr} {od_law_good an_law_good : Option Addr} {sl_law_good : Array (Option Value)} {oc_law_good kV_law_good dc_law_good pm_law_good cd_law_good ct_law_good : Value}
    {f_law_whole : Addr} {od_law_whole an_law_whole : Option Addr} {sl_law_whole : Array (Option Value)} {oc_law_whole kV_law_whole dc_law_whole pm_law_whole cd_law_whole ct_law_whole : Value}
    {f_law_due : Addr} {od_law_due an_law_due : Option Addr} {sl_law_due : Array (Option Value)} {oc_law_due kV_law_due dc_law_due pm_law_due cd_law_due ct_law_due : Value}
    {f_size_of : Addr} {od_size_of an_size_of : Option Addr} {sl_size_of : Array (Option Value)} {oc_size_of kV_size_of dc_size_of pm_size_of cd_size_of ct_size_of : Value}
    {f_Book_cut : Addr} {od_Book_cut an_Book_cut : Option Addr} {sl_Book_cut : Array (Option Value)} {oc_Book_cut kV_Book_cut dc_Book_cut pm_Book_cut cd_Book_cut ct_Book_cut : Value}
    {f_Book_sure : Addr} {od_Book_sure an_Book_sure : Option Addr} {sl_Book_sure : Array (Option Value)} {oc_Book_sure kV_Book_sure dc_Book_sure pm_Book_sure cd_Book_sure ct_Book_sure : Value}
    {f_Book_put : Addr} {od_Book_put an_Book_put : Option Addr} {sl_Book_put : Array (Option Value)} {oc_Book_put kV_Book_put dc_Book_put pm_Book_put cd_Book_put ct_Book_put : Value}
    {f_Book_add : Addr} {od_Book_add an_Book_add : Option Addr} {sl_Book_add : Array (Option Value)} {oc_Book_add kV_Book_add dc_Book_add pm_Book_add cd_Book_add ct_Book_add : Value}
    {f_law_deed : Addr} {od_law_deed an_law_deed : Option Addr} {sl_law_deed : Array (Option Value)} {oc_law_deed kV_law_deed dc_law_deed pm_law_deed cd_law_deed ct_law_deed : Value}
    {f_Book_rows : Addr} {od_Book_rows an_Book_rows : Option Addr} {sl_Book_rows : Array (Option Value)} {oc_Book_rows kV_Book_rows dc_Book_rows pm_Book_rows cd_Book_rows ct_Book_rows : Value}
    {f_law_cell_at : Addr} {od_law_cell_at an_law_cell_at : Option Addr} {sl_law_cell_at : Array (Option Value)} {oc_law_cell_at kV_law_cell_at dc_law_cell_at pm_law_cell_at cd_law_cell_at ct_law_cell_at : Value}
    {f_law_room : Addr} {od_law_room an_law_room : Option Addr} {sl_law_room : Array (Option Value)} {oc_law_room kV_law_room dc_law_room pm_law_room cd_law_room ct_law_room : Value}
    {f_law_again : Addr} {od_law_again an_law_again : Option Addr} {sl_law_again : Array (Option Value)} {oc_law_again kV_law_again dc_law_again pm_law_again cd_law_again ct_law_again : Value}
    {f_Book_row : Addr} {od_Book_row an_Book_row : Option Addr} {sl_Book_row : Array (Option Value)} {oc_Book_row kV_Book_row dc_Book_row pm_Book_row cd_Book_row ct_Book_row : Value}
    {f_law_no_row : Addr} {od_law_no_row an_law_no_row : Option Addr} {sl_law_no_row : Array (Option Value)} {oc_law_no_row kV_law_no_row dc_law_no_row pm_law_no_row cd_law_no_row ct_law_no_row : Value}
    {f_Book_count : Addr} {od_Book_count an_Book_count : Option Addr} {sl_Book_count : Array (Option Value)} {oc_Book_count kV_Book_count dc_Book_count pm_Book_count cd_Book_count ct_Book_count : Value}
    {f_law_same : Addr} {od_law_same an_law_same : Option Addr} {sl_law_same : Array (Option Value)} {oc_law_same kV_law_same dc_law_same pm_law_same cd_law_same ct_law_same : Value}
    {f_law : Addr} {od_law an_law : Option Addr} {sl_law : Array (Option Value)} {oc_law kV_law dc_law pm_law cd_law ct_law : Value}
    {tk_MOST_ROWS : Tok}
    {tk_MOST_SIGNS : Tok}
    {tk_SIGNS : Tok}
    (a_Ledger : PySem.W.nsIn K mainGlobals "Ledger" = some (some (.ref C_Ledger)))
    (pg_Ledger : PySem.W.plainGet K C_Ledger Str.empty = true)
    (hd_Ledger : PySem.W.hasDictIn K C_Ledger = true)
    (po_Ledger : PySem.W.plainOver K C_Ledger = true)
    (sa_Ledger : PySem.W.findIn K (.ref C_Ledger) "__setattr__" = some (some (.builtin "object.__setattr__")))
    (mk_Ledger : PySem.W.makesIn K C_Ledger = true)
    (kc_Ledger : PySem.W.keepIn K (.ref C_Ledger) = true)
    (nf_Ledger_given : PySem.W.findIn K (.ref C_Ledger) "given" = some none)
    (nf_Ledger_things : PySem.W.findIn K (.ref C_Ledger) "things" = some none)
    (a_Book : PySem.W.nsIn K mainGlobals "Book" = some (some (.ref C_Book)))
    (pg_Book : PySem.W.plainGet K C_Book Str.empty = true)
    (hd_Book : PySem.W.hasDictIn K C_Book = true)
    (po_Book : PySem.W.plainOver K C_Book = true)
    (sa_Book : PySem.W.findIn K (.ref C_Book) "__setattr__" = some (some (.builtin "object.__setattr__")))
    (mk_Book : PySem.W.makesIn K C_Book = true)
    (kc_Book : PySem.W.keepIn K (.ref C_Book) = true)
    (nf_Book_ledger : PySem.W.findIn K (.ref C_Book) "ledger" = some none)
    (nf_Book_lines : PySem.W.findIn K (.ref C_Book) "lines" = some none)
    (nf_Book_levels : PySem.W.findIn K (.ref C_Book) "levels" = some none)
    (a_NoRow : PySem.W.nsIn K mainGlobals "NoRow" = some (some (.ref C_NoRow)))
    (xP_NoRow : PySem.W.excIn K C_NoRow [.type "ValueError", .type "Exception", .type "BaseException", .type "object"] "ValueError.__new__" = true)
    (kP_NoRow : PySem.W.keepIn K (.ref C_NoRow) = true)
    (bP_NoRow : PySem.W.subIn K (.ref C_NoRow) (.type "BaseException") = some true)
    (tP_NoRow : PySem.W.typeIn K (.ref C_NoRow) = some (.type "type"))
    (a_NoSum : PySem.W.nsIn K mainGlobals "NoSum" = some (some (.ref C_NoSum)))
    (xP_NoSum : PySem.W.excIn K C_NoSum [.type "ValueError", .type "Exception", .type "BaseException", .type "object"] "ValueError.__new__" = true)
    (kP_NoSum : PySem.W.keepIn K (.ref C_NoSum) = true)
    (bP_NoSum : PySem.W.subIn K (.ref C_NoSum) (.type "BaseException") = some true)
    (tP_NoSum : PySem.W.typeIn K (.ref C_NoSum) = some (.type "type"))
    (a_Full : PySem.W.nsIn K mainGlobals "Full" = some (some (.ref C_Full)))
    (xP_Full : PySem.W.excIn K C_Full [.type "ValueError", .type "Exception", .type "BaseException", .type "object"] "ValueError.__new__" = true)
    (kP_Full : PySem.W.keepIn K (.ref C_Full) = true)
    (bP_Full : PySem.W.subIn K (.ref C_Full) (.type "BaseException") = some true)
    (tP_Full : PySem.W.typeIn K (.ref C_Full) = some (.type "type"))
    (a_NoPlace : PySem.W.nsIn K mainGlobals "NoPlace" = some (some (.ref C_NoPlace)))
    (xP_NoPlace : PySem.W.excIn K C_NoPlace [.type "ValueError", .type "Exception", .type "BaseException", .type "object"] "ValueError.__new__" = true)
    (kP_NoPlace : PySem.W.keepIn K (.ref C_NoPlace) = true)
    (bP_NoPlace : PySem.W.subIn K (.ref C_NoPlace) (.type "BaseException") = some true)
    (tP_NoPlace : PySem.W.typeIn K (.ref C_NoPlace) = some (.type "type"))
    (m_NoRow_NoPlace : PySem.W.subIn K (.ref C_NoRow) (.ref C_NoPlace) = some false)
    (m_NoSum_NoPlace : PySem.W.subIn K (.ref C_NoSum) (.ref C_NoPlace) = some false)
    (m_Full_NoPlace : PySem.W.subIn K (.ref C_Full) (.ref C_NoPlace) = some false)
    (m_NoPlace_NoPlace : PySem.W.subIn K (.ref C_NoPlace) (.ref C_NoPlace) = some true)
    (m_NoRow_NoRow : PySem.W.subIn K (.ref C_NoRow) (.ref C_NoRow) = some true)
    (m_NoSum_NoRow : PySem.W.subIn K (.ref C_NoSum) (.ref C_NoRow) = some false)
    (m_Full_NoRow : PySem.W.subIn K (.ref C_Full) (.ref C_NoRow) = some false)
    (m_NoPlace_NoRow : PySem.W.subIn K (.ref C_NoPlace) (.ref C_NoRow) = some false)
    (hd_NoPlace : PySem.W.hasDictIn K C_NoPlace = true)
    (hd_NoRow : PySem.W.hasDictIn K C_NoRow = true)
    (a_Ledger_init : PySem.W.findIn K (.ref C_Ledger) "__init__" = some (some (.ref f_Ledger_init)))
    (i_Ledger_init : PySem.W.isFn K (.ref f_Ledger_init) = true)
    (l_Ledger_init : K.lookup f_Ledger_init = some ⟨oc_Ledger_init, od_Ledger_init, .func (PySem.W.fnOf "__init__" "Ledger.__init__" (defArgs s_Ledger_init) (defBody s_Ledger_init) (defScope s_Ledger_init) .none kV_Ledger_init dc_Ledger_init pm_Ledger_init an_Ledger_init cd_Ledger_init ct_Ledger_init), sl_Ledger_init⟩)
    (c_Ledger_init : PySem.W.codeIn K cd_Ledger_init "Ledger.__init__" = true)
    (k_Ledger_init : PySem.W.keepIn K (.ref f_Ledger_init) = true)
    (a_law_mix : PySem.W.nsIn K mainGlobals "_law_mix" = some (some (.ref f_law_mix)))
    (l_law_mix : K.lookup f_law_mix = some ⟨oc_law_mix, od_law_mix, .func (PySem.W.fnOf "_law_mix" "_law_mix" (defArgs s_law_mix) (defBody s_law_mix) (defScope s_law_mix) .none kV_law_mix dc_law_mix pm_law_mix an_law_mix cd_law_mix ct_law_mix), sl_law_mix⟩)
    (c_law_mix : PySem.W.codeIn K cd_law_mix "_law_mix" = true)
    (k_law_mix : PySem.W.keepIn K (.ref f_law_mix) = true)
    (a_law_text : PySem.W.nsIn K mainGlobals "_law_text" = some (some (.ref f_law_text)))
    (l_law_text : K.lookup f_law_text = some ⟨oc_law_text, od_law_text, .func (PySem.W.fnOf "_law_text" "_law_text" (defArgs s_law_text) (defBody s_law_text) (defScope s_law_text) .none kV_law_text dc_law_text pm_law_text an_law_text cd_law_text ct_law_text), sl_law_text⟩)
    (c_law_text : PySem.W.codeIn K cd_law_text "_law_text" = true)
    (k_law_text : PySem.W.keepIn K (.ref f_law_text) = true)
    (a_law_rows : PySem.W.nsIn K mainGlobals "_law_rows" = some (some (.ref f_law_rows)))
    (l_law_rows : K.lookup f_law_rows = some ⟨oc_law_rows, od_law_rows, .func (PySem.W.fnOf "_law_rows" "_law_rows" (defArgs s_law_rows) (defBody s_law_rows) (defScope s_law_rows) .none kV_law_rows dc_law_rows pm_law_rows an_law_rows cd_law_rows ct_law_rows), sl_law_rows⟩)
    (c_law_rows : PySem.W.codeIn K cd_law_rows "_law_rows" = true)
    (k_law_rows : PySem.W.keepIn K (.ref f_law_rows) = true)
    (a_is_row : PySem.W.nsIn K mainGlobals "is_row" = some (some (.ref f_is_row)))
    (l_is_row : K.lookup f_is_row = some ⟨oc_is_row, od_is_row, .func (PySem.W.fnOf "is_row" "is_row" (defArgs s_is_row) (defBody s_is_row) (defScope s_is_row) .none kV_is_row dc_is_row pm_is_row an_is_row cd_is_row ct_is_row), sl_is_row⟩)
    (c_is_row : PySem.W.codeIn K cd_is_row "is_row" = true)
    (k_is_row : PySem.W.keepIn K (.ref f_is_row) = true)
    (a_sure_row : PySem.W.nsIn K mainGlobals "sure_row" = some (some (.ref f_sure_row)))
    (l_sure_row : K.lookup f_sure_row = some ⟨oc_sure_row, od_sure_row, .func (PySem.W.fnOf "sure_row" "sure_row" (defArgs s_sure_row) (defBody s_sure_row) (defScope s_sure_row) .none kV_sure_row dc_sure_row pm_sure_row an_sure_row cd_sure_row ct_sure_row), sl_sure_row⟩)
    (c_sure_row : PySem.W.codeIn K cd_sure_row "sure_row" = true)
    (k_sure_row : PySem.W.keepIn K (.ref f_sure_row) = true)
    (a_Ledger_number_of : PySem.W.findIn K (.ref C_Ledger) "number_of" = some (some (.ref f_Ledger_number_of)))
    (i_Ledger_number_of : PySem.W.isFn K (.ref f_Ledger_number_of) = true)
    (l_Ledger_number_of : K.lookup f_Ledger_number_of = some ⟨oc_Ledger_number_of, od_Ledger_number_of, .func (PySem.W.fnOf "number_of" "Ledger.number_of" (defArgs s_Ledger_number_of) (defBody s_Ledger_number_of) (defScope s_Ledger_number_of) .none kV_Ledger_number_of dc_Ledger_number_of pm_Ledger_number_of an_Ledger_number_of cd_Ledger_number_of ct_Ledger_number_of), sl_Ledger_number_of⟩)
    (c_Ledger_number_of : PySem.W.codeIn K cd_Ledger_number_of "Ledger.number_of" = true)
    (k_Ledger_number_of : PySem.W.keepIn K (.ref f_Ledger_number_of) = true)
    (a_Ledger_of_row : PySem.W.findIn K (.ref C_Ledger) "of_row" = some (some (.ref f_Ledger_of_row)))
    (i_Ledger_of_row : PySem.W.isFn K (.ref f_Ledger_of_row) = true)
    (l_Ledger_of_row : K.lookup f_Ledger_of_row = some ⟨oc_Ledger_of_row, od_Ledger_of_row, .func (PySem.W.fnOf "of_row" "Ledger.of_row" (defArgs s_Ledger_of_row) (defBody s_Ledger_of_row) (defScope s_Ledger_of_row) .none kV_Ledger_of_row dc_Ledger_of_row pm_Ledger_of_row an_Ledger_of_row cd_Ledger_of_row ct_Ledger_of_row), sl_Ledger_of_row⟩)
    (c_Ledger_of_row : PySem.W.codeIn K cd_Ledger_of_row "Ledger.of_row" = true)
    (k_Ledger_of_row : PySem.W.keepIn K (.ref f_Ledger_of_row) = true)
    (a_is_whole : PySem.W.nsIn K mainGlobals "is_whole" = some (some (.ref f_is_whole)))
    (l_is_whole : K.lookup f_is_whole = some ⟨oc_is_whole, od_is_whole, .func (PySem.W.fnOf "is_whole" "is_whole" (defArgs s_is_whole) (defBody s_is_whole) (defScope s_is_whole) .none kV_is_whole dc_is_whole pm_is_whole an_is_whole cd_is_whole ct_is_whole), sl_is_whole⟩)
    (c_is_whole : PySem.W.codeIn K cd_is_whole "is_whole" = true)
    (k_is_whole : PySem.W.keepIn K (.ref f_is_whole) = true)
    (a_Ledger_sure : PySem.W.findIn K (.ref C_Ledger) "sure" = some (some (.ref f_Ledger_sure)))
    (i_Ledger_sure : PySem.W.isFn K (.ref f_Ledger_sure) = true)
    (l_Ledger_sure : K.lookup f_Ledger_sure = some ⟨oc_Ledger_sure, od_Ledger_sure, .func (PySem.W.fnOf "sure" "Ledger.sure" (defArgs s_Ledger_sure) (defBody s_Ledger_sure) (defScope s_Ledger_sure) .none kV_Ledger_sure dc_Ledger_sure pm_Ledger_sure an_Ledger_sure cd_Ledger_sure ct_Ledger_sure), sl_Ledger_sure⟩)
    (c_Ledger_sure : PySem.W.codeIn K cd_Ledger_sure "Ledger.sure" = true)
    (k_Ledger_sure : PySem.W.keepIn K (.ref f_Ledger_sure) = true)
    (a_Ledger_of_pair : PySem.W.findIn K (.ref C_Ledger) "of_pair" = some (some (.ref f_Ledger_of_pair)))
    (i_Ledger_of_pair : PySem.W.isFn K (.ref f_Ledger_of_pair) = true)
    (l_Ledger_of_pair : K.lookup f_Ledger_of_pair = some ⟨oc_Ledger_of_pair, od_Ledger_of_pair, .func (PySem.W.fnOf "of_pair" "Ledger.of_pair" (defArgs s_Ledger_of_pair) (defBody s_Ledger_of_pair) (defScope s_Ledger_of_pair) .none kV_Ledger_of_pair dc_Ledger_of_pair pm_Ledger_of_pair an_Ledger_of_pair cd_Ledger_of_pair ct_Ledger_of_pair), sl_Ledger_of_pair⟩)
    (c_Ledger_of_pair : PySem.W.codeIn K cd_Ledger_of_pair "Ledger.of_pair" = true)
    (k_Ledger_of_pair : PySem.W.keepIn K (.ref f_Ledger_of_pair) = true)
    (a_Book_half_sums : PySem.W.findIn K (.ref C_Book) "half_sums" = some (some (.ref f_Book_half_sums)))
    (i_Book_half_sums : PySem.W.isFn K (.ref f_Book_half_sums) = true)
    (l_Book_half_sums : K.lookup f_Book_half_sums = some ⟨oc_Book_half_sums, od_Book_half_sums, .func (PySem.W.fnOf "half_sums" "Book.half_sums" (defArgs s_Book_half_sums) (defBody s_Book_half_sums) (defScope s_Book_half_sums) .none kV_Book_half_sums dc_Book_half_sums pm_Book_half_sums an_Book_half_sums cd_Book_half_sums ct_Book_half_sums), sl_Book_half_sums⟩)
    (c_Book_half_sums : PySem.W.codeIn K cd_Book_half_sums "Book.half_sums" = true)
    (k_Book_half_sums : PySem.W.keepIn K (.ref f_Book_half_sums) = true)
    (a_Book_grow : PySem.W.findIn K (.ref C_Book) "grow" = some (some (.ref f_Book_grow)))
    (i_Book_grow : PySem.W.isFn K (.ref f_Book_grow) = true)
    (l_Book_grow : K.lookup f_Book_grow = some ⟨oc_Book_grow, od_Book_grow, .func (PySem.W.fnOf "grow" "Book.grow" (defArgs s_Book_grow) (defBody s_Book_grow) (defScope s_Book_grow) .none kV_Book_grow dc_Book_grow pm_Book_grow an_Book_grow cd_Book_grow ct_Book_grow), sl_Book_grow⟩)
    (c_Book_grow : PySem.W.codeIn K cd_Book_grow "Book.grow" = true)
    (k_Book_grow : PySem.W.keepIn K (.ref f_Book_grow) = true)
    (a_Book_init : PySem.W.findIn K (.ref C_Book) "__init__" = some (some (.ref f_Book_init)))
    (i_Book_init : PySem.W.isFn K (.ref f_Book_init) = true)
    (l_Book_init : K.lookup f_Book_init = some ⟨oc_Book_init, od_Book_init, .func (PySem.W.fnOf "__init__" "Book.__init__" (defArgs s_Book_init) (defBody s_Book_init) (defScope s_Book_init) .none kV_Book_init dc_Book_init pm_Book_init an_Book_init cd_Book_init ct_Book_init), sl_Book_init⟩)
    (c_Book_init : PySem.W.codeIn K cd_Book_init "Book.__init__" = true)
    (k_Book_init : PySem.W.keepIn K (.ref f_Book_init) = true)
    (a_law_drawn : PySem.W.nsIn K mainGlobals "_law_drawn" = some (some (.ref f_law_drawn)))
    (l_law_drawn : K.lookup f_law_drawn = some ⟨oc_law_drawn, od_law_drawn, .func (PySem.W.fnOf "_law_drawn" "_law_drawn" (defArgs s_law_drawn) (defBody s_law_drawn) (defScope s_law_drawn) .none kV_law_drawn dc_law_drawn pm_law_drawn an_law_drawn cd_law_drawn ct_law_drawn), sl_law_drawn⟩)
    (c_law_drawn : PySem.W.codeIn K cd_law_drawn "_law_drawn" = true)
    (k_law_drawn : PySem.W.keepIn K (.ref f_law_drawn) = true)
    (a_Ledger_many : PySem.W.findIn K (.ref C_Ledger) "many" = some (some (.ref f_Ledger_many)))
    (i_Ledger_many : PySem.W.isFn K (.ref f_Ledger_many) = true)
    (l_Ledger_many : K.lookup f_Ledger_many = some ⟨oc_Ledger_many, od_Ledger_many, .func (PySem.W.fnOf "many" "Ledger.many" (defArgs s_Ledger_many) (defBody s_Ledger_many) (defScope s_Ledger_many) .none kV_Ledger_many dc_Ledger_many pm_Ledger_many an_Ledger_many cd_Ledger_many ct_Ledger_many), sl_Ledger_many⟩)
    (c_Ledger_many : PySem.W.codeIn K cd_Ledger_many "Ledger.many" = true)
    (k_Ledger_many : PySem.W.keepIn K (.ref f_Ledger_many) = true)
    (a_law_size : PySem.W.nsIn K mainGlobals "_law_size" = some (some (.ref f_law_size)))
    (l_law_size : K.lookup f_law_size = some ⟨oc_law_size, od_law_size, .func (PySem.W.fnOf "_law_size" "_law_size" (defArgs s_law_size) (defBody s_law_size) (defScope s_law_size) .none kV_law_size dc_law_size pm_law_size an_law_size cd_law_size ct_law_size), sl_law_size⟩)
    (c_law_size : PySem.W.codeIn K cd_law_size "_law_size" = true)
    (k_law_size : PySem.W.keepIn K (.ref f_law_size) = true)
    (a_law_blocks : PySem.W.nsIn K mainGlobals "_law_blocks" = some (some (.ref f_law_blocks)))
    (l_law_blocks : K.lookup f_law_blocks = some ⟨oc_law_blocks, od_law_blocks, .func (PySem.W.fnOf "_law_blocks" "_law_blocks" (defArgs s_law_blocks) (defBody s_law_blocks) (defScope s_law_blocks) .none kV_law_blocks dc_law_blocks pm_law_blocks an_law_blocks cd_law_blocks ct_law_blocks), sl_law_blocks⟩)
    (c_law_blocks : PySem.W.codeIn K cd_law_blocks "_law_blocks" = true)
    (k_law_blocks : PySem.W.keepIn K (.ref f_law_blocks) = true)
    (a_law_good : PySem.W.nsIn K mainGlobals "_law_good" = some (some (.ref f_law_good)))
    (l_law_good : K.lookup f_law_good = some ⟨oc_law_good, od_law_good, .func (PySem.W.fnOf "_law_good" "_law_good" (defArgs s_law_good) (defBody s_law_good) (defScope s_law_good) .none kV_law_good dc_law_good pm_law_good an_law_good cd_law_good ct_law_good), sl_law_good⟩)
    (c_law_good : PySem.W.codeIn K cd_law_good "_law_good" = true)
    (k_law_good : PySem.W.keepIn K (.ref f_law_good) = true)
    (a_law_whole : PySem.W.nsIn K mainGlobals "_law_whole" = some (some (.ref f_law_whole)))
    (l_law_whole : K.lookup f_law_whole = some ⟨oc_law_whole, od_law_whole, .func (PySem.W.fnOf "_law_whole" "_law_whole" (defArgs s_law_whole) (defBody s_law_whole) (defScope s_law_whole) .none kV_law_whole dc_law_whole pm_law_whole an_law_whole cd_law_whole ct_law_whole), sl_law_whole⟩)
    (c_law_whole : PySem.W.codeIn K cd_law_whole "_law_whole" = true)
    (k_law_whole : PySem.W.keepIn K (.ref f_law_whole) = true)
    (a_law_due : PySem.W.nsIn K mainGlobals "_law_due" = some (some (.ref f_law_due)))
    (l_law_due : K.lookup f_law_due = some ⟨oc_law_due, od_law_due, .func (PySem.W.fnOf "_law_due" "_law_due" (defArgs s_law_due) (defBody s_law_due) (defScope s_law_due) .none kV_law_due dc_law_due pm_law_due an_law_due cd_law_due ct_law_due), sl_law_due⟩)
    (c_law_due : PySem.W.codeIn K cd_law_due "_law_due" = true)
    (k_law_due : PySem.W.keepIn K (.ref f_law_due) = true)
    (a_size_of : PySem.W.nsIn K mainGlobals "size_of" = some (some (.ref f_size_of)))
    (l_size_of : K.lookup f_size_of = some ⟨oc_size_of, od_size_of, .func (PySem.W.fnOf "size_of" "size_of" (defArgs s_size_of) (defBody s_size_of) (defScope s_size_of) .none kV_size_of dc_size_of pm_size_of an_size_of cd_size_of ct_size_of), sl_size_of⟩)
    (c_size_of : PySem.W.codeIn K cd_size_of "size_of" = true)
    (k_size_of : PySem.W.keepIn K (.ref f_size_of) = true)
    (a_Book_cut : PySem.W.findIn K (.ref C_Book) "cut" = some (some (.ref f_Book_cut)))
    (i_Book_cut : PySem.W.isFn K (.ref f_Book_cut) = true)
    (l_Book_cut : K.lookup f_Book_cut = some ⟨oc_Book_cut, od_Book_cut, .func (PySem.W.fnOf "cut" "Book.cut" (defArgs s_Book_cut) (defBody s_Book_cut) (defScope s_Book_cut) .none kV_Book_cut dc_Book_cut pm_Book_cut an_Book_cut cd_Book_cut ct_Book_cut), sl_Book_cut⟩)
    (c_Book_cut : PySem.W.codeIn K cd_Book_cut "Book.cut" = true)
    (k_Book_cut : PySem.W.keepIn K (.ref f_Book_cut) = true)
    (a_Book_sure : PySem.W.findIn K (.ref C_Book) "sure" = some (some (.ref f_Book_sure)))
    (i_Book_sure : PySem.W.isFn K (.ref f_Book_sure) = true)
    (l_Book_sure : K.lookup f_Book_sure = some ⟨oc_Book_sure, od_Book_sure, .func (PySem.W.fnOf "sure" "Book.sure" (defArgs s_Book_sure) (defBody s_Book_sure) (defScope s_Book_sure) .none kV_Book_sure dc_Book_sure pm_Book_sure an_Book_sure cd_Book_sure ct_Book_sure), sl_Book_sure⟩)
    (c_Book_sure : PySem.W.codeIn K cd_Book_sure "Book.sure" = true)
    (k_Book_sure : PySem.W.keepIn K (.ref f_Book_sure) = true)
    (a_Book_put : PySem.W.findIn K (.ref C_Book) "put" = some (some (.ref f_Book_put)))
    (i_Book_put : PySem.W.isFn K (.ref f_Book_put) = true)
    (l_Book_put : K.lookup f_Book_put = some ⟨oc_Book_put, od_Book_put, .func (PySem.W.fnOf "put" "Book.put" (defArgs s_Book_put) (defBody s_Book_put) (defScope s_Book_put) .none kV_Book_put dc_Book_put pm_Book_put an_Book_put cd_Book_put ct_Book_put), sl_Book_put⟩)
    (c_Book_put : PySem.W.codeIn K cd_Book_put "Book.put" = true)
    (k_Book_put : PySem.W.keepIn K (.ref f_Book_put) = true)
    (a_Book_add : PySem.W.findIn K (.ref C_Book) "add" = some (some (.ref f_Book_add)))
    (i_Book_add : PySem.W.isFn K (.ref f_Book_add) = true)
    (l_Book_add : K.lookup f_Book_add = some ⟨oc_Book_add, od_Book_add, .func (PySem.W.fnOf "add" "Book.add" (defArgs s_Book_add) (defBody s_Book_add) (defScope s_Book_add) .none kV_Book_add dc_Book_add pm_Book_add an_Book_add cd_Book_add ct_Book_add), sl_Book_add⟩)
    (c_Book_add : PySem.W.codeIn K cd_Book_add "Book.add" = true)
    (k_Book_add : PySem.W.keepIn K (.ref f_Book_add) = true)
    (a_law_deed : PySem.W.nsIn K mainGlobals "_law_deed" = some (some (.ref f_law_deed)))
    (l_law_deed : K.lookup f_law_deed = some ⟨oc_law_deed, od_law_deed, .func (PySem.W.fnOf "_law_deed" "_law_deed" (defArgs s_law_deed) (defBody s_law_deed) (defScope s_law_deed) .none kV_law_deed dc_law_deed pm_law_deed an_law_deed cd_law_deed ct_law_deed), sl_law_deed⟩)
    (c_law_deed : PySem.W.codeIn K cd_law_deed "_law_deed" = true)
    (k_law_deed : PySem.W.keepIn K (.ref f_law_deed) = true)
    (a_Book_rows : PySem.W.findIn K (.ref C_Book) "rows" = some (some (.ref f_Book_rows)))
    (i_Book_rows : PySem.W.isFn K (.ref f_Book_rows) = true)
    (l_Book_rows : K.lookup f_Book_rows = some ⟨oc_Book_rows, od_Book_rows, .func (PySem.W.fnOf "rows" "Book.rows" (defArgs s_Book_rows) (defBody s_Book_rows) (defScope s_Book_rows) .none kV_Book_rows dc_Book_rows pm_Book_rows an_Book_rows cd_Book_rows ct_Book_rows), sl_Book_rows⟩)
    (c_Book_rows : PySem.W.codeIn K cd_Book_rows "Book.rows" = true)
    (k_Book_rows : PySem.W.keepIn K (.ref f_Book_rows) = true)
    (a_law_cell_at : PySem.W.nsIn K mainGlobals "_law_cell_at" = some (some (.ref f_law_cell_at)))
    (l_law_cell_at : K.lookup f_law_cell_at = some ⟨oc_law_cell_at, od_law_cell_at, .func (PySem.W.fnOf "_law_cell_at" "_law_cell_at" (defArgs s_law_cell_at) (defBody s_law_cell_at) (defScope s_law_cell_at) .none kV_law_cell_at dc_law_cell_at pm_law_cell_at an_law_cell_at cd_law_cell_at ct_law_cell_at), sl_law_cell_at⟩)
    (c_law_cell_at : PySem.W.codeIn K cd_law_cell_at "_law_cell_at" = true)
    (k_law_cell_at : PySem.W.keepIn K (.ref f_law_cell_at) = true)
    (a_law_room : PySem.W.nsIn K mainGlobals "_law_room" = some (some (.ref f_law_room)))
    (l_law_room : K.lookup f_law_room = some ⟨oc_law_room, od_law_room, .func (PySem.W.fnOf "_law_room" "_law_room" (defArgs s_law_room) (defBody s_law_room) (defScope s_law_room) .none kV_law_room dc_law_room pm_law_room an_law_room cd_law_room ct_law_room), sl_law_room⟩)
    (c_law_room : PySem.W.codeIn K cd_law_room "_law_room" = true)
    (k_law_room : PySem.W.keepIn K (.ref f_law_room) = true)
    (a_law_again : PySem.W.nsIn K mainGlobals "_law_again" = some (some (.ref f_law_again)))
    (l_law_again : K.lookup f_law_again = some ⟨oc_law_again, od_law_again, .func (PySem.W.fnOf "_law_again" "_law_again" (defArgs s_law_again) (defBody s_law_again) (defScope s_law_again) .none kV_law_again dc_law_again pm_law_again an_law_again cd_law_again ct_law_again), sl_law_again⟩)
    (c_law_again : PySem.W.codeIn K cd_law_again "_law_again" = true)
    (k_law_again : PySem.W.keepIn K (.ref f_law_again) = true)
    (a_Book_row : PySem.W.findIn K (.ref C_Book) "row" = some (some (.ref f_Book_row)))
    (i_Book_row : PySem.W.isFn K (.ref f_Book_row) = true)
    (l_Book_row : K.lookup f_Book_row = some ⟨oc_Book_row, od_Book_row, .func (PySem.W.fnOf "row" "Book.row" (defArgs s_Book_row) (defBody s_Book_row) (defScope s_Book_row) .none kV_Book_row dc_Book_row pm_Book_row an_Book_row cd_Book_row ct_Book_row), sl_Book_row⟩)
    (c_Book_row : PySem.W.codeIn K cd_Book_row "Book.row" = true)
    (k_Book_row : PySem.W.keepIn K (.ref f_Book_row) = true)
    (a_law_no_row : PySem.W.nsIn K mainGlobals "_law_no_row" = some (some (.ref f_law_no_row)))
    (l_law_no_row : K.lookup f_law_no_row = some ⟨oc_law_no_row, od_law_no_row, .func (PySem.W.fnOf "_law_no_row" "_law_no_row" (defArgs s_law_no_row) (defBody s_law_no_row) (defScope s_law_no_row) .none kV_law_no_row dc_law_no_row pm_law_no_row an_law_no_row cd_law_no_row ct_law_no_row), sl_law_no_row⟩)
    (c_law_no_row : PySem.W.codeIn K cd_law_no_row "_law_no_row" = true)
    (k_law_no_row : PySem.W.keepIn K (.ref f_law_no_row) = true)
    (a_Book_count : PySem.W.findIn K (.ref C_Book) "count" = some (some (.ref f_Book_count)))
    (i_Book_count : PySem.W.isFn K (.ref f_Book_count) = true)
    (l_Book_count : K.lookup f_Book_count = some ⟨oc_Book_count, od_Book_count, .func (PySem.W.fnOf "count" "Book.count" (defArgs s_Book_count) (defBody s_Book_count) (defScope s_Book_count) .none kV_Book_count dc_Book_count pm_Book_count an_Book_count cd_Book_count ct_Book_count), sl_Book_count⟩)
    (c_Book_count : PySem.W.codeIn K cd_Book_count "Book.count" = true)
    (k_Book_count : PySem.W.keepIn K (.ref f_Book_count) = true)
    (a_law_same : PySem.W.nsIn K mainGlobals "_law_same" = some (some (.ref f_law_same)))
    (l_law_same : K.lookup f_law_same = some ⟨oc_law_same, od_law_same, .func (PySem.W.fnOf "_law_same" "_law_same" (defArgs s_law_same) (defBody s_law_same) (defScope s_law_same) .none kV_law_same dc_law_same pm_law_same an_law_same cd_law_same ct_law_same), sl_law_same⟩)
    (c_law_same : PySem.W.codeIn K cd_law_same "_law_same" = true)
    (k_law_same : PySem.W.keepIn K (.ref f_law_same) = true)
    (a_law : PySem.W.nsIn K mainGlobals "law" = some (some (.ref f_law)))
    (l_law : K.lookup f_law = some ⟨oc_law, od_law, .func (PySem.W.fnOf "law" "law" (defArgs s_law) (defBody s_law) (defScope s_law) .none kV_law dc_law pm_law an_law cd_law ct_law), sl_law⟩)
    (c_law : PySem.W.codeIn K cd_law "law" = true)
    (k_law : PySem.W.keepIn K (.ref f_law) = true)
    (z_bool : PySem.W.nsIn K mainGlobals "bool" = some none)
    (z_int : PySem.W.nsIn K mainGlobals "int" = some none)
    (z_isinstance : PySem.W.nsIn K mainGlobals "isinstance" = some none)
    (z_len : PySem.W.nsIn K mainGlobals "len" = some none)
    (z_list : PySem.W.nsIn K mainGlobals "list" = some none)
    (z_min : PySem.W.nsIn K mainGlobals "min" = some none)
    (z_range : PySem.W.nsIn K mainGlobals "range" = some none)
    (z_str : PySem.W.nsIn K mainGlobals "str" = some none)
    (z_tuple : PySem.W.nsIn K mainGlobals "tuple" = some none)
    (z_MOST_ROWS : PySem.W.nsIn K mainGlobals "MOST_ROWS" = some (some (.int 1024 tk_MOST_ROWS)))
    (z_MOST_SIGNS : PySem.W.nsIn K mainGlobals "MOST_SIGNS" = some (some (.int 40 tk_MOST_SIGNS)))
    (z_SIGNS : PySem.W.nsIn K mainGlobals "SIGNS" = some (some (.str "abcdefghijklmnopqrstuvwxyz0123456789 " tk_SIGNS)))
    : ∃ fd : FuncData, (∀ (s : Shared) (v : Value), BindsTo s fd ⟨[v], []⟩ [("_law_script", v)]) ∧ ∀ base : Heap, K.In base → base.Ns mainGlobals mg → FnOk l.prog w K mg base (L2.CX l.prog w) 8 fa fd ["_law_script"] (sp_law K Cs.none) := by
  have e := hfa.symm.trans (PySem.W.mg_of X G a_law)
  cases e
  let c : Cs := { Ledger := C_Ledger, Book := C_Book, Looker := 0, TwinError := 0, NoRow := C_NoRow, NoSum := C_NoSum, NoPlace := C_NoPlace, NoBlock := 0, Full := C_Full, Strange := 0, md := MD l.prog w }
  have D : c.md = MD l.prog w := rfl
  have M : BM mg := ⟨PySem.W.mg_none_of X G z_bool, PySem.W.mg_none_of X G z_int, PySem.W.mg_none_of X G z_isinstance, PySem.W.mg_none_of X G z_len, PySem.W.mg_none_of X G z_list, PySem.W.mg_none_of X G z_min, PySem.W.mg_none_of X G z_range, PySem.W.mg_none_of X G z_str, PySem.W.mg_none_of X G z_tuple, ⟨_, PySem.W.mg_of X G z_MOST_ROWS⟩, ⟨_, PySem.W.mg_of X G z_MOST_SIGNS⟩, ⟨_, PySem.W.mg_of X G z_SIGNS⟩⟩
  have cl_Ledger : Cls K C_Ledger := ⟨pg_Ledger, hd_Ledger, po_Ledger, sa_Ledger⟩
  have cl_Book : Cls K C_Book := ⟨pg_Book, hd_Book, po_Book, sa_Book⟩
  have T : TxK K c := ⟨cl_Ledger, nf_Ledger_given, nf_Ledger_things, cl_Book, nf_Book_ledger, nf_Book_lines, nf_Book_levels, fun d ks => ⟨_, rfl⟩, PySem.W.exm_ref bP_NoPlace hd_NoPlace tP_NoPlace m_NoRow_NoPlace, PySem.W.exm_ref bP_NoPlace hd_NoPlace tP_NoPlace m_NoSum_NoPlace, PySem.W.exm_ref bP_NoPlace hd_NoPlace tP_NoPlace m_Full_NoPlace, PySem.W.exm_ref bP_NoPlace hd_NoPlace tP_NoPlace m_NoPlace_NoPlace, PySem.W.exm_ref bP_NoRow hd_NoRow tP_NoRow m_NoRow_NoRow, PySem.W.exm_ref bP_NoRow hd_NoRow tP_NoRow m_NoSum_NoRow, PySem.W.exm_ref bP_NoRow hd_NoRow tP_NoRow m_Full_NoRow, PySem.W.exm_ref bP_NoRow hd_NoRow tP_NoRow m_NoPlace_NoRow⟩
  have X_NoRow : ExcT K mg "NoRow" c.NoRow := ⟨PySem.W.mg_of X G a_NoRow, xP_NoRow, kP_NoRow, bP_NoRow, tP_NoRow⟩
  have X_NoSum : ExcT K mg "NoSum" c.NoSum := ⟨PySem.W.mg_of X G a_NoSum, xP_NoSum, kP_NoSum, bP_NoSum, tP_NoSum⟩
  have X_Full : ExcT K mg "Full" c.Full := ⟨PySem.W.mg_of X G a_Full, xP_Full, kP_Full, bP_Full, tP_Full⟩
  have X_NoPlace : ExcT K mg "NoPlace" c.NoPlace := ⟨PySem.W.mg_of X G a_NoPlace, xP_NoPlace, kP_NoPlace, bP_NoPlace, tP_NoPlace⟩
  have F_Ledger_init := fun_mk (st := s_Ledger_init) l_Ledger_init c_Ledger_init k_Ledger_init
  have b_Ledger_init := F_Ledger_init.binds (ps := ["self"]) fun _ _ _ _ _ _ us hl => match us, hl with | [_], _ => rfl
  have H_Ledger_init : IniG K mg c.Ledger "Ledger" "Ledger.__init__" s_Ledger_init ["self"] := ⟨⟨_, _, F_Ledger_init, ⟨mk_Ledger, a_Ledger_init, i_Ledger_init, kc_Ledger⟩, PySem.W.mg_of X G a_Ledger, b_Ledger_init⟩⟩
  have F_law_mix := fun_mk (st := s_law_mix) l_law_mix c_law_mix k_law_mix
  have b_law_mix := F_law_mix.binds (ps := ["_law_number", "_law_k"]) fun _ _ _ _ _ _ us hl => match us, hl with | [_, _], _ => rfl
  have H_law_mix : FunG K mg "_law_mix" s_law_mix ["_law_number", "_law_k"] := ⟨⟨_, _, F_law_mix, PySem.W.mg_of X G a_law_mix, b_law_mix⟩⟩
  have F_law_text := fun_mk (st := s_law_text) l_law_text c_law_text k_law_text
  have b_law_text := F_law_text.binds (ps := ["_law_cell"]) fun _ _ _ _ _ _ us hl => match us, hl with | [_], _ => rfl
  have H_law_text : FunG K mg "_law_text" s_law_text ["_law_cell"] := ⟨⟨_, _, F_law_text, PySem.W.mg_of X G a_law_text, b_law_text⟩⟩
  have F_law_rows := fun_mk (st := s_law_rows) l_law_rows c_law_rows k_law_rows
  have b_law_rows := F_law_rows.binds (ps := ["_law_cell", "_law_more"]) fun _ _ _ _ _ _ us hl => match us, hl with | [_, _], _ => rfl
  have H_law_rows : FunG K mg "_law_rows" s_law_rows ["_law_cell", "_law_more"] := ⟨⟨_, _, F_law_rows, PySem.W.mg_of X G a_law_rows, b_law_rows⟩⟩
  have F_is_row := fun_mk (st := s_is_row) l_is_row c_is_row k_is_row
  have b_is_row := F_is_row.binds (ps := ["thing"]) fun _ _ _ _ _ _ us hl => match us, hl with | [_], _ => rfl
  have H_is_row : FunG K mg "is_row" s_is_row ["thing"] := ⟨⟨_, _, F_is_row, PySem.W.mg_of X G a_is_row, b_is_row⟩⟩
  have F_sure_row := fun_mk (st := s_sure_row) l_sure_row c_sure_row k_sure_row
  have b_sure_row := F_sure_row.binds (ps := ["thing"]) fun _ _ _ _ _ _ us hl => match us, hl with | [_], _ => rfl
  have H_sure_row : FunG K mg "sure_row" s_sure_row ["thing"] := ⟨⟨_, _, F_sure_row, PySem.W.mg_of X G a_sure_row, b_sure_row⟩⟩
  have F_Ledger_number_of := fun_mk (st := s_Ledger_number_of) l_Ledger_number_of c_Ledger_number_of k_Ledger_number_of
  have b_Ledger_number_of := F_Ledger_number_of.binds (ps := ["self", "thing"]) fun _ _ _ _ _ _ us hl => match us, hl with | [_, _], _ => rfl
  have H_Ledger_number_of : MetG K c.Ledger "number_of" "Ledger.number_of" s_Ledger_number_of ["self", "thing"] := ⟨⟨_, _, F_Ledger_number_of, ⟨a_Ledger_number_of, i_Ledger_number_of, k_Ledger_number_of⟩, b_Ledger_number_of⟩⟩
  have F_Ledger_of_row := fun_mk (st := s_Ledger_of_row) l_Ledger_of_row c_Ledger_of_row k_Ledger_of_row
  have b_Ledger_of_row := F_Ledger_of_row.binds (ps := ["self", "row"]) fun _ _ _ _ _ _ us hl => match us, hl with | [_, _], _ => rfl
  have H_Ledger_of_row : MetG K c.Ledger "of_row" "Ledger.of_row" s_Ledger_of_row ["self", "row"] := ⟨⟨_, _, F_Ledger_of_row, ⟨a_Ledger_of_row, i_Ledger_of_row, k_Ledger_of_row⟩, b_Ledger_of_row⟩⟩
  have F_is_whole := fun_mk (st := s_is_whole) l_is_whole c_is_whole k_is_whole
  have b_is_whole := F_is_whole.binds (ps := ["thing"]) fun _ _ _ _ _ _ us hl => match us, hl with | [_], _ => rfl
  have H_is_whole : FunG K mg "is_whole" s_is_whole ["thing"] := ⟨⟨_, _, F_is_whole, PySem.W.mg_of X G a_is_whole, b_is_whole⟩⟩
  have F_Ledger_sure := fun_mk (st := s_Ledger_sure) l_Ledger_sure c_Ledger_sure k_Ledger_sure
  have b_Ledger_sure := F_Ledger_sure.binds (ps := ["self", "number"]) fun _ _ _ _ _ _ us hl => match us, hl with | [_, _], _ => rfl
  have H_Ledger_sure : MetG K c.Ledger "sure" "Ledger.sure" s_Ledger_sure ["self", "number"] := ⟨⟨_, _, F_Ledger_sure, ⟨a_Ledger_sure, i_Ledger_sure, k_Ledger_sure⟩, b_Ledger_sure⟩⟩
  have F_Ledger_of_pair := fun_mk (st := s_Ledger_of_pair) l_Ledger_of_pair c_Ledger_of_pair k_Ledger_of_pair
  have b_Ledger_of_pair := F_Ledger_of_pair.binds (ps := ["self", "one", "other"]) fun _ _ _ _ _ _ us hl => match us, hl with | [_, _, _], _ => rfl
  have H_Ledger_of_pair : MetG K c.Ledger "of_pair" "Ledger.of_pair" s_Ledger_of_pair ["self", "one", "other"] := ⟨⟨_, _, F_Ledger_of_pair, ⟨a_Ledger_of_pair, i_Ledger_of_pair, k_Ledger_of_pair⟩, b_Ledger_of_pair⟩⟩
  have F_Book_half_sums := fun_mk (st := s_Book_half_sums) l_Book_half_sums c_Book_half_sums k_Book_half_sums
  have b_Book_half_sums := F_Book_half_sums.binds (ps := ["self", "height", "number"]) fun _ _ _ _ _ _ us hl => match us, hl with | [_, _, _], _ => rfl
  have H_Book_half_sums : MetG K c.Book "half_sums" "Book.half_sums" s_Book_half_sums ["self", "height", "number"] := ⟨⟨_, _, F_Book_half_sums, ⟨a_Book_half_sums, i_Book_half_sums, k_Book_half_sums⟩, b_Book_half_sums⟩⟩
  have F_Book_grow := fun_mk (st := s_Book_grow) l_Book_grow c_Book_grow k_Book_grow
  have b_Book_grow := F_Book_grow.binds (ps := ["self", "row"]) fun _ _ _ _ _ _ us hl => match us, hl with | [_, _], _ => rfl
  have H_Book_grow : MetG K c.Book "grow" "Book.grow" s_Book_grow ["self", "row"] := ⟨⟨_, _, F_Book_grow, ⟨a_Book_grow, i_Book_grow, k_Book_grow⟩, b_Book_grow⟩⟩
  have F_Book_init := fun_mk (st := s_Book_init) l_Book_init c_Book_init k_Book_init
  have b_Book_init := F_Book_init.binds (ps := ["self", "ledger", "rows"]) fun _ _ _ _ _ _ us hl => match us, hl with | [_, _, _], _ => rfl
  have H_Book_init : IniG K mg c.Book "Book" "Book.__init__" s_Book_init ["self", "ledger", "rows"] := ⟨⟨_, _, F_Book_init, ⟨mk_Book, a_Book_init, i_Book_init, kc_Book⟩, PySem.W.mg_of X G a_Book, b_Book_init⟩⟩
  have F_law_drawn := fun_mk (st := s_law_drawn) l_law_drawn c_law_drawn k_law_drawn
  have b_law_drawn := F_law_drawn.binds (ps := ["_law_rows_here", "_law_cell"]) fun _ _ _ _ _ _ us hl => match us, hl with | [_, _], _ => rfl
  have H_law_drawn : FunG K mg "_law_drawn" s_law_drawn ["_law_rows_here", "_law_cell"] := ⟨⟨_, _, F_law_drawn, PySem.W.mg_of X G a_law_drawn, b_law_drawn⟩⟩
  have F_Ledger_many := fun_mk (st := s_Ledger_many) l_Ledger_many c_Ledger_many k_Ledger_many
  have b_Ledger_many := F_Ledger_many.binds (ps := ["self"]) fun _ _ _ _ _ _ us hl => match us, hl with | [_], _ => rfl
  have H_Ledger_many : MetG K c.Ledger "many" "Ledger.many" s_Ledger_many ["self"] := ⟨⟨_, _, F_Ledger_many, ⟨a_Ledger_many, i_Ledger_many, k_Ledger_many⟩, b_Ledger_many⟩⟩
  have F_law_size := fun_mk (st := s_law_size) l_law_size c_law_size k_law_size
  have b_law_size := F_law_size.binds (ps := ["_law_height"]) fun _ _ _ _ _ _ us hl => match us, hl with | [_], _ => rfl
  have H_law_size : FunG K mg "_law_size" s_law_size ["_law_height"] := ⟨⟨_, _, F_law_size, PySem.W.mg_of X G a_law_size, b_law_size⟩⟩
  have F_law_blocks := fun_mk (st := s_law_blocks) l_law_blocks c_law_blocks k_law_blocks
  have b_law_blocks := F_law_blocks.binds (ps := ["_law_count", "_law_place"]) fun _ _ _ _ _ _ us hl => match us, hl with | [_, _], _ => rfl
  have H_law_blocks : FunG K mg "_law_blocks" s_law_blocks ["_law_count", "_law_place"] := ⟨⟨_, _, F_law_blocks, PySem.W.mg_of X G a_law_blocks, b_law_blocks⟩⟩
  have F_law_good := fun_mk (st := s_law_good) l_law_good c_law_good k_law_good
  have b_law_good := F_law_good.binds (ps := ["_law_text_here"]) fun _ _ _ _ _ _ us hl => match us, hl with | [_], _ => rfl
  have H_law_good : FunG K mg "_law_good" s_law_good ["_law_text_here"] := ⟨⟨_, _, F_law_good, PySem.W.mg_of X G a_law_good, b_law_good⟩⟩
  have F_law_whole := fun_mk (st := s_law_whole) l_law_whole c_law_whole k_law_whole
  have b_law_whole := F_law_whole.binds (ps := ["_law_found"]) fun _ _ _ _ _ _ us hl => match us, hl with | [_], _ => rfl
  have H_law_whole : FunG K mg "_law_whole" s_law_whole ["_law_found"] := ⟨⟨_, _, F_law_whole, PySem.W.mg_of X G a_law_whole, b_law_whole⟩⟩
  have F_law_due := fun_mk (st := s_law_due) l_law_due c_law_due k_law_due
  have b_law_due := F_law_due.binds (ps := ["_law_rows_here", "_law_deed_here"]) fun _ _ _ _ _ _ us hl => match us, hl with | [_, _], _ => rfl
  have H_law_due : FunG K mg "_law_due" s_law_due ["_law_rows_here", "_law_deed_here"] := ⟨⟨_, _, F_law_due, PySem.W.mg_of X G a_law_due, b_law_due⟩⟩
  have F_size_of := fun_mk (st := s_size_of) l_size_of c_size_of k_size_of
  have b_size_of := F_size_of.binds (ps := ["height"]) fun _ _ _ _ _ _ us hl => match us, hl with | [_], _ => rfl
  have H_size_of : FunG K mg "size_of" s_size_of ["height"] := ⟨⟨_, _, F_size_of, PySem.W.mg_of X G a_size_of, b_size_of⟩⟩
  have F_Book_cut := fun_mk (st := s_Book_cut) l_Book_cut c_Book_cut k_Book_cut
  have b_Book_cut := F_Book_cut.binds (ps := ["self"]) fun _ _ _ _ _ _ us hl => match us, hl with | [_], _ => rfl
  have H_Book_cut : MetG K c.Book "cut" "Book.cut" s_Book_cut ["self"] := ⟨⟨_, _, F_Book_cut, ⟨a_Book_cut, i_Book_cut, k_Book_cut⟩, b_Book_cut⟩⟩
  have F_Book_sure := fun_mk (st := s_Book_sure) l_Book_sure c_Book_sure k_Book_sure
  have b_Book_sure := F_Book_sure.binds (ps := ["self", "place"]) fun _ _ _ _ _ _ us hl => match us, hl with | [_, _], _ => rfl
  have H_Book_sure : MetG K c.Book "sure" "Book.sure" s_Book_sure ["self", "place"] := ⟨⟨_, _, F_Book_sure, ⟨a_Book_sure, i_Book_sure, k_Book_sure⟩, b_Book_sure⟩⟩
  have F_Book_put := fun_mk (st := s_Book_put) l_Book_put c_Book_put k_Book_put
  have b_Book_put := F_Book_put.binds (ps := ["self", "place", "row"]) fun _ _ _ _ _ _ us hl => match us, hl with | [_, _, _], _ => rfl
  have H_Book_put : MetG K c.Book "put" "Book.put" s_Book_put ["self", "place", "row"] := ⟨⟨_, _, F_Book_put, ⟨a_Book_put, i_Book_put, k_Book_put⟩, b_Book_put⟩⟩
  have F_Book_add := fun_mk (st := s_Book_add) l_Book_add c_Book_add k_Book_add
  have b_Book_add := F_Book_add.binds (ps := ["self", "row"]) fun _ _ _ _ _ _ us hl => match us, hl with | [_, _], _ => rfl
  have H_Book_add : MetG K c.Book "add" "Book.add" s_Book_add ["self", "row"] := ⟨⟨_, _, F_Book_add, ⟨a_Book_add, i_Book_add, k_Book_add⟩, b_Book_add⟩⟩
  have F_law_deed := fun_mk (st := s_law_deed) l_law_deed c_law_deed k_law_deed
  have b_law_deed := F_law_deed.binds (ps := ["_law_book", "_law_deed_here"]) fun _ _ _ _ _ _ us hl => match us, hl with | [_, _], _ => rfl
  have H_law_deed : FunG K mg "_law_deed" s_law_deed ["_law_book", "_law_deed_here"] := ⟨⟨_, _, F_law_deed, PySem.W.mg_of X G a_law_deed, b_law_deed⟩⟩
  have F_Book_rows := fun_mk (st := s_Book_rows) l_Book_rows c_Book_rows k_Book_rows
  have b_Book_rows := F_Book_rows.binds (ps := ["self"]) fun _ _ _ _ _ _ us hl => match us, hl with | [_], _ => rfl
  have H_Book_rows : MetG K c.Book "rows" "Book.rows" s_Book_rows ["self"] := ⟨⟨_, _, F_Book_rows, ⟨a_Book_rows, i_Book_rows, k_Book_rows⟩, b_Book_rows⟩⟩
  have F_law_cell_at := fun_mk (st := s_law_cell_at) l_law_cell_at c_law_cell_at k_law_cell_at
  have b_law_cell_at := F_law_cell_at.binds (ps := ["_law_script", "_law_k"]) fun _ _ _ _ _ _ us hl => match us, hl with | [_, _], _ => rfl
  have H_law_cell_at : FunG K mg "_law_cell_at" s_law_cell_at ["_law_script", "_law_k"] := ⟨⟨_, _, F_law_cell_at, PySem.W.mg_of X G a_law_cell_at, b_law_cell_at⟩⟩
  have F_law_room := fun_mk (st := s_law_room) l_law_room c_law_room k_law_room
  have b_law_room := F_law_room.binds (ps := ["_law_script", "_law_small", "_law_great"]) fun _ _ _ _ _ _ us hl => match us, hl with | [_, _, _], _ => rfl
  have H_law_room : FunG K mg "_law_room" s_law_room ["_law_script", "_law_small", "_law_great"] := ⟨⟨_, _, F_law_room, PySem.W.mg_of X G a_law_room, b_law_room⟩⟩
  have F_law_again := fun_mk (st := s_law_again) l_law_again c_law_again k_law_again
  have b_law_again := F_law_again.binds (ps := ["_law_book", "_law_rows_here", "_law_deed_here"]) fun _ _ _ _ _ _ us hl => match us, hl with | [_, _, _], _ => rfl
  have H_law_again : FunG K mg "_law_again" s_law_again ["_law_book", "_law_rows_here", "_law_deed_here"] := ⟨⟨_, _, F_law_again, PySem.W.mg_of X G a_law_again, b_law_again⟩⟩
  have F_Book_row := fun_mk (st := s_Book_row) l_Book_row c_Book_row k_Book_row
  have b_Book_row := F_Book_row.binds (ps := ["self", "place"]) fun _ _ _ _ _ _ us hl => match us, hl with | [_, _], _ => rfl
  have H_Book_row : MetG K c.Book "row" "Book.row" s_Book_row ["self", "place"] := ⟨⟨_, _, F_Book_row, ⟨a_Book_row, i_Book_row, k_Book_row⟩, b_Book_row⟩⟩
  have F_law_no_row := fun_mk (st := s_law_no_row) l_law_no_row c_law_no_row k_law_no_row
  have b_law_no_row := F_law_no_row.binds (ps := ["_law_book", "_law_rows_here", "_law_cell"]) fun _ _ _ _ _ _ us hl => match us, hl with | [_, _, _], _ => rfl
  have H_law_no_row : FunG K mg "_law_no_row" s_law_no_row ["_law_book", "_law_rows_here", "_law_cell"] := ⟨⟨_, _, F_law_no_row, PySem.W.mg_of X G a_law_no_row, b_law_no_row⟩⟩
  have F_Book_count := fun_mk (st := s_Book_count) l_Book_count c_Book_count k_Book_count
  have b_Book_count := F_Book_count.binds (ps := ["self"]) fun _ _ _ _ _ _ us hl => match us, hl with | [_], _ => rfl
  have H_Book_count : MetG K c.Book "count" "Book.count" s_Book_count ["self"] := ⟨⟨_, _, F_Book_count, ⟨a_Book_count, i_Book_count, k_Book_count⟩, b_Book_count⟩⟩
  have F_law_same := fun_mk (st := s_law_same) l_law_same c_law_same k_law_same
  have b_law_same := F_law_same.binds (ps := ["_law_book", "_law_rows_here", "_law_cell"]) fun _ _ _ _ _ _ us hl => match us, hl with | [_, _, _], _ => rfl
  have H_law_same : FunG K mg "_law_same" s_law_same ["_law_book", "_law_rows_here", "_law_cell"] := ⟨⟨_, _, F_law_same, PySem.W.mg_of X G a_law_same, b_law_same⟩⟩
  have F_law := fun_mk (st := s_law) l_law c_law k_law
  have b_law := F_law.binds (ps := ["_law_script"]) fun _ _ _ _ _ _ us hl => match us, hl with | [_], _ => rfl
  refine ⟨PySem.W.fnOf "law" "law" (defArgs s_law) (defBody s_law) (defScope s_law) .none kV_law dc_law pm_law an_law cd_law ct_law, fun s v => .of_eq rfl, fun base _ _ => ?_⟩
  have G_Ledger_init : MkG l.prog w K mg base 1 c.Ledger "Ledger" ["self"] (sp_Ledger_init K c) := ok_Ledger_init M T H_Ledger_init D
  have G_law_mix : FnG l.prog w K mg base 1 "_law_mix" ["_law_number", "_law_k"] (sp_law_mix K c) := ok_law_mix M T H_law_mix D
  have G_law_text : FnG l.prog w K mg base 2 "_law_text" ["_law_cell"] (sp_law_text K c) := ok_law_text M T H_law_text D G_law_mix
  have G_law_rows : FnG l.prog w K mg base 3 "_law_rows" ["_law_cell", "_law_more"] (sp_law_rows K c) := ok_law_rows M T H_law_rows D G_law_text G_law_mix
  have G_is_row : FnG l.prog w K mg base 1 "is_row" ["thing"] (sp_is_row K c) := ok_is_row M T H_is_row D
  have G_sure_row : FnG l.prog w K mg base 2 "sure_row" ["thing"] (sp_sure_row K c) := ok_sure_row M T H_sure_row D X_NoRow G_is_row
  have G_Ledger_number_of : MtG l.prog w K mg base 1 c.Ledger "number_of" ["self", "thing"] (sp_Ledger_number_of K c) := ok_Ledger_number_of M T H_Ledger_number_of D
  have G_Ledger_of_row : MtG l.prog w K mg base 3 c.Ledger "of_row" ["self", "row"] (sp_Ledger_of_row K c) := ok_Ledger_of_row M T H_Ledger_of_row D G_sure_row G_Ledger_number_of
  have G_is_whole : FnG l.prog w K mg base 1 "is_whole" ["thing"] (sp_is_whole K c) := ok_is_whole M T H_is_whole D
  have G_Ledger_sure : MtG l.prog w K mg base 2 c.Ledger "sure" ["self", "number"] (sp_Ledger_sure K c) := ok_Ledger_sure M T H_Ledger_sure D X_NoSum G_is_whole
  have G_Ledger_of_pair : MtG l.prog w K mg base 3 c.Ledger "of_pair" ["self", "one", "other"] (sp_Ledger_of_pair K c) := ok_Ledger_of_pair M T H_Ledger_of_pair D G_Ledger_sure G_Ledger_number_of
  have G_Book_half_sums : MtG l.prog w K mg base 4 c.Book "half_sums" ["self", "height", "number"] (sp_Book_half_sums K c) := ok_Book_half_sums M T H_Book_half_sums D G_Ledger_of_pair
  have G_Book_grow : MtG l.prog w K mg base 5 c.Book "grow" ["self", "row"] (sp_Book_grow K c) := ok_Book_grow M T H_Book_grow D G_Ledger_of_row G_Book_half_sums
  have G_Book_init : MkG l.prog w K mg base 6 c.Book "Book" ["self", "ledger", "rows"] (sp_Book_init K c) := ok_Book_init M T H_Book_init D X_Full G_sure_row G_Book_grow
  have G_law_drawn : FnG l.prog w K mg base 3 "_law_drawn" ["_law_rows_here", "_law_cell"] (sp_law_drawn K c) := ok_law_drawn M T H_law_drawn D G_law_text G_law_mix
  have G_Ledger_many : MtG l.prog w K mg base 1 c.Ledger "many" ["self"] (sp_Ledger_many K c) := ok_Ledger_many M T H_Ledger_many D
  have G_law_size : FnG l.prog w K mg base 1 "_law_size" ["_law_height"] (sp_law_size K c) := ok_law_size M T H_law_size D
  have G_law_blocks : FnG l.prog w K mg base 2 "_law_blocks" ["_law_count", "_law_place"] (sp_law_blocks K c) := ok_law_blocks M T H_law_blocks D G_law_size
  have G_law_good : FnG l.prog w K mg base 1 "_law_good" ["_law_text_here"] (sp_law_good K c) := ok_law_good M T H_law_good D
  have G_law_whole : FnG l.prog w K mg base 1 "_law_whole" ["_law_found"] (sp_law_whole K c) := ok_law_whole M T H_law_whole D
  have G_law_due : FnG l.prog w K mg base 3 "_law_due" ["_law_rows_here", "_law_deed_here"] (sp_law_due K c) := ok_law_due M T H_law_due D G_law_blocks G_law_good G_law_whole
  have G_size_of : FnG l.prog w K mg base 1 "size_of" ["height"] (sp_size_of K c) := ok_size_of M T H_size_of D
  have G_Book_cut : MtG l.prog w K mg base 2 c.Book "cut" ["self"] (sp_Book_cut K c) := ok_Book_cut M T H_Book_cut D X_NoPlace G_size_of
  have G_Book_sure : MtG l.prog w K mg base 2 c.Book "sure" ["self", "place"] (sp_Book_sure K c) := ok_Book_sure M T H_Book_sure D X_NoPlace G_is_whole
  have G_Book_put : MtG l.prog w K mg base 5 c.Book "put" ["self", "place", "row"] (sp_Book_put K c) := ok_Book_put M T H_Book_put D G_Book_sure G_sure_row G_Ledger_of_row G_Book_half_sums
  have G_Book_add : MtG l.prog w K mg base 6 c.Book "add" ["self", "row"] (sp_Book_add K c) := ok_Book_add M T H_Book_add D X_Full G_sure_row G_Book_grow
  have G_law_deed : FnG l.prog w K mg base 7 "_law_deed" ["_law_book", "_law_deed_here"] (sp_law_deed K c) := ok_law_deed M T H_law_deed D X_NoPlace X_NoRow G_Book_cut G_Book_put G_Book_add
  have G_Book_rows : MtG l.prog w K mg base 1 c.Book "rows" ["self"] (sp_Book_rows K c) := ok_Book_rows M T H_Book_rows D
  have G_law_cell_at : FnG l.prog w K mg base 1 "_law_cell_at" ["_law_script", "_law_k"] (sp_law_cell_at K c) := ok_law_cell_at M T H_law_cell_at D
  have G_law_room : FnG l.prog w K mg base 1 "_law_room" ["_law_script", "_law_small", "_law_great"] (sp_law_room K c) := ok_law_room M T H_law_room D
  have G_law_again : FnG l.prog w K mg base 7 "_law_again" ["_law_book", "_law_rows_here", "_law_deed_here"] (sp_law_again K c) := ok_law_again M T H_law_again D G_law_due G_law_whole G_law_good G_Book_add G_Book_put
  have G_Book_row : MtG l.prog w K mg base 3 c.Book "row" ["self", "place"] (sp_Book_row K c) := ok_Book_row M T H_Book_row D G_Book_sure
  have G_law_no_row : FnG l.prog w K mg base 4 "_law_no_row" ["_law_book", "_law_rows_here", "_law_cell"] (sp_law_no_row K c) := ok_law_no_row M T H_law_no_row D X_NoPlace G_Book_row
  have G_Book_count : MtG l.prog w K mg base 1 c.Book "count" ["self"] (sp_Book_count K c) := ok_Book_count M T H_Book_count D
  have G_law_same : FnG l.prog w K mg base 5 "_law_same" ["_law_book", "_law_rows_here", "_law_cell"] (sp_law_same K c) := ok_law_same M T H_law_same D G_law_no_row G_law_whole G_law_mix G_Book_rows G_Book_row G_Book_count
  have G_law := ok_law (P := l.prog) (w := w) (base := base) M T F_law D G_Ledger_init G_law_rows G_Book_init G_law_drawn G_Ledger_many G_law_due G_law_deed G_Book_rows G_law_cell_at G_law_room G_law_whole G_law_again G_law_same
  exact G_law
theorem walk {l : PySem.W.OpenLaw} {q : Program} {loose : List Str} {XP : (Str → Option Value) → Heap → Prop} {YP : World → Heap → Prop} {d : DefRec} {K : Params → PySem.W.Frag} (hn : l.most = some 63) (hdf : d.params.defaults = [])
    (hY : ∀ (w : World) (h : Heap), YP w h → (K w.params).In h)
    (F : ∀ (w : World) (mg : Str → Option Value) (fa : Addr) (h : Heap), (K w.params).In h → h.Ns mainGlobals mg → mg d.name = some (.ref fa) →
      ∃ fd : FuncData, (∀ (s : Shared) (u : Value), BindsTo s fd ⟨[u], []⟩ [("_law_script", u)]) ∧ ∀ base : Heap, (K w.params).In base → base.Ns mainGlobals mg → FnOk l.prog w (K w.params) mg base (L2.CX l.prog w) 8 fa fd ["_law_script"] (sp_law (K w.params) Cs.none)) :
    PySem.W.WalkO q loose XP YP l.row.toRowW d [] (fun f vs => PySem.call f vs) :=
  L2.walk_of (n := 63) (k := 8) (x := "_law_script") (CX := fun w => L2.CX l.prog w) (sp := fun w => sp_law (K w.params) Cs.none) hn (by decide) hdf ⟨rfl, by decide, by decide⟩ hY F (fun _ _ a ns hl _ hS => ⟨a, ns, rfl, hS, hl, fun _ => rfl⟩)
    fun _ _ _ _ _ h => by
      obtain ⟨_, _, _, _, _, _, _, _, _, _, _, _, z⟩ := h
      exact z.elim
end Tw
open PySem PySem.W PyProof.Rows
set_option maxRecDepth 100000 in
set_option maxHeartbeats 0 in
theorem PySem.Challenge.cw_twinsum_k03_books_change_holds : PySem.Challenge.rw_twinsum_k03_books_change.Holds := by
  w_on; o_law; k_head; (case hw => w_witness2)
  k_fill
  refine Tw.walk (l := PySem.Challenge.rw_twinsum_k03_books_change) rfl rfl (fun w h Y => PySem.W.kIn_of Y) ?F
  case F =>
    intro w mg fa h KX G hmg
    refine' Tw.all_mk KX G hmg ?a_Ledger ?pg_Ledger ?hd_Ledger ?po_Ledger ?sa_Ledger ?mk_Ledger ?kc_Ledger ?nf_Ledger_given ?nf_Ledger_things ?a_Book ?pg_Book ?hd_Book ?po_Book ?sa_Book ?mk_Book ?kc_Book ?nf_Book_ledger ?nf_Book_lines ?nf_Book_levels ?a_NoRow ?xP_NoRow ?kP_NoRow ?bP_NoRow ?tP_NoRow ?a_NoSum ?xP_NoSum ?kP_NoSum ?bP_NoSum ?tP_NoSum ?a_Full ?xP_Full ?kP_Full ?bP_Full ?tP_Full ?a_NoPlace ?xP_NoPlace ?kP_NoPlace ?bP_NoPlace ?tP_NoPlace ?m_NoRow_NoPlace ?m_NoSum_NoPlace ?m_Full_NoPlace ?m_NoPlace_NoPlace ?m_NoRow_NoRow ?m_NoSum_NoRow ?m_Full_NoRow ?m_NoPlace_NoRow ?hd_NoPlace ?hd_NoRow ?a_Ledger_init ?i_Ledger_init ?l_Ledger_init ?c_Ledger_init ?k_Ledger_init ?a_law_mix ?l_law_mix ?c_law_mix ?k_law_mix ?a_law_text ?l_law_text ?c_law_text ?k_law_text ?a_law_rows ?l_law_rows ?c_law_rows ?k_law_rows ?a_is_row ?l_is_row ?c_is_row ?k_is_row ?a_sure_row ?l_sure_row ?c_sure_row ?k_sure_row ?a_Ledger_number_of ?i_Ledger_number_of ?l_Ledger_number_of ?c_Ledger_number_of ?k_Ledger_number_of ?a_Ledger_of_row ?i_Ledger_of_row ?l_Ledger_of_row ?c_Ledger_of_row ?k_Ledger_of_row ?a_is_whole ?l_is_whole ?c_is_whole ?k_is_whole ?a_Ledger_sure ?i_Ledger_sure ?l_Ledger_sure ?c_Ledger_sure ?k_Ledger_sure ?a_Ledger_of_pair ?i_Ledger_of_pair ?l_Ledger_of_pair ?c_Ledger_of_pair ?k_Ledger_of_pair ?a_Book_half_sums ?i_Book_half_sums ?l_Book_half_sums ?c_Book_half_sums ?k_Book_half_sums ?a_Book_grow ?i_Book_grow ?l_Book_grow ?c_Book_grow ?k_Book_grow ?a_Book_init ?i_Book_init ?l_Book_init ?c_Book_init ?k_Book_init ?a_law_drawn ?l_law_drawn ?c_law_drawn ?k_law_drawn ?a_Ledger_many ?i_Ledger_many ?l_Ledger_many ?c_Ledger_many ?k_Ledger_many ?a_law_size ?l_law_size ?c_law_size ?k_law_size ?a_law_blocks ?l_law_blocks ?c_law_blocks ?k_law_blocks ?a_law_good ?l_law_good ?c_law_good ?k_law_good ?a_law_whole ?l_law_whole ?c_law_whole ?k_law_whole ?a_law_due ?l_law_due ?c_law_due ?k_law_due ?a_size_of ?l_size_of ?c_size_of ?k_size_of ?a_Book_cut ?i_Book_cut ?l_Book_cut ?c_Book_cut ?k_Book_cut ?a_Book_sure ?i_Book_sure ?l_Book_sure ?c_Book_sure ?k_Book_sure ?a_Book_put ?i_Book_put ?l_Book_put ?c_Book_put ?k_Book_put ?a_Book_add ?i_Book_add ?l_Book_add ?c_Book_add ?k_Book_add ?a_law_deed ?l_law_deed ?c_law_deed ?k_law_deed ?a_Book_rows ?i_Book_rows ?l_Book_rows ?c_Book_rows ?k_Book_rows ?a_law_cell_at ?l_law_cell_at ?c_law_cell_at ?k_law_cell_at ?a_law_room ?l_law_room ?c_law_room ?k_law_room ?a_law_again ?l_law_again ?c_law_again ?k_law_again ?a_Book_row ?i_Book_row ?l_Book_row ?c_Book_row ?k_Book_row ?a_law_no_row ?l_law_no_row ?c_law_no_row ?k_law_no_row ?a_Book_count ?i_Book_count ?l_Book_count ?c_Book_count ?k_Book_count ?a_law_same ?l_law_same ?c_law_same ?k_law_same ?a_law ?l_law ?c_law ?k_law ?z_bool ?z_int ?z_isinstance ?z_len ?z_list ?z_min ?z_range ?z_str ?z_tuple ?z_MOST_ROWS ?z_MOST_SIGNS ?z_SIGNS
    (case a_Ledger => k_is)
    (case pg_Ledger => k_is)
    (case hd_Ledger => k_is)
    (case po_Ledger => k_is)
    (case sa_Ledger => k_is)
    (case mk_Ledger => k_is)
    (case kc_Ledger => k_is)
    (case nf_Ledger_given => k_is)
    (case nf_Ledger_things => k_is)
    (case a_Book => k_is)
    (case pg_Book => k_is)
    (case hd_Book => k_is)
    (case po_Book => k_is)
    (case sa_Book => k_is)
    (case mk_Book => k_is)
    (case kc_Book => k_is)
    (case nf_Book_ledger => k_is)
    (case nf_Book_lines => k_is)
    (case nf_Book_levels => k_is)
    (case a_NoRow => k_is)
    (case xP_NoRow => k_exc)
    (case kP_NoRow => k_is)
    (case bP_NoRow => k_is)
    (case tP_NoRow => k_is)
    (case a_NoSum => k_is)
    (case xP_NoSum => k_exc)
    (case kP_NoSum => k_is)
    (case bP_NoSum => k_is)
    (case tP_NoSum => k_is)
    (case a_Full => k_is)
    (case xP_Full => k_exc)
    (case kP_Full => k_is)
    (case bP_Full => k_is)
    (case tP_Full => k_is)
    (case a_NoPlace => k_is)
    (case xP_NoPlace => k_exc)
    (case kP_NoPlace => k_is)
    (case bP_NoPlace => k_is)
    (case tP_NoPlace => k_is)
    (case m_NoRow_NoPlace => k_is)
    (case m_NoSum_NoPlace => k_is)
    (case m_Full_NoPlace => k_is)
    (case m_NoPlace_NoPlace => k_is)
    (case m_NoRow_NoRow => k_is)
    (case m_NoSum_NoRow => k_is)
    (case m_Full_NoRow => k_is)
    (case m_NoPlace_NoRow => k_is)
    (case hd_NoPlace => k_is)
    (case hd_NoRow => k_is)
    (case a_Ledger_init => k_is)
    (case i_Ledger_init => k_is)
    (case l_Ledger_init => k_is)
    (case c_Ledger_init => k_is)
    (case k_Ledger_init => k_is)
    (case a_law_mix => k_is)
    (case l_law_mix => k_is)
    (case c_law_mix => k_is)
    (case k_law_mix => k_is)
    (case a_law_text => k_is)
    (case l_law_text => k_is)
    (case c_law_text => k_is)
    (case k_law_text => k_is)
    (case a_law_rows => k_is)
    (case l_law_rows => k_is)
    (case c_law_rows => k_is)
    (case k_law_rows => k_is)
    (case a_is_row => k_is)
    (case l_is_row => k_is)
    (case c_is_row => k_is)
    (case k_is_row => k_is)
    (case a_sure_row => k_is)
    (case l_sure_row => k_is)
    (case c_sure_row => k_is)
    (case k_sure_row => k_is)
    (case a_Ledger_number_of => k_is)
    (case i_Ledger_number_of => k_is)
    (case l_Ledger_number_of => k_is)
    (case c_Ledger_number_of => k_is)
    (case k_Ledger_number_of => k_is)
    (case a_Ledger_of_row => k_is)
    (case i_Ledger_of_row => k_is)
    (case l_Ledger_of_row => k_is)
    (case c_Ledger_of_row => k_is)
    (case k_Ledger_of_row => k_is)
    (case a_is_whole => k_is)
    (case l_is_whole => k_is)
    (case c_is_whole => k_is)
    (case k_is_whole => k_is)
    (case a_Ledger_sure => k_is)
    (case i_Ledger_sure => k_is)
    (case l_Ledger_sure => k_is)
    (case c_Ledger_sure => k_is)
    (case k_Ledger_sure => k_is)
    (case a_Ledger_of_pair => k_is)
    (case i_Ledger_of_pair => k_is)
    (case l_Ledger_of_pair => k_is)
    (case c_Ledger_of_pair => k_is)
    (case k_Ledger_of_pair => k_is)
    (case a_Book_half_sums => k_is)
    (case i_Book_half_sums => k_is)
    (case l_Book_half_sums => k_is)
    (case c_Book_half_sums => k_is)
    (case k_Book_half_sums => k_is)
    (case a_Book_grow => k_is)
    (case i_Book_grow => k_is)
    (case l_Book_grow => k_is)
    (case c_Book_grow => k_is)
    (case k_Book_grow => k_is)
    (case a_Book_init => k_is)
    (case i_Book_init => k_is)
    (case l_Book_init => k_is)
    (case c_Book_init => k_is)
    (case k_Book_init => k_is)
    (case a_law_drawn => k_is)
    (case l_law_drawn => k_is)
    (case c_law_drawn => k_is)
    (case k_law_drawn => k_is)
    (case a_Ledger_many => k_is)
    (case i_Ledger_many => k_is)
    (case l_Ledger_many => k_is)
    (case c_Ledger_many => k_is)
    (case k_Ledger_many => k_is)
    (case a_law_size => k_is)
    (case l_law_size => k_is)
    (case c_law_size => k_is)
    (case k_law_size => k_is)
    (case a_law_blocks => k_is)
    (case l_law_blocks => k_is)
    (case c_law_blocks => k_is)
    (case k_law_blocks => k_is)
    (case a_law_good => k_is)
    (case l_law_good => k_is)
    (case c_law_good => k_is)
    (case k_law_good => k_is)
    (case a_law_whole => k_is)
    (case l_law_whole => k_is)
    (case c_law_whole => k_is)
    (case k_law_whole => k_is)
    (case a_law_due => k_is)
    (case l_law_due => k_is)
    (case c_law_due => k_is)
    (case k_law_due => k_is)
    (case a_size_of => k_is)
    (case l_size_of => k_is)
    (case c_size_of => k_is)
    (case k_size_of => k_is)
    (case a_Book_cut => k_is)
    (case i_Book_cut => k_is)
    (case l_Book_cut => k_is)
    (case c_Book_cut => k_is)
    (case k_Book_cut => k_is)
    (case a_Book_sure => k_is)
    (case i_Book_sure => k_is)
    (case l_Book_sure => k_is)
    (case c_Book_sure => k_is)
    (case k_Book_sure => k_is)
    (case a_Book_put => k_is)
    (case i_Book_put => k_is)
    (case l_Book_put => k_is)
    (case c_Book_put => k_is)
    (case k_Book_put => k_is)
    (case a_Book_add => k_is)
    (case i_Book_add => k_is)
    (case l_Book_add => k_is)
    (case c_Book_add => k_is)
    (case k_Book_add => k_is)
    (case a_law_deed => k_is)
    (case l_law_deed => k_is)
    (case c_law_deed => k_is)
    (case k_law_deed => k_is)
    (case a_Book_rows => k_is)
    (case i_Book_rows => k_is)
    (case l_Book_rows => k_is)
    (case c_Book_rows => k_is)
    (case k_Book_rows => k_is)
    (case a_law_cell_at => k_is)
    (case l_law_cell_at => k_is)
    (case c_law_cell_at => k_is)
    (case k_law_cell_at => k_is)
    (case a_law_room => k_is)
    (case l_law_room => k_is)
    (case c_law_room => k_is)
    (case k_law_room => k_is)
    (case a_law_again => k_is)
    (case l_law_again => k_is)
    (case c_law_again => k_is)
    (case k_law_again => k_is)
    (case a_Book_row => k_is)
    (case i_Book_row => k_is)
    (case l_Book_row => k_is)
    (case c_Book_row => k_is)
    (case k_Book_row => k_is)
    (case a_law_no_row => k_is)
    (case l_law_no_row => k_is)
    (case c_law_no_row => k_is)
    (case k_law_no_row => k_is)
    (case a_Book_count => k_is)
    (case i_Book_count => k_is)
    (case l_Book_count => k_is)
    (case c_Book_count => k_is)
    (case k_Book_count => k_is)
    (case a_law_same => k_is)
    (case l_law_same => k_is)
    (case c_law_same => k_is)
    (case k_law_same => k_is)
    (case a_law => k_is)
    (case l_law => k_is)
    (case c_law => k_is)
    (case k_law => k_is)
    (case z_bool => k_is)
    (case z_int => k_is)
    (case z_isinstance => k_is)
    (case z_len => k_is)
    (case z_list => k_is)
    (case z_min => k_is)
    (case z_range => k_is)
    (case z_str => k_is)
    (case z_tuple => k_is)
    (case z_MOST_ROWS => k_is)
    (case z_MOST_SIGNS => k_is)
    (case z_SIGNS => k_is)
#print axioms PySem.Challenge.cw_twinsum_k03_books_change_holds

