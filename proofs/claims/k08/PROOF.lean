import PyProof.Rows.All
import Wide.All
import OpenK.AllK
import Wide.FinOn
import HandS.ForMost
import HandS.ForExc
import HandS.IsInst
import HandS.ExcIs
import HandS.TryMany
import HandS.SortInts
import HandS.Evl
import HandS.Conv
import HandS.HotCalls
import HandS.Deep
import HandS.More
import HandS.TupSets
import KE.KSortedAny
import HandS.TupAny
import PySem.Challenge.RW_twinsum_k08_whole_all_by_looks
set_option Elab.async false
set_option linter.all false
set_option maxRecDepth 100000
set_option maxHeartbeats 4000000
namespace Ts
open PySem L2
/-! ### heaps -/
abbrev Ex := Evl.Ex
theorem ex_refl {H : Hp} : Ex H H := Evl.Ex.refl H
theorem ex_new {H H' : Hp} {p : Addr} {o : HO} (e : Ex H H') (h : H' p = none) : Ex H (upd H' p o) := e.trans (Evl.Ex.new h)
theorem ex_mut {H H' : Hp} {p : Addr} {o : HO} (e : Ex H H') (h : H p = none) : Ex H (upd H' p o) := Evl.Ex.mut e h
theorem ex_free {H H' : Hp} {p : Addr} (e : Ex H H') (h : H' p = none) : H p = none := Evl.fresh_back e h
theorem sz100 {n : Nat} (h : n ≤ 100) : n ≤ sizeLine := Nat.le_trans h (by decide)
theorem szM {n : Nat} (h : n ≤ 1000000) : n ≤ sizeLine := Nat.le_trans h (by decide)
theorem szL {n : Nat} (h : n < 1000000) : n < sizeLine := Nat.lt_of_lt_of_le h (by decide)

/-! ### operators of any kind -/
def rAddI : R2 := rI0 fun i j => .int (i + j)
def rAddS : R2 := fun x y H Q => ∃ i j, x = .str i ∧ y = .str j ∧ i.length + j.length ≤ sizeLine ∧ Q (.str (i ++ j)) H
def rAddU : R2 := fun x y H Q => rAddI x y H Q ∨ rAddS x y H Q ∨ rCat x y H Q
theorem op_addU {X : Cx} : OpR X (binaryOp .Add) rAddU := op_add.or (op_add_str.or op_cat)
def rSubI : R2 := rI0 fun i j => .int (i - j)
theorem op_sub1 {X : Cx} : OpR X (binaryOp .Sub) rSubI := op_sub
def rMul : R2 := rI CMul fun i j => .int (i * j)
theorem op_mul1 {X : Cx} : OpR X (binaryOp .Mult) rMul := op_mul
def rDiv : R2 := rI CDiv fun i j => .int (i / j)
theorem op_div1 {X : Cx} : OpR X (binaryOp .FloorDiv) rDiv := op_fdiv
def rMod : R2 := rI (fun _ j => 0 < j) fun i j => .int (i % j)
theorem op_mod1 {X : Cx} : OpR X (binaryOp .Mod) rMod := op_mod
def rPow : R2 := rI CPow fun i j => .int (i ^ j.toNat)
theorem op_pow1 {X : Cx} : OpR X (binaryOp .Pow) rPow := op_pow
def rLt : R2 := rI0 fun i j => .bl (decide (i < j))
def rLe : R2 := rI0 fun i j => .bl (decide (i ≤ j))
def rGt : R2 := rI0 fun i j => .bl (decide (j < i))
def rGe : R2 := rI0 fun i j => .bl (decide (j ≤ i))
theorem op_lt1 {X : Cx} : OpR X (compareOp .Lt) rLt := op_lt
theorem op_le1 {X : Cx} : OpR X (compareOp .LtE) rLe := op_le
theorem op_gt1 {X : Cx} : OpR X (compareOp .Gt) rGt := op_gt
theorem op_ge1 {X : Cx} : OpR X (compareOp .GtE) rGe := op_ge
def rEqU (K : PySem.W.Frag) : R2 := fun x y H Q => rEq x y H Q ∨ rEqD K x y H Q
def rNeU (K : PySem.W.Frag) : R2 := fun x y H Q => rNe x y H Q ∨ rNeD K x y H Q
theorem op_eqU {X : Cx} (hu : X.A.units + 64 < cLine) : OpR X (compareOp .Eq) (rEqU X.K) := op_eq.or (op_eqD hu)
theorem op_neU {X : Cx} (hu : X.A.units + 64 < cLine) : OpR X (compareOp .NotEq) (rNeU X.K) := op_ne.or (op_neD hu)
def rIsN : R2 := fun x y H Q => y = .non ∧ Q (.bl (decide (x = .non))) H
def rNotN : R2 := fun x y H Q => y = .non ∧ Q (.bl (!decide (x = .non))) H
theorem op_isN1 {X : Cx} : OpR X (compareOp .Is) rIsN := op_isN
theorem op_notN1 {X : Cx} : OpR X (compareOp .IsNot) rNotN := op_notN
def rLen (K : PySem.W.Frag) : List V → Hp → VK → Prop := fun xs H Q => ∃ x n, xs = [x] ∧ LenV K x H n ∧ Q (.int (n : Nat)) H
theorem call_len1 {X : Cx} : CallR X (.builtin "len") (rLen X.K) := call_len
def rMax : List V → Hp → VK → Prop := fun xs H Q => ∃ i j, xs = [.int i, .int j] ∧ Q (.int (if j > i then j else i)) H
def rMin : List V → Hp → VK → Prop := fun xs H Q => ∃ i j, xs = [.int i, .int j] ∧ Q (.int (if j < i then j else i)) H
theorem call_max1 {X : Cx} (hc : X.calm = true) : CallR X (.builtin "max") rMax := call_max2 hc
theorem call_min1 {X : Cx} (hc : X.calm = true) : CallR X (.builtin "min") rMin := call_min2 hc
def rListOf (K : PySem.W.Frag) : List V → Hp → VK → Prop := fun xs H Q => ∃ p ys, xs = [.ref p] ∧ (SqL K H p ys ∨ SqT K H p ys) ∧ ∀ l, H l = none → Q (.ref l) (upd H l (.lst ys))
theorem call_list1 {X : Cx} : CallR X (.type "list") (rListOf X.K) := call_list_of
def rInt1 : List V → Hp → VK → Prop := fun xs H Q => (∃ i, xs = [.int i] ∧ Q (.int i) H) ∨ ∃ k, xs = [.bl k] ∧ Q (.int (if k then 1 else 0)) H
theorem call_int2 {X : Cx} : CallR X (.type "int") rInt1 := call_int1
def rStr1 : List V → Hp → VK → Prop := fun xs H Q => ∃ i, xs = [.int i] ∧ i.natAbs.log2 < 1920 ∧ Q (.str (toString i)) H
theorem call_str1 {X : Cx} : CallR X (.type "str") rStr1 := call_str_int
def rSlU (K : PySem.W.Frag) : V → Option Int → Option Int → Hp → VK → Prop := fun x lo hi H Q => rSlL K x lo hi H Q ∨ rSlS x lo hi H Q
theorem sl_U {X : Cx} : SlR X (rSlU X.K) := by
  intro pins s σ H x v vl vu lo hi sl Q I rx hs pl pu h
  rcases h with h | h
  · exact sl_list pins s σ H x v vl vu lo hi sl Q I rx hs pl pu h
  · exact sl_str pins s σ H x v vl vu lo hi sl Q I rx hs pl pu h

/-! ### steps: expressions -/
section
variable {K : PySem.W.Frag} {σ : St} {H : Hp} {Q : VK} {QT : Bool → Hp → Prop} {QA : List V → Hp → Prop} {v x y : V} {ta tb tc te : TE} {t u : TT} {r r' : R2}
theorem w_c (q : Q v H) : tC v σ H Q := q
theorem w_op (q : ta σ H fun x H1 => tb σ H1 fun y H2 => r x y H2 Q) : tOp r ta tb σ H Q := q
theorem w_un {r : V → Hp → VK → Prop} (q : ta σ H fun x H1 => r x H1 Q) : tUn r ta σ H Q := q
theorem w_neg {i : Int} (q : Q (.int (-i)) H) : rU (fun i => .int (-i)) (.int i) H Q := ⟨i, rfl, q⟩
theorem w_test (q : te σ H fun x H' => ∃ k, x = .bl k ∧ QT k H') : tTest te σ H QT := q
theorem w_tB (q : te σ H fun x H' => ∃ k, x = .bl k ∧ QT k H') : tB te σ H QT := q
theorem w_bl {b : Bool} {P : Bool → Prop} (q : P b) : ∃ k, V.bl b = .bl k ∧ P k := ⟨b, rfl, q⟩
theorem w_chain (q : ta σ H fun x H1 => tb σ H1 fun y H2 => r x y H2 fun z H3 => ∃ k, z = .bl k ∧ (if k = true then tc σ H3 fun w' H4 => r' y w' H4 Q else Q (.bl false) H3)) : tChain r r' ta tb tc σ H Q := q
theorem w_and (q : t σ H fun c H1 => if c = true then u σ H1 QT else QT false H1) : tAnd t u σ H QT := q
theorem w_or (q : t σ H fun c H1 => if c = true then QT true H1 else u σ H1 QT) : tOr t u σ H QT := q
theorem w_not (q : t σ H fun c H1 => QT (!c) H1) : tNot t σ H QT := q
theorem w_andV (q : ta σ H fun x H1 => ∃ c, x = .bl c ∧ if c = true then tb σ H1 Q else Q (.bl false) H1) : tAndV ta tb σ H Q := q
theorem w_orV (q : ta σ H fun x H1 => ∃ c, x = .bl c ∧ if c = true then Q (.bl true) H1 else tb σ H1 Q) : tOrV ta tb σ H Q := q
theorem w_notV (q : ta σ H fun x H1 => ∃ c, x = .bl c ∧ Q (.bl (!c)) H1) : tNotV ta σ H Q := q
theorem w_nil (q : QA [] H) : tNil σ H QA := q
theorem w_cons {tr : TA} (q : ta σ H fun x H1 => tr σ H1 fun xs H2 => QA (x :: xs) H2) : tCons ta tr σ H QA := q
theorem w_tup {tt : TA} (q : tt σ H fun xs H1 => xs.length ≤ sizeLine ∧ ∀ p, H1 p = none → Q (.ref p) (upd H1 p (.tup xs))) : tTup tt σ H Q := q
theorem w_lst {tt : TA} (q : tt σ H fun xs H1 => xs.length ≤ sizeLine ∧ ∀ p, H1 p = none → Q (.ref p) (upd H1 p (.lst xs))) : tLst tt σ H Q := q
theorem w_CB {r : List V → Hp → VK → Prop} {tt : TA} (q : tt σ H fun vs H1 => r vs H1 Q) : tCB r tt σ H Q := q
theorem w_call {sp : Sp} {E : XK} {tt : TA} (q : tt σ H fun vs H1 => sp vs H1 Q E) : tCall sp [] E tt σ H Q := by
  unfold tCall
  have e : (fun (vs : List V) (H1 : Hp) => sp (vs ++ []) H1 Q E) = fun vs H1 => sp vs H1 Q E := by funext vs H1; rw [List.append_nil]
  rw [e]
  exact q
theorem w_meth {C : Addr} {m : Str} {sp : Sp} {E : XK} {tt : TA} (q : ta σ H fun x H1 => ∃ a dx fs, x = .ref a ∧ H1 a = some (.ins C dx fs) ∧ fs.lookup m = none ∧ tt σ H1 fun vs H2 => sp (x :: vs) H2 Q E) : tMeth C m sp [] E ta tt σ H Q := by
  unfold tMeth
  have e : ∀ x : V, (fun (vs : List V) (H1 : Hp) => sp (x :: (vs ++ [])) H1 Q E) = fun vs H1 => sp (x :: vs) H1 Q E := fun x => by funext vs H1; rw [List.append_nil]
  simp only [e]
  exact q
theorem w_methAt {C a dx : Addr} {fs : List (Str × V)} {m : Str} {P : Prop} (h : H a = some (.ins C dx fs)) (hl : fs.lookup m = none) (q : P) : ∃ b dx fs, V.ref a = .ref b ∧ H b = some (.ins C dx fs) ∧ fs.lookup m = none ∧ P := ⟨a, dx, fs, rfl, h, hl, q⟩
theorem w_make {C : Addr} {sp : Sp} {E : XK} {tt : TA} (q : tt σ H fun vs H1 => ∀ x dx, H1 x = none → H1 dx = none → dx ≠ x → sp (.ref x :: vs) (upd (upd H1 dx (.own x)) x (.ins C dx [])) (fun v H2 => v = .non ∧ Q (.ref x) H2) E) : tMake C sp [] E tt σ H Q := by
  unfold tMake
  have e : ∀ vs : List V, vs ++ [] = vs := fun vs => List.append_nil vs
  simp only [e]
  exact q
theorem w_callS {sp : Sp} {E : St → XK} {tt : TA} (q : tt σ H fun vs H1 => sp vs H1 Q (E σ)) : tCallS sp E tt σ H Q := q
theorem w_fld {f : Str} (q : ta σ H fun x H1 => ∃ a C dx fs v, x = .ref a ∧ H1 a = some (.ins C dx fs) ∧ Cls K C ∧ NoAttr K C f ∧ fs.lookup f = some v ∧ Q v H1) : tFld K ta f σ H Q := q
theorem w_fldAt {a C dx : Addr} {fs : List (Str × V)} {f : Str} {P : V → Prop} (h : H a = some (.ins C dx fs)) (hc : Cls K C) (hn : NoAttr K C f) (hl : fs.lookup f = some v) (q : P v) : ∃ b C dx fs v, V.ref a = .ref b ∧ H b = some (.ins C dx fs) ∧ Cls K C ∧ NoAttr K C f ∧ fs.lookup f = some v ∧ P v := ⟨a, C, dx, fs, v, rfl, h, hc, hn, hl, q⟩
theorem w_bm0 {T : String} {r : V → List V → Hp → VK → Prop} (q : ta σ H fun x H1 => tyV K T x H1 ∧ r x [] H1 Q) : tBM0 K T r ta σ H Q := q
theorem w_bm {T : String} {r : V → List V → Hp → VK → Prop} {tt : TA} (q : ta σ H fun x H1 => tyV K T x H1 ∧ tt σ H1 fun xs H2 => r x xs H2 Q) : tBM K T r ta tt σ H Q := q
theorem w_tyL {a : Addr} {xs : List V} (h : SqL K H a xs) : tyV K "list" (.ref a) H := Or.inl ⟨rfl, xs, h⟩
theorem w_sl {r : V → Option Int → Option Int → Hp → VK → Prop} {tl th : TO} (q : ta σ H fun x H1 => tl σ H1 fun l H2 => th σ H2 fun u H3 => r x l u H3 Q) : tSl r ta tl th σ H Q := q

/-! values -/
theorem w_addI {i j : Int} (q : Q (.int (i + j)) H) : rAddU (.int i) (.int j) H Q := .inl ⟨i, j, rfl, rfl, q⟩
theorem w_addS {i j : Str} (h : i.length + j.length ≤ sizeLine) (q : Q (.str (i ++ j)) H) : rAddU (.str i) (.str j) H Q := .inr (.inl ⟨i, j, rfl, rfl, h, q⟩)
theorem w_addL {a b : Addr} {xs ys : List V} (ha : H a = some (.lst xs)) (hb : H b = some (.lst ys)) (h : xs.length + ys.length ≤ sizeLine) (q : ∀ p, H p = none → Q (.ref p) (upd H p (.lst (xs ++ ys)))) : rAddU (.ref a) (.ref b) H Q := .inr (.inr ⟨a, b, xs, ys, rfl, rfl, ha, hb, h, q⟩)
theorem w_sub {i j : Int} (q : Q (.int (i - j)) H) : rSubI (.int i) (.int j) H Q := ⟨i, j, rfl, rfl, q⟩
theorem w_mul {i j : Int} (h : CMul i j) (q : Q (.int (i * j)) H) : rMul (.int i) (.int j) H Q := ⟨i, j, rfl, rfl, h, q⟩
theorem w_div {i j : Int} (h : 0 < j) (h' : j < 1073741824) (q : Q (.int (i / j)) H) : rDiv (.int i) (.int j) H Q := ⟨i, j, rfl, rfl, ⟨h, h'⟩, q⟩
theorem w_mod {i j : Int} (h : 0 < j) (q : Q (.int (i % j)) H) : rMod (.int i) (.int j) H Q := ⟨i, j, rfl, rfl, h, q⟩
theorem w_pow {i j : Int} (h : CPow i j) (q : Q (.int (i ^ j.toNat)) H) : rPow (.int i) (.int j) H Q := ⟨i, j, rfl, rfl, h, q⟩
theorem w_lt {i j : Int} (q : Q (.bl (decide (i < j))) H) : rLt (.int i) (.int j) H Q := ⟨i, j, rfl, rfl, q⟩
theorem w_le {i j : Int} (q : Q (.bl (decide (i ≤ j))) H) : rLe (.int i) (.int j) H Q := ⟨i, j, rfl, rfl, q⟩
theorem w_gt {i j : Int} (q : Q (.bl (decide (j < i))) H) : rGt (.int i) (.int j) H Q := ⟨i, j, rfl, rfl, q⟩
theorem w_ge {i j : Int} (q : Q (.bl (decide (j ≤ i))) H) : rGe (.int i) (.int j) H Q := ⟨i, j, rfl, rfl, q⟩
theorem dec_ii {i j : Int} : decide (V.int i = V.int j) = decide (i = j) := by rw [decide_eq_decide]; exact ⟨fun h => V.int.inj h, fun h => h ▸ rfl⟩
theorem dec_ss {i j : Str} : decide (V.str i = V.str j) = decide (i = j) := by rw [decide_eq_decide]; exact ⟨fun h => V.str.inj h, fun h => h ▸ rfl⟩
theorem w_eqI {i j : Int} (q : Q (.bl (decide (i = j))) H) : rEqU K (.int i) (.int j) H Q := .inl ⟨rfl, by rw [dec_ii]; exact q⟩
theorem w_neI {i j : Int} (q : Q (.bl (!decide (i = j))) H) : rNeU K (.int i) (.int j) H Q := .inl ⟨rfl, by rw [dec_ii]; exact q⟩
theorem w_eqS {i j : Str} (q : Q (.bl (decide (i = j))) H) : rEqU K (.str i) (.str j) H Q := .inl ⟨rfl, by rw [dec_ss]; exact q⟩
theorem w_neS {i j : Str} (q : Q (.bl (!decide (i = j))) H) : rNeU K (.str i) (.str j) H Q := .inl ⟨rfl, by rw [dec_ss]; exact q⟩
theorem w_eqD {d e : PyData} (hx : Dp K H x d) (hy : Dp K H y e) (hd : SeqAt.shaped d = true) (he : SeqAt.shaped e = true) (q : Q (.bl (PyData.eqv d e)) H) : rEqU K x y H Q := .inr ⟨d, e, hx, hy, hd, he, q⟩
theorem w_neD {d e : PyData} (hx : Dp K H x d) (hy : Dp K H y e) (hd : SeqAt.shaped d = true) (he : SeqAt.shaped e = true) (q : Q (.bl (!PyData.eqv d e)) H) : rNeU K x y H Q := .inr ⟨d, e, hx, hy, hd, he, q⟩
theorem w_isN (q : Q (.bl (decide (x = .non))) H) : rIsN x .non H Q := ⟨rfl, q⟩
theorem w_notN (q : Q (.bl (!decide (x = .non))) H) : rNotN x .non H Q := ⟨rfl, q⟩
theorem w_lenL {a : Addr} {xs : List V} (h : SqL K H a xs) (q : Q (.int (xs.length : Nat)) H) : rLen K [.ref a] H Q := ⟨.ref a, xs.length, rfl, Or.inl ⟨xs, h, rfl⟩, q⟩
theorem w_lenT {a : Addr} {xs : List V} (h : SqT K H a xs) (q : Q (.int (xs.length : Nat)) H) : rLen K [.ref a] H Q := ⟨.ref a, xs.length, rfl, Or.inr ⟨xs, h, rfl⟩, q⟩
theorem w_lenS {z : Str} (h : z.length ≤ sizeLine) (q : Q (.int (z.length : Nat)) H) : rLen K [.str z] H Q := ⟨.str z, z.length, rfl, ⟨h, rfl⟩, q⟩
theorem w_max {i j : Int} (q : Q (.int (if j > i then j else i)) H) : rMax [.int i, .int j] H Q := ⟨i, j, rfl, q⟩
theorem w_min {i j : Int} (q : Q (.int (if j < i then j else i)) H) : rMin [.int i, .int j] H Q := ⟨i, j, rfl, q⟩
theorem w_intI {i : Int} (q : Q (.int i) H) : rInt1 [.int i] H Q := .inl ⟨i, rfl, q⟩
theorem w_intB {k : Bool} (q : Q (.int (if k then 1 else 0)) H) : rInt1 [.bl k] H Q := .inr ⟨k, rfl, q⟩
theorem w_str {i : Int} (h : i.natAbs.log2 < 1920) (q : Q (.str (toString i)) H) : rStr1 [.int i] H Q := ⟨i, rfl, h, q⟩
theorem w_listL {a : Addr} {xs : List V} (h : SqL K H a xs) (q : ∀ l, H l = none → Q (.ref l) (upd H l (.lst xs))) : rListOf K [.ref a] H Q := ⟨a, xs, rfl, .inl h, q⟩
theorem w_ixL {a : Addr} {xs : List V} {i : Int} (h : SqL K H a xs) (ha : atI xs i = some v) (q : Q v H) : rIx K (.ref a) (.int i) H Q := .inl ⟨a, xs, i, v, rfl, rfl, h, ha, q⟩
theorem w_ixT {a : Addr} {xs : List V} {i : Int} (h : SqT K H a xs) (ha : atI xs i = some v) (q : Q v H) : rIx K (.ref a) (.int i) H Q := .inr (.inl ⟨a, xs, i, v, rfl, rfl, h, ha, q⟩)
theorem w_ixS {z : Str} {i : Int} {c : Nat} (hz : z.length ≤ sizeLine) (ha : atI z.cps.toList i = some c) (q : Q (.str ⟨#[c]⟩) H) : rIx K (.str z) (.int i) H Q := .inr (.inr ⟨z, i, c, rfl, rfl, hz, ha, q⟩)
theorem atI_lt {α : Type} {xs : List α} {i : Int} (h0 : 0 ≤ i) (h1 : i < xs.length) : ∃ v, v ∈ xs ∧ atI xs i = some v := by
  have hj : i.toNat < xs.length := by omega
  have e : i = (i.toNat : Int) := by omega
  refine ⟨xs[i.toNat], List.getElem_mem hj, ?_⟩
  have z := atI_nat (List.getElem?_eq_getElem hj)
  rw [← e] at z
  exact z
/-- an item of a menu: any of them -/
theorem w_ixAny {a : Addr} {xs : List V} {i : Int} (h : SqL K H a xs) (h0 : 0 ≤ i) (h1 : i < xs.length) (q : ∀ v, v ∈ xs → Q v H) : rIx K (.ref a) (.int i) H Q := by
  obtain ⟨v, hv, e⟩ := atI_lt h0 h1
  exact w_ixL h e (q v hv)
theorem w_slL {a : Addr} {xs : List V} {lo hi : Option Int} (h : SqL K H a xs) (q : ∀ p, H p = none → Q (.ref p) (upd H p (.lst (cutV xs lo hi)))) : rSlU K (.ref a) lo hi H Q := .inl ⟨a, xs, rfl, h, q⟩
theorem w_slS {z : Str} {lo hi : Option Int} (h : z.length ≤ sizeLine) (q : Q (.str (cutS z lo hi)) H) : rSlU K (.str z) lo hi H Q := .inr ⟨z, rfl, h, q⟩
theorem w_app {l : Addr} {xs : List V} (h : H l = some (.lst xs)) (hz : xs.length < sizeLine) (q : Q .non (upd H l (.lst (xs ++ [y])))) : rAppend (.ref l) [y] H Q := ⟨l, xs, y, rfl, rfl, h, hz, q⟩
theorem w_pop {l : Addr} {xs : List V} (h : H l = some (.lst xs)) (hz : xs[xs.length - 1]? = some y) (q : Q y (upd H l (.lst xs.dropLast))) : rPop (.ref l) [] H Q := ⟨l, xs, y, rfl, rfl, h, hz, q⟩
theorem isi_ty {n m : String} {b : Bool} (ty : TyX K H x (.type n)) (h : kitB n m = some b) (q : Q (.bl b) H) : rIsi K [x, .ty m] H Q := ⟨x, .ty m, .type n, .type m, b, rfl, .ty m, ty, kit_ty h, q⟩
end
/-! tests -/
theorem ite_d {p A B : Prop} [Decidable p] (h1 : p → A) (h2 : ¬ p → B) : if decide p = true then A else B := by
  by_cases h : p
  · rw [if_pos (decide_eq_true h)]; exact h1 h
  · rw [if_neg (by rw [decide_eq_false h]; exact Bool.false_ne_true)]; exact h2 h
theorem ite_nd {p A B : Prop} [Decidable p] (h1 : ¬ p → A) (h2 : p → B) : if (!decide p) = true then A else B := by
  by_cases h : p
  · rw [if_neg (by rw [decide_eq_true h]; decide)]; exact h2 h
  · rw [if_pos (by rw [decide_eq_false h]; rfl)]; exact h1 h
theorem ite_b {b : Bool} {A B : Prop} (h1 : b = true → A) (h2 : b = false → B) : if b = true then A else B := by
  cases b with
  | true => rw [if_pos rfl]; exact h1 rfl
  | false => rw [if_neg Bool.false_ne_true]; exact h2 rfl
theorem ite_nb {b : Bool} {A B : Prop} (h1 : b = false → A) (h2 : b = true → B) : if (!b) = true then A else B := by
  cases b with
  | false => exact h1 rfl
  | true => exact h2 rfl

/-! ### steps: statements -/
section
variable {K : PySem.W.Frag} {σ : St} {H : Hp} {t u : TS} {te : TE} {c : TT} {g : TG} {nx bk ct : St → Hp → Prop} {rt : VK}
theorem w_seq (q : t ⟨fun σ' H' => u ⟨nx, rt, bk, ct⟩ σ' H', rt, bk, ct⟩ σ H) : tSeq t u ⟨nx, rt, bk, ct⟩ σ H := q
theorem w_next (q : nx σ H) : tNext ⟨nx, rt, bk, ct⟩ σ H := q
theorem w_break (q : bk σ H) : tBreak ⟨nx, rt, bk, ct⟩ σ H := q
theorem w_cont (q : ct σ H) : tCont ⟨nx, rt, bk, ct⟩ σ H := q
theorem w_asg (q : te σ H fun x H1 => g x σ H1 nx) : tAsg te g ⟨nx, rt, bk, ct⟩ σ H := q
theorem w_ret (q : te σ H rt) : tRet te ⟨nx, rt, bk, ct⟩ σ H := q
theorem w_retN (q : rt .non H) : tRetN ⟨nx, rt, bk, ct⟩ σ H := q
theorem w_drop (q : te σ H fun _ H1 => nx σ H1) : tDrop te ⟨nx, rt, bk, ct⟩ σ H := q
theorem w_if (q : c σ H fun b H1 => if b = true then t ⟨nx, rt, bk, ct⟩ σ H1 else u ⟨nx, rt, bk, ct⟩ σ H1) : tIfS c t u ⟨nx, rt, bk, ct⟩ σ H := q
theorem w_cut {Mid : St → Hp → Prop} (h : t ⟨Mid, rt, bk, ct⟩ σ H) (k : ∀ σ' H', Mid σ' H' → u ⟨nx, rt, bk, ct⟩ σ' H') : Evl.tCut t u ⟨nx, rt, bk, ct⟩ σ H := ⟨Mid, h, k⟩
theorem w_sfld {ta tv : TE} {f : Str} (q : tv σ H fun y H1 => ta σ H1 fun x H2 => ∃ a C dx fs, x = .ref a ∧ H2 a = some (.ins C dx fs) ∧ Cls K C ∧ NoAttr K C f ∧ fs.length < 1000 ∧ nx σ (upd H2 a (.ins C dx (putF f y fs)))) : sFld K ta tv f ⟨nx, rt, bk, ct⟩ σ H := q
theorem w_sfldAt {a C dx : Addr} {fs : List (Str × V)} {f : Str} {R : Addr → Addr → Addr → List (Str × V) → Prop} (h : H a = some (.ins C dx fs)) (hc : Cls K C) (hn : NoAttr K C f) (hl : fs.length < 1000) (q : R a C dx fs) : ∃ b C dx fs, V.ref a = .ref b ∧ H b = some (.ins C dx fs) ∧ Cls K C ∧ NoAttr K C f ∧ fs.length < 1000 ∧ R b C dx fs := ⟨a, C, dx, fs, rfl, h, hc, hn, hl, q⟩
theorem w_gSub {to ti : TE} {ts : TSet} {v : V} {R : St → Hp → Prop} (q : to σ H fun o H1 => ti σ H1 fun i H2 => ts o i v H2 fun H3 => R σ H3) : gSub to ti ts v σ H R := q
theorem w_gTup {n : Nat} {tg : TGs} {a : Addr} {xs : List V} {R : St → Hp → Prop} (h : SqT K H a xs) (hl : xs.length = n) (q : tg xs σ H R) : gTup K n tg (.ref a) σ H R := ⟨a, xs, rfl, h, hl, q⟩
theorem w_gCons {tg : TG} {us : TGs} {v : V} {r : List V} {R : St → Hp → Prop} (q : tg v σ H fun σ' H' => us r σ' H' R) : gCons tg us (v :: r) σ H R := ⟨v, r, rfl, q⟩
theorem w_gNil {R : St → Hp → Prop} (q : R σ H) : gNil [] σ H R := ⟨rfl, q⟩
/-- a loop's word: what a for asks behind its iterator -/
def LB (g : TG) (t : TS) (nx : St → Hp → Prop) (rt : VK) (σ : St) (J : It) (H1 : Hp) : Prop := ∃ W : Nat → Nat → St → Hp → Prop, (∃ m, W 0 m σ H1) ∧ ∀ i m σ H, W i m σ H →
  (J.stop i H ∧ nx σ H) ∨ (J.go i H ∧ ∃ N : St → Hp → Prop, (∀ σ' H', N σ' H' → ∃ m', m' < m ∧ W (i + 1) m' σ' H') ∧ ∀ x H', J.yld i H x H' → g x σ H' fun σ2 H2 => t ⟨N, rt, nx, N⟩ σ2 H2)
theorem w_for {wi : TI} (q : wi σ H fun J H1 => LB g t nx rt σ J H1) : tFor wi g t ⟨nx, rt, bk, ct⟩ σ H := q
theorem w_iR1 {ta : TA} {R : It → Hp → Prop} (q : ta σ H fun vs H1 => ∃ j : Int, vs = [.int j] ∧ -(2 ^ 62) ≤ j ∧ j < 2 ^ 62 ∧ R (Itr 0 j.toNat) H1) : iRng1 ta σ H R := q
theorem w_iR1v {n : Int} {R : It → Hp → Prop} (h1 : -(2 ^ 62) ≤ n) (h2 : n < 2 ^ 62) (q : R (Itr 0 n.toNat) H) : ∃ j : Int, [V.int n] = [.int j] ∧ -(2 ^ 62) ≤ j ∧ j < 2 ^ 62 ∧ R (Itr 0 j.toNat) H := ⟨n, rfl, h1, h2, q⟩
theorem w_iR2 {ta : TA} {R : It → Hp → Prop} (q : ta σ H fun vs H1 => ∃ i j : Int, vs = [.int i, .int j] ∧ (-(2 ^ 62) ≤ i ∧ i < 2 ^ 62 ∧ -(2 ^ 62) ≤ j ∧ j < 2 ^ 62) ∧ R (Itr i (j - i).toNat) H1) : iRng2 ta σ H R := q
theorem w_iR2v {a b : Int} {R : It → Hp → Prop} (h : -(2 ^ 62) ≤ a ∧ a < 2 ^ 62 ∧ -(2 ^ 62) ≤ b ∧ b < 2 ^ 62) (q : R (Itr a (b - a).toNat) H) : ∃ i j : Int, [V.int a, V.int b] = [.int i, .int j] ∧ (-(2 ^ 62) ≤ i ∧ i < 2 ^ 62 ∧ -(2 ^ 62) ≤ j ∧ j < 2 ^ 62) ∧ R (Itr i (j - i).toNat) H := ⟨a, b, rfl, h, q⟩
theorem w_iR3 {ta : TA} {R : It → Hp → Prop} (q : ta σ H fun vs H1 => ∃ (i j c : Int) (n : Nat), vs = [.int i, .int j, .int c] ∧ RgC i j c n ∧ R (Itc i c n) H1) : iRng3 ta σ H R := q
theorem w_iR3v {a b : Int} {R : It → Hp → Prop} (h : -(2 ^ 62) ≤ a ∧ a < 2 ^ 62 ∧ -(2 ^ 62) ≤ b ∧ b < 2 ^ 62) (q : R (Itc a (-1) (a - b).toNat) H) : ∃ (i j c : Int) (n : Nat), [V.int a, V.int b, V.int (-1)] = [.int i, .int j, .int c] ∧ RgC i j c n ∧ R (Itc i c n) H :=
  ⟨a, b, -1, _, rfl, RgC.neg h.1 h.2.1 h.2.2.1 h.2.2.2, q⟩
theorem w_iL {ta : TE} {R : It → Hp → Prop} (q : ta σ H fun x H1 => ∃ a, x = .ref a ∧ (∃ xs, SqL K H1 a xs) ∧ R (Itl K a) H1) : iList K ta σ H R := q
theorem w_iLv {a : Addr} {xs : List V} {R : It → Hp → Prop} (h : SqL K H a xs) (q : R (Itl K a) H) : ∃ b, V.ref a = .ref b ∧ (∃ xs, SqL K H b xs) ∧ R (Itl K b) H := ⟨a, rfl, ⟨xs, h⟩, q⟩
theorem lb_range {lo : Int} {n : Nat} (Pv : Nat → St → Hp → Prop) (h0 : Pv 0 σ H) (hs : ∀ (i : Nat) σ H, i < n → Pv i σ H → g (.int (lo + i)) σ H fun σ2 H2 => t ⟨Pv (i + 1), rt, nx, Pv (i + 1)⟩ σ2 H2) (hd : ∀ σ H, Pv n σ H → nx σ H) :
    LB g t nx rt σ (Itr lo n) H := for_range (D := ⟨nx, rt, fun _ _ => False, fun _ _ => False⟩) (lo := lo) (n := n) Pv h0 hs hd
theorem lb_range0 {n : Nat} (Pv : Nat → St → Hp → Prop) (h0 : Pv 0 σ H) (hs : ∀ (i : Nat) σ H, i < n → Pv i σ H → g (.int (i : Int)) σ H fun σ2 H2 => t ⟨Pv (i + 1), rt, nx, Pv (i + 1)⟩ σ2 H2) (hd : ∀ σ H, Pv n σ H → nx σ H) :
    LB g t nx rt σ (Itr 0 n) H := lb_range Pv h0 (fun i σ H hi p => by rw [Int.zero_add]; exact hs i σ H hi p) hd
theorem lb_rangeC {lo c : Int} {n : Nat} (Pv : Nat → St → Hp → Prop) (h0 : Pv 0 σ H) (hs : ∀ (i : Nat) σ H, i < n → Pv i σ H → g (.int (lo + (i : Nat) * c)) σ H fun σ2 H2 => t ⟨Pv (i + 1), rt, nx, Pv (i + 1)⟩ σ2 H2) (hd : ∀ σ H, Pv n σ H → nx σ H) :
    LB g t nx rt σ (Itc lo c n) H := for_rangeC (D := ⟨nx, rt, fun _ _ => False, fun _ _ => False⟩) (lo := lo) (c := c) (n := n) Pv h0 hs hd
theorem lb_list {a : Addr} {xs : List V} (Pv : Nat → St → Hp → Prop) (h0 : Pv 0 σ H) (hl : ∀ i σ H, i ≤ xs.length → Pv i σ H → SqL K H a xs) (hs : ∀ i x σ H, xs[i]? = some x → Pv i σ H → g x σ H fun σ2 H2 => t ⟨Pv (i + 1), rt, nx, Pv (i + 1)⟩ σ2 H2)
    (hd : ∀ σ H, Pv xs.length σ H → nx σ H) : LB g t nx rt σ (Itl K a) H := for_list (K := K) (a := a) (xs := xs) (D := ⟨nx, rt, fun _ _ => False, fun _ _ => False⟩) Pv h0 hl hs hd
theorem w_while {c : TT} {tb : TS} (Pv : St → Hp → Prop) (μ : St → Hp → Nat) (h0 : Pv σ H)
    (hs : ∀ σ H, Pv σ H → c σ H fun b H1 => if b = true then ∃ N : St → Hp → Prop, (∀ σ' H', N σ' H' → ∃ m', m' < μ σ H ∧ (m' = μ σ' H' ∧ Pv σ' H')) ∧ tb ⟨N, rt, nx, N⟩ σ H1 else nx σ H1) : tWhile c tb ⟨nx, rt, bk, ct⟩ σ H :=
  ⟨fun m σ H => m = μ σ H ∧ Pv σ H, ⟨_, rfl, h0⟩, fun m σ H h => by
    obtain ⟨e, p⟩ := h
    subst e
    exact hs σ H p⟩
theorem w_wN {tb : TS} {Pv : St → Hp → Prop} {μ : St → Hp → Nat} {m : Nat} (q : tb ⟨fun σ' H' => Pv σ' H' ∧ μ σ' H' < m, rt, nx, fun σ' H' => Pv σ' H' ∧ μ σ' H' < m⟩ σ H) :
    ∃ N : St → Hp → Prop, (∀ σ' H', N σ' H' → ∃ m', m' < m ∧ (m' = μ σ' H' ∧ Pv σ' H')) ∧ tb ⟨N, rt, nx, N⟩ σ H := ⟨_, fun _ _ h => ⟨_, h.2, rfl, h.1⟩, q⟩
end
end Ts
namespace Ts
open PySem L2
section
variable {H : Hp} {Q : VK} {R : St → Hp → Prop} {v a : V}
theorem w_v0 {s : St} (q : Q v H) : tVar 0 (some v :: s) H Q := ⟨v, rfl, q⟩
theorem w_n0 {b : Option V} {s : St} (q : R (some v :: s) H) : gName 0 v (b :: s) H R := q
theorem w_v1 {a0 : Option V} {s : St} (q : Q v H) : tVar 1 (a0 :: some v :: s) H Q := ⟨v, rfl, q⟩
theorem w_n1 {a0 : Option V} {b : Option V} {s : St} (q : R (a0 :: some v :: s) H) : gName 1 v (a0 :: b :: s) H R := q
theorem w_v2 {a0 a1 : Option V} {s : St} (q : Q v H) : tVar 2 (a0 :: a1 :: some v :: s) H Q := ⟨v, rfl, q⟩
theorem w_n2 {a0 a1 : Option V} {b : Option V} {s : St} (q : R (a0 :: a1 :: some v :: s) H) : gName 2 v (a0 :: a1 :: b :: s) H R := q
theorem w_v3 {a0 a1 a2 : Option V} {s : St} (q : Q v H) : tVar 3 (a0 :: a1 :: a2 :: some v :: s) H Q := ⟨v, rfl, q⟩
theorem w_n3 {a0 a1 a2 : Option V} {b : Option V} {s : St} (q : R (a0 :: a1 :: a2 :: some v :: s) H) : gName 3 v (a0 :: a1 :: a2 :: b :: s) H R := q
theorem w_v4 {a0 a1 a2 a3 : Option V} {s : St} (q : Q v H) : tVar 4 (a0 :: a1 :: a2 :: a3 :: some v :: s) H Q := ⟨v, rfl, q⟩
theorem w_n4 {a0 a1 a2 a3 : Option V} {b : Option V} {s : St} (q : R (a0 :: a1 :: a2 :: a3 :: some v :: s) H) : gName 4 v (a0 :: a1 :: a2 :: a3 :: b :: s) H R := q
theorem w_v5 {a0 a1 a2 a3 a4 : Option V} {s : St} (q : Q v H) : tVar 5 (a0 :: a1 :: a2 :: a3 :: a4 :: some v :: s) H Q := ⟨v, rfl, q⟩
theorem w_n5 {a0 a1 a2 a3 a4 : Option V} {b : Option V} {s : St} (q : R (a0 :: a1 :: a2 :: a3 :: a4 :: some v :: s) H) : gName 5 v (a0 :: a1 :: a2 :: a3 :: a4 :: b :: s) H R := q
theorem w_v6 {a0 a1 a2 a3 a4 a5 : Option V} {s : St} (q : Q v H) : tVar 6 (a0 :: a1 :: a2 :: a3 :: a4 :: a5 :: some v :: s) H Q := ⟨v, rfl, q⟩
theorem w_n6 {a0 a1 a2 a3 a4 a5 : Option V} {b : Option V} {s : St} (q : R (a0 :: a1 :: a2 :: a3 :: a4 :: a5 :: some v :: s) H) : gName 6 v (a0 :: a1 :: a2 :: a3 :: a4 :: a5 :: b :: s) H R := q
theorem w_v7 {a0 a1 a2 a3 a4 a5 a6 : Option V} {s : St} (q : Q v H) : tVar 7 (a0 :: a1 :: a2 :: a3 :: a4 :: a5 :: a6 :: some v :: s) H Q := ⟨v, rfl, q⟩
theorem w_n7 {a0 a1 a2 a3 a4 a5 a6 : Option V} {b : Option V} {s : St} (q : R (a0 :: a1 :: a2 :: a3 :: a4 :: a5 :: a6 :: some v :: s) H) : gName 7 v (a0 :: a1 :: a2 :: a3 :: a4 :: a5 :: a6 :: b :: s) H R := q
theorem w_v8 {a0 a1 a2 a3 a4 a5 a6 a7 : Option V} {s : St} (q : Q v H) : tVar 8 (a0 :: a1 :: a2 :: a3 :: a4 :: a5 :: a6 :: a7 :: some v :: s) H Q := ⟨v, rfl, q⟩
theorem w_n8 {a0 a1 a2 a3 a4 a5 a6 a7 : Option V} {b : Option V} {s : St} (q : R (a0 :: a1 :: a2 :: a3 :: a4 :: a5 :: a6 :: a7 :: some v :: s) H) : gName 8 v (a0 :: a1 :: a2 :: a3 :: a4 :: a5 :: a6 :: a7 :: b :: s) H R := q
theorem w_v9 {a0 a1 a2 a3 a4 a5 a6 a7 a8 : Option V} {s : St} (q : Q v H) : tVar 9 (a0 :: a1 :: a2 :: a3 :: a4 :: a5 :: a6 :: a7 :: a8 :: some v :: s) H Q := ⟨v, rfl, q⟩
theorem w_n9 {a0 a1 a2 a3 a4 a5 a6 a7 a8 : Option V} {b : Option V} {s : St} (q : R (a0 :: a1 :: a2 :: a3 :: a4 :: a5 :: a6 :: a7 :: a8 :: some v :: s) H) : gName 9 v (a0 :: a1 :: a2 :: a3 :: a4 :: a5 :: a6 :: a7 :: a8 :: b :: s) H R := q
theorem w_v10 {a0 a1 a2 a3 a4 a5 a6 a7 a8 a9 : Option V} {s : St} (q : Q v H) : tVar 10 (a0 :: a1 :: a2 :: a3 :: a4 :: a5 :: a6 :: a7 :: a8 :: a9 :: some v :: s) H Q := ⟨v, rfl, q⟩
theorem w_n10 {a0 a1 a2 a3 a4 a5 a6 a7 a8 a9 : Option V} {b : Option V} {s : St} (q : R (a0 :: a1 :: a2 :: a3 :: a4 :: a5 :: a6 :: a7 :: a8 :: a9 :: some v :: s) H) : gName 10 v (a0 :: a1 :: a2 :: a3 :: a4 :: a5 :: a6 :: a7 :: a8 :: a9 :: b :: s) H R := q
theorem w_v11 {a0 a1 a2 a3 a4 a5 a6 a7 a8 a9 a10 : Option V} {s : St} (q : Q v H) : tVar 11 (a0 :: a1 :: a2 :: a3 :: a4 :: a5 :: a6 :: a7 :: a8 :: a9 :: a10 :: some v :: s) H Q := ⟨v, rfl, q⟩
theorem w_n11 {a0 a1 a2 a3 a4 a5 a6 a7 a8 a9 a10 : Option V} {b : Option V} {s : St} (q : R (a0 :: a1 :: a2 :: a3 :: a4 :: a5 :: a6 :: a7 :: a8 :: a9 :: a10 :: some v :: s) H) : gName 11 v (a0 :: a1 :: a2 :: a3 :: a4 :: a5 :: a6 :: a7 :: a8 :: a9 :: a10 :: b :: s) H R := q
theorem w_v12 {a0 a1 a2 a3 a4 a5 a6 a7 a8 a9 a10 a11 : Option V} {s : St} (q : Q v H) : tVar 12 (a0 :: a1 :: a2 :: a3 :: a4 :: a5 :: a6 :: a7 :: a8 :: a9 :: a10 :: a11 :: some v :: s) H Q := ⟨v, rfl, q⟩
theorem w_n12 {a0 a1 a2 a3 a4 a5 a6 a7 a8 a9 a10 a11 : Option V} {b : Option V} {s : St} (q : R (a0 :: a1 :: a2 :: a3 :: a4 :: a5 :: a6 :: a7 :: a8 :: a9 :: a10 :: a11 :: some v :: s) H) : gName 12 v (a0 :: a1 :: a2 :: a3 :: a4 :: a5 :: a6 :: a7 :: a8 :: a9 :: a10 :: a11 :: b :: s) H R := q
theorem w_v13 {a0 a1 a2 a3 a4 a5 a6 a7 a8 a9 a10 a11 a12 : Option V} {s : St} (q : Q v H) : tVar 13 (a0 :: a1 :: a2 :: a3 :: a4 :: a5 :: a6 :: a7 :: a8 :: a9 :: a10 :: a11 :: a12 :: some v :: s) H Q := ⟨v, rfl, q⟩
theorem w_n13 {a0 a1 a2 a3 a4 a5 a6 a7 a8 a9 a10 a11 a12 : Option V} {b : Option V} {s : St} (q : R (a0 :: a1 :: a2 :: a3 :: a4 :: a5 :: a6 :: a7 :: a8 :: a9 :: a10 :: a11 :: a12 :: some v :: s) H) : gName 13 v (a0 :: a1 :: a2 :: a3 :: a4 :: a5 :: a6 :: a7 :: a8 :: a9 :: a10 :: a11 :: a12 :: b :: s) H R := q
theorem w_v14 {a0 a1 a2 a3 a4 a5 a6 a7 a8 a9 a10 a11 a12 a13 : Option V} {s : St} (q : Q v H) : tVar 14 (a0 :: a1 :: a2 :: a3 :: a4 :: a5 :: a6 :: a7 :: a8 :: a9 :: a10 :: a11 :: a12 :: a13 :: some v :: s) H Q := ⟨v, rfl, q⟩
theorem w_n14 {a0 a1 a2 a3 a4 a5 a6 a7 a8 a9 a10 a11 a12 a13 : Option V} {b : Option V} {s : St} (q : R (a0 :: a1 :: a2 :: a3 :: a4 :: a5 :: a6 :: a7 :: a8 :: a9 :: a10 :: a11 :: a12 :: a13 :: some v :: s) H) : gName 14 v (a0 :: a1 :: a2 :: a3 :: a4 :: a5 :: a6 :: a7 :: a8 :: a9 :: a10 :: a11 :: a12 :: a13 :: b :: s) H R := q
theorem w_v15 {a0 a1 a2 a3 a4 a5 a6 a7 a8 a9 a10 a11 a12 a13 a14 : Option V} {s : St} (q : Q v H) : tVar 15 (a0 :: a1 :: a2 :: a3 :: a4 :: a5 :: a6 :: a7 :: a8 :: a9 :: a10 :: a11 :: a12 :: a13 :: a14 :: some v :: s) H Q := ⟨v, rfl, q⟩
theorem w_n15 {a0 a1 a2 a3 a4 a5 a6 a7 a8 a9 a10 a11 a12 a13 a14 : Option V} {b : Option V} {s : St} (q : R (a0 :: a1 :: a2 :: a3 :: a4 :: a5 :: a6 :: a7 :: a8 :: a9 :: a10 :: a11 :: a12 :: a13 :: a14 :: some v :: s) H) : gName 15 v (a0 :: a1 :: a2 :: a3 :: a4 :: a5 :: a6 :: a7 :: a8 :: a9 :: a10 :: a11 :: a12 :: a13 :: a14 :: b :: s) H R := q
theorem w_v16 {a0 a1 a2 a3 a4 a5 a6 a7 a8 a9 a10 a11 a12 a13 a14 a15 : Option V} {s : St} (q : Q v H) : tVar 16 (a0 :: a1 :: a2 :: a3 :: a4 :: a5 :: a6 :: a7 :: a8 :: a9 :: a10 :: a11 :: a12 :: a13 :: a14 :: a15 :: some v :: s) H Q := ⟨v, rfl, q⟩
theorem w_n16 {a0 a1 a2 a3 a4 a5 a6 a7 a8 a9 a10 a11 a12 a13 a14 a15 : Option V} {b : Option V} {s : St} (q : R (a0 :: a1 :: a2 :: a3 :: a4 :: a5 :: a6 :: a7 :: a8 :: a9 :: a10 :: a11 :: a12 :: a13 :: a14 :: a15 :: some v :: s) H) : gName 16 v (a0 :: a1 :: a2 :: a3 :: a4 :: a5 :: a6 :: a7 :: a8 :: a9 :: a10 :: a11 :: a12 :: a13 :: a14 :: a15 :: b :: s) H R := q
theorem w_v17 {a0 a1 a2 a3 a4 a5 a6 a7 a8 a9 a10 a11 a12 a13 a14 a15 a16 : Option V} {s : St} (q : Q v H) : tVar 17 (a0 :: a1 :: a2 :: a3 :: a4 :: a5 :: a6 :: a7 :: a8 :: a9 :: a10 :: a11 :: a12 :: a13 :: a14 :: a15 :: a16 :: some v :: s) H Q := ⟨v, rfl, q⟩
theorem w_n17 {a0 a1 a2 a3 a4 a5 a6 a7 a8 a9 a10 a11 a12 a13 a14 a15 a16 : Option V} {b : Option V} {s : St} (q : R (a0 :: a1 :: a2 :: a3 :: a4 :: a5 :: a6 :: a7 :: a8 :: a9 :: a10 :: a11 :: a12 :: a13 :: a14 :: a15 :: a16 :: some v :: s) H) : gName 17 v (a0 :: a1 :: a2 :: a3 :: a4 :: a5 :: a6 :: a7 :: a8 :: a9 :: a10 :: a11 :: a12 :: a13 :: a14 :: a15 :: a16 :: b :: s) H R := q
theorem w_v18 {a0 a1 a2 a3 a4 a5 a6 a7 a8 a9 a10 a11 a12 a13 a14 a15 a16 a17 : Option V} {s : St} (q : Q v H) : tVar 18 (a0 :: a1 :: a2 :: a3 :: a4 :: a5 :: a6 :: a7 :: a8 :: a9 :: a10 :: a11 :: a12 :: a13 :: a14 :: a15 :: a16 :: a17 :: some v :: s) H Q := ⟨v, rfl, q⟩
theorem w_n18 {a0 a1 a2 a3 a4 a5 a6 a7 a8 a9 a10 a11 a12 a13 a14 a15 a16 a17 : Option V} {b : Option V} {s : St} (q : R (a0 :: a1 :: a2 :: a3 :: a4 :: a5 :: a6 :: a7 :: a8 :: a9 :: a10 :: a11 :: a12 :: a13 :: a14 :: a15 :: a16 :: a17 :: some v :: s) H) : gName 18 v (a0 :: a1 :: a2 :: a3 :: a4 :: a5 :: a6 :: a7 :: a8 :: a9 :: a10 :: a11 :: a12 :: a13 :: a14 :: a15 :: a16 :: a17 :: b :: s) H R := q
theorem w_v19 {a0 a1 a2 a3 a4 a5 a6 a7 a8 a9 a10 a11 a12 a13 a14 a15 a16 a17 a18 : Option V} {s : St} (q : Q v H) : tVar 19 (a0 :: a1 :: a2 :: a3 :: a4 :: a5 :: a6 :: a7 :: a8 :: a9 :: a10 :: a11 :: a12 :: a13 :: a14 :: a15 :: a16 :: a17 :: a18 :: some v :: s) H Q := ⟨v, rfl, q⟩
theorem w_n19 {a0 a1 a2 a3 a4 a5 a6 a7 a8 a9 a10 a11 a12 a13 a14 a15 a16 a17 a18 : Option V} {b : Option V} {s : St} (q : R (a0 :: a1 :: a2 :: a3 :: a4 :: a5 :: a6 :: a7 :: a8 :: a9 :: a10 :: a11 :: a12 :: a13 :: a14 :: a15 :: a16 :: a17 :: a18 :: some v :: s) H) : gName 19 v (a0 :: a1 :: a2 :: a3 :: a4 :: a5 :: a6 :: a7 :: a8 :: a9 :: a10 :: a11 :: a12 :: a13 :: a14 :: a15 :: a16 :: a17 :: a18 :: b :: s) H R := q
end
end Ts
namespace Ts
open PySem PySem.Spec PyProof.Rows L2
/-! ### defs, methods, classes by their names -/
structure FunG (K : PySem.W.Frag) (mg : Str → Option Value) (x : Str) (st : Stmt) (ps : List Str) : Prop where
  ex : ∃ f fd, Fun K x x st f fd ∧ mg x = some (.ref f) ∧ Binds K fd ps []
structure MetG (K : PySem.W.Frag) (C : Addr) (m qual : Str) (st : Stmt) (ps : List Str) : Prop where
  ex : ∃ f fd, Fun K m qual st f fd ∧ Meth K C m f ∧ Binds K fd ps []
structure IniG (K : PySem.W.Frag) (mg : Str → Option Value) (C : Addr) (x qual : Str) (st : Stmt) (ps : List Str) : Prop where
  ex : ∃ f fd, Fun K "__init__" qual st f fd ∧ Mk K C f ∧ mg x = some (.ref C) ∧ Binds K fd ps []
structure FnG (P : Program) (w : World) (K : PySem.W.Frag) (mg : Str → Option Value) (base : Heap) (k : Nat) (x : Str) (ps : List Str) (sp : Sp) : Prop where
  ex : ∃ f fd, FnOk P w K mg base (L2.CX P w) k f fd ps sp ∧ mg x = some (.ref f) ∧ PySem.W.keepIn K (.ref f) = true ∧ Binds K fd ps []
structure MtG (P : Program) (w : World) (K : PySem.W.Frag) (mg : Str → Option Value) (base : Heap) (k : Nat) (C : Addr) (m : Str) (ps : List Str) (sp : Sp) : Prop where
  ex : ∃ f fd, FnOk P w K mg base (L2.CX P w) k f fd ps sp ∧ Meth K C m f ∧ Binds K fd ps []
structure MkG (P : Program) (w : World) (K : PySem.W.Frag) (mg : Str → Option Value) (base : Heap) (k : Nat) (C : Addr) (x : Str) (ps : List Str) (sp : Sp) : Prop where
  ex : ∃ f fd, FnOk P w K mg base (L2.CX P w) k f fd ps sp ∧ Mk K C f ∧ mg x = some (.ref C) ∧ Binds K fd ps []
section
variable {P : Program} {w : World} {K : PySem.W.Frag} {mg : Str → Option Value} {base : Heap} {x m qual : Str} {st : Stmt} {C : Addr} {ps N : List Str} {k : Nat} {sp sp' : Sp}
/-- what a def's body must show -/
abbrev BodyOk (P : Program) (w : World) (K : PySem.W.Frag) (mg : Str → Option Value) (base : Heap) (N : List Str) (qual : Str) (st : Stmt) (k : Nat) (sp : Sp) : Prop :=
  ∀ (f : Addr) (cdv : Value) (A : Around) (outer : List Env) (s : Shared) (H : Hp) (vs : List V) (Q : VK) (E : XK), Room k (A.deeper (envOfC qual (defScope st) s.heap.objs.size f cdv)) → sp vs H Q E →
      ∃ t, PSs (cxOf (L2.CX P w) P w K mg base N qual (defScope st) f cdv A outer s H E) (defBody st) t ∧ t ⟨fun _ H' => Q .non H', Q, fun _ _ => False, fun _ _ => False⟩ (start N vs) H
theorem FunG.ok (F : FunG K mg x st ps) (S : FnScope N ps (defScope st)) (len : ∀ vs H Q E, sp vs H Q E → vs.length = ps.length) (hb : BodyOk P w K mg base N x st k sp) : FnG P w K mg base (k + 1) x ps sp := by
  obtain ⟨f, fd, F, g, b⟩ := F.ex
  exact ⟨f, fd, F.okX S len (hb f), g, F.kp, b⟩
theorem MetG.ok (F : MetG K C m qual st ps) (S : FnScope N ps (defScope st)) (len : ∀ vs H Q E, sp vs H Q E → vs.length = ps.length) (hb : BodyOk P w K mg base N qual st k sp) : MtG P w K mg base (k + 1) C m ps sp := by
  obtain ⟨f, fd, F, g, b⟩ := F.ex
  exact ⟨f, fd, F.okX S len (hb f), g, b⟩
theorem IniG.ok (F : IniG K mg C x qual st ps) (S : FnScope N ps (defScope st)) (len : ∀ vs H Q E, sp vs H Q E → vs.length = ps.length) (hb : BodyOk P w K mg base N qual st k sp) : MkG P w K mg base (k + 1) C x ps sp := by
  obtain ⟨f, fd, F, g, h, b⟩ := F.ex
  exact ⟨f, fd, F.okX S len (hb f), g, h, b⟩
theorem FnG.mono {j : Nat} (F : FnG P w K mg base j x ps sp) (h : j ≤ k) : FnG P w K mg base k x ps sp := let ⟨f, fd, a, b, c, d⟩ := F.ex; ⟨f, fd, a.mono h, b, c, d⟩
theorem FnG.imp (F : FnG P w K mg base k x ps sp) (h : ∀ vs H Q E, sp' vs H Q E → sp vs H Q E) : FnG P w K mg base k x ps sp' := let ⟨f, fd, a, b, c, d⟩ := F.ex; ⟨f, fd, a.imp h, b, c, d⟩
theorem MtG.mono {j : Nat} (F : MtG P w K mg base j C m ps sp) (h : j ≤ k) : MtG P w K mg base k C m ps sp := let ⟨f, fd, a, b, c⟩ := F.ex; ⟨f, fd, a.mono h, b, c⟩
theorem MtG.imp (F : MtG P w K mg base k C m ps sp) (h : ∀ vs H Q E, sp' vs H Q E → sp vs H Q E) : MtG P w K mg base k C m ps sp' := let ⟨f, fd, a, b, c⟩ := F.ex; ⟨f, fd, a.imp h, b, c⟩
end
section
variable {X : Cx} {k : Nat} {C : Addr} {ps : List Str} {sp : Sp} {E : XK} {ES : L2.St → XK} {x m : Str} {p pos apos : Pos} {e o : Expr} {es : List Expr} {ta : TE} {t : TA}
theorem passE (tk : Takes X (fun cls d _ H => E cls d H)) : Passes (L2.CX X.prog X.w) X E := passes_call tk fun _ _ _ _ h => h
theorem pe_callG (G : FnG X.prog X.w X.K X.mg X.base k x ps sp) (hr : Room k X.A) (hx : Passes (L2.CX X.prog X.w) X E) (ha : PA X (e :: es) t) (hg : Gl X x := by rfl)
    (hdb : (x == ("__debug__" : Str)) = false := by decide) (he : starEach (e :: es) X.env = (false, eval e X.env) :: starEach es X.env := by rfl) (hpl : (backTo pos (starEach es X.env)).any (·.1) = false := by rfl) :
    PE X (.Call (.Name x p) (e :: es) [] pos) (tCall sp [] E t) := by
  obtain ⟨f, fd, F, g, kp, b⟩ := G.ex
  exact pe_call F hr hg g kp b .nil hx ha hdb he hpl
theorem pe_callGS (G : FnG X.prog X.w X.K X.mg X.base k x ps sp) (hr : Room k X.A) (hx : ∀ σ, PassesAt (L2.CX X.prog X.w) X σ (ES σ)) (ha : PA X (e :: es) t) (hg : Gl X x := by rfl)
    (hdb : (x == ("__debug__" : Str)) = false := by decide) (he : starEach (e :: es) X.env = (false, eval e X.env) :: starEach es X.env := by rfl) (hpl : (backTo pos (starEach es X.env)).any (·.1) = false := by rfl) :
    PE X (.Call (.Name x p) (e :: es) [] pos) (tCallS sp ES t) := by
  obtain ⟨f, fd, F, g, kp, b⟩ := G.ex
  exact pe_callS F hr hg g kp b hx ha hdb he hpl
theorem pe_methG {pl : Sem Bool} (he : PE X o ta) (c : Cls X.K C) (G : MtG X.prog X.w X.K X.mg X.base k C m ps sp) (hr : Room k X.A) (hx : Passes (L2.CX X.prog X.w) X E) (ha : PA X (e :: es) t)
    (hst : starEach (e :: es) X.env = (false, eval e X.env) :: starEach es X.env := by rfl) (hpl : (backTo pos (starEach es X.env)).any (·.1) = false := by rfl)
    (ht : eval (.Call (.Attribute o m apos) (e :: es) [] pos) X.env = (do
      let ov ← eval o X.env
      standAt apos.atName
      let (f, first) ← holding [ov] (getMethod ov m pl)
      callWith pos f first (backTo pos (starEach (e :: es) X.env)) (backToKw pos (keywordEach [] X.env))) := by rfl) :
    PE X (.Call (.Attribute o m apos) (e :: es) [] pos) (tMeth C m sp [] E ta t) := by
  obtain ⟨f, fd, F, g, b⟩ := G.ex
  exact pe_meth he c g F hr b .nil hx ha hst hpl ht
theorem pe_methG0 {pl : Sem Bool} (he : PE X o ta) (c : Cls X.K C) (G : MtG X.prog X.w X.K X.mg X.base k C m ps sp) (hr : Room k X.A) (hx : Passes (L2.CX X.prog X.w) X E)
    (ht : eval (.Call (.Attribute o m apos) [] [] pos) X.env = (do
      let ov ← eval o X.env
      standAt apos.atName
      let (f, first) ← holding [ov] (getMethod ov m pl)
      callWith pos f first (backTo pos (starEach [] X.env)) (backToKw pos (keywordEach [] X.env))) := by rfl) :
    PE X (.Call (.Attribute o m apos) [] [] pos) (tMeth C m sp [] E ta tNil) := by
  obtain ⟨f, fd, F, g, b⟩ := G.ex
  exact pe_meth0 he c g F hr b .nil hx ht
/-- the same within a try's body: what is raised is wished for at the slots -/
def tMethS (C : Addr) (m : Str) (sp : Sp) (ES : L2.St → XK) (ta : TE) (t : TA) : TE := fun σ H Q => ta σ H fun x H1 => ∃ a dx fs, x = .ref a ∧ H1 a = some (.ins C dx fs) ∧ fs.lookup m = none ∧ t σ H1 fun vs H2 => sp (x :: vs) H2 Q (ES σ)
theorem pe_methGS {pl : Sem Bool} (he : PE X o ta) (c : Cls X.K C) (G : MtG X.prog X.w X.K X.mg X.base k C m ps sp) (hr : Room k X.A) (hx : ∀ σ, PassesAt (L2.CX X.prog X.w) X σ (ES σ)) (ha : PA X (e :: es) t)
    (hst : starEach (e :: es) X.env = (false, eval e X.env) :: starEach es X.env := by rfl) (hpl : (backTo pos (starEach es X.env)).any (·.1) = false := by rfl)
    (ht : eval (.Call (.Attribute o m apos) (e :: es) [] pos) X.env = (do
      let ov ← eval o X.env
      standAt apos.atName
      let (f, first) ← holding [ov] (getMethod ov m pl)
      callWith pos f first (backTo pos (starEach (e :: es) X.env)) (backToKw pos (keywordEach [] X.env))) := by rfl) :
    PE X (.Call (.Attribute o m apos) (e :: es) [] pos) (tMethS C m sp ES ta t) := by
  obtain ⟨f, fd, F, hm, b⟩ := G.ex
  refine ⟨fun pins s σ H Q I h => ?_⟩
  refine PySem.W.methodCall_KW (pl := pl) (thn (he.run pins s σ H _ I h) fun u s1 ⟨x, H1, I1, rx, a, dx, fs, ex, ea, l, q⟩ => ?_) ht
  subst ex
  obtain rfl : u = Value.ref a := rx
  refine getmeth_ok I1 ea c hm l ?_
  refine PySem.W.callWith_K (first := [.ref a]) (h₀ := X.base) I.ok.mod.kin hm.kp (thn (ha.run pos pins s1 σ H1 _ I1 q) fun us s2 ⟨vs, H2, I2, r, q2⟩ => ⟨I2.kIn, ?_⟩) hst hpl
  exact run_fnS (us := .ref a :: us) (vs := .ref a :: vs) F hr b (hx σ) I2 (.cons rfl r) q2
theorem pe_methG0S {pl : Sem Bool} (he : PE X o ta) (c : Cls X.K C) (G : MtG X.prog X.w X.K X.mg X.base k C m ps sp) (hr : Room k X.A) (hx : ∀ σ, PassesAt (L2.CX X.prog X.w) X σ (ES σ))
    (ht : eval (.Call (.Attribute o m apos) [] [] pos) X.env = (do
      let ov ← eval o X.env
      standAt apos.atName
      let (f, first) ← holding [ov] (getMethod ov m pl)
      callWith pos f first (backTo pos (starEach [] X.env)) (backToKw pos (keywordEach [] X.env))) := by rfl) :
    PE X (.Call (.Attribute o m apos) [] [] pos) (tMethS C m sp ES ta tNil) := by
  obtain ⟨f, fd, F, hm, b⟩ := G.ex
  refine ⟨fun pins s σ H Q I h => ?_⟩
  refine PySem.W.methodCall_KW (pl := pl) (thn (he.run pins s σ H _ I h) fun u s1 ⟨x, H1, I1, rx, a, dx, fs, ex, ea, l, q⟩ => ?_) ht
  subst ex
  obtain rfl : u = Value.ref a := rx
  refine getmeth_ok I1 ea c hm l ?_
  exact PySem.W.callWith_K0 (first := [.ref a]) I1.kIn hm.kp (run_fnS (us := [.ref a]) (vs := [.ref a]) F hr b (hx σ) I1 (.cons rfl .nil) q)
theorem w_methS {σ : L2.St} {H : Hp} {Q : VK} (q : ta σ H fun x H1 => ∃ a dx fs, x = .ref a ∧ H1 a = some (.ins C dx fs) ∧ fs.lookup m = none ∧ t σ H1 fun vs H2 => sp (x :: vs) H2 Q (ES σ)) : tMethS C m sp ES ta t σ H Q := q
theorem pe_makeG (G : MkG X.prog X.w X.K X.mg X.base k C x ps sp) (hr : Room (k + 1) X.A) (hx : Passes (L2.CX X.prog X.w) X E) (ha : PA X (e :: es) t) (hg : Gl X x := by rfl)
    (hdb : (x == ("__debug__" : Str)) = false := by decide) (he : starEach (e :: es) X.env = (false, eval e X.env) :: starEach es X.env := by rfl) (hpl : (backTo pos (starEach es X.env)).any (·.1) = false := by rfl) :
    PE X (.Call (.Name x p) (e :: es) [] pos) (tMake C sp [] E t) := by
  obtain ⟨f, fd, F, M, g, b⟩ := G.ex
  exact pe_make M F hr hg g b .nil hx ha hdb he hpl
theorem pe_makeG0 (G : MkG X.prog X.w X.K X.mg X.base k C x ps sp) (hr : Room (k + 1) X.A) (hx : Passes (L2.CX X.prog X.w) X E) (hg : Gl X x := by rfl)
    (hdb : (x == ("__debug__" : Str)) = false := by decide) : PE X (.Call (.Name x p) [] [] pos) (tMake C sp [] E tNil) := by
  obtain ⟨f, fd, F, M, g, b⟩ := G.ex
  exact pe_make0 M F hr hg g b .nil hx hdb
/-- an own exception class over ValueError without __init__ -/
structure ExcT (K : PySem.W.Frag) (mg : Str → Option Value) (x : Str) (C : Addr) : Prop where
  g : mg x = some (.ref C)
  xP : PySem.W.excIn K C [.type "ValueError", .type "Exception", .type "BaseException", .type "object"] "ValueError.__new__" = true
  kP : PySem.W.keepIn K (.ref C) = true
  bP : PySem.W.subIn K (.ref C) (.type "BaseException") = some true
  tP : PySem.W.typeIn K (.ref C) = some (.type "type")
/-- raise X('..') -/
def tRaiseX (C : Addr) (W : WX) : TS := fun _ σ H => W (.ref C) none σ H
theorem ps_raiseG {W : WX} {y : Str} {j : Nat} {p2 pos2 : Pos} (T : ExcT X.K X.mg x C) (hc : X.calm = true) (tk : Takes X W) (hg : Gl X x := by rfl) (hdb : (x == ("__debug__" : Str)) = false := by decide) :
    PS X (.Raise (some (.Call (.Name x p) [.Constant (.str y) j p2] [] pos)) none pos2) (tRaiseX C W) := ps_raise hc tk (pmk_own PySem.F.excBase_ValueError T.xP T.g T.kP (raises_own T.bP T.tP) hg hdb)
theorem w_raise {W : WX} {D : Ends} {σ : L2.St} {H : Hp} (q : W (.ref C) none σ H) : tRaiseX C W D σ H := q
end
end Ts
namespace Ts
open PySem L2
/-! ### data: what a value means, as data of one kind -/
structure Enc (α : Type) [DecidableEq α] where
  enc : α → PyData
  ok : α → Prop
  lay : ∀ x, ok x → (enc x).canLay0 = true
  dep : Nat
  hdep : ∀ x, (enc x).depth ≤ dep
  eq : ∀ x y, PyData.eqv (enc x) (enc y) = decide (x = y)
section
variable {α β γ : Type} [DecidableEq α] [DecidableEq β] [DecidableEq γ]
theorem Enc.shaped (e : Enc α) (h : e.dep ≤ 64) (x : α) (o : e.ok x) : SeqAt.shaped (e.enc x) = true := by
  unfold SeqAt.shaped
  rw [e.lay x o, Bool.true_and]
  exact decide_eq_true (Nat.le_trans (e.hdep x) h)
theorem eInt_eq (x y : Int) : PyData.eqv (.int x) (.int y) = decide (x = y) := by rw [PyData.eqv]; exact Bool.beq_eq_decide_eq x y
def eInt : Enc Int := ⟨.int, fun _ => True, fun _ _ => rfl, 0, fun _ => Nat.le_refl _, eInt_eq⟩
def eNat : Enc Nat := ⟨fun n => .int n, fun _ => True, fun _ _ => rfl, 0, fun _ => Nat.le_refl _, fun x y => by
  rw [eInt_eq, decide_eq_decide]; omega⟩
def eStr : Enc Str := ⟨.str, fun x => PyData.strOk x = true, fun x h => by simpa [PyData.canLay0] using h, 0, fun _ => by simp [PyData.depth], fun x y => by rw [PyData.eqv, Bool.eq_iff_iff]; simp⟩
def eBool : Enc Bool := ⟨.bool, fun _ => True, fun _ _ => rfl, 0, fun _ => Nat.le_refl _, fun x y => by rw [PyData.eqv]; exact Bool.beq_eq_decide_eq x y⟩
theorem all_lay (e : Enc α) : ∀ xs : List α, (∀ x ∈ xs, e.ok x) → PyData.canLayAll0 (xs.map e.enc) = true
  | [], _ => rfl
  | x :: xs, h => by
    show PyData.canLayAll0 (e.enc x :: xs.map e.enc) = true
    unfold PyData.canLayAll0
    rw [e.lay x (h x List.mem_cons_self), all_lay e xs fun y hy => h y (List.mem_cons_of_mem _ hy)]
    rfl
theorem all_dep (e : Enc α) : ∀ xs : List α, PyData.depthAll (xs.map e.enc) ≤ e.dep
  | [] => Nat.zero_le _
  | x :: xs => by
    show PyData.depthAll (e.enc x :: xs.map e.enc) ≤ e.dep
    unfold PyData.depthAll
    exact Nat.max_le.mpr ⟨e.hdep x, all_dep e xs⟩
theorem all_eq (e : Enc α) : ∀ xs ys : List α, PyData.eqvAll (xs.map e.enc) (ys.map e.enc) = decide (xs = ys)
  | [], [] => rfl
  | [], y :: ys => rfl
  | x :: xs, [] => rfl
  | x :: xs, y :: ys => by
    show PyData.eqvAll (e.enc x :: xs.map e.enc) (e.enc y :: ys.map e.enc) = _
    rw [PyData.eqvAll, e.eq, all_eq e xs ys]
    by_cases h : x = y
    · by_cases h2 : xs = ys
      · simp [h, h2]
      · simp [h, h2]
    · simp [h]
def eList (e : Enc α) : Enc (List α) := ⟨fun xs => .list (xs.map e.enc), fun xs => ∀ x ∈ xs, e.ok x, fun xs h => by unfold PyData.canLay0; exact all_lay e xs h, e.dep + 1, fun xs => by
  unfold PyData.depth
  have := all_dep e xs
  omega, fun xs ys => by rw [PyData.eqv]; exact all_eq e xs ys⟩
def eTup2 (e : Enc α) (f : Enc β) : Enc (α × β) := ⟨fun p => .tuple [e.enc p.1, f.enc p.2], fun p => e.ok p.1 ∧ f.ok p.2, fun p h => by simp [PyData.canLay0, PyData.canLayAll0, e.lay _ h.1, f.lay _ h.2], max e.dep f.dep + 1, fun p => by
  have h1 := e.hdep p.1
  have h2 := f.hdep p.2
  simp only [PyData.depth, PyData.depthAll]
  omega, fun p r => by
  obtain ⟨a, b⟩ := p
  obtain ⟨c, d⟩ := r
  simp only [PyData.eqv, PyData.eqvAll, e.eq, f.eq, Bool.and_true, Prod.mk.injEq]
  by_cases h : a = c
  · by_cases h2 : b = d
    · simp [h, h2]
    · simp [h, h2]
  · simp [h]⟩
def eTup3 (e : Enc α) (f : Enc β) (g : Enc γ) : Enc (α × β × γ) := ⟨fun p => .tuple [e.enc p.1, f.enc p.2.1, g.enc p.2.2], fun p => e.ok p.1 ∧ f.ok p.2.1 ∧ g.ok p.2.2, fun p h => by simp [PyData.canLay0, PyData.canLayAll0, e.lay _ h.1, f.lay _ h.2.1, g.lay _ h.2.2], max e.dep (max f.dep g.dep) + 1, fun p => by
  have h1 := e.hdep p.1
  have h2 := f.hdep p.2.1
  have h3 := g.hdep p.2.2
  simp only [PyData.depth, PyData.depthAll]
  omega, fun p r => by
  obtain ⟨a, b, x⟩ := p
  obtain ⟨c, d, y⟩ := r
  simp only [PyData.eqv, PyData.eqvAll, e.eq, f.eq, g.eq, Bool.and_true, Prod.mk.injEq]
  by_cases h : a = c
  · by_cases h2 : b = d
    · by_cases h3 : x = y
      · simp [h, h2, h3]
      · simp [h, h2, h3]
    · simp [h, h2]
  · simp [h]⟩
end
/-! ### what is read stays read -/
section
variable {K : PySem.W.Frag} {H H' : Hp}
mutual
theorem dp_mono (e : Ex H H') : ∀ {v : V} {d : PyData}, Dp K H v d → Dp K H' v d
  | _, _, .non => .non
  | _, _, .bl b => .bl b
  | _, _, .int i => .int i
  | _, _, .str x => .str x
  | _, _, .lst h a => .lst (Evl.ex_l e h) (dpAll_mono e a)
  | _, _, .tup h a => .tup (Evl.ex_t e h) (dpAll_mono e a)
theorem dpAll_mono (e : Ex H H') : ∀ {vs : List V} {ds : List PyData}, DpAll K H vs ds → DpAll K H' vs ds
  | _, _, .nil => .nil
  | _, _, .cons h t => .cons (dp_mono e h) (dpAll_mono e t)
end
theorem dpAll_len : ∀ {vs : List V} {ds : List PyData}, DpAll K H vs ds → vs.length = ds.length
  | _, _, .nil => rfl
  | _, _, .cons _ t => by rw [List.length_cons, List.length_cons, dpAll_len t]
theorem dpAll_snoc {v : V} {d : PyData} : ∀ {vs : List V} {ds : List PyData}, DpAll K H vs ds → Dp K H v d → DpAll K H (vs ++ [v]) (ds ++ [d])
  | _, _, .nil, h => .cons h .nil
  | _, _, .cons a t, h => .cons a (dpAll_snoc t h)
theorem dpAll_append : ∀ {vs ws : List V} {ds es : List PyData}, DpAll K H vs ds → DpAll K H ws es → DpAll K H (vs ++ ws) (ds ++ es)
  | _, _, _, _, .nil, h => h
  | _, _, _, _, .cons a t, h => .cons a (dpAll_append t h)
theorem dpAll_get : ∀ {vs : List V} {ds : List PyData} {i : Nat} {v : V}, DpAll K H vs ds → vs[i]? = some v → ∃ d, ds[i]? = some d ∧ Dp K H v d
  | _, _, i, v, .nil, e => by simp at e
  | _, _, 0, v, .cons h t, e => by simp at e; subst e; exact ⟨_, rfl, h⟩
  | _, _, i + 1, v, .cons h t, e => by
    obtain ⟨d, h1, h2⟩ := dpAll_get (i := i) (v := v) t (by simpa using e)
    exact ⟨d, by simpa using h1, h2⟩
theorem dpAll_get' : ∀ {vs : List V} {ds : List PyData} {i : Nat} {d : PyData}, DpAll K H vs ds → ds[i]? = some d → ∃ v, vs[i]? = some v ∧ Dp K H v d
  | _, _, i, v, .nil, e => by simp at e
  | _, _, 0, v, .cons h t, e => by simp at e; subst e; exact ⟨_, rfl, h⟩
  | _, _, i + 1, v, .cons h t, e => by
    obtain ⟨d, h1, h2⟩ := dpAll_get' (i := i) (d := v) t (by simpa using e)
    exact ⟨d, by simpa using h1, h2⟩
theorem dpAll_set {v : V} {d : PyData} : ∀ {vs : List V} {ds : List PyData} (i : Nat), DpAll K H vs ds → Dp K H v d → DpAll K H (vs.set i v) (ds.set i d)
  | _, _, _, .nil, _ => .nil
  | _, _, 0, .cons _ t, h => .cons h t
  | _, _, i + 1, .cons a t, h => .cons a (dpAll_set i t h)
theorem dpAll_take : ∀ {vs : List V} {ds : List PyData} (i : Nat), DpAll K H vs ds → DpAll K H (vs.take i) (ds.take i)
  | _, _, 0, _ => .nil
  | _, _, _ + 1, .nil => .nil
  | _, _, i + 1, .cons a t => .cons a (dpAll_take i t)
theorem dpAll_drop : ∀ {vs : List V} {ds : List PyData} (i : Nat), DpAll K H vs ds → DpAll K H (vs.drop i) (ds.drop i)
  | _, _, 0, h => h
  | _, _, _ + 1, .nil => .nil
  | _, _, i + 1, .cons _ t => dpAll_drop i t
/-- texts are their own data -/
theorem dpAll_strs : ∀ (xs : List Str), DpAll K H (xs.map V.str) (xs.map PyData.str)
  | [] => .nil
  | x :: xs => .cons (.str x) (dpAll_strs xs)
theorem dpAll_ints : ∀ (xs : List Int), DpAll K H (xs.map V.int) (xs.map PyData.int)
  | [] => .nil
  | x :: xs => .cons (.int x) (dpAll_ints xs)
theorem dp_tup2 {v : V} {d e : PyData} (h : Dp K H v (.tuple [d, e])) : ∃ a x y, v = .ref a ∧ SqT K H a [x, y] ∧ Dp K H x d ∧ Dp K H y e := by
  cases h with
  | tup hs ha =>
    cases ha with
    | cons h1 t =>
      cases t with
      | cons h2 t =>
        cases t
        exact ⟨_, _, _, rfl, hs, h1, h2⟩
theorem dp_tup3 {v : V} {d e f : PyData} (h : Dp K H v (.tuple [d, e, f])) : ∃ a x y z, v = .ref a ∧ SqT K H a [x, y, z] ∧ Dp K H x d ∧ Dp K H y e ∧ Dp K H z f := by
  cases h with
  | tup hs ha =>
    cases ha with
    | cons h1 t =>
      cases t with
      | cons h2 t =>
        cases t with
        | cons h3 t =>
          cases t
          exact ⟨_, _, _, _, rfl, hs, h1, h2, h3⟩
theorem dp_int {v : V} {i : Int} (h : Dp K H v (.int i)) : v = .int i := by cases h; rfl
theorem dp_str {v : V} {i : Str} (h : Dp K H v (.str i)) : v = .str i := by cases h; rfl
theorem dp_bool {v : V} {i : Bool} (h : Dp K H v (.bool i)) : v = .bl i := by cases h; rfl
/-- a list of data of one kind at v -/
theorem dp_list {v : V} {ds : List PyData} (h : Dp K H v (.list ds)) : ∃ a xs, v = .ref a ∧ SqL K H a xs ∧ DpAll K H xs ds := by
  cases h with
  | lst hs ha => exact ⟨_, _, rfl, hs, ha⟩
theorem sqt_ex {a : Addr} {xs : List V} (e : Ex H H') (h : SqT K H a xs) : SqT K H' a xs := Evl.ex_t e h
theorem sql_ex {a : Addr} {xs : List V} (e : Ex H H') (h : SqL K H a xs) : SqL K H' a xs := Evl.ex_l e h
theorem sql {a : Addr} {xs : List V} (h : H a = some (.lst xs)) : SqL K H a xs := SqL.of h
theorem sqt {a : Addr} {xs : List V} (h : H a = some (.tup xs)) : SqT K H a xs := SqT.of h
theorem ty_sql {a : Addr} {xs : List V} (h : SqL K H a xs) : TyX K H (.ref a) (.type "list") := by
  rcases h with (h | ⟨o, h⟩) | ⟨o, its, n, h, c, _⟩
  · exact .base (.lst h)
  · exact .base (.frz h)
  · exact .kList h c
theorem ty_sqt {a : Addr} {xs : List V} (h : SqT K H a xs) : TyX K H (.ref a) (.type "tuple") := by
  rcases h with (h | ⟨o, h⟩) | ⟨o, its, n, h, c, _⟩
  · exact .base (.tup h)
  · exact .fTuple h
  · exact .kTuple h c
theorem tyL {a : Addr} {xs : List V} (h : H a = some (.lst xs)) : TyX K H (.ref a) (.type "list") := .base (.lst h)
theorem tyT {a : Addr} {xs : List V} (h : H a = some (.tup xs)) : TyX K H (.ref a) (.type "tuple") := .base (.tup h)
theorem tyI {i : Int} : TyX K H (.int i) (.type "int") := .base (.int i)
theorem tyS {i : Str} : TyX K H (.str i) (.type "str") := .base (.str i)
theorem tyB {i : Bool} : TyX K H (.bl i) (.type "bool") := .base (.bl i)
theorem tyN : TyX K H .non (.type "NoneType") := .base .non
end
/-! ### a heap without one object: what does not lean on it -/
def hid (p : Addr) (H : Hp) : Hp := fun b => if b = p then none else H b
theorem hid_ne {p b : Addr} {H : Hp} (h : b ≠ p) : hid p H b = H b := if_neg h
theorem hid_upd {p : Addr} {H : Hp} {o : HO} : hid p (upd H p o) = hid p H := by
  funext b
  unfold hid
  by_cases h : b = p
  · rw [if_pos h, if_pos h]
  · rw [if_neg h, if_neg h, upd_ne h]
theorem ex_hid {p : Addr} {H : Hp} : Ex (hid p H) H := fun b o h => by
  unfold hid at h
  by_cases e : b = p
  · rw [if_pos e] at h; cases h
  · rw [if_neg e] at h; exact h
theorem hid_mono {p : Addr} {H H' : Hp} (e : Ex H H') : Ex (hid p H) (hid p H') := fun b o h => by
  unfold hid at h ⊢
  by_cases q : b = p
  · rw [if_pos q] at h; cases h
  · rw [if_neg q] at h ⊢; exact e b o h
theorem hid_free {p : Addr} {H H' : Hp} (h : H p = none) (e : Ex H H') : Ex H (hid p H') := fun b o q => by
  have hb : b ≠ p := fun z => by rw [z, h] at q; cases q
  rw [hid_ne hb]
  exact e b o q
theorem hid_get {p : Addr} {H : Hp} {b : Addr} {o : HO} (h : H b = some o) (n : b ≠ p) : hid p H b = some o := by rw [hid_ne n]; exact h
theorem cmul_nat {i : Int} {z : Nat} (h : z ≤ 2 ^ 60) : CMul i (z : Int) := Or.inr ⟨by omega, by omega⟩
theorem drop_at {α : Type} {l : List α} {i : Nat} {x : α} (h : l[i]? = some x) : l.drop i = x :: l.drop (i + 1) := by
  obtain ⟨h1, h2⟩ := List.getElem?_eq_some_iff.mp h
  rw [List.drop_eq_getElem_cons h1, h2]
theorem take_at {α : Type} {l : List α} {i : Nat} {x : α} (h : l[i]? = some x) : l.take (i + 1) = l.take i ++ [x] := by
  rw [List.take_add_one, h]; rfl
theorem get_map {α β : Type} {f : α → β} {l : List α} {i : Nat} {y : β} (h : (l.map f)[i]? = some y) : ∃ x, l[i]? = some x ∧ y = f x := by
  rw [List.getElem?_map] at h
  obtain ⟨x, h1, h2⟩ := Option.map_eq_some_iff.mp h
  exact ⟨x, h1, h2.symm⟩
theorem get_lt {α : Type} {l : List α} {i : Nat} {x : α} (h : l[i]? = some x) : i < l.length := (List.getElem?_eq_some_iff.mp h).1
end Ts
namespace Mix
open PySem
open Sem (wp)
/-! # dicts whose keys are texts and tuples of ints, beside one another (my own; over the library's rules of the machine) -/
/-- whether a key is among the keys -/
def hasG {κ : Type} [DecidableEq κ] (k : κ) (l : List κ) : Bool := decide (k ∈ l)
theorem hasG_yes {κ : Type} [DecidableEq κ] {k : κ} {l : List κ} (h : k ∈ l) : hasG k l = true := decide_eq_true h
theorem hasG_no {κ : Type} [DecidableEq κ] {k : κ} {l : List κ} (h : k ∉ l) : hasG k l = false := decide_eq_false h
/-- a kind of key: by value or by object -/
structure MKind (prog : Program) (w : World) (κ : Type) [DecidableEq κ] where
  is : Heap → κ → Value → Prop
  hash : κ → Int
  draws : κ → Nat
  room : Around → Prop
  inj : ∀ {h : Heap} {v : Value} {x y : κ}, is h x v → is h y v → x = y
  text : ∀ {h : Heap} {v : Value} {x y : κ} {z : Str} {t : Tok}, is h x (.str z t) → is h y v → v.isStr z = decide (x = y)
  hashed : ∀ {A : Around} {E : Value → Shared → Prop} {s : Shared} {k : κ} {v : Value} {Q : Int → Shared → Prop}, room A → is s.heap k v → Q (hash k) { s with toks := s.toks + draws k } → wpAny (model prog w) A (pyHash v) Q E s
  same : ∀ {A : Around} {E : Value → Shared → Prop} {s : Shared} {x y : κ} {u v : Value} {Q : Bool → Shared → Prop}, room A → is s.heap x u → is s.heap y v → Q (decide (x = y)) s → wpAny (model prog w) A (eqBool u v) Q E s
  quiet : ∀ {A : Around} {E : Value → Shared → Prop} {s : Shared} {k : κ} {v : Value} {Q : Bool → Shared → Prop}, is s.heap k v → Q true s → wpAny (model prog w) A (eqIsQuiet 8 v) Q E s
section
variable {prog : Program} {w : World} {κ : Type} [DecidableEq κ] (M : MKind prog w κ)
def row (x : κ × Value × Value) : DictEntry := ⟨M.hash x.1, x.2.1, x.2.2⟩
variable {M} {A : Around} {E : Value → Shared → Prop} {s : Shared}
theorem row_at {es : Array DictEntry} {xs : List (κ × Value × Value)} (he : es.toList = xs.map (row M)) (j : Nat) : es[j]? = (xs[j]?).map (row M) := by
  rw [← Array.getElem?_toList, he, List.getElem?_map]
theorem row_size {es : Array DictEntry} {xs : List (κ × Value × Value)} (he : es.toList = xs.map (row M)) : es.size = xs.length := by
  have := congrArg List.length he
  simpa using this
/-- keys once: the place of a key is one -/
theorem one_place {xs : List (κ × Value × Value)} (nd : (xs.map (·.1)).Nodup) {i j : Nat} {k : κ} {p q : Value × Value} (hi : xs[i]? = some (k, p)) (hj : xs[j]? = some (k, q)) : i = j := by
  have a1 : (xs.map (·.1))[i]? = some k := by rw [List.getElem?_map, hi]; rfl
  have a2 : (xs.map (·.1))[j]? = some k := by rw [List.getElem?_map, hj]; rfl
  obtain ⟨b1, c1⟩ := List.getElem?_eq_some_iff.mp a1
  obtain ⟨b2, c2⟩ := List.getElem?_eq_some_iff.mp a2
  exact (List.getElem_inj nd).mp (c1.trans c2.symm)
theorem still {a : Value} {st : List Value} {Q : Bool → Shared → Prop} {k : κ} (hk : M.is s.heap k a) (hst : ∀ v ∈ st, ∃ k', M.is s.heap k' v) (h : Q false s) : wpAny (model prog w) A (tableMayTell a st) Q E s := by
  unfold tableMayTell
  split
  · exact wpAny_pure h
  · refine wpAny_bind (M.quiet hk ?_)
    simp only [Bool.not_true, Bool.false_eq_true, if_false]
    refine wpAny_bind ?_
    refine wpAny_forIn_list _ (fun left r s' => s' = s ∧ r = (none, ()) ∧ ∀ v ∈ left, ∃ k', M.is s.heap k' v) _ ?_ ?_ _ _ ⟨rfl, rfl, hst⟩
    · rintro v left r s' ⟨rfl, rfl, hl⟩
      obtain ⟨k', hv⟩ := hl v List.mem_cons_self
      refine wpAny_bind (M.quiet hv ?_)
      simp only [Bool.not_true, Bool.false_eq_true, if_false]
      exact wpAny_pure ⟨rfl, rfl, fun u hu => hl u (List.mem_cons_of_mem _ hu)⟩
    · rintro r s' ⟨rfl, rfl, _⟩
      exact wpAny_pure h
/-- the look-up: none where the key stands nowhere, else its place -/
theorem find {d : Addr} {o : Obj} {es : Array DictEntry} {ep : Nat} {xs : List (κ × Value × Value)} {k : κ} {key : Value} {Q : Option Nat → Shared → Prop} (hu : M.room A) (hk : M.is s.heap k key) (ho : s.heap.get? d = some o) (hd : o.data = .dict es ep)
    (he : es.toList = xs.map (row M)) (hx : ∀ x ∈ xs, M.is s.heap x.1 x.2.1) (nd : (xs.map (·.1)).Nodup) (hno : (∀ (j : Nat) (p : Value × Value), xs[j]? ≠ some (k, p)) → Q none s) (hyes : ∀ (j : Nat) (p : Value × Value), xs[j]? = some (k, p) → Q (some j) s) :
    wpAny (model prog w) A (dictFind d key (M.hash k)) Q E s := by
  have sz : es.size = xs.length := row_size he
  have hit : ∀ (j : Nat) (p : Value × Value), xs[j]? = some (k, p) → ((es[j]?.map (·.hash)) == some (M.hash k)) = true := fun j p hj => by
    rw [row_at he j, hj]
    show (some (M.hash k) == some (M.hash k)) = true
    simp
  have mem : ∀ e ∈ es, ∃ x ∈ xs, e = row M x := fun e hin => by
    have q : e ∈ xs.map (row M) := he ▸ Array.mem_toList_iff.mpr hin
    obtain ⟨x, h1, h2⟩ := List.mem_map.mp q
    exact ⟨x, h1, h2.symm⟩
  have hst : ∀ v ∈ (placesWithHash es.size (fun i => es[i]?.map (·.hash)) (M.hash k)).filterMap (fun i => es[i]?.map (·.key)), ∃ k', M.is s.heap k' v := fun v hv => by
    obtain ⟨i, _, hi⟩ := List.mem_filterMap.mp hv
    obtain ⟨e, h1, h2⟩ := Option.map_eq_some_iff.mp hi
    obtain ⟨x, h3, rfl⟩ := mem e (Array.mem_of_getElem? h1)
    subst h2
    exact ⟨x.1, hx x h3⟩
  -- the places that bear the hash, one behind the other
  have turn : ∀ {i j : Nat} {left : List Nat}, (j :: left) = (List.range' i (es.size - i)).filter (fun i => (es[i]?.map (·.hash)) == some (M.hash k)) → i ≤ es.size → (∀ a p, a < i → xs[a]? ≠ some (k, p)) →
      j < es.size ∧ left = (List.range' (j + 1) (es.size - (j + 1))).filter (fun i => (es[i]?.map (·.hash)) == some (M.hash k)) ∧ ∀ a p, a < j → xs[a]? ≠ some (k, p) := fun {i j left} hr hi hn => by
    obtain ⟨q1, q2, q3, q4, q5⟩ := filter_range'_cons _ _ _ _ _ hr.symm
    refine ⟨by omega, by rw [q5]; congr 2; omega, fun a p ha hap => ?_⟩
    rcases Nat.lt_or_ge a i with z | z
    · exact hn a p z hap
    · have := q4 a z ha
      rw [hit a p hap] at this
      cases this
  have last : ∀ {i : Nat}, [] = (List.range' i (es.size - i)).filter (fun i => (es[i]?.map (·.hash)) == some (M.hash k)) → (∀ a p, a < i → xs[a]? ≠ some (k, p)) → ∀ a p, xs[a]? ≠ some (k, p) := fun {i} hr hn a p hap => by
    rcases Nat.lt_or_ge a i with z | z
    · exact hn a p z hap
    · have hl : a < es.size := by rw [sz]; exact (List.getElem?_eq_some_iff.mp hap).1
      have := List.filter_eq_nil_iff.mp hr.symm a (List.mem_range'_1.mpr ⟨z, by omega⟩)
      exact this (hit a p hap)
  have there : ∀ {j : Nat}, j < es.size → ∃ y, xs[j]? = some y ∧ es[j]? = some (row M y) ∧ M.is s.heap y.1 y.2.1 := fun {j} hj => by
    have hj' : j < xs.length := by omega
    exact ⟨xs[j], List.getElem?_eq_getElem hj', by rw [row_at he j, List.getElem?_eq_getElem hj']; rfl, hx _ (List.getElem_mem hj')⟩
  have plain : wpAny (model prog w) A (dictWalkPlain d key (M.hash k) es (placesWithHash es.size (fun i => es[i]?.map (·.hash)) (M.hash k))) Q E s := by
    unfold dictWalkPlain
    refine wpAny_bind ?_
    refine wpAny_forIn_list _ (fun left b s' => s' = s ∧ b = (none, ()) ∧ ∃ i, left = (List.range' i (es.size - i)).filter (fun i => (es[i]?.map (·.hash)) == some (M.hash k)) ∧ i ≤ es.size ∧ ∀ a p, a < i → xs[a]? ≠ some (k, p)) _ ?_ ?_ _ _
      ⟨rfl, rfl, 0, by rw [placesWithHash, List.range_eq_range', Nat.sub_zero], Nat.zero_le _, fun _ _ z => absurd z (Nat.not_lt_zero _)⟩
    · rintro j left b s' ⟨rfl, rfl, i, hr, hi, hn⟩
      obtain ⟨t1, t2, t3⟩ := turn hr hi hn
      obtain ⟨y, y1, y2, y3⟩ := there t1
      have go : ¬ y.1 = k → ∃ i, left = (List.range' i (es.size - i)).filter (fun i => (es[i]?.map (·.hash)) == some (M.hash k)) ∧ i ≤ es.size ∧ ∀ a p, a < i → xs[a]? ≠ some (k, p) := fun ne => by
        refine ⟨j + 1, t2, t1, fun a p ha hap => ?_⟩
        rcases Nat.lt_or_ge a j with z | z
        · exact t3 a p z hap
        · have e : a = j := by omega
          rw [e, y1] at hap
          cases hap
          exact ne rfl
      rw [y2]
      dsimp only [row]
      by_cases hh : (M.hash y.1 == M.hash k) = true
      · rw [if_pos hh]
        refine wpAny_bind (wpAny_dictEpoch ho hd (wpAny_bind (M.same hu y3 hk (wpAny_bind (wpAny_dictEpoch ho hd ?_)))))
        show wpAny _ _ (if (ep != ep) = true then _ else _) _ E _
        rw [if_neg (by simp)]
        by_cases ek : y.1 = k
        · rw [decide_eq_true ek]
          refine wpAny_bind (wpAny_rule (wpAny_pure (wpAny_pure (hyes j y.2 ?_))))
          rw [y1, ← ek]
        · rw [decide_eq_false ek]
          exact wpAny_bind (wpAny_rule (wpAny_pure ⟨rfl, rfl, go ek⟩))
      · rw [if_neg hh]
        refine wpAny_pure ⟨rfl, rfl, go fun z => hh ?_⟩
        rw [z]
        exact beq_self_eq_true _
    · rintro b s' ⟨rfl, rfl, i, hr, hi, hn⟩
      exact wpAny_pure (hno (last hr hn))
  have notold : ∀ a, key = .ref a → ¬ (es.any fun e => e.key == Value.ref a && e.hash != M.hash k) = true := fun a ea => by
    rw [← Array.any_toList, List.any_eq_true]
    rintro ⟨e, hin, hc⟩
    obtain ⟨x, h1, rfl⟩ := mem e (Array.mem_toList_iff.mp hin)
    simp only [row, Bool.and_eq_true, beq_iff_eq, bne_iff_ne, ne_eq] at hc
    have q := hx x h1
    rw [hc.1, ← ea] at q
    exact hc.2 (by rw [M.inj q hk])
  unfold dictFind
  try with_reducible refine wpAny_holding ?_
  refine wpAny_bind (wpAny_dictEntries ho hd ?_)
  dsimp only
  have byText : ∀ (z : Str) (t : Tok), key = .str z t → wpAny (model prog w) A (foundByValue d key es z) Q E s := fun z t ek => by
    unfold foundByValue
    have fe : ∀ (j : Nat) (y : κ × Value × Value), xs[j]? = some y → (row M y).key.isStr z = decide (k = y.1) := fun j y hj => M.text (by rw [← ek]; exact hk) (hx y (List.mem_of_getElem? hj))
    cases hf : es.findIdx? (fun e => e.key.isStr z) with
    | none =>
      refine wpAny_pure (hno fun a p hap => ?_)
      have hl : a < es.size := by rw [sz]; exact (List.getElem?_eq_some_iff.mp hap).1
      have q := Array.findIdx?_eq_none_iff.mp hf es[a] (Array.getElem_mem hl)
      have e1 : es[a] = row M (k, p) := by
        have := row_at he a
        rw [hap, Array.getElem?_eq_getElem hl] at this
        exact Option.some.inj this
      rw [e1, fe a _ hap, decide_eq_true rfl] at q
      cases q
    | some i =>
      obtain ⟨hlt, hi, _⟩ := Array.findIdx?_eq_some_iff_getElem.mp hf
      obtain ⟨y, y1, y2, y3⟩ := there hlt
      have e1 : es[i] = row M y := by
        rw [Array.getElem?_eq_getElem hlt] at y2
        exact Option.some.inj y2
      rw [e1, fe i y y1] at hi
      have ek2 : k = y.1 := of_decide_eq_true hi
      dsimp only
      rw [y2]
      refine wpAny_bind (wpAny_dictEpoch ho hd (wpAny_bind (M.same hu y3 hk (wpAny_bind (wpAny_dictEpoch ho hd ?_)))))
      show wpAny _ _ (if (ep != ep) = true then _ else _) _ E _
      rw [if_neg (by simp), decide_eq_true ek2.symm]
      refine wpAny_bind (wpAny_rule (wpAny_pure (hyes i y.2 ?_)))
      rw [y1, ek2]
  split
  · rename_i z t
    by_cases hs : (es.all fun e => isExactStrKey e.key) = true
    · rw [if_pos hs]
      exact byText z t rfl
    · rw [if_neg hs]
      by_cases hall : ((Value.str z t :: (placesWithHash es.size (fun i => es[i]?.map (·.hash)) (M.hash k)).filterMap (fun i => es[i]?.map (·.key))).all carriedByValue) = true
      · rw [if_pos hall]
        exact plain
      · rw [if_neg hall]
        by_cases hone : (((placesWithHash es.size (fun i => es[i]?.map (·.hash)) (M.hash k)).filterMap (fun i => es[i]?.map (·.key))) == [Value.str z t]) = true
        · rw [if_pos hone]
          refine wpAny_bind (wpAny_pure ?_)
          rw [if_neg (by simp)]
          refine wpAny_bind ?_
          refine wpAny_forIn_list _ (fun left r s' => s' = s ∧ ∃ i hit', r = (none, hit') ∧ left = (List.range' i (es.size - i)).filter (fun i => (es[i]?.map (·.hash)) == some (M.hash k)) ∧ i ≤ es.size ∧
              ((hit' = none ∧ ∀ a p, a < i → xs[a]? ≠ some (k, p)) ∨ ∃ a p, hit' = some a ∧ a < i ∧ xs[a]? = some (k, p))) _ ?_ ?_ _ _ ⟨rfl, 0, none, rfl, by rw [placesWithHash, List.range_eq_range', Nat.sub_zero], Nat.zero_le _, .inl ⟨rfl, fun _ _ z => absurd z (Nat.not_lt_zero _)⟩⟩
          · rintro j left r s' ⟨rfl, i, hit', rfl, hr, hi, hh⟩
            obtain ⟨q1, q2, q3, q4, q5⟩ := filter_range'_cons _ _ _ _ _ hr.symm
            have t1 : j < es.size := by omega
            have t2 : left = (List.range' (j + 1) (es.size - (j + 1))).filter (fun i => (es[i]?.map (·.hash)) == some (M.hash k)) := by rw [q5]; congr 2; omega
            obtain ⟨y, y1, y2, y3⟩ := there t1
            -- up to here
            have now : (hit' = none ∧ ∀ a p, a < j → xs[a]? ≠ some (k, p)) ∨ ∃ a p, hit' = some a ∧ a < j ∧ xs[a]? = some (k, p) := by
              rcases hh with ⟨z, hn⟩ | ⟨a, p, z, z2, z3⟩
              · refine .inl ⟨z, fun a p ha hap => ?_⟩
                rcases Nat.lt_or_ge a i with c | c
                · exact hn a p c hap
                · have := q4 a c ha
                  rw [hit a p hap] at this
                  cases this
              · exact .inr ⟨a, p, z, by omega, z3⟩
            have on : ¬ y.1 = k → (hit' = none ∧ ∀ a p, a < j + 1 → xs[a]? ≠ some (k, p)) ∨ ∃ a p, hit' = some a ∧ a < j + 1 ∧ xs[a]? = some (k, p) := fun ne => by
              rcases now with ⟨z, hn⟩ | ⟨a, p, z, z2, z3⟩
              · refine .inl ⟨z, fun a p ha hap => ?_⟩
                rcases Nat.lt_or_ge a j with c | c
                · exact hn a p c hap
                · have e : a = j := by omega
                  rw [e, y1] at hap
                  cases hap
                  exact ne rfl
              · exact .inr ⟨a, p, z, by omega, z3⟩
            rw [y2]
            dsimp only [row]
            by_cases hq : (M.hash y.1 == M.hash k) = true
            · rw [if_pos hq]
              refine wpAny_bind (wpAny_dictEpoch ho hd (wpAny_bind (M.same hu y3 hk (wpAny_bind (wpAny_dictEpoch ho hd ?_)))))
              show wpAny _ _ (if (ep != ep) = true then _ else _) _ E _
              rw [if_neg (by simp)]
              by_cases ek : y.1 = k
              · have here : xs[j]? = some (k, y.2) := by rw [y1, ← ek]
                rw [decide_eq_true ek, if_pos rfl]
                rcases now with ⟨rfl, _⟩ | ⟨a, p, _, z2, z3⟩
                · rw [if_neg (show ¬ ((none : Option Nat).isSome = true) by simp)]
                  refine wpAny_bind (wpAny_rule ?_)
                  split
                  · exact wpAny_pure (wpAny_pure (hyes j y.2 here))
                  · exact wpAny_pure ⟨rfl, j + 1, some j, rfl, t2, t1, .inr ⟨j, y.2, rfl, Nat.lt_succ_self j, here⟩⟩
                · exact absurd (one_place nd z3 here) (by omega)
              · rw [decide_eq_false ek, if_neg Bool.false_ne_true]
                refine wpAny_bind (wpAny_rule ?_)
                rw [if_neg (by simp)]
                exact wpAny_pure ⟨rfl, j + 1, hit', rfl, t2, t1, on ek⟩
            · rw [if_neg hq]
              refine wpAny_pure ⟨rfl, j + 1, hit', rfl, t2, t1, on fun z => hq ?_⟩
              rw [z]
              exact beq_self_eq_true _
          · rintro r s' ⟨rfl, i, hit', rfl, hr, hi, hh⟩
            rcases hh with ⟨rfl, hn⟩ | ⟨a, p, rfl, _, z3⟩
            · exact wpAny_pure (hno (last hr hn))
            · exact wpAny_pure (hyes a p z3)
        · rw [if_neg hone]
          refine wpAny_bind (still hk hst ?_)
          rw [if_neg (by simp)]
          refine wpAny_bind ?_
          refine wpAny_forIn_list _ (fun left r s' => s' = s ∧ ∃ i hit', r = (none, hit') ∧ left = (List.range' i (es.size - i)).filter (fun i => (es[i]?.map (·.hash)) == some (M.hash k)) ∧ i ≤ es.size ∧
              ((hit' = none ∧ ∀ a p, a < i → xs[a]? ≠ some (k, p)) ∨ ∃ a p, hit' = some a ∧ a < i ∧ xs[a]? = some (k, p))) _ ?_ ?_ _ _ ⟨rfl, 0, none, rfl, by rw [placesWithHash, List.range_eq_range', Nat.sub_zero], Nat.zero_le _, .inl ⟨rfl, fun _ _ z => absurd z (Nat.not_lt_zero _)⟩⟩
          · rintro j left r s' ⟨rfl, i, hit', rfl, hr, hi, hh⟩
            obtain ⟨q1, q2, q3, q4, q5⟩ := filter_range'_cons _ _ _ _ _ hr.symm
            have t1 : j < es.size := by omega
            have t2 : left = (List.range' (j + 1) (es.size - (j + 1))).filter (fun i => (es[i]?.map (·.hash)) == some (M.hash k)) := by rw [q5]; congr 2; omega
            obtain ⟨y, y1, y2, y3⟩ := there t1
            -- up to here
            have now : (hit' = none ∧ ∀ a p, a < j → xs[a]? ≠ some (k, p)) ∨ ∃ a p, hit' = some a ∧ a < j ∧ xs[a]? = some (k, p) := by
              rcases hh with ⟨z, hn⟩ | ⟨a, p, z, z2, z3⟩
              · refine .inl ⟨z, fun a p ha hap => ?_⟩
                rcases Nat.lt_or_ge a i with c | c
                · exact hn a p c hap
                · have := q4 a c ha
                  rw [hit a p hap] at this
                  cases this
              · exact .inr ⟨a, p, z, by omega, z3⟩
            have on : ¬ y.1 = k → (hit' = none ∧ ∀ a p, a < j + 1 → xs[a]? ≠ some (k, p)) ∨ ∃ a p, hit' = some a ∧ a < j + 1 ∧ xs[a]? = some (k, p) := fun ne => by
              rcases now with ⟨z, hn⟩ | ⟨a, p, z, z2, z3⟩
              · refine .inl ⟨z, fun a p ha hap => ?_⟩
                rcases Nat.lt_or_ge a j with c | c
                · exact hn a p c hap
                · have e : a = j := by omega
                  rw [e, y1] at hap
                  cases hap
                  exact ne rfl
              · exact .inr ⟨a, p, z, by omega, z3⟩
            rw [y2]
            dsimp only [row]
            by_cases hq : (M.hash y.1 == M.hash k) = true
            · rw [if_pos hq]
              refine wpAny_bind (wpAny_dictEpoch ho hd (wpAny_bind (M.same hu y3 hk (wpAny_bind (wpAny_dictEpoch ho hd ?_)))))
              show wpAny _ _ (if (ep != ep) = true then _ else _) _ E _
              rw [if_neg (by simp)]
              by_cases ek : y.1 = k
              · have here : xs[j]? = some (k, y.2) := by rw [y1, ← ek]
                rw [decide_eq_true ek, if_pos rfl]
                rcases now with ⟨rfl, _⟩ | ⟨a, p, _, z2, z3⟩
                · rw [if_neg (show ¬ ((none : Option Nat).isSome = true) by simp)]
                  refine wpAny_bind (wpAny_rule ?_)
                  split
                  · exact wpAny_pure (wpAny_pure (hyes j y.2 here))
                  · exact wpAny_pure ⟨rfl, j + 1, some j, rfl, t2, t1, .inr ⟨j, y.2, rfl, Nat.lt_succ_self j, here⟩⟩
                · exact absurd (one_place nd z3 here) (by omega)
              · rw [decide_eq_false ek, if_neg Bool.false_ne_true]
                refine wpAny_bind (wpAny_rule ?_)
                rw [if_neg (by simp)]
                exact wpAny_pure ⟨rfl, j + 1, hit', rfl, t2, t1, on ek⟩
            · rw [if_neg hq]
              refine wpAny_pure ⟨rfl, j + 1, hit', rfl, t2, t1, on fun z => hq ?_⟩
              rw [z]
              exact beq_self_eq_true _
          · rintro r s' ⟨rfl, i, hit', rfl, hr, hi, hh⟩
            rcases hh with ⟨rfl, hn⟩ | ⟨a, p, rfl, _, z3⟩
            · exact wpAny_pure (hno (last hr hn))
            · exact wpAny_pure (hyes a p z3)
  · rename_i nstr
    by_cases hall : ((key :: (placesWithHash es.size (fun i => es[i]?.map (·.hash)) (M.hash k)).filterMap (fun i => es[i]?.map (·.key))).all carriedByValue) = true
    · rw [if_pos hall]
      exact plain
    · rw [if_neg hall]
      split
      · rename_i a
        rw [if_neg (notold a rfl)]
        by_cases hone : (((placesWithHash es.size (fun i => es[i]?.map (·.hash)) (M.hash k)).filterMap (fun i => es[i]?.map (·.key))) == [Value.ref a]) = true
        · rw [if_pos hone]
          refine wpAny_bind (wpAny_pure ?_)
          rw [if_neg (by simp)]
          refine wpAny_bind ?_
          refine wpAny_forIn_list _ (fun left r s' => s' = s ∧ ∃ i hit', r = (none, hit') ∧ left = (List.range' i (es.size - i)).filter (fun i => (es[i]?.map (·.hash)) == some (M.hash k)) ∧ i ≤ es.size ∧
              ((hit' = none ∧ ∀ a p, a < i → xs[a]? ≠ some (k, p)) ∨ ∃ a p, hit' = some a ∧ a < i ∧ xs[a]? = some (k, p))) _ ?_ ?_ _ _ ⟨rfl, 0, none, rfl, by rw [placesWithHash, List.range_eq_range', Nat.sub_zero], Nat.zero_le _, .inl ⟨rfl, fun _ _ z => absurd z (Nat.not_lt_zero _)⟩⟩
          · rintro j left r s' ⟨rfl, i, hit', rfl, hr, hi, hh⟩
            obtain ⟨q1, q2, q3, q4, q5⟩ := filter_range'_cons _ _ _ _ _ hr.symm
            have t1 : j < es.size := by omega
            have t2 : left = (List.range' (j + 1) (es.size - (j + 1))).filter (fun i => (es[i]?.map (·.hash)) == some (M.hash k)) := by rw [q5]; congr 2; omega
            obtain ⟨y, y1, y2, y3⟩ := there t1
            -- up to here
            have now : (hit' = none ∧ ∀ a p, a < j → xs[a]? ≠ some (k, p)) ∨ ∃ a p, hit' = some a ∧ a < j ∧ xs[a]? = some (k, p) := by
              rcases hh with ⟨z, hn⟩ | ⟨a, p, z, z2, z3⟩
              · refine .inl ⟨z, fun a p ha hap => ?_⟩
                rcases Nat.lt_or_ge a i with c | c
                · exact hn a p c hap
                · have := q4 a c ha
                  rw [hit a p hap] at this
                  cases this
              · exact .inr ⟨a, p, z, by omega, z3⟩
            have on : ¬ y.1 = k → (hit' = none ∧ ∀ a p, a < j + 1 → xs[a]? ≠ some (k, p)) ∨ ∃ a p, hit' = some a ∧ a < j + 1 ∧ xs[a]? = some (k, p) := fun ne => by
              rcases now with ⟨z, hn⟩ | ⟨a, p, z, z2, z3⟩
              · refine .inl ⟨z, fun a p ha hap => ?_⟩
                rcases Nat.lt_or_ge a j with c | c
                · exact hn a p c hap
                · have e : a = j := by omega
                  rw [e, y1] at hap
                  cases hap
                  exact ne rfl
              · exact .inr ⟨a, p, z, by omega, z3⟩
            rw [y2]
            dsimp only [row]
            by_cases hq : (M.hash y.1 == M.hash k) = true
            · rw [if_pos hq]
              refine wpAny_bind (wpAny_dictEpoch ho hd (wpAny_bind (M.same hu y3 hk (wpAny_bind (wpAny_dictEpoch ho hd ?_)))))
              show wpAny _ _ (if (ep != ep) = true then _ else _) _ E _
              rw [if_neg (by simp)]
              by_cases ek : y.1 = k
              · have here : xs[j]? = some (k, y.2) := by rw [y1, ← ek]
                rw [decide_eq_true ek, if_pos rfl]
                rcases now with ⟨rfl, _⟩ | ⟨a, p, _, z2, z3⟩
                · rw [if_neg (show ¬ ((none : Option Nat).isSome = true) by simp)]
                  refine wpAny_bind (wpAny_rule ?_)
                  split
                  · exact wpAny_pure (wpAny_pure (hyes j y.2 here))
                  · exact wpAny_pure ⟨rfl, j + 1, some j, rfl, t2, t1, .inr ⟨j, y.2, rfl, Nat.lt_succ_self j, here⟩⟩
                · exact absurd (one_place nd z3 here) (by omega)
              · rw [decide_eq_false ek, if_neg Bool.false_ne_true]
                refine wpAny_bind (wpAny_rule ?_)
                rw [if_neg (by simp)]
                exact wpAny_pure ⟨rfl, j + 1, hit', rfl, t2, t1, on ek⟩
            · rw [if_neg hq]
              refine wpAny_pure ⟨rfl, j + 1, hit', rfl, t2, t1, on fun z => hq ?_⟩
              rw [z]
              exact beq_self_eq_true _
          · rintro r s' ⟨rfl, i, hit', rfl, hr, hi, hh⟩
            rcases hh with ⟨rfl, hn⟩ | ⟨a, p, rfl, _, z3⟩
            · exact wpAny_pure (hno (last hr hn))
            · exact wpAny_pure (hyes a p z3)
        · rw [if_neg hone]
          refine wpAny_bind (still hk hst ?_)
          rw [if_neg (by simp)]
          refine wpAny_bind ?_
          refine wpAny_forIn_list _ (fun left r s' => s' = s ∧ ∃ i hit', r = (none, hit') ∧ left = (List.range' i (es.size - i)).filter (fun i => (es[i]?.map (·.hash)) == some (M.hash k)) ∧ i ≤ es.size ∧
              ((hit' = none ∧ ∀ a p, a < i → xs[a]? ≠ some (k, p)) ∨ ∃ a p, hit' = some a ∧ a < i ∧ xs[a]? = some (k, p))) _ ?_ ?_ _ _ ⟨rfl, 0, none, rfl, by rw [placesWithHash, List.range_eq_range', Nat.sub_zero], Nat.zero_le _, .inl ⟨rfl, fun _ _ z => absurd z (Nat.not_lt_zero _)⟩⟩
          · rintro j left r s' ⟨rfl, i, hit', rfl, hr, hi, hh⟩
            obtain ⟨q1, q2, q3, q4, q5⟩ := filter_range'_cons _ _ _ _ _ hr.symm
            have t1 : j < es.size := by omega
            have t2 : left = (List.range' (j + 1) (es.size - (j + 1))).filter (fun i => (es[i]?.map (·.hash)) == some (M.hash k)) := by rw [q5]; congr 2; omega
            obtain ⟨y, y1, y2, y3⟩ := there t1
            -- up to here
            have now : (hit' = none ∧ ∀ a p, a < j → xs[a]? ≠ some (k, p)) ∨ ∃ a p, hit' = some a ∧ a < j ∧ xs[a]? = some (k, p) := by
              rcases hh with ⟨z, hn⟩ | ⟨a, p, z, z2, z3⟩
              · refine .inl ⟨z, fun a p ha hap => ?_⟩
                rcases Nat.lt_or_ge a i with c | c
                · exact hn a p c hap
                · have := q4 a c ha
                  rw [hit a p hap] at this
                  cases this
              · exact .inr ⟨a, p, z, by omega, z3⟩
            have on : ¬ y.1 = k → (hit' = none ∧ ∀ a p, a < j + 1 → xs[a]? ≠ some (k, p)) ∨ ∃ a p, hit' = some a ∧ a < j + 1 ∧ xs[a]? = some (k, p) := fun ne => by
              rcases now with ⟨z, hn⟩ | ⟨a, p, z, z2, z3⟩
              · refine .inl ⟨z, fun a p ha hap => ?_⟩
                rcases Nat.lt_or_ge a j with c | c
                · exact hn a p c hap
                · have e : a = j := by omega
                  rw [e, y1] at hap
                  cases hap
                  exact ne rfl
              · exact .inr ⟨a, p, z, by omega, z3⟩
            rw [y2]
            dsimp only [row]
            by_cases hq : (M.hash y.1 == M.hash k) = true
            · rw [if_pos hq]
              refine wpAny_bind (wpAny_dictEpoch ho hd (wpAny_bind (M.same hu y3 hk (wpAny_bind (wpAny_dictEpoch ho hd ?_)))))
              show wpAny _ _ (if (ep != ep) = true then _ else _) _ E _
              rw [if_neg (by simp)]
              by_cases ek : y.1 = k
              · have here : xs[j]? = some (k, y.2) := by rw [y1, ← ek]
                rw [decide_eq_true ek, if_pos rfl]
                rcases now with ⟨rfl, _⟩ | ⟨a, p, _, z2, z3⟩
                · rw [if_neg (show ¬ ((none : Option Nat).isSome = true) by simp)]
                  refine wpAny_bind (wpAny_rule ?_)
                  split
                  · exact wpAny_pure (wpAny_pure (hyes j y.2 here))
                  · exact wpAny_pure ⟨rfl, j + 1, some j, rfl, t2, t1, .inr ⟨j, y.2, rfl, Nat.lt_succ_self j, here⟩⟩
                · exact absurd (one_place nd z3 here) (by omega)
              · rw [decide_eq_false ek, if_neg Bool.false_ne_true]
                refine wpAny_bind (wpAny_rule ?_)
                rw [if_neg (by simp)]
                exact wpAny_pure ⟨rfl, j + 1, hit', rfl, t2, t1, on ek⟩
            · rw [if_neg hq]
              refine wpAny_pure ⟨rfl, j + 1, hit', rfl, t2, t1, on fun z => hq ?_⟩
              rw [z]
              exact beq_self_eq_true _
          · rintro r s' ⟨rfl, i, hit', rfl, hr, hi, hh⟩
            rcases hh with ⟨rfl, hn⟩ | ⟨a, p, rfl, _, z3⟩
            · exact wpAny_pure (hno (last hr hn))
            · exact wpAny_pure (hyes a p z3)
      · by_cases hone : (((placesWithHash es.size (fun i => es[i]?.map (·.hash)) (M.hash k)).filterMap (fun i => es[i]?.map (·.key))) == [key]) = true
        · rw [if_pos hone]
          refine wpAny_bind (wpAny_pure ?_)
          rw [if_neg (by simp)]
          refine wpAny_bind ?_
          refine wpAny_forIn_list _ (fun left r s' => s' = s ∧ ∃ i hit', r = (none, hit') ∧ left = (List.range' i (es.size - i)).filter (fun i => (es[i]?.map (·.hash)) == some (M.hash k)) ∧ i ≤ es.size ∧
              ((hit' = none ∧ ∀ a p, a < i → xs[a]? ≠ some (k, p)) ∨ ∃ a p, hit' = some a ∧ a < i ∧ xs[a]? = some (k, p))) _ ?_ ?_ _ _ ⟨rfl, 0, none, rfl, by rw [placesWithHash, List.range_eq_range', Nat.sub_zero], Nat.zero_le _, .inl ⟨rfl, fun _ _ z => absurd z (Nat.not_lt_zero _)⟩⟩
          · rintro j left r s' ⟨rfl, i, hit', rfl, hr, hi, hh⟩
            obtain ⟨q1, q2, q3, q4, q5⟩ := filter_range'_cons _ _ _ _ _ hr.symm
            have t1 : j < es.size := by omega
            have t2 : left = (List.range' (j + 1) (es.size - (j + 1))).filter (fun i => (es[i]?.map (·.hash)) == some (M.hash k)) := by rw [q5]; congr 2; omega
            obtain ⟨y, y1, y2, y3⟩ := there t1
            -- up to here
            have now : (hit' = none ∧ ∀ a p, a < j → xs[a]? ≠ some (k, p)) ∨ ∃ a p, hit' = some a ∧ a < j ∧ xs[a]? = some (k, p) := by
              rcases hh with ⟨z, hn⟩ | ⟨a, p, z, z2, z3⟩
              · refine .inl ⟨z, fun a p ha hap => ?_⟩
                rcases Nat.lt_or_ge a i with c | c
                · exact hn a p c hap
                · have := q4 a c ha
                  rw [hit a p hap] at this
                  cases this
              · exact .inr ⟨a, p, z, by omega, z3⟩
            have on : ¬ y.1 = k → (hit' = none ∧ ∀ a p, a < j + 1 → xs[a]? ≠ some (k, p)) ∨ ∃ a p, hit' = some a ∧ a < j + 1 ∧ xs[a]? = some (k, p) := fun ne => by
              rcases now with ⟨z, hn⟩ | ⟨a, p, z, z2, z3⟩
              · refine .inl ⟨z, fun a p ha hap => ?_⟩
                rcases Nat.lt_or_ge a j with c | c
                · exact hn a p c hap
                · have e : a = j := by omega
                  rw [e, y1] at hap
                  cases hap
                  exact ne rfl
              · exact .inr ⟨a, p, z, by omega, z3⟩
            rw [y2]
            dsimp only [row]
            by_cases hq : (M.hash y.1 == M.hash k) = true
            · rw [if_pos hq]
              refine wpAny_bind (wpAny_dictEpoch ho hd (wpAny_bind (M.same hu y3 hk (wpAny_bind (wpAny_dictEpoch ho hd ?_)))))
              show wpAny _ _ (if (ep != ep) = true then _ else _) _ E _
              rw [if_neg (by simp)]
              by_cases ek : y.1 = k
              · have here : xs[j]? = some (k, y.2) := by rw [y1, ← ek]
                rw [decide_eq_true ek, if_pos rfl]
                rcases now with ⟨rfl, _⟩ | ⟨a, p, _, z2, z3⟩
                · rw [if_neg (show ¬ ((none : Option Nat).isSome = true) by simp)]
                  refine wpAny_bind (wpAny_rule ?_)
                  split
                  · exact wpAny_pure (wpAny_pure (hyes j y.2 here))
                  · exact wpAny_pure ⟨rfl, j + 1, some j, rfl, t2, t1, .inr ⟨j, y.2, rfl, Nat.lt_succ_self j, here⟩⟩
                · exact absurd (one_place nd z3 here) (by omega)
              · rw [decide_eq_false ek, if_neg Bool.false_ne_true]
                refine wpAny_bind (wpAny_rule ?_)
                rw [if_neg (by simp)]
                exact wpAny_pure ⟨rfl, j + 1, hit', rfl, t2, t1, on ek⟩
            · rw [if_neg hq]
              refine wpAny_pure ⟨rfl, j + 1, hit', rfl, t2, t1, on fun z => hq ?_⟩
              rw [z]
              exact beq_self_eq_true _
          · rintro r s' ⟨rfl, i, hit', rfl, hr, hi, hh⟩
            rcases hh with ⟨rfl, hn⟩ | ⟨a, p, rfl, _, z3⟩
            · exact wpAny_pure (hno (last hr hn))
            · exact wpAny_pure (hyes a p z3)
        · rw [if_neg hone]
          refine wpAny_bind (still hk hst ?_)
          rw [if_neg (by simp)]
          refine wpAny_bind ?_
          refine wpAny_forIn_list _ (fun left r s' => s' = s ∧ ∃ i hit', r = (none, hit') ∧ left = (List.range' i (es.size - i)).filter (fun i => (es[i]?.map (·.hash)) == some (M.hash k)) ∧ i ≤ es.size ∧
              ((hit' = none ∧ ∀ a p, a < i → xs[a]? ≠ some (k, p)) ∨ ∃ a p, hit' = some a ∧ a < i ∧ xs[a]? = some (k, p))) _ ?_ ?_ _ _ ⟨rfl, 0, none, rfl, by rw [placesWithHash, List.range_eq_range', Nat.sub_zero], Nat.zero_le _, .inl ⟨rfl, fun _ _ z => absurd z (Nat.not_lt_zero _)⟩⟩
          · rintro j left r s' ⟨rfl, i, hit', rfl, hr, hi, hh⟩
            obtain ⟨q1, q2, q3, q4, q5⟩ := filter_range'_cons _ _ _ _ _ hr.symm
            have t1 : j < es.size := by omega
            have t2 : left = (List.range' (j + 1) (es.size - (j + 1))).filter (fun i => (es[i]?.map (·.hash)) == some (M.hash k)) := by rw [q5]; congr 2; omega
            obtain ⟨y, y1, y2, y3⟩ := there t1
            -- up to here
            have now : (hit' = none ∧ ∀ a p, a < j → xs[a]? ≠ some (k, p)) ∨ ∃ a p, hit' = some a ∧ a < j ∧ xs[a]? = some (k, p) := by
              rcases hh with ⟨z, hn⟩ | ⟨a, p, z, z2, z3⟩
              · refine .inl ⟨z, fun a p ha hap => ?_⟩
                rcases Nat.lt_or_ge a i with c | c
                · exact hn a p c hap
                · have := q4 a c ha
                  rw [hit a p hap] at this
                  cases this
              · exact .inr ⟨a, p, z, by omega, z3⟩
            have on : ¬ y.1 = k → (hit' = none ∧ ∀ a p, a < j + 1 → xs[a]? ≠ some (k, p)) ∨ ∃ a p, hit' = some a ∧ a < j + 1 ∧ xs[a]? = some (k, p) := fun ne => by
              rcases now with ⟨z, hn⟩ | ⟨a, p, z, z2, z3⟩
              · refine .inl ⟨z, fun a p ha hap => ?_⟩
                rcases Nat.lt_or_ge a j with c | c
                · exact hn a p c hap
                · have e : a = j := by omega
                  rw [e, y1] at hap
                  cases hap
                  exact ne rfl
              · exact .inr ⟨a, p, z, by omega, z3⟩
            rw [y2]
            dsimp only [row]
            by_cases hq : (M.hash y.1 == M.hash k) = true
            · rw [if_pos hq]
              refine wpAny_bind (wpAny_dictEpoch ho hd (wpAny_bind (M.same hu y3 hk (wpAny_bind (wpAny_dictEpoch ho hd ?_)))))
              show wpAny _ _ (if (ep != ep) = true then _ else _) _ E _
              rw [if_neg (by simp)]
              by_cases ek : y.1 = k
              · have here : xs[j]? = some (k, y.2) := by rw [y1, ← ek]
                rw [decide_eq_true ek, if_pos rfl]
                rcases now with ⟨rfl, _⟩ | ⟨a, p, _, z2, z3⟩
                · rw [if_neg (show ¬ ((none : Option Nat).isSome = true) by simp)]
                  refine wpAny_bind (wpAny_rule ?_)
                  split
                  · exact wpAny_pure (wpAny_pure (hyes j y.2 here))
                  · exact wpAny_pure ⟨rfl, j + 1, some j, rfl, t2, t1, .inr ⟨j, y.2, rfl, Nat.lt_succ_self j, here⟩⟩
                · exact absurd (one_place nd z3 here) (by omega)
              · rw [decide_eq_false ek, if_neg Bool.false_ne_true]
                refine wpAny_bind (wpAny_rule ?_)
                rw [if_neg (by simp)]
                exact wpAny_pure ⟨rfl, j + 1, hit', rfl, t2, t1, on ek⟩
            · rw [if_neg hq]
              refine wpAny_pure ⟨rfl, j + 1, hit', rfl, t2, t1, on fun z => hq ?_⟩
              rw [z]
              exact beq_self_eq_true _
          · rintro r s' ⟨rfl, i, hit', rfl, hr, hi, hh⟩
            rcases hh with ⟨rfl, hn⟩ | ⟨a, p, rfl, _, z3⟩
            · exact wpAny_pure (hno (last hr hn))
            · exact wpAny_pure (hyes a p z3)

/-- at d stands a dict of these rows -/
def Rows (M : MKind prog w κ) (h : Heap) (d : Addr) (xs : List (κ × Value × Value)) : Prop :=
  ∃ o es ep, h.get? d = some o ∧ o.ExactDict ∧ o.data = .dict es ep ∧ es.toList = xs.map (row M) ∧ (xs.map (·.1)).Nodup
theorem Rows.ty {d : Addr} {xs : List (κ × Value × Value)} (R : Rows M s.heap d xs) : s.TypeIs (.ref d) "dict" := let ⟨o, _, _, ho, hc, _⟩ := R; ⟨o, ho, hc.1⟩
variable {d : Addr} {xs : List (κ × Value × Value)} {k : κ} {key v : Value}
theorem get {Q : Option Value → Shared → Prop} (hu : M.room A) (hk : M.is s.heap k key) (R : Rows M s.heap d xs) (hx : ∀ x ∈ xs, M.is s.heap x.1 x.2.1)
    (hno : (∀ (j : Nat) (p : Value × Value), xs[j]? ≠ some (k, p)) → Q none { s with toks := s.toks + M.draws k }) (hyes : ∀ (j : Nat) (p : Value × Value), xs[j]? = some (k, p) → Q (some p.2) { s with toks := s.toks + M.draws k }) :
    wpAny (model prog w) A (dictGet d key) Q E s := by
  obtain ⟨o, es, ep, ho, _, hd, he, nd⟩ := R
  unfold dictGet
  try with_reducible refine wpAny_holding ?_
  refine wpAny_bind (M.hashed hu hk (wpAny_bind (find (s := { s with toks := s.toks + M.draws k }) hu hk ho hd he hx nd (fun z => wpAny_pure (hno z)) fun j p hj => ?_)))
  refine wpAny_bind (wpAny_dictEntries (s := { s with toks := s.toks + M.draws k }) ho hd ?_)
  rw [row_at he j, hj]
  exact wpAny_pure (hyes j p hj)
theorem put {Q : Unit → Shared → Prop} (hu : M.room A) (hk : M.is s.heap k key) (R : Rows M s.heap d xs) (hx : ∀ x ∈ xs, M.is s.heap x.1 x.2.1) (hz : xs.length ≤ sizeLine) (new : k ∉ xs.map (·.1))
    (hQ : ∀ h', Rows M h' d (xs ++ [(k, key, v)]) → Heap.SameBut d s.heap h' → Q () { s with heap := h', toks := s.toks + M.draws k }) : wpAny (model prog w) A (dictSet d key v) Q E s := by
  obtain ⟨o, es, ep, ho, hc, hd, he, nd⟩ := R
  unfold dictSet
  try with_reducible refine wpAny_holding ?_
  refine wpAny_bind (M.hashed hu hk ?_)
  unfold dictSetHashed
  try with_reducible refine wpAny_holding ?_
  refine wpAny_bind (find (s := { s with toks := s.toks + M.draws k }) hu hk ho hd he hx nd (fun _ => ?_) fun j p hj => ?_)
  · have z : es.size ≤ sizeLine := by rw [row_size he]; exact hz
    refine wpAny_bind (wpAny_rule (wpAny_updateDictKeys (hz := z) (s := { s with toks := s.toks + M.draws k }) ho hd (hQ _ ⟨_, _, ep + 1, Heap.get?_update_self _ ho (Obj.isFreed_of_dict (Obj.data_mapDictKeys hd _)), hc.mapDictKeys _, Obj.data_mapDictKeys hd _, ?_, ?_⟩ (Heap.SameBut.update ..))))
    · rw [Array.toList_push, he, List.map_append]
      rfl
    · rw [List.map_append, List.nodup_append]
      refine ⟨nd, by simp, fun a ha b hb => ?_⟩
      have e : b = k := by simpa using hb
      rw [e]
      exact fun z => new (z ▸ ha)
  · exact absurd (List.mem_map.mpr ⟨(k, p), List.mem_of_getElem? hj, rfl⟩) new
/-- k in d, k not in d -/
theorem contains_at {Q : Bool → Shared → Prop} (hu : M.room A.in1) (hk : M.is s.heap k key) (lo : (d == sysModules) = false) (R : Rows M s.heap d xs) (hx : ∀ x ∈ xs, M.is s.heap x.1 x.2.1) (h : Q (hasG k (xs.map (·.1))) { s with toks := s.toks + M.draws k }) :
    wpAny (model prog w) A (contains (.ref d) key) Q E s := by
  unfold contains
  try with_reducible refine wpAny_holding ?_
  refine wpAny_bind (wpAny_specialOf R.ty slot_dict_contains.lookup ?_)
  show wpAny _ _ (if (some (Value.builtin "dict.__contains__") == some Value.none) = true then _ else _) _ E s
  rw [if_neg (by rw [beq_builtin_none]; exact Bool.false_ne_true)]
  refine wpAny_bind (wpAny_callSpecialUnlessNone?_slot (name := Str.ofString "__contains__") R.ty slot_dict_contains (wpAny_call_entry slot_dict_contains R.ty entry_dict_contains ?_ (args_dict_contains _ _)))
  show wpAny _ _ (dictGet d key >>= _) _ _ s
  refine wpAny_bind (get hu hk R hx (fun hn => ?_) fun j p hj => ?_)
  · have e : k ∉ xs.map (·.1) := fun m => by
      obtain ⟨x, h1, h2⟩ := List.mem_map.mp m
      obtain ⟨j, hj⟩ := List.mem_iff_getElem?.mp h1
      exact hn j x.2 (by rw [hj, ← h2])
    rw [hasG_no e] at h
    show wpAny _ _ (Builtin.Dict.pendingKey? d key >>= _) _ _ _
    exact wpAny_bind (wpAny_pendingKey_other lo (wpAny_pure ⟨_, rfl, wpAny_truthy_bool h⟩))
  · have yes : k ∈ xs.map (·.1) := List.mem_map.mpr ⟨(k, p), List.mem_of_getElem? hj, rfl⟩
    rw [hasG_yes yes] at h
    show wpAny _ _ (ret (.bool true)) _ _ _
    exact wpAny_pure ⟨_, rfl, wpAny_truthy_bool h⟩
theorem op_in {Q : Value → Shared → Prop} (hu : M.room A.in1) (hk : M.is s.heap k key) (lo : (d == sysModules) = false) (R : Rows M s.heap d xs) (hx : ∀ x ∈ xs, M.is s.heap x.1 x.2.1) (h : Q (.bool (hasG k (xs.map (·.1)))) { s with toks := s.toks + M.draws k }) :
    wpAny (model prog w) A (compareOp .In key (.ref d)) Q E s := by
  show wpAny _ _ (do return .bool (← contains (.ref d) key)) Q E s
  exact wpAny_bind (contains_at hu hk lo R hx (wpAny_pure h))
theorem op_notin {Q : Value → Shared → Prop} (hu : M.room A.in1) (hk : M.is s.heap k key) (lo : (d == sysModules) = false) (R : Rows M s.heap d xs) (hx : ∀ x ∈ xs, M.is s.heap x.1 x.2.1) (h : Q (.bool (!hasG k (xs.map (·.1)))) { s with toks := s.toks + M.draws k }) :
    wpAny (model prog w) A (compareOp .NotIn key (.ref d)) Q E s := by
  show wpAny _ _ (do return .bool (!(← contains (.ref d) key))) Q E s
  exact wpAny_bind (contains_at hu hk lo R hx (wpAny_pure h))
theorem item {Q : Value → Shared → Prop} {j : Nat} {p : Value × Value} (hu : M.room A.in1) (hk : M.is s.heap k key) (R : Rows M s.heap d xs) (hx : ∀ x ∈ xs, M.is s.heap x.1 x.2.1) (hp : xs[j]? = some (k, p)) (h : Q p.2 { s with toks := s.toks + M.draws k }) :
    wpAny (model prog w) A (getItem (.ref d) key) Q E s := by
  have nd : (xs.map (·.1)).Nodup := let ⟨_, _, _, _, _, _, _, nd⟩ := R; nd
  unfold getItem
  try with_reducible refine wpAny_holding ?_
  refine wpAny_bind (wpAny_sequenceKey R.ty (by decide) ?_)
  refine wpAny_bind (wpAny_callSpecial?_slot (name := Str.ofString "__getitem__") R.ty slot_dict_getitem (wpAny_call_entry slot_dict_getitem R.ty entry_dict_getitem ?_ (args_dict_getitem _ _)))
  show wpAny _ _ (dictGet d key >>= _) _ _ s
  refine wpAny_bind (get hu hk R hx (fun hn => absurd hp (hn j p)) fun i q hq => ?_)
  have e := one_place nd hq hp
  subst e
  rw [hp] at hq
  cases hq
  exact wpAny_pure ⟨p.2, rfl, wpAny_pure h⟩
theorem store {Q : Unit → Shared → Prop} (hu : M.room A.in1) (hk : M.is s.heap k key) (R : Rows M s.heap d xs) (hx : ∀ x ∈ xs, M.is s.heap x.1 x.2.1) (hz : xs.length ≤ sizeLine) (new : k ∉ xs.map (·.1))
    (hQ : ∀ h', Rows M h' d (xs ++ [(k, key, v)]) → Heap.SameBut d s.heap h' → Q () { s with heap := h', toks := s.toks + M.draws k }) : wpAny (model prog w) A (setItem (.ref d) key v) Q E s := by
  unfold setItem
  try with_reducible refine wpAny_holding ?_
  refine wpAny_bind (wpAny_sequenceKey R.ty (by decide) ?_)
  refine wpAny_bind (wpAny_callSpecial?_slot (name := Str.ofString "__setitem__") R.ty slot_dict_setitem (wpAny_call_entry slot_dict_setitem R.ty entry_dict_setitem ?_ (args_dict_setitem _ _ _)))
  show wpAny _ _ (Builtin.Dict.notOrdered "__setitem__" ⟨[.ref d, key, v], []⟩ >>= _) _ _ s
  refine wpAny_bind (wpAny_notOrdered_dict R.ty ?_)
  show wpAny _ _ (dictSet d key v >>= _) _ _ s
  exact wpAny_bind (put hu hk R hx hz new fun h' R' hs => wpAny_pure ⟨.none, rfl, wpAny_pure (hQ h' R' hs)⟩)
end
/-! ## texts and tuples of ints -/
inductive MK where
  | row (x : Str)
  | tup (ks : List Int)
  deriving DecidableEq
def mixIs (prog : Program) (w : World) (h : Heap) : MK → Value → Prop
  | .row x, v => ∃ t, v = .str x t
  | .tup ks, v => ∃ a, v = .ref a ∧ IsTupleKey (intKind prog w) h ks a
theorem tup_of {prog : Program} {w : World} {h : Heap} {ks : List Int} {a : Addr} (x : IsTupleKey (intKind prog w) h ks a) : ∃ its, h.IsTuple a its := by
  obtain ⟨o, items, n, ho, hc, hd, _⟩ := x
  exact ⟨items, o, ho, hc, n, hd⟩
def mixK (prog : Program) (w : World) : MKind prog w MK where
  is := mixIs prog w
  hash := fun k => match k with
    | .row x => hashStr w x
    | .tup ks => tupleKeyHash (intKind prog w) ks
  draws := fun k => match k with
    | .row _ => 1
    | .tup ks => ks.length + 1
  room := fun A => A.units < cLine
  inj := fun {h v x y} hx hy => by
    cases x with
    | row x =>
      cases y with
      | row y =>
        obtain ⟨t, rfl⟩ := hx
        obtain ⟨u, e⟩ := hy
        injection e with e1 _
        rw [e1]
      | tup y =>
        obtain ⟨t, rfl⟩ := hx
        obtain ⟨u, e, _⟩ := hy
        exact nomatch e
    | tup x =>
      cases y with
      | row y =>
        obtain ⟨u, rfl, _⟩ := hx
        obtain ⟨t, e⟩ := hy
        exact nomatch e
      | tup y =>
        obtain ⟨a, rfl, h1⟩ := hx
        obtain ⟨b, e, h2⟩ := hy
        cases e
        rw [h1.inj h2]
  text := fun {h v x y z t} hx hy => by
    cases x with
    | tup x =>
      obtain ⟨a, e, _⟩ := hx
      exact nomatch e
    | row x =>
      obtain ⟨t', e⟩ := hx
      injection e with e1 _
      subst e1
      cases y with
      | row y =>
        obtain ⟨u, rfl⟩ := hy
        by_cases q : z = y
        · subst q; simp [Value.isStr]
        · have q2 : ¬ MK.row z = MK.row y := fun e => q (MK.row.inj e)
          rw [decide_eq_false q2]
          simp [Value.isStr, Ne.symm q]
      | tup y =>
        obtain ⟨a, rfl, _⟩ := hy
        rfl
  hashed := fun {A E s k v Q} hu hk h => by
    cases k with
    | row x =>
      obtain ⟨t, rfl⟩ := hk
      exact wpAny_pyHash_str h
    | tup ks =>
      obtain ⟨a, rfl, hk⟩ := hk
      exact wpAny_pyHash_tuple hu hk h
  same := fun {A E s x y u v Q} hu hx hy h => by
    cases x with
    | row x =>
      obtain ⟨t, rfl⟩ := hx
      cases y with
      | row y =>
        obtain ⟨t', rfl⟩ := hy
        refine wpAny_eqBool_str ?_
        have e : decide (MK.row x = MK.row y) = decide (x = y) := by rw [decide_eq_decide]; exact ⟨MK.row.inj, fun e => by rw [e]⟩
        rw [← e]
        exact h
      | tup y =>
        obtain ⟨a, rfl, hk⟩ := hy
        obtain ⟨its, ht⟩ := tup_of hk
        exact SeqAt.EqAt.str_tuple x t ht hu prog w E Q h
    | tup x =>
      obtain ⟨a, rfl, hk⟩ := hx
      cases y with
      | row y =>
        obtain ⟨t', rfl⟩ := hy
        obtain ⟨its, ht⟩ := tup_of hk
        exact SeqAt.EqAt.tuple_str y t' ht hu prog w E Q h
      | tup y =>
        obtain ⟨b, rfl, hk2⟩ := hy
        refine wpAny_eqBool_tuple hu hk hk2 ?_
        have e : decide (MK.tup x = MK.tup y) = decide (x = y) := by rw [decide_eq_decide]; exact ⟨MK.tup.inj, fun e => by rw [e]⟩
        rw [← e]
        exact h
  quiet := fun {A E s k v Q} hk h => by
    cases k with
    | row x =>
      obtain ⟨t, rfl⟩ := hk
      rw [eqIsQuiet_byValue 8 rfl]
      exact wpAny_pure h
    | tup ks =>
      obtain ⟨a, rfl, hk⟩ := hk
      exact wpAny_eqIsQuiet_tuple hk h
end Mix
namespace Ts
open PySem PySem.Spec PyProof.Rows L2 Mix
abbrev Ks := List (MK × V × V)
/-- the dict at d: keys, their values as handed in, what they hold -/
def MDφ (P : Program) (w : World) (d : Addr) (ks : Ks) (h : Heap) : Prop := (d == sysModules) = false ∧ ks.length ≤ sizeLine ∧
  ∃ xs : List (MK × Value × Value), Paired (fun (p : MK × V × V) (q : MK × Value × Value) => p.1 = q.1 ∧ RelV p.2.1 q.2.1 ∧ RelV p.2.2 q.2.2) ks xs ∧ Rows (mixK P w) h d xs
def MD (P : Program) (w : World) (d : Addr) (ks : Ks) : HO := .ext (MDφ P w d ks)
theorem md_stay {P : Program} {w : World} {d : Addr} {ks : Ks} (h1 h2 : Heap) (p : MDφ P w d ks h1) (k : ∀ o, h1.get? d = some o → h2.get? d = some o) : MDφ P w d ks h2 := by
  obtain ⟨a, b, xs, r, o, es, ep, ho, q⟩ := p
  exact ⟨a, b, xs, r, o, es, ep, k o ho, q⟩
theorem md_ok {P : Program} {w : World} {H : Hp} {h : Heap} {d : Addr} {ks : Ks} (p : MDφ P w d ks h) : ObjOk P w H h d (MD P w d ks) := by
  obtain ⟨a, b, xs, r, o, es, ep, ho, q⟩ := id p
  exact ⟨p, ⟨o, ho⟩, md_stay⟩
/-- a dict's keys -/
def kk (ks : Ks) : List MK := ks.map fun p => p.1
/-- what a key's value is -/
def KeyV (H : Hp) : MK → V → Prop
  | .row x, y => y = .str x
  | .tup is, y => ∃ a, y = .ref a ∧ H a = some (.tup (is.map V.int))
def KeysV (H : Hp) (ks : Ks) : Prop := ∀ p ∈ ks, KeyV H p.1 p.2.1
theorem keyV_ex {H H' : Hp} (e : Ex H H') {k : MK} {y : V} (h : KeyV H k y) : KeyV H' k y := by
  cases k with
  | row x => exact h
  | tup is =>
    obtain ⟨a, h1, h2⟩ := h
    exact ⟨a, h1, e _ _ h2⟩
theorem items_ints {P : Program} {w : World} : ∀ {is : List Int} {its : List Value}, Vals (is.map V.int) its → ItemsAre (intKind P w) is its
  | [], _, .nil => .nil
  | i :: is, _, .cons ⟨t, e⟩ r => by
    subst e
    exact .cons (by show Value.isInt i (.int i t) = true; simp [Value.isInt]) (items_ints r)
theorem key_is {P : Program} {w : World} {H : Hp} {h : Heap} (ok : HOk P w H h) {k : MK} {y : V} {u : Value} (kv : KeyV H k y) (r : RelV y u) : mixIs P w h k u := by
  cases k with
  | row x =>
    cases (show y = .str x from kv)
    exact r
  | tup is =>
    obtain ⟨a, rfl, h2⟩ := kv
    cases (show u = .ref a from r)
    obtain ⟨_, its, rv, o, h3, h4, n, h5⟩ := (show ObjOk P w H h a (.tup (is.map V.int)) from ok a _ h2)
    exact ⟨a, rfl, o, its.toArray, n, h3, h4, h5, by simpa using items_ints rv⟩
section
variable {X : Cx} {o i value : Expr} {pos pos' : Pos} {td ty tv : TE} {pins : List (Addr × Obj)} {σ : L2.St} {H : Hp} {s : Shared}
theorem Inv.md {d : Addr} {ks : Ks} (I : Inv X pins σ H s) (h : H d = some (MD X.prog X.w d ks)) (kv : KeysV H ks) :
    (d == sysModules) = false ∧ ks.length ≤ sizeLine ∧ ∃ xs : List (MK × Value × Value), Paired (fun (p : MK × V × V) (q : MK × Value × Value) => p.1 = q.1 ∧ RelV p.2.1 q.2.1 ∧ RelV p.2.2 q.2.2) ks xs ∧ Rows (mixK X.prog X.w) s.heap d xs ∧ ∀ x ∈ xs, (mixK X.prog X.w).is s.heap x.1 x.2.1 := by
  obtain ⟨⟨a, b, xs, r, R⟩, _⟩ := (show ObjOk X.prog X.w H s.heap d (MD X.prog X.w d ks) from I.hok d _ h)
  refine ⟨a, b, xs, r, R, ?_⟩
  have all : ∀ {l : Ks} {m : List (MK × Value × Value)}, Paired (fun (p : MK × V × V) (q : MK × Value × Value) => p.1 = q.1 ∧ RelV p.2.1 q.2.1 ∧ RelV p.2.2 q.2.2) l m → (∀ p ∈ l, KeyV H p.1 p.2.1) → ∀ x ∈ m, (mixK X.prog X.w).is s.heap x.1 x.2.1 := by
    intro l m q
    induction q with
    | nil => intro _ x hx; exact nomatch hx
    | @cons p q ps qs hq t ih =>
      intro hk x hx
      rcases List.mem_cons.mp hx with e | hx
      · subst e
        have z := key_is I.hok (hk p List.mem_cons_self) hq.2.1
        rw [hq.1] at z
        exact z
      · exact ih (fun p hp => hk p (List.mem_cons_of_mem _ hp)) x hx
  exact all r kv
theorem pairs_keys {l : Ks} {m : List (MK × Value × Value)} (q : Paired (fun (p : MK × V × V) (q : MK × Value × Value) => p.1 = q.1 ∧ RelV p.2.1 q.2.1 ∧ RelV p.2.2 q.2.2) l m) : kk l = m.map (·.1) := by
  induction q with
  | nil => rfl
  | @cons a b as bs hq _ ih =>
    show a.1 :: kk as = b.1 :: bs.map (·.1)
    rw [hq.1, ih]
theorem pairs_get {l : Ks} {m : List (MK × Value × Value)} (q : Paired (fun (p : MK × V × V) (q : MK × Value × Value) => p.1 = q.1 ∧ RelV p.2.1 q.2.1 ∧ RelV p.2.2 q.2.2) l m) : ∀ {j : Nat} {p : MK × V × V}, l[j]? = some p → ∃ r, m[j]? = some r ∧ p.1 = r.1 ∧ RelV p.2.1 r.2.1 ∧ RelV p.2.2 r.2.2 := by
  induction q with
  | nil => intro j p h; simp at h
  | cons hq _ ih =>
    intro j p h
    cases j with
    | zero =>
      simp at h
      subst h
      exact ⟨_, rfl, hq⟩
    | succ j => exact ih (by simpa using h)

/-! the readings; md stands for the dict's description -/
abbrev Mdf := Addr → Ks → HO
def tMNew (md : Mdf) : TE := fun _ H Q => ∀ d, H d = none → Q (.ref d) (upd H d (md d []))
def tMIn (md : Mdf) (ty td : TE) : TE := fun σ H Q => ty σ H fun y H1 => td σ H1 fun x H2 => ∃ (d : Addr) (ks : Ks) (k : MK), x = .ref d ∧ H2 d = some (md d ks) ∧ KeyV H2 k y ∧ KeysV H2 ks ∧ Q (.bl (hasG k (kk ks))) H2
def tMNotIn (md : Mdf) (ty td : TE) : TE := fun σ H Q => ty σ H fun y H1 => td σ H1 fun x H2 => ∃ (d : Addr) (ks : Ks) (k : MK), x = .ref d ∧ H2 d = some (md d ks) ∧ KeyV H2 k y ∧ KeysV H2 ks ∧ Q (.bl (!hasG k (kk ks))) H2
def tMGet (md : Mdf) (td ty : TE) : TE := fun σ H Q => td σ H fun x H1 => ty σ H1 fun y H2 => ∃ (d : Addr) (ks : Ks) (k : MK) (j : Nat) (p : V × V), x = .ref d ∧ H2 d = some (md d ks) ∧ KeyV H2 k y ∧ KeysV H2 ks ∧ ks[j]? = some (k, p) ∧ Q p.2 H2
def sMPut (md : Mdf) (td ty tv : TE) : TS := fun D σ H => tv σ H fun v H1 => td σ H1 fun x H2 => ty σ H2 fun y H3 => ∃ (d : Addr) (ks : Ks) (k : MK), x = .ref d ∧ H3 d = some (md d ks) ∧ KeyV H3 k y ∧ KeysV H3 ks ∧ k ∉ kk ks ∧ ks.length < sizeLine ∧
  D.nx σ (upd H3 d (md d (ks ++ [(k, y, v)])))
variable {md : Mdf}
theorem pe_mnew (hm : md = MD X.prog X.w) : PE X (.Dict [] [] pos) (tMNew md) := ⟨fun pins s σ H Q I h => by
  subst hm
  have hb := I.big
  have ok : MDφ X.prog X.w s.heap.objs.size [] (s.heap.push { cls := .type "dict", data := .dict #[] }) :=
    ⟨beq_eq_false_iff_ne.mpr (Ne.symm (Nat.ne_of_lt hb)), Nat.zero_le _, [], .nil, _, #[], 0, Heap.get?_push_size _ rfl, ⟨rfl, rfl, rfl⟩, rfl, rfl, List.nodup_nil⟩
  exact wpAny_Dict_empty ⟨.ref s.heap.objs.size, _, I.laid (a := s.heap.objs.size) (o := MD X.prog X.w s.heap.objs.size []) (t' := s.toks) (fun _ _ q => Heap.get?_push_of_some _ q) (Nat.le_refl _) (md_ok ok), rfl, h _ (I.hok.fresh (Nat.le_refl _))⟩⟩
theorem room_of {A : Around} (hu : A.units + 1 < cLine) : A.in1.units < cLine := hu
theorem pc_min (hm : md = MD X.prog X.w) (hu : X.A.units + 1 < cLine) (hi : PE X i ty) (ho : PE X o td) : PC X .In i o (tMIn md ty td) := by
  subst hm
  refine ⟨fun pins s σ H Q I h => ?_⟩
  refine thn (hi.run pins s σ H _ I h) fun iv s1 ⟨y, H1, I1, ry, q1⟩ => thn (ho.run pins s1 σ H1 _ I1 q1) fun u s2 ⟨x, H2, I2, rx, d, ks, k, ex, hd, kv, kvs, q2⟩ => ?_
  subst ex
  obtain rfl : u = Value.ref d := rx
  obtain ⟨lo, _, xs, r, R, hx⟩ := Inv.md I2 hd kvs
  refine Mix.op_in (room_of hu) (key_is I2.hok kv ry) lo R hx ⟨.bl _, H2, I2.tok _, rfl, ?_⟩
  rw [← pairs_keys r]
  exact q2
theorem pc_mnotin (hm : md = MD X.prog X.w) (hu : X.A.units + 1 < cLine) (hi : PE X i ty) (ho : PE X o td) : PC X .NotIn i o (tMNotIn md ty td) := by
  subst hm
  refine ⟨fun pins s σ H Q I h => ?_⟩
  refine thn (hi.run pins s σ H _ I h) fun iv s1 ⟨y, H1, I1, ry, q1⟩ => thn (ho.run pins s1 σ H1 _ I1 q1) fun u s2 ⟨x, H2, I2, rx, d, ks, k, ex, hd, kv, kvs, q2⟩ => ?_
  subst ex
  obtain rfl : u = Value.ref d := rx
  obtain ⟨lo, _, xs, r, R, hx⟩ := Inv.md I2 hd kvs
  refine Mix.op_notin (room_of hu) (key_is I2.hok kv ry) lo R hx ⟨.bl _, H2, I2.tok _, rfl, ?_⟩
  rw [← pairs_keys r]
  exact q2
theorem pe_mget (hm : md = MD X.prog X.w) (hu : X.A.units + 1 < cLine) (ho : PE X o td) (hi : PE X i ty) (hs : NoSl i) : PE X (.Subscript o i pos) (tMGet md td ty) := by
  subst hm
  refine ⟨fun pins s σ H Q I h => ?_⟩
  refine subD_of PySem.F.slot_dict_getitem.lookup hs (thn (ho.run pins s σ H _ I h) fun u s1 ⟨x, H1, I1, rx, q1⟩ => thn (hi.run pins s1 σ H1 _ I1 q1) fun iv s2 ⟨y, H2, I2, ry, d, ks, k, j, p, ex, hd, kv, kvs, hp, q2⟩ => ?_)
  subst ex
  obtain rfl : u = Value.ref d := rx
  obtain ⟨lo, _, xs, r, R, hx⟩ := Inv.md I2 hd kvs
  obtain ⟨⟨k', q⟩, h1, h2, _, h4⟩ := pairs_get r hp
  cases (show k = k' from h2)
  exact ⟨R.ty, Mix.item (room_of hu) (key_is I2.hok kv ry) R hx h1 ⟨p.2, H2, I2.tok _, h4, q2⟩⟩
theorem ps_mput (hm : md = MD X.prog X.w) (hu : X.A.units + 1 < cLine) (ho : PE X o td) (hi : PE X i ty) (hv : PE X value tv) (hs : swapsWith value (some (.Subscript o i pos')) pos.line X.env = pure false) :
    PS X (.Assign [.Subscript o i pos'] value pos) (sMPut md td ty tv) := by
  subst hm
  refine ⟨fun pins s σ H D I h => ?_⟩
  refine wpAny_Assign_Subscript (thn (hv.run pins s σ H _ I h) fun r s1 ⟨v, H1, I1, rv, q1⟩ => thn (ho.run pins s1 σ H1 _ I1 q1) fun u s2 ⟨x, H2, I2, rx, q2⟩ => thn (hi.run pins s2 σ H2 _ I2 q2) fun iv s3 ⟨y, H3, I3, ry, d, ks, k, ex, hd, kv, kvs, new, hl, q3⟩ => ?_) hs
  subst ex
  obtain rfl : u = Value.ref d := rx
  obtain ⟨lo, hz, xs, pr, R, hx⟩ := Inv.md I3 hd kvs
  have hxl : xs.length = ks.length := by
    have := congrArg List.length (pairs_keys pr)
    simpa [kk] using this.symm
  refine Mix.store (room_of hu) (key_is I3.hok kv ry) R hx (by omega) (by rw [← pairs_keys pr]; exact new) fun h' R' hs' => ?_
  have ok : MDφ X.prog X.w d (ks ++ [(k, y, v)]) h' := ⟨lo, by rw [List.length_append]; exact hl, _, Paired.snoc pr ⟨rfl, ry, rv⟩, R'⟩
  have he : ∃ q, h'.get? d = some q := let ⟨q, _, _, hq, _⟩ := R'; ⟨q, hq⟩
  exact ⟨σ, _, d_write I3 (by rw [hd]; exact True.intro) hs' he (md_ok ok), q3⟩
theorem w_mnew {Q : VK} (q : ∀ d, H d = none → Q (.ref d) (upd H d (md d []))) : tMNew md σ H Q := q
theorem w_mnotin {Q : VK} (q : ty σ H fun y H1 => td σ H1 fun x H2 => ∃ (d : Addr) (ks : Ks) (k : MK), x = .ref d ∧ H2 d = some (md d ks) ∧ KeyV H2 k y ∧ KeysV H2 ks ∧ Q (.bl (!hasG k (kk ks))) H2) : tMNotIn md ty td σ H Q := q
theorem w_mget {Q : VK} (q : td σ H fun x H1 => ty σ H1 fun y H2 => ∃ (d : Addr) (ks : Ks) (k : MK) (j : Nat) (p : V × V), x = .ref d ∧ H2 d = some (md d ks) ∧ KeyV H2 k y ∧ KeysV H2 ks ∧ ks[j]? = some (k, p) ∧ Q p.2 H2) : tMGet md td ty σ H Q := q
theorem w_mput {nx bk ct : L2.St → Hp → Prop} {rt : VK} (q : tv σ H fun v H1 => td σ H1 fun x H2 => ty σ H2 fun y H3 => ∃ (d : Addr) (ks : Ks) (k : MK), x = .ref d ∧ H3 d = some (md d ks) ∧ KeyV H3 k y ∧ KeysV H3 ks ∧ k ∉ kk ks ∧ ks.length < sizeLine ∧ nx σ (upd H3 d (md d (ks ++ [(k, y, v)])))) : sMPut md td ty tv ⟨nx, rt, bk, ct⟩ σ H := q
end
end Ts
namespace Ts
open PySem L2 Mix
/-- where the program's classes stand, and what stands for a dict's description -/
structure Cs where
  Ledger : Addr
  Book : Addr
  Looker : Addr
  TwinError : Addr
  NoRow : Addr
  NoSum : Addr
  NoPlace : Addr
  NoBlock : Addr
  Full : Addr
  Strange : Addr
  md : Mdf
def Cs.none : Cs := ⟨0, 0, 0, 0, 0, 0, 0, 0, 0, 0, fun _ _ => .lst []⟩
/-- what is a whole number: an int that is no truth; of the kinds that are asked -/
def isWholeV (K : PySem.W.Frag) (H : Hp) (v : V) (b : Bool) : Prop :=
  (∃ i, v = .int i ∧ b = true) ∨ (∃ x, v = .bl x ∧ b = false) ∨ (∃ x, v = .str x ∧ b = false) ∨ (v = .non ∧ b = false) ∨ (∃ a xs, v = .ref a ∧ (SqL K H a xs ∨ SqT K H a xs) ∧ b = false)
/-- what was there is there, but for the objects of S -/
def Kp (S : List Addr) (H H' : Hp) : Prop := ∀ a o, H a = some o → a ∉ S → H' a = some o
theorem Kp.refl {S : List Addr} {H : Hp} : Kp S H H := fun _ _ h _ => h
theorem Kp.trans {S : List Addr} {H H1 H2 : Hp} (a : Kp S H H1) (b : Kp S H1 H2) : Kp S H H2 := fun x o h n => b x o (a x o h n) n
theorem Kp.mono {S S' : List Addr} {H H' : Hp} (a : Kp S H H') (h : ∀ x ∈ S, x ∈ S') : Kp S' H H' := fun x o q n => a x o q fun z => n (h x z)
theorem Kp.of_ex {S : List Addr} {H H' : Hp} (e : Ex H H') : Kp S H H' := fun x o q _ => e x o q
theorem Kp.set {S : List Addr} {H H' : Hp} {p : Addr} {o : HO} (a : Kp S H H') (h : p ∈ S) : Kp S H (upd H' p o) := fun x u q n => by
  have ne : x ≠ p := fun z => n (by rw [z]; exact h)
  rw [upd_ne ne]
  exact a x u q n
theorem Kp.new {S : List Addr} {H H' : Hp} {p : Addr} {o : HO} (a : Kp S H H') (h : H' p = none) : Kp S H (upd H' p o) := fun x u q n => by
  have z := a x u q n
  rw [upd_ne (ne_of_none z h)]
  exact z
/-- a new object does not count among what was there -/
theorem Kp.fresh {S : List Addr} {H H' : Hp} {p : Addr} {o : HO} (a : Kp S H H') (h : H p = none) : Kp S H (upd H' p o) := fun x u q n => by
  rw [upd_ne (ne_of_none q h)]
  exact a x u q n
theorem Kp.drop {S S' : List Addr} {H H' : Hp} (a : Kp S H H') (h : ∀ x ∈ S, x ∈ S' ∨ H x = none) : Kp S' H H' := fun x o q n => a x o q fun z => by
  rcases h x z with r | r
  · exact n r
  · rw [q] at r; cases r
theorem Kp.sql {K : PySem.W.Frag} {S : List Addr} {H H' : Hp} {a : Addr} {xs : List V} (k : Kp S H H') (h : SqL K H a xs) (n : a ∉ S) : SqL K H' a xs := by
  rcases h with (h | ⟨o, h⟩) | h
  · exact .inl (.inl (k _ _ h n))
  · exact .inl (.inr ⟨o, k _ _ h n⟩)
  · exact .inr h
theorem Kp.sqt {K : PySem.W.Frag} {S : List Addr} {H H' : Hp} {a : Addr} {xs : List V} (k : Kp S H H') (h : SqT K H a xs) (n : a ∉ S) : SqT K H' a xs := by
  rcases h with (h | ⟨o, h⟩) | h
  · exact .inl (.inl (k _ _ h n))
  · exact .inl (.inr ⟨o, k _ _ h n⟩)
  · exact .inr h
theorem Kp.keyV {S : List Addr} {H H' : Hp} {k : MK} {v : V} (a : Kp S H H') (h : KeyV H k v) (n : ∀ x o, x ∈ S → H x = some o → ¬ ∃ ys, o = .tup ys) : KeyV H' k v := by
  cases k with
  | row x => exact h
  | tup is =>
    obtain ⟨t, h1, h2⟩ := h
    exact ⟨t, h1, a _ _ h2 fun z => n _ _ z h2 ⟨_, rfl⟩⟩
theorem cast_pow (k : Nat) : ((2 ^ k : Nat) : Int) = (2 : Int) ^ k := by push_cast; rfl
theorem cast_div (a b : Nat) : (a : Int) / (b : Int) = ((a / b : Nat) : Int) := by push_cast; rfl
theorem cast_mod (a b : Nat) : (a : Int) % (b : Int) = ((a % b : Nat) : Int) := by push_cast; rfl
/-! ### the loop over a text's signs, a store into a list -/
section
variable {K : PySem.W.Frag} {σ : L2.St} {H : Hp} {t : TS} {te : TE} {g : TG} {nx bk ct : L2.St → Hp → Prop} {rt : VK}
theorem w_iStr {R : It → Hp → Prop} (q : te σ H fun v H1 => ∃ x, v = .str x ∧ R (Its x) H1) : iStr te σ H R := q
theorem lb_str {z : Str} (Pv : Nat → L2.St → Hp → Prop) (h0 : Pv 0 σ H) (hs : ∀ (i : Nat) (c : Nat) σ H, z.cps[i]? = some c → Pv i σ H → g (.str ⟨#[c]⟩) σ H fun σ2 H2 => t ⟨Pv (i + 1), rt, nx, Pv (i + 1)⟩ σ2 H2) (hd : ∀ σ H, Pv z.cps.size σ H → nx σ H) :
    LB g t nx rt σ (Its z) H := by
  refine ⟨fun i m σ H => m = z.cps.size - i ∧ i ≤ z.cps.size ∧ Pv i σ H, ⟨z.cps.size, by simp, Nat.zero_le _, h0⟩, ?_⟩
  rintro i m σ H ⟨rfl, hi, p⟩
  by_cases hlt : i < z.cps.size
  · refine .inr ⟨hlt, Pv (i + 1), fun σ' H' p' => ⟨z.cps.size - (i + 1), by omega, rfl, hlt, p'⟩, fun x H' y => ?_⟩
    obtain ⟨rfl, c, hc, rfl⟩ := y
    exact hs i c σ _ hc p
  · have e : i = z.cps.size := by omega
    subst e
    exact .inl ⟨Nat.le_refl _, hd σ H p⟩
theorem w_setL {a : Addr} {xs : List V} {i : Nat} {v : V} {R : Hp → Prop} (h : H a = some (.lst xs)) (hi : i < xs.length) (q : R (upd H a (.lst (xs.set i v)))) : rSetL (.ref a) (.int (i : Int)) v H R := ⟨a, xs, i, i, rfl, rfl, h, by
  unfold ixN
  rw [if_pos (by omega), if_pos (by omega)]
  simp, q⟩
def rNotInS : R2 := fun x y H Q => ∃ (c : Nat) (z : Str), x = .str ⟨#[c]⟩ ∧ y = .str z ∧ Q (.bl (!decide (c ∈ z.cps.toList))) H
theorem op_notInS1 {X : Cx} : OpR X (compareOp .NotIn) rNotInS := op_notIn_sign
theorem w_notInS {c : Nat} {z : Str} {Q : VK} (q : Q (.bl (!decide (c ∈ z.cps.toList))) H) : rNotInS (.str ⟨#[c]⟩) (.str z) H Q := ⟨c, z, rfl, rfl, q⟩
end
end Ts
namespace Ts
open PySem L2 Mix
section
variable {K : PySem.W.Frag} {σ : L2.St} {H H1 : Hp} {Q : VK} {t : TE} {tt : TT} {te : TE} {g : TG} {vs : List Nat} {D : Addr}
theorem w_noPart {R : Option Int → Hp → Prop} (q : R none H) : tNoPart σ H R := q
theorem w_part {R : Option Int → Hp → Prop} (q : t σ H fun x H1 => ∃ i, x = .int i ∧ R (some i) H1) : tPart t σ H R := q
theorem w_pi {i : Int} {P : Int → Prop} (q : P i) : ∃ k, V.int i = .int k ∧ P k := ⟨i, rfl, q⟩
/-! comprehensions -/
def LC (g : TG) (tt : TT) (te : TE) (vs : List Nat) (σ : L2.St) (Q : VK) (J : It) (D : Addr) (H0 : Hp) : Prop := ∃ W : Nat → Nat → Hp → Prop, (∃ m, W 0 m H0) ∧ ∀ i m H, W i m H →
  (J.stop i H ∧ Q (.ref D) H) ∨ (J.go i H ∧ ∃ Nx : Hp → Prop, (∀ H', Nx H' → ∃ m', m' < m ∧ W (i + 1) m' H') ∧ ∀ x H', J.yld i H x H' → g x (wipe σ vs) H' fun σ2 H2 => wipe σ2 vs = wipe σ vs ∧ tt σ2 H2 fun b H3 =>
    if b = true then te σ2 H3 fun y H4 => ∃ acc, H4 D = some (.lst acc) ∧ acc.length < sizeLine ∧ Nx (upd H4 D (.lst (acc ++ [y]))) else Nx H3)
theorem w_lc {wi : TI} (q : wi σ H fun J H1 => ∀ D, H1 D = none → LC g tt te vs σ Q J D (upd H1 D (.lst []))) : tLc wi g tt te vs σ H Q := q
theorem lcb_range {n : Nat} (Pv : Nat → Hp → Prop) (h0 : Pv 0 (upd H1 D (.lst [])))
    (hs : ∀ (i : Nat) H, i < n → Pv i H → g (.int (i : Int)) (wipe σ vs) H fun σ2 H2 => wipe σ2 vs = wipe σ vs ∧ tt σ2 H2 fun b H3 =>
      if b = true then te σ2 H3 fun y H4 => ∃ acc, H4 D = some (.lst acc) ∧ acc.length < sizeLine ∧ Pv (i + 1) (upd H4 D (.lst (acc ++ [y]))) else Pv (i + 1) H3) (hd : ∀ H, Pv n H → Q (.ref D) H) : LC g tt te vs σ Q (Itr 0 n) D (upd H1 D (.lst [])) :=
  lc_range (lo := 0) (n := n) (Qd := fun H => Q (.ref D) H) Pv h0 (fun i H hi p => by rw [Int.zero_add]; exact hs i H hi p) hd
theorem lcb_list {a : Addr} {xs : List V} (Pv : Nat → Hp → Prop) (h0 : Pv 0 (upd H1 D (.lst []))) (hl : ∀ i H, i ≤ xs.length → Pv i H → SqL K H a xs)
    (hs : ∀ i x H, xs[i]? = some x → Pv i H → g x (wipe σ vs) H fun σ2 H2 => wipe σ2 vs = wipe σ vs ∧ tt σ2 H2 fun b H3 =>
      if b = true then te σ2 H3 fun y H4 => ∃ acc, H4 D = some (.lst acc) ∧ acc.length < sizeLine ∧ Pv (i + 1) (upd H4 D (.lst (acc ++ [y]))) else Pv (i + 1) H3) (hd : ∀ H, Pv xs.length H → Q (.ref D) H) : LC g tt te vs σ Q (Itl K a) D (upd H1 D (.lst [])) :=
  lc_list (K := K) (a := a) (xs := xs) (Qd := fun H => Q (.ref D) H) Pv h0 hl hs hd
theorem w_lstRg2 {ta tb : TE} (q : ta σ H fun x H1 => tb σ H1 fun y H2 => ∃ i j, x = .int i ∧ y = .int j ∧ RgOk i j ∧ ∀ p, H2 p = none → Q (.ref p) (upd H2 p (.lst (rgV i j)))) : tLstRg (tRg2 ta tb) σ H Q := q
theorem w_lstRg1 {ta : TE} (q : ta σ H fun x H1 => ∃ n, x = .int n ∧ RgOk 0 n ∧ ∀ p, H1 p = none → Q (.ref p) (upd H1 p (.lst (rgV 0 n)))) : tLstRg (tRg1 ta) σ H Q := q
theorem w_yes {QT : Bool → Hp → Prop} (q : QT true H) : tYes σ H QT := q
end
end Ts

local macro_rules | `(tactic| walk_at "s1") => `(tactic| ((with_reducible refine Ts.w_mul ?_ ?_); (first | exact Or.inl ⟨by omega, by omega⟩ | exact Or.inr ⟨by omega, by omega⟩)))
local macro_rules | `(tactic| walk_at "s1") => `(tactic| ((with_reducible refine Ts.w_div ?_ ?_ ?_); (first | decide | omega); (first | decide | omega)))
local macro_rules | `(tactic| walk_at "s1") => `(tactic| ((with_reducible refine Ts.w_mod ?_ ?_); (first | decide | omega)))
local macro_rules | `(tactic| walk_at "s1") => `(tactic| ((with_reducible refine Ts.w_pow ?_ ?_); (exact ⟨by decide, by decide, by decide⟩)))
local macro_rules | `(tactic| walk_at "s1") => `(tactic| first | with_reducible refine Ts.w_seq ?_ | with_reducible refine Ts.w_asg ?_ | with_reducible refine Ts.w_ret ?_ | with_reducible refine Ts.w_op ?_ | with_reducible refine Ts.w_c ?_ | with_reducible refine Ts.w_if ?_ | with_reducible refine Ts.w_v0 ?_ | with_reducible refine Ts.w_v1 ?_ | with_reducible refine Ts.w_v2 ?_ | with_reducible refine Ts.w_v3 ?_ | with_reducible refine Ts.w_v4 ?_ | with_reducible refine Ts.w_v5 ?_ | with_reducible refine Ts.w_v6 ?_ | with_reducible refine Ts.w_v7 ?_ | with_reducible refine Ts.w_v8 ?_ | with_reducible refine Ts.w_v9 ?_ | with_reducible refine Ts.w_v10 ?_ | with_reducible refine Ts.w_v11 ?_ | with_reducible refine Ts.w_v12 ?_ | with_reducible refine Ts.w_v13 ?_ | with_reducible refine Ts.w_v14 ?_ | with_reducible refine Ts.w_v15 ?_ | with_reducible refine Ts.w_v16 ?_ | with_reducible refine Ts.w_v17 ?_ | with_reducible refine Ts.w_v18 ?_ | with_reducible refine Ts.w_v19 ?_ | with_reducible refine Ts.w_n0 ?_ | with_reducible refine Ts.w_n1 ?_ | with_reducible refine Ts.w_n2 ?_ | with_reducible refine Ts.w_n3 ?_ | with_reducible refine Ts.w_n4 ?_ | with_reducible refine Ts.w_n5 ?_ | with_reducible refine Ts.w_n6 ?_ | with_reducible refine Ts.w_n7 ?_ | with_reducible refine Ts.w_n8 ?_ | with_reducible refine Ts.w_n9 ?_ | with_reducible refine Ts.w_n10 ?_ | with_reducible refine Ts.w_n11 ?_ | with_reducible refine Ts.w_n12 ?_ | with_reducible refine Ts.w_n13 ?_ | with_reducible refine Ts.w_n14 ?_ | with_reducible refine Ts.w_n15 ?_ | with_reducible refine Ts.w_n16 ?_ | with_reducible refine Ts.w_n17 ?_ | with_reducible refine Ts.w_n18 ?_ | with_reducible refine Ts.w_n19 ?_ | with_reducible refine Ts.w_test ?_ | with_reducible refine Ts.w_call ?_ | with_reducible refine Ts.w_cons ?_ | with_reducible refine Ts.w_nil ?_ | with_reducible refine Ts.w_drop ?_ | with_reducible refine Ts.w_for ?_ | with_reducible refine Ts.w_next ?_ | with_reducible refine Ts.w_break ?_ | with_reducible refine Ts.w_cont ?_ | with_reducible refine Ts.w_retN ?_ | with_reducible refine Ts.w_un ?_ | with_reducible refine Ts.w_tB ?_ | with_reducible refine Ts.w_bl ?_ | with_reducible refine Ts.w_chain ?_ | with_reducible refine Ts.w_and ?_ | with_reducible refine Ts.w_or ?_ | with_reducible refine Ts.w_not ?_ | with_reducible refine Ts.w_andV ?_ | with_reducible refine Ts.w_orV ?_ | with_reducible refine Ts.w_notV ?_ | with_reducible refine Ts.w_tup ?_ | with_reducible refine Ts.w_lst ?_ | with_reducible refine Ts.w_CB ?_ | with_reducible refine Ts.w_meth ?_ | with_reducible refine Ts.w_make ?_ | with_reducible refine Ts.w_callS ?_ | with_reducible refine Ts.w_fld ?_ | with_reducible refine Ts.w_bm0 ?_ | with_reducible refine Ts.w_bm ?_ | with_reducible refine Ts.w_sl ?_ | with_reducible refine Ts.w_sfld ?_ | with_reducible refine Ts.w_gSub ?_ | with_reducible refine Ts.w_gCons ?_ | with_reducible refine Ts.w_gNil ?_ | with_reducible refine Ts.w_iR1 ?_ | with_reducible refine Ts.w_iR2 ?_ | with_reducible refine Ts.w_iR3 ?_ | with_reducible refine Ts.w_iL ?_ | with_reducible refine Ts.w_iStr ?_ | with_reducible refine Ts.w_notInS ?_ | with_reducible refine Ts.w_mnew ?_ | with_reducible refine Ts.w_mnotin ?_ | with_reducible refine Ts.w_mget ?_ | with_reducible refine Ts.w_mput ?_ | with_reducible refine Ts.w_methS ?_ | with_reducible refine Ts.w_raise ?_ | with_reducible refine Ts.w_noPart ?_ | with_reducible refine Ts.w_part ?_ | with_reducible refine Ts.w_pi ?_ | with_reducible refine Ts.w_lc ?_ | with_reducible refine Ts.w_yes ?_ | with_reducible refine Ts.w_lstRg2 ?_ | with_reducible refine Ts.w_lstRg1 ?_ | with_reducible refine Ts.w_addI ?_ | with_reducible refine Ts.w_sub ?_ | with_reducible refine Ts.w_lt ?_ | with_reducible refine Ts.w_le ?_ | with_reducible refine Ts.w_gt ?_ | with_reducible refine Ts.w_ge ?_ | with_reducible refine Ts.w_eqI ?_ | with_reducible refine Ts.w_neI ?_ | with_reducible refine Ts.w_eqS ?_ | with_reducible refine Ts.w_neS ?_ | with_reducible refine Ts.w_isN ?_ | with_reducible refine Ts.w_notN ?_ | with_reducible refine Ts.w_max ?_ | with_reducible refine Ts.w_min ?_ | with_reducible refine Ts.w_intI ?_ | with_reducible refine Ts.w_intB ?_ | with_reducible refine Ts.w_neg ?_)
local macro_rules | `(tactic| walk_at "s") => `(tactic| repeat (walk_at "s1"))

namespace Ne
open PySem PySem.Spec PyProof.Rows PySem.SeqAt
section
variable {M : Model} {prog : Program} {w : World} {A : Around} {E : Value → Shared → Prop} {s : Shared} {K : PySem.W.Frag} {x y C : Addr} {ox oy : Obj} {od oe : Option Obj}
/-- object's own comparisons, of an instance of C -/
structure Plain (K : PySem.W.Frag) (C : Addr) : Prop where
  m : PySem.W.mroIn K C (.type "object") = some true
  e : PySem.W.findIn K (.ref C) "__eq__" = some (some (.builtin "object.__eq__"))
  n : PySem.W.findIn K (.ref C) "__ne__" = some (some (.builtin "object.__ne__"))
theorem bound {name : Str} {id : String} {args : List Value} {Q : Option Value → Shared → Prop} (X : K.In s.heap) (I : PySem.W.InstAt s.heap x ox C od) (hs : PySem.W.findIn K (.ref C) name = some (some (.builtin id))) (S : Slot "object" name id)
    (h : wpAny M A (call (.builtin id) (.ref x :: args)) (fun v => Q (some v)) E s) : wpAny M A (callSpecialIfBound? (.ref x) name args) Q E s := by
  simp only [callSpecialIfBound?, bindSpecialIfBound?]
  refine wpAny_holding (wpAny_bind (wpAny_bind (wpAny_bind (I.type.here ((PySem.W.looks_findIn X hs).here ?_)))))
  refine wpAny_bind (wpAny_askSetting (wpAny_ite ?_))
  have fin : wpAny M A (call (.builtin id) ([.ref x] ++ args) >>= fun v => pure (some v)) Q E s := wpAny_bind (wpAny_mono h (fun v s' h' => wpAny_pure h') fun _ _ h' => h')
  split
  · exact wpAny_bind (wpAny_of_eq (S.bind _) (wpAny_pure (by exact fin)))
  · exact wpAny_tryCatch (wpAny_bind (wpAny_of_eq (S.bind _) (wpAny_pure (by exact fin))))
theorem noTup (I : PySem.W.InstAt s.heap x ox C od) : ox.cls ≠ .type "tuple" := by
  rw [I.cls]
  intro e
  cases e
theorem eq_same {Q : Option Value → Shared → Prop} (p : Plain K C) (X : K.In s.heap) (I : PySem.W.InstAt s.heap x ox C od) (hq : Q (some (.bool true)) s) :
    wpAny (model prog w) A (callSpecialIfBound? (.ref x) "__eq__" [.ref x]) Q E s :=
  bound X I p.e F.cmp_object.eq (wpAny_call (codeAny_call_builtin F.cmp_object.eq.plain F.cmpEntry_eq (PySem.W.check_slot F.cmpKind_eq F.cmpSplit_eq (I.type.andThen (PySem.W.looks_mroIn X p.m)) (F.cmpArgs_eq _ _) (objEq_entry_same hq))))
theorem eq_other {Q : Option Value → Shared → Prop} (p : Plain K C) (X : K.In s.heap) (I : PySem.W.InstAt s.heap x ox C od) (hy : s.heap.get? y = some oy) (ne : x ≠ y) (hq : Q (some .notImplemented) s) :
    wpAny (model prog w) A (callSpecialIfBound? (.ref x) "__eq__" [.ref y]) Q E s :=
  bound X I p.e F.cmp_object.eq (wpAny_call (codeAny_call_builtin F.cmp_object.eq.plain F.cmpEntry_eq (PySem.W.check_slot F.cmpKind_eq F.cmpSplit_eq (I.type.andThen (PySem.W.looks_mroIn X p.m)) (F.cmpArgs_eq _ _) (objEq_entry_other ne I.at_ hy (noTup I) hq))))
theorem ne_same {Q : Option Value → Shared → Prop} (p : Plain K C) (X : K.In s.heap) (I : PySem.W.InstAt s.heap x ox C od) (hu : A.units + 1 < cLine) (hq : Q (some (.bool false)) s) :
    wpAny (model prog w) A (tryCompare (.ref x) "__ne__" (.ref x)) Q E s := by
  simp only [tryCompare]
  refine wpAny_bind (bound X I p.n F.cmp_object.ne (wpAny_call (codeAny_call_builtin F.cmp_object.ne.plain F.cmpEntry_ne (PySem.W.check_slot F.cmpKind_ne F.cmpSplit_ne (I.type.andThen (PySem.W.looks_mroIn X p.m)) (F.cmpArgs_ne _ _) ?_))))
  have hu1 : A.in1.units < cLine := hu
  unfold Builtin.«object.__ne__»
  repeat (first | with_reducible refine wpAny_cRoomFor hu1 ?_ | with_reducible refine eq_same p X I ?_ | wp_step)
  exact hq
theorem ne_other {Q : Option Value → Shared → Prop} (p : Plain K C) (X : K.In s.heap) (I : PySem.W.InstAt s.heap x ox C od) (hy : s.heap.get? y = some oy) (ne : x ≠ y) (hu : A.units + 1 < cLine) (hq : Q none s) :
    wpAny (model prog w) A (tryCompare (.ref x) "__ne__" (.ref y)) Q E s := by
  simp only [tryCompare]
  refine wpAny_bind (bound X I p.n F.cmp_object.ne (wpAny_call (codeAny_call_builtin F.cmp_object.ne.plain F.cmpEntry_ne (PySem.W.check_slot F.cmpKind_ne F.cmpSplit_ne (I.type.andThen (PySem.W.looks_mroIn X p.m)) (F.cmpArgs_ne _ _) ?_))))
  have hu1 : A.in1.units < cLine := hu
  unfold Builtin.«object.__ne__»
  repeat (first | with_reducible refine wpAny_cRoomFor hu1 ?_ | with_reducible refine eq_other p X I hy ne ?_ | wp_step)
  exact hq
theorem cmp_same {Q : Value → Shared → Prop} (p : Plain K C) (X : K.In s.heap) (I : PySem.W.InstAt s.heap x ox C od) (hu : A.units + 1 < cLine) (hq : Q (.bool false) s) :
    wpAny (model prog w) A (compareOp .NotEq (.ref x) (.ref x)) Q E s := by
  show wpAny _ A (richCompare .NotEq (.ref x) (.ref x)) Q E s
  have hu0 : A.units < cLine := Nat.lt_of_succ_lt hu
  simp only [richCompare, cmpInfo_NotEq, oneThing_ref]
  refine wpAny_holding (wpAny_bind (wpAny_cRoomFor hu0 ?_))
  refine wpAny_bind (I.type.here ?_)
  refine wpAny_bind (I.type.here ?_)
  rw [if_neg (by simp)]
  repeat (first | with_reducible refine ne_same p X I hu ?_ | wp_step)
  exact hq
theorem cmp_other {Q : Value → Shared → Prop} (p : Plain K C) (X : K.In s.heap) (I : PySem.W.InstAt s.heap x ox C od) (J : PySem.W.InstAt s.heap y oy C oe) (ne : x ≠ y) (hu : A.units + 1 < cLine) (hq : Q (.bool true) s) :
    wpAny (model prog w) A (compareOp .NotEq (.ref x) (.ref y)) Q E s := by
  show wpAny _ A (richCompare .NotEq (.ref x) (.ref y)) Q E s
  have hu0 : A.units < cLine := Nat.lt_of_succ_lt hu
  simp only [richCompare, cmpInfo_NotEq, oneThing_ref]
  refine wpAny_holding (wpAny_bind (wpAny_cRoomFor hu0 ?_))
  refine wpAny_bind (I.type.here ?_)
  refine wpAny_bind (J.type.here ?_)
  rw [if_neg (by simp)]
  repeat (first | with_reducible refine ne_other p X I J.at_ ne hu ?_ | with_reducible refine ne_other p X J I.at_ ne.symm hu ?_ | with_reducible refine wpAny_isSame_ref_other ne I.at_ J.at_ (noTup I) ?_ | wp_step)
  exact hq
end
end Ne
namespace Ts
open PySem L2
/-- two instances of one class that has object's own comparisons -/
def rNeIns (K : PySem.W.Frag) : R2 := fun x y H Q => ∃ a b C dx dy fs gs, x = .ref a ∧ y = .ref b ∧ H a = some (.ins C dx fs) ∧ H b = some (.ins C dy gs) ∧ Ne.Plain K C ∧ Q (.bl (!decide (a = b))) H
theorem op_neIns {X : Cx} (hu : X.A.units + 64 < cLine) : OpR X (compareOp .NotEq) (rNeIns X.K) := by
  intro pins s σ H x y v u Q I rx ry h
  obtain ⟨a, b, C, dx, dy, fs, gs, rfl, rfl, ha, hb, p, q⟩ := h
  cases rx
  cases ry
  obtain ⟨mA, O, _⟩ := ins_get I.hok ha
  obtain ⟨od, J, _⟩ := O.look
  have hu1 : X.A.units + 1 < cLine := by omega
  by_cases e : a = b
  · subst e
    refine Ne.cmp_same p I.kIn J hu1 ⟨.bl _, H, I, rfl, ?_⟩
    rw [decide_eq_true rfl] at q
    exact q
  · obtain ⟨mB, O2, _⟩ := ins_get I.hok hb
    obtain ⟨oe, J2, _⟩ := O2.look
    refine Ne.cmp_other p I.kIn J J2 e hu1 ⟨.bl _, H, I, rfl, ?_⟩
    rw [decide_eq_false e] at q
    exact q
end Ts

namespace Tw
open PySem L2 Ts
/-- what the text's classes are -/
structure TxK (K : PySem.W.Frag) (c : Cs) : Prop where
  cLedger : Cls K c.Ledger
  n_Ledger_given : NoAttr K c.Ledger "given"
  n_Ledger_things : NoAttr K c.Ledger "things"
  cBook : Cls K c.Book
  n_Book_ledger : NoAttr K c.Book "ledger"
  n_Book_lines : NoAttr K c.Book "lines"
  n_Book_levels : NoAttr K c.Book "levels"
  cLooker : Cls K c.Looker
  n_Looker_one : NoAttr K c.Looker "one"
  n_Looker_other : NoAttr K c.Looker "other"
  n_Looker_looks : NoAttr K c.Looker "looks"
  md : ∀ d ks, ∃ φ, c.md d ks = .ext φ
  pl_Ledger : Ne.Plain K c.Ledger
end Tw

namespace Tw
open PySem L2 Ts
/-! ### counts, digits, sizes, parts: the mirror -/
def digs (n : Nat) : Nat := if h : n = 0 then 0 else digs (n / 2) + 1
decreasing_by omega
theorem digs_zero : digs 0 = 0 := by rw [digs]; rfl
theorem digs_pos {n : Nat} (h : n ≠ 0) : digs n = digs (n / 2) + 1 := by rw [digs, dif_neg h]
theorem digs_lt (n : Nat) : n < 2 ^ digs n := by
  induction n using Nat.strongRecOn with
  | _ n ih =>
    by_cases h : n = 0
    · subst h; rw [digs_zero]; decide
    · rw [digs_pos h, Nat.pow_succ]
      have := ih (n / 2) (by omega)
      omega
theorem digs_le {n k : Nat} (h : n < 2 ^ k) : digs n ≤ k := by
  induction k generalizing n with
  | zero =>
    have : n = 0 := by simpa using h
    subst this; rw [digs_zero]; exact Nat.le_refl _
  | succ k ih =>
    by_cases h0 : n = 0
    · subst h0; rw [digs_zero]; exact Nat.zero_le _
    · rw [digs_pos h0]
      have : n / 2 < 2 ^ k := by rw [Nat.pow_succ] at h; omega
      exact Nat.succ_le_succ (ih this)
theorem digs_ge {n k : Nat} (h : 2 ^ k ≤ n) : k < digs n := by
  rcases Nat.lt_or_ge k (digs n) with h1 | h1
  · exact h1
  · have h2 := digs_lt n
    have h3 : 2 ^ digs n ≤ 2 ^ k := Nat.pow_le_pow_right (by decide) h1
    omega
/-- the parts: heights below k, from the place on -/
def partsF (n place : Nat) : Nat → List (Nat × Nat)
  | 0 => []
  | k + 1 => if n / 2 ^ k % 2 = 1 then (k, place / 2 ^ k) :: partsF n (place + 2 ^ k) k else partsF n place k
def parts (n : Nat) : List (Nat × Nat) := partsF n 0 (digs n)
def encP : Enc (Nat × Nat) := eTup2 eNat eNat
/-- the place ahead of height k is the count without its low digits -/
def placeAt (n k : Nat) : Nat := n / 2 ^ k * 2 ^ k
theorem placeAt_succ (n k : Nat) : placeAt n k = placeAt n (k + 1) + (n / 2 ^ k % 2) * 2 ^ k := by
  unfold placeAt
  have h1 : n / 2 ^ (k + 1) = n / 2 ^ k / 2 := by rw [Nat.pow_succ, Nat.div_div_eq_div_mul]
  rw [h1, Nat.pow_succ, Nat.mul_comm (2 ^ k) 2, ← Nat.mul_assoc, ← Nat.add_mul]
  congr 1
  omega
theorem placeAt_le (n k : Nat) : placeAt n k ≤ n := Nat.div_mul_le_self _ _
theorem placeAt_lt (n k : Nat) : n < placeAt n k + 2 ^ k := by
  unfold placeAt
  have := Nat.div_add_mod n (2 ^ k)
  have h2 := Nat.mod_lt n (Nat.two_pow_pos k)
  rw [Nat.mul_comm] at this
  omega
theorem placeAt_digs (n : Nat) : placeAt n (digs n) = 0 := by
  unfold placeAt
  rw [Nat.div_eq_of_lt (digs_lt n), Nat.zero_mul]
theorem placeAt_zero (n : Nat) : placeAt n 0 = n := by simp [placeAt]
/-- the digit is 1 just where there is room -/
theorem bit_room (n k : Nat) : n / 2 ^ k % 2 = 1 ↔ placeAt n (k + 1) + 2 ^ k ≤ n := by
  have h1 := placeAt_succ n k
  have h2 := placeAt_le n k
  have h3 := placeAt_lt n k
  have h4 : n / 2 ^ k % 2 = 0 ∨ n / 2 ^ k % 2 = 1 := by omega
  rcases h4 with h4 | h4
  · rw [h4, Nat.zero_mul] at h1
    constructor
    · intro h; omega
    · intro h; omega
  · rw [h4, Nat.one_mul] at h1
    constructor
    · intro _; omega
    · intro _; exact h4
theorem parts_cons {n k : Nat} (h : n / 2 ^ k % 2 = 1) : partsF n (placeAt n (k + 1)) (k + 1) = (k, placeAt n (k + 1) / 2 ^ k) :: partsF n (placeAt n k) k := by
  have e := placeAt_succ n k
  rw [h, Nat.one_mul] at e
  rw [partsF, if_pos h, ← e]
theorem parts_skip {n k : Nat} (h : ¬ n / 2 ^ k % 2 = 1) : partsF n (placeAt n (k + 1)) (k + 1) = partsF n (placeAt n k) k := by
  have e := placeAt_succ n k
  have h0 : n / 2 ^ k % 2 = 0 := by omega
  rw [h0, Nat.zero_mul, Nat.add_zero] at e
  rw [partsF, if_neg h, ← e]

theorem pow_small {i : Nat} (h : i ≤ 60) : 2 ^ i ≤ 2 ^ 60 := Nat.pow_le_pow_right (by decide) h
/-! ### the readings -/
def N_digits : List Str := ["count", "found"]
def t_digits (K : PySem.W.Frag) (c : Cs) (E : XK) : TS := (tSeq (tAsg (tC (.int 0)) (gName 1))
  (tSeq (tWhile (tTest (tOp rGt (tVar 0) (tC (.int 0)))) (tSeq (tAsg (tOp rDiv (tVar 0) (tC (.int 2))) (gName 0))
  (tAsg (tOp rAddU (tVar 1) (tC (.int 1))) (gName 1))))
  (tRet (tVar 1))))
def sp_digits (_ : PySem.W.Frag) (_ : Cs) : Sp := fun vs H Q _ => ∃ n : Nat, vs = [.int n] ∧ Q (.int (digs n : Nat)) H
theorem len_digits {K c} : ∀ vs H Q E, sp_digits K c vs H Q E → vs.length = 1 := by rintro vs H Q E ⟨n, rfl, _⟩; rfl
theorem pure_digits {K : PySem.W.Frag} {c : Cs} {vs : List V} {H : Hp} {Q : VK} {E : XK} (h : sp_digits K c vs H Q E) : t_digits K c E ⟨fun _ H' => Q .non H', Q, fun _ _ => False, fun _ _ => False⟩ (start N_digits vs) H := by
  obtain ⟨n, rfl, k⟩ := h
  show t_digits K c E _ [some (.int n), none] H
  unfold t_digits
  walk_at "s"
  refine w_while (fun σ H' => H' = H ∧ ∃ m f : Nat, σ = [some (.int m), some (.int f)] ∧ digs m + f = digs n) (fun σ _ => match σ with | some (.int m) :: _ => m.toNat | _ => 0) ⟨rfl, n, 0, rfl, rfl⟩ ?_
  rintro σ H' ⟨rfl, m, f, rfl, e⟩
  walk_at "s"
  refine ite_d (fun h0 => ?_) fun h0 => ?_
  · refine w_wN ?_
    walk_at "s"
    have h1 : m ≠ 0 := by omega
    rw [digs_pos h1] at e
    refine ⟨⟨rfl, m / 2, f + 1, rfl, by omega⟩, ?_⟩
    show ((m : Int) / 2).toNat < ((m : Int)).toNat
    omega
  · walk_at "s"
    have h1 : m = 0 := by omega
    subst h1
    rw [digs_zero, Nat.zero_add] at e
    rw [e]
    exact k

def N_size_of : List Str := ["height", "found", "turn"]
def t_size_of (K : PySem.W.Frag) (c : Cs) (E : XK) : TS := (tSeq (tAsg (tC (.int 1)) (gName 1))
  (tSeq (tFor (iRng1 (tCons (tVar 0) tNil)) (gName 2) (tAsg (tOp rMul (tC (.int 2)) (tVar 1)) (gName 1)))
  (tRet (tVar 1))))
def sp_size_of (_ : PySem.W.Frag) (_ : Cs) : Sp := fun vs H Q _ => ∃ h : Nat, vs = [.int h] ∧ h ≤ 60 ∧ Q (.int ((2 ^ h : Nat) : Int)) H
theorem len_size_of {K c} : ∀ vs H Q E, sp_size_of K c vs H Q E → vs.length = 1 := by rintro vs H Q E ⟨n, rfl, _⟩; rfl
theorem pure_size_of {K : PySem.W.Frag} {c : Cs} {vs : List V} {H : Hp} {Q : VK} {E : XK} (h : sp_size_of K c vs H Q E) : t_size_of K c E ⟨fun _ H' => Q .non H', Q, fun _ _ => False, fun _ _ => False⟩ (start N_size_of vs) H := by
  obtain ⟨n, rfl, hn, k⟩ := h
  show t_size_of K c E _ [some (.int n), none, none] H
  unfold t_size_of
  walk_at "s"
  refine w_iR1v (by omega) (by omega) (lb_range0 (fun i σ H' => H' = H ∧ ∃ v, σ = [some (.int n), some (.int ((2 ^ i : Nat) : Int)), v]) ⟨rfl, none, rfl⟩ ?_ ?_)
  · rintro i σ H' hi ⟨rfl, v, rfl⟩
    have hp := pow_small (i := i) (by omega)
    walk_at "s"
    refine ⟨rfl, some (.int (i : Int)), ?_⟩
    congr 4 <;> (rw [Nat.pow_succ]; push_cast; try omega)
  · rintro σ H' ⟨rfl, v, rfl⟩
    walk_at "s"
    have e : ((n : Int)).toNat = n := by omega
    rw [e]
    exact k

def sp_parted (K : PySem.W.Frag) (_ : Cs) : Sp := fun vs H Q _ => ∃ n : Nat, vs = [.int n] ∧ n < 2 ^ 29 ∧
  ∀ H' p xs, Ex H H' → H p = none → H' p = some (.lst xs) → DpAll K H' xs ((parts n).map encP.enc) → Q (.ref p) H'
theorem len_parted {K c} : ∀ vs H Q E, sp_parted K c vs H Q E → vs.length = 1 := by rintro vs H Q E ⟨n, rfl, _⟩; rfl
theorem dp_pair {K : PySem.W.Frag} {H : Hp} {t : Addr} {a b : Nat} (h : H t = some (.tup [.int (a : Int), .int (b : Int)])) : Dp K H (.ref t) (encP.enc (a, b)) := .tup (sqt h) (.cons (.int _) (.cons (.int _) .nil))
theorem parts_len : ∀ (n place k : Nat), (partsF n place k).length ≤ k
  | _, _, 0 => Nat.le_refl _
  | n, place, k + 1 => by
    unfold partsF
    split
    · rw [List.length_cons]; exact Nat.succ_le_succ (parts_len n _ k)
    · exact Nat.le_succ_of_le (parts_len n _ k)
/-- what the loop over heights keeps: done so far at p, the rest at height k -/
structure PartsAt (K : PySem.W.Frag) (H H' : Hp) (p : Addr) (n k : Nat) : Prop where
  fr : H p = none
  ex : Ex H H'
  at' : ∃ xs done, H' p = some (.lst xs) ∧ DpAll K (hid p H') xs (done.map encP.enc) ∧ done ++ partsF n (placeAt n k) k = parts n ∧ done.length + k ≤ 64
theorem PartsAt.skip {K : PySem.W.Frag} {H H' : Hp} {p : Addr} {n k : Nat} (S : PartsAt K H H' p n (k + 1)) (h : ¬ n / 2 ^ k % 2 = 1) : PartsAt K H H' p n k := by
  obtain ⟨fr, ex, xs, done, h1, h2, h3, h4⟩ := S
  exact ⟨fr, ex, xs, done, h1, h2, by rw [← parts_skip h]; exact h3, by omega⟩
theorem PartsAt.more {K : PySem.W.Frag} {H H' : Hp} {p t : Addr} {n k : Nat} {xs : List V} {j : Int} (S : PartsAt K H H' p n (k + 1)) (h : n / 2 ^ k % 2 = 1) (hx : H' p = some (.lst xs)) (ht : H' t = none) (hj : j = ((placeAt n (k + 1) / 2 ^ k : Nat) : Int)) :
    PartsAt K H (upd (upd H' t (.tup [.int (k : Nat), .int j])) p (.lst (xs ++ [.ref t]))) p n k := by
  subst hj
  obtain ⟨fr, ex, xs', done, h1, h2, h3, h4⟩ := S
  rw [h1] at hx; cases hx
  have tp : t ≠ p := fun z => by rw [z, h1] at ht; cases ht
  refine ⟨fr, ex_mut (ex_new ex ht) fr, _, done ++ [(k, placeAt n (k + 1) / 2 ^ k)], upd_same, ?_, ?_, ?_⟩
  · rw [hid_upd, List.map_append]
    refine dpAll_snoc (dpAll_mono (hid_mono (ex_new ex_refl ht)) h2) (dp_pair ?_)
    rw [hid_ne tp, upd_same]
  · rw [List.append_assoc, List.singleton_append, ← parts_cons h]; exact h3
  · rw [List.length_append]; show done.length + 1 + k ≤ 64; omega
def N_parted : List Str := ["count", "found", "place", "height", "size"]
def t_parted (K : PySem.W.Frag) (c : Cs) (E : XK) : TS := (tSeq (tAsg (tLst tNil) (gName 1))
  (tSeq (tAsg (tC (.int 0)) (gName 2))
  (tSeq (tFor (iRng3 (tCons (tOp rSubI (tCall (sp_digits K c) [] E0 (tCons (tVar 0) tNil)) (tC (.int 1))) (tCons (tUn (rU fun i => .int (-i)) (tC (.int 1))) (tCons (tUn (rU fun i => .int (-i)) (tC (.int 1))) tNil)))) (gName 3) (tSeq (tAsg (tCall (sp_size_of K c) [] E0 (tCons (tVar 3) tNil)) (gName 4))
  (tIfS (tTest (tOp (rEqU K) (tOp rMod (tOp rDiv (tVar 0) (tVar 4)) (tC (.int 2))) (tC (.int 1)))) (tSeq (tDrop (tBM K "list" rAppend (tVar 1) (tCons (tTup (tCons (tVar 3) (tCons (tOp rDiv (tVar 2) (tVar 4)) tNil))) tNil)))
  (tAsg (tOp rAddU (tVar 2) (tVar 4)) (gName 2))) tNext)))
  (tRet (tVar 1)))))
theorem pure_parted {K : PySem.W.Frag} {c : Cs} {vs : List V} {H : Hp} {Q : VK} {E : XK} (h : sp_parted K c vs H Q E) : t_parted K c E ⟨fun _ H' => Q .non H', Q, fun _ _ => False, fun _ _ => False⟩ (start N_parted vs) H := by
  obtain ⟨n, rfl, hn, k⟩ := h
  show t_parted K c E _ [some (.int n), none, none, none, none] H
  unfold t_parted
  walk_at "s"
  refine ⟨Nat.zero_le _, fun p hp => ?_⟩
  walk_at "s"
  have hd : digs n ≤ 29 := digs_le hn
  refine ⟨n, rfl, ?_⟩
  walk_at "s"
  refine w_iR3v (by omega) ?_
  have e1 : ((digs n : Int) - 1 - -1).toNat = digs n := by omega
  rw [e1]
  refine lb_rangeC (fun i σ H' => ∃ v w, σ = [some (.int n), some (.ref p), some (.int (placeAt n (digs n - i) : Nat)), v, w] ∧ PartsAt K H H' p n (digs n - i)) ?_ ?_ ?_
  · refine ⟨none, none, ?_, hp, ex_new ex_refl hp, [], [], upd_same, .nil, ?_, ?_⟩
    · rw [Nat.sub_zero, placeAt_digs]; rfl
    · rw [Nat.sub_zero, placeAt_digs]; rfl
    · show 0 + _ ≤ 64; omega
  · rintro i σ H' hi ⟨v, w, rfl, S⟩
    obtain ⟨h, eh⟩ : ∃ h, digs n - i = h + 1 := ⟨digs n - i - 1, by omega⟩
    have eh2 : (digs n : Int) - 1 + (i : Nat) * -1 = (h : Nat) := by omega
    have eh3 : digs n - (i + 1) = h := by omega
    rw [eh2, eh3]
    rw [eh] at S ⊢
    walk_at "s"
    refine ⟨h, rfl, by omega, ?_⟩
    have hp1 := Nat.two_pow_pos h
    have hp2 : 2 ^ h ≤ 2 ^ 29 := Nat.pow_le_pow_right (by decide) (by omega)
    have hp3 : (2 : Nat) ^ 29 = 536870912 := by decide
    generalize hz : 2 ^ h = z at hp1 hp2
    walk_at "s"
    rw [cast_div, show (2 : Int) = ((2 : Nat) : Int) from rfl, cast_mod]
    refine ite_d (fun h0 => ?_) fun h0 => ?_
    · have hb : n / 2 ^ h % 2 = 1 := by rw [hz]; omega
      obtain ⟨xs, done, h1, h2, h3, h4⟩ := S.at'
      walk_at "s"
      refine ⟨w_tyL (sql h1), ?_⟩
      walk_at "s"
      refine ⟨by show 2 ≤ sizeLine; exact sz100 (by decide), fun t ht => ?_⟩
      have tp : t ≠ p := fun e => by rw [e, h1] at ht; cases ht
      have hl := dpAll_len h2
      rw [List.length_map] at hl
      walk_at "s"
      refine w_app (by rw [upd_ne tp.symm]; exact h1) (szL (by omega)) ?_
      walk_at "s"
      have e2 := placeAt_succ n h
      rw [hb, hz, Nat.one_mul] at e2
      rw [show ((placeAt n (h + 1) : Nat) : Int) + (z : Int) = (placeAt n h : Nat) by omega]
      exact ⟨_, _, rfl, S.more hb h1 ht (by rw [hz, cast_div])⟩
    · have hb : ¬ n / 2 ^ h % 2 = 1 := by rw [hz]; omega
      walk_at "s"
      have e2 := placeAt_succ n h
      have hb0 : n / 2 ^ h % 2 = 0 := by omega
      rw [hb0, Nat.zero_mul, Nat.add_zero] at e2
      rw [show ((placeAt n (h + 1) : Nat) : Int) = (placeAt n h : Nat) by omega]
      exact ⟨_, _, rfl, S.skip hb⟩
  · rintro σ H' ⟨v, w, rfl, S⟩
    rw [Nat.sub_self] at S
    obtain ⟨xs, done, h1, h2, h3, h4⟩ := S.at'
    walk_at "s"
    have e3 : done = parts n := by rw [← h3]; simp [partsF]
    rw [e3] at h2
    exact k H' p xs S.ex hp h1 (dpAll_mono ex_hid h2)
end Tw

namespace Tw
open PySem L2 Ts
def N_law_cell_at : List Str := ["_law_script", "_law_k"]
def t_law_cell_at (K : PySem.W.Frag) (c : Cs) (E : XK) : TS := (tSeq (tIfS (tTest (tOp rLt (tVar 1) (tCB (Ts.rLen K) (tCons (tVar 0) tNil)))) (tRet (tOp (rIx K) (tVar 0) (tVar 1))) tNext)
  (tRet (tC (.int 0))))
/-- a cell of the script, or 0: some whole number -/
def sp_law_cell_at (K : PySem.W.Frag) (_ : Cs) : Sp := fun vs H Q _ => ∃ (a : Addr) (ns : List Int) (i : Nat), vs = [.ref a, .int i] ∧ SqL K H a (ns.map V.int) ∧ ∀ z : Int, Q (.int z) H
theorem len_law_cell_at {K c} : ∀ vs H Q E, sp_law_cell_at K c vs H Q E → vs.length = 2 := by rintro vs H Q E ⟨a, ns, i, rfl, _⟩; rfl
theorem pure_law_cell_at {K : PySem.W.Frag} {c : Cs} {vs : List V} {H : Hp} {Q : VK} {E : XK} (h : sp_law_cell_at K c vs H Q E) : t_law_cell_at K c E ⟨fun _ H' => Q .non H', Q, fun _ _ => False, fun _ _ => False⟩ (start N_law_cell_at vs) H := by
  obtain ⟨a, ns, i, rfl, hs, k⟩ := h
  show t_law_cell_at K c E _ [some (.ref a), some (.int i)] H
  unfold t_law_cell_at
  walk_at "s"
  refine w_lenL hs ?_
  walk_at "s"
  refine ite_d (fun h0 => ?_) fun h0 => ?_
  · walk_at "s"
    have hi : i < (ns.map V.int).length := by omega
    rw [List.length_map] at hi
    exact w_ixL hs (atI_nat (by rw [List.getElem?_map, List.getElem?_eq_getElem hi]; rfl)) (k _)
  · walk_at "s"
    exact k 0
def N_law_whole : List Str := ["_law_found"]
def t_law_whole (K : PySem.W.Frag) (c : Cs) (E : XK) : TS := (tRet (tAndV (tCB (rIsi K) (tCons (tVar 0) (tCons (tC (.ty "int")) tNil))) (tNotV (tCB (rIsi K) (tCons (tVar 0) (tCons (tC (.ty "bool")) tNil))))))
def sp_law_whole (K : PySem.W.Frag) (_ : Cs) : Sp := fun vs H Q _ => ∃ (v : V) (b : Bool), vs = [v] ∧ isWholeV K H v b ∧ Q (.bl b) H
theorem len_law_whole {K c} : ∀ vs H Q E, sp_law_whole K c vs H Q E → vs.length = 1 := by rintro vs H Q E ⟨a, i, rfl, _⟩; rfl
theorem pure_law_whole {K : PySem.W.Frag} {c : Cs} {vs : List V} {H : Hp} {Q : VK} {E : XK} (h : sp_law_whole K c vs H Q E) : t_law_whole K c E ⟨fun _ H' => Q .non H', Q, fun _ _ => False, fun _ _ => False⟩ (start N_law_whole vs) H := by
  obtain ⟨v, b, rfl, hw, k⟩ := h
  show t_law_whole K c E _ [some v] H
  unfold t_law_whole
  walk_at "s"
  rcases hw with ⟨i, rfl, rfl⟩ | ⟨x, rfl, rfl⟩ | ⟨x, rfl, rfl⟩ | ⟨rfl, rfl⟩ | ⟨a, xs, rfl, h, rfl⟩
  · refine isi_ty (b := true) tyI (by decide +kernel) ?_
    walk_at "s"
    refine iteT ?_
    walk_at "s"
    refine isi_ty (b := false) tyI (by decide +kernel) ?_
    walk_at "s"
    exact k
  · refine isi_ty (b := true) tyB (by decide +kernel) ?_
    walk_at "s"
    refine iteT ?_
    walk_at "s"
    refine isi_ty (b := true) tyB (by decide +kernel) ?_
    walk_at "s"
    exact k
  · refine isi_ty (b := false) tyS (by decide +kernel) ?_
    walk_at "s"
    exact iteF k
  · refine isi_ty (b := false) tyN (by decide +kernel) ?_
    walk_at "s"
    exact iteF k
  · rcases h with h | h
    · refine isi_ty (b := false) (ty_sql h) (by decide +kernel) ?_
      walk_at "s"
      exact iteF k
    · refine isi_ty (b := false) (ty_sqt h) (by decide +kernel) ?_
      walk_at "s"
      exact iteF k
theorem whole_int {K : PySem.W.Frag} {c : Cs} {i : Int} {H : Hp} {Q : VK} {E : XK} (k : Q (.bl true) H) : sp_law_whole K c [.int i] H Q E := ⟨_, true, rfl, .inl ⟨i, rfl, rfl⟩, k⟩
end Tw

namespace Tw
open PySem L2 Ts Mix
/-! ### rows -/
def signs : Str := "abcdefghijklmnopqrstuvwxyz0123456789 "
/-- a row's text -/
def Good (z : Str) : Prop := z.length ≤ 40 ∧ ∀ c ∈ z.cps.toList, c ∈ signs.cps.toList
instance (z : Str) : Decidable (Good z) := inferInstanceAs (Decidable (_ ∧ _))
theorem good_ok {z : Str} (h : Good z) : PyData.strOk z = true := by
  unfold PyData.strOk
  rw [Array.all_eq_true']
  intro c hc
  have h1 := h.2 c (by simpa using hc)
  have h2 : signs.cps.toList.all (fun c => decide (c < 0x110000)) = true := by decide +kernel
  exact List.all_eq_true.mp h2 c h1
theorem good_len {z : Str} (h : Good z) : z.length ≤ sizeLine := Nat.le_trans h.1 (by decide)
/-- what is handed in as a row: a text of few signs, or a thing of another kind -/
def RowV (K : PySem.W.Frag) (H : Hp) (v : V) : Prop := (∃ z, v = .str z ∧ z.length ≤ sizeLine) ∨ (∃ i, v = .int i) ∨ v = .non ∨ (∃ b, v = .bl b) ∨ (∃ a xs, v = .ref a ∧ (SqL K H a xs ∨ SqT K H a xs))
def isRowV (v : V) : Prop := ∃ z, v = .str z ∧ Good z
theorem rowV_good {K : PySem.W.Frag} {H : Hp} {z : Str} (h : Good z) : RowV K H (.str z) := .inl ⟨z, rfl, good_len h⟩

def N_is_whole : List Str := ["thing"]
def t_is_whole (K : PySem.W.Frag) (c : Cs) (E : XK) : TS := (tRet (tAndV (tCB (rIsi K) (tCons (tVar 0) (tCons (tC (.ty "int")) tNil))) (tNotV (tCB (rIsi K) (tCons (tVar 0) (tCons (tC (.ty "bool")) tNil))))))
def sp_is_whole (K : PySem.W.Frag) (_ : Cs) : Sp := fun vs H Q _ => ∃ (v : V) (b : Bool), vs = [v] ∧ isWholeV K H v b ∧ Q (.bl b) H
theorem len_is_whole {K c} : ∀ vs H Q E, sp_is_whole K c vs H Q E → vs.length = 1 := by rintro vs H Q E ⟨a, i, rfl, _⟩; rfl
theorem pure_is_whole {K : PySem.W.Frag} {c : Cs} {vs : List V} {H : Hp} {Q : VK} {E : XK} (h : sp_is_whole K c vs H Q E) : t_is_whole K c E ⟨fun _ H' => Q .non H', Q, fun _ _ => False, fun _ _ => False⟩ (start N_is_whole vs) H := by
  obtain ⟨v, b, rfl, hw, k⟩ := h
  show t_is_whole K c E _ [some v] H
  unfold t_is_whole
  walk_at "s"
  rcases hw with ⟨i, rfl, rfl⟩ | ⟨x, rfl, rfl⟩ | ⟨x, rfl, rfl⟩ | ⟨rfl, rfl⟩ | ⟨a, xs, rfl, h, rfl⟩
  · refine isi_ty (b := true) tyI (by decide +kernel) ?_
    walk_at "s"
    refine iteT ?_
    walk_at "s"
    refine isi_ty (b := false) tyI (by decide +kernel) ?_
    walk_at "s"
    exact k
  · refine isi_ty (b := true) tyB (by decide +kernel) ?_
    walk_at "s"
    refine iteT ?_
    walk_at "s"
    refine isi_ty (b := true) tyB (by decide +kernel) ?_
    walk_at "s"
    exact k
  · refine isi_ty (b := false) tyS (by decide +kernel) ?_
    walk_at "s"
    exact iteF k
  · refine isi_ty (b := false) tyN (by decide +kernel) ?_
    walk_at "s"
    exact iteF k
  · rcases h with h | h
    · refine isi_ty (b := false) (ty_sql h) (by decide +kernel) ?_
      walk_at "s"
      exact iteF k
    · refine isi_ty (b := false) (ty_sqt h) (by decide +kernel) ?_
      walk_at "s"
      exact iteF k
def N_is_row : List Str := ["thing", "sign"]
def t_is_row (K : PySem.W.Frag) (c : Cs) (E : XK) : TS := (tSeq (tIfS (tOr (tNot (tB (tCB (rIsi K) (tCons (tVar 0) (tCons (tC (.ty "str")) tNil))))) (tTest (tOp rGt (tCB (Ts.rLen K) (tCons (tVar 0) tNil)) (tC (.int 40))))) (tRet (tC (.bl false))) tNext)
  (tSeq (tFor (iStr (tVar 0)) (gName 1) (tIfS (tTest (tOp rNotInS (tVar 1) (tC (.str "abcdefghijklmnopqrstuvwxyz0123456789 ")))) (tRet (tC (.bl false))) tNext))
  (tRet (tC (.bl true)))))
def sp_is_row (K : PySem.W.Frag) (_ : Cs) : Sp := fun vs H Q _ => ∃ v, vs = [v] ∧ RowV K H v ∧ (isRowV v → Q (.bl true) H) ∧ (¬ isRowV v → Q (.bl false) H)
theorem len_is_row {K c} : ∀ vs H Q E, sp_is_row K c vs H Q E → vs.length = 1 := by rintro vs H Q E ⟨v, rfl, _⟩; rfl
theorem pure_is_row {K : PySem.W.Frag} {c : Cs} {vs : List V} {H : Hp} {Q : VK} {E : XK} (h : sp_is_row K c vs H Q E) : t_is_row K c E ⟨fun _ H' => Q .non H', Q, fun _ _ => False, fun _ _ => False⟩ (start N_is_row vs) H := by
  obtain ⟨v, rfl, hv, k1, k2⟩ := h
  show t_is_row K c E _ [some v, none] H
  have other : ∀ t, TyX K H v (.type t) → kitB t "str" = some false → (∀ z, v ≠ .str z) → t_is_row K c E ⟨fun _ H' => Q .non H', Q, fun _ _ => False, fun _ _ => False⟩ [some v, none] H := fun t ty kb ne => by
    unfold t_is_row
    walk_at "s"
    refine isi_ty ty kb ?_
    walk_at "s"
    refine iteT ?_
    refine iteT ?_
    walk_at "s"
    exact k2 fun ⟨z, e, _⟩ => ne z e
  rcases hv with ⟨z, rfl, hz⟩ | ⟨i, rfl⟩ | rfl | ⟨b, rfl⟩ | ⟨a, xs, rfl, h | h⟩
  · unfold t_is_row
    walk_at "s"
    refine isi_ty (b := true) tyS (by decide +kernel) ?_
    walk_at "s"
    refine iteF ?_
    walk_at "s"
    refine w_lenS hz ?_
    walk_at "s"
    refine ite_d (fun h0 => ?_) fun h0 => ?_
    · walk_at "s"
      refine k2 ?_
      rintro ⟨z', e, hg⟩
      cases e
      have := hg.1
      omega
    · walk_at "s"
      refine ⟨z, rfl, lb_str (fun i σ H' => H' = H ∧ (∃ v, σ = [some (.str z), v]) ∧ ∀ j c, j < i → z.cps[j]? = some c → c ∈ signs.cps.toList) ⟨rfl, ⟨none, rfl⟩, fun j _ hj => absurd hj (Nat.not_lt_zero _)⟩ ?_ ?_⟩
      · rintro i ch σ H' hc ⟨rfl, ⟨v, rfl⟩, hb⟩
        walk_at "s"
        refine ite_nd (fun h1 => ?_) fun h1 => ?_
        · walk_at "s"
          refine k2 ?_
          rintro ⟨z', e, hg⟩
          cases e
          exact h1 (hg.2 ch (Array.mem_toList_iff.mpr (Array.mem_of_getElem? hc)))
        · walk_at "s"
          refine ⟨rfl, ⟨_, rfl⟩, fun j cj hj hcj => ?_⟩
          rcases Nat.lt_or_ge j i with q | q
          · exact hb j cj q hcj
          · have e : j = i := by omega
            rw [e, hc] at hcj
            cases hcj
            exact h1
      · rintro σ H' ⟨rfl, ⟨v, rfl⟩, hb⟩
        walk_at "s"
        refine k1 ⟨z, rfl, by omega, fun cj hcj => ?_⟩
        obtain ⟨j, hj, e⟩ := Array.mem_iff_getElem.mp (Array.mem_toList_iff.mp hcj)
        exact hb j cj hj (by rw [Array.getElem?_eq_getElem hj, e])
  · exact other "int" tyI (by decide +kernel) fun z e => nomatch e
  · exact other "NoneType" tyN (by decide +kernel) fun z e => nomatch e
  · exact other "bool" tyB (by decide +kernel) fun z e => nomatch e
  · exact other "list" (ty_sql h) (by decide +kernel) fun z e => nomatch e
  · exact other "tuple" (ty_sqt h) (by decide +kernel) fun z e => nomatch e
def N_sure_row : List Str := ["thing"]
def t_sure_row (K : PySem.W.Frag) (c : Cs) (E : XK) : TS := (tIfS (tNot (tB (tCall (sp_is_row K c) [] E (tCons (tVar 0) tNil)))) (tRaiseX c.NoRow (fun cls d _ H => E cls d H)) tNext)
def sp_sure_row (K : PySem.W.Frag) (c : Cs) : Sp := fun vs H Q E => ∃ v, vs = [v] ∧ RowV K H v ∧ (isRowV v → Q .non H) ∧ (¬ isRowV v → E (.ref c.NoRow) none H)
theorem len_sure_row {K c} : ∀ vs H Q E, sp_sure_row K c vs H Q E → vs.length = 1 := by rintro vs H Q E ⟨v, rfl, _⟩; rfl
theorem pure_sure_row {K : PySem.W.Frag} {c : Cs} {vs : List V} {H : Hp} {Q : VK} {E : XK} (h : sp_sure_row K c vs H Q E) : t_sure_row K c E ⟨fun _ H' => Q .non H', Q, fun _ _ => False, fun _ _ => False⟩ (start N_sure_row vs) H := by
  obtain ⟨v, rfl, hv, k1, k2⟩ := h
  show t_sure_row K c E _ [some v] H
  unfold t_sure_row
  walk_at "s"
  refine ⟨v, rfl, hv, fun y => ?_, fun n => ?_⟩
  · walk_at "s"
    refine iteF ?_
    walk_at "s"
    exact k1 y
  · walk_at "s"
    refine iteT ?_
    walk_at "s"
    exact k2 n
end Tw

namespace Tw
open PySem L2 Ts Mix
/-! ### the ledger -/
/-- what the sum of two sums is given out for -/
def pk (a b : Nat) : MK := .tup [(a : Int), (b : Int)]
theorem pk_inj {a b x y : Nat} (h : pk a b = pk x y) : a = x ∧ b = y := by
  have e := MK.tup.inj h
  simp only [List.cons.injEq, and_true] at e
  omega
/-- asked for the sum of k -/
def ask (ths : List MK) (k : MK) : List MK := if k ∈ ths then ths else ths ++ [k]
def num (ths : List MK) (k : MK) : Nat := ths.idxOf k
theorem ask_mem (ths : List MK) (k : MK) : k ∈ ask ths k := by
  unfold ask
  split
  · assumption
  · simp
theorem ask_nd {ths : List MK} {k : MK} (h : ths.Nodup) : (ask ths k).Nodup := by
  unfold ask
  split
  · exact h
  · rename_i n
    exact nd_snoc h n
theorem ask_pre (ths : List MK) (k : MK) : ths <+: ask ths k := by
  unfold ask
  split
  · exact List.prefix_refl _
  · exact List.prefix_append _ _
theorem ask_len (ths : List MK) (k : MK) : (ask ths k).length ≤ ths.length + 1 := by
  unfold ask
  split
  · omega
  · simp
theorem num_get {ths : List MK} {k : MK} (h : k ∈ ths) : ths[num ths k]? = some k := by
  unfold num
  rw [List.getElem?_eq_getElem (List.idxOf_lt_length_of_mem h)]
  exact congrArg some (List.getElem_idxOf _)
theorem num_lt {ths : List MK} {k : MK} (h : k ∈ ths) : num ths k < ths.length := List.idxOf_lt_length_of_mem h
/-- the dict's entries: each thing, as it was handed in, and its number -/
def ents : Nat → List MK → List V → Ks
  | _, [], _ => []
  | _, _, [] => []
  | i, k :: ks, v :: vs => (k, v, .int (i : Nat)) :: ents (i + 1) ks vs
theorem ents_kk : ∀ (i : Nat) (ks : List MK) (vs : List V), ks.length = vs.length → kk (ents i ks vs) = ks
  | _, [], _, _ => rfl
  | _, _ :: _, [], h => by simp at h
  | i, k :: ks, v :: vs, h => by
    show k :: kk (ents (i + 1) ks vs) = k :: ks
    rw [ents_kk (i + 1) ks vs (by simpa using h)]
theorem ents_len (i : Nat) (ks : List MK) (vs : List V) (h : ks.length = vs.length) : (ents i ks vs).length = ks.length := by
  have e := congrArg List.length (ents_kk i ks vs h)
  simpa [kk] using e
theorem ents_snoc : ∀ (i : Nat) (ks : List MK) (vs : List V) (k : MK) (v : V), ks.length = vs.length → ents i (ks ++ [k]) (vs ++ [v]) = ents i ks vs ++ [(k, v, .int ((i + ks.length : Nat) : Int))]
  | i, [], [], k, v, _ => rfl
  | _, [], _ :: _, _, _, h => by simp at h
  | _, _ :: _, [], _, _, h => by simp at h
  | i, a :: ks, b :: vs, k, v, h => by
    show (a, b, V.int (i : Nat)) :: ents (i + 1) (ks ++ [k]) (vs ++ [v]) = (a, b, V.int (i : Nat)) :: (ents (i + 1) ks vs ++ _)
    rw [ents_snoc (i + 1) ks vs k v (by simpa using h), List.length_cons, show i + 1 + ks.length = i + (ks.length + 1) by omega]
theorem ents_get : ∀ (i : Nat) (ks : List MK) (vs : List V) (j : Nat) (k : MK), ks.length = vs.length → ks[j]? = some k → ∃ v, (ents i ks vs)[j]? = some (k, v, .int ((i + j : Nat) : Int)) ∧ vs[j]? = some v
  | _, [], _, j, k, _, h => by simp at h
  | _, _ :: _, [], _, _, h, _ => by simp at h
  | i, a :: ks, b :: vs, 0, k, h, e => by
    simp at e
    subst e
    exact ⟨b, rfl, rfl⟩
  | i, a :: ks, b :: vs, j + 1, k, h, e => by
    obtain ⟨v, h1, h2⟩ := ents_get (i + 1) ks vs j k (by simpa using h) (by simpa using e)
    refine ⟨v, ?_, by simpa using h2⟩
    show (ents (i + 1) ks vs)[j]? = _
    rw [h1, show i + 1 + j = i + (j + 1) by omega]
theorem ents_keys : ∀ (i : Nat) {H : Hp} {ks : List MK} {vs : List V}, Paired (KeyV H) ks vs → KeysV H (ents i ks vs)
  | _, _, _, _, .nil => fun p hp => nomatch hp
  | i, H, _, _, .cons h t => fun p hp => by
    rcases List.mem_cons.mp hp with e | hp
    · subst e; exact h
    · exact ents_keys (i + 1) t p hp
/-- the ledger's attributes -/
def lfl (d l : Addr) : List (Str × V) := putF "things" (.ref l) (putF "given" (.ref d) [])
theorem lfl_given {d l : Addr} : (lfl d l).lookup ("given" : Str) = some (.ref d) := by
  unfold lfl
  rw [lookup_putF, if_neg (by decide +kernel), lookup_putF, if_pos rfl]
theorem lfl_things {d l : Addr} : (lfl d l).lookup ("things" : Str) = some (.ref l) := by
  unfold lfl
  rw [lookup_putF, if_pos rfl]
theorem lfl_no {d l : Addr} {m : Str} (h1 : ¬ m = "given") (h2 : ¬ m = "things") : (lfl d l).lookup m = none := by
  unfold lfl
  rw [lookup_putF, if_neg h2, lookup_putF, if_neg h1]
  rfl
/-- a ledger that has given out the sums of ths -/
structure LedgerAt (c : Cs) (H : Hp) (p d l : Addr) (ths : List MK) (vs : List V) : Prop where
  ob : ∃ dx, H p = some (.ins c.Ledger dx (lfl d l))
  dc : H d = some (c.md d (ents 0 ths vs))
  ls : H l = some (.lst vs)
  kv : Paired (KeyV H) ths vs
  nd : ths.Nodup
theorem paired_len {α β : Type} {F : α → β → Prop} {xs : List α} {ys : List β} (p : Paired F xs ys) : xs.length = ys.length := Paired.length p
section
variable {K : PySem.W.Frag} {c : Cs} {H H' : Hp} {p d l : Addr} {ths : List MK} {vs : List V}
theorem LedgerAt.len (L : LedgerAt c H p d l ths vs) : ths.length = vs.length := paired_len L.kv
theorem LedgerAt.pd (T : TxK K c) (L : LedgerAt c H p d l ths vs) : p ≠ d := by
  obtain ⟨dx, h⟩ := L.ob
  obtain ⟨φ, e⟩ := T.md d (ents 0 ths vs)
  exact ne_of h L.dc (by rw [e]; exact fun z => nomatch z)
theorem LedgerAt.pl (L : LedgerAt c H p d l ths vs) : p ≠ l := by
  obtain ⟨dx, h⟩ := L.ob
  exact ne_of h L.ls fun z => nomatch z
theorem LedgerAt.dl (T : TxK K c) (L : LedgerAt c H p d l ths vs) : d ≠ l := by
  obtain ⟨φ, e⟩ := T.md d (ents 0 ths vs)
  exact ne_of L.dc L.ls (by rw [e]; exact fun z => nomatch z)
theorem paired_imp {α β : Type} {F G : α → β → Prop} {xs : List α} {ys : List β} (p : Paired F xs ys) (h : ∀ a b, F a b → G a b) : Paired G xs ys := Paired.mapP p h
/-- a ledger stands where what it is made of stands -/
theorem LedgerAt.kp {S : List Addr} (T : TxK K c) (L : LedgerAt c H p d l ths vs) (k : Kp S H H') (h : ∀ x ∈ S, x ≠ d ∧ x ≠ l ∧ (∀ o, H x = some o → ∃ ys, o = .lst ys)) : LedgerAt c H' p d l ths vs := by
  obtain ⟨dx, hp⟩ := L.ob
  refine ⟨⟨dx, k _ _ hp fun z => ?_⟩, k _ _ L.dc fun z => (h _ z).1 rfl, k _ _ L.ls fun z => (h _ z).2.1 rfl, paired_imp L.kv fun a b q => k.keyV q fun x o hx ho => ?_, L.nd⟩
  · obtain ⟨ys, e⟩ := (h _ z).2.2 _ hp
    exact nomatch e
  · obtain ⟨ys, e⟩ := (h _ hx).2.2 _ ho
    rintro ⟨zs, e2⟩
    rw [e] at e2
    exact nomatch e2
theorem LedgerAt.ex (L : LedgerAt c H p d l ths vs) (e : Ex H H') : LedgerAt c H' p d l ths vs := by
  obtain ⟨dx, hp⟩ := L.ob
  exact ⟨⟨dx, e _ _ hp⟩, e _ _ L.dc, e _ _ L.ls, paired_imp L.kv fun a b q => keyV_ex e q, L.nd⟩
end
def N_Ledger_init : List Str := ["self"]
def t_Ledger_init (K : PySem.W.Frag) (c : Cs) (E : XK) : TS := (tSeq (sFld K (tVar 0) (tMNew c.md) "given")
  (sFld K (tVar 0) (tLst tNil) "things"))
def sp_Ledger_init (K : PySem.W.Frag) (c : Cs) : Sp := fun vs H Q _ => ∃ p dx, vs = [.ref p] ∧ H p = some (.ins c.Ledger dx []) ∧ ∀ d l H', H d = none → H l = none → LedgerAt c H' p d l [] [] → Kp [p] H H' → Q .non H'
theorem len_Ledger_init {K c} : ∀ vs H Q E, sp_Ledger_init K c vs H Q E → vs.length = 1 := by rintro vs H Q E ⟨p, dx, rfl, _⟩; rfl
theorem pure_Ledger_init {K : PySem.W.Frag} {c : Cs} {vs : List V} {H : Hp} {Q : VK} {E : XK} (T : TxK K c) (h : sp_Ledger_init K c vs H Q E) : t_Ledger_init K c E ⟨fun _ H' => Q .non H', Q, fun _ _ => False, fun _ _ => False⟩ (start N_Ledger_init vs) H := by
  obtain ⟨p, dx, rfl, hp, k⟩ := h
  show t_Ledger_init K c E _ [some (.ref p)] H
  unfold t_Ledger_init
  walk_at "s"
  intro d hd
  walk_at "s"
  have npd : p ≠ d := ne_of_none hp hd
  refine w_sfldAt (by rw [upd_ne npd]; exact hp) T.cLedger T.n_Ledger_given (by show 0 < 1000; decide) ?_
  walk_at "s"
  refine ⟨Nat.zero_le _, fun l hl => ?_⟩
  walk_at "s"
  have nlp : l ≠ p := fun z => by rw [z, upd_same] at hl; cases hl
  rw [upd_ne nlp] at hl
  have nld : l ≠ d := fun z => by rw [z, upd_same] at hl; cases hl
  rw [upd_ne nld] at hl
  refine w_sfldAt (by rw [upd_ne nlp.symm, upd_same]) T.cLedger T.n_Ledger_things (by show 1 < 1000; decide) ?_
  refine k d l _ hd hl ⟨⟨dx, upd_same⟩, ?_, ?_, .nil, List.nodup_nil⟩ ?_
  · rw [upd_ne npd.symm, upd_ne nld.symm, upd_ne npd.symm, upd_same]; rfl
  · rw [upd_ne nlp, upd_same]
  · exact (((Kp.refl.fresh hd).set List.mem_cons_self).fresh hl).set List.mem_cons_self
def N_Ledger_number_of : List Str := ["self", "thing"]
def t_Ledger_number_of (K : PySem.W.Frag) (c : Cs) (E : XK) : TS := (tSeq (tIfS (tB (tMNotIn c.md (tVar 1) (tFld K (tVar 0) "given"))) (tSeq (sMPut c.md (tFld K (tVar 0) "given") (tVar 1) (tCB (Ts.rLen K) (tCons (tFld K (tVar 0) "things") tNil)))
  (tDrop (tBM K "list" rAppend (tFld K (tVar 0) "things") (tCons (tVar 1) tNil)))) tNext)
  (tRet (tMGet c.md (tFld K (tVar 0) "given") (tVar 1))))
def sp_Ledger_number_of (K : PySem.W.Frag) (c : Cs) : Sp := fun vs H Q _ => ∃ p d l ths xs k v, vs = [.ref p, v] ∧ LedgerAt c H p d l ths xs ∧ KeyV H k v ∧ ths.length < 1000000 ∧
  ∀ H' xs', LedgerAt c H' p d l (ask ths k) xs' → Kp [d, l] H H' → Q (.int (num (ask ths k) k : Nat)) H'
theorem len_Ledger_number_of {K c} : ∀ vs H Q E, sp_Ledger_number_of K c vs H Q E → vs.length = 2 := by rintro vs H Q E ⟨p, d, l, ths, xs, k, v, rfl, _⟩; rfl
theorem pure_Ledger_number_of {K : PySem.W.Frag} {c : Cs} {vs : List V} {H : Hp} {Q : VK} {E : XK} (T : TxK K c) (h : sp_Ledger_number_of K c vs H Q E) : t_Ledger_number_of K c E ⟨fun _ H' => Q .non H', Q, fun _ _ => False, fun _ _ => False⟩ (start N_Ledger_number_of vs) H := by
  obtain ⟨p, d, l, ths, xs, k, v, rfl, L, kv, hz, q⟩ := h
  show t_Ledger_number_of K c E _ [some (.ref p), some v] H
  unfold t_Ledger_number_of
  obtain ⟨dx, hp⟩ := L.ob
  have hl := L.len
  have ne1 := L.pd T
  have ne2 := L.pl
  have ne3 := L.dl T
  walk_at "s"
  refine w_fldAt hp T.cLedger T.n_Ledger_given lfl_given ?_
  refine ⟨d, _, k, rfl, L.dc, kv, ents_keys 0 L.kv, ?_⟩
  rw [ents_kk 0 ths xs hl]
  walk_at "s"
  by_cases hk : k ∈ ths
  · rw [hasG_yes hk]
    refine iteF ?_
    walk_at "s"
    refine w_fldAt hp T.cLedger T.n_Ledger_given lfl_given ?_
    walk_at "s"
    obtain ⟨v', h1, _⟩ := ents_get 0 ths xs (num ths k) k hl (num_get hk)
    refine ⟨d, _, k, num ths k, _, rfl, L.dc, kv, ents_keys 0 L.kv, h1, ?_⟩
    have e : ask ths k = ths := by unfold ask; rw [if_pos hk]
    rw [Nat.zero_add]
    have := q H xs (by rw [e]; exact L) Kp.refl
    rw [e] at this
    exact this
  · rw [hasG_no hk]
    refine iteT ?_
    walk_at "s"
    refine w_fldAt hp T.cLedger T.n_Ledger_things lfl_things ?_
    walk_at "s"
    refine w_lenL (sql L.ls) ?_
    walk_at "s"
    refine w_fldAt hp T.cLedger T.n_Ledger_given lfl_given ?_
    walk_at "s"
    refine ⟨d, _, k, rfl, L.dc, kv, ents_keys 0 L.kv, by rw [ents_kk 0 ths xs hl]; exact hk, by rw [ents_len 0 ths xs hl]; exact szL hz, ?_⟩
    walk_at "s"
    have hp1 : ∀ o, (upd H d o) p = some (.ins c.Ledger dx (lfl d l)) := fun o => by rw [upd_ne ne1]; exact hp
    refine w_fldAt (hp1 _) T.cLedger T.n_Ledger_things lfl_things ?_
    have hl1 : ∀ o, (upd H d o) l = some (.lst xs) := fun o => by rw [upd_ne ne3.symm]; exact L.ls
    refine ⟨w_tyL (sql (hl1 _)), ?_⟩
    walk_at "s"
    refine w_app (hl1 _) (by rw [← hl]; exact szL hz) ?_
    walk_at "s"
    refine w_fldAt (by rw [upd_ne ne2]; exact hp1 _) T.cLedger T.n_Ledger_given lfl_given ?_
    walk_at "s"
    have e : ask ths k = ths ++ [k] := by unfold ask; rw [if_neg hk]
    have es := ents_snoc 0 ths xs k v hl
    rw [Nat.zero_add] at es
    -- the tuples stand
    have kv2 : ∀ {k' : MK} {v' : V}, KeyV H k' v' → KeyV (upd (upd H d (c.md d (ents 0 ths xs ++ [(k, v, V.int (xs.length : Nat))]))) l (.lst (xs ++ [v]))) k' v' := fun {k' v'} z => by
      refine (((Kp.refl (S := [d, l])).set (p := d) (by simp)).set (p := l) (by simp)).keyV z fun x o hx ho => ?_
      obtain ⟨φ, e2⟩ := T.md d (ents 0 ths xs)
      rintro ⟨ys, e3⟩
      subst e3
      rcases List.mem_cons.mp hx with r | r
      · rw [r, L.dc, e2] at ho; exact nomatch ho
      · rw [List.mem_singleton.mp r, L.ls] at ho; exact nomatch ho
    have L' : LedgerAt c (upd (upd H d (c.md d (ents 0 ths xs ++ [(k, v, V.int (xs.length : Nat))]))) l (.lst (xs ++ [v]))) p d l (ths ++ [k]) (xs ++ [v]) := by
      refine ⟨⟨dx, by rw [upd_ne ne2]; exact hp1 _⟩, ?_, upd_same, Paired.snoc (paired_imp L.kv fun a b z => kv2 z) (kv2 kv), nd_snoc L.nd hk⟩
      rw [upd_ne ne3, upd_same, es, hl]
    have g : (ents 0 ths xs ++ [(k, v, V.int (xs.length : Nat))])[ths.length]? = some (k, v, V.int (xs.length : Nat)) := by
      rw [List.getElem?_append_right (by rw [ents_len 0 ths xs hl]; exact Nat.le_refl _), ents_len 0 ths xs hl, Nat.sub_self]; rfl
    refine ⟨d, _, k, ths.length, _, rfl, by rw [upd_ne ne3, upd_same], kv2 kv, ?_, g, ?_⟩
    · have z := ents_keys 0 L'.kv
      rw [es, hl] at z
      exact z
    · have z := q _ _ (by rw [e]; exact L') (((Kp.refl (S := [d, l])).set (p := d) (by simp)).set (p := l) (by simp))
      have n : num (ask ths k) k = xs.length := by
        rw [e, ← hl]
        unfold num
        rw [List.idxOf_append, if_neg hk]
        simp
      rw [n] at z
      exact z
end Tw

namespace Tw
open PySem L2 Ts Mix
section
variable {K : PySem.W.Frag} {c : Cs} {H H' : Hp} {p d l : Addr} {ths : List MK} {vs : List V}
theorem LedgerAt.no {m : Str} (h1 : ¬ m = "given") (h2 : ¬ m = "things") : (lfl d l).lookup m = none := lfl_no h1 h2
end
/-- a number that was given out -/
def NumV (n : Nat) (v : V) : Prop := ∃ i : Nat, v = .int i ∧ i < n
theorem whole_of_num {K : PySem.W.Frag} {H : Hp} {n : Nat} {v : V} (h : NumV n v) : isWholeV K H v true := by
  obtain ⟨i, rfl, _⟩ := h
  exact .inl ⟨_, rfl, rfl⟩
def N_Ledger_sure : List Str := ["self", "number"]
def t_Ledger_sure (K : PySem.W.Frag) (c : Cs) (E : XK) : TS := (tIfS (tOr (tNot (tB (tCall (sp_is_whole K c) [] E (tCons (tVar 1) tNil)))) (tNot (tTest (tChain rLe rLt (tC (.int 0)) (tVar 1) (tCB (Ts.rLen K) (tCons (tFld K (tVar 0) "things") tNil)))))) (tRaiseX c.NoSum (fun cls d _ H => E cls d H)) tNext)
def sp_Ledger_sure (K : PySem.W.Frag) (c : Cs) : Sp := fun vs H Q E => ∃ p d l ths xs v b, vs = [.ref p, v] ∧ LedgerAt c H p d l ths xs ∧ isWholeV K H v b ∧ (NumV ths.length v → Q .non H) ∧ (¬ NumV ths.length v → E (.ref c.NoSum) none H)
theorem len_Ledger_sure {K c} : ∀ vs H Q E, sp_Ledger_sure K c vs H Q E → vs.length = 2 := by rintro vs H Q E ⟨p, d, l, ths, xs, v, b, rfl, _⟩; rfl
theorem pure_Ledger_sure {K : PySem.W.Frag} {c : Cs} {vs : List V} {H : Hp} {Q : VK} {E : XK} (T : TxK K c) (h : sp_Ledger_sure K c vs H Q E) : t_Ledger_sure K c E ⟨fun _ H' => Q .non H', Q, fun _ _ => False, fun _ _ => False⟩ (start N_Ledger_sure vs) H := by
  obtain ⟨p, d, l, ths, xs, v, b, rfl, L, hw, k1, k2⟩ := h
  show t_Ledger_sure K c E _ [some (.ref p), some v] H
  unfold t_Ledger_sure
  obtain ⟨dx, hp⟩ := L.ob
  have hl := L.len
  walk_at "s"
  refine ⟨v, b, rfl, hw, ?_⟩
  walk_at "s"
  refine ite_nb (fun hb => ?_) fun hb => ?_
  · refine iteT ?_
    walk_at "s"
    refine k2 fun ⟨i, e, _⟩ => ?_
    subst e
    rcases hw with ⟨_, _, z⟩ | ⟨x, z, _⟩ | ⟨x, z, _⟩ | ⟨z, _⟩ | ⟨a, ys, z, _⟩
    · rw [hb] at z; cases z
    all_goals exact nomatch z
  · subst hb
    obtain ⟨i, rfl⟩ : ∃ i, v = .int i := by
      rcases hw with ⟨i, z, _⟩ | ⟨x, _, z⟩ | ⟨x, _, z⟩ | ⟨_, z⟩ | ⟨a, ys, _, _, z⟩
      · exact ⟨i, z⟩
      all_goals cases z
    walk_at "s"
    refine ite_d (fun h0 => ?_) fun h0 => ?_
    · walk_at "s"
      refine w_fldAt hp T.cLedger T.n_Ledger_things lfl_things ?_
      walk_at "s"
      refine w_lenL (sql L.ls) ?_
      walk_at "s"
      refine ite_nd (fun h1 => ?_) fun h1 => ?_
      · walk_at "s"
        refine k2 fun ⟨n, e, hn⟩ => ?_
        cases e
        omega
      · walk_at "s"
        refine k1 ⟨i.toNat, by congr 1; omega, by omega⟩
    · walk_at "s"
      refine iteT ?_
      walk_at "s"
      refine k2 fun ⟨n, e, hn⟩ => ?_
      cases e
      omega
def N_Ledger_of_row : List Str := ["self", "row"]
def t_Ledger_of_row (K : PySem.W.Frag) (c : Cs) (E : XK) : TS := (tSeq (tDrop (tCall (sp_sure_row K c) [] E (tCons (tVar 1) tNil)))
  (tRet (tMeth c.Ledger "number_of" (sp_Ledger_number_of K c) [] E (tVar 0) (tCons (tVar 1) tNil))))
def sp_Ledger_of_row (K : PySem.W.Frag) (c : Cs) : Sp := fun vs H Q E => ∃ p d l ths xs v, vs = [.ref p, v] ∧ LedgerAt c H p d l ths xs ∧ RowV K H v ∧ ths.length < 1000000 ∧
  (∀ z, v = .str z → Good z → ∀ H' xs', LedgerAt c H' p d l (ask ths (.row z)) xs' → Kp [d, l] H H' → Q (.int (num (ask ths (.row z)) (.row z) : Nat)) H') ∧ (¬ isRowV v → E (.ref c.NoRow) none H)
theorem len_Ledger_of_row {K c} : ∀ vs H Q E, sp_Ledger_of_row K c vs H Q E → vs.length = 2 := by rintro vs H Q E ⟨p, d, l, ths, xs, v, rfl, _⟩; rfl
theorem pure_Ledger_of_row {K : PySem.W.Frag} {c : Cs} {vs : List V} {H : Hp} {Q : VK} {E : XK} (h : sp_Ledger_of_row K c vs H Q E) : t_Ledger_of_row K c E ⟨fun _ H' => Q .non H', Q, fun _ _ => False, fun _ _ => False⟩ (start N_Ledger_of_row vs) H := by
  obtain ⟨p, d, l, ths, xs, v, rfl, L, hv, hz, k1, k2⟩ := h
  show t_Ledger_of_row K c E _ [some (.ref p), some v] H
  unfold t_Ledger_of_row
  obtain ⟨dx, hp⟩ := L.ob
  walk_at "s"
  refine ⟨v, rfl, hv, fun y => ?_, k2⟩
  obtain ⟨z, rfl, hg⟩ := y
  walk_at "s"
  refine w_methAt hp (lfl_no (by decide +kernel) (by decide +kernel)) ?_
  walk_at "s"
  exact ⟨p, d, l, ths, xs, .row z, .str z, rfl, L, rfl, hz, fun H' xs' L' kp => k1 z rfl hg H' xs' L' kp⟩
def N_Ledger_of_pair : List Str := ["self", "one", "other"]
def t_Ledger_of_pair (K : PySem.W.Frag) (c : Cs) (E : XK) : TS := (tSeq (tDrop (tMeth c.Ledger "sure" (sp_Ledger_sure K c) [] E (tVar 0) (tCons (tVar 1) tNil)))
  (tSeq (tDrop (tMeth c.Ledger "sure" (sp_Ledger_sure K c) [] E (tVar 0) (tCons (tVar 2) tNil)))
  (tRet (tMeth c.Ledger "number_of" (sp_Ledger_number_of K c) [] E (tVar 0) (tCons (tTup (tCons (tVar 1) (tCons (tVar 2) tNil))) tNil)))))
def sp_Ledger_of_pair (K : PySem.W.Frag) (c : Cs) : Sp := fun vs H Q E => ∃ p d l ths xs v w b b', vs = [.ref p, v, w] ∧ LedgerAt c H p d l ths xs ∧ isWholeV K H v b ∧ isWholeV K H w b' ∧ ths.length < 1000000 ∧
  (∀ i j : Nat, v = .int i → w = .int j → i < ths.length → j < ths.length → ∀ H' xs', LedgerAt c H' p d l (ask ths (pk i j)) xs' → Kp [d, l] H H' → Q (.int (num (ask ths (pk i j)) (pk i j) : Nat)) H') ∧ (¬ (NumV ths.length v ∧ NumV ths.length w) → E (.ref c.NoSum) none H)
theorem len_Ledger_of_pair {K c} : ∀ vs H Q E, sp_Ledger_of_pair K c vs H Q E → vs.length = 3 := by rintro vs H Q E ⟨p, d, l, ths, xs, v, w, b, b', rfl, _⟩; rfl
theorem pure_Ledger_of_pair {K : PySem.W.Frag} {c : Cs} {vs : List V} {H : Hp} {Q : VK} {E : XK} (h : sp_Ledger_of_pair K c vs H Q E) : t_Ledger_of_pair K c E ⟨fun _ H' => Q .non H', Q, fun _ _ => False, fun _ _ => False⟩ (start N_Ledger_of_pair vs) H := by
  obtain ⟨p, d, l, ths, xs, v, w, b, b', rfl, L, hv, hw, hz, k1, k2⟩ := h
  show t_Ledger_of_pair K c E _ [some (.ref p), some v, some w] H
  unfold t_Ledger_of_pair
  obtain ⟨dx, hp⟩ := L.ob
  walk_at "s"
  refine w_methAt hp (lfl_no (by decide +kernel) (by decide +kernel)) ?_
  walk_at "s"
  refine ⟨p, d, l, ths, xs, v, b, rfl, L, hv, fun y1 => ?_, fun n => k2 fun z => n z.1⟩
  walk_at "s"
  refine w_methAt hp (lfl_no (by decide +kernel) (by decide +kernel)) ?_
  walk_at "s"
  refine ⟨p, d, l, ths, xs, w, b', rfl, L, hw, fun y2 => ?_, fun n => k2 fun z => n z.2⟩
  obtain ⟨i, rfl, hi⟩ := y1
  obtain ⟨j, rfl, hj⟩ := y2
  walk_at "s"
  refine w_methAt hp (lfl_no (by decide +kernel) (by decide +kernel)) ?_
  walk_at "s"
  refine ⟨by show 2 ≤ sizeLine; exact sz100 (by decide), fun t ht => ?_⟩
  walk_at "s"
  have e : Ex H (upd H t (.tup [.int i, .int j])) := ex_new ex_refl ht
  exact ⟨p, d, l, ths, xs, pk i j, .ref t, rfl, L.ex e, ⟨t, rfl, upd_same⟩, hz, fun H' xs' L' kp => k1 i j rfl rfl hi hj H' xs' L' ((Kp.of_ex e).trans kp)⟩
def N_Ledger_what : List Str := ["self", "number"]
def t_Ledger_what (K : PySem.W.Frag) (c : Cs) (E : XK) : TS := (tSeq (tDrop (tMeth c.Ledger "sure" (sp_Ledger_sure K c) [] E (tVar 0) (tCons (tVar 1) tNil)))
  (tRet (tOp (rIx K) (tFld K (tVar 0) "things") (tVar 1))))
def sp_Ledger_what (K : PySem.W.Frag) (c : Cs) : Sp := fun vs H Q E => ∃ p d l ths xs v b, vs = [.ref p, v] ∧ LedgerAt c H p d l ths xs ∧ isWholeV K H v b ∧
  (∀ (i : Nat) k w, v = .int i → ths[i]? = some k → xs[i]? = some w → KeyV H k w → Q w H) ∧ (¬ NumV ths.length v → E (.ref c.NoSum) none H)
theorem len_Ledger_what {K c} : ∀ vs H Q E, sp_Ledger_what K c vs H Q E → vs.length = 2 := by rintro vs H Q E ⟨p, d, l, ths, xs, v, b, rfl, _⟩; rfl
theorem paired_get {α β : Type} {F : α → β → Prop} : ∀ {xs : List α} {ys : List β} {i : Nat} {x : α}, Paired F xs ys → xs[i]? = some x → ∃ y, ys[i]? = some y ∧ F x y
  | _, _, i, x, .nil, e => by simp at e
  | _, _, 0, x, .cons h t, e => by simp at e; subst e; exact ⟨_, rfl, h⟩
  | _, _, i + 1, x, .cons h t, e => by
    obtain ⟨y, h1, h2⟩ := paired_get (i := i) (x := x) t (by simpa using e)
    exact ⟨y, by simpa using h1, h2⟩
theorem pure_Ledger_what {K : PySem.W.Frag} {c : Cs} {vs : List V} {H : Hp} {Q : VK} {E : XK} (T : TxK K c) (h : sp_Ledger_what K c vs H Q E) : t_Ledger_what K c E ⟨fun _ H' => Q .non H', Q, fun _ _ => False, fun _ _ => False⟩ (start N_Ledger_what vs) H := by
  obtain ⟨p, d, l, ths, xs, v, b, rfl, L, hv, k1, k2⟩ := h
  show t_Ledger_what K c E _ [some (.ref p), some v] H
  unfold t_Ledger_what
  obtain ⟨dx, hp⟩ := L.ob
  walk_at "s"
  refine w_methAt hp (lfl_no (by decide +kernel) (by decide +kernel)) ?_
  walk_at "s"
  refine ⟨p, d, l, ths, xs, v, b, rfl, L, hv, fun y1 => ?_, k2⟩
  obtain ⟨i, rfl, hi⟩ := y1
  walk_at "s"
  refine w_fldAt hp T.cLedger T.n_Ledger_things lfl_things ?_
  walk_at "s"
  obtain ⟨w, h1, h2⟩ := paired_get L.kv (List.getElem?_eq_getElem hi)
  exact w_ixL (sql L.ls) (atI_nat h1) (k1 i _ w rfl (List.getElem?_eq_getElem hi) h1 h2)
def N_Ledger_many : List Str := ["self"]
def t_Ledger_many (K : PySem.W.Frag) (c : Cs) (E : XK) : TS := (tRet (tCB (Ts.rLen K) (tCons (tFld K (tVar 0) "things") tNil)))
def sp_Ledger_many (K : PySem.W.Frag) (c : Cs) : Sp := fun vs H Q _ => ∃ p d l ths xs, vs = [.ref p] ∧ LedgerAt c H p d l ths xs ∧ ths.length < 1000000 ∧ Q (.int (ths.length : Nat)) H
theorem len_Ledger_many {K c} : ∀ vs H Q E, sp_Ledger_many K c vs H Q E → vs.length = 1 := by rintro vs H Q E ⟨p, d, l, ths, xs, rfl, _⟩; rfl
theorem pure_Ledger_many {K : PySem.W.Frag} {c : Cs} {vs : List V} {H : Hp} {Q : VK} {E : XK} (T : TxK K c) (h : sp_Ledger_many K c vs H Q E) : t_Ledger_many K c E ⟨fun _ H' => Q .non H', Q, fun _ _ => False, fun _ _ => False⟩ (start N_Ledger_many vs) H := by
  obtain ⟨p, d, l, ths, xs, rfl, L, hz, k⟩ := h
  show t_Ledger_many K c E _ [some (.ref p)] H
  unfold t_Ledger_many
  obtain ⟨dx, hp⟩ := L.ob
  walk_at "s"
  refine w_fldAt hp T.cLedger T.n_Ledger_things lfl_things ?_
  walk_at "s"
  refine w_lenL (sql L.ls) ?_
  rw [← L.len]
  exact k
end Tw

namespace Tw
open PySem L2 Ts Mix
/-! ### blocks, and what a sum is of: the mathematics -/
def lev (levels : List (List Nat)) (h : Nat) : List Nat := levels.getD h []
/-- the rows of a block -/
def blk (rows : List Str) (h j : Nat) : List Str := (rows.drop (j * 2 ^ h)).take (2 ^ h)
/-- the number n is given out for the rows rs, by halves, h high -/
def Den (ths : List MK) : Nat → Nat → List Str → Prop
  | 0, n, rs => ∃ z, rs = [z] ∧ ths[n]? = some (.row z)
  | h + 1, n, rs => ∃ a b r1 r2, ths[n]? = some (pk a b) ∧ Den ths h a r1 ∧ Den ths h b r2 ∧ rs = r1 ++ r2
theorem pre_get {α : Type} {xs ys : List α} (h : xs <+: ys) {i : Nat} {x : α} (e : xs[i]? = some x) : ys[i]? = some x := by
  obtain ⟨t, rfl⟩ := h
  rw [List.getElem?_append_left (List.getElem?_eq_some_iff.mp e).1]
  exact e
theorem Den.mono {ths ths' : List MK} (p : ths <+: ths') : ∀ {h n : Nat} {rs : List Str}, Den ths h n rs → Den ths' h n rs
  | 0, _, _, ⟨z, e, g⟩ => ⟨z, e, pre_get p g⟩
  | _ + 1, _, _, ⟨a, b, r1, r2, g, d1, d2, e⟩ => ⟨a, b, r1, r2, pre_get p g, d1.mono p, d2.mono p, e⟩
theorem Den.lt {ths : List MK} : ∀ {h n : Nat} {rs : List Str}, Den ths h n rs → n < ths.length
  | 0, _, _, ⟨_, _, g⟩ => get_lt g
  | _ + 1, _, _, ⟨_, _, _, _, g, _⟩ => get_lt g
theorem Den.len {ths : List MK} : ∀ {h n : Nat} {rs : List Str}, Den ths h n rs → rs.length = 2 ^ h
  | 0, _, _, ⟨_, e, _⟩ => by rw [e]; rfl
  | h + 1, _, _, ⟨_, _, _, _, _, d1, d2, e⟩ => by rw [e, List.length_append, d1.len, d2.len, Nat.pow_succ]; omega
/-- one number, one block -/
theorem Den.rows_eq {ths : List MK} : ∀ {h n : Nat} {r s : List Str}, Den ths h n r → Den ths h n s → r = s
  | 0, _, _, _, ⟨z, e, g⟩, ⟨z', e', g'⟩ => by rw [g] at g'; cases g'; rw [e, e']
  | h + 1, _, _, _, ⟨a, b, r1, r2, g, d1, d2, e⟩, ⟨a', b', s1, s2, g', d1', d2', e'⟩ => by
    rw [g] at g'
    obtain ⟨rfl, rfl⟩ := pk_inj (Option.some.inj g')
    rw [e, e', d1.rows_eq d1', d2.rows_eq d2']
/-- one block, one number -/
theorem Den.num_eq {ths : List MK} (nd : ths.Nodup) : ∀ {h n m : Nat} {r : List Str}, Den ths h n r → Den ths h m r → n = m
  | 0, _, _, _, ⟨z, e, g⟩, ⟨z', e', g'⟩ => by
    rw [e] at e'
    cases e'
    exact nd_ix nd g g'
  | h + 1, n, m, _, ⟨a, b, r1, r2, g, d1, d2, e⟩, ⟨a', b', s1, s2, g', d1', d2', e'⟩ => by
    rw [e] at e'
    have hl : r1.length = s1.length := by rw [d1.len, d1'.len]
    obtain ⟨e1, e2⟩ := List.append_inj e' hl
    subst e1 e2
    have x1 := d1.num_eq nd d1'
    have x2 := d2.num_eq nd d2'
    subst x1 x2
    exact nd_ix nd g g'
theorem Den.iff {ths : List MK} (nd : ths.Nodup) {h n m : Nat} {r s : List Str} (a : Den ths h n r) (b : Den ths h m s) : n = m ↔ r = s :=
  ⟨fun e => by subst e; exact a.rows_eq b, fun e => by subst e; exact a.num_eq nd b⟩
/-! blocks of rows -/
theorem blk_len {rows : List Str} {h j : Nat} (hj : (j + 1) * 2 ^ h ≤ rows.length) : (blk rows h j).length = 2 ^ h := by
  unfold blk
  rw [List.length_take, List.length_drop]
  have : (j + 1) * 2 ^ h = j * 2 ^ h + 2 ^ h := by rw [Nat.add_mul, Nat.one_mul]
  omega
theorem blk_succ (rows : List Str) (h j : Nat) : blk rows (h + 1) j = blk rows h (2 * j) ++ blk rows h (2 * j + 1) := by
  unfold blk
  have e1 : 2 ^ (h + 1) = 2 ^ h + 2 ^ h := by rw [Nat.pow_succ]; omega
  have e2 : j * (2 ^ h + 2 ^ h) = 2 * j * 2 ^ h := by rw [Nat.mul_add, Nat.mul_comm 2 j, Nat.mul_assoc, Nat.two_mul, Nat.mul_add]
  have e3 : (2 * j + 1) * 2 ^ h = 2 * j * 2 ^ h + 2 ^ h := by rw [Nat.add_mul, Nat.one_mul]
  rw [e1, e2, e3, List.take_add, List.drop_drop]
theorem lt_div_iff {j n h : Nat} : j < n / 2 ^ h ↔ (j + 1) * 2 ^ h ≤ n := by
  rw [← Nat.succ_le_iff]
  exact Nat.le_div_iff_mul_le (Nat.two_pow_pos h)
theorem blk_zero {rows : List Str} {j : Nat} {z : Str} (h : rows[j]? = some z) : blk rows 0 j = [z] := by
  unfold blk
  rw [Nat.pow_zero, Nat.mul_one, drop_at h]
  rfl
/-- rows further on don't matter -/
theorem blk_append {rows more : List Str} {h j : Nat} (hj : (j + 1) * 2 ^ h ≤ rows.length) : blk (rows ++ more) h j = blk rows h j := by
  unfold blk
  have : (j + 1) * 2 ^ h = j * 2 ^ h + 2 ^ h := by rw [Nat.add_mul, Nat.one_mul]
  generalize 2 ^ h = s at *
  rw [List.drop_append_of_le_length (by omega), List.take_append_of_le_length (by rw [List.length_drop]; omega)]
/-- a row elsewhere doesn't matter -/
theorem blk_set {rows : List Str} {place h j : Nat} {z : Str} (hj : j ≠ place / 2 ^ h) : blk (rows.set place z) h j = blk rows h j := by
  unfold blk
  apply List.ext_getElem?
  intro i
  rw [List.getElem?_take, List.getElem?_take]
  by_cases hi : i < 2 ^ h
  · rw [if_pos hi, if_pos hi, List.getElem?_drop, List.getElem?_drop, List.getElem?_set_ne]
    intro e
    apply hj
    rw [e, Nat.mul_comm, Nat.mul_add_div (Nat.two_pow_pos h), Nat.div_eq_of_lt hi, Nat.add_zero]
  · rw [if_neg hi, if_neg hi]

/-! ### the levels -/
def shp (levels : List (List Nat)) (n : Nat) : Prop := ∀ h, (lev levels h).length = n / 2 ^ h
/-- the levels of a book's rows, by what was given out -/
structure BookInv (ths : List MK) (rows : List Str) (levels : List (List Nat)) : Prop where
  len : ∀ h, (lev levels h).length = rows.length / 2 ^ h
  den : ∀ h j x, (lev levels h)[j]? = some x → Den ths h x (blk rows h j)
theorem BookInv.mono {ths ths' : List MK} {rows : List Str} {levels : List (List Nat)} (I : BookInv ths rows levels) (p : ths <+: ths') : BookInv ths' rows levels := ⟨I.len, fun h j x e => (I.den h j x e).mono p⟩
theorem lev_get {levels : List (List Nat)} {h : Nat} {l : List Nat} (e : levels[h]? = some l) : lev levels h = l := by unfold lev; rw [List.getD_eq_getElem?_getD, e]; rfl
theorem lev_out {levels : List (List Nat)} {h : Nat} (e : levels.length ≤ h) : lev levels h = [] := by unfold lev; rw [List.getD_eq_getElem?_getD, List.getElem?_eq_none e]; rfl
theorem lev_set {levels : List (List Nat)} {h k : Nat} {l : List Nat} (hk : h < levels.length) : lev (levels.set h l) k = if k = h then l else lev levels k := by
  unfold lev
  rw [List.getD_eq_getElem?_getD, List.getD_eq_getElem?_getD, List.getElem?_set]
  by_cases e : h = k
  · subst e
    rw [if_pos rfl, if_pos hk, if_pos rfl]; rfl
  · rw [if_neg e, if_neg (Ne.symm e)]
/-- a sum more at a height -/
def addAt (levels : List (List Nat)) (h x : Nat) : List (List Nat) := if h = levels.length then levels ++ [[x]] else levels.set h (lev levels h ++ [x])
theorem lev_addAt {levels : List (List Nat)} {h x k : Nat} (hh : h ≤ levels.length) : lev (addAt levels h x) k = if k = h then lev levels h ++ [x] else lev levels k := by
  unfold addAt
  by_cases e : h = levels.length
  · rw [if_pos e]
    unfold lev
    rw [List.getD_eq_getElem?_getD, List.getD_eq_getElem?_getD, List.getD_eq_getElem?_getD, List.getElem?_append]
    by_cases q : k = h
    · subst q
      rw [if_neg (by omega), if_pos rfl, e, Nat.sub_self, List.getElem?_eq_none (l := levels) (by omega)]; rfl
    · rw [if_neg q]
      by_cases r : k < levels.length
      · rw [if_pos r]
      · rw [if_neg r, List.getElem?_eq_none (l := levels) (by omega), List.getElem?_eq_none (by simp; omega)]
  · rw [if_neg e, lev_set (by omega)]
theorem addAt_len {levels : List (List Nat)} {h x : Nat} (hh : h ≤ levels.length) : (addAt levels h x).length = max levels.length (h + 1) := by
  unfold addAt
  split
  · rw [List.length_append]; simp; omega
  · rw [List.length_set]; omega
/-! growing -/
def growL : Nat → Nat → Nat → Nat → List MK → List (List Nat) → List MK × List (List Nat) × Nat
  | 0, h, _, _, ths, levels => (ths, levels, h)
  | f + 1, h, size, found, ths, levels =>
    if size % 2 = 1 then (ths, addAt levels h found, h + 1)
    else growL f (h + 1) (size / 2) (num (ask ths (pk ((lev (addAt levels h found) h).getD (size - 2) 0) ((lev (addAt levels h found) h).getD (size - 1) 0))) (pk ((lev (addAt levels h found) h).getD (size - 2) 0) ((lev (addAt levels h found) h).getD (size - 1) 0)))
      (ask ths (pk ((lev (addAt levels h found) h).getD (size - 2) 0) ((lev (addAt levels h found) h).getD (size - 1) 0))) (addAt levels h found)
def growM (ths : List MK) (rows : List Str) (levels : List (List Nat)) (z : Str) : List MK × List (List Nat) × Nat :=
  growL (rows.length + 1) 0 (rows.length + 1) (num (ask ths (.row z)) (.row z)) (ask ths (.row z)) levels
/-- what holds ahead of a turn at height h: the heights below are done, found is the block's sum that comes here -/
structure GInv (ths : List MK) (rows : List Str) (h size found : Nat) (levels : List (List Nat)) : Prop where
  n : rows.length = size * 2 ^ h
  pos : 0 < size
  lo : ∀ k, k < h → (lev levels k).length = rows.length / 2 ^ k
  hi : ∀ k, h ≤ k → (lev levels k).length = (rows.length - 1) / 2 ^ k
  den : ∀ k j x, (lev levels k)[j]? = some x → Den ths k x (blk rows k j)
  fd : Den ths h found (blk rows h (size - 1))
section
variable {ths : List MK} {rows : List Str} {h size found : Nat} {levels : List (List Nat)}
theorem GInv.le (G : GInv ths rows h size found levels) : h ≤ levels.length := by
  rcases Nat.lt_or_ge levels.length h with q | q
  · have e := G.lo levels.length q
    rw [lev_out (Nat.le_refl _)] at e
    have h1 : 2 ^ levels.length ≤ 2 ^ h := Nat.pow_le_pow_right (by decide) (by omega)
    have h2 : 2 ^ h ≤ rows.length := by rw [G.n]; exact Nat.le_mul_of_pos_left _ G.pos
    have h3 : 0 < rows.length / 2 ^ levels.length := Nat.div_pos (by omega) (Nat.two_pow_pos _)
    simp at e
    omega
  · exact q
theorem GInv.here (G : GInv ths rows h size found levels) : (lev levels h).length + 1 = size := by
  rw [G.hi h (Nat.le_refl _), G.n]
  have hp := Nat.two_pow_pos h
  obtain ⟨s, e⟩ : ∃ s, size = s + 1 := ⟨size - 1, by have := G.pos; omega⟩
  subst e
  have : (s + 1) * 2 ^ h - 1 = 2 ^ h * s + (2 ^ h - 1) := by rw [Nat.add_mul, Nat.one_mul, Nat.mul_comm]; omega
  rw [this, Nat.mul_add_div hp, Nat.div_eq_of_lt (by omega)]
theorem GInv.den1 (G : GInv ths rows h size found levels) : ∀ k j x, (lev (addAt levels h found) k)[j]? = some x → Den ths k x (blk rows k j) := by
  intro k j x e
  rw [lev_addAt G.le] at e
  by_cases q : k = h
  · subst q
    rw [if_pos rfl, List.getElem?_append] at e
    split at e
    · exact G.den k j x e
    · have h1 := G.here
      have hj : j = (lev levels k).length := by
        have := get_lt e
        simp at this
        omega
      rw [hj, Nat.sub_self] at e
      have e : found = x := by simpa using e
      subst e
      have : j = size - 1 := by omega
      rw [this]
      exact G.fd
  · rw [if_neg q] at e
    exact G.den k j x e
theorem half_odd {n k : Nat} (hn : 0 < n) (hd : ¬ n % 2 ^ k = 0) : (n - 1) / 2 ^ k = n / 2 ^ k := by
  have h1 := Nat.div_add_mod n (2 ^ k)
  have h2 := Nat.mod_lt n (Nat.two_pow_pos k)
  have e : n - 1 = 2 ^ k * (n / 2 ^ k) + (n % 2 ^ k - 1) := by omega
  rw [e, Nat.mul_add_div (Nat.two_pow_pos k), Nat.div_eq_of_lt (show n % 2 ^ k - 1 < 2 ^ k by omega), Nat.add_zero]
/-- the last turn -/
theorem GInv.stop (G : GInv ths rows h size found levels) (odd : size % 2 = 1) : BookInv ths rows (addAt levels h found) := by
  refine ⟨fun k => ?_, G.den1⟩
  rw [lev_addAt G.le]
  by_cases q : k = h
  · subst q
    rw [if_pos rfl, List.length_append, G.n, Nat.mul_div_cancel _ (Nat.two_pow_pos _)]
    exact G.here
  · rw [if_neg q]
    rcases Nat.lt_or_ge k h with r | r
    · exact G.lo k r
    · have r2 : h < k := by omega
      rw [G.hi k r]
      refine half_odd ?_ fun z => ?_
      · rw [G.n]; exact Nat.mul_pos G.pos (Nat.two_pow_pos _)
      · obtain ⟨t, rfl⟩ : ∃ t, k = h + 1 + t := ⟨k - (h + 1), by omega⟩
        have d1 : 2 ^ (h + 1) ∣ rows.length := Nat.dvd_trans (Nat.pow_dvd_pow 2 (by omega)) (Nat.dvd_of_mod_eq_zero z)
        rw [G.n, Nat.pow_succ, Nat.mul_comm size] at d1
        have := Nat.dvd_of_mul_dvd_mul_left (Nat.two_pow_pos h) d1
        omega
/-- the two sums that come to the next one -/
theorem GInv.two (G : GInv ths rows h size found levels) (even : ¬ size % 2 = 1) : ∃ a b, (lev (addAt levels h found) h)[size - 2]? = some a ∧ (lev (addAt levels h found) h)[size - 1]? = some b ∧ Den ths h a (blk rows h (size - 2)) ∧ Den ths h b (blk rows h (size - 1)) ∧
    (lev (addAt levels h found) h).getD (size - 2) 0 = a ∧ (lev (addAt levels h found) h).getD (size - 1) 0 = b := by
  have hl : (lev (addAt levels h found) h).length = size := by rw [lev_addAt G.le, if_pos rfl, List.length_append]; exact G.here
  have hp := G.pos
  have g1 : (lev (addAt levels h found) h)[size - 2]? = some ((lev (addAt levels h found) h)[size - 2]'(by omega)) := List.getElem?_eq_getElem _
  have g2 : (lev (addAt levels h found) h)[size - 1]? = some ((lev (addAt levels h found) h)[size - 1]'(by omega)) := List.getElem?_eq_getElem _
  refine ⟨_, _, g1, g2, G.den1 _ _ _ g1, G.den1 _ _ _ g2, ?_, ?_⟩
  · rw [List.getD_eq_getElem?_getD, g1]; rfl
  · rw [List.getD_eq_getElem?_getD, g2]; rfl
theorem den_pair {a b h : Nat} {r1 r2 : List Str} (d1 : Den ths h a r1) (d2 : Den ths h b r2) : Den (ask ths (pk a b)) (h + 1) (num (ask ths (pk a b)) (pk a b)) (r1 ++ r2) :=
  ⟨a, b, r1, r2, num_get (ask_mem _ _), d1.mono (ask_pre _ _), d2.mono (ask_pre _ _), rfl⟩
theorem den_row (z : Str) : Den (ask ths (.row z)) 0 (num (ask ths (.row z)) (.row z)) [z] := ⟨z, rfl, num_get (ask_mem _ _)⟩
theorem GInv.next (G : GInv ths rows h size found levels) (even : ¬ size % 2 = 1) {a b : Nat} (d1 : Den ths h a (blk rows h (size - 2))) (d2 : Den ths h b (blk rows h (size - 1))) :
    GInv (ask ths (pk a b)) rows (h + 1) (size / 2) (num (ask ths (pk a b)) (pk a b)) (addAt levels h found) := by
  have hp := G.pos
  have e2 : size = 2 * (size / 2) := by omega
  refine ⟨?_, by omega, fun k hk => ?_, fun k hk => ?_, fun k j x e => (G.den1 k j x e).mono (ask_pre _ _), ?_⟩
  · rw [G.n, Nat.pow_succ]
    conv => lhs; rw [e2]
    rw [Nat.mul_comm 2, Nat.mul_assoc, Nat.mul_comm 2]
  · rw [lev_addAt G.le]
    by_cases q : k = h
    · subst q
      rw [if_pos rfl, List.length_append, G.n, Nat.mul_div_cancel _ (Nat.two_pow_pos _)]
      exact G.here
    · rw [if_neg q]; exact G.lo k (by omega)
  · rw [lev_addAt G.le, if_neg (by omega)]
    exact G.hi k (by omega)
  · have e3 : blk rows (h + 1) (size / 2 - 1) = blk rows h (size - 2) ++ blk rows h (size - 1) := by
      rw [blk_succ, show 2 * (size / 2 - 1) = size - 2 by omega, show size - 2 + 1 = size - 1 by omega]
    rw [e3]
    exact den_pair d1 d2
end
theorem GInv.start {ths : List MK} {rows : List Str} {levels : List (List Nat)} (I : BookInv ths rows levels) (z : Str) : GInv (ask ths (.row z)) (rows ++ [z]) 0 (rows.length + 1) (num (ask ths (.row z)) (.row z)) levels := by
  have hl : (rows ++ [z]).length = rows.length + 1 := by simp
  refine ⟨by rw [hl]; simp, by omega, fun k hk => absurd hk (Nat.not_lt_zero _), fun k _ => by rw [hl]; exact I.len k, fun k j x e => ?_, ?_⟩
  · have hj := get_lt e
    rw [I.len] at hj
    rw [blk_append (lt_div_iff.mp hj)]
    exact (I.den k j x e).mono (ask_pre _ _)
  · rw [Nat.add_sub_cancel, blk_zero (z := z) (by simp)]
    exact den_row z
end Tw

namespace Tw
open PySem L2 Ts Mix
def nv (n : Nat) : V := .int (n : Int)
/-- a book's attributes -/
def bfl (L ln lv : Addr) : List (Str × V) := putF "levels" (.ref lv) (putF "lines" (.ref ln) (putF "ledger" (.ref L) []))
theorem bfl_ledger {L ln lv : Addr} : (bfl L ln lv).lookup ("ledger" : Str) = some (.ref L) := by
  unfold bfl
  rw [lookup_putF, if_neg (by decide +kernel), lookup_putF, if_neg (by decide +kernel), lookup_putF, if_pos rfl]
theorem bfl_lines {L ln lv : Addr} : (bfl L ln lv).lookup ("lines" : Str) = some (.ref ln) := by
  unfold bfl
  rw [lookup_putF, if_neg (by decide +kernel), lookup_putF, if_pos rfl]
theorem bfl_levels {L ln lv : Addr} : (bfl L ln lv).lookup ("levels" : Str) = some (.ref lv) := by
  unfold bfl
  rw [lookup_putF, if_pos rfl]
theorem bfl_no {L ln lv : Addr} {m : Str} (h1 : ¬ m = "ledger") (h2 : ¬ m = "lines") (h3 : ¬ m = "levels") : (bfl L ln lv).lookup m = none := by
  unfold bfl
  rw [lookup_putF, if_neg h3, lookup_putF, if_neg h2, lookup_putF, if_neg h1]
  rfl
/-- a book as it lies in the heap -/
structure BookAt (c : Cs) (H : Hp) (B L ln lv : Addr) (lvs : List Addr) (rows : List Str) (levels : List (List Nat)) : Prop where
  ob : ∃ dx, H B = some (.ins c.Book dx (bfl L ln lv))
  hln : H ln = some (.lst (rows.map V.str))
  hlv : H lv = some (.lst (lvs.map V.ref))
  hl : lvs.length = levels.length
  hs : ∀ (i : Nat) a x, lvs[i]? = some a → levels[i]? = some x → H a = some (.lst (x.map nv))
  nd : (ln :: lv :: lvs).Nodup
section
variable {K : PySem.W.Frag} {c : Cs} {H H' : Hp} {B L ln lv : Addr} {lvs : List Addr} {rows : List Str} {levels : List (List Nat)}
theorem BookAt.fp (b : BookAt c H B L ln lv lvs rows levels) : ∀ x ∈ ln :: lv :: lvs, ∃ ys, H x = some (.lst ys) := by
  intro x hx
  rcases List.mem_cons.mp hx with e | hx
  · subst e; exact ⟨_, b.hln⟩
  rcases List.mem_cons.mp hx with e | hx
  · subst e; exact ⟨_, b.hlv⟩
  obtain ⟨i, hi⟩ := List.mem_iff_getElem?.mp hx
  have h1 := get_lt hi
  rw [b.hl] at h1
  exact ⟨_, b.hs i x _ hi (List.getElem?_eq_getElem h1)⟩
theorem BookAt.notB (b : BookAt c H B L ln lv lvs rows levels) : B ∉ ln :: lv :: lvs := fun hx => by
  obtain ⟨ys, e⟩ := b.fp B hx
  obtain ⟨dx, h⟩ := b.ob
  rw [h] at e
  cases e
theorem BookAt.kp {S : List Addr} (b : BookAt c H B L ln lv lvs rows levels) (k : Kp S H H') (h : ∀ x ∈ S, x ∉ ln :: lv :: lvs) (hB : B ∉ S) : BookAt c H' B L ln lv lvs rows levels := by
  obtain ⟨dx, h1⟩ := b.ob
  refine ⟨⟨dx, k _ _ h1 hB⟩, k _ _ b.hln fun z => h _ z (by simp), k _ _ b.hlv fun z => h _ z (by simp), b.hl, fun i a x e1 e2 => k _ _ (b.hs i a x e1 e2) fun z => h _ z ?_, b.nd⟩
  exact List.mem_cons_of_mem _ (List.mem_cons_of_mem _ (List.mem_of_getElem? e1))
theorem BookAt.ex (b : BookAt c H B L ln lv lvs rows levels) (e : Ex H H') : BookAt c H' B L ln lv lvs rows levels := b.kp (S := []) (Kp.of_ex e) (fun _ z => nomatch z) (fun z => nomatch z)
/-- the rows are stored anew -/
theorem BookAt.lines {rows' : List Str} (b : BookAt c H B L ln lv lvs rows levels) : BookAt c (upd H ln (.lst (rows'.map V.str))) B L ln lv lvs rows' levels := by
  obtain ⟨dx, h1⟩ := b.ob
  have nd := b.nd
  rw [List.nodup_cons] at nd
  have nB : B ≠ ln := fun e => b.notB (by rw [e]; simp)
  refine ⟨⟨dx, by rw [upd_ne nB]; exact h1⟩, upd_same, ?_, b.hl, fun i a x e1 e2 => ?_, b.nd⟩
  · rw [upd_ne fun e => nd.1 (by rw [e]; simp)]; exact b.hlv
  · rw [upd_ne fun e => nd.1 (by rw [← e]; exact List.mem_cons_of_mem _ (List.mem_of_getElem? e1))]; exact b.hs i a x e1 e2
/-- a level is stored anew -/
theorem BookAt.level {i : Nat} {a : Addr} {x : List Nat} (b : BookAt c H B L ln lv lvs rows levels) (ha : lvs[i]? = some a) : BookAt c (upd H a (.lst (x.map nv))) B L ln lv lvs rows (levels.set i x) := by
  obtain ⟨dx, h1⟩ := b.ob
  have nd := b.nd
  rw [List.nodup_cons, List.nodup_cons] at nd
  have hm := List.mem_of_getElem? ha
  have nB : B ≠ a := fun e => b.notB (by rw [e]; exact List.mem_cons_of_mem _ (List.mem_cons_of_mem _ hm))
  refine ⟨⟨dx, by rw [upd_ne nB]; exact h1⟩, ?_, ?_, by rw [List.length_set]; exact b.hl, fun j a' y e1 e2 => ?_, b.nd⟩
  · rw [upd_ne fun e => nd.1 (by rw [e]; exact List.mem_cons_of_mem _ hm)]; exact b.hln
  · rw [upd_ne fun e => nd.2.1 (by rw [e]; exact hm)]; exact b.hlv
  · rw [List.getElem?_set] at e2
    by_cases q : i = j
    · subst q
      rw [ha] at e1
      cases e1
      rw [if_pos rfl] at e2
      split at e2
      · cases e2; exact upd_same
      · cases e2
    · rw [if_neg q] at e2
      have ne : a' ≠ a := fun e => by
        subst e
        exact q (nd_ix nd.2.2 ha e1)
      rw [upd_ne ne]
      exact b.hs j a' y e1 e2
/-- a level more -/
theorem BookAt.more {a : Addr} (b : BookAt c H B L ln lv lvs rows levels) (ha : H a = none) : BookAt c (upd (upd H a (.lst [])) lv (.lst (lvs.map V.ref ++ [.ref a]))) B L ln lv (lvs ++ [a]) rows (levels ++ [[]]) := by
  obtain ⟨dx, h1⟩ := b.ob
  have nd := b.nd
  rw [List.nodup_cons, List.nodup_cons] at nd
  have ne : ∀ {x : Addr} {o : HO}, H x = some o → x ≠ a := fun h => ne_of_none h ha
  have nB : B ≠ lv := fun e => b.notB (by rw [e]; simp)
  have na : a ∉ ln :: lv :: lvs := fun hx => by
    obtain ⟨ys, e⟩ := b.fp a hx
    rw [ha] at e
    cases e
  refine ⟨⟨dx, by rw [upd_ne nB, upd_ne (ne h1)]; exact h1⟩, ?_, ?_, by simp [b.hl], fun j a' y e1 e2 => ?_, ?_⟩
  · rw [upd_ne fun e => nd.1 (by rw [e]; simp), upd_ne (ne b.hln)]; exact b.hln
  · rw [upd_same, List.map_append]; rfl
  · rw [List.getElem?_append] at e1 e2
    rw [← b.hl] at e2
    by_cases q : j < lvs.length
    · rw [if_pos q] at e1 e2
      have h3 := b.hs j a' y e1 e2
      rw [upd_ne fun e => nd.2.1 (by rw [← e]; exact List.mem_of_getElem? e1), upd_ne (ne h3)]
      exact h3
    · rw [if_neg q] at e1 e2
      have q0 : j - lvs.length = 0 := by
        have := get_lt e1
        simp at this
        omega
      rw [q0] at e1 e2
      simp at e1 e2
      subst e1 e2
      rw [upd_ne fun e => na (by rw [e]; simp), upd_same]
      rfl
  · have : ln :: lv :: (lvs ++ [a]) = (ln :: lv :: lvs) ++ [a] := rfl
    rw [this]
    exact nd_snoc b.nd na
end
/-- a ledger and a book of it -/
structure BS (c : Cs) (H : Hp) (B L d l ln lv : Addr) (lvs : List Addr) (ths : List MK) (xs : List V) (rows : List Str) (levels : List (List Nat)) : Prop where
  la : LedgerAt c H L d l ths xs
  ba : BookAt c H B L ln lv lvs rows levels
  nd : (d :: l :: ln :: lv :: lvs).Nodup
section
variable {K : PySem.W.Frag} {c : Cs} {H H' : Hp} {B L d l ln lv : Addr} {lvs : List Addr} {ths : List MK} {xs : List V} {rows : List Str} {levels : List (List Nat)}
theorem BS.dl (S : BS c H B L d l ln lv lvs ths xs rows levels) : d ∉ ln :: lv :: lvs ∧ l ∉ ln :: lv :: lvs := by
  have nd := S.nd
  rw [List.nodup_cons, List.nodup_cons] at nd
  exact ⟨fun z => nd.1 (List.mem_cons_of_mem _ z), nd.2.1⟩
/-- behind the ledger's change -/
theorem BS.ledger (T : TxK K c) (S : BS c H B L d l ln lv lvs ths xs rows levels) {ths' : List MK} {xs' : List V} (L' : LedgerAt c H' L d l ths' xs') (k : Kp [d, l] H H') : BS c H' B L d l ln lv lvs ths' xs' rows levels := by
  refine ⟨L', S.ba.kp k (fun x hx => ?_) fun hB => ?_, S.nd⟩
  · rcases List.mem_cons.mp hx with e | e
    · rw [e]; exact S.dl.1
    · rw [List.mem_singleton.mp e]; exact S.dl.2
  · obtain ⟨dx, h1⟩ := S.ba.ob
    rcases List.mem_cons.mp hB with e | e
    · obtain ⟨φ, e2⟩ := T.md d (ents 0 ths xs)
      rw [e, S.la.dc, e2] at h1
      cases h1
    · have := S.la.ls
      rw [← List.mem_singleton.mp e, h1] at this
      cases this
/-- behind a store into one of the book's lists -/
theorem BS.book (T : TxK K c) (S : BS c H B L d l ln lv lvs ths xs rows levels) {rows' : List Str} {levels' : List (List Nat)} {a : Addr} {o : HO} (ha : a ∈ ln :: lv :: lvs) (B' : BookAt c (upd H a o) B L ln lv lvs rows' levels') : BS c (upd H a o) B L d l ln lv lvs ths xs rows' levels' := by
  refine ⟨S.la.kp T (S := ln :: lv :: lvs) (Kp.refl.set ha) fun x hx => ⟨fun e => S.dl.1 (e ▸ hx), fun e => S.dl.2 (e ▸ hx), fun u hu => ?_⟩, B', S.nd⟩
  obtain ⟨ys, h1⟩ := S.ba.fp x hx
  rw [h1] at hu
  cases hu
  exact ⟨ys, rfl⟩
theorem BS.more {a : Addr} (T : TxK K c) (S : BS c H B L d l ln lv lvs ths xs rows levels) (ha : H a = none) : BS c (upd (upd H a (.lst [])) lv (.lst (lvs.map V.ref ++ [.ref a]))) B L d l ln lv (lvs ++ [a]) ths xs rows (levels ++ [[]]) := by
  have na : a ∉ d :: l :: ln :: lv :: lvs := fun hx => by
    rcases List.mem_cons.mp hx with e | hx
    · rw [e, S.la.dc] at ha; cases ha
    rcases List.mem_cons.mp hx with e | hx
    · rw [e, S.la.ls] at ha; cases ha
    obtain ⟨ys, e⟩ := S.ba.fp a hx
    rw [e] at ha
    cases ha
  have nlv : lv ≠ a := fun e => na (by rw [← e]; simp)
  refine ⟨(S.la.ex (ex_new (o := .lst []) ex_refl ha)).kp T (S := [lv]) (Kp.refl.set (by simp)) fun x hx => ?_, S.ba.more ha, ?_⟩
  · rw [List.mem_singleton.mp hx]
    refine ⟨fun e => S.dl.1 (by rw [← e]; simp), fun e => S.dl.2 (by rw [← e]; simp), fun o ho => ?_⟩
    rw [upd_ne nlv, S.ba.hlv] at ho
    cases ho
    exact ⟨_, rfl⟩
  · have e : d :: l :: ln :: lv :: (lvs ++ [a]) = (d :: l :: ln :: lv :: lvs) ++ [a] := rfl
    rw [e]
    exact nd_snoc S.nd na
/-- what is not there is none of the book's -/
theorem BS.new {a : Addr} (S : BS c H B L d l ln lv lvs ths xs rows levels) (ha : H a = none) : a ∉ d :: l :: ln :: lv :: lvs := fun hx => by
  rcases List.mem_cons.mp hx with e | hx
  · rw [e, S.la.dc] at ha; cases ha
  rcases List.mem_cons.mp hx with e | hx
  · rw [e, S.la.ls] at ha; cases ha
  obtain ⟨ys, e⟩ := S.ba.fp a hx
  rw [e] at ha
  cases ha
theorem BS.ex (S : BS c H B L d l ln lv lvs ths xs rows levels) (e : Ex H H') : BS c H' B L d l ln lv lvs ths xs rows levels := ⟨S.la.ex e, S.ba.ex e, S.nd⟩
end
/-- the lists of a book, and what the ledger changes -/
abbrev fpS (d l ln lv : Addr) (lvs : List Addr) : List Addr := d :: l :: ln :: lv :: lvs
/-! ### the readings -/
def N_Book_half_sums : List Str := ["self", "height", "number", "below"]
def t_Book_half_sums (K : PySem.W.Frag) (c : Cs) (E : XK) : TS := (tSeq (tAsg (tOp (rIx K) (tFld K (tVar 0) "levels") (tOp rSubI (tVar 1) (tC (.int 1)))) (gName 3))
  (tRet (tMeth c.Ledger "of_pair" (sp_Ledger_of_pair K c) [] E0 (tFld K (tVar 0) "ledger") (tCons (tOp (rIx K) (tVar 3) (tOp rMul (tC (.int 2)) (tVar 2))) (tCons (tOp (rIx K) (tVar 3) (tOp rAddU (tOp rMul (tC (.int 2)) (tVar 2)) (tC (.int 1)))) tNil)))))
def sp_Book_half_sums (K : PySem.W.Frag) (c : Cs) : Sp := fun vs H Q _ => ∃ (B L d l ln lv : Addr) (lvs : List Addr) (ths : List MK) (xs : List V) (rows : List Str) (levels : List (List Nat)) (h j a b : Nat), vs = [.ref B, .int ((h + 1 : Nat) : Int), .int (j : Int)] ∧ BS c H B L d l ln lv lvs ths xs rows levels ∧ ths.length < 1000000 ∧
  (lev levels h)[2 * j]? = some a ∧ (lev levels h)[2 * j + 1]? = some b ∧ a < ths.length ∧ b < ths.length ∧
  ∀ H' xs', BS c H' B L d l ln lv lvs (ask ths (pk a b)) xs' rows levels → Kp [d, l] H H' → Q (.int (num (ask ths (pk a b)) (pk a b) : Nat)) H'
theorem len_Book_half_sums {K c} : ∀ vs H Q E, sp_Book_half_sums K c vs H Q E → vs.length = 3 := by rintro vs H Q E ⟨_, _, _, _, _, _, _, _, _, _, _, _, _, _, _, rfl, _⟩; rfl
theorem lev_at {levels : List (List Nat)} {h j a : Nat} (e : (lev levels h)[j]? = some a) : ∃ x, levels[h]? = some x ∧ x[j]? = some a := by
  rcases Nat.lt_or_ge h levels.length with q | q
  · have e2 := List.getElem?_eq_getElem q
    rw [lev_get e2] at e
    exact ⟨_, e2, e⟩
  · rw [lev_out q] at e
    simp at e
theorem pure_Book_half_sums {K : PySem.W.Frag} {c : Cs} {vs : List V} {H : Hp} {Q : VK} {E : XK} (T : TxK K c) (h : sp_Book_half_sums K c vs H Q E) : t_Book_half_sums K c E ⟨fun _ H' => Q .non H', Q, fun _ _ => False, fun _ _ => False⟩ (start N_Book_half_sums vs) H := by
  obtain ⟨B, L, d, l, ln, lv, lvs, ths, xs, rows, levels, h, j, a, b, rfl, S, hz, g1, g2, ha, hb, k⟩ := h
  show t_Book_half_sums K c E _ [some (.ref B), some (.int ((h + 1 : Nat) : Int)), some (.int (j : Int)), none] H
  unfold t_Book_half_sums
  obtain ⟨dx, hB⟩ := S.ba.ob
  obtain ⟨dy, hL⟩ := S.la.ob
  obtain ⟨x, x1, x2⟩ := lev_at g1
  obtain ⟨x', x3, x4⟩ := lev_at g2
  rw [x1] at x3
  cases x3
  have hv := S.ba.hl
  obtain ⟨A, hA⟩ : ∃ A, lvs[h]? = some A := ⟨_, List.getElem?_eq_getElem (by rw [hv]; exact get_lt x1)⟩
  have hx := S.ba.hs h A x hA x1
  walk_at "s"
  refine w_fldAt hB T.cBook T.n_Book_levels bfl_levels ?_
  walk_at "s"
  refine w_ixL (sql S.ba.hlv) (at_of (j := h) (v := .ref A) (by omega) (by rw [List.getElem?_map, hA]; rfl)) ?_
  walk_at "s"
  refine w_fldAt hB T.cBook T.n_Book_ledger bfl_ledger ?_
  refine w_methAt hL (lfl_no (by decide +kernel) (by decide +kernel)) ?_
  walk_at "s"
  refine w_ixL (sql hx) (at_of (j := 2 * j) (v := nv a) (by push_cast; rfl) (by rw [List.getElem?_map, x2]; rfl)) ?_
  walk_at "s"
  refine w_ixL (sql hx) (at_of (j := 2 * j + 1) (v := nv b) (by push_cast; rfl) (by rw [List.getElem?_map, x4]; rfl)) ?_
  walk_at "s"
  refine ⟨L, d, l, ths, xs, nv a, nv b, true, true, rfl, S.la, whole_of_num ⟨a, rfl, ha⟩, whole_of_num ⟨b, rfl, hb⟩, hz, fun i1 j1 e1 e2 _ _ H' xs' L' kp => ?_, fun n => absurd ⟨⟨a, rfl, ha⟩, ⟨b, rfl, hb⟩⟩ n⟩
  have e1 : i1 = a := by have := V.int.inj e1; omega
  have e2 : j1 = b := by have := V.int.inj e2; omega
  subst e1 e2
  exact k H' xs' (S.ledger T L' kp) kp
def N_Book_sure : List Str := ["self", "place"]
def t_Book_sure (K : PySem.W.Frag) (c : Cs) (E : XK) : TS := (tIfS (tOr (tNot (tB (tCall (sp_is_whole K c) [] E (tCons (tVar 1) tNil)))) (tNot (tTest (tChain rLe rLt (tC (.int 0)) (tVar 1) (tCB (Ts.rLen K) (tCons (tFld K (tVar 0) "lines") tNil)))))) (tRaiseX c.NoPlace (fun cls d _ H => E cls d H)) tNext)
def sp_Book_sure (K : PySem.W.Frag) (c : Cs) : Sp := fun vs H Q E => ∃ (B L ln lv : Addr) (lvs : List Addr) (rows : List Str) (levels : List (List Nat)) (v : V) (b : Bool), vs = [.ref B, v] ∧ BookAt c H B L ln lv lvs rows levels ∧ isWholeV K H v b ∧ rows.length ≤ 100000 ∧ (NumV rows.length v → Q .non H) ∧ (¬ NumV rows.length v → E (.ref c.NoPlace) none H)
theorem len_Book_sure {K c} : ∀ vs H Q E, sp_Book_sure K c vs H Q E → vs.length = 2 := by rintro vs H Q E ⟨_, _, _, _, _, _, _, _, _, rfl, _⟩; rfl
theorem pure_Book_sure {K : PySem.W.Frag} {c : Cs} {vs : List V} {H : Hp} {Q : VK} {E : XK} (T : TxK K c) (h : sp_Book_sure K c vs H Q E) : t_Book_sure K c E ⟨fun _ H' => Q .non H', Q, fun _ _ => False, fun _ _ => False⟩ (start N_Book_sure vs) H := by
  obtain ⟨B, L, ln, lv, lvs, rows, levels, v, b, rfl, S, hw, hz, k1, k2⟩ := h
  show t_Book_sure K c E _ [some (.ref B), some v] H
  unfold t_Book_sure
  obtain ⟨dx, hB⟩ := S.ob
  walk_at "s"
  refine ⟨v, b, rfl, hw, ?_⟩
  walk_at "s"
  refine ite_nb (fun hb => ?_) fun hb => ?_
  · refine iteT ?_
    walk_at "s"
    refine k2 fun ⟨i, e, _⟩ => ?_
    subst e
    rcases hw with ⟨_, _, z⟩ | ⟨x, z, _⟩ | ⟨x, z, _⟩ | ⟨z, _⟩ | ⟨a, ys, z, _⟩
    · rw [hb] at z; cases z
    all_goals exact nomatch z
  · subst hb
    obtain ⟨i, rfl⟩ : ∃ i, v = .int i := by
      rcases hw with ⟨i, z, _⟩ | ⟨x, _, z⟩ | ⟨x, _, z⟩ | ⟨_, z⟩ | ⟨a, ys, _, _, z⟩
      · exact ⟨i, z⟩
      all_goals cases z
    walk_at "s"
    refine ite_d (fun h0 => ?_) fun h0 => ?_
    · walk_at "s"
      refine w_fldAt hB T.cBook T.n_Book_lines bfl_lines ?_
      walk_at "s"
      refine w_lenL (sql S.hln) ?_
      rw [List.length_map]
      walk_at "s"
      refine ite_nd (fun h1 => ?_) fun h1 => ?_
      · walk_at "s"
        refine k2 fun ⟨n, e, hn⟩ => ?_
        cases e
        omega
      · walk_at "s"
        refine k1 ⟨i.toNat, by congr 1; omega, by omega⟩
    · walk_at "s"
      refine iteT ?_
      walk_at "s"
      refine k2 fun ⟨n, e, hn⟩ => ?_
      cases e
      omega
end Tw

namespace Tw
open PySem L2 Ts Mix
/-- the level that is to be written stands -/
def mid (levels : List (List Nat)) (h : Nat) : List (List Nat) := if h = levels.length then levels ++ [[]] else levels
theorem mid_add {levels : List (List Nat)} {h x : Nat} (hh : h ≤ levels.length) : (mid levels h).set h (lev levels h ++ [x]) = addAt levels h x := by
  unfold mid addAt
  by_cases e : h = levels.length
  · rw [if_pos e, if_pos e, lev_out (by omega), e]
    simp
  · rw [if_neg e, if_neg e]
theorem mid_lev {levels : List (List Nat)} {h : Nat} (hh : h ≤ levels.length) : (mid levels h)[h]? = some (lev levels h) := by
  unfold mid
  by_cases e : h = levels.length
  · rw [if_pos e, lev_out (by omega), e]
    simp
  · rw [if_neg e]
    unfold lev
    rw [List.getD_eq_getElem?_getD, List.getElem?_eq_getElem (by omega)]
    rfl
theorem growL_bound : ∀ (f h size found : Nat) (ths : List MK) (levels : List (List Nat)), 0 < size → size ≤ f → (growL f h size found ths levels).1.length ≤ ths.length + ((growL f h size found ths levels).2.2 - h - 1) ∧ h + 1 ≤ (growL f h size found ths levels).2.2
  | 0, h, _, _, ths, levels, h1, h2 => by omega
  | f + 1, h, size, found, ths, levels, p1, p2 => by
    unfold growL
    split
    · exact ⟨by show ths.length ≤ _; omega, Nat.le_refl _⟩
    · generalize hk : pk ((lev (addAt levels h found) h).getD (size - 2) 0) ((lev (addAt levels h found) h).getD (size - 1) 0) = k
      obtain ⟨h1, h2⟩ := growL_bound f (h + 1) (size / 2) (num (ask ths k) k) (ask ths k) (addAt levels h found) (by omega) (by omega)
      have h3 := ask_len ths k
      generalize growL f (h + 1) (size / 2) (num (ask ths k) k) (ask ths k) (addAt levels h found) = g at *
      exact ⟨by omega, by omega⟩
theorem growL_pre : ∀ (f h size found : Nat) (ths : List MK) (levels : List (List Nat)), ths <+: (growL f h size found ths levels).1
  | 0, h, _, _, ths, levels => List.prefix_refl _
  | f + 1, h, size, found, ths, levels => by
    unfold growL
    split
    · exact List.prefix_refl _
    · exact (ask_pre _ _).trans (growL_pre f _ _ _ _ _)
/-- a place lies in just n of the blocks of cnt rows -/
def IsBc (cnt place n : Nat) : Prop := (∀ h, h < n → (place / 2 ^ h + 1) * 2 ^ h ≤ cnt) ∧ ¬ (place / 2 ^ n + 1) * 2 ^ n ≤ cnt
theorem GInv.bc {ths : List MK} {rows : List Str} {h size found : Nat} {levels : List (List Nat)} (G : GInv ths rows h size found levels) (odd : size % 2 = 1) : IsBc rows.length (rows.length - 1) (h + 1) := by
  have hp := G.pos
  have hn : 0 < rows.length := by rw [G.n]; exact Nat.mul_pos hp (Nat.two_pow_pos _)
  -- 2 ^ k divides the count just for k up to h
  have key : ∀ k, (rows.length - 1) / 2 ^ k * 2 ^ k + 2 ^ k ≤ rows.length ↔ rows.length % 2 ^ k = 0 := fun k => by
    have h1 := Nat.div_add_mod rows.length (2 ^ k)
    have h2 := Nat.mod_lt rows.length (Nat.two_pow_pos k)
    constructor
    · intro q
      rcases Nat.eq_zero_or_pos (rows.length % 2 ^ k) with z | z
      · exact z
      · rw [half_odd hn (by omega), Nat.mul_comm] at q
        omega
    · intro q
      obtain ⟨m, hm⟩ := Nat.dvd_of_mod_eq_zero q
      have m0 : 0 < m := by
        rcases Nat.eq_zero_or_pos m with z | z
        · rw [z, Nat.mul_zero] at hm; omega
        · exact z
      obtain ⟨m', rfl⟩ : ∃ m', m = m' + 1 := ⟨m - 1, by omega⟩
      have e : rows.length - 1 = 2 ^ k * m' + (2 ^ k - 1) := by
        rw [hm, Nat.mul_add, Nat.mul_one]
        have := Nat.two_pow_pos k
        omega
      rw [e, Nat.mul_add_div (Nat.two_pow_pos k), Nat.div_eq_of_lt (by have := Nat.two_pow_pos k; omega), Nat.add_zero, hm, Nat.mul_add, Nat.mul_one, Nat.mul_comm]
      exact Nat.le_refl _
  refine ⟨fun k hk => ?_, fun z => ?_⟩
  · rw [Nat.add_mul, Nat.one_mul]
    refine (key k).mpr ?_
    refine Nat.mod_eq_zero_of_dvd ?_
    rw [G.n]
    exact Nat.dvd_trans (Nat.pow_dvd_pow 2 (by omega)) (Nat.dvd_mul_left _ _)
  · rw [Nat.add_mul, Nat.one_mul] at z
    have d1 := Nat.dvd_of_mod_eq_zero ((key (h + 1)).mp z)
    rw [G.n, Nat.pow_succ, Nat.mul_comm size] at d1
    have := Nat.dvd_of_mul_dvd_mul_left (Nat.two_pow_pos h) d1
    omega
/-- the lists of a book may have become more -/
def Wider (H : Hp) (lvs lvs' : List Addr) : Prop := lvs <+: lvs' ∧ ∀ x ∈ lvs', x ∈ lvs ∨ H x = none
def N_Book_grow : List Str := ["self", "row", "size", "height", "found"]
def t_Book_grow (K : PySem.W.Frag) (c : Cs) (E : XK) : TS := (tSeq (tDrop (tBM K "list" rAppend (tFld K (tVar 0) "lines") (tCons (tVar 1) tNil)))
  (tSeq (tAsg (tCB (Ts.rLen K) (tCons (tFld K (tVar 0) "lines") tNil)) (gName 2))
  (tSeq (tAsg (tC (.int 0)) (gName 3))
  (tSeq (tAsg (tMeth c.Ledger "of_row" (sp_Ledger_of_row K c) [] E0 (tFld K (tVar 0) "ledger") (tCons (tVar 1) tNil)) (gName 4))
  (tWhile (tB (tC (.bl true))) (Evl.tCut (tIfS (tTest (tOp (rEqU K) (tVar 3) (tCB (Ts.rLen K) (tCons (tFld K (tVar 0) "levels") tNil)))) (tDrop (tBM K "list" rAppend (tFld K (tVar 0) "levels") (tCons (tLst tNil) tNil))) tNext)
  (tSeq (tDrop (tBM K "list" rAppend (tOp (rIx K) (tFld K (tVar 0) "levels") (tVar 3)) (tCons (tVar 4) tNil)))
  (tSeq (tIfS (tTest (tOp (rEqU K) (tOp rMod (tVar 2) (tC (.int 2))) (tC (.int 1)))) (tRet (tOp rAddU (tVar 3) (tC (.int 1)))) tNext)
  (tSeq (tAsg (tOp rDiv (tVar 2) (tC (.int 2))) (gName 2))
  (tSeq (tAsg (tOp rAddU (tVar 3) (tC (.int 1))) (gName 3))
  (tAsg (tMeth c.Book "half_sums" (sp_Book_half_sums K c) [] E0 (tVar 0) (tCons (tVar 3) (tCons (tOp rSubI (tVar 2) (tC (.int 1))) tNil))) (gName 4))))))))))))
def sp_Book_grow (K : PySem.W.Frag) (c : Cs) : Sp := fun vs H Q _ => ∃ (B L d l ln lv : Addr) (lvs : List Addr) (ths : List MK) (xs : List V) (rows : List Str) (levels : List (List Nat)) (z : Str), vs = [.ref B, .str z] ∧ BS c H B L d l ln lv lvs ths xs rows levels ∧ BookInv ths rows levels ∧ Good z ∧
  rows.length < 100000 ∧ ths.length < 900000 ∧
  ∀ H' xs' lvs', BS c H' B L d l ln lv lvs' (growM ths rows levels z).1 xs' (rows ++ [z]) (growM ths rows levels z).2.1 → BookInv (growM ths rows levels z).1 (rows ++ [z]) (growM ths rows levels z).2.1 → IsBc (rows.length + 1) rows.length (growM ths rows levels z).2.2 →
    Kp (fpS d l ln lv lvs) H H' → Wider H lvs lvs' → Q (.int ((growM ths rows levels z).2.2 : Nat)) H'
theorem len_Book_grow {K c} : ∀ vs H Q E, sp_Book_grow K c vs H Q E → vs.length = 2 := by rintro vs H Q E ⟨_, _, _, _, _, _, _, _, _, _, _, _, rfl, _⟩; rfl
/-- what the loop keeps -/
structure GrowAt (c : Cs) (H H' : Hp) (B L d l ln lv : Addr) (lvs : List Addr) (ths : List MK) (rows : List Str) (levels : List (List Nat)) (z : Str) (h size found : Nat) : Prop where
  ex : ∃ (f : Nat) (lvs1 : List Addr) (ths1 : List MK) (xs1 : List V) (levels1 : List (List Nat)), BS c H' B L d l ln lv lvs1 ths1 xs1 (rows ++ [z]) levels1 ∧ GInv ths1 (rows ++ [z]) h size found levels1 ∧ Kp (fpS d l ln lv lvs) H H' ∧ Wider H lvs lvs1 ∧
    growL f h size found ths1 levels1 = growM ths rows levels z ∧ size ≤ f ∧ ths1.length ≤ ths.length + 1 + h
theorem GInv.low {ths : List MK} {rows : List Str} {h size found : Nat} {levels : List (List Nat)} (G : GInv ths rows h size found levels) (hr : rows.length ≤ 100000) : h ≤ 16 := by
  rcases Nat.lt_or_ge 16 h with q | q
  · have h1 : 2 ^ 17 ≤ 2 ^ h := Nat.pow_le_pow_right (by decide) (by omega)
    have h2 : 2 ^ h ≤ rows.length := by rw [G.n]; exact Nat.le_mul_of_pos_left _ G.pos
    have h3 : (2 : Nat) ^ 17 = 131072 := by decide
    omega
  · exact q
theorem pure_Book_grow {K : PySem.W.Frag} {c : Cs} {vs : List V} {H : Hp} {Q : VK} {E : XK} (T : TxK K c) (h : sp_Book_grow K c vs H Q E) : t_Book_grow K c E ⟨fun _ H' => Q .non H', Q, fun _ _ => False, fun _ _ => False⟩ (start N_Book_grow vs) H := by
  obtain ⟨B, L, d, l, ln, lv, lvs, ths, xs, rows, levels, z, rfl, S, I, hg, hr, hz, k⟩ := h
  show t_Book_grow K c E _ [some (.ref B), some (.str z), none, none, none] H
  unfold t_Book_grow
  obtain ⟨dx, hB⟩ := S.ba.ob
  have hnl : (rows ++ [z]).length = rows.length + 1 := by simp
  walk_at "s"
  refine w_fldAt hB T.cBook T.n_Book_lines bfl_lines ?_
  refine ⟨w_tyL (sql S.ba.hln), ?_⟩
  walk_at "s"
  refine w_app S.ba.hln (by rw [List.length_map]; exact szL (by omega)) ?_
  walk_at "s"
  have S1 : BS c (upd H ln (.lst (rows.map V.str ++ [.str z]))) B L d l ln lv lvs ths xs (rows ++ [z]) levels := by
    have e : rows.map V.str ++ [.str z] = (rows ++ [z]).map V.str := by rw [List.map_append]; rfl
    rw [e]
    exact S.book T (by simp) S.ba.lines
  have k1 : Kp (fpS d l ln lv lvs) H (upd H ln (.lst (rows.map V.str ++ [.str z]))) := Kp.refl.set (by simp)
  generalize upd H ln (.lst (rows.map V.str ++ [.str z])) = H1 at S1 k1
  obtain ⟨dx1, hB1⟩ := S1.ba.ob
  refine w_fldAt hB1 T.cBook T.n_Book_lines bfl_lines ?_
  walk_at "s"
  refine w_lenL (sql S1.ba.hln) ?_
  rw [List.length_map, hnl]
  walk_at "s"
  refine w_fldAt hB1 T.cBook T.n_Book_ledger bfl_ledger ?_
  obtain ⟨dy, hL1⟩ := S1.la.ob
  refine w_methAt hL1 (lfl_no (by decide +kernel) (by decide +kernel)) ?_
  walk_at "s"
  refine ⟨L, d, l, ths, xs, .str z, rfl, S1.la, rowV_good hg, by omega, fun z' ez _ H2 xs2 L2 kp2 => ?_, fun n => absurd ⟨z, rfl, hg⟩ n⟩
  cases ez
  walk_at "s"
  refine w_while (fun σ H' => ∃ h size found : Nat, σ = [some (.ref B), some (.str z), some (.int (size : Nat)), some (.int (h : Nat)), some (.int (found : Nat))] ∧ GrowAt c H H' B L d l ln lv lvs ths rows levels z h size found)
    (fun σ _ => match σ with | [_, _, some (.int m), _, _] => m.toNat | _ => 0) ?_ ?_
  · refine ⟨0, rows.length + 1, _, rfl, rows.length + 1, lvs, ask ths (.row z), xs2, levels, S1.ledger T L2 kp2, GInv.start I z, ?_, ⟨List.prefix_refl _, fun x hx => .inl hx⟩, rfl, Nat.le_refl _, by have := ask_len ths (.row z); omega⟩
    exact k1.trans (kp2.mono fun x hx => by
      rcases List.mem_cons.mp hx with e | e
      · rw [e]; simp
      · rw [List.mem_singleton.mp e]; simp)
  · rintro σ H3 ⟨h, size, found, rfl, f, lvs1, ths1, xs1, levels1, S3, G, k3, w3, eg, hf, hb⟩
    have hle := G.le
    have hlow := G.low (by omega)
    walk_at "s"
    refine iteT ?_
    refine w_wN ?_
    obtain ⟨dx3, hB3⟩ := S3.ba.ob
    walk_at "s"
    -- the level is there, or a new one
    refine w_cut (Mid := fun σ' H' => σ' = [some (.ref B), some (.str z), some (.int (size : Nat)), some (.int (h : Nat)), some (.int (found : Nat))] ∧ ∃ lvs2, BS c H' B L d l ln lv lvs2 ths1 xs1 (rows ++ [z]) (mid levels1 h) ∧ Kp (fpS d l ln lv lvs) H H' ∧ Wider H lvs lvs2) ?_ ?_
    · walk_at "s"
      refine w_fldAt hB3 T.cBook T.n_Book_levels bfl_levels ?_
      walk_at "s"
      refine w_lenL (sql S3.ba.hlv) ?_
      rw [List.length_map, S3.ba.hl]
      walk_at "s"
      refine ite_d (fun h0 => ?_) fun h0 => ?_
      · have h0 : h = levels1.length := by omega
        walk_at "s"
        refine w_fldAt hB3 T.cBook T.n_Book_levels bfl_levels ?_
        refine ⟨w_tyL (sql S3.ba.hlv), ?_⟩
        walk_at "s"
        refine ⟨Nat.zero_le _, fun a ha => ?_⟩
        walk_at "s"
        have nlv : lv ≠ a := ne_of_none S3.ba.hlv ha
        refine w_app (by rw [upd_ne nlv]; exact S3.ba.hlv) (by rw [List.length_map, S3.ba.hl]; exact szL (by omega)) ?_
        have aH : H a = none := by
          cases q : H a with
          | none => rfl
          | some o =>
            have := k3 a o q fun hx => S3.new ha (by
              rcases List.mem_cons.mp hx with e | hx
              · rw [e]; simp
              rcases List.mem_cons.mp hx with e | hx
              · rw [e]; simp
              rcases List.mem_cons.mp hx with e | hx
              · rw [e]; simp
              rcases List.mem_cons.mp hx with e | hx
              · rw [e]; simp
              · exact List.mem_cons_of_mem _ (List.mem_cons_of_mem _ (List.mem_cons_of_mem _ (List.mem_cons_of_mem _ (w3.1.subset hx)))))
            rw [ha] at this
            cases this
        refine ⟨rfl, lvs1 ++ [a], ?_, (k3.new ha).set (by simp), w3.1.trans (List.prefix_append _ _), fun x hx => ?_⟩
        · unfold mid
          rw [if_pos h0]
          exact S3.more T ha
        · rcases List.mem_append.mp hx with r | r
          · exact w3.2 x r
          · rw [List.mem_singleton.mp r]
            exact .inr aH
      · walk_at "s"
        refine ⟨rfl, lvs1, ?_, k3, w3⟩
        unfold mid
        rw [if_neg fun e => h0 (by omega)]
        exact S3
    · rintro σ H4 ⟨rfl, lvs2, S4, k4, w4⟩
      obtain ⟨dx4, hB4⟩ := S4.ba.ob
      have hm := mid_lev (levels := levels1) hle
      obtain ⟨A, hA⟩ : ∃ A, lvs2[h]? = some A := ⟨_, List.getElem?_eq_getElem (by rw [S4.ba.hl]; exact get_lt hm)⟩
      have hx := S4.ba.hs h A _ hA hm
      have hlev := G.here
      have hsz : size ≤ rows.length + 1 := by
        have := G.n
        rw [hnl] at this
        have h2 := Nat.two_pow_pos h
        rw [this]
        exact Nat.le_mul_of_pos_right _ h2
      walk_at "s"
      refine w_fldAt hB4 T.cBook T.n_Book_levels bfl_levels ?_
      walk_at "s"
      refine w_ixL (sql S4.ba.hlv) (atI_nat (v := .ref A) (by rw [List.getElem?_map, hA]; rfl)) ?_
      refine ⟨w_tyL (sql hx), ?_⟩
      walk_at "s"
      refine w_app hx (by rw [List.length_map]; exact szL (by omega)) ?_
      have hA2 : A ∈ ln :: lv :: lvs2 := List.mem_cons_of_mem _ (List.mem_cons_of_mem _ (List.mem_of_getElem? hA))
      have S5 : BS c (upd H4 A (.lst ((lev levels1 h).map nv ++ [.int (found : Nat)]))) B L d l ln lv lvs2 ths1 xs1 (rows ++ [z]) (addAt levels1 h found) := by
        have e : (lev levels1 h).map nv ++ [.int (found : Nat)] = (lev levels1 h ++ [found]).map nv := by rw [List.map_append]; rfl
        rw [e, ← mid_add hle]
        exact S4.book T hA2 (S4.ba.level hA)
      have k5 : Kp (fpS d l ln lv lvs) H (upd H4 A (.lst ((lev levels1 h).map nv ++ [.int (found : Nat)]))) := by
        rcases w4.2 A (List.mem_of_getElem? hA) with r | r
        · exact k4.set (by simp [r])
        · exact k4.fresh r
      generalize upd H4 A (.lst ((lev levels1 h).map nv ++ [.int (found : Nat)])) = H5 at S5 k5
      walk_at "s"
      refine ite_d (fun h0 => ?_) fun h0 => ?_
      · have odd : size % 2 = 1 := by omega
        walk_at "s"
        cases f with
        | zero => have := G.pos; omega
        | succ f =>
          have eg2 := eg
          unfold growL at eg2
          rw [if_pos odd] at eg2
          have I5 := G.stop odd
          have bc := G.bc odd
          rw [hnl, Nat.add_sub_cancel] at bc
          rw [show ((h : Nat) : Int) + 1 = ((h + 1 : Nat) : Int) by push_cast; rfl]
          have := k H5 xs1 lvs2
          rw [← eg2] at this
          exact this S5 I5 bc k5 w4
      · have even : ¬ size % 2 = 1 := by omega
        obtain ⟨a, b, g1, g2, d1, d2, e1, e2⟩ := G.two even
        have hp := G.pos
        walk_at "s"
        obtain ⟨dx5, hB5⟩ := S5.ba.ob
        refine w_methAt hB5 (bfl_no (by decide +kernel) (by decide +kernel) (by decide +kernel)) ?_
        walk_at "s"
        have i1 : ((h : Nat) : Int) + 1 = ((h + 1 : Nat) : Int) := by push_cast; rfl
        have i3 : ((size : Nat) : Int) / 2 - 1 = ((size / 2 - 1 : Nat) : Int) := by omega
        rw [i1, i3]
        refine ⟨B, L, d, l, ln, lv, lvs2, ths1, xs1, rows ++ [z], addAt levels1 h found, h, size / 2 - 1, a, b, rfl, S5, by omega, by rw [show 2 * (size / 2 - 1) = size - 2 by omega]; exact g1, by rw [show 2 * (size / 2 - 1) + 1 = size - 1 by omega]; exact g2, d1.lt, d2.lt, fun H6 xs6 S6 kp6 => ?_⟩
        walk_at "s"
        cases f with
        | zero => omega
        | succ f =>
          have eg2 := eg
          unfold growL at eg2
          rw [if_neg even, e1, e2] at eg2
          have al := ask_len ths1 (pk a b)
          refine ⟨⟨h + 1, size / 2, _, ?_, f, lvs2, ask ths1 (pk a b), xs6, addAt levels1 h found, S6, G.next even d1 d2, k5.trans (kp6.mono fun x hx => ?_), w4, eg2, by omega, by omega⟩, ?_⟩
          · rw [show ((size : Nat) : Int) / 2 = ((size / 2 : Nat) : Int) by omega]
          · rcases List.mem_cons.mp hx with e | e
            · rw [e]; simp
            · rw [List.mem_singleton.mp e]; simp
          · show (((size : Nat) : Int) / 2).toNat < ((size : Nat) : Int).toNat
            omega
end Tw

namespace Tw
open PySem L2 Ts Mix
/-! putting: the levels from below -/
def putL : Nat → Nat → Nat → List MK → List (List Nat) → List MK × List (List Nat) × Nat
  | 0, h, _, ths, levels => (ths, levels, h)
  | f + 1, h, j, ths, levels =>
    if h < levels.length ∧ j < (lev levels h).length then
      putL f (h + 1) (j / 2) (ask ths (pk ((lev levels (h - 1)).getD (2 * j) 0) ((lev levels (h - 1)).getD (2 * j + 1) 0)))
        (levels.set h ((lev levels h).set j (num (ask ths (pk ((lev levels (h - 1)).getD (2 * j) 0) ((lev levels (h - 1)).getD (2 * j + 1) 0))) (pk ((lev levels (h - 1)).getD (2 * j) 0) ((lev levels (h - 1)).getD (2 * j + 1) 0)))))
    else (ths, levels, h)
def putM (ths : List MK) (levels : List (List Nat)) (place : Nat) (z : Str) : List MK × List (List Nat) × Nat :=
  putL (levels.length + 1) 1 (place / 2) (ask ths (.row z)) (levels.set 0 ((lev levels 0).set place (num (ask ths (.row z)) (.row z))))
theorem putL_bound : ∀ (f h j : Nat) (ths : List MK) (levels : List (List Nat)), (putL f h j ths levels).1.length ≤ ths.length + ((putL f h j ths levels).2.2 - h) ∧ h ≤ (putL f h j ths levels).2.2
  | 0, h, _, ths, levels => ⟨Nat.le_add_right _ _, Nat.le_refl _⟩
  | f + 1, h, j, ths, levels => by
    unfold putL
    split
    · generalize hk : pk ((lev levels (h - 1)).getD (2 * j) 0) ((lev levels (h - 1)).getD (2 * j + 1) 0) = k
      obtain ⟨h1, h2⟩ := putL_bound f (h + 1) (j / 2) (ask ths k) (levels.set h ((lev levels h).set j (num (ask ths k) k)))
      have h3 := ask_len ths k
      generalize putL f (h + 1) (j / 2) (ask ths k) (levels.set h ((lev levels h).set j (num (ask ths k) k))) = g at *
      exact ⟨by omega, by omega⟩
    · exact ⟨Nat.le_add_right _ _, Nat.le_refl _⟩
theorem putL_pre : ∀ (f h j : Nat) (ths : List MK) (levels : List (List Nat)), ths <+: (putL f h j ths levels).1
  | 0, _, _, _, _ => List.prefix_refl _
  | f + 1, h, j, ths, levels => by
    unfold putL
    split
    · exact (ask_pre _ _).trans (putL_pre f _ _ _ _)
    · exact List.prefix_refl _
/-- ahead of a turn at height h: below it all is done; from it on all but the block that has the place -/
structure PInv (ths : List MK) (rows : List Str) (place h : Nat) (levels : List (List Nat)) : Prop where
  pl : place < rows.length
  len : ∀ k, (lev levels k).length = rows.length / 2 ^ k
  lo : ∀ k j x, k < h → (lev levels k)[j]? = some x → Den ths k x (blk rows k j)
  hi : ∀ k j x, h ≤ k → j ≠ place / 2 ^ k → (lev levels k)[j]? = some x → Den ths k x (blk rows k j)
  lt : h ≤ levels.length
section
variable {ths : List MK} {rows : List Str} {place h : Nat} {levels : List (List Nat)}
theorem PInv.stop (G : PInv ths rows place h levels) (q : ¬ (h < levels.length ∧ place / 2 ^ h < (lev levels h).length)) : BookInv ths rows levels := by
  refine ⟨G.len, fun k j x e => ?_⟩
  rcases Nat.lt_or_ge k h with r | r
  · exact G.lo k j x r e
  · refine G.hi k j x r (fun z => ?_) e
    have h1 := get_lt e
    have h2 : k < levels.length := by
      rcases Nat.lt_or_ge k levels.length with w | w
      · exact w
      · rw [lev_out w] at h1; simp at h1
    apply q
    refine ⟨by omega, ?_⟩
    rw [G.len, z] at h1
    rw [G.len]
    have h3 := (lt_div_iff (j := place / 2 ^ k) (n := rows.length) (h := k)).mp h1
    refine lt_div_iff.mpr ?_
    obtain ⟨t, rfl⟩ : ∃ t, k = h + t := ⟨k - h, by omega⟩
    have e1 : place / 2 ^ (h + t) = place / 2 ^ h / 2 ^ t := by rw [Nat.pow_add, Nat.div_div_eq_div_mul]
    rw [e1, Nat.pow_add, Nat.mul_comm (2 ^ h), ← Nat.mul_assoc] at h3
    refine Nat.le_trans (Nat.mul_le_mul_right _ ?_) h3
    have h4 := Nat.div_add_mod (place / 2 ^ h) (2 ^ t)
    have h5 := Nat.mod_lt (place / 2 ^ h) (Nat.two_pow_pos t)
    rw [Nat.add_mul, Nat.one_mul, Nat.mul_comm]
    omega
theorem PInv.two (G : PInv ths rows place (h + 1) levels) (q : place / 2 ^ (h + 1) < (lev levels (h + 1)).length) : ∃ a b, (lev levels h)[2 * (place / 2 ^ (h + 1))]? = some a ∧ (lev levels h)[2 * (place / 2 ^ (h + 1)) + 1]? = some b ∧
    Den ths h a (blk rows h (2 * (place / 2 ^ (h + 1)))) ∧ Den ths h b (blk rows h (2 * (place / 2 ^ (h + 1)) + 1)) ∧ (lev levels h).getD (2 * (place / 2 ^ (h + 1))) 0 = a ∧ (lev levels h).getD (2 * (place / 2 ^ (h + 1)) + 1) 0 = b := by
  generalize place / 2 ^ (h + 1) = j at *
  rw [G.len, lt_div_iff, Nat.pow_succ] at q
  have q2 : 2 * j + 1 < (lev levels h).length := by
    rw [G.len, lt_div_iff]
    have : (2 * j + 1 + 1) * 2 ^ h = (j + 1) * (2 ^ h * 2) := by rw [show 2 * j + 1 + 1 = (j + 1) * 2 by omega, Nat.mul_assoc, Nat.mul_comm 2]
    omega
  have g1 : (lev levels h)[2 * j]? = some ((lev levels h)[2 * j]'(by omega)) := List.getElem?_eq_getElem _
  have g2 : (lev levels h)[2 * j + 1]? = some ((lev levels h)[2 * j + 1]'(by omega)) := List.getElem?_eq_getElem _
  refine ⟨_, _, g1, g2, G.lo _ _ _ (Nat.lt_succ_self h) g1, G.lo _ _ _ (Nat.lt_succ_self h) g2, ?_, ?_⟩
  · rw [List.getD_eq_getElem?_getD, g1]; rfl
  · rw [List.getD_eq_getElem?_getD, g2]; rfl
theorem PInv.next (G : PInv ths rows place (h + 1) levels) (q : h + 1 < levels.length) {a b : Nat} (d1 : Den ths h a (blk rows h (2 * (place / 2 ^ (h + 1))))) (d2 : Den ths h b (blk rows h (2 * (place / 2 ^ (h + 1)) + 1))) :
    PInv (ask ths (pk a b)) rows place (h + 2) (levels.set (h + 1) ((lev levels (h + 1)).set (place / 2 ^ (h + 1)) (num (ask ths (pk a b)) (pk a b)))) := by
  refine ⟨G.pl, fun k => ?_, fun k j x hk e => ?_, fun k j x hk hj e => ?_, by rw [List.length_set]; omega⟩
  · rw [lev_set q]
    by_cases w : k = h + 1
    · rw [if_pos w, List.length_set, w]; exact G.len _
    · rw [if_neg w]; exact G.len k
  · rw [lev_set q] at e
    by_cases w : k = h + 1
    · subst w
      rw [if_pos rfl, List.getElem?_set] at e
      by_cases r : place / 2 ^ (h + 1) = j
      · rw [if_pos r] at e
        split at e
        · cases e
          rw [← r, blk_succ]
          exact den_pair d1 d2
        · cases e
      · rw [if_neg r] at e
        exact (G.hi _ j x (Nat.le_refl _) (Ne.symm r) e).mono (ask_pre _ _)
    · rw [if_neg w] at e
      exact (G.lo k j x (by omega) e).mono (ask_pre _ _)
  · rw [lev_set q, if_neg (by omega)] at e
    exact (G.hi k j x (by omega) hj e).mono (ask_pre _ _)
theorem PInv.start {levels : List (List Nat)} (I : BookInv ths rows levels) (hp : place < rows.length) (z : Str) : PInv (ask ths (.row z)) (rows.set place z) place 1 (levels.set 0 ((lev levels 0).set place (num (ask ths (.row z)) (.row z)))) := by
  have l0 : (lev levels 0).length = rows.length := by rw [I.len, Nat.pow_zero, Nat.div_one]
  have q : 0 < levels.length := by
    rcases Nat.eq_zero_or_pos levels.length with w | w
    · rw [lev_out (by omega)] at l0; simp at l0; omega
    · exact w
  refine ⟨by rw [List.length_set]; exact hp, fun k => ?_, fun k j x hk e => ?_, fun k j x hk hj e => ?_, by rw [List.length_set]; omega⟩
  · rw [List.length_set, lev_set q]
    by_cases w : k = 0
    · rw [if_pos w, List.length_set, w]; exact I.len _
    · rw [if_neg w]; exact I.len k
  · have k0 : k = 0 := by omega
    subst k0
    rw [lev_set q, if_pos rfl, List.getElem?_set] at e
    by_cases r : place = j
    · subst r
      rw [if_pos rfl] at e
      split at e
      · cases e
        rw [blk_zero (z := z) (by rw [List.getElem?_set]; simp [hp])]
        exact den_row z
      · cases e
    · rw [if_neg r] at e
      rw [blk_set (by rw [Nat.pow_zero, Nat.div_one]; exact Ne.symm r)]
      exact (I.den 0 j x e).mono (ask_pre _ _)
  · rw [lev_set q, if_neg (by omega)] at e
    rw [blk_set hj]
    exact (I.den k j x e).mono (ask_pre _ _)
end
def N_Book_put : List Str := ["self", "place", "row", "height", "number"]
def t_Book_put (K : PySem.W.Frag) (c : Cs) (E : XK) : TS := (tSeq (tDrop (tMeth c.Book "sure" (sp_Book_sure K c) [] E (tVar 0) (tCons (tVar 1) tNil)))
  (tSeq (tDrop (tCall (sp_sure_row K c) [] E (tCons (tVar 2) tNil)))
  (tSeq (tAsg (tVar 2) (gSub (tFld K (tVar 0) "lines") (tVar 1) rSetL))
  (tSeq (tAsg (tMeth c.Ledger "of_row" (sp_Ledger_of_row K c) [] E (tFld K (tVar 0) "ledger") (tCons (tVar 2) tNil)) (gSub (tOp (rIx K) (tFld K (tVar 0) "levels") (tC (.int 0))) (tVar 1) rSetL))
  (tSeq (tAsg (tC (.int 1)) (gName 3))
  (tSeq (tAsg (tOp rDiv (tVar 1) (tC (.int 2))) (gName 4))
  (tSeq (tWhile (tAnd (tTest (tOp rLt (tVar 3) (tCB (Ts.rLen K) (tCons (tFld K (tVar 0) "levels") tNil)))) (tTest (tOp rLt (tVar 4) (tCB (Ts.rLen K) (tCons (tOp (rIx K) (tFld K (tVar 0) "levels") (tVar 3)) tNil))))) (tSeq (tAsg (tMeth c.Book "half_sums" (sp_Book_half_sums K c) [] E (tVar 0) (tCons (tVar 3) (tCons (tVar 4) tNil))) (gSub (tOp (rIx K) (tFld K (tVar 0) "levels") (tVar 3)) (tVar 4) rSetL))
  (tSeq (tAsg (tOp rAddU (tVar 3) (tC (.int 1))) (gName 3))
  (tAsg (tOp rDiv (tVar 4) (tC (.int 2))) (gName 4)))))
  (tRet (tVar 3)))))))))
def sp_Book_put (K : PySem.W.Frag) (c : Cs) : Sp := fun vs H Q E => ∃ (B L d l ln lv : Addr) (lvs : List Addr) (ths : List MK) (xs : List V) (rows : List Str) (levels : List (List Nat)) (p v : V) (b : Bool), vs = [.ref B, p, v] ∧ BS c H B L d l ln lv lvs ths xs rows levels ∧ BookInv ths rows levels ∧ isWholeV K H p b ∧ RowV K H v ∧
  rows.length ≤ 100000 ∧ ths.length < 900000 ∧
  (¬ NumV rows.length p → E (.ref c.NoPlace) none H) ∧ (NumV rows.length p → ¬ isRowV v → E (.ref c.NoRow) none H) ∧
  (∀ (place : Nat) (z : Str), p = .int place → v = .str z → place < rows.length → Good z → ∀ H' xs', BS c H' B L d l ln lv lvs (putM ths levels place z).1 xs' (rows.set place z) (putM ths levels place z).2.1 → BookInv (putM ths levels place z).1 (rows.set place z) (putM ths levels place z).2.1 →
    IsBc rows.length place (putM ths levels place z).2.2 → Kp (fpS d l ln lv lvs) H H' → Q (.int ((putM ths levels place z).2.2 : Nat)) H')
theorem len_Book_put {K c} : ∀ vs H Q E, sp_Book_put K c vs H Q E → vs.length = 3 := by rintro vs H Q E ⟨_, _, _, _, _, _, _, _, _, _, _, _, _, _, rfl, _⟩; rfl
theorem pure_Book_put {K : PySem.W.Frag} {c : Cs} {vs : List V} {H : Hp} {Q : VK} {E : XK} (T : TxK K c) (h : sp_Book_put K c vs H Q E) : t_Book_put K c E ⟨fun _ H' => Q .non H', Q, fun _ _ => False, fun _ _ => False⟩ (start N_Book_put vs) H := by
  obtain ⟨B, L, d, l, ln, lv, lvs, ths, xs, rows, levels, p, v, b, rfl, S, I, hw, hv, hr, hz, k1, k2, k3⟩ := h
  show t_Book_put K c E _ [some (.ref B), some p, some v, none, none] H
  unfold t_Book_put
  obtain ⟨dx, hB⟩ := S.ba.ob
  walk_at "s"
  refine w_methAt hB (bfl_no (by decide +kernel) (by decide +kernel) (by decide +kernel)) ?_
  walk_at "s"
  refine ⟨B, L, ln, lv, lvs, rows, levels, p, b, rfl, S.ba, hw, hr, fun y => ?_, k1⟩
  obtain ⟨place, rfl, hp⟩ := y
  walk_at "s"
  refine ⟨v, rfl, hv, fun y2 => ?_, fun n => k2 ⟨place, rfl, hp⟩ n⟩
  obtain ⟨z, rfl, hg⟩ := y2
  have k := k3 place z rfl rfl hp hg
  clear k1 k2 k3
  walk_at "s"
  refine w_fldAt hB T.cBook T.n_Book_lines bfl_lines ?_
  walk_at "s"
  refine w_setL S.ba.hln (by rw [List.length_map]; exact hp) ?_
  walk_at "s"
  have S1 : BS c (upd H ln (.lst ((rows.map V.str).set place (.str z)))) B L d l ln lv lvs ths xs (rows.set place z) levels := by
    rw [← List.map_set]
    exact S.book T (by simp) S.ba.lines
  have q1 : Kp (fpS d l ln lv lvs) H (upd H ln (.lst ((rows.map V.str).set place (.str z)))) := Kp.refl.set (by simp)
  generalize upd H ln (.lst ((rows.map V.str).set place (.str z))) = H1 at S1 q1
  obtain ⟨dx1, hB1⟩ := S1.ba.ob
  refine w_fldAt hB1 T.cBook T.n_Book_ledger bfl_ledger ?_
  obtain ⟨dy, hL1⟩ := S1.la.ob
  refine w_methAt hL1 (lfl_no (by decide +kernel) (by decide +kernel)) ?_
  walk_at "s"
  refine ⟨L, d, l, ths, xs, .str z, rfl, S1.la, rowV_good hg, by omega, fun z' ez _ H2 xs2 L2 kp2 => ?_, fun n => absurd ⟨z, rfl, hg⟩ n⟩
  cases ez
  have S2 := S1.ledger T L2 kp2
  have q2 := q1.trans (kp2.mono (S' := fpS d l ln lv lvs) fun x hx => by
      rcases List.mem_cons.mp hx with e | e
      · rw [e]; simp
      · rw [List.mem_singleton.mp e]; simp)
  walk_at "s"
  obtain ⟨dx2, hB2⟩ := S2.ba.ob
  refine w_fldAt hB2 T.cBook T.n_Book_levels bfl_levels ?_
  walk_at "s"
  have l0 : (lev levels 0).length = rows.length := by rw [I.len, Nat.pow_zero, Nat.div_one]
  have g0 : ∃ x, levels[0]? = some x ∧ lev levels 0 = x := by
    rcases Nat.eq_zero_or_pos levels.length with w | w
    · rw [lev_out (by omega)] at l0; simp at l0; omega
    · exact ⟨_, List.getElem?_eq_getElem w, lev_get (List.getElem?_eq_getElem w)⟩
  obtain ⟨x0, g1, g2⟩ := g0
  obtain ⟨A, hA⟩ : ∃ A, lvs[0]? = some A := ⟨_, List.getElem?_eq_getElem (by rw [S2.ba.hl]; exact get_lt g1)⟩
  have hx0 := S2.ba.hs 0 A _ hA g1
  refine w_ixL (sql S2.ba.hlv) (atI_nat (j := 0) (v := .ref A) (by rw [List.getElem?_map, hA]; rfl)) ?_
  walk_at "s"
  refine w_setL hx0 (by rw [List.length_map, ← g2, l0]; exact hp) ?_
  have hA2 : A ∈ ln :: lv :: lvs := List.mem_cons_of_mem _ (List.mem_cons_of_mem _ (List.mem_of_getElem? hA))
  have S3 : BS c (upd H2 A (.lst ((x0.map nv).set place (.int (num (ask ths (.row z)) (.row z) : Nat))))) B L d l ln lv lvs (ask ths (.row z)) xs2 (rows.set place z) (levels.set 0 ((lev levels 0).set place (num (ask ths (.row z)) (.row z)))) := by
    have e : (x0.map nv).set place (.int (num (ask ths (.row z)) (.row z) : Nat)) = (x0.set place (num (ask ths (.row z)) (.row z))).map nv := by rw [List.map_set]; rfl
    rw [e, g2]
    exact S2.book T hA2 (S2.ba.level hA)
  have q3 : Kp (fpS d l ln lv lvs) H (upd H2 A (.lst ((x0.map nv).set place (.int (num (ask ths (.row z)) (.row z) : Nat))))) := q2.set (List.mem_cons_of_mem _ (List.mem_cons_of_mem _ hA2))
  generalize upd H2 A (.lst ((x0.map nv).set place (.int (num (ask ths (.row z)) (.row z) : Nat)))) = H3 at S3 q3
  have G3 := PInv.start I hp z
  walk_at "s"
  have ea := ask_len ths (.row z)
  refine w_while (fun σ H' => ∃ (h f : Nat) (ths1 : List MK) (xs1 : List V) (levels1 : List (List Nat)), σ = [some (.ref B), some (.int (place : Nat)), some (.str z), some (.int ((h + 1 : Nat) : Int)), some (.int ((place / 2 ^ (h + 1) : Nat) : Int))] ∧ BS c H' B L d l ln lv lvs ths1 xs1 (rows.set place z) levels1 ∧
      PInv ths1 (rows.set place z) place (h + 1) levels1 ∧ Kp (fpS d l ln lv lvs) H H' ∧ putL f (h + 1) (place / 2 ^ (h + 1)) ths1 levels1 = putM ths levels place z ∧ levels1.length ≤ f + h ∧ ths1.length ≤ ths.length + 1 + h ∧ h ≤ 17 ∧ (∀ k, k < h + 1 → (place / 2 ^ k + 1) * 2 ^ k ≤ rows.length) ∧ levels1.length = levels.length)
    (fun σ _ => match σ with | [_, _, _, some (.int m), _] => levels.length + 1 - m.toNat | _ => 0) ?_ ?_
  · refine ⟨0, levels.length + 1, ask ths (.row z), xs2, _, ?_, S3, G3, q3, rfl, by rw [List.length_set]; omega, by omega, by omega, fun k hk => ?_, by rw [List.length_set]⟩
    · rw [show ((place : Nat) : Int) / 2 = ((place / 2 ^ (0 + 1) : Nat) : Int) by rw [Nat.zero_add, Nat.pow_one]; omega]
      rfl
    · have : k = 0 := by omega
      subst this
      simp
      omega
  · rintro σ H4 ⟨h, f, ths1, xs1, levels1, rfl, S4, G, q4, ep, hf, hb, hh, hbc, hll⟩
    obtain ⟨dx4, hB4⟩ := S4.ba.ob
    have hrl : (rows.set place z).length = rows.length := List.length_set
    walk_at "s"
    refine w_fldAt hB4 T.cBook T.n_Book_levels bfl_levels ?_
    walk_at "s"
    refine w_lenL (sql S4.ba.hlv) ?_
    rw [List.length_map, S4.ba.hl]
    walk_at "s"
    have fin : ¬ (h + 1 < levels1.length ∧ place / 2 ^ (h + 1) < (lev levels1 (h + 1)).length) → Q (.int ((h + 1 : Nat) : Int)) H4 := fun no => by
      have e : putL f (h + 1) (place / 2 ^ (h + 1)) ths1 levels1 = (ths1, levels1, h + 1) := by
        cases f with
        | zero => rfl
        | succ f => unfold putL; rw [if_neg no]
      rw [e] at ep
      have I4 := G.stop no
      have k4 := k H4 xs1
      rw [← ep] at k4
      refine k4 S4 I4 ⟨hbc, fun z2 => no ?_⟩ q4
      rw [← lt_div_iff] at z2
      have e2 := G.len (h + 1)
      rw [hrl] at e2
      refine ⟨?_, by rw [e2]; exact z2⟩
      rcases Nat.lt_or_ge (h + 1) levels1.length with w | w
      · exact w
      · rw [lev_out w] at e2
        have e3 : 0 = rows.length / 2 ^ (h + 1) := e2
        have z3 : place / 2 ^ (h + 1) < rows.length / 2 ^ (h + 1) := z2
        rw [← e3] at z3
        exact absurd z3 (Nat.not_lt_zero _)
    refine ite_d (fun h1 => ?_) fun h1 => ?_
    · have h1 : h + 1 < levels1.length := by omega
      obtain ⟨A1, hA1⟩ : ∃ A, lvs[h + 1]? = some A := ⟨_, List.getElem?_eq_getElem (by rw [S4.ba.hl]; exact h1)⟩
      have gl := List.getElem?_eq_getElem h1
      have hx1 := S4.ba.hs (h + 1) A1 _ hA1 gl
      have gl2 := lev_get gl
      rw [← gl2] at hx1
      walk_at "s"
      refine w_fldAt hB4 T.cBook T.n_Book_levels bfl_levels ?_
      walk_at "s"
      refine w_ixL (sql S4.ba.hlv) (atI_nat (v := .ref A1) (by rw [List.getElem?_map, hA1]; rfl)) ?_
      walk_at "s"
      refine w_lenL (sql hx1) ?_
      rw [List.length_map]
      walk_at "s"
      refine ite_d (fun h2 => ?_) fun h2 => ?_
      · have h2 : place / 2 ^ (h + 1) < (lev levels1 (h + 1)).length := by omega
        have yes : h + 1 < levels1.length ∧ place / 2 ^ (h + 1) < (lev levels1 (h + 1)).length := ⟨h1, h2⟩
        obtain ⟨a, b2, g1, g2, d1, d2, e1, e2⟩ := G.two h2
        have hbc2 : (place / 2 ^ (h + 1) + 1) * 2 ^ (h + 1) ≤ rows.length := by
          rw [G.len, hrl, lt_div_iff] at h2
          exact h2
        have hlow : h + 1 ≤ 16 := by
          rcases Nat.lt_or_ge 16 (h + 1) with w | w
          · have w1 : 2 ^ 17 ≤ 2 ^ (h + 1) := Nat.pow_le_pow_right (by decide) (by omega)
            have w2 : 2 ^ (h + 1) ≤ (place / 2 ^ (h + 1) + 1) * 2 ^ (h + 1) := Nat.le_mul_of_pos_left _ (Nat.succ_pos _)
            have w3 : (2 : Nat) ^ 17 = 131072 := by decide
            omega
          · exact w
        refine w_wN ?_
        walk_at "s"
        refine w_methAt hB4 (bfl_no (by decide +kernel) (by decide +kernel) (by decide +kernel)) ?_
        walk_at "s"
        refine ⟨B, L, d, l, ln, lv, lvs, ths1, xs1, rows.set place z, levels1, h, place / 2 ^ (h + 1), a, b2, rfl, S4, by omega, g1, g2, d1.lt, d2.lt, fun H5 xs5 S5 kp5 => ?_⟩
        walk_at "s"
        obtain ⟨dx5, hB5⟩ := S5.ba.ob
        refine w_fldAt hB5 T.cBook T.n_Book_levels bfl_levels ?_
        walk_at "s"
        refine w_ixL (sql S5.ba.hlv) (atI_nat (v := .ref A1) (by rw [List.getElem?_map, hA1]; rfl)) ?_
        walk_at "s"
        have hx5 := S5.ba.hs (h + 1) A1 _ hA1 gl
        rw [← gl2] at hx5
        refine w_setL hx5 (by rw [List.length_map]; exact h2) ?_
        have hA3 : A1 ∈ ln :: lv :: lvs := List.mem_cons_of_mem _ (List.mem_cons_of_mem _ (List.mem_of_getElem? hA1))
        have S6 : BS c (upd H5 A1 (.lst (((lev levels1 (h + 1)).map nv).set (place / 2 ^ (h + 1)) (.int (num (ask ths1 (pk a b2)) (pk a b2) : Nat))))) B L d l ln lv lvs (ask ths1 (pk a b2)) xs5 (rows.set place z) (levels1.set (h + 1) ((lev levels1 (h + 1)).set (place / 2 ^ (h + 1)) (num (ask ths1 (pk a b2)) (pk a b2)))) := by
          have e : ((lev levels1 (h + 1)).map nv).set (place / 2 ^ (h + 1)) (.int (num (ask ths1 (pk a b2)) (pk a b2) : Nat)) = ((lev levels1 (h + 1)).set (place / 2 ^ (h + 1)) (num (ask ths1 (pk a b2)) (pk a b2))).map nv := by rw [List.map_set]; rfl
          rw [e]
          exact S5.book T hA3 (S5.ba.level hA1)
        have q6 : Kp (fpS d l ln lv lvs) H (upd H5 A1 (.lst (((lev levels1 (h + 1)).map nv).set (place / 2 ^ (h + 1)) (.int (num (ask ths1 (pk a b2)) (pk a b2) : Nat))))) := (q4.trans (kp5.mono fun x hx => by
          rcases List.mem_cons.mp hx with e | e
          · rw [e]; simp
          · rw [List.mem_singleton.mp e]; simp)).set (List.mem_cons_of_mem _ (List.mem_cons_of_mem _ hA3))
        generalize upd H5 A1 (.lst (((lev levels1 (h + 1)).map nv).set (place / 2 ^ (h + 1)) (.int (num (ask ths1 (pk a b2)) (pk a b2) : Nat)))) = H6 at S6 q6
        walk_at "s"
        have al := ask_len ths1 (pk a b2)
        cases f with
        | zero => omega
        | succ f =>
          have ep2 := ep
          unfold putL at ep2
          rw [if_pos yes, Nat.add_sub_cancel, e1, e2, show place / 2 ^ (h + 1) / 2 = place / 2 ^ (h + 1 + 1) by rw [Nat.pow_succ 2 (h + 1), Nat.div_div_eq_div_mul]] at ep2
          refine ⟨⟨h + 1, f, ask ths1 (pk a b2), xs5, _, ?_, S6, G.next h1 d1 d2, q6, ep2, by rw [List.length_set]; omega, by omega, by omega, fun k' hk' => ?_, by rw [List.length_set]; exact hll⟩, ?_⟩
          · rw [show ((h + 1 : Nat) : Int) + 1 = ((h + 1 + 1 : Nat) : Int) by push_cast; rfl, show ((place / 2 ^ (h + 1) : Nat) : Int) / 2 = ((place / 2 ^ (h + 1 + 1) : Nat) : Int) by rw [Nat.pow_succ 2 (h + 1), ← Nat.div_div_eq_div_mul]; omega]
          · rcases Nat.lt_or_ge k' (h + 1) with w | w
            · exact hbc k' w
            · have : k' = h + 1 := by omega
              rw [this]; exact hbc2
          · show levels.length + 1 - (((h + 1 : Nat) : Int) + 1).toNat < levels.length + 1 - ((h + 1 : Nat) : Int).toNat
            omega
      · walk_at "s"
        exact fin fun w => h2 (by have := w.2; omega)
    · refine iteF ?_
      walk_at "s"
      exact fin fun w => h1 (by have := w.1; omega)
end Tw

namespace Tw
open PySem L2 Ts Mix
/-! ### small ones -/
section
variable {K : PySem.W.Frag} {c : Cs} {H H' : Hp} {B L ln lv : Addr} {lvs : List Addr} {rows : List Str} {levels : List (List Nat)}
theorem BookAt.lvl (b : BookAt c H B L ln lv lvs rows levels) {h : Nat} (hh : h < levels.length) : ∃ A, lvs[h]? = some A ∧ (lvs.map V.ref)[h]? = some (.ref A) ∧ H A = some (.lst ((lev levels h).map nv)) := by
  obtain ⟨A, hA⟩ : ∃ A, lvs[h]? = some A := ⟨_, List.getElem?_eq_getElem (by rw [b.hl]; exact hh)⟩
  have g := List.getElem?_eq_getElem hh
  refine ⟨A, hA, by rw [List.getElem?_map, hA]; rfl, ?_⟩
  rw [lev_get g]
  exact b.hs h A _ hA g
end
def N_Book_count : List Str := ["self"]
def t_Book_count (K : PySem.W.Frag) (c : Cs) (E : XK) : TS := (tRet (tCB (Ts.rLen K) (tCons (tFld K (tVar 0) "lines") tNil)))
def sp_Book_count (K : PySem.W.Frag) (c : Cs) : Sp := fun vs H Q _ => ∃ (B L ln lv : Addr) (lvs : List Addr) (rows : List Str) (levels : List (List Nat)), vs = [.ref B] ∧ BookAt c H B L ln lv lvs rows levels ∧ Q (.int (rows.length : Nat)) H
theorem len_Book_count {K c} : ∀ vs H Q E, sp_Book_count K c vs H Q E → vs.length = 1 := by rintro vs H Q E ⟨_, _, _, _, _, _, _, rfl, _⟩; rfl
theorem pure_Book_count {K : PySem.W.Frag} {c : Cs} {vs : List V} {H : Hp} {Q : VK} {E : XK} (T : TxK K c) (h : sp_Book_count K c vs H Q E) : t_Book_count K c E ⟨fun _ H' => Q .non H', Q, fun _ _ => False, fun _ _ => False⟩ (start N_Book_count vs) H := by
  obtain ⟨B, L, ln, lv, lvs, rows, levels, rfl, S, k⟩ := h
  show t_Book_count K c E _ [some (.ref B)] H
  unfold t_Book_count
  obtain ⟨dx, hB⟩ := S.ob
  walk_at "s"
  refine w_fldAt hB T.cBook T.n_Book_lines bfl_lines ?_
  walk_at "s"
  refine w_lenL (sql S.hln) ?_
  rw [List.length_map]
  exact k
def N_Book_row : List Str := ["self", "place"]
def t_Book_row (K : PySem.W.Frag) (c : Cs) (E : XK) : TS := (tSeq (tDrop (tMeth c.Book "sure" (sp_Book_sure K c) [] E (tVar 0) (tCons (tVar 1) tNil)))
  (tRet (tOp (rIx K) (tFld K (tVar 0) "lines") (tVar 1))))
def sp_Book_row (K : PySem.W.Frag) (c : Cs) : Sp := fun vs H Q E => ∃ (B L ln lv : Addr) (lvs : List Addr) (rows : List Str) (levels : List (List Nat)) (v : V) (b : Bool), vs = [.ref B, v] ∧ BookAt c H B L ln lv lvs rows levels ∧ isWholeV K H v b ∧ rows.length ≤ 100000 ∧
  (∀ (i : Nat) z, v = .int i → rows[i]? = some z → Q (.str z) H) ∧ (¬ NumV rows.length v → E (.ref c.NoPlace) none H)
theorem len_Book_row {K c} : ∀ vs H Q E, sp_Book_row K c vs H Q E → vs.length = 2 := by rintro vs H Q E ⟨_, _, _, _, _, _, _, _, _, rfl, _⟩; rfl
theorem pure_Book_row {K : PySem.W.Frag} {c : Cs} {vs : List V} {H : Hp} {Q : VK} {E : XK} (T : TxK K c) (h : sp_Book_row K c vs H Q E) : t_Book_row K c E ⟨fun _ H' => Q .non H', Q, fun _ _ => False, fun _ _ => False⟩ (start N_Book_row vs) H := by
  obtain ⟨B, L, ln, lv, lvs, rows, levels, v, b, rfl, S, hw, hr, k1, k2⟩ := h
  show t_Book_row K c E _ [some (.ref B), some v] H
  unfold t_Book_row
  obtain ⟨dx, hB⟩ := S.ob
  walk_at "s"
  refine w_methAt hB (bfl_no (by decide +kernel) (by decide +kernel) (by decide +kernel)) ?_
  walk_at "s"
  refine ⟨B, L, ln, lv, lvs, rows, levels, v, b, rfl, S, hw, hr, fun y => ?_, k2⟩
  obtain ⟨i, rfl, hi⟩ := y
  walk_at "s"
  refine w_fldAt hB T.cBook T.n_Book_lines bfl_lines ?_
  walk_at "s"
  exact w_ixL (sql S.hln) (atI_nat (v := .str rows[i]) (by rw [List.getElem?_map, List.getElem?_eq_getElem hi]; rfl)) (k1 i _ rfl (List.getElem?_eq_getElem hi))
def N_Book_rows : List Str := ["self"]
def t_Book_rows (K : PySem.W.Frag) (c : Cs) (E : XK) : TS := (tRet (tCB (rListOf K) (tCons (tFld K (tVar 0) "lines") tNil)))
def sp_Book_rows (K : PySem.W.Frag) (c : Cs) : Sp := fun vs H Q _ => ∃ (B L ln lv : Addr) (lvs : List Addr) (rows : List Str) (levels : List (List Nat)), vs = [.ref B] ∧ BookAt c H B L ln lv lvs rows levels ∧ ∀ p, H p = none → Q (.ref p) (upd H p (.lst (rows.map V.str)))
theorem len_Book_rows {K c} : ∀ vs H Q E, sp_Book_rows K c vs H Q E → vs.length = 1 := by rintro vs H Q E ⟨_, _, _, _, _, _, _, rfl, _⟩; rfl
theorem pure_Book_rows {K : PySem.W.Frag} {c : Cs} {vs : List V} {H : Hp} {Q : VK} {E : XK} (T : TxK K c) (h : sp_Book_rows K c vs H Q E) : t_Book_rows K c E ⟨fun _ H' => Q .non H', Q, fun _ _ => False, fun _ _ => False⟩ (start N_Book_rows vs) H := by
  obtain ⟨B, L, ln, lv, lvs, rows, levels, rfl, S, k⟩ := h
  show t_Book_rows K c E _ [some (.ref B)] H
  unfold t_Book_rows
  obtain ⟨dx, hB⟩ := S.ob
  walk_at "s"
  refine w_fldAt hB T.cBook T.n_Book_lines bfl_lines ?_
  walk_at "s"
  exact w_listL (sql S.hln) k
def N_Book_add : List Str := ["self", "row"]
def t_Book_add (K : PySem.W.Frag) (c : Cs) (E : XK) : TS := (tSeq (tDrop (tCall (sp_sure_row K c) [] E (tCons (tVar 1) tNil)))
  (tSeq (tIfS (tTest (tOp (rEqU K) (tCB (Ts.rLen K) (tCons (tFld K (tVar 0) "lines") tNil)) (tC (.int 1024)))) (tRaiseX c.Full (fun cls d _ H => E cls d H)) tNext)
  (tRet (tMeth c.Book "grow" (sp_Book_grow K c) [] E (tVar 0) (tCons (tVar 1) tNil)))))
def sp_Book_add (K : PySem.W.Frag) (c : Cs) : Sp := fun vs H Q E => ∃ (B L d l ln lv : Addr) (lvs : List Addr) (ths : List MK) (xs : List V) (rows : List Str) (levels : List (List Nat)) (v : V), vs = [.ref B, v] ∧ BS c H B L d l ln lv lvs ths xs rows levels ∧ BookInv ths rows levels ∧ RowV K H v ∧
  rows.length ≤ 1024 ∧ ths.length < 900000 ∧ (¬ isRowV v → E (.ref c.NoRow) none H) ∧ (isRowV v → rows.length = 1024 → E (.ref c.Full) none H) ∧
  ∀ z, v = .str z → Good z → rows.length < 1024 → ∀ H' xs' lvs', BS c H' B L d l ln lv lvs' (growM ths rows levels z).1 xs' (rows ++ [z]) (growM ths rows levels z).2.1 → BookInv (growM ths rows levels z).1 (rows ++ [z]) (growM ths rows levels z).2.1 → IsBc (rows.length + 1) rows.length (growM ths rows levels z).2.2 →
    Kp (fpS d l ln lv lvs) H H' → Wider H lvs lvs' → Q (.int ((growM ths rows levels z).2.2 : Nat)) H'
theorem len_Book_add {K c} : ∀ vs H Q E, sp_Book_add K c vs H Q E → vs.length = 2 := by rintro vs H Q E ⟨_, _, _, _, _, _, _, _, _, _, _, _, rfl, _⟩; rfl
theorem pure_Book_add {K : PySem.W.Frag} {c : Cs} {vs : List V} {H : Hp} {Q : VK} {E : XK} (T : TxK K c) (h : sp_Book_add K c vs H Q E) : t_Book_add K c E ⟨fun _ H' => Q .non H', Q, fun _ _ => False, fun _ _ => False⟩ (start N_Book_add vs) H := by
  obtain ⟨B, L, d, l, ln, lv, lvs, ths, xs, rows, levels, v, rfl, S, I, hv, hr, hz, k1, k2, k3⟩ := h
  show t_Book_add K c E _ [some (.ref B), some v] H
  unfold t_Book_add
  obtain ⟨dx, hB⟩ := S.ba.ob
  walk_at "s"
  refine ⟨v, rfl, hv, fun y => ?_, k1⟩
  walk_at "s"
  refine w_fldAt hB T.cBook T.n_Book_lines bfl_lines ?_
  walk_at "s"
  refine w_lenL (sql S.ba.hln) ?_
  rw [List.length_map]
  walk_at "s"
  refine ite_d (fun h0 => ?_) fun h0 => ?_
  · walk_at "s"
    exact k2 y (by omega)
  · obtain ⟨z, rfl, hg⟩ := y
    walk_at "s"
    refine w_methAt hB (bfl_no (by decide +kernel) (by decide +kernel) (by decide +kernel)) ?_
    walk_at "s"
    exact ⟨B, L, d, l, ln, lv, lvs, ths, xs, rows, levels, z, rfl, S, I, hg, by omega, hz, k3 z rfl hg (by omega)⟩
/-- the block stands -/
def HasB (levels : List (List Nat)) (v w : V) : Prop := ∃ h j : Nat, v = .int h ∧ w = .int j ∧ j < (lev levels h).length
def N_Book_has_block : List Str := ["self", "height", "number"]
def t_Book_has_block (K : PySem.W.Frag) (c : Cs) (E : XK) : TS := (tSeq (tIfS (tOr (tNot (tB (tCall (sp_is_whole K c) [] E0 (tCons (tVar 1) tNil)))) (tOr (tNot (tB (tCall (sp_is_whole K c) [] E0 (tCons (tVar 2) tNil)))) (tOr (tTest (tOp rLt (tVar 1) (tC (.int 0)))) (tTest (tOp rLt (tVar 2) (tC (.int 0))))))) (tRet (tC (.bl false))) tNext)
  (tRet (tAndV (tOp rLt (tVar 1) (tCB (Ts.rLen K) (tCons (tFld K (tVar 0) "levels") tNil))) (tOp rLt (tVar 2) (tCB (Ts.rLen K) (tCons (tOp (rIx K) (tFld K (tVar 0) "levels") (tVar 1)) tNil))))))
def sp_Book_has_block (K : PySem.W.Frag) (c : Cs) : Sp := fun vs H Q _ => ∃ (B L ln lv : Addr) (lvs : List Addr) (rows : List Str) (levels : List (List Nat)) (v w : V) (b b' : Bool), vs = [.ref B, v, w] ∧ BookAt c H B L ln lv lvs rows levels ∧ isWholeV K H v b ∧ isWholeV K H w b' ∧
  (HasB levels v w → Q (.bl true) H) ∧ (¬ HasB levels v w → Q (.bl false) H)
theorem len_Book_has_block {K c} : ∀ vs H Q E, sp_Book_has_block K c vs H Q E → vs.length = 3 := by rintro vs H Q E ⟨_, _, _, _, _, _, _, _, _, _, _, rfl, _⟩; rfl
theorem whole_yes {K : PySem.W.Frag} {H : Hp} {v : V} (h : isWholeV K H v true) : ∃ i, v = .int i := by
  rcases h with ⟨i, z, _⟩ | ⟨x, _, z⟩ | ⟨x, _, z⟩ | ⟨_, z⟩ | ⟨a, ys, _, _, z⟩
  · exact ⟨i, z⟩
  all_goals cases z
theorem whole_no {K : PySem.W.Frag} {H : Hp} {v : V} (h : isWholeV K H v false) : ∀ i, v ≠ .int i := by
  intro i e
  subst e
  rcases h with ⟨_, _, z⟩ | ⟨x, z, _⟩ | ⟨x, z, _⟩ | ⟨z, _⟩ | ⟨a, ys, z, _⟩
  · cases z
  all_goals exact nomatch z
theorem pure_Book_has_block {K : PySem.W.Frag} {c : Cs} {vs : List V} {H : Hp} {Q : VK} {E : XK} (T : TxK K c) (h : sp_Book_has_block K c vs H Q E) : t_Book_has_block K c E ⟨fun _ H' => Q .non H', Q, fun _ _ => False, fun _ _ => False⟩ (start N_Book_has_block vs) H := by
  obtain ⟨B, L, ln, lv, lvs, rows, levels, v, w, b, b', rfl, S, hv, hw, k1, k2⟩ := h
  show t_Book_has_block K c E _ [some (.ref B), some v, some w] H
  unfold t_Book_has_block
  obtain ⟨dx, hB⟩ := S.ob
  walk_at "s"
  refine ⟨v, b, rfl, hv, ?_⟩
  walk_at "s"
  refine ite_nb (fun e => ?_) fun e => ?_
  · subst e
    refine iteT ?_
    walk_at "s"
    exact k2 fun ⟨h, j, z, _⟩ => whole_no hv _ z
  subst e
  obtain ⟨i, rfl⟩ := whole_yes hv
  walk_at "s"
  refine ⟨w, b', rfl, hw, ?_⟩
  walk_at "s"
  refine ite_nb (fun e => ?_) fun e => ?_
  · subst e
    refine iteT ?_
    walk_at "s"
    exact k2 fun ⟨h, j, _, z, _⟩ => whole_no hw _ z
  subst e
  obtain ⟨j, rfl⟩ := whole_yes hw
  walk_at "s"
  refine ite_d (fun h0 => ?_) fun h0 => ?_
  · refine iteT ?_
    walk_at "s"
    refine k2 fun ⟨h, j, z, _⟩ => ?_
    cases z
    omega
  walk_at "s"
  refine ite_d (fun h1 => ?_) fun h1 => ?_
  · walk_at "s"
    refine k2 fun ⟨h, j, _, z, _⟩ => ?_
    cases z
    omega
  obtain ⟨h, rfl⟩ := Int.eq_ofNat_of_zero_le (a := i) (by omega)
  obtain ⟨n, rfl⟩ := Int.eq_ofNat_of_zero_le (a := j) (by omega)
  walk_at "s"
  refine w_fldAt hB T.cBook T.n_Book_levels bfl_levels ?_
  walk_at "s"
  refine w_lenL (sql S.hlv) ?_
  rw [List.length_map, S.hl]
  walk_at "s"
  refine ite_d (fun h2 => ?_) fun h2 => ?_
  · have h2 : h < levels.length := by omega
    obtain ⟨A, _, a2, a3⟩ := S.lvl h2
    walk_at "s"
    refine w_fldAt hB T.cBook T.n_Book_levels bfl_levels ?_
    walk_at "s"
    refine w_ixL (sql S.hlv) (atI_nat a2) ?_
    walk_at "s"
    refine w_lenL (sql a3) ?_
    rw [List.length_map]
    walk_at "s"
    by_cases q : n < (lev levels h).length
    · rw [decide_eq_true (show ((n : Nat) : Int) < ((lev levels h).length : Nat) by omega)]
      exact k1 ⟨h, n, rfl, rfl, q⟩
    · rw [decide_eq_false (show ¬ ((n : Nat) : Int) < ((lev levels h).length : Nat) by omega)]
      refine k2 fun ⟨h', j', z1, z2, z3⟩ => ?_
      have z1 : h' = h := by have := V.int.inj z1; omega
      have z2 : j' = n := by have := V.int.inj z2; omega
      subst z1 z2
      exact q z3
  · refine k2 fun ⟨h', j', z1, z2, z3⟩ => ?_
    have z1 : h' = h := by have := V.int.inj z1; omega
    subst z1
    rw [lev_out (by omega)] at z3
    exact absurd z3 (Nat.not_lt_zero _)
def N_Book_sum_of : List Str := ["self", "height", "number"]
def t_Book_sum_of (K : PySem.W.Frag) (c : Cs) (E : XK) : TS := (tSeq (tIfS (tNot (tB (tMeth c.Book "has_block" (sp_Book_has_block K c) [] E (tVar 0) (tCons (tVar 1) (tCons (tVar 2) tNil))))) (tRaiseX c.NoBlock (fun cls d _ H => E cls d H)) tNext)
  (tRet (tOp (rIx K) (tOp (rIx K) (tFld K (tVar 0) "levels") (tVar 1)) (tVar 2))))
def sp_Book_sum_of (K : PySem.W.Frag) (c : Cs) : Sp := fun vs H Q E => ∃ (B L ln lv : Addr) (lvs : List Addr) (rows : List Str) (levels : List (List Nat)) (v w : V) (b b' : Bool), vs = [.ref B, v, w] ∧ BookAt c H B L ln lv lvs rows levels ∧ isWholeV K H v b ∧ isWholeV K H w b' ∧
  (∀ h j x : Nat, v = .int h → w = .int j → (lev levels h)[j]? = some x → Q (.int x) H) ∧ (¬ HasB levels v w → E (.ref c.NoBlock) none H)
theorem len_Book_sum_of {K c} : ∀ vs H Q E, sp_Book_sum_of K c vs H Q E → vs.length = 3 := by rintro vs H Q E ⟨_, _, _, _, _, _, _, _, _, _, _, rfl, _⟩; rfl
theorem pure_Book_sum_of {K : PySem.W.Frag} {c : Cs} {vs : List V} {H : Hp} {Q : VK} {E : XK} (T : TxK K c) (h : sp_Book_sum_of K c vs H Q E) : t_Book_sum_of K c E ⟨fun _ H' => Q .non H', Q, fun _ _ => False, fun _ _ => False⟩ (start N_Book_sum_of vs) H := by
  obtain ⟨B, L, ln, lv, lvs, rows, levels, v, w, b, b', rfl, S, hv, hw, k1, k2⟩ := h
  show t_Book_sum_of K c E _ [some (.ref B), some v, some w] H
  unfold t_Book_sum_of
  obtain ⟨dx, hB⟩ := S.ob
  walk_at "s"
  refine w_methAt hB (bfl_no (by decide +kernel) (by decide +kernel) (by decide +kernel)) ?_
  walk_at "s"
  refine ⟨B, L, ln, lv, lvs, rows, levels, v, w, b, b', rfl, S, hv, hw, fun y => ?_, fun n => ?_⟩
  · obtain ⟨h, j, rfl, rfl, hj⟩ := y
    walk_at "s"
    refine iteF ?_
    walk_at "s"
    have h2 : h < levels.length := by
      rcases Nat.lt_or_ge h levels.length with q | q
      · exact q
      · rw [lev_out q] at hj
        exact absurd hj (Nat.not_lt_zero _)
    obtain ⟨A, _, a2, a3⟩ := S.lvl h2
    refine w_fldAt hB T.cBook T.n_Book_levels bfl_levels ?_
    walk_at "s"
    refine w_ixL (sql S.hlv) (atI_nat a2) ?_
    walk_at "s"
    exact w_ixL (sql a3) (atI_nat (v := nv (lev levels h)[j]) (by rw [List.getElem?_map, List.getElem?_eq_getElem hj]; rfl)) (k1 h j _ rfl rfl (List.getElem?_eq_getElem hj))
  · walk_at "s"
    refine iteT ?_
    walk_at "s"
    exact k2 n
end Tw

namespace Tw
open PySem L2 Ts Mix
theorem getLast_at {α : Type} {l : List α} (h : l ≠ []) : ∃ x, l[l.length - 1]? = some x ∧ l = l.dropLast ++ [x] := by
  refine ⟨l.getLast h, ?_, (List.dropLast_concat_getLast h).symm⟩
  rw [List.getLast_eq_getElem]
  exact List.getElem?_eq_getElem _
theorem div_pred {n k : Nat} (hn : 0 < n) : (n - 1) / 2 ^ k = if n % 2 ^ k = 0 then n / 2 ^ k - 1 else n / 2 ^ k := by
  by_cases h : n % 2 ^ k = 0
  · rw [if_pos h]
    obtain ⟨m, hm⟩ := Nat.dvd_of_mod_eq_zero h
    have p := Nat.two_pow_pos k
    generalize 2 ^ k = s at *
    have m0 : 0 < m := by
      rcases Nat.eq_zero_or_pos m with z | z
      · rw [z, Nat.mul_zero] at hm; omega
      · exact z
    obtain ⟨m', rfl⟩ : ∃ m', m = m' + 1 := ⟨m - 1, by omega⟩
    have e : n - 1 = s * m' + (s - 1) := by rw [hm, Nat.mul_add, Nat.mul_one]; omega
    rw [e, Nat.mul_add_div p, Nat.div_eq_of_lt (by omega), hm, Nat.mul_div_cancel_left _ p]
    omega
  · rw [if_neg h]
    exact half_odd hn h
/-- ahead of a turn: the heights below h have lost their last block -/
structure DInv (ths : List MK) (rows : List Str) (h : Nat) (levels : List (List Nat)) : Prop where
  pos : 0 < rows.length
  dv : ∀ k, k < h → rows.length % 2 ^ k = 0
  lo : ∀ k, k < h → (lev levels k).length = rows.length / 2 ^ k - 1
  hi : ∀ k, h ≤ k → (lev levels k).length = rows.length / 2 ^ k
  den : ∀ k j x, (lev levels k)[j]? = some x → Den ths k x (blk rows k j)
section
variable {ths : List MK} {rows : List Str} {h : Nat} {levels : List (List Nat)}
theorem dropLast_get {α : Type} {l : List α} {j : Nat} {x : α} (e : l.dropLast[j]? = some x) : l[j]? = some x := by
  have h1 := get_lt e
  rw [List.length_dropLast] at h1
  rw [List.getElem?_dropLast, if_pos h1] at e
  exact e
theorem dvd_low {n k m : Nat} (h : n % 2 ^ m = 0) (hk : k ≤ m) : n % 2 ^ k = 0 := Nat.mod_eq_zero_of_dvd (Nat.dvd_trans (Nat.pow_dvd_pow 2 hk) (Nat.dvd_of_mod_eq_zero h))
theorem DInv.next (G : DInv ths rows h levels) (q : rows.length % 2 ^ h = 0) (hl : h < levels.length) : DInv ths rows (h + 1) (levels.set h (lev levels h).dropLast) := by
  refine ⟨G.pos, fun k hk => dvd_low q (by omega), fun k hk => ?_, fun k hk => ?_, fun k j x e => ?_⟩
  · rw [lev_set hl]
    by_cases w : k = h
    · rw [if_pos w, List.length_dropLast, G.hi h (Nat.le_refl _), w]
    · rw [if_neg w]; exact G.lo k (by omega)
  · rw [lev_set hl, if_neg (by omega)]
    exact G.hi k (by omega)
  · rw [lev_set hl] at e
    by_cases w : k = h
    · rw [if_pos w] at e
      subst w
      exact G.den k j x (dropLast_get e)
    · rw [if_neg w] at e
      exact G.den k j x e
theorem DInv.there (G : DInv ths rows h levels) (q : rows.length % 2 ^ h = 0) : h < levels.length ∧ lev levels h ≠ [] := by
  have p : 0 < (lev levels h).length := by
    rw [G.hi h (Nat.le_refl _)]
    refine Nat.div_pos ?_ (Nat.two_pow_pos h)
    exact Nat.le_of_dvd G.pos (Nat.dvd_of_mod_eq_zero q)
  refine ⟨?_, fun z => by rw [z] at p; exact absurd p (Nat.lt_irrefl _)⟩
  rcases Nat.lt_or_ge h levels.length with w | w
  · exact w
  · rw [lev_out w] at p
    exact absurd p (Nat.lt_irrefl _)
theorem DInv.stop (G : DInv ths rows h levels) (q : ¬ rows.length % 2 ^ h = 0) : BookInv ths rows.dropLast levels ∧ IsBc rows.length (rows.length - 1) h := by
  have hd : rows.dropLast.length = rows.length - 1 := List.length_dropLast
  have len : ∀ k, (lev levels k).length = rows.dropLast.length / 2 ^ k := fun k => by
    rw [hd, div_pred G.pos]
    rcases Nat.lt_or_ge k h with w | w
    · rw [if_pos (G.dv k w)]; exact G.lo k w
    · rw [if_neg fun z => q (dvd_low z w)]; exact G.hi k w
  refine ⟨⟨len, fun k j x e => ?_⟩, fun k hk => ?_, fun z => ?_⟩
  · have hj := get_lt e
    rw [len, lt_div_iff] at hj
    have d := G.den k j x e
    obtain ⟨y, _, ey⟩ := getLast_at (l := rows) (fun z => by have := G.pos; rw [z] at this; exact absurd this (Nat.lt_irrefl _))
    rw [ey, blk_append hj] at d
    exact d
  · rw [← lt_div_iff]
    have := div_pred (k := k) G.pos
    rw [if_pos (G.dv k hk)] at this
    have p : 0 < rows.length / 2 ^ k := Nat.div_pos (Nat.le_of_dvd G.pos (Nat.dvd_of_mod_eq_zero (G.dv k hk))) (Nat.two_pow_pos k)
    omega
  · rw [← lt_div_iff] at z
    have := div_pred (k := h) G.pos
    rw [if_neg q] at this
    omega
theorem DInv.low (G : DInv ths rows h levels) (hr : rows.length ≤ 100000) : h ≤ 17 := by
  rcases Nat.lt_or_ge 17 h with w | w
  · have d := G.dv 17 w
    have h1 := Nat.le_of_dvd G.pos (Nat.dvd_of_mod_eq_zero d)
    have h3 : (2 : Nat) ^ 17 = 131072 := by decide
    omega
  · exact w
theorem DInv.start {levels : List (List Nat)} (I : BookInv ths rows levels) (hp : 0 < rows.length) (hl : 0 < levels.length) : DInv ths rows 1 (levels.set 0 (lev levels 0).dropLast) := by
  have G0 : DInv ths rows 0 levels := ⟨hp, fun k hk => absurd hk (Nat.not_lt_zero _), fun k hk => absurd hk (Nat.not_lt_zero _), fun k _ => I.len k, I.den⟩
  exact G0.next (by rw [Nat.pow_zero, Nat.mod_one]) hl
end
def N_Book_cut : List Str := ["self", "size", "height"]
def t_Book_cut (K : PySem.W.Frag) (c : Cs) (E : XK) : TS := (tSeq (tIfS (tTest (tOp (rEqU K) (tCB (Ts.rLen K) (tCons (tFld K (tVar 0) "lines") tNil)) (tC (.int 0)))) (tRaiseX c.NoPlace (fun cls d _ H => E cls d H)) tNext)
  (tSeq (tAsg (tCB (Ts.rLen K) (tCons (tFld K (tVar 0) "lines") tNil)) (gName 1))
  (tSeq (tDrop (tBM0 K "list" rPop (tFld K (tVar 0) "lines")))
  (tSeq (tDrop (tBM0 K "list" rPop (tOp (rIx K) (tFld K (tVar 0) "levels") (tC (.int 0)))))
  (tSeq (tAsg (tC (.int 1)) (gName 2))
  (tSeq (tWhile (tTest (tOp (rEqU K) (tOp rMod (tVar 1) (tCall (sp_size_of K c) [] E (tCons (tVar 2) tNil))) (tC (.int 0)))) (tSeq (tDrop (tBM0 K "list" rPop (tOp (rIx K) (tFld K (tVar 0) "levels") (tVar 2))))
  (tAsg (tOp rAddU (tVar 2) (tC (.int 1))) (gName 2))))
  (tRet (tVar 2))))))))
def sp_Book_cut (K : PySem.W.Frag) (c : Cs) : Sp := fun vs H Q E => ∃ (B L d l ln lv : Addr) (lvs : List Addr) (ths : List MK) (xs : List V) (rows : List Str) (levels : List (List Nat)), vs = [.ref B] ∧ BS c H B L d l ln lv lvs ths xs rows levels ∧ BookInv ths rows levels ∧ rows.length ≤ 100000 ∧
  (rows = [] → E (.ref c.NoPlace) none H) ∧
  (rows ≠ [] → ∀ H' levels' n, BS c H' B L d l ln lv lvs ths xs rows.dropLast levels' → BookInv ths rows.dropLast levels' → IsBc rows.length (rows.length - 1) n → Kp (ln :: lv :: lvs) H H' → Q (.int (n : Nat)) H')
theorem len_Book_cut {K c} : ∀ vs H Q E, sp_Book_cut K c vs H Q E → vs.length = 1 := by rintro vs H Q E ⟨_, _, _, _, _, _, _, _, _, _, _, rfl, _⟩; rfl
theorem pure_Book_cut {K : PySem.W.Frag} {c : Cs} {vs : List V} {H : Hp} {Q : VK} {E : XK} (T : TxK K c) (h : sp_Book_cut K c vs H Q E) : t_Book_cut K c E ⟨fun _ H' => Q .non H', Q, fun _ _ => False, fun _ _ => False⟩ (start N_Book_cut vs) H := by
  obtain ⟨B, L, d, l, ln, lv, lvs, ths, xs, rows, levels, rfl, S, I, hr, k1, k2⟩ := h
  show t_Book_cut K c E _ [some (.ref B), none, none] H
  unfold t_Book_cut
  obtain ⟨dx, hB⟩ := S.ba.ob
  walk_at "s"
  refine w_fldAt hB T.cBook T.n_Book_lines bfl_lines ?_
  walk_at "s"
  refine w_lenL (sql S.ba.hln) ?_
  rw [List.length_map]
  walk_at "s"
  refine ite_d (fun h0 => ?_) fun h0 => ?_
  · walk_at "s"
    exact k1 (List.length_eq_zero_iff.mp (by omega))
  have ne : rows ≠ [] := fun z => h0 (by rw [z]; rfl)
  have hp : 0 < rows.length := List.length_pos_iff.mpr ne
  have k := k2 ne
  walk_at "s"
  refine w_fldAt hB T.cBook T.n_Book_lines bfl_lines ?_
  walk_at "s"
  refine w_lenL (sql S.ba.hln) ?_
  rw [List.length_map]
  walk_at "s"
  refine w_fldAt hB T.cBook T.n_Book_lines bfl_lines ?_
  refine ⟨w_tyL (sql S.ba.hln), ?_⟩
  obtain ⟨y, ey, er⟩ := getLast_at (l := rows.map V.str) (fun z => ne (List.map_eq_nil_iff.mp z))
  refine w_pop S.ba.hln ey ?_
  have S1 : BS c (upd H ln (.lst (rows.map V.str).dropLast)) B L d l ln lv lvs ths xs rows.dropLast levels := by
    rw [← List.map_dropLast]
    exact S.book T (by simp) S.ba.lines
  have q1 : Kp (ln :: lv :: lvs) H (upd H ln (.lst (rows.map V.str).dropLast)) := Kp.refl.set (by simp)
  generalize upd H ln (.lst (rows.map V.str).dropLast) = H1 at S1 q1
  walk_at "s"
  obtain ⟨dx1, hB1⟩ := S1.ba.ob
  refine w_fldAt hB1 T.cBook T.n_Book_levels bfl_levels ?_
  walk_at "s"
  have l0 : (lev levels 0).length = rows.length := by rw [I.len, Nat.pow_zero, Nat.div_one]
  have hl0 : 0 < levels.length := by
    rcases Nat.eq_zero_or_pos levels.length with w | w
    · rw [lev_out (by omega)] at l0; simp at l0; omega
    · exact w
  obtain ⟨A, a1, a2, a3⟩ := S1.ba.lvl hl0
  refine w_ixL (sql S1.ba.hlv) (atI_nat (j := 0) a2) ?_
  refine ⟨w_tyL (sql a3), ?_⟩
  obtain ⟨y0, ey0, _⟩ := getLast_at (l := (lev levels 0).map nv) (fun z => by have := List.map_eq_nil_iff.mp z; rw [this] at l0; simp at l0; omega)
  refine w_pop a3 ey0 ?_
  have hA2 : A ∈ ln :: lv :: lvs := List.mem_cons_of_mem _ (List.mem_cons_of_mem _ (List.mem_of_getElem? a1))
  have S2 : BS c (upd H1 A (.lst ((lev levels 0).map nv).dropLast)) B L d l ln lv lvs ths xs rows.dropLast (levels.set 0 (lev levels 0).dropLast) := by
    rw [← List.map_dropLast]
    exact S1.book T hA2 (S1.ba.level a1)
  have q2 : Kp (ln :: lv :: lvs) H (upd H1 A (.lst ((lev levels 0).map nv).dropLast)) := q1.set hA2
  generalize upd H1 A (.lst ((lev levels 0).map nv).dropLast) = H2 at S2 q2
  have G2 := DInv.start I hp hl0
  walk_at "s"
  refine w_while (fun σ H' => ∃ (h : Nat) (levels1 : List (List Nat)), σ = [some (.ref B), some (.int (rows.length : Nat)), some (.int (h : Nat))] ∧ BS c H' B L d l ln lv lvs ths xs rows.dropLast levels1 ∧ DInv ths rows h levels1 ∧ Kp (ln :: lv :: lvs) H H')
    (fun σ _ => match σ with | [_, _, some (.int m)] => 20 - m.toNat | _ => 0) ⟨1, _, rfl, S2, G2, q2⟩ ?_
  rintro σ H3 ⟨h, levels1, rfl, S3, G, q3⟩
  have hlow := G.low hr
  walk_at "s"
  refine ⟨h, rfl, by omega, ?_⟩
  have hp1 := Nat.two_pow_pos h
  refine w_mod (by omega) ?_
  rw [cast_mod]
  walk_at "s"
  refine ite_d (fun h1 => ?_) fun h1 => ?_
  · have h1 : rows.length % 2 ^ h = 0 := by omega
    obtain ⟨t1, t2⟩ := G.there h1
    refine w_wN ?_
    obtain ⟨dx3, hB3⟩ := S3.ba.ob
    walk_at "s"
    refine w_fldAt hB3 T.cBook T.n_Book_levels bfl_levels ?_
    walk_at "s"
    obtain ⟨A3, b1, b2, b3⟩ := S3.ba.lvl t1
    refine w_ixL (sql S3.ba.hlv) (atI_nat b2) ?_
    refine ⟨w_tyL (sql b3), ?_⟩
    obtain ⟨y3, ey3, _⟩ := getLast_at (l := (lev levels1 h).map nv) (fun z => t2 (List.map_eq_nil_iff.mp z))
    refine w_pop b3 ey3 ?_
    have hA3 : A3 ∈ ln :: lv :: lvs := List.mem_cons_of_mem _ (List.mem_cons_of_mem _ (List.mem_of_getElem? b1))
    have S4 : BS c (upd H3 A3 (.lst ((lev levels1 h).map nv).dropLast)) B L d l ln lv lvs ths xs rows.dropLast (levels1.set h (lev levels1 h).dropLast) := by
      rw [← List.map_dropLast]
      exact S3.book T hA3 (S3.ba.level b1)
    have q4 : Kp (ln :: lv :: lvs) H (upd H3 A3 (.lst ((lev levels1 h).map nv).dropLast)) := q3.set hA3
    generalize upd H3 A3 (.lst ((lev levels1 h).map nv).dropLast) = H4 at S4 q4
    walk_at "s"
    refine ⟨⟨h + 1, _, ?_, S4, G.next h1 t1, q4⟩, ?_⟩
    · rw [show ((h : Nat) : Int) + 1 = ((h + 1 : Nat) : Int) by push_cast; rfl]
    · show 20 - (((h : Nat) : Int) + 1).toNat < 20 - ((h : Nat) : Int).toNat
      omega
  · have h1 : ¬ rows.length % 2 ^ h = 0 := by omega
    walk_at "s"
    obtain ⟨I4, bc⟩ := G.stop h1
    exact k H3 levels1 h S3 I4 bc q3
/-! ### a book is made -/
def growsM : List MK → List Str → List (List Nat) → List Str → List MK × List (List Nat)
  | ths, _, levels, [] => (ths, levels)
  | ths, rows, levels, z :: zs => growsM (growM ths rows levels z).1 (rows ++ [z]) (growM ths rows levels z).2.1 zs
theorem growM_len {ths : List MK} {rows : List Str} {levels : List (List Nat)} {z : Str} : (growM ths rows levels z).1.length ≤ ths.length + (growM ths rows levels z).2.2 := by
  obtain ⟨h1, h2⟩ := growL_bound (rows.length + 1) 0 (rows.length + 1) (num (ask ths (.row z)) (.row z)) (ask ths (.row z)) levels (by omega) (by omega)
  have h3 := ask_len ths (.row z)
  unfold growM
  omega
theorem growM_pre {ths : List MK} {rows : List Str} {levels : List (List Nat)} {z : Str} : ths <+: (growM ths rows levels z).1 := (ask_pre _ _).trans (growL_pre _ _ _ _ _ _)
theorem putM_len {ths : List MK} {levels : List (List Nat)} {place : Nat} {z : Str} : (putM ths levels place z).1.length ≤ ths.length + (putM ths levels place z).2.2 := by
  obtain ⟨h1, h2⟩ := putL_bound (levels.length + 1) 1 (place / 2) (ask ths (.row z)) (levels.set 0 ((lev levels 0).set place (num (ask ths (.row z)) (.row z))))
  have h3 := ask_len ths (.row z)
  unfold putM
  omega
theorem putM_pre {ths : List MK} {levels : List (List Nat)} {place : Nat} {z : Str} : ths <+: (putM ths levels place z).1 := (ask_pre _ _).trans (putL_pre _ _ _ _ _)
theorem IsBc.low {n p m : Nat} (h : IsBc n p m) (hn : n ≤ 100000) : m ≤ 17 := by
  rcases Nat.lt_or_ge 17 m with w | w
  · have h1 := h.1 17 w
    have h2 : 2 ^ 17 ≤ (p / 2 ^ 17 + 1) * 2 ^ 17 := Nat.le_mul_of_pos_left _ (Nat.succ_pos _)
    have h3 : (2 : Nat) ^ 17 = 131072 := by decide
    omega
  · exact w
theorem IsBc.one {n p m m' : Nat} (h : IsBc n p m) (h' : IsBc n p m') : m = m' := by
  rcases Nat.lt_trichotomy m m' with w | w | w
  · exact absurd (h'.1 m w) h.2
  · exact w
  · exact absurd (h.1 m' w) h'.2
end Tw

namespace Tw
open PySem L2 Ts Mix
/-! ### a book is made -/
def N_Book_init : List Str := ["self", "ledger", "rows", "row"]
def t_Book_init (K : PySem.W.Frag) (c : Cs) (E : XK) : TS := (tSeq (tFor (iList K (tVar 2)) (gName 3) (tDrop (tCall (sp_sure_row K c) [] E (tCons (tVar 3) tNil))))
  (tSeq (tIfS (tTest (tOp rGt (tCB (Ts.rLen K) (tCons (tVar 2) tNil)) (tC (.int 1024)))) (tRaiseX c.Full (fun cls d _ H => E cls d H)) tNext)
  (tSeq (sFld K (tVar 0) (tVar 1) "ledger")
  (tSeq (sFld K (tVar 0) (tLst tNil) "lines")
  (tSeq (sFld K (tVar 0) (tLst tNil) "levels")
  (tFor (iList K (tVar 2)) (gName 3) (tDrop (tMeth c.Book "grow" (sp_Book_grow K c) [] E (tVar 0) (tCons (tVar 3) tNil)))))))))
def sp_Book_init (K : PySem.W.Frag) (c : Cs) : Sp := fun vs H Q E => ∃ (B dx L d l a : Addr) (ths : List MK) (xs ys : List V), vs = [.ref B, .ref L, .ref a] ∧ H B = some (.ins c.Book dx []) ∧ LedgerAt c H L d l ths xs ∧ SqL K H a ys ∧ a ≠ d ∧ a ≠ l ∧ (∀ y ∈ ys, RowV K H y) ∧ ys.length ≤ 100000 ∧ ths.length < 500000 ∧
  ((∃ y ∈ ys, ¬ isRowV y) → E (.ref c.NoRow) none H) ∧ ((∀ y ∈ ys, isRowV y) → 1024 < ys.length → E (.ref c.Full) none H) ∧
  (∀ zs, ys = zs.map V.str → (∀ z ∈ zs, Good z) → zs.length ≤ 1024 → ∀ H' ln lv lvs xs', BS c H' B L d l ln lv lvs (growsM ths [] [] zs).1 xs' zs (growsM ths [] [] zs).2 → BookInv (growsM ths [] [] zs).1 zs (growsM ths [] [] zs).2 → Kp [B, d, l] H H' → (∀ x ∈ ln :: lv :: lvs, H x = none) →
    (growsM ths [] [] zs).1.length ≤ ths.length + 17 * zs.length → Q .non H')
theorem len_Book_init {K c} : ∀ vs H Q E, sp_Book_init K c vs H Q E → vs.length = 3 := by rintro vs H Q E ⟨_, _, _, _, _, _, _, _, _, rfl, _⟩; rfl
theorem sql_stay {K : PySem.W.Frag} {S : List Addr} {H H' : Hp} {a : Addr} {ys : List V} (h : SqL K H a ys) (k : Kp S H H') (n : ∀ o, H a = some o → (∀ C dx fs, o ≠ .ins C dx fs) → a ∉ S) : SqL K H' a ys := by
  rcases h with (h | ⟨o, h⟩) | h
  · exact .inl (.inl (k _ _ h (n _ h fun _ _ _ e => nomatch e)))
  · exact .inl (.inr ⟨o, k _ _ h (n _ h fun _ _ _ e => nomatch e)⟩)
  · exact .inr h
theorem kp_trans2 {S S' : List Addr} {H H1 H2 : Hp} (a : Kp S H H1) (b : Kp S' H1 H2) (h : ∀ x ∈ S', x ∈ S ∨ H x = none) : Kp S H H2 := fun x o q n => b x o (a x o q n) fun z => by
  rcases h x z with r | r
  · exact n r
  · rw [q] at r; cases r
/-- what a loop over the rows keeps -/
structure MakeAt (c : Cs) (H H' : Hp) (B L d l : Addr) (ths : List MK) (zs : List Str) (i : Nat) : Prop where
  ex : ∃ (ln lv : Addr) (lvs : List Addr) (xs : List V) (ths1 : List MK) (levels1 : List (List Nat)), BS c H' B L d l ln lv lvs ths1 xs (zs.take i) levels1 ∧ BookInv ths1 (zs.take i) levels1 ∧ Kp [B, d, l] H H' ∧ (∀ x ∈ ln :: lv :: lvs, H x = none) ∧
    growsM ths1 (zs.take i) levels1 (zs.drop i) = growsM ths [] [] zs ∧ ths1.length ≤ ths.length + 17 * i
theorem bookInv_nil (ths : List MK) : BookInv ths [] [] := ⟨fun h => by rw [lev_out (Nat.zero_le _)]; simp, fun h j x e => by rw [lev_out (Nat.zero_le _)] at e; simp at e⟩
theorem pure_Book_init {K : PySem.W.Frag} {c : Cs} {vs : List V} {H : Hp} {Q : VK} {E : XK} (T : TxK K c) (h : sp_Book_init K c vs H Q E) : t_Book_init K c E ⟨fun _ H' => Q .non H', Q, fun _ _ => False, fun _ _ => False⟩ (start N_Book_init vs) H := by
  obtain ⟨B, dx, L, d, l, a, ths, xs, ys, rfl, hB, hL, ha, nad, nal, hy, hyl, hz, k1, k2, k3⟩ := h
  show t_Book_init K c E _ [some (.ref B), some (.ref L), some (.ref a), none] H
  unfold t_Book_init
  have nBd : B ≠ d := fun e => by
    obtain ⟨φ, e2⟩ := T.md d (ents 0 ths xs)
    have := hL.dc
    rw [e2, ← e, hB] at this
    exact nomatch this
  have nBl : B ≠ l := fun e => by
    have := hL.ls
    rw [← e, hB] at this
    exact nomatch this
  have nBL : B ≠ L := fun e => by
    obtain ⟨dy, h1⟩ := hL.ob
    rw [← e, hB] at h1
    have h2 := (HO.ins.inj (Option.some.inj h1)).2.2
    unfold lfl at h2
    exact nomatch (show ([] : List (Str × V)) = _ from h2)
  walk_at "s"
  refine w_iLv ha (lb_list (K := K) (xs := ys) (fun i σ H' => H = H' ∧ (∃ v, σ = [some (.ref B), some (.ref L), some (.ref a), v]) ∧ ∀ j y, j < i → ys[j]? = some y → isRowV y) ⟨rfl, ⟨none, rfl⟩, fun j _ hj => absurd hj (Nat.not_lt_zero _)⟩ ?_ ?_ ?_)
  · rintro i σ H' _ ⟨rfl, _⟩
    exact ha
  · rintro i y σ H' hi ⟨rfl, ⟨v, rfl⟩, hb⟩
    walk_at "s"
    refine ⟨y, rfl, hy y (List.mem_of_getElem? hi), fun g => ?_, fun n => k1 ⟨y, List.mem_of_getElem? hi, n⟩⟩
    refine ⟨rfl, ⟨_, rfl⟩, fun j y' hj e => ?_⟩
    rcases Nat.lt_or_ge j i with q | q
    · exact hb j y' q e
    · have e2 : j = i := by omega
      rw [e2, hi] at e
      cases e
      exact g
  rintro σ H' ⟨rfl, ⟨v, rfl⟩, hb⟩
  have hg : ∀ y ∈ ys, isRowV y := fun y hy => by
    obtain ⟨j, hj⟩ := List.mem_iff_getElem?.mp hy
    exact hb j y (get_lt hj) hj
  obtain ⟨zs, rfl, hzs⟩ : ∃ zs : List Str, ys = zs.map V.str ∧ ∀ z ∈ zs, Good z := by
    clear hb k1 k2 k3 ha hy hyl
    induction ys with
    | nil => exact ⟨[], rfl, fun z hz => nomatch hz⟩
    | cons y ys ih =>
      obtain ⟨zs, e, h1⟩ := ih fun y hy => hg y (List.mem_cons_of_mem _ hy)
      obtain ⟨z, e2, h2⟩ := hg y List.mem_cons_self
      refine ⟨z :: zs, by rw [e, e2]; rfl, fun x hx => ?_⟩
      rcases List.mem_cons.mp hx with r | r
      · rw [r]; exact h2
      · exact h1 x r
  rw [List.length_map] at hyl k2
  walk_at "s"
  refine w_lenL ha ?_
  rw [List.length_map]
  walk_at "s"
  refine ite_d (fun h0 => ?_) fun h0 => ?_
  · walk_at "s"
    exact k2 hg (by omega)
  have hm : zs.length ≤ 1024 := by omega
  have k := k3 zs rfl hzs hm
  clear k1 k2 k3
  walk_at "s"
  refine w_sfldAt hB T.cBook T.n_Book_ledger (by show 0 < 1000; decide) ?_
  walk_at "s"
  refine ⟨Nat.zero_le _, fun ln hln => ?_⟩
  have nB1 : B ≠ ln := fun e => by rw [← e, upd_same] at hln; exact nomatch hln
  have fln : H ln = none := by rw [upd_ne (Ne.symm nB1)] at hln; exact hln
  walk_at "s"
  refine w_sfldAt (by rw [upd_ne nB1, upd_same]) T.cBook T.n_Book_lines (by show 1 < 1000; decide) ?_
  walk_at "s"
  refine ⟨Nat.zero_le _, fun lv hlv => ?_⟩
  have nB2 : B ≠ lv := fun e => by rw [← e, upd_same] at hlv; exact nomatch hlv
  have n12 : ln ≠ lv := fun e => by rw [← e, upd_ne (Ne.symm nB1), upd_same] at hlv; exact nomatch hlv
  have flv : H lv = none := by rw [upd_ne (Ne.symm nB2), upd_ne (Ne.symm n12), upd_ne (Ne.symm nB2)] at hlv; exact hlv
  walk_at "s"
  refine w_sfldAt (by rw [upd_ne nB2, upd_same]) T.cBook T.n_Book_levels (by show 2 < 1000; decide) ?_
  walk_at "s"
  have q1 : Kp [B, d, l] H (upd (upd (upd (upd (upd H B (.ins c.Book dx (putF "ledger" (.ref L) []))) ln (.lst [])) B (.ins c.Book dx (putF "lines" (.ref ln) (putF "ledger" (.ref L) [])))) lv (.lst [])) B (.ins c.Book dx (putF "levels" (.ref lv) (putF "lines" (.ref ln) (putF "ledger" (.ref L) []))))) :=
    ((((Kp.refl.set (by simp)).fresh fln).set (by simp)).fresh flv).set (by simp)
  have b1 : BookAt c (upd (upd (upd (upd (upd H B (.ins c.Book dx (putF "ledger" (.ref L) []))) ln (.lst [])) B (.ins c.Book dx (putF "lines" (.ref ln) (putF "ledger" (.ref L) [])))) lv (.lst [])) B (.ins c.Book dx (putF "levels" (.ref lv) (putF "lines" (.ref ln) (putF "ledger" (.ref L) []))))) B L ln lv [] [] [] := by
    refine ⟨⟨dx, upd_same⟩, ?_, ?_, rfl, fun i a x e _ => by simp at e, ?_⟩
    · rw [upd_ne (Ne.symm nB1), upd_ne n12, upd_ne (Ne.symm nB1), upd_same]; rfl
    · rw [upd_ne (Ne.symm nB2), upd_same]; rfl
    · rw [List.nodup_cons]
      exact ⟨by simpa using n12, by simp⟩
  have q0 : Kp [B] H (upd (upd (upd (upd (upd H B (.ins c.Book dx (putF "ledger" (.ref L) []))) ln (.lst [])) B (.ins c.Book dx (putF "lines" (.ref ln) (putF "ledger" (.ref L) [])))) lv (.lst [])) B (.ins c.Book dx (putF "levels" (.ref lv) (putF "lines" (.ref ln) (putF "ledger" (.ref L) []))))) :=
    ((((Kp.refl.set (by simp)).fresh fln).set (by simp)).fresh flv).set (by simp)
  generalize upd (upd (upd (upd (upd H B (.ins c.Book dx (putF "ledger" (.ref L) []))) ln (.lst [])) B (.ins c.Book dx (putF "lines" (.ref ln) (putF "ledger" (.ref L) [])))) lv (.lst [])) B (.ins c.Book dx (putF "levels" (.ref lv) (putF "lines" (.ref ln) (putF "ledger" (.ref L) [])))) = H1 at q1 q0 b1
  have l1 : LedgerAt c H1 L d l ths xs := by
    obtain ⟨dy, hp⟩ := hL.ob
    refine ⟨⟨dy, q0 _ _ hp (by simpa using Ne.symm nBL)⟩, q0 _ _ hL.dc (by simpa using Ne.symm nBd), q0 _ _ hL.ls (by simpa using Ne.symm nBl), paired_imp hL.kv fun a b q => q0.keyV q fun x o hx ho => ?_, hL.nd⟩
    rw [List.mem_singleton.mp hx, hB] at ho
    cases ho
    rintro ⟨_, e⟩
    cases e
  have S1 : BS c H1 B L d l ln lv [] ths xs [] [] := by
    refine ⟨l1, b1, ?_⟩
    have nd : ∀ {x : Addr} {o : HO}, H x = some o → x ≠ ln ∧ x ≠ lv := fun h => ⟨ne_of_none h fln, ne_of_none h flv⟩
    rw [List.nodup_cons, List.nodup_cons]
    refine ⟨?_, ?_, b1.nd⟩
    · simp [hL.dl T, (nd hL.dc).1, (nd hL.dc).2]
    · simp [(nd hL.ls).1, (nd hL.ls).2]
  have ha1 : ∀ {H' : Hp}, Kp [B, d, l] H H' → SqL K H' a (zs.map V.str) := fun k => sql_stay ha k fun o ho no hx => by
    rcases List.mem_cons.mp hx with e | hx
    · rw [e, hB] at ho
      cases ho
      exact no _ _ _ rfl
    rcases List.mem_cons.mp hx with e | hx
    · exact nad e
    · exact nal (List.mem_singleton.mp hx)
  refine w_iLv (ha1 q1) (lb_list (K := K) (xs := zs.map V.str) (fun i σ H' => (∃ v, σ = [some (.ref B), some (.ref L), some (.ref a), v]) ∧ MakeAt c H H' B L d l ths zs i) ⟨⟨_, rfl⟩, ln, lv, [], xs, ths, [], by rw [List.take_zero]; exact S1, by rw [List.take_zero]; exact bookInv_nil _, q1, fun x hx => ?_, rfl, by omega⟩ ?_ ?_ ?_)
  · rcases List.mem_cons.mp hx with e | hx
    · rw [e]; exact fln
    · rw [List.mem_singleton.mp hx]; exact flv
  · rintro i σ H' _ ⟨_, ln1, lv1, lvs1, xs1, ths1, levels1, _, _, q, _⟩
    exact ha1 q
  · rintro i y σ H2 hi ⟨⟨v, rfl⟩, ln1, lv1, lvs1, xs1, ths1, levels1, S2, I2, q2, f2, e2, b2⟩
    obtain ⟨z, hz1, rfl⟩ := get_map hi
    have hlt := get_lt hz1
    have htl : (zs.take i).length = i := by rw [List.length_take]; omega
    walk_at "s"
    obtain ⟨dx2, hB2⟩ := S2.ba.ob
    refine w_methAt hB2 (bfl_no (by decide +kernel) (by decide +kernel) (by decide +kernel)) ?_
    walk_at "s"
    refine ⟨B, L, d, l, ln1, lv1, lvs1, ths1, xs1, zs.take i, levels1, z, rfl, S2, I2, hzs z (List.mem_of_getElem? hz1), by omega, by omega, fun H3 xs3 lvs3 S3 I3 bc k3 w3 => ?_⟩
    rw [drop_at hz1] at e2
    rw [← take_at hz1] at S3 I3
    have low := bc.low (by omega)
    have gl := growM_len (ths := ths1) (rows := zs.take i) (levels := levels1) (z := z)
    refine ⟨⟨_, rfl⟩, ln1, lv1, lvs3, xs3, _, _, S3, I3, kp_trans2 q2 k3 fun x hx => ?_, fun x hx => ?_, ?_, by omega⟩
    · rcases List.mem_cons.mp hx with e | hx
      · rw [e]; simp
      rcases List.mem_cons.mp hx with e | hx
      · rw [e]; simp
      exact .inr (f2 x hx)
    · have key : x ∈ ln1 :: lv1 :: lvs1 ∨ H2 x = none := by
        rcases List.mem_cons.mp hx with e | hx
        · rw [e]; simp
        rcases List.mem_cons.mp hx with e | hx
        · rw [e]; simp
        rcases w3.2 x hx with r | r
        · exact .inl (List.mem_cons_of_mem _ (List.mem_cons_of_mem _ r))
        · exact .inr r
      rcases key with r | r
      · exact f2 x r
      · cases q : H x with
        | none => rfl
        | some o =>
          have := q2 x o q fun hx => by
            rcases List.mem_cons.mp hx with e | hx
            · rw [e, hB2] at r; cases r
            rcases List.mem_cons.mp hx with e | hx
            · rw [e, S2.la.dc] at r; cases r
            · rw [List.mem_singleton.mp hx, S2.la.ls] at r; cases r
          rw [this] at r
          cases r
    · rw [take_at hz1]; exact e2
  · rintro σ H2 ⟨⟨v, rfl⟩, ln1, lv1, lvs1, xs1, ths1, levels1, S2, I2, q2, f2, e2, b2⟩
    rw [List.length_map, List.take_length] at S2 I2 e2
    rw [List.length_map] at b2
    rw [List.drop_length] at e2
    have e3 : growsM ths [] [] zs = (ths1, levels1) := e2.symm
    walk_at "s"
    have := k H2 ln1 lv1 lvs1 xs1
    rw [e3] at this
    exact this S2 I2 q2 f2 b2
end Tw

namespace Tw
open PySem L2 Ts
/-! ### the laws' own digits, sizes, parts -/
def N_law_digits : List Str := ["_law_count", "_law_found"]
def t_law_digits (K : PySem.W.Frag) (c : Cs) (E : XK) : TS := (tSeq (tAsg (tC (.int 0)) (gName 1))
  (tSeq (tWhile (tTest (tOp rGt (tVar 0) (tC (.int 0)))) (tSeq (tAsg (tOp rDiv (tVar 0) (tC (.int 2))) (gName 0))
  (tAsg (tOp rAddU (tVar 1) (tC (.int 1))) (gName 1))))
  (tRet (tVar 1))))
def sp_law_digits (_ : PySem.W.Frag) (_ : Cs) : Sp := fun vs H Q _ => ∃ n : Nat, vs = [.int n] ∧ Q (.int (digs n : Nat)) H
theorem len_law_digits {K c} : ∀ vs H Q E, sp_law_digits K c vs H Q E → vs.length = 1 := by rintro vs H Q E ⟨n, rfl, _⟩; rfl
theorem pure_law_digits {K : PySem.W.Frag} {c : Cs} {vs : List V} {H : Hp} {Q : VK} {E : XK} (h : sp_law_digits K c vs H Q E) : t_law_digits K c E ⟨fun _ H' => Q .non H', Q, fun _ _ => False, fun _ _ => False⟩ (start N_law_digits vs) H := by
  obtain ⟨n, rfl, k⟩ := h
  show t_law_digits K c E _ [some (.int n), none] H
  unfold t_law_digits
  walk_at "s"
  refine w_while (fun σ H' => H' = H ∧ ∃ m f : Nat, σ = [some (.int m), some (.int f)] ∧ digs m + f = digs n) (fun σ _ => match σ with | some (.int m) :: _ => m.toNat | _ => 0) ⟨rfl, n, 0, rfl, rfl⟩ ?_
  rintro σ H' ⟨rfl, m, f, rfl, e⟩
  walk_at "s"
  refine ite_d (fun h0 => ?_) fun h0 => ?_
  · refine w_wN ?_
    walk_at "s"
    have h1 : m ≠ 0 := by omega
    rw [digs_pos h1] at e
    refine ⟨⟨rfl, m / 2, f + 1, rfl, by omega⟩, ?_⟩
    show ((m : Int) / 2).toNat < ((m : Int)).toNat
    omega
  · walk_at "s"
    have h1 : m = 0 := by omega
    subst h1
    rw [digs_zero, Nat.zero_add] at e
    rw [e]
    exact k
def N_law_size : List Str := ["_law_height", "_law_size_here", "_law_turn"]
def t_law_size (K : PySem.W.Frag) (c : Cs) (E : XK) : TS := (tSeq (tAsg (tC (.int 1)) (gName 1))
  (tSeq (tFor (iRng1 (tCons (tVar 0) tNil)) (gName 2) (tAsg (tOp rMul (tVar 1) (tC (.int 2))) (gName 1)))
  (tRet (tVar 1))))
def sp_law_size (_ : PySem.W.Frag) (_ : Cs) : Sp := fun vs H Q _ => ∃ h : Nat, vs = [.int h] ∧ h ≤ 60 ∧ Q (.int ((2 ^ h : Nat) : Int)) H
theorem len_law_size {K c} : ∀ vs H Q E, sp_law_size K c vs H Q E → vs.length = 1 := by rintro vs H Q E ⟨n, rfl, _⟩; rfl
theorem pure_law_size {K : PySem.W.Frag} {c : Cs} {vs : List V} {H : Hp} {Q : VK} {E : XK} (h : sp_law_size K c vs H Q E) : t_law_size K c E ⟨fun _ H' => Q .non H', Q, fun _ _ => False, fun _ _ => False⟩ (start N_law_size vs) H := by
  obtain ⟨n, rfl, hn, k⟩ := h
  show t_law_size K c E _ [some (.int n), none, none] H
  unfold t_law_size
  walk_at "s"
  refine w_iR1v (by omega) (by omega) (lb_range0 (fun i σ H' => H' = H ∧ ∃ v, σ = [some (.int n), some (.int ((2 ^ i : Nat) : Int)), v]) ⟨rfl, none, rfl⟩ ?_ ?_)
  · rintro i σ H' hi ⟨rfl, v, rfl⟩
    have hp := pow_small (i := i) (by omega)
    walk_at "s"
    refine ⟨rfl, some (.int (i : Int)), ?_⟩
    congr 4 <;> (rw [Nat.pow_succ]; push_cast; try omega)
  · rintro σ H' ⟨rfl, v, rfl⟩
    walk_at "s"
    have e : ((n : Int)).toNat = n := by omega
    rw [e]
    exact k
def N_law_parted : List Str := ["_law_count", "_law_found", "_law_place", "_law_height"]
def t_law_parted (K : PySem.W.Frag) (c : Cs) (E : XK) : TS := (tSeq (tAsg (tLst tNil) (gName 1))
  (tSeq (tAsg (tC (.int 0)) (gName 2))
  (tSeq (tFor (iRng3 (tCons (tCall (sp_law_digits K c) [] E0 (tCons (tVar 0) tNil)) (tCons (tUn (rU fun i => .int (-i)) (tC (.int 1))) (tCons (tUn (rU fun i => .int (-i)) (tC (.int 1))) tNil)))) (gName 3) (tIfS (tTest (tOp rLe (tOp rAddU (tVar 2) (tCall (sp_law_size K c) [] E0 (tCons (tVar 3) tNil))) (tVar 0))) (tSeq (tDrop (tBM K "list" rAppend (tVar 1) (tCons (tTup (tCons (tVar 3) (tCons (tOp rDiv (tVar 2) (tCall (sp_law_size K c) [] E0 (tCons (tVar 3) tNil))) tNil))) tNil)))
  (tAsg (tOp rAddU (tVar 2) (tCall (sp_law_size K c) [] E0 (tCons (tVar 3) tNil))) (gName 2))) tNext))
  (tRet (tVar 1)))))
def sp_law_parted (K : PySem.W.Frag) (c : Cs) : Sp := sp_parted K c
theorem len_law_parted {K c} : ∀ vs H Q E, sp_law_parted K c vs H Q E → vs.length = 1 := by rintro vs H Q E ⟨n, rfl, _⟩; rfl
theorem pure_law_parted {K : PySem.W.Frag} {c : Cs} {vs : List V} {H : Hp} {Q : VK} {E : XK} (h : sp_law_parted K c vs H Q E) : t_law_parted K c E ⟨fun _ H' => Q .non H', Q, fun _ _ => False, fun _ _ => False⟩ (start N_law_parted vs) H := by
  obtain ⟨n, rfl, hn, k⟩ := h
  show t_law_parted K c E _ [some (.int n), none, none, none] H
  unfold t_law_parted
  walk_at "s"
  refine ⟨Nat.zero_le _, fun p hp => ?_⟩
  walk_at "s"
  have hd : digs n ≤ 29 := digs_le hn
  refine ⟨n, rfl, ?_⟩
  walk_at "s"
  refine w_iR3v (by omega) ?_
  have e1 : ((digs n : Int) - -1).toNat = digs n + 1 := by omega
  have z1 : placeAt n (digs n + 1) = 0 := by
    unfold placeAt
    rw [Nat.div_eq_of_lt (Nat.lt_of_lt_of_le (digs_lt n) (Nat.pow_le_pow_right (by decide) (Nat.le_succ _))), Nat.zero_mul]
  have z2 : ¬ n / 2 ^ digs n % 2 = 1 := by rw [Nat.div_eq_of_lt (digs_lt n)]; decide
  have z3 : partsF n (placeAt n (digs n + 1)) (digs n + 1) = parts n := by rw [parts_skip z2, placeAt_digs]; rfl
  rw [e1]
  refine lb_rangeC (fun i σ H' => ∃ v, σ = [some (.int n), some (.ref p), some (.int (placeAt n (digs n + 1 - i) : Nat)), v] ∧ PartsAt K H H' p n (digs n + 1 - i)) ?_ ?_ ?_
  · refine ⟨none, ?_, hp, ex_new ex_refl hp, [], [], upd_same, .nil, ?_, ?_⟩
    · rw [Nat.sub_zero, z1]; rfl
    · rw [Nat.sub_zero]; exact z3
    · show 0 + _ ≤ 64; omega
  · rintro i σ H' hi ⟨v, rfl, S⟩
    obtain ⟨h, eh⟩ : ∃ h, digs n + 1 - i = h + 1 := ⟨digs n - i, by omega⟩
    have eh2 : (digs n : Int) + (i : Nat) * -1 = (h : Nat) := by omega
    have eh3 : digs n + 1 - (i + 1) = h := by omega
    rw [eh2, eh3]
    rw [eh] at S ⊢
    walk_at "s"
    refine ⟨h, rfl, by omega, ?_⟩
    have hp1 := Nat.two_pow_pos h
    have hp2 : 2 ^ h ≤ 2 ^ 29 := Nat.pow_le_pow_right (by decide) (by omega)
    have hp3 : (2 : Nat) ^ 29 = 536870912 := by decide
    have room := bit_room n h
    have e2 := placeAt_succ n h
    walk_at "s"
    generalize hz : 2 ^ h = z at hp1 hp2 room e2
    refine ite_d (fun h0 => ?_) fun h0 => ?_
    · have hb : n / 2 ^ h % 2 = 1 := by rw [hz]; exact room.mpr (by omega)
      obtain ⟨xs, done, h1, h2, h3, h4⟩ := S.at'
      walk_at "s"
      refine ⟨w_tyL (sql h1), ?_⟩
      walk_at "s"
      refine ⟨h, rfl, by omega, ?_⟩
      rw [hz]
      walk_at "s"
      refine ⟨by show 2 ≤ sizeLine; exact sz100 (by decide), fun t ht => ?_⟩
      have tp : t ≠ p := fun e => by rw [e, h1] at ht; cases ht
      have hl := dpAll_len h2
      rw [List.length_map] at hl
      walk_at "s"
      refine w_app (by rw [upd_ne tp.symm]; exact h1) (szL (by omega)) ?_
      walk_at "s"
      refine ⟨h, rfl, by omega, ?_⟩
      rw [hz]
      walk_at "s"
      rw [hz] at hb
      rw [hb, Nat.one_mul] at e2
      rw [show ((placeAt n (h + 1) : Nat) : Int) + (z : Int) = (placeAt n h : Nat) by omega]
      exact ⟨_, rfl, S.more (by rw [hz]; exact hb) h1 ht (by rw [hz, cast_div])⟩
    · have hb : ¬ n / 2 ^ h % 2 = 1 := by rw [hz]; intro q; exact h0 (by have := room.mp q; omega)
      walk_at "s"
      rw [hz] at hb
      have hb0 : n / z % 2 = 0 := by omega
      rw [hb0, Nat.zero_mul, Nat.add_zero] at e2
      rw [show ((placeAt n (h + 1) : Nat) : Int) = (placeAt n h : Nat) by omega]
      exact ⟨_, rfl, S.skip (by rw [hz]; exact hb)⟩
  · rintro σ H' ⟨v, rfl, S⟩
    rw [Nat.sub_self] at S
    obtain ⟨xs, done, h1, h2, h3, h4⟩ := S.at'
    walk_at "s"
    have e3 : done = parts n := by rw [← h3]; simp [partsF]
    rw [e3] at h2
    exact k H' p xs S.ex hp h1 (dpAll_mono ex_hid h2)
end Tw

namespace Tw
open PySem L2 Ts Mix
/-! ### what the laws draw -/
theorem good_nil : Good "" := by decide +kernel
theorem good_app {a b : Str} (ha : ∀ c ∈ a.cps.toList, c ∈ signs.cps.toList) (hb : ∀ c ∈ b.cps.toList, c ∈ signs.cps.toList) : ∀ c ∈ (a ++ b).cps.toList, c ∈ signs.cps.toList := by
  intro c hc
  have e : (a ++ b).cps.toList = a.cps.toList ++ b.cps.toList := by
    show (a.cps ++ b.cps).toList = _
    simp
  rw [e] at hc
  rcases List.mem_append.mp hc with h | h
  · exact ha c h
  · exact hb c h
theorem len_app {a b : Str} : (a ++ b).length = a.length + b.length := by
  show (a.cps ++ b.cps).size = _
  rw [Array.size_append]; rfl
theorem good_num : ∀ n : Fin 40, (Str.ofString (toString ((n.val : Nat) : Int))).length ≤ 2 ∧ ∀ c ∈ (Str.ofString (toString ((n.val : Nat) : Int))).cps.toList, c ∈ signs.cps.toList := by decide +kernel
theorem goodN {n : Nat} (h : n < 40) : (Str.ofString (toString ((n : Nat) : Int))).length ≤ 2 ∧ ∀ c ∈ (Str.ofString (toString ((n : Nat) : Int))).cps.toList, c ∈ signs.cps.toList := good_num ⟨n, h⟩
theorem good_one {c : Nat} (h : c ∈ signs.cps.toList) : ∀ x ∈ (⟨#[c]⟩ : Str).cps.toList, x ∈ signs.cps.toList := by
  intro x hx
  simp at hx
  rw [hx]; exact h
theorem good_cut {z : Str} {lo hi : Option Int} (h : ∀ c ∈ z.cps.toList, c ∈ signs.cps.toList) : ∀ c ∈ (cutS z lo hi).cps.toList, c ∈ signs.cps.toList := by
  intro c hc
  unfold cutS at hc
  exact h c (List.mem_of_mem_drop (List.mem_of_mem_take (by simpa using hc)))
theorem at_signs {i : Int} (h0 : 0 ≤ i) (h1 : i < 37) : ∃ c, c ∈ signs.cps.toList ∧ atI signs.cps.toList i = some c := by
  have e : (37 : Int) = (signs.cps.toList.length : Nat) := by decide +kernel
  exact atI_lt h0 (by rw [← e]; exact h1)
def N_law_mix : List Str := ["_law_number", "_law_k", "_law_more"]
def t_law_mix (K : PySem.W.Frag) (c : Cs) (E : XK) : TS := (tSeq (tAsg (tOp rMod (tOp rAddU (tOp rAddU (tOp rMul (tVar 0) (tC (.int 48271))) (tOp rMul (tVar 1) (tC (.int 69621)))) (tC (.int 11))) (tC (.int 1000003))) (gName 2))
  (tRet (tOp rMod (tOp rAddU (tOp rAddU (tOp rMul (tVar 2) (tVar 2)) (tOp rMul (tC (.int 7)) (tVar 2))) (tVar 1)) (tC (.int 999983)))))
def sp_law_mix (K : PySem.W.Frag) (_ : Cs) : Sp := fun vs H Q _ => ∃ n k : Int, vs = [.int n, .int k] ∧ ∀ r : Nat, r < 999983 → Q (.int (r : Nat)) H
theorem len_law_mix {K c} : ∀ vs H Q E, sp_law_mix K c vs H Q E → vs.length = 2 := by rintro vs H Q E ⟨_, _, rfl, _⟩; rfl
theorem pure_law_mix {K : PySem.W.Frag} {c : Cs} {vs : List V} {H : Hp} {Q : VK} {E : XK} (h : sp_law_mix K c vs H Q E) : t_law_mix K c E ⟨fun _ H' => Q .non H', Q, fun _ _ => False, fun _ _ => False⟩ (start N_law_mix vs) H := by
  obtain ⟨n, k, rfl, q⟩ := h
  show t_law_mix K c E _ [some (.int n), some (.int k), none] H
  unfold t_law_mix
  walk_at "s"
  have h1 := Int.emod_nonneg (n * 48271 + k * 69621 + 11) (show (1000003 : Int) ≠ 0 by decide)
  have h2 := Int.emod_lt_of_pos (n * 48271 + k * 69621 + 11) (show (0 : Int) < 1000003 by decide)
  generalize (n * 48271 + k * 69621 + 11) % 1000003 = m at h1 h2
  obtain ⟨r, hr⟩ := Int.eq_ofNat_of_zero_le (a := (m * m + 7 * m + k) % 999983) (Int.emod_nonneg _ (by decide))
  have h3 := Int.emod_lt_of_pos (m * m + 7 * m + k) (show (0 : Int) < 999983 by decide)
  rw [hr] at h3 ⊢
  exact q r (by omega)
def N_law_text : List Str := ["_law_cell", "_law_signs", "_law_many", "_law_text_here", "_law_k"]
def t_law_text (K : PySem.W.Frag) (c : Cs) (E : XK) : TS := (tSeq (tAsg (tC (.str "abcdefghijklmnopqrstuvwxyz0123456789 ")) (gName 1))
  (tSeq (tAsg (tOp rMod (tVar 0) (tC (.int 9))) (gName 2))
  (tSeq (tIfS (tTest (tOp (rEqU K) (tOp rMod (tOp rDiv (tVar 0) (tC (.int 9))) (tC (.int 6))) (tC (.int 2)))) (tRet (tOp rAddU (tOp rAddU (tCB rStr1 (tCons (tOp rMod (tOp rDiv (tVar 0) (tC (.int 54))) (tC (.int 40))) tNil)) (tOp (rIx K) (tLst (tCons (tC (.str " ")) (tCons (tC (.str "")) tNil))) (tOp rMod (tOp rDiv (tVar 0) (tC (.int 2160))) (tC (.int 2))))) (tCB rStr1 (tCons (tOp rMod (tOp rDiv (tVar 0) (tC (.int 4320))) (tC (.int 40))) tNil)))) tNext)
  (Evl.tCut (tIfS (tTest (tOp (rEqU K) (tOp rMod (tOp rDiv (tVar 0) (tC (.int 9))) (tC (.int 6))) (tC (.int 1)))) (tAsg (tOp (rIx K) (tLst (tCons (tC (.int 40)) (tCons (tC (.int 39)) (tCons (tC (.int 0)) (tCons (tC (.int 1)) tNil))))) (tOp rMod (tOp rDiv (tVar 0) (tC (.int 54))) (tC (.int 4)))) (gName 2)) tNext)
  (tSeq (tAsg (tC (.str "")) (gName 3))
  (tSeq (tFor (iRng1 (tCons (tVar 2) tNil)) (gName 4) (tAsg (tOp rAddU (tVar 3) (tOp (rIx K) (tVar 1) (tOp rMod (tOp rDiv (tCall (sp_law_mix K c) [] E0 (tCons (tVar 0) (tCons (tVar 4) tNil))) (tC (.int 7))) (tC (.int 37))))) (gName 3)))
  (tRet (tVar 3))))))))
def sp_law_text (K : PySem.W.Frag) (_ : Cs) : Sp := fun vs H Q _ => ∃ n : Int, vs = [.int n] ∧ ∀ (z : Str) H', Good z → Ex H H' → Q (.str z) H'
theorem len_law_text {K c} : ∀ vs H Q E, sp_law_text K c vs H Q E → vs.length = 1 := by rintro vs H Q E ⟨_, rfl, _⟩; rfl
theorem pure_law_text {K : PySem.W.Frag} {c : Cs} {vs : List V} {H : Hp} {Q : VK} {E : XK} (h : sp_law_text K c vs H Q E) : t_law_text K c E ⟨fun _ H' => Q .non H', Q, fun _ _ => False, fun _ _ => False⟩ (start N_law_text vs) H := by
  obtain ⟨n, rfl, q⟩ := h
  show t_law_text K c E _ [some (.int n), none, none, none, none] H
  unfold t_law_text
  walk_at "s"
  refine ite_d (fun h0 => ?_) fun h0 => ?_
  · walk_at "s"
    obtain ⟨i, hi⟩ := Int.eq_ofNat_of_zero_le (a := n / 54 % 40) (by omega)
    obtain ⟨j, hj⟩ := Int.eq_ofNat_of_zero_le (a := n / 4320 % 40) (by omega)
    rw [hi]
    have g1 := goodN (n := i) (by omega)
    have g2 := goodN (n := j) (by omega)
    refine w_str (Nat.lt_of_le_of_lt (Nat.log2_le_self _) (by omega)) ?_
    walk_at "s"
    refine ⟨by show 2 ≤ sizeLine; exact sz100 (by decide), fun p hp => ?_⟩
    walk_at "s"
    refine w_ixAny (sql upd_same) (by omega) (by show _ < ((2 : Nat) : Int); omega) fun v hv => ?_
    obtain ⟨y, rfl, g3, g4⟩ : ∃ y : Str, v = .str y ∧ y.length ≤ 1 ∧ ∀ c ∈ y.cps.toList, c ∈ signs.cps.toList := by
      rcases List.mem_cons.mp hv with e | hv
      · exact ⟨_, e, by decide +kernel, by decide +kernel⟩
      · exact ⟨_, List.mem_singleton.mp hv, by decide +kernel, by decide +kernel⟩
    walk_at "s"
    refine w_addS (szM (by have := g1.1; omega)) ?_
    walk_at "s"
    rw [hj]
    refine w_str (Nat.lt_of_le_of_lt (Nat.log2_le_self _) (by omega)) ?_
    have l1 := g1.1
    have l2 := g2.1
    have l3 : (toString ((i : Nat) : Int) ++ y : Str).length ≤ 3 := by rw [len_app]; omega
    refine w_addS (szM (by omega)) ?_
    exact q _ _ ⟨by rw [len_app]; omega, good_app (good_app g1.2 g4) g2.2⟩ (ex_new ex_refl hp)
  walk_at "s"
  refine w_cut (Mid := fun σ' H' => Ex H H' ∧ ∃ m : Nat, m ≤ 40 ∧ σ' = [some (.int n), some (.str signs), some (.int (m : Nat)), none, none]) ?_ ?_
  · walk_at "s"
    refine ite_d (fun h1 => ?_) fun h1 => ?_
    · walk_at "s"
      refine ⟨by show 4 ≤ sizeLine; exact sz100 (by decide), fun p hp => ?_⟩
      walk_at "s"
      refine w_ixAny (sql upd_same) (by omega) (by show _ < ((4 : Nat) : Int); omega) fun v hv => ?_
      walk_at "s"
      simp only [List.mem_cons, List.not_mem_nil, or_false] at hv
      rcases hv with rfl | rfl | rfl | rfl
      · exact ⟨ex_new ex_refl hp, 40, by decide, rfl⟩
      · exact ⟨ex_new ex_refl hp, 39, by decide, rfl⟩
      · exact ⟨ex_new ex_refl hp, 0, by decide, rfl⟩
      · exact ⟨ex_new ex_refl hp, 1, by decide, rfl⟩
    · walk_at "s"
      obtain ⟨m, e⟩ := Int.eq_ofNat_of_zero_le (a := n % 9) (by omega)
      rw [e]
      exact ⟨ex_refl, m, by omega, rfl⟩
  rintro σ H1 ⟨ex1, m, hm, rfl⟩
  walk_at "s"
  refine w_iR1v (by omega) (by omega) ?_
  rw [Int.toNat_natCast]
  refine lb_range0 (fun i σ H' => Ex H H' ∧ ∃ (z : Str) (v : Option V), z.length = i ∧ (∀ c ∈ z.cps.toList, c ∈ signs.cps.toList) ∧ σ = [some (.int n), some (.str signs), some (.int (m : Nat)), some (.str z), v]) ⟨ex1, _, _, rfl, good_nil.2, rfl⟩ ?_ ?_
  · rintro i σ H2 hi ⟨ex2, z, v, hz, hg, rfl⟩
    walk_at "s"
    refine ⟨n, i, rfl, fun r hr => ?_⟩
    walk_at "s"
    obtain ⟨ch, hc, ec⟩ := at_signs (i := (r : Nat) / 7 % 37) (by omega) (by omega)
    refine w_ixS (by decide +kernel) ec ?_
    have l1 : (⟨#[ch]⟩ : Str).length = 1 := rfl
    refine w_addS (szM (by omega)) ?_
    walk_at "s"
    exact ⟨ex2, _, _, by rw [len_app, hz, l1], good_app hg (good_one hc), rfl⟩
  · rintro σ H2 ⟨ex2, z, v, hz, hg, rfl⟩
    walk_at "s"
    exact q z _ ⟨by omega, hg⟩ ex2
theorem cut_hi {z : Str} {k : Nat} (h : k ≤ z.length) : (cutS z none (some (k : Int))).length = k := by
  unfold cutS
  rw [HT.sIx_none, HT.sIx_nat, List.drop_zero, Nat.sub_zero]
  show (List.toArray _).size = k
  rw [List.size_toArray, List.length_take]
  show min (min k z.length) z.cps.toList.length = k
  rw [Array.length_toList]
  show min (min k z.length) z.length = k
  omega
theorem cut_lo {z : Str} {k : Nat} (h : k ≤ z.length) : (cutS z (some (k : Int)) none).length = z.length - k := by
  unfold cutS
  rw [HT.sIx_none, HT.sIx_nat]
  show (List.toArray _).size = _
  rw [List.size_toArray, List.length_take, List.length_drop]
  show min (z.length - min k z.length) (z.cps.toList.length - min k z.length) = z.length - k
  rw [Array.length_toList]
  show min (z.length - min k z.length) (z.length - min k z.length) = z.length - k
  omega
def N_law_near : List Str := ["_law_text_here", "_law_cell", "_law_at", "_law_sign"]
def t_law_near (K : PySem.W.Frag) (c : Cs) (E : XK) : TS := (tSeq (tAsg (tOp rMod (tVar 1) (tOp rAddU (tC (.int 1)) (tCB (Ts.rLen K) (tCons (tVar 0) tNil)))) (gName 2))
  (tSeq (tAsg (tOp (rIx K) (tC (.str "abcdefghijklmnopqrstuvwxyz0123456789 ")) (tOp rMod (tOp rDiv (tVar 1) (tC (.int 41))) (tC (.int 37)))) (gName 3))
  (tSeq (tIfS (tAnd (tTest (tOp rLt (tVar 2) (tCB (Ts.rLen K) (tCons (tVar 0) tNil)))) (tTest (tOp (rNeU K) (tOp (rIx K) (tVar 0) (tVar 2)) (tVar 3)))) (tRet (tOp rAddU (tOp rAddU (tSl (rSlU K) (tVar 0) tNoPart (tPart (tVar 2))) (tVar 3)) (tSl (rSlU K) (tVar 0) (tPart (tOp rAddU (tVar 2) (tC (.int 1)))) tNoPart))) tNext)
  (tSeq (tIfS (tTest (tOp rLt (tCB (Ts.rLen K) (tCons (tVar 0) tNil)) (tC (.int 40)))) (tRet (tOp rAddU (tOp rAddU (tSl (rSlU K) (tVar 0) tNoPart (tPart (tVar 2))) (tVar 3)) (tSl (rSlU K) (tVar 0) (tPart (tVar 2)) tNoPart))) tNext)
  (tRet (tSl (rSlU K) (tVar 0) (tPart (tC (.int 1))) tNoPart))))))
def sp_law_near (K : PySem.W.Frag) (_ : Cs) : Sp := fun vs H Q _ => ∃ (y : Str) (n : Int), vs = [.str y, .int n] ∧ Good y ∧ ∀ (z : Str), Good z → Q (.str z) H
theorem len_law_near {K c} : ∀ vs H Q E, sp_law_near K c vs H Q E → vs.length = 2 := by rintro vs H Q E ⟨_, _, rfl, _⟩; rfl
theorem pure_law_near {K : PySem.W.Frag} {c : Cs} {vs : List V} {H : Hp} {Q : VK} {E : XK} (h : sp_law_near K c vs H Q E) : t_law_near K c E ⟨fun _ H' => Q .non H', Q, fun _ _ => False, fun _ _ => False⟩ (start N_law_near vs) H := by
  obtain ⟨y, n, rfl, hy, q⟩ := h
  show t_law_near K c E _ [some (.str y), some (.int n), none, none] H
  unfold t_law_near
  have hl := hy.1
  walk_at "s"
  refine w_lenS (good_len hy) ?_
  walk_at "s"
  obtain ⟨k, hk⟩ := Int.eq_ofNat_of_zero_le (a := n % (1 + (y.length : Nat))) (Int.emod_nonneg _ (by omega))
  have hk2 := Int.emod_lt_of_pos n (show (0 : Int) < 1 + (y.length : Nat) by omega)
  rw [hk] at hk2 ⊢
  have hk3 : k ≤ y.length := by omega
  walk_at "s"
  obtain ⟨ch, hc, ec⟩ := at_signs (i := n / 41 % 37) (by omega) (by omega)
  refine w_ixS (by decide +kernel) ec ?_
  have l1 : (⟨#[ch]⟩ : Str).length = 1 := rfl
  walk_at "s"
  refine w_lenS (good_len hy) ?_
  walk_at "s"
  have l2 := cut_hi hk3
  have rest : tSeq (tIfS (tTest (tOp rLt (tCB (Ts.rLen K) (tCons (tVar 0) tNil)) (tC (.int 40)))) (tRet (tOp rAddU (tOp rAddU (tSl (rSlU K) (tVar 0) tNoPart (tPart (tVar 2))) (tVar 3)) (tSl (rSlU K) (tVar 0) (tPart (tVar 2)) tNoPart))) tNext)
      (tRet (tSl (rSlU K) (tVar 0) (tPart (tC (.int 1))) tNoPart)) ⟨fun _ H' => Q .non H', Q, fun _ _ => False, fun _ _ => False⟩ [some (.str y), some (.int n), some (.int (k : Nat)), some (.str ⟨#[ch]⟩)] H := by
    walk_at "s"
    refine w_lenS (good_len hy) ?_
    walk_at "s"
    refine ite_d (fun h0 => ?_) fun h0 => ?_
    · walk_at "s"
      refine w_slS (good_len hy) ?_
      walk_at "s"
      refine w_addS (szM (by omega)) ?_
      walk_at "s"
      refine w_slS (good_len hy) ?_
      have l3 := cut_lo hk3
      refine w_addS (szM (by rw [len_app]; omega)) ?_
      exact q _ ⟨by rw [len_app, len_app]; omega, good_app (good_app (good_cut hy.2) (good_one hc)) (good_cut hy.2)⟩
    · walk_at "s"
      refine w_slS (good_len hy) ?_
      exact q _ ⟨Nat.le_trans (cutS_length _ _ _) hl, good_cut hy.2⟩
  refine ite_d (fun h0 => ?_) fun h0 => ?_
  · have hk4 : k < y.length := by omega
    obtain ⟨d, hd⟩ : ∃ d, y.cps.toList[k]? = some d := ⟨_, List.getElem?_eq_getElem (by rw [Array.length_toList]; exact hk4)⟩
    walk_at "s"
    refine w_ixS (good_len hy) (atI_nat hd) ?_
    walk_at "s"
    refine ite_nd (fun h1 => ?_) fun h1 => ?_
    · walk_at "s"
      refine w_slS (good_len hy) ?_
      walk_at "s"
      refine w_addS (szM (by omega)) ?_
      walk_at "s"
      refine w_slS (good_len hy) ?_
      have l3 := cut_lo (z := y) (k := k + 1) hk4
      rw [show ((k : Nat) : Int) + 1 = ((k + 1 : Nat) : Int) by push_cast; rfl]
      refine w_addS (szM (by rw [len_app]; omega)) ?_
      exact q _ ⟨by rw [len_app, len_app]; omega, good_app (good_app (good_cut hy.2) (good_one hc)) (good_cut hy.2)⟩
    · exact rest
  · exact rest
def N_law_room : List Str := ["_law_script", "_law_small", "_law_great"]
def t_law_room (K : PySem.W.Frag) (c : Cs) (E : XK) : TS := (tSeq (tIfS (tTest (tOp rGt (tCB (Ts.rLen K) (tCons (tVar 0) tNil)) (tC (.int 63)))) (tRet (tVar 2)) tNext)
  (tRet (tVar 1)))
def sp_law_room (K : PySem.W.Frag) (_ : Cs) : Sp := fun vs H Q _ => ∃ (a : Addr) (ns : List Int) (i j : Nat), vs = [.ref a, .int i, .int j] ∧ SqL K H a (ns.map V.int) ∧ ∀ r : Nat, r ≤ max i j → Q (.int (r : Nat)) H
theorem len_law_room {K c} : ∀ vs H Q E, sp_law_room K c vs H Q E → vs.length = 3 := by rintro vs H Q E ⟨_, _, _, _, rfl, _⟩; rfl
theorem pure_law_room {K : PySem.W.Frag} {c : Cs} {vs : List V} {H : Hp} {Q : VK} {E : XK} (h : sp_law_room K c vs H Q E) : t_law_room K c E ⟨fun _ H' => Q .non H', Q, fun _ _ => False, fun _ _ => False⟩ (start N_law_room vs) H := by
  obtain ⟨a, ns, i, j, rfl, hs, q⟩ := h
  show t_law_room K c E _ [some (.ref a), some (.int (i : Nat)), some (.int (j : Nat))] H
  unfold t_law_room
  walk_at "s"
  refine w_lenL hs ?_
  walk_at "s"
  refine ite_d (fun h0 => ?_) fun h0 => ?_
  · walk_at "s"
    exact q j (Nat.le_max_right _ _)
  · walk_at "s"
    exact q i (Nat.le_max_left _ _)
end Tw

namespace Tw
open PySem L2 Ts Mix
/-- a list of rows, made anew -/
structure NewRows (H H' : Hp) (a : Addr) (zs : List Str) : Prop where
  new : H a = none
  at' : H' a = some (.lst (zs.map V.str))
  ex : Ex H H'
  good : ∀ z ∈ zs, Good z
theorem good_snoc {zs : List Str} {z : Str} (h : ∀ z ∈ zs, Good z) (hz : Good z) : ∀ x ∈ zs ++ [z], Good x := fun x hx => by
  rcases List.mem_append.mp hx with q | q
  · exact h x q
  · rw [List.mem_singleton.mp q]; exact hz
theorem map_snoc (zs : List Str) (z : Str) : zs.map V.str ++ [.str z] = (zs ++ [z]).map V.str := by rw [List.map_append]; rfl
def N_law_rows : List Str := ["_law_cell", "_law_more", "_law_many", "_law_kinds", "_law_rows_here", "_law_k"]
def t_law_rows (K : PySem.W.Frag) (c : Cs) (E : XK) : TS := (tSeq (tAsg (tOp rMod (tVar 0) (tC (.int 21))) (gName 2))
  (Evl.tCut (tIfS (tTest (tOp (rEqU K) (tOp rMod (tOp rDiv (tVar 0) (tC (.int 21))) (tC (.int 8))) (tC (.int 1)))) (tAsg (tOp (rIx K) (tLst (tCons (tC (.int 16)) (tCons (tC (.int 17)) (tCons (tC (.int 31)) (tCons (tC (.int 32)) (tCons (tC (.int 33)) (tCons (tC (.int 64)) (tCons (tC (.int 63)) (tCons (tC (.int 100)) (tCons (tC (.int 128)) (tCons (tC (.int 200)) (tCons (tC (.int 600)) (tCons (tC (.int 900)) tNil))))))))))))) (tOp rMod (tOp rDiv (tVar 0) (tC (.int 168))) (tC (.int 12)))) (gName 2)) tNext)
  (tSeq (tAsg (tOp rAddU (tC (.int 1)) (tOp rMod (tVar 1) (tC (.int 5)))) (gName 3))
  (tSeq (tAsg (tLst tNil) (gName 4))
  (tSeq (tFor (iRng1 (tCons (tVar 2) tNil)) (gName 5) (tDrop (tBM K "list" rAppend (tVar 4) (tCons (tCall (sp_law_text K c) [] E0 (tCons (tOp rMod (tOp rDiv (tCall (sp_law_mix K c) [] E0 (tCons (tVar 1) (tCons (tVar 5) tNil))) (tC (.int 3))) (tOp (rIx K) (tLst (tCons (tVar 3) (tCons (tC (.int 99991)) tNil))) (tOp rDiv (tOp rMod (tVar 5) (tC (.int 3))) (tC (.int 2))))) tNil)) tNil))))
  (tRet (tVar 4)))))))
def sp_law_rows (K : PySem.W.Frag) (_ : Cs) : Sp := fun vs H Q _ => ∃ n m : Int, vs = [.int n, .int m] ∧ ∀ a zs H', NewRows H H' a zs → zs.length ≤ 900 → Q (.ref a) H'
theorem len_law_rows {K c} : ∀ vs H Q E, sp_law_rows K c vs H Q E → vs.length = 2 := by rintro vs H Q E ⟨_, _, rfl, _⟩; rfl
theorem pure_law_rows {K : PySem.W.Frag} {c : Cs} {vs : List V} {H : Hp} {Q : VK} {E : XK} (h : sp_law_rows K c vs H Q E) : t_law_rows K c E ⟨fun _ H' => Q .non H', Q, fun _ _ => False, fun _ _ => False⟩ (start N_law_rows vs) H := by
  obtain ⟨n, m, rfl, q⟩ := h
  show t_law_rows K c E _ [some (.int n), some (.int m), none, none, none, none] H
  unfold t_law_rows
  walk_at "s"
  refine w_cut (Mid := fun σ' H' => Ex H H' ∧ ∃ k : Nat, k ≤ 900 ∧ σ' = [some (.int n), some (.int m), some (.int (k : Nat)), none, none, none]) ?_ ?_
  · walk_at "s"
    refine ite_d (fun h1 => ?_) fun h1 => ?_
    · walk_at "s"
      refine ⟨by show 12 ≤ sizeLine; exact sz100 (by decide), fun p hp => ?_⟩
      walk_at "s"
      refine w_ixAny (sql upd_same) (by omega) (by show _ < ((12 : Nat) : Int); omega) fun v hv => ?_
      walk_at "s"
      simp only [List.mem_cons, List.not_mem_nil, or_false] at hv
      obtain ⟨k, hk, rfl⟩ : ∃ k : Nat, k ≤ 900 ∧ v = .int (k : Nat) := by
        rcases hv with rfl | rfl | rfl | rfl | rfl | rfl | rfl | rfl | rfl | rfl | rfl | rfl
        · exact ⟨16, by decide, rfl⟩
        · exact ⟨17, by decide, rfl⟩
        · exact ⟨31, by decide, rfl⟩
        · exact ⟨32, by decide, rfl⟩
        · exact ⟨33, by decide, rfl⟩
        · exact ⟨64, by decide, rfl⟩
        · exact ⟨63, by decide, rfl⟩
        · exact ⟨100, by decide, rfl⟩
        · exact ⟨128, by decide, rfl⟩
        · exact ⟨200, by decide, rfl⟩
        · exact ⟨600, by decide, rfl⟩
        · exact ⟨900, by decide, rfl⟩
      exact ⟨ex_new ex_refl hp, k, hk, rfl⟩
    · walk_at "s"
      obtain ⟨k, e⟩ := Int.eq_ofNat_of_zero_le (a := n % 21) (by omega)
      rw [e]
      exact ⟨ex_refl, k, by omega, rfl⟩
  rintro σ H1 ⟨ex1, k, hk, rfl⟩
  walk_at "s"
  refine ⟨Nat.zero_le _, fun a ha => ?_⟩
  walk_at "s"
  have fa : H a = none := ex_free ex1 ha
  refine w_iR1v (by omega) (by omega) ?_
  rw [Int.toNat_natCast]
  refine lb_range0 (fun i σ H' => ∃ (zs : List Str) (v : Option V), zs.length = i ∧ NewRows H H' a zs ∧ σ = [some (.int n), some (.int m), some (.int (k : Nat)), some (.int (1 + m % 5)), some (.ref a), v]) ⟨[], _, rfl, ⟨fa, upd_same, ex_mut ex1 fa, fun z hz => nomatch hz⟩, rfl⟩ ?_ ?_
  · rintro i σ H2 hi ⟨zs, v, hz, S, rfl⟩
    walk_at "s"
    refine ⟨w_tyL (sql S.at'), ?_⟩
    walk_at "s"
    refine ⟨m, i, rfl, fun r hr => ?_⟩
    walk_at "s"
    refine ⟨by show 2 ≤ sizeLine; exact sz100 (by decide), fun p hp => ?_⟩
    walk_at "s"
    have np : a ≠ p := ne_of_none S.at' hp
    refine w_ixAny (sql upd_same) (by omega) (by show _ < ((2 : Nat) : Int); omega) fun v hv => ?_
    obtain ⟨j, hj, rfl⟩ : ∃ j : Int, 0 < j ∧ v = .int j := by
      rcases List.mem_cons.mp hv with e | hv
      · exact ⟨_, by omega, e⟩
      · exact ⟨_, by decide, List.mem_singleton.mp hv⟩
    refine w_mod hj ?_
    walk_at "s"
    refine ⟨_, rfl, fun z H3 gz ex3 => ?_⟩
    walk_at "s"
    have a3 : H3 a = some (.lst (zs.map V.str)) := ex3 _ _ (by rw [upd_ne np]; exact S.at')
    refine w_app a3 (by rw [List.length_map]; exact szL (by omega)) ?_
    refine ⟨zs ++ [z], _, by simp [hz], ⟨S.new, by rw [upd_same, map_snoc], ?_, good_snoc S.good gz⟩, rfl⟩
    exact ex_mut ((ex_new S.ex hp).trans ex3) S.new
  · rintro σ H2 ⟨zs, v, hz, S, rfl⟩
    walk_at "s"
    exact q a zs H2 S (by omega)
end Tw

namespace Tw
open PySem L2 Ts Mix
/-- a book, its rows kept beside in the list a -/
structure Bk (c : Cs) (H : Hp) (L d l : Addr) (ths : List MK) (B ln lv : Addr) (lvs : List Addr) (a : Addr) (rows : List Str) (levels : List (List Nat)) : Prop where
  ba : BookAt c H B L ln lv lvs rows levels
  iv : BookInv ths rows levels
  kept : H a = some (.lst (rows.map V.str))
  nd : (a :: d :: l :: ln :: lv :: lvs).Nodup
  good : ∀ z ∈ rows, Good z
section
variable {K : PySem.W.Frag} {c : Cs} {H H' : Hp} {B L d l ln lv a : Addr} {lvs lvs' : List Addr} {ths ths' : List MK} {xs xs' : List V} {rows rows' : List Str} {levels levels' : List (List Nat)}
theorem Bk.bs (b : Bk c H L d l ths B ln lv lvs a rows levels) (L1 : LedgerAt c H L d l ths xs) : BS c H B L d l ln lv lvs ths xs rows levels := ⟨L1, b.ba, (List.nodup_cons.mp b.nd).2⟩
theorem Bk.na (b : Bk c H L d l ths B ln lv lvs a rows levels) : a ∉ fpS d l ln lv lvs := (List.nodup_cons.mp b.nd).1
theorem Bk.nB (b : Bk c H L d l ths B ln lv lvs a rows levels) : B ≠ a := by
  obtain ⟨dx, h⟩ := b.ba.ob
  exact ne_of h b.kept fun z => nomatch z
/-- behind a deed the rows beside are kept anew -/
theorem Bk.step (T : TxK K c) (b : Bk c H L d l ths B ln lv lvs a rows levels) (S' : BS c H' B L d l ln lv lvs' ths' xs' rows' levels') (I' : BookInv ths' rows' levels') (w : Wider H lvs lvs') (k : Kp (fpS d l ln lv lvs) H H') (g : ∀ z ∈ rows', Good z) :
    H' a = some (.lst (rows.map V.str)) ∧ LedgerAt c (upd H' a (.lst (rows'.map V.str))) L d l ths' xs' ∧ Bk c (upd H' a (.lst (rows'.map V.str))) L d l ths' B ln lv lvs' a rows' levels' ∧ Kp (a :: fpS d l ln lv lvs) H (upd H' a (.lst (rows'.map V.str))) := by
  have na := b.na
  have ha := k _ _ b.kept na
  have k1 : Kp [a] H' (upd H' a (.lst (rows'.map V.str))) := Kp.refl.set (by simp)
  have na2 : a ∉ fpS d l ln lv lvs' := fun hx => by
    rcases List.mem_cons.mp hx with e | hx
    · exact na (by rw [e]; simp)
    rcases List.mem_cons.mp hx with e | hx
    · exact na (by rw [e]; simp)
    rcases List.mem_cons.mp hx with e | hx
    · exact na (by rw [e]; simp)
    rcases List.mem_cons.mp hx with e | hx
    · exact na (by rw [e]; simp)
    rcases w.2 a hx with r | r
    · exact na (by simp [r])
    · rw [b.kept] at r; cases r
  refine ⟨ha, S'.la.kp T k1 fun x hx => ?_, ⟨S'.ba.kp k1 (fun x hx => ?_) ?_, I', upd_same, List.nodup_cons.mpr ⟨na2, S'.nd⟩, g⟩, (k.mono fun x hx => List.mem_cons_of_mem _ hx).set List.mem_cons_self⟩
  · rw [List.mem_singleton.mp hx]
    refine ⟨fun e => na2 (by rw [e]; simp), fun e => na2 (by rw [e]; simp), fun o ho => ?_⟩
    rw [ha] at ho
    cases ho
    exact ⟨_, rfl⟩
  · rw [List.mem_singleton.mp hx]
    exact fun z => na2 (List.mem_cons_of_mem _ (List.mem_cons_of_mem _ z))
  · intro hx
    exact b.nB (List.mem_singleton.mp hx)
/-- a book that the change does not touch -/
theorem Bk.kp {S : List Addr} (b : Bk c H L d l ths B ln lv lvs a rows levels) (k : Kp S H H') (p : ths <+: ths') (h : ∀ x ∈ S, x ∉ a :: ln :: lv :: lvs) (hB : B ∉ S) : Bk c H' L d l ths' B ln lv lvs a rows levels :=
  ⟨b.ba.kp k (fun x hx z => h x hx (List.mem_cons_of_mem _ z)) hB, b.iv.mono p, k _ _ b.kept fun z => h _ z List.mem_cons_self, b.nd, b.good⟩
theorem Bk.ex (b : Bk c H L d l ths B ln lv lvs a rows levels) (e : Ex H H') : Bk c H' L d l ths B ln lv lvs a rows levels :=
  ⟨b.ba.ex e, b.iv, e _ _ b.kept, b.nd, b.good⟩
/-- B is no list, no dict -/
theorem Bk.notB (T : TxK K c) (b : Bk c H L d l ths B ln lv lvs a rows levels) (L1 : LedgerAt c H L d l ths xs) {S : List Addr} (h : ∀ x ∈ S, (∃ ys, H x = some (.lst ys)) ∨ x = d) : B ∉ S := fun hx => by
  obtain ⟨dx, hb⟩ := b.ba.ob
  rcases h B hx with ⟨ys, e⟩ | e
  · rw [hb] at e; cases e
  · obtain ⟨φ, e2⟩ := T.md d (ents 0 ths xs)
    have := L1.dc
    rw [← e, hb] at this
    rw [← e] at e2
    rw [e2] at this
    cases this
theorem Bk.lists (b : Bk c H L d l ths B ln lv lvs a rows levels) : ∀ x ∈ a :: ln :: lv :: lvs, ∃ ys, H x = some (.lst ys) := fun x hx => by
  rcases List.mem_cons.mp hx with e | hx
  · rw [e]; exact ⟨_, b.kept⟩
  · exact b.ba.fp x hx
theorem wider_refl : Wider H lvs lvs := ⟨List.prefix_refl _, fun _ h => .inl h⟩
end
/-- what a deed that the law does brings: the book has other rows, kept beside -/
def Deed (c : Cs) (H H' : Hp) (L d l : Addr) (ths : List MK) (B ln lv : Addr) (lvs : List Addr) (a : Addr) (n : Nat) : Prop :=
  ∃ (lvs' : List Addr) (ths' : List MK) (xs' : List V) (rows' : List Str) (levels' : List (List Nat)), LedgerAt c H' L d l ths' xs' ∧ Bk c H' L d l ths' B ln lv lvs' a rows' levels' ∧ Kp (a :: fpS d l ln lv lvs) H H' ∧ Wider H lvs lvs' ∧
    ths <+: ths' ∧ ths'.length ≤ ths.length + 18 ∧ rows'.length ≤ n + 1
theorem deed_ex {c : Cs} {H H1 H' : Hp} {L d l : Addr} {ths : List MK} {B ln lv : Addr} {lvs : List Addr} {a : Addr} {n : Nat} (e : Ex H H1) (D : Deed c H1 H' L d l ths B ln lv lvs a n) : Deed c H H' L d l ths B ln lv lvs a n := by
  obtain ⟨lvs', ths', xs', rows', levels', h1, h2, h3, h4, h5⟩ := D
  refine ⟨lvs', ths', xs', rows', levels', h1, h2, (Kp.of_ex e).trans h3, ⟨h4.1, fun x hx => ?_⟩, h5⟩
  rcases h4.2 x hx with r | r
  · exact .inl r
  · refine .inr ?_
    cases q : H x with
    | none => rfl
    | some o => rw [e _ _ q] at r; cases r
section
variable {K : PySem.W.Frag} {c : Cs} {H : Hp} {B L d l ln lv a : Addr} {lvs : List Addr} {ths : List MK} {xs : List V} {rows : List Str} {levels : List (List Nat)} {Q : Hp → Prop} {E : XK}
/-- a row put, and kept beside -/
theorem deed_put (T : TxK K c) (L1 : LedgerAt c H L d l ths xs) (b : Bk c H L d l ths B ln lv lvs a rows levels) (hr : rows.length ≤ 1000) (hz : ths.length < 800000) {place : Nat} {z : Str} (hp : place < rows.length) (hg : Good z)
    (q : ∀ H', H' a = some (.lst (rows.map V.str)) → Deed c H (upd H' a (.lst ((rows.map V.str).set place (.str z)))) L d l ths B ln lv lvs a rows.length → Q H') :
    sp_Book_put K c [.ref B, .int (place : Nat), .str z] H (fun _ H' => Q H') E := by
  refine ⟨B, L, d, l, ln, lv, lvs, ths, xs, rows, levels, _, _, true, rfl, b.bs L1, b.iv, .inl ⟨_, rfl, rfl⟩, rowV_good hg, by omega, by omega, fun n => absurd ⟨place, rfl, hp⟩ n, fun _ n => absurd ⟨z, rfl, hg⟩ n, ?_⟩
  intro place' z' e1 e2 _ _ H' xs' S' I' bc k
  have e1 : place' = place := by have := V.int.inj e1; omega
  cases e2
  subst e1
  obtain ⟨h1, h2, h3, h4⟩ := b.step T S' I' wider_refl k fun x hx => by
    rcases List.mem_or_eq_of_mem_set hx with r | r
    · exact b.good x r
    · rw [r]; exact hg
  have low := bc.low (by omega)
  have gl := putM_len (ths := ths) (levels := levels) (place := place') (z := z)
  refine q H' h1 ?_
  rw [List.map_set] at h2 h3 h4
  exact ⟨lvs, _, xs', _, _, h2, h3, h4, wider_refl, putM_pre, by omega, by rw [List.length_set]; omega⟩
theorem deed_add (T : TxK K c) (L1 : LedgerAt c H L d l ths xs) (b : Bk c H L d l ths B ln lv lvs a rows levels) (hr : rows.length ≤ 1000) (hz : ths.length < 800000) {z : Str} (hg : Good z)
    (q : ∀ H', H' a = some (.lst (rows.map V.str)) → Deed c H (upd H' a (.lst (rows.map V.str ++ [.str z]))) L d l ths B ln lv lvs a rows.length → Q H') :
    sp_Book_add K c [.ref B, .str z] H (fun _ H' => Q H') E := by
  refine ⟨B, L, d, l, ln, lv, lvs, ths, xs, rows, levels, _, rfl, b.bs L1, b.iv, rowV_good hg, by omega, by omega, fun n => absurd ⟨z, rfl, hg⟩ n, fun _ n => absurd n (by omega), ?_⟩
  intro z' e2 _ _ H' xs' lvs' S' I' bc k w
  cases e2
  obtain ⟨h1, h2, h3, h4⟩ := b.step T S' I' w k (good_snoc b.good hg)
  have low := bc.low (by omega)
  have gl := growM_len (ths := ths) (rows := rows) (levels := levels) (z := z)
  refine q H' h1 ?_
  rw [← map_snoc] at h2 h3 h4
  exact ⟨lvs', _, xs', _, _, h2, h3, h4, w, growM_pre, by omega, by simp⟩
theorem deed_cut (T : TxK K c) (L1 : LedgerAt c H L d l ths xs) (b : Bk c H L d l ths B ln lv lvs a rows levels) (hr : rows.length ≤ 1000) (hz : ths.length < 800000) (ne : rows ≠ [])
    (q : ∀ H', H' a = some (.lst (rows.map V.str)) → Deed c H (upd H' a (.lst (rows.map V.str).dropLast)) L d l ths B ln lv lvs a rows.length → Q H') :
    sp_Book_cut K c [.ref B] H (fun _ H' => Q H') E := by
  refine ⟨B, L, d, l, ln, lv, lvs, ths, xs, rows, levels, rfl, b.bs L1, b.iv, by omega, fun n => absurd n ne, ?_⟩
  intro _ H' levels' n S' I' bc k
  obtain ⟨h1, h2, h3, h4⟩ := b.step T S' I' wider_refl (k.mono fun x hx => List.mem_cons_of_mem _ (List.mem_cons_of_mem _ hx)) fun x hx => b.good x (List.dropLast_subset _ hx)
  refine q H' h1 ?_
  rw [List.map_dropLast] at h2 h3 h4
  exact ⟨lvs, _, xs, _, _, h2, h3, h4, wider_refl, List.prefix_refl _, by omega, by rw [List.length_dropLast]; omega⟩
end
end Tw

namespace Tw
open PySem L2 Ts Mix
section
variable {K : PySem.W.Frag} {c : Cs} {H : Hp} {Q : Addr → Hp → Prop} {E : XK}
theorem new_ledger (q : ∀ L d l H', H L = none → H d = none → H l = none → LedgerAt c H' L d l [] [] → Ex H H' → Q L H') :
    ∀ x dx, H x = none → H dx = none → dx ≠ x → sp_Ledger_init K c [.ref x] (upd (upd H dx (.own x)) x (.ins c.Ledger dx [])) (fun v H2 => v = .non ∧ Q x H2) E := fun x dx hx hdx ne => by
  refine ⟨x, dx, rfl, upd_same, fun d l H' hd hl L k => ⟨rfl, ?_⟩⟩
  have e1 : Ex H (upd (upd H dx (.own x)) x (.ins c.Ledger dx [])) := ex_new (ex_new ex_refl hdx) (by rw [upd_ne (Ne.symm ne)]; exact hx)
  refine q x d l H' hx (ex_free e1 hd) (ex_free e1 hl) L fun b o h => k b o (e1 b o h) fun z => ?_
  rw [List.mem_singleton.mp z, hx] at h
  cases h
theorem new_book {L d l p : Addr} {ths : List MK} {xs : List V} {zs : List Str} (L1 : LedgerAt c H L d l ths xs) (hp : H p = some (.lst (zs.map V.str))) (T : TxK K c) (np : p ≠ d ∧ p ≠ l) (hg : ∀ z ∈ zs, Good z) (hl : zs.length ≤ 1024) (hz : ths.length < 500000)
    (q : ∀ B ln lv lvs xs' H', H B = none → (∀ x ∈ ln :: lv :: lvs, H x = none) → BS c H' B L d l ln lv lvs (growsM ths [] [] zs).1 xs' zs (growsM ths [] [] zs).2 → BookInv (growsM ths [] [] zs).1 zs (growsM ths [] [] zs).2 → Kp [d, l] H H' →
      (growsM ths [] [] zs).1.length ≤ ths.length + 17 * zs.length → Q B H') :
    ∀ x dx, H x = none → H dx = none → dx ≠ x → sp_Book_init K c [.ref x, .ref L, .ref p] (upd (upd H dx (.own x)) x (.ins c.Book dx [])) (fun v H2 => v = .non ∧ Q x H2) E := fun x dx hx hdx ne => by
  have e1 : Ex H (upd (upd H dx (.own x)) x (.ins c.Book dx [])) := ex_new (ex_new ex_refl hdx) (by rw [upd_ne (Ne.symm ne)]; exact hx)
  refine ⟨x, dx, L, d, l, p, ths, xs, zs.map V.str, rfl, upd_same, L1.ex e1, sql (e1 _ _ hp), np.1, np.2, fun y hy => ?_, by rw [List.length_map]; omega, hz, fun n => ?_, fun _ n => absurd n (by rw [List.length_map]; omega), fun zs' ez g' l' H' ln lv lvs xs' S I k f b => ⟨rfl, ?_⟩⟩
  · obtain ⟨z, hz, rfl⟩ := List.mem_map.mp hy
    exact rowV_good (hg z hz)
  · obtain ⟨y, hy, n⟩ := n
    obtain ⟨z, hz, rfl⟩ := List.mem_map.mp hy
    exact absurd ⟨z, rfl, hg z hz⟩ n
  · have ez : zs' = zs := (List.map_inj_right (fun a b h => V.str.inj h)).mp ez.symm
    subst ez
    refine q x ln lv lvs xs' H' hx (fun y hy => ex_free e1 (f y hy)) S I (fun b o h n => k b o (e1 b o h) fun z => ?_) b
    rcases List.mem_cons.mp z with e | z
    · rw [e, hx] at h; cases h
    · exact n z
theorem growsM_pre : ∀ (zs rows : List Str) (ths : List MK) (levels : List (List Nat)), ths <+: (growsM ths rows levels zs).1
  | [], _, ths, _ => List.prefix_refl _
  | z :: zs, rows, ths, levels => growM_pre.trans (growsM_pre zs _ _ _)
end
theorem ne_new {H : Hp} {x y : Addr} {o : HO} (h : H x = some o) (f : H y = none) : x ≠ y := fun e => by rw [e, f] at h; cases h
theorem num_at {ths : List MK} (nd : ths.Nodup) {x : Nat} {k : MK} (e : ths[x]? = some k) : ask ths k = ths ∧ num ths k = x := by
  have hm := List.mem_of_getElem? e
  refine ⟨by unfold ask; rw [if_pos hm], nd_ix nd (num_get hm) e⟩
theorem cutV_nat {xs : List V} {i j : Nat} : cutV xs (some (i : Int)) (some (j : Int)) = (xs.drop i).take (j - i) := by
  unfold cutV
  rw [HT.sIx_nat, HT.sIx_nat]
  apply List.ext_getElem?
  intro k
  rw [List.getElem?_take, List.getElem?_take, List.getElem?_drop, List.getElem?_drop]
  by_cases h : k < j - i
  · rw [if_pos h]
    by_cases h2 : k < min j xs.length - min i xs.length
    · rw [if_pos h2]
      congr 1
      omega
    · rw [if_neg h2, List.getElem?_eq_none (by omega)]
  · rw [if_neg h]
    by_cases h2 : k < min j xs.length - min i xs.length
    · rw [if_pos h2, List.getElem?_eq_none (by omega)]
    · rw [if_neg h2]
theorem cut_blk {rows : List Str} {h j : Nat} : cutV (rows.map V.str) (some ((j * 2 ^ h : Nat) : Int)) (some (((j + 1) * 2 ^ h : Nat) : Int)) = (blk rows h j).map V.str := by
  rw [cutV_nat]
  unfold blk
  rw [List.map_take, List.map_drop, Nat.add_mul, Nat.one_mul, Nat.add_sub_cancel_left]
theorem cutV_ints (ns : List Int) (lo hi : Option Int) : ∃ ms : List Int, cutV (ns.map V.int) lo hi = ms.map V.int ∧ ms.length ≤ ns.length := by
  unfold cutV
  refine ⟨_, by rw [← List.map_drop, ← List.map_take], ?_⟩
  rw [List.length_take, List.length_drop]
  omega
/-- the block stands just where its rows do -/
theorem hasB_iff {ths : List MK} {rows : List Str} {levels : List (List Nat)} (I : BookInv ths rows levels) {h j : Nat} : HasB levels (.int (h : Nat)) (.int (j : Nat)) ↔ (j + 1) * 2 ^ h ≤ rows.length := by
  rw [← lt_div_iff, ← I.len]
  constructor
  · rintro ⟨h', j', e1, e2, z⟩
    have e1 : h' = h := by have := V.int.inj e1; omega
    have e2 : j' = j := by have := V.int.inj e2; omega
    rw [← e1, ← e2]
    exact z
  · intro z
    exact ⟨h, j, rfl, rfl, z⟩
end Tw

namespace Tw
open PySem L2 Ts Mix
/-- one book of a ledger, and its rows beside; all of it made behind H0; the objects of keep are none of it -/
structure One (c : Cs) (H0 H : Hp) (L d l B ln lv a : Addr) (keep : List Addr) (lvs : List Addr) (ths : List MK) (xs : List V) (rows : List Str) (levels : List (List Nat)) (n t : Nat) : Prop where
  la : LedgerAt c H L d l ths xs
  bk : Bk c H L d l ths B ln lv lvs a rows levels
  ex : Ex H0 H
  fr : ∀ x ∈ a :: fpS d l ln lv lvs, H0 x = none
  kp : ∀ x ∈ keep, (∃ o, H x = some o) ∧ x ∉ a :: fpS d l ln lv lvs
  hn : rows.length ≤ n
  ht : ths.length ≤ t
section
variable {K : PySem.W.Frag} {c : Cs} {H0 H H' : Hp} {L d l B ln lv a : Addr} {keep : List Addr} {lvs : List Addr} {ths : List MK} {xs xs' : List V} {rows : List Str} {levels : List (List Nat)} {n t : Nat}
theorem One.mono (S : One c H0 H L d l B ln lv a keep lvs ths xs rows levels n t) (e : Ex H H') : One c H0 H' L d l B ln lv a keep lvs ths xs rows levels n t :=
  ⟨S.la.ex e, S.bk.ex e, S.ex.trans e, S.fr, fun x hx => ⟨let ⟨o, h⟩ := (S.kp x hx).1; ⟨o, e _ _ h⟩, (S.kp x hx).2⟩, S.hn, S.ht⟩
/-- an object more to be kept: a new one -/
theorem One.more {p : Addr} (S : One c H0 H L d l B ln lv a keep lvs ths xs rows levels n t) (hp : H p = none) (e : Ex H H') (hp' : ∃ o, H' p = some o) : One c H0 H' L d l B ln lv a (p :: keep) lvs ths xs rows levels n t := by
  have S' := S.mono e
  refine ⟨S'.la, S'.bk, S'.ex, S'.fr, fun x hx => ?_, S.hn, S.ht⟩
  rcases List.mem_cons.mp hx with r | r
  · rw [r]
    refine ⟨hp', fun z => ?_⟩
    rcases List.mem_cons.mp z with e | z
    · rw [e, S.bk.kept] at hp; cases hp
    · exact (S.bk.bs S.la).new hp z
  · exact S'.kp x r
theorem One.less {keep' : List Addr} (S : One c H0 H L d l B ln lv a keep lvs ths xs rows levels n t) (h : ∀ x ∈ keep', x ∈ keep) : One c H0 H L d l B ln lv a keep' lvs ths xs rows levels n t :=
  ⟨S.la, S.bk, S.ex, S.fr, fun x hx => S.kp x (h x hx), S.hn, S.ht⟩
theorem One.keeps {x : Addr} {o : HO} (S : One c H0 H L d l B ln lv a keep lvs ths xs rows levels n t) (k : Kp (a :: fpS d l ln lv lvs) H H') (hx : x ∈ keep) (h : H x = some o) : H' x = some o := k _ _ h (S.kp x hx).2
theorem One.sub (k : Kp [d, l] H H') : Kp (a :: fpS d l ln lv lvs) H H' := k.mono fun x hx => by
  rcases List.mem_cons.mp hx with e | e
  · rw [e]; simp
  · rw [List.mem_singleton.mp e]; simp
theorem ex_of_kp {F : List Addr} (e : Ex H0 H) (fr : ∀ x ∈ F, H0 x = none) (k : Kp F H H') : Ex H0 H' := fun x o h => k _ _ (e _ _ h) fun z => by rw [fr x z] at h; cases h
theorem One.asked (S : One c H0 H L d l B ln lv a keep lvs ths xs rows levels n t) (L1 : LedgerAt c H' L d l ths xs') (b : Bk c H' L d l ths B ln lv lvs a rows levels) (k : Kp [d, l] H H') : One c H0 H' L d l B ln lv a keep lvs ths xs' rows levels n t :=
  ⟨L1, b, ex_of_kp S.ex S.fr (One.sub k), S.fr, fun x hx => ⟨let ⟨_, h⟩ := (S.kp x hx).1; ⟨_, S.keeps (One.sub k) hx h⟩, (S.kp x hx).2⟩, S.hn, S.ht⟩
theorem One.deed (S : One c H0 H L d l B ln lv a keep lvs ths xs rows levels n t) (D : Deed c H H' L d l ths B ln lv lvs a rows.length) : Kp (a :: fpS d l ln lv lvs) H H' ∧ ∃ lvs' ths' xs' rows' levels', One c H0 H' L d l B ln lv a keep lvs' ths' xs' rows' levels' (n + 1) (t + 18) := by
  obtain ⟨lvs', ths', xs', rows', levels', h1, h2, h3, h4, h5, h6, h7⟩ := D
  have hn := S.hn
  have ht := S.ht
  have key : ∀ x ∈ a :: fpS d l ln lv lvs', x ∈ a :: fpS d l ln lv lvs ∨ H x = none := fun x hx => by
    rcases List.mem_cons.mp hx with e | hx
    · exact .inl (by rw [e]; simp)
    rcases List.mem_cons.mp hx with e | hx
    · exact .inl (by rw [e]; simp)
    rcases List.mem_cons.mp hx with e | hx
    · exact .inl (by rw [e]; simp)
    rcases List.mem_cons.mp hx with e | hx
    · exact .inl (by rw [e]; simp)
    rcases List.mem_cons.mp hx with e | hx
    · exact .inl (by rw [e]; simp)
    rcases h4.2 x hx with r | r
    · exact .inl (by simp [r])
    · exact .inr r
  refine ⟨h3, lvs', ths', xs', rows', levels', h1, h2, ex_of_kp S.ex S.fr h3, fun x hx => ?_, fun x hx => ⟨let ⟨_, h⟩ := (S.kp x hx).1; ⟨_, S.keeps h3 hx h⟩, fun z => ?_⟩, by omega, by omega⟩
  · rcases key x hx with r | r
    · exact S.fr x r
    · cases q : H0 x with
      | none => rfl
      | some o => rw [S.ex _ _ q] at r; cases r
  · rcases key x z with r | r
    · exact (S.kp x hx).2 r
    · obtain ⟨o, h⟩ := (S.kp x hx).1
      rw [h] at r; cases r
/-- a ledger, rows, and a book of them -/
theorem One.make {zs : List Str} {p : Addr} {H1 H2 : Hp} (L1 : LedgerAt c H1 L d l ths xs) (T : TxK K c) (e1 : Ex H0 H1) (f1 : H0 d = none ∧ H0 l = none) (N : NewRows H1 H2 a zs) (hl : zs.length ≤ 1000) (hz : ths.length < 400000) (hp : H2 p = none) {Q : Addr → Hp → Prop} {E : XK}
    (q : ∀ H' B ln lv lvs ths' xs' levels, One c H0 H' L d l B ln lv a [] lvs ths' xs' zs levels zs.length (ths.length + 17 * zs.length) → Q B H') :
    ∀ x dx, (upd H2 p (.lst (zs.map V.str))) x = none → (upd H2 p (.lst (zs.map V.str))) dx = none → dx ≠ x → sp_Book_init K c [.ref x, .ref L, .ref p] (upd (upd (upd H2 p (.lst (zs.map V.str))) dx (.own x)) x (.ins c.Book dx [])) (fun v H2 => v = .non ∧ Q x H2) E := by
  have e3 : Ex H2 (upd H2 p (.lst (zs.map V.str))) := ex_new ex_refl hp
  have e2 := N.ex.trans e3
  have L3 := L1.ex e2
  have e0 := e1.trans e2
  refine new_book L3 upd_same T ⟨fun z => ?_, fun z => ?_⟩ N.good (by omega) (by omega) fun B ln lv lvs xs' H' hB hf S I k hb => q H' B ln lv lvs (growsM ths [] [] zs).1 xs' (growsM ths [] [] zs).2 ?_
  · have := N.ex _ _ L1.dc
    rw [← z, hp] at this; cases this
  · have := N.ex _ _ L1.ls
    rw [← z, hp] at this; cases this
  have ha := e3 _ _ N.at'
  have na : a ∉ fpS d l ln lv lvs := fun z => by
    rcases List.mem_cons.mp z with e | z
    · have := N.new; rw [e, L1.dc] at this; cases this
    rcases List.mem_cons.mp z with e | z
    · have := N.new; rw [e, L1.ls] at this; cases this
    · rw [hf a z] at ha; cases ha
  have fr : ∀ x ∈ a :: fpS d l ln lv lvs, H0 x = none := fun x hx => by
    rcases List.mem_cons.mp hx with e | hx
    · rw [e]; exact ex_free e1 N.new
    rcases List.mem_cons.mp hx with e | hx
    · rw [e]; exact f1.1
    rcases List.mem_cons.mp hx with e | hx
    · rw [e]; exact f1.2
    · exact ex_free e0 (hf x hx)
  have nd2 : a ∉ [d, l] := fun z => na (by
    rcases List.mem_cons.mp z with e | z
    · rw [e]; simp
    · rw [List.mem_singleton.mp z]; simp)
  have b : Bk c H' L d l (growsM ths [] [] zs).1 B ln lv lvs a zs (growsM ths [] [] zs).2 := ⟨S.ba, I, k _ _ ha nd2, List.nodup_cons.mpr ⟨na, S.nd⟩, N.good⟩
  exact ⟨S.la, b, ex_of_kp e0 fr (One.sub k), fr, fun x hx => (nomatch hx), Nat.le_refl _, hb⟩
end
end Tw

namespace Tw
open PySem L2 Ts Mix
/-- a book's places, and what it holds -/
structure BR where
  B : Addr
  ln : Addr
  lv : Addr
  a : Addr
  lvs : List Addr
  rows : List Str
  levels : List (List Nat)
def BR.fp (b : BR) : List Addr := b.a :: b.ln :: b.lv :: b.lvs
def BR.At (b : BR) (c : Cs) (H : Hp) (L d l : Addr) (ths : List MK) : Prop := Bk c H L d l ths b.B b.ln b.lv b.lvs b.a b.rows b.levels
/-- two books of a ledger, their rows beside; all of it made behind H0; the objects of keep are none of it -/
structure Two (c : Cs) (H0 H : Hp) (L d l : Addr) (keep : List Addr) (b1 b2 : BR) (ths : List MK) (xs : List V) (n t : Nat) : Prop where
  la : LedgerAt c H L d l ths xs
  k1 : b1.At c H L d l ths
  k2 : b2.At c H L d l ths
  dis : ∀ x ∈ b1.fp, x ∉ b2.fp
  ex : Ex H0 H
  fr : ∀ x, x = d ∨ x = l ∨ x ∈ b1.fp ∨ x ∈ b2.fp → H0 x = none
  kp : ∀ x ∈ keep, (∃ o, H x = some o) ∧ ¬ (x = d ∨ x = l ∨ x ∈ b1.fp ∨ x ∈ b2.fp)
  n1 : b1.rows.length ≤ n
  n2 : b2.rows.length ≤ n
  ht : ths.length ≤ t
section
variable {K : PySem.W.Frag} {c : Cs} {H0 H H' : Hp} {L d l : Addr} {keep : List Addr} {b1 b2 : BR} {ths ths' : List MK} {xs xs' : List V} {n t : Nat}
theorem Two.swap (S : Two c H0 H L d l keep b1 b2 ths xs n t) : Two c H0 H L d l keep b2 b1 ths xs n t :=
  ⟨S.la, S.k2, S.k1, fun x h z => S.dis x z h, S.ex, fun x h => S.fr x (by rcases h with h | h | h | h <;> simp [h]), fun x hx => ⟨(S.kp x hx).1, fun h => (S.kp x hx).2 (by rcases h with h | h | h | h <;> simp [h])⟩, S.n2, S.n1, S.ht⟩
theorem Two.mono (S : Two c H0 H L d l keep b1 b2 ths xs n t) (e : Ex H H') : Two c H0 H' L d l keep b1 b2 ths xs n t :=
  ⟨S.la.ex e, Bk.ex S.k1 e, Bk.ex S.k2 e, S.dis, S.ex.trans e, S.fr, fun x hx => ⟨let ⟨o, h⟩ := (S.kp x hx).1; ⟨o, e _ _ h⟩, (S.kp x hx).2⟩, S.n1, S.n2, S.ht⟩
/-- what the two are made of is there -/
theorem Two.there (S : Two c H0 H L d l keep b1 b2 ths xs n t) {x : Addr} (h : x = d ∨ x = l ∨ x ∈ b1.fp ∨ x ∈ b2.fp) : ∃ o, H x = some o := by
  rcases h with h | h | h | h
  · rw [h]; exact ⟨_, S.la.dc⟩
  · rw [h]; exact ⟨_, S.la.ls⟩
  · obtain ⟨ys, h⟩ := Bk.lists S.k1 x h; exact ⟨_, h⟩
  · obtain ⟨ys, h⟩ := Bk.lists S.k2 x h; exact ⟨_, h⟩
theorem Two.more {p : Addr} (S : Two c H0 H L d l keep b1 b2 ths xs n t) (hp : H p = none) (e : Ex H H') (hp' : ∃ o, H' p = some o) : Two c H0 H' L d l (p :: keep) b1 b2 ths xs n t := by
  have S' := S.mono e
  refine ⟨S'.la, S'.k1, S'.k2, S'.dis, S'.ex, S'.fr, fun x hx => ?_, S'.n1, S'.n2, S'.ht⟩
  rcases List.mem_cons.mp hx with r | r
  · rw [r]
    refine ⟨hp', fun z => ?_⟩
    obtain ⟨o, h⟩ := S.there z
    rw [hp] at h
    cases h
  · exact S'.kp x r
theorem Two.less {keep' : List Addr} (S : Two c H0 H L d l keep b1 b2 ths xs n t) (h : ∀ x ∈ keep', x ∈ keep) : Two c H0 H L d l keep' b1 b2 ths xs n t :=
  ⟨S.la, S.k1, S.k2, S.dis, S.ex, S.fr, fun x hx => S.kp x (h x hx), S.n1, S.n2, S.ht⟩
theorem Two.wide {n' t' : Nat} (S : Two c H0 H L d l keep b1 b2 ths xs n t) (hn : n ≤ n') (ht : t ≤ t') : Two c H0 H L d l keep b1 b2 ths xs n' t' :=
  ⟨S.la, S.k1, S.k2, S.dis, S.ex, S.fr, S.kp, Nat.le_trans S.n1 hn, Nat.le_trans S.n2 hn, Nat.le_trans S.ht ht⟩
/-- a deed changes nothing that is kept -/
theorem Two.keeps {x : Addr} {o : HO} (S : Two c H0 H L d l keep b1 b2 ths xs n t) (k : Kp (b1.a :: fpS d l b1.ln b1.lv b1.lvs) H H') (hx : x ∈ keep) (h : H x = some o) : H' x = some o := k _ _ h fun z => (S.kp x hx).2 (by
  rcases List.mem_cons.mp z with e | z
  · exact .inr (.inr (.inl (by rw [e]; exact List.mem_cons_self)))
  rcases List.mem_cons.mp z with e | z
  · exact .inl e
  rcases List.mem_cons.mp z with e | z
  · exact .inr (.inl e)
  · exact .inr (.inr (.inl (List.mem_cons_of_mem _ z))))
/-- the first book behind a deed of it -/
theorem Two.deed1 (T : TxK K c) {m : Nat} (S : Two c H0 H L d l keep b1 b2 ths xs n t) (D : Deed c H H' L d l ths b1.B b1.ln b1.lv b1.lvs b1.a m) (hm : m ≤ n) :
    Kp (b1.a :: fpS d l b1.ln b1.lv b1.lvs) H H' ∧ ∃ (b : BR) (ths' : List MK) (xs' : List V), b.B = b1.B ∧ b.a = b1.a ∧ Two c H0 H' L d l keep b b2 ths' xs' (n + 1) (t + 18) := by
  obtain ⟨lvs', ths', xs', rows', levels', h1, h2, h3, h4, h5, h6, h7⟩ := D
  refine ⟨h3, ⟨b1.B, b1.ln, b1.lv, b1.a, lvs', rows', levels'⟩, ths', xs', rfl, rfl, ?_⟩
  have key : ∀ x ∈ (⟨b1.B, b1.ln, b1.lv, b1.a, lvs', rows', levels'⟩ : BR).fp, x ∈ b1.fp ∨ H x = none := fun x hx => by
    rcases List.mem_cons.mp hx with e | hx
    · exact .inl (by rw [e]; exact List.mem_cons_self)
    rcases List.mem_cons.mp hx with e | hx
    · exact .inl (by rw [e]; exact List.mem_cons_of_mem _ List.mem_cons_self)
    rcases List.mem_cons.mp hx with e | hx
    · exact .inl (by rw [e]; exact List.mem_cons_of_mem _ (List.mem_cons_of_mem _ List.mem_cons_self))
    rcases h4.2 x hx with r | r
    · exact .inl (List.mem_cons_of_mem _ (List.mem_cons_of_mem _ (List.mem_cons_of_mem _ r)))
    · exact .inr r
  have mem1 : ∀ x ∈ b1.a :: fpS d l b1.ln b1.lv b1.lvs, x = d ∨ x = l ∨ x ∈ b1.fp := fun x z => by
    rcases List.mem_cons.mp z with e | z
    · exact .inr (.inr (by rw [e]; exact List.mem_cons_self))
    rcases List.mem_cons.mp z with e | z
    · exact .inl e
    rcases List.mem_cons.mp z with e | z
    · exact .inr (.inl e)
    · exact .inr (.inr (List.mem_cons_of_mem _ z))
  have nd2 := S.k2.nd
  rw [List.nodup_cons, List.nodup_cons, List.nodup_cons] at nd2
  have o2 : b2.At c H' L d l ths' := Bk.kp S.k2 h3 h5 (fun x hx z => by
    rcases mem1 x hx with e | e | e
    · rcases List.mem_cons.mp z with r | r
      · exact nd2.1 (by rw [← r, e]; simp)
      · exact nd2.2.1 (by rw [← e]; exact List.mem_cons_of_mem _ r)
    · rcases List.mem_cons.mp z with r | r
      · exact nd2.1 (by rw [← r, e]; simp)
      · exact nd2.2.2.1 (by rw [← e]; exact r)
    · exact S.dis x e z) (Bk.notB T S.k2 S.la fun x hx => by
    rcases mem1 x hx with e | e | e
    · exact .inr e
    · rw [e]; exact .inl ⟨_, S.la.ls⟩
    · exact .inl (Bk.lists S.k1 x e))
  have hn1 := S.n1
  have hn2 := S.n2
  have ht := S.ht
  refine ⟨h1, h2, o2, fun x hx z => ?_, ex_of_kp S.ex (fun x hx => ?_) h3, fun x hx => ?_, fun x hx => ⟨let ⟨_, h⟩ := (S.kp x hx).1; ⟨_, S.keeps h3 hx h⟩, fun z => ?_⟩, by show rows'.length ≤ n + 1; omega, by omega, by omega⟩
  · rcases key x hx with r | r
    · exact S.dis x r z
    · obtain ⟨ys, h⟩ := Bk.lists S.k2 x z
      rw [r] at h; cases h
  · rcases mem1 x hx with e | e | e
    · exact S.fr x (.inl e)
    · exact S.fr x (.inr (.inl e))
    · exact S.fr x (.inr (.inr (.inl e)))
  · rcases hx with e | e | e | e
    · exact S.fr x (.inl e)
    · exact S.fr x (.inr (.inl e))
    · rcases key x e with r | r
      · exact S.fr x (.inr (.inr (.inl r)))
      · exact ex_free S.ex r
    · exact S.fr x (.inr (.inr (.inr e)))
  · obtain ⟨o, h⟩ := (S.kp x hx).1
    rcases z with e | e | e | e
    · exact (S.kp x hx).2 (.inl e)
    · exact (S.kp x hx).2 (.inr (.inl e))
    · rcases key x e with r | r
      · exact (S.kp x hx).2 (.inr (.inr (.inl r)))
      · rw [h] at r; cases r
    · exact (S.kp x hx).2 (.inr (.inr (.inr e)))
end
section
variable {K : PySem.W.Frag} {c : Cs} {H0 H H' : Hp} {L d l : Addr} {keep : List Addr} {ths : List MK} {xs : List V} {n t : Nat}
/-- a first book -/
theorem make_one {zs : List Str} {a p : Addr} (L1 : LedgerAt c H L d l ths xs) (T : TxK K c) (e0 : Ex H0 H) (f1 : H0 d = none ∧ H0 l = none ∧ H0 a = none) (ha : H a = some (.lst (zs.map V.str))) (na : a ≠ d ∧ a ≠ l) (hg : ∀ z ∈ zs, Good z) (hl : zs.length ≤ 1000) (hz : ths.length < 400000) (hp : H p = none)
    (hk : ∀ x ∈ keep, (∃ o, H x = some o) ∧ x ≠ d ∧ x ≠ l ∧ x ≠ a) {Q : Addr → Hp → Prop} {E : XK}
    (q : ∀ H' B ln lv lvs ths' xs' levels, One c H0 H' L d l B ln lv a keep lvs ths' xs' zs levels zs.length (ths.length + 17 * zs.length) → Kp [d, l] H H' → (∀ x ∈ ln :: lv :: lvs, H x = none) → ths <+: ths' → Q B H') :
    ∀ x dx, (upd H p (.lst (zs.map V.str))) x = none → (upd H p (.lst (zs.map V.str))) dx = none → dx ≠ x → sp_Book_init K c [.ref x, .ref L, .ref p] (upd (upd (upd H p (.lst (zs.map V.str))) dx (.own x)) x (.ins c.Book dx [])) (fun v H2 => v = .non ∧ Q x H2) E := by
  have e3 : Ex H (upd H p (.lst (zs.map V.str))) := ex_new ex_refl hp
  have e00 := e0.trans e3
  refine new_book (L1.ex e3) upd_same T ⟨fun z => ?_, fun z => ?_⟩ hg (by omega) (by omega) fun B ln lv lvs xs' H' hB hf S I k hb => q H' B ln lv lvs (growsM ths [] [] zs).1 xs' (growsM ths [] [] zs).2 ?_ ((Kp.of_ex e3).trans k) (fun x hx => ex_free e3 (hf x hx)) (growsM_pre _ _ _ _)
  · have := L1.dc
    rw [← z, hp] at this; cases this
  · have := L1.ls
    rw [← z, hp] at this; cases this
  have ha := e3 _ _ ha
  have nf : ∀ x o, (upd H p (.lst (zs.map V.str))) x = some o → x ∉ ln :: lv :: lvs := fun x o h z => by rw [hf x z] at h; cases h
  have na2 : a ∉ fpS d l ln lv lvs := fun z => by
    rcases List.mem_cons.mp z with e | z
    · exact na.1 e
    rcases List.mem_cons.mp z with e | z
    · exact na.2 e
    · exact nf _ _ ha z
  have fr : ∀ x ∈ a :: fpS d l ln lv lvs, H0 x = none := fun x hx => by
    rcases List.mem_cons.mp hx with e | hx
    · rw [e]; exact f1.2.2
    rcases List.mem_cons.mp hx with e | hx
    · rw [e]; exact f1.1
    rcases List.mem_cons.mp hx with e | hx
    · rw [e]; exact f1.2.1
    · exact ex_free e00 (hf x hx)
  have nd2 : a ∉ [d, l] := fun z => na2 (by
    rcases List.mem_cons.mp z with e | z
    · rw [e]; simp
    · rw [List.mem_singleton.mp z]; simp)
  have b : Bk c H' L d l (growsM ths [] [] zs).1 B ln lv lvs a zs (growsM ths [] [] zs).2 := ⟨S.ba, I, k _ _ ha nd2, List.nodup_cons.mpr ⟨na2, S.nd⟩, hg⟩
  refine ⟨S.la, b, ex_of_kp e00 fr (One.sub k), fr, fun x hx => ?_, Nat.le_refl _, hb⟩
  obtain ⟨⟨o, ho⟩, n1, n2, n3⟩ := hk x hx
  have ho := e3 _ _ ho
  refine ⟨⟨o, k _ _ ho fun z => ?_⟩, fun z => ?_⟩
  · rcases List.mem_cons.mp z with e | z
    · exact n1 e
    · exact n2 (List.mem_singleton.mp z)
  · rcases List.mem_cons.mp z with e | z
    · exact n3 e
    rcases List.mem_cons.mp z with e | z
    · exact n1 e
    rcases List.mem_cons.mp z with e | z
    · exact n2 e
    · exact nf _ _ ho z
/-- a second one -/
theorem make_two {B1 ln1 lv1 a1 : Addr} {lvs1 : List Addr} {rows1 : List Str} {levels1 : List (List Nat)} {zs : List Str} {a p : Addr} (T : TxK K c) (S1 : One c H0 H L d l B1 ln1 lv1 a1 keep lvs1 ths xs rows1 levels1 n t) (hk : a ∈ keep) (fa : H0 a = none) (ha : H a = some (.lst (zs.map V.str)))
    (hg : ∀ z ∈ zs, Good z) (hl : zs.length ≤ n) (hn : n ≤ 1000) (hz : t < 400000) (hp : H p = none) {Q : Addr → Hp → Prop} {E : XK}
    (q : ∀ H' (b1 b2 : BR) ths' xs', b1.B = B1 → b1.a = a1 → b2.a = a → b1.rows = rows1 → b2.rows = zs → Two c H0 H' L d l [] b1 b2 ths' xs' n (t + 17 * n) → Q b2.B H') :
    ∀ x dx, (upd H p (.lst (zs.map V.str))) x = none → (upd H p (.lst (zs.map V.str))) dx = none → dx ≠ x → sp_Book_init K c [.ref x, .ref L, .ref p] (upd (upd (upd H p (.lst (zs.map V.str))) dx (.own x)) x (.ins c.Book dx [])) (fun v H2 => v = .non ∧ Q x H2) E := by
  have ht := S1.ht
  have na := (S1.kp a hk).2
  have fr1 := S1.fr
  have fd : H0 d = none := fr1 d (by simp)
  have fl : H0 l = none := fr1 l (by simp)
  refine make_one (keep := []) S1.la T S1.ex ⟨fd, fl, fa⟩ ha ⟨fun e => na (by rw [e]; simp), fun e => na (by rw [e]; simp)⟩ hg (by omega) (by omega) hp (fun x hx => nomatch hx) fun H' B ln lv lvs ths' xs' levels S2 k hf hpre => ?_
  refine q H' ⟨B1, ln1, lv1, a1, lvs1, rows1, levels1⟩ ⟨B, ln, lv, a, lvs, zs, levels⟩ ths' xs' rfl rfl rfl rfl rfl ?_
  have nd := S1.bk.nd
  rw [List.nodup_cons, List.nodup_cons, List.nodup_cons] at nd
  have o1 : Bk c H' L d l ths' B1 ln1 lv1 lvs1 a1 rows1 levels1 := by
    refine Bk.kp S1.bk k hpre (fun x hx z => ?_) (Bk.notB T S1.bk S1.la fun x hx => ?_)
    · rcases List.mem_cons.mp hx with e | e
      · rcases List.mem_cons.mp z with r | r
        · exact nd.1 (by rw [← r, e]; simp)
        · exact nd.2.1 (by rw [← e]; exact List.mem_cons_of_mem _ r)
      · have e := List.mem_singleton.mp e
        rcases List.mem_cons.mp z with r | r
        · exact nd.1 (by rw [← r, e]; simp)
        · exact nd.2.2.1 (by rw [← e]; exact r)
    · rcases List.mem_cons.mp hx with e | e
      · exact .inr e
      · rw [List.mem_singleton.mp e]; exact .inl ⟨_, S1.la.ls⟩
  have h1 : ∀ x ∈ a1 :: ln1 :: lv1 :: lvs1, (∃ o, H x = some o) ∧ H0 x = none := fun x hx => by
    obtain ⟨ys, h⟩ := S1.bk.lists x hx
    refine ⟨⟨_, h⟩, fr1 x ?_⟩
    rcases List.mem_cons.mp hx with e | e
    · rw [e]; simp
    · exact List.mem_cons_of_mem _ (List.mem_cons_of_mem _ (List.mem_cons_of_mem _ e))
  have hn2 := S2.hn
  have ht2 := S2.ht
  refine ⟨S2.la, o1, S2.bk, fun x hx z => ?_, S2.ex, fun x hx => ?_, fun x hx => (nomatch hx), S1.hn, by show zs.length ≤ n; exact hl, by omega⟩
  · rcases List.mem_cons.mp z with e | z
    · have e : x = a := e
      rw [e] at hx
      refine na ?_
      rcases List.mem_cons.mp hx with r | r
      · rw [show a = a1 from r]; simp
      · exact List.mem_cons_of_mem _ (List.mem_cons_of_mem _ (List.mem_cons_of_mem _ r))
    · obtain ⟨⟨o, h⟩, _⟩ := h1 x hx
      rw [hf x z] at h
      cases h
  · rcases hx with e | e | e | e
    · rw [e]; exact fd
    · rw [e]; exact fl
    · exact (h1 x e).2
    · refine S2.fr x ?_
      rcases List.mem_cons.mp e with r | r
      · rw [show x = a from r]; simp
      · exact List.mem_cons_of_mem _ (List.mem_cons_of_mem _ (List.mem_cons_of_mem _ r))
end
end Tw

namespace Tw
open PySem L2 Ts Mix
/-! ### looks at blocks -/
abbrev Look := Nat × Nat × Bool
def encL : Enc Look := eTup3 eNat eNat eBool
theorem encL_sh (l : List Look) : SeqAt.shaped ((eList encL).enc l) = true := (eList encL).shaped (by decide) l fun _ _ => ⟨trivial, trivial, trivial⟩
/-- two blocks are alike -/
def alk (r1 r2 : List Str) (h j : Nat) : Bool := decide (blk r1 h j = blk r2 h j)
/-- from a block that isn't alike down -/
def firstIn (r1 r2 : List Str) : Nat → Nat → List Look × Nat
  | 0, j => ([], j)
  | h + 1, j => ((h, 2 * j, alk r1 r2 h (2 * j)) :: (firstIn r1 r2 h (if alk r1 r2 h (2 * j) = true then 2 * j + 1 else 2 * j)).1, (firstIn r1 r2 h (if alk r1 r2 h (2 * j) = true then 2 * j + 1 else 2 * j)).2)
theorem firstIn_len (r1 r2 : List Str) : ∀ h j, (firstIn r1 r2 h j).1.length = h
  | 0, _ => rfl
  | h + 1, j => by show (firstIn r1 r2 h _).1.length + 1 = h + 1; rw [firstIn_len r1 r2 h]
def lkfl (B1 B2 lk : Addr) : List (Str × V) := putF "looks" (.ref lk) (putF "other" (.ref B2) (putF "one" (.ref B1) []))
theorem lkfl_one {a b l : Addr} : (lkfl a b l).lookup ("one" : Str) = some (.ref a) := by
  unfold lkfl
  rw [lookup_putF, if_neg (by decide +kernel), lookup_putF, if_neg (by decide +kernel), lookup_putF, if_pos rfl]
theorem lkfl_other {a b l : Addr} : (lkfl a b l).lookup ("other" : Str) = some (.ref b) := by
  unfold lkfl
  rw [lookup_putF, if_neg (by decide +kernel), lookup_putF, if_pos rfl]
theorem lkfl_looks {a b l : Addr} : (lkfl a b l).lookup ("looks" : Str) = some (.ref l) := by
  unfold lkfl
  rw [lookup_putF, if_pos rfl]
theorem lkfl_no {a b l : Addr} {m : Str} (h1 : ¬ m = "one") (h2 : ¬ m = "other") (h3 : ¬ m = "looks") : (lkfl a b l).lookup m = none := by
  unfold lkfl
  rw [lookup_putF, if_neg h3, lookup_putF, if_neg h2, lookup_putF, if_neg h1]
  rfl
def BR.Bo (b : BR) (c : Cs) (H : Hp) (L : Addr) : Prop := BookAt c H b.B L b.ln b.lv b.lvs b.rows b.levels
/-- two books, ready to be looked at -/
structure TB (c : Cs) (H : Hp) (L : Addr) (b1 b2 : BR) (ths : List MK) : Prop where
  a1 : b1.Bo c H L
  a2 : b2.Bo c H L
  i1 : BookInv ths b1.rows b1.levels
  i2 : BookInv ths b2.rows b2.levels
  nd : ths.Nodup
  hL : ∃ dx fs, H L = some (.ins c.Ledger dx fs)
  n1 : b1.rows.length ≤ 1024
  n2 : b2.rows.length ≤ 1024
theorem TB.ex {c : Cs} {H H' : Hp} {L : Addr} {b1 b2 : BR} {ths : List MK} (t : TB c H L b1 b2 ths) (e : Ex H H') : TB c H' L b1 b2 ths :=
  ⟨BookAt.ex t.a1 e, BookAt.ex t.a2 e, t.i1, t.i2, t.nd, let ⟨dx, fs, h⟩ := t.hL; ⟨dx, fs, e _ _ h⟩, t.n1, t.n2⟩
/-- a looker; lk its looks -/
structure LS (K : PySem.W.Frag) (c : Cs) (H : Hp) (L p lk : Addr) (b1 b2 : BR) (ths : List MK) (ds : List Look) : Prop where
  ob : ∃ dx, hid lk H p = some (.ins c.Looker dx (lkfl b1.B b2.B lk))
  ls : ∃ xs, H lk = some (.lst xs) ∧ DpAll K (hid lk H) xs (ds.map encL.enc)
  tb : TB c (hid lk H) L b1 b2 ths
section
variable {K : PySem.W.Frag} {c : Cs} {H H' : Hp} {L p lk : Addr} {b1 b2 : BR} {ths : List MK} {ds : List Look}
theorem LS.ob' (S : LS K c H L p lk b1 b2 ths ds) : ∃ dx, H p = some (.ins c.Looker dx (lkfl b1.B b2.B lk)) := let ⟨dx, h⟩ := S.ob; ⟨dx, ex_hid _ _ h⟩
theorem LS.tb' (S : LS K c H L p lk b1 b2 ths ds) : TB c H L b1 b2 ths := S.tb.ex ex_hid
theorem LS.ex (S : LS K c H L p lk b1 b2 ths ds) (e : Ex H H') : LS K c H' L p lk b1 b2 ths ds := by
  obtain ⟨dx, h⟩ := S.ob
  obtain ⟨xs, h1, h2⟩ := S.ls
  exact ⟨⟨dx, hid_mono e _ _ h⟩, ⟨xs, e _ _ h1, dpAll_mono (hid_mono e) h2⟩, S.tb.ex (hid_mono e)⟩
/-- a look more -/
theorem LS.look (S : LS K c H L p lk b1 b2 ths ds) {xs : List V} {t : Addr} {h j : Nat} {b : Bool} (h1 : H lk = some (.lst xs)) (h2 : DpAll K (hid lk H) xs (ds.map encL.enc)) (ht : H t = none) :
    LS K c (upd (upd H t (.tup [.int (h : Nat), .int (j : Nat), .bl b])) lk (.lst (xs ++ [.ref t]))) L p lk b1 b2 ths (ds ++ [(h, j, b)]) ∧ Ex (hid lk H) (hid lk (upd (upd H t (.tup [.int (h : Nat), .int (j : Nat), .bl b])) lk (.lst (xs ++ [.ref t])))) := by
  have nt : lk ≠ t := ne_of_none h1 ht
  have e : Ex (hid lk H) (hid lk (upd H t (.tup [.int (h : Nat), .int (j : Nat), .bl b]))) := hid_mono (ex_new ex_refl ht)
  rw [hid_upd]
  refine ⟨⟨?_, ⟨_, upd_same, ?_⟩, ?_⟩, e⟩
  · obtain ⟨dx, h⟩ := S.ob
    rw [hid_upd]
    exact ⟨dx, e _ _ h⟩
  · rw [hid_upd, List.map_append]
    refine dpAll_snoc (dpAll_mono e h2) ?_
    refine .tup (sqt (xs := [.int (h : Nat), .int (j : Nat), .bl b]) ?_) (.cons (.int _) (.cons (.int _) (.cons (.bl _) .nil)))
    rw [hid_ne (Ne.symm nt), upd_same]
  · rw [hid_upd]
    exact S.tb.ex e
end
def N_Looker_init : List Str := ["self", "one", "other"]
def t_Looker_init (K : PySem.W.Frag) (c : Cs) (E : XK) : TS := (tSeq (tIfS (tTest (tOp (rNeIns K) (tFld K (tVar 1) "ledger") (tFld K (tVar 2) "ledger"))) (tRaiseX c.Strange (fun cls d _ H => E cls d H)) tNext)
  (tSeq (sFld K (tVar 0) (tVar 1) "one")
  (tSeq (sFld K (tVar 0) (tVar 2) "other")
  (sFld K (tVar 0) (tLst tNil) "looks"))))
def sp_Looker_init (K : PySem.W.Frag) (c : Cs) : Sp := fun vs H Q E => ∃ (p dx L1 L2 e1 e2 : Addr) (f1 f2 : List (Str × V)) (b1 b2 : BR), vs = [.ref p, .ref b1.B, .ref b2.B] ∧ H p = some (.ins c.Looker dx []) ∧ b1.Bo c H L1 ∧ b2.Bo c H L2 ∧ H L1 = some (.ins c.Ledger e1 f1) ∧ H L2 = some (.ins c.Ledger e2 f2) ∧
  (L1 ≠ L2 → E (.ref c.Strange) none H) ∧ (L1 = L2 → ∀ lk H', H lk = none → H' lk = some (.lst []) → (∃ dx, H' p = some (.ins c.Looker dx (lkfl b1.B b2.B lk))) → Kp [p] H H' → Q .non H')
theorem len_Looker_init {K c} : ∀ vs H Q E, sp_Looker_init K c vs H Q E → vs.length = 3 := by rintro vs H Q E ⟨_, _, _, _, _, _, _, _, _, _, rfl, _⟩; rfl
theorem pure_Looker_init {K : PySem.W.Frag} {c : Cs} {vs : List V} {H : Hp} {Q : VK} {E : XK} (T : TxK K c) (h : sp_Looker_init K c vs H Q E) : t_Looker_init K c E ⟨fun _ H' => Q .non H', Q, fun _ _ => False, fun _ _ => False⟩ (start N_Looker_init vs) H := by
  obtain ⟨p, dx, L1, L2, e1, e2, f1, f2, b1, b2, rfl, hp, a1, a2, h1, h2, k1, k2⟩ := h
  show t_Looker_init K c E _ [some (.ref p), some (.ref b1.B), some (.ref b2.B)] H
  unfold t_Looker_init
  obtain ⟨d1, hB1⟩ := BookAt.ob a1
  obtain ⟨d2, hB2⟩ := BookAt.ob a2
  walk_at "s"
  refine w_fldAt hB1 T.cBook T.n_Book_ledger bfl_ledger ?_
  walk_at "s"
  refine w_fldAt hB2 T.cBook T.n_Book_ledger bfl_ledger ?_
  refine ⟨L1, L2, c.Ledger, e1, e2, f1, f2, rfl, rfl, h1, h2, T.pl_Ledger, ?_⟩
  walk_at "s"
  refine ite_nd (fun h0 => ?_) fun h0 => ?_
  · walk_at "s"
    exact k1 h0
  · walk_at "s"
    refine w_sfldAt hp T.cLooker T.n_Looker_one (by show 0 < 1000; decide) ?_
    walk_at "s"
    refine w_sfldAt upd_same T.cLooker T.n_Looker_other (by show 1 < 1000; decide) ?_
    walk_at "s"
    refine ⟨Nat.zero_le _, fun lk hlk => ?_⟩
    have np : p ≠ lk := fun e => by rw [← e, upd_same] at hlk; cases hlk
    have fk : H lk = none := by rw [upd_ne (Ne.symm np), upd_ne (Ne.symm np)] at hlk; exact hlk
    walk_at "s"
    refine w_sfldAt (by rw [upd_ne np, upd_same]) T.cLooker T.n_Looker_looks (by show 2 < 1000; decide) ?_
    refine k2 h0 lk _ fk ?_ ⟨dx, upd_same⟩ ?_
    · rw [upd_ne (Ne.symm np), upd_same]
    · exact (((Kp.refl.set (by simp)).set (by simp)).fresh fk).set (by simp)
theorem new_looker {K : PySem.W.Frag} {c : Cs} {H : Hp} {Q : Addr → Hp → Prop} {E : XK} {L : Addr} {b1 b2 : BR} {ths : List MK} (t : TB c H L b1 b2 ths)
    (q : ∀ p lk H', LS K c H' L p lk b1 b2 ths [] → Ex H (hid lk H') → H lk = none → H p = none → Q p H') :
    ∀ x dx, H x = none → H dx = none → dx ≠ x → sp_Looker_init K c [.ref x, .ref b1.B, .ref b2.B] (upd (upd H dx (.own x)) x (.ins c.Looker dx [])) (fun v H2 => v = .non ∧ Q x H2) E := fun x dx hx hdx ne => by
  have e1 : Ex H (upd (upd H dx (.own x)) x (.ins c.Looker dx [])) := ex_new (ex_new ex_refl hdx) (by rw [upd_ne (Ne.symm ne)]; exact hx)
  have t1 := t.ex e1
  obtain ⟨d, fs, hL⟩ := t1.hL
  refine ⟨x, dx, L, L, d, d, fs, fs, b1, b2, rfl, upd_same, t1.a1, t1.a2, hL, hL, fun n => absurd rfl n, fun _ lk H' fk h1 ⟨dy, h2⟩ k => ⟨rfl, ?_⟩⟩
  have fl := ex_free e1 fk
  have np : x ≠ lk := fun e => by rw [← e, upd_same] at fk; cases fk
  have ex2 : Ex H (hid lk H') := hid_free fl fun b o h => k b o (e1 b o h) fun z => by
    rw [List.mem_singleton.mp z, hx] at h
    cases h
  exact q x lk H' ⟨⟨dy, hid_get h2 np⟩, ⟨[], h1, .nil⟩, t.ex ex2⟩ ex2 fl hx
def N_Looker_lesser : List Str := ["self"]
def t_Looker_lesser (K : PySem.W.Frag) (c : Cs) (E : XK) : TS := (tRet (tCB rMin (tCons (tMeth c.Book "count" (sp_Book_count K c) [] E0 (tFld K (tVar 0) "one") tNil) (tCons (tMeth c.Book "count" (sp_Book_count K c) [] E0 (tFld K (tVar 0) "other") tNil) tNil))))
def sp_Looker_lesser (K : PySem.W.Frag) (c : Cs) : Sp := fun vs H Q _ => ∃ (L p lk : Addr) (b1 b2 : BR) (ths : List MK) (ds : List Look), vs = [.ref p] ∧ LS K c H L p lk b1 b2 ths ds ∧ Q (.int (min b1.rows.length b2.rows.length : Nat)) H
theorem len_Looker_lesser {K c} : ∀ vs H Q E, sp_Looker_lesser K c vs H Q E → vs.length = 1 := by rintro vs H Q E ⟨_, _, _, _, _, _, _, rfl, _⟩; rfl
theorem pure_Looker_lesser {K : PySem.W.Frag} {c : Cs} {vs : List V} {H : Hp} {Q : VK} {E : XK} (T : TxK K c) (h : sp_Looker_lesser K c vs H Q E) : t_Looker_lesser K c E ⟨fun _ H' => Q .non H', Q, fun _ _ => False, fun _ _ => False⟩ (start N_Looker_lesser vs) H := by
  obtain ⟨L, p, lk, b1, b2, ths, ds, rfl, S, k⟩ := h
  show t_Looker_lesser K c E _ [some (.ref p)] H
  unfold t_Looker_lesser
  obtain ⟨dx, hp⟩ := S.ob'
  have tb := S.tb'
  obtain ⟨d1, hB1⟩ := BookAt.ob tb.a1
  obtain ⟨d2, hB2⟩ := BookAt.ob tb.a2
  walk_at "s"
  refine w_fldAt hp T.cLooker T.n_Looker_one lkfl_one ?_
  refine w_methAt hB1 (bfl_no (by decide +kernel) (by decide +kernel) (by decide +kernel)) ?_
  walk_at "s"
  refine ⟨b1.B, L, b1.ln, b1.lv, b1.lvs, b1.rows, b1.levels, rfl, tb.a1, ?_⟩
  walk_at "s"
  refine w_fldAt hp T.cLooker T.n_Looker_other lkfl_other ?_
  refine w_methAt hB2 (bfl_no (by decide +kernel) (by decide +kernel) (by decide +kernel)) ?_
  walk_at "s"
  refine ⟨b2.B, L, b2.ln, b2.lv, b2.lvs, b2.rows, b2.levels, rfl, tb.a2, ?_⟩
  walk_at "s"
  have e : (if ((b2.rows.length : Nat) : Int) < (b1.rows.length : Nat) then ((b2.rows.length : Nat) : Int) else (b1.rows.length : Nat)) = ((min b1.rows.length b2.rows.length : Nat) : Int) := by split <;> omega
  rw [e]
  exact k
/-- the sum of a block that stands -/
theorem sum_at {K : PySem.W.Frag} {c : Cs} {H : Hp} {L : Addr} {b : BR} {ths : List MK} {Q : VK} {E : XK} (a : b.Bo c H L) (I : BookInv ths b.rows b.levels) {h j : Nat} (hb : (j + 1) * 2 ^ h ≤ b.rows.length) (q : ∀ x : Nat, Den ths h x (blk b.rows h j) → Q (.int (x : Nat)) H) :
    sp_Book_sum_of K c [.ref b.B, .int (h : Nat), .int (j : Nat)] H Q E := by
  have hj : j < (lev b.levels h).length := by rw [I.len]; exact lt_div_iff.mpr hb
  refine ⟨b.B, L, b.ln, b.lv, b.lvs, b.rows, b.levels, _, _, true, true, rfl, a, .inl ⟨_, rfl, rfl⟩, .inl ⟨_, rfl, rfl⟩, fun h' j' x e1 e2 e3 => ?_, fun n => absurd ⟨h, j, rfl, rfl, hj⟩ n⟩
  have e1 : h' = h := by have := V.int.inj e1; omega
  have e2 : j' = j := by have := V.int.inj e2; omega
  rw [e1, e2] at e3
  exact q x (I.den h j x e3)
def N_Looker_are_alike : List Str := ["self", "height", "number", "alike"]
def t_Looker_are_alike (K : PySem.W.Frag) (c : Cs) (E : XK) : TS := (tSeq (tAsg (tOp (rEqU K) (tMeth c.Book "sum_of" (sp_Book_sum_of K c) [] E0 (tFld K (tVar 0) "one") (tCons (tVar 1) (tCons (tVar 2) tNil))) (tMeth c.Book "sum_of" (sp_Book_sum_of K c) [] E0 (tFld K (tVar 0) "other") (tCons (tVar 1) (tCons (tVar 2) tNil)))) (gName 3))
  (tSeq (tDrop (tBM K "list" rAppend (tFld K (tVar 0) "looks") (tCons (tTup (tCons (tVar 1) (tCons (tVar 2) (tCons (tVar 3) tNil)))) tNil)))
  (tRet (tVar 3))))
def sp_Looker_are_alike (K : PySem.W.Frag) (c : Cs) : Sp := fun vs H Q _ => ∃ (L p lk : Addr) (b1 b2 : BR) (ths : List MK) (ds : List Look) (h j : Nat), vs = [.ref p, .int (h : Nat), .int (j : Nat)] ∧ LS K c H L p lk b1 b2 ths ds ∧ (j + 1) * 2 ^ h ≤ b1.rows.length ∧ (j + 1) * 2 ^ h ≤ b2.rows.length ∧ ds.length < 100000 ∧
  ∀ H', LS K c H' L p lk b1 b2 ths (ds ++ [(h, j, alk b1.rows b2.rows h j)]) → Ex (hid lk H) (hid lk H') → Q (.bl (alk b1.rows b2.rows h j)) H'
theorem len_Looker_are_alike {K c} : ∀ vs H Q E, sp_Looker_are_alike K c vs H Q E → vs.length = 3 := by rintro vs H Q E ⟨_, _, _, _, _, _, _, _, _, rfl, _⟩; rfl
theorem pure_Looker_are_alike {K : PySem.W.Frag} {c : Cs} {vs : List V} {H : Hp} {Q : VK} {E : XK} (T : TxK K c) (g : sp_Looker_are_alike K c vs H Q E) : t_Looker_are_alike K c E ⟨fun _ H' => Q .non H', Q, fun _ _ => False, fun _ _ => False⟩ (start N_Looker_are_alike vs) H := by
  obtain ⟨L, p, lk, b1, b2, ths, ds, h, j, rfl, S, hb1, hb2, hd, k⟩ := g
  show t_Looker_are_alike K c E _ [some (.ref p), some (.int (h : Nat)), some (.int (j : Nat)), none] H
  unfold t_Looker_are_alike
  obtain ⟨dx, hp⟩ := S.ob'
  have tb := S.tb'
  obtain ⟨d1, hB1⟩ := BookAt.ob tb.a1
  obtain ⟨d2, hB2⟩ := BookAt.ob tb.a2
  walk_at "s"
  refine w_fldAt hp T.cLooker T.n_Looker_one lkfl_one ?_
  refine w_methAt hB1 (bfl_no (by decide +kernel) (by decide +kernel) (by decide +kernel)) ?_
  walk_at "s"
  refine sum_at tb.a1 tb.i1 hb1 fun x D1 => ?_
  walk_at "s"
  refine w_fldAt hp T.cLooker T.n_Looker_other lkfl_other ?_
  refine w_methAt hB2 (bfl_no (by decide +kernel) (by decide +kernel) (by decide +kernel)) ?_
  walk_at "s"
  refine sum_at tb.a2 tb.i2 hb2 fun y D2 => ?_
  walk_at "s"
  have e : decide (((x : Nat) : Int) = (y : Nat)) = alk b1.rows b2.rows h j := by
    unfold alk
    rw [decide_eq_decide, ← D1.iff tb.nd D2]
    omega
  rw [e]
  refine w_fldAt hp T.cLooker T.n_Looker_looks lkfl_looks ?_
  obtain ⟨xs, h1, h2⟩ := S.ls
  have hl := dpAll_len h2
  rw [List.length_map] at hl
  refine ⟨w_tyL (sql h1), ?_⟩
  walk_at "s"
  refine ⟨by show 3 ≤ sizeLine; exact sz100 (by decide), fun t ht => ?_⟩
  have nt : lk ≠ t := ne_of_none h1 ht
  walk_at "s"
  refine w_app (by rw [upd_ne nt]; exact h1) (szL (by omega)) ?_
  walk_at "s"
  obtain ⟨S', e'⟩ := S.look (h := h) (j := j) (b := alk b1.rows b2.rows h j) h1 h2 ht
  exact k _ S' e'
def N_Looker_first_in : List Str := ["self", "height", "number"]
def t_Looker_first_in (K : PySem.W.Frag) (c : Cs) (E : XK) : TS := (tSeq (tWhile (tTest (tOp rGt (tVar 1) (tC (.int 0)))) (tSeq (tAsg (tOp rSubI (tVar 1) (tC (.int 1))) (gName 1))
  (tSeq (tAsg (tOp rMul (tC (.int 2)) (tVar 2)) (gName 2))
  (tIfS (tB (tMeth c.Looker "are_alike" (sp_Looker_are_alike K c) [] E0 (tVar 0) (tCons (tVar 1) (tCons (tVar 2) tNil)))) (tAsg (tOp rAddU (tVar 2) (tC (.int 1))) (gName 2)) tNext))))
  (tRet (tVar 2)))
def sp_Looker_first_in (K : PySem.W.Frag) (c : Cs) : Sp := fun vs H Q _ => ∃ (L p lk : Addr) (b1 b2 : BR) (ths : List MK) (ds : List Look) (h j : Nat), vs = [.ref p, .int (h : Nat), .int (j : Nat)] ∧ LS K c H L p lk b1 b2 ths ds ∧ (j + 1) * 2 ^ h ≤ b1.rows.length ∧ (j + 1) * 2 ^ h ≤ b2.rows.length ∧ ds.length + h < 100000 ∧
  ∀ H', LS K c H' L p lk b1 b2 ths (ds ++ (firstIn b1.rows b2.rows h j).1) → Ex (hid lk H) (hid lk H') → Q (.int ((firstIn b1.rows b2.rows h j).2 : Nat)) H'
theorem len_Looker_first_in {K c} : ∀ vs H Q E, sp_Looker_first_in K c vs H Q E → vs.length = 3 := by rintro vs H Q E ⟨_, _, _, _, _, _, _, _, _, rfl, _⟩; rfl
theorem pure_Looker_first_in {K : PySem.W.Frag} {c : Cs} {vs : List V} {H : Hp} {Q : VK} {E : XK} (T : TxK K c) (g : sp_Looker_first_in K c vs H Q E) : t_Looker_first_in K c E ⟨fun _ H' => Q .non H', Q, fun _ _ => False, fun _ _ => False⟩ (start N_Looker_first_in vs) H := by
  obtain ⟨L, p, lk, b1, b2, ths, ds, h, j, rfl, S, hb1, hb2, hd, k⟩ := g
  show t_Looker_first_in K c E _ [some (.ref p), some (.int (h : Nat)), some (.int (j : Nat))] H
  unfold t_Looker_first_in
  walk_at "s"
  refine w_while (fun σ H' => ∃ (h' j' : Nat) (ds' : List Look), σ = [some (.ref p), some (.int (h' : Nat)), some (.int (j' : Nat))] ∧ LS K c H' L p lk b1 b2 ths ds' ∧ (j' + 1) * 2 ^ h' ≤ b1.rows.length ∧ (j' + 1) * 2 ^ h' ≤ b2.rows.length ∧ ds'.length + h' < 100000 ∧
      ds' ++ (firstIn b1.rows b2.rows h' j').1 = ds ++ (firstIn b1.rows b2.rows h j).1 ∧ (firstIn b1.rows b2.rows h' j').2 = (firstIn b1.rows b2.rows h j).2 ∧ Ex (hid lk H) (hid lk H'))
    (fun σ _ => match σ with | [_, some (.int m), _] => m.toNat | _ => 0) ⟨h, j, ds, rfl, S, hb1, hb2, hd, rfl, rfl, ex_refl⟩ ?_
  rintro σ H1 ⟨h', j', ds', rfl, S1, q1, q2, qd, e1, e2, ex1⟩
  walk_at "s"
  refine ite_d (fun h0 => ?_) fun h0 => ?_
  · obtain ⟨h', rfl⟩ : ∃ k, h' = k + 1 := ⟨h' - 1, by omega⟩
    refine w_wN ?_
    walk_at "s"
    rw [show ((h' + 1 : Nat) : Int) - 1 = (h' : Nat) by push_cast; omega, show (2 : Int) * (j' : Nat) = ((2 * j' : Nat) : Int) by push_cast; rfl]
    obtain ⟨dx, hp⟩ := S1.ob'
    refine w_methAt hp (lkfl_no (by decide +kernel) (by decide +kernel) (by decide +kernel)) ?_
    walk_at "s"
    have m1 : (2 * j' + 1 + 1) * 2 ^ h' = (j' + 1) * 2 ^ (h' + 1) := by rw [Nat.pow_succ, show 2 * j' + 1 + 1 = (j' + 1) * 2 by omega, Nat.mul_assoc, Nat.mul_comm 2]
    have m2 : (2 * j' + 1) * 2 ^ h' ≤ (2 * j' + 1 + 1) * 2 ^ h' := Nat.mul_le_mul_right _ (Nat.le_succ _)
    refine ⟨L, p, lk, b1, b2, ths, ds', h', 2 * j', rfl, S1, by omega, by omega, by omega, fun H2 S2 ex2 => ?_⟩
    walk_at "s"
    have f1 : (firstIn b1.rows b2.rows (h' + 1) j') = ((h', 2 * j', alk b1.rows b2.rows h' (2 * j')) :: (firstIn b1.rows b2.rows h' (if alk b1.rows b2.rows h' (2 * j') = true then 2 * j' + 1 else 2 * j')).1, (firstIn b1.rows b2.rows h' (if alk b1.rows b2.rows h' (2 * j') = true then 2 * j' + 1 else 2 * j')).2) := rfl
    rw [f1] at e1 e2
    refine ite_b (fun hb => ?_) fun hb => ?_
    · rw [hb] at S2 e1 e2
      rw [if_pos rfl] at e1 e2
      walk_at "s"
      rw [show ((2 * j' : Nat) : Int) + 1 = ((2 * j' + 1 : Nat) : Int) by push_cast; rfl]
      refine ⟨⟨h', 2 * j' + 1, _, rfl, S2, by omega, by omega, by rw [List.length_append]; simp; omega, by rw [List.append_assoc]; exact e1, e2, ex1.trans ex2⟩, ?_⟩
      show ((h' : Nat) : Int).toNat < ((h' + 1 : Nat) : Int).toNat
      omega
    · rw [hb] at S2 e1 e2
      rw [if_neg Bool.false_ne_true] at e1 e2
      walk_at "s"
      refine ⟨⟨h', 2 * j', _, rfl, S2, by omega, by omega, by rw [List.length_append]; simp; omega, by rw [List.append_assoc]; exact e1, e2, ex1.trans ex2⟩, ?_⟩
      show ((h' : Nat) : Int).toNat < ((h' + 1 : Nat) : Int).toNat
      omega
  · have h0 : h' = 0 := by omega
    subst h0
    walk_at "s"
    have e1 : ds' ++ [] = ds ++ (firstIn b1.rows b2.rows h j).1 := e1
    rw [List.append_nil] at e1
    have e2 : j' = (firstIn b1.rows b2.rows h j).2 := e2
    rw [e1] at S1
    rw [e2]
    exact k H1 S1 ex1
end Tw

namespace Tw
open PySem L2 Ts Mix
theorem sqt_hid {K : PySem.W.Frag} {H : Hp} {lk a : Addr} {xs ys : List V} (h : SqT K H a xs) (hl : H lk = some (.lst ys)) : SqT K (hid lk H) a xs := by
  rcases h with (h | ⟨o, h⟩) | h
  · exact .inl (.inl (hid_get h (ne_of h hl fun z => nomatch z)))
  · exact .inl (.inr ⟨o, hid_get h (ne_of h hl fun z => nomatch z)⟩)
  · exact .inr h
/-- each part lies within the count -/
theorem parts_in (n : Nat) : ∀ (k : Nat), ∀ p ∈ partsF n (placeAt n k) k, (p.2 + 1) * 2 ^ p.1 ≤ n
  | 0 => fun p hp => nomatch hp
  | k + 1 => fun p hp => by
    by_cases b : n / 2 ^ k % 2 = 1
    · rw [parts_cons b] at hp
      rcases List.mem_cons.mp hp with e | hp
      · subst e
        have d : 2 ^ k ∣ placeAt n (k + 1) := ⟨n / 2 ^ (k + 1) * 2, by unfold placeAt; rw [Nat.pow_succ, Nat.mul_comm (2 ^ k) 2, ← Nat.mul_assoc, Nat.mul_comm (2 ^ k)]⟩
        have h1 := Nat.div_mul_cancel d
        have h2 := (bit_room n k).mp b
        show (placeAt n (k + 1) / 2 ^ k + 1) * 2 ^ k ≤ n
        rw [Nat.add_mul, h1, Nat.one_mul]
        exact h2
      · exact parts_in n k p hp
    · rw [parts_skip b] at hp
      exact parts_in n k p hp
theorem parts_le {n : Nat} {p : Nat × Nat} (h : p ∈ parts n) : (p.2 + 1) * 2 ^ p.1 ≤ n := by
  refine parts_in n (digs n) p ?_
  rw [placeAt_digs]
  exact h
theorem ht_le {h j n : Nat} (hb : (j + 1) * 2 ^ h ≤ n) (hn : n ≤ 1024) : h ≤ 10 := by
  rcases Nat.lt_or_ge 10 h with w | w
  · have h1 : 2 ^ 11 ≤ 2 ^ h := Nat.pow_le_pow_right (by decide) (by omega)
    have h2 : 2 ^ h ≤ (j + 1) * 2 ^ h := Nat.le_mul_of_pos_left _ (Nat.succ_pos _)
    have h3 : (2 : Nat) ^ 11 = 2048 := by decide
    omega
  · exact w
theorem parts_length {n : Nat} (h : n ≤ 1024) : (parts n).length ≤ 11 := by
  have e : (2 : Nat) ^ 11 = 2048 := by decide
  exact Nat.le_trans (parts_len _ _ _) (digs_le (by omega))
/-! ### the first place -/
def firstM (r1 r2 : List Str) : List (Nat × Nat) → List Look × Option Nat
  | [] => ([], none)
  | (h, j) :: ps => if alk r1 r2 h j = true then ((h, j, true) :: (firstM r1 r2 ps).1, (firstM r1 r2 ps).2) else ((h, j, false) :: (firstIn r1 r2 h j).1, some (firstIn r1 r2 h j).2)
def firstR (r1 r2 : List Str) : List Look × Option Nat :=
  ((firstM r1 r2 (parts (min r1.length r2.length))).1, match (firstM r1 r2 (parts (min r1.length r2.length))).2 with
    | some p => some p
    | none => if r1.length = r2.length then none else some (min r1.length r2.length))
def plV : Option Nat → V
  | none => .non
  | some p => .int (p : Nat)
/-- what is told: a tuple at t, its looks at lk -/
structure Found (K : PySem.W.Frag) (H H' : Hp) (t lk : Addr) (v : V) (ds : List Look) : Prop where
  ex : Ex H (hid lk H')
  nl : H lk = none
  nt : H t = none
  ht : H' t = some (.tup [v, .ref lk])
  ls : ∃ xs, H' lk = some (.lst xs) ∧ DpAll K (hid lk H') xs (ds.map encL.enc)
theorem Found.ex' {K : PySem.W.Frag} {H H' : Hp} {t lk : Addr} {v : V} {ds : List Look} (F : Found K H H' t lk v ds) : Ex H H' := fun b o h => ex_hid _ _ (F.ex b o h)
/-- books of two ledgers -/
def Stranger (c : Cs) (H : Hp) (b1 b2 : BR) (E : XK) : Prop := ∃ (L1 L2 e1 e2 : Addr) (f1 f2 : List (Str × V)), b1.Bo c H L1 ∧ b2.Bo c H L2 ∧ H L1 = some (.ins c.Ledger e1 f1) ∧ H L2 = some (.ins c.Ledger e2 f2) ∧ L1 ≠ L2 ∧ ∀ H', Ex H H' → E (.ref c.Strange) none H'
theorem strange_looker {K : PySem.W.Frag} {c : Cs} {H : Hp} {Q : Addr → Hp → Prop} {E : XK} {b1 b2 : BR} (s : Stranger c H b1 b2 E) :
    ∀ x dx, H x = none → H dx = none → dx ≠ x → sp_Looker_init K c [.ref x, .ref b1.B, .ref b2.B] (upd (upd H dx (.own x)) x (.ins c.Looker dx [])) (fun v H2 => v = .non ∧ Q x H2) E := fun x dx hx hdx ne => by
  have e : Ex H (upd (upd H dx (.own x)) x (.ins c.Looker dx [])) := ex_new (ex_new ex_refl hdx) (by rw [upd_ne (Ne.symm ne)]; exact hx)
  obtain ⟨L1, L2, e1, e2, f1, f2, a1, a2, h1, h2, n, k⟩ := s
  exact ⟨x, dx, L1, L2, e1, e2, f1, f2, b1, b2, rfl, upd_same, BookAt.ex a1 e, BookAt.ex a2 e, e _ _ h1, e _ _ h2, fun _ => k _ e, fun z => absurd z n⟩
def N_first_unlike : List Str := ["one", "other", "looker", "height", "number"]
def t_first_unlike (K : PySem.W.Frag) (c : Cs) (E : XK) : TS := (tSeq (tAsg (tMake c.Looker (sp_Looker_init K c) [] E (tCons (tVar 0) (tCons (tVar 1) tNil))) (gName 2))
  (tSeq (tFor (iList K (tCall (sp_parted K c) [] E (tCons (tMeth c.Looker "lesser" (sp_Looker_lesser K c) [] E (tVar 2) tNil) tNil))) (gTup K 2 (gCons (gName 3) (gCons (gName 4) gNil))) (tIfS (tNot (tB (tMeth c.Looker "are_alike" (sp_Looker_are_alike K c) [] E (tVar 2) (tCons (tVar 3) (tCons (tVar 4) tNil))))) (tRet (tTup (tCons (tMeth c.Looker "first_in" (sp_Looker_first_in K c) [] E (tVar 2) (tCons (tVar 3) (tCons (tVar 4) tNil))) (tCons (tFld K (tVar 2) "looks") tNil)))) tNext))
  (tSeq (tIfS (tTest (tOp (rEqU K) (tMeth c.Book "count" (sp_Book_count K c) [] E (tVar 0) tNil) (tMeth c.Book "count" (sp_Book_count K c) [] E (tVar 1) tNil))) (tRet (tTup (tCons (tC .non) (tCons (tFld K (tVar 2) "looks") tNil)))) tNext)
  (tRet (tTup (tCons (tMeth c.Looker "lesser" (sp_Looker_lesser K c) [] E (tVar 2) tNil) (tCons (tFld K (tVar 2) "looks") tNil)))))))
def sp_first_unlike (K : PySem.W.Frag) (c : Cs) : Sp := fun vs H Q E => ∃ (b1 b2 : BR), vs = [.ref b1.B, .ref b2.B] ∧ ((∃ (L : Addr) (ths : List MK), TB c H L b1 b2 ths ∧ ∀ H' t lk, Found K H H' t lk (plV (firstR b1.rows b2.rows).2) (firstR b1.rows b2.rows).1 → Q (.ref t) H') ∨ Stranger c H b1 b2 E)
theorem len_first_unlike {K c} : ∀ vs H Q E, sp_first_unlike K c vs H Q E → vs.length = 2 := by rintro vs H Q E ⟨_, _, rfl, _⟩; rfl
theorem pure_first_unlike {K : PySem.W.Frag} {c : Cs} {vs : List V} {H : Hp} {Q : VK} {E : XK} (T : TxK K c) (g : sp_first_unlike K c vs H Q E) : t_first_unlike K c E ⟨fun _ H' => Q .non H', Q, fun _ _ => False, fun _ _ => False⟩ (start N_first_unlike vs) H := by
  obtain ⟨b1, b2, rfl, g⟩ := g
  rcases g with ⟨L, ths, tb, k⟩ | s
  case inr =>
    show t_first_unlike K c E _ [some (.ref b1.B), some (.ref b2.B), none, none, none] H
    unfold t_first_unlike
    walk_at "s"
    exact strange_looker s
  show t_first_unlike K c E _ [some (.ref b1.B), some (.ref b2.B), none, none, none] H
  unfold t_first_unlike
  walk_at "s"
  refine new_looker tb fun p lk H1 S1 ex1 fl fp => ?_
  obtain ⟨dx, hp⟩ := S1.ob'
  have n1 := tb.n1
  have n2 := tb.n2
  walk_at "s"
  refine w_methAt hp (lkfl_no (by decide +kernel) (by decide +kernel) (by decide +kernel)) ?_
  walk_at "s"
  refine ⟨L, p, lk, b1, b2, ths, [], rfl, S1, ?_⟩
  walk_at "s"
  have p29 : (2 : Nat) ^ 29 = 536870912 := by decide
  refine ⟨_, rfl, by omega, fun H2 q xs ex2 fq hq dq => ?_⟩
  have S2 := S1.ex ex2
  have pl := parts_length (n := min b1.rows.length b2.rows.length) (by omega)
  have pin : ∀ h j, (h, j) ∈ parts (min b1.rows.length b2.rows.length) → (j + 1) * 2 ^ h ≤ min b1.rows.length b2.rows.length := fun h j hm => parts_le hm
  generalize hps : parts (min b1.rows.length b2.rows.length) = ps at dq pl pin
  have hxl := dpAll_len dq
  rw [List.length_map] at hxl
  obtain ⟨l1, h1, _⟩ := S1.ls
  have h2 := ex2 _ _ h1
  have nq : q ≠ lk := fun e => by rw [e, h1] at fq; cases fq
  have G2 : Ex H (hid lk H2) := ex1.trans (hid_mono ex2)
  refine w_iLv (sql hq) (lb_list (K := K) (xs := xs) (fun i σ H' => ∃ (v3 v4 : Option V) (ds : List Look), σ = [some (.ref b1.B), some (.ref b2.B), some (.ref p), v3, v4] ∧ LS K c H' L p lk b1 b2 ths ds ∧ Ex (hid lk H2) (hid lk H') ∧ ds.length = i ∧
      ds ++ (firstM b1.rows b2.rows (ps.drop i)).1 = (firstM b1.rows b2.rows ps).1 ∧ (firstM b1.rows b2.rows (ps.drop i)).2 = (firstM b1.rows b2.rows ps).2) ⟨_, _, [], rfl, S2, ex_refl, rfl, rfl, rfl⟩ ?_ ?_ ?_)
  · rintro i σ H' _ ⟨_, _, _, _, _, e, _⟩
    exact sql (ex_hid _ _ (e _ _ (hid_get hq nq)))
  · rintro i x σ H3 hi ⟨v3, v4, ds, rfl, S3, e3, hd, q1, q2⟩
    obtain ⟨dd, hd1, hd2⟩ := dpAll_get dq hi
    rw [List.getElem?_map] at hd1
    obtain ⟨⟨h, j⟩, hp1, rfl⟩ := Option.map_eq_some_iff.mp hd1
    obtain ⟨t, x1, y1, rfl, ht, hx1, hy1⟩ := dp_tup2 hd2
    have hx1 := dp_int hx1
    have hy1 := dp_int hy1
    subst hx1 hy1
    have hb := pin h j (List.mem_of_getElem? hp1)
    have hh := ht_le hb (by omega)
    have hil := get_lt hp1
    rw [drop_at hp1] at q1 q2
    have ht3 := sqt_ex ex_hid (sqt_ex e3 (sqt_hid ht h2))
    obtain ⟨dx3, hp3⟩ := S3.ob'
    refine w_gTup ht3 rfl ?_
    walk_at "s"
    refine w_methAt hp3 (lkfl_no (by decide +kernel) (by decide +kernel) (by decide +kernel)) ?_
    walk_at "s"
    refine ⟨L, p, lk, b1, b2, ths, ds, h, j, rfl, S3, by omega, by omega, by omega, fun H4 S4 e4 => ?_⟩
    walk_at "s"
    refine ite_nb (fun hb0 => ?_) fun hb0 => ?_
    · rw [hb0] at S4
      have f1 : firstM b1.rows b2.rows ((h, j) :: ps.drop (i + 1)) = ((h, j, false) :: (firstIn b1.rows b2.rows h j).1, some (firstIn b1.rows b2.rows h j).2) := by
        show (if alk b1.rows b2.rows h j = true then _ else _) = _
        rw [hb0, if_neg Bool.false_ne_true]
      rw [f1] at q1 q2
      walk_at "s"
      obtain ⟨dx4, hp4⟩ := S4.ob'
      refine w_methAt hp4 (lkfl_no (by decide +kernel) (by decide +kernel) (by decide +kernel)) ?_
      walk_at "s"
      refine ⟨L, p, lk, b1, b2, ths, _, h, j, rfl, S4, by omega, by omega, by rw [List.length_append]; simp; omega, fun H5 S5 e5 => ?_⟩
      rw [List.append_assoc] at S5
      have q1 : ds ++ ([(h, j, false)] ++ (firstIn b1.rows b2.rows h j).1) = (firstM b1.rows b2.rows ps).1 := q1
      rw [q1] at S5
      obtain ⟨dx5, hp5⟩ := S5.ob'
      walk_at "s"
      refine w_fldAt hp5 T.cLooker T.n_Looker_looks lkfl_looks ?_
      walk_at "s"
      refine ⟨by show 2 ≤ sizeLine; exact sz100 (by decide), fun t5 ht5 => ?_⟩
      have S6 := S5.ex (ex_new (o := .tup [.int ((firstIn b1.rows b2.rows h j).2 : Nat), .ref lk]) ex_refl ht5)
      have G6 : Ex H (hid lk (upd H5 t5 (.tup [.int ((firstIn b1.rows b2.rows h j).2 : Nat), .ref lk]))) := ((G2.trans e3).trans (e4.trans e5)).trans (hid_mono (ex_new ex_refl ht5))
      have G5 : Ex H H5 := ((G2.trans e3).trans (e4.trans e5)).trans ex_hid
      have q2 : some (firstIn b1.rows b2.rows h j).2 = (firstM b1.rows b2.rows ps).2 := q2
      refine k _ t5 lk ⟨G6, fl, ex_free G5 ht5, ?_, ?_⟩
      · rw [upd_same]
        unfold firstR
        rw [hps, ← q2]
        rfl
      · have := S6.ls
        unfold firstR
        rw [hps]
        exact this
    · rw [hb0] at S4
      have f1 : firstM b1.rows b2.rows ((h, j) :: ps.drop (i + 1)) = ((h, j, true) :: (firstM b1.rows b2.rows (ps.drop (i + 1))).1, (firstM b1.rows b2.rows (ps.drop (i + 1))).2) := by
        show (if alk b1.rows b2.rows h j = true then _ else _) = _
        rw [hb0, if_pos rfl]
      rw [f1] at q1 q2
      walk_at "s"
      exact ⟨_, _, _, rfl, S4, e3.trans e4, by rw [List.length_append, hd]; rfl, by rw [List.append_assoc]; exact q1, q2⟩
  · rintro σ H3 ⟨v3, v4, ds, rfl, S3, e3, hd, q1, q2⟩
    rw [hxl, List.drop_length] at q1 q2
    have q1 : ds ++ [] = (firstM b1.rows b2.rows ps).1 := q1
    have q2 : none = (firstM b1.rows b2.rows ps).2 := q2
    rw [List.append_nil] at q1
    rw [q1] at S3
    have tb3 := S3.tb'
    obtain ⟨d1, hB1⟩ := BookAt.ob tb3.a1
    obtain ⟨d2, hB2⟩ := BookAt.ob tb3.a2
    obtain ⟨dx3, hp3⟩ := S3.ob'
    have fin : ∀ (t : Addr) (v : V), H3 t = none → v = plV (firstR b1.rows b2.rows).2 → Q (.ref t) (upd H3 t (.tup [v, .ref lk])) := fun t v ht ev => by
      have S6 := S3.ex (ex_new (o := .tup [v, .ref lk]) ex_refl ht)
      refine k _ t lk ⟨(G2.trans e3).trans (hid_mono (ex_new ex_refl ht)), fl, ex_free ((G2.trans e3).trans ex_hid) ht, by rw [upd_same, ev], ?_⟩
      have := S6.ls
      unfold firstR
      rw [hps]
      exact this
    have e2 : (firstR b1.rows b2.rows).2 = if b1.rows.length = b2.rows.length then none else some (min b1.rows.length b2.rows.length) := by
      unfold firstR
      rw [hps, ← q2]
    walk_at "s"
    refine w_methAt hB1 (bfl_no (by decide +kernel) (by decide +kernel) (by decide +kernel)) ?_
    walk_at "s"
    refine ⟨b1.B, L, b1.ln, b1.lv, b1.lvs, b1.rows, b1.levels, rfl, tb3.a1, ?_⟩
    walk_at "s"
    refine w_methAt hB2 (bfl_no (by decide +kernel) (by decide +kernel) (by decide +kernel)) ?_
    walk_at "s"
    refine ⟨b2.B, L, b2.ln, b2.lv, b2.lvs, b2.rows, b2.levels, rfl, tb3.a2, ?_⟩
    walk_at "s"
    refine ite_d (fun h0 => ?_) fun h0 => ?_
    · walk_at "s"
      refine w_fldAt hp3 T.cLooker T.n_Looker_looks lkfl_looks ?_
      walk_at "s"
      refine ⟨by show 2 ≤ sizeLine; exact sz100 (by decide), fun t5 ht5 => ?_⟩
      refine fin t5 .non ht5 ?_
      rw [e2, if_pos (by omega)]
      rfl
    · walk_at "s"
      refine w_methAt hp3 (lkfl_no (by decide +kernel) (by decide +kernel) (by decide +kernel)) ?_
      walk_at "s"
      refine ⟨L, p, lk, b1, b2, ths, _, rfl, S3, ?_⟩
      walk_at "s"
      refine w_fldAt hp3 T.cLooker T.n_Looker_looks lkfl_looks ?_
      walk_at "s"
      refine ⟨by show 2 ≤ sizeLine; exact sz100 (by decide), fun t5 ht5 => ?_⟩
      refine fin t5 _ ht5 ?_
      rw [e2, if_neg (by omega)]
      rfl
end Tw

namespace Tw
open PySem L2 Ts Mix
theorem cutV_rows (zs : List Str) (lo hi : Option Int) : ∃ ys : List Str, cutV (zs.map V.str) lo hi = ys.map V.str ∧ ys.length ≤ zs.length ∧ ∀ y ∈ ys, y ∈ zs := by
  unfold cutV
  refine ⟨_, by rw [← List.map_drop, ← List.map_take], ?_, fun y hy => List.mem_of_mem_drop (List.mem_of_mem_take hy)⟩
  rw [List.length_take, List.length_drop]
  omega
theorem NewRows.cut {H H' : Hp} {a p : Addr} {zs ys : List Str} (N : NewRows H H' a zs) (hp : H' p = none) (h : ∀ y ∈ ys, y ∈ zs) : NewRows H (upd H' p (.lst (ys.map V.str))) p ys :=
  ⟨ex_free N.ex hp, upd_same, ex_new N.ex hp, fun z hz => N.good z (h z hz)⟩
theorem NewRows.set {H H' : Hp} {a : Addr} {zs : List Str} {i : Nat} {z : Str} (N : NewRows H H' a zs) (hz : Good z) : NewRows H (upd H' a (.lst ((zs.map V.str).set i (.str z)))) a (zs.set i z) :=
  ⟨N.new, by rw [upd_same, List.map_set], ex_mut N.ex N.new, fun x hx => by
    rcases List.mem_or_eq_of_mem_set hx with r | r
    · exact N.good x r
    · rw [r]; exact hz⟩
def N_law_twin : List Str := ["_law_rows_here", "_law_cell", "_law_other", "_law_k", "_law_at", "_law_way"]
def t_law_twin (K : PySem.W.Frag) (c : Cs) (E : XK) : TS := (tSeq (tAsg (tCB (rListOf K) (tCons (tVar 0) tNil)) (gName 2))
  (tSeq (tFor (iRng1 (tCons (tOp (rIx K) (tLst (tCons (tC (.int 0)) (tCons (tC (.int 1)) (tCons (tC (.int 1)) (tCons (tC (.int 2)) (tCons (tC (.int 5)) tNil)))))) (tOp rMod (tVar 1) (tC (.int 5)))) tNil)) (gName 3) (tIfS (tTest (tOp rGt (tCB (Ts.rLen K) (tCons (tVar 2) tNil)) (tC (.int 0)))) (tSeq (tAsg (tOp rMod (tCall (sp_law_mix K c) [] E0 (tCons (tVar 1) (tCons (tOp rAddU (tC (.int 70)) (tVar 3)) tNil))) (tCB (Ts.rLen K) (tCons (tVar 2) tNil))) (gName 4))
  (Evl.tCut (tIfS (tTest (tOp (rEqU K) (tOp rMod (tCall (sp_law_mix K c) [] E0 (tCons (tVar 1) (tCons (tOp rAddU (tC (.int 90)) (tVar 3)) tNil))) (tC (.int 3))) (tC (.int 0)))) (tAsg (tOp (rIx K) (tLst (tCons (tC (.int 0)) (tCons (tOp rSubI (tCB (Ts.rLen K) (tCons (tVar 2) tNil)) (tC (.int 1))) (tCons (tOp rDiv (tCB (Ts.rLen K) (tCons (tVar 2) tNil)) (tC (.int 2))) tNil)))) (tOp rMod (tCall (sp_law_mix K c) [] E0 (tCons (tVar 1) (tCons (tOp rAddU (tC (.int 80)) (tVar 3)) tNil))) (tC (.int 3)))) (gName 4)) tNext)
  (tAsg (tCall (sp_law_near K c) [] E0 (tCons (tOp (rIx K) (tVar 2) (tVar 4)) (tCons (tCall (sp_law_mix K c) [] E0 (tCons (tVar 1) (tCons (tOp rAddU (tC (.int 60)) (tVar 3)) tNil))) tNil))) (gSub (tVar 2) (tVar 4) rSetL)))) tNext))
  (tSeq (tAsg (tOp rMod (tOp rDiv (tVar 1) (tC (.int 5))) (tC (.int 6))) (gName 5))
  (Evl.tCut (tIfS (tTest (tOp (rEqU K) (tVar 5) (tC (.int 1)))) (tAsg (tSl (rSlU K) (tVar 2) tNoPart (tPart (tOp rMod (tCall (sp_law_mix K c) [] E0 (tCons (tVar 1) (tCons (tC (.int 50)) tNil))) (tOp rAddU (tC (.int 1)) (tCB (Ts.rLen K) (tCons (tVar 2) tNil)))))) (gName 2)) tNext)
  (Evl.tCut (tIfS (tTest (tOp (rEqU K) (tVar 5) (tC (.int 2)))) (tAsg (tOp rAddU (tVar 2) (tLc (iRng1 (tCons (tOp rAddU (tC (.int 1)) (tOp rMod (tCall (sp_law_mix K c) [] E0 (tCons (tVar 1) (tCons (tC (.int 51)) tNil))) (tC (.int 9)))) tNil)) (gName 3) tYes (tCall (sp_law_text K c) [] E0 (tCons (tCall (sp_law_mix K c) [] E0 (tCons (tVar 1) (tCons (tOp rAddU (tC (.int 40)) (tVar 3)) tNil))) tNil)) [3])) (gName 2)) tNext)
  (Evl.tCut (tIfS (tTest (tOp (rEqU K) (tVar 5) (tC (.int 3)))) (tAsg (tSl (rSlU K) (tVar 2) tNoPart (tPart (tUn (rU fun i => .int (-i)) (tC (.int 1))))) (gName 2)) tNext)
  (tRet (tVar 2))))))))
def sp_law_twin (K : PySem.W.Frag) (_ : Cs) : Sp := fun vs H Q _ => ∃ (r : Addr) (zs : List Str) (n : Int), vs = [.ref r, .int n] ∧ H r = some (.lst (zs.map V.str)) ∧ (∀ z ∈ zs, Good z) ∧ zs.length ≤ 100000 ∧ ∀ a ys H', NewRows H H' a ys → ys.length ≤ zs.length + 9 → Q (.ref a) H'
theorem len_law_twin {K c} : ∀ vs H Q E, sp_law_twin K c vs H Q E → vs.length = 2 := by rintro vs H Q E ⟨_, _, _, rfl, _⟩; rfl
theorem pure_law_twin {K : PySem.W.Frag} {c : Cs} {vs : List V} {H : Hp} {Q : VK} {E : XK} (g : sp_law_twin K c vs H Q E) : t_law_twin K c E ⟨fun _ H' => Q .non H', Q, fun _ _ => False, fun _ _ => False⟩ (start N_law_twin vs) H := by
  obtain ⟨r, zs, n, rfl, hr, hg, hl, q⟩ := g
  show t_law_twin K c E _ [some (.ref r), some (.int n), none, none, none, none] H
  unfold t_law_twin
  walk_at "s"
  refine w_listL (sql hr) fun p hp => ?_
  walk_at "s"
  have N1 : NewRows H (upd H p (.lst (zs.map V.str))) p zs := ⟨hp, upd_same, ex_new ex_refl hp, hg⟩
  generalize upd H p (.lst (zs.map V.str)) = H1 at N1
  refine ⟨by show 5 ≤ sizeLine; exact sz100 (by decide), fun m hm => ?_⟩
  walk_at "s"
  have N2 : NewRows H (upd H1 m (.lst [.int 0, .int 1, .int 1, .int 2, .int 5])) p zs := ⟨N1.new, ex_new ex_refl hm _ _ N1.at', ex_new N1.ex hm, hg⟩
  refine w_ixAny (sql upd_same) (by omega) (by show _ < ((5 : Nat) : Int); omega) fun v hv => ?_
  generalize upd H1 m (.lst [.int 0, .int 1, .int 1, .int 2, .int 5]) = H2 at N2
  obtain ⟨k, hk, rfl⟩ : ∃ k : Nat, k ≤ 5 ∧ v = .int (k : Nat) := by
    simp only [List.mem_cons, List.not_mem_nil, or_false] at hv
    rcases hv with rfl | rfl | rfl | rfl | rfl
    · exact ⟨0, by decide, rfl⟩
    · exact ⟨1, by decide, rfl⟩
    · exact ⟨1, by decide, rfl⟩
    · exact ⟨2, by decide, rfl⟩
    · exact ⟨5, by decide, rfl⟩
  clear hv
  walk_at "s"
  refine w_iR1v (by omega) (by omega) ?_
  rw [Int.toNat_natCast]
  refine lb_range0 (fun i σ H' => ∃ (ys : List Str) (v3 v4 : Option V), ys.length = zs.length ∧ NewRows H H' p ys ∧ σ = [some (.ref r), some (.int n), some (.ref p), v3, v4, none]) ⟨zs, _, _, rfl, N2, rfl⟩ ?_ ?_
  · rintro i σ H3 hi ⟨ys, v3, v4, hy, N, rfl⟩
    walk_at "s"
    refine w_lenL (sql N.at') ?_
    rw [List.length_map]
    walk_at "s"
    refine ite_d (fun h0 => ?_) fun h0 => ?_
    · have h0 : 0 < ys.length := by omega
      walk_at "s"
      refine ⟨n, _, rfl, fun r1 _ => ?_⟩
      walk_at "s"
      refine w_lenL (sql N.at') ?_
      rw [List.length_map]
      try refine w_mod (by omega) ?_
      rw [cast_mod]
      walk_at "s"
      refine w_cut (Mid := fun σ' H' => ∃ (at1 : Nat), at1 < ys.length ∧ NewRows H H' p ys ∧ σ' = [some (.ref r), some (.int n), some (.ref p), some (.int (i : Nat)), some (.int (at1 : Nat)), none]) ?_ ?_
      · walk_at "s"
        refine ⟨n, _, rfl, fun r2 _ => ?_⟩
        walk_at "s"
        refine ite_d (fun h1 => ?_) fun h1 => ?_
        · walk_at "s"
          refine w_lenL (sql N.at') ?_
          rw [List.length_map]
          walk_at "s"
          refine w_lenL (sql N.at') ?_
          rw [List.length_map]
          walk_at "s"
          refine ⟨by show 3 ≤ sizeLine; exact sz100 (by decide), fun m2 hm2 => ?_⟩
          walk_at "s"
          refine ⟨n, _, rfl, fun r3 _ => ?_⟩
          walk_at "s"
          refine w_ixAny (sql upd_same) (by omega) (by show _ < ((3 : Nat) : Int); omega) fun v hv => ?_
          walk_at "s"
          simp only [List.mem_cons, List.not_mem_nil, or_false] at hv
          obtain ⟨at1, ha, rfl⟩ : ∃ at1 : Nat, at1 < ys.length ∧ v = .int (at1 : Nat) := by
            rcases hv with rfl | rfl | rfl
            · exact ⟨0, h0, rfl⟩
            · exact ⟨ys.length - 1, by omega, by congr 1; omega⟩
            · exact ⟨ys.length / 2, by omega, by congr 1⟩
          exact ⟨at1, ha, ⟨N.new, ex_new ex_refl hm2 _ _ N.at', ex_new N.ex hm2, N.good⟩, rfl⟩
        · walk_at "s"
          exact ⟨_, Nat.mod_lt _ h0, N, rfl⟩
      · rintro σ H4 ⟨at1, ha, N4, rfl⟩
        have ga := List.getElem?_eq_getElem ha
        walk_at "s"
        refine w_ixL (sql N4.at') (atI_nat (v := .str ys[at1]) (by rw [List.getElem?_map, ga]; rfl)) ?_
        walk_at "s"
        refine ⟨n, _, rfl, fun r5 _ => ?_⟩
        refine ⟨_, _, rfl, N4.good _ (List.getElem_mem ha), fun z hz => ?_⟩
        walk_at "s"
        exact w_setL N4.at' (by rw [List.length_map]; exact ha) ⟨_, _, _, by rw [List.length_set]; exact hy, N4.set hz, rfl⟩
    · walk_at "s"
      exact ⟨ys, _, _, hy, N, rfl⟩
  rintro σ H3 ⟨ys, v3, v4, hy, N, rfl⟩
  walk_at "s"
  have hys : ys.length ≤ zs.length := by omega
  clear N2 N1 hm hk hy hp
  refine w_cut (Mid := fun σ' H' => ∃ (p : Addr) (ys : List Str), ys.length ≤ zs.length ∧ NewRows H H' p ys ∧ σ' = [some (.ref r), some (.int n), some (.ref p), v3, v4, some (.int (n / 5 % 6))]) ?_ ?_
  · walk_at "s"
    refine ite_d (fun h1 => ?_) fun h1 => ?_
    · walk_at "s"
      refine ⟨n, _, rfl, fun r1 _ => ?_⟩
      walk_at "s"
      refine w_lenL (sql N.at') ?_
      rw [List.length_map]
      walk_at "s"
      try refine w_mod (by omega) ?_
      walk_at "s"
      refine w_slL (sql N.at') fun p2 hp2 => ?_
      obtain ⟨xs, e1, e2, e3⟩ := cutV_rows ys none (some ((r1 : Int) % (1 + (ys.length : Nat))))
      rw [e1]
      walk_at "s"
      exact ⟨p2, xs, by omega, N.cut hp2 e3, rfl⟩
    · walk_at "s"
      exact ⟨p, ys, hys, N, rfl⟩
  rintro σ H4 ⟨p, ys, hys, N, rfl⟩
  refine w_cut (Mid := fun σ' H' => ∃ (p : Addr) (ys : List Str), ys.length ≤ zs.length + 9 ∧ NewRows H H' p ys ∧ σ' = [some (.ref r), some (.int n), some (.ref p), v3, v4, some (.int (n / 5 % 6))]) ?_ ?_
  · walk_at "s"
    refine ite_d (fun h1 => ?_) fun h1 => ?_
    · walk_at "s"
      refine ⟨n, _, rfl, fun r1 _ => ?_⟩
      walk_at "s"
      refine ⟨_, rfl, by omega, by omega, fun D hD => ?_⟩
      have nD : p ≠ D := ne_of_none N.at' hD
      refine lcb_range (fun i H' => ∃ (xs : List Str), xs.length = i ∧ (∀ x ∈ xs, Good x) ∧ H' D = some (.lst (xs.map V.str)) ∧ Ex H4 H') ⟨[], rfl, fun x hx => (nomatch hx), upd_same, ex_new ex_refl hD⟩ ?_ ?_
      · rintro i H5 hi ⟨xs, hx, gx, hD5, ex5⟩
        show gName 3 _ [some (.ref r), some (.int n), some (.ref p), none, v4, some (.int (n / 5 % 6))] _ _
        walk_at "s"
        refine ⟨rfl, ?_⟩
        walk_at "s"
        rw [if_pos rfl]
        walk_at "s"
        refine ⟨n, _, rfl, fun r2 _ => ?_⟩
        walk_at "s"
        refine ⟨_, rfl, fun z H6 gz ex6 => ?_⟩
        exact ⟨_, ex6 _ _ hD5, by rw [List.length_map]; exact szL (by omega), xs ++ [z], by simp [hx], good_snoc gx gz, by rw [upd_same, map_snoc], ex_mut (ex5.trans ex6) hD⟩
      · rintro H5 ⟨xs, hx, gx, hD5, ex5⟩
        refine w_addL (ex5 _ _ N.at') hD5 (szM (by rw [List.length_map, List.length_map]; omega)) fun p2 hp2 => ?_
        walk_at "s"
        refine ⟨p2, ys ++ xs, by rw [List.length_append]; omega, ⟨ex_free (N.ex.trans ex5) hp2, ?_, ex_new (N.ex.trans ex5) hp2, fun z hz => ?_⟩, rfl⟩
        · rw [upd_same, List.map_append]
        · rcases List.mem_append.mp hz with w | w
          · exact N.good z w
          · exact gx z w
    · walk_at "s"
      exact ⟨p, ys, by omega, N, rfl⟩
  rintro σ H5 ⟨p, ys, hys, N, rfl⟩
  refine w_cut (Mid := fun σ' H' => ∃ (p : Addr) (ys : List Str), ys.length ≤ zs.length + 9 ∧ NewRows H H' p ys ∧ σ' = [some (.ref r), some (.int n), some (.ref p), v3, v4, some (.int (n / 5 % 6))]) ?_ ?_
  · walk_at "s"
    refine ite_d (fun h1 => ?_) fun h1 => ?_
    · walk_at "s"
      refine w_slL (sql N.at') fun p2 hp2 => ?_
      obtain ⟨xs, e1, e2, e3⟩ := cutV_rows ys none (some (-1))
      rw [e1]
      walk_at "s"
      exact ⟨p2, xs, by omega, N.cut hp2 e3, rfl⟩
    · walk_at "s"
      exact ⟨p, ys, by omega, N, rfl⟩
  rintro σ H6 ⟨p, ys, hys, N, rfl⟩
  walk_at "s"
  exact q p ys H6 N hys
end Tw

namespace Tw
open PySem L2 Ts Mix
def N_law_change : List Str := ["_law_book", "_law_rows_here", "_law_others", "_law_cell", "_law_kind", "_law_text_here", "_law_place"]
def t_law_change (K : PySem.W.Frag) (c : Cs) (E : XK) : TS := (tSeq (tAsg (tOp rMod (tVar 3) (tC (.int 6))) (gName 4))
  (tSeq (tAsg (tCall (sp_law_text K c) [] E0 (tCons (tOp rMod (tCall (sp_law_mix K c) [] E0 (tCons (tVar 3) (tCons (tC (.int 1)) tNil))) (tOp (rIx K) (tLst (tCons (tC (.int 9)) (tCons (tC (.int 99991)) tNil))) (tOp rMod (tOp rDiv (tVar 3) (tC (.int 6))) (tC (.int 2))))) tNil)) (gName 5))
  (tIfS (tAnd (tTest (tOp rLt (tVar 4) (tC (.int 4)))) (tTest (tOp rGt (tCB (Ts.rLen K) (tCons (tVar 1) tNil)) (tC (.int 0))))) (tSeq (tAsg (tOp rMod (tCall (sp_law_mix K c) [] E0 (tCons (tVar 3) (tCons (tC (.int 2)) tNil))) (tCB (Ts.rLen K) (tCons (tVar 1) tNil))) (gName 6))
  (Evl.tCut (tIfS (tAnd (tTest (tOp (rEqU K) (tVar 4) (tC (.int 0)))) (tTest (tOp rLt (tVar 6) (tCB (Ts.rLen K) (tCons (tVar 2) tNil))))) (tAsg (tOp (rIx K) (tVar 2) (tVar 6)) (gName 5)) tNext)
  (Evl.tCut (tIfS (tTest (tOp (rEqU K) (tVar 4) (tC (.int 1)))) (tAsg (tCall (sp_law_near K c) [] E0 (tCons (tOp (rIx K) (tVar 1) (tVar 6)) (tCons (tCall (sp_law_mix K c) [] E0 (tCons (tVar 3) (tCons (tC (.int 3)) tNil))) tNil))) (gName 5)) tNext)
  (tSeq (tDrop (tMeth c.Book "put" (sp_Book_put K c) [] E0 (tVar 0) (tCons (tVar 6) (tCons (tVar 5) tNil))))
  (tAsg (tVar 5) (gSub (tVar 1) (tVar 6) rSetL)))))) (tIfS (tAnd (tTest (tOp (rEqU K) (tVar 4) (tC (.int 4)))) (tTest (tOp rGt (tCB (Ts.rLen K) (tCons (tVar 1) tNil)) (tC (.int 0))))) (tSeq (tDrop (tMeth c.Book "cut" (sp_Book_cut K c) [] E0 (tVar 0) tNil))
  (tDrop (tBM0 K "list" rPop (tVar 1)))) (tSeq (tIfS (tAnd (tTest (tOp rLt (tCB (Ts.rLen K) (tCons (tVar 1) tNil)) (tCB (Ts.rLen K) (tCons (tVar 2) tNil)))) (tTest (tOp rGt (tOp rMod (tOp rDiv (tVar 3) (tC (.int 6))) (tC (.int 3))) (tC (.int 0))))) (tAsg (tOp (rIx K) (tVar 2) (tCB (Ts.rLen K) (tCons (tVar 1) tNil))) (gName 5)) tNext)
  (tSeq (tDrop (tMeth c.Book "add" (sp_Book_add K c) [] E0 (tVar 0) (tCons (tVar 5) tNil)))
  (tDrop (tBM K "list" rAppend (tVar 1) (tCons (tVar 5) tNil)))))))))
def sp_law_change (K : PySem.W.Frag) (c : Cs) : Sp := fun vs H Q _ => ∃ (B L d l ln lv a o : Addr) (lvs : List Addr) (ths : List MK) (xs : List V) (rows others : List Str) (levels : List (List Nat)) (n : Int), vs = [.ref B, .ref a, .ref o, .int n] ∧ LedgerAt c H L d l ths xs ∧ Bk c H L d l ths B ln lv lvs a rows levels ∧
  H o = some (.lst (others.map V.str)) ∧ (∀ z ∈ others, Good z) ∧ rows.length ≤ 1000 ∧ ths.length < 800000 ∧ ∀ H', Deed c H H' L d l ths B ln lv lvs a rows.length → Q .non H'
theorem len_law_change {K c} : ∀ vs H Q E, sp_law_change K c vs H Q E → vs.length = 4 := by rintro vs H Q E ⟨_, _, _, _, _, _, _, _, _, _, _, _, _, _, _, rfl, _⟩; rfl
theorem pure_law_change {K : PySem.W.Frag} {c : Cs} {vs : List V} {H : Hp} {Q : VK} {E : XK} (T : TxK K c) (h : sp_law_change K c vs H Q E) : t_law_change K c E ⟨fun _ H' => Q .non H', Q, fun _ _ => False, fun _ _ => False⟩ (start N_law_change vs) H := by
  obtain ⟨B, L, d, l, ln, lv, a, o, lvs, ths, xs, rows, others, levels, n, rfl, L0, b0, ho0, go, hr, hz, q⟩ := h
  show t_law_change K c E _ [some (.ref B), some (.ref a), some (.ref o), some (.int n), none, none, none] H
  unfold t_law_change
  walk_at "s"
  refine ⟨n, 1, rfl, fun r _ => ?_⟩
  walk_at "s"
  refine ⟨by show 2 ≤ sizeLine; exact sz100 (by decide), fun p hp => ?_⟩
  walk_at "s"
  refine w_ixAny (sql upd_same) (by omega) (by show _ < ((2 : Nat) : Int); omega) fun v hv => ?_
  obtain ⟨j, hj, rfl⟩ : ∃ j : Int, 0 < j ∧ v = .int j := by
    rcases List.mem_cons.mp hv with e | hv
    · exact ⟨_, by decide, e⟩
    · exact ⟨_, by decide, List.mem_singleton.mp hv⟩
  refine w_mod hj ?_
  refine ⟨_, rfl, fun z H1 gz ex1 => ?_⟩
  have ex2 : Ex H H1 := (ex_new ex_refl hp).trans ex1
  have L1 := L0.ex ex2
  have b := b0.ex ex2
  have ho := ex2 _ _ ho0
  have q1 : ∀ H', Deed c H1 H' L d l ths B ln lv lvs a rows.length → Q .non H' := fun H' D => q H' (deed_ex ex2 D)
  clear q hp ex1 ex2 L0 b0 ho0
  obtain ⟨dx, hB⟩ := b.ba.ob
  have len : SqL K H1 a (rows.map V.str) := sql b.kept
  have leno : SqL K H1 o (others.map V.str) := sql ho
  have add : ∀ z v6, Good z → tSeq (tDrop (tMeth c.Book "add" (sp_Book_add K c) [] E0 (tVar 0) (tCons (tVar 5) tNil))) (tDrop (tBM K "list" rAppend (tVar 1) (tCons (tVar 5) tNil)))
      ⟨fun _ H' => Q .non H', Q, fun _ _ => False, fun _ _ => False⟩ [some (.ref B), some (.ref a), some (.ref o), some (.int n), some (.int (n % 6)), some (.str z), v6] H1 := fun z v6 gz => by
    walk_at "s"
    refine w_methAt hB (bfl_no (by decide +kernel) (by decide +kernel) (by decide +kernel)) ?_
    walk_at "s"
    refine deed_add T L1 b hr hz gz fun H' h1 D => ?_
    walk_at "s"
    refine ⟨w_tyL (sql h1), ?_⟩
    walk_at "s"
    exact w_app h1 (by rw [List.length_map]; exact szL (by omega)) (q1 _ D)
  have put : ∀ z (place : Nat), Good z → place < rows.length → tSeq (tDrop (tMeth c.Book "put" (sp_Book_put K c) [] E0 (tVar 0) (tCons (tVar 6) (tCons (tVar 5) tNil)))) (tAsg (tVar 5) (gSub (tVar 1) (tVar 6) rSetL))
      ⟨fun _ H' => Q .non H', Q, fun _ _ => False, fun _ _ => False⟩ [some (.ref B), some (.ref a), some (.ref o), some (.int n), some (.int (n % 6)), some (.str z), some (.int (place : Nat))] H1 := fun z place gz hp => by
    walk_at "s"
    refine w_methAt hB (bfl_no (by decide +kernel) (by decide +kernel) (by decide +kernel)) ?_
    walk_at "s"
    refine deed_put T L1 b hr hz hp gz fun H' h1 D => ?_
    walk_at "s"
    exact w_setL h1 (by rw [List.length_map]; exact hp) (q1 _ D)
  have last : tSeq (tIfS (tAnd (tTest (tOp rLt (tCB (Ts.rLen K) (tCons (tVar 1) tNil)) (tCB (Ts.rLen K) (tCons (tVar 2) tNil)))) (tTest (tOp rGt (tOp rMod (tOp rDiv (tVar 3) (tC (.int 6))) (tC (.int 3))) (tC (.int 0))))) (tAsg (tOp (rIx K) (tVar 2) (tCB (Ts.rLen K) (tCons (tVar 1) tNil))) (gName 5)) tNext)
      (tSeq (tDrop (tMeth c.Book "add" (sp_Book_add K c) [] E0 (tVar 0) (tCons (tVar 5) tNil))) (tDrop (tBM K "list" rAppend (tVar 1) (tCons (tVar 5) tNil))))
      ⟨fun _ H' => Q .non H', Q, fun _ _ => False, fun _ _ => False⟩ [some (.ref B), some (.ref a), some (.ref o), some (.int n), some (.int (n % 6)), some (.str z), none] H1 := by
    refine w_seq ?_
    walk_at "s"
    refine w_lenL len ?_
    rw [List.length_map]
    walk_at "s"
    refine w_lenL leno ?_
    rw [List.length_map]
    walk_at "s"
    refine ite_d (fun h0 => ?_) fun h0 => ?_
    · have hlt : rows.length < others.length := by omega
      walk_at "s"
      refine ite_d (fun h1 => ?_) fun h1 => ?_
      · walk_at "s"
        refine w_lenL len ?_
        rw [List.length_map]
        refine w_ixL leno (atI_nat (v := .str others[rows.length]) (by rw [List.getElem?_map, List.getElem?_eq_getElem hlt]; rfl)) ?_
        exact add _ _ (go _ (List.getElem_mem hlt))
      · exact add z _ gz
    · exact add z _ gz
  have elif : tIfS (tAnd (tTest (tOp (rEqU K) (tVar 4) (tC (.int 4)))) (tTest (tOp rGt (tCB (Ts.rLen K) (tCons (tVar 1) tNil)) (tC (.int 0))))) (tSeq (tDrop (tMeth c.Book "cut" (sp_Book_cut K c) [] E0 (tVar 0) tNil))
      (tDrop (tBM0 K "list" rPop (tVar 1)))) (tSeq (tIfS (tAnd (tTest (tOp rLt (tCB (Ts.rLen K) (tCons (tVar 1) tNil)) (tCB (Ts.rLen K) (tCons (tVar 2) tNil)))) (tTest (tOp rGt (tOp rMod (tOp rDiv (tVar 3) (tC (.int 6))) (tC (.int 3))) (tC (.int 0))))) (tAsg (tOp (rIx K) (tVar 2) (tCB (Ts.rLen K) (tCons (tVar 1) tNil))) (gName 5)) tNext)
      (tSeq (tDrop (tMeth c.Book "add" (sp_Book_add K c) [] E0 (tVar 0) (tCons (tVar 5) tNil))) (tDrop (tBM K "list" rAppend (tVar 1) (tCons (tVar 5) tNil)))))
      ⟨fun _ H' => Q .non H', Q, fun _ _ => False, fun _ _ => False⟩ [some (.ref B), some (.ref a), some (.ref o), some (.int n), some (.int (n % 6)), some (.str z), none] H1 := by
    walk_at "s"
    refine ite_d (fun h0 => ?_) fun h0 => ?_
    · walk_at "s"
      refine w_lenL len ?_
      rw [List.length_map]
      walk_at "s"
      refine ite_d (fun h2 => ?_) fun h2 => ?_
      · have ne : rows ≠ [] := fun e => by rw [e] at h2; simp at h2
        walk_at "s"
        refine w_methAt hB (bfl_no (by decide +kernel) (by decide +kernel) (by decide +kernel)) ?_
        walk_at "s"
        refine deed_cut T L1 b hr hz ne fun H' h1 D => ?_
        walk_at "s"
        refine ⟨w_tyL (sql h1), ?_⟩
        obtain ⟨y, ey, _⟩ := getLast_at (l := rows.map V.str) (fun z => ne (List.map_eq_nil_iff.mp z))
        exact w_pop h1 ey (q1 _ D)
      · exact last
    · exact last
  walk_at "s"
  refine ite_d (fun h0 => ?_) fun h0 => ?_
  · walk_at "s"
    refine w_lenL len ?_
    rw [List.length_map]
    walk_at "s"
    refine ite_d (fun h2 => ?_) fun h2 => ?_
    · have hpos : 0 < rows.length := by omega
      walk_at "s"
      refine ⟨n, 2, rfl, fun r _ => ?_⟩
      walk_at "s"
      refine w_lenL len ?_
      rw [List.length_map]
      try refine w_mod (by omega) ?_
      rw [cast_mod]
      have hp := Nat.mod_lt r hpos
      generalize r % rows.length = place at hp
      walk_at "s"
      have gp := List.getElem?_eq_getElem hp
      refine w_cut (Mid := fun σ' H' => H1 = H' ∧ ∃ z, Good z ∧ σ' = [some (.ref B), some (.ref a), some (.ref o), some (.int n), some (.int (n % 6)), some (.str z), some (.int (place : Nat))]) ?_ ?_
      · walk_at "s"
        refine ite_d (fun h3 => ?_) fun h3 => ?_
        · walk_at "s"
          refine w_lenL leno ?_
          rw [List.length_map]
          walk_at "s"
          refine ite_d (fun h4 => ?_) fun h4 => ?_
          · have h4 : place < others.length := by omega
            walk_at "s"
            refine w_ixL leno (atI_nat (v := .str others[place]) (by rw [List.getElem?_map, List.getElem?_eq_getElem h4]; rfl)) ?_
            exact ⟨rfl, _, go _ (List.getElem_mem h4), rfl⟩
          · exact ⟨rfl, z, gz, rfl⟩
        · exact ⟨rfl, z, gz, rfl⟩
      rintro σ H2 ⟨rfl, z1, gz1, rfl⟩
      refine w_cut (Mid := fun σ' H' => H1 = H' ∧ ∃ z, Good z ∧ σ' = [some (.ref B), some (.ref a), some (.ref o), some (.int n), some (.int (n % 6)), some (.str z), some (.int (place : Nat))]) ?_ ?_
      · walk_at "s"
        refine ite_d (fun h3 => ?_) fun h3 => ?_
        · walk_at "s"
          refine w_ixL len (atI_nat (v := .str rows[place]) (by rw [List.getElem?_map, gp]; rfl)) ?_
          walk_at "s"
          refine ⟨n, 3, rfl, fun r5 _ => ?_⟩
          refine ⟨_, _, rfl, b.good _ (List.getElem_mem hp), fun z2 hz2 => ?_⟩
          exact ⟨rfl, z2, hz2, rfl⟩
        · exact ⟨rfl, z1, gz1, rfl⟩
      rintro σ H2 ⟨rfl, z2, gz2, rfl⟩
      exact put z2 place gz2 hp
    · exact elif
  · exact elif
end Tw

namespace Tw
open PySem L2 Ts Mix
/-- the law's two books, and what it keeps beside -/
structure Books (c : Cs) (H H' : Hp) (t bl kl : Addr) (L d l : Addr) (b1 b2 : BR) (ths : List MK) (xs : List V) : Prop where
  tt : H' t = some (.tup [.ref bl, .ref kl])
  tb : H' bl = some (.lst [.ref b1.B, .ref b2.B])
  tk : H' kl = some (.lst [.ref b1.a, .ref b2.a])
  two : Two c H H' L d l [t, kl, bl] b1 b2 ths xs 1000 33000
def N_law_books : List Str := ["_law_script", "_law_ledger", "_law_rows_here", "_law_other", "_law_books_here", "_law_kept", "_law_cell", "_law_turn"]
def t_law_books (K : PySem.W.Frag) (c : Cs) (E : XK) : TS := (tSeq (tAsg (tMake c.Ledger (sp_Ledger_init K c) [] E0 tNil) (gName 1))
  (tSeq (tAsg (tCall (sp_law_rows K c) [] E0 (tCons (tCall (sp_law_cell_at K c) [] E0 (tCons (tVar 0) (tCons (tC (.int 0)) tNil))) (tCons (tCall (sp_law_cell_at K c) [] E0 (tCons (tVar 0) (tCons (tC (.int 1)) tNil))) tNil))) (gName 2))
  (tSeq (tAsg (tCall (sp_law_twin K c) [] E0 (tCons (tVar 2) (tCons (tCall (sp_law_cell_at K c) [] E0 (tCons (tVar 0) (tCons (tC (.int 2)) tNil))) tNil))) (gName 3))
  (Evl.tCut (tIfS (tTest (tOp (rEqU K) (tOp rMod (tOp rDiv (tCall (sp_law_cell_at K c) [] E0 (tCons (tVar 0) (tCons (tC (.int 1)) tNil))) (tC (.int 5))) (tC (.int 7))) (tC (.int 1)))) (tAsg (tCall (sp_law_rows K c) [] E0 (tCons (tCall (sp_law_cell_at K c) [] E0 (tCons (tVar 0) (tCons (tC (.int 2)) tNil))) (tCons (tCall (sp_law_cell_at K c) [] E0 (tCons (tVar 0) (tCons (tC (.int 1)) tNil))) tNil))) (gName 3)) tNext)
  (tSeq (tAsg (tLst (tCons (tMake c.Book (sp_Book_init K c) [] E0 (tCons (tVar 1) (tCons (tCB (rListOf K) (tCons (tVar 2) tNil)) tNil))) (tCons (tMake c.Book (sp_Book_init K c) [] E0 (tCons (tVar 1) (tCons (tCB (rListOf K) (tCons (tVar 3) tNil)) tNil))) tNil))) (gName 4))
  (tSeq (tAsg (tLst (tCons (tVar 2) (tCons (tVar 3) tNil))) (gName 5))
  (tSeq (tFor (iList K (tSl (rSlU K) (tVar 0) (tPart (tC (.int 3))) (tPart (tOp rAddU (tC (.int 3)) (tCall (sp_law_room K c) [] E0 (tCons (tVar 0) (tCons (tC (.int 8)) (tCons (tC (.int 30)) tNil)))))))) (gName 6) (tSeq (tAsg (tOp rMod (tVar 6) (tC (.int 2))) (gName 7))
  (tDrop (tCall (sp_law_change K c) [] E0 (tCons (tOp (rIx K) (tVar 4) (tVar 7)) (tCons (tOp (rIx K) (tVar 5) (tVar 7)) (tCons (tOp (rIx K) (tVar 5) (tOp rSubI (tC (.int 1)) (tVar 7))) (tCons (tOp rDiv (tVar 6) (tC (.int 2))) tNil))))))))
  (tRet (tTup (tCons (tVar 4) (tCons (tVar 5) tNil)))))))))))
def sp_law_books (K : PySem.W.Frag) (c : Cs) : Sp := fun vs H Q _ => ∃ (s : Addr) (ns : List Int), vs = [.ref s] ∧ SqL K H s (ns.map V.int) ∧ ns.length ≤ 63 ∧ ∀ H' t bl kl L d l b1 b2 ths xs, Books c H H' t bl kl L d l b1 b2 ths xs → Q (.ref t) H'
theorem len_law_books {K c} : ∀ vs H Q E, sp_law_books K c vs H Q E → vs.length = 1 := by rintro vs H Q E ⟨_, _, rfl, _⟩; rfl
theorem pure_law_books {K : PySem.W.Frag} {c : Cs} {vs : List V} {H : Hp} {Q : VK} {E : XK} (T : TxK K c) (g : sp_law_books K c vs H Q E) : t_law_books K c E ⟨fun _ H' => Q .non H', Q, fun _ _ => False, fun _ _ => False⟩ (start N_law_books vs) H := by
  obtain ⟨s, ns, rfl, hs, hl, q⟩ := g
  show t_law_books K c E _ [some (.ref s), none, none, none, none, none, none, none] H
  unfold t_law_books
  walk_at "s"
  refine new_ledger fun L d l H1 fL fd fl L1 e1 => ?_
  walk_at "s"
  refine ⟨s, ns, 0, rfl, sql_ex e1 hs, fun z0 => ?_⟩
  walk_at "s"
  refine ⟨s, ns, 1, rfl, sql_ex e1 hs, fun z1 => ?_⟩
  walk_at "s"
  refine ⟨z0, z1, rfl, fun a zs H2 N hz => ?_⟩
  have e2 := e1.trans N.ex
  walk_at "s"
  refine ⟨s, ns, 2, rfl, sql_ex e2 hs, fun z2 => ?_⟩
  walk_at "s"
  refine ⟨a, zs, z2, rfl, N.at', N.good, by omega, fun a2 ys H3 M hy => ?_⟩
  walk_at "s"
  refine w_cut (Mid := fun σ' H' => ∃ (a2 : Addr) (ys : List Str), ys.length ≤ 909 ∧ NewRows H2 H' a2 ys ∧ σ' = [some (.ref s), some (.ref L), some (.ref a), some (.ref a2), none, none, none, none]) ?_ ?_
  · walk_at "s"
    refine ⟨s, ns, 1, rfl, sql_ex (e2.trans M.ex) hs, fun z1 => ?_⟩
    walk_at "s"
    refine ite_d (fun h0 => ?_) fun h0 => ?_
    · walk_at "s"
      refine ⟨s, ns, 2, rfl, sql_ex (e2.trans M.ex) hs, fun z2 => ?_⟩
      walk_at "s"
      refine ⟨s, ns, 1, rfl, sql_ex (e2.trans M.ex) hs, fun z1 => ?_⟩
      walk_at "s"
      refine ⟨z2, z1, rfl, fun a3 ws H4 M4 hw => ?_⟩
      walk_at "s"
      exact ⟨a3, ws, by omega, ⟨ex_free M.ex M4.new, M4.at', M.ex.trans M4.ex, M4.good⟩, rfl⟩
    · walk_at "s"
      exact ⟨a2, ys, by omega, M, rfl⟩
  clear M hy
  rintro σ H3 ⟨a2, ys, hy, M, rfl⟩
  have e3 := e2.trans M.ex
  have ha := M.ex _ _ N.at'
  have L3 := L1.ex (N.ex.trans M.ex)
  have fa := ex_free e1 N.new
  have fa2 := ex_free e2 M.new
  have na : a ≠ d ∧ a ≠ l := by
    refine ⟨fun e => ?_, fun e => ?_⟩
    · have := N.new; rw [e, L1.dc] at this; cases this
    · have := N.new; rw [e, L1.ls] at this; cases this
  have na2 : a2 ≠ d ∧ a2 ≠ l ∧ a2 ≠ a := by
    refine ⟨fun e => ?_, fun e => ?_, fun e => ?_⟩
    · have := M.new; rw [e, N.ex _ _ L1.dc] at this; cases this
    · have := M.new; rw [e, N.ex _ _ L1.ls] at this; cases this
    · have := M.new; rw [e, N.at'] at this; cases this
  walk_at "s"
  refine w_listL (sql ha) fun p hp => ?_
  walk_at "s"
  refine make_one (keep := [a2]) L3 T e3 ⟨fd, fl, fa⟩ ha na N.good (by omega) (by show 0 < 400000; decide) hp (fun x hx => by rw [List.mem_singleton.mp hx]; exact ⟨⟨_, M.at'⟩, na2⟩) fun H4 B1 ln lv lvs ths xs levels S1 k4 _ _ => ?_
  have S1 := (show One c H H4 L d l B1 ln lv a [a2] lvs ths xs zs levels 909 15453 from ⟨S1.la, S1.bk, S1.ex, S1.fr, S1.kp, by omega, by have := S1.ht; simp at this; omega⟩)
  have hys : H4 a2 = some (.lst (ys.map V.str)) := k4 _ _ M.at' fun z => by
    rcases List.mem_cons.mp z with e | e
    · exact na2.1 e
    · exact na2.2.1 (List.mem_singleton.mp e)
  have gy := M.good
  clear M N L3 L1 ha k4 na na2 hp e3
  walk_at "s"
  refine w_listL (sql hys) fun p hp => ?_
  walk_at "s"
  refine make_two T S1 (by simp) fa2 hys gy hy (by decide) (by decide) hp fun H5 b1 b2 ths xs q1 q2 q3 _ _ S => ?_
  subst q1 q2 q3
  clear S1 hys hp
  walk_at "s"
  refine ⟨by show 2 ≤ sizeLine; exact sz100 (by decide), fun bl hbl => ?_⟩
  have S := S.more hbl (ex_new (o := .lst [.ref b1.B, .ref b2.B]) ex_refl hbl) ⟨_, upd_same⟩
  have tb : (upd H5 bl (.lst [.ref b1.B, .ref b2.B])) bl = some (.lst [.ref b1.B, .ref b2.B]) := upd_same
  generalize upd H5 bl (.lst [.ref b1.B, .ref b2.B]) = H6 at S tb
  walk_at "s"
  refine ⟨by show 2 ≤ sizeLine; exact sz100 (by decide), fun kl hkl => ?_⟩
  have S := S.more hkl (ex_new (o := .lst [.ref b1.a, .ref b2.a]) ex_refl hkl) ⟨_, upd_same⟩
  have tk : (upd H6 kl (.lst [.ref b1.a, .ref b2.a])) kl = some (.lst [.ref b1.a, .ref b2.a]) := upd_same
  have tb := ex_new (o := .lst [.ref b1.a, .ref b2.a]) ex_refl hkl _ _ tb
  generalize upd H6 kl (.lst [.ref b1.a, .ref b2.a]) = H7 at S tb tk
  have hs7 := sql_ex S.ex hs
  walk_at "s"
  refine ⟨s, ns, 8, 30, rfl, hs7, fun room _ => ?_⟩
  walk_at "s"
  refine w_slL hs7 fun p hp => ?_
  obtain ⟨ms, em, hm⟩ := cutV_ints ns (some 3) (some (3 + (room : Nat)))
  rw [em]
  have S := S.more hp (ex_new (o := .lst (ms.map V.int)) ex_refl hp) ⟨_, upd_same⟩
  have hpp : (upd H7 p (.lst (ms.map V.int))) p = some (.lst (ms.map V.int)) := upd_same
  have tb := ex_new (o := .lst (ms.map V.int)) ex_refl hp _ _ tb
  have tk := ex_new (o := .lst (ms.map V.int)) ex_refl hp _ _ tk
  generalize upd H7 p (.lst (ms.map V.int)) = H8 at S hpp tb tk
  clear hp hs7 em
  have S := S.wide (n' := 909) (t' := 30906) (Nat.le_refl _) (by decide)
  refine w_iLv (sql hpp) (lb_list (K := K) (xs := ms.map V.int) (fun i σ H' => (∃ v6 v7, σ = [some (.ref s), some (.ref L), some (.ref b1.a), some (.ref b2.a), some (.ref bl), some (.ref kl), v6, v7]) ∧ H' p = some (.lst (ms.map V.int)) ∧
      H' bl = some (.lst [.ref b1.B, .ref b2.B]) ∧ H' kl = some (.lst [.ref b1.a, .ref b2.a]) ∧ ∃ (c1 c2 : BR) (ths : List MK) (xs : List V), c1.B = b1.B ∧ c1.a = b1.a ∧ c2.B = b2.B ∧ c2.a = b2.a ∧ Two c H H' L d l [p, kl, bl] c1 c2 ths xs (909 + i) (30906 + 18 * i)) ⟨⟨_, _, rfl⟩, hpp, tb, tk, b1, b2, _, _, rfl, rfl, rfl, rfl, S⟩ (fun i σ H' _ h => sql h.2.1) ?_ ?_)
  · rintro i y σ H9 hi ⟨⟨v6, v7, rfl⟩, hp9, tb9, tk9, c1, c2, ths9, xs9, r1, r2, r3, r4, S9⟩
    obtain ⟨m, hm1, rfl⟩ := get_map hi
    have hi63 := get_lt hm1
    have bn1 := S9.n1
    have bn2 := S9.n2
    have bt := S9.ht
    walk_at "s"
    have r01 : m % 2 = 0 ∨ m % 2 = 1 := by omega
    rcases r01 with e | e
    · rw [e]
      refine w_ixL (v := .ref b1.B) (sql tb9) rfl ?_
      walk_at "s"
      refine w_ixL (v := .ref b1.a) (sql tk9) rfl ?_
      walk_at "s"
      refine w_ixL (v := .ref b2.a) (sql tk9) rfl ?_
      walk_at "s"
      have o2 := S9.k2.kept
      refine ⟨c1.B, L, d, l, c1.ln, c1.lv, c1.a, c2.a, c1.lvs, ths9, xs9, c1.rows, c2.rows, c1.levels, _, by rw [r1, r2, r4], S9.la, S9.k1, o2, S9.k2.good, by omega, by omega, fun H10 D => ?_⟩
      obtain ⟨k10, c3, ths10, xs10, u1, u2, S10⟩ := S9.deed1 T D bn1
      exact ⟨⟨_, _, rfl⟩, S9.keeps k10 (by simp) hp9, S9.keeps k10 (by simp) tb9, S9.keeps k10 (by simp) tk9, c3, c2, ths10, xs10, u1.trans r1, u2.trans r2, r3, r4, S10⟩
    · rw [e]
      have S9' := S9.swap
      refine w_ixL (v := .ref b2.B) (sql tb9) rfl ?_
      walk_at "s"
      refine w_ixL (v := .ref b2.a) (sql tk9) rfl ?_
      walk_at "s"
      refine w_ixL (v := .ref b1.a) (sql tk9) rfl ?_
      walk_at "s"
      have o1 := S9.k1.kept
      refine ⟨c2.B, L, d, l, c2.ln, c2.lv, c2.a, c1.a, c2.lvs, ths9, xs9, c2.rows, c1.rows, c2.levels, _, by rw [r2, r3, r4], S9.la, S9.k2, o1, S9.k1.good, by omega, by omega, fun H10 D => ?_⟩
      obtain ⟨k10, c3, ths10, xs10, u1, u2, S10⟩ := S9'.deed1 T D bn2
      exact ⟨⟨_, _, rfl⟩, S9'.keeps k10 (by simp) hp9, S9'.keeps k10 (by simp) tb9, S9'.keeps k10 (by simp) tk9, c1, c3, ths10, xs10, r1, r2, u1.trans r3, u2.trans r4, S10.swap⟩
  · rintro σ H9 ⟨⟨v6, v7, rfl⟩, hp9, tb9, tk9, c1, c2, ths9, xs9, r1, r2, r3, r4, S9⟩
    rw [List.length_map] at S9
    have S9 := (S9.wide (n' := 1000) (t' := 33000) (by omega) (by omega)).less (keep' := [kl, bl]) (fun x hx => List.mem_cons_of_mem _ hx)
    walk_at "s"
    refine ⟨by show 2 ≤ sizeLine; exact sz100 (by decide), fun t ht => ?_⟩
    have e := ex_new (o := .tup [.ref bl, .ref kl]) ex_refl ht
    exact q _ t bl kl L d l c1 c2 ths9 xs9 ⟨upd_same, by rw [r1, r3]; exact e _ _ tb9, by rw [r2, r4]; exact e _ _ tk9, S9.more ht e ⟨_, upd_same⟩⟩
end Tw

namespace Tw
open PySem L2 Ts Mix
/-- lists and dicts: what tuples do not lean on -/
def Soft (H : Hp) (S : List Addr) : Prop := ∀ x ∈ S, ∀ o, H x = some o → (∃ ys, o = .lst ys) ∨ ∃ φ, o = .ext φ
theorem sqt_keep {K : PySem.W.Frag} {H H' : Hp} {S : List Addr} {a : Addr} {xs : List V} (k : Kp S H H') (s : Soft H S) (h : SqT K H a xs) : SqT K H' a xs := by
  rcases h with (h | ⟨o, h⟩) | h
  · refine .inl (.inl (k _ _ h fun z => ?_))
    rcases s a z _ h with ⟨_, e⟩ | ⟨_, e⟩ <;> cases e
  · refine .inl (.inr ⟨o, k _ _ h fun z => ?_⟩)
    rcases s a z _ h with ⟨_, e⟩ | ⟨_, e⟩ <;> cases e
  · exact .inr h
theorem dpLooks_keep {K : PySem.W.Frag} {H H' : Hp} {S : List Addr} (k : Kp S H H') (s : Soft H S) : ∀ {ds : List Look} {xs : List V}, DpAll K H xs (ds.map encL.enc) → DpAll K H' xs (ds.map encL.enc)
  | [], _, .nil => .nil
  | d :: ds, _, .cons h t => by
    obtain ⟨a, x, y, z, rfl, hs, hx, hy, hz⟩ := dp_tup3 h
    have hx := dp_int hx
    have hy := dp_int hy
    have hz := dp_bool hz
    subst hx hy hz
    exact .cons (.tup (sqt_keep k s hs) (.cons (.int _) (.cons (.int _) (.cons (.bl _) .nil)))) (dpLooks_keep k s t)
section
variable {K : PySem.W.Frag} {c : Cs} {H0 H H' : Hp} {L d l : Addr} {keep : List Addr} {b1 b2 : BR} {ths ths' : List MK} {xs xs' : List V} {n t : Nat}
theorem Two.soft (T : TxK K c) (S : Two c H0 H L d l keep b1 b2 ths xs n t) : Soft H (b1.a :: fpS d l b1.ln b1.lv b1.lvs) := fun x hx o ho => by
  rcases List.mem_cons.mp hx with e | hx
  · have := S.k1.kept
    rw [← e, ho] at this
    cases this
    exact .inl ⟨_, rfl⟩
  rcases List.mem_cons.mp hx with e | hx
  · obtain ⟨φ, e2⟩ := T.md d (ents 0 ths xs)
    have := S.la.dc
    rw [← e, ho] at this
    cases this
    rw [← e] at e2
    exact .inr ⟨φ, e2⟩
  rcases List.mem_cons.mp hx with e | hx
  · have := S.la.ls
    rw [← e, ho] at this
    cases this
    exact .inl ⟨_, rfl⟩
  · obtain ⟨ys, h⟩ := Bk.lists S.k1 x (List.mem_cons_of_mem _ hx)
    rw [ho] at h
    cases h
    exact .inl ⟨_, rfl⟩
theorem soft_one {p : Addr} {ys : List V} (h : H p = some (.lst ys)) : Soft H [p] := fun x hx o ho => by
  rw [List.mem_singleton.mp hx, h] at ho
  cases ho
  exact .inl ⟨_, rfl⟩
theorem Two.tb (S : Two c H0 H L d l keep b1 b2 ths xs n t) (hn : n ≤ 1024) : TB c H L b1 b2 ths :=
  ⟨S.k1.ba, S.k2.ba, S.k1.iv, S.k2.iv, S.la.nd, let ⟨dx, h⟩ := S.la.ob; ⟨dx, _, h⟩, Nat.le_trans S.n1 hn, Nat.le_trans S.n2 hn⟩
/-- a list beside is changed -/
theorem Two.side (T : TxK K c) (S : Two c H0 H L d l keep b1 b2 ths xs n t) {p : Addr} (hp : p ∈ keep) (f : H0 p = none) {ys : List V} (h : H p = some (.lst ys)) (o : HO) : Two c H0 (upd H p o) L d l keep b1 b2 ths xs n t := by
  have no := (S.kp p hp).2
  have k : Kp [p] H (upd H p o) := Kp.refl.set (by simp)
  have nB : ∀ {b : BR}, b.At c H L d l ths → b.B ∉ [p] := fun {b} k z => by
    obtain ⟨dx, h2⟩ := k.ba.ob
    rw [List.mem_singleton.mp z, h] at h2
    cases h2
  refine ⟨S.la.kp T k fun x hx => ?_, Bk.kp S.k1 k (List.prefix_refl _) (fun x hx z => ?_) (nB S.k1), Bk.kp S.k2 k (List.prefix_refl _) (fun x hx z => ?_) (nB S.k2), S.dis, ex_mut S.ex f, S.fr, fun x hx => ⟨?_, (S.kp x hx).2⟩, S.n1, S.n2, S.ht⟩
  · rw [List.mem_singleton.mp hx]
    refine ⟨fun e => no (.inl e), fun e => no (.inr (.inl e)), fun o ho => ?_⟩
    rw [h] at ho
    cases ho
    exact ⟨_, rfl⟩
  · rw [List.mem_singleton.mp hx] at z
    exact no (.inr (.inr (.inl z)))
  · rw [List.mem_singleton.mp hx] at z
    exact no (.inr (.inr (.inr z)))
  · by_cases e : x = p
    · rw [e]; exact ⟨_, upd_same⟩
    · rw [upd_ne e]; exact (S.kp x hx).1
/-- what a deed of the first book brings, by the rows -/
theorem Two.deedR (T : TxK K c) {lvs' : List Addr} {rows' : List Str} {levels' : List (List Nat)} {n' : Nat} (S : Two c H0 H L d l keep b1 b2 ths xs n t) (h1 : LedgerAt c H' L d l ths' xs') (h2 : Bk c H' L d l ths' b1.B b1.ln b1.lv lvs' b1.a rows' levels')
    (h3 : Kp (b1.a :: fpS d l b1.ln b1.lv b1.lvs) H H') (h4 : Wider H b1.lvs lvs') (h5 : ths <+: ths') (h6 : ths'.length ≤ ths.length + 18) (hn : n ≤ n') (h7 : rows'.length ≤ n') :
    Two c H0 H' L d l keep ⟨b1.B, b1.ln, b1.lv, b1.a, lvs', rows', levels'⟩ b2 ths' xs' n' (t + 18) := by
  have key : ∀ x ∈ (⟨b1.B, b1.ln, b1.lv, b1.a, lvs', rows', levels'⟩ : BR).fp, x ∈ b1.fp ∨ H x = none := fun x hx => by
    rcases List.mem_cons.mp hx with e | hx
    · exact .inl (by rw [e]; exact List.mem_cons_self)
    rcases List.mem_cons.mp hx with e | hx
    · exact .inl (by rw [e]; exact List.mem_cons_of_mem _ List.mem_cons_self)
    rcases List.mem_cons.mp hx with e | hx
    · exact .inl (by rw [e]; exact List.mem_cons_of_mem _ (List.mem_cons_of_mem _ List.mem_cons_self))
    rcases h4.2 x hx with r | r
    · exact .inl (List.mem_cons_of_mem _ (List.mem_cons_of_mem _ (List.mem_cons_of_mem _ r)))
    · exact .inr r
  have mem1 : ∀ x ∈ b1.a :: fpS d l b1.ln b1.lv b1.lvs, x = d ∨ x = l ∨ x ∈ b1.fp := fun x z => by
    rcases List.mem_cons.mp z with e | z
    · exact .inr (.inr (by rw [e]; exact List.mem_cons_self))
    rcases List.mem_cons.mp z with e | z
    · exact .inl e
    rcases List.mem_cons.mp z with e | z
    · exact .inr (.inl e)
    · exact .inr (.inr (List.mem_cons_of_mem _ z))
  have nd2 := S.k2.nd
  rw [List.nodup_cons, List.nodup_cons, List.nodup_cons] at nd2
  have o2 : b2.At c H' L d l ths' := Bk.kp S.k2 h3 h5 (fun x hx z => by
    rcases mem1 x hx with e | e | e
    · rcases List.mem_cons.mp z with r | r
      · exact nd2.1 (by rw [← r, e]; simp)
      · exact nd2.2.1 (by rw [← e]; exact List.mem_cons_of_mem _ r)
    · rcases List.mem_cons.mp z with r | r
      · exact nd2.1 (by rw [← r, e]; simp)
      · exact nd2.2.2.1 (by rw [← e]; exact r)
    · exact S.dis x e z) (Bk.notB T S.k2 S.la fun x hx => by
    rcases mem1 x hx with e | e | e
    · exact .inr e
    · rw [e]; exact .inl ⟨_, S.la.ls⟩
    · exact .inl (Bk.lists S.k1 x e))
  have hn2 := S.n2
  have ht := S.ht
  refine ⟨h1, h2, o2, fun x hx z => ?_, ex_of_kp S.ex (fun x hx => ?_) h3, fun x hx => ?_, fun x hx => ⟨let ⟨_, h⟩ := (S.kp x hx).1; ⟨_, S.keeps h3 hx h⟩, fun z => ?_⟩, h7, by omega, by omega⟩
  · rcases key x hx with r | r
    · exact S.dis x r z
    · obtain ⟨ys, h⟩ := Bk.lists S.k2 x z
      rw [r] at h; cases h
  · rcases mem1 x hx with e | e | e
    · exact S.fr x (.inl e)
    · exact S.fr x (.inr (.inl e))
    · exact S.fr x (.inr (.inr (.inl e)))
  · rcases hx with e | e | e | e
    · exact S.fr x (.inl e)
    · exact S.fr x (.inr (.inl e))
    · rcases key x e with r | r
      · exact S.fr x (.inr (.inr (.inl r)))
      · exact ex_free S.ex r
    · exact S.fr x (.inr (.inr (.inr e)))
  · obtain ⟨o, h⟩ := (S.kp x hx).1
    rcases z with e | e | e | e
    · exact (S.kp x hx).2 (.inl e)
    · exact (S.kp x hx).2 (.inr (.inl e))
    · rcases key x e with r | r
      · exact (S.kp x hx).2 (.inr (.inr (.inl r)))
      · rw [h] at r; cases r
    · exact (S.kp x hx).2 (.inr (.inr (.inr e)))
/-- the rows kept beside have changed first, now the book's -/
theorem Two.putK (T : TxK K c) (S : Two c H0 H L d l keep b1 b2 ths xs n t) (hn : n ≤ 1024) (hz : t < 800000) {place : Nat} {z : Str} (hp : place < b1.rows.length) (hg : Good z) {Q : Hp → Prop} {E : XK}
    (q : ∀ H' (b : BR) ths' xs', b.B = b1.B → b.a = b1.a → b.rows = b1.rows.set place z → Two c H0 H' L d l keep b b2 ths' xs' n (t + 18) → Kp (b1.a :: fpS d l b1.ln b1.lv b1.lvs) H H' → Q H') :
    sp_Book_put K c [.ref b1.B, .int (place : Nat), .str z] (upd H b1.a (.lst ((b1.rows.map V.str).set place (.str z)))) (fun _ H' => Q H') E := by
  have na := Bk.na S.k1
  have k0 : Kp [b1.a] H (upd H b1.a (.lst ((b1.rows.map V.str).set place (.str z)))) := Kp.refl.set (by simp)
  have hup : (upd H b1.a (.lst ((b1.rows.map V.str).set place (.str z)))) b1.a = some (.lst ((b1.rows.set place z).map V.str)) := by rw [upd_same, List.map_set]
  have L1 : LedgerAt c (upd H b1.a (.lst ((b1.rows.map V.str).set place (.str z)))) L d l ths xs := S.la.kp T k0 fun x hx => by
    rw [List.mem_singleton.mp hx]
    refine ⟨fun e => na (by rw [e]; simp), fun e => na (by rw [e]; simp), fun o ho => ?_⟩
    have := S.k1.kept
    rw [ho] at this
    cases this
    exact ⟨_, rfl⟩
  have B1 : b1.Bo c (upd H b1.a (.lst ((b1.rows.map V.str).set place (.str z)))) L := BookAt.kp S.k1.ba k0 (fun x hx h => by
    rw [List.mem_singleton.mp hx] at h
    exact na (List.mem_cons_of_mem _ (List.mem_cons_of_mem _ h))) fun h => Bk.nB S.k1 (List.mem_singleton.mp h)
  generalize upd H b1.a (.lst ((b1.rows.map V.str).set place (.str z))) = H1 at k0 L1 B1 hup
  have hn1 := S.n1
  have ht := S.ht
  refine ⟨b1.B, L, d, l, b1.ln, b1.lv, b1.lvs, ths, xs, b1.rows, b1.levels, _, _, true, rfl, ⟨L1, B1, (List.nodup_cons.mp S.k1.nd).2⟩, S.k1.iv, .inl ⟨_, rfl, rfl⟩, rowV_good hg, by omega, by omega, fun n => absurd ⟨place, rfl, hp⟩ n, fun _ n => absurd ⟨z, rfl, hg⟩ n, ?_⟩
  intro place' z' e1 e2 _ _ H' xs' S' I' bc k
  have e1 : place' = place := by have := V.int.inj e1; omega
  cases e2
  subst e1
  have low := bc.low (by omega)
  have gl := putM_len (ths := ths) (levels := b1.levels) (place := place') (z := z)
  have kk : Kp (b1.a :: fpS d l b1.ln b1.lv b1.lvs) H H' := (k0.mono fun x hx => by rw [List.mem_singleton.mp hx]; simp).trans (k.mono fun x hx => List.mem_cons_of_mem _ hx)
  refine q H' ⟨b1.B, b1.ln, b1.lv, b1.a, b1.lvs, b1.rows.set place' z, (putM ths b1.levels place' z).2.1⟩ (putM ths b1.levels place' z).1 xs' rfl rfl rfl (S.deedR T S'.la ⟨S'.ba, I', k _ _ hup na, S.k1.nd, fun x hx => ?_⟩ kk wider_refl putM_pre (by omega) (Nat.le_refl _) (by rw [List.length_set]; omega)) kk
  rcases List.mem_or_eq_of_mem_set hx with r | r
  · exact S.k1.good x r
  · rw [r]; exact hg
/-- a put that the rows kept beside are not told of -/
theorem Two.putT (T : TxK K c) (S : Two c H0 H L d l keep b1 b2 ths xs n t) (hn : n ≤ 1024) (hz : t < 800000) {place : Nat} {z : Str} (hp : place < b1.rows.length) (hg : Good z) {Q : Hp → Prop} {E : XK}
    (q : ∀ H' (b : BR) ths', b.B = b1.B → b.rows = b1.rows.set place z → TB c H' L b b2 ths' → Kp (b1.a :: fpS d l b1.ln b1.lv b1.lvs) H H' → Q H') :
    sp_Book_put K c [.ref b1.B, .int (place : Nat), .str z] H (fun _ H' => Q H') E := by
  have hn1 := S.n1
  have hn2 := S.n2
  have ht := S.ht
  refine ⟨b1.B, L, d, l, b1.ln, b1.lv, b1.lvs, ths, xs, b1.rows, b1.levels, _, _, true, rfl, Bk.bs S.k1 S.la, S.k1.iv, .inl ⟨_, rfl, rfl⟩, rowV_good hg, by omega, by omega, fun n => absurd ⟨place, rfl, hp⟩ n, fun _ n => absurd ⟨z, rfl, hg⟩ n, ?_⟩
  intro place' z' e1 e2 _ _ H' xs' S' I' bc k
  have e1 : place' = place := by have := V.int.inj e1; omega
  cases e2
  subst e1
  have low := bc.low (by omega)
  have gl := putM_len (ths := ths) (levels := b1.levels) (place := place') (z := z)
  -- as though the rows beside were told
  obtain ⟨_, u1, u2, u3⟩ := Bk.step T S.k1 S' I' wider_refl k fun x hx => by
    rcases List.mem_or_eq_of_mem_set hx with r | r
    · exact S.k1.good x r
    · rw [r]; exact hg
  have W := S.deedR T (n' := n) u1 u2 u3 wider_refl putM_pre (by omega) (Nat.le_refl _) (by rw [List.length_set]; omega)
  have k2 : Kp (b1.a :: fpS d l b1.ln b1.lv b1.lvs) H H' := k.mono fun x hx => List.mem_cons_of_mem _ hx
  -- the second book
  have nd2 := S.k2.nd
  rw [List.nodup_cons, List.nodup_cons, List.nodup_cons] at nd2
  have a2 : b2.Bo c H' L := BookAt.kp S.k2.ba k2 (fun x hx z => by
    rcases List.mem_cons.mp hx with e | hx
    · exact S.dis x (by rw [e]; exact List.mem_cons_self) (List.mem_cons_of_mem _ z)
    rcases List.mem_cons.mp hx with e | hx
    · exact nd2.2.1 (by rw [← e]; exact List.mem_cons_of_mem _ z)
    rcases List.mem_cons.mp hx with e | hx
    · exact nd2.2.2.1 (by rw [← e]; exact z)
    · exact S.dis x (List.mem_cons_of_mem _ hx) (List.mem_cons_of_mem _ z)) (Bk.notB T S.k2 S.la fun x hx => by
    rcases List.mem_cons.mp hx with e | hx
    · rw [e]; exact .inl ⟨_, S.k1.kept⟩
    rcases List.mem_cons.mp hx with e | hx
    · exact .inr e
    rcases List.mem_cons.mp hx with e | hx
    · rw [e]; exact .inl ⟨_, S.la.ls⟩
    · exact .inl (Bk.lists S.k1 x (List.mem_cons_of_mem _ hx)))
  exact q H' ⟨b1.B, b1.ln, b1.lv, b1.a, b1.lvs, b1.rows.set place' z, (putM ths b1.levels place' z).2.1⟩ (putM ths b1.levels place' z).1 rfl rfl ⟨S'.ba, a2, I', S.k2.iv.mono putM_pre, S'.la.nd, let ⟨dx, h⟩ := S'.la.ob; ⟨dx, _, h⟩, by show (b1.rows.set place' z).length ≤ 1024; rw [List.length_set]; omega, by omega⟩ k2
end
/-! looks are as they are told with the books exchanged -/
theorem alk_comm (r1 r2 : List Str) (h j : Nat) : alk r1 r2 h j = alk r2 r1 h j := by unfold alk; rw [decide_eq_decide]; exact eq_comm
theorem firstIn_comm (r1 r2 : List Str) : ∀ h j, firstIn r1 r2 h j = firstIn r2 r1 h j
  | 0, _ => rfl
  | h + 1, j => by
    show ((h, 2 * j, alk r1 r2 h (2 * j)) :: (firstIn r1 r2 h _).1, (firstIn r1 r2 h _).2) = ((h, 2 * j, alk r2 r1 h (2 * j)) :: (firstIn r2 r1 h _).1, (firstIn r2 r1 h _).2)
    rw [alk_comm, firstIn_comm r1 r2 h]
theorem firstM_comm (r1 r2 : List Str) : ∀ ps, firstM r1 r2 ps = firstM r2 r1 ps
  | [] => rfl
  | (h, j) :: ps => by
    show (if alk r1 r2 h j = true then _ else _) = (if alk r2 r1 h j = true then _ else _)
    rw [alk_comm, firstM_comm r1 r2 ps, firstIn_comm]
theorem firstR_comm (r1 r2 : List Str) : firstR r1 r2 = firstR r2 r1 := by
  unfold firstR
  rw [firstM_comm, Nat.min_comm]
  congr 1
  split
  · rfl
  · by_cases e : r1.length = r2.length
    · rw [if_pos e, if_pos e.symm]
    · rw [if_neg e, if_neg (Ne.symm e)]
end Tw

namespace Tw
open PySem L2 Ts Mix
theorem dp_strs {K : PySem.W.Frag} {H : Hp} {p : Addr} {rs : List Str} (h : H p = some (.lst (rs.map V.str))) : Dp K H (.ref p) ((eList eStr).enc rs) := .lst (sql h) (dpAll_strs _)
theorem sh_strs {rs : List Str} (g : ∀ z ∈ rs, Good z) : SeqAt.shaped ((eList eStr).enc rs) = true := (eList eStr).shaped (by decide) rs fun z hz => good_ok (g z hz)
theorem blk_good {rs : List Str} (g : ∀ z ∈ rs, Good z) (h j : Nat) : ∀ z ∈ blk rs h j, Good z := fun z hz => g z (List.mem_of_mem_drop (List.mem_of_mem_take hz))
end Tw

namespace Tw
open PySem L2 Ts Mix
theorem firstM_len (r1 r2 : List Str) : ∀ ps : List (Nat × Nat), (∀ p ∈ ps, p.1 ≤ 10) → (firstM r1 r2 ps).1.length ≤ ps.length + 10
  | [], _ => Nat.zero_le _
  | (h, j) :: ps, hp => by
    have h1 : h ≤ 10 := hp (h, j) List.mem_cons_self
    have h2 := firstM_len r1 r2 ps fun p m => hp p (List.mem_cons_of_mem _ m)
    show (if alk r1 r2 h j = true then ((h, j, true) :: (firstM r1 r2 ps).1, (firstM r1 r2 ps).2) else ((h, j, false) :: (firstIn r1 r2 h j).1, some (firstIn r1 r2 h j).2)).1.length ≤ ps.length + 1 + 10
    split
    · show (firstM r1 r2 ps).1.length + 1 ≤ _
      omega
    · show (firstIn r1 r2 h j).1.length + 1 ≤ _
      rw [firstIn_len]
      omega
theorem firstR_len {r1 r2 : List Str} (h : r1.length ≤ 1024) : (firstR r1 r2).1.length ≤ 21 := by
  have h1 := firstM_len r1 r2 (parts (min r1.length r2.length)) fun p hp => ht_le (parts_le hp) (by omega)
  have h2 := parts_length (n := min r1.length r2.length) (by omega)
  show (firstM r1 r2 (parts (min r1.length r2.length))).1.length ≤ 21
  omega
section
variable {K : PySem.W.Frag} {c : Cs} {H0 H H' : Hp} {L d l : Addr} {keep : List Addr} {b1 b2 : BR} {ths ths' : List MK} {xs xs' : List V} {n t : Nat}
theorem Two.more2 {p q : Addr} (S : Two c H0 H L d l keep b1 b2 ths xs n t) (hp : H p = none) (hq : H q = none) (e : Ex H H') (hp' : ∃ o, H' p = some o) (hq' : ∃ o, H' q = some o) : Two c H0 H' L d l (p :: q :: keep) b1 b2 ths xs n t := by
  have S1 := S.more hp e hp'
  have S2 := S.more hq e hq'
  refine ⟨S1.la, S1.k1, S1.k2, S1.dis, S1.ex, S1.fr, fun x hx => ?_, S1.n1, S1.n2, S1.ht⟩
  rcases List.mem_cons.mp hx with r | hx
  · rw [r]; exact S1.kp p List.mem_cons_self
  · exact S2.kp x hx
theorem Two.notK {x : Addr} (S : Two c H0 H L d l keep b1 b2 ths xs n t) (hx : x ∈ keep) : x ∉ b1.a :: fpS d l b1.ln b1.lv b1.lvs := fun z => (S.kp x hx).2 (by
  rcases List.mem_cons.mp z with e | z
  · exact .inr (.inr (.inl (by rw [e]; exact List.mem_cons_self)))
  rcases List.mem_cons.mp z with e | z
  · exact .inl e
  rcases List.mem_cons.mp z with e | z
  · exact .inr (.inl e)
  · exact .inr (.inr (.inl (List.mem_cons_of_mem _ z))))
end
end Tw

namespace Tw
open PySem L2 Ts Mix
/-! ### where two lists of rows first differ -/
def Agree (r1 r2 : List Str) (p : Nat) : Prop := ∀ i, i < p → r1[i]? = r2[i]?
theorem blk_get {r : List Str} {h j i : Nat} (h1 : j * 2 ^ h ≤ i) (h2 : i < (j + 1) * 2 ^ h) : (blk r h j)[i - j * 2 ^ h]? = r[i]? := by
  unfold blk
  rw [Nat.add_mul, Nat.one_mul] at h2
  rw [List.getElem?_take_of_lt (by omega), List.getElem?_drop]
  congr 1
  omega
theorem alk_iff {r1 r2 : List Str} {h j : Nat} : alk r1 r2 h j = true ↔ ∀ i, j * 2 ^ h ≤ i → i < (j + 1) * 2 ^ h → r1[i]? = r2[i]? := by
  unfold alk
  rw [decide_eq_true_iff]
  constructor
  · intro e i h1 h2
    rw [← blk_get (r := r1) h1 h2, ← blk_get (r := r2) h1 h2, e]
  · intro q
    refine List.ext_getElem? fun k => ?_
    by_cases hk : k < 2 ^ h
    · have h1 : j * 2 ^ h ≤ j * 2 ^ h + k := Nat.le_add_right _ _
      have h2 : j * 2 ^ h + k < (j + 1) * 2 ^ h := by rw [Nat.add_mul, Nat.one_mul]; omega
      have e1 := blk_get (r := r1) h1 h2
      have e2 := blk_get (r := r2) h1 h2
      rw [show j * 2 ^ h + k - j * 2 ^ h = k by omega] at e1 e2
      rw [e1, e2]
      exact q _ h1 h2
    · have z : ∀ r : List Str, (blk r h j)[k]? = none := fun r => by
        unfold blk
        rw [List.getElem?_eq_none]
        rw [List.length_take]
        omega
      rw [z, z]
theorem agree_more {r1 r2 : List Str} {h j : Nat} (a : Agree r1 r2 (j * 2 ^ h)) (b : alk r1 r2 h j = true) : Agree r1 r2 ((j + 1) * 2 ^ h) := fun i hi => by
  by_cases z : i < j * 2 ^ h
  · exact a i z
  · exact alk_iff.mp b i (by omega) hi
/-- how the looks cover the rows: what is known alike, the last block that isn't -/
def Runs (r1 r2 : List Str) (n : Nat) : Nat → Option (Nat × Nat) → List Look → Nat → Option (Nat × Nat) → Prop
  | k, l, [], k', l' => k = k' ∧ l = l'
  | k, l, (h, j, b) :: ds, k', l' => b = alk r1 r2 h j ∧ (j + 1) * 2 ^ h ≤ n ∧ h ≤ 10 ∧ (b = true → j * 2 ^ h = k) ∧
    (b = true → Runs r1 r2 n ((j + 1) * 2 ^ h) l ds k' l') ∧ (b = false → Runs r1 r2 n k (some (j * 2 ^ h, (j + 1) * 2 ^ h)) ds k' l')
section
variable {r1 r2 : List Str} {n : Nat}
theorem Runs.app : ∀ {ds es : List Look} {k k' k'' : Nat} {l l' l'' : Option (Nat × Nat)}, Runs r1 r2 n k l ds k' l' → Runs r1 r2 n k' l' es k'' l'' → Runs r1 r2 n k l (ds ++ es) k'' l''
  | [], _, _, _, _, _, _, _, ⟨e1, e2⟩, q => by subst e1 e2; exact q
  | (_, _, _) :: _, _, _, _, _, _, _, _, ⟨a, b, c, d, e, f⟩, q => ⟨a, b, c, d, fun z => (e z).app q, fun z => (f z).app q⟩
theorem pow_double (h j : Nat) : (2 * j) * 2 ^ h = j * 2 ^ (h + 1) ∧ (2 * j + 1 + 1) * 2 ^ h = (j + 1) * 2 ^ (h + 1) ∧ (2 * j + 1) * 2 ^ h ≤ (2 * j + 1 + 1) * 2 ^ h ∧ (2 * j) * 2 ^ h ≤ (2 * j + 1) * 2 ^ h :=
  ⟨by rw [Nat.pow_succ, Nat.mul_comm (2 ^ h) 2, ← Nat.mul_assoc, Nat.mul_comm j 2], by rw [Nat.pow_succ, show 2 * j + 1 + 1 = (j + 1) * 2 by omega, Nat.mul_assoc, Nat.mul_comm 2], Nat.mul_le_mul_right _ (Nat.le_succ _), Nat.mul_le_mul_right _ (Nat.le_succ _)⟩
theorem runs_in : ∀ (h j a : Nat), alk r1 r2 h j = false → (j + 1) * 2 ^ h ≤ n → h ≤ 10 → Agree r1 r2 (j * 2 ^ h) → a ≤ j * 2 ^ h →
    ∃ a', a' ≤ (firstIn r1 r2 h j).2 ∧ (firstIn r1 r2 h j).2 < n ∧ Agree r1 r2 (firstIn r1 r2 h j).2 ∧ r1[(firstIn r1 r2 h j).2]? ≠ r2[(firstIn r1 r2 h j).2]? ∧
      Runs r1 r2 n (j * 2 ^ h) (some (a, (j + 1) * 2 ^ h)) (firstIn r1 r2 h j).1 (firstIn r1 r2 h j).2 (some (a', (firstIn r1 r2 h j).2 + 1))
  | 0, j, a, na, hn, _, ag, ha => by
    have f : firstIn r1 r2 0 j = ([], j) := rfl
    rw [f]
    simp only [Nat.pow_zero, Nat.mul_one] at hn ag ha ⊢
    refine ⟨a, ha, by omega, ag, fun e => ?_, rfl, rfl⟩
    have : alk r1 r2 0 j = true := alk_iff.mpr fun i h1 h2 => by
      simp only [Nat.pow_zero, Nat.mul_one] at h1 h2
      rw [show i = j by omega]; exact e
    rw [na] at this
    cases this
  | h + 1, j, a, na, hn, h10, ag, ha => by
    obtain ⟨p1, p2, p3, p4⟩ := pow_double h j
    have f1 : (firstIn r1 r2 (h + 1) j) = ((h, 2 * j, alk r1 r2 h (2 * j)) :: (firstIn r1 r2 h (if alk r1 r2 h (2 * j) = true then 2 * j + 1 else 2 * j)).1, (firstIn r1 r2 h (if alk r1 r2 h (2 * j) = true then 2 * j + 1 else 2 * j)).2) := rfl
    rw [f1]
    rw [← p1] at ag ha ⊢
    rw [← p2] at hn ⊢
    cases hb : alk r1 r2 h (2 * j) with
    | true =>
      rw [if_pos rfl]
      have ag' := agree_more ag hb
      have na' : alk r1 r2 h (2 * j + 1) = false := by
        cases hc : alk r1 r2 h (2 * j + 1) with
        | false => rfl
        | true =>
          have : alk r1 r2 (h + 1) j = true := alk_iff.mpr fun i h1 h2 => agree_more ag' hc i (by rw [p2]; exact h2)
          rw [na] at this
          cases this
      obtain ⟨a', q1, q2, q3, q4, q5⟩ := runs_in h (2 * j + 1) a na' hn (by omega) ag' (by omega)
      exact ⟨a', q1, q2, q3, q4, hb.symm, by omega, by omega, fun _ => rfl, fun _ => q5, fun z => nomatch z⟩
    | false =>
      rw [if_neg Bool.false_ne_true]
      obtain ⟨a', q1, q2, q3, q4, q5⟩ := runs_in h (2 * j) (2 * j * 2 ^ h) hb (by omega) (by omega) ag (Nat.le_refl _)
      exact ⟨a', q1, q2, q3, q4, hb.symm, by omega, by omega, fun z => (nomatch z), fun z => (nomatch z), fun _ => q5⟩
/-- what the looks of a run through the parts tell -/
def RunM (r1 r2 : List Str) (n k : Nat) (l : Option (Nat × Nat)) (R : List Look × Option Nat) : Prop :=
  (∃ p a, R.2 = some p ∧ p < n ∧ Agree r1 r2 p ∧ r1[p]? ≠ r2[p]? ∧ a ≤ p ∧ Runs r1 r2 n k l R.1 p (some (a, p + 1))) ∨ (R.2 = none ∧ Agree r1 r2 n ∧ ∃ l', Runs r1 r2 n k l R.1 n l')
theorem run_M : ∀ (k : Nat) (l : Option (Nat × Nat)), Agree r1 r2 (placeAt n k) → k ≤ 11 → (firstM r1 r2 (partsF n (placeAt n k) k)).1.length ≤ k ∧ RunM r1 r2 n (placeAt n k) l (firstM r1 r2 (partsF n (placeAt n k) k))
  | 0, l, ag, _ => by
    rw [placeAt_zero] at ag ⊢
    exact ⟨Nat.le_refl _, .inr ⟨rfl, ag, l, rfl, rfl⟩⟩
  | k + 1, l, ag, hk => by
    by_cases b : n / 2 ^ k % 2 = 1
    · rw [parts_cons b]
      have d : 2 ^ k ∣ placeAt n (k + 1) := ⟨n / 2 ^ (k + 1) * 2, by unfold placeAt; rw [Nat.pow_succ, Nat.mul_comm (2 ^ k) 2, ← Nat.mul_assoc, Nat.mul_comm (2 ^ k)]⟩
      have h1 := Nat.div_mul_cancel d
      have h2 := (bit_room n k).mp b
      have h3 := placeAt_succ n k
      rw [b, Nat.one_mul] at h3
      generalize placeAt n (k + 1) / 2 ^ k = j at h1
      have h4 : (j + 1) * 2 ^ k = placeAt n k := by rw [Nat.add_mul, Nat.one_mul]; omega
      rw [← h1] at ag ⊢
      cases hb : alk r1 r2 k j with
      | true =>
        have f1 : firstM r1 r2 ((k, j) :: partsF n (placeAt n k) k) = ((k, j, true) :: (firstM r1 r2 (partsF n (placeAt n k) k)).1, (firstM r1 r2 (partsF n (placeAt n k) k)).2) := by
          show (if alk r1 r2 k j = true then _ else _) = _
          rw [hb, if_pos rfl]
        rw [f1]
        have ag' := agree_more ag hb
        rw [h4] at ag'
        obtain ⟨q1, q2⟩ := run_M k l ag' (by omega)
        refine ⟨Nat.succ_le_succ q1, ?_⟩
        rcases q2 with ⟨p, a, e1, e2, e3, e4, e5, e6⟩ | ⟨e1, e2, l', e3⟩
        · exact .inl ⟨p, a, e1, e2, e3, e4, e5, hb.symm, by omega, by omega, fun _ => rfl, fun _ => by rw [h4]; exact e6, fun z => nomatch z⟩
        · exact .inr ⟨e1, e2, l', hb.symm, by omega, by omega, fun _ => rfl, fun _ => by rw [h4]; exact e3, fun z => nomatch z⟩
      | false =>
        have f1 : firstM r1 r2 ((k, j) :: partsF n (placeAt n k) k) = ((k, j, false) :: (firstIn r1 r2 k j).1, some (firstIn r1 r2 k j).2) := by
          show (if alk r1 r2 k j = true then _ else _) = _
          rw [hb, if_neg Bool.false_ne_true]
        rw [f1]
        refine ⟨by rw [List.length_cons, firstIn_len]; exact Nat.le_refl _, ?_⟩
        obtain ⟨a', q1, q2, q3, q4, q5⟩ := runs_in (n := n) k j (j * 2 ^ k) hb (by omega) (by omega) ag (Nat.le_refl _)
        exact .inl ⟨_, a', rfl, q2, q3, q4, q1, hb.symm, by omega, by omega, fun z => (nomatch z), fun z => (nomatch z), fun _ => q5⟩
    · rw [parts_skip b]
      have e := placeAt_succ n k
      have e2 : n / 2 ^ k % 2 = 0 := by have := Nat.mod_lt (n / 2 ^ k) (show 0 < 2 by decide); omega
      rw [e2, Nat.zero_mul, Nat.add_zero] at e
      rw [← e] at ag ⊢
      obtain ⟨q1, q2⟩ := run_M k l ag (by omega)
      exact ⟨by omega, q2⟩
end
/-- the first place, over the whole -/
theorem firstR_all {r1 r2 : List Str} (h1 : r1.length ≤ 1024) :
    (firstR r1 r2).1.length ≤ digs (min r1.length r2.length) ∧
    ((∃ p a, (firstR r1 r2).2 = some p ∧ p < min r1.length r2.length ∧ Agree r1 r2 p ∧ r1[p]? ≠ r2[p]? ∧ a ≤ p ∧ Runs r1 r2 (min r1.length r2.length) 0 none (firstR r1 r2).1 p (some (a, p + 1))) ∨
    ((firstR r1 r2).2 = (if r1.length = r2.length then none else some (min r1.length r2.length)) ∧ Agree r1 r2 (min r1.length r2.length) ∧ ∃ l', Runs r1 r2 (min r1.length r2.length) 0 none (firstR r1 r2).1 (min r1.length r2.length) l')) := by
  have e : (2 : Nat) ^ 11 = 2048 := by decide
  obtain ⟨q1, q2⟩ := run_M (r1 := r1) (r2 := r2) (n := min r1.length r2.length) (digs (min r1.length r2.length)) none (by rw [placeAt_digs]; exact fun i hi => absurd hi (Nat.not_lt_zero _)) (digs_le (by omega))
  rw [placeAt_digs] at q1 q2
  have f : firstM r1 r2 (partsF (min r1.length r2.length) 0 (digs (min r1.length r2.length))) = firstM r1 r2 (parts (min r1.length r2.length)) := rfl
  rw [f] at q1 q2
  refine ⟨q1, ?_⟩
  rcases q2 with ⟨p, a, e1, e2, e3, e4, e5, e6⟩ | ⟨e1, e2, e3⟩
  · refine .inl ⟨p, a, ?_, e2, e3, e4, e5, e6⟩
    unfold firstR
    rw [e1]
  · refine .inr ⟨?_, e2, e3⟩
    unfold firstR
    rw [e1]
/-- a place that is told: the rows differ there, and are alike ahead -/
theorem firstR_some {r1 r2 : List Str} (h1 : r1.length ≤ 1024) {p : Nat} (e : (firstR r1 r2).2 = some p) : Agree r1 r2 p ∧ r1[p]? ≠ r2[p]? ∧ p ≤ min r1.length r2.length := by
  rcases (firstR_all (r2 := r2) h1).2 with ⟨q, a, e1, e2, e3, e4, _, _⟩ | ⟨e1, e2, _⟩
  · rw [e] at e1
    cases e1
    exact ⟨e3, e4, by omega⟩
  · rw [e] at e1
    by_cases z : r1.length = r2.length
    · rw [if_pos z] at e1; cases e1
    · rw [if_neg z] at e1
      cases e1
      refine ⟨e2, fun w => ?_, Nat.le_refl _⟩
      rcases Nat.lt_or_gt_of_ne z with g | g
      · rw [show min r1.length r2.length = r1.length by omega, List.getElem?_eq_none (Nat.le_refl _), List.getElem?_eq_getElem g] at w
        cases w
      · rw [show min r1.length r2.length = r2.length by omega, List.getElem?_eq_none (l := r2) (Nat.le_refl _), List.getElem?_eq_getElem g] at w
        cases w
end Tw

namespace Tw
open PySem L2 Ts Mix
/-! lists of whole numbers -/
def numsV (l : List Nat) : List V := l.map fun n : Nat => V.int n
theorem numsV_len {l : List Nat} : (numsV l).length = l.length := List.length_map _
theorem numsV_app {l m : List Nat} : numsV (l ++ m) = numsV l ++ numsV m := List.map_append
theorem numsV_dp {K : PySem.W.Frag} {H : Hp} : ∀ l : List Nat, DpAll K H (numsV l) (l.map eNat.enc)
  | [] => .nil
  | _ :: l => .cons (.int _) (numsV_dp l)
theorem numsV_int {l : List Nat} : numsV l = (l.map fun n : Nat => (n : Int)).map V.int := by
  unfold numsV
  rw [List.map_map]
  rfl
theorem rgV_nat {a b : Nat} : rgV (a : Nat) (b : Nat) = numsV ((List.range (b - a)).map fun x => a + x) := by
  unfold rgV numsV
  rw [List.map_map, show ((b : Int) - (a : Int)).toNat = b - a by omega]
  refine List.map_congr_left fun x _ => ?_
  show V.int _ = V.int _
  congr 1
theorem rgV_zero {b : Nat} : rgV 0 (b : Nat) = numsV (List.range b) := by
  have h := rgV_nat (a := 0) (b := b)
  rw [show ((0 : Nat) : Int) = 0 from rfl] at h
  rw [h, Nat.sub_zero]
  congr 1
  conv => rhs; rw [← List.map_id (List.range b)]
  exact List.map_congr_left fun x _ => Nat.zero_add x
theorem numsV_more {a b : Nat} (h : a ≤ b) : numsV (List.range a) ++ rgV (a : Nat) (b : Nat) = numsV (List.range b) := by
  rw [rgV_nat, ← numsV_app, ← List.range_add, show a + (b - a) = b by omega]
theorem rgOk {a b : Nat} (ha : a ≤ 100000) (hb : b ≤ 100000) : RgOk (a : Nat) (b : Nat) := ⟨by omega, by omega, by omega, by omega, by omega⟩
theorem rgOk0 {b : Nat} (hb : b ≤ 100000) : RgOk 0 (b : Nat) := ⟨by omega, by omega, by omega, by omega, by omega⟩
/-- numbers that rise are left as they are -/
theorem sorted_range {k : Nat} {ns : List Int} (p : ns.Perm ((List.range k).map fun n : Nat => (n : Int))) (w : ns.Pairwise (· ≤ ·)) : ns.map V.int = numsV (List.range k) := by
  have e : ns = (List.range k).map fun n : Nat => (n : Int) := by
    refine List.Perm.eq_of_pairwise (le := fun x y : Int => x ≤ y) (fun a b _ _ h1 h2 => by omega) w ?_ p
    rw [List.pairwise_map]
    exact List.pairwise_lt_range.imp fun h => by omega
  rw [e, numsV_int]
theorem numsV_flat (l : List Nat) : (numsV l).all flatV = true := by
  rw [List.all_eq_true]
  intro x hx
  obtain ⟨n, _, rfl⟩ := List.mem_map.mp hx
  rfl
theorem numsV_in (m : Nat) (l : List Nat) : inV (.int (m : Nat)) (numsV l) = decide (m ∈ l) := by
  unfold inV numsV
  rw [List.any_map, Bool.eq_iff_iff, List.any_eq_true, decide_eq_true_iff]
  constructor
  · rintro ⟨x, hx, e⟩
    have e : (((x : Nat) : Int) == ((m : Nat) : Int)) = true := e
    have := eq_of_beq e
    rw [show m = x by omega]
    exact hx
  · intro h
    exact ⟨m, h, beq_self_eq_true (α := Int) _⟩
end Tw

namespace Tw
open PySem L2 Ts Mix
/-! ### all places -/
def allIn (r1 r2 : List Str) : Nat → Nat → List Look × List Nat
  | 0, j => ([], [j])
  | h + 1, j => if alk r1 r2 h (2 * j) = true then ((h, 2 * j, true) :: (allIn r1 r2 h (2 * j + 1)).1, (allIn r1 r2 h (2 * j + 1)).2)
    else if alk r1 r2 h (2 * j + 1) = true then ((h, 2 * j, false) :: ((allIn r1 r2 h (2 * j)).1 ++ [(h, 2 * j + 1, true)]), (allIn r1 r2 h (2 * j)).2)
    else ((h, 2 * j, false) :: ((allIn r1 r2 h (2 * j)).1 ++ (h, 2 * j + 1, false) :: (allIn r1 r2 h (2 * j + 1)).1), (allIn r1 r2 h (2 * j)).2 ++ (allIn r1 r2 h (2 * j + 1)).2)
section
variable {r1 r2 : List Str} {h j : Nat}
theorem allIn_0 : allIn r1 r2 0 j = ([], [j]) := rfl
theorem allIn_t (a : alk r1 r2 h (2 * j) = true) : allIn r1 r2 (h + 1) j = ((h, 2 * j, true) :: (allIn r1 r2 h (2 * j + 1)).1, (allIn r1 r2 h (2 * j + 1)).2) := by
  show (if alk r1 r2 h (2 * j) = true then _ else _) = _
  rw [if_pos a]
theorem allIn_ft (a : alk r1 r2 h (2 * j) = false) (b : alk r1 r2 h (2 * j + 1) = true) : allIn r1 r2 (h + 1) j = ((h, 2 * j, false) :: ((allIn r1 r2 h (2 * j)).1 ++ [(h, 2 * j + 1, true)]), (allIn r1 r2 h (2 * j)).2) := by
  show (if alk r1 r2 h (2 * j) = true then _ else if alk r1 r2 h (2 * j + 1) = true then _ else _) = _
  rw [if_neg (by rw [a]; exact Bool.false_ne_true), if_pos b]
theorem allIn_ff (a : alk r1 r2 h (2 * j) = false) (b : alk r1 r2 h (2 * j + 1) = false) : allIn r1 r2 (h + 1) j = ((h, 2 * j, false) :: ((allIn r1 r2 h (2 * j)).1 ++ (h, 2 * j + 1, false) :: (allIn r1 r2 h (2 * j + 1)).1), (allIn r1 r2 h (2 * j)).2 ++ (allIn r1 r2 h (2 * j + 1)).2) := by
  show (if alk r1 r2 h (2 * j) = true then _ else if alk r1 r2 h (2 * j + 1) = true then _ else _) = _
  rw [if_neg (by rw [a]; exact Bool.false_ne_true), if_neg (by rw [b]; exact Bool.false_ne_true)]
theorem allIn_len : ∀ (h j : Nat), (allIn r1 r2 h j).1.length + 2 ≤ 2 * 2 ^ h ∧ (allIn r1 r2 h j).2.length ≤ 2 ^ h
  | 0, j => by rw [allIn_0]; simp
  | h + 1, j => by
    obtain ⟨a1, a2⟩ := allIn_len h (2 * j)
    obtain ⟨b1, b2⟩ := allIn_len h (2 * j + 1)
    have p := Nat.two_pow_pos h
    rw [Nat.pow_succ]
    cases ea : alk r1 r2 h (2 * j) with
    | true =>
      rw [allIn_t ea]
      simp only [List.length_cons]
      omega
    | false =>
      cases eb : alk r1 r2 h (2 * j + 1) with
      | true =>
        rw [allIn_ft ea eb]
        simp only [List.length_cons, List.length_append, List.length_nil]
        omega
      | false =>
        rw [allIn_ff ea eb]
        simp only [List.length_cons, List.length_append]
        omega
end
def allM (r1 r2 : List Str) : List (Nat × Nat) → List Look × List Nat
  | [] => ([], [])
  | (h, j) :: ps => if alk r1 r2 h j = true then ((h, j, true) :: (allM r1 r2 ps).1, (allM r1 r2 ps).2)
    else ((h, j, false) :: ((allIn r1 r2 h j).1 ++ (allM r1 r2 ps).1), (allIn r1 r2 h j).2 ++ (allM r1 r2 ps).2)
def allR (r1 r2 : List Str) : List Look × List Nat := allM r1 r2 (parts (min r1.length r2.length))
section
variable {r1 r2 : List Str} {h j : Nat} {ps : List (Nat × Nat)}
theorem allM_t (a : alk r1 r2 h j = true) : allM r1 r2 ((h, j) :: ps) = ((h, j, true) :: (allM r1 r2 ps).1, (allM r1 r2 ps).2) := by
  show (if alk r1 r2 h j = true then _ else _) = _
  rw [if_pos a]
theorem allM_f (a : alk r1 r2 h j = false) : allM r1 r2 ((h, j) :: ps) = ((h, j, false) :: ((allIn r1 r2 h j).1 ++ (allM r1 r2 ps).1), (allIn r1 r2 h j).2 ++ (allM r1 r2 ps).2) := by
  show (if alk r1 r2 h j = true then _ else _) = _
  rw [if_neg (by rw [a]; exact Bool.false_ne_true)]
theorem pow10 {h : Nat} (hh : h ≤ 10) : 2 ^ h ≤ 1024 := Nat.le_trans (Nat.pow_le_pow_right (by decide) hh) (by decide)
theorem allM_len : ∀ ps : List (Nat × Nat), (∀ p ∈ ps, p.1 ≤ 10) → (allM r1 r2 ps).1.length ≤ ps.length * 2049 ∧ (allM r1 r2 ps).2.length ≤ ps.length * 1024
  | [], _ => ⟨Nat.zero_le _, Nat.zero_le _⟩
  | (h, j) :: ps, hp => by
    have h1 : 2 ^ h ≤ 1024 := pow10 (hp (h, j) List.mem_cons_self)
    obtain ⟨c1, c2⟩ := allM_len ps fun p m => hp p (List.mem_cons_of_mem _ m)
    obtain ⟨a1, a2⟩ := allIn_len (r1 := r1) (r2 := r2) h j
    rw [List.length_cons, Nat.add_mul, Nat.add_mul]
    cases ea : alk r1 r2 h j with
    | true =>
      rw [allM_t ea]
      simp only [List.length_cons]
      omega
    | false =>
      rw [allM_f ea]
      simp only [List.length_cons, List.length_append]
      omega
theorem allR_len (hn : r1.length ≤ 1024) : (allR r1 r2).1.length ≤ 22539 ∧ (allR r1 r2).2.length ≤ 11264 := by
  have h1 := allM_len (r1 := r1) (r2 := r2) (parts (min r1.length r2.length)) fun p hp => ht_le (parts_le hp) (by omega)
  have h2 := parts_length (n := min r1.length r2.length) (by omega)
  unfold allR
  have m1 := Nat.mul_le_mul_right 2049 h2
  have m2 := Nat.mul_le_mul_right 1024 h2
  omega
end
theorem allIn_comm (r1 r2 : List Str) : ∀ h j, allIn r1 r2 h j = allIn r2 r1 h j
  | 0, _ => rfl
  | h + 1, j => by
    have i1 := allIn_comm r1 r2 h (2 * j)
    have i2 := allIn_comm r1 r2 h (2 * j + 1)
    unfold allIn
    rw [i1, i2, alk_comm r1 r2 h (2 * j), alk_comm r1 r2 h (2 * j + 1)]
theorem allM_comm (r1 r2 : List Str) : ∀ ps, allM r1 r2 ps = allM r2 r1 ps
  | [] => rfl
  | (h, j) :: ps => by
    have i1 := allM_comm r1 r2 ps
    unfold allM
    rw [i1, allIn_comm r1 r2, alk_comm r1 r2 h j]
theorem allR_comm (r1 r2 : List Str) : allR r1 r2 = allR r2 r1 := by
  unfold allR
  rw [allM_comm, Nat.min_comm]
def sp_Looker_all_in : Nat → PySem.W.Frag → Cs → Sp
  | 0, _, _ => fun _ _ _ _ => False
  | n + 1, K, c => fun vs H Q _ => ∃ (L p lk : Addr) (b1 b2 : BR) (ths : List MK) (ds : List Look) (h j : Nat), vs = [.ref p, .int (h : Nat), .int (j : Nat)] ∧ LS K c H L p lk b1 b2 ths ds ∧ (j + 1) * 2 ^ h ≤ b1.rows.length ∧ (j + 1) * 2 ^ h ≤ b2.rows.length ∧ h ≤ n ∧ ds.length + 2 * 2 ^ h < 100000 ∧
  ∀ H' q, LS K c H' L p lk b1 b2 ths (ds ++ (allIn b1.rows b2.rows h j).1) → Ex (hid lk H) (hid lk H') → q ≠ lk → H q = none → H' q = some (.lst (numsV (allIn b1.rows b2.rows h j).2)) → Q (.ref q) H'
def N_Looker_all_in : List Str := ["self", "height", "number", "found", "left"]
def t_Looker_all_in (n : Nat) (K : PySem.W.Frag) (c : Cs) (E : XK) : TS := (tSeq (tIfS (tTest (tOp (rEqU K) (tVar 1) (tC (.int 0)))) (tRet (tLst (tCons (tVar 2) tNil))) tNext)
  (tSeq (tAsg (tLst tNil) (gName 3))
  (tSeq (tAsg (tMeth c.Looker "are_alike" (sp_Looker_are_alike K c) [] E0 (tVar 0) (tCons (tOp rSubI (tVar 1) (tC (.int 1))) (tCons (tOp rMul (tC (.int 2)) (tVar 2)) tNil))) (gName 4))
  (tSeq (tIfS (tNot (tB (tVar 4))) (tAsg (tMeth c.Looker "all_in" (sp_Looker_all_in n K c) [] E0 (tVar 0) (tCons (tOp rSubI (tVar 1) (tC (.int 1))) (tCons (tOp rMul (tC (.int 2)) (tVar 2)) tNil))) (gName 3)) tNext)
  (tSeq (tIfS (tOr (tB (tVar 4)) (tNot (tB (tMeth c.Looker "are_alike" (sp_Looker_are_alike K c) [] E0 (tVar 0) (tCons (tOp rSubI (tVar 1) (tC (.int 1))) (tCons (tOp rAddU (tOp rMul (tC (.int 2)) (tVar 2)) (tC (.int 1))) tNil)))))) (tAsg (tOp rAddU (tVar 3) (tMeth c.Looker "all_in" (sp_Looker_all_in n K c) [] E0 (tVar 0) (tCons (tOp rSubI (tVar 1) (tC (.int 1))) (tCons (tOp rAddU (tOp rMul (tC (.int 2)) (tVar 2)) (tC (.int 1))) tNil)))) (gName 3)) tNext)
  (tRet (tVar 3)))))))
theorem len_Looker_all_in (n : Nat) {K c} : ∀ vs H Q E, sp_Looker_all_in n K c vs H Q E → vs.length = 3 := by
  cases n with
  | zero => intro vs H Q E h; exact h.elim
  | succ n => rintro vs H Q E ⟨_, _, _, _, _, _, _, _, _, rfl, _⟩; rfl
theorem pure_Looker_all_in (n : Nat) {K : PySem.W.Frag} {c : Cs} {vs : List V} {H : Hp} {Q : VK} {E : XK} (T : TxK K c) (g : sp_Looker_all_in (n + 1) K c vs H Q E) : t_Looker_all_in n K c E ⟨fun _ H' => Q .non H', Q, fun _ _ => False, fun _ _ => False⟩ (start N_Looker_all_in vs) H := by
  obtain ⟨L, p, lk, b1, b2, ths, ds, h, j, rfl, S, hb1, hb2, hn, hd, k⟩ := g
  show t_Looker_all_in n K c E _ [some (.ref p), some (.int (h : Nat)), some (.int (j : Nat)), none, none] H
  unfold t_Looker_all_in
  obtain ⟨l0, h00, _⟩ := S.ls
  walk_at "s"
  refine ite_d (fun h0 => ?_) fun h0 => ?_
  · have h0 : h = 0 := by omega
    subst h0
    walk_at "s"
    refine ⟨by show 1 ≤ sizeLine; exact sz100 (by decide), fun q hq => ?_⟩
    have nq : q ≠ lk := fun e => by rw [e, h00] at hq; cases hq
    refine k _ q ?_ (hid_mono (ex_new ex_refl hq)) nq hq upd_same
    rw [allIn_0, List.append_nil]
    exact S.ex (ex_new ex_refl hq)
  · obtain ⟨h, rfl⟩ : ∃ k, h = k + 1 := ⟨h - 1, by omega⟩
    obtain ⟨n, rfl⟩ : ∃ k, n = k + 1 := ⟨n - 1, by omega⟩
    have m1 : (2 * j + 1 + 1) * 2 ^ h = (j + 1) * 2 ^ (h + 1) := by rw [Nat.pow_succ, show 2 * j + 1 + 1 = (j + 1) * 2 by omega, Nat.mul_assoc, Nat.mul_comm 2]
    have m2 : (2 * j + 1) * 2 ^ h ≤ (2 * j + 1 + 1) * 2 ^ h := Nat.mul_le_mul_right _ (Nat.le_succ _)
    have pp := Nat.two_pow_pos h
    rw [Nat.pow_succ] at hd
    have i1 : ((h + 1 : Nat) : Int) - 1 = (h : Nat) := by push_cast; omega
    have i2 : (2 : Int) * (j : Nat) = ((2 * j : Nat) : Int) := by push_cast; rfl
    have i3 : ((2 * j : Nat) : Int) + 1 = ((2 * j + 1 : Nat) : Int) := by push_cast; rfl
    obtain ⟨a1, a2⟩ := allIn_len (r1 := b1.rows) (r2 := b2.rows) h (2 * j)
    obtain ⟨c1, c2⟩ := allIn_len (r1 := b1.rows) (r2 := b2.rows) h (2 * j + 1)
    walk_at "s"
    refine ⟨Nat.zero_le _, fun q0 hq0 => ?_⟩
    have nq0 : q0 ≠ lk := fun e => by rw [e, h00] at hq0; cases hq0
    have S1 := S.ex (ex_new (o := .lst []) ex_refl hq0)
    have e1 : Ex (hid lk H) (hid lk (upd H q0 (.lst []))) := hid_mono (ex_new ex_refl hq0)
    have g1 : (upd H q0 (.lst [])) q0 = some (.lst []) := upd_same
    generalize upd H q0 (.lst []) = H1 at S1 e1 g1
    obtain ⟨dx, hp⟩ := S1.ob'
    walk_at "s"
    refine w_methAt hp (lkfl_no (by decide +kernel) (by decide +kernel) (by decide +kernel)) ?_
    walk_at "s"
    rw [i1, i2]
    refine ⟨L, p, lk, b1, b2, ths, ds, h, 2 * j, rfl, S1, by omega, by omega, by omega, fun H2 S2 e2 => ?_⟩
    have g2 := ex_hid _ _ (e2 _ _ (hid_get g1 nq0))
    have e2 := e1.trans e2
    walk_at "s"
    -- the right half, told last
    have right : ∀ (H3 : Hp) (v4 : Option V) (ds' : List Look) (ns : List Nat) (q3 : Addr), LS K c H3 L p lk b1 b2 ths ds' → Ex (hid lk H) (hid lk H3) → q3 ≠ lk → H3 q3 = some (.lst (numsV ns)) → ns.length ≤ 2 ^ h → ds'.length + 2 * 2 ^ h < 100000 →
        ds' ++ (allIn b1.rows b2.rows h (2 * j + 1)).1 = ds ++ (allIn b1.rows b2.rows (h + 1) j).1 → ns ++ (allIn b1.rows b2.rows h (2 * j + 1)).2 = (allIn b1.rows b2.rows (h + 1) j).2 →
        tAsg (tOp rAddU (tVar 3) (tMeth c.Looker "all_in" (sp_Looker_all_in (n + 1) K c) [] E0 (tVar 0) (tCons (tOp rSubI (tVar 1) (tC (.int 1))) (tCons (tOp rAddU (tOp rMul (tC (.int 2)) (tVar 2)) (tC (.int 1))) tNil)))) (gName 3) ⟨fun σ' H' => tRet (tVar 3) ⟨fun _ H' => Q .non H', Q, fun _ _ => False, fun _ _ => False⟩ σ' H', Q, fun _ _ => False, fun _ _ => False⟩ [some (.ref p), some (.int ((h + 1 : Nat) : Int)), some (.int (j : Nat)), some (.ref q3), v4] H3 := by
      intro H3 v4 ds' ns q3 S3 e3 n3 g3 ln ld t1 t2
      obtain ⟨dx3, hp3⟩ := S3.ob'
      walk_at "s"
      refine w_methAt hp3 (lkfl_no (by decide +kernel) (by decide +kernel) (by decide +kernel)) ?_
      walk_at "s"
      rw [i1, i2, i3]
      refine ⟨L, p, lk, b1, b2, ths, ds', h, 2 * j + 1, rfl, S3, by omega, by omega, by omega, by omega, fun H4 q4 S4 e4 n4 _ g4 => ?_⟩
      have g3 := ex_hid _ _ (e4 _ _ (hid_get g3 n3))
      walk_at "s"
      refine w_addL g3 g4 (szM (by rw [numsV_len, numsV_len]; have := pow10 (h := h) (ht_le (n := 1024) (h := h) (j := 2 * j + 1) (by have := S3.tb.n1; omega) (by decide)); omega)) fun q5 hq5 => ?_
      obtain ⟨l4, h4, _⟩ := S4.ls
      have n5 : q5 ≠ lk := fun e => by rw [e, h4] at hq5; cases hq5
      have e5 : Ex (hid lk H) (hid lk (upd H4 q5 (.lst (numsV ns ++ numsV (allIn b1.rows b2.rows h (2 * j + 1)).2)))) := (e3.trans e4).trans (hid_mono (ex_new ex_refl hq5))
      walk_at "s"
      refine k _ q5 ?_ e5 n5 ?_ ?_
      · rw [← t1]; exact S4.ex (ex_new ex_refl hq5)
      · have := ex_free (e3.trans e4) (p := q5) (by rw [hid_ne n5]; exact hq5)
        rw [hid_ne n5] at this
        exact this
      · rw [upd_same, ← t2, numsV_app]
    refine ite_nb (fun hb => ?_) fun hb => ?_
    · rw [hb] at S2
      walk_at "s"
      obtain ⟨dx2, hp2⟩ := S2.ob'
      refine w_methAt hp2 (lkfl_no (by decide +kernel) (by decide +kernel) (by decide +kernel)) ?_
      walk_at "s"
      rw [i1, i2]
      refine ⟨L, p, lk, b1, b2, ths, _, h, 2 * j, rfl, S2, by omega, by omega, by omega, by rw [List.length_append]; simp; omega, fun H3 q3 S3 e3 n3 f3 g3 => ?_⟩
      walk_at "s"
      refine ite_b (fun z => absurd z (by rw [hb]; decide)) fun _ => ?_
      walk_at "s"
      obtain ⟨dx3, hp3⟩ := S3.ob'
      refine w_methAt hp3 (lkfl_no (by decide +kernel) (by decide +kernel) (by decide +kernel)) ?_
      walk_at "s"
      rw [i1, i2, i3]
      refine ⟨L, p, lk, b1, b2, ths, _, h, 2 * j + 1, rfl, S3, by omega, by omega, by rw [List.length_append, List.length_append]; simp; omega, fun H4 S4 e4 => ?_⟩
      have g4 := ex_hid _ _ (e4 _ _ (hid_get g3 n3))
      walk_at "s"
      refine ite_nb (fun hc => ?_) fun hc => ?_
      · rw [hc] at S4
        refine right H4 _ _ _ q3 S4 ((e2.trans e3).trans e4) n3 g4 a2 (by simp only [List.length_append, List.length_cons, List.length_nil]; omega) ?_ ?_
        · rw [allIn_ff hb hc]; simp
        · rw [allIn_ff hb hc]
      · rw [hc] at S4
        walk_at "s"
        refine k _ q3 ?_ ((e2.trans e3).trans e4) n3 ?_ ?_
        · rw [allIn_ft hb hc]
          simpa using S4
        · obtain ⟨l2, h2, _⟩ := S2.ls
          have := ex_free e2 (p := q3) (by rw [hid_ne n3]; exact f3)
          rw [hid_ne n3] at this
          exact this
        · rw [allIn_ft hb hc]; exact g4
    · rw [hb] at S2
      walk_at "s"
      refine ite_b (fun _ => ?_) fun z => absurd z (by rw [hb]; decide)
      refine right H2 _ _ [] q0 S2 e2 nq0 g2 (Nat.zero_le _) (by rw [List.length_append]; simp; omega) ?_ ?_
      · rw [allIn_t hb]; simp
      · rw [allIn_t hb]; rfl
/-- what is told: a tuple of two lists -/
structure All (K : PySem.W.Frag) (H H' : Hp) (t pl lk : Addr) (R : List Look × List Nat) : Prop where
  ex : Ex H (hid lk H')
  nl : H lk = none
  np : H pl = none
  nt : H t = none
  ne : pl ≠ lk
  ht : H' t = some (.tup [.ref pl, .ref lk])
  hp : H' pl = some (.lst (numsV R.2))
  ls : ∃ xs, H' lk = some (.lst xs) ∧ DpAll K (hid lk H') xs (R.1.map encL.enc)
theorem All.ex' {K : PySem.W.Frag} {H H' : Hp} {t pl lk : Addr} {R : List Look × List Nat} (F : All K H H' t pl lk R) : Ex H H' := fun b o h => ex_hid _ _ (F.ex b o h)
def N_all_unlike : List Str := ["one", "other", "looker", "found", "height", "number"]
def t_all_unlike (K : PySem.W.Frag) (c : Cs) (E : XK) : TS := (tSeq (tAsg (tMake c.Looker (sp_Looker_init K c) [] E (tCons (tVar 0) (tCons (tVar 1) tNil))) (gName 2))
  (tSeq (tAsg (tLst tNil) (gName 3))
  (tSeq (tFor (iList K (tCall (sp_parted K c) [] E (tCons (tMeth c.Looker "lesser" (sp_Looker_lesser K c) [] E (tVar 2) tNil) tNil))) (gTup K 2 (gCons (gName 4) (gCons (gName 5) gNil))) (tIfS (tNot (tB (tMeth c.Looker "are_alike" (sp_Looker_are_alike K c) [] E (tVar 2) (tCons (tVar 4) (tCons (tVar 5) tNil))))) (tAsg (tOp rAddU (tVar 3) (tMeth c.Looker "all_in" (sp_Looker_all_in 20 K c) [] E (tVar 2) (tCons (tVar 4) (tCons (tVar 5) tNil)))) (gName 3)) tNext))
  (tRet (tTup (tCons (tVar 3) (tCons (tFld K (tVar 2) "looks") tNil)))))))
def sp_all_unlike (K : PySem.W.Frag) (c : Cs) : Sp := fun vs H Q E => ∃ (b1 b2 : BR), vs = [.ref b1.B, .ref b2.B] ∧ ((∃ (L : Addr) (ths : List MK), TB c H L b1 b2 ths ∧ ∀ H' t pl lk, All K H H' t pl lk (allR b1.rows b2.rows) → Q (.ref t) H') ∨ Stranger c H b1 b2 E)
theorem len_all_unlike {K c} : ∀ vs H Q E, sp_all_unlike K c vs H Q E → vs.length = 2 := by rintro vs H Q E ⟨_, _, rfl, _⟩; rfl
theorem pure_all_unlike {K : PySem.W.Frag} {c : Cs} {vs : List V} {H : Hp} {Q : VK} {E : XK} (T : TxK K c) (g : sp_all_unlike K c vs H Q E) : t_all_unlike K c E ⟨fun _ H' => Q .non H', Q, fun _ _ => False, fun _ _ => False⟩ (start N_all_unlike vs) H := by
  obtain ⟨b1, b2, rfl, g⟩ := g
  rcases g with ⟨L, ths, tb, k⟩ | s
  case inr =>
    show t_all_unlike K c E _ [some (.ref b1.B), some (.ref b2.B), none, none, none, none] H
    unfold t_all_unlike
    walk_at "s"
    exact strange_looker s
  show t_all_unlike K c E _ [some (.ref b1.B), some (.ref b2.B), none, none, none, none] H
  unfold t_all_unlike
  walk_at "s"
  refine new_looker tb fun p lk H1 S1 ex1 fl fp => ?_
  have n1 := tb.n1
  have n2 := tb.n2
  walk_at "s"
  obtain ⟨l1, h1, _⟩ := S1.ls
  refine ⟨Nat.zero_le _, fun q0 hq0 => ?_⟩
  have nq0 : q0 ≠ lk := fun e => by rw [e, h1] at hq0; cases hq0
  have S2 := S1.ex (ex_new (o := .lst []) ex_refl hq0)
  have e2 : Ex H (hid lk (upd H1 q0 (.lst []))) := ex1.trans (hid_mono (ex_new ex_refl hq0))
  have g2 : (upd H1 q0 (.lst [])) q0 = some (.lst []) := upd_same
  have f0 : H q0 = none := ex_free ex1 (by rw [hid_ne nq0]; exact hq0)
  generalize upd H1 q0 (.lst []) = H2 at S2 e2 g2
  clear S1 ex1 h1 hq0
  obtain ⟨dx, hp⟩ := S2.ob'
  obtain ⟨l2, h2, _⟩ := S2.ls
  walk_at "s"
  refine w_methAt hp (lkfl_no (by decide +kernel) (by decide +kernel) (by decide +kernel)) ?_
  walk_at "s"
  refine ⟨L, p, lk, b1, b2, ths, [], rfl, S2, ?_⟩
  walk_at "s"
  have p29 : (2 : Nat) ^ 29 = 536870912 := by decide
  refine ⟨_, rfl, by omega, fun H3 q xs ex3 fq hq dq => ?_⟩
  have S3 := S2.ex ex3
  have g3 := ex3 _ _ g2
  have e3 := e2.trans (hid_mono ex3)
  have pl := parts_length (n := min b1.rows.length b2.rows.length) (by omega)
  have pin : ∀ h j, (h, j) ∈ parts (min b1.rows.length b2.rows.length) → (j + 1) * 2 ^ h ≤ min b1.rows.length b2.rows.length := fun h j hm => parts_le hm
  have eR : allR b1.rows b2.rows = allM b1.rows b2.rows (parts (min b1.rows.length b2.rows.length)) := rfl
  generalize parts (min b1.rows.length b2.rows.length) = ps at dq pl pin eR
  have hxl := dpAll_len dq
  rw [List.length_map] at hxl
  have nq : q ≠ lk := fun e => by rw [e, h2] at fq; cases fq
  obtain ⟨l3, h3, _⟩ := S3.ls
  have lh : ∀ p ∈ ps, p.1 ≤ 10 := fun (p : Nat × Nat) hp => @ht_le p.1 p.2 1024 (by have := pin p.1 p.2 hp; omega) (by decide)
  refine w_iLv (sql hq) (lb_list (K := K) (xs := xs) (fun i σ H' => ∃ (v4 v5 : Option V) (q3 : Addr) (ds : List Look) (ns : List Nat), σ = [some (.ref b1.B), some (.ref b2.B), some (.ref p), some (.ref q3), v4, v5] ∧ LS K c H' L p lk b1 b2 ths ds ∧ Ex (hid lk H3) (hid lk H') ∧
      ds.length ≤ i * 2049 ∧ ns.length ≤ i * 1024 ∧ q3 ≠ lk ∧ H q3 = none ∧ H' q3 = some (.lst (numsV ns)) ∧ ds ++ (allM b1.rows b2.rows (ps.drop i)).1 = (allM b1.rows b2.rows ps).1 ∧ ns ++ (allM b1.rows b2.rows (ps.drop i)).2 = (allM b1.rows b2.rows ps).2) ⟨_, _, q0, [], [], rfl, S3, ex_refl, Nat.zero_le _, Nat.zero_le _, nq0, f0, g3, rfl, rfl⟩ ?_ ?_ ?_)
  · rintro i σ H' _ ⟨_, _, _, _, _, _, _, e, _⟩
    exact sql (ex_hid _ _ (e _ _ (hid_get hq nq)))
  · rintro i x σ H4 hi ⟨v4, v5, q3, ds, ns, rfl, S4, e4, hd, hns, n3, f3, g4, t1, t2⟩
    obtain ⟨dd, hd1, hd2⟩ := dpAll_get dq hi
    rw [List.getElem?_map] at hd1
    obtain ⟨⟨h, j⟩, hp1, rfl⟩ := Option.map_eq_some_iff.mp hd1
    obtain ⟨t, x1, y1, rfl, ht, hx1, hy1⟩ := dp_tup2 hd2
    have hx1 := dp_int hx1
    have hy1 := dp_int hy1
    subst hx1 hy1
    have hb := pin h j (List.mem_of_getElem? hp1)
    have hh := pow10 (lh _ (List.mem_of_getElem? hp1))
    have hl10 := lh _ (List.mem_of_getElem? hp1)
    have hh : 2 ^ h ≤ 1024 := hh
    have hl10 : h ≤ 10 := hl10
    have hil := get_lt hp1
    rw [drop_at hp1] at t1 t2
    obtain ⟨a1, a2⟩ := allIn_len (r1 := b1.rows) (r2 := b2.rows) h j
    have ht4 := sqt_ex ex_hid (sqt_ex e4 (sqt_hid ht h3))
    obtain ⟨dx4, hp4⟩ := S4.ob'
    refine w_gTup ht4 rfl ?_
    walk_at "s"
    refine w_methAt hp4 (lkfl_no (by decide +kernel) (by decide +kernel) (by decide +kernel)) ?_
    walk_at "s"
    refine ⟨L, p, lk, b1, b2, ths, ds, h, j, rfl, S4, by omega, by omega, by omega, fun H5 S5 e5 => ?_⟩
    have g5 := ex_hid _ _ (e5 _ _ (hid_get g4 n3))
    walk_at "s"
    refine ite_nb (fun hb0 => ?_) fun hb0 => ?_
    · rw [hb0] at S5
      rw [allM_f hb0] at t1 t2
      walk_at "s"
      obtain ⟨dx5, hp5⟩ := S5.ob'
      refine w_methAt hp5 (lkfl_no (by decide +kernel) (by decide +kernel) (by decide +kernel)) ?_
      walk_at "s"
      refine ⟨L, p, lk, b1, b2, ths, _, h, j, rfl, S5, by omega, by omega, Nat.le_trans hl10 (by decide), by rw [List.length_append]; simp; omega, fun H6 q6 S6 e6 n6 _ g6 => ?_⟩
      have g5 := ex_hid _ _ (e6 _ _ (hid_get g5 n3))
      walk_at "s"
      refine w_addL g5 g6 (szM (by rw [numsV_len, numsV_len]; omega)) fun q7 hq7 => ?_
      obtain ⟨l6, h6, _⟩ := S6.ls
      have n7 : q7 ≠ lk := fun e => by rw [e, h6] at hq7; cases hq7
      have e46 := (e4.trans e5).trans e6
      have e7 : Ex (hid lk H3) (hid lk (upd H6 q7 (.lst (numsV ns ++ numsV (allIn b1.rows b2.rows h j).2)))) := e46.trans (hid_mono (ex_new ex_refl hq7))
      walk_at "s"
      refine ⟨_, _, q7, _, ns ++ (allIn b1.rows b2.rows h j).2, rfl, S6.ex (ex_new ex_refl hq7), e7, ?_, ?_, n7, ex_free (e3.trans e46) (by rw [hid_ne n7]; exact hq7), by rw [upd_same, numsV_app], ?_, ?_⟩
      · simp only [List.length_append, List.length_cons, List.length_nil]; omega
      · simp only [List.length_append]; omega
      · simpa using t1
      · simpa using t2
    · rw [hb0] at S5
      rw [allM_t hb0] at t1 t2
      walk_at "s"
      exact ⟨_, _, q3, _, ns, rfl, S5, e4.trans e5, by simp only [List.length_append, List.length_cons, List.length_nil]; omega, by omega, n3, f3, g5, by simpa using t1, t2⟩
  · rintro σ H4 ⟨v4, v5, q3, ds, ns, rfl, S4, e4, hd, hns, n3, f3, g4, t1, t2⟩
    rw [hxl, List.drop_length] at t1 t2
    have t1 : ds ++ [] = (allM b1.rows b2.rows ps).1 := t1
    have t2 : ns ++ [] = (allM b1.rows b2.rows ps).2 := t2
    rw [List.append_nil] at t1 t2
    rw [t1] at S4
    rw [t2] at g4
    obtain ⟨dx4, hp4⟩ := S4.ob'
    walk_at "s"
    refine w_fldAt hp4 T.cLooker T.n_Looker_looks lkfl_looks ?_
    walk_at "s"
    refine ⟨by show 2 ≤ sizeLine; exact sz100 (by decide), fun t5 ht5 => ?_⟩
    have S5 := S4.ex (ex_new (o := .tup [.ref q3, .ref lk]) ex_refl ht5)
    refine k _ t5 q3 lk ⟨(e3.trans e4).trans (hid_mono (ex_new ex_refl ht5)), fl, f3, ?_, n3, upd_same, ?_, ?_⟩
    · refine ex_free ((e3.trans e4).trans ex_hid) ht5
    · rw [eR]; exact ex_new ex_refl ht5 _ _ g4
    · rw [eR]; exact S5.ls
end Tw

namespace Tw
open PySem L2 Ts Mix
/-- the places from a on, ahead of b, at which the rows differ -/
def diffs (r1 r2 : List Str) (a b : Nat) : List Nat := (List.range' a (b - a)).filter fun i => !decide (r1[i]? = r2[i]?)
section
variable {r1 r2 : List Str} {n : Nat}
theorem diffs_split {a b c : Nat} (h1 : a ≤ b) (h2 : b ≤ c) : diffs r1 r2 a c = diffs r1 r2 a b ++ diffs r1 r2 b c := by
  unfold diffs
  rw [← List.filter_append]
  congr 1
  have := List.range'_append (s := a) (m := b - a) (n := c - b) (step := 1)
  rw [Nat.one_mul, show a + (b - a) = b by omega, show b - a + (c - b) = c - a by omega] at this
  exact this.symm
theorem diffs_nil {a b : Nat} (h : ∀ i, a ≤ i → i < b → r1[i]? = r2[i]?) : diffs r1 r2 a b = [] := by
  unfold diffs
  rw [List.filter_eq_nil_iff]
  intro i hi
  obtain ⟨k, hk, rfl⟩ := List.mem_range'.mp hi
  rw [decide_eq_true (h _ (by omega) (by omega))]
  decide
theorem diffs_refl {r : List Str} {a b : Nat} : diffs r r a b = [] := diffs_nil fun _ _ _ => rfl
theorem diffs_one {j : Nat} : diffs r1 r2 j (j + 1) = if r1[j]? = r2[j]? then [] else [j] := by
  unfold diffs
  rw [show j + 1 - j = 1 by omega, List.range'_one, List.filter_cons, List.filter_nil]
  by_cases h : r1[j]? = r2[j]?
  · rw [decide_eq_true h, if_pos h]; rfl
  · rw [decide_eq_false h, if_neg h]; rfl
theorem diffs_snoc {i : Nat} : diffs r1 r2 0 (i + 1) = diffs r1 r2 0 i ++ (if r1[i]? = r2[i]? then [] else [i]) := by
  rw [diffs_split (b := i) (Nat.zero_le _) (Nat.le_succ _), diffs_one]
theorem diffs_lt {a b p : Nat} (h : p ∈ diffs r1 r2 a b) : a ≤ p ∧ p < b ∧ r1[p]? ≠ r2[p]? := by
  obtain ⟨h1, h2⟩ := List.mem_filter.mp h
  obtain ⟨k, hk, rfl⟩ := List.mem_range'.mp h1
  refine ⟨by omega, by omega, fun e => ?_⟩
  rw [decide_eq_true e] at h2
  exact absurd h2 (by decide)
theorem diffs_len {a b : Nat} : (diffs r1 r2 a b).length ≤ b - a := by
  unfold diffs
  have := List.length_filter_le (fun i => !decide (r1[i]? = r2[i]?)) (List.range' a (b - a))
  rw [List.length_range'] at this
  exact this
theorem alk_at {h j : Nat} : alk r1 r2 h j = true ↔ ∀ i, j * 2 ^ h ≤ i → i < (j + 1) * 2 ^ h → r1[i]? = r2[i]? := by
  have get : ∀ {r : List Str} {i : Nat}, j * 2 ^ h ≤ i → i < (j + 1) * 2 ^ h → (blk r h j)[i - j * 2 ^ h]? = r[i]? := fun {r i} h1 h2 => by
    unfold blk
    rw [Nat.add_mul, Nat.one_mul] at h2
    rw [List.getElem?_take_of_lt (by omega), List.getElem?_drop]
    congr 1
    omega
  unfold alk
  rw [decide_eq_true_iff]
  constructor
  · intro e i h1 h2
    rw [← get (r := r1) h1 h2, ← get (r := r2) h1 h2, e]
  · intro q
    refine List.ext_getElem? fun k => ?_
    by_cases hk : k < 2 ^ h
    · have h1 : j * 2 ^ h ≤ j * 2 ^ h + k := Nat.le_add_right _ _
      have h2 : j * 2 ^ h + k < (j + 1) * 2 ^ h := by rw [Nat.add_mul, Nat.one_mul]; omega
      have e1 := get (r := r1) h1 h2
      have e2 := get (r := r2) h1 h2
      rw [show j * 2 ^ h + k - j * 2 ^ h = k by omega] at e1 e2
      rw [e1, e2]
      exact q _ h1 h2
    · have z : ∀ r : List Str, (blk r h j)[k]? = none := fun r => by
        unfold blk
        rw [List.getElem?_eq_none]
        rw [List.length_take]
        omega
      rw [z, z]
theorem allIn_places : ∀ (h j : Nat), alk r1 r2 h j = false → (allIn r1 r2 h j).2 = diffs r1 r2 (j * 2 ^ h) ((j + 1) * 2 ^ h)
  | 0, j, na => by
    rw [allIn_0, Nat.pow_zero, Nat.mul_one, Nat.mul_one, diffs_one, if_neg]
    intro e
    have : alk r1 r2 0 j = true := alk_at.mpr fun i h1 h2 => by
      rw [Nat.pow_zero, Nat.mul_one] at h1 h2
      rw [show i = j by omega]; exact e
    rw [na] at this
    cases this
  | h + 1, j, na => by
    have p1 : (2 * j) * 2 ^ h = j * 2 ^ (h + 1) := by rw [Nat.pow_succ, Nat.mul_comm (2 ^ h) 2, ← Nat.mul_assoc, Nat.mul_comm j 2]
    have p2 : (2 * j + 1 + 1) * 2 ^ h = (j + 1) * 2 ^ (h + 1) := by rw [Nat.pow_succ, show 2 * j + 1 + 1 = (j + 1) * 2 by omega, Nat.mul_assoc, Nat.mul_comm 2]
    have p3 : (2 * j + 1) * 2 ^ h ≤ (2 * j + 1 + 1) * 2 ^ h := Nat.mul_le_mul_right _ (Nat.le_succ _)
    have p4 : (2 * j) * 2 ^ h ≤ (2 * j + 1) * 2 ^ h := Nat.mul_le_mul_right _ (Nat.le_succ _)
    rw [← p1, ← p2, diffs_split p4 p3]
    cases hb : alk r1 r2 h (2 * j) with
    | true =>
      rw [allIn_t hb, diffs_nil (alk_at.mp hb), List.nil_append]
      refine allIn_places h (2 * j + 1) ?_
      cases hc : alk r1 r2 h (2 * j + 1) with
      | false => rfl
      | true =>
        have : alk r1 r2 (h + 1) j = true := alk_at.mpr fun i h1 h2 => by
          rw [← p1] at h1
          rw [← p2] at h2
          by_cases z : i < (2 * j + 1) * 2 ^ h
          · exact alk_at.mp hb i h1 z
          · exact alk_at.mp hc i (by omega) h2
        rw [na] at this
        cases this
    | false =>
      cases hc : alk r1 r2 h (2 * j + 1) with
      | true => rw [allIn_ft hb hc, diffs_nil (alk_at.mp hc), List.append_nil]; exact allIn_places h _ hb
      | false => rw [allIn_ff hb hc, ← allIn_places h _ hb, ← allIn_places h _ hc]
theorem allM_places : ∀ k : Nat, (allM r1 r2 (partsF n (placeAt n k) k)).2 = diffs r1 r2 (placeAt n k) n
  | 0 => by
    rw [placeAt_zero]
    show [] = _
    rw [diffs_nil]
    intro i h1 h2
    omega
  | k + 1 => by
    by_cases b : n / 2 ^ k % 2 = 1
    · rw [parts_cons b]
      have d : 2 ^ k ∣ placeAt n (k + 1) := ⟨n / 2 ^ (k + 1) * 2, by unfold placeAt; rw [Nat.pow_succ, Nat.mul_comm (2 ^ k) 2, ← Nat.mul_assoc, Nat.mul_comm (2 ^ k)]⟩
      have h1 := Nat.div_mul_cancel d
      have h2 := placeAt_le n k
      have h3 := placeAt_succ n k
      rw [b, Nat.one_mul] at h3
      generalize placeAt n (k + 1) / 2 ^ k = j at h1
      have h4 : (j + 1) * 2 ^ k = placeAt n k := by rw [Nat.add_mul, Nat.one_mul]; omega
      rw [diffs_split (b := placeAt n k) (by omega) h2, ← allM_places k, ← h1, ← h4]
      cases hb : alk r1 r2 k j with
      | true => rw [allM_t hb, diffs_nil (alk_at.mp hb), h4]; rfl
      | false => rw [allM_f hb, ← allIn_places k j hb, h4]
    · rw [parts_skip b, allM_places k]
      have e := placeAt_succ n k
      have e2 : n / 2 ^ k % 2 = 0 := by have := Nat.mod_lt (n / 2 ^ k) (show 0 < 2 by decide); omega
      rw [e2, Nat.zero_mul, Nat.add_zero] at e
      rw [e]
end
theorem allR_places (r1 r2 : List Str) : (allR r1 r2).2 = diffs r1 r2 0 (min r1.length r2.length) := by
  have h := allM_places (r1 := r1) (r2 := r2) (n := min r1.length r2.length) (digs (min r1.length r2.length))
  rw [placeAt_digs] at h
  exact h
end Tw

namespace Tw
open PySem L2 Ts Mix
/-! ### all places, over the whole -/
/-- the places from a on, ahead of b, at which the rows are alike -/
def sames (r1 r2 : List Str) (a b : Nat) : List Nat := (List.range' a (b - a)).filter fun i => decide (r1[i]? = r2[i]?)
/-- the places that looks show to be alike -/
def cov : List Look → List Nat
  | [] => []
  | (h, j, b) :: ds => (if b = true then List.range' (j * 2 ^ h) (2 ^ h) else []) ++ cov ds
theorem cov_t {h j : Nat} {ds : List Look} : cov ((h, j, true) :: ds) = List.range' (j * 2 ^ h) (2 ^ h) ++ cov ds := rfl
theorem cov_f {h j : Nat} {ds : List Look} : cov ((h, j, false) :: ds) = cov ds := rfl
theorem cov_app : ∀ ds es : List Look, cov (ds ++ es) = cov ds ++ cov es
  | [], _ => rfl
  | (h, j, b) :: ds, es => by
    show (if b = true then _ else _) ++ cov (ds ++ es) = ((if b = true then _ else _) ++ cov ds) ++ cov es
    rw [cov_app ds es, List.append_assoc]
/-- a block -/
def keyL (l : Look) : Nat × Nat := (l.1, l.2.1)
/-- a look is true, and lies from a on, ahead of b -/
def LookOk (r1 r2 : List Str) (n : Nat) (l : Look) : Prop := l.2.2 = alk r1 r2 l.1 l.2.1 ∧ (l.2.1 + 1) * 2 ^ l.1 ≤ n ∧ l.1 ≤ 10
def LookIn (a b : Nat) (l : Look) : Prop := a ≤ l.2.1 * 2 ^ l.1 ∧ (l.2.1 + 1) * 2 ^ l.1 ≤ b
section
variable {r1 r2 : List Str} {n : Nat}
theorem sames_split {a b c : Nat} (h1 : a ≤ b) (h2 : b ≤ c) : sames r1 r2 a c = sames r1 r2 a b ++ sames r1 r2 b c := by
  unfold sames
  rw [← List.filter_append]
  congr 1
  have := List.range'_append (s := a) (m := b - a) (n := c - b) (step := 1)
  rw [Nat.one_mul, show a + (b - a) = b by omega, show b - a + (c - b) = c - a by omega] at this
  exact this.symm
theorem sames_nil {a b : Nat} (h : ∀ i, a ≤ i → i < b → r1[i]? ≠ r2[i]?) : sames r1 r2 a b = [] := by
  unfold sames
  rw [List.filter_eq_nil_iff]
  intro i hi
  obtain ⟨k, hk, rfl⟩ := List.mem_range'.mp hi
  rw [decide_eq_false (h _ (by omega) (by omega))]
  decide
theorem sames_all {a b : Nat} (h : ∀ i, a ≤ i → i < b → r1[i]? = r2[i]?) : sames r1 r2 a b = List.range' a (b - a) := by
  unfold sames
  rw [List.filter_eq_self]
  intro i hi
  obtain ⟨k, hk, rfl⟩ := List.mem_range'.mp hi
  exact decide_eq_true (h _ (by omega) (by omega))
theorem sames_one {j : Nat} : sames r1 r2 j (j + 1) = if r1[j]? = r2[j]? then [j] else [] := by
  unfold sames
  rw [show j + 1 - j = 1 by omega, List.range'_one, List.filter_cons, List.filter_nil]
  by_cases h : r1[j]? = r2[j]?
  · rw [decide_eq_true h, if_pos h]; rfl
  · rw [decide_eq_false h, if_neg h]; rfl
theorem sames_snoc {i : Nat} : sames r1 r2 0 (i + 1) = sames r1 r2 0 i ++ (if r1[i]? = r2[i]? then [i] else []) := by
  rw [sames_split (b := i) (Nat.zero_le _) (Nat.le_succ _), sames_one]
theorem sames_len {a b : Nat} : (sames r1 r2 a b).length ≤ b - a := by
  unfold sames
  have := List.length_filter_le (fun i => decide (r1[i]? = r2[i]?)) (List.range' a (b - a))
  rw [List.length_range'] at this
  exact this
theorem sames_rise {a b : Nat} : (sames r1 r2 a b).Pairwise (· < ·) := List.Pairwise.filter _ List.pairwise_lt_range'
theorem diffs_mem {p m : Nat} : p ∈ diffs r1 r2 0 m ↔ p < m ∧ r1[p]? ≠ r2[p]? := by
  constructor
  · intro h
    obtain ⟨_, h1, h2⟩ := diffs_lt h
    exact ⟨h1, h2⟩
  · rintro ⟨h1, h2⟩
    refine List.mem_filter.mpr ⟨List.mem_range'.mpr ⟨p, by omega, by omega⟩, ?_⟩
    rw [decide_eq_false h2]
    rfl
theorem halves (h j : Nat) : (2 * j) * 2 ^ h = j * 2 ^ (h + 1) ∧ (2 * j + 1 + 1) * 2 ^ h = (j + 1) * 2 ^ (h + 1) ∧ (2 * j + 1) * 2 ^ h = (2 * j) * 2 ^ h + 2 ^ h ∧ (2 * j + 1 + 1) * 2 ^ h = (2 * j + 1) * 2 ^ h + 2 ^ h :=
  ⟨by rw [Nat.pow_succ, Nat.mul_comm (2 ^ h) 2, ← Nat.mul_assoc, Nat.mul_comm j 2], by rw [Nat.pow_succ, show 2 * j + 1 + 1 = (j + 1) * 2 by omega, Nat.mul_assoc, Nat.mul_comm 2], by rw [Nat.add_mul, Nat.one_mul], by rw [Nat.add_mul, Nat.one_mul]⟩
theorem right_un {h j : Nat} (na : alk r1 r2 (h + 1) j = false) (hb : alk r1 r2 h (2 * j) = true) : alk r1 r2 h (2 * j + 1) = false := by
  obtain ⟨p1, p2, p3, p4⟩ := halves h j
  cases hc : alk r1 r2 h (2 * j + 1) with
  | false => rfl
  | true =>
    have : alk r1 r2 (h + 1) j = true := alk_at.mpr fun i h1 h2 => by
      rw [← p1] at h1
      rw [← p2] at h2
      by_cases z : i < (2 * j + 1) * 2 ^ h
      · exact alk_at.mp hb i h1 z
      · exact alk_at.mp hc i (by omega) h2
    rw [na] at this
    cases this
theorem cov_all {h j : Nat} (a : alk r1 r2 h j = true) : List.range' (j * 2 ^ h) (2 ^ h) = sames r1 r2 (j * 2 ^ h) ((j + 1) * 2 ^ h) := by
  rw [sames_all (alk_at.mp a), Nat.add_mul, Nat.one_mul, Nat.add_sub_cancel_left]
theorem allIn_cov : ∀ (h j : Nat), alk r1 r2 h j = false → cov (allIn r1 r2 h j).1 = sames r1 r2 (j * 2 ^ h) ((j + 1) * 2 ^ h)
  | 0, j, na => by
    rw [allIn_0, Nat.pow_zero, Nat.mul_one, Nat.mul_one, sames_one, if_neg]
    · rfl
    intro e
    have : alk r1 r2 0 j = true := alk_at.mpr fun i h1 h2 => by
      rw [Nat.pow_zero, Nat.mul_one] at h1 h2
      rw [show i = j by omega]; exact e
    rw [na] at this
    cases this
  | h + 1, j, na => by
    obtain ⟨p1, p2, p3, p4⟩ := halves h j
    have p := Nat.two_pow_pos h
    rw [← p1, ← p2, sames_split (b := (2 * j + 1) * 2 ^ h) (by omega) (by omega)]
    cases hb : alk r1 r2 h (2 * j) with
    | true => rw [allIn_t hb, cov_t, allIn_cov h _ (right_un na hb), cov_all hb]
    | false =>
      cases hc : alk r1 r2 h (2 * j + 1) with
      | true => rw [allIn_ft hb hc, cov_f, cov_app, allIn_cov h _ hb, cov_t, cov_all hc]; show _ ++ (_ ++ []) = _; rw [List.append_nil]
      | false => rw [allIn_ff hb hc, cov_f, cov_app, allIn_cov h _ hb, cov_f, allIn_cov h _ hc]
theorem part_at {k : Nat} (b : n / 2 ^ k % 2 = 1) : ∃ j, placeAt n (k + 1) / 2 ^ k = j ∧ j * 2 ^ k = placeAt n (k + 1) ∧ (j + 1) * 2 ^ k = placeAt n k := by
  have d : 2 ^ k ∣ placeAt n (k + 1) := ⟨n / 2 ^ (k + 1) * 2, by unfold placeAt; rw [Nat.pow_succ, Nat.mul_comm (2 ^ k) 2, ← Nat.mul_assoc, Nat.mul_comm (2 ^ k)]⟩
  have h1 := Nat.div_mul_cancel d
  have h3 := placeAt_succ n k
  rw [b, Nat.one_mul] at h3
  exact ⟨_, rfl, h1, by rw [Nat.add_mul, Nat.one_mul]; omega⟩
theorem part_no {k : Nat} (b : ¬ n / 2 ^ k % 2 = 1) : placeAt n k = placeAt n (k + 1) := by
  have e := placeAt_succ n k
  have e2 : n / 2 ^ k % 2 = 0 := by have := Nat.mod_lt (n / 2 ^ k) (show 0 < 2 by decide); omega
  rw [e2, Nat.zero_mul, Nat.add_zero] at e
  exact e
theorem allM_cov : ∀ k : Nat, cov (allM r1 r2 (partsF n (placeAt n k) k)).1 = sames r1 r2 (placeAt n k) n
  | 0 => by
    rw [placeAt_zero, sames_nil fun i h1 h2 => by omega]
    rfl
  | k + 1 => by
    by_cases b : n / 2 ^ k % 2 = 1
    · rw [parts_cons b]
      have h2 := placeAt_le n k
      obtain ⟨j, e, h1, h4⟩ := part_at b
      rw [e, sames_split (b := placeAt n k) (by have := Nat.two_pow_pos k; rw [Nat.add_mul, Nat.one_mul] at h4; omega) h2, ← allM_cov k, ← h1, ← h4]
      cases hb : alk r1 r2 k j with
      | true => rw [allM_t hb, cov_t, cov_all hb, h4]
      | false => rw [allM_f hb, cov_f, cov_app, allIn_cov k j hb, h4]
    · rw [parts_skip b, allM_cov k, part_no b]
/-! how many looks -/
theorem allIn_few : ∀ (h j : Nat), alk r1 r2 h j = false → 0 < (allIn r1 r2 h j).2.length ∧ (allIn r1 r2 h j).1.length ≤ 2 * (h * (allIn r1 r2 h j).2.length)
  | 0, j, _ => by rw [allIn_0]; exact ⟨Nat.zero_lt_one, Nat.zero_le _⟩
  | h + 1, j, na => by
    rw [Nat.add_mul, Nat.one_mul]
    cases hb : alk r1 r2 h (2 * j) with
    | true =>
      obtain ⟨a1, a2⟩ := allIn_few h _ (right_un na hb)
      rw [allIn_t hb]
      simp only [List.length_cons]
      generalize h * (allIn r1 r2 h (2 * j + 1)).2.length = m at *
      exact ⟨a1, by omega⟩
    | false =>
      obtain ⟨a1, a2⟩ := allIn_few h _ hb
      cases hc : alk r1 r2 h (2 * j + 1) with
      | true =>
        rw [allIn_ft hb hc]
        simp only [List.length_cons, List.length_append, List.length_nil]
        generalize h * (allIn r1 r2 h (2 * j)).2.length = m at *
        exact ⟨a1, by omega⟩
      | false =>
        obtain ⟨c1, c2⟩ := allIn_few h _ hc
        rw [allIn_ff hb hc]
        simp only [List.length_cons, List.length_append, Nat.mul_add]
        generalize h * (allIn r1 r2 h (2 * j)).2.length = m at *
        generalize h * (allIn r1 r2 h (2 * j + 1)).2.length = m2 at *
        exact ⟨by omega, by omega⟩
theorem allM_few (m : Nat) : ∀ k : Nat, k ≤ m + 1 → (allM r1 r2 (partsF n (placeAt n k) k)).1.length ≤ k + 2 * (m * (allM r1 r2 (partsF n (placeAt n k) k)).2.length)
  | 0, _ => Nat.zero_le _
  | k + 1, hk => by
    have ih := allM_few m k (by omega)
    by_cases b : n / 2 ^ k % 2 = 1
    · rw [parts_cons b]
      obtain ⟨j, e, h1, h4⟩ := part_at b
      rw [e]
      cases hb : alk r1 r2 k j with
      | true =>
        rw [allM_t hb]
        simp only [List.length_cons]
        omega
      | false =>
        obtain ⟨a1, a2⟩ := allIn_few k j hb
        have a3 := Nat.mul_le_mul_right (allIn r1 r2 k j).2.length (show k ≤ m by omega)
        rw [allM_f hb]
        simp only [List.length_cons, List.length_append, Nat.mul_add]
        generalize m * (allIn r1 r2 k j).2.length = x1 at *
        generalize k * (allIn r1 r2 k j).2.length = x2 at *
        generalize m * (allM r1 r2 (partsF n (placeAt n k) k)).2.length = x3 at *
        omega
    · rw [parts_skip b]
      omega
theorem allM_most : ∀ k : Nat, (allM r1 r2 (partsF n (placeAt n k) k)).1.length + 2 * placeAt n k ≤ 2 * n
  | 0 => by rw [placeAt_zero]; exact Nat.le_of_eq (Nat.zero_add _)
  | k + 1 => by
    have ih := allM_most k
    by_cases b : n / 2 ^ k % 2 = 1
    · rw [parts_cons b]
      obtain ⟨j, e, h1, h4⟩ := part_at b
      rw [e]
      have p := Nat.two_pow_pos k
      rw [Nat.add_mul, Nat.one_mul] at h4
      cases hb : alk r1 r2 k j with
      | true =>
        rw [allM_t hb]
        simp only [List.length_cons]
        omega
      | false =>
        obtain ⟨a1, _⟩ := allIn_len (r1 := r1) (r2 := r2) k j
        rw [allM_f hb]
        simp only [List.length_cons, List.length_append]
        omega
    · rw [parts_skip b, ← part_no b]
      exact ih
/-! each look is true, no block is looked at twice -/
theorem allIn_ok : ∀ (h j : Nat), (j + 1) * 2 ^ h ≤ n → h ≤ 10 → (∀ l ∈ (allIn r1 r2 h j).1, LookOk r1 r2 n l ∧ l.1 < h ∧ LookIn (j * 2 ^ h) ((j + 1) * 2 ^ h) l) ∧ ((allIn r1 r2 h j).1.map keyL).Nodup
  | 0, j, _, _ => by rw [allIn_0]; exact ⟨nofun, List.nodup_nil⟩
  | h + 1, j, hn, h10 => by
    obtain ⟨p1, p2, p3, p4⟩ := halves h j
    have p := Nat.two_pow_pos h
    rw [← p2] at hn
    obtain ⟨a1, a2⟩ := allIn_ok h (2 * j) (by omega) (by omega)
    obtain ⟨c1, c2⟩ := allIn_ok h (2 * j + 1) (by omega) (by omega)
    rw [← p1, ← p2]
    have upL : ∀ l ∈ (allIn r1 r2 h (2 * j)).1, LookOk r1 r2 n l ∧ l.1 < h + 1 ∧ LookIn (2 * j * 2 ^ h) ((2 * j + 1 + 1) * 2 ^ h) l := fun l hl => by
      obtain ⟨x, y, z, u⟩ := a1 l hl
      exact ⟨x, by omega, z, by omega⟩
    have upR : ∀ l ∈ (allIn r1 r2 h (2 * j + 1)).1, LookOk r1 r2 n l ∧ l.1 < h + 1 ∧ LookIn (2 * j * 2 ^ h) ((2 * j + 1 + 1) * 2 ^ h) l := fun l hl => by
      obtain ⟨x, y, z, u⟩ := c1 l hl
      exact ⟨x, by omega, by omega, u⟩
    have lL : ∀ b, b = alk r1 r2 h (2 * j) → LookOk r1 r2 n (h, 2 * j, b) ∧ h < h + 1 ∧ LookIn (2 * j * 2 ^ h) ((2 * j + 1 + 1) * 2 ^ h) (h, 2 * j, b) := fun b e => ⟨⟨e, by show (2 * j + 1) * 2 ^ h ≤ n; omega, by show h ≤ 10; omega⟩, Nat.lt_succ_self _, Nat.le_refl _, by show (2 * j + 1) * 2 ^ h ≤ _; omega⟩
    have lR : ∀ b, b = alk r1 r2 h (2 * j + 1) → LookOk r1 r2 n (h, 2 * j + 1, b) ∧ h < h + 1 ∧ LookIn (2 * j * 2 ^ h) ((2 * j + 1 + 1) * 2 ^ h) (h, 2 * j + 1, b) := fun b e => ⟨⟨e, by show (2 * j + 1 + 1) * 2 ^ h ≤ n; omega, by show h ≤ 10; omega⟩, Nat.lt_succ_self _, by show 2 * j * 2 ^ h ≤ (2 * j + 1) * 2 ^ h; omega, Nat.le_refl _⟩
    have nin : ∀ {l : List Look} {x : Nat}, (∀ z ∈ l, z.1 < h) → (h, x) ∉ l.map keyL := fun {l x} q hm => by
      obtain ⟨z, hz, e⟩ := List.mem_map.mp hm
      have := q z hz
      have e1 : z.1 = h := congrArg Prod.fst e
      omega
    have lowL : ∀ z ∈ (allIn r1 r2 h (2 * j)).1, z.1 < h := fun z hz => (a1 z hz).2.1
    have lowR : ∀ z ∈ (allIn r1 r2 h (2 * j + 1)).1, z.1 < h := fun z hz => (c1 z hz).2.1
    cases hb : alk r1 r2 h (2 * j) with
    | true =>
      rw [allIn_t hb]
      refine ⟨fun l hl => ?_, ?_⟩
      · rcases List.mem_cons.mp hl with rfl | hl
        · exact lL _ hb.symm
        · exact upR l hl
      · rw [List.map_cons, List.nodup_cons]
        exact ⟨nin lowR, c2⟩
    | false =>
      cases hc : alk r1 r2 h (2 * j + 1) with
      | true =>
        rw [allIn_ft hb hc]
        refine ⟨fun l hl => ?_, ?_⟩
        · rcases List.mem_cons.mp hl with rfl | hl
          · exact lL _ hb.symm
          rcases List.mem_append.mp hl with hl | hl
          · exact upL l hl
          · rw [List.mem_singleton.mp hl]; exact lR _ hc.symm
        · rw [List.map_cons, List.map_append, List.nodup_cons]
          refine ⟨fun hm => ?_, List.nodup_append.mpr ⟨a2, List.nodup_cons.mpr ⟨nofun, List.nodup_nil⟩, fun x hx y hy e => ?_⟩⟩
          · rcases List.mem_append.mp hm with hm | hm
            · exact nin lowL hm
            · have := congrArg Prod.snd (List.mem_singleton.mp hm)
              have e : 2 * j = 2 * j + 1 := this
              omega
          · rw [e, List.mem_singleton.mp hy] at hx
            exact nin lowL hx
      | false =>
        rw [allIn_ff hb hc]
        refine ⟨fun l hl => ?_, ?_⟩
        · rcases List.mem_cons.mp hl with rfl | hl
          · exact lL _ hb.symm
          rcases List.mem_append.mp hl with hl | hl
          · exact upL l hl
          rcases List.mem_cons.mp hl with rfl | hl
          · exact lR _ hc.symm
          · exact upR l hl
        · rw [List.map_cons, List.map_append, List.map_cons, List.nodup_cons]
          refine ⟨fun hm => ?_, List.nodup_append.mpr ⟨a2, List.nodup_cons.mpr ⟨nin lowR, c2⟩, fun x hx y hy e => ?_⟩⟩
          · rcases List.mem_append.mp hm with hm | hm
            · exact nin lowL hm
            rcases List.mem_cons.mp hm with hm | hm
            · have := congrArg Prod.snd hm
              have e : 2 * j = 2 * j + 1 := this
              omega
            · exact nin lowR hm
          · subst e
            rcases List.mem_cons.mp hy with hy | hy
            · rw [hy] at hx; exact nin lowL hx
            · obtain ⟨u, hu, eu⟩ := List.mem_map.mp hx
              obtain ⟨v, hv, ev⟩ := List.mem_map.mp hy
              have q1 := (a1 u hu).2.2.2
              have q2 := (c1 v hv).2.2.1
              have e1 : u.1 = v.1 := congrArg (Prod.fst (α := Nat) (β := Nat)) (show keyL u = keyL v from eu.trans ev.symm)
              have e2 : u.2.1 = v.2.1 := congrArg (Prod.snd (α := Nat) (β := Nat)) (show keyL u = keyL v from eu.trans ev.symm)
              rw [e1, e2, Nat.add_mul, Nat.one_mul] at q1
              have := Nat.two_pow_pos v.1
              omega
theorem allM_ok : ∀ k : Nat, k ≤ 11 → (∀ l ∈ (allM r1 r2 (partsF n (placeAt n k) k)).1, LookOk r1 r2 n l ∧ placeAt n k ≤ l.2.1 * 2 ^ l.1) ∧ ((allM r1 r2 (partsF n (placeAt n k) k)).1.map keyL).Nodup
  | 0, _ => ⟨nofun, List.nodup_nil⟩
  | k + 1, hk => by
    obtain ⟨i1, i2⟩ := allM_ok k (by omega)
    by_cases b : n / 2 ^ k % 2 = 1
    · rw [parts_cons b]
      have h2 := placeAt_le n k
      obtain ⟨j, e, h1, h4⟩ := part_at b
      rw [e]
      have p := Nat.two_pow_pos k
      have p2 : (j + 1) * 2 ^ k = j * 2 ^ k + 2 ^ k := by rw [Nat.add_mul, Nat.one_mul]
      have ok : ∀ b, b = alk r1 r2 k j → LookOk r1 r2 n (k, j, b) ∧ placeAt n (k + 1) ≤ j * 2 ^ k := fun b e => ⟨⟨e, by show (j + 1) * 2 ^ k ≤ n; omega, by show k ≤ 10; omega⟩, by omega⟩
      have up : ∀ l ∈ (allM r1 r2 (partsF n (placeAt n k) k)).1, LookOk r1 r2 n l ∧ placeAt n (k + 1) ≤ l.2.1 * 2 ^ l.1 := fun l hl => ⟨(i1 l hl).1, by have := (i1 l hl).2; omega⟩
      have far : (k, j) ∉ (allM r1 r2 (partsF n (placeAt n k) k)).1.map keyL := fun hm => by
        obtain ⟨z, hz, ez⟩ := List.mem_map.mp hm
        have q := (i1 z hz).2
        have e1 : z.1 = k := congrArg Prod.fst ez
        have e2 : z.2.1 = j := congrArg Prod.snd ez
        rw [e1, e2] at q
        omega
      cases hb : alk r1 r2 k j with
      | true =>
        rw [allM_t hb]
        refine ⟨fun l hl => ?_, ?_⟩
        · rcases List.mem_cons.mp hl with rfl | hl
          · exact ok _ hb.symm
          · exact up l hl
        · rw [List.map_cons, List.nodup_cons]
          exact ⟨far, i2⟩
      | false =>
        obtain ⟨a1, a2⟩ := allIn_ok (r1 := r1) (r2 := r2) (n := n) k j (by omega) (by omega)
        rw [allM_f hb]
        refine ⟨fun l hl => ?_, ?_⟩
        · rcases List.mem_cons.mp hl with rfl | hl
          · exact ok _ hb.symm
          rcases List.mem_append.mp hl with hl | hl
          · obtain ⟨x, _, z, _⟩ := a1 l hl
            exact ⟨x, by omega⟩
          · exact up l hl
        · rw [List.map_cons, List.map_append, List.nodup_cons]
          refine ⟨fun hm => ?_, List.nodup_append.mpr ⟨a2, i2, fun x hx y hy e => ?_⟩⟩
          · rcases List.mem_append.mp hm with hm | hm
            · obtain ⟨z, hz, ez⟩ := List.mem_map.mp hm
              have := (a1 z hz).2.1
              have e1 : z.1 = k := congrArg Prod.fst ez
              omega
            · exact far hm
          · subst e
            obtain ⟨u, hu, eu⟩ := List.mem_map.mp hx
            obtain ⟨v, hv, ev⟩ := List.mem_map.mp hy
            have q1 := (a1 u hu).2.2.2
            have q2 := (i1 v hv).2
            have e1 : u.1 = v.1 := congrArg (Prod.fst (α := Nat) (β := Nat)) (show keyL u = keyL v from eu.trans ev.symm)
            have e2 : u.2.1 = v.2.1 := congrArg (Prod.snd (α := Nat) (β := Nat)) (show keyL u = keyL v from eu.trans ev.symm)
            rw [e1, e2, Nat.add_mul, Nat.one_mul] at q1
            have := Nat.two_pow_pos v.1
            omega
    · rw [parts_skip b, ← part_no b]
      exact ⟨i1, i2⟩
end
/-- all looks, over the whole -/
theorem allR_all {r1 r2 : List Str} (h1 : r1.length ≤ 1024) :
    (∀ l ∈ (allR r1 r2).1, LookOk r1 r2 (min r1.length r2.length) l) ∧ ((allR r1 r2).1.map keyL).Nodup ∧ cov (allR r1 r2).1 = sames r1 r2 0 (min r1.length r2.length) ∧ (allR r1 r2).1.length ≤ 2048 ∧
    (allR r1 r2).1.length ≤ digs (min r1.length r2.length) + 2 * ((digs (min r1.length r2.length) - 1) * (diffs r1 r2 0 (min r1.length r2.length)).length) := by
  have e : (2 : Nat) ^ 11 = 2048 := by decide
  have a1 := allM_ok (r1 := r1) (r2 := r2) (n := min r1.length r2.length) (digs (min r1.length r2.length)) (digs_le (by omega))
  have a2 := allM_cov (r1 := r1) (r2 := r2) (n := min r1.length r2.length) (digs (min r1.length r2.length))
  have a3 := allM_most (r1 := r1) (r2 := r2) (n := min r1.length r2.length) (digs (min r1.length r2.length))
  have a4 := allM_few (r1 := r1) (r2 := r2) (n := min r1.length r2.length) (digs (min r1.length r2.length) - 1) (digs (min r1.length r2.length)) (by omega)
  rw [placeAt_digs] at a1 a2 a3 a4
  have f : allM r1 r2 (partsF (min r1.length r2.length) 0 (digs (min r1.length r2.length))) = allR r1 r2 := rfl
  rw [f] at a1 a2 a3 a4
  rw [allR_places] at a4
  exact ⟨fun l hl => (a1.1 l hl).1, a1.2, a2, by omega, a4⟩
/-- the first of all places is what the first search tells -/
theorem firstR_diffs {r1 r2 : List Str} (h1 : r1.length ≤ 1024) : (firstR r1 r2).2 = match diffs r1 r2 0 (min r1.length r2.length) with
    | p :: _ => some p
    | [] => if r1.length = r2.length then none else some (min r1.length r2.length) := by
  rcases (firstR_all (r2 := r2) h1).2 with ⟨p, a, e1, e2, e3, e4, _, _⟩ | ⟨e1, e2, _⟩
  · rw [diffs_split (b := p) (Nat.zero_le _) (by omega), diffs_nil fun i _ hi => e3 i hi, List.nil_append, diffs_split (b := p + 1) (by omega) (by omega), diffs_one, if_neg e4, e1]
    rfl
  · rw [diffs_nil fun i _ hi => e2 i hi, e1]
end Tw

namespace Tb
open PySem PySem.Spec PyProof.Rows L2
/-! ### the round of five times and one, for any power of two -/
def cg : Nat → Nat
  | 0 => 0
  | n + 1 => 5 * cg n + 1
theorem cg_add (a : Nat) : ∀ b, cg (a + b) = 5 ^ b * cg a + cg b
  | 0 => by show cg a = 5 ^ 0 * cg a + 0; rw [Nat.pow_zero, Nat.one_mul, Nat.add_zero]
  | b + 1 => by
    show 5 * cg (a + b) + 1 = 5 ^ (b + 1) * cg a + (5 * cg b + 1)
    rw [cg_add a b, Nat.mul_add, Nat.pow_succ, Nat.mul_comm (5 ^ b) 5, Nat.mul_assoc, Nat.add_assoc]
theorem lcg_cg (m : Nat) : ∀ n, lcgN m n = cg n % (m + 1)
  | 0 => (Nat.zero_mod _).symm
  | n + 1 => by
    show (lcgN m n * 5 + 1) % (m + 1) = (5 * cg n + 1) % (m + 1)
    rw [lcg_cg m n, Nat.mul_comm 5 (cg n), Nat.add_mod, Nat.mul_mod, Nat.mod_mod, ← Nat.mul_mod, ← Nat.add_mod]
theorem five_one : ∀ n, ∃ r, 5 ^ n = 4 * r + 1
  | 0 => ⟨0, rfl⟩
  | n + 1 => by obtain ⟨r, e⟩ := five_one n; exact ⟨5 * r + 1, by rw [Nat.pow_succ, e]; omega⟩
theorem odd_odd (a b : Nat) : ∃ u, (2 * a + 1) * (2 * b + 1) = 2 * u + 1 :=
  ⟨2 * (a * b) + a + b, by rw [Nat.add_mul, Nat.one_mul, Nat.mul_add, Nat.mul_one, Nat.mul_assoc 2 a, Nat.mul_left_comm a 2 b]; omega⟩
theorem cg_pow : ∀ k, ∃ q, cg (2 ^ k) = 2 ^ k * (2 * q + 1)
  | 0 => ⟨0, rfl⟩
  | k + 1 => by
    obtain ⟨q, e⟩ := cg_pow k
    obtain ⟨r, e2⟩ := five_one (2 ^ k)
    obtain ⟨u, e3⟩ := odd_odd q r
    refine ⟨u, ?_⟩
    rw [Nat.pow_succ, Nat.mul_two, cg_add, e, e2, ← e3, ← Nat.mul_two (2 ^ k), ← Nat.add_one_mul, show 4 * r + 1 + 1 = 2 * (2 * r + 1) by omega, Nat.mul_comm, Nat.mul_assoc, Nat.mul_assoc, Nat.mul_left_comm (2 * q + 1)]
theorem half_step {P x j : Nat} (hP : 0 < P) (hj : j < 2 * P) (h : x % P = j % P) (ne : x % (2 * P) ≠ j) : (P + x) % (2 * P) = j := by
  have hy : x % (2 * P) < 2 * P := Nat.mod_lt _ (by omega)
  have e1 : x % (2 * P) % P = x % P := Nat.mod_mod_of_dvd x ⟨2, by omega⟩
  have e2 : (P + x) % (2 * P) = (P + x % (2 * P)) % (2 * P) := by rw [Nat.add_mod, Nat.add_mod P (x % (2 * P)), Nat.mod_mod]
  rw [e2]
  generalize x % (2 * P) = y at hy e1 ne
  rw [← e1] at h
  have low : ∀ z, z < 2 * P → z % P = if z < P then z else z - P := fun z hz => by
    by_cases c : z < P
    · rw [if_pos c, Nat.mod_eq_of_lt c]
    · rw [if_neg c, Nat.mod_eq_sub_mod (by omega), Nat.mod_eq_of_lt (by omega)]
  rw [low y hy, low j hj] at h
  by_cases c : y < P
  · rw [if_pos c] at h
    by_cases d : j < P
    · rw [if_pos d] at h; exact absurd h ne
    · rw [if_neg d] at h; rw [Nat.mod_eq_of_lt (by omega)]; omega
  · rw [if_neg c] at h
    by_cases d : j < P
    · rw [if_pos d] at h; rw [Nat.mod_eq_sub_mod (by omega), Nat.mod_eq_of_lt (by omega)]; omega
    · rw [if_neg d] at h; omega
/-- each rest is met within 2^k steps -/
theorem cg_hits : ∀ k j, j < 2 ^ k → ∃ b, b < 2 ^ k ∧ cg b % 2 ^ k = j
  | 0, j, h => ⟨0, by decide, by have : j = 0 := by simpa using h
                                 rw [this]; rfl⟩
  | k + 1, j, h => by
    have hP : 0 < 2 ^ k := Nat.pow_pos (by decide)
    have e2 : 2 ^ (k + 1) = 2 * 2 ^ k := by rw [Nat.pow_succ, Nat.mul_comm]
    rw [e2] at h ⊢
    obtain ⟨b, hb, e⟩ := cg_hits k (j % 2 ^ k) (Nat.mod_lt _ hP)
    by_cases c : cg b % (2 * 2 ^ k) = j
    · exact ⟨b, by omega, c⟩
    · refine ⟨2 ^ k + b, by omega, ?_⟩
      obtain ⟨q, eq⟩ := cg_pow k
      obtain ⟨r, er⟩ := five_one b
      obtain ⟨u, eu⟩ := odd_odd (2 * r) q
      have s : cg (2 ^ k + b) = 2 * 2 ^ k * u + (2 ^ k + cg b) := by
        rw [Nat.add_comm (2 ^ k) b, Nat.add_comm b, cg_add, eq, er, Nat.mul_left_comm, show 4 * r + 1 = 2 * (2 * r) + 1 by omega, eu, Nat.mul_add, Nat.mul_one, Nat.mul_left_comm, Nat.mul_assoc, Nat.add_assoc]
      rw [s, Nat.mul_add_mod]
      exact half_step hP h e c
/-- the masks that come, up to some thousands of items -/
def Mk (m : Nat) : Prop := m = 7 ∨ m = 31 ∨ m = 127 ∨ m = 511 ∨ m = 2047 ∨ m = 8191
theorem Mk.pow {m : Nat} (h : Mk m) : ∃ k, m + 1 = 2 ^ k := by
  rcases h with e | e | e | e | e | e <;> subst e
  · exact ⟨3, rfl⟩
  · exact ⟨5, rfl⟩
  · exact ⟨7, rfl⟩
  · exact ⟨9, rfl⟩
  · exact ⟨11, rfl⟩
  · exact ⟨13, rfl⟩
theorem Mk.round {m : Nat} (h : Mk m) : ∀ c, lcgN m (m + 1 + c) = lcgN m c := fun c => by
  obtain ⟨k, e⟩ := h.pow
  obtain ⟨q, eq⟩ := cg_pow k
  rw [lcg_cg, lcg_cg, e, cg_add, eq, Nat.mul_left_comm, Nat.mul_add_mod]
theorem Mk.turn {m : Nat} (h : Mk m) {i j : Nat} (hi : i ≤ m) (hj : j ≤ m) : ∃ c, c ≤ m ∧ lcgI m i c = j := by
  obtain ⟨k, e⟩ := h.pow
  obtain ⟨a, ha, ea⟩ := cg_hits k i (by omega)
  obtain ⟨b, hb, eb⟩ := cg_hits k j (by omega)
  rw [← e, ← lcg_cg] at ea eb
  subst ea eb
  by_cases c : a ≤ b
  · exact ⟨b - a, by omega, by rw [lcgN_add, show a + (b - a) = b by omega]⟩
  · exact ⟨b + (m + 1) - a, by omega, by rw [lcgN_add, show a + (b + (m + 1) - a) = m + 1 + b by omega, h.round]⟩
theorem Mk.run {m : Nat} (hm : Mk m) (h : Int) {j : Nat} (hj : j ≤ m) : ∃ n, n ≤ m + 12 ∧ runI m (SetTable.bits h) n = j := by
  obtain ⟨c, hc, e⟩ := hm.turn (runI_le m (SetTable.bits h) 12) hj
  exact ⟨c + 12, by omega, by rw [Nat.add_comm, runI_tail (bits_lt h), e]⟩
theorem Mk.met {m : Nat} (hm : Mk m) (h : Int) {j : Nat} (hj : j ≤ m) : ∃ c, c < 10 * SetTable.turns m ∧ way m h c = j := by
  obtain ⟨n, hn, e⟩ := hm.run h hj
  obtain ⟨c, hc, e2⟩ := run_nth m (SetTable.bits h) n
  refine ⟨c, by unfold SetTable.turns; omega, ?_⟩
  unfold way
  rw [e2, ← e]
  rfl
theorem Mk.odd {m : Nat} (h : Mk m) : m % 2 = 1 := by
  rcases h with e | e | e | e | e | e <;> rw [e]
/-! ### the table, its count of slots only -/
structure Tab (t : SetTable) (n : Nat) : Prop where
  up : Ris t.place.toList
  nod : t.dummies = #[]
  cnt : t.place.size = n
  msk : Mk t.mask
theorem Tab.gap {t : SetTable} {n : Nat} (T : Tab t n) (hl : n ≤ t.mask) (h : Int) : ∃ K, K < 10 * SetTable.turns t.mask ∧ way t.mask h K ∉ t.place.toList ∧ ∀ c, c < K → way t.mask h c ∈ t.place.toList := by
  obtain ⟨j, hj, hn⟩ := st_missing t.place.toList (t.mask + 1) (by rw [Array.length_toList, T.cnt]; omega)
  obtain ⟨c, hc, e⟩ := T.msk.met h (Nat.le_of_lt_succ hj)
  obtain ⟨K, h1, h2, h3⟩ := st_least (p := fun c => way t.mask h c ∉ t.place.toList) c (by rw [← e] at hn; exact hn)
  exact ⟨K, Nat.lt_of_le_of_lt h1 hc, h2, fun c hc => Classical.not_not.mp (h3 c hc)⟩
theorem Tab.put {t : SetTable} {n : Nat} (T : Tab t n) {j : Nat} (hj : j ∉ t.place.toList) :
    (t.put j).2 = SetTable.below t.place j ∧ SetTable.below t.place j ≤ n ∧ Tab (t.put j).1 (n + 1) ∧ (t.put j).1.mask = t.mask ∧ (t.put j).1.led = t.led ∧ (t.put j).1.plain = t.plain ∧ (t.put j).1.fill = n + 1 := by
  have hle : SetTable.below t.place j ≤ n := by have z := (below_cut T.up j).1; rw [T.cnt] at z; exact z
  have hnew : t.place[SetTable.below t.place j]? ≠ some j := fun e => hj (List.mem_of_getElem? (by rw [Array.getElem?_toList]; exact e))
  have hsz : (t.put j).1.place.size = n + 1 := by
    rw [← Array.length_toList, put_place, len_ins _ (by rw [Array.length_toList, T.cnt]; exact hle), Array.length_toList, T.cnt]
  exact ⟨rfl, hle, ⟨ris_insert T.up hnew, put_dm T.nod j, hsz, T.msk⟩, rfl, rfl, rfl, by
    show (t.put j).1.place.size + (t.put j).1.dummies.size = n + 1
    rw [hsz, put_dm T.nod j]
    rfl⟩
/-! ### laying anew: the first n items sit somewhere -/
structure Sit (m n : Nat) (owner : Array (Option Nat)) : Prop where
  sz : owner.size = m + 1
  all : ∀ k, k < n → ∃ j, j ≤ m ∧ oAt owner j = some k
  few : ∃ ps : List Nat, ps.length = n ∧ ∀ j, j ≤ m → oAt owner j ≠ none → j ∈ ps
theorem Sit.nil (m : Nat) : Sit m 0 (Array.replicate (m + 1) none) :=
  ⟨by simp, fun k hk => absurd hk (Nat.not_lt_zero _), [], rfl, fun j hj e => absurd (oAt_init hj) e⟩
theorem way_in (m : Nat) (h : Int) (c : Nat) : way m h c ≤ m := by
  have hi : SetTable.bits h % (m + 1) ≤ m := Nat.le_of_lt_succ (Nat.mod_lt _ (Nat.succ_pos _))
  have b := runEnd_bd hi
  have q := nth_in (m := m) c (runAt m (SetTable.bits h % (m + 1)) (SetTable.bits h)) (by unfold runAt; simp only; omega)
  unfold way
  omega
theorem Sit.more {m n : Nat} (hm : Mk m) {owner : Array (Option Nat)} (S : Sit m n owner) (hn : n ≤ m) (h : Int) :
    ∃ j, SetTable.layClean.free m owner (SetTable.turns m) (SetTable.bits h % (m + 1)) (SetTable.bits h) = some j ∧ Sit m (n + 1) (owner.setIfInBounds j (some n)) := by
  obtain ⟨ps, hps, hin⟩ := S.few
  obtain ⟨j0, h0, h1⟩ := st_missing ps (m + 1) (by omega)
  have hf : oAt owner j0 = none := Classical.byContradiction fun e => h1 (hin j0 (Nat.le_of_lt_succ h0) e)
  obtain ⟨q, hq, eq⟩ := hm.run h (Nat.le_of_lt_succ h0)
  have hw : way m h (off m (SetTable.bits h % (m + 1)) (SetTable.bits h) q) = j0 := by
    unfold way
    rw [nth_off, itL_run, eq]
    rfl
  obtain ⟨K, k1, k2, k3⟩ := st_least (p := fun c => oAt owner (way m h c) = none) _ (by rw [hw]; exact hf)
  have free : SetTable.layClean.free m owner (SetTable.turns m) (SetTable.bits h % (m + 1)) (SetTable.bits h) = some (way m h K) := by
    refine free_spec m owner (SetTable.turns m) q _ _ K (by unfold SetTable.turns; omega) k1 (fun c hc => ?_) ?_
    · have z := k3 c hc
      unfold way at z
      revert z
      cases oAt owner (nth m (runAt m (SetTable.bits h % (m + 1)) (SetTable.bits h)) c).j with
      | none => exact fun z => absurd rfl z
      | some _ => exact fun _ => rfl
    · unfold way at k2
      rw [k2]
      rfl
  have hlt : way m h K < owner.size := by rw [S.sz]; exact Nat.lt_succ_of_le (way_in m h K)
  refine ⟨way m h K, free, by rw [Array.size_setIfInBounds]; exact S.sz, fun k hk => ?_, way m h K :: ps, by rw [List.length_cons, hps], fun j hj e => ?_⟩
  · by_cases c : k = n
    · exact ⟨way m h K, way_in m h K, by rw [oAt_set_self _ hlt, c]⟩
    · obtain ⟨j, hj, e⟩ := S.all k (by omega)
      exact ⟨j, hj, by rw [oAt_set_ne _ (fun z => by rw [z, k2] at e; cases e)]; exact e⟩
  · by_cases c : j = way m h K
    · rw [c]; exact List.mem_cons_self
    · rw [oAt_set_ne _ c] at e
      exact List.mem_cons_of_mem _ (hin j hj e)
theorem sit_fold {m : Nat} (hm : Mk m) : ∀ (rest : List Int) (n : Nat) (owner : Array (Option Nat)), Sit m n owner → n + rest.length ≤ m →
    ∃ o2, rest.foldl (stepF m) (some (owner, n)) = some (o2, n + rest.length) ∧ Sit m (n + rest.length) o2
  | [], n, owner, S, _ => ⟨owner, rfl, S⟩
  | h :: rest, n, owner, S, hl => by
    rw [List.length_cons] at hl ⊢
    obtain ⟨j, e, S2⟩ := S.more hm (by omega) h
    obtain ⟨o2, f, S3⟩ := sit_fold hm rest (n + 1) _ S2 (by omega)
    rw [show n + 1 + rest.length = n + (rest.length + 1) by omega] at f S3
    exact ⟨o2, by rw [List.foldl_cons, stepF_some e, f], S3⟩
theorem sit_lay {m : Nat} (hm : Mk m) {hs : Array Int} (hn : hs.size ≤ m) : ∃ o, SetTable.layClean m hs = some o ∧ Sit m hs.size o := by
  obtain ⟨o, f, S⟩ := sit_fold hm hs.toList 0 _ (Sit.nil m) (by rw [Nat.zero_add, Array.length_toList]; exact hn)
  rw [Nat.zero_add, Array.length_toList] at S
  exact ⟨o, by rw [layClean_eq, f]; rfl, S⟩
/-- a larger table: the same count, the items in some order -/
theorem tab_new (t : SetTable) {hs : Array Int} {wanted M : Nat} (hw : SetTable.sizeAbove wanted - 1 = M) (hM : Mk M) (hn : hs.size ≤ M) :
    ∃ t2 order, t.relaid hs wanted = some (t2, order) ∧ order.toList.Perm (List.range hs.size) ∧ Tab t2 hs.size ∧ t2.mask = M ∧ t2.led = t.led ∧ t2.plain = t.plain := by
  obtain ⟨o, e, S⟩ := sit_lay hM hn
  obtain ⟨r1, r2⟩ := ris_live (fun j => o.getD j none) (List.range (M + 1)) (by unfold Ris; exact List.pairwise_lt_range)
  have r1 : Ris ((liveOf M o).map (·.1)) := r1
  have nd1 : ((liveOf M o).map (·.1)).Nodup := List.Pairwise.imp (fun h => Nat.ne_of_lt h) (show List.Pairwise (· < ·) _ from r1)
  have cnt : (liveOf M o).length = hs.size := by
    obtain ⟨ps, p1, p2⟩ := S.few
    have a := nat_nodup_len ((liveOf M o).map (·.1)) ps nd1 fun x hx => by
      obtain ⟨⟨y, k⟩, hq, rfl⟩ := List.mem_map.mp hx
      obtain ⟨b1, b2⟩ := (mem_live S.sz).1 hq
      exact p2 y b1 (by rw [b2]; exact nofun)
    have b := nat_nodup_len (List.range hs.size) ((liveOf M o).map (·.2)) List.nodup_range fun k hk => by
      obtain ⟨j, b1, b2⟩ := S.all k (List.mem_range.mp hk)
      exact List.mem_map.mpr ⟨(j, k), (mem_live S.sz).2 ⟨b1, b2⟩, rfl⟩
    rw [List.length_map] at a b
    rw [List.length_range] at b
    omega
  refine ⟨tabOf t M o, ((liveOf M o).map (·.2)).toArray, by rw [relaid_eq, hw, e]; rfl, ?_, ⟨r1, rfl, ?_, hM⟩, rfl, rfl, rfl⟩
  · refine perm_range hs.size _ (by rw [List.length_map]; exact cnt) fun k hk => ?_
    obtain ⟨j, b1, b2⟩ := S.all k hk
    exact List.mem_map.mpr ⟨(j, k), (mem_live S.sz).2 ⟨b1, b2⟩, rfl⟩
  · show ((liveOf M o).map (·.1)).toArray.size = hs.size
    rw [List.size_toArray, List.length_map, cnt]
theorem sizes : SetTable.sizeAbove (SetTable.grown 5) = 32 ∧ SetTable.sizeAbove (SetTable.grown 19) = 128 ∧ SetTable.sizeAbove (SetTable.grown 77) = 512 ∧ SetTable.sizeAbove (SetTable.grown 307) = 2048 ∧ SetTable.sizeAbove (SetTable.grown 1229) = 8192 := by decide +kernel
end Tb

namespace Tb
open PySem PySem.Spec PyProof.Rows L2
section
variable {P : Program} {w : World} {A : Around} {E : Value → Shared → Prop} {s : Shared} {a : Addr} {L : List (Addr × List Int)} {es : Array (Int × Value)} {ep : Nat} {t : SetTable}
/-- the set at a: tuples of ints, as many as there are, in a table with room -/
structure SB (P : Program) (w : World) (h : Heap) (a : Addr) (L : List (Addr × List Int)) (es : Array (Int × Value)) (ep : Nat) (t : SetTable) : Prop where
  at_ : ∃ o, h.get? a = some o ∧ o.ExactSet ∧ o.data = .set es ep t
  ent : es.toList = rowsOf P w L
  tab : Tab t L.length
  its : ∀ p ∈ L, IsT P w h p.2 p.1
  pln : t.plain = true
  ld : w.params.followText "set-order" = true ∨ t.led = true
  lax : L.length * 5 < t.mask * 3
theorem rows_size (e : es.toList = rowsOf P w L) : es.size = L.length := by rw [← Array.length_toList, e, rowsOf, List.length_map]
theorem tab_fits {n : Nat} (T : Tab t n) (h : n ≤ t.mask) : t.fits n = true := by
  simp only [SetTable.fits, SetTable.fill, T.nod, T.cnt, Bool.and_eq_true, beq_iff_eq, decide_eq_true_eq]
  exact ⟨trivial, h⟩
theorem SB.fit (R : SB P w s.heap a L es ep t) : t.fits es.size = true := by
  have := R.lax
  rw [rows_size R.ent]
  exact tab_fits R.tab (by omega)
theorem SB.get (R : SB P w s.heap a L es ep t) {i : Nat} {p : Addr × List Int} (h : L[i]? = some p) : es[i]? = some (thash P w p.2, .ref p.1) := by
  have z : es.toList[i]? = some (thash P w p.2, .ref p.1) := by simp only [R.ent, rowsOf, List.getElem?_map, h, Option.map_some]
  rwa [Array.getElem?_toList] at z
theorem nth_nodum (m : Nat) : ∀ (n : Nat) (p : SetTable.Probe), p.dummy = none → (nth m p n).dummy = none
  | 0, _, h => h
  | n + 1, p, h => nth_nodum m n (adv m p) (by unfold adv; split <;> exact h)
/-- from the c-th step of the way on, for a key that isn't there: the gap is come to -/
theorem SB.seek (R : SB P w s.heap a L es ep t) {x : Addr} {k : List Int} (hx : IsT P w s.heap k x) (hu : A.units < cLine) (hk : k ∉ L.map (·.2)) {K : Nat} (hK : K < 10 * SetTable.turns t.mask)
    (gap : way t.mask (thash P w k) K ∉ t.place.toList) (full : ∀ c, c < K → way t.mask (thash P w k) c ∈ t.place.toList) {Q : SetFound → Shared → Prop} (q : Q (.free (way t.mask (thash P w k) K) false) s) :
    ∀ (f c : Nat) (st : Option SetTable.Probe), st.getD (t.probeStart (thash P w k)) = nth t.mask (t.probeStart (thash P w k)) c → c ≤ K → K - c < f → wpAny (model P w) A (setSearchFrom a (.ref x) (thash P w k) true f st) Q E s
  | 0, _, _, _, _, z => absurd z (Nat.not_lt_zero _)
  | f + 1, c, st, hst, hc, hf => by
    obtain ⟨o, ho, hex, hd⟩ := R.at_
    have wy : ∀ c, way t.mask (thash P w k) c = (nth t.mask (t.probeStart (thash P w k)) c).j := fun _ => rfl
    have sh : ∀ d, nth t.mask (nth t.mask (t.probeStart (thash P w k)) c) d = nth t.mask (t.probeStart (thash P w k)) (c + d) := fun d => (nth_add _ c _ d).symm
    have gw : ¬ t.gaveWay = true := by unfold SetTable.gaveWay; rw [R.tab.msk.odd]; decide
    have eK : c + (K - c) = K := by omega
    rw [setSearchFrom_succ]
    refine wpAny_bind (wpAny_setState_of ho hd R.fit ?_); dsimp only; refine wp_if_neg gw ?_
    try refine wpAny_bind (wpAny_pure ?_)
    have spec := go_spec t R.tab.up R.tab.nod (fun i => (es[i]?.map (·.1)).getD 0) (thash P w k) (10 * SetTable.turns t.mask) (K - c) (nth t.mask (t.probeStart (thash P w k)) c) (nth_nodum _ _ _ rfl) (by omega)
      (fun d hd => by rw [sh, ← wy]; exact full _ (by omega)) (by rw [sh, ← wy, eK]; exact gap)
    simp only [sh, ← wy, eK] at spec
    rcases spec with ⟨d, i, hd1, hi, _, _, hp⟩ | ⟨_, hp⟩
    · have hp : t.probe (fun i => (es[i]?.map (·.1)).getD 0) (thash P w k) (nth t.mask (t.probeStart (thash P w k)) c) = _ := hp
      rw [hst, hp]
      dsimp only
      have hil : i < L.length := by have z := (List.getElem?_eq_some_iff.mp hi).1; rwa [Array.length_toList, R.tab.cnt] at z
      have hL := List.getElem?_eq_getElem hil
      generalize L[i] = p at hL
      have hm := List.mem_of_getElem? hL
      have hne : p.2 ≠ k := fun e => hk (List.mem_map.mpr ⟨p, hm, e⟩)
      have on : wpAny (model P w) A (searchRest a (.ref x) (thash P w k) true f es t (way t.mask (thash P w k) (c + d)) i (nth t.mask (t.probeStart (thash P w k)) (c + (d + 1)))) Q E s := by
        unfold searchRest
        rw [R.get hL]; dsimp only
        refine wpAny_bind (wpAny_holding (wpAny_eqBool_tuple hu (R.its p hm) hx (wpAny_bind (wpAny_setState_of ho hd R.fit ?_))))
        dsimp only; refine wp_if_neg (by simp [hne]) ?_
        try refine wpAny_bind (wpAny_pure ?_)
        rw [sameMem]; dsimp only
        simp only [if_true, slot_live R.tab.up hi, R.get hL]
        refine wpAny_bind (wpAny_isSame_ref_self (wpAny_bind (wpAny_pure ?_)))
        simp only [if_true]; refine wp_if_neg (by simp [hne]) ?_
        exact SB.seek R hx hu hk hK gap full q f (c + (d + 1)) _ rfl (by omega) (by omega)
      by_cases hl : t.led = true
      · refine wp_if_neg (by simp [hl]) ?_
        try refine wpAny_bind (wpAny_pure ?_)
        exact on
      · refine wp_if_pos (by simp [hl]) (wpAny_bind (seen_tup hx (fun y hy => ?_) ?_))
        · obtain ⟨e, he, rfl⟩ := List.mem_map.mp hy
          have he : e ∈ es.toList := by simpa using (show e ∈ es ∧ e.1 = thash P w k by simpa using he).1
          rw [R.ent] at he
          obtain ⟨p2, hp2, rfl⟩ := List.mem_map.mp he
          exact ⟨_, _, rfl, R.its p2 hp2⟩
        · refine wp_if_neg (by decide) ?_
          try refine wpAny_bind (wpAny_pure ?_)
          exact on
    · have hp : t.probe (fun i => (es[i]?.map (·.1)).getD 0) (thash P w k) (nth t.mask (t.probeStart (thash P w k)) c) = _ := hp
      rw [hst, hp]
      exact wpAny_pure q
theorem SB.find (R : SB P w s.heap a L es ep t) {x : Addr} {k : List Int} (hx : IsT P w s.heap k x) (hu : A.units < cLine) (hk : k ∉ L.map (·.2)) {Q : SetFound → Shared → Prop} (q : ∀ j, j ∉ t.place.toList → Q (.free j false) s) :
    wpAny (model P w) A (setSearch a (.ref x) (thash P w k) true) Q E s := by
  have lax := R.lax
  obtain ⟨K, h1, h2, h3⟩ := R.tab.gap (by omega) (thash P w k)
  have big : 10 * SetTable.turns t.mask < 100000 := by
    unfold SetTable.turns
    rcases R.tab.msk with e | e | e | e | e | e <;> omega
  unfold setSearch
  exact SB.seek R hx hu hk h1 h2 h3 (q _ h2) 100000 0 none rfl (Nat.zero_le _) (by omega)
theorem relay {o : Obj} (ho : s.heap.get? a = some o) (hex : o.ExactSet) (hd : o.data = .set es ep t) (e0 : es.toList = rowsOf P w L) (T : Tab t L.length) (fit : L.length ≤ t.mask) (its : ∀ p ∈ L, IsT P w s.heap p.2 p.1) (pl : t.plain = true)
    (ld : w.params.followText "set-order" = true ∨ t.led = true) {wanted M : Nat} (hw : SetTable.sizeAbove wanted - 1 = M) (hM : Mk M) (hb : SetTable.sizeAbove wanted ≤ 8192) (hn : L.length * 5 < M * 3) {Q : Unit → Shared → Prop}
    (q : ∀ h2 L2 es2 ep2 t2, Heap.SameBut a s.heap h2 → SB P w h2 a L2 es2 ep2 t2 → L2.Perm L → Q () { s with heap := h2 }) : wpAny (model P w) A (setRelay a wanted) Q E s := by
  have hsl := rows_size e0
  obtain ⟨t2, order, e, hp, T2, em, el, epl⟩ := tab_new t (hs := es.map (·.1)) (wanted := wanted) hw hM (by rw [Array.size_map, hsl]; omega)
  rw [Array.size_map, hsl] at hp T2
  obtain ⟨L2, r1, r2, _⟩ := order_rows L es order e0 hp
  have hs2 : (order.filterMap (es[·]?)).size = es.size := (rows_size r1).trans (r2.length_eq.trans hsl.symm)
  rw [setRelay_eq]
  refine wpAny_bind (wpAny_setState_of ho hd (by rw [hsl]; exact tab_fits T fit) ?_); dsimp only
  refine wp_if_neg (by rw [sizeLine_eq]; omega) ?_
  try refine wpAny_bind (wpAny_pure ?_)
  rw [e]; dsimp only
  refine wpAny_bind (wp_if_neg (by rw [hs2]; simp) ?_)
  try refine wpAny_bind (wpAny_pure ?_)
  refine wpAny_pure ?_; dsimp only
  have few : L.length ≤ 8192 := by rcases hM with z | z | z | z | z | z <;> omega
  refine wpAny_storeSet_of ho hd ?_ (by rw [hs2, hsl, sizeLine_eq]; omega)
  have sb : Heap.SameBut a s.heap (s.heap.update a (Obj.putSet (order.filterMap (es[·]?)) t2)) := Heap.SameBut.update ..
  exact q _ L2 _ (ep + 1) t2 sb ⟨⟨_, store_at ho hd, ⟨hex.1, hex.2.1, hex.2.2⟩, rfl⟩, r1, by rw [r2.length_eq]; exact T2, fun p hpm => isT_same (its p (r2.mem_iff.mp hpm)) ho hd sb, epl.trans pl, by rw [el]; exact ld, by rw [r2.length_eq, em]; exact hn⟩ r2
theorem SB.add (R : SB P w s.heap a L es ep t) {x : Addr} {k : List Int} (hx : IsT P w s.heap k x) (hu : A.units < cLine) (hk : k ∉ L.map (·.2)) (few : L.length < 4000) {Q : Bool → Shared → Prop}
    (q : ∀ h2 L2 es2 ep2 t2, Heap.SameBut a s.heap h2 → SB P w h2 a L2 es2 ep2 t2 → L2.Perm ((x, k) :: L) → Q true { s with heap := h2 }) : wpAny (model P w) A (setAddHashed a (.ref x) (thash P w k)) Q E s := by
  obtain ⟨o, ho, hex, hd⟩ := R.at_
  have hsl := rows_size R.ent
  have lax := R.lax
  unfold setAddHashed
  rw [show (100000 : Nat) = 99999 + 1 from rfl, setAddHashedIn_succ]
  refine wpAny_holding (wpAny_bind (wpAny_setState_of ho hd R.fit ?_)); dsimp only
  refine wp_if_neg (by simp [byScan, Value.scannable]) ?_
  try refine wpAny_bind (wpAny_pure ?_)
  refine wpAny_bind (R.find hx hu hk fun j hj => ?_); dsimp only
  refine wpAny_bind (wpAny_setState_of ho hd R.fit ?_); dsimp only
  obtain ⟨q1, q2, q3, q4, q5, q6, q9⟩ := R.tab.put hj
  have pl1 : (t.put j).1.plain = true := q6.trans R.pln
  generalize t.put j = pt at q1 q3 q4 q5 q6 q9 pl1 ⊢
  obtain ⟨t1, p⟩ := pt
  dsimp only at q1 q3 q4 q5 q6 q9 pl1 ⊢
  subst q1
  first
    | (refine wpAny_bind (wp_if_pos pl1 (hashBy_tup hx ?_)))
    | (refine wp_if_pos pl1 (wpAny_bind (hashBy_tup hx ?_)))
  simp only [if_true]
  have e1 : (SetTable.insertAt es (SetTable.below t.place j) (thash P w k, Value.ref x)).toList = rowsOf P w (L.take (SetTable.below t.place j) ++ (x, k) :: L.drop (SetTable.below t.place j)) := by rw [SetTable.toList_insertAt, rows_put, R.ent]
  have pm := put_perm L (SetTable.below t.place j) (x, k)
  generalize SetTable.insertAt es (SetTable.below t.place j) (thash P w k, Value.ref x) = es1 at e1 ⊢
  generalize L.take (SetTable.below t.place j) ++ (x, k) :: L.drop (SetTable.below t.place j) = L1 at e1 pm
  have len1 : L1.length = L.length + 1 := pm.length_eq
  have hes := (rows_size e1).trans len1
  refine wpAny_bind (wpAny_storeSet_of ho hd ?_ (by rw [hes, sizeLine_eq]; omega))
  have sb : Heap.SameBut a s.heap (s.heap.update a (Obj.putSet es1 t1)) := Heap.SameBut.update ..
  have ho1 := store_at (es' := es1) (t' := t1) ho hd
  generalize s.heap.update a (Obj.putSet es1 t1) = h1 at sb ho1 ⊢
  have its1 : ∀ p ∈ L1, IsT P w h1 p.2 p.1 := fun p hp => by
    rcases List.mem_cons.mp (pm.mem_iff.mp hp) with rfl | hp
    · exact isT_same hx ho hd sb
    · exact isT_same (R.its p hp) ho hd sb
  have ld1 : w.params.followText "set-order" = true ∨ t1.led = true := by rw [q5]; exact R.ld
  rw [← len1] at q3
  by_cases hf : t1.tooFull = true
  · first
      | (refine wpAny_bind (wp_if_pos (by simp [hf]) ?_))
      | (refine wp_if_pos (by simp [hf]) (wpAny_bind ?_))
    have hfull : (L.length + 1) * 5 ≥ t.mask * 3 := by
      have h := hf
      simp only [SetTable.tooFull, q9, q4, decide_eq_true_eq] at h
      exact h
    obtain ⟨z1, z2, z3, z4, z5⟩ := sizes
    rw [hsl]
    have go : ∀ M, SetTable.sizeAbove (SetTable.grown (L.length + 1)) = M + 1 → Mk M → M ≤ 8191 → (L.length + 1) * 5 < M * 3 → wpAny (model P w) A (setRelay a (SetTable.grown (L.length + 1))) (fun _ s' => wpAny (model P w) A (pure true) Q E s') E { s with heap := h1 } := fun M g1 g2 g3 g4 => by
      refine relay (s := { s with heap := h1 }) ho1 ⟨hex.1, hex.2.1, hex.2.2⟩ rfl e1 q3 (by rw [len1, q4]; omega) its1 pl1 ld1 (by rw [g1]; rfl) g2 (by omega) (by rw [len1]; exact g4) ?_
      intro h2 L2 es2 ep2 t2 sb2 R2 pm2
      exact wpAny_pure (q h2 L2 es2 ep2 t2 (sb.trans sb2) R2 (pm2.trans pm))
    have cs : (t.mask = 7 ∧ L.length + 1 = 5) ∨ (t.mask = 31 ∧ L.length + 1 = 19) ∨ (t.mask = 127 ∧ L.length + 1 = 77) ∨ (t.mask = 511 ∧ L.length + 1 = 307) ∨ (t.mask = 2047 ∧ L.length + 1 = 1229) := by
      rcases R.tab.msk with e | e | e | e | e | e <;> rw [e] at hfull lax ⊢ <;> omega
    rcases cs with ⟨_, e⟩ | ⟨_, e⟩ | ⟨_, e⟩ | ⟨_, e⟩ | ⟨_, e⟩
    · exact go 31 (by rw [e, z1]) (.inr (.inl rfl)) (by omega) (by omega)
    · exact go 127 (by rw [e, z2]) (.inr (.inr (.inl rfl))) (by omega) (by omega)
    · exact go 511 (by rw [e, z3]) (.inr (.inr (.inr (.inl rfl)))) (by omega) (by omega)
    · exact go 2047 (by rw [e, z4]) (.inr (.inr (.inr (.inr (.inl rfl))))) (by omega) (by omega)
    · exact go 8191 (by rw [e, z5]) (.inr (.inr (.inr (.inr (.inr rfl))))) (by omega) (by omega)
  · first
      | refine wp_if_neg (by simp [hf]) ?_
      | (refine wpAny_bind (wp_if_neg (by simp [hf]) (wpAny_pure ?_)))
    refine wpAny_pure (q h1 L1 es1 (ep + 1) t1 sb ⟨⟨_, ho1, ⟨hex.1, hex.2.1, hex.2.2⟩, rfl⟩, e1, q3, its1, pl1, ld1, ?_⟩ pm)
    have h := hf
    simp only [SetTable.tooFull, q9, decide_eq_true_eq] at h
    rw [len1]
    omega
end
end Tb

namespace Tb
open PySem PySem.Spec PyProof.Rows L2
section
variable {P : Program} {w : World} {A : Around} {E : Value → Shared → Prop} {s : Shared}
/-- an empty set -/
abbrev emp (w : World) : Obj := { cls := .type "set", dict := none, data := .set #[] 0 (.fresh 0 0 (!w.params.followText "set-order")) }
theorem SB.new {h : Heap} {a : Addr} (ho : h.get? a = some (emp w)) : SB P w h a [] #[] 0 (.fresh 0 0 (!w.params.followText "set-order")) :=
  ⟨⟨_, ho, ⟨rfl, rfl, rfl⟩, rfl⟩, rfl, ⟨List.Pairwise.nil, rfl, rfl, .inl rfl⟩, nofun, rfl, by
    show _ ∨ (!w.params.followText "set-order") = true
    cases w.params.followText "set-order" <;> simp, by show 0 * 5 < 7 * 3; decide⟩
theorem SB.old {h h' : Heap} {a : Addr} {L : List (Addr × List Int)} {es : Array (Int × Value)} {ep : Nat} {t : SetTable} (R : SB P w h a L es ep t) (ha : ∀ o, h.get? a = some o → h'.get? a = some o) (ht : ∀ p ∈ L, IsT P w h' p.2 p.1) : SB P w h' a L es ep t := by
  obtain ⟨o, ho, z⟩ := R.at_
  exact ⟨⟨o, ha o ho, z⟩, R.ent, R.tab, ht, R.pln, R.ld, R.lax⟩
/-- the loop over the list: none of its items comes twice -/
theorem walk_in {I : Addr} {fp wr : List Addr} {G : Array GenState → Array GenState → Prop} {n : Nat} {Pv : Nat → Value → Prop} {St : Nat → Shared → Prop} {R : Result → Shared → Prop} (W : WalksS P w A.in1 I fp wr G n Pv St) (S : Addr) (hSf : S ∉ fp)
    (ks : List (Addr × List Int)) (hn : n = ks.length) (nd : (ks.map (·.2)).Nodup) (few : ks.length ≤ 4000) (val : ∀ i v, Pv i v → ∃ p, ks[i]? = some p ∧ v = .ref p.1) (h0 : Heap) (hk : ∀ p ∈ ks, IsT P w h0 p.2 p.1) (hS0 : h0.get? S = none)
    (hw0 : ∀ b ∈ wr, h0.get? b = none) (hu : A.in1.units < cLine) : ∀ (k i : Nat) (s : Shared), n - i = k → i ≤ n → St i s → (∀ b o, h0.get? b = some o → s.heap.get? b = some o) → (∃ L es ep t, SB P w s.heap S L es ep t ∧ L.Perm (ks.take i)) →
      (∀ s' L es ep t, Moved (S :: wr) G s s' → SB P w s'.heap S L es ep t → L.Perm ks → (∀ b o, h0.get? b = some o → s'.heap.get? b = some o) → R (.ok (.ret .none)) s') → codeAny (model P w) A (.builtin "set.update.loop" ⟨[.ref S, .ref I], []⟩) R s := by
  have nS : S ∉ wr := fun h => hSf (W.sub _ h)
  have up : ∀ b ∈ wr, b ∈ S :: wr := fun b hb => .tail _ hb
  have stay : ∀ {s s' : Shared}, Moved wr G s s' → (∀ b o, h0.get? b = some o → s.heap.get? b = some o) → ∀ b o, h0.get? b = some o → s'.heap.get? b = some o := fun m k b o e => m.heap b o (fun hb => nomatch (hw0 b hb).symm.trans e) (k b o e)
  intro k
  induction k with
  | zero =>
    intro i s hk' hi hst kp ⟨L, es, ep, t, hS, pm⟩ hR
    have ei : i = n := by omega
    rw [ei, hn, List.take_length] at pm
    rw [ei] at hst
    refine codeAny_builtin F.entry_set_update_loop ?_; rw [Around.under_plainId F.plain_set_update_loop _]
    show wpAny _ A.in1 (pyNext (.ref I) >>= _) _ _ s; refine wpAny_bind (W.done s _ _ hst fun s' hm => ?_)
    have kp' := stay hm kp
    exact wpAny_pure (hR s' L es ep t (hm.mono up) (hS.old (fun o e => hm.heap S o nS e) fun p hp => isT_keep (hk p (pm.mem_iff.mp hp)) kp') pm kp')
  | succ k ih =>
    intro i s hk' hi hst kp ⟨L, es, ep, t, hS, pm⟩ hR
    have hlt : i < n := by omega
    refine codeAny_builtin F.entry_set_update_loop ?_; rw [Around.under_plainId F.plain_set_update_loop _]
    show wpAny _ A.in1 (pyNext (.ref I) >>= _) _ _ s; refine wpAny_bind (W.item i s _ _ hlt hst fun v s' hP hst' hm => ?_)
    obtain ⟨p, hp, rfl⟩ := val i v hP
    have kp' := stay hm kp
    have hS' : SB P w s'.heap S L es ep t := hS.old (fun o e => hm.heap S o nS e) fun q hq => isT_keep (hk q (List.mem_of_mem_take (pm.mem_iff.mp hq))) kp'
    have hx : IsT P w s'.heap p.2 p.1 := isT_keep (hk p (List.mem_of_getElem? hp)) kp'
    have new : p.2 ∉ L.map (·.2) := fun z => by
      have z := (pm.map (·.2)).mem_iff.mp z
      rw [List.map_take] at z
      obtain ⟨j, hj, ej⟩ := List.getElem_of_mem z
      have hj2 : j < i := by rw [List.length_take] at hj; omega
      rw [List.getElem_take] at ej
      have hil : i < (ks.map (·.2)).length := by rw [List.length_map]; omega
      refine List.pairwise_iff_getElem.mp nd j i (by omega) hil hj2 ?_
      rw [ej, List.getElem_map]
      exact congrArg Prod.snd (Option.some.inj (hp.symm.trans (List.getElem?_eq_getElem (by omega))))
    show wpAny _ A.in1 (holding [Value.ref p.1] (setAdd S (.ref p.1)) >>= _) _ _ s'; refine wpAny_bind (wpAny_holding ?_)
    unfold setAdd
    refine wpAny_holding (wpAny_bind (wpAny_pyHash_tuple hu hx ?_))
    have hLn : L.length < 4000 := by rw [pm.length_eq, List.length_take]; omega
    refine SB.add (s := { s' with toks := s'.toks + (p.2.length + 1) }) hS' hx hu new hLn fun h' L2 es2 ep2 t2 sb R2 pm2 => ?_
    have kp2 : ∀ b o, h0.get? b = some o → h'.get? b = some o := fun b o e => (sb.2 b (fun z => by rw [z, hS0] at e; cases e)).trans (kp' b o e)
    have pm3 : L2.Perm (ks.take (i + 1)) := by
      rw [take_next hp]
      exact pm2.trans ((pm.cons p).trans (List.perm_append_singleton p _).symm)
    refine wpAny_pure ⟨plainId_quiet F.plain_set_update_loop _, ih (i + 1) _ (by omega) hlt (W.frame _ s' _ _ hst' (Nat.le_add_right _ _) fun b hb o e => ?_) kp2 ⟨L2, es2, ep2, t2, R2, pm3⟩ fun s2 L3 es3 ep3 t3 hm2 hS2 g2 kp3 => ?_⟩
    · exact (sb.2 b (fun z : b = S => hSf (z ▸ hb))).trans e
    · refine hR s2 L3 es3 ep3 t3 (Moved.trans W.gtrans ((hm.mono up).then_heap (Nat.le_add_right _ _) fun b o hb e => ?_) hm2) hS2 g2 kp3
      exact (sb.2 b (fun z : b = S => hb (z ▸ List.mem_cons_self))).trans e
set_option maxHeartbeats 3200000 in
/-- set(xs), xs tuples of ints, no two alike -/
theorem call_setB {l : Addr} {items : Array Value} (ks : List (Addr × List Int)) {Q : Value → Shared → Prop} (hh : A.handled = none) (hl : s.heap.IsList l items) (hit : items.toList = ks.map fun p => Value.ref p.1) (hk : ∀ p ∈ ks, IsT P w s.heap p.2 p.1)
    (nd : (ks.map (·.2)).Nodup) (few : ks.length ≤ 4000) (hu : A.units + 3 < cLine) (q : ∀ (h' : Heap) (tk : Nat) L es ep t, SB P w h' s.heap.objs.size L es ep t → L.Perm ks → (∀ b o, s.heap.get? b = some o → h'.get? b = some o) → Q (.ref s.heap.objs.size) { s with heap := h', toks := tk }) :
    wpAny (model P w) A (call (.type "set") [.ref l]) Q E s := by
  have isz : items.size = ks.length := by rw [← Array.length_toList, hit, List.length_map]
  obtain ⟨c, tl, mro⟩ := F.called_set.mro; have made := F.called_set.made; have sub := F.called_set.sub
  have nt := F.called_set.notType; have can := F.called_set.canCreate; have ct := F.typeCall_set_1 (.ref l)
  refine wpAny_call (codeAny_of_tree ?_); show wpAny _ _ (callAny (.type "set") _) _ _ _
  refine wpAny_pure ⟨Code.quiet_builtin _ (by decide +kernel), codeAny_builtin F.entry_type_call ?_⟩; rw [Around.under_plain (weight_type_call_type "set" [.ref l] []) rfl]
  repeat any_goals first | assumption | wp_step
  refine codeAny_mono (code_set_led1 (.ref l) (E := E) (Q₁ := fun obj s₁ => obj = .ref s.heap.objs.size ∧ s₁ = { s with heap := s.heap.push (emp w) }) ⟨rfl, rfl⟩) fun r s1 hr => ?_
  cases r with
  | error e => exact hr
  | ok fl =>
    cases fl with
    | ret obj =>
      obtain ⟨rfl, rfl⟩ := hr
      have hS : (s.heap.push (emp w)).get? s.heap.objs.size = some (emp w) := Heap.get?_push_size _ rfl
      have hT : Shared.TypeIs { s with heap := s.heap.push (emp w) } (.ref s.heap.objs.size) "set" := ⟨_, hS, rfl⟩
      have li := F.called_set.init.lookup; have bi := F.called_set.init.bind (.ref s.heap.objs.size)
      repeat any_goals first | assumption | wp_step
      refine codeAny_mono (codeAny_call_builtin (R := wants (fun r s2 => r = .none ∧ ∃ h' tk L es ep t, s2 = { s with heap := h', toks := tk } ∧ SB P w h' s.heap.objs.size L es ep t ∧ L.Perm ks ∧ (∀ b o, s.heap.get? b = some o → h'.get? b = some o)) E)
        F.called_set.init.plain F.entry_set_init (check_set_init_1 hT ?_)) fun r2 s2 hr2 => ?_
      · obtain ⟨⟨oc, od, dt, os⟩, hol, hcl, nl, hdl⟩ := hl
        simp only at hcl hdl
        subst hcl hdl
        have hol' : (s.heap.push (emp w)).get? l = some { cls := .type "list", dict := od, data := .seq items nl, slots := os } := Heap.get?_push_of_some _ hol
        have s1 := F.sub_list_set; have s2 := F.sub_list_frozenset
        have ne : (Value.type "list" == Value.type "dict") = false := by decide
        have hl1 : (s.heap.push (emp w)).IsList l items := ⟨_, hol', rfl, nl, rfl⟩
        unfold Builtin.«set.__init__» noKeywords Builtin.Frozenset.updateFrom
        generalize hPI : pyIter = PI
        wp_walk
        subst hPI
        refine wpAny_pyIter_list hl1 (wpAny_bind (wpAny_runValue ?_))
        have lt := Heap.lt_size hol
        have hh3 : A.in1.in1.in1.handled = none := by simp [hh]
        have sz1 : (s.heap.push (emp w)).objs.size = s.heap.objs.size + 1 := Heap.size_push ..
        have no : ∀ b, s.heap.objs.size ≤ b → s.heap.get? b = none := fun b hb => by
          cases z : s.heap.get? b with
          | none => rfl
          | some o => exact (Nat.lt_irrefl _ (Nat.lt_of_lt_of_le (Heap.lt_size z) hb)).elim
        have ne1 : l ≠ (s.heap.push (emp w)).objs.size := by rw [sz1]; exact Nat.ne_of_lt (Nat.lt_succ_of_lt lt)
        have nf1 : s.heap.objs.size ∉ [(s.heap.push (emp w)).objs.size, l] := by rw [sz1]; simp only [List.mem_cons, List.not_mem_nil, or_false, not_or]; exact ⟨Nat.ne_of_lt (Nat.lt_succ_self _), Nat.ne_of_gt lt⟩
        refine walk_in ((Walks.list hh3 (s.heap.push (emp w)).objs.size l ne1 items).toS) s.heap.objs.size nf1 ks isz nd few (fun i v hv => ?_) s.heap hk (no _ (Nat.le_refl _))
          (fun b hb => no b (by rw [List.mem_singleton.mp hb, sz1]; omega)) hu (items.size - 0) 0 _ (by omega) (Nat.zero_le _) ⟨⟨_, Heap.get?_push_size _ rfl, rfl, rfl⟩, hl1.push _⟩ (fun b o e => Heap.get?_push_of_some _ (Heap.get?_push_of_some _ e))
          ⟨[], #[], 0, _, SB.new (Heap.get?_push_of_some _ hS), .refl _⟩ fun s3 L es ep t hm hS3 pm kp => ?_
        · have z : items.toList[i]? = some v := by rw [Array.getElem?_toList]; exact hv
          rw [hit, List.getElem?_map] at z
          obtain ⟨p, hp, e⟩ := Option.map_eq_some_iff.mp z
          exact ⟨p, hp, e.symm⟩
        · obtain ⟨h', g2, d', tk', os'⟩ := s3
          obtain rfl : g2 = s.gens := hm.gens
          obtain rfl : d' = s.drawn := hm.drawn
          obtain rfl : os' = s.os := hm.os
          show wpAny _ _ _ _ _ _
          refine wpAny_pure ?_
          show wpAny _ _ (ret Value.none) _ _ _
          exact wpAny_pure ⟨rfl, h', tk', L, es, ep, t, rfl, hS3, pm, kp⟩
      · cases r2 with
        | error e => exact hr2
        | ok fl2 =>
          cases fl2 with
          | ret r =>
            obtain ⟨rfl, h', tk, L, es, ep, t, rfl, hS', pm, kp⟩ := hr2
            repeat any_goals first | assumption | wp_step
            exact q _ _ _ _ _ _ hS' pm kp
          | _ => exact hr2.elim
    | _ => exact hr.elim
end
/-- len(set(xs)), xs tuples of ints, no two alike -/
def tLenSetT (K : PySem.W.Frag) (ta : TE) : TE := fun σ H Q => ta σ H fun x H1 => ∃ (l : Addr) (ks : List (Addr × List Int)), x = V.ref l ∧ SqL K H1 l (ks.map fun p => V.ref p.1) ∧ (∀ p ∈ ks, SqT K H1 p.1 (p.2.map V.int)) ∧ ks.length ≤ 4000 ∧ (ks.map (·.2)).Nodup ∧ Q (.int ks.length) H1
theorem pe_lenSetT {X : Cx} {a : Expr} {ta : TE} {p p2 q pos : Pos} (hc : X.calm = true) (hu : X.A.units + 64 < cLine) (hg : Gl X "len") (hm : X.mg "len" = none) (hg2 : Gl X "set") (hm2 : X.mg "set" = none) (ha : PE X a ta)
    (na : starEach [a] X.env = (false, eval a X.env) :: starEach [] X.env := by rfl) : PE X (.Call (.Name "len" p) [.Call (.Name "set" p2) [a] [] q] [] pos) (tLenSetT X.K ta) := by
  refine ⟨fun pins s σ H Q I h => ?_⟩
  refine Call_ (ld_blt I hg hm PySem.boot_len (PyProof.Rows.callWith_builtin1 (PyProof.Rows.args_cons ?_ rfl) rfl rfl))
  refine Call_ (ld_blt I hg2 hm2 PyProof.Rows.boot_set (PyProof.Rows.callWith_type1 (PyProof.Rows.args_cons (thn (ha.run pins s σ H _ I h) fun v s1 ⟨x, H1, I1, r1, q1⟩ => PyProof.Rows.args_nil ?_) na) na rfl))
  obtain ⟨l, ks, rfl, hl, hk, few, nd, q1⟩ := q1
  cases r1
  obtain ⟨its, rv, pl, _⟩ := I1.list hl
  refine call_setB (P := X.prog) (w := X.w) ks (I1.ok.hd hc) pl.isList (by simpa using refs_of_vals rv) (fun p hp => I1.isT (hk p hp)) nd few (by omega) fun h' tk L es ep t R pm kp => PyProof.Rows.args_nil ?_
  obtain ⟨o, ho, hex, hd⟩ := R.at_
  have e1 : es.size = ks.length := (rows_size R.ent).trans pm.length_eq
  have I2 : Inv X pins σ H1 { s1 with heap := h', toks := tk } := I1.kept kp
  have lax := R.lax
  refine call_len_set ho hex hd (tab_fits (by rw [rows_size R.ent]; exact R.tab) (by rw [rows_size R.ent]; omega)) (by rw [e1]; omega) ⟨.int ks.length, H1, I2.tok _, ⟨_, by rw [e1]⟩, q1⟩
end Tb

namespace Ts
open PySem PySem.Spec PyProof.Rows L2 Mix PySem.W
section
variable {prog : Program} {w : World} {A : Around} {E : Value → Shared → Prop} {s : Shared} {T : String} {r d : Addr} {n : Nat} {P : Nat → Value → Prop} {OK : Heap → Prop}
/-- what a source gives, in a heap that has grown -/
theorem collect_grown {R : List Value → Shared → Prop} (K : KdlSrc prog w T r d n P OK) (hh : A.handled = none) (hok : OK s.heap) (hn : n ≤ sizeLine)
    (q : ∀ (g : Heap) (tk : Nat) (acc : Array Value), s.heap.objs.size < g.objs.size → (∀ b o, s.heap.get? b = some o → g.get? b = some o) → ItemsOf P acc n → R acc.toList { s with heap := g, toks := tk }) :
    wpAny (model prog w) A (collect (.ref r)) R E s := by
  obtain ⟨lr, ld⟩ := K.there _ hok
  have new : (s.heap.push { cls := .type "list", data := .seq ([] : List Value).toArray }).get? s.heap.objs.size = some { cls := .type "list", data := .seq #[] } := Heap.get?_push_size _ rfl
  have ext := kdl_extend (A := A) (s := { s with heap := s.heap.push { cls := .type "list", data := .seq ([] : List Value).toArray } }) (R := fun x t => ∃ g tk acc c, x = .ok (.ret (.ref s.heap.objs.size)) ∧ t = { s with heap := g, toks := tk } ∧ (∀ b o, s.heap.get? b = some o → g.get? b = some o) ∧ g.get? s.heap.objs.size = some { cls := .type "list", dict := none, data := .seq acc c, slots := #[] } ∧ ItemsOf P acc n)
    K hh (K.keep _ _ hok fun b _ o e => Heap.get?_push_of_some _ e) s.heap.objs.size (Nat.ne_of_gt lr) (Nat.ne_of_gt ld) (.ref s.heap.objs.size) 0 new (fun g tk acc c kp hg it => ⟨g, tk, acc, c, rfl, rfl, fun b o e => kp b o (Nat.ne_of_lt (Heap.lt_size e)) (Heap.get?_push_of_some _ e), hg, it⟩) hn
  unfold collect; refine wpAny_bind (wpAny_runValue (codeAny_builtin entry_proto_collect' ?_)); rw [Around.under_plainId PySem.F.plain_proto_collect _]
  show wpAny _ A.in1 (newList [] >>= fun l => again (.builtin "list.__iadd__" ⟨[l, .ref r], []⟩)) _ _ s; refine wpAny_bind (wpAny_newObj_type ?_)
  refine wpAny_pure ⟨plainId_quiet PySem.F.plain_list_iadd _, codeAny_builtin entry_list_iadd' ?_⟩; rw [Around.under_plainId PySem.F.plain_list_iadd _]
  show wpAny _ A.in1 (Builtin.List.listExtendWith (.ref s.heap.objs.size) (.ref r) (.ref s.heap.objs.size)) _ _ _; refine wpAny_mono ext (fun fin t x => ?_) fun e t x => ?_
  · cases fin with
    | done f =>
      obtain ⟨g, tk, acc, c, e, rfl, kp, hg, it⟩ := x
      cases e
      show wpAny _ A (load s.heap.objs.size >>= _) _ _ _; exact wpAny_bind (wpAny_load hg (wpAny_pure (q g tk acc (Heap.lt_size hg) kp it)))
    | again c₁ =>
      refine ⟨x.1, codeAny_mono x.2 fun z s₂ y => ?_⟩
      obtain ⟨g, tk, acc, c, rfl, rfl, kp, hg, it⟩ := y
      show wpAny _ A (load s.heap.objs.size >>= _) _ _ _; exact wpAny_bind (wpAny_load hg (wpAny_pure (q g tk acc (Heap.lt_size hg) kp it)))
  · obtain ⟨_, _, _, _, e', _⟩ := x
    cases e'
end
/-- sorted(d) of a dict, its keys ints, any number of them -/
def rSortDK : List V → Hp → VK → Prop := fun vs H Q => ∃ (a : Addr) (kvs : List (Key × V)) (ns : List Int), vs = [V.ref a] ∧ H a = some (.dK kvs) ∧ kvs.map (fun kv => kV kv.1) = ns.map V.int ∧
  ∀ (ns' : List Int) (p : Addr), ns'.Perm ns → ns'.Pairwise (· ≤ ·) → H p = none → Q (.ref p) (upd H p (.lst (ns'.map V.int)))
theorem cr_sortedDK {X : Cx} (hc : X.calm = true) : CallR X (.builtin "sorted") rSortDK := by
  intro pins s σ H vs us Q I r h
  obtain ⟨a, kvs, ns, rfl, hd, hk, q⟩ := h
  rw [Vals.ref1 r]
  obtain ⟨hz, lo, ws, rel, D⟩ := dk_of I.hok hd
  obtain ⟨ep, hat⟩ := D.dictAt
  have hl : kvs.length = ws.length := KV.length rel
  refine PySem.Calls.call_function_entry kind_sorted plain_sorted entry_sorted (args_sorted1 _) ?_
  unfold Builtin.«sorted»
  refine wpAny_bind (m := checkCount "sorted" 1 1 _) (wpAny_pure ?_); refine wpAny_bind (collect_grown (kdl_dict lo (kvs := ws) (ep := ep)) (I.ok.hd hc) hat (by omega) fun g tk acc lt kp it => ?_)
  have la : acc.toList.length = ws.length := by rw [Array.length_toList]; exact it.1
  have rv : Vals (ns.map V.int) acc.toList := by
    rw [← hk]
    refine vals_of_at (by rw [List.length_map, la, hl]) fun j x u h1 h2 => ?_
    obtain ⟨k, y, e, ik⟩ := it.2 j u (by rw [← Array.getElem?_toList]; exact h2)
    rw [List.getElem?_map] at h1
    obtain ⟨kv, e1, rfl⟩ := Option.map_eq_some_iff.mp h1
    have e2 := congrArg (·[j]?) (KV.keys rel)
    simp only [List.getElem?_map, e, e1, Option.map_some, Option.some.injEq] at e2
    have ik : keyIs k u = true := ik
    rw [e2]
    rcases keyIs_shape ik with ⟨i, t, rfl, rfl⟩ | ⟨z, t, rfl, rfl⟩
    · exact ⟨t, rfl⟩
    · exact ⟨t, rfl⟩
  have hi : IntsAre acc.toList ns := rv.ints
  refine wpAny_bind (wpAny_newList ?_ (by omega))
  have at_ : (g.push (seqObj "list" acc.toList.toArray 0)).get? g.objs.size = some (seqObj "list" acc.toList.toArray 0) := Heap.get?_push_size _ rfl
  refine wpAny_bind (wpAny_holding (wpAny_call_entry slot_list_sort ⟨_, at_, rfl⟩ entry_list_sort (SrtO.list_sort_ord SrtO.swo_int at_ (by omega) (fun h2 => SrtO.ints_sortable hi h2) fun out h1 h2 => ⟨_, rfl, ?_⟩) (args_list_sort _)))
  refine wpAny_pure ⟨_, rfl, ?_⟩
  obtain ⟨k1, k2, k3⟩ := SrtO.ints_out hi h1 h2
  obtain ⟨ep', he'⟩ := sortedHeap_at (vs := acc.toList) (out := out.toArray) at_
  have hlen : ((out.map SrtO.iv).map V.int).length ≤ sizeLine := by
    rw [List.length_map, k2.length_eq]
    have := congrArg List.length hk
    rw [List.length_map, List.length_map] at this
    omega
  refine ⟨.ref _, upd H g.objs.size (.lst ((out.map SrtO.iv).map V.int)), I.laid (t' := tk) (fun b o e => ?_) (Nat.le_of_lt lt) ⟨hlen, out, ep', vals_of_ints k1, he'⟩, rfl, q _ _ k2 k3 (I.hok.fresh (Nat.le_of_lt lt))⟩
  have e1 := kp b o e
  rw [sortedHeap_old (Nat.ne_of_lt (Heap.lt_size e1)) (by rw [Heap.size_push]; exact Nat.lt_succ_of_lt (Heap.lt_size e1))]
  exact Heap.get?_push_of_some _ e1
theorem w_sortDK {a : Addr} {kvs : List (Key × V)} {ns : List Int} {H : Hp} {Q : VK} (h : H a = some (.dK kvs)) (e : kvs.map (fun kv => kV kv.1) = ns.map V.int)
    (q : ∀ (ns' : List Int) (p : Addr), ns'.Perm ns → ns'.Pairwise (· ≤ ·) → H p = none → Q (.ref p) (upd H p (.lst (ns'.map V.int)))) : rSortDK [.ref a] H Q := ⟨a, kvs, ns, rfl, h, e, q⟩
end Ts

namespace Tw
open PySem L2 Ts Mix
theorem min_of {a b : Nat} : (if ((b : Nat) : Int) < (a : Nat) then ((b : Nat) : Int) else (a : Nat)) = ((min a b : Nat) : Int) := by split <;> omega
def N_law_true : List Str := ["_law_rows_here", "_law_other", "_law_looks", "_law_height", "_law_number", "_law_alike", "_law_size_here", "_law_first", "_law_there"]
def t_law_true (K : PySem.W.Frag) (c : Cs) (E : XK) : TS := (tSeq (tFor (iList K (tVar 2)) (gTup K 3 (gCons (gName 3) (gCons (gName 4) (gCons (gName 5) gNil)))) (tSeq (tAsg (tCall (sp_law_size K c) [] E0 (tCons (tVar 3) tNil)) (gName 6))
  (tSeq (tAsg (tOp rMul (tVar 4) (tVar 6)) (gName 7))
  (tSeq (tIfS (tTest (tOp rGt (tOp rAddU (tVar 7) (tVar 6)) (tCB rMin (tCons (tCB (Ts.rLen K) (tCons (tVar 0) tNil)) (tCons (tCB (Ts.rLen K) (tCons (tVar 1) tNil)) tNil))))) (tRet (tC (.bl false))) tNext)
  (tSeq (tAsg (tSl (rSlU K) (tVar 0) (tPart (tVar 7)) (tPart (tOp rAddU (tVar 7) (tVar 6)))) (gName 8))
  (tIfS (tTest (tOp (rNeU K) (tVar 5) (tOp (rEqU K) (tVar 8) (tSl (rSlU K) (tVar 1) (tPart (tVar 7)) (tPart (tOp rAddU (tVar 7) (tVar 6))))))) (tRet (tC (.bl false))) tNext))))))
  (tRet (tC (.bl true))))
def sp_law_true (K : PySem.W.Frag) (_ : Cs) : Sp := fun vs H Q _ => ∃ (a o lk : Addr) (r1 r2 : List Str) (ds : List Look) (xs : List V), vs = [.ref a, .ref o, .ref lk] ∧ H a = some (.lst (r1.map V.str)) ∧ H o = some (.lst (r2.map V.str)) ∧ (∀ z ∈ r1, Good z) ∧ (∀ z ∈ r2, Good z) ∧ r1.length ≤ 1024 ∧
  H lk = some (.lst xs) ∧ DpAll K H xs (ds.map encL.enc) ∧ (∀ l ∈ ds, LookOk r1 r2 (min r1.length r2.length) l) ∧ ∀ H', Ex H H' → Q (.bl true) H'
theorem len_law_true {K c} : ∀ vs H Q E, sp_law_true K c vs H Q E → vs.length = 3 := by rintro vs H Q E ⟨_, _, _, _, _, _, _, rfl, _⟩; rfl
theorem pure_law_true {K : PySem.W.Frag} {c : Cs} {vs : List V} {H : Hp} {Q : VK} {E : XK} (g : sp_law_true K c vs H Q E) : t_law_true K c E ⟨fun _ H' => Q .non H', Q, fun _ _ => False, fun _ _ => False⟩ (start N_law_true vs) H := by
  obtain ⟨a, o, lk, r1, r2, ds, xs, rfl, ha, ho, g1, g2, n1, hk, da, ok, q⟩ := g
  show t_law_true K c E _ [some (.ref a), some (.ref o), some (.ref lk), none, none, none, none, none, none] H
  unfold t_law_true
  walk_at "s"
  refine w_iLv (sql hk) (lb_list (K := K) (xs := xs) (fun _ σ H' => ∃ v3 v4 v5 v6 v7 v8, σ = [some (.ref a), some (.ref o), some (.ref lk), v3, v4, v5, v6, v7, v8] ∧ Ex H H') ⟨_, _, _, _, _, _, rfl, ex_refl⟩ ?_ ?_ ?_)
  · rintro i σ H' _ ⟨_, _, _, _, _, _, _, e⟩
    exact sql (e _ _ hk)
  · rintro i x σ H2 hi ⟨v3, v4, v5, v6, v7, v8, rfl, e2⟩
    obtain ⟨dd, hd1, hd2⟩ := dpAll_get da hi
    rw [List.getElem?_map] at hd1
    obtain ⟨⟨h, j, b⟩, hp1, rfl⟩ := Option.map_eq_some_iff.mp hd1
    obtain ⟨t, x1, y1, z1, rfl, ht, hx1, hy1, hz1⟩ := dp_tup3 hd2
    have hx1 := dp_int hx1
    have hy1 := dp_int hy1
    have hz1 := dp_bool hz1
    subst hx1 hy1 hz1
    obtain ⟨w1, w2, w3⟩ := ok _ (List.mem_of_getElem? hp1)
    simp only at w1 w2 w3
    have hp60 : 2 ^ h ≤ 2 ^ 60 := Nat.pow_le_pow_right (by decide) (by omega)
    have mul : (j : Int) * ((2 ^ h : Nat) : Int) = ((j * 2 ^ h : Nat) : Int) := by push_cast; rfl
    have add : ((j * 2 ^ h : Nat) : Int) + ((2 ^ h : Nat) : Int) = (((j + 1) * 2 ^ h : Nat) : Int) := by rw [Nat.add_mul, Nat.one_mul]; push_cast; rfl
    refine w_gTup (sqt_ex e2 ht) rfl ?_
    walk_at "s"
    refine ⟨h, rfl, by omega, ?_⟩
    walk_at "s"
    try refine w_mul (cmul_nat hp60) ?_
    rw [mul]
    walk_at "s"
    rw [add]
    refine w_lenL (sql (e2 _ _ ha)) ?_
    rw [List.length_map]
    walk_at "s"
    refine w_lenL (sql (e2 _ _ ho)) ?_
    rw [List.length_map]
    walk_at "s"
    rw [min_of, decide_eq_false (by omega)]
    refine iteF ?_
    walk_at "s"
    rw [add]
    refine w_slL (sql (e2 _ _ ha)) fun p1 hp1 => ?_
    rw [cut_blk]
    have e3 := ex_new (o := .lst ((blk r1 h j).map V.str)) ex_refl hp1
    have b1 : (upd H2 p1 (.lst ((blk r1 h j).map V.str))) p1 = some (.lst ((blk r1 h j).map V.str)) := upd_same
    generalize upd H2 p1 (.lst ((blk r1 h j).map V.str)) = H3 at e3 b1
    walk_at "s"
    rw [add]
    refine w_slL (sql (e3 _ _ (e2 _ _ ho))) fun p2 hp2 => ?_
    rw [cut_blk]
    have e4 := ex_new (o := .lst ((blk r2 h j).map V.str)) ex_refl hp2
    have b2 : (upd H3 p2 (.lst ((blk r2 h j).map V.str))) p2 = some (.lst ((blk r2 h j).map V.str)) := upd_same
    have b1 := e4 _ _ b1
    have e5 := e3.trans e4
    generalize upd H3 p2 (.lst ((blk r2 h j).map V.str)) = H4 at e5 b1 b2
    refine w_eqD (dp_strs (rs := blk r1 h j) b1) (dp_strs (rs := blk r2 h j) b2) (sh_strs (blk_good g1 h j)) (sh_strs (blk_good g2 h j)) ?_
    rw [(eList eStr).eq]
    refine w_neD (d := eBool.enc b) (e := eBool.enc (alk r1 r2 h j)) (.bl _) (.bl _) rfl rfl ?_
    rw [eBool.eq, decide_eq_true w1]
    walk_at "s"
    refine iteF ?_
    walk_at "s"
    exact ⟨_, _, _, _, _, _, rfl, e2.trans e5⟩
  · rintro σ H2 ⟨v3, v4, v5, v6, v7, v8, rfl, e2⟩
    walk_at "s"
    exact q _ e2
end Tw

namespace Ts
open PySem L2 Mix
section
variable {K : PySem.W.Frag} {σ : L2.St} {H : Hp} {Q : VK} {nx bk ct : L2.St → Hp → Prop} {rt : VK} {ta td ty tv : TE}
theorem w_dnew (q : ∀ p, H p = none → Q (.ref p) (upd H p (.dK []))) : tDNewK σ H Q := q
theorem w_dput (q : tv σ H fun v H1 => td σ H1 fun x H2 => ty σ H2 fun y H3 => ∃ a H4, x = .ref a ∧ DPut H3 a y v H4 ∧ nx σ H4) : sDPut td ty tv ⟨nx, rt, bk, ct⟩ σ H := q
theorem w_lenSet (q : ta σ H fun x H1 => ∃ (l : Addr) (ks : List (Addr × List Int)), x = V.ref l ∧ SqL K H1 l (ks.map fun p => V.ref p.1) ∧ (∀ p ∈ ks, SqT K H1 p.1 (p.2.map V.int)) ∧ ks.length ≤ 4000 ∧ (ks.map (·.2)).Nodup ∧ Q (.int ks.length) H1) : Tb.tLenSetT K ta σ H Q := q
theorem w_slT {a : Addr} {xs : List V} {lo hi : Option Int} (h : SqT K H a xs) (n : ¬ (HT.sIx xs.length 0 lo = 0 ∧ HT.sIx xs.length xs.length hi = xs.length)) (q : ∀ p, H p = none → Q (.ref p) (upd H p (.tup (cutV xs lo hi)))) : rSlT K (.ref a) lo hi H Q := ⟨a, xs, rfl, h, n, q⟩
theorem w_gLst {n : Nat} {tg : TGs} {a : Addr} {xs : List V} {R : L2.St → Hp → Prop} (h : SqL K H a xs) (hl : xs.length = n) (q : tg xs σ H R) : gLst K n tg (.ref a) σ H R := ⟨a, xs, rfl, h, hl, q⟩
end
end Ts
namespace Tw
open PySem L2 Ts Mix
section
variable {K : PySem.W.Frag} {c : Cs} {H : Hp} {Q : VK} {E : XK}
theorem ask_both {L : Addr} {b1 b2 : BR} {ths : List MK} {v w : V} (hv : v = .ref b1.B) (hw : w = .ref b2.B) (tb : TB c H L b1 b2 ths) (k : ∀ H' t pl lk, All K H H' t pl lk (allR b1.rows b2.rows) → Q (.ref t) H') : sp_all_unlike K c [v, w] H Q E :=
  ⟨b1, b2, by rw [hv, hw], .inl ⟨L, ths, tb, k⟩⟩
theorem ask_one {L : Addr} {b1 b2 : BR} {ths : List MK} {v w : V} (hv : v = .ref b1.B) (hw : w = .ref b2.B) (tb : TB c H L b1 b2 ths) (k : ∀ H' t lk, Found K H H' t lk (plV (firstR b1.rows b2.rows).2) (firstR b1.rows b2.rows).1 → Q (.ref t) H') : sp_first_unlike K c [v, w] H Q E :=
  ⟨b1, b2, by rw [hv, hw], .inl ⟨L, ths, tb, k⟩⟩
end
/-- a number or None -/
def encO : Enc (Option Nat) := ⟨fun x => match x with
    | none => .none
    | some n => .int n, fun _ => True, fun x _ => by cases x <;> rfl, 0, fun x => by cases x <;> exact Nat.le_refl _, fun x y => by
  cases x with
  | none =>
    cases y with
    | none => rfl
    | some m => rfl
  | some n =>
    cases y with
    | none => rfl
    | some m =>
      show PyData.eqv (.int n) (.int m) = _
      rw [eInt_eq, decide_eq_decide]
      constructor
      · intro h; congr 1; omega
      · intro h; cases h; rfl⟩
theorem encO_sh (o : Option Nat) : SeqAt.shaped (encO.enc o) = true := by cases o <;> rfl
theorem dp_plV {K : PySem.W.Frag} {H : Hp} (o : Option Nat) : Dp K H (plV o) (encO.enc o) := by
  cases o with
  | none => exact .non
  | some n => exact .int _
/-- the dict's entries -/
def kdV (l : List Nat) : List (Key × V) := l.map fun n : Nat => ((Sum.inl (n : Int) : Key), V.bl true)
theorem kdV_len (l : List Nat) : (kdV l).length = l.length := List.length_map _
theorem kdV_no {l : List Nat} {n : Nat} (h : n ∉ l) : valV (kdV l) (Sum.inl (n : Int)) = none := by
  have e := valV_any (Sum.inl (n : Int) : Key) (kdV l)
  cases z : valV (kdV l) (Sum.inl (n : Int)) with
  | none => rfl
  | some v =>
    rw [z] at e
    obtain ⟨kv, hk, hd⟩ := List.any_eq_true.mp e
    obtain ⟨m, hm, rfl⟩ := List.mem_map.mp hk
    have q : (Sum.inl ((m : Nat) : Int) : Key) = Sum.inl ((n : Nat) : Int) := of_decide_eq_true hd
    have q2 : ((m : Nat) : Int) = (n : Nat) := Sum.inl.inj q
    rw [show m = n by omega] at hm
    exact absurd hm h
theorem kdV_put {l : List Nat} {n : Nat} (h : n ∉ l) : putK (kdV l) (Sum.inl (n : Int)) (.bl true) = kdV (l ++ [n]) := by
  rw [putK_new _ (kdV_no h)]
  unfold kdV
  rw [List.map_append]
  rfl
theorem kdV_keys (l : List Nat) : (kdV l).map (fun kv => kV kv.1) = (l.map fun n : Nat => (n : Int)).map V.int := by
  unfold kdV
  rw [List.map_map, List.map_map]
  rfl
/-- numbers that rise stay as they are -/
theorem sorted_rise {l : List Nat} {ns : List Int} (r : l.Pairwise (· < ·)) (p : ns.Perm (l.map fun n : Nat => (n : Int))) (w : ns.Pairwise (· ≤ ·)) : ns.map V.int = numsV l := by
  have e : ns = l.map fun n : Nat => (n : Int) := by
    refine List.Perm.eq_of_pairwise (le := fun x y : Int => x ≤ y) (fun a b _ _ h1 h2 => by omega) w ?_ p
    rw [List.pairwise_map]
    exact r.imp fun h => by omega
  rw [e, numsV_int]
/-- a block, as a tuple of ints -/
def blockL (l : Look) : List Int := [(l.1 : Int), (l.2.1 : Int)]
theorem blocks_nd {ds : List Look} (h : (ds.map keyL).Nodup) : (ds.map blockL).Nodup := by
  refine List.pairwise_map.mpr ((List.pairwise_map.mp h).imp fun {a b} n e => n ?_)
  have e1 : [((a.1 : Nat) : Int), ((a.2.1 : Nat) : Int)] = [((b.1 : Nat) : Int), ((b.2.1 : Nat) : Int)] := e
  simp only [List.cons.injEq, and_true] at e1
  show (a.1, a.2.1) = (b.1, b.2.1)
  rw [show a.1 = b.1 by omega, show a.2.1 = b.2.1 by omega]
theorem few_int {L m d : Nat} (h : L ≤ m + 2 * ((m - 1) * d)) : ¬ ((m : Int) + 2 * (d : Nat) * (if (m : Int) - 1 > 0 then (m : Int) - 1 else 0) < (L : Nat)) := by
  have e : (if (m : Int) - 1 > 0 then (m : Int) - 1 else 0) = ((m - 1 : Nat) : Int) := by split <;> omega
  have e2 : (2 : Int) * (d : Nat) * ((m - 1 : Nat) : Int) = ((2 * ((m - 1) * d) : Nat) : Int) := by
    rw [Nat.mul_comm (m - 1) d, ← Nat.mul_assoc]
    push_cast
    rfl
  rw [e, e2]
  omega
/-- what a run through the looks has shown so far stands ahead of the next block -/
theorem cov_take {ds : List Look} {i h j : Nat} (e : ds[i]? = some (h, j, true)) (r : (cov ds).Pairwise (· < ·)) : ∀ k, k < 2 ^ h → j * 2 ^ h + k ∉ cov (ds.take i) ++ List.range' (j * 2 ^ h) k := fun k hk hm => by
  have s : cov ds = cov (ds.take i) ++ (List.range' (j * 2 ^ h) (2 ^ h) ++ cov (ds.drop (i + 1))) := by
    conv => lhs; rw [← List.take_append_drop i ds, drop_at e]
    rw [cov_app, cov_t]
  rw [s] at r
  obtain ⟨_, _, r3⟩ := List.pairwise_append.mp r
  rcases List.mem_append.mp hm with hm | hm
  · have := r3 _ hm (j * 2 ^ h + k) (List.mem_append_left _ (List.mem_range'.mpr ⟨k, hk, by omega⟩))
    omega
  · obtain ⟨m, h1, h2⟩ := List.mem_range'.mp hm
    omega
theorem cov_most {ds : List Look} {i h j : Nat} (e : ds[i]? = some (h, j, true)) (k : Nat) (hk : k ≤ 2 ^ h) : (cov (ds.take i) ++ List.range' (j * 2 ^ h) k).length ≤ (cov ds).length := by
  have s : cov ds = cov (ds.take i) ++ (List.range' (j * 2 ^ h) (2 ^ h) ++ cov (ds.drop (i + 1))) := by
    conv => lhs; rw [← List.take_append_drop i ds, drop_at e]
    rw [cov_app, cov_t]
  rw [s]
  simp only [List.length_append, List.length_range']
  omega
theorem cov_next {ds : List Look} {i h j : Nat} {b : Bool} (e : ds[i]? = some (h, j, b)) : cov (ds.take (i + 1)) = cov (ds.take i) ++ (if b = true then List.range' (j * 2 ^ h) (2 ^ h) else []) := by
  rw [take_at e, cov_app]
  show _ ++ (_ ++ []) = _
  rw [List.append_nil]
theorem range_snoc (a k : Nat) : List.range' a (k + 1) = List.range' a k ++ [a + k] := by
  have := List.range'_append (s := a) (m := k) (n := 1) (step := 1)
  rw [Nat.one_mul] at this
  rw [← this]
  rfl
def N_law : List Str := ["_law_script", "_law_books_here", "_law_kept", "_law_rows_here", "_law_other", "_law_lesser", "_law_place", "_law_due", "_law_places", "_law_looks", "_law_many", "_law_covered", "_law_height", "_law_number", "_law_alike", "_law_size_here", "_law_first", "_law_look"]
def t_law (K : PySem.W.Frag) (c : Cs) (E : XK) : TS := (tSeq (tAsg (tCall (sp_law_books K c) [] E0 (tCons (tVar 0) tNil)) (gTup K 2 (gCons (gName 1) (gCons (gName 2) gNil))))
  (tSeq (tAsg (tVar 2) (gLst K 2 (gCons (gName 3) (gCons (gName 4) gNil))))
  (tSeq (tAsg (tCB rMin (tCons (tCB (Ts.rLen K) (tCons (tVar 3) tNil)) (tCons (tCB (Ts.rLen K) (tCons (tVar 4) tNil)) tNil))) (gName 5))
  (tSeq (tAsg (tLc (iRng1 (tCons (tVar 5) tNil)) (gName 6) (tTest (tOp (rNeU K) (tOp (rIx K) (tVar 3) (tVar 6)) (tOp (rIx K) (tVar 4) (tVar 6)))) (tVar 6) [6]) (gName 7))
  (tSeq (tAsg (tCall (sp_all_unlike K c) [] E0 (tCons (tOp (rIx K) (tVar 1) (tC (.int 0))) (tCons (tOp (rIx K) (tVar 1) (tC (.int 1))) tNil))) (gTup K 2 (gCons (gName 8) (gCons (gName 9) gNil))))
  (tSeq (tAsg (tCall (sp_law_digits K c) [] E0 (tCons (tVar 5) tNil)) (gName 10))
  (tSeq (tIfS (tOr (tTest (tOp (rNeU K) (tVar 8) (tVar 7))) (tTest (tOp rGt (tCB (Ts.rLen K) (tCons (tVar 9) tNil)) (tOp rAddU (tVar 10) (tOp rMul (tOp rMul (tC (.int 2)) (tCB (Ts.rLen K) (tCons (tVar 7) tNil))) (tCB rMax (tCons (tC (.int 0)) (tCons (tOp rSubI (tVar 10) (tC (.int 1))) tNil)))))))) (tRet (tC (.bl false))) tNext)
  (tSeq (tIfS (tOr (tNot (tB (tCall (sp_law_true K c) [] E0 (tCons (tVar 3) (tCons (tVar 4) (tCons (tVar 9) tNil)))))) (tTest (tOp (rNeU K) (Tb.tLenSetT K (tLc (iList K (tVar 9)) (gName 17) tYes (tSl (rSlT K) (tVar 17) tNoPart (tPart (tC (.int 2)))) [17])) (tCB (Ts.rLen K) (tCons (tVar 9) tNil))))) (tRet (tC (.bl false))) tNext)
  (tSeq (tAsg tDNewK (gName 11))
  (tSeq (tFor (iList K (tVar 9)) (gTup K 3 (gCons (gName 12) (gCons (gName 13) (gCons (gName 14) gNil)))) (tIfS (tB (tVar 14)) (tSeq (tAsg (tCall (sp_law_size K c) [] E0 (tCons (tVar 12) tNil)) (gName 15))
  (tFor (iRng2 (tCons (tOp rMul (tVar 13) (tVar 15)) (tCons (tOp rAddU (tOp rMul (tVar 13) (tVar 15)) (tVar 15)) tNil))) (gName 6) (sDPut (tVar 11) (tVar 6) (tC (.bl true))))) tNext))
  (tSeq (tIfS (tTest (tOp (rNeU K) (tCB rSortDK (tCons (tVar 11) tNil)) (tLc (iRng1 (tCons (tVar 5) tNil)) (gName 6) (tTest (tOp (rIn K true) (tVar 6) (tVar 7))) (tVar 6) [6]))) (tRet (tC (.bl false))) tNext)
  (tSeq (tAsg (tOp (rIx K) (tCall (sp_first_unlike K c) [] E0 (tCons (tOp (rIx K) (tVar 1) (tC (.int 0))) (tCons (tOp (rIx K) (tVar 1) (tC (.int 1))) tNil))) (tC (.int 0))) (gName 16))
  (tSeq (tIfS (tTest (tOp (rNeU K) (tVar 7) (tLst tNil))) (tRet (tOp (rEqU K) (tVar 16) (tOp (rIx K) (tVar 7) (tC (.int 0))))) tNext)
  (tRet (tOp (rEqU K) (tVar 16) (tOp (rIx K) (tLst (tCons (tVar 5) (tCons (tC .non) tNil))) (tCB rInt1 (tCons (tOp (rEqU K) (tCB (Ts.rLen K) (tCons (tVar 3) tNil)) (tCB (Ts.rLen K) (tCons (tVar 4) tNil))) tNil))))))))))))))))))
def sp_law (K : PySem.W.Frag) (_ : Cs) : Sp := fun vs H Q _ => ∃ (a : Addr) (ns : List Int), vs = [.ref a] ∧ SqL K H a (ns.map V.int) ∧ ns.length ≤ 63 ∧ ∀ H', Q (.bl true) H'
theorem len_law {K c} : ∀ vs H Q E, sp_law K c vs H Q E → vs.length = 1 := by rintro vs H Q E ⟨a, ns, rfl, _⟩; rfl
theorem pure_law {K : PySem.W.Frag} {c : Cs} {vs : List V} {H : Hp} {Q : VK} {E : XK} (T : TxK K c) (h : sp_law K c vs H Q E) : t_law K c E ⟨fun _ H' => Q .non H', Q, fun _ _ => False, fun _ _ => False⟩ (start N_law vs) H := by
  obtain ⟨s, ns, rfl, hs, hl, q⟩ := h
  show t_law K c E _ [some (.ref s), none, none, none, none, none, none, none, none, none, none, none, none, none, none, none, none, none] H
  unfold t_law
  walk_at "s"
  refine ⟨s, ns, rfl, hs, hl, fun H1 t bl kl L d l b1 b2 ths xs B => ?_⟩
  walk_at "s"
  refine w_gTup (sqt B.tt) rfl ?_
  walk_at "s"
  have S1 := B.two
  have tb1 := B.tb
  have tk1 := B.tk
  clear B
  have n1 := S1.n1
  have n2 := S1.n2
  have o1 := S1.k1.kept
  have o2 := S1.k2.kept
  have g1 := S1.k1.good
  have g2 := S1.k2.good
  have TB1 := S1.tb (by decide)
  clear S1
  refine w_gLst (sql tk1) rfl ?_
  walk_at "s"
  refine w_lenL (sql o1) ?_
  rw [List.length_map]
  walk_at "s"
  refine w_lenL (sql o2) ?_
  rw [List.length_map]
  walk_at "s"
  rw [min_of]
  obtain ⟨aok, and_, acov, amost, afew⟩ := allR_all (r1 := b1.rows) (r2 := b2.rows) (by omega)
  have apl := allR_places b1.rows b2.rows
  have ffirst := firstR_diffs (r1 := b1.rows) (r2 := b2.rows) (by omega)
  have ddl := diffs_len (r1 := b1.rows) (r2 := b2.rows) (a := 0) (b := min b1.rows.length b2.rows.length)
  generalize hn : min b1.rows.length b2.rows.length = n at *
  have hn1 : n ≤ b1.rows.length := by omega
  have hn2 : n ≤ b2.rows.length := by omega
  have hn0 : n ≤ 1000 := by omega
  -- the places at which the rows kept here differ
  refine ⟨((n : Nat) : Int), rfl, by omega, by omega, fun D hD => ?_⟩
  rw [Int.toNat_natCast]
  refine lcb_range (fun i H' => Ex H1 H' ∧ H' D = some (.lst (numsV (diffs b1.rows b2.rows 0 i)))) ⟨ex_new ex_refl hD, upd_same⟩ ?_ ?_
  · rintro i H' hi ⟨e, hD'⟩
    show gName 6 _ [some (.ref s), some (.ref bl), some (.ref kl), some (.ref b1.a), some (.ref b2.a), some (.int (n : Nat)), none, none, none, none, none, none, none, none, none, none, none, none] _ _
    have k1 := List.getElem?_eq_getElem (l := b1.rows) (i := i) (by omega)
    have k2 := List.getElem?_eq_getElem (l := b2.rows) (i := i) (by omega)
    have dl := diffs_len (r1 := b1.rows) (r2 := b2.rows) (a := 0) (b := i)
    walk_at "s"
    refine ⟨rfl, ?_⟩
    walk_at "s"
    refine w_ixL (sql (e _ _ o1)) (atI_nat (v := .str b1.rows[i]) (by rw [List.getElem?_map, k1]; rfl)) ?_
    walk_at "s"
    refine w_ixL (sql (e _ _ o2)) (atI_nat (v := .str b2.rows[i]) (by rw [List.getElem?_map, k2]; rfl)) ?_
    walk_at "s"
    refine ite_nd (fun h0 => ?_) fun h0 => ?_
    · walk_at "s"
      refine ⟨_, hD', by rw [numsV_len]; exact szL (by omega), ex_mut e hD, ?_⟩
      rw [upd_same, diffs_snoc, if_neg (by rw [k1, k2]; intro z; exact h0 (Option.some.inj z)), numsV_app]
      rfl
    · refine ⟨e, ?_⟩
      rw [hD', diffs_snoc, if_pos (by rw [k1, k2, h0]), List.append_nil]
  rintro H2 ⟨e2, hD2⟩
  generalize hdu : diffs b1.rows b2.rows 0 n = du at *
  have tb2 := e2 _ _ tb1
  have o1 := e2 _ _ o1
  have o2 := e2 _ _ o2
  have TB2 := TB1.ex e2
  clear TB1 tb1 tk1 hD e2
  walk_at "s"
  refine w_ixL (v := .ref b1.B) (sql tb2) rfl ?_
  walk_at "s"
  refine w_ixL (v := .ref b2.B) (sql tb2) rfl ?_
  walk_at "s"
  refine ask_both rfl rfl TB2 fun H3 t3 pl lk F => ?_
  have e3 := F.ex'
  have tb3 := e3 _ _ tb2
  have o1 := e3 _ _ o1
  have o2 := e3 _ _ o2
  have TB3 := TB2.ex e3
  have hD3 := e3 _ _ hD2
  have hp := F.hp
  obtain ⟨ys, hy, dy'⟩ := F.ls
  have dy := dpAll_mono ex_hid dy'
  clear dy' TB2 tb2 hD2
  refine w_gTup (sqt F.ht) rfl ?_
  walk_at "s"
  clear F e3
  rw [apl] at hp
  generalize (allR b1.rows b2.rows).1 = ds at *
  have hyl := dpAll_len dy
  rw [List.length_map] at hyl
  refine ⟨n, rfl, ?_⟩
  have natsh : ∀ l : List Nat, SeqAt.shaped ((eList eNat).enc l) = true := fun l => (eList eNat).shaped (by decide) _ fun _ _ => trivial
  walk_at "s"
  refine w_neD (d := (eList eNat).enc du) (e := (eList eNat).enc du) (.lst (sql hp) (numsV_dp _)) (.lst (sql hD3) (numsV_dp _)) (natsh _) (natsh _) ?_
  rw [(eList eNat).eq, decide_eq_true rfl]
  walk_at "s"
  refine iteF ?_
  walk_at "s"
  refine w_lenL (sql hy) ?_
  rw [hyl]
  walk_at "s"
  refine w_lenL (sql hD3) ?_
  rw [numsV_len]
  walk_at "s"
  rw [decide_eq_false (few_int afew)]
  refine iteF ?_
  walk_at "s"
  -- each look is true
  refine ⟨b1.a, b2.a, lk, b1.rows, b2.rows, ds, ys, rfl, o1, o2, g1, g2, by omega, hy, dy, by rw [hn]; exact aok, fun H4 e4 => ?_⟩
  have tb4 := e4 _ _ tb3
  have o1 := e4 _ _ o1
  have o2 := e4 _ _ o2
  have TB4 := TB3.ex e4
  have hD4 := e4 _ _ hD3
  have hy4 := e4 _ _ hy
  have dy := dpAll_mono e4 dy
  clear TB3 tb3 hD3 hy hp e4
  walk_at "s"
  refine iteF ?_
  walk_at "s"
  -- no block is looked at twice
  refine w_lenSet ?_
  walk_at "s"
  refine ⟨lk, rfl, ⟨_, sql hy4⟩, fun D5 hD5 => ?_⟩
  refine lcb_list (K := K) (xs := ys) (fun i H' => Ex H4 H' ∧ ∃ ks : List (Addr × List Int), H' D5 = some (.lst (ks.map fun p => V.ref p.1)) ∧ ks.map (·.2) = (ds.take i).map blockL ∧ ∀ p ∈ ks, H' p.1 = some (.tup (p.2.map V.int))) ⟨ex_new ex_refl hD5, [], upd_same, rfl, nofun⟩ ?_ ?_ ?_
  · rintro i H' _ ⟨e, _⟩
    exact sql (e _ _ hy4)
  · rintro i x H' hi ⟨e, ks, hk1, hk2, hk3⟩
    obtain ⟨dd, hd1, hd2⟩ := dpAll_get dy hi
    rw [List.getElem?_map] at hd1
    obtain ⟨⟨h, j, b⟩, hp1, rfl⟩ := Option.map_eq_some_iff.mp hd1
    obtain ⟨t, x1, y1, z1, rfl, ht, hx1, hy1, hz1⟩ := dp_tup3 hd2
    have hx1 := dp_int hx1
    have hy1 := dp_int hy1
    have hz1 := dp_bool hz1
    subst hx1 hy1 hz1
    show gName 17 _ [some (.ref s), some (.ref bl), some (.ref kl), some (.ref b1.a), some (.ref b2.a), some (.int (n : Nat)), none, some (.ref D), some (.ref pl), some (.ref lk), some (.int (digs n : Nat)), none, none, none, none, none, none, none] _ _
    walk_at "s"
    refine ⟨rfl, ?_⟩
    walk_at "s"
    refine iteT ?_
    walk_at "s"
    refine w_slT (sqt_ex e ht) (show ¬ (HT.sIx 3 0 none = 0 ∧ HT.sIx 3 3 (some 2) = 3) by decide) fun p hp => ?_
    have np : D5 ≠ p := ne_of_none hk1 hp
    have kl := congrArg List.length hk2
    rw [List.length_map, List.length_map, List.length_take] at kl
    refine ⟨_, by rw [upd_ne np]; exact hk1, by rw [List.length_map]; exact szL (by omega), ex_mut (ex_new e hp) hD5, ks ++ [(p, blockL (h, j, b))], by rw [upd_same, List.map_append]; rfl, by rw [List.map_append, hk2, take_at hp1, List.map_append]; rfl, fun z hz => ?_⟩
    rcases List.mem_append.mp hz with hz | hz
    · have h3 := hk3 z hz
      rw [upd_ne (ne_of h3 hk1 fun w => nomatch w), upd_ne (ne_of_none h3 hp)]
      exact h3
    · rw [List.mem_singleton.mp hz]
      show upd (upd H' p _) D5 _ p = _
      rw [upd_ne (Ne.symm np), upd_same]
      rfl
  rintro H5 ⟨e5, ks, hk1, hk2, hk3⟩
  rw [hyl, List.take_length] at hk2
  have kl5 : ks.length = ds.length := by
    have := congrArg List.length hk2
    rw [List.length_map, List.length_map] at this
    exact this
  refine ⟨D5, ks, rfl, sql hk1, fun p hp => sqt (hk3 p hp), by omega, by rw [hk2]; exact blocks_nd and_, ?_⟩
  walk_at "s"
  refine w_lenL (sql (e5 _ _ hy4)) ?_
  rw [hyl]
  walk_at "s"
  rw [decide_eq_true (by omega)]
  have tb5 := e5 _ _ tb4
  have o1 := e5 _ _ o1
  have o2 := e5 _ _ o2
  have TB5 := TB4.ex e5
  have hD5' := e5 _ _ hD4
  have hy5 := e5 _ _ hy4
  have dy := dpAll_mono e5 dy
  clear TB4 tb4 hD4 hy4 e5 hk1 hk2 hk3 hD5
  refine iteF ?_
  walk_at "s"
  -- the places that the alike blocks have
  refine w_dnew fun p hp => ?_
  walk_at "s"
  refine w_iLv (sql (ex_new ex_refl hp _ _ hy5)) (lb_list (K := K) (xs := ys) (fun i σ H' => ∃ v6 v12 v13 v14 v15, σ = [some (.ref s), some (.ref bl), some (.ref kl), some (.ref b1.a), some (.ref b2.a), some (.int (n : Nat)), v6, some (.ref D), some (.ref pl), some (.ref lk), some (.int (digs n : Nat)), some (.ref p), v12, v13, v14, v15, none, none] ∧
      Ex H5 H' ∧ H' p = some (.dK (kdV (cov (ds.take i))))) ⟨_, _, _, _, _, rfl, ex_new ex_refl hp, upd_same⟩ ?_ ?_ ?_)
  · rintro i σ H' _ ⟨_, _, _, _, _, _, e, _⟩
    exact sql (e _ _ hy5)
  · rintro i x σ H6 hi ⟨v6, v12, v13, v14, v15, rfl, e6, hk⟩
    obtain ⟨dd, hd1, hd2⟩ := dpAll_get dy hi
    rw [List.getElem?_map] at hd1
    obtain ⟨⟨h, j, b⟩, hp1, rfl⟩ := Option.map_eq_some_iff.mp hd1
    obtain ⟨t, x1, y1, z1, rfl, ht, hx1, hy1, hz1⟩ := dp_tup3 hd2
    have hx1 := dp_int hx1
    have hy1 := dp_int hy1
    have hz1 := dp_bool hz1
    subst hx1 hy1 hz1
    obtain ⟨w1, w2, w3⟩ := aok _ (List.mem_of_getElem? hp1)
    simp only at w1 w2 w3
    have hp60 : 2 ^ h ≤ 2 ^ 60 := Nat.pow_le_pow_right (by decide) (by omega)
    have mul : (j : Int) * ((2 ^ h : Nat) : Int) = ((j * 2 ^ h : Nat) : Int) := by push_cast; rfl
    have add2 : (j + 1) * 2 ^ h = j * 2 ^ h + 2 ^ h := by rw [Nat.add_mul, Nat.one_mul]
    have nxt := cov_next hp1
    have pp := Nat.two_pow_pos h
    refine w_gTup (sqt_ex e6 ht) rfl ?_
    walk_at "s"
    refine ite_b (fun hb => ?_) fun hb => ?_
    · subst hb
      rw [if_pos rfl] at nxt
      have new := cov_take hp1 (by rw [acov]; exact sames_rise)
      have few := cov_most hp1
      have cl := sames_len (r1 := b1.rows) (r2 := b2.rows) (a := 0) (b := n)
      rw [← acov] at cl
      walk_at "s"
      refine ⟨h, rfl, by omega, ?_⟩
      walk_at "s"
      try refine w_mul (cmul_nat hp60) ?_
      rw [mul]
      walk_at "s"
      try refine w_mul (cmul_nat hp60) ?_
      try rw [mul]
      walk_at "s"
      refine w_iR2v ⟨by omega, by omega, by omega, by omega⟩ ?_
      rw [show (((j * 2 ^ h : Nat) : Int) + ((2 ^ h : Nat) : Int) - ((j * 2 ^ h : Nat) : Int)).toNat = 2 ^ h by omega]
      refine lb_range (fun k σ H' => ∃ v6, σ = [some (.ref s), some (.ref bl), some (.ref kl), some (.ref b1.a), some (.ref b2.a), some (.int (n : Nat)), v6, some (.ref D), some (.ref pl), some (.ref lk), some (.int (digs n : Nat)), some (.ref p), some (.int (h : Nat)), some (.int (j : Nat)), some (.bl true), some (.int ((2 ^ h : Nat) : Int)), none, none] ∧
        Ex H5 H' ∧ H' p = some (.dK (kdV (cov (ds.take i) ++ List.range' (j * 2 ^ h) k)))) ⟨_, rfl, e6, by rw [List.range'_zero, List.append_nil]; exact hk⟩ ?_ ?_
      · rintro k σ H7 hk2 ⟨v6, rfl, e7, hk⟩
        rw [show ((j * 2 ^ h : Nat) : Int) + ((k : Nat) : Int) = ((j * 2 ^ h + k : Nat) : Int) by omega]
        walk_at "s"
        refine w_dput ?_
        walk_at "s"
        have fw := few k (by omega)
        refine ⟨p, _, rfl, DPut.k (k := Sum.inl ((j * 2 ^ h + k : Nat) : Int)) hk (by rw [kdV_len]; exact szL (by omega)), ?_⟩
        refine ⟨_, rfl, ex_mut e7 hp, ?_⟩
        rw [upd_same, kdV_put (new k hk2), range_snoc, List.append_assoc]
      · rintro σ H7 ⟨v6, rfl, e7, hk⟩
        rw [← nxt] at hk
        exact ⟨_, _, _, _, _, rfl, e7, hk⟩
    · subst hb
      rw [if_neg Bool.false_ne_true, List.append_nil] at nxt
      walk_at "s"
      rw [← nxt] at hk
      exact ⟨_, _, _, _, _, rfl, e6, hk⟩
  rintro σ H6 ⟨v6, v12, v13, v14, v15, rfl, e6, hk⟩
  rw [hyl, List.take_length, acov] at hk
  have tb6 := e6 _ _ tb5
  have o1 := e6 _ _ o1
  have o2 := e6 _ _ o2
  have TB6 := TB5.ex e6
  have hD6 := e6 _ _ hD5'
  clear TB5 tb5 hD5' hy5 dy e6 hp
  walk_at "s"
  refine w_sortDK hk (kdV_keys _) fun ns' p7 pm pw hp7 => ?_
  rw [sorted_rise sames_rise pm pw]
  have e7 := ex_new (o := .lst (numsV (sames b1.rows b2.rows 0 n))) ex_refl hp7
  have g7 : (upd H6 p7 (.lst (numsV (sames b1.rows b2.rows 0 n)))) p7 = some (.lst (numsV (sames b1.rows b2.rows 0 n))) := upd_same
  generalize upd H6 p7 (.lst (numsV (sames b1.rows b2.rows 0 n))) = H7 at e7 g7
  walk_at "s"
  refine ⟨((n : Nat) : Int), rfl, by omega, by omega, fun D8 hD8 => ?_⟩
  rw [Int.toNat_natCast]
  refine lcb_range (fun i H' => Ex H7 H' ∧ H' D8 = some (.lst (numsV (sames b1.rows b2.rows 0 i)))) ⟨ex_new ex_refl hD8, upd_same⟩ ?_ ?_
  · rintro i H' hi ⟨e, hD'⟩
    show gName 6 _ [some (.ref s), some (.ref bl), some (.ref kl), some (.ref b1.a), some (.ref b2.a), some (.int (n : Nat)), none, some (.ref D), some (.ref pl), some (.ref lk), some (.int (digs n : Nat)), some (.ref p), v12, v13, v14, v15, none, none] _ _
    have dl := sames_len (r1 := b1.rows) (r2 := b2.rows) (a := 0) (b := i)
    walk_at "s"
    refine ⟨rfl, ?_⟩
    walk_at "s"
    refine ⟨D, _, rfl, .inl (sql_ex e (sql (e7 _ _ hD6))), rfl, numsV_flat _, ?_⟩
    rw [if_pos rfl, numsV_in]
    walk_at "s"
    refine ite_nd (fun h0 => ?_) fun h0 => ?_
    · rw [← hdu, diffs_mem] at h0
      have h0 : b1.rows[i]? = b2.rows[i]? := Classical.not_not.mp fun z => h0 ⟨hi, z⟩
      walk_at "s"
      refine ⟨_, hD', by rw [numsV_len]; exact szL (by omega), ex_mut e hD8, ?_⟩
      rw [upd_same, sames_snoc, if_pos h0, numsV_app]
      rfl
    · rw [← hdu, diffs_mem] at h0
      refine ⟨e, ?_⟩
      rw [hD', sames_snoc, if_neg h0.2, List.append_nil]
  rintro H8 ⟨e8, hD8'⟩
  refine w_neD (d := (eList eNat).enc (sames b1.rows b2.rows 0 n)) (e := (eList eNat).enc (sames b1.rows b2.rows 0 n)) (.lst (sql (e8 _ _ g7)) (numsV_dp _)) (.lst (sql hD8') (numsV_dp _)) (natsh _) (natsh _) ?_
  rw [(eList eNat).eq, decide_eq_true rfl]
  have e8 := e7.trans e8
  have tb8 := e8 _ _ tb6
  have o1 := e8 _ _ o1
  have o2 := e8 _ _ o2
  have TB8 := TB6.ex e8
  have hD9 := e8 _ _ hD6
  clear TB6 tb6 hD6 e8 e7 g7 hD8' hD8 hk hp7
  walk_at "s"
  refine iteF ?_
  walk_at "s"
  -- the first of them
  refine w_ixL (v := .ref b1.B) (sql tb8) rfl ?_
  walk_at "s"
  refine w_ixL (v := .ref b2.B) (sql tb8) rfl ?_
  walk_at "s"
  refine ask_one rfl rfl TB8 fun H9 t9 lk9 F => ?_
  walk_at "s"
  refine w_ixT (v := plV (firstR b1.rows b2.rows).2) (sqt F.ht) rfl ?_
  have e9 := F.ex'
  have o1 := e9 _ _ o1
  have o2 := e9 _ _ o2
  have hD9 := e9 _ _ hD9
  rw [ffirst]
  clear TB8 tb8 F e9
  walk_at "s"
  refine ⟨Nat.zero_le _, fun pe hpe => ?_⟩
  have ea := ex_new (o := .lst []) ex_refl hpe
  have ga : (upd H9 pe (.lst [])) pe = some (.lst []) := upd_same
  generalize upd H9 pe (.lst []) = Ha at ea ga
  refine w_neD (d := (eList eNat).enc du) (e := (eList eNat).enc []) (.lst (sql (ea _ _ hD9)) (numsV_dp _)) (.lst (sql ga) .nil) (natsh _) (natsh _) ?_
  rw [(eList eNat).eq]
  walk_at "s"
  cases du with
  | cons pf rest =>
    rw [decide_eq_false (by simp)]
    refine iteT ?_
    walk_at "s"
    refine w_ixL (v := .int (pf : Nat)) (sql (ea _ _ hD9)) (atI_nat (j := 0) rfl) ?_
    refine w_eqD (dp_plV (some pf)) (dp_plV (some pf)) (encO_sh _) (encO_sh _) ?_
    rw [encO.eq, decide_eq_true rfl]
    exact q _
  | nil =>
    rw [decide_eq_true rfl]
    refine iteF ?_
    walk_at "s"
    refine ⟨by show 2 ≤ sizeLine; exact sz100 (by decide), fun pg hpg => ?_⟩
    have eb := ex_new (o := .lst [.int (n : Nat), .non]) ea hpg
    have gb : (upd Ha pg (.lst [.int (n : Nat), .non])) pg = some (.lst [.int (n : Nat), .non]) := upd_same
    generalize upd Ha pg (.lst [.int (n : Nat), .non]) = Hb at eb gb
    walk_at "s"
    refine w_lenL (sql (eb _ _ o1)) ?_
    rw [List.length_map]
    walk_at "s"
    refine w_lenL (sql (eb _ _ o2)) ?_
    rw [List.length_map]
    walk_at "s"
    by_cases z : b1.rows.length = b2.rows.length
    · rw [decide_eq_true (by omega), if_pos rfl, if_pos z]
      refine w_ixL (v := .non) (sql gb) rfl ?_
      refine w_eqD (dp_plV none) (dp_plV none) (encO_sh _) (encO_sh _) ?_
      rw [encO.eq, decide_eq_true rfl]
      exact q _
    · rw [decide_eq_false (by omega), if_neg Bool.false_ne_true, if_neg z]
      refine w_ixL (v := .int (n : Nat)) (sql gb) rfl ?_
      refine w_eqD (dp_plV (some n)) (dp_plV (some n)) (encO_sh _) (encO_sh _) ?_
      rw [encO.eq, decide_eq_true rfl]
      exact q _
end Tw

namespace Tw
open PySem PySem.Spec PyProof.Rows L2 Ts
def topS (i : Nat) : Stmt := PySem.Challenge.pw_twinsum_k08_whole_all_by_looks.main.body.getD i (.Pass ⟨0, 0, 0, 0⟩)
structure BM (mg : Str → Option Value) : Prop where
  bool : mg "bool" = none
  int : mg "int" = none
  isinstance : mg "isinstance" = none
  len : mg "len" = none
  list : mg "list" = none
  max : mg "max" = none
  min : mg "min" = none
  range : mg "range" = none
  set : mg "set" = none
  sorted : mg "sorted" = none
  str : mg "str" = none
  MOST_ROWS : ∃ t, mg "MOST_ROWS" = some (.int 1024 t)
  MOST_SIGNS : ∃ t, mg "MOST_SIGNS" = some (.int 40 t)
  SIGNS : ∃ t, mg "SIGNS" = some (.str "abcdefghijklmnopqrstuvwxyz0123456789 " t)
section
variable {P : Program} {w : World} {K : PySem.W.Frag} {mg : Str → Option Value} {base : Heap} {c : Cs}
abbrev s_Ledger_init : Stmt := inClass (topS 22) 0
theorem sc_Ledger_init : FnScope N_Ledger_init ["self"] (defScope s_Ledger_init) := ⟨rfl, rfl, rfl, by decide +kernel, rfl, by decide +kernel, by decide +kernel⟩
theorem ok_Ledger_init (M : BM mg) (T : TxK K c) (F : IniG K mg c.Ledger "Ledger" "Ledger.__init__" s_Ledger_init ["self"]) (D : c.md = MD P w) : MkG P w K mg base 1 c.Ledger "Ledger" ["self"] (sp_Ledger_init K c) := by
  refine F.ok sc_Ledger_init len_Ledger_init (fun f cdv A outer s H vs Q E hr h => ⟨t_Ledger_init K c E, ?_, pure_Ledger_init T h⟩)
  exact (pss_cons (ps_fld (pv 0) (pe_mnew D) rfl)
  (pss_one (ps_fld (pv 0) (pe_lst pa_nil) rfl)))
abbrev s_law_mix : Stmt := topS 29
theorem sc_law_mix : FnScope N_law_mix ["_law_number", "_law_k"] (defScope s_law_mix) := ⟨rfl, rfl, rfl, by decide +kernel, rfl, by decide +kernel, by decide +kernel⟩
theorem ok_law_mix (M : BM mg) (T : TxK K c) (F : FunG K mg "_law_mix" s_law_mix ["_law_number", "_law_k"]) (D : c.md = MD P w) : FnG P w K mg base 1 "_law_mix" ["_law_number", "_law_k"] (sp_law_mix K c) := by
  refine F.ok sc_law_mix len_law_mix (fun f cdv A outer s H vs Q E hr h => ⟨t_law_mix K c E, ?_, pure_law_mix h⟩)
  exact (pss_cons (ps_set (i := 2) sc_law_mix.nd rfl (Or.inl rfl) (pe_op op_mod1 (pe_op op_addU (pe_op op_addU (pe_op op_mul1 (pv 0) pe_int) (pe_op op_mul1 (pv 1) pe_int)) pe_int) pe_int))
  (pss_one (ps_ret (pe_op op_mod1 (pe_op op_addU (pe_op op_addU (pe_op op_mul1 (pv 2) (pv 2)) (pe_op op_mul1 pe_int (pv 2))) (pv 1)) pe_int))))
abbrev s_law_text : Stmt := topS 30
theorem sc_law_text : FnScope N_law_text ["_law_cell"] (defScope s_law_text) := ⟨rfl, rfl, rfl, by decide +kernel, rfl, by decide +kernel, by decide +kernel⟩
theorem ok_law_text (M : BM mg) (T : TxK K c) (F : FunG K mg "_law_text" s_law_text ["_law_cell"]) (D : c.md = MD P w) (G_law_mix : FnG P w K mg base 1 "_law_mix" ["_law_number", "_law_k"] (sp_law_mix K c)) : FnG P w K mg base 2 "_law_text" ["_law_cell"] (sp_law_text K c) := by
  refine F.ok sc_law_text len_law_text (fun f cdv A outer s H vs Q E hr h => ⟨t_law_text K c E, ?_, pure_law_text h⟩)
  exact (pss_cons (ps_set (i := 1) sc_law_text.nd rfl (Or.inl rfl) pe_str)
  (pss_cons (ps_set (i := 2) sc_law_text.nd rfl (Or.inl rfl) (pe_op op_mod1 (pv 0) pe_int))
  (pss_cons (ps_if (pt_cmpR (op_eqU hr.units) (pe_op op_mod1 (pe_op op_div1 (pv 0) pe_int) pe_int) pe_int (nomark _)) (pss_one (ps_ret (pe_op op_addU (pe_op op_addU (pe_callTy call_str1 (by rfl) M.str (by decide +kernel) (pa_cons (pe_op op_mod1 (pe_op op_div1 (pv 0) pe_int) pe_int) pa_nil)) (pe_ix ix_seq (pe_lst (pa_cons pe_str (pa_cons pe_str pa_nil))) (pe_op op_mod1 (pe_op op_div1 (pv 0) pe_int) pe_int) (fun _ _ => rfl))) (pe_callTy call_str1 (by rfl) M.str (by decide +kernel) (pa_cons (pe_op op_mod1 (pe_op op_div1 (pv 0) pe_int) pe_int) pa_nil))))) pss_nil)
  (Evl.pss_cut (ps_if (pt_cmpR (op_eqU hr.units) (pe_op op_mod1 (pe_op op_div1 (pv 0) pe_int) pe_int) pe_int (nomark _)) (pss_one (ps_set (i := 2) sc_law_text.nd rfl (Or.inl rfl) (pe_ix ix_seq (pe_lst (pa_cons pe_int (pa_cons pe_int (pa_cons pe_int (pa_cons pe_int pa_nil))))) (pe_op op_mod1 (pe_op op_div1 (pv 0) pe_int) pe_int) (fun _ _ => rfl)))) pss_nil) (pss_cons (ps_set (i := 3) sc_law_text.nd rfl (Or.inl rfl) pe_str)
  (pss_cons (ps_for (passes_of rfl) rfl (pi_range1 (by rfl) M.range (pa_cons (pv 2) pa_nil)) (pg_name (i := 4) sc_law_text.nd rfl (Or.inl rfl)) (pss_one (ps_set (i := 3) sc_law_text.nd rfl (Or.inl rfl) (pe_op op_addU (pv 3) (pe_ix ix_seq (pv 1) (pe_op op_mod1 (pe_op op_div1 (pe_callG (E := E0) G_law_mix (hr.mono (by decide)) passL (by exact (pa_cons (pv 0) (pa_cons (pv 4) pa_nil)))) pe_int) pe_int) (fun _ _ => rfl))))))
  (pss_one (ps_ret (pv 3)))))))))
abbrev s_law_rows : Stmt := topS 32
theorem sc_law_rows : FnScope N_law_rows ["_law_cell", "_law_more"] (defScope s_law_rows) := ⟨rfl, rfl, rfl, by decide +kernel, rfl, by decide +kernel, by decide +kernel⟩
theorem ok_law_rows (M : BM mg) (T : TxK K c) (F : FunG K mg "_law_rows" s_law_rows ["_law_cell", "_law_more"]) (D : c.md = MD P w) (G_law_text : FnG P w K mg base 2 "_law_text" ["_law_cell"] (sp_law_text K c)) (G_law_mix : FnG P w K mg base 1 "_law_mix" ["_law_number", "_law_k"] (sp_law_mix K c)) : FnG P w K mg base 3 "_law_rows" ["_law_cell", "_law_more"] (sp_law_rows K c) := by
  refine F.ok sc_law_rows len_law_rows (fun f cdv A outer s H vs Q E hr h => ⟨t_law_rows K c E, ?_, pure_law_rows h⟩)
  exact (pss_cons (ps_set (i := 2) sc_law_rows.nd rfl (Or.inl rfl) (pe_op op_mod1 (pv 0) pe_int))
  (Evl.pss_cut (ps_if (pt_cmpR (op_eqU hr.units) (pe_op op_mod1 (pe_op op_div1 (pv 0) pe_int) pe_int) pe_int (nomark _)) (pss_one (ps_set (i := 2) sc_law_rows.nd rfl (Or.inl rfl) (pe_ix ix_seq (pe_lst (pa_cons pe_int (pa_cons pe_int (pa_cons pe_int (pa_cons pe_int (pa_cons pe_int (pa_cons pe_int (pa_cons pe_int (pa_cons pe_int (pa_cons pe_int (pa_cons pe_int (pa_cons pe_int (pa_cons pe_int pa_nil))))))))))))) (pe_op op_mod1 (pe_op op_div1 (pv 0) pe_int) pe_int) (fun _ _ => rfl)))) pss_nil) (pss_cons (ps_set (i := 3) sc_law_rows.nd rfl (Or.inl rfl) (pe_op op_addU pe_int (pe_op op_mod1 (pv 1) pe_int)))
  (pss_cons (ps_set (i := 4) sc_law_rows.nd rfl (Or.inl rfl) (pe_lst pa_nil))
  (pss_cons (ps_for (passes_of rfl) rfl (pi_range1 (by rfl) M.range (pa_cons (pv 2) pa_nil)) (pg_name (i := 5) sc_law_rows.nd rfl (Or.inl rfl)) (pss_one (ps_expr (pe_bm PySem.F.plainAttrs_list PySem.F.slot_list_append PySem.F.type_list_append mt_append (pv 4) (pa_cons (pe_callG (E := E0) G_law_text (hr.mono (by decide)) passL (by exact (pa_cons (pe_op op_mod1 (pe_op op_div1 (pe_callG (E := E0) G_law_mix (hr.mono (by decide)) passL (by exact (pa_cons (pv 1) (pa_cons (pv 5) pa_nil)))) pe_int) (pe_ix ix_seq (pe_lst (pa_cons (pv 3) (pa_cons pe_int pa_nil))) (pe_op op_div1 (pe_op op_mod1 (pv 5) pe_int) pe_int) (fun _ _ => rfl))) pa_nil))) pa_nil)))))
  (pss_one (ps_ret (pv 4))))))))
abbrev s_law_near : Stmt := topS 31
theorem sc_law_near : FnScope N_law_near ["_law_text_here", "_law_cell"] (defScope s_law_near) := ⟨rfl, rfl, rfl, by decide +kernel, rfl, by decide +kernel, by decide +kernel⟩
theorem ok_law_near (M : BM mg) (T : TxK K c) (F : FunG K mg "_law_near" s_law_near ["_law_text_here", "_law_cell"]) (D : c.md = MD P w) : FnG P w K mg base 1 "_law_near" ["_law_text_here", "_law_cell"] (sp_law_near K c) := by
  refine F.ok sc_law_near len_law_near (fun f cdv A outer s H vs Q E hr h => ⟨t_law_near K c E, ?_, pure_law_near h⟩)
  exact (pss_cons (ps_set (i := 2) sc_law_near.nd rfl (Or.inl rfl) (pe_op op_mod1 (pv 1) (pe_op op_addU pe_int (pe_callB call_len1 (by rfl) M.len (by decide +kernel) (pa_cons (pv 0) pa_nil)))))
  (pss_cons (ps_set (i := 3) sc_law_near.nd rfl (Or.inl rfl) (pe_ix ix_seq pe_str (pe_op op_mod1 (pe_op op_div1 (pv 1) pe_int) pe_int) (fun _ _ => rfl)))
  (pss_cons (ps_if (PW.pt (pw_and (pt_cmpR op_lt1 (pv 2) (pe_callB call_len1 (by rfl) M.len (by decide +kernel) (pa_cons (pv 0) pa_nil)) (nomark _)) (pw_and1 (pt_cmpR (op_neU hr.units) (pe_ix ix_seq (pv 0) (pv 2) (fun _ _ => rfl)) (pv 3) (nomark _))))) (pss_one (ps_ret (pe_op op_addU (pe_op op_addU (pe_slice sl_U (pv 0) po_none (po_some (pv 2))) (pv 3)) (pe_slice sl_U (pv 0) (po_some (pe_op op_addU (pv 2) pe_int)) po_none)))) pss_nil)
  (pss_cons (ps_if (pt_cmpR op_lt1 (pe_callB call_len1 (by rfl) M.len (by decide +kernel) (pa_cons (pv 0) pa_nil)) pe_int (nomark _)) (pss_one (ps_ret (pe_op op_addU (pe_op op_addU (pe_slice sl_U (pv 0) po_none (po_some (pv 2))) (pv 3)) (pe_slice sl_U (pv 0) (po_some (pv 2)) po_none)))) pss_nil)
  (pss_one (ps_ret (pe_slice sl_U (pv 0) (po_some pe_int) po_none)))))))
abbrev s_law_twin : Stmt := topS 33
theorem sc_law_twin : FnScope N_law_twin ["_law_rows_here", "_law_cell"] (defScope s_law_twin) := ⟨rfl, rfl, rfl, by decide +kernel, rfl, by decide +kernel, by decide +kernel⟩
theorem ok_law_twin (M : BM mg) (T : TxK K c) (F : FunG K mg "_law_twin" s_law_twin ["_law_rows_here", "_law_cell"]) (D : c.md = MD P w) (G_law_near : FnG P w K mg base 1 "_law_near" ["_law_text_here", "_law_cell"] (sp_law_near K c)) (G_law_mix : FnG P w K mg base 1 "_law_mix" ["_law_number", "_law_k"] (sp_law_mix K c)) (G_law_text : FnG P w K mg base 2 "_law_text" ["_law_cell"] (sp_law_text K c)) : FnG P w K mg base 3 "_law_twin" ["_law_rows_here", "_law_cell"] (sp_law_twin K c) := by
  refine F.ok sc_law_twin len_law_twin (fun f cdv A outer s H vs Q E hr h => ⟨t_law_twin K c E, ?_, pure_law_twin h⟩)
  exact (pss_cons (ps_set (i := 2) sc_law_twin.nd rfl (Or.inl rfl) (pe_callTy call_list1 (by rfl) M.list (by decide +kernel) (pa_cons (pv 0) pa_nil)))
  (pss_cons (ps_for (passes_of rfl) rfl (pi_range1 (by rfl) M.range (pa_cons (pe_ix ix_seq (pe_lst (pa_cons pe_int (pa_cons pe_int (pa_cons pe_int (pa_cons pe_int (pa_cons pe_int pa_nil)))))) (pe_op op_mod1 (pv 1) pe_int) (fun _ _ => rfl)) pa_nil)) (pg_name (i := 3) sc_law_twin.nd rfl (Or.inl rfl)) (pss_one (ps_if (pt_cmpR op_gt1 (pe_callB call_len1 (by rfl) M.len (by decide +kernel) (pa_cons (pv 2) pa_nil)) pe_int (nomark _)) (pss_cons (ps_set (i := 4) sc_law_twin.nd rfl (Or.inl rfl) (pe_op op_mod1 (pe_callG (E := E0) G_law_mix (hr.mono (by decide)) passL (by exact (pa_cons (pv 1) (pa_cons (pe_op op_addU pe_int (pv 3)) pa_nil)))) (pe_callB call_len1 (by rfl) M.len (by decide +kernel) (pa_cons (pv 2) pa_nil))))
  (Evl.pss_cut (ps_if (pt_cmpR (op_eqU hr.units) (pe_op op_mod1 (pe_callG (E := E0) G_law_mix (hr.mono (by decide)) passL (by exact (pa_cons (pv 1) (pa_cons (pe_op op_addU pe_int (pv 3)) pa_nil)))) pe_int) pe_int (nomark _)) (pss_one (ps_set (i := 4) sc_law_twin.nd rfl (Or.inl rfl) (pe_ix ix_seq (pe_lst (pa_cons pe_int (pa_cons (pe_op op_sub1 (pe_callB call_len1 (by rfl) M.len (by decide +kernel) (pa_cons (pv 2) pa_nil)) pe_int) (pa_cons (pe_op op_div1 (pe_callB call_len1 (by rfl) M.len (by decide +kernel) (pa_cons (pv 2) pa_nil)) pe_int) pa_nil)))) (pe_op op_mod1 (pe_callG (E := E0) G_law_mix (hr.mono (by decide)) passL (by exact (pa_cons (pv 1) (pa_cons (pe_op op_addU pe_int (pv 3)) pa_nil)))) pe_int) (fun _ _ => rfl)))) pss_nil) (pss_one (ps_asg (pe_callG (E := E0) G_law_near (hr.mono (by decide)) passL (by exact (pa_cons (pe_ix ix_seq (pv 2) (pv 4) (fun _ _ => rfl)) (pa_cons (pe_callG (E := E0) G_law_mix (hr.mono (by decide)) passL (by exact (pa_cons (pv 1) (pa_cons (pe_op op_addU pe_int (pv 3)) pa_nil)))) pa_nil)))) (pg_sub (pv 2) (pv 4) set_list))))) pss_nil)))
  (pss_cons (ps_set (i := 5) sc_law_twin.nd rfl (Or.inl rfl) (pe_op op_mod1 (pe_op op_div1 (pv 1) pe_int) pe_int))
  (Evl.pss_cut (ps_if (pt_cmpR (op_eqU hr.units) (pv 5) pe_int (nomark _)) (pss_one (ps_set (i := 2) sc_law_twin.nd rfl (Or.inl rfl) (pe_slice sl_U (pv 2) po_none (po_some (pe_op op_mod1 (pe_callG (E := E0) G_law_mix (hr.mono (by decide)) passL (by exact (pa_cons (pv 1) (pa_cons pe_int pa_nil)))) (pe_op op_addU pe_int (pe_callB call_len1 (by rfl) M.len (by decide +kernel) (pa_cons (pv 2) pa_nil)))))))) pss_nil) (Evl.pss_cut (ps_if (pt_cmpR (op_eqU hr.units) (pv 5) pe_int (nomark _)) (pss_one (ps_set (i := 2) sc_law_twin.nd rfl (Or.inl rfl) (pe_op op_addU (pv 2) (pe_lc (own := [("_law_k", 3)]) (g := (gName 3)) (tt := tYes) rfl sc_law_twin.nd (pi_range1 (by rfl) M.range (pa_cons (pe_op op_addU pe_int (pe_op op_mod1 (pe_callG (E := E0) G_law_mix (hr.mono (by decide)) passL (by exact (pa_cons (pv 1) (pa_cons pe_int pa_nil)))) pe_int)) pa_nil)) (blkOk_by (N := N_law_twin) (sc := defScope s_law_twin) (by decide +kernel)) (fun _ _ _ _ _ => (pg_name (i := 3) sc_law_twin.nd rfl (Or.inl rfl))) (fun _ _ _ _ _ => pts_nil) (fun _ _ _ _ _ => (by exact (pe_callG (E := E0) G_law_text (hr.mono (by decide)) passL (by exact (pa_cons (pe_callG (E := E0) G_law_mix (hr.mono (by decide)) passL (by exact (pa_cons (pv 1) (pa_cons (pe_op op_addU pe_int (pv 3)) pa_nil)))) pa_nil))))))))) pss_nil) (Evl.pss_cut (ps_if (pt_cmpR (op_eqU hr.units) (pv 5) pe_int (nomark _)) (pss_one (ps_set (i := 2) sc_law_twin.nd rfl (Or.inl rfl) (pe_slice sl_U (pv 2) po_none (po_some (pe_un un_neg pe_int))))) pss_nil) (pss_one (ps_ret (pv 2)))))))))
abbrev s_law_cell_at : Stmt := topS 27
theorem sc_law_cell_at : FnScope N_law_cell_at ["_law_script", "_law_k"] (defScope s_law_cell_at) := ⟨rfl, rfl, rfl, by decide +kernel, rfl, by decide +kernel, by decide +kernel⟩
theorem ok_law_cell_at (M : BM mg) (T : TxK K c) (F : FunG K mg "_law_cell_at" s_law_cell_at ["_law_script", "_law_k"]) (D : c.md = MD P w) : FnG P w K mg base 1 "_law_cell_at" ["_law_script", "_law_k"] (sp_law_cell_at K c) := by
  refine F.ok sc_law_cell_at len_law_cell_at (fun f cdv A outer s H vs Q E hr h => ⟨t_law_cell_at K c E, ?_, pure_law_cell_at h⟩)
  exact (pss_cons (ps_if (pt_cmpR op_lt1 (pv 1) (pe_callB call_len1 (by rfl) M.len (by decide +kernel) (pa_cons (pv 0) pa_nil)) (nomark _)) (pss_one (ps_ret (pe_ix ix_seq (pv 0) (pv 1) (fun _ _ => rfl)))) pss_nil)
  (pss_one (ps_ret pe_int)))
abbrev s_is_row : Stmt := topS 20
theorem sc_is_row : FnScope N_is_row ["thing"] (defScope s_is_row) := ⟨rfl, rfl, rfl, by decide +kernel, rfl, by decide +kernel, by decide +kernel⟩
theorem ok_is_row (M : BM mg) (T : TxK K c) (F : FunG K mg "is_row" s_is_row ["thing"]) (D : c.md = MD P w) : FnG P w K mg base 1 "is_row" ["thing"] (sp_is_row K c) := by
  refine F.ok sc_is_row len_is_row (fun f cdv A outer s H vs Q E hr h => ⟨t_is_row K c E, ?_, pure_is_row h⟩)
  exact (pss_cons (ps_if (PW.pt (pw_or (pt_not (pt_val (pe_callB call_isi (by rfl) M.isinstance (by decide +kernel) (pa_cons (pv 0) (pa_cons (pe_bltn (v := .ty "str") (by rfl) M.str (by decide +kernel) rfl) pa_nil))))) (pw_or1 (pt_cmpR op_gt1 (pe_callB call_len1 (by rfl) M.len (by decide +kernel) (pa_cons (pv 0) pa_nil)) (pe_glob (by rfl) M.MOST_SIGNS.choose_spec ⟨_, rfl⟩) (nomark _))))) (pss_one (ps_ret pe_bl)) pss_nil)
  (pss_cons (ps_for (passes_of rfl) rfl (pi_str (pv 0)) (pg_name (i := 1) sc_is_row.nd rfl (Or.inl rfl)) (pss_one (ps_if (pt_cmpR op_notInS1 (pv 1) (pe_glob (by rfl) M.SIGNS.choose_spec ⟨_, rfl⟩) (by rfl)) (pss_one (ps_ret pe_bl)) pss_nil)))
  (pss_one (ps_ret pe_bl))))
abbrev s_sure_row : Stmt := topS 21
theorem sc_sure_row : FnScope N_sure_row ["thing"] (defScope s_sure_row) := ⟨rfl, rfl, rfl, by decide +kernel, rfl, by decide +kernel, by decide +kernel⟩
theorem ok_sure_row (M : BM mg) (T : TxK K c) (F : FunG K mg "sure_row" s_sure_row ["thing"]) (D : c.md = MD P w) (X_NoRow : ExcT K mg "NoRow" c.NoRow) (G_is_row : FnG P w K mg base 1 "is_row" ["thing"] (sp_is_row K c)) : FnG P w K mg base 2 "sure_row" ["thing"] (sp_sure_row K c) := by
  refine F.ok sc_sure_row len_sure_row (fun f cdv A outer s H vs Q E hr h => ⟨t_sure_row K c E, ?_, pure_sure_row h⟩)
  exact (pss_one (ps_if (pt_not (pt_val (pe_callG (E := E) G_is_row (hr.mono (by decide)) (passE (takes_of rfl rfl rfl rfl)) (by exact (pa_cons (pv 0) pa_nil))))) (pss_one (ps_raiseG X_NoRow rfl (takes_of rfl rfl rfl rfl))) pss_nil))
abbrev s_Ledger_number_of : Stmt := inClass (topS 22) 1
theorem sc_Ledger_number_of : FnScope N_Ledger_number_of ["self", "thing"] (defScope s_Ledger_number_of) := ⟨rfl, rfl, rfl, by decide +kernel, rfl, by decide +kernel, by decide +kernel⟩
theorem ok_Ledger_number_of (M : BM mg) (T : TxK K c) (F : MetG K c.Ledger "number_of" "Ledger.number_of" s_Ledger_number_of ["self", "thing"]) (D : c.md = MD P w) : MtG P w K mg base 1 c.Ledger "number_of" ["self", "thing"] (sp_Ledger_number_of K c) := by
  refine F.ok sc_Ledger_number_of len_Ledger_number_of (fun f cdv A outer s H vs Q E hr h => ⟨t_Ledger_number_of K c E, ?_, pure_Ledger_number_of T h⟩)
  exact (pss_cons (ps_if (pt_cmp (pc_mnotin D (hu_of hr) (pv 1) (pe_fld (pv 0) rfl))) (pss_cons (ps_mput D (hu_of hr) (pe_fld (pv 0) rfl) (pv 1) (pe_callB call_len1 (by rfl) M.len (by decide +kernel) (pa_cons (pe_fld (pv 0) rfl) pa_nil)) rfl)
  (pss_one (ps_expr (pe_bm PySem.F.plainAttrs_list PySem.F.slot_list_append PySem.F.type_list_append mt_append (pe_fld (pv 0) rfl) (pa_cons (pv 1) pa_nil))))) pss_nil)
  (pss_one (ps_ret (pe_mget D (hu_of hr) (pe_fld (pv 0) rfl) (pv 1) (fun _ _ => rfl)))))
abbrev s_Ledger_of_row : Stmt := inClass (topS 22) 3
theorem sc_Ledger_of_row : FnScope N_Ledger_of_row ["self", "row"] (defScope s_Ledger_of_row) := ⟨rfl, rfl, rfl, by decide +kernel, rfl, by decide +kernel, by decide +kernel⟩
theorem ok_Ledger_of_row (M : BM mg) (T : TxK K c) (F : MetG K c.Ledger "of_row" "Ledger.of_row" s_Ledger_of_row ["self", "row"]) (D : c.md = MD P w) (G_sure_row : FnG P w K mg base 2 "sure_row" ["thing"] (sp_sure_row K c)) (G_Ledger_number_of : MtG P w K mg base 1 c.Ledger "number_of" ["self", "thing"] (sp_Ledger_number_of K c)) : MtG P w K mg base 3 c.Ledger "of_row" ["self", "row"] (sp_Ledger_of_row K c) := by
  refine F.ok sc_Ledger_of_row len_Ledger_of_row (fun f cdv A outer s H vs Q E hr h => ⟨t_Ledger_of_row K c E, ?_, pure_Ledger_of_row h⟩)
  exact (pss_cons (ps_expr (pe_callG (E := E) G_sure_row (hr.mono (by decide)) (passE (takes_of rfl rfl rfl rfl)) (by exact (pa_cons (pv 1) pa_nil))))
  (pss_one (ps_ret (pe_methG (E := E) (pv 0) T.cLedger G_Ledger_number_of (hr.mono (by decide)) (passE (takes_of rfl rfl rfl rfl)) (by exact (pa_cons (pv 1) pa_nil))))))
abbrev s_is_whole : Stmt := topS 19
theorem sc_is_whole : FnScope N_is_whole ["thing"] (defScope s_is_whole) := ⟨rfl, rfl, rfl, by decide +kernel, rfl, by decide +kernel, by decide +kernel⟩
theorem ok_is_whole (M : BM mg) (T : TxK K c) (F : FunG K mg "is_whole" s_is_whole ["thing"]) (D : c.md = MD P w) : FnG P w K mg base 1 "is_whole" ["thing"] (sp_is_whole K c) := by
  refine F.ok sc_is_whole len_is_whole (fun f cdv A outer s H vs Q E hr h => ⟨t_is_whole K c E, ?_, pure_is_whole h⟩)
  exact (pss_one (ps_ret (pe_and (pe_callB call_isi (by rfl) M.isinstance (by decide +kernel) (pa_cons (pv 0) (pa_cons (pe_bltn (v := .ty "int") (by rfl) M.int (by decide +kernel) rfl) pa_nil))) (pe_one (pe_not (pe_callB call_isi (by rfl) M.isinstance (by decide +kernel) (pa_cons (pv 0) (pa_cons (pe_bltn (v := .ty "bool") (by rfl) M.bool (by decide +kernel) rfl) pa_nil))))))))
abbrev s_Ledger_sure : Stmt := inClass (topS 22) 2
theorem sc_Ledger_sure : FnScope N_Ledger_sure ["self", "number"] (defScope s_Ledger_sure) := ⟨rfl, rfl, rfl, by decide +kernel, rfl, by decide +kernel, by decide +kernel⟩
theorem ok_Ledger_sure (M : BM mg) (T : TxK K c) (F : MetG K c.Ledger "sure" "Ledger.sure" s_Ledger_sure ["self", "number"]) (D : c.md = MD P w) (X_NoSum : ExcT K mg "NoSum" c.NoSum) (G_is_whole : FnG P w K mg base 1 "is_whole" ["thing"] (sp_is_whole K c)) : MtG P w K mg base 2 c.Ledger "sure" ["self", "number"] (sp_Ledger_sure K c) := by
  refine F.ok sc_Ledger_sure len_Ledger_sure (fun f cdv A outer s H vs Q E hr h => ⟨t_Ledger_sure K c E, ?_, pure_Ledger_sure T h⟩)
  exact (pss_one (ps_if (PW.pt (pw_or (pt_not (pt_val (pe_callG (E := E) G_is_whole (hr.mono (by decide)) (passE (takes_of rfl rfl rfl rfl)) (by exact (pa_cons (pv 1) pa_nil))))) (pw_or1 (pt_not (pt_chain op_le1 op_lt1 pe_int (pv 1) (pe_callB call_len1 (by rfl) M.len (by decide +kernel) (pa_cons (pe_fld (pv 0) rfl) pa_nil))))))) (pss_one (ps_raiseG X_NoSum rfl (takes_of rfl rfl rfl rfl))) pss_nil))
abbrev s_Ledger_of_pair : Stmt := inClass (topS 22) 4
theorem sc_Ledger_of_pair : FnScope N_Ledger_of_pair ["self", "one", "other"] (defScope s_Ledger_of_pair) := ⟨rfl, rfl, rfl, by decide +kernel, rfl, by decide +kernel, by decide +kernel⟩
theorem ok_Ledger_of_pair (M : BM mg) (T : TxK K c) (F : MetG K c.Ledger "of_pair" "Ledger.of_pair" s_Ledger_of_pair ["self", "one", "other"]) (D : c.md = MD P w) (G_Ledger_sure : MtG P w K mg base 2 c.Ledger "sure" ["self", "number"] (sp_Ledger_sure K c)) (G_Ledger_number_of : MtG P w K mg base 1 c.Ledger "number_of" ["self", "thing"] (sp_Ledger_number_of K c)) : MtG P w K mg base 3 c.Ledger "of_pair" ["self", "one", "other"] (sp_Ledger_of_pair K c) := by
  refine F.ok sc_Ledger_of_pair len_Ledger_of_pair (fun f cdv A outer s H vs Q E hr h => ⟨t_Ledger_of_pair K c E, ?_, pure_Ledger_of_pair h⟩)
  exact (pss_cons (ps_expr (pe_methG (E := E) (pv 0) T.cLedger G_Ledger_sure (hr.mono (by decide)) (passE (takes_of rfl rfl rfl rfl)) (by exact (pa_cons (pv 1) pa_nil))))
  (pss_cons (ps_expr (pe_methG (E := E) (pv 0) T.cLedger G_Ledger_sure (hr.mono (by decide)) (passE (takes_of rfl rfl rfl rfl)) (by exact (pa_cons (pv 2) pa_nil))))
  (pss_one (ps_ret (pe_methG (E := E) (pv 0) T.cLedger G_Ledger_number_of (hr.mono (by decide)) (passE (takes_of rfl rfl rfl rfl)) (by exact (pa_cons (pe_tup (pa_cons (pv 1) (pa_cons (pv 2) pa_nil))) pa_nil)))))))
abbrev s_Book_half_sums : Stmt := inClass (topS 25) 2
theorem sc_Book_half_sums : FnScope N_Book_half_sums ["self", "height", "number"] (defScope s_Book_half_sums) := ⟨rfl, rfl, rfl, by decide +kernel, rfl, by decide +kernel, by decide +kernel⟩
theorem ok_Book_half_sums (M : BM mg) (T : TxK K c) (F : MetG K c.Book "half_sums" "Book.half_sums" s_Book_half_sums ["self", "height", "number"]) (D : c.md = MD P w) (G_Ledger_of_pair : MtG P w K mg base 3 c.Ledger "of_pair" ["self", "one", "other"] (sp_Ledger_of_pair K c)) : MtG P w K mg base 4 c.Book "half_sums" ["self", "height", "number"] (sp_Book_half_sums K c) := by
  refine F.ok sc_Book_half_sums len_Book_half_sums (fun f cdv A outer s H vs Q E hr h => ⟨t_Book_half_sums K c E, ?_, pure_Book_half_sums T h⟩)
  exact (pss_cons (ps_set (i := 3) sc_Book_half_sums.nd rfl (Or.inl rfl) (pe_ix ix_seq (pe_fld (pv 0) rfl) (pe_op op_sub1 (pv 1) pe_int) (fun _ _ => rfl)))
  (pss_one (ps_ret (pe_methG (E := E0) (pe_fld (pv 0) rfl) T.cLedger G_Ledger_of_pair (hr.mono (by decide)) passL (by exact (pa_cons (pe_ix ix_seq (pv 3) (pe_op op_mul1 pe_int (pv 2)) (fun _ _ => rfl)) (pa_cons (pe_ix ix_seq (pv 3) (pe_op op_addU (pe_op op_mul1 pe_int (pv 2)) pe_int) (fun _ _ => rfl)) pa_nil)))))))
abbrev s_Book_grow : Stmt := inClass (topS 25) 3
theorem sc_Book_grow : FnScope N_Book_grow ["self", "row"] (defScope s_Book_grow) := ⟨rfl, rfl, rfl, by decide +kernel, rfl, by decide +kernel, by decide +kernel⟩
theorem ok_Book_grow (M : BM mg) (T : TxK K c) (F : MetG K c.Book "grow" "Book.grow" s_Book_grow ["self", "row"]) (D : c.md = MD P w) (G_Ledger_of_row : MtG P w K mg base 3 c.Ledger "of_row" ["self", "row"] (sp_Ledger_of_row K c)) (G_Book_half_sums : MtG P w K mg base 4 c.Book "half_sums" ["self", "height", "number"] (sp_Book_half_sums K c)) : MtG P w K mg base 5 c.Book "grow" ["self", "row"] (sp_Book_grow K c) := by
  refine F.ok sc_Book_grow len_Book_grow (fun f cdv A outer s H vs Q E hr h => ⟨t_Book_grow K c E, ?_, pure_Book_grow T h⟩)
  exact (pss_cons (ps_expr (pe_bm PySem.F.plainAttrs_list PySem.F.slot_list_append PySem.F.type_list_append mt_append (pe_fld (pv 0) rfl) (pa_cons (pv 1) pa_nil)))
  (pss_cons (ps_set (i := 2) sc_Book_grow.nd rfl (Or.inl rfl) (pe_callB call_len1 (by rfl) M.len (by decide +kernel) (pa_cons (pe_fld (pv 0) rfl) pa_nil)))
  (pss_cons (ps_set (i := 3) sc_Book_grow.nd rfl (Or.inl rfl) pe_int)
  (pss_cons (ps_set (i := 4) sc_Book_grow.nd rfl (Or.inl rfl) (pe_methG (E := E0) (pe_fld (pv 0) rfl) T.cLedger G_Ledger_of_row (hr.mono (by decide)) passL (by exact (pa_cons (pv 1) pa_nil))))
  (pss_one (ps_while (passes_of rfl) (pt_val pe_bl) (Evl.pss_cut (ps_if (pt_cmpR (op_eqU hr.units) (pv 3) (pe_callB call_len1 (by rfl) M.len (by decide +kernel) (pa_cons (pe_fld (pv 0) rfl) pa_nil)) (nomark _)) (pss_one (ps_expr (pe_bm PySem.F.plainAttrs_list PySem.F.slot_list_append PySem.F.type_list_append mt_append (pe_fld (pv 0) rfl) (pa_cons (pe_lst pa_nil) pa_nil)))) pss_nil) (pss_cons (ps_expr (pe_bm PySem.F.plainAttrs_list PySem.F.slot_list_append PySem.F.type_list_append mt_append (pe_ix ix_seq (pe_fld (pv 0) rfl) (pv 3) (fun _ _ => rfl)) (pa_cons (pv 4) pa_nil)))
  (pss_cons (ps_if (pt_cmpR (op_eqU hr.units) (pe_op op_mod1 (pv 2) pe_int) pe_int (nomark _)) (pss_one (ps_ret (pe_op op_addU (pv 3) pe_int))) pss_nil)
  (pss_cons (ps_set (i := 2) sc_Book_grow.nd rfl (Or.inl rfl) (pe_op op_div1 (pv 2) pe_int))
  (pss_cons (ps_set (i := 3) sc_Book_grow.nd rfl (Or.inl rfl) (pe_op op_addU (pv 3) pe_int))
  (pss_one (ps_set (i := 4) sc_Book_grow.nd rfl (Or.inl rfl) (pe_methG (E := E0) (pv 0) T.cBook G_Book_half_sums (hr.mono (by decide)) passL (by exact (pa_cons (pv 3) (pa_cons (pe_op op_sub1 (pv 2) pe_int) pa_nil)))))))))))))))))
abbrev s_Book_init : Stmt := inClass (topS 25) 0
theorem sc_Book_init : FnScope N_Book_init ["self", "ledger", "rows"] (defScope s_Book_init) := ⟨rfl, rfl, rfl, by decide +kernel, rfl, by decide +kernel, by decide +kernel⟩
theorem ok_Book_init (M : BM mg) (T : TxK K c) (F : IniG K mg c.Book "Book" "Book.__init__" s_Book_init ["self", "ledger", "rows"]) (D : c.md = MD P w) (X_Full : ExcT K mg "Full" c.Full) (G_sure_row : FnG P w K mg base 2 "sure_row" ["thing"] (sp_sure_row K c)) (G_Book_grow : MtG P w K mg base 5 c.Book "grow" ["self", "row"] (sp_Book_grow K c)) : MkG P w K mg base 6 c.Book "Book" ["self", "ledger", "rows"] (sp_Book_init K c) := by
  refine F.ok sc_Book_init len_Book_init (fun f cdv A outer s H vs Q E hr h => ⟨t_Book_init K c E, ?_, pure_Book_init T h⟩)
  exact (pss_cons (ps_for (passes_of rfl) rfl (pi_list (pv 2)) (pg_name (i := 3) sc_Book_init.nd rfl (Or.inl rfl)) (pss_one (ps_expr (pe_callG (E := E) G_sure_row (hr.mono (by decide)) (passE (takes_of rfl rfl rfl rfl)) (by exact (pa_cons (pv 3) pa_nil))))))
  (pss_cons (ps_if (pt_cmpR op_gt1 (pe_callB call_len1 (by rfl) M.len (by decide +kernel) (pa_cons (pv 2) pa_nil)) (pe_glob (by rfl) M.MOST_ROWS.choose_spec ⟨_, rfl⟩) (nomark _)) (pss_one (ps_raiseG X_Full rfl (takes_of rfl rfl rfl rfl))) pss_nil)
  (pss_cons (ps_fld (pv 0) (pv 1) rfl)
  (pss_cons (ps_fld (pv 0) (pe_lst pa_nil) rfl)
  (pss_cons (ps_fld (pv 0) (pe_lst pa_nil) rfl)
  (pss_one (ps_for (passes_of rfl) rfl (pi_list (pv 2)) (pg_name (i := 3) sc_Book_init.nd rfl (Or.inl rfl)) (pss_one (ps_expr (pe_methG (E := E) (pv 0) T.cBook G_Book_grow (hr.mono (by decide)) (passE (takes_of rfl rfl rfl rfl)) (by exact (pa_cons (pv 3) pa_nil))))))))))))
abbrev s_Book_sure : Stmt := inClass (topS 25) 1
theorem sc_Book_sure : FnScope N_Book_sure ["self", "place"] (defScope s_Book_sure) := ⟨rfl, rfl, rfl, by decide +kernel, rfl, by decide +kernel, by decide +kernel⟩
theorem ok_Book_sure (M : BM mg) (T : TxK K c) (F : MetG K c.Book "sure" "Book.sure" s_Book_sure ["self", "place"]) (D : c.md = MD P w) (X_NoPlace : ExcT K mg "NoPlace" c.NoPlace) (G_is_whole : FnG P w K mg base 1 "is_whole" ["thing"] (sp_is_whole K c)) : MtG P w K mg base 2 c.Book "sure" ["self", "place"] (sp_Book_sure K c) := by
  refine F.ok sc_Book_sure len_Book_sure (fun f cdv A outer s H vs Q E hr h => ⟨t_Book_sure K c E, ?_, pure_Book_sure T h⟩)
  exact (pss_one (ps_if (PW.pt (pw_or (pt_not (pt_val (pe_callG (E := E) G_is_whole (hr.mono (by decide)) (passE (takes_of rfl rfl rfl rfl)) (by exact (pa_cons (pv 1) pa_nil))))) (pw_or1 (pt_not (pt_chain op_le1 op_lt1 pe_int (pv 1) (pe_callB call_len1 (by rfl) M.len (by decide +kernel) (pa_cons (pe_fld (pv 0) rfl) pa_nil))))))) (pss_one (ps_raiseG X_NoPlace rfl (takes_of rfl rfl rfl rfl))) pss_nil))
abbrev s_Book_put : Stmt := inClass (topS 25) 4
theorem sc_Book_put : FnScope N_Book_put ["self", "place", "row"] (defScope s_Book_put) := ⟨rfl, rfl, rfl, by decide +kernel, rfl, by decide +kernel, by decide +kernel⟩
theorem ok_Book_put (M : BM mg) (T : TxK K c) (F : MetG K c.Book "put" "Book.put" s_Book_put ["self", "place", "row"]) (D : c.md = MD P w) (G_Book_sure : MtG P w K mg base 2 c.Book "sure" ["self", "place"] (sp_Book_sure K c)) (G_sure_row : FnG P w K mg base 2 "sure_row" ["thing"] (sp_sure_row K c)) (G_Ledger_of_row : MtG P w K mg base 3 c.Ledger "of_row" ["self", "row"] (sp_Ledger_of_row K c)) (G_Book_half_sums : MtG P w K mg base 4 c.Book "half_sums" ["self", "height", "number"] (sp_Book_half_sums K c)) : MtG P w K mg base 5 c.Book "put" ["self", "place", "row"] (sp_Book_put K c) := by
  refine F.ok sc_Book_put len_Book_put (fun f cdv A outer s H vs Q E hr h => ⟨t_Book_put K c E, ?_, pure_Book_put T h⟩)
  exact (pss_cons (ps_expr (pe_methG (E := E) (pv 0) T.cBook G_Book_sure (hr.mono (by decide)) (passE (takes_of rfl rfl rfl rfl)) (by exact (pa_cons (pv 1) pa_nil))))
  (pss_cons (ps_expr (pe_callG (E := E) G_sure_row (hr.mono (by decide)) (passE (takes_of rfl rfl rfl rfl)) (by exact (pa_cons (pv 2) pa_nil))))
  (pss_cons (ps_asg (pv 2) (pg_sub (pe_fld (pv 0) rfl) (pv 1) set_list))
  (pss_cons (ps_asg (pe_methG (E := E) (pe_fld (pv 0) rfl) T.cLedger G_Ledger_of_row (hr.mono (by decide)) (passE (takes_of rfl rfl rfl rfl)) (by exact (pa_cons (pv 2) pa_nil))) (pg_sub (pe_ix ix_seq (pe_fld (pv 0) rfl) pe_int (fun _ _ => rfl)) (pv 1) set_list))
  (pss_cons (ps_set (i := 3) sc_Book_put.nd rfl (Or.inl rfl) pe_int)
  (pss_cons (ps_set (i := 4) sc_Book_put.nd rfl (Or.inl rfl) (pe_op op_div1 (pv 1) pe_int))
  (pss_cons (ps_while (passes_of rfl) (PW.pt (pw_and (pt_cmpR op_lt1 (pv 3) (pe_callB call_len1 (by rfl) M.len (by decide +kernel) (pa_cons (pe_fld (pv 0) rfl) pa_nil)) (nomark _)) (pw_and1 (pt_cmpR op_lt1 (pv 4) (pe_callB call_len1 (by rfl) M.len (by decide +kernel) (pa_cons (pe_ix ix_seq (pe_fld (pv 0) rfl) (pv 3) (fun _ _ => rfl)) pa_nil)) (nomark _))))) (pss_cons (ps_asg (pe_methG (E := E) (pv 0) T.cBook G_Book_half_sums (hr.mono (by decide)) (passE (takes_of rfl rfl rfl rfl)) (by exact (pa_cons (pv 3) (pa_cons (pv 4) pa_nil)))) (pg_sub (pe_ix ix_seq (pe_fld (pv 0) rfl) (pv 3) (fun _ _ => rfl)) (pv 4) set_list))
  (pss_cons (ps_set (i := 3) sc_Book_put.nd rfl (Or.inl rfl) (pe_op op_addU (pv 3) pe_int))
  (pss_one (ps_set (i := 4) sc_Book_put.nd rfl (Or.inl rfl) (pe_op op_div1 (pv 4) pe_int))))))
  (pss_one (ps_ret (pv 3))))))))))
abbrev s_size_of : Stmt := topS 2
theorem sc_size_of : FnScope N_size_of ["height"] (defScope s_size_of) := ⟨rfl, rfl, rfl, by decide +kernel, rfl, by decide +kernel, by decide +kernel⟩
theorem ok_size_of (M : BM mg) (T : TxK K c) (F : FunG K mg "size_of" s_size_of ["height"]) (D : c.md = MD P w) : FnG P w K mg base 1 "size_of" ["height"] (sp_size_of K c) := by
  refine F.ok sc_size_of len_size_of (fun f cdv A outer s H vs Q E hr h => ⟨t_size_of K c E, ?_, pure_size_of h⟩)
  exact (pss_cons (ps_set (i := 1) sc_size_of.nd rfl (Or.inl rfl) pe_int)
  (pss_cons (ps_for (passes_of rfl) rfl (pi_range1 (by rfl) M.range (pa_cons (pv 0) pa_nil)) (pg_name (i := 2) sc_size_of.nd rfl (Or.inl rfl)) (pss_one (ps_set (i := 1) sc_size_of.nd rfl (Or.inl rfl) (pe_op op_mul1 pe_int (pv 1)))))
  (pss_one (ps_ret (pv 1)))))
abbrev s_Book_cut : Stmt := inClass (topS 25) 6
theorem sc_Book_cut : FnScope N_Book_cut ["self"] (defScope s_Book_cut) := ⟨rfl, rfl, rfl, by decide +kernel, rfl, by decide +kernel, by decide +kernel⟩
theorem ok_Book_cut (M : BM mg) (T : TxK K c) (F : MetG K c.Book "cut" "Book.cut" s_Book_cut ["self"]) (D : c.md = MD P w) (X_NoPlace : ExcT K mg "NoPlace" c.NoPlace) (G_size_of : FnG P w K mg base 1 "size_of" ["height"] (sp_size_of K c)) : MtG P w K mg base 2 c.Book "cut" ["self"] (sp_Book_cut K c) := by
  refine F.ok sc_Book_cut len_Book_cut (fun f cdv A outer s H vs Q E hr h => ⟨t_Book_cut K c E, ?_, pure_Book_cut T h⟩)
  exact (pss_cons (ps_if (pt_cmpR (op_eqU hr.units) (pe_callB call_len1 (by rfl) M.len (by decide +kernel) (pa_cons (pe_fld (pv 0) rfl) pa_nil)) pe_int (nomark _)) (pss_one (ps_raiseG X_NoPlace rfl (takes_of rfl rfl rfl rfl))) pss_nil)
  (pss_cons (ps_set (i := 1) sc_Book_cut.nd rfl (Or.inl rfl) (pe_callB call_len1 (by rfl) M.len (by decide +kernel) (pa_cons (pe_fld (pv 0) rfl) pa_nil)))
  (pss_cons (ps_expr (pe_bm0 PySem.F.plainAttrs_list PySem.F.slot_list_pop PySem.F.type_list_pop mt_pop (pe_fld (pv 0) rfl)))
  (pss_cons (ps_expr (pe_bm0 PySem.F.plainAttrs_list PySem.F.slot_list_pop PySem.F.type_list_pop mt_pop (pe_ix ix_seq (pe_fld (pv 0) rfl) pe_int (fun _ _ => rfl))))
  (pss_cons (ps_set (i := 2) sc_Book_cut.nd rfl (Or.inl rfl) pe_int)
  (pss_cons (ps_while (passes_of rfl) (pt_cmpR (op_eqU hr.units) (pe_op op_mod1 (pv 1) (pe_callG (E := E) G_size_of (hr.mono (by decide)) (passE (takes_of rfl rfl rfl rfl)) (by exact (pa_cons (pv 2) pa_nil)))) pe_int (nomark _)) (pss_cons (ps_expr (pe_bm0 PySem.F.plainAttrs_list PySem.F.slot_list_pop PySem.F.type_list_pop mt_pop (pe_ix ix_seq (pe_fld (pv 0) rfl) (pv 2) (fun _ _ => rfl))))
  (pss_one (ps_set (i := 2) sc_Book_cut.nd rfl (Or.inl rfl) (pe_op op_addU (pv 2) pe_int)))))
  (pss_one (ps_ret (pv 2)))))))))
abbrev s_Book_add : Stmt := inClass (topS 25) 5
theorem sc_Book_add : FnScope N_Book_add ["self", "row"] (defScope s_Book_add) := ⟨rfl, rfl, rfl, by decide +kernel, rfl, by decide +kernel, by decide +kernel⟩
theorem ok_Book_add (M : BM mg) (T : TxK K c) (F : MetG K c.Book "add" "Book.add" s_Book_add ["self", "row"]) (D : c.md = MD P w) (X_Full : ExcT K mg "Full" c.Full) (G_sure_row : FnG P w K mg base 2 "sure_row" ["thing"] (sp_sure_row K c)) (G_Book_grow : MtG P w K mg base 5 c.Book "grow" ["self", "row"] (sp_Book_grow K c)) : MtG P w K mg base 6 c.Book "add" ["self", "row"] (sp_Book_add K c) := by
  refine F.ok sc_Book_add len_Book_add (fun f cdv A outer s H vs Q E hr h => ⟨t_Book_add K c E, ?_, pure_Book_add T h⟩)
  exact (pss_cons (ps_expr (pe_callG (E := E) G_sure_row (hr.mono (by decide)) (passE (takes_of rfl rfl rfl rfl)) (by exact (pa_cons (pv 1) pa_nil))))
  (pss_cons (ps_if (pt_cmpR (op_eqU hr.units) (pe_callB call_len1 (by rfl) M.len (by decide +kernel) (pa_cons (pe_fld (pv 0) rfl) pa_nil)) (pe_glob (by rfl) M.MOST_ROWS.choose_spec ⟨_, rfl⟩) (nomark _)) (pss_one (ps_raiseG X_Full rfl (takes_of rfl rfl rfl rfl))) pss_nil)
  (pss_one (ps_ret (pe_methG (E := E) (pv 0) T.cBook G_Book_grow (hr.mono (by decide)) (passE (takes_of rfl rfl rfl rfl)) (by exact (pa_cons (pv 1) pa_nil)))))))
abbrev s_law_change : Stmt := topS 35
theorem sc_law_change : FnScope N_law_change ["_law_book", "_law_rows_here", "_law_others", "_law_cell"] (defScope s_law_change) := ⟨rfl, rfl, rfl, by decide +kernel, rfl, by decide +kernel, by decide +kernel⟩
theorem ok_law_change (M : BM mg) (T : TxK K c) (F : FunG K mg "_law_change" s_law_change ["_law_book", "_law_rows_here", "_law_others", "_law_cell"]) (D : c.md = MD P w) (G_law_text : FnG P w K mg base 2 "_law_text" ["_law_cell"] (sp_law_text K c)) (G_Book_put : MtG P w K mg base 5 c.Book "put" ["self", "place", "row"] (sp_Book_put K c)) (G_law_mix : FnG P w K mg base 1 "_law_mix" ["_law_number", "_law_k"] (sp_law_mix K c)) (G_law_near : FnG P w K mg base 1 "_law_near" ["_law_text_here", "_law_cell"] (sp_law_near K c)) (G_Book_cut : MtG P w K mg base 2 c.Book "cut" ["self"] (sp_Book_cut K c)) (G_Book_add : MtG P w K mg base 6 c.Book "add" ["self", "row"] (sp_Book_add K c)) : FnG P w K mg base 7 "_law_change" ["_law_book", "_law_rows_here", "_law_others", "_law_cell"] (sp_law_change K c) := by
  refine F.ok sc_law_change len_law_change (fun f cdv A outer s H vs Q E hr h => ⟨t_law_change K c E, ?_, pure_law_change T h⟩)
  exact (pss_cons (ps_set (i := 4) sc_law_change.nd rfl (Or.inl rfl) (pe_op op_mod1 (pv 3) pe_int))
  (pss_cons (ps_set (i := 5) sc_law_change.nd rfl (Or.inl rfl) (pe_callG (E := E0) G_law_text (hr.mono (by decide)) passL (by exact (pa_cons (pe_op op_mod1 (pe_callG (E := E0) G_law_mix (hr.mono (by decide)) passL (by exact (pa_cons (pv 3) (pa_cons pe_int pa_nil)))) (pe_ix ix_seq (pe_lst (pa_cons pe_int (pa_cons pe_int pa_nil))) (pe_op op_mod1 (pe_op op_div1 (pv 3) pe_int) pe_int) (fun _ _ => rfl))) pa_nil))))
  (pss_one (ps_if (PW.pt (pw_and (pt_cmpR op_lt1 (pv 4) pe_int (nomark _)) (pw_and1 (pt_cmpR op_gt1 (pe_callB call_len1 (by rfl) M.len (by decide +kernel) (pa_cons (pv 1) pa_nil)) pe_int (nomark _))))) (pss_cons (ps_set (i := 6) sc_law_change.nd rfl (Or.inl rfl) (pe_op op_mod1 (pe_callG (E := E0) G_law_mix (hr.mono (by decide)) passL (by exact (pa_cons (pv 3) (pa_cons pe_int pa_nil)))) (pe_callB call_len1 (by rfl) M.len (by decide +kernel) (pa_cons (pv 1) pa_nil))))
  (Evl.pss_cut (ps_if (PW.pt (pw_and (pt_cmpR (op_eqU hr.units) (pv 4) pe_int (nomark _)) (pw_and1 (pt_cmpR op_lt1 (pv 6) (pe_callB call_len1 (by rfl) M.len (by decide +kernel) (pa_cons (pv 2) pa_nil)) (nomark _))))) (pss_one (ps_set (i := 5) sc_law_change.nd rfl (Or.inl rfl) (pe_ix ix_seq (pv 2) (pv 6) (fun _ _ => rfl)))) pss_nil) (Evl.pss_cut (ps_if (pt_cmpR (op_eqU hr.units) (pv 4) pe_int (nomark _)) (pss_one (ps_set (i := 5) sc_law_change.nd rfl (Or.inl rfl) (pe_callG (E := E0) G_law_near (hr.mono (by decide)) passL (by exact (pa_cons (pe_ix ix_seq (pv 1) (pv 6) (fun _ _ => rfl)) (pa_cons (pe_callG (E := E0) G_law_mix (hr.mono (by decide)) passL (by exact (pa_cons (pv 3) (pa_cons pe_int pa_nil)))) pa_nil)))))) pss_nil) (pss_cons (ps_expr (pe_methG (E := E0) (pv 0) T.cBook G_Book_put (hr.mono (by decide)) passL (by exact (pa_cons (pv 6) (pa_cons (pv 5) pa_nil)))))
  (pss_one (ps_asg (pv 5) (pg_sub (pv 1) (pv 6) set_list))))))) (pss_one (ps_if (PW.pt (pw_and (pt_cmpR (op_eqU hr.units) (pv 4) pe_int (nomark _)) (pw_and1 (pt_cmpR op_gt1 (pe_callB call_len1 (by rfl) M.len (by decide +kernel) (pa_cons (pv 1) pa_nil)) pe_int (nomark _))))) (pss_cons (ps_expr (pe_methG0 (E := E0) (pv 0) T.cBook G_Book_cut (hr.mono (by decide)) passL))
  (pss_one (ps_expr (pe_bm0 PySem.F.plainAttrs_list PySem.F.slot_list_pop PySem.F.type_list_pop mt_pop (pv 1))))) (pss_cons (ps_if (PW.pt (pw_and (pt_cmpR op_lt1 (pe_callB call_len1 (by rfl) M.len (by decide +kernel) (pa_cons (pv 1) pa_nil)) (pe_callB call_len1 (by rfl) M.len (by decide +kernel) (pa_cons (pv 2) pa_nil)) (nomark _)) (pw_and1 (pt_cmpR op_gt1 (pe_op op_mod1 (pe_op op_div1 (pv 3) pe_int) pe_int) pe_int (nomark _))))) (pss_one (ps_set (i := 5) sc_law_change.nd rfl (Or.inl rfl) (pe_ix ix_seq (pv 2) (pe_callB call_len1 (by rfl) M.len (by decide +kernel) (pa_cons (pv 1) pa_nil)) (fun _ _ => rfl)))) pss_nil)
  (pss_cons (ps_expr (pe_methG (E := E0) (pv 0) T.cBook G_Book_add (hr.mono (by decide)) passL (by exact (pa_cons (pv 5) pa_nil))))
  (pss_one (ps_expr (pe_bm PySem.F.plainAttrs_list PySem.F.slot_list_append PySem.F.type_list_append mt_append (pv 1) (pa_cons (pv 5) pa_nil))))))))))))
abbrev s_law_room : Stmt := topS 39
theorem sc_law_room : FnScope N_law_room ["_law_script", "_law_small", "_law_great"] (defScope s_law_room) := ⟨rfl, rfl, rfl, by decide +kernel, rfl, by decide +kernel, by decide +kernel⟩
theorem ok_law_room (M : BM mg) (T : TxK K c) (F : FunG K mg "_law_room" s_law_room ["_law_script", "_law_small", "_law_great"]) (D : c.md = MD P w) : FnG P w K mg base 1 "_law_room" ["_law_script", "_law_small", "_law_great"] (sp_law_room K c) := by
  refine F.ok sc_law_room len_law_room (fun f cdv A outer s H vs Q E hr h => ⟨t_law_room K c E, ?_, pure_law_room h⟩)
  exact (pss_cons (ps_if (pt_cmpR op_gt1 (pe_callB call_len1 (by rfl) M.len (by decide +kernel) (pa_cons (pv 0) pa_nil)) pe_int (nomark _)) (pss_one (ps_ret (pv 2))) pss_nil)
  (pss_one (ps_ret (pv 1))))
abbrev s_law_books : Stmt := topS 34
theorem sc_law_books : FnScope N_law_books ["_law_script"] (defScope s_law_books) := ⟨rfl, rfl, rfl, by decide +kernel, rfl, by decide +kernel, by decide +kernel⟩
theorem ok_law_books (M : BM mg) (T : TxK K c) (F : FunG K mg "_law_books" s_law_books ["_law_script"]) (D : c.md = MD P w) (G_Ledger_init : MkG P w K mg base 1 c.Ledger "Ledger" ["self"] (sp_Ledger_init K c)) (G_law_rows : FnG P w K mg base 3 "_law_rows" ["_law_cell", "_law_more"] (sp_law_rows K c)) (G_law_twin : FnG P w K mg base 3 "_law_twin" ["_law_rows_here", "_law_cell"] (sp_law_twin K c)) (G_law_cell_at : FnG P w K mg base 1 "_law_cell_at" ["_law_script", "_law_k"] (sp_law_cell_at K c)) (G_Book_init : MkG P w K mg base 6 c.Book "Book" ["self", "ledger", "rows"] (sp_Book_init K c)) (G_law_change : FnG P w K mg base 7 "_law_change" ["_law_book", "_law_rows_here", "_law_others", "_law_cell"] (sp_law_change K c)) (G_law_room : FnG P w K mg base 1 "_law_room" ["_law_script", "_law_small", "_law_great"] (sp_law_room K c)) : FnG P w K mg base 8 "_law_books" ["_law_script"] (sp_law_books K c) := by
  refine F.ok sc_law_books len_law_books (fun f cdv A outer s H vs Q E hr h => ⟨t_law_books K c E, ?_, pure_law_books T h⟩)
  exact (pss_cons (ps_set (i := 1) sc_law_books.nd rfl (Or.inl rfl) (pe_makeG0 (E := E0) G_Ledger_init (hr.mono (by decide)) passL))
  (pss_cons (ps_set (i := 2) sc_law_books.nd rfl (Or.inl rfl) (pe_callG (E := E0) G_law_rows (hr.mono (by decide)) passL (by exact (pa_cons (pe_callG (E := E0) G_law_cell_at (hr.mono (by decide)) passL (by exact (pa_cons (pv 0) (pa_cons pe_int pa_nil)))) (pa_cons (pe_callG (E := E0) G_law_cell_at (hr.mono (by decide)) passL (by exact (pa_cons (pv 0) (pa_cons pe_int pa_nil)))) pa_nil)))))
  (pss_cons (ps_set (i := 3) sc_law_books.nd rfl (Or.inl rfl) (pe_callG (E := E0) G_law_twin (hr.mono (by decide)) passL (by exact (pa_cons (pv 2) (pa_cons (pe_callG (E := E0) G_law_cell_at (hr.mono (by decide)) passL (by exact (pa_cons (pv 0) (pa_cons pe_int pa_nil)))) pa_nil)))))
  (Evl.pss_cut (ps_if (pt_cmpR (op_eqU hr.units) (pe_op op_mod1 (pe_op op_div1 (pe_callG (E := E0) G_law_cell_at (hr.mono (by decide)) passL (by exact (pa_cons (pv 0) (pa_cons pe_int pa_nil)))) pe_int) pe_int) pe_int (nomark _)) (pss_one (ps_set (i := 3) sc_law_books.nd rfl (Or.inl rfl) (pe_callG (E := E0) G_law_rows (hr.mono (by decide)) passL (by exact (pa_cons (pe_callG (E := E0) G_law_cell_at (hr.mono (by decide)) passL (by exact (pa_cons (pv 0) (pa_cons pe_int pa_nil)))) (pa_cons (pe_callG (E := E0) G_law_cell_at (hr.mono (by decide)) passL (by exact (pa_cons (pv 0) (pa_cons pe_int pa_nil)))) pa_nil)))))) pss_nil) (pss_cons (ps_set (i := 4) sc_law_books.nd rfl (Or.inl rfl) (pe_lst (pa_cons (pe_makeG (E := E0) G_Book_init (hr.mono (by decide)) passL (by exact (pa_cons (pv 1) (pa_cons (pe_callTy call_list1 (by rfl) M.list (by decide +kernel) (pa_cons (pv 2) pa_nil)) pa_nil)))) (pa_cons (pe_makeG (E := E0) G_Book_init (hr.mono (by decide)) passL (by exact (pa_cons (pv 1) (pa_cons (pe_callTy call_list1 (by rfl) M.list (by decide +kernel) (pa_cons (pv 3) pa_nil)) pa_nil)))) pa_nil))))
  (pss_cons (ps_set (i := 5) sc_law_books.nd rfl (Or.inl rfl) (pe_lst (pa_cons (pv 2) (pa_cons (pv 3) pa_nil))))
  (pss_cons (ps_for (passes_of rfl) rfl (pi_list (pe_slice sl_U (pv 0) (po_some pe_int) (po_some (pe_op op_addU pe_int (pe_callG (E := E0) G_law_room (hr.mono (by decide)) passL (by exact (pa_cons (pv 0) (pa_cons pe_int (pa_cons pe_int pa_nil))))))))) (pg_name (i := 6) sc_law_books.nd rfl (Or.inl rfl)) (pss_cons (ps_set (i := 7) sc_law_books.nd rfl (Or.inl rfl) (pe_op op_mod1 (pv 6) pe_int))
  (pss_one (ps_expr (pe_callG (E := E0) G_law_change (hr.mono (by decide)) passL (by exact (pa_cons (pe_ix ix_seq (pv 4) (pv 7) (fun _ _ => rfl)) (pa_cons (pe_ix ix_seq (pv 5) (pv 7) (fun _ _ => rfl)) (pa_cons (pe_ix ix_seq (pv 5) (pe_op op_sub1 pe_int (pv 7)) (fun _ _ => rfl)) (pa_cons (pe_op op_div1 (pv 6) pe_int) pa_nil))))))))))
  (pss_one (ps_ret (pe_tup (pa_cons (pv 4) (pa_cons (pv 5) pa_nil))))))))))))
abbrev s_Looker_init : Stmt := inClass (topS 13) 0
theorem sc_Looker_init : FnScope N_Looker_init ["self", "one", "other"] (defScope s_Looker_init) := ⟨rfl, rfl, rfl, by decide +kernel, rfl, by decide +kernel, by decide +kernel⟩
theorem ok_Looker_init (M : BM mg) (T : TxK K c) (F : IniG K mg c.Looker "Looker" "Looker.__init__" s_Looker_init ["self", "one", "other"]) (D : c.md = MD P w) (X_Strange : ExcT K mg "Strange" c.Strange) : MkG P w K mg base 1 c.Looker "Looker" ["self", "one", "other"] (sp_Looker_init K c) := by
  refine F.ok sc_Looker_init len_Looker_init (fun f cdv A outer s H vs Q E hr h => ⟨t_Looker_init K c E, ?_, pure_Looker_init T h⟩)
  exact (pss_cons (ps_if (pt_cmpR (op_neIns hr.units) (pe_fld (pv 1) rfl) (pe_fld (pv 2) rfl) (nomark _)) (pss_one (ps_raiseG X_Strange rfl (takes_of rfl rfl rfl rfl))) pss_nil)
  (pss_cons (ps_fld (pv 0) (pv 1) rfl)
  (pss_cons (ps_fld (pv 0) (pv 2) rfl)
  (pss_one (ps_fld (pv 0) (pe_lst pa_nil) rfl)))))
abbrev s_digits : Stmt := topS 1
theorem sc_digits : FnScope N_digits ["count"] (defScope s_digits) := ⟨rfl, rfl, rfl, by decide +kernel, rfl, by decide +kernel, by decide +kernel⟩
theorem ok_digits (M : BM mg) (T : TxK K c) (F : FunG K mg "digits" s_digits ["count"]) (D : c.md = MD P w) : FnG P w K mg base 1 "digits" ["count"] (sp_digits K c) := by
  refine F.ok sc_digits len_digits (fun f cdv A outer s H vs Q E hr h => ⟨t_digits K c E, ?_, pure_digits h⟩)
  exact (pss_cons (ps_set (i := 1) sc_digits.nd rfl (Or.inl rfl) pe_int)
  (pss_cons (ps_while (passes_of rfl) (pt_cmpR op_gt1 (pv 0) pe_int (nomark _)) (pss_cons (ps_set (i := 0) sc_digits.nd rfl (Or.inl rfl) (pe_op op_div1 (pv 0) pe_int))
  (pss_one (ps_set (i := 1) sc_digits.nd rfl (Or.inl rfl) (pe_op op_addU (pv 1) pe_int)))))
  (pss_one (ps_ret (pv 1)))))
abbrev s_parted : Stmt := topS 3
theorem sc_parted : FnScope N_parted ["count"] (defScope s_parted) := ⟨rfl, rfl, rfl, by decide +kernel, rfl, by decide +kernel, by decide +kernel⟩
theorem ok_parted (M : BM mg) (T : TxK K c) (F : FunG K mg "parted" s_parted ["count"]) (D : c.md = MD P w) (G_size_of : FnG P w K mg base 1 "size_of" ["height"] (sp_size_of K c)) (G_digits : FnG P w K mg base 1 "digits" ["count"] (sp_digits K c)) : FnG P w K mg base 2 "parted" ["count"] (sp_parted K c) := by
  refine F.ok sc_parted len_parted (fun f cdv A outer s H vs Q E hr h => ⟨t_parted K c E, ?_, pure_parted h⟩)
  exact (pss_cons (ps_set (i := 1) sc_parted.nd rfl (Or.inl rfl) (pe_lst pa_nil))
  (pss_cons (ps_set (i := 2) sc_parted.nd rfl (Or.inl rfl) pe_int)
  (pss_cons (ps_for (passes_of rfl) rfl (pi_range3 (by rfl) M.range (pa_cons (pe_op op_sub1 (pe_callG (E := E0) G_digits (hr.mono (by decide)) passL (by exact (pa_cons (pv 0) pa_nil))) pe_int) (pa_cons (pe_un un_neg pe_int) (pa_cons (pe_un un_neg pe_int) pa_nil)))) (pg_name (i := 3) sc_parted.nd rfl (Or.inl rfl)) (pss_cons (ps_set (i := 4) sc_parted.nd rfl (Or.inl rfl) (pe_callG (E := E0) G_size_of (hr.mono (by decide)) passL (by exact (pa_cons (pv 3) pa_nil))))
  (pss_one (ps_if (pt_cmpR (op_eqU hr.units) (pe_op op_mod1 (pe_op op_div1 (pv 0) (pv 4)) pe_int) pe_int (nomark _)) (pss_cons (ps_expr (pe_bm PySem.F.plainAttrs_list PySem.F.slot_list_append PySem.F.type_list_append mt_append (pv 1) (pa_cons (pe_tup (pa_cons (pv 3) (pa_cons (pe_op op_div1 (pv 2) (pv 4)) pa_nil))) pa_nil)))
  (pss_one (ps_set (i := 2) sc_parted.nd rfl (Or.inl rfl) (pe_op op_addU (pv 2) (pv 4))))) pss_nil))))
  (pss_one (ps_ret (pv 1))))))
abbrev s_Book_count : Stmt := inClass (topS 25) 7
theorem sc_Book_count : FnScope N_Book_count ["self"] (defScope s_Book_count) := ⟨rfl, rfl, rfl, by decide +kernel, rfl, by decide +kernel, by decide +kernel⟩
theorem ok_Book_count (M : BM mg) (T : TxK K c) (F : MetG K c.Book "count" "Book.count" s_Book_count ["self"]) (D : c.md = MD P w) : MtG P w K mg base 1 c.Book "count" ["self"] (sp_Book_count K c) := by
  refine F.ok sc_Book_count len_Book_count (fun f cdv A outer s H vs Q E hr h => ⟨t_Book_count K c E, ?_, pure_Book_count T h⟩)
  exact (pss_one (ps_ret (pe_callB call_len1 (by rfl) M.len (by decide +kernel) (pa_cons (pe_fld (pv 0) rfl) pa_nil))))
abbrev s_Looker_lesser : Stmt := inClass (topS 13) 1
theorem sc_Looker_lesser : FnScope N_Looker_lesser ["self"] (defScope s_Looker_lesser) := ⟨rfl, rfl, rfl, by decide +kernel, rfl, by decide +kernel, by decide +kernel⟩
theorem ok_Looker_lesser (M : BM mg) (T : TxK K c) (F : MetG K c.Looker "lesser" "Looker.lesser" s_Looker_lesser ["self"]) (D : c.md = MD P w) (G_Book_count : MtG P w K mg base 1 c.Book "count" ["self"] (sp_Book_count K c)) : MtG P w K mg base 2 c.Looker "lesser" ["self"] (sp_Looker_lesser K c) := by
  refine F.ok sc_Looker_lesser len_Looker_lesser (fun f cdv A outer s H vs Q E hr h => ⟨t_Looker_lesser K c E, ?_, pure_Looker_lesser T h⟩)
  exact (pss_one (ps_ret (pe_callB (call_min1 rfl) (by rfl) M.min (by decide +kernel) (pa_cons (pe_methG0 (E := E0) (pe_fld (pv 0) rfl) T.cBook G_Book_count (hr.mono (by decide)) passL) (pa_cons (pe_methG0 (E := E0) (pe_fld (pv 0) rfl) T.cBook G_Book_count (hr.mono (by decide)) passL) pa_nil)))))
abbrev s_Book_has_block : Stmt := inClass (topS 25) 10
theorem sc_Book_has_block : FnScope N_Book_has_block ["self", "height", "number"] (defScope s_Book_has_block) := ⟨rfl, rfl, rfl, by decide +kernel, rfl, by decide +kernel, by decide +kernel⟩
theorem ok_Book_has_block (M : BM mg) (T : TxK K c) (F : MetG K c.Book "has_block" "Book.has_block" s_Book_has_block ["self", "height", "number"]) (D : c.md = MD P w) (G_is_whole : FnG P w K mg base 1 "is_whole" ["thing"] (sp_is_whole K c)) : MtG P w K mg base 2 c.Book "has_block" ["self", "height", "number"] (sp_Book_has_block K c) := by
  refine F.ok sc_Book_has_block len_Book_has_block (fun f cdv A outer s H vs Q E hr h => ⟨t_Book_has_block K c E, ?_, pure_Book_has_block T h⟩)
  exact (pss_cons (ps_if (PW.pt (pw_or (pt_not (pt_val (pe_callG (E := E0) G_is_whole (hr.mono (by decide)) passL (by exact (pa_cons (pv 1) pa_nil))))) (pw_or (pt_not (pt_val (pe_callG (E := E0) G_is_whole (hr.mono (by decide)) passL (by exact (pa_cons (pv 2) pa_nil))))) (pw_or (pt_cmpR op_lt1 (pv 1) pe_int (nomark _)) (pw_or1 (pt_cmpR op_lt1 (pv 2) pe_int (nomark _))))))) (pss_one (ps_ret pe_bl)) pss_nil)
  (pss_one (ps_ret (pe_and (pe_cmpR op_lt1 (pv 1) (pe_callB call_len1 (by rfl) M.len (by decide +kernel) (pa_cons (pe_fld (pv 0) rfl) pa_nil)) (nomark _)) (pe_one (pe_cmpR op_lt1 (pv 2) (pe_callB call_len1 (by rfl) M.len (by decide +kernel) (pa_cons (pe_ix ix_seq (pe_fld (pv 0) rfl) (pv 1) (fun _ _ => rfl)) pa_nil)) (nomark _)))))))
abbrev s_Book_sum_of : Stmt := inClass (topS 25) 11
theorem sc_Book_sum_of : FnScope N_Book_sum_of ["self", "height", "number"] (defScope s_Book_sum_of) := ⟨rfl, rfl, rfl, by decide +kernel, rfl, by decide +kernel, by decide +kernel⟩
theorem ok_Book_sum_of (M : BM mg) (T : TxK K c) (F : MetG K c.Book "sum_of" "Book.sum_of" s_Book_sum_of ["self", "height", "number"]) (D : c.md = MD P w) (X_NoBlock : ExcT K mg "NoBlock" c.NoBlock) (G_Book_has_block : MtG P w K mg base 2 c.Book "has_block" ["self", "height", "number"] (sp_Book_has_block K c)) : MtG P w K mg base 3 c.Book "sum_of" ["self", "height", "number"] (sp_Book_sum_of K c) := by
  refine F.ok sc_Book_sum_of len_Book_sum_of (fun f cdv A outer s H vs Q E hr h => ⟨t_Book_sum_of K c E, ?_, pure_Book_sum_of T h⟩)
  exact (pss_cons (ps_if (pt_not (pt_val (pe_methG (E := E) (pv 0) T.cBook G_Book_has_block (hr.mono (by decide)) (passE (takes_of rfl rfl rfl rfl)) (by exact (pa_cons (pv 1) (pa_cons (pv 2) pa_nil)))))) (pss_one (ps_raiseG X_NoBlock rfl (takes_of rfl rfl rfl rfl))) pss_nil)
  (pss_one (ps_ret (pe_ix ix_seq (pe_ix ix_seq (pe_fld (pv 0) rfl) (pv 1) (fun _ _ => rfl)) (pv 2) (fun _ _ => rfl)))))
abbrev s_Looker_are_alike : Stmt := inClass (topS 13) 2
theorem sc_Looker_are_alike : FnScope N_Looker_are_alike ["self", "height", "number"] (defScope s_Looker_are_alike) := ⟨rfl, rfl, rfl, by decide +kernel, rfl, by decide +kernel, by decide +kernel⟩
theorem ok_Looker_are_alike (M : BM mg) (T : TxK K c) (F : MetG K c.Looker "are_alike" "Looker.are_alike" s_Looker_are_alike ["self", "height", "number"]) (D : c.md = MD P w) (G_Book_sum_of : MtG P w K mg base 3 c.Book "sum_of" ["self", "height", "number"] (sp_Book_sum_of K c)) : MtG P w K mg base 4 c.Looker "are_alike" ["self", "height", "number"] (sp_Looker_are_alike K c) := by
  refine F.ok sc_Looker_are_alike len_Looker_are_alike (fun f cdv A outer s H vs Q E hr h => ⟨t_Looker_are_alike K c E, ?_, pure_Looker_are_alike T h⟩)
  exact (pss_cons (ps_set (i := 3) sc_Looker_are_alike.nd rfl (Or.inl rfl) (pe_cmpR (op_eqU hr.units) (pe_methG (E := E0) (pe_fld (pv 0) rfl) T.cBook G_Book_sum_of (hr.mono (by decide)) passL (by exact (pa_cons (pv 1) (pa_cons (pv 2) pa_nil)))) (pe_methG (E := E0) (pe_fld (pv 0) rfl) T.cBook G_Book_sum_of (hr.mono (by decide)) passL (by exact (pa_cons (pv 1) (pa_cons (pv 2) pa_nil)))) (nomark _)))
  (pss_cons (ps_expr (pe_bm PySem.F.plainAttrs_list PySem.F.slot_list_append PySem.F.type_list_append mt_append (pe_fld (pv 0) rfl) (pa_cons (pe_tup (pa_cons (pv 1) (pa_cons (pv 2) (pa_cons (pv 3) pa_nil)))) pa_nil)))
  (pss_one (ps_ret (pv 3)))))
abbrev s_Looker_all_in : Stmt := inClass (topS 13) 4
theorem sc_Looker_all_in : FnScope N_Looker_all_in ["self", "height", "number"] (defScope s_Looker_all_in) := ⟨rfl, rfl, rfl, by decide +kernel, rfl, by decide +kernel, by decide +kernel⟩
theorem okn_Looker_all_in (M : BM mg) (T : TxK K c) (F : MetG K c.Looker "all_in" "Looker.all_in" s_Looker_all_in ["self", "height", "number"]) (D : c.md = MD P w) (G_Looker_are_alike : MtG P w K mg base 4 c.Looker "are_alike" ["self", "height", "number"] (sp_Looker_are_alike K c)) : ∀ n, MtG P w K mg base (5 + n) c.Looker "all_in" ["self", "height", "number"] (sp_Looker_all_in n K c) := by
  intro n
  induction n with
  | zero =>
    exact (F.ok sc_Looker_all_in (len_Looker_all_in 0) (fun f cdv A outer s H vs Q E hr h => h.elim) : MtG P w K mg base 5 c.Looker "all_in" ["self", "height", "number"] (sp_Looker_all_in 0 K c))
  | succ n G_self =>
    refine F.ok sc_Looker_all_in (len_Looker_all_in (n + 1)) (fun f cdv A outer s H vs Q E hr h => ⟨t_Looker_all_in n K c E, ?_, pure_Looker_all_in n T h⟩)
    exact (pss_cons (ps_if (pt_cmpR (op_eqU hr.units) (pv 1) pe_int (nomark _)) (pss_one (ps_ret (pe_lst (pa_cons (pv 2) pa_nil)))) pss_nil)
  (pss_cons (ps_set (i := 3) sc_Looker_all_in.nd rfl (Or.inl rfl) (pe_lst pa_nil))
  (pss_cons (ps_set (i := 4) sc_Looker_all_in.nd rfl (Or.inl rfl) (pe_methG (E := E0) (pv 0) T.cLooker G_Looker_are_alike (hr.mono (Nat.le_trans (by decide) (Nat.le_add_right 5 n))) passL (by exact (pa_cons (pe_op op_sub1 (pv 1) pe_int) (pa_cons (pe_op op_mul1 pe_int (pv 2)) pa_nil)))))
  (pss_cons (ps_if (pt_not (pt_val (pv 4))) (pss_one (ps_set (i := 3) sc_Looker_all_in.nd rfl (Or.inl rfl) (pe_methG (E := E0) (pv 0) T.cLooker G_self hr passL (by exact (pa_cons (pe_op op_sub1 (pv 1) pe_int) (pa_cons (pe_op op_mul1 pe_int (pv 2)) pa_nil)))))) pss_nil)
  (pss_cons (ps_if (PW.pt (pw_or (pt_val (pv 4)) (pw_or1 (pt_not (pt_val (pe_methG (E := E0) (pv 0) T.cLooker G_Looker_are_alike (hr.mono (Nat.le_trans (by decide) (Nat.le_add_right 5 n))) passL (by exact (pa_cons (pe_op op_sub1 (pv 1) pe_int) (pa_cons (pe_op op_addU (pe_op op_mul1 pe_int (pv 2)) pe_int) pa_nil))))))))) (pss_one (ps_set (i := 3) sc_Looker_all_in.nd rfl (Or.inl rfl) (pe_op op_addU (pv 3) (pe_methG (E := E0) (pv 0) T.cLooker G_self hr passL (by exact (pa_cons (pe_op op_sub1 (pv 1) pe_int) (pa_cons (pe_op op_addU (pe_op op_mul1 pe_int (pv 2)) pe_int) pa_nil))))))) pss_nil)
  (pss_one (ps_ret (pv 3))))))))
theorem ok_Looker_all_in (M : BM mg) (T : TxK K c) (F : MetG K c.Looker "all_in" "Looker.all_in" s_Looker_all_in ["self", "height", "number"]) (D : c.md = MD P w) (G_Looker_are_alike : MtG P w K mg base 4 c.Looker "are_alike" ["self", "height", "number"] (sp_Looker_are_alike K c)) : MtG P w K mg base 25 c.Looker "all_in" ["self", "height", "number"] (sp_Looker_all_in 20 K c) := okn_Looker_all_in M T F D G_Looker_are_alike 20
abbrev s_all_unlike : Stmt := topS 15
theorem sc_all_unlike : FnScope N_all_unlike ["one", "other"] (defScope s_all_unlike) := ⟨rfl, rfl, rfl, by decide +kernel, rfl, by decide +kernel, by decide +kernel⟩
theorem ok_all_unlike (M : BM mg) (T : TxK K c) (F : FunG K mg "all_unlike" s_all_unlike ["one", "other"]) (D : c.md = MD P w) (G_Looker_init : MkG P w K mg base 1 c.Looker "Looker" ["self", "one", "other"] (sp_Looker_init K c)) (G_parted : FnG P w K mg base 2 "parted" ["count"] (sp_parted K c)) (G_Looker_lesser : MtG P w K mg base 2 c.Looker "lesser" ["self"] (sp_Looker_lesser K c)) (G_Looker_are_alike : MtG P w K mg base 4 c.Looker "are_alike" ["self", "height", "number"] (sp_Looker_are_alike K c)) (G_Looker_all_in : MtG P w K mg base 25 c.Looker "all_in" ["self", "height", "number"] (sp_Looker_all_in 20 K c)) : FnG P w K mg base 26 "all_unlike" ["one", "other"] (sp_all_unlike K c) := by
  refine F.ok sc_all_unlike len_all_unlike (fun f cdv A outer s H vs Q E hr h => ⟨t_all_unlike K c E, ?_, pure_all_unlike T h⟩)
  exact (pss_cons (ps_set (i := 2) sc_all_unlike.nd rfl (Or.inl rfl) (pe_makeG (E := E) G_Looker_init (hr.mono (by decide)) (passE (takes_of rfl rfl rfl rfl)) (by exact (pa_cons (pv 0) (pa_cons (pv 1) pa_nil)))))
  (pss_cons (ps_set (i := 3) sc_all_unlike.nd rfl (Or.inl rfl) (pe_lst pa_nil))
  (pss_cons (ps_for (passes_of rfl) rfl (pi_list (pe_callG (E := E) G_parted (hr.mono (by decide)) (passE (takes_of rfl rfl rfl rfl)) (by exact (pa_cons (pe_methG0 (E := E) (pv 2) T.cLooker G_Looker_lesser (hr.mono (by decide)) (passE (takes_of rfl rfl rfl rfl))) pa_nil)))) (pg_tup rfl (pgs_cons (pg_name (i := 4) sc_all_unlike.nd rfl (Or.inl rfl)) (pgs_cons (pg_name (i := 5) sc_all_unlike.nd rfl (Or.inl rfl)) pgs_nil))) (pss_one (ps_if (pt_not (pt_val (pe_methG (E := E) (pv 2) T.cLooker G_Looker_are_alike (hr.mono (by decide)) (passE (takes_of rfl rfl rfl rfl)) (by exact (pa_cons (pv 4) (pa_cons (pv 5) pa_nil)))))) (pss_one (ps_set (i := 3) sc_all_unlike.nd rfl (Or.inl rfl) (pe_op op_addU (pv 3) (pe_methG (E := E) (pv 2) T.cLooker G_Looker_all_in (hr.mono (by decide)) (passE (takes_of rfl rfl rfl rfl)) (by exact (pa_cons (pv 4) (pa_cons (pv 5) pa_nil))))))) pss_nil)))
  (pss_one (ps_ret (pe_tup (pa_cons (pv 3) (pa_cons (pe_fld (pv 2) rfl) pa_nil))))))))
abbrev s_law_digits : Stmt := topS 36
theorem sc_law_digits : FnScope N_law_digits ["_law_count"] (defScope s_law_digits) := ⟨rfl, rfl, rfl, by decide +kernel, rfl, by decide +kernel, by decide +kernel⟩
theorem ok_law_digits (M : BM mg) (T : TxK K c) (F : FunG K mg "_law_digits" s_law_digits ["_law_count"]) (D : c.md = MD P w) : FnG P w K mg base 1 "_law_digits" ["_law_count"] (sp_law_digits K c) := by
  refine F.ok sc_law_digits len_law_digits (fun f cdv A outer s H vs Q E hr h => ⟨t_law_digits K c E, ?_, pure_law_digits h⟩)
  exact (pss_cons (ps_set (i := 1) sc_law_digits.nd rfl (Or.inl rfl) pe_int)
  (pss_cons (ps_while (passes_of rfl) (pt_cmpR op_gt1 (pv 0) pe_int (nomark _)) (pss_cons (ps_set (i := 0) sc_law_digits.nd rfl (Or.inl rfl) (pe_op op_div1 (pv 0) pe_int))
  (pss_one (ps_set (i := 1) sc_law_digits.nd rfl (Or.inl rfl) (pe_op op_addU (pv 1) pe_int)))))
  (pss_one (ps_ret (pv 1)))))
abbrev s_Looker_first_in : Stmt := inClass (topS 13) 3
theorem sc_Looker_first_in : FnScope N_Looker_first_in ["self", "height", "number"] (defScope s_Looker_first_in) := ⟨rfl, rfl, rfl, by decide +kernel, rfl, by decide +kernel, by decide +kernel⟩
theorem ok_Looker_first_in (M : BM mg) (T : TxK K c) (F : MetG K c.Looker "first_in" "Looker.first_in" s_Looker_first_in ["self", "height", "number"]) (D : c.md = MD P w) (G_Looker_are_alike : MtG P w K mg base 4 c.Looker "are_alike" ["self", "height", "number"] (sp_Looker_are_alike K c)) : MtG P w K mg base 5 c.Looker "first_in" ["self", "height", "number"] (sp_Looker_first_in K c) := by
  refine F.ok sc_Looker_first_in len_Looker_first_in (fun f cdv A outer s H vs Q E hr h => ⟨t_Looker_first_in K c E, ?_, pure_Looker_first_in T h⟩)
  exact (pss_cons (ps_while (passes_of rfl) (pt_cmpR op_gt1 (pv 1) pe_int (nomark _)) (pss_cons (ps_set (i := 1) sc_Looker_first_in.nd rfl (Or.inl rfl) (pe_op op_sub1 (pv 1) pe_int))
  (pss_cons (ps_set (i := 2) sc_Looker_first_in.nd rfl (Or.inl rfl) (pe_op op_mul1 pe_int (pv 2)))
  (pss_one (ps_if (pt_val (pe_methG (E := E0) (pv 0) T.cLooker G_Looker_are_alike (hr.mono (by decide)) passL (by exact (pa_cons (pv 1) (pa_cons (pv 2) pa_nil))))) (pss_one (ps_set (i := 2) sc_Looker_first_in.nd rfl (Or.inl rfl) (pe_op op_addU (pv 2) pe_int))) pss_nil)))))
  (pss_one (ps_ret (pv 2))))
abbrev s_first_unlike : Stmt := topS 14
theorem sc_first_unlike : FnScope N_first_unlike ["one", "other"] (defScope s_first_unlike) := ⟨rfl, rfl, rfl, by decide +kernel, rfl, by decide +kernel, by decide +kernel⟩
theorem ok_first_unlike (M : BM mg) (T : TxK K c) (F : FunG K mg "first_unlike" s_first_unlike ["one", "other"]) (D : c.md = MD P w) (G_Looker_init : MkG P w K mg base 1 c.Looker "Looker" ["self", "one", "other"] (sp_Looker_init K c)) (G_parted : FnG P w K mg base 2 "parted" ["count"] (sp_parted K c)) (G_Looker_lesser : MtG P w K mg base 2 c.Looker "lesser" ["self"] (sp_Looker_lesser K c)) (G_Book_count : MtG P w K mg base 1 c.Book "count" ["self"] (sp_Book_count K c)) (G_Looker_are_alike : MtG P w K mg base 4 c.Looker "are_alike" ["self", "height", "number"] (sp_Looker_are_alike K c)) (G_Looker_first_in : MtG P w K mg base 5 c.Looker "first_in" ["self", "height", "number"] (sp_Looker_first_in K c)) : FnG P w K mg base 6 "first_unlike" ["one", "other"] (sp_first_unlike K c) := by
  refine F.ok sc_first_unlike len_first_unlike (fun f cdv A outer s H vs Q E hr h => ⟨t_first_unlike K c E, ?_, pure_first_unlike T h⟩)
  exact (pss_cons (ps_set (i := 2) sc_first_unlike.nd rfl (Or.inl rfl) (pe_makeG (E := E) G_Looker_init (hr.mono (by decide)) (passE (takes_of rfl rfl rfl rfl)) (by exact (pa_cons (pv 0) (pa_cons (pv 1) pa_nil)))))
  (pss_cons (ps_for (passes_of rfl) rfl (pi_list (pe_callG (E := E) G_parted (hr.mono (by decide)) (passE (takes_of rfl rfl rfl rfl)) (by exact (pa_cons (pe_methG0 (E := E) (pv 2) T.cLooker G_Looker_lesser (hr.mono (by decide)) (passE (takes_of rfl rfl rfl rfl))) pa_nil)))) (pg_tup rfl (pgs_cons (pg_name (i := 3) sc_first_unlike.nd rfl (Or.inl rfl)) (pgs_cons (pg_name (i := 4) sc_first_unlike.nd rfl (Or.inl rfl)) pgs_nil))) (pss_one (ps_if (pt_not (pt_val (pe_methG (E := E) (pv 2) T.cLooker G_Looker_are_alike (hr.mono (by decide)) (passE (takes_of rfl rfl rfl rfl)) (by exact (pa_cons (pv 3) (pa_cons (pv 4) pa_nil)))))) (pss_one (ps_ret (pe_tup (pa_cons (pe_methG (E := E) (pv 2) T.cLooker G_Looker_first_in (hr.mono (by decide)) (passE (takes_of rfl rfl rfl rfl)) (by exact (pa_cons (pv 3) (pa_cons (pv 4) pa_nil)))) (pa_cons (pe_fld (pv 2) rfl) pa_nil))))) pss_nil)))
  (pss_cons (ps_if (pt_cmpR (op_eqU hr.units) (pe_methG0 (E := E) (pv 0) T.cBook G_Book_count (hr.mono (by decide)) (passE (takes_of rfl rfl rfl rfl))) (pe_methG0 (E := E) (pv 1) T.cBook G_Book_count (hr.mono (by decide)) (passE (takes_of rfl rfl rfl rfl))) (nomark _)) (pss_one (ps_ret (pe_tup (pa_cons pe_non (pa_cons (pe_fld (pv 2) rfl) pa_nil))))) pss_nil)
  (pss_one (ps_ret (pe_tup (pa_cons (pe_methG0 (E := E) (pv 2) T.cLooker G_Looker_lesser (hr.mono (by decide)) (passE (takes_of rfl rfl rfl rfl))) (pa_cons (pe_fld (pv 2) rfl) pa_nil))))))))
abbrev s_law_size : Stmt := topS 37
theorem sc_law_size : FnScope N_law_size ["_law_height"] (defScope s_law_size) := ⟨rfl, rfl, rfl, by decide +kernel, rfl, by decide +kernel, by decide +kernel⟩
theorem ok_law_size (M : BM mg) (T : TxK K c) (F : FunG K mg "_law_size" s_law_size ["_law_height"]) (D : c.md = MD P w) : FnG P w K mg base 1 "_law_size" ["_law_height"] (sp_law_size K c) := by
  refine F.ok sc_law_size len_law_size (fun f cdv A outer s H vs Q E hr h => ⟨t_law_size K c E, ?_, pure_law_size h⟩)
  exact (pss_cons (ps_set (i := 1) sc_law_size.nd rfl (Or.inl rfl) pe_int)
  (pss_cons (ps_for (passes_of rfl) rfl (pi_range1 (by rfl) M.range (pa_cons (pv 0) pa_nil)) (pg_name (i := 2) sc_law_size.nd rfl (Or.inl rfl)) (pss_one (ps_set (i := 1) sc_law_size.nd rfl (Or.inl rfl) (pe_op op_mul1 (pv 1) pe_int))))
  (pss_one (ps_ret (pv 1)))))
abbrev s_law_true : Stmt := topS 40
theorem sc_law_true : FnScope N_law_true ["_law_rows_here", "_law_other", "_law_looks"] (defScope s_law_true) := ⟨rfl, rfl, rfl, by decide +kernel, rfl, by decide +kernel, by decide +kernel⟩
theorem ok_law_true (M : BM mg) (T : TxK K c) (F : FunG K mg "_law_true" s_law_true ["_law_rows_here", "_law_other", "_law_looks"]) (D : c.md = MD P w) (G_law_size : FnG P w K mg base 1 "_law_size" ["_law_height"] (sp_law_size K c)) : FnG P w K mg base 2 "_law_true" ["_law_rows_here", "_law_other", "_law_looks"] (sp_law_true K c) := by
  refine F.ok sc_law_true len_law_true (fun f cdv A outer s H vs Q E hr h => ⟨t_law_true K c E, ?_, pure_law_true h⟩)
  exact (pss_cons (ps_for (passes_of rfl) rfl (pi_list (pv 2)) (pg_tup rfl (pgs_cons (pg_name (i := 3) sc_law_true.nd rfl (Or.inl rfl)) (pgs_cons (pg_name (i := 4) sc_law_true.nd rfl (Or.inl rfl)) (pgs_cons (pg_name (i := 5) sc_law_true.nd rfl (Or.inl rfl)) pgs_nil)))) (pss_cons (ps_set (i := 6) sc_law_true.nd rfl (Or.inl rfl) (pe_callG (E := E0) G_law_size (hr.mono (by decide)) passL (by exact (pa_cons (pv 3) pa_nil))))
  (pss_cons (ps_set (i := 7) sc_law_true.nd rfl (Or.inl rfl) (pe_op op_mul1 (pv 4) (pv 6)))
  (pss_cons (ps_if (pt_cmpR op_gt1 (pe_op op_addU (pv 7) (pv 6)) (pe_callB (call_min1 rfl) (by rfl) M.min (by decide +kernel) (pa_cons (pe_callB call_len1 (by rfl) M.len (by decide +kernel) (pa_cons (pv 0) pa_nil)) (pa_cons (pe_callB call_len1 (by rfl) M.len (by decide +kernel) (pa_cons (pv 1) pa_nil)) pa_nil))) (nomark _)) (pss_one (ps_ret pe_bl)) pss_nil)
  (pss_cons (ps_set (i := 8) sc_law_true.nd rfl (Or.inl rfl) (pe_slice sl_U (pv 0) (po_some (pv 7)) (po_some (pe_op op_addU (pv 7) (pv 6)))))
  (pss_one (ps_if (pt_cmpR (op_neU hr.units) (pv 5) (pe_cmpR (op_eqU hr.units) (pv 8) (pe_slice sl_U (pv 1) (po_some (pv 7)) (po_some (pe_op op_addU (pv 7) (pv 6)))) (nomark _)) (nomark _)) (pss_one (ps_ret pe_bl)) pss_nil)))))))
  (pss_one (ps_ret pe_bl)))
abbrev s_law : Stmt := topS 41
theorem sc_law : FnScope N_law ["_law_script"] (defScope s_law) := ⟨rfl, rfl, rfl, by decide +kernel, rfl, by decide +kernel, by decide +kernel⟩
theorem ok_law (M : BM mg) (T : TxK K c) {f : Addr} {fd : FuncData} (F : Fun K "law" "law" s_law f fd) (D : c.md = MD P w) (G_law_books : FnG P w K mg base 8 "_law_books" ["_law_script"] (sp_law_books K c)) (G_all_unlike : FnG P w K mg base 26 "all_unlike" ["one", "other"] (sp_all_unlike K c)) (G_law_digits : FnG P w K mg base 1 "_law_digits" ["_law_count"] (sp_law_digits K c)) (G_first_unlike : FnG P w K mg base 6 "first_unlike" ["one", "other"] (sp_first_unlike K c)) (G_law_true : FnG P w K mg base 2 "_law_true" ["_law_rows_here", "_law_other", "_law_looks"] (sp_law_true K c)) (G_law_size : FnG P w K mg base 1 "_law_size" ["_law_height"] (sp_law_size K c)) : FnOk P w K mg base (L2.CX P w) 27 f fd ["_law_script"] (sp_law K c) := by
  refine F.okX sc_law len_law (fun cdv A outer s H vs Q E hr h => ⟨t_law K c E, ?_, pure_law T h⟩)
  exact (pss_cons (ps_asg (pe_callG (E := E0) G_law_books (hr.mono (by decide)) passL (by exact (pa_cons (pv 0) pa_nil))) (pg_tup rfl (pgs_cons (pg_name (i := 1) sc_law.nd rfl (Or.inl rfl)) (pgs_cons (pg_name (i := 2) sc_law.nd rfl (Or.inl rfl)) pgs_nil))))
  (pss_cons (ps_asg (pv 2) (pg_lst rfl (pgs_cons (pg_name (i := 3) sc_law.nd rfl (Or.inr rfl)) (pgs_cons (pg_name (i := 4) sc_law.nd rfl (Or.inr rfl)) pgs_nil))))
  (pss_cons (ps_set (i := 5) sc_law.nd rfl (Or.inl rfl) (pe_callB (call_min1 rfl) (by rfl) M.min (by decide +kernel) (pa_cons (pe_callB call_len1 (by rfl) M.len (by decide +kernel) (pa_cons (pv 3) pa_nil)) (pa_cons (pe_callB call_len1 (by rfl) M.len (by decide +kernel) (pa_cons (pv 4) pa_nil)) pa_nil))))
  (pss_cons (ps_set (i := 7) sc_law.nd rfl (Or.inr rfl) (pe_lc (own := [("_law_place", 6)]) (g := (gName 6)) (tt := (tTest (tOp (rNeU K) (tOp (rIx K) (tVar 3) (tVar 6)) (tOp (rIx K) (tVar 4) (tVar 6))))) rfl sc_law.nd (pi_range1 (by rfl) M.range (pa_cons (pv 5) pa_nil)) (blkOk_by (N := N_law) (sc := defScope s_law) (by decide +kernel)) (fun _ _ _ _ _ => (pg_name (i := 6) sc_law.nd rfl (Or.inl rfl))) (fun _ _ _ _ _ => (pts_one (pt_cmpR (op_neU hr.units) (pe_ix ix_seq (pv 3) (pv 6) (fun _ _ => rfl)) (pe_ix ix_seq (pv 4) (pv 6) (fun _ _ => rfl)) (nomark _)))) (fun _ _ _ _ _ => (by exact (pv 6)))))
  (pss_cons (ps_asg (pe_callG (E := E0) G_all_unlike (hr.mono (by decide)) passL (by exact (pa_cons (pe_ix ix_seq (pv 1) pe_int (fun _ _ => rfl)) (pa_cons (pe_ix ix_seq (pv 1) pe_int (fun _ _ => rfl)) pa_nil)))) (pg_tup rfl (pgs_cons (pg_name (i := 8) sc_law.nd rfl (Or.inl rfl)) (pgs_cons (pg_name (i := 9) sc_law.nd rfl (Or.inl rfl)) pgs_nil))))
  (pss_cons (ps_set (i := 10) sc_law.nd rfl (Or.inl rfl) (pe_callG (E := E0) G_law_digits (hr.mono (by decide)) passL (by exact (pa_cons (pv 5) pa_nil))))
  (pss_cons (ps_if (PW.pt (pw_or (pt_cmpR (op_neU hr.units) (pv 8) (pv 7) (nomark _)) (pw_or1 (pt_cmpR op_gt1 (pe_callB call_len1 (by rfl) M.len (by decide +kernel) (pa_cons (pv 9) pa_nil)) (pe_op op_addU (pv 10) (pe_op op_mul1 (pe_op op_mul1 pe_int (pe_callB call_len1 (by rfl) M.len (by decide +kernel) (pa_cons (pv 7) pa_nil))) (pe_callB (call_max1 rfl) (by rfl) M.max (by decide +kernel) (pa_cons pe_int (pa_cons (pe_op op_sub1 (pv 10) pe_int) pa_nil))))) (nomark _))))) (pss_one (ps_ret pe_bl)) pss_nil)
  (pss_cons (ps_if (PW.pt (pw_or (pt_not (pt_val (pe_callG (E := E0) G_law_true (hr.mono (by decide)) passL (by exact (pa_cons (pv 3) (pa_cons (pv 4) (pa_cons (pv 9) pa_nil))))))) (pw_or1 (pt_cmpR (op_neU hr.units) (Tb.pe_lenSetT rfl hr.units (by rfl) M.len (by rfl) M.set (pe_lc (own := [("_law_look", 17)]) (g := (gName 17)) (tt := tYes) rfl sc_law.nd (pi_list (pv 9)) (blkOk_by (N := N_law) (sc := defScope s_law) (by decide +kernel)) (fun _ _ _ _ _ => (pg_name (i := 17) sc_law.nd rfl (Or.inl rfl))) (fun _ _ _ _ _ => pts_nil) (fun _ _ _ _ _ => (by exact (pe_slice sl_tup (pv 17) po_none (po_some pe_int)))))) (pe_callB call_len1 (by rfl) M.len (by decide +kernel) (pa_cons (pv 9) pa_nil)) (nomark _))))) (pss_one (ps_ret pe_bl)) pss_nil)
  (pss_cons (ps_set (i := 11) sc_law.nd rfl (Or.inl rfl) pe_dnewK)
  (pss_cons (ps_for (passes_of rfl) rfl (pi_list (pv 9)) (pg_tup rfl (pgs_cons (pg_name (i := 12) sc_law.nd rfl (Or.inl rfl)) (pgs_cons (pg_name (i := 13) sc_law.nd rfl (Or.inl rfl)) (pgs_cons (pg_name (i := 14) sc_law.nd rfl (Or.inl rfl)) pgs_nil)))) (pss_one (ps_if (pt_val (pv 14)) (pss_cons (ps_set (i := 15) sc_law.nd rfl (Or.inl rfl) (pe_callG (E := E0) G_law_size (hr.mono (by decide)) passL (by exact (pa_cons (pv 12) pa_nil))))
  (pss_one (ps_for (passes_of rfl) rfl (pi_range2 (by rfl) M.range (pa_cons (pe_op op_mul1 (pv 13) (pv 15)) (pa_cons (pe_op op_addU (pe_op op_mul1 (pv 13) (pv 15)) (pv 15)) pa_nil))) (pg_name (i := 6) sc_law.nd rfl (Or.inl rfl)) (pss_one (ps_dput (hu_of hr) (pv 11) (pv 6) pe_bl rfl))))) pss_nil)))
  (pss_cons (ps_if (pt_cmpR (op_neU hr.units) (pe_callB (cr_sortedDK rfl) (by rfl) M.sorted (by decide +kernel) (pa_cons (pv 11) pa_nil)) (pe_lc (own := [("_law_place", 6)]) (g := (gName 6)) (tt := (tTest (tOp (rIn K true) (tVar 6) (tVar 7)))) rfl sc_law.nd (pi_range1 (by rfl) M.range (pa_cons (pv 5) pa_nil)) (blkOk_by (N := N_law) (sc := defScope s_law) (by decide +kernel)) (fun _ _ _ _ _ => (pg_name (i := 6) sc_law.nd rfl (Or.inl rfl))) (fun _ _ _ _ _ => (pts_one (pt_cmpR op_notIn_seq (pv 6) (pv 7) (by rfl)))) (fun _ _ _ _ _ => (by exact (pv 6)))) (nomark _)) (pss_one (ps_ret pe_bl)) pss_nil)
  (pss_cons (ps_set (i := 16) sc_law.nd rfl (Or.inl rfl) (pe_ix ix_seq (pe_callG (E := E0) G_first_unlike (hr.mono (by decide)) passL (by exact (pa_cons (pe_ix ix_seq (pv 1) pe_int (fun _ _ => rfl)) (pa_cons (pe_ix ix_seq (pv 1) pe_int (fun _ _ => rfl)) pa_nil)))) pe_int (fun _ _ => rfl)))
  (pss_cons (ps_if (pt_cmpR (op_neU hr.units) (pv 7) (pe_lst pa_nil) (nomark _)) (pss_one (ps_ret (pe_cmpR (op_eqU hr.units) (pv 16) (pe_ix ix_seq (pv 7) pe_int (fun _ _ => rfl)) (nomark _)))) pss_nil)
  (pss_one (ps_ret (pe_cmpR (op_eqU hr.units) (pv 16) (pe_ix ix_seq (pe_lst (pa_cons (pv 5) (pa_cons pe_non pa_nil))) (pe_callTy call_int2 (by rfl) M.int (by decide +kernel) (pa_cons (pe_cmpR (op_eqU hr.units) (pe_callB call_len1 (by rfl) M.len (by decide +kernel) (pa_cons (pv 3) pa_nil)) (pe_callB call_len1 (by rfl) M.len (by decide +kernel) (pa_cons (pv 4) pa_nil)) (nomark _)) pa_nil)) (fun _ _ => rfl)) (nomark _)))))))))))))))))
end
theorem all_mk {l : PySem.W.OpenLaw} {w : World} {K : PySem.W.Frag} {h : Heap} {mg : Str → Option Value} {fa : Addr} (X : K.In h) (G : h.Ns mainGlobals mg) (hfa : mg "law" = some (.ref fa))
    {C_Ledger : Addr}
    {C_Book : Addr}
    {C_Looker : Addr}
    {C_NoRow : Addr}
    {C_NoSum : Addr}
    {C_Full : Addr}
    {C_NoPlace : Addr}
    {C_Strange : Addr}
    {C_NoBlock : Addr}
    {f_Ledger_init : Addr} {od_Ledger_init an_Ledger_init : Option Addr} {sl_Ledger_init : Array (Option Value)} {oc_Ledger_init kV_Ledger_init dc_Ledger_init pm_Ledger_init cd_Ledger_init ct_Ledger_init : Value}
    {f_law_mix : Addr} {od_law_mix an_law_mix : Option Addr} {sl_law_mix : Array (Option Value)} {oc_law_mix kV_law_mix dc_law_mix pm_law_mix cd_law_mix ct_law_mix : Value}
    {f_law_text : Addr} {od_law_text an_law_text : Option Addr} {sl_law_text : Array (Option Value)} {oc_law_text kV_law_text dc_law_text pm_law_text cd_law_text ct_law_text : Value}
    {f_law_rows : Addr} {od_law_rows an_law_rows : Option Addr} {sl_law_rows : Array (Option Value)} {oc_law_rows kV_law_rows dc_law_rows pm_law_rows cd_law_rows ct_law_rows : Value}
    {f_law_near : Addr} {od_law_near an_law_near : Option Addr} {sl_law_near : Array (Option Value)} {oc_law_near kV_law_near dc_law_near pm_law_near cd_law_near ct_law_near : Value}
    {f_law_twin : Addr} {od_law_twin an_law_twin : Option Addr} {sl_law_twin : Array (Option Value)} {oc_law_twin kV_law_twin dc_law_twin pm_law_twin cd_law_twin ct_law_twin : Value}
    {f_law_cell_at : Addr} {od_law_cell_at an_law_cell_at : Option Addr} {sl_law_cell_at : Array (Option Value)} {oc_law_cell_at kV_law_cell_at dc_law_cell_at pm_law_cell_at cd_law_cell_at ct_law_cell_at : Value}
    {f_is_row : Addr} {od_is_row an_is_row : Option Addr} {sl_is_row : Array (Option Value)} {oc_is_row kV_is_row dc_is_row pm_is_row cd_is_row ct_is_row : Value}
    {f_sure_row : Addr} {od_sure_row an_sure_row : Option Addr} {sl_sure_row : Array (Option Value)} {oc_sure_row kV_sure_row dc_sure_row pm_sure_row cd_sure_row ct_sure_row : Value}
    {f_Ledger_number_of : Addr} {od_Ledger_number_of an_Ledger_number_of : Option Addr} {sl_Ledger_number_of : Array (Option Value)} {oc_Ledger_number_of kV_Ledger_number_of dc_Ledger_number_of pm_Ledger_number_of cd_Ledger_number_of ct_Ledger_number_of : Value}
    {f_Ledger_of_row : Addr} {od_Ledger_of_row an_Ledger_of_row : Option Addr} {sl_Ledger_of_row : Array (Option Value)} {oc_Ledger_of_row kV_Ledger_of_row dc_Ledger_of_row pm_Ledger_of_row cd_Ledger_of_row ct_Ledger_of_row : Value}
    {f_is_whole : Addr} {od_is_whole an_is_whole : Option Addr} {sl_is_whole : Array (Option Value)} {oc_is_whole kV_is_whole dc_is_whole pm_is_whole cd_is_whole ct_is_whole : Value}
    {f_Ledger_sure : Addr} {od_Ledger_sure an_Ledger_sure : Option Addr} {sl_Ledger_sure : Array (Option Value)} {oc_Ledger_sure kV_Ledger_sure dc_Ledger_sure pm_Ledger_sure cd_Ledger_sure ct_Ledger_sure : Value}
    {f_Ledger_of_pair : Addr} {od_Ledger_of_pair an_Ledger_of_pair : Option Addr} {sl_Ledger_of_pair : Array (Option Value)} {oc_Ledger_of_pair kV_Ledger_of_pair dc_Ledger_of_pair pm_Ledger_of_pair cd_Ledger_of_pair ct_Ledger_of_pair : Value}
    {f_Book_half_sums : Addr} {od_Book_half_sums an_Book_half_sums : Option Addr} {sl_Book_half_sums : Array (Option Value)} {oc_Book_half_sums kV_Book_half_sums dc_Book_half_sums pm_Book_half_sums cd_Book_half_sums ct_Book_half_sums : Value}
    {f_Book_grow : Addr} {od_Book_grow an_Book_grow : Option Addr} {sl_Book_grow : Array (Option Value)} {oc_Book_grow kV_Book_grow dc_Book_grow pm_Book_grow cd_Book_grow ct_Book_grow : Value}
    {f_Book_init : Addr} {od_Book_init an_Book_init : Option Addr} {sl_Book_init : Array (Option Value)} {oc_Book_init kV_Book_init dc_Book_init pm_Book_init cd_Book_init ct_Book_init : Value}
    {f_Book_sure : Addr} {od_Book_sure an_Book_sure : Option Addr} {sl_Book_sure : Array (Option Value)} {oc_Book_sure kV_Book_sure dc_Book_sure pm_Book_sure cd_Book_sure ct_Book_sure : Value}
    {f_Book_put : Addr} {od_Book_put an_Book_put : Option Addr} {sl_Book_put : Array (Option Value)} {oc_Book_put kV_Book_put dc_Book_put pm_Book_put cd_Book_put ct_Book_put : Value}
    {f_size_of : Addr} {od_size_of an_size_of : Option Addr} {sl_size_of : Array (Option Value)} {oc_size_of kV_size_of dc_size_of pm_size_of cd_size_of ct_size_of : Value}
    {f_Book_cut : Addr} {od_Book_cut an_Book_cut : Option Addr} {sl_Book_cut : Array (Option Value)} {oc_Book_cut kV_Book_cut dc_Book_cut pm_Book_cut cd_Book_cut ct_Book_cut : Value}
    {f_Book_add : Addr} {od_Book_add an_Book_add : Option Addr} {sl_Book_add : Array (Option Value)} {oc_Book_add kV_Book_add dc_Book_add pm_Book_add cd_Book_add ct_Book_add : Value}
    {f_law_change : Addr} {od_law_change an_law_change : Option Addr} {sl_law_change : Array (Option Value)} {oc_law_change kV_law_change dc_law_change pm_law_change cd_law_change ct_law_change : Value}
    {f_law_room : Addr} {od_law_room an_law_room : Option Addr} {sl_law_room : Array (Option Value)} {oc_law_room kV_law_room dc_law_room pm_law_room cd_law_room ct_law_room : Value}
    {f_law_books : Addr} {od_law_books an_law_books : Option Addr} {sl_law_books : Array (Option Value)} {oc_law_books kV_law_books dc_law_books pm_law_books cd_law_books ct_law_books : Value}
    {f_Looker_init : Addr} {od_Looker_init an_Looker_init : Option Addr} {sl_Looker_init : Array (Option Value)} {oc_Looker_init kV_Looker_init dc_Looker_init pm_Looker_init cd_Looker_init ct_Looker_init : Value}
    {f_digits : Addr} {od_digits an_digits : Option Addr} {sl_digits : Array (Option Value)} {oc_digits kV_digits dc_digits pm_digits cd_digits ct_digits : Value}
    {f_parted : Addr} {od_parted an_parted : Option Addr} {sl_parted : Array (Option Value)} {oc_parted kV_parted dc_parted pm_parted cd_parted ct_parted : Value}
    {f_Book_count : Addr} {od_Book_count an_Book_count : Option Addr} {sl_Book_count : Array (Option Value)} {oc_Book_count kV_Book_count dc_Book_count pm_Book_count cd_Book_count ct_Book_count : Value}
    {f_Looker_lesser : Addr} {od_Looker_lesser an_Looker_lesser : Option Addr} {sl_Looker_lesser : Array (Option Value)} {oc_Looker_lesser kV_Looker_lesser dc_Looker_lesser pm_Looker_lesser cd_Looker_lesser ct_Looker_lesser : Value}
    {f_Book_has_block : Addr} {od_Book_has_block an_Book_has_block : Option Addr} {sl_Book_has_block : Array (Option Value)} {oc_Book_has_block kV_Book_has_block dc_Book_has_block pm_Book_has_block cd_Book_has_block ct_Book_has_block : Value}
    {f_Book_sum_of : Addr} {od_Book_sum_of an_Book_sum_of : Option Addr} {sl_Book_sum_of : Array (Option Value)} {oc_Book_sum_of kV_Book_sum_of dc_Book_sum_of pm_Book_sum_of cd_Book_sum_of ct_Book_sum_of : Value}
    {f_Looker_are_alike : Addr} {od_Looker_are_alike an_Looker_are_alike : Option Addr} {sl_Looker_are_alike : Array (Option Value)} {oc_Looker_are_alike kV_Looker_are_alike dc_Looker_are_alike pm_Looker_are_alike cd_Looker_are_alike ct_Looker_are_alike : Value}
    {f_Looker_all_in : Addr} {od_Looker_all_in an_Looker_all_in : Option Addr} {sl_Looker_all_in : Array (Option Value)} {oc_Looker_all_in kV_Looker_all_in dc_Looker_all_in pm_Looker_all_in cd_Looker_all_in ct_Looker_all_in : Value}
    {f_all_unlike : Addr} {od_all_unlike an_all_unlike : Option Addr} {sl_all_unlike : Array (Option Value)} {oc_all_unlike kV_all_unlike dc_all_unlike pm_all_unlike cd_all_unlike ct_all_unlike : Value}
    {f_law_digits : Addr} {od_law_digits an_law_digits : Option Addr} {sl_law_digits : Array (Option Value)} {oc_law_digits kV_law_digits dc_law_digits pm_law_digits cd_law_digits ct_law_digits : Value}
    {f_Looker_first_in : Addr} {od_Looker_first_in an_Looker_first_in : Option Addr} {sl_Looker_first_in : Array (Option Value)} {oc_Looker_first_in kV_Looker_first_in dc_Looker_first_in pm_Looker_first_in cd_Looker_first_in ct_Looker_first_in : Value}
    {f_first_unlike : Addr} {od_first_unlike an_first_unlike : Option Addr} {sl_first_unlike : Array (Option Value)} {oc_first_unlike kV_first_unlike dc_first_unlike pm_first_unlike cd_first_unlike ct_first_unlike : Value}
    {f_law_size : Addr} {od_law_size an_law_size : Option Addr} {sl_law_size : Array (Option Value)} {oc_law_size kV_law_size dc_law_size pm_law_size cd_law_size ct_law_size : Value}
    {f_law_true : Addr} {od_law_true an_law_true : Option Addr} {sl_law_true : Array (Option Value)} {oc_law_true kV_law_true dc_law_true pm_law_true cd_law_true ct_law_true : Value}
    {f_law : Addr} {od_law an_law : Option Addr} {sl_law : Array (Option Value)} {oc_law kV_law dc_law pm_law cd_law ct_law : Value}
    {tk_MOST_ROWS : Tok}
    {tk_MOST_SIGNS : Tok}
    {tk_SIGNS : Tok}
    (a_Ledger : PySem.W.nsIn K mainGlobals "Ledger" = some (some (.ref C_Ledger)))
    (pg_Ledger : PySem.W.plainGet K C_Ledger Str.empty = true)
    (hd_Ledger : PySem.W.hasDictIn K C_Ledger = true)
    (po_Ledger : PySem.W.plainOver K C_Ledger = true)
    (sa_Ledger : PySem.W.findIn K (.ref C_Ledger) "__setattr__" = some (some (.builtin "object.__setattr__")))
    (mk_Ledger : PySem.W.makesIn K C_Ledger = true)
    (kc_Ledger : PySem.W.keepIn K (.ref C_Ledger) = true)
    (nf_Ledger_given : PySem.W.findIn K (.ref C_Ledger) "given" = some none)
    (nf_Ledger_things : PySem.W.findIn K (.ref C_Ledger) "things" = some none)
    (a_Book : PySem.W.nsIn K mainGlobals "Book" = some (some (.ref C_Book)))
    (pg_Book : PySem.W.plainGet K C_Book Str.empty = true)
    (hd_Book : PySem.W.hasDictIn K C_Book = true)
    (po_Book : PySem.W.plainOver K C_Book = true)
    (sa_Book : PySem.W.findIn K (.ref C_Book) "__setattr__" = some (some (.builtin "object.__setattr__")))
    (mk_Book : PySem.W.makesIn K C_Book = true)
    (kc_Book : PySem.W.keepIn K (.ref C_Book) = true)
    (nf_Book_ledger : PySem.W.findIn K (.ref C_Book) "ledger" = some none)
    (nf_Book_lines : PySem.W.findIn K (.ref C_Book) "lines" = some none)
    (nf_Book_levels : PySem.W.findIn K (.ref C_Book) "levels" = some none)
    (a_Looker : PySem.W.nsIn K mainGlobals "Looker" = some (some (.ref C_Looker)))
    (pg_Looker : PySem.W.plainGet K C_Looker Str.empty = true)
    (hd_Looker : PySem.W.hasDictIn K C_Looker = true)
    (po_Looker : PySem.W.plainOver K C_Looker = true)
    (sa_Looker : PySem.W.findIn K (.ref C_Looker) "__setattr__" = some (some (.builtin "object.__setattr__")))
    (mk_Looker : PySem.W.makesIn K C_Looker = true)
    (kc_Looker : PySem.W.keepIn K (.ref C_Looker) = true)
    (nf_Looker_one : PySem.W.findIn K (.ref C_Looker) "one" = some none)
    (nf_Looker_other : PySem.W.findIn K (.ref C_Looker) "other" = some none)
    (nf_Looker_looks : PySem.W.findIn K (.ref C_Looker) "looks" = some none)
    (a_NoRow : PySem.W.nsIn K mainGlobals "NoRow" = some (some (.ref C_NoRow)))
    (xP_NoRow : PySem.W.excIn K C_NoRow [.type "ValueError", .type "Exception", .type "BaseException", .type "object"] "ValueError.__new__" = true)
    (kP_NoRow : PySem.W.keepIn K (.ref C_NoRow) = true)
    (bP_NoRow : PySem.W.subIn K (.ref C_NoRow) (.type "BaseException") = some true)
    (tP_NoRow : PySem.W.typeIn K (.ref C_NoRow) = some (.type "type"))
    (a_NoSum : PySem.W.nsIn K mainGlobals "NoSum" = some (some (.ref C_NoSum)))
    (xP_NoSum : PySem.W.excIn K C_NoSum [.type "ValueError", .type "Exception", .type "BaseException", .type "object"] "ValueError.__new__" = true)
    (kP_NoSum : PySem.W.keepIn K (.ref C_NoSum) = true)
    (bP_NoSum : PySem.W.subIn K (.ref C_NoSum) (.type "BaseException") = some true)
    (tP_NoSum : PySem.W.typeIn K (.ref C_NoSum) = some (.type "type"))
    (a_Full : PySem.W.nsIn K mainGlobals "Full" = some (some (.ref C_Full)))
    (xP_Full : PySem.W.excIn K C_Full [.type "ValueError", .type "Exception", .type "BaseException", .type "object"] "ValueError.__new__" = true)
    (kP_Full : PySem.W.keepIn K (.ref C_Full) = true)
    (bP_Full : PySem.W.subIn K (.ref C_Full) (.type "BaseException") = some true)
    (tP_Full : PySem.W.typeIn K (.ref C_Full) = some (.type "type"))
    (a_NoPlace : PySem.W.nsIn K mainGlobals "NoPlace" = some (some (.ref C_NoPlace)))
    (xP_NoPlace : PySem.W.excIn K C_NoPlace [.type "ValueError", .type "Exception", .type "BaseException", .type "object"] "ValueError.__new__" = true)
    (kP_NoPlace : PySem.W.keepIn K (.ref C_NoPlace) = true)
    (bP_NoPlace : PySem.W.subIn K (.ref C_NoPlace) (.type "BaseException") = some true)
    (tP_NoPlace : PySem.W.typeIn K (.ref C_NoPlace) = some (.type "type"))
    (a_Strange : PySem.W.nsIn K mainGlobals "Strange" = some (some (.ref C_Strange)))
    (xP_Strange : PySem.W.excIn K C_Strange [.type "ValueError", .type "Exception", .type "BaseException", .type "object"] "ValueError.__new__" = true)
    (kP_Strange : PySem.W.keepIn K (.ref C_Strange) = true)
    (bP_Strange : PySem.W.subIn K (.ref C_Strange) (.type "BaseException") = some true)
    (tP_Strange : PySem.W.typeIn K (.ref C_Strange) = some (.type "type"))
    (a_NoBlock : PySem.W.nsIn K mainGlobals "NoBlock" = some (some (.ref C_NoBlock)))
    (xP_NoBlock : PySem.W.excIn K C_NoBlock [.type "ValueError", .type "Exception", .type "BaseException", .type "object"] "ValueError.__new__" = true)
    (kP_NoBlock : PySem.W.keepIn K (.ref C_NoBlock) = true)
    (bP_NoBlock : PySem.W.subIn K (.ref C_NoBlock) (.type "BaseException") = some true)
    (tP_NoBlock : PySem.W.typeIn K (.ref C_NoBlock) = some (.type "type"))
    (pm_Ledger : PySem.W.mroIn K C_Ledger (.type "object") = some true)
    (pe_Ledger : PySem.W.findIn K (.ref C_Ledger) "__eq__" = some (some (.builtin "object.__eq__")))
    (pn_Ledger : PySem.W.findIn K (.ref C_Ledger) "__ne__" = some (some (.builtin "object.__ne__")))
    (a_Ledger_init : PySem.W.findIn K (.ref C_Ledger) "__init__" = some (some (.ref f_Ledger_init)))
    (i_Ledger_init : PySem.W.isFn K (.ref f_Ledger_init) = true)
    (l_Ledger_init : K.lookup f_Ledger_init = some ⟨oc_Ledger_init, od_Ledger_init, .func (PySem.W.fnOf "__init__" "Ledger.__init__" (defArgs s_Ledger_init) (defBody s_Ledger_init) (defScope s_Ledger_init) .none kV_Ledger_init dc_Ledger_init pm_Ledger_init an_Ledger_init cd_Ledger_init ct_Ledger_init), sl_Ledger_init⟩)
    (c_Ledger_init : PySem.W.codeIn K cd_Ledger_init "Ledger.__init__" = true)
    (k_Ledger_init : PySem.W.keepIn K (.ref f_Ledger_init) = true)
    (a_law_mix : PySem.W.nsIn K mainGlobals "_law_mix" = some (some (.ref f_law_mix)))
    (l_law_mix : K.lookup f_law_mix = some ⟨oc_law_mix, od_law_mix, .func (PySem.W.fnOf "_law_mix" "_law_mix" (defArgs s_law_mix) (defBody s_law_mix) (defScope s_law_mix) .none kV_law_mix dc_law_mix pm_law_mix an_law_mix cd_law_mix ct_law_mix), sl_law_mix⟩)
    (c_law_mix : PySem.W.codeIn K cd_law_mix "_law_mix" = true)
    (k_law_mix : PySem.W.keepIn K (.ref f_law_mix) = true)
    (a_law_text : PySem.W.nsIn K mainGlobals "_law_text" = some (some (.ref f_law_text)))
    (l_law_text : K.lookup f_law_text = some ⟨oc_law_text, od_law_text, .func (PySem.W.fnOf "_law_text" "_law_text" (defArgs s_law_text) (defBody s_law_text) (defScope s_law_text) .none kV_law_text dc_law_text pm_law_text an_law_text cd_law_text ct_law_text), sl_law_text⟩)
    (c_law_text : PySem.W.codeIn K cd_law_text "_law_text" = true)
    (k_law_text : PySem.W.keepIn K (.ref f_law_text) = true)
    (a_law_rows : PySem.W.nsIn K mainGlobals "_law_rows" = some (some (.ref f_law_rows)))
    (l_law_rows : K.lookup f_law_rows = some ⟨oc_law_rows, od_law_rows, .func (PySem.W.fnOf "_law_rows" "_law_rows" (defArgs s_law_rows) (defBody s_law_rows) (defScope s_law_rows) .none kV_law_rows dc_law_rows pm_law_rows an_law_rows cd_law_rows ct_law_rows), sl_law_rows⟩)
    (c_law_rows : PySem.W.codeIn K cd_law_rows "_law_rows" = true)
    (k_law_rows : PySem.W.keepIn K (.ref f_law_rows) = true)
    (a_law_near : PySem.W.nsIn K mainGlobals "_law_near" = some (some (.ref f_law_near)))
    (l_law_near : K.lookup f_law_near = some ⟨oc_law_near, od_law_near, .func (PySem.W.fnOf "_law_near" "_law_near" (defArgs s_law_near) (defBody s_law_near) (defScope s_law_near) .none kV_law_near dc_law_near pm_law_near an_law_near cd_law_near ct_law_near), sl_law_near⟩)
    (c_law_near : PySem.W.codeIn K cd_law_near "_law_near" = true)
    (k_law_near : PySem.W.keepIn K (.ref f_law_near) = true)
    (a_law_twin : PySem.W.nsIn K mainGlobals "_law_twin" = some (some (.ref f_law_twin)))
    (l_law_twin : K.lookup f_law_twin = some ⟨oc_law_twin, od_law_twin, .func (PySem.W.fnOf "_law_twin" "_law_twin" (defArgs s_law_twin) (defBody s_law_twin) (defScope s_law_twin) .none kV_law_twin dc_law_twin pm_law_twin an_law_twin cd_law_twin ct_law_twin), sl_law_twin⟩)
    (c_law_twin : PySem.W.codeIn K cd_law_twin "_law_twin" = true)
    (k_law_twin : PySem.W.keepIn K (.ref f_law_twin) = true)
    (a_law_cell_at : PySem.W.nsIn K mainGlobals "_law_cell_at" = some (some (.ref f_law_cell_at)))
    (l_law_cell_at : K.lookup f_law_cell_at = some ⟨oc_law_cell_at, od_law_cell_at, .func (PySem.W.fnOf "_law_cell_at" "_law_cell_at" (defArgs s_law_cell_at) (defBody s_law_cell_at) (defScope s_law_cell_at) .none kV_law_cell_at dc_law_cell_at pm_law_cell_at an_law_cell_at cd_law_cell_at ct_law_cell_at), sl_law_cell_at⟩)
    (c_law_cell_at : PySem.W.codeIn K cd_law_cell_at "_law_cell_at" = true)
    (k_law_cell_at : PySem.W.keepIn K (.ref f_law_cell_at) = true)
    (a_is_row : PySem.W.nsIn K mainGlobals "is_row" = some (some (.ref f_is_row)))
    (l_is_row : K.lookup f_is_row = some ⟨oc_is_row, od_is_row, .func (PySem.W.fnOf "is_row" "is_row" (defArgs s_is_row) (defBody s_is_row) (defScope s_is_row) .none kV_is_row dc_is_row pm_is_row an_is_row cd_is_row ct_is_row), sl_is_row⟩)
    (c_is_row : PySem.W.codeIn K cd_is_row "is_row" = true)
    (k_is_row : PySem.W.keepIn K (.ref f_is_row) = true)
    (a_sure_row : PySem.W.nsIn K mainGlobals "sure_row" = some (some (.ref f_sure_row)))
    (l_sure_row : K.lookup f_sure_row = some ⟨oc_sure_row, od_sure_row, .func (PySem.W.fnOf "sure_row" "sure_row" (defArgs s_sure_row) (defBody s_sure_row) (defScope s_sure_row) .none kV_sure_row dc_sure_row pm_sure_row an_sure_row cd_sure_row ct_sure_row), sl_sure_row⟩)
    (c_sure_row : PySem.W.codeIn K cd_sure_row "sure_row" = true)
    (k_sure_row : PySem.W.keepIn K (.ref f_sure_row) = true)
    (a_Ledger_number_of : PySem.W.findIn K (.ref C_Ledger) "number_of" = some (some (.ref f_Ledger_number_of)))
    (i_Ledger_number_of : PySem.W.isFn K (.ref f_Ledger_number_of) = true)
    (l_Ledger_number_of : K.lookup f_Ledger_number_of = some ⟨oc_Ledger_number_of, od_Ledger_number_of, .func (PySem.W.fnOf "number_of" "Ledger.number_of" (defArgs s_Ledger_number_of) (defBody s_Ledger_number_of) (defScope s_Ledger_number_of) .none kV_Ledger_number_of dc_Ledger_number_of pm_Ledger_number_of an_Ledger_number_of cd_Ledger_number_of ct_Ledger_number_of), sl_Ledger_number_of⟩)
    (c_Ledger_number_of : PySem.W.codeIn K cd_Ledger_number_of "Ledger.number_of" = true)
    (k_Ledger_number_of : PySem.W.keepIn K (.ref f_Ledger_number_of) = true)
    (a_Ledger_of_row : PySem.W.findIn K (.ref C_Ledger) "of_row" = some (some (.ref f_Ledger_of_row)))
    (i_Ledger_of_row : PySem.W.isFn K (.ref f_Ledger_of_row) = true)
    (l_Ledger_of_row : K.lookup f_Ledger_of_row = some ⟨oc_Ledger_of_row, od_Ledger_of_row, .func (PySem.W.fnOf "of_row" "Ledger.of_row" (defArgs s_Ledger_of_row) (defBody s_Ledger_of_row) (defScope s_Ledger_of_row) .none kV_Ledger_of_row dc_Ledger_of_row pm_Ledger_of_row an_Ledger_of_row cd_Ledger_of_row ct_Ledger_of_row), sl_Ledger_of_row⟩)
    (c_Ledger_of_row : PySem.W.codeIn K cd_Ledger_of_row "Ledger.of_row" = true)
    (k_Ledger_of_row : PySem.W.keepIn K (.ref f_Ledger_of_row) = true)
    (a_is_whole : PySem.W.nsIn K mainGlobals "is_whole" = some (some (.ref f_is_whole)))
    (l_is_whole : K.lookup f_is_whole = some ⟨oc_is_whole, od_is_whole, .func (PySem.W.fnOf "is_whole" "is_whole" (defArgs s_is_whole) (defBody s_is_whole) (defScope s_is_whole) .none kV_is_whole dc_is_whole pm_is_whole an_is_whole cd_is_whole ct_is_whole), sl_is_whole⟩)
    (c_is_whole : PySem.W.codeIn K cd_is_whole "is_whole" = true)
    (k_is_whole : PySem.W.keepIn K (.ref f_is_whole) = true)
    (a_Ledger_sure : PySem.W.findIn K (.ref C_Ledger) "sure" = some (some (.ref f_Ledger_sure)))
    (i_Ledger_sure : PySem.W.isFn K (.ref f_Ledger_sure) = true)
    (l_Ledger_sure : K.lookup f_Ledger_sure = some ⟨oc_Ledger_sure, od_Ledger_sure, .func (PySem.W.fnOf "sure" "Ledger.sure" (defArgs s_Ledger_sure) (defBody s_Ledger_sure) (defScope s_Ledger_sure) .none kV_Ledger_sure dc_Ledger_sure pm_Ledger_sure an_Ledger_sure cd_Ledger_sure ct_Ledger_sure), sl_Ledger_sure⟩)
    (c_Ledger_sure : PySem.W.codeIn K cd_Ledger_sure "Ledger.sure" = true)
    (k_Ledger_sure : PySem.W.keepIn K (.ref f_Ledger_sure) = true)
    (a_Ledger_of_pair : PySem.W.findIn K (.ref C_Ledger) "of_pair" = some (some (.ref f_Ledger_of_pair)))
    (i_Ledger_of_pair : PySem.W.isFn K (.ref f_Ledger_of_pair) = true)
    (l_Ledger_of_pair : K.lookup f_Ledger_of_pair = some ⟨oc_Ledger_of_pair, od_Ledger_of_pair, .func (PySem.W.fnOf "of_pair" "Ledger.of_pair" (defArgs s_Ledger_of_pair) (defBody s_Ledger_of_pair) (defScope s_Ledger_of_pair) .none kV_Ledger_of_pair dc_Ledger_of_pair pm_Ledger_of_pair an_Ledger_of_pair cd_Ledger_of_pair ct_Ledger_of_pair), sl_Ledger_of_pair⟩)
    (c_Ledger_of_pair : PySem.W.codeIn K cd_Ledger_of_pair "Ledger.of_pair" = true)
    (k_Ledger_of_pair : PySem.W.keepIn K (.ref f_Ledger_of_pair) = true)
    (a_Book_half_sums : PySem.W.findIn K (.ref C_Book) "half_sums" = some (some (.ref f_Book_half_sums)))
    (i_Book_half_sums : PySem.W.isFn K (.ref f_Book_half_sums) = true)
    (l_Book_half_sums : K.lookup f_Book_half_sums = some ⟨oc_Book_half_sums, od_Book_half_sums, .func (PySem.W.fnOf "half_sums" "Book.half_sums" (defArgs s_Book_half_sums) (defBody s_Book_half_sums) (defScope s_Book_half_sums) .none kV_Book_half_sums dc_Book_half_sums pm_Book_half_sums an_Book_half_sums cd_Book_half_sums ct_Book_half_sums), sl_Book_half_sums⟩)
    (c_Book_half_sums : PySem.W.codeIn K cd_Book_half_sums "Book.half_sums" = true)
    (k_Book_half_sums : PySem.W.keepIn K (.ref f_Book_half_sums) = true)
    (a_Book_grow : PySem.W.findIn K (.ref C_Book) "grow" = some (some (.ref f_Book_grow)))
    (i_Book_grow : PySem.W.isFn K (.ref f_Book_grow) = true)
    (l_Book_grow : K.lookup f_Book_grow = some ⟨oc_Book_grow, od_Book_grow, .func (PySem.W.fnOf "grow" "Book.grow" (defArgs s_Book_grow) (defBody s_Book_grow) (defScope s_Book_grow) .none kV_Book_grow dc_Book_grow pm_Book_grow an_Book_grow cd_Book_grow ct_Book_grow), sl_Book_grow⟩)
    (c_Book_grow : PySem.W.codeIn K cd_Book_grow "Book.grow" = true)
    (k_Book_grow : PySem.W.keepIn K (.ref f_Book_grow) = true)
    (a_Book_init : PySem.W.findIn K (.ref C_Book) "__init__" = some (some (.ref f_Book_init)))
    (i_Book_init : PySem.W.isFn K (.ref f_Book_init) = true)
    (l_Book_init : K.lookup f_Book_init = some ⟨oc_Book_init, od_Book_init, .func (PySem.W.fnOf "__init__" "Book.__init__" (defArgs s_Book_init) (defBody s_Book_init) (defScope s_Book_init) .none kV_Book_init dc_Book_init pm_Book_init an_Book_init cd_Book_init ct_Book_init), sl_Book_init⟩)
    (c_Book_init : PySem.W.codeIn K cd_Book_init "Book.__init__" = true)
    (k_Book_init : PySem.W.keepIn K (.ref f_Book_init) = true)
    (a_Book_sure : PySem.W.findIn K (.ref C_Book) "sure" = some (some (.ref f_Book_sure)))
    (i_Book_sure : PySem.W.isFn K (.ref f_Book_sure) = true)
    (l_Book_sure : K.lookup f_Book_sure = some ⟨oc_Book_sure, od_Book_sure, .func (PySem.W.fnOf "sure" "Book.sure" (defArgs s_Book_sure) (defBody s_Book_sure) (defScope s_Book_sure) .none kV_Book_sure dc_Book_sure pm_Book_sure an_Book_sure cd_Book_sure ct_Book_sure), sl_Book_sure⟩)
    (c_Book_sure : PySem.W.codeIn K cd_Book_sure "Book.sure" = true)
    (k_Book_sure : PySem.W.keepIn K (.ref f_Book_sure) = true)
    (a_Book_put : PySem.W.findIn K (.ref C_Book) "put" = some (some (.ref f_Book_put)))
    (i_Book_put : PySem.W.isFn K (.ref f_Book_put) = true)
    (l_Book_put : K.lookup f_Book_put = some ⟨oc_Book_put, od_Book_put, .func (PySem.W.fnOf "put" "Book.put" (defArgs s_Book_put) (defBody s_Book_put) (defScope s_Book_put) .none kV_Book_put dc_Book_put pm_Book_put an_Book_put cd_Book_put ct_Book_put), sl_Book_put⟩)
    (c_Book_put : PySem.W.codeIn K cd_Book_put "Book.put" = true)
    (k_Book_put : PySem.W.keepIn K (.ref f_Book_put) = true)
    (a_size_of : PySem.W.nsIn K mainGlobals "size_of" = some (some (.ref f_size_of)))
    (l_size_of : K.lookup f_size_of = some ⟨oc_size_of, od_size_of, .func (PySem.W.fnOf "size_of" "size_of" (defArgs s_size_of) (defBody s_size_of) (defScope s_size_of) .none kV_size_of dc_size_of pm_size_of an_size_of cd_size_of ct_size_of), sl_size_of⟩)
    (c_size_of : PySem.W.codeIn K cd_size_of "size_of" = true)
    (k_size_of : PySem.W.keepIn K (.ref f_size_of) = true)
    (a_Book_cut : PySem.W.findIn K (.ref C_Book) "cut" = some (some (.ref f_Book_cut)))
    (i_Book_cut : PySem.W.isFn K (.ref f_Book_cut) = true)
    (l_Book_cut : K.lookup f_Book_cut = some ⟨oc_Book_cut, od_Book_cut, .func (PySem.W.fnOf "cut" "Book.cut" (defArgs s_Book_cut) (defBody s_Book_cut) (defScope s_Book_cut) .none kV_Book_cut dc_Book_cut pm_Book_cut an_Book_cut cd_Book_cut ct_Book_cut), sl_Book_cut⟩)
    (c_Book_cut : PySem.W.codeIn K cd_Book_cut "Book.cut" = true)
    (k_Book_cut : PySem.W.keepIn K (.ref f_Book_cut) = true)
    (a_Book_add : PySem.W.findIn K (.ref C_Book) "add" = some (some (.ref f_Book_add)))
    (i_Book_add : PySem.W.isFn K (.ref f_Book_add) = true)
    (l_Book_add : K.lookup f_Book_add = some ⟨oc_Book_add, od_Book_add, .func (PySem.W.fnOf "add" "Book.add" (defArgs s_Book_add) (defBody s_Book_add) (defScope s_Book_add) .none kV_Book_add dc_Book_add pm_Book_add an_Book_add cd_Book_add ct_Book_add), sl_Book_add⟩)
    (c_Book_add : PySem.W.codeIn K cd_Book_add "Book.add" = true)
    (k_Book_add : PySem.W.keepIn K (.ref f_Book_add) = true)
    (a_law_change : PySem.W.nsIn K mainGlobals "_law_change" = some (some (.ref f_law_change)))
    (l_law_change : K.lookup f_law_change = some ⟨oc_law_change, od_law_change, .func (PySem.W.fnOf "_law_change" "_law_change" (defArgs s_law_change) (defBody s_law_change) (defScope s_law_change) .none kV_law_change dc_law_change pm_law_change an_law_change cd_law_change ct_law_change), sl_law_change⟩)
    (c_law_change : PySem.W.codeIn K cd_law_change "_law_change" = true)
    (k_law_change : PySem.W.keepIn K (.ref f_law_change) = true)
    (a_law_room : PySem.W.nsIn K mainGlobals "_law_room" = some (some (.ref f_law_room)))
    (l_law_room : K.lookup f_law_room = some ⟨oc_law_room, od_law_room, .func (PySem.W.fnOf "_law_room" "_law_room" (defArgs s_law_room) (defBody s_law_room) (defScope s_law_room) .none kV_law_room dc_law_room pm_law_room an_law_room cd_law_room ct_law_room), sl_law_room⟩)
    (c_law_room : PySem.W.codeIn K cd_law_room "_law_room" = true)
    (k_law_room : PySem.W.keepIn K (.ref f_law_room) = true)
    (a_law_books : PySem.W.nsIn K mainGlobals "_law_books" = some (some (.ref f_law_books)))
    (l_law_books : K.lookup f_law_books = some ⟨oc_law_books, od_law_books, .func (PySem.W.fnOf "_law_books" "_law_books" (defArgs s_law_books) (defBody s_law_books) (defScope s_law_books) .none kV_law_books dc_law_books pm_law_books an_law_books cd_law_books ct_law_books), sl_law_books⟩)
    (c_law_books : PySem.W.codeIn K cd_law_books "_law_books" = true)
    (k_law_books : PySem.W.keepIn K (.ref f_law_books) = true)
    (a_Looker_init : PySem.W.findIn K (.ref C_Looker) "__init__" = some (some (.ref f_Looker_init)))
    (i_Looker_init : PySem.W.isFn K (.ref f_Looker_init) = true)
    (l_Looker_init : K.lookup f_Looker_init = some ⟨oc_Looker_init, od_Looker_init, .func (PySem.W.fnOf "__init__" "Looker.__init__" (defArgs s_Looker_init) (defBody s_Looker_init) (defScope s_Looker_init) .none kV_Looker_init dc_Looker_init pm_Looker_init an_Looker_init cd_Looker_init ct_Looker_init), sl_Looker_init⟩)
    (c_Looker_init : PySem.W.codeIn K cd_Looker_init "Looker.__init__" = true)
    (k_Looker_init : PySem.W.keepIn K (.ref f_Looker_init) = true)
    (a_digits : PySem.W.nsIn K mainGlobals "digits" = some (some (.ref f_digits)))
    (l_digits : K.lookup f_digits = some ⟨oc_digits, od_digits, .func (PySem.W.fnOf "digits" "digits" (defArgs s_digits) (defBody s_digits) (defScope s_digits) .none kV_digits dc_digits pm_digits an_digits cd_digits ct_digits), sl_digits⟩)
    (c_digits : PySem.W.codeIn K cd_digits "digits" = true)
    (k_digits : PySem.W.keepIn K (.ref f_digits) = true)
    (a_parted : PySem.W.nsIn K mainGlobals "parted" = some (some (.ref f_parted)))
    (l_parted : K.lookup f_parted = some ⟨oc_parted, od_parted, .func (PySem.W.fnOf "parted" "parted" (defArgs s_parted) (defBody s_parted) (defScope s_parted) .none kV_parted dc_parted pm_parted an_parted cd_parted ct_parted), sl_parted⟩)
    (c_parted : PySem.W.codeIn K cd_parted "parted" = true)
    (k_parted : PySem.W.keepIn K (.ref f_parted) = true)
    (a_Book_count : PySem.W.findIn K (.ref C_Book) "count" = some (some (.ref f_Book_count)))
    (i_Book_count : PySem.W.isFn K (.ref f_Book_count) = true)
    (l_Book_count : K.lookup f_Book_count = some ⟨oc_Book_count, od_Book_count, .func (PySem.W.fnOf "count" "Book.count" (defArgs s_Book_count) (defBody s_Book_count) (defScope s_Book_count) .none kV_Book_count dc_Book_count pm_Book_count an_Book_count cd_Book_count ct_Book_count), sl_Book_count⟩)
    (c_Book_count : PySem.W.codeIn K cd_Book_count "Book.count" = true)
    (k_Book_count : PySem.W.keepIn K (.ref f_Book_count) = true)
    (a_Looker_lesser : PySem.W.findIn K (.ref C_Looker) "lesser" = some (some (.ref f_Looker_lesser)))
    (i_Looker_lesser : PySem.W.isFn K (.ref f_Looker_lesser) = true)
    (l_Looker_lesser : K.lookup f_Looker_lesser = some ⟨oc_Looker_lesser, od_Looker_lesser, .func (PySem.W.fnOf "lesser" "Looker.lesser" (defArgs s_Looker_lesser) (defBody s_Looker_lesser) (defScope s_Looker_lesser) .none kV_Looker_lesser dc_Looker_lesser pm_Looker_lesser an_Looker_lesser cd_Looker_lesser ct_Looker_lesser), sl_Looker_lesser⟩)
    (c_Looker_lesser : PySem.W.codeIn K cd_Looker_lesser "Looker.lesser" = true)
    (k_Looker_lesser : PySem.W.keepIn K (.ref f_Looker_lesser) = true)
    (a_Book_has_block : PySem.W.findIn K (.ref C_Book) "has_block" = some (some (.ref f_Book_has_block)))
    (i_Book_has_block : PySem.W.isFn K (.ref f_Book_has_block) = true)
    (l_Book_has_block : K.lookup f_Book_has_block = some ⟨oc_Book_has_block, od_Book_has_block, .func (PySem.W.fnOf "has_block" "Book.has_block" (defArgs s_Book_has_block) (defBody s_Book_has_block) (defScope s_Book_has_block) .none kV_Book_has_block dc_Book_has_block pm_Book_has_block an_Book_has_block cd_Book_has_block ct_Book_has_block), sl_Book_has_block⟩)
    (c_Book_has_block : PySem.W.codeIn K cd_Book_has_block "Book.has_block" = true)
    (k_Book_has_block : PySem.W.keepIn K (.ref f_Book_has_block) = true)
    (a_Book_sum_of : PySem.W.findIn K (.ref C_Book) "sum_of" = some (some (.ref f_Book_sum_of)))
    (i_Book_sum_of : PySem.W.isFn K (.ref f_Book_sum_of) = true)
    (l_Book_sum_of : K.lookup f_Book_sum_of = some ⟨oc_Book_sum_of, od_Book_sum_of, .func (PySem.W.fnOf "sum_of" "Book.sum_of" (defArgs s_Book_sum_of) (defBody s_Book_sum_of) (defScope s_Book_sum_of) .none kV_Book_sum_of dc_Book_sum_of pm_Book_sum_of an_Book_sum_of cd_Book_sum_of ct_Book_sum_of), sl_Book_sum_of⟩)
    (c_Book_sum_of : PySem.W.codeIn K cd_Book_sum_of "Book.sum_of" = true)
    (k_Book_sum_of : PySem.W.keepIn K (.ref f_Book_sum_of) = true)
    (a_Looker_are_alike : PySem.W.findIn K (.ref C_Looker) "are_alike" = some (some (.ref f_Looker_are_alike)))
    (i_Looker_are_alike : PySem.W.isFn K (.ref f_Looker_are_alike) = true)
    (l_Looker_are_alike : K.lookup f_Looker_are_alike = some ⟨oc_Looker_are_alike, od_Looker_are_alike, .func (PySem.W.fnOf "are_alike" "Looker.are_alike" (defArgs s_Looker_are_alike) (defBody s_Looker_are_alike) (defScope s_Looker_are_alike) .none kV_Looker_are_alike dc_Looker_are_alike pm_Looker_are_alike an_Looker_are_alike cd_Looker_are_alike ct_Looker_are_alike), sl_Looker_are_alike⟩)
    (c_Looker_are_alike : PySem.W.codeIn K cd_Looker_are_alike "Looker.are_alike" = true)
    (k_Looker_are_alike : PySem.W.keepIn K (.ref f_Looker_are_alike) = true)
    (a_Looker_all_in : PySem.W.findIn K (.ref C_Looker) "all_in" = some (some (.ref f_Looker_all_in)))
    (i_Looker_all_in : PySem.W.isFn K (.ref f_Looker_all_in) = true)
    (l_Looker_all_in : K.lookup f_Looker_all_in = some ⟨oc_Looker_all_in, od_Looker_all_in, .func (PySem.W.fnOf "all_in" "Looker.all_in" (defArgs s_Looker_all_in) (defBody s_Looker_all_in) (defScope s_Looker_all_in) .none kV_Looker_all_in dc_Looker_all_in pm_Looker_all_in an_Looker_all_in cd_Looker_all_in ct_Looker_all_in), sl_Looker_all_in⟩)
    (c_Looker_all_in : PySem.W.codeIn K cd_Looker_all_in "Looker.all_in" = true)
    (k_Looker_all_in : PySem.W.keepIn K (.ref f_Looker_all_in) = true)
    (a_all_unlike : PySem.W.nsIn K mainGlobals "all_unlike" = some (some (.ref f_all_unlike)))
    (l_all_unlike : K.lookup f_all_unlike = some ⟨oc_all_unlike, od_all_unlike, .func (PySem.W.fnOf "all_unlike" "all_unlike" (defArgs s_all_unlike) (defBody s_all_unlike) (defScope s_all_unlike) .none kV_all_unlike dc_all_unlike pm_all_unlike an_all_unlike cd_all_unlike ct_all_unlike), sl_all_unlike⟩)
    (c_all_unlike : PySem.W.codeIn K cd_all_unlike "all_unlike" = true)
    (k_all_unlike : PySem.W.keepIn K (.ref f_all_unlike) = true)
    (a_law_digits : PySem.W.nsIn K mainGlobals "_law_digits" = some (some (.ref f_law_digits)))
    (l_law_digits : K.lookup f_law_digits = some ⟨oc_law_digits, od_law_digits, .func (PySem.W.fnOf "_law_digits" "_law_digits" (defArgs s_law_digits) (defBody s_law_digits) (defScope s_law_digits) .none kV_law_digits dc_law_digits pm_law_digits an_law_digits cd_law_digits ct_law_digits), sl_law_digits⟩)
    (c_law_digits : PySem.W.codeIn K cd_law_digits "_law_digits" = true)
    (k_law_digits : PySem.W.keepIn K (.ref f_law_digits) = true)
    (a_Looker_first_in : PySem.W.findIn K (.ref C_Looker) "first_in" = some (some (.ref f_Looker_first_in)))
    (i_Looker_first_in : PySem.W.isFn K (.ref f_Looker_first_in) = true)
    (l_Looker_first_in : K.lookup f_Looker_first_in = some ⟨oc_Looker_first_in, od_Looker_first_in, .func (PySem.W.fnOf "first_in" "Looker.first_in" (defArgs s_Looker_first_in) (defBody s_Looker_first_in) (defScope s_Looker_first_in) .none kV_Looker_first_in dc_Looker_first_in pm_Looker_first_in an_Looker_first_in cd_Looker_first_in ct_Looker_first_in), sl_Looker_first_in⟩)
    (c_Looker_first_in : PySem.W.codeIn K cd_Looker_first_in "Looker.first_in" = true)
    (k_Looker_first_in : PySem.W.keepIn K (.ref f_Looker_first_in) = true)
    (a_first_unlike : PySem.W.nsIn K mainGlobals "first_unlike" = some (some (.ref f_first_unlike)))
    (l_first_unlike : K.lookup f_first_unlike = some ⟨oc_first_unlike, od_first_unlike, .func (PySem.W.fnOf "first_unlike" "first_unlike" (defArgs s_first_unlike) (defBody s_first_unlike) (defScope s_first_unlike) .none kV_first_unlike dc_first_unlike pm_first_unlike an_first_unlike cd_first_unlike ct_first_unlike), sl_first_unlike⟩)
    (c_first_unlike : PySem.W.codeIn K cd_first_unlike "first_unlike" = true)
    (k_first_unlike : PySem.W.keepIn K (.ref f_first_unlike) = true)
    (a_law_size : PySem.W.nsIn K mainGlobals "_law_size" = some (some (.ref f_law_size)))
    (l_law_size : K.lookup f_law_size = some ⟨oc_law_size, od_law_size, .func (PySem.W.fnOf "_law_size" "_law_size" (defArgs s_law_size) (defBody s_law_size) (defScope s_law_size) .none kV_law_size dc_law_size pm_law_size an_law_size cd_law_size ct_law_size), sl_law_size⟩)
    (c_law_size : PySem.W.codeIn K cd_law_size "_law_size" = true)
    (k_law_size : PySem.W.keepIn K (.ref f_law_size) = true)
    (a_law_true : PySem.W.nsIn K mainGlobals "_law_true" = some (some (.ref f_law_true)))
    (l_law_true : K.lookup f_law_true = some ⟨oc_law_true, od_law_true, .func (PySem.W.fnOf "_law_true" "_law_true" (defArgs s_law_true) (defBody s_law_true) (defScope s_law_true) .none kV_law_true dc_law_true pm_law_true an_law_true cd_law_true ct_law_true), sl_law_true⟩)
    (c_law_true : PySem.W.codeIn K cd_law_true "_law_true" = true)
    (k_law_true : PySem.W.keepIn K (.ref f_law_true) = true)
    (a_law : PySem.W.nsIn K mainGlobals "law" = some (some (.ref f_law)))
    (l_law : K.lookup f_law = some ⟨oc_law, od_law, .func (PySem.W.fnOf "law" "law" (defArgs s_law) (defBody s_law) (defScope s_law) .none kV_law dc_law pm_law an_law cd_law ct_law), sl_law⟩)
    (c_law : PySem.W.codeIn K cd_law "law" = true)
    (k_law : PySem.W.keepIn K (.ref f_law) = true)
    (z_bool : PySem.W.nsIn K mainGlobals "bool" = some none)
    (z_int : PySem.W.nsIn K mainGlobals "int" = some none)
    (z_isinstance : PySem.W.nsIn K mainGlobals "isinstance" = some none)
    (z_len : PySem.W.nsIn K mainGlobals "len" = some none)
    (z_list : PySem.W.nsIn K mainGlobals "list" = some none)
    (z_max : PySem.W.nsIn K mainGlobals "max" = some none)
    (z_min : PySem.W.nsIn K mainGlobals "min" = some none)
    (z_range : PySem.W.nsIn K mainGlobals "range" = some none)
    (z_set : PySem.W.nsIn K mainGlobals "set" = some none)
    (z_sorted : PySem.W.nsIn K mainGlobals "sorted" = some none)
    (z_str : PySem.W.nsIn K mainGlobals "str" = some none)
    (z_MOST_ROWS : PySem.W.nsIn K mainGlobals "MOST_ROWS" = some (some (.int 1024 tk_MOST_ROWS)))
    (z_MOST_SIGNS : PySem.W.nsIn K mainGlobals "MOST_SIGNS" = some (some (.int 40 tk_MOST_SIGNS)))
    (z_SIGNS : PySem.W.nsIn K mainGlobals "SIGNS" = some (some (.str "abcdefghijklmnopqrstuvwxyz0123456789 " tk_SIGNS)))
    : ∃ fd : FuncData, (∀ (s : Shared) (v : Value), BindsTo s fd ⟨[v], []⟩ [("_law_script", v)]) ∧ ∀ base : Heap, K.In base → base.Ns mainGlobals mg → FnOk l.prog w K mg base (L2.CX l.prog w) 27 fa fd ["_law_script"] (sp_law K Cs.none) := by
  have e := hfa.symm.trans (PySem.W.mg_of X G a_law)
  cases e
  let c : Cs := { Ledger := C_Ledger, Book := C_Book, Looker := C_Looker, TwinError := 0, NoRow := C_NoRow, NoSum := C_NoSum, NoPlace := C_NoPlace, NoBlock := C_NoBlock, Full := C_Full, Strange := C_Strange, md := MD l.prog w }
  have D : c.md = MD l.prog w := rfl
  have M : BM mg := ⟨PySem.W.mg_none_of X G z_bool, PySem.W.mg_none_of X G z_int, PySem.W.mg_none_of X G z_isinstance, PySem.W.mg_none_of X G z_len, PySem.W.mg_none_of X G z_list, PySem.W.mg_none_of X G z_max, PySem.W.mg_none_of X G z_min, PySem.W.mg_none_of X G z_range, PySem.W.mg_none_of X G z_set, PySem.W.mg_none_of X G z_sorted, PySem.W.mg_none_of X G z_str, ⟨_, PySem.W.mg_of X G z_MOST_ROWS⟩, ⟨_, PySem.W.mg_of X G z_MOST_SIGNS⟩, ⟨_, PySem.W.mg_of X G z_SIGNS⟩⟩
  have cl_Ledger : Cls K C_Ledger := ⟨pg_Ledger, hd_Ledger, po_Ledger, sa_Ledger⟩
  have cl_Book : Cls K C_Book := ⟨pg_Book, hd_Book, po_Book, sa_Book⟩
  have cl_Looker : Cls K C_Looker := ⟨pg_Looker, hd_Looker, po_Looker, sa_Looker⟩
  have T : TxK K c := ⟨cl_Ledger, nf_Ledger_given, nf_Ledger_things, cl_Book, nf_Book_ledger, nf_Book_lines, nf_Book_levels, cl_Looker, nf_Looker_one, nf_Looker_other, nf_Looker_looks, fun d ks => ⟨_, rfl⟩, ⟨pm_Ledger, pe_Ledger, pn_Ledger⟩⟩
  have X_NoRow : ExcT K mg "NoRow" c.NoRow := ⟨PySem.W.mg_of X G a_NoRow, xP_NoRow, kP_NoRow, bP_NoRow, tP_NoRow⟩
  have X_NoSum : ExcT K mg "NoSum" c.NoSum := ⟨PySem.W.mg_of X G a_NoSum, xP_NoSum, kP_NoSum, bP_NoSum, tP_NoSum⟩
  have X_Full : ExcT K mg "Full" c.Full := ⟨PySem.W.mg_of X G a_Full, xP_Full, kP_Full, bP_Full, tP_Full⟩
  have X_NoPlace : ExcT K mg "NoPlace" c.NoPlace := ⟨PySem.W.mg_of X G a_NoPlace, xP_NoPlace, kP_NoPlace, bP_NoPlace, tP_NoPlace⟩
  have X_Strange : ExcT K mg "Strange" c.Strange := ⟨PySem.W.mg_of X G a_Strange, xP_Strange, kP_Strange, bP_Strange, tP_Strange⟩
  have X_NoBlock : ExcT K mg "NoBlock" c.NoBlock := ⟨PySem.W.mg_of X G a_NoBlock, xP_NoBlock, kP_NoBlock, bP_NoBlock, tP_NoBlock⟩
  have F_Ledger_init := fun_mk (st := s_Ledger_init) l_Ledger_init c_Ledger_init k_Ledger_init
  have b_Ledger_init := F_Ledger_init.binds (ps := ["self"]) fun _ _ _ _ _ _ us hl => match us, hl with | [_], _ => rfl
  have H_Ledger_init : IniG K mg c.Ledger "Ledger" "Ledger.__init__" s_Ledger_init ["self"] := ⟨⟨_, _, F_Ledger_init, ⟨mk_Ledger, a_Ledger_init, i_Ledger_init, kc_Ledger⟩, PySem.W.mg_of X G a_Ledger, b_Ledger_init⟩⟩
  have F_law_mix := fun_mk (st := s_law_mix) l_law_mix c_law_mix k_law_mix
  have b_law_mix := F_law_mix.binds (ps := ["_law_number", "_law_k"]) fun _ _ _ _ _ _ us hl => match us, hl with | [_, _], _ => rfl
  have H_law_mix : FunG K mg "_law_mix" s_law_mix ["_law_number", "_law_k"] := ⟨⟨_, _, F_law_mix, PySem.W.mg_of X G a_law_mix, b_law_mix⟩⟩
  have F_law_text := fun_mk (st := s_law_text) l_law_text c_law_text k_law_text
  have b_law_text := F_law_text.binds (ps := ["_law_cell"]) fun _ _ _ _ _ _ us hl => match us, hl with | [_], _ => rfl
  have H_law_text : FunG K mg "_law_text" s_law_text ["_law_cell"] := ⟨⟨_, _, F_law_text, PySem.W.mg_of X G a_law_text, b_law_text⟩⟩
  have F_law_rows := fun_mk (st := s_law_rows) l_law_rows c_law_rows k_law_rows
  have b_law_rows := F_law_rows.binds (ps := ["_law_cell", "_law_more"]) fun _ _ _ _ _ _ us hl => match us, hl with | [_, _], _ => rfl
  have H_law_rows : FunG K mg "_law_rows" s_law_rows ["_law_cell", "_law_more"] := ⟨⟨_, _, F_law_rows, PySem.W.mg_of X G a_law_rows, b_law_rows⟩⟩
  have F_law_near := fun_mk (st := s_law_near) l_law_near c_law_near k_law_near
  have b_law_near := F_law_near.binds (ps := ["_law_text_here", "_law_cell"]) fun _ _ _ _ _ _ us hl => match us, hl with | [_, _], _ => rfl
  have H_law_near : FunG K mg "_law_near" s_law_near ["_law_text_here", "_law_cell"] := ⟨⟨_, _, F_law_near, PySem.W.mg_of X G a_law_near, b_law_near⟩⟩
  have F_law_twin := fun_mk (st := s_law_twin) l_law_twin c_law_twin k_law_twin
  have b_law_twin := F_law_twin.binds (ps := ["_law_rows_here", "_law_cell"]) fun _ _ _ _ _ _ us hl => match us, hl with | [_, _], _ => rfl
  have H_law_twin : FunG K mg "_law_twin" s_law_twin ["_law_rows_here", "_law_cell"] := ⟨⟨_, _, F_law_twin, PySem.W.mg_of X G a_law_twin, b_law_twin⟩⟩
  have F_law_cell_at := fun_mk (st := s_law_cell_at) l_law_cell_at c_law_cell_at k_law_cell_at
  have b_law_cell_at := F_law_cell_at.binds (ps := ["_law_script", "_law_k"]) fun _ _ _ _ _ _ us hl => match us, hl with | [_, _], _ => rfl
  have H_law_cell_at : FunG K mg "_law_cell_at" s_law_cell_at ["_law_script", "_law_k"] := ⟨⟨_, _, F_law_cell_at, PySem.W.mg_of X G a_law_cell_at, b_law_cell_at⟩⟩
  have F_is_row := fun_mk (st := s_is_row) l_is_row c_is_row k_is_row
  have b_is_row := F_is_row.binds (ps := ["thing"]) fun _ _ _ _ _ _ us hl => match us, hl with | [_], _ => rfl
  have H_is_row : FunG K mg "is_row" s_is_row ["thing"] := ⟨⟨_, _, F_is_row, PySem.W.mg_of X G a_is_row, b_is_row⟩⟩
  have F_sure_row := fun_mk (st := s_sure_row) l_sure_row c_sure_row k_sure_row
  have b_sure_row := F_sure_row.binds (ps := ["thing"]) fun _ _ _ _ _ _ us hl => match us, hl with | [_], _ => rfl
  have H_sure_row : FunG K mg "sure_row" s_sure_row ["thing"] := ⟨⟨_, _, F_sure_row, PySem.W.mg_of X G a_sure_row, b_sure_row⟩⟩
  have F_Ledger_number_of := fun_mk (st := s_Ledger_number_of) l_Ledger_number_of c_Ledger_number_of k_Ledger_number_of
  have b_Ledger_number_of := F_Ledger_number_of.binds (ps := ["self", "thing"]) fun _ _ _ _ _ _ us hl => match us, hl with | [_, _], _ => rfl
  have H_Ledger_number_of : MetG K c.Ledger "number_of" "Ledger.number_of" s_Ledger_number_of ["self", "thing"] := ⟨⟨_, _, F_Ledger_number_of, ⟨a_Ledger_number_of, i_Ledger_number_of, k_Ledger_number_of⟩, b_Ledger_number_of⟩⟩
  have F_Ledger_of_row := fun_mk (st := s_Ledger_of_row) l_Ledger_of_row c_Ledger_of_row k_Ledger_of_row
  have b_Ledger_of_row := F_Ledger_of_row.binds (ps := ["self", "row"]) fun _ _ _ _ _ _ us hl => match us, hl with | [_, _], _ => rfl
  have H_Ledger_of_row : MetG K c.Ledger "of_row" "Ledger.of_row" s_Ledger_of_row ["self", "row"] := ⟨⟨_, _, F_Ledger_of_row, ⟨a_Ledger_of_row, i_Ledger_of_row, k_Ledger_of_row⟩, b_Ledger_of_row⟩⟩
  have F_is_whole := fun_mk (st := s_is_whole) l_is_whole c_is_whole k_is_whole
  have b_is_whole := F_is_whole.binds (ps := ["thing"]) fun _ _ _ _ _ _ us hl => match us, hl with | [_], _ => rfl
  have H_is_whole : FunG K mg "is_whole" s_is_whole ["thing"] := ⟨⟨_, _, F_is_whole, PySem.W.mg_of X G a_is_whole, b_is_whole⟩⟩
  have F_Ledger_sure := fun_mk (st := s_Ledger_sure) l_Ledger_sure c_Ledger_sure k_Ledger_sure
  have b_Ledger_sure := F_Ledger_sure.binds (ps := ["self", "number"]) fun _ _ _ _ _ _ us hl => match us, hl with | [_, _], _ => rfl
  have H_Ledger_sure : MetG K c.Ledger "sure" "Ledger.sure" s_Ledger_sure ["self", "number"] := ⟨⟨_, _, F_Ledger_sure, ⟨a_Ledger_sure, i_Ledger_sure, k_Ledger_sure⟩, b_Ledger_sure⟩⟩
  have F_Ledger_of_pair := fun_mk (st := s_Ledger_of_pair) l_Ledger_of_pair c_Ledger_of_pair k_Ledger_of_pair
  have b_Ledger_of_pair := F_Ledger_of_pair.binds (ps := ["self", "one", "other"]) fun _ _ _ _ _ _ us hl => match us, hl with | [_, _, _], _ => rfl
  have H_Ledger_of_pair : MetG K c.Ledger "of_pair" "Ledger.of_pair" s_Ledger_of_pair ["self", "one", "other"] := ⟨⟨_, _, F_Ledger_of_pair, ⟨a_Ledger_of_pair, i_Ledger_of_pair, k_Ledger_of_pair⟩, b_Ledger_of_pair⟩⟩
  have F_Book_half_sums := fun_mk (st := s_Book_half_sums) l_Book_half_sums c_Book_half_sums k_Book_half_sums
  have b_Book_half_sums := F_Book_half_sums.binds (ps := ["self", "height", "number"]) fun _ _ _ _ _ _ us hl => match us, hl with | [_, _, _], _ => rfl
  have H_Book_half_sums : MetG K c.Book "half_sums" "Book.half_sums" s_Book_half_sums ["self", "height", "number"] := ⟨⟨_, _, F_Book_half_sums, ⟨a_Book_half_sums, i_Book_half_sums, k_Book_half_sums⟩, b_Book_half_sums⟩⟩
  have F_Book_grow := fun_mk (st := s_Book_grow) l_Book_grow c_Book_grow k_Book_grow
  have b_Book_grow := F_Book_grow.binds (ps := ["self", "row"]) fun _ _ _ _ _ _ us hl => match us, hl with | [_, _], _ => rfl
  have H_Book_grow : MetG K c.Book "grow" "Book.grow" s_Book_grow ["self", "row"] := ⟨⟨_, _, F_Book_grow, ⟨a_Book_grow, i_Book_grow, k_Book_grow⟩, b_Book_grow⟩⟩
  have F_Book_init := fun_mk (st := s_Book_init) l_Book_init c_Book_init k_Book_init
  have b_Book_init := F_Book_init.binds (ps := ["self", "ledger", "rows"]) fun _ _ _ _ _ _ us hl => match us, hl with | [_, _, _], _ => rfl
  have H_Book_init : IniG K mg c.Book "Book" "Book.__init__" s_Book_init ["self", "ledger", "rows"] := ⟨⟨_, _, F_Book_init, ⟨mk_Book, a_Book_init, i_Book_init, kc_Book⟩, PySem.W.mg_of X G a_Book, b_Book_init⟩⟩
  have F_Book_sure := fun_mk (st := s_Book_sure) l_Book_sure c_Book_sure k_Book_sure
  have b_Book_sure := F_Book_sure.binds (ps := ["self", "place"]) fun _ _ _ _ _ _ us hl => match us, hl with | [_, _], _ => rfl
  have H_Book_sure : MetG K c.Book "sure" "Book.sure" s_Book_sure ["self", "place"] := ⟨⟨_, _, F_Book_sure, ⟨a_Book_sure, i_Book_sure, k_Book_sure⟩, b_Book_sure⟩⟩
  have F_Book_put := fun_mk (st := s_Book_put) l_Book_put c_Book_put k_Book_put
  have b_Book_put := F_Book_put.binds (ps := ["self", "place", "row"]) fun _ _ _ _ _ _ us hl => match us, hl with | [_, _, _], _ => rfl
  have H_Book_put : MetG K c.Book "put" "Book.put" s_Book_put ["self", "place", "row"] := ⟨⟨_, _, F_Book_put, ⟨a_Book_put, i_Book_put, k_Book_put⟩, b_Book_put⟩⟩
  have F_size_of := fun_mk (st := s_size_of) l_size_of c_size_of k_size_of
  have b_size_of := F_size_of.binds (ps := ["height"]) fun _ _ _ _ _ _ us hl => match us, hl with | [_], _ => rfl
  have H_size_of : FunG K mg "size_of" s_size_of ["height"] := ⟨⟨_, _, F_size_of, PySem.W.mg_of X G a_size_of, b_size_of⟩⟩
  have F_Book_cut := fun_mk (st := s_Book_cut) l_Book_cut c_Book_cut k_Book_cut
  have b_Book_cut := F_Book_cut.binds (ps := ["self"]) fun _ _ _ _ _ _ us hl => match us, hl with | [_], _ => rfl
  have H_Book_cut : MetG K c.Book "cut" "Book.cut" s_Book_cut ["self"] := ⟨⟨_, _, F_Book_cut, ⟨a_Book_cut, i_Book_cut, k_Book_cut⟩, b_Book_cut⟩⟩
  have F_Book_add := fun_mk (st := s_Book_add) l_Book_add c_Book_add k_Book_add
  have b_Book_add := F_Book_add.binds (ps := ["self", "row"]) fun _ _ _ _ _ _ us hl => match us, hl with | [_, _], _ => rfl
  have H_Book_add : MetG K c.Book "add" "Book.add" s_Book_add ["self", "row"] := ⟨⟨_, _, F_Book_add, ⟨a_Book_add, i_Book_add, k_Book_add⟩, b_Book_add⟩⟩
  have F_law_change := fun_mk (st := s_law_change) l_law_change c_law_change k_law_change
  have b_law_change := F_law_change.binds (ps := ["_law_book", "_law_rows_here", "_law_others", "_law_cell"]) fun _ _ _ _ _ _ us hl => match us, hl with | [_, _, _, _], _ => rfl
  have H_law_change : FunG K mg "_law_change" s_law_change ["_law_book", "_law_rows_here", "_law_others", "_law_cell"] := ⟨⟨_, _, F_law_change, PySem.W.mg_of X G a_law_change, b_law_change⟩⟩
  have F_law_room := fun_mk (st := s_law_room) l_law_room c_law_room k_law_room
  have b_law_room := F_law_room.binds (ps := ["_law_script", "_law_small", "_law_great"]) fun _ _ _ _ _ _ us hl => match us, hl with | [_, _, _], _ => rfl
  have H_law_room : FunG K mg "_law_room" s_law_room ["_law_script", "_law_small", "_law_great"] := ⟨⟨_, _, F_law_room, PySem.W.mg_of X G a_law_room, b_law_room⟩⟩
  have F_law_books := fun_mk (st := s_law_books) l_law_books c_law_books k_law_books
  have b_law_books := F_law_books.binds (ps := ["_law_script"]) fun _ _ _ _ _ _ us hl => match us, hl with | [_], _ => rfl
  have H_law_books : FunG K mg "_law_books" s_law_books ["_law_script"] := ⟨⟨_, _, F_law_books, PySem.W.mg_of X G a_law_books, b_law_books⟩⟩
  have F_Looker_init := fun_mk (st := s_Looker_init) l_Looker_init c_Looker_init k_Looker_init
  have b_Looker_init := F_Looker_init.binds (ps := ["self", "one", "other"]) fun _ _ _ _ _ _ us hl => match us, hl with | [_, _, _], _ => rfl
  have H_Looker_init : IniG K mg c.Looker "Looker" "Looker.__init__" s_Looker_init ["self", "one", "other"] := ⟨⟨_, _, F_Looker_init, ⟨mk_Looker, a_Looker_init, i_Looker_init, kc_Looker⟩, PySem.W.mg_of X G a_Looker, b_Looker_init⟩⟩
  have F_digits := fun_mk (st := s_digits) l_digits c_digits k_digits
  have b_digits := F_digits.binds (ps := ["count"]) fun _ _ _ _ _ _ us hl => match us, hl with | [_], _ => rfl
  have H_digits : FunG K mg "digits" s_digits ["count"] := ⟨⟨_, _, F_digits, PySem.W.mg_of X G a_digits, b_digits⟩⟩
  have F_parted := fun_mk (st := s_parted) l_parted c_parted k_parted
  have b_parted := F_parted.binds (ps := ["count"]) fun _ _ _ _ _ _ us hl => match us, hl with | [_], _ => rfl
  have H_parted : FunG K mg "parted" s_parted ["count"] := ⟨⟨_, _, F_parted, PySem.W.mg_of X G a_parted, b_parted⟩⟩
  have F_Book_count := fun_mk (st := s_Book_count) l_Book_count c_Book_count k_Book_count
  have b_Book_count := F_Book_count.binds (ps := ["self"]) fun _ _ _ _ _ _ us hl => match us, hl with | [_], _ => rfl
  have H_Book_count : MetG K c.Book "count" "Book.count" s_Book_count ["self"] := ⟨⟨_, _, F_Book_count, ⟨a_Book_count, i_Book_count, k_Book_count⟩, b_Book_count⟩⟩
  have F_Looker_lesser := fun_mk (st := s_Looker_lesser) l_Looker_lesser c_Looker_lesser k_Looker_lesser
  have b_Looker_lesser := F_Looker_lesser.binds (ps := ["self"]) fun _ _ _ _ _ _ us hl => match us, hl with | [_], _ => rfl
  have H_Looker_lesser : MetG K c.Looker "lesser" "Looker.lesser" s_Looker_lesser ["self"] := ⟨⟨_, _, F_Looker_lesser, ⟨a_Looker_lesser, i_Looker_lesser, k_Looker_lesser⟩, b_Looker_lesser⟩⟩
  have F_Book_has_block := fun_mk (st := s_Book_has_block) l_Book_has_block c_Book_has_block k_Book_has_block
  have b_Book_has_block := F_Book_has_block.binds (ps := ["self", "height", "number"]) fun _ _ _ _ _ _ us hl => match us, hl with | [_, _, _], _ => rfl
  have H_Book_has_block : MetG K c.Book "has_block" "Book.has_block" s_Book_has_block ["self", "height", "number"] := ⟨⟨_, _, F_Book_has_block, ⟨a_Book_has_block, i_Book_has_block, k_Book_has_block⟩, b_Book_has_block⟩⟩
  have F_Book_sum_of := fun_mk (st := s_Book_sum_of) l_Book_sum_of c_Book_sum_of k_Book_sum_of
  have b_Book_sum_of := F_Book_sum_of.binds (ps := ["self", "height", "number"]) fun _ _ _ _ _ _ us hl => match us, hl with | [_, _, _], _ => rfl
  have H_Book_sum_of : MetG K c.Book "sum_of" "Book.sum_of" s_Book_sum_of ["self", "height", "number"] := ⟨⟨_, _, F_Book_sum_of, ⟨a_Book_sum_of, i_Book_sum_of, k_Book_sum_of⟩, b_Book_sum_of⟩⟩
  have F_Looker_are_alike := fun_mk (st := s_Looker_are_alike) l_Looker_are_alike c_Looker_are_alike k_Looker_are_alike
  have b_Looker_are_alike := F_Looker_are_alike.binds (ps := ["self", "height", "number"]) fun _ _ _ _ _ _ us hl => match us, hl with | [_, _, _], _ => rfl
  have H_Looker_are_alike : MetG K c.Looker "are_alike" "Looker.are_alike" s_Looker_are_alike ["self", "height", "number"] := ⟨⟨_, _, F_Looker_are_alike, ⟨a_Looker_are_alike, i_Looker_are_alike, k_Looker_are_alike⟩, b_Looker_are_alike⟩⟩
  have F_Looker_all_in := fun_mk (st := s_Looker_all_in) l_Looker_all_in c_Looker_all_in k_Looker_all_in
  have b_Looker_all_in := F_Looker_all_in.binds (ps := ["self", "height", "number"]) fun _ _ _ _ _ _ us hl => match us, hl with | [_, _, _], _ => rfl
  have H_Looker_all_in : MetG K c.Looker "all_in" "Looker.all_in" s_Looker_all_in ["self", "height", "number"] := ⟨⟨_, _, F_Looker_all_in, ⟨a_Looker_all_in, i_Looker_all_in, k_Looker_all_in⟩, b_Looker_all_in⟩⟩
  have F_all_unlike := fun_mk (st := s_all_unlike) l_all_unlike c_all_unlike k_all_unlike
  have b_all_unlike := F_all_unlike.binds (ps := ["one", "other"]) fun _ _ _ _ _ _ us hl => match us, hl with | [_, _], _ => rfl
  have H_all_unlike : FunG K mg "all_unlike" s_all_unlike ["one", "other"] := ⟨⟨_, _, F_all_unlike, PySem.W.mg_of X G a_all_unlike, b_all_unlike⟩⟩
  have F_law_digits := fun_mk (st := s_law_digits) l_law_digits c_law_digits k_law_digits
  have b_law_digits := F_law_digits.binds (ps := ["_law_count"]) fun _ _ _ _ _ _ us hl => match us, hl with | [_], _ => rfl
  have H_law_digits : FunG K mg "_law_digits" s_law_digits ["_law_count"] := ⟨⟨_, _, F_law_digits, PySem.W.mg_of X G a_law_digits, b_law_digits⟩⟩
  have F_Looker_first_in := fun_mk (st := s_Looker_first_in) l_Looker_first_in c_Looker_first_in k_Looker_first_in
  have b_Looker_first_in := F_Looker_first_in.binds (ps := ["self", "height", "number"]) fun _ _ _ _ _ _ us hl => match us, hl with | [_, _, _], _ => rfl
  have H_Looker_first_in : MetG K c.Looker "first_in" "Looker.first_in" s_Looker_first_in ["self", "height", "number"] := ⟨⟨_, _, F_Looker_first_in, ⟨a_Looker_first_in, i_Looker_first_in, k_Looker_first_in⟩, b_Looker_first_in⟩⟩
  have F_first_unlike := fun_mk (st := s_first_unlike) l_first_unlike c_first_unlike k_first_unlike
  have b_first_unlike := F_first_unlike.binds (ps := ["one", "other"]) fun _ _ _ _ _ _ us hl => match us, hl with | [_, _], _ => rfl
  have H_first_unlike : FunG K mg "first_unlike" s_first_unlike ["one", "other"] := ⟨⟨_, _, F_first_unlike, PySem.W.mg_of X G a_first_unlike, b_first_unlike⟩⟩
  have F_law_size := fun_mk (st := s_law_size) l_law_size c_law_size k_law_size
  have b_law_size := F_law_size.binds (ps := ["_law_height"]) fun _ _ _ _ _ _ us hl => match us, hl with | [_], _ => rfl
  have H_law_size : FunG K mg "_law_size" s_law_size ["_law_height"] := ⟨⟨_, _, F_law_size, PySem.W.mg_of X G a_law_size, b_law_size⟩⟩
  have F_law_true := fun_mk (st := s_law_true) l_law_true c_law_true k_law_true
  have b_law_true := F_law_true.binds (ps := ["_law_rows_here", "_law_other", "_law_looks"]) fun _ _ _ _ _ _ us hl => match us, hl with | [_, _, _], _ => rfl
  have H_law_true : FunG K mg "_law_true" s_law_true ["_law_rows_here", "_law_other", "_law_looks"] := ⟨⟨_, _, F_law_true, PySem.W.mg_of X G a_law_true, b_law_true⟩⟩
  have F_law := fun_mk (st := s_law) l_law c_law k_law
  have b_law := F_law.binds (ps := ["_law_script"]) fun _ _ _ _ _ _ us hl => match us, hl with | [_], _ => rfl
  refine ⟨PySem.W.fnOf "law" "law" (defArgs s_law) (defBody s_law) (defScope s_law) .none kV_law dc_law pm_law an_law cd_law ct_law, fun s v => .of_eq rfl, fun base _ _ => ?_⟩
  have G_Ledger_init : MkG l.prog w K mg base 1 c.Ledger "Ledger" ["self"] (sp_Ledger_init K c) := ok_Ledger_init M T H_Ledger_init D
  have G_law_mix : FnG l.prog w K mg base 1 "_law_mix" ["_law_number", "_law_k"] (sp_law_mix K c) := ok_law_mix M T H_law_mix D
  have G_law_text : FnG l.prog w K mg base 2 "_law_text" ["_law_cell"] (sp_law_text K c) := ok_law_text M T H_law_text D G_law_mix
  have G_law_rows : FnG l.prog w K mg base 3 "_law_rows" ["_law_cell", "_law_more"] (sp_law_rows K c) := ok_law_rows M T H_law_rows D G_law_text G_law_mix
  have G_law_near : FnG l.prog w K mg base 1 "_law_near" ["_law_text_here", "_law_cell"] (sp_law_near K c) := ok_law_near M T H_law_near D
  have G_law_twin : FnG l.prog w K mg base 3 "_law_twin" ["_law_rows_here", "_law_cell"] (sp_law_twin K c) := ok_law_twin M T H_law_twin D G_law_near G_law_mix G_law_text
  have G_law_cell_at : FnG l.prog w K mg base 1 "_law_cell_at" ["_law_script", "_law_k"] (sp_law_cell_at K c) := ok_law_cell_at M T H_law_cell_at D
  have G_is_row : FnG l.prog w K mg base 1 "is_row" ["thing"] (sp_is_row K c) := ok_is_row M T H_is_row D
  have G_sure_row : FnG l.prog w K mg base 2 "sure_row" ["thing"] (sp_sure_row K c) := ok_sure_row M T H_sure_row D X_NoRow G_is_row
  have G_Ledger_number_of : MtG l.prog w K mg base 1 c.Ledger "number_of" ["self", "thing"] (sp_Ledger_number_of K c) := ok_Ledger_number_of M T H_Ledger_number_of D
  have G_Ledger_of_row : MtG l.prog w K mg base 3 c.Ledger "of_row" ["self", "row"] (sp_Ledger_of_row K c) := ok_Ledger_of_row M T H_Ledger_of_row D G_sure_row G_Ledger_number_of
  have G_is_whole : FnG l.prog w K mg base 1 "is_whole" ["thing"] (sp_is_whole K c) := ok_is_whole M T H_is_whole D
  have G_Ledger_sure : MtG l.prog w K mg base 2 c.Ledger "sure" ["self", "number"] (sp_Ledger_sure K c) := ok_Ledger_sure M T H_Ledger_sure D X_NoSum G_is_whole
  have G_Ledger_of_pair : MtG l.prog w K mg base 3 c.Ledger "of_pair" ["self", "one", "other"] (sp_Ledger_of_pair K c) := ok_Ledger_of_pair M T H_Ledger_of_pair D G_Ledger_sure G_Ledger_number_of
  have G_Book_half_sums : MtG l.prog w K mg base 4 c.Book "half_sums" ["self", "height", "number"] (sp_Book_half_sums K c) := ok_Book_half_sums M T H_Book_half_sums D G_Ledger_of_pair
  have G_Book_grow : MtG l.prog w K mg base 5 c.Book "grow" ["self", "row"] (sp_Book_grow K c) := ok_Book_grow M T H_Book_grow D G_Ledger_of_row G_Book_half_sums
  have G_Book_init : MkG l.prog w K mg base 6 c.Book "Book" ["self", "ledger", "rows"] (sp_Book_init K c) := ok_Book_init M T H_Book_init D X_Full G_sure_row G_Book_grow
  have G_Book_sure : MtG l.prog w K mg base 2 c.Book "sure" ["self", "place"] (sp_Book_sure K c) := ok_Book_sure M T H_Book_sure D X_NoPlace G_is_whole
  have G_Book_put : MtG l.prog w K mg base 5 c.Book "put" ["self", "place", "row"] (sp_Book_put K c) := ok_Book_put M T H_Book_put D G_Book_sure G_sure_row G_Ledger_of_row G_Book_half_sums
  have G_size_of : FnG l.prog w K mg base 1 "size_of" ["height"] (sp_size_of K c) := ok_size_of M T H_size_of D
  have G_Book_cut : MtG l.prog w K mg base 2 c.Book "cut" ["self"] (sp_Book_cut K c) := ok_Book_cut M T H_Book_cut D X_NoPlace G_size_of
  have G_Book_add : MtG l.prog w K mg base 6 c.Book "add" ["self", "row"] (sp_Book_add K c) := ok_Book_add M T H_Book_add D X_Full G_sure_row G_Book_grow
  have G_law_change : FnG l.prog w K mg base 7 "_law_change" ["_law_book", "_law_rows_here", "_law_others", "_law_cell"] (sp_law_change K c) := ok_law_change M T H_law_change D G_law_text G_Book_put G_law_mix G_law_near G_Book_cut G_Book_add
  have G_law_room : FnG l.prog w K mg base 1 "_law_room" ["_law_script", "_law_small", "_law_great"] (sp_law_room K c) := ok_law_room M T H_law_room D
  have G_law_books : FnG l.prog w K mg base 8 "_law_books" ["_law_script"] (sp_law_books K c) := ok_law_books M T H_law_books D G_Ledger_init G_law_rows G_law_twin G_law_cell_at G_Book_init G_law_change G_law_room
  have G_Looker_init : MkG l.prog w K mg base 1 c.Looker "Looker" ["self", "one", "other"] (sp_Looker_init K c) := ok_Looker_init M T H_Looker_init D X_Strange
  have G_digits : FnG l.prog w K mg base 1 "digits" ["count"] (sp_digits K c) := ok_digits M T H_digits D
  have G_parted : FnG l.prog w K mg base 2 "parted" ["count"] (sp_parted K c) := ok_parted M T H_parted D G_size_of G_digits
  have G_Book_count : MtG l.prog w K mg base 1 c.Book "count" ["self"] (sp_Book_count K c) := ok_Book_count M T H_Book_count D
  have G_Looker_lesser : MtG l.prog w K mg base 2 c.Looker "lesser" ["self"] (sp_Looker_lesser K c) := ok_Looker_lesser M T H_Looker_lesser D G_Book_count
  have G_Book_has_block : MtG l.prog w K mg base 2 c.Book "has_block" ["self", "height", "number"] (sp_Book_has_block K c) := ok_Book_has_block M T H_Book_has_block D G_is_whole
  have G_Book_sum_of : MtG l.prog w K mg base 3 c.Book "sum_of" ["self", "height", "number"] (sp_Book_sum_of K c) := ok_Book_sum_of M T H_Book_sum_of D X_NoBlock G_Book_has_block
  have G_Looker_are_alike : MtG l.prog w K mg base 4 c.Looker "are_alike" ["self", "height", "number"] (sp_Looker_are_alike K c) := ok_Looker_are_alike M T H_Looker_are_alike D G_Book_sum_of
  have G_Looker_all_in : MtG l.prog w K mg base 25 c.Looker "all_in" ["self", "height", "number"] (sp_Looker_all_in 20 K c) := ok_Looker_all_in M T H_Looker_all_in D G_Looker_are_alike
  have G_all_unlike : FnG l.prog w K mg base 26 "all_unlike" ["one", "other"] (sp_all_unlike K c) := ok_all_unlike M T H_all_unlike D G_Looker_init G_parted G_Looker_lesser G_Looker_are_alike G_Looker_all_in
  have G_law_digits : FnG l.prog w K mg base 1 "_law_digits" ["_law_count"] (sp_law_digits K c) := ok_law_digits M T H_law_digits D
  have G_Looker_first_in : MtG l.prog w K mg base 5 c.Looker "first_in" ["self", "height", "number"] (sp_Looker_first_in K c) := ok_Looker_first_in M T H_Looker_first_in D G_Looker_are_alike
  have G_first_unlike : FnG l.prog w K mg base 6 "first_unlike" ["one", "other"] (sp_first_unlike K c) := ok_first_unlike M T H_first_unlike D G_Looker_init G_parted G_Looker_lesser G_Book_count G_Looker_are_alike G_Looker_first_in
  have G_law_size : FnG l.prog w K mg base 1 "_law_size" ["_law_height"] (sp_law_size K c) := ok_law_size M T H_law_size D
  have G_law_true : FnG l.prog w K mg base 2 "_law_true" ["_law_rows_here", "_law_other", "_law_looks"] (sp_law_true K c) := ok_law_true M T H_law_true D G_law_size
  have G_law := ok_law (P := l.prog) (w := w) (base := base) M T F_law D G_law_books G_all_unlike G_law_digits G_first_unlike G_law_true G_law_size
  exact G_law
theorem walk {l : PySem.W.OpenLaw} {q : Program} {loose : List Str} {XP : (Str → Option Value) → Heap → Prop} {YP : World → Heap → Prop} {d : DefRec} {K : Params → PySem.W.Frag} (hn : l.most = some 63) (hdf : d.params.defaults = [])
    (hY : ∀ (w : World) (h : Heap), YP w h → (K w.params).In h)
    (F : ∀ (w : World) (mg : Str → Option Value) (fa : Addr) (h : Heap), (K w.params).In h → h.Ns mainGlobals mg → mg d.name = some (.ref fa) →
      ∃ fd : FuncData, (∀ (s : Shared) (u : Value), BindsTo s fd ⟨[u], []⟩ [("_law_script", u)]) ∧ ∀ base : Heap, (K w.params).In base → base.Ns mainGlobals mg → FnOk l.prog w (K w.params) mg base (L2.CX l.prog w) 27 fa fd ["_law_script"] (sp_law (K w.params) Cs.none)) :
    PySem.W.WalkO q loose XP YP l.row.toRowW d [] (fun f vs => PySem.call f vs) :=
  L2.walk_of (n := 63) (k := 27) (x := "_law_script") (CX := fun w => L2.CX l.prog w) (sp := fun w => sp_law (K w.params) Cs.none) hn (by decide) hdf ⟨rfl, by decide, by decide⟩ hY F (fun _ _ a ns hl _ hS => ⟨a, ns, rfl, hS, hl, fun _ => rfl⟩)
    fun _ _ _ _ _ h => by
      obtain ⟨_, _, _, _, _, _, _, _, _, _, _, _, z⟩ := h
      exact z.elim
end Tw
open PySem PySem.W PyProof.Rows
set_option maxRecDepth 100000 in
set_option maxHeartbeats 0 in
theorem PySem.Challenge.cw_twinsum_k08_whole_all_by_looks_holds : PySem.Challenge.rw_twinsum_k08_whole_all_by_looks.Holds := by
  w_on; o_law; k_head; (case hw => w_witness2)
  k_fill
  refine Tw.walk (l := PySem.Challenge.rw_twinsum_k08_whole_all_by_looks) rfl rfl (fun w h Y => PySem.W.kIn_of Y) ?F
  case F =>
    intro w mg fa h KX G hmg
    refine' Tw.all_mk KX G hmg ?a_Ledger ?pg_Ledger ?hd_Ledger ?po_Ledger ?sa_Ledger ?mk_Ledger ?kc_Ledger ?nf_Ledger_given ?nf_Ledger_things ?a_Book ?pg_Book ?hd_Book ?po_Book ?sa_Book ?mk_Book ?kc_Book ?nf_Book_ledger ?nf_Book_lines ?nf_Book_levels ?a_Looker ?pg_Looker ?hd_Looker ?po_Looker ?sa_Looker ?mk_Looker ?kc_Looker ?nf_Looker_one ?nf_Looker_other ?nf_Looker_looks ?a_NoRow ?xP_NoRow ?kP_NoRow ?bP_NoRow ?tP_NoRow ?a_NoSum ?xP_NoSum ?kP_NoSum ?bP_NoSum ?tP_NoSum ?a_Full ?xP_Full ?kP_Full ?bP_Full ?tP_Full ?a_NoPlace ?xP_NoPlace ?kP_NoPlace ?bP_NoPlace ?tP_NoPlace ?a_Strange ?xP_Strange ?kP_Strange ?bP_Strange ?tP_Strange ?a_NoBlock ?xP_NoBlock ?kP_NoBlock ?bP_NoBlock ?tP_NoBlock ?pm_Ledger ?pe_Ledger ?pn_Ledger ?a_Ledger_init ?i_Ledger_init ?l_Ledger_init ?c_Ledger_init ?k_Ledger_init ?a_law_mix ?l_law_mix ?c_law_mix ?k_law_mix ?a_law_text ?l_law_text ?c_law_text ?k_law_text ?a_law_rows ?l_law_rows ?c_law_rows ?k_law_rows ?a_law_near ?l_law_near ?c_law_near ?k_law_near ?a_law_twin ?l_law_twin ?c_law_twin ?k_law_twin ?a_law_cell_at ?l_law_cell_at ?c_law_cell_at ?k_law_cell_at ?a_is_row ?l_is_row ?c_is_row ?k_is_row ?a_sure_row ?l_sure_row ?c_sure_row ?k_sure_row ?a_Ledger_number_of ?i_Ledger_number_of ?l_Ledger_number_of ?c_Ledger_number_of ?k_Ledger_number_of ?a_Ledger_of_row ?i_Ledger_of_row ?l_Ledger_of_row ?c_Ledger_of_row ?k_Ledger_of_row ?a_is_whole ?l_is_whole ?c_is_whole ?k_is_whole ?a_Ledger_sure ?i_Ledger_sure ?l_Ledger_sure ?c_Ledger_sure ?k_Ledger_sure ?a_Ledger_of_pair ?i_Ledger_of_pair ?l_Ledger_of_pair ?c_Ledger_of_pair ?k_Ledger_of_pair ?a_Book_half_sums ?i_Book_half_sums ?l_Book_half_sums ?c_Book_half_sums ?k_Book_half_sums ?a_Book_grow ?i_Book_grow ?l_Book_grow ?c_Book_grow ?k_Book_grow ?a_Book_init ?i_Book_init ?l_Book_init ?c_Book_init ?k_Book_init ?a_Book_sure ?i_Book_sure ?l_Book_sure ?c_Book_sure ?k_Book_sure ?a_Book_put ?i_Book_put ?l_Book_put ?c_Book_put ?k_Book_put ?a_size_of ?l_size_of ?c_size_of ?k_size_of ?a_Book_cut ?i_Book_cut ?l_Book_cut ?c_Book_cut ?k_Book_cut ?a_Book_add ?i_Book_add ?l_Book_add ?c_Book_add ?k_Book_add ?a_law_change ?l_law_change ?c_law_change ?k_law_change ?a_law_room ?l_law_room ?c_law_room ?k_law_room ?a_law_books ?l_law_books ?c_law_books ?k_law_books ?a_Looker_init ?i_Looker_init ?l_Looker_init ?c_Looker_init ?k_Looker_init ?a_digits ?l_digits ?c_digits ?k_digits ?a_parted ?l_parted ?c_parted ?k_parted ?a_Book_count ?i_Book_count ?l_Book_count ?c_Book_count ?k_Book_count ?a_Looker_lesser ?i_Looker_lesser ?l_Looker_lesser ?c_Looker_lesser ?k_Looker_lesser ?a_Book_has_block ?i_Book_has_block ?l_Book_has_block ?c_Book_has_block ?k_Book_has_block ?a_Book_sum_of ?i_Book_sum_of ?l_Book_sum_of ?c_Book_sum_of ?k_Book_sum_of ?a_Looker_are_alike ?i_Looker_are_alike ?l_Looker_are_alike ?c_Looker_are_alike ?k_Looker_are_alike ?a_Looker_all_in ?i_Looker_all_in ?l_Looker_all_in ?c_Looker_all_in ?k_Looker_all_in ?a_all_unlike ?l_all_unlike ?c_all_unlike ?k_all_unlike ?a_law_digits ?l_law_digits ?c_law_digits ?k_law_digits ?a_Looker_first_in ?i_Looker_first_in ?l_Looker_first_in ?c_Looker_first_in ?k_Looker_first_in ?a_first_unlike ?l_first_unlike ?c_first_unlike ?k_first_unlike ?a_law_size ?l_law_size ?c_law_size ?k_law_size ?a_law_true ?l_law_true ?c_law_true ?k_law_true ?a_law ?l_law ?c_law ?k_law ?z_bool ?z_int ?z_isinstance ?z_len ?z_list ?z_max ?z_min ?z_range ?z_set ?z_sorted ?z_str ?z_MOST_ROWS ?z_MOST_SIGNS ?z_SIGNS
    (case a_Ledger => k_is)
    (case pg_Ledger => k_is)
    (case hd_Ledger => k_is)
    (case po_Ledger => k_is)
    (case sa_Ledger => k_is)
    (case mk_Ledger => k_is)
    (case kc_Ledger => k_is)
    (case nf_Ledger_given => k_is)
    (case nf_Ledger_things => k_is)
    (case a_Book => k_is)
    (case pg_Book => k_is)
    (case hd_Book => k_is)
    (case po_Book => k_is)
    (case sa_Book => k_is)
    (case mk_Book => k_is)
    (case kc_Book => k_is)
    (case nf_Book_ledger => k_is)
    (case nf_Book_lines => k_is)
    (case nf_Book_levels => k_is)
    (case a_Looker => k_is)
    (case pg_Looker => k_is)
    (case hd_Looker => k_is)
    (case po_Looker => k_is)
    (case sa_Looker => k_is)
    (case mk_Looker => k_is)
    (case kc_Looker => k_is)
    (case nf_Looker_one => k_is)
    (case nf_Looker_other => k_is)
    (case nf_Looker_looks => k_is)
    (case a_NoRow => k_is)
    (case xP_NoRow => k_exc)
    (case kP_NoRow => k_is)
    (case bP_NoRow => k_is)
    (case tP_NoRow => k_is)
    (case a_NoSum => k_is)
    (case xP_NoSum => k_exc)
    (case kP_NoSum => k_is)
    (case bP_NoSum => k_is)
    (case tP_NoSum => k_is)
    (case a_Full => k_is)
    (case xP_Full => k_exc)
    (case kP_Full => k_is)
    (case bP_Full => k_is)
    (case tP_Full => k_is)
    (case a_NoPlace => k_is)
    (case xP_NoPlace => k_exc)
    (case kP_NoPlace => k_is)
    (case bP_NoPlace => k_is)
    (case tP_NoPlace => k_is)
    (case a_Strange => k_is)
    (case xP_Strange => k_exc)
    (case kP_Strange => k_is)
    (case bP_Strange => k_is)
    (case tP_Strange => k_is)
    (case a_NoBlock => k_is)
    (case xP_NoBlock => k_exc)
    (case kP_NoBlock => k_is)
    (case bP_NoBlock => k_is)
    (case tP_NoBlock => k_is)
    (case pm_Ledger => k_is)
    (case pe_Ledger => k_is)
    (case pn_Ledger => k_is)
    (case a_Ledger_init => k_is)
    (case i_Ledger_init => k_is)
    (case l_Ledger_init => k_is)
    (case c_Ledger_init => k_is)
    (case k_Ledger_init => k_is)
    (case a_law_mix => k_is)
    (case l_law_mix => k_is)
    (case c_law_mix => k_is)
    (case k_law_mix => k_is)
    (case a_law_text => k_is)
    (case l_law_text => k_is)
    (case c_law_text => k_is)
    (case k_law_text => k_is)
    (case a_law_rows => k_is)
    (case l_law_rows => k_is)
    (case c_law_rows => k_is)
    (case k_law_rows => k_is)
    (case a_law_near => k_is)
    (case l_law_near => k_is)
    (case c_law_near => k_is)
    (case k_law_near => k_is)
    (case a_law_twin => k_is)
    (case l_law_twin => k_is)
    (case c_law_twin => k_is)
    (case k_law_twin => k_is)
    (case a_law_cell_at => k_is)
    (case l_law_cell_at => k_is)
    (case c_law_cell_at => k_is)
    (case k_law_cell_at => k_is)
    (case a_is_row => k_is)
    (case l_is_row => k_is)
    (case c_is_row => k_is)
    (case k_is_row => k_is)
    (case a_sure_row => k_is)
    (case l_sure_row => k_is)
    (case c_sure_row => k_is)
    (case k_sure_row => k_is)
    (case a_Ledger_number_of => k_is)
    (case i_Ledger_number_of => k_is)
    (case l_Ledger_number_of => k_is)
    (case c_Ledger_number_of => k_is)
    (case k_Ledger_number_of => k_is)
    (case a_Ledger_of_row => k_is)
    (case i_Ledger_of_row => k_is)
    (case l_Ledger_of_row => k_is)
    (case c_Ledger_of_row => k_is)
    (case k_Ledger_of_row => k_is)
    (case a_is_whole => k_is)
    (case l_is_whole => k_is)
    (case c_is_whole => k_is)
    (case k_is_whole => k_is)
    (case a_Ledger_sure => k_is)
    (case i_Ledger_sure => k_is)
    (case l_Ledger_sure => k_is)
    (case c_Ledger_sure => k_is)
    (case k_Ledger_sure => k_is)
    (case a_Ledger_of_pair => k_is)
    (case i_Ledger_of_pair => k_is)
    (case l_Ledger_of_pair => k_is)
    (case c_Ledger_of_pair => k_is)
    (case k_Ledger_of_pair => k_is)
    (case a_Book_half_sums => k_is)
    (case i_Book_half_sums => k_is)
    (case l_Book_half_sums => k_is)
    (case c_Book_half_sums => k_is)
    (case k_Book_half_sums => k_is)
    (case a_Book_grow => k_is)
    (case i_Book_grow => k_is)
    (case l_Book_grow => k_is)
    (case c_Book_grow => k_is)
    (case k_Book_grow => k_is)
    (case a_Book_init => k_is)
    (case i_Book_init => k_is)
    (case l_Book_init => k_is)
    (case c_Book_init => k_is)
    (case k_Book_init => k_is)
    (case a_Book_sure => k_is)
    (case i_Book_sure => k_is)
    (case l_Book_sure => k_is)
    (case c_Book_sure => k_is)
    (case k_Book_sure => k_is)
    (case a_Book_put => k_is)
    (case i_Book_put => k_is)
    (case l_Book_put => k_is)
    (case c_Book_put => k_is)
    (case k_Book_put => k_is)
    (case a_size_of => k_is)
    (case l_size_of => k_is)
    (case c_size_of => k_is)
    (case k_size_of => k_is)
    (case a_Book_cut => k_is)
    (case i_Book_cut => k_is)
    (case l_Book_cut => k_is)
    (case c_Book_cut => k_is)
    (case k_Book_cut => k_is)
    (case a_Book_add => k_is)
    (case i_Book_add => k_is)
    (case l_Book_add => k_is)
    (case c_Book_add => k_is)
    (case k_Book_add => k_is)
    (case a_law_change => k_is)
    (case l_law_change => k_is)
    (case c_law_change => k_is)
    (case k_law_change => k_is)
    (case a_law_room => k_is)
    (case l_law_room => k_is)
    (case c_law_room => k_is)
    (case k_law_room => k_is)
    (case a_law_books => k_is)
    (case l_law_books => k_is)
    (case c_law_books => k_is)
    (case k_law_books => k_is)
    (case a_Looker_init => k_is)
    (case i_Looker_init => k_is)
    (case l_Looker_init => k_is)
    (case c_Looker_init => k_is)
    (case k_Looker_init => k_is)
    (case a_digits => k_is)
    (case l_digits => k_is)
    (case c_digits => k_is)
    (case k_digits => k_is)
    (case a_parted => k_is)
    (case l_parted => k_is)
    (case c_parted => k_is)
    (case k_parted => k_is)
    (case a_Book_count => k_is)
    (case i_Book_count => k_is)
    (case l_Book_count => k_is)
    (case c_Book_count => k_is)
    (case k_Book_count => k_is)
    (case a_Looker_lesser => k_is)
    (case i_Looker_lesser => k_is)
    (case l_Looker_lesser => k_is)
    (case c_Looker_lesser => k_is)
    (case k_Looker_lesser => k_is)
    (case a_Book_has_block => k_is)
    (case i_Book_has_block => k_is)
    (case l_Book_has_block => k_is)
    (case c_Book_has_block => k_is)
    (case k_Book_has_block => k_is)
    (case a_Book_sum_of => k_is)
    (case i_Book_sum_of => k_is)
    (case l_Book_sum_of => k_is)
    (case c_Book_sum_of => k_is)
    (case k_Book_sum_of => k_is)
    (case a_Looker_are_alike => k_is)
    (case i_Looker_are_alike => k_is)
    (case l_Looker_are_alike => k_is)
    (case c_Looker_are_alike => k_is)
    (case k_Looker_are_alike => k_is)
    (case a_Looker_all_in => k_is)
    (case i_Looker_all_in => k_is)
    (case l_Looker_all_in => k_is)
    (case c_Looker_all_in => k_is)
    (case k_Looker_all_in => k_is)
    (case a_all_unlike => k_is)
    (case l_all_unlike => k_is)
    (case c_all_unlike => k_is)
    (case k_all_unlike => k_is)
    (case a_law_digits => k_is)
    (case l_law_digits => k_is)
    (case c_law_digits => k_is)
    (case k_law_digits => k_is)
    (case a_Looker_first_in => k_is)
    (case i_Looker_first_in => k_is)
    (case l_Looker_first_in => k_is)
    (case c_Looker_first_in => k_is)
    (case k_Looker_first_in => k_is)
    (case a_first_unlike => k_is)
    (case l_first_unlike => k_is)
    (case c_first_unlike => k_is)
    (case k_first_unlike => k_is)
    (case a_law_size => k_is)
    (case l_law_size => k_is)
    (case c_law_size => k_is)
    (case k_law_size => k_is)
    (case a_law_true => k_is)
    (case l_law_true => k_is)
    (case c_law_true => k_is)
    (case k_law_true => k_is)
    (case a_law => k_is)
    (case l_law => k_is)
    (case c_law => k_is)
    (case k_law => k_is)
    (case z_bool => k_is)
    (case z_int => k_is)
    (case z_isinstance => k_is)
    (case z_len => k_is)
    (case z_list => k_is)
    (case z_max => k_is)
    (case z_min => k_is)
    (case z_range => k_is)
    (case z_set => k_is)
    (case z_sorted => k_is)
    (case z_str => k_is)
    (case z_MOST_ROWS => k_is)
    (case z_MOST_SIGNS => k_is)
    (case z_SIGNS => k_is)
#print axioms PySem.Challenge.cw_twinsum_k08_whole_all_by_looks_holds

