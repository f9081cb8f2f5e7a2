import PyProof.Rows.All
import Wide.All
import OpenK.AllK
import Wide.FinOn
import HandS.ForMost
import HandS.ForExc
import HandS.IsInst
import HandS.ExcIs
import HandS.TryMany
import HandS.SortInts
import HandS.Evl
import HandS.Conv
import HandS.HotCalls
import HandS.Deep
import HandS.More
import PySem.Challenge.RW_twinsum_k11_refused
set_option Elab.async false
set_option linter.all false
set_option maxRecDepth 100000
set_option maxHeartbeats 4000000
namespace L2
open PySem PySem.Spec PyProof.Rows
theorem Fun.okN {P : Program} {w : World} {K : PySem.W.Frag} {mg : Str → Option Value} {base : Heap} {x qual : Str} {st : Stmt} {f : Addr} {fd : FuncData} {N ps : List Str} {k : Nat} {sp : Sp} (F : Fun K x qual st f fd) (S : FnScope N ps (defScope st)) (len : ∀ vs H Q E, sp vs H Q E → vs.length = ps.length)
    (hbody : ∀ (cdv : Value) (A : Around) (outer : List Env) (s : Shared) (H : Hp) (vs : List V) (Q : VK) (E : XK), Room k (A.deeper (envOfC qual (defScope st) s.heap.objs.size f cdv)) → sp vs H Q E →
      ∃ t, PSs (cxOf (L2N.CX P w) P w K mg base N qual (defScope st) f cdv A outer s H E) (defBody st) t ∧ t { nx := fun _ H' => Q .non H', rt := Q } (start N vs) H) : FnOk P w K mg base (L2N.CX P w) (k + 1) f fd ps sp := by
  obtain ⟨oc, od, kV, doc, pm, an, cdv, ct, osl, rfl, lk, hcd⟩ := F.ex
  exact fn_of lk hcd S len fun A outer s H vs Q E hr hsp => hbody cdv A outer s H vs Q E hr hsp
theorem passN {X : Cx} : Passes (L2N.CX X.prog X.w) X E0 := fun _ _ _ _ _ _ _ h => by
  obtain ⟨_, _, _, _, _, _, _, _, _, _, _, _, z⟩ := h
  exact z.elim
theorem takesN0 {X : Cx} : L2N.Takes X (fun _ _ _ _ => False) := fun _ _ x => by
  obtain ⟨_, _, _, _, _, _, _, _, _, _, _, _, _, _, _, _, z⟩ := x
  exact z.elim
end L2
namespace Ts
open PySem L2
/-! ### heaps -/
abbrev Ex := Evl.Ex
theorem ex_refl {H : Hp} : Ex H H := Evl.Ex.refl H
theorem ex_new {H H' : Hp} {p : Addr} {o : HO} (e : Ex H H') (h : H' p = none) : Ex H (upd H' p o) := e.trans (Evl.Ex.new h)
theorem ex_mut {H H' : Hp} {p : Addr} {o : HO} (e : Ex H H') (h : H p = none) : Ex H (upd H' p o) := Evl.Ex.mut e h
theorem ex_free {H H' : Hp} {p : Addr} (e : Ex H H') (h : H' p = none) : H p = none := Evl.fresh_back e h
theorem sz100 {n : Nat} (h : n ≤ 100) : n ≤ sizeLine := Nat.le_trans h (by decide)
theorem szM {n : Nat} (h : n ≤ 1000000) : n ≤ sizeLine := Nat.le_trans h (by decide)
theorem szL {n : Nat} (h : n < 1000000) : n < sizeLine := Nat.lt_of_lt_of_le h (by decide)

/-! ### operators of any kind -/
def rAddI : R2 := rI0 fun i j => .int (i + j)
def rAddS : R2 := fun x y H Q => ∃ i j, x = .str i ∧ y = .str j ∧ i.length + j.length ≤ sizeLine ∧ Q (.str (i ++ j)) H
def rAddU : R2 := fun x y H Q => rAddI x y H Q ∨ rAddS x y H Q ∨ rCat x y H Q
theorem op_addU {X : Cx} : OpR X (binaryOp .Add) rAddU := op_add.or (op_add_str.or op_cat)
def rSubI : R2 := rI0 fun i j => .int (i - j)
theorem op_sub1 {X : Cx} : OpR X (binaryOp .Sub) rSubI := op_sub
def rMul : R2 := rI CMul fun i j => .int (i * j)
theorem op_mul1 {X : Cx} : OpR X (binaryOp .Mult) rMul := op_mul
def rDiv : R2 := rI CDiv fun i j => .int (i / j)
theorem op_div1 {X : Cx} : OpR X (binaryOp .FloorDiv) rDiv := op_fdiv
def rMod : R2 := rI (fun _ j => 0 < j) fun i j => .int (i % j)
theorem op_mod1 {X : Cx} : OpR X (binaryOp .Mod) rMod := op_mod
def rPow : R2 := rI CPow fun i j => .int (i ^ j.toNat)
theorem op_pow1 {X : Cx} : OpR X (binaryOp .Pow) rPow := op_pow
def rLt : R2 := rI0 fun i j => .bl (decide (i < j))
def rLe : R2 := rI0 fun i j => .bl (decide (i ≤ j))
def rGt : R2 := rI0 fun i j => .bl (decide (j < i))
def rGe : R2 := rI0 fun i j => .bl (decide (j ≤ i))
theorem op_lt1 {X : Cx} : OpR X (compareOp .Lt) rLt := op_lt
theorem op_le1 {X : Cx} : OpR X (compareOp .LtE) rLe := op_le
theorem op_gt1 {X : Cx} : OpR X (compareOp .Gt) rGt := op_gt
theorem op_ge1 {X : Cx} : OpR X (compareOp .GtE) rGe := op_ge
def rEqU (K : PySem.W.Frag) : R2 := fun x y H Q => rEq x y H Q ∨ rEqD K x y H Q
def rNeU (K : PySem.W.Frag) : R2 := fun x y H Q => rNe x y H Q ∨ rNeD K x y H Q
theorem op_eqU {X : Cx} (hu : X.A.units + 64 < cLine) : OpR X (compareOp .Eq) (rEqU X.K) := op_eq.or (op_eqD hu)
theorem op_neU {X : Cx} (hu : X.A.units + 64 < cLine) : OpR X (compareOp .NotEq) (rNeU X.K) := op_ne.or (op_neD hu)
def rIsN : R2 := fun x y H Q => y = .non ∧ Q (.bl (decide (x = .non))) H
def rNotN : R2 := fun x y H Q => y = .non ∧ Q (.bl (!decide (x = .non))) H
theorem op_isN1 {X : Cx} : OpR X (compareOp .Is) rIsN := op_isN
theorem op_notN1 {X : Cx} : OpR X (compareOp .IsNot) rNotN := op_notN
def rLen (K : PySem.W.Frag) : List V → Hp → VK → Prop := fun xs H Q => ∃ x n, xs = [x] ∧ LenV K x H n ∧ Q (.int (n : Nat)) H
theorem call_len1 {X : Cx} : CallR X (.builtin "len") (rLen X.K) := call_len
def rMax : List V → Hp → VK → Prop := fun xs H Q => ∃ i j, xs = [.int i, .int j] ∧ Q (.int (if j > i then j else i)) H
def rMin : List V → Hp → VK → Prop := fun xs H Q => ∃ i j, xs = [.int i, .int j] ∧ Q (.int (if j < i then j else i)) H
theorem call_max1 {X : Cx} (hc : X.calm = true) : CallR X (.builtin "max") rMax := call_max2 hc
theorem call_min1 {X : Cx} (hc : X.calm = true) : CallR X (.builtin "min") rMin := call_min2 hc
def rListOf (K : PySem.W.Frag) : List V → Hp → VK → Prop := fun xs H Q => ∃ p ys, xs = [.ref p] ∧ (SqL K H p ys ∨ SqT K H p ys) ∧ ∀ l, H l = none → Q (.ref l) (upd H l (.lst ys))
theorem call_list1 {X : Cx} : CallR X (.type "list") (rListOf X.K) := call_list_of
def rInt1 : List V → Hp → VK → Prop := fun xs H Q => (∃ i, xs = [.int i] ∧ Q (.int i) H) ∨ ∃ k, xs = [.bl k] ∧ Q (.int (if k then 1 else 0)) H
theorem call_int2 {X : Cx} : CallR X (.type "int") rInt1 := call_int1
def rStr1 : List V → Hp → VK → Prop := fun xs H Q => ∃ i, xs = [.int i] ∧ i.natAbs.log2 < 1920 ∧ Q (.str (toString i)) H
theorem call_str1 {X : Cx} : CallR X (.type "str") rStr1 := call_str_int
def rSlU (K : PySem.W.Frag) : V → Option Int → Option Int → Hp → VK → Prop := fun x lo hi H Q => rSlL K x lo hi H Q ∨ rSlS x lo hi H Q
theorem sl_U {X : Cx} : SlR X (rSlU X.K) := by
  intro pins s σ H x v vl vu lo hi sl Q I rx hs pl pu h
  rcases h with h | h
  · exact sl_list pins s σ H x v vl vu lo hi sl Q I rx hs pl pu h
  · exact sl_str pins s σ H x v vl vu lo hi sl Q I rx hs pl pu h

/-! ### steps: expressions -/
section
variable {K : PySem.W.Frag} {σ : St} {H : Hp} {Q : VK} {QT : Bool → Hp → Prop} {QA : List V → Hp → Prop} {v x y : V} {ta tb tc te : TE} {t u : TT} {r r' : R2}
theorem w_c (q : Q v H) : tC v σ H Q := q
theorem w_op (q : ta σ H fun x H1 => tb σ H1 fun y H2 => r x y H2 Q) : tOp r ta tb σ H Q := q
theorem w_un {r : V → Hp → VK → Prop} (q : ta σ H fun x H1 => r x H1 Q) : tUn r ta σ H Q := q
theorem w_neg {i : Int} (q : Q (.int (-i)) H) : rU (fun i => .int (-i)) (.int i) H Q := ⟨i, rfl, q⟩
theorem w_test (q : te σ H fun x H' => ∃ k, x = .bl k ∧ QT k H') : tTest te σ H QT := q
theorem w_tB (q : te σ H fun x H' => ∃ k, x = .bl k ∧ QT k H') : tB te σ H QT := q
theorem w_bl {b : Bool} {P : Bool → Prop} (q : P b) : ∃ k, V.bl b = .bl k ∧ P k := ⟨b, rfl, q⟩
theorem w_chain (q : ta σ H fun x H1 => tb σ H1 fun y H2 => r x y H2 fun z H3 => ∃ k, z = .bl k ∧ (if k = true then tc σ H3 fun w' H4 => r' y w' H4 Q else Q (.bl false) H3)) : tChain r r' ta tb tc σ H Q := q
theorem w_and (q : t σ H fun c H1 => if c = true then u σ H1 QT else QT false H1) : tAnd t u σ H QT := q
theorem w_or (q : t σ H fun c H1 => if c = true then QT true H1 else u σ H1 QT) : tOr t u σ H QT := q
theorem w_not (q : t σ H fun c H1 => QT (!c) H1) : tNot t σ H QT := q
theorem w_andV (q : ta σ H fun x H1 => ∃ c, x = .bl c ∧ if c = true then tb σ H1 Q else Q (.bl false) H1) : tAndV ta tb σ H Q := q
theorem w_orV (q : ta σ H fun x H1 => ∃ c, x = .bl c ∧ if c = true then Q (.bl true) H1 else tb σ H1 Q) : tOrV ta tb σ H Q := q
theorem w_notV (q : ta σ H fun x H1 => ∃ c, x = .bl c ∧ Q (.bl (!c)) H1) : tNotV ta σ H Q := q
theorem w_nil (q : QA [] H) : tNil σ H QA := q
theorem w_cons {tr : TA} (q : ta σ H fun x H1 => tr σ H1 fun xs H2 => QA (x :: xs) H2) : tCons ta tr σ H QA := q
theorem w_tup {tt : TA} (q : tt σ H fun xs H1 => xs.length ≤ sizeLine ∧ ∀ p, H1 p = none → Q (.ref p) (upd H1 p (.tup xs))) : tTup tt σ H Q := q
theorem w_lst {tt : TA} (q : tt σ H fun xs H1 => xs.length ≤ sizeLine ∧ ∀ p, H1 p = none → Q (.ref p) (upd H1 p (.lst xs))) : tLst tt σ H Q := q
theorem w_CB {r : List V → Hp → VK → Prop} {tt : TA} (q : tt σ H fun vs H1 => r vs H1 Q) : tCB r tt σ H Q := q
theorem w_call {sp : Sp} {E : XK} {tt : TA} (q : tt σ H fun vs H1 => sp vs H1 Q E) : tCall sp [] E tt σ H Q := by
  unfold tCall
  have e : (fun (vs : List V) (H1 : Hp) => sp (vs ++ []) H1 Q E) = fun vs H1 => sp vs H1 Q E := by funext vs H1; rw [List.append_nil]
  rw [e]
  exact q
theorem w_meth {C : Addr} {m : Str} {sp : Sp} {E : XK} {tt : TA} (q : ta σ H fun x H1 => ∃ a dx fs, x = .ref a ∧ H1 a = some (.ins C dx fs) ∧ fs.lookup m = none ∧ tt σ H1 fun vs H2 => sp (x :: vs) H2 Q E) : tMeth C m sp [] E ta tt σ H Q := by
  unfold tMeth
  have e : ∀ x : V, (fun (vs : List V) (H1 : Hp) => sp (x :: (vs ++ [])) H1 Q E) = fun vs H1 => sp (x :: vs) H1 Q E := fun x => by funext vs H1; rw [List.append_nil]
  simp only [e]
  exact q
theorem w_methAt {C a dx : Addr} {fs : List (Str × V)} {m : Str} {P : Prop} (h : H a = some (.ins C dx fs)) (hl : fs.lookup m = none) (q : P) : ∃ b dx fs, V.ref a = .ref b ∧ H b = some (.ins C dx fs) ∧ fs.lookup m = none ∧ P := ⟨a, dx, fs, rfl, h, hl, q⟩
theorem w_make {C : Addr} {sp : Sp} {E : XK} {tt : TA} (q : tt σ H fun vs H1 => ∀ x dx, H1 x = none → H1 dx = none → dx ≠ x → sp (.ref x :: vs) (upd (upd H1 dx (.own x)) x (.ins C dx [])) (fun v H2 => v = .non ∧ Q (.ref x) H2) E) : tMake C sp [] E tt σ H Q := by
  unfold tMake
  have e : ∀ vs : List V, vs ++ [] = vs := fun vs => List.append_nil vs
  simp only [e]
  exact q
theorem w_callS {sp : Sp} {E : St → XK} {tt : TA} (q : tt σ H fun vs H1 => sp vs H1 Q (E σ)) : tCallS sp E tt σ H Q := q
theorem w_fld {f : Str} (q : ta σ H fun x H1 => ∃ a C dx fs v, x = .ref a ∧ H1 a = some (.ins C dx fs) ∧ Cls K C ∧ NoAttr K C f ∧ fs.lookup f = some v ∧ Q v H1) : tFld K ta f σ H Q := q
theorem w_fldAt {a C dx : Addr} {fs : List (Str × V)} {f : Str} {P : V → Prop} (h : H a = some (.ins C dx fs)) (hc : Cls K C) (hn : NoAttr K C f) (hl : fs.lookup f = some v) (q : P v) : ∃ b C dx fs v, V.ref a = .ref b ∧ H b = some (.ins C dx fs) ∧ Cls K C ∧ NoAttr K C f ∧ fs.lookup f = some v ∧ P v := ⟨a, C, dx, fs, v, rfl, h, hc, hn, hl, q⟩
theorem w_bm0 {T : String} {r : V → List V → Hp → VK → Prop} (q : ta σ H fun x H1 => tyV K T x H1 ∧ r x [] H1 Q) : tBM0 K T r ta σ H Q := q
theorem w_bm {T : String} {r : V → List V → Hp → VK → Prop} {tt : TA} (q : ta σ H fun x H1 => tyV K T x H1 ∧ tt σ H1 fun xs H2 => r x xs H2 Q) : tBM K T r ta tt σ H Q := q
theorem w_tyL {a : Addr} {xs : List V} (h : SqL K H a xs) : tyV K "list" (.ref a) H := Or.inl ⟨rfl, xs, h⟩
theorem w_sl {r : V → Option Int → Option Int → Hp → VK → Prop} {tl th : TO} (q : ta σ H fun x H1 => tl σ H1 fun l H2 => th σ H2 fun u H3 => r x l u H3 Q) : tSl r ta tl th σ H Q := q

/-! values -/
theorem w_addI {i j : Int} (q : Q (.int (i + j)) H) : rAddU (.int i) (.int j) H Q := .inl ⟨i, j, rfl, rfl, q⟩
theorem w_addS {i j : Str} (h : i.length + j.length ≤ sizeLine) (q : Q (.str (i ++ j)) H) : rAddU (.str i) (.str j) H Q := .inr (.inl ⟨i, j, rfl, rfl, h, q⟩)
theorem w_addL {a b : Addr} {xs ys : List V} (ha : H a = some (.lst xs)) (hb : H b = some (.lst ys)) (h : xs.length + ys.length ≤ sizeLine) (q : ∀ p, H p = none → Q (.ref p) (upd H p (.lst (xs ++ ys)))) : rAddU (.ref a) (.ref b) H Q := .inr (.inr ⟨a, b, xs, ys, rfl, rfl, ha, hb, h, q⟩)
theorem w_sub {i j : Int} (q : Q (.int (i - j)) H) : rSubI (.int i) (.int j) H Q := ⟨i, j, rfl, rfl, q⟩
theorem w_mul {i j : Int} (h : CMul i j) (q : Q (.int (i * j)) H) : rMul (.int i) (.int j) H Q := ⟨i, j, rfl, rfl, h, q⟩
theorem w_div {i j : Int} (h : 0 < j) (h' : j < 1073741824) (q : Q (.int (i / j)) H) : rDiv (.int i) (.int j) H Q := ⟨i, j, rfl, rfl, ⟨h, h'⟩, q⟩
theorem w_mod {i j : Int} (h : 0 < j) (q : Q (.int (i % j)) H) : rMod (.int i) (.int j) H Q := ⟨i, j, rfl, rfl, h, q⟩
theorem w_pow {i j : Int} (h : CPow i j) (q : Q (.int (i ^ j.toNat)) H) : rPow (.int i) (.int j) H Q := ⟨i, j, rfl, rfl, h, q⟩
theorem w_lt {i j : Int} (q : Q (.bl (decide (i < j))) H) : rLt (.int i) (.int j) H Q := ⟨i, j, rfl, rfl, q⟩
theorem w_le {i j : Int} (q : Q (.bl (decide (i ≤ j))) H) : rLe (.int i) (.int j) H Q := ⟨i, j, rfl, rfl, q⟩
theorem w_gt {i j : Int} (q : Q (.bl (decide (j < i))) H) : rGt (.int i) (.int j) H Q := ⟨i, j, rfl, rfl, q⟩
theorem w_ge {i j : Int} (q : Q (.bl (decide (j ≤ i))) H) : rGe (.int i) (.int j) H Q := ⟨i, j, rfl, rfl, q⟩
theorem dec_ii {i j : Int} : decide (V.int i = V.int j) = decide (i = j) := by rw [decide_eq_decide]; exact ⟨fun h => V.int.inj h, fun h => h ▸ rfl⟩
theorem dec_ss {i j : Str} : decide (V.str i = V.str j) = decide (i = j) := by rw [decide_eq_decide]; exact ⟨fun h => V.str.inj h, fun h => h ▸ rfl⟩
theorem w_eqI {i j : Int} (q : Q (.bl (decide (i = j))) H) : rEqU K (.int i) (.int j) H Q := .inl ⟨rfl, by rw [dec_ii]; exact q⟩
theorem w_neI {i j : Int} (q : Q (.bl (!decide (i = j))) H) : rNeU K (.int i) (.int j) H Q := .inl ⟨rfl, by rw [dec_ii]; exact q⟩
theorem w_eqS {i j : Str} (q : Q (.bl (decide (i = j))) H) : rEqU K (.str i) (.str j) H Q := .inl ⟨rfl, by rw [dec_ss]; exact q⟩
theorem w_neS {i j : Str} (q : Q (.bl (!decide (i = j))) H) : rNeU K (.str i) (.str j) H Q := .inl ⟨rfl, by rw [dec_ss]; exact q⟩
theorem w_eqD {d e : PyData} (hx : Dp K H x d) (hy : Dp K H y e) (hd : SeqAt.shaped d = true) (he : SeqAt.shaped e = true) (q : Q (.bl (PyData.eqv d e)) H) : rEqU K x y H Q := .inr ⟨d, e, hx, hy, hd, he, q⟩
theorem w_neD {d e : PyData} (hx : Dp K H x d) (hy : Dp K H y e) (hd : SeqAt.shaped d = true) (he : SeqAt.shaped e = true) (q : Q (.bl (!PyData.eqv d e)) H) : rNeU K x y H Q := .inr ⟨d, e, hx, hy, hd, he, q⟩
theorem w_isN (q : Q (.bl (decide (x = .non))) H) : rIsN x .non H Q := ⟨rfl, q⟩
theorem w_notN (q : Q (.bl (!decide (x = .non))) H) : rNotN x .non H Q := ⟨rfl, q⟩
theorem w_lenL {a : Addr} {xs : List V} (h : SqL K H a xs) (q : Q (.int (xs.length : Nat)) H) : rLen K [.ref a] H Q := ⟨.ref a, xs.length, rfl, Or.inl ⟨xs, h, rfl⟩, q⟩
theorem w_lenT {a : Addr} {xs : List V} (h : SqT K H a xs) (q : Q (.int (xs.length : Nat)) H) : rLen K [.ref a] H Q := ⟨.ref a, xs.length, rfl, Or.inr ⟨xs, h, rfl⟩, q⟩
theorem w_lenS {z : Str} (h : z.length ≤ sizeLine) (q : Q (.int (z.length : Nat)) H) : rLen K [.str z] H Q := ⟨.str z, z.length, rfl, ⟨h, rfl⟩, q⟩
theorem w_max {i j : Int} (q : Q (.int (if j > i then j else i)) H) : rMax [.int i, .int j] H Q := ⟨i, j, rfl, q⟩
theorem w_min {i j : Int} (q : Q (.int (if j < i then j else i)) H) : rMin [.int i, .int j] H Q := ⟨i, j, rfl, q⟩
theorem w_intI {i : Int} (q : Q (.int i) H) : rInt1 [.int i] H Q := .inl ⟨i, rfl, q⟩
theorem w_intB {k : Bool} (q : Q (.int (if k then 1 else 0)) H) : rInt1 [.bl k] H Q := .inr ⟨k, rfl, q⟩
theorem w_str {i : Int} (h : i.natAbs.log2 < 1920) (q : Q (.str (toString i)) H) : rStr1 [.int i] H Q := ⟨i, rfl, h, q⟩
theorem w_listL {a : Addr} {xs : List V} (h : SqL K H a xs) (q : ∀ l, H l = none → Q (.ref l) (upd H l (.lst xs))) : rListOf K [.ref a] H Q := ⟨a, xs, rfl, .inl h, q⟩
theorem w_ixL {a : Addr} {xs : List V} {i : Int} (h : SqL K H a xs) (ha : atI xs i = some v) (q : Q v H) : rIx K (.ref a) (.int i) H Q := .inl ⟨a, xs, i, v, rfl, rfl, h, ha, q⟩
theorem w_ixT {a : Addr} {xs : List V} {i : Int} (h : SqT K H a xs) (ha : atI xs i = some v) (q : Q v H) : rIx K (.ref a) (.int i) H Q := .inr (.inl ⟨a, xs, i, v, rfl, rfl, h, ha, q⟩)
theorem w_ixS {z : Str} {i : Int} {c : Nat} (hz : z.length ≤ sizeLine) (ha : atI z.cps.toList i = some c) (q : Q (.str ⟨#[c]⟩) H) : rIx K (.str z) (.int i) H Q := .inr (.inr ⟨z, i, c, rfl, rfl, hz, ha, q⟩)
theorem atI_lt {α : Type} {xs : List α} {i : Int} (h0 : 0 ≤ i) (h1 : i < xs.length) : ∃ v, v ∈ xs ∧ atI xs i = some v := by
  have hj : i.toNat < xs.length := by omega
  have e : i = (i.toNat : Int) := by omega
  refine ⟨xs[i.toNat], List.getElem_mem hj, ?_⟩
  have z := atI_nat (List.getElem?_eq_getElem hj)
  rw [← e] at z
  exact z
/-- an item of a menu: any of them -/
theorem w_ixAny {a : Addr} {xs : List V} {i : Int} (h : SqL K H a xs) (h0 : 0 ≤ i) (h1 : i < xs.length) (q : ∀ v, v ∈ xs → Q v H) : rIx K (.ref a) (.int i) H Q := by
  obtain ⟨v, hv, e⟩ := atI_lt h0 h1
  exact w_ixL h e (q v hv)
theorem w_slL {a : Addr} {xs : List V} {lo hi : Option Int} (h : SqL K H a xs) (q : ∀ p, H p = none → Q (.ref p) (upd H p (.lst (cutV xs lo hi)))) : rSlU K (.ref a) lo hi H Q := .inl ⟨a, xs, rfl, h, q⟩
theorem w_slS {z : Str} {lo hi : Option Int} (h : z.length ≤ sizeLine) (q : Q (.str (cutS z lo hi)) H) : rSlU K (.str z) lo hi H Q := .inr ⟨z, rfl, h, q⟩
theorem w_app {l : Addr} {xs : List V} (h : H l = some (.lst xs)) (hz : xs.length < sizeLine) (q : Q .non (upd H l (.lst (xs ++ [y])))) : rAppend (.ref l) [y] H Q := ⟨l, xs, y, rfl, rfl, h, hz, q⟩
theorem w_pop {l : Addr} {xs : List V} (h : H l = some (.lst xs)) (hz : xs[xs.length - 1]? = some y) (q : Q y (upd H l (.lst xs.dropLast))) : rPop (.ref l) [] H Q := ⟨l, xs, y, rfl, rfl, h, hz, q⟩
theorem isi_ty {n m : String} {b : Bool} (ty : TyX K H x (.type n)) (h : kitB n m = some b) (q : Q (.bl b) H) : rIsi K [x, .ty m] H Q := ⟨x, .ty m, .type n, .type m, b, rfl, .ty m, ty, kit_ty h, q⟩
end
/-! tests -/
theorem ite_d {p A B : Prop} [Decidable p] (h1 : p → A) (h2 : ¬ p → B) : if decide p = true then A else B := by
  by_cases h : p
  · rw [if_pos (decide_eq_true h)]; exact h1 h
  · rw [if_neg (by rw [decide_eq_false h]; exact Bool.false_ne_true)]; exact h2 h
theorem ite_nd {p A B : Prop} [Decidable p] (h1 : ¬ p → A) (h2 : p → B) : if (!decide p) = true then A else B := by
  by_cases h : p
  · rw [if_neg (by rw [decide_eq_true h]; decide)]; exact h2 h
  · rw [if_pos (by rw [decide_eq_false h]; rfl)]; exact h1 h
theorem ite_b {b : Bool} {A B : Prop} (h1 : b = true → A) (h2 : b = false → B) : if b = true then A else B := by
  cases b with
  | true => rw [if_pos rfl]; exact h1 rfl
  | false => rw [if_neg Bool.false_ne_true]; exact h2 rfl
theorem ite_nb {b : Bool} {A B : Prop} (h1 : b = false → A) (h2 : b = true → B) : if (!b) = true then A else B := by
  cases b with
  | false => exact h1 rfl
  | true => exact h2 rfl

/-! ### steps: statements -/
section
variable {K : PySem.W.Frag} {σ : St} {H : Hp} {t u : TS} {te : TE} {c : TT} {g : TG} {nx bk ct : St → Hp → Prop} {rt : VK}
theorem w_seq (q : t ⟨fun σ' H' => u ⟨nx, rt, bk, ct⟩ σ' H', rt, bk, ct⟩ σ H) : tSeq t u ⟨nx, rt, bk, ct⟩ σ H := q
theorem w_next (q : nx σ H) : tNext ⟨nx, rt, bk, ct⟩ σ H := q
theorem w_break (q : bk σ H) : tBreak ⟨nx, rt, bk, ct⟩ σ H := q
theorem w_cont (q : ct σ H) : tCont ⟨nx, rt, bk, ct⟩ σ H := q
theorem w_asg (q : te σ H fun x H1 => g x σ H1 nx) : tAsg te g ⟨nx, rt, bk, ct⟩ σ H := q
theorem w_ret (q : te σ H rt) : tRet te ⟨nx, rt, bk, ct⟩ σ H := q
theorem w_retN (q : rt .non H) : tRetN ⟨nx, rt, bk, ct⟩ σ H := q
theorem w_drop (q : te σ H fun _ H1 => nx σ H1) : tDrop te ⟨nx, rt, bk, ct⟩ σ H := q
theorem w_if (q : c σ H fun b H1 => if b = true then t ⟨nx, rt, bk, ct⟩ σ H1 else u ⟨nx, rt, bk, ct⟩ σ H1) : tIfS c t u ⟨nx, rt, bk, ct⟩ σ H := q
theorem w_cut {Mid : St → Hp → Prop} (h : t ⟨Mid, rt, bk, ct⟩ σ H) (k : ∀ σ' H', Mid σ' H' → u ⟨nx, rt, bk, ct⟩ σ' H') : Evl.tCut t u ⟨nx, rt, bk, ct⟩ σ H := ⟨Mid, h, k⟩
theorem w_sfld {ta tv : TE} {f : Str} (q : tv σ H fun y H1 => ta σ H1 fun x H2 => ∃ a C dx fs, x = .ref a ∧ H2 a = some (.ins C dx fs) ∧ Cls K C ∧ NoAttr K C f ∧ fs.length < 1000 ∧ nx σ (upd H2 a (.ins C dx (putF f y fs)))) : sFld K ta tv f ⟨nx, rt, bk, ct⟩ σ H := q
theorem w_sfldAt {a C dx : Addr} {fs : List (Str × V)} {f : Str} {R : Addr → Addr → Addr → List (Str × V) → Prop} (h : H a = some (.ins C dx fs)) (hc : Cls K C) (hn : NoAttr K C f) (hl : fs.length < 1000) (q : R a C dx fs) : ∃ b C dx fs, V.ref a = .ref b ∧ H b = some (.ins C dx fs) ∧ Cls K C ∧ NoAttr K C f ∧ fs.length < 1000 ∧ R b C dx fs := ⟨a, C, dx, fs, rfl, h, hc, hn, hl, q⟩
theorem w_gSub {to ti : TE} {ts : TSet} {v : V} {R : St → Hp → Prop} (q : to σ H fun o H1 => ti σ H1 fun i H2 => ts o i v H2 fun H3 => R σ H3) : gSub to ti ts v σ H R := q
theorem w_gTup {n : Nat} {tg : TGs} {a : Addr} {xs : List V} {R : St → Hp → Prop} (h : SqT K H a xs) (hl : xs.length = n) (q : tg xs σ H R) : gTup K n tg (.ref a) σ H R := ⟨a, xs, rfl, h, hl, q⟩
theorem w_gCons {tg : TG} {us : TGs} {v : V} {r : List V} {R : St → Hp → Prop} (q : tg v σ H fun σ' H' => us r σ' H' R) : gCons tg us (v :: r) σ H R := ⟨v, r, rfl, q⟩
theorem w_gNil {R : St → Hp → Prop} (q : R σ H) : gNil [] σ H R := ⟨rfl, q⟩
/-- a loop's word: what a for asks behind its iterator -/
def LB (g : TG) (t : TS) (nx : St → Hp → Prop) (rt : VK) (σ : St) (J : It) (H1 : Hp) : Prop := ∃ W : Nat → Nat → St → Hp → Prop, (∃ m, W 0 m σ H1) ∧ ∀ i m σ H, W i m σ H →
  (J.stop i H ∧ nx σ H) ∨ (J.go i H ∧ ∃ N : St → Hp → Prop, (∀ σ' H', N σ' H' → ∃ m', m' < m ∧ W (i + 1) m' σ' H') ∧ ∀ x H', J.yld i H x H' → g x σ H' fun σ2 H2 => t ⟨N, rt, nx, N⟩ σ2 H2)
theorem w_for {wi : TI} (q : wi σ H fun J H1 => LB g t nx rt σ J H1) : tFor wi g t ⟨nx, rt, bk, ct⟩ σ H := q
theorem w_iR1 {ta : TA} {R : It → Hp → Prop} (q : ta σ H fun vs H1 => ∃ j : Int, vs = [.int j] ∧ -(2 ^ 62) ≤ j ∧ j < 2 ^ 62 ∧ R (Itr 0 j.toNat) H1) : iRng1 ta σ H R := q
theorem w_iR1v {n : Int} {R : It → Hp → Prop} (h1 : -(2 ^ 62) ≤ n) (h2 : n < 2 ^ 62) (q : R (Itr 0 n.toNat) H) : ∃ j : Int, [V.int n] = [.int j] ∧ -(2 ^ 62) ≤ j ∧ j < 2 ^ 62 ∧ R (Itr 0 j.toNat) H := ⟨n, rfl, h1, h2, q⟩
theorem w_iR2 {ta : TA} {R : It → Hp → Prop} (q : ta σ H fun vs H1 => ∃ i j : Int, vs = [.int i, .int j] ∧ (-(2 ^ 62) ≤ i ∧ i < 2 ^ 62 ∧ -(2 ^ 62) ≤ j ∧ j < 2 ^ 62) ∧ R (Itr i (j - i).toNat) H1) : iRng2 ta σ H R := q
theorem w_iR2v {a b : Int} {R : It → Hp → Prop} (h : -(2 ^ 62) ≤ a ∧ a < 2 ^ 62 ∧ -(2 ^ 62) ≤ b ∧ b < 2 ^ 62) (q : R (Itr a (b - a).toNat) H) : ∃ i j : Int, [V.int a, V.int b] = [.int i, .int j] ∧ (-(2 ^ 62) ≤ i ∧ i < 2 ^ 62 ∧ -(2 ^ 62) ≤ j ∧ j < 2 ^ 62) ∧ R (Itr i (j - i).toNat) H := ⟨a, b, rfl, h, q⟩
theorem w_iR3 {ta : TA} {R : It → Hp → Prop} (q : ta σ H fun vs H1 => ∃ (i j c : Int) (n : Nat), vs = [.int i, .int j, .int c] ∧ RgC i j c n ∧ R (Itc i c n) H1) : iRng3 ta σ H R := q
theorem w_iR3v {a b : Int} {R : It → Hp → Prop} (h : -(2 ^ 62) ≤ a ∧ a < 2 ^ 62 ∧ -(2 ^ 62) ≤ b ∧ b < 2 ^ 62) (q : R (Itc a (-1) (a - b).toNat) H) : ∃ (i j c : Int) (n : Nat), [V.int a, V.int b, V.int (-1)] = [.int i, .int j, .int c] ∧ RgC i j c n ∧ R (Itc i c n) H :=
  ⟨a, b, -1, _, rfl, RgC.neg h.1 h.2.1 h.2.2.1 h.2.2.2, q⟩
theorem w_iL {ta : TE} {R : It → Hp → Prop} (q : ta σ H fun x H1 => ∃ a, x = .ref a ∧ (∃ xs, SqL K H1 a xs) ∧ R (Itl K a) H1) : iList K ta σ H R := q
theorem w_iLv {a : Addr} {xs : List V} {R : It → Hp → Prop} (h : SqL K H a xs) (q : R (Itl K a) H) : ∃ b, V.ref a = .ref b ∧ (∃ xs, SqL K H b xs) ∧ R (Itl K b) H := ⟨a, rfl, ⟨xs, h⟩, q⟩
theorem lb_range {lo : Int} {n : Nat} (Pv : Nat → St → Hp → Prop) (h0 : Pv 0 σ H) (hs : ∀ (i : Nat) σ H, i < n → Pv i σ H → g (.int (lo + i)) σ H fun σ2 H2 => t ⟨Pv (i + 1), rt, nx, Pv (i + 1)⟩ σ2 H2) (hd : ∀ σ H, Pv n σ H → nx σ H) :
    LB g t nx rt σ (Itr lo n) H := for_range (D := ⟨nx, rt, fun _ _ => False, fun _ _ => False⟩) (lo := lo) (n := n) Pv h0 hs hd
theorem lb_range0 {n : Nat} (Pv : Nat → St → Hp → Prop) (h0 : Pv 0 σ H) (hs : ∀ (i : Nat) σ H, i < n → Pv i σ H → g (.int (i : Int)) σ H fun σ2 H2 => t ⟨Pv (i + 1), rt, nx, Pv (i + 1)⟩ σ2 H2) (hd : ∀ σ H, Pv n σ H → nx σ H) :
    LB g t nx rt σ (Itr 0 n) H := lb_range Pv h0 (fun i σ H hi p => by rw [Int.zero_add]; exact hs i σ H hi p) hd
theorem lb_rangeC {lo c : Int} {n : Nat} (Pv : Nat → St → Hp → Prop) (h0 : Pv 0 σ H) (hs : ∀ (i : Nat) σ H, i < n → Pv i σ H → g (.int (lo + (i : Nat) * c)) σ H fun σ2 H2 => t ⟨Pv (i + 1), rt, nx, Pv (i + 1)⟩ σ2 H2) (hd : ∀ σ H, Pv n σ H → nx σ H) :
    LB g t nx rt σ (Itc lo c n) H := for_rangeC (D := ⟨nx, rt, fun _ _ => False, fun _ _ => False⟩) (lo := lo) (c := c) (n := n) Pv h0 hs hd
theorem lb_list {a : Addr} {xs : List V} (Pv : Nat → St → Hp → Prop) (h0 : Pv 0 σ H) (hl : ∀ i σ H, i ≤ xs.length → Pv i σ H → SqL K H a xs) (hs : ∀ i x σ H, xs[i]? = some x → Pv i σ H → g x σ H fun σ2 H2 => t ⟨Pv (i + 1), rt, nx, Pv (i + 1)⟩ σ2 H2)
    (hd : ∀ σ H, Pv xs.length σ H → nx σ H) : LB g t nx rt σ (Itl K a) H := for_list (K := K) (a := a) (xs := xs) (D := ⟨nx, rt, fun _ _ => False, fun _ _ => False⟩) Pv h0 hl hs hd
theorem w_while {c : TT} {tb : TS} (Pv : St → Hp → Prop) (μ : St → Hp → Nat) (h0 : Pv σ H)
    (hs : ∀ σ H, Pv σ H → c σ H fun b H1 => if b = true then ∃ N : St → Hp → Prop, (∀ σ' H', N σ' H' → ∃ m', m' < μ σ H ∧ (m' = μ σ' H' ∧ Pv σ' H')) ∧ tb ⟨N, rt, nx, N⟩ σ H1 else nx σ H1) : tWhile c tb ⟨nx, rt, bk, ct⟩ σ H :=
  ⟨fun m σ H => m = μ σ H ∧ Pv σ H, ⟨_, rfl, h0⟩, fun m σ H h => by
    obtain ⟨e, p⟩ := h
    subst e
    exact hs σ H p⟩
theorem w_wN {tb : TS} {Pv : St → Hp → Prop} {μ : St → Hp → Nat} {m : Nat} (q : tb ⟨fun σ' H' => Pv σ' H' ∧ μ σ' H' < m, rt, nx, fun σ' H' => Pv σ' H' ∧ μ σ' H' < m⟩ σ H) :
    ∃ N : St → Hp → Prop, (∀ σ' H', N σ' H' → ∃ m', m' < m ∧ (m' = μ σ' H' ∧ Pv σ' H')) ∧ tb ⟨N, rt, nx, N⟩ σ H := ⟨_, fun _ _ h => ⟨_, h.2, rfl, h.1⟩, q⟩
end
end Ts
namespace Ts
open PySem L2
section
variable {H : Hp} {Q : VK} {R : St → Hp → Prop} {v a : V}
theorem w_v0 {s : St} (q : Q v H) : tVar 0 (some v :: s) H Q := ⟨v, rfl, q⟩
theorem w_n0 {b : Option V} {s : St} (q : R (some v :: s) H) : gName 0 v (b :: s) H R := q
theorem w_v1 {a0 : Option V} {s : St} (q : Q v H) : tVar 1 (a0 :: some v :: s) H Q := ⟨v, rfl, q⟩
theorem w_n1 {a0 : Option V} {b : Option V} {s : St} (q : R (a0 :: some v :: s) H) : gName 1 v (a0 :: b :: s) H R := q
theorem w_v2 {a0 a1 : Option V} {s : St} (q : Q v H) : tVar 2 (a0 :: a1 :: some v :: s) H Q := ⟨v, rfl, q⟩
theorem w_n2 {a0 a1 : Option V} {b : Option V} {s : St} (q : R (a0 :: a1 :: some v :: s) H) : gName 2 v (a0 :: a1 :: b :: s) H R := q
theorem w_v3 {a0 a1 a2 : Option V} {s : St} (q : Q v H) : tVar 3 (a0 :: a1 :: a2 :: some v :: s) H Q := ⟨v, rfl, q⟩
theorem w_n3 {a0 a1 a2 : Option V} {b : Option V} {s : St} (q : R (a0 :: a1 :: a2 :: some v :: s) H) : gName 3 v (a0 :: a1 :: a2 :: b :: s) H R := q
theorem w_v4 {a0 a1 a2 a3 : Option V} {s : St} (q : Q v H) : tVar 4 (a0 :: a1 :: a2 :: a3 :: some v :: s) H Q := ⟨v, rfl, q⟩
theorem w_n4 {a0 a1 a2 a3 : Option V} {b : Option V} {s : St} (q : R (a0 :: a1 :: a2 :: a3 :: some v :: s) H) : gName 4 v (a0 :: a1 :: a2 :: a3 :: b :: s) H R := q
theorem w_v5 {a0 a1 a2 a3 a4 : Option V} {s : St} (q : Q v H) : tVar 5 (a0 :: a1 :: a2 :: a3 :: a4 :: some v :: s) H Q := ⟨v, rfl, q⟩
theorem w_n5 {a0 a1 a2 a3 a4 : Option V} {b : Option V} {s : St} (q : R (a0 :: a1 :: a2 :: a3 :: a4 :: some v :: s) H) : gName 5 v (a0 :: a1 :: a2 :: a3 :: a4 :: b :: s) H R := q
theorem w_v6 {a0 a1 a2 a3 a4 a5 : Option V} {s : St} (q : Q v H) : tVar 6 (a0 :: a1 :: a2 :: a3 :: a4 :: a5 :: some v :: s) H Q := ⟨v, rfl, q⟩
theorem w_n6 {a0 a1 a2 a3 a4 a5 : Option V} {b : Option V} {s : St} (q : R (a0 :: a1 :: a2 :: a3 :: a4 :: a5 :: some v :: s) H) : gName 6 v (a0 :: a1 :: a2 :: a3 :: a4 :: a5 :: b :: s) H R := q
theorem w_v7 {a0 a1 a2 a3 a4 a5 a6 : Option V} {s : St} (q : Q v H) : tVar 7 (a0 :: a1 :: a2 :: a3 :: a4 :: a5 :: a6 :: some v :: s) H Q := ⟨v, rfl, q⟩
theorem w_n7 {a0 a1 a2 a3 a4 a5 a6 : Option V} {b : Option V} {s : St} (q : R (a0 :: a1 :: a2 :: a3 :: a4 :: a5 :: a6 :: some v :: s) H) : gName 7 v (a0 :: a1 :: a2 :: a3 :: a4 :: a5 :: a6 :: b :: s) H R := q
theorem w_v8 {a0 a1 a2 a3 a4 a5 a6 a7 : Option V} {s : St} (q : Q v H) : tVar 8 (a0 :: a1 :: a2 :: a3 :: a4 :: a5 :: a6 :: a7 :: some v :: s) H Q := ⟨v, rfl, q⟩
theorem w_n8 {a0 a1 a2 a3 a4 a5 a6 a7 : Option V} {b : Option V} {s : St} (q : R (a0 :: a1 :: a2 :: a3 :: a4 :: a5 :: a6 :: a7 :: some v :: s) H) : gName 8 v (a0 :: a1 :: a2 :: a3 :: a4 :: a5 :: a6 :: a7 :: b :: s) H R := q
theorem w_v9 {a0 a1 a2 a3 a4 a5 a6 a7 a8 : Option V} {s : St} (q : Q v H) : tVar 9 (a0 :: a1 :: a2 :: a3 :: a4 :: a5 :: a6 :: a7 :: a8 :: some v :: s) H Q := ⟨v, rfl, q⟩
theorem w_n9 {a0 a1 a2 a3 a4 a5 a6 a7 a8 : Option V} {b : Option V} {s : St} (q : R (a0 :: a1 :: a2 :: a3 :: a4 :: a5 :: a6 :: a7 :: a8 :: some v :: s) H) : gName 9 v (a0 :: a1 :: a2 :: a3 :: a4 :: a5 :: a6 :: a7 :: a8 :: b :: s) H R := q
theorem w_v10 {a0 a1 a2 a3 a4 a5 a6 a7 a8 a9 : Option V} {s : St} (q : Q v H) : tVar 10 (a0 :: a1 :: a2 :: a3 :: a4 :: a5 :: a6 :: a7 :: a8 :: a9 :: some v :: s) H Q := ⟨v, rfl, q⟩
theorem w_n10 {a0 a1 a2 a3 a4 a5 a6 a7 a8 a9 : Option V} {b : Option V} {s : St} (q : R (a0 :: a1 :: a2 :: a3 :: a4 :: a5 :: a6 :: a7 :: a8 :: a9 :: some v :: s) H) : gName 10 v (a0 :: a1 :: a2 :: a3 :: a4 :: a5 :: a6 :: a7 :: a8 :: a9 :: b :: s) H R := q
theorem w_v11 {a0 a1 a2 a3 a4 a5 a6 a7 a8 a9 a10 : Option V} {s : St} (q : Q v H) : tVar 11 (a0 :: a1 :: a2 :: a3 :: a4 :: a5 :: a6 :: a7 :: a8 :: a9 :: a10 :: some v :: s) H Q := ⟨v, rfl, q⟩
theorem w_n11 {a0 a1 a2 a3 a4 a5 a6 a7 a8 a9 a10 : Option V} {b : Option V} {s : St} (q : R (a0 :: a1 :: a2 :: a3 :: a4 :: a5 :: a6 :: a7 :: a8 :: a9 :: a10 :: some v :: s) H) : gName 11 v (a0 :: a1 :: a2 :: a3 :: a4 :: a5 :: a6 :: a7 :: a8 :: a9 :: a10 :: b :: s) H R := q
theorem w_v12 {a0 a1 a2 a3 a4 a5 a6 a7 a8 a9 a10 a11 : Option V} {s : St} (q : Q v H) : tVar 12 (a0 :: a1 :: a2 :: a3 :: a4 :: a5 :: a6 :: a7 :: a8 :: a9 :: a10 :: a11 :: some v :: s) H Q := ⟨v, rfl, q⟩
theorem w_n12 {a0 a1 a2 a3 a4 a5 a6 a7 a8 a9 a10 a11 : Option V} {b : Option V} {s : St} (q : R (a0 :: a1 :: a2 :: a3 :: a4 :: a5 :: a6 :: a7 :: a8 :: a9 :: a10 :: a11 :: some v :: s) H) : gName 12 v (a0 :: a1 :: a2 :: a3 :: a4 :: a5 :: a6 :: a7 :: a8 :: a9 :: a10 :: a11 :: b :: s) H R := q
theorem w_v13 {a0 a1 a2 a3 a4 a5 a6 a7 a8 a9 a10 a11 a12 : Option V} {s : St} (q : Q v H) : tVar 13 (a0 :: a1 :: a2 :: a3 :: a4 :: a5 :: a6 :: a7 :: a8 :: a9 :: a10 :: a11 :: a12 :: some v :: s) H Q := ⟨v, rfl, q⟩
theorem w_n13 {a0 a1 a2 a3 a4 a5 a6 a7 a8 a9 a10 a11 a12 : Option V} {b : Option V} {s : St} (q : R (a0 :: a1 :: a2 :: a3 :: a4 :: a5 :: a6 :: a7 :: a8 :: a9 :: a10 :: a11 :: a12 :: some v :: s) H) : gName 13 v (a0 :: a1 :: a2 :: a3 :: a4 :: a5 :: a6 :: a7 :: a8 :: a9 :: a10 :: a11 :: a12 :: b :: s) H R := q
theorem w_v14 {a0 a1 a2 a3 a4 a5 a6 a7 a8 a9 a10 a11 a12 a13 : Option V} {s : St} (q : Q v H) : tVar 14 (a0 :: a1 :: a2 :: a3 :: a4 :: a5 :: a6 :: a7 :: a8 :: a9 :: a10 :: a11 :: a12 :: a13 :: some v :: s) H Q := ⟨v, rfl, q⟩
theorem w_n14 {a0 a1 a2 a3 a4 a5 a6 a7 a8 a9 a10 a11 a12 a13 : Option V} {b : Option V} {s : St} (q : R (a0 :: a1 :: a2 :: a3 :: a4 :: a5 :: a6 :: a7 :: a8 :: a9 :: a10 :: a11 :: a12 :: a13 :: some v :: s) H) : gName 14 v (a0 :: a1 :: a2 :: a3 :: a4 :: a5 :: a6 :: a7 :: a8 :: a9 :: a10 :: a11 :: a12 :: a13 :: b :: s) H R := q
theorem w_v15 {a0 a1 a2 a3 a4 a5 a6 a7 a8 a9 a10 a11 a12 a13 a14 : Option V} {s : St} (q : Q v H) : tVar 15 (a0 :: a1 :: a2 :: a3 :: a4 :: a5 :: a6 :: a7 :: a8 :: a9 :: a10 :: a11 :: a12 :: a13 :: a14 :: some v :: s) H Q := ⟨v, rfl, q⟩
theorem w_n15 {a0 a1 a2 a3 a4 a5 a6 a7 a8 a9 a10 a11 a12 a13 a14 : Option V} {b : Option V} {s : St} (q : R (a0 :: a1 :: a2 :: a3 :: a4 :: a5 :: a6 :: a7 :: a8 :: a9 :: a10 :: a11 :: a12 :: a13 :: a14 :: some v :: s) H) : gName 15 v (a0 :: a1 :: a2 :: a3 :: a4 :: a5 :: a6 :: a7 :: a8 :: a9 :: a10 :: a11 :: a12 :: a13 :: a14 :: b :: s) H R := q
theorem w_v16 {a0 a1 a2 a3 a4 a5 a6 a7 a8 a9 a10 a11 a12 a13 a14 a15 : Option V} {s : St} (q : Q v H) : tVar 16 (a0 :: a1 :: a2 :: a3 :: a4 :: a5 :: a6 :: a7 :: a8 :: a9 :: a10 :: a11 :: a12 :: a13 :: a14 :: a15 :: some v :: s) H Q := ⟨v, rfl, q⟩
theorem w_n16 {a0 a1 a2 a3 a4 a5 a6 a7 a8 a9 a10 a11 a12 a13 a14 a15 : Option V} {b : Option V} {s : St} (q : R (a0 :: a1 :: a2 :: a3 :: a4 :: a5 :: a6 :: a7 :: a8 :: a9 :: a10 :: a11 :: a12 :: a13 :: a14 :: a15 :: some v :: s) H) : gName 16 v (a0 :: a1 :: a2 :: a3 :: a4 :: a5 :: a6 :: a7 :: a8 :: a9 :: a10 :: a11 :: a12 :: a13 :: a14 :: a15 :: b :: s) H R := q
theorem w_v17 {a0 a1 a2 a3 a4 a5 a6 a7 a8 a9 a10 a11 a12 a13 a14 a15 a16 : Option V} {s : St} (q : Q v H) : tVar 17 (a0 :: a1 :: a2 :: a3 :: a4 :: a5 :: a6 :: a7 :: a8 :: a9 :: a10 :: a11 :: a12 :: a13 :: a14 :: a15 :: a16 :: some v :: s) H Q := ⟨v, rfl, q⟩
theorem w_n17 {a0 a1 a2 a3 a4 a5 a6 a7 a8 a9 a10 a11 a12 a13 a14 a15 a16 : Option V} {b : Option V} {s : St} (q : R (a0 :: a1 :: a2 :: a3 :: a4 :: a5 :: a6 :: a7 :: a8 :: a9 :: a10 :: a11 :: a12 :: a13 :: a14 :: a15 :: a16 :: some v :: s) H) : gName 17 v (a0 :: a1 :: a2 :: a3 :: a4 :: a5 :: a6 :: a7 :: a8 :: a9 :: a10 :: a11 :: a12 :: a13 :: a14 :: a15 :: a16 :: b :: s) H R := q
theorem w_v18 {a0 a1 a2 a3 a4 a5 a6 a7 a8 a9 a10 a11 a12 a13 a14 a15 a16 a17 : Option V} {s : St} (q : Q v H) : tVar 18 (a0 :: a1 :: a2 :: a3 :: a4 :: a5 :: a6 :: a7 :: a8 :: a9 :: a10 :: a11 :: a12 :: a13 :: a14 :: a15 :: a16 :: a17 :: some v :: s) H Q := ⟨v, rfl, q⟩
theorem w_n18 {a0 a1 a2 a3 a4 a5 a6 a7 a8 a9 a10 a11 a12 a13 a14 a15 a16 a17 : Option V} {b : Option V} {s : St} (q : R (a0 :: a1 :: a2 :: a3 :: a4 :: a5 :: a6 :: a7 :: a8 :: a9 :: a10 :: a11 :: a12 :: a13 :: a14 :: a15 :: a16 :: a17 :: some v :: s) H) : gName 18 v (a0 :: a1 :: a2 :: a3 :: a4 :: a5 :: a6 :: a7 :: a8 :: a9 :: a10 :: a11 :: a12 :: a13 :: a14 :: a15 :: a16 :: a17 :: b :: s) H R := q
theorem w_v19 {a0 a1 a2 a3 a4 a5 a6 a7 a8 a9 a10 a11 a12 a13 a14 a15 a16 a17 a18 : Option V} {s : St} (q : Q v H) : tVar 19 (a0 :: a1 :: a2 :: a3 :: a4 :: a5 :: a6 :: a7 :: a8 :: a9 :: a10 :: a11 :: a12 :: a13 :: a14 :: a15 :: a16 :: a17 :: a18 :: some v :: s) H Q := ⟨v, rfl, q⟩
theorem w_n19 {a0 a1 a2 a3 a4 a5 a6 a7 a8 a9 a10 a11 a12 a13 a14 a15 a16 a17 a18 : Option V} {b : Option V} {s : St} (q : R (a0 :: a1 :: a2 :: a3 :: a4 :: a5 :: a6 :: a7 :: a8 :: a9 :: a10 :: a11 :: a12 :: a13 :: a14 :: a15 :: a16 :: a17 :: a18 :: some v :: s) H) : gName 19 v (a0 :: a1 :: a2 :: a3 :: a4 :: a5 :: a6 :: a7 :: a8 :: a9 :: a10 :: a11 :: a12 :: a13 :: a14 :: a15 :: a16 :: a17 :: a18 :: b :: s) H R := q
end
end Ts
namespace Ts
open PySem PySem.Spec PyProof.Rows L2
/-! ### defs, methods, classes by their names -/
structure FunG (K : PySem.W.Frag) (mg : Str → Option Value) (x : Str) (st : Stmt) (ps : List Str) : Prop where
  ex : ∃ f fd, Fun K x x st f fd ∧ mg x = some (.ref f) ∧ Binds K fd ps []
structure MetG (K : PySem.W.Frag) (C : Addr) (m qual : Str) (st : Stmt) (ps : List Str) : Prop where
  ex : ∃ f fd, Fun K m qual st f fd ∧ Meth K C m f ∧ Binds K fd ps []
structure IniG (K : PySem.W.Frag) (mg : Str → Option Value) (C : Addr) (x qual : Str) (st : Stmt) (ps : List Str) : Prop where
  ex : ∃ f fd, Fun K "__init__" qual st f fd ∧ Mk K C f ∧ mg x = some (.ref C) ∧ Binds K fd ps []
structure FnG (P : Program) (w : World) (K : PySem.W.Frag) (mg : Str → Option Value) (base : Heap) (k : Nat) (x : Str) (ps : List Str) (sp : Sp) : Prop where
  ex : ∃ f fd, FnOk P w K mg base (L2N.CX P w) k f fd ps sp ∧ mg x = some (.ref f) ∧ PySem.W.keepIn K (.ref f) = true ∧ Binds K fd ps []
structure MtG (P : Program) (w : World) (K : PySem.W.Frag) (mg : Str → Option Value) (base : Heap) (k : Nat) (C : Addr) (m : Str) (ps : List Str) (sp : Sp) : Prop where
  ex : ∃ f fd, FnOk P w K mg base (L2N.CX P w) k f fd ps sp ∧ Meth K C m f ∧ Binds K fd ps []
structure MkG (P : Program) (w : World) (K : PySem.W.Frag) (mg : Str → Option Value) (base : Heap) (k : Nat) (C : Addr) (x : Str) (ps : List Str) (sp : Sp) : Prop where
  ex : ∃ f fd, FnOk P w K mg base (L2N.CX P w) k f fd ps sp ∧ Mk K C f ∧ mg x = some (.ref C) ∧ Binds K fd ps []
section
variable {P : Program} {w : World} {K : PySem.W.Frag} {mg : Str → Option Value} {base : Heap} {x m qual : Str} {st : Stmt} {C : Addr} {ps N : List Str} {k : Nat} {sp sp' : Sp}
/-- what a def's body must show -/
abbrev BodyOk (P : Program) (w : World) (K : PySem.W.Frag) (mg : Str → Option Value) (base : Heap) (N : List Str) (qual : Str) (st : Stmt) (k : Nat) (sp : Sp) : Prop :=
  ∀ (f : Addr) (cdv : Value) (A : Around) (outer : List Env) (s : Shared) (H : Hp) (vs : List V) (Q : VK) (E : XK), Room k (A.deeper (envOfC qual (defScope st) s.heap.objs.size f cdv)) → sp vs H Q E →
      ∃ t, PSs (cxOf (L2N.CX P w) P w K mg base N qual (defScope st) f cdv A outer s H E) (defBody st) t ∧ t ⟨fun _ H' => Q .non H', Q, fun _ _ => False, fun _ _ => False⟩ (start N vs) H
theorem FunG.ok (F : FunG K mg x st ps) (S : FnScope N ps (defScope st)) (len : ∀ vs H Q E, sp vs H Q E → vs.length = ps.length) (hb : BodyOk P w K mg base N x st k sp) : FnG P w K mg base (k + 1) x ps sp := by
  obtain ⟨f, fd, F, g, b⟩ := F.ex
  exact ⟨f, fd, F.okN S len (hb f), g, F.kp, b⟩
theorem MetG.ok (F : MetG K C m qual st ps) (S : FnScope N ps (defScope st)) (len : ∀ vs H Q E, sp vs H Q E → vs.length = ps.length) (hb : BodyOk P w K mg base N qual st k sp) : MtG P w K mg base (k + 1) C m ps sp := by
  obtain ⟨f, fd, F, g, b⟩ := F.ex
  exact ⟨f, fd, F.okN S len (hb f), g, b⟩
theorem IniG.ok (F : IniG K mg C x qual st ps) (S : FnScope N ps (defScope st)) (len : ∀ vs H Q E, sp vs H Q E → vs.length = ps.length) (hb : BodyOk P w K mg base N qual st k sp) : MkG P w K mg base (k + 1) C x ps sp := by
  obtain ⟨f, fd, F, g, h, b⟩ := F.ex
  exact ⟨f, fd, F.okN S len (hb f), g, h, b⟩
theorem FnG.mono {j : Nat} (F : FnG P w K mg base j x ps sp) (h : j ≤ k) : FnG P w K mg base k x ps sp := let ⟨f, fd, a, b, c, d⟩ := F.ex; ⟨f, fd, a.mono h, b, c, d⟩
theorem FnG.imp (F : FnG P w K mg base k x ps sp) (h : ∀ vs H Q E, sp' vs H Q E → sp vs H Q E) : FnG P w K mg base k x ps sp' := let ⟨f, fd, a, b, c, d⟩ := F.ex; ⟨f, fd, a.imp h, b, c, d⟩
theorem MtG.mono {j : Nat} (F : MtG P w K mg base j C m ps sp) (h : j ≤ k) : MtG P w K mg base k C m ps sp := let ⟨f, fd, a, b, c⟩ := F.ex; ⟨f, fd, a.mono h, b, c⟩
theorem MtG.imp (F : MtG P w K mg base k C m ps sp) (h : ∀ vs H Q E, sp' vs H Q E → sp vs H Q E) : MtG P w K mg base k C m ps sp' := let ⟨f, fd, a, b, c⟩ := F.ex; ⟨f, fd, a.imp h, b, c⟩
end
section
variable {X : Cx} {k : Nat} {C : Addr} {ps : List Str} {sp : Sp} {E : XK} {ES : L2.St → XK} {x m : Str} {p pos apos : Pos} {e o : Expr} {es : List Expr} {ta : TE} {t : TA}
theorem passE (tk : L2N.Takes X (fun cls d _ H => E cls d H)) : Passes (L2N.CX X.prog X.w) X E := L2N.passes_call tk fun _ _ _ _ h => h
theorem pe_callG (G : FnG X.prog X.w X.K X.mg X.base k x ps sp) (hr : Room k X.A) (hx : Passes (L2N.CX X.prog X.w) X E) (ha : PA X (e :: es) t) (hg : Gl X x := by rfl)
    (hdb : (x == ("__debug__" : Str)) = false := by decide) (he : starEach (e :: es) X.env = (false, eval e X.env) :: starEach es X.env := by rfl) (hpl : (backTo pos (starEach es X.env)).any (·.1) = false := by rfl) :
    PE X (.Call (.Name x p) (e :: es) [] pos) (tCall sp [] E t) := by
  obtain ⟨f, fd, F, g, kp, b⟩ := G.ex
  exact pe_call F hr hg g kp b .nil hx ha hdb he hpl
theorem pe_callGS (G : FnG X.prog X.w X.K X.mg X.base k x ps sp) (hr : Room k X.A) (hx : ∀ σ, PassesAt (L2N.CX X.prog X.w) X σ (ES σ)) (ha : PA X (e :: es) t) (hg : Gl X x := by rfl)
    (hdb : (x == ("__debug__" : Str)) = false := by decide) (he : starEach (e :: es) X.env = (false, eval e X.env) :: starEach es X.env := by rfl) (hpl : (backTo pos (starEach es X.env)).any (·.1) = false := by rfl) :
    PE X (.Call (.Name x p) (e :: es) [] pos) (tCallS sp ES t) := by
  obtain ⟨f, fd, F, g, kp, b⟩ := G.ex
  exact pe_callS F hr hg g kp b hx ha hdb he hpl
theorem pe_methG {pl : Sem Bool} (he : PE X o ta) (c : Cls X.K C) (G : MtG X.prog X.w X.K X.mg X.base k C m ps sp) (hr : Room k X.A) (hx : Passes (L2N.CX X.prog X.w) X E) (ha : PA X (e :: es) t)
    (hst : starEach (e :: es) X.env = (false, eval e X.env) :: starEach es X.env := by rfl) (hpl : (backTo pos (starEach es X.env)).any (·.1) = false := by rfl)
    (ht : eval (.Call (.Attribute o m apos) (e :: es) [] pos) X.env = (do
      let ov ← eval o X.env
      standAt apos.atName
      let (f, first) ← holding [ov] (getMethod ov m pl)
      callWith pos f first (backTo pos (starEach (e :: es) X.env)) (backToKw pos (keywordEach [] X.env))) := by rfl) :
    PE X (.Call (.Attribute o m apos) (e :: es) [] pos) (tMeth C m sp [] E ta t) := by
  obtain ⟨f, fd, F, g, b⟩ := G.ex
  exact pe_meth he c g F hr b .nil hx ha hst hpl ht
theorem pe_methG0 {pl : Sem Bool} (he : PE X o ta) (c : Cls X.K C) (G : MtG X.prog X.w X.K X.mg X.base k C m ps sp) (hr : Room k X.A) (hx : Passes (L2N.CX X.prog X.w) X E)
    (ht : eval (.Call (.Attribute o m apos) [] [] pos) X.env = (do
      let ov ← eval o X.env
      standAt apos.atName
      let (f, first) ← holding [ov] (getMethod ov m pl)
      callWith pos f first (backTo pos (starEach [] X.env)) (backToKw pos (keywordEach [] X.env))) := by rfl) :
    PE X (.Call (.Attribute o m apos) [] [] pos) (tMeth C m sp [] E ta tNil) := by
  obtain ⟨f, fd, F, g, b⟩ := G.ex
  exact pe_meth0 he c g F hr b .nil hx ht
/-- the same within a try's body: what is raised is wished for at the slots -/
def tMethS (C : Addr) (m : Str) (sp : Sp) (ES : L2.St → XK) (ta : TE) (t : TA) : TE := fun σ H Q => ta σ H fun x H1 => ∃ a dx fs, x = .ref a ∧ H1 a = some (.ins C dx fs) ∧ fs.lookup m = none ∧ t σ H1 fun vs H2 => sp (x :: vs) H2 Q (ES σ)
theorem pe_methGS {pl : Sem Bool} (he : PE X o ta) (c : Cls X.K C) (G : MtG X.prog X.w X.K X.mg X.base k C m ps sp) (hr : Room k X.A) (hx : ∀ σ, PassesAt (L2N.CX X.prog X.w) X σ (ES σ)) (ha : PA X (e :: es) t)
    (hst : starEach (e :: es) X.env = (false, eval e X.env) :: starEach es X.env := by rfl) (hpl : (backTo pos (starEach es X.env)).any (·.1) = false := by rfl)
    (ht : eval (.Call (.Attribute o m apos) (e :: es) [] pos) X.env = (do
      let ov ← eval o X.env
      standAt apos.atName
      let (f, first) ← holding [ov] (getMethod ov m pl)
      callWith pos f first (backTo pos (starEach (e :: es) X.env)) (backToKw pos (keywordEach [] X.env))) := by rfl) :
    PE X (.Call (.Attribute o m apos) (e :: es) [] pos) (tMethS C m sp ES ta t) := by
  obtain ⟨f, fd, F, hm, b⟩ := G.ex
  refine ⟨fun pins s σ H Q I h => ?_⟩
  refine PySem.W.methodCall_KW (pl := pl) (thn (he.run pins s σ H _ I h) fun u s1 ⟨x, H1, I1, rx, a, dx, fs, ex, ea, l, q⟩ => ?_) ht
  subst ex
  obtain rfl : u = Value.ref a := rx
  refine getmeth_ok I1 ea c hm l ?_
  refine PySem.W.callWith_K (first := [.ref a]) (h₀ := X.base) I.ok.mod.kin hm.kp (thn (ha.run pos pins s1 σ H1 _ I1 q) fun us s2 ⟨vs, H2, I2, r, q2⟩ => ⟨I2.kIn, ?_⟩) hst hpl
  exact run_fnS (us := .ref a :: us) (vs := .ref a :: vs) F hr b (hx σ) I2 (.cons rfl r) q2
theorem pe_methG0S {pl : Sem Bool} (he : PE X o ta) (c : Cls X.K C) (G : MtG X.prog X.w X.K X.mg X.base k C m ps sp) (hr : Room k X.A) (hx : ∀ σ, PassesAt (L2N.CX X.prog X.w) X σ (ES σ))
    (ht : eval (.Call (.Attribute o m apos) [] [] pos) X.env = (do
      let ov ← eval o X.env
      standAt apos.atName
      let (f, first) ← holding [ov] (getMethod ov m pl)
      callWith pos f first (backTo pos (starEach [] X.env)) (backToKw pos (keywordEach [] X.env))) := by rfl) :
    PE X (.Call (.Attribute o m apos) [] [] pos) (tMethS C m sp ES ta tNil) := by
  obtain ⟨f, fd, F, hm, b⟩ := G.ex
  refine ⟨fun pins s σ H Q I h => ?_⟩
  refine PySem.W.methodCall_KW (pl := pl) (thn (he.run pins s σ H _ I h) fun u s1 ⟨x, H1, I1, rx, a, dx, fs, ex, ea, l, q⟩ => ?_) ht
  subst ex
  obtain rfl : u = Value.ref a := rx
  refine getmeth_ok I1 ea c hm l ?_
  exact PySem.W.callWith_K0 (first := [.ref a]) I1.kIn hm.kp (run_fnS (us := [.ref a]) (vs := [.ref a]) F hr b (hx σ) I1 (.cons rfl .nil) q)
theorem w_methS {σ : L2.St} {H : Hp} {Q : VK} (q : ta σ H fun x H1 => ∃ a dx fs, x = .ref a ∧ H1 a = some (.ins C dx fs) ∧ fs.lookup m = none ∧ t σ H1 fun vs H2 => sp (x :: vs) H2 Q (ES σ)) : tMethS C m sp ES ta t σ H Q := q
theorem pe_makeG (G : MkG X.prog X.w X.K X.mg X.base k C x ps sp) (hr : Room (k + 1) X.A) (hx : Passes (L2N.CX X.prog X.w) X E) (ha : PA X (e :: es) t) (hg : Gl X x := by rfl)
    (hdb : (x == ("__debug__" : Str)) = false := by decide) (he : starEach (e :: es) X.env = (false, eval e X.env) :: starEach es X.env := by rfl) (hpl : (backTo pos (starEach es X.env)).any (·.1) = false := by rfl) :
    PE X (.Call (.Name x p) (e :: es) [] pos) (tMake C sp [] E t) := by
  obtain ⟨f, fd, F, M, g, b⟩ := G.ex
  exact pe_make M F hr hg g b .nil hx ha hdb he hpl
theorem pe_makeG0 (G : MkG X.prog X.w X.K X.mg X.base k C x ps sp) (hr : Room (k + 1) X.A) (hx : Passes (L2N.CX X.prog X.w) X E) (hg : Gl X x := by rfl)
    (hdb : (x == ("__debug__" : Str)) = false := by decide) : PE X (.Call (.Name x p) [] [] pos) (tMake C sp [] E tNil) := by
  obtain ⟨f, fd, F, M, g, b⟩ := G.ex
  exact pe_make0 M F hr hg g b .nil hx hdb
/-- an own exception class over ValueError without __init__ -/
structure ExcT (K : PySem.W.Frag) (mg : Str → Option Value) (x : Str) (C : Addr) : Prop where
  g : mg x = some (.ref C)
  xP : PySem.W.excIn K C [.type "ValueError", .type "Exception", .type "BaseException", .type "object"] "ValueError.__new__" = true
  kP : PySem.W.keepIn K (.ref C) = true
  bP : PySem.W.subIn K (.ref C) (.type "BaseException") = some true
  tP : PySem.W.typeIn K (.ref C) = some (.type "type")
/-- raise X('..') -/
def tRaiseX (C : Addr) (W : WX) : TS := fun _ σ H => W (.ref C) none σ H
theorem ps_raiseG {W : WX} {y : Str} {j : Nat} {p2 pos2 : Pos} (T : ExcT X.K X.mg x C) (hc : X.calm = true) (tk : L2N.Takes X W) (hg : Gl X x := by rfl) (hdb : (x == ("__debug__" : Str)) = false := by decide) :
    PS X (.Raise (some (.Call (.Name x p) [.Constant (.str y) j p2] [] pos)) none pos2) (tRaiseX C W) := L2N.ps_raise hc tk (L2N.pmk_own PySem.F.excBase_ValueError T.xP T.g T.kP (raises_own T.bP T.tP) hg hdb)
theorem w_raise {W : WX} {D : Ends} {σ : L2.St} {H : Hp} (q : W (.ref C) none σ H) : tRaiseX C W D σ H := q
end
end Ts
namespace Ts
open PySem L2
/-! ### data: what a value means, as data of one kind -/
structure Enc (α : Type) [DecidableEq α] where
  enc : α → PyData
  ok : α → Prop
  lay : ∀ x, ok x → (enc x).canLay0 = true
  dep : Nat
  hdep : ∀ x, (enc x).depth ≤ dep
  eq : ∀ x y, PyData.eqv (enc x) (enc y) = decide (x = y)
section
variable {α β γ : Type} [DecidableEq α] [DecidableEq β] [DecidableEq γ]
theorem Enc.shaped (e : Enc α) (h : e.dep ≤ 64) (x : α) (o : e.ok x) : SeqAt.shaped (e.enc x) = true := by
  unfold SeqAt.shaped
  rw [e.lay x o, Bool.true_and]
  exact decide_eq_true (Nat.le_trans (e.hdep x) h)
theorem eInt_eq (x y : Int) : PyData.eqv (.int x) (.int y) = decide (x = y) := by rw [PyData.eqv]; exact Bool.beq_eq_decide_eq x y
def eInt : Enc Int := ⟨.int, fun _ => True, fun _ _ => rfl, 0, fun _ => Nat.le_refl _, eInt_eq⟩
def eNat : Enc Nat := ⟨fun n => .int n, fun _ => True, fun _ _ => rfl, 0, fun _ => Nat.le_refl _, fun x y => by
  rw [eInt_eq, decide_eq_decide]; omega⟩
def eStr : Enc Str := ⟨.str, fun x => PyData.strOk x = true, fun x h => by simpa [PyData.canLay0] using h, 0, fun _ => by simp [PyData.depth], fun x y => by rw [PyData.eqv, Bool.eq_iff_iff]; simp⟩
def eBool : Enc Bool := ⟨.bool, fun _ => True, fun _ _ => rfl, 0, fun _ => Nat.le_refl _, fun x y => by rw [PyData.eqv]; exact Bool.beq_eq_decide_eq x y⟩
theorem all_lay (e : Enc α) : ∀ xs : List α, (∀ x ∈ xs, e.ok x) → PyData.canLayAll0 (xs.map e.enc) = true
  | [], _ => rfl
  | x :: xs, h => by
    show PyData.canLayAll0 (e.enc x :: xs.map e.enc) = true
    unfold PyData.canLayAll0
    rw [e.lay x (h x List.mem_cons_self), all_lay e xs fun y hy => h y (List.mem_cons_of_mem _ hy)]
    rfl
theorem all_dep (e : Enc α) : ∀ xs : List α, PyData.depthAll (xs.map e.enc) ≤ e.dep
  | [] => Nat.zero_le _
  | x :: xs => by
    show PyData.depthAll (e.enc x :: xs.map e.enc) ≤ e.dep
    unfold PyData.depthAll
    exact Nat.max_le.mpr ⟨e.hdep x, all_dep e xs⟩
theorem all_eq (e : Enc α) : ∀ xs ys : List α, PyData.eqvAll (xs.map e.enc) (ys.map e.enc) = decide (xs = ys)
  | [], [] => rfl
  | [], y :: ys => rfl
  | x :: xs, [] => rfl
  | x :: xs, y :: ys => by
    show PyData.eqvAll (e.enc x :: xs.map e.enc) (e.enc y :: ys.map e.enc) = _
    rw [PyData.eqvAll, e.eq, all_eq e xs ys]
    by_cases h : x = y
    · by_cases h2 : xs = ys
      · simp [h, h2]
      · simp [h, h2]
    · simp [h]
def eList (e : Enc α) : Enc (List α) := ⟨fun xs => .list (xs.map e.enc), fun xs => ∀ x ∈ xs, e.ok x, fun xs h => by unfold PyData.canLay0; exact all_lay e xs h, e.dep + 1, fun xs => by
  unfold PyData.depth
  have := all_dep e xs
  omega, fun xs ys => by rw [PyData.eqv]; exact all_eq e xs ys⟩
def eTup2 (e : Enc α) (f : Enc β) : Enc (α × β) := ⟨fun p => .tuple [e.enc p.1, f.enc p.2], fun p => e.ok p.1 ∧ f.ok p.2, fun p h => by simp [PyData.canLay0, PyData.canLayAll0, e.lay _ h.1, f.lay _ h.2], max e.dep f.dep + 1, fun p => by
  have h1 := e.hdep p.1
  have h2 := f.hdep p.2
  simp only [PyData.depth, PyData.depthAll]
  omega, fun p r => by
  obtain ⟨a, b⟩ := p
  obtain ⟨c, d⟩ := r
  simp only [PyData.eqv, PyData.eqvAll, e.eq, f.eq, Bool.and_true, Prod.mk.injEq]
  by_cases h : a = c
  · by_cases h2 : b = d
    · simp [h, h2]
    · simp [h, h2]
  · simp [h]⟩
def eTup3 (e : Enc α) (f : Enc β) (g : Enc γ) : Enc (α × β × γ) := ⟨fun p => .tuple [e.enc p.1, f.enc p.2.1, g.enc p.2.2], fun p => e.ok p.1 ∧ f.ok p.2.1 ∧ g.ok p.2.2, fun p h => by simp [PyData.canLay0, PyData.canLayAll0, e.lay _ h.1, f.lay _ h.2.1, g.lay _ h.2.2], max e.dep (max f.dep g.dep) + 1, fun p => by
  have h1 := e.hdep p.1
  have h2 := f.hdep p.2.1
  have h3 := g.hdep p.2.2
  simp only [PyData.depth, PyData.depthAll]
  omega, fun p r => by
  obtain ⟨a, b, x⟩ := p
  obtain ⟨c, d, y⟩ := r
  simp only [PyData.eqv, PyData.eqvAll, e.eq, f.eq, g.eq, Bool.and_true, Prod.mk.injEq]
  by_cases h : a = c
  · by_cases h2 : b = d
    · by_cases h3 : x = y
      · simp [h, h2, h3]
      · simp [h, h2, h3]
    · simp [h, h2]
  · simp [h]⟩
end
/-! ### what is read stays read -/
section
variable {K : PySem.W.Frag} {H H' : Hp}
mutual
theorem dp_mono (e : Ex H H') : ∀ {v : V} {d : PyData}, Dp K H v d → Dp K H' v d
  | _, _, .non => .non
  | _, _, .bl b => .bl b
  | _, _, .int i => .int i
  | _, _, .str x => .str x
  | _, _, .lst h a => .lst (Evl.ex_l e h) (dpAll_mono e a)
  | _, _, .tup h a => .tup (Evl.ex_t e h) (dpAll_mono e a)
theorem dpAll_mono (e : Ex H H') : ∀ {vs : List V} {ds : List PyData}, DpAll K H vs ds → DpAll K H' vs ds
  | _, _, .nil => .nil
  | _, _, .cons h t => .cons (dp_mono e h) (dpAll_mono e t)
end
theorem dpAll_len : ∀ {vs : List V} {ds : List PyData}, DpAll K H vs ds → vs.length = ds.length
  | _, _, .nil => rfl
  | _, _, .cons _ t => by rw [List.length_cons, List.length_cons, dpAll_len t]
theorem dpAll_snoc {v : V} {d : PyData} : ∀ {vs : List V} {ds : List PyData}, DpAll K H vs ds → Dp K H v d → DpAll K H (vs ++ [v]) (ds ++ [d])
  | _, _, .nil, h => .cons h .nil
  | _, _, .cons a t, h => .cons a (dpAll_snoc t h)
theorem dpAll_append : ∀ {vs ws : List V} {ds es : List PyData}, DpAll K H vs ds → DpAll K H ws es → DpAll K H (vs ++ ws) (ds ++ es)
  | _, _, _, _, .nil, h => h
  | _, _, _, _, .cons a t, h => .cons a (dpAll_append t h)
theorem dpAll_get : ∀ {vs : List V} {ds : List PyData} {i : Nat} {v : V}, DpAll K H vs ds → vs[i]? = some v → ∃ d, ds[i]? = some d ∧ Dp K H v d
  | _, _, i, v, .nil, e => by simp at e
  | _, _, 0, v, .cons h t, e => by simp at e; subst e; exact ⟨_, rfl, h⟩
  | _, _, i + 1, v, .cons h t, e => by
    obtain ⟨d, h1, h2⟩ := dpAll_get (i := i) (v := v) t (by simpa using e)
    exact ⟨d, by simpa using h1, h2⟩
theorem dpAll_get' : ∀ {vs : List V} {ds : List PyData} {i : Nat} {d : PyData}, DpAll K H vs ds → ds[i]? = some d → ∃ v, vs[i]? = some v ∧ Dp K H v d
  | _, _, i, v, .nil, e => by simp at e
  | _, _, 0, v, .cons h t, e => by simp at e; subst e; exact ⟨_, rfl, h⟩
  | _, _, i + 1, v, .cons h t, e => by
    obtain ⟨d, h1, h2⟩ := dpAll_get' (i := i) (d := v) t (by simpa using e)
    exact ⟨d, by simpa using h1, h2⟩
theorem dpAll_set {v : V} {d : PyData} : ∀ {vs : List V} {ds : List PyData} (i : Nat), DpAll K H vs ds → Dp K H v d → DpAll K H (vs.set i v) (ds.set i d)
  | _, _, _, .nil, _ => .nil
  | _, _, 0, .cons _ t, h => .cons h t
  | _, _, i + 1, .cons a t, h => .cons a (dpAll_set i t h)
theorem dpAll_take : ∀ {vs : List V} {ds : List PyData} (i : Nat), DpAll K H vs ds → DpAll K H (vs.take i) (ds.take i)
  | _, _, 0, _ => .nil
  | _, _, _ + 1, .nil => .nil
  | _, _, i + 1, .cons a t => .cons a (dpAll_take i t)
theorem dpAll_drop : ∀ {vs : List V} {ds : List PyData} (i : Nat), DpAll K H vs ds → DpAll K H (vs.drop i) (ds.drop i)
  | _, _, 0, h => h
  | _, _, _ + 1, .nil => .nil
  | _, _, i + 1, .cons _ t => dpAll_drop i t
/-- texts are their own data -/
theorem dpAll_strs : ∀ (xs : List Str), DpAll K H (xs.map V.str) (xs.map PyData.str)
  | [] => .nil
  | x :: xs => .cons (.str x) (dpAll_strs xs)
theorem dpAll_ints : ∀ (xs : List Int), DpAll K H (xs.map V.int) (xs.map PyData.int)
  | [] => .nil
  | x :: xs => .cons (.int x) (dpAll_ints xs)
theorem dp_tup2 {v : V} {d e : PyData} (h : Dp K H v (.tuple [d, e])) : ∃ a x y, v = .ref a ∧ SqT K H a [x, y] ∧ Dp K H x d ∧ Dp K H y e := by
  cases h with
  | tup hs ha =>
    cases ha with
    | cons h1 t =>
      cases t with
      | cons h2 t =>
        cases t
        exact ⟨_, _, _, rfl, hs, h1, h2⟩
theorem dp_tup3 {v : V} {d e f : PyData} (h : Dp K H v (.tuple [d, e, f])) : ∃ a x y z, v = .ref a ∧ SqT K H a [x, y, z] ∧ Dp K H x d ∧ Dp K H y e ∧ Dp K H z f := by
  cases h with
  | tup hs ha =>
    cases ha with
    | cons h1 t =>
      cases t with
      | cons h2 t =>
        cases t with
        | cons h3 t =>
          cases t
          exact ⟨_, _, _, _, rfl, hs, h1, h2, h3⟩
theorem dp_int {v : V} {i : Int} (h : Dp K H v (.int i)) : v = .int i := by cases h; rfl
theorem dp_str {v : V} {i : Str} (h : Dp K H v (.str i)) : v = .str i := by cases h; rfl
theorem dp_bool {v : V} {i : Bool} (h : Dp K H v (.bool i)) : v = .bl i := by cases h; rfl
/-- a list of data of one kind at v -/
theorem dp_list {v : V} {ds : List PyData} (h : Dp K H v (.list ds)) : ∃ a xs, v = .ref a ∧ SqL K H a xs ∧ DpAll K H xs ds := by
  cases h with
  | lst hs ha => exact ⟨_, _, rfl, hs, ha⟩
theorem sqt_ex {a : Addr} {xs : List V} (e : Ex H H') (h : SqT K H a xs) : SqT K H' a xs := Evl.ex_t e h
theorem sql_ex {a : Addr} {xs : List V} (e : Ex H H') (h : SqL K H a xs) : SqL K H' a xs := Evl.ex_l e h
theorem sql {a : Addr} {xs : List V} (h : H a = some (.lst xs)) : SqL K H a xs := SqL.of h
theorem sqt {a : Addr} {xs : List V} (h : H a = some (.tup xs)) : SqT K H a xs := SqT.of h
theorem ty_sql {a : Addr} {xs : List V} (h : SqL K H a xs) : TyX K H (.ref a) (.type "list") := by
  rcases h with (h | ⟨o, h⟩) | ⟨o, its, n, h, c, _⟩
  · exact .base (.lst h)
  · exact .base (.frz h)
  · exact .kList h c
theorem ty_sqt {a : Addr} {xs : List V} (h : SqT K H a xs) : TyX K H (.ref a) (.type "tuple") := by
  rcases h with (h | ⟨o, h⟩) | ⟨o, its, n, h, c, _⟩
  · exact .base (.tup h)
  · exact .fTuple h
  · exact .kTuple h c
theorem tyL {a : Addr} {xs : List V} (h : H a = some (.lst xs)) : TyX K H (.ref a) (.type "list") := .base (.lst h)
theorem tyT {a : Addr} {xs : List V} (h : H a = some (.tup xs)) : TyX K H (.ref a) (.type "tuple") := .base (.tup h)
theorem tyI {i : Int} : TyX K H (.int i) (.type "int") := .base (.int i)
theorem tyS {i : Str} : TyX K H (.str i) (.type "str") := .base (.str i)
theorem tyB {i : Bool} : TyX K H (.bl i) (.type "bool") := .base (.bl i)
theorem tyN : TyX K H .non (.type "NoneType") := .base .non
end
/-! ### a heap without one object: what does not lean on it -/
def hid (p : Addr) (H : Hp) : Hp := fun b => if b = p then none else H b
theorem hid_ne {p b : Addr} {H : Hp} (h : b ≠ p) : hid p H b = H b := if_neg h
theorem hid_upd {p : Addr} {H : Hp} {o : HO} : hid p (upd H p o) = hid p H := by
  funext b
  unfold hid
  by_cases h : b = p
  · rw [if_pos h, if_pos h]
  · rw [if_neg h, if_neg h, upd_ne h]
theorem ex_hid {p : Addr} {H : Hp} : Ex (hid p H) H := fun b o h => by
  unfold hid at h
  by_cases e : b = p
  · rw [if_pos e] at h; cases h
  · rw [if_neg e] at h; exact h
theorem hid_mono {p : Addr} {H H' : Hp} (e : Ex H H') : Ex (hid p H) (hid p H') := fun b o h => by
  unfold hid at h ⊢
  by_cases q : b = p
  · rw [if_pos q] at h; cases h
  · rw [if_neg q] at h ⊢; exact e b o h
theorem hid_free {p : Addr} {H H' : Hp} (h : H p = none) (e : Ex H H') : Ex H (hid p H') := fun b o q => by
  have hb : b ≠ p := fun z => by rw [z, h] at q; cases q
  rw [hid_ne hb]
  exact e b o q
theorem hid_get {p : Addr} {H : Hp} {b : Addr} {o : HO} (h : H b = some o) (n : b ≠ p) : hid p H b = some o := by rw [hid_ne n]; exact h
theorem cmul_nat {i : Int} {z : Nat} (h : z ≤ 2 ^ 60) : CMul i (z : Int) := Or.inr ⟨by omega, by omega⟩
theorem drop_at {α : Type} {l : List α} {i : Nat} {x : α} (h : l[i]? = some x) : l.drop i = x :: l.drop (i + 1) := by
  obtain ⟨h1, h2⟩ := List.getElem?_eq_some_iff.mp h
  rw [List.drop_eq_getElem_cons h1, h2]
theorem take_at {α : Type} {l : List α} {i : Nat} {x : α} (h : l[i]? = some x) : l.take (i + 1) = l.take i ++ [x] := by
  rw [List.take_add_one, h]; rfl
theorem get_map {α β : Type} {f : α → β} {l : List α} {i : Nat} {y : β} (h : (l.map f)[i]? = some y) : ∃ x, l[i]? = some x ∧ y = f x := by
  rw [List.getElem?_map] at h
  obtain ⟨x, h1, h2⟩ := Option.map_eq_some_iff.mp h
  exact ⟨x, h1, h2.symm⟩
theorem get_lt {α : Type} {l : List α} {i : Nat} {x : α} (h : l[i]? = some x) : i < l.length := (List.getElem?_eq_some_iff.mp h).1
end Ts
namespace Mix
open PySem
open Sem (wp)
/-! # dicts whose keys are texts and tuples of ints, beside one another (my own; over the library's rules of the machine) -/
/-- whether a key is among the keys -/
def hasG {κ : Type} [DecidableEq κ] (k : κ) (l : List κ) : Bool := decide (k ∈ l)
theorem hasG_yes {κ : Type} [DecidableEq κ] {k : κ} {l : List κ} (h : k ∈ l) : hasG k l = true := decide_eq_true h
theorem hasG_no {κ : Type} [DecidableEq κ] {k : κ} {l : List κ} (h : k ∉ l) : hasG k l = false := decide_eq_false h
/-- a kind of key: by value or by object -/
structure MKind (prog : Program) (w : World) (κ : Type) [DecidableEq κ] where
  is : Heap → κ → Value → Prop
  hash : κ → Int
  draws : κ → Nat
  room : Around → Prop
  inj : ∀ {h : Heap} {v : Value} {x y : κ}, is h x v → is h y v → x = y
  text : ∀ {h : Heap} {v : Value} {x y : κ} {z : Str} {t : Tok}, is h x (.str z t) → is h y v → v.isStr z = decide (x = y)
  hashed : ∀ {A : Around} {E : Value → Shared → Prop} {s : Shared} {k : κ} {v : Value} {Q : Int → Shared → Prop}, room A → is s.heap k v → Q (hash k) { s with toks := s.toks + draws k } → wpAny (model prog w) A (pyHash v) Q E s
  same : ∀ {A : Around} {E : Value → Shared → Prop} {s : Shared} {x y : κ} {u v : Value} {Q : Bool → Shared → Prop}, room A → is s.heap x u → is s.heap y v → Q (decide (x = y)) s → wpAny (model prog w) A (eqBool u v) Q E s
  quiet : ∀ {A : Around} {E : Value → Shared → Prop} {s : Shared} {k : κ} {v : Value} {Q : Bool → Shared → Prop}, is s.heap k v → Q true s → wpAny (model prog w) A (eqIsQuiet 8 v) Q E s
section
variable {prog : Program} {w : World} {κ : Type} [DecidableEq κ] (M : MKind prog w κ)
def row (x : κ × Value × Value) : DictEntry := ⟨M.hash x.1, x.2.1, x.2.2⟩
variable {M} {A : Around} {E : Value → Shared → Prop} {s : Shared}
theorem row_at {es : Array DictEntry} {xs : List (κ × Value × Value)} (he : es.toList = xs.map (row M)) (j : Nat) : es[j]? = (xs[j]?).map (row M) := by
  rw [← Array.getElem?_toList, he, List.getElem?_map]
theorem row_size {es : Array DictEntry} {xs : List (κ × Value × Value)} (he : es.toList = xs.map (row M)) : es.size = xs.length := by
  have := congrArg List.length he
  simpa using this
/-- keys once: the place of a key is one -/
theorem one_place {xs : List (κ × Value × Value)} (nd : (xs.map (·.1)).Nodup) {i j : Nat} {k : κ} {p q : Value × Value} (hi : xs[i]? = some (k, p)) (hj : xs[j]? = some (k, q)) : i = j := by
  have a1 : (xs.map (·.1))[i]? = some k := by rw [List.getElem?_map, hi]; rfl
  have a2 : (xs.map (·.1))[j]? = some k := by rw [List.getElem?_map, hj]; rfl
  obtain ⟨b1, c1⟩ := List.getElem?_eq_some_iff.mp a1
  obtain ⟨b2, c2⟩ := List.getElem?_eq_some_iff.mp a2
  exact (List.getElem_inj nd).mp (c1.trans c2.symm)
theorem still {a : Value} {st : List Value} {Q : Bool → Shared → Prop} {k : κ} (hk : M.is s.heap k a) (hst : ∀ v ∈ st, ∃ k', M.is s.heap k' v) (h : Q false s) : wpAny (model prog w) A (tableMayTell a st) Q E s := by
  unfold tableMayTell
  split
  · exact wpAny_pure h
  · refine wpAny_bind (M.quiet hk ?_)
    simp only [Bool.not_true, Bool.false_eq_true, if_false]
    refine wpAny_bind ?_
    refine wpAny_forIn_list _ (fun left r s' => s' = s ∧ r = (none, ()) ∧ ∀ v ∈ left, ∃ k', M.is s.heap k' v) _ ?_ ?_ _ _ ⟨rfl, rfl, hst⟩
    · rintro v left r s' ⟨rfl, rfl, hl⟩
      obtain ⟨k', hv⟩ := hl v List.mem_cons_self
      refine wpAny_bind (M.quiet hv ?_)
      simp only [Bool.not_true, Bool.false_eq_true, if_false]
      exact wpAny_pure ⟨rfl, rfl, fun u hu => hl u (List.mem_cons_of_mem _ hu)⟩
    · rintro r s' ⟨rfl, rfl, _⟩
      exact wpAny_pure h
/-- the look-up: none where the key stands nowhere, else its place -/
theorem find {d : Addr} {o : Obj} {es : Array DictEntry} {ep : Nat} {xs : List (κ × Value × Value)} {k : κ} {key : Value} {Q : Option Nat → Shared → Prop} (hu : M.room A) (hk : M.is s.heap k key) (ho : s.heap.get? d = some o) (hd : o.data = .dict es ep)
    (he : es.toList = xs.map (row M)) (hx : ∀ x ∈ xs, M.is s.heap x.1 x.2.1) (nd : (xs.map (·.1)).Nodup) (hno : (∀ (j : Nat) (p : Value × Value), xs[j]? ≠ some (k, p)) → Q none s) (hyes : ∀ (j : Nat) (p : Value × Value), xs[j]? = some (k, p) → Q (some j) s) :
    wpAny (model prog w) A (dictFind d key (M.hash k)) Q E s := by
  have sz : es.size = xs.length := row_size he
  have hit : ∀ (j : Nat) (p : Value × Value), xs[j]? = some (k, p) → ((es[j]?.map (·.hash)) == some (M.hash k)) = true := fun j p hj => by
    rw [row_at he j, hj]
    show (some (M.hash k) == some (M.hash k)) = true
    simp
  have mem : ∀ e ∈ es, ∃ x ∈ xs, e = row M x := fun e hin => by
    have q : e ∈ xs.map (row M) := he ▸ Array.mem_toList_iff.mpr hin
    obtain ⟨x, h1, h2⟩ := List.mem_map.mp q
    exact ⟨x, h1, h2.symm⟩
  have hst : ∀ v ∈ (placesWithHash es.size (fun i => es[i]?.map (·.hash)) (M.hash k)).filterMap (fun i => es[i]?.map (·.key)), ∃ k', M.is s.heap k' v := fun v hv => by
    obtain ⟨i, _, hi⟩ := List.mem_filterMap.mp hv
    obtain ⟨e, h1, h2⟩ := Option.map_eq_some_iff.mp hi
    obtain ⟨x, h3, rfl⟩ := mem e (Array.mem_of_getElem? h1)
    subst h2
    exact ⟨x.1, hx x h3⟩
  -- the places that bear the hash, one behind the other
  have turn : ∀ {i j : Nat} {left : List Nat}, (j :: left) = (List.range' i (es.size - i)).filter (fun i => (es[i]?.map (·.hash)) == some (M.hash k)) → i ≤ es.size → (∀ a p, a < i → xs[a]? ≠ some (k, p)) →
      j < es.size ∧ left = (List.range' (j + 1) (es.size - (j + 1))).filter (fun i => (es[i]?.map (·.hash)) == some (M.hash k)) ∧ ∀ a p, a < j → xs[a]? ≠ some (k, p) := fun {i j left} hr hi hn => by
    obtain ⟨q1, q2, q3, q4, q5⟩ := filter_range'_cons _ _ _ _ _ hr.symm
    refine ⟨by omega, by rw [q5]; congr 2; omega, fun a p ha hap => ?_⟩
    rcases Nat.lt_or_ge a i with z | z
    · exact hn a p z hap
    · have := q4 a z ha
      rw [hit a p hap] at this
      cases this
  have last : ∀ {i : Nat}, [] = (List.range' i (es.size - i)).filter (fun i => (es[i]?.map (·.hash)) == some (M.hash k)) → (∀ a p, a < i → xs[a]? ≠ some (k, p)) → ∀ a p, xs[a]? ≠ some (k, p) := fun {i} hr hn a p hap => by
    rcases Nat.lt_or_ge a i with z | z
    · exact hn a p z hap
    · have hl : a < es.size := by rw [sz]; exact (List.getElem?_eq_some_iff.mp hap).1
      have := List.filter_eq_nil_iff.mp hr.symm a (List.mem_range'_1.mpr ⟨z, by omega⟩)
      exact this (hit a p hap)
  have there : ∀ {j : Nat}, j < es.size → ∃ y, xs[j]? = some y ∧ es[j]? = some (row M y) ∧ M.is s.heap y.1 y.2.1 := fun {j} hj => by
    have hj' : j < xs.length := by omega
    exact ⟨xs[j], List.getElem?_eq_getElem hj', by rw [row_at he j, List.getElem?_eq_getElem hj']; rfl, hx _ (List.getElem_mem hj')⟩
  have plain : wpAny (model prog w) A (dictWalkPlain d key (M.hash k) es (placesWithHash es.size (fun i => es[i]?.map (·.hash)) (M.hash k))) Q E s := by
    unfold dictWalkPlain
    refine wpAny_bind ?_
    refine wpAny_forIn_list _ (fun left b s' => s' = s ∧ b = (none, ()) ∧ ∃ i, left = (List.range' i (es.size - i)).filter (fun i => (es[i]?.map (·.hash)) == some (M.hash k)) ∧ i ≤ es.size ∧ ∀ a p, a < i → xs[a]? ≠ some (k, p)) _ ?_ ?_ _ _
      ⟨rfl, rfl, 0, by rw [placesWithHash, List.range_eq_range', Nat.sub_zero], Nat.zero_le _, fun _ _ z => absurd z (Nat.not_lt_zero _)⟩
    · rintro j left b s' ⟨rfl, rfl, i, hr, hi, hn⟩
      obtain ⟨t1, t2, t3⟩ := turn hr hi hn
      obtain ⟨y, y1, y2, y3⟩ := there t1
      have go : ¬ y.1 = k → ∃ i, left = (List.range' i (es.size - i)).filter (fun i => (es[i]?.map (·.hash)) == some (M.hash k)) ∧ i ≤ es.size ∧ ∀ a p, a < i → xs[a]? ≠ some (k, p) := fun ne => by
        refine ⟨j + 1, t2, t1, fun a p ha hap => ?_⟩
        rcases Nat.lt_or_ge a j with z | z
        · exact t3 a p z hap
        · have e : a = j := by omega
          rw [e, y1] at hap
          cases hap
          exact ne rfl
      rw [y2]
      dsimp only [row]
      by_cases hh : (M.hash y.1 == M.hash k) = true
      · rw [if_pos hh]
        refine wpAny_bind (wpAny_dictEpoch ho hd (wpAny_bind (M.same hu y3 hk (wpAny_bind (wpAny_dictEpoch ho hd ?_)))))
        show wpAny _ _ (if (ep != ep) = true then _ else _) _ E _
        rw [if_neg (by simp)]
        by_cases ek : y.1 = k
        · rw [decide_eq_true ek]
          refine wpAny_bind (wpAny_rule (wpAny_pure (wpAny_pure (hyes j y.2 ?_))))
          rw [y1, ← ek]
        · rw [decide_eq_false ek]
          exact wpAny_bind (wpAny_rule (wpAny_pure ⟨rfl, rfl, go ek⟩))
      · rw [if_neg hh]
        refine wpAny_pure ⟨rfl, rfl, go fun z => hh ?_⟩
        rw [z]
        exact beq_self_eq_true _
    · rintro b s' ⟨rfl, rfl, i, hr, hi, hn⟩
      exact wpAny_pure (hno (last hr hn))
  have notold : ∀ a, key = .ref a → ¬ (es.any fun e => e.key == Value.ref a && e.hash != M.hash k) = true := fun a ea => by
    rw [← Array.any_toList, List.any_eq_true]
    rintro ⟨e, hin, hc⟩
    obtain ⟨x, h1, rfl⟩ := mem e (Array.mem_toList_iff.mp hin)
    simp only [row, Bool.and_eq_true, beq_iff_eq, bne_iff_ne, ne_eq] at hc
    have q := hx x h1
    rw [hc.1, ← ea] at q
    exact hc.2 (by rw [M.inj q hk])
  unfold dictFind
  try with_reducible refine wpAny_holding ?_
  refine wpAny_bind (wpAny_dictEntries ho hd ?_)
  dsimp only
  have byText : ∀ (z : Str) (t : Tok), key = .str z t → wpAny (model prog w) A (foundByValue d key es z) Q E s := fun z t ek => by
    unfold foundByValue
    have fe : ∀ (j : Nat) (y : κ × Value × Value), xs[j]? = some y → (row M y).key.isStr z = decide (k = y.1) := fun j y hj => M.text (by rw [← ek]; exact hk) (hx y (List.mem_of_getElem? hj))
    cases hf : es.findIdx? (fun e => e.key.isStr z) with
    | none =>
      refine wpAny_pure (hno fun a p hap => ?_)
      have hl : a < es.size := by rw [sz]; exact (List.getElem?_eq_some_iff.mp hap).1
      have q := Array.findIdx?_eq_none_iff.mp hf es[a] (Array.getElem_mem hl)
      have e1 : es[a] = row M (k, p) := by
        have := row_at he a
        rw [hap, Array.getElem?_eq_getElem hl] at this
        exact Option.some.inj this
      rw [e1, fe a _ hap, decide_eq_true rfl] at q
      cases q
    | some i =>
      obtain ⟨hlt, hi, _⟩ := Array.findIdx?_eq_some_iff_getElem.mp hf
      obtain ⟨y, y1, y2, y3⟩ := there hlt
      have e1 : es[i] = row M y := by
        rw [Array.getElem?_eq_getElem hlt] at y2
        exact Option.some.inj y2
      rw [e1, fe i y y1] at hi
      have ek2 : k = y.1 := of_decide_eq_true hi
      dsimp only
      rw [y2]
      refine wpAny_bind (wpAny_dictEpoch ho hd (wpAny_bind (M.same hu y3 hk (wpAny_bind (wpAny_dictEpoch ho hd ?_)))))
      show wpAny _ _ (if (ep != ep) = true then _ else _) _ E _
      rw [if_neg (by simp), decide_eq_true ek2.symm]
      refine wpAny_bind (wpAny_rule (wpAny_pure (hyes i y.2 ?_)))
      rw [y1, ek2]
  split
  · rename_i z t
    by_cases hs : (es.all fun e => isExactStrKey e.key) = true
    · rw [if_pos hs]
      exact byText z t rfl
    · rw [if_neg hs]
      by_cases hall : ((Value.str z t :: (placesWithHash es.size (fun i => es[i]?.map (·.hash)) (M.hash k)).filterMap (fun i => es[i]?.map (·.key))).all carriedByValue) = true
      · rw [if_pos hall]
        exact plain
      · rw [if_neg hall]
        by_cases hone : (((placesWithHash es.size (fun i => es[i]?.map (·.hash)) (M.hash k)).filterMap (fun i => es[i]?.map (·.key))) == [Value.str z t]) = true
        · rw [if_pos hone]
          refine wpAny_bind (wpAny_pure ?_)
          rw [if_neg (by simp)]
          refine wpAny_bind ?_
          refine wpAny_forIn_list _ (fun left r s' => s' = s ∧ ∃ i hit', r = (none, hit') ∧ left = (List.range' i (es.size - i)).filter (fun i => (es[i]?.map (·.hash)) == some (M.hash k)) ∧ i ≤ es.size ∧
              ((hit' = none ∧ ∀ a p, a < i → xs[a]? ≠ some (k, p)) ∨ ∃ a p, hit' = some a ∧ a < i ∧ xs[a]? = some (k, p))) _ ?_ ?_ _ _ ⟨rfl, 0, none, rfl, by rw [placesWithHash, List.range_eq_range', Nat.sub_zero], Nat.zero_le _, .inl ⟨rfl, fun _ _ z => absurd z (Nat.not_lt_zero _)⟩⟩
          · rintro j left r s' ⟨rfl, i, hit', rfl, hr, hi, hh⟩
            obtain ⟨q1, q2, q3, q4, q5⟩ := filter_range'_cons _ _ _ _ _ hr.symm
            have t1 : j < es.size := by omega
            have t2 : left = (List.range' (j + 1) (es.size - (j + 1))).filter (fun i => (es[i]?.map (·.hash)) == some (M.hash k)) := by rw [q5]; congr 2; omega
            obtain ⟨y, y1, y2, y3⟩ := there t1
            -- up to here
            have now : (hit' = none ∧ ∀ a p, a < j → xs[a]? ≠ some (k, p)) ∨ ∃ a p, hit' = some a ∧ a < j ∧ xs[a]? = some (k, p) := by
              rcases hh with ⟨z, hn⟩ | ⟨a, p, z, z2, z3⟩
              · refine .inl ⟨z, fun a p ha hap => ?_⟩
                rcases Nat.lt_or_ge a i with c | c
                · exact hn a p c hap
                · have := q4 a c ha
                  rw [hit a p hap] at this
                  cases this
              · exact .inr ⟨a, p, z, by omega, z3⟩
            have on : ¬ y.1 = k → (hit' = none ∧ ∀ a p, a < j + 1 → xs[a]? ≠ some (k, p)) ∨ ∃ a p, hit' = some a ∧ a < j + 1 ∧ xs[a]? = some (k, p) := fun ne => by
              rcases now with ⟨z, hn⟩ | ⟨a, p, z, z2, z3⟩
              · refine .inl ⟨z, fun a p ha hap => ?_⟩
                rcases Nat.lt_or_ge a j with c | c
                · exact hn a p c hap
                · have e : a = j := by omega
                  rw [e, y1] at hap
                  cases hap
                  exact ne rfl
              · exact .inr ⟨a, p, z, by omega, z3⟩
            rw [y2]
            dsimp only [row]
            by_cases hq : (M.hash y.1 == M.hash k) = true
            · rw [if_pos hq]
              refine wpAny_bind (wpAny_dictEpoch ho hd (wpAny_bind (M.same hu y3 hk (wpAny_bind (wpAny_dictEpoch ho hd ?_)))))
              show wpAny _ _ (if (ep != ep) = true then _ else _) _ E _
              rw [if_neg (by simp)]
              by_cases ek : y.1 = k
              · have here : xs[j]? = some (k, y.2) := by rw [y1, ← ek]
                rw [decide_eq_true ek, if_pos rfl]
                rcases now with ⟨rfl, _⟩ | ⟨a, p, _, z2, z3⟩
                · rw [if_neg (show ¬ ((none : Option Nat).isSome = true) by simp)]
                  refine wpAny_bind (wpAny_rule ?_)
                  split
                  · exact wpAny_pure (wpAny_pure (hyes j y.2 here))
                  · exact wpAny_pure ⟨rfl, j + 1, some j, rfl, t2, t1, .inr ⟨j, y.2, rfl, Nat.lt_succ_self j, here⟩⟩
                · exact absurd (one_place nd z3 here) (by omega)
              · rw [decide_eq_false ek, if_neg Bool.false_ne_true]
                refine wpAny_bind (wpAny_rule ?_)
                rw [if_neg (by simp)]
                exact wpAny_pure ⟨rfl, j + 1, hit', rfl, t2, t1, on ek⟩
            · rw [if_neg hq]
              refine wpAny_pure ⟨rfl, j + 1, hit', rfl, t2, t1, on fun z => hq ?_⟩
              rw [z]
              exact beq_self_eq_true _
          · rintro r s' ⟨rfl, i, hit', rfl, hr, hi, hh⟩
            rcases hh with ⟨rfl, hn⟩ | ⟨a, p, rfl, _, z3⟩
            · exact wpAny_pure (hno (last hr hn))
            · exact wpAny_pure (hyes a p z3)
        · rw [if_neg hone]
          refine wpAny_bind (still hk hst ?_)
          rw [if_neg (by simp)]
          refine wpAny_bind ?_
          refine wpAny_forIn_list _ (fun left r s' => s' = s ∧ ∃ i hit', r = (none, hit') ∧ left = (List.range' i (es.size - i)).filter (fun i => (es[i]?.map (·.hash)) == some (M.hash k)) ∧ i ≤ es.size ∧
              ((hit' = none ∧ ∀ a p, a < i → xs[a]? ≠ some (k, p)) ∨ ∃ a p, hit' = some a ∧ a < i ∧ xs[a]? = some (k, p))) _ ?_ ?_ _ _ ⟨rfl, 0, none, rfl, by rw [placesWithHash, List.range_eq_range', Nat.sub_zero], Nat.zero_le _, .inl ⟨rfl, fun _ _ z => absurd z (Nat.not_lt_zero _)⟩⟩
          · rintro j left r s' ⟨rfl, i, hit', rfl, hr, hi, hh⟩
            obtain ⟨q1, q2, q3, q4, q5⟩ := filter_range'_cons _ _ _ _ _ hr.symm
            have t1 : j < es.size := by omega
            have t2 : left = (List.range' (j + 1) (es.size - (j + 1))).filter (fun i => (es[i]?.map (·.hash)) == some (M.hash k)) := by rw [q5]; congr 2; omega
            obtain ⟨y, y1, y2, y3⟩ := there t1
            -- up to here
            have now : (hit' = none ∧ ∀ a p, a < j → xs[a]? ≠ some (k, p)) ∨ ∃ a p, hit' = some a ∧ a < j ∧ xs[a]? = some (k, p) := by
              rcases hh with ⟨z, hn⟩ | ⟨a, p, z, z2, z3⟩
              · refine .inl ⟨z, fun a p ha hap => ?_⟩
                rcases Nat.lt_or_ge a i with c | c
                · exact hn a p c hap
                · have := q4 a c ha
                  rw [hit a p hap] at this
                  cases this
              · exact .inr ⟨a, p, z, by omega, z3⟩
            have on : ¬ y.1 = k → (hit' = none ∧ ∀ a p, a < j + 1 → xs[a]? ≠ some (k, p)) ∨ ∃ a p, hit' = some a ∧ a < j + 1 ∧ xs[a]? = some (k, p) := fun ne => by
              rcases now with ⟨z, hn⟩ | ⟨a, p, z, z2, z3⟩
              · refine .inl ⟨z, fun a p ha hap => ?_⟩
                rcases Nat.lt_or_ge a j with c | c
                · exact hn a p c hap
                · have e : a = j := by omega
                  rw [e, y1] at hap
                  cases hap
                  exact ne rfl
              · exact .inr ⟨a, p, z, by omega, z3⟩
            rw [y2]
            dsimp only [row]
            by_cases hq : (M.hash y.1 == M.hash k) = true
            · rw [if_pos hq]
              refine wpAny_bind (wpAny_dictEpoch ho hd (wpAny_bind (M.same hu y3 hk (wpAny_bind (wpAny_dictEpoch ho hd ?_)))))
              show wpAny _ _ (if (ep != ep) = true then _ else _) _ E _
              rw [if_neg (by simp)]
              by_cases ek : y.1 = k
              · have here : xs[j]? = some (k, y.2) := by rw [y1, ← ek]
                rw [decide_eq_true ek, if_pos rfl]
                rcases now with ⟨rfl, _⟩ | ⟨a, p, _, z2, z3⟩
                · rw [if_neg (show ¬ ((none : Option Nat).isSome = true) by simp)]
                  refine wpAny_bind (wpAny_rule ?_)
                  split
                  · exact wpAny_pure (wpAny_pure (hyes j y.2 here))
                  · exact wpAny_pure ⟨rfl, j + 1, some j, rfl, t2, t1, .inr ⟨j, y.2, rfl, Nat.lt_succ_self j, here⟩⟩
                · exact absurd (one_place nd z3 here) (by omega)
              · rw [decide_eq_false ek, if_neg Bool.false_ne_true]
                refine wpAny_bind (wpAny_rule ?_)
                rw [if_neg (by simp)]
                exact wpAny_pure ⟨rfl, j + 1, hit', rfl, t2, t1, on ek⟩
            · rw [if_neg hq]
              refine wpAny_pure ⟨rfl, j + 1, hit', rfl, t2, t1, on fun z => hq ?_⟩
              rw [z]
              exact beq_self_eq_true _
          · rintro r s' ⟨rfl, i, hit', rfl, hr, hi, hh⟩
            rcases hh with ⟨rfl, hn⟩ | ⟨a, p, rfl, _, z3⟩
            · exact wpAny_pure (hno (last hr hn))
            · exact wpAny_pure (hyes a p z3)
  · rename_i nstr
    by_cases hall : ((key :: (placesWithHash es.size (fun i => es[i]?.map (·.hash)) (M.hash k)).filterMap (fun i => es[i]?.map (·.key))).all carriedByValue) = true
    · rw [if_pos hall]
      exact plain
    · rw [if_neg hall]
      split
      · rename_i a
        rw [if_neg (notold a rfl)]
        by_cases hone : (((placesWithHash es.size (fun i => es[i]?.map (·.hash)) (M.hash k)).filterMap (fun i => es[i]?.map (·.key))) == [Value.ref a]) = true
        · rw [if_pos hone]
          refine wpAny_bind (wpAny_pure ?_)
          rw [if_neg (by simp)]
          refine wpAny_bind ?_
          refine wpAny_forIn_list _ (fun left r s' => s' = s ∧ ∃ i hit', r = (none, hit') ∧ left = (List.range' i (es.size - i)).filter (fun i => (es[i]?.map (·.hash)) == some (M.hash k)) ∧ i ≤ es.size ∧
              ((hit' = none ∧ ∀ a p, a < i → xs[a]? ≠ some (k, p)) ∨ ∃ a p, hit' = some a ∧ a < i ∧ xs[a]? = some (k, p))) _ ?_ ?_ _ _ ⟨rfl, 0, none, rfl, by rw [placesWithHash, List.range_eq_range', Nat.sub_zero], Nat.zero_le _, .inl ⟨rfl, fun _ _ z => absurd z (Nat.not_lt_zero _)⟩⟩
          · rintro j left r s' ⟨rfl, i, hit', rfl, hr, hi, hh⟩
            obtain ⟨q1, q2, q3, q4, q5⟩ := filter_range'_cons _ _ _ _ _ hr.symm
            have t1 : j < es.size := by omega
            have t2 : left = (List.range' (j + 1) (es.size - (j + 1))).filter (fun i => (es[i]?.map (·.hash)) == some (M.hash k)) := by rw [q5]; congr 2; omega
            obtain ⟨y, y1, y2, y3⟩ := there t1
            -- up to here
            have now : (hit' = none ∧ ∀ a p, a < j → xs[a]? ≠ some (k, p)) ∨ ∃ a p, hit' = some a ∧ a < j ∧ xs[a]? = some (k, p) := by
              rcases hh with ⟨z, hn⟩ | ⟨a, p, z, z2, z3⟩
              · refine .inl ⟨z, fun a p ha hap => ?_⟩
                rcases Nat.lt_or_ge a i with c | c
                · exact hn a p c hap
                · have := q4 a c ha
                  rw [hit a p hap] at this
                  cases this
              · exact .inr ⟨a, p, z, by omega, z3⟩
            have on : ¬ y.1 = k → (hit' = none ∧ ∀ a p, a < j + 1 → xs[a]? ≠ some (k, p)) ∨ ∃ a p, hit' = some a ∧ a < j + 1 ∧ xs[a]? = some (k, p) := fun ne => by
              rcases now with ⟨z, hn⟩ | ⟨a, p, z, z2, z3⟩
              · refine .inl ⟨z, fun a p ha hap => ?_⟩
                rcases Nat.lt_or_ge a j with c | c
                · exact hn a p c hap
                · have e : a = j := by omega
                  rw [e, y1] at hap
                  cases hap
                  exact ne rfl
              · exact .inr ⟨a, p, z, by omega, z3⟩
            rw [y2]
            dsimp only [row]
            by_cases hq : (M.hash y.1 == M.hash k) = true
            · rw [if_pos hq]
              refine wpAny_bind (wpAny_dictEpoch ho hd (wpAny_bind (M.same hu y3 hk (wpAny_bind (wpAny_dictEpoch ho hd ?_)))))
              show wpAny _ _ (if (ep != ep) = true then _ else _) _ E _
              rw [if_neg (by simp)]
              by_cases ek : y.1 = k
              · have here : xs[j]? = some (k, y.2) := by rw [y1, ← ek]
                rw [decide_eq_true ek, if_pos rfl]
                rcases now with ⟨rfl, _⟩ | ⟨a, p, _, z2, z3⟩
                · rw [if_neg (show ¬ ((none : Option Nat).isSome = true) by simp)]
                  refine wpAny_bind (wpAny_rule ?_)
                  split
                  · exact wpAny_pure (wpAny_pure (hyes j y.2 here))
                  · exact wpAny_pure ⟨rfl, j + 1, some j, rfl, t2, t1, .inr ⟨j, y.2, rfl, Nat.lt_succ_self j, here⟩⟩
                · exact absurd (one_place nd z3 here) (by omega)
              · rw [decide_eq_false ek, if_neg Bool.false_ne_true]
                refine wpAny_bind (wpAny_rule ?_)
                rw [if_neg (by simp)]
                exact wpAny_pure ⟨rfl, j + 1, hit', rfl, t2, t1, on ek⟩
            · rw [if_neg hq]
              refine wpAny_pure ⟨rfl, j + 1, hit', rfl, t2, t1, on fun z => hq ?_⟩
              rw [z]
              exact beq_self_eq_true _
          · rintro r s' ⟨rfl, i, hit', rfl, hr, hi, hh⟩
            rcases hh with ⟨rfl, hn⟩ | ⟨a, p, rfl, _, z3⟩
            · exact wpAny_pure (hno (last hr hn))
            · exact wpAny_pure (hyes a p z3)
        · rw [if_neg hone]
          refine wpAny_bind (still hk hst ?_)
          rw [if_neg (by simp)]
          refine wpAny_bind ?_
          refine wpAny_forIn_list _ (fun left r s' => s' = s ∧ ∃ i hit', r = (none, hit') ∧ left = (List.range' i (es.size - i)).filter (fun i => (es[i]?.map (·.hash)) == some (M.hash k)) ∧ i ≤ es.size ∧
              ((hit' = none ∧ ∀ a p, a < i → xs[a]? ≠ some (k, p)) ∨ ∃ a p, hit' = some a ∧ a < i ∧ xs[a]? = some (k, p))) _ ?_ ?_ _ _ ⟨rfl, 0, none, rfl, by rw [placesWithHash, List.range_eq_range', Nat.sub_zero], Nat.zero_le _, .inl ⟨rfl, fun _ _ z => absurd z (Nat.not_lt_zero _)⟩⟩
          · rintro j left r s' ⟨rfl, i, hit', rfl, hr, hi, hh⟩
            obtain ⟨q1, q2, q3, q4, q5⟩ := filter_range'_cons _ _ _ _ _ hr.symm
            have t1 : j < es.size := by omega
            have t2 : left = (List.range' (j + 1) (es.size - (j + 1))).filter (fun i => (es[i]?.map (·.hash)) == some (M.hash k)) := by rw [q5]; congr 2; omega
            obtain ⟨y, y1, y2, y3⟩ := there t1
            -- up to here
            have now : (hit' = none ∧ ∀ a p, a < j → xs[a]? ≠ some (k, p)) ∨ ∃ a p, hit' = some a ∧ a < j ∧ xs[a]? = some (k, p) := by
              rcases hh with ⟨z, hn⟩ | ⟨a, p, z, z2, z3⟩
              · refine .inl ⟨z, fun a p ha hap => ?_⟩
                rcases Nat.lt_or_ge a i with c | c
                · exact hn a p c hap
                · have := q4 a c ha
                  rw [hit a p hap] at this
                  cases this
              · exact .inr ⟨a, p, z, by omega, z3⟩
            have on : ¬ y.1 = k → (hit' = none ∧ ∀ a p, a < j + 1 → xs[a]? ≠ some (k, p)) ∨ ∃ a p, hit' = some a ∧ a < j + 1 ∧ xs[a]? = some (k, p) := fun ne => by
              rcases now with ⟨z, hn⟩ | ⟨a, p, z, z2, z3⟩
              · refine .inl ⟨z, fun a p ha hap => ?_⟩
                rcases Nat.lt_or_ge a j with c | c
                · exact hn a p c hap
                · have e : a = j := by omega
                  rw [e, y1] at hap
                  cases hap
                  exact ne rfl
              · exact .inr ⟨a, p, z, by omega, z3⟩
            rw [y2]
            dsimp only [row]
            by_cases hq : (M.hash y.1 == M.hash k) = true
            · rw [if_pos hq]
              refine wpAny_bind (wpAny_dictEpoch ho hd (wpAny_bind (M.same hu y3 hk (wpAny_bind (wpAny_dictEpoch ho hd ?_)))))
              show wpAny _ _ (if (ep != ep) = true then _ else _) _ E _
              rw [if_neg (by simp)]
              by_cases ek : y.1 = k
              · have here : xs[j]? = some (k, y.2) := by rw [y1, ← ek]
                rw [decide_eq_true ek, if_pos rfl]
                rcases now with ⟨rfl, _⟩ | ⟨a, p, _, z2, z3⟩
                · rw [if_neg (show ¬ ((none : Option Nat).isSome = true) by simp)]
                  refine wpAny_bind (wpAny_rule ?_)
                  split
                  · exact wpAny_pure (wpAny_pure (hyes j y.2 here))
                  · exact wpAny_pure ⟨rfl, j + 1, some j, rfl, t2, t1, .inr ⟨j, y.2, rfl, Nat.lt_succ_self j, here⟩⟩
                · exact absurd (one_place nd z3 here) (by omega)
              · rw [decide_eq_false ek, if_neg Bool.false_ne_true]
                refine wpAny_bind (wpAny_rule ?_)
                rw [if_neg (by simp)]
                exact wpAny_pure ⟨rfl, j + 1, hit', rfl, t2, t1, on ek⟩
            · rw [if_neg hq]
              refine wpAny_pure ⟨rfl, j + 1, hit', rfl, t2, t1, on fun z => hq ?_⟩
              rw [z]
              exact beq_self_eq_true _
          · rintro r s' ⟨rfl, i, hit', rfl, hr, hi, hh⟩
            rcases hh with ⟨rfl, hn⟩ | ⟨a, p, rfl, _, z3⟩
            · exact wpAny_pure (hno (last hr hn))
            · exact wpAny_pure (hyes a p z3)
      · by_cases hone : (((placesWithHash es.size (fun i => es[i]?.map (·.hash)) (M.hash k)).filterMap (fun i => es[i]?.map (·.key))) == [key]) = true
        · rw [if_pos hone]
          refine wpAny_bind (wpAny_pure ?_)
          rw [if_neg (by simp)]
          refine wpAny_bind ?_
          refine wpAny_forIn_list _ (fun left r s' => s' = s ∧ ∃ i hit', r = (none, hit') ∧ left = (List.range' i (es.size - i)).filter (fun i => (es[i]?.map (·.hash)) == some (M.hash k)) ∧ i ≤ es.size ∧
              ((hit' = none ∧ ∀ a p, a < i → xs[a]? ≠ some (k, p)) ∨ ∃ a p, hit' = some a ∧ a < i ∧ xs[a]? = some (k, p))) _ ?_ ?_ _ _ ⟨rfl, 0, none, rfl, by rw [placesWithHash, List.range_eq_range', Nat.sub_zero], Nat.zero_le _, .inl ⟨rfl, fun _ _ z => absurd z (Nat.not_lt_zero _)⟩⟩
          · rintro j left r s' ⟨rfl, i, hit', rfl, hr, hi, hh⟩
            obtain ⟨q1, q2, q3, q4, q5⟩ := filter_range'_cons _ _ _ _ _ hr.symm
            have t1 : j < es.size := by omega
            have t2 : left = (List.range' (j + 1) (es.size - (j + 1))).filter (fun i => (es[i]?.map (·.hash)) == some (M.hash k)) := by rw [q5]; congr 2; omega
            obtain ⟨y, y1, y2, y3⟩ := there t1
            -- up to here
            have now : (hit' = none ∧ ∀ a p, a < j → xs[a]? ≠ some (k, p)) ∨ ∃ a p, hit' = some a ∧ a < j ∧ xs[a]? = some (k, p) := by
              rcases hh with ⟨z, hn⟩ | ⟨a, p, z, z2, z3⟩
              · refine .inl ⟨z, fun a p ha hap => ?_⟩
                rcases Nat.lt_or_ge a i with c | c
                · exact hn a p c hap
                · have := q4 a c ha
                  rw [hit a p hap] at this
                  cases this
              · exact .inr ⟨a, p, z, by omega, z3⟩
            have on : ¬ y.1 = k → (hit' = none ∧ ∀ a p, a < j + 1 → xs[a]? ≠ some (k, p)) ∨ ∃ a p, hit' = some a ∧ a < j + 1 ∧ xs[a]? = some (k, p) := fun ne => by
              rcases now with ⟨z, hn⟩ | ⟨a, p, z, z2, z3⟩
              · refine .inl ⟨z, fun a p ha hap => ?_⟩
                rcases Nat.lt_or_ge a j with c | c
                · exact hn a p c hap
                · have e : a = j := by omega
                  rw [e, y1] at hap
                  cases hap
                  exact ne rfl
              · exact .inr ⟨a, p, z, by omega, z3⟩
            rw [y2]
            dsimp only [row]
            by_cases hq : (M.hash y.1 == M.hash k) = true
            · rw [if_pos hq]
              refine wpAny_bind (wpAny_dictEpoch ho hd (wpAny_bind (M.same hu y3 hk (wpAny_bind (wpAny_dictEpoch ho hd ?_)))))
              show wpAny _ _ (if (ep != ep) = true then _ else _) _ E _
              rw [if_neg (by simp)]
              by_cases ek : y.1 = k
              · have here : xs[j]? = some (k, y.2) := by rw [y1, ← ek]
                rw [decide_eq_true ek, if_pos rfl]
                rcases now with ⟨rfl, _⟩ | ⟨a, p, _, z2, z3⟩
                · rw [if_neg (show ¬ ((none : Option Nat).isSome = true) by simp)]
                  refine wpAny_bind (wpAny_rule ?_)
                  split
                  · exact wpAny_pure (wpAny_pure (hyes j y.2 here))
                  · exact wpAny_pure ⟨rfl, j + 1, some j, rfl, t2, t1, .inr ⟨j, y.2, rfl, Nat.lt_succ_self j, here⟩⟩
                · exact absurd (one_place nd z3 here) (by omega)
              · rw [decide_eq_false ek, if_neg Bool.false_ne_true]
                refine wpAny_bind (wpAny_rule ?_)
                rw [if_neg (by simp)]
                exact wpAny_pure ⟨rfl, j + 1, hit', rfl, t2, t1, on ek⟩
            · rw [if_neg hq]
              refine wpAny_pure ⟨rfl, j + 1, hit', rfl, t2, t1, on fun z => hq ?_⟩
              rw [z]
              exact beq_self_eq_true _
          · rintro r s' ⟨rfl, i, hit', rfl, hr, hi, hh⟩
            rcases hh with ⟨rfl, hn⟩ | ⟨a, p, rfl, _, z3⟩
            · exact wpAny_pure (hno (last hr hn))
            · exact wpAny_pure (hyes a p z3)
        · rw [if_neg hone]
          refine wpAny_bind (still hk hst ?_)
          rw [if_neg (by simp)]
          refine wpAny_bind ?_
          refine wpAny_forIn_list _ (fun left r s' => s' = s ∧ ∃ i hit', r = (none, hit') ∧ left = (List.range' i (es.size - i)).filter (fun i => (es[i]?.map (·.hash)) == some (M.hash k)) ∧ i ≤ es.size ∧
              ((hit' = none ∧ ∀ a p, a < i → xs[a]? ≠ some (k, p)) ∨ ∃ a p, hit' = some a ∧ a < i ∧ xs[a]? = some (k, p))) _ ?_ ?_ _ _ ⟨rfl, 0, none, rfl, by rw [placesWithHash, List.range_eq_range', Nat.sub_zero], Nat.zero_le _, .inl ⟨rfl, fun _ _ z => absurd z (Nat.not_lt_zero _)⟩⟩
          · rintro j left r s' ⟨rfl, i, hit', rfl, hr, hi, hh⟩
            obtain ⟨q1, q2, q3, q4, q5⟩ := filter_range'_cons _ _ _ _ _ hr.symm
            have t1 : j < es.size := by omega
            have t2 : left = (List.range' (j + 1) (es.size - (j + 1))).filter (fun i => (es[i]?.map (·.hash)) == some (M.hash k)) := by rw [q5]; congr 2; omega
            obtain ⟨y, y1, y2, y3⟩ := there t1
            -- up to here
            have now : (hit' = none ∧ ∀ a p, a < j → xs[a]? ≠ some (k, p)) ∨ ∃ a p, hit' = some a ∧ a < j ∧ xs[a]? = some (k, p) := by
              rcases hh with ⟨z, hn⟩ | ⟨a, p, z, z2, z3⟩
              · refine .inl ⟨z, fun a p ha hap => ?_⟩
                rcases Nat.lt_or_ge a i with c | c
                · exact hn a p c hap
                · have := q4 a c ha
                  rw [hit a p hap] at this
                  cases this
              · exact .inr ⟨a, p, z, by omega, z3⟩
            have on : ¬ y.1 = k → (hit' = none ∧ ∀ a p, a < j + 1 → xs[a]? ≠ some (k, p)) ∨ ∃ a p, hit' = some a ∧ a < j + 1 ∧ xs[a]? = some (k, p) := fun ne => by
              rcases now with ⟨z, hn⟩ | ⟨a, p, z, z2, z3⟩
              · refine .inl ⟨z, fun a p ha hap => ?_⟩
                rcases Nat.lt_or_ge a j with c | c
                · exact hn a p c hap
                · have e : a = j := by omega
                  rw [e, y1] at hap
                  cases hap
                  exact ne rfl
              · exact .inr ⟨a, p, z, by omega, z3⟩
            rw [y2]
            dsimp only [row]
            by_cases hq : (M.hash y.1 == M.hash k) = true
            · rw [if_pos hq]
              refine wpAny_bind (wpAny_dictEpoch ho hd (wpAny_bind (M.same hu y3 hk (wpAny_bind (wpAny_dictEpoch ho hd ?_)))))
              show wpAny _ _ (if (ep != ep) = true then _ else _) _ E _
              rw [if_neg (by simp)]
              by_cases ek : y.1 = k
              · have here : xs[j]? = some (k, y.2) := by rw [y1, ← ek]
                rw [decide_eq_true ek, if_pos rfl]
                rcases now with ⟨rfl, _⟩ | ⟨a, p, _, z2, z3⟩
                · rw [if_neg (show ¬ ((none : Option Nat).isSome = true) by simp)]
                  refine wpAny_bind (wpAny_rule ?_)
                  split
                  · exact wpAny_pure (wpAny_pure (hyes j y.2 here))
                  · exact wpAny_pure ⟨rfl, j + 1, some j, rfl, t2, t1, .inr ⟨j, y.2, rfl, Nat.lt_succ_self j, here⟩⟩
                · exact absurd (one_place nd z3 here) (by omega)
              · rw [decide_eq_false ek, if_neg Bool.false_ne_true]
                refine wpAny_bind (wpAny_rule ?_)
                rw [if_neg (by simp)]
                exact wpAny_pure ⟨rfl, j + 1, hit', rfl, t2, t1, on ek⟩
            · rw [if_neg hq]
              refine wpAny_pure ⟨rfl, j + 1, hit', rfl, t2, t1, on fun z => hq ?_⟩
              rw [z]
              exact beq_self_eq_true _
          · rintro r s' ⟨rfl, i, hit', rfl, hr, hi, hh⟩
            rcases hh with ⟨rfl, hn⟩ | ⟨a, p, rfl, _, z3⟩
            · exact wpAny_pure (hno (last hr hn))
            · exact wpAny_pure (hyes a p z3)

/-- at d stands a dict of these rows -/
def Rows (M : MKind prog w κ) (h : Heap) (d : Addr) (xs : List (κ × Value × Value)) : Prop :=
  ∃ o es ep, h.get? d = some o ∧ o.ExactDict ∧ o.data = .dict es ep ∧ es.toList = xs.map (row M) ∧ (xs.map (·.1)).Nodup
theorem Rows.ty {d : Addr} {xs : List (κ × Value × Value)} (R : Rows M s.heap d xs) : s.TypeIs (.ref d) "dict" := let ⟨o, _, _, ho, hc, _⟩ := R; ⟨o, ho, hc.1⟩
variable {d : Addr} {xs : List (κ × Value × Value)} {k : κ} {key v : Value}
theorem get {Q : Option Value → Shared → Prop} (hu : M.room A) (hk : M.is s.heap k key) (R : Rows M s.heap d xs) (hx : ∀ x ∈ xs, M.is s.heap x.1 x.2.1)
    (hno : (∀ (j : Nat) (p : Value × Value), xs[j]? ≠ some (k, p)) → Q none { s with toks := s.toks + M.draws k }) (hyes : ∀ (j : Nat) (p : Value × Value), xs[j]? = some (k, p) → Q (some p.2) { s with toks := s.toks + M.draws k }) :
    wpAny (model prog w) A (dictGet d key) Q E s := by
  obtain ⟨o, es, ep, ho, _, hd, he, nd⟩ := R
  unfold dictGet
  try with_reducible refine wpAny_holding ?_
  refine wpAny_bind (M.hashed hu hk (wpAny_bind (find (s := { s with toks := s.toks + M.draws k }) hu hk ho hd he hx nd (fun z => wpAny_pure (hno z)) fun j p hj => ?_)))
  refine wpAny_bind (wpAny_dictEntries (s := { s with toks := s.toks + M.draws k }) ho hd ?_)
  rw [row_at he j, hj]
  exact wpAny_pure (hyes j p hj)
theorem put {Q : Unit → Shared → Prop} (hu : M.room A) (hk : M.is s.heap k key) (R : Rows M s.heap d xs) (hx : ∀ x ∈ xs, M.is s.heap x.1 x.2.1) (hz : xs.length ≤ sizeLine) (new : k ∉ xs.map (·.1))
    (hQ : ∀ h', Rows M h' d (xs ++ [(k, key, v)]) → Heap.SameBut d s.heap h' → Q () { s with heap := h', toks := s.toks + M.draws k }) : wpAny (model prog w) A (dictSet d key v) Q E s := by
  obtain ⟨o, es, ep, ho, hc, hd, he, nd⟩ := R
  unfold dictSet
  try with_reducible refine wpAny_holding ?_
  refine wpAny_bind (M.hashed hu hk ?_)
  unfold dictSetHashed
  try with_reducible refine wpAny_holding ?_
  refine wpAny_bind (find (s := { s with toks := s.toks + M.draws k }) hu hk ho hd he hx nd (fun _ => ?_) fun j p hj => ?_)
  · have z : es.size ≤ sizeLine := by rw [row_size he]; exact hz
    refine wpAny_bind (wpAny_rule (wpAny_updateDictKeys (hz := z) (s := { s with toks := s.toks + M.draws k }) ho hd (hQ _ ⟨_, _, ep + 1, Heap.get?_update_self _ ho (Obj.isFreed_of_dict (Obj.data_mapDictKeys hd _)), hc.mapDictKeys _, Obj.data_mapDictKeys hd _, ?_, ?_⟩ (Heap.SameBut.update ..))))
    · rw [Array.toList_push, he, List.map_append]
      rfl
    · rw [List.map_append, List.nodup_append]
      refine ⟨nd, by simp, fun a ha b hb => ?_⟩
      have e : b = k := by simpa using hb
      rw [e]
      exact fun z => new (z ▸ ha)
  · exact absurd (List.mem_map.mpr ⟨(k, p), List.mem_of_getElem? hj, rfl⟩) new
/-- k in d, k not in d -/
theorem contains_at {Q : Bool → Shared → Prop} (hu : M.room A.in1) (hk : M.is s.heap k key) (lo : (d == sysModules) = false) (R : Rows M s.heap d xs) (hx : ∀ x ∈ xs, M.is s.heap x.1 x.2.1) (h : Q (hasG k (xs.map (·.1))) { s with toks := s.toks + M.draws k }) :
    wpAny (model prog w) A (contains (.ref d) key) Q E s := by
  unfold contains
  try with_reducible refine wpAny_holding ?_
  refine wpAny_bind (wpAny_specialOf R.ty slot_dict_contains.lookup ?_)
  show wpAny _ _ (if (some (Value.builtin "dict.__contains__") == some Value.none) = true then _ else _) _ E s
  rw [if_neg (by rw [beq_builtin_none]; exact Bool.false_ne_true)]
  refine wpAny_bind (wpAny_callSpecialUnlessNone?_slot (name := Str.ofString "__contains__") R.ty slot_dict_contains (wpAny_call_entry slot_dict_contains R.ty entry_dict_contains ?_ (args_dict_contains _ _)))
  show wpAny _ _ (dictGet d key >>= _) _ _ s
  refine wpAny_bind (get hu hk R hx (fun hn => ?_) fun j p hj => ?_)
  · have e : k ∉ xs.map (·.1) := fun m => by
      obtain ⟨x, h1, h2⟩ := List.mem_map.mp m
      obtain ⟨j, hj⟩ := List.mem_iff_getElem?.mp h1
      exact hn j x.2 (by rw [hj, ← h2])
    rw [hasG_no e] at h
    show wpAny _ _ (Builtin.Dict.pendingKey? d key >>= _) _ _ _
    exact wpAny_bind (wpAny_pendingKey_other lo (wpAny_pure ⟨_, rfl, wpAny_truthy_bool h⟩))
  · have yes : k ∈ xs.map (·.1) := List.mem_map.mpr ⟨(k, p), List.mem_of_getElem? hj, rfl⟩
    rw [hasG_yes yes] at h
    show wpAny _ _ (ret (.bool true)) _ _ _
    exact wpAny_pure ⟨_, rfl, wpAny_truthy_bool h⟩
theorem op_in {Q : Value → Shared → Prop} (hu : M.room A.in1) (hk : M.is s.heap k key) (lo : (d == sysModules) = false) (R : Rows M s.heap d xs) (hx : ∀ x ∈ xs, M.is s.heap x.1 x.2.1) (h : Q (.bool (hasG k (xs.map (·.1)))) { s with toks := s.toks + M.draws k }) :
    wpAny (model prog w) A (compareOp .In key (.ref d)) Q E s := by
  show wpAny _ _ (do return .bool (← contains (.ref d) key)) Q E s
  exact wpAny_bind (contains_at hu hk lo R hx (wpAny_pure h))
theorem op_notin {Q : Value → Shared → Prop} (hu : M.room A.in1) (hk : M.is s.heap k key) (lo : (d == sysModules) = false) (R : Rows M s.heap d xs) (hx : ∀ x ∈ xs, M.is s.heap x.1 x.2.1) (h : Q (.bool (!hasG k (xs.map (·.1)))) { s with toks := s.toks + M.draws k }) :
    wpAny (model prog w) A (compareOp .NotIn key (.ref d)) Q E s := by
  show wpAny _ _ (do return .bool (!(← contains (.ref d) key))) Q E s
  exact wpAny_bind (contains_at hu hk lo R hx (wpAny_pure h))
theorem item {Q : Value → Shared → Prop} {j : Nat} {p : Value × Value} (hu : M.room A.in1) (hk : M.is s.heap k key) (R : Rows M s.heap d xs) (hx : ∀ x ∈ xs, M.is s.heap x.1 x.2.1) (hp : xs[j]? = some (k, p)) (h : Q p.2 { s with toks := s.toks + M.draws k }) :
    wpAny (model prog w) A (getItem (.ref d) key) Q E s := by
  have nd : (xs.map (·.1)).Nodup := let ⟨_, _, _, _, _, _, _, nd⟩ := R; nd
  unfold getItem
  try with_reducible refine wpAny_holding ?_
  refine wpAny_bind (wpAny_sequenceKey R.ty (by decide) ?_)
  refine wpAny_bind (wpAny_callSpecial?_slot (name := Str.ofString "__getitem__") R.ty slot_dict_getitem (wpAny_call_entry slot_dict_getitem R.ty entry_dict_getitem ?_ (args_dict_getitem _ _)))
  show wpAny _ _ (dictGet d key >>= _) _ _ s
  refine wpAny_bind (get hu hk R hx (fun hn => absurd hp (hn j p)) fun i q hq => ?_)
  have e := one_place nd hq hp
  subst e
  rw [hp] at hq
  cases hq
  exact wpAny_pure ⟨p.2, rfl, wpAny_pure h⟩
theorem store {Q : Unit → Shared → Prop} (hu : M.room A.in1) (hk : M.is s.heap k key) (R : Rows M s.heap d xs) (hx : ∀ x ∈ xs, M.is s.heap x.1 x.2.1) (hz : xs.length ≤ sizeLine) (new : k ∉ xs.map (·.1))
    (hQ : ∀ h', Rows M h' d (xs ++ [(k, key, v)]) → Heap.SameBut d s.heap h' → Q () { s with heap := h', toks := s.toks + M.draws k }) : wpAny (model prog w) A (setItem (.ref d) key v) Q E s := by
  unfold setItem
  try with_reducible refine wpAny_holding ?_
  refine wpAny_bind (wpAny_sequenceKey R.ty (by decide) ?_)
  refine wpAny_bind (wpAny_callSpecial?_slot (name := Str.ofString "__setitem__") R.ty slot_dict_setitem (wpAny_call_entry slot_dict_setitem R.ty entry_dict_setitem ?_ (args_dict_setitem _ _ _)))
  show wpAny _ _ (Builtin.Dict.notOrdered "__setitem__" ⟨[.ref d, key, v], []⟩ >>= _) _ _ s
  refine wpAny_bind (wpAny_notOrdered_dict R.ty ?_)
  show wpAny _ _ (dictSet d key v >>= _) _ _ s
  exact wpAny_bind (put hu hk R hx hz new fun h' R' hs => wpAny_pure ⟨.none, rfl, wpAny_pure (hQ h' R' hs)⟩)
end
/-! ## texts and tuples of ints -/
inductive MK where
  | row (x : Str)
  | tup (ks : List Int)
  deriving DecidableEq
def mixIs (prog : Program) (w : World) (h : Heap) : MK → Value → Prop
  | .row x, v => ∃ t, v = .str x t
  | .tup ks, v => ∃ a, v = .ref a ∧ IsTupleKey (intKind prog w) h ks a
theorem tup_of {prog : Program} {w : World} {h : Heap} {ks : List Int} {a : Addr} (x : IsTupleKey (intKind prog w) h ks a) : ∃ its, h.IsTuple a its := by
  obtain ⟨o, items, n, ho, hc, hd, _⟩ := x
  exact ⟨items, o, ho, hc, n, hd⟩
def mixK (prog : Program) (w : World) : MKind prog w MK where
  is := mixIs prog w
  hash := fun k => match k with
    | .row x => hashStr w x
    | .tup ks => tupleKeyHash (intKind prog w) ks
  draws := fun k => match k with
    | .row _ => 1
    | .tup ks => ks.length + 1
  room := fun A => A.units < cLine
  inj := fun {h v x y} hx hy => by
    cases x with
    | row x =>
      cases y with
      | row y =>
        obtain ⟨t, rfl⟩ := hx
        obtain ⟨u, e⟩ := hy
        injection e with e1 _
        rw [e1]
      | tup y =>
        obtain ⟨t, rfl⟩ := hx
        obtain ⟨u, e, _⟩ := hy
        exact nomatch e
    | tup x =>
      cases y with
      | row y =>
        obtain ⟨u, rfl, _⟩ := hx
        obtain ⟨t, e⟩ := hy
        exact nomatch e
      | tup y =>
        obtain ⟨a, rfl, h1⟩ := hx
        obtain ⟨b, e, h2⟩ := hy
        cases e
        rw [h1.inj h2]
  text := fun {h v x y z t} hx hy => by
    cases x with
    | tup x =>
      obtain ⟨a, e, _⟩ := hx
      exact nomatch e
    | row x =>
      obtain ⟨t', e⟩ := hx
      injection e with e1 _
      subst e1
      cases y with
      | row y =>
        obtain ⟨u, rfl⟩ := hy
        by_cases q : z = y
        · subst q; simp [Value.isStr]
        · have q2 : ¬ MK.row z = MK.row y := fun e => q (MK.row.inj e)
          rw [decide_eq_false q2]
          simp [Value.isStr, Ne.symm q]
      | tup y =>
        obtain ⟨a, rfl, _⟩ := hy
        rfl
  hashed := fun {A E s k v Q} hu hk h => by
    cases k with
    | row x =>
      obtain ⟨t, rfl⟩ := hk
      exact wpAny_pyHash_str h
    | tup ks =>
      obtain ⟨a, rfl, hk⟩ := hk
      exact wpAny_pyHash_tuple hu hk h
  same := fun {A E s x y u v Q} hu hx hy h => by
    cases x with
    | row x =>
      obtain ⟨t, rfl⟩ := hx
      cases y with
      | row y =>
        obtain ⟨t', rfl⟩ := hy
        refine wpAny_eqBool_str ?_
        have e : decide (MK.row x = MK.row y) = decide (x = y) := by rw [decide_eq_decide]; exact ⟨MK.row.inj, fun e => by rw [e]⟩
        rw [← e]
        exact h
      | tup y =>
        obtain ⟨a, rfl, hk⟩ := hy
        obtain ⟨its, ht⟩ := tup_of hk
        exact SeqAt.EqAt.str_tuple x t ht hu prog w E Q h
    | tup x =>
      obtain ⟨a, rfl, hk⟩ := hx
      cases y with
      | row y =>
        obtain ⟨t', rfl⟩ := hy
        obtain ⟨its, ht⟩ := tup_of hk
        exact SeqAt.EqAt.tuple_str y t' ht hu prog w E Q h
      | tup y =>
        obtain ⟨b, rfl, hk2⟩ := hy
        refine wpAny_eqBool_tuple hu hk hk2 ?_
        have e : decide (MK.tup x = MK.tup y) = decide (x = y) := by rw [decide_eq_decide]; exact ⟨MK.tup.inj, fun e => by rw [e]⟩
        rw [← e]
        exact h
  quiet := fun {A E s k v Q} hk h => by
    cases k with
    | row x =>
      obtain ⟨t, rfl⟩ := hk
      rw [eqIsQuiet_byValue 8 rfl]
      exact wpAny_pure h
    | tup ks =>
      obtain ⟨a, rfl, hk⟩ := hk
      exact wpAny_eqIsQuiet_tuple hk h
end Mix
namespace Ts
open PySem PySem.Spec PyProof.Rows L2 Mix
abbrev Ks := List (MK × V × V)
/-- the dict at d: keys, their values as handed in, what they hold -/
def MDφ (P : Program) (w : World) (d : Addr) (ks : Ks) (h : Heap) : Prop := (d == sysModules) = false ∧ ks.length ≤ sizeLine ∧
  ∃ xs : List (MK × Value × Value), Paired (fun (p : MK × V × V) (q : MK × Value × Value) => p.1 = q.1 ∧ RelV p.2.1 q.2.1 ∧ RelV p.2.2 q.2.2) ks xs ∧ Rows (mixK P w) h d xs
def MD (P : Program) (w : World) (d : Addr) (ks : Ks) : HO := .ext (MDφ P w d ks)
theorem md_stay {P : Program} {w : World} {d : Addr} {ks : Ks} (h1 h2 : Heap) (p : MDφ P w d ks h1) (k : ∀ o, h1.get? d = some o → h2.get? d = some o) : MDφ P w d ks h2 := by
  obtain ⟨a, b, xs, r, o, es, ep, ho, q⟩ := p
  exact ⟨a, b, xs, r, o, es, ep, k o ho, q⟩
theorem md_ok {P : Program} {w : World} {H : Hp} {h : Heap} {d : Addr} {ks : Ks} (p : MDφ P w d ks h) : ObjOk P w H h d (MD P w d ks) := by
  obtain ⟨a, b, xs, r, o, es, ep, ho, q⟩ := id p
  exact ⟨p, ⟨o, ho⟩, md_stay⟩
/-- a dict's keys -/
def kk (ks : Ks) : List MK := ks.map fun p => p.1
/-- what a key's value is -/
def KeyV (H : Hp) : MK → V → Prop
  | .row x, y => y = .str x
  | .tup is, y => ∃ a, y = .ref a ∧ H a = some (.tup (is.map V.int))
def KeysV (H : Hp) (ks : Ks) : Prop := ∀ p ∈ ks, KeyV H p.1 p.2.1
theorem keyV_ex {H H' : Hp} (e : Ex H H') {k : MK} {y : V} (h : KeyV H k y) : KeyV H' k y := by
  cases k with
  | row x => exact h
  | tup is =>
    obtain ⟨a, h1, h2⟩ := h
    exact ⟨a, h1, e _ _ h2⟩
theorem items_ints {P : Program} {w : World} : ∀ {is : List Int} {its : List Value}, Vals (is.map V.int) its → ItemsAre (intKind P w) is its
  | [], _, .nil => .nil
  | i :: is, _, .cons ⟨t, e⟩ r => by
    subst e
    exact .cons (by show Value.isInt i (.int i t) = true; simp [Value.isInt]) (items_ints r)
theorem key_is {P : Program} {w : World} {H : Hp} {h : Heap} (ok : HOk P w H h) {k : MK} {y : V} {u : Value} (kv : KeyV H k y) (r : RelV y u) : mixIs P w h k u := by
  cases k with
  | row x =>
    cases (show y = .str x from kv)
    exact r
  | tup is =>
    obtain ⟨a, rfl, h2⟩ := kv
    cases (show u = .ref a from r)
    obtain ⟨_, its, rv, o, h3, h4, n, h5⟩ := (show ObjOk P w H h a (.tup (is.map V.int)) from ok a _ h2)
    exact ⟨a, rfl, o, its.toArray, n, h3, h4, h5, by simpa using items_ints rv⟩
section
variable {X : Cx} {o i value : Expr} {pos pos' : Pos} {td ty tv : TE} {pins : List (Addr × Obj)} {σ : L2.St} {H : Hp} {s : Shared}
theorem Inv.md {d : Addr} {ks : Ks} (I : Inv X pins σ H s) (h : H d = some (MD X.prog X.w d ks)) (kv : KeysV H ks) :
    (d == sysModules) = false ∧ ks.length ≤ sizeLine ∧ ∃ xs : List (MK × Value × Value), Paired (fun (p : MK × V × V) (q : MK × Value × Value) => p.1 = q.1 ∧ RelV p.2.1 q.2.1 ∧ RelV p.2.2 q.2.2) ks xs ∧ Rows (mixK X.prog X.w) s.heap d xs ∧ ∀ x ∈ xs, (mixK X.prog X.w).is s.heap x.1 x.2.1 := by
  obtain ⟨⟨a, b, xs, r, R⟩, _⟩ := (show ObjOk X.prog X.w H s.heap d (MD X.prog X.w d ks) from I.hok d _ h)
  refine ⟨a, b, xs, r, R, ?_⟩
  have all : ∀ {l : Ks} {m : List (MK × Value × Value)}, Paired (fun (p : MK × V × V) (q : MK × Value × Value) => p.1 = q.1 ∧ RelV p.2.1 q.2.1 ∧ RelV p.2.2 q.2.2) l m → (∀ p ∈ l, KeyV H p.1 p.2.1) → ∀ x ∈ m, (mixK X.prog X.w).is s.heap x.1 x.2.1 := by
    intro l m q
    induction q with
    | nil => intro _ x hx; exact nomatch hx
    | @cons p q ps qs hq t ih =>
      intro hk x hx
      rcases List.mem_cons.mp hx with e | hx
      · subst e
        have z := key_is I.hok (hk p List.mem_cons_self) hq.2.1
        rw [hq.1] at z
        exact z
      · exact ih (fun p hp => hk p (List.mem_cons_of_mem _ hp)) x hx
  exact all r kv
theorem pairs_keys {l : Ks} {m : List (MK × Value × Value)} (q : Paired (fun (p : MK × V × V) (q : MK × Value × Value) => p.1 = q.1 ∧ RelV p.2.1 q.2.1 ∧ RelV p.2.2 q.2.2) l m) : kk l = m.map (·.1) := by
  induction q with
  | nil => rfl
  | @cons a b as bs hq _ ih =>
    show a.1 :: kk as = b.1 :: bs.map (·.1)
    rw [hq.1, ih]
theorem pairs_get {l : Ks} {m : List (MK × Value × Value)} (q : Paired (fun (p : MK × V × V) (q : MK × Value × Value) => p.1 = q.1 ∧ RelV p.2.1 q.2.1 ∧ RelV p.2.2 q.2.2) l m) : ∀ {j : Nat} {p : MK × V × V}, l[j]? = some p → ∃ r, m[j]? = some r ∧ p.1 = r.1 ∧ RelV p.2.1 r.2.1 ∧ RelV p.2.2 r.2.2 := by
  induction q with
  | nil => intro j p h; simp at h
  | cons hq _ ih =>
    intro j p h
    cases j with
    | zero =>
      simp at h
      subst h
      exact ⟨_, rfl, hq⟩
    | succ j => exact ih (by simpa using h)

/-! the readings; md stands for the dict's description -/
abbrev Mdf := Addr → Ks → HO
def tMNew (md : Mdf) : TE := fun _ H Q => ∀ d, H d = none → Q (.ref d) (upd H d (md d []))
def tMIn (md : Mdf) (ty td : TE) : TE := fun σ H Q => ty σ H fun y H1 => td σ H1 fun x H2 => ∃ (d : Addr) (ks : Ks) (k : MK), x = .ref d ∧ H2 d = some (md d ks) ∧ KeyV H2 k y ∧ KeysV H2 ks ∧ Q (.bl (hasG k (kk ks))) H2
def tMNotIn (md : Mdf) (ty td : TE) : TE := fun σ H Q => ty σ H fun y H1 => td σ H1 fun x H2 => ∃ (d : Addr) (ks : Ks) (k : MK), x = .ref d ∧ H2 d = some (md d ks) ∧ KeyV H2 k y ∧ KeysV H2 ks ∧ Q (.bl (!hasG k (kk ks))) H2
def tMGet (md : Mdf) (td ty : TE) : TE := fun σ H Q => td σ H fun x H1 => ty σ H1 fun y H2 => ∃ (d : Addr) (ks : Ks) (k : MK) (j : Nat) (p : V × V), x = .ref d ∧ H2 d = some (md d ks) ∧ KeyV H2 k y ∧ KeysV H2 ks ∧ ks[j]? = some (k, p) ∧ Q p.2 H2
def sMPut (md : Mdf) (td ty tv : TE) : TS := fun D σ H => tv σ H fun v H1 => td σ H1 fun x H2 => ty σ H2 fun y H3 => ∃ (d : Addr) (ks : Ks) (k : MK), x = .ref d ∧ H3 d = some (md d ks) ∧ KeyV H3 k y ∧ KeysV H3 ks ∧ k ∉ kk ks ∧ ks.length < sizeLine ∧
  D.nx σ (upd H3 d (md d (ks ++ [(k, y, v)])))
variable {md : Mdf}
theorem pe_mnew (hm : md = MD X.prog X.w) : PE X (.Dict [] [] pos) (tMNew md) := ⟨fun pins s σ H Q I h => by
  subst hm
  have hb := I.big
  have ok : MDφ X.prog X.w s.heap.objs.size [] (s.heap.push { cls := .type "dict", data := .dict #[] }) :=
    ⟨beq_eq_false_iff_ne.mpr (Ne.symm (Nat.ne_of_lt hb)), Nat.zero_le _, [], .nil, _, #[], 0, Heap.get?_push_size _ rfl, ⟨rfl, rfl, rfl⟩, rfl, rfl, List.nodup_nil⟩
  exact wpAny_Dict_empty ⟨.ref s.heap.objs.size, _, I.laid (a := s.heap.objs.size) (o := MD X.prog X.w s.heap.objs.size []) (t' := s.toks) (fun _ _ q => Heap.get?_push_of_some _ q) (Nat.le_refl _) (md_ok ok), rfl, h _ (I.hok.fresh (Nat.le_refl _))⟩⟩
theorem room_of {A : Around} (hu : A.units + 1 < cLine) : A.in1.units < cLine := hu
theorem pc_min (hm : md = MD X.prog X.w) (hu : X.A.units + 1 < cLine) (hi : PE X i ty) (ho : PE X o td) : PC X .In i o (tMIn md ty td) := by
  subst hm
  refine ⟨fun pins s σ H Q I h => ?_⟩
  refine thn (hi.run pins s σ H _ I h) fun iv s1 ⟨y, H1, I1, ry, q1⟩ => thn (ho.run pins s1 σ H1 _ I1 q1) fun u s2 ⟨x, H2, I2, rx, d, ks, k, ex, hd, kv, kvs, q2⟩ => ?_
  subst ex
  obtain rfl : u = Value.ref d := rx
  obtain ⟨lo, _, xs, r, R, hx⟩ := Inv.md I2 hd kvs
  refine Mix.op_in (room_of hu) (key_is I2.hok kv ry) lo R hx ⟨.bl _, H2, I2.tok _, rfl, ?_⟩
  rw [← pairs_keys r]
  exact q2
theorem pc_mnotin (hm : md = MD X.prog X.w) (hu : X.A.units + 1 < cLine) (hi : PE X i ty) (ho : PE X o td) : PC X .NotIn i o (tMNotIn md ty td) := by
  subst hm
  refine ⟨fun pins s σ H Q I h => ?_⟩
  refine thn (hi.run pins s σ H _ I h) fun iv s1 ⟨y, H1, I1, ry, q1⟩ => thn (ho.run pins s1 σ H1 _ I1 q1) fun u s2 ⟨x, H2, I2, rx, d, ks, k, ex, hd, kv, kvs, q2⟩ => ?_
  subst ex
  obtain rfl : u = Value.ref d := rx
  obtain ⟨lo, _, xs, r, R, hx⟩ := Inv.md I2 hd kvs
  refine Mix.op_notin (room_of hu) (key_is I2.hok kv ry) lo R hx ⟨.bl _, H2, I2.tok _, rfl, ?_⟩
  rw [← pairs_keys r]
  exact q2
theorem pe_mget (hm : md = MD X.prog X.w) (hu : X.A.units + 1 < cLine) (ho : PE X o td) (hi : PE X i ty) (hs : NoSl i) : PE X (.Subscript o i pos) (tMGet md td ty) := by
  subst hm
  refine ⟨fun pins s σ H Q I h => ?_⟩
  refine subD_of PySem.F.slot_dict_getitem.lookup hs (thn (ho.run pins s σ H _ I h) fun u s1 ⟨x, H1, I1, rx, q1⟩ => thn (hi.run pins s1 σ H1 _ I1 q1) fun iv s2 ⟨y, H2, I2, ry, d, ks, k, j, p, ex, hd, kv, kvs, hp, q2⟩ => ?_)
  subst ex
  obtain rfl : u = Value.ref d := rx
  obtain ⟨lo, _, xs, r, R, hx⟩ := Inv.md I2 hd kvs
  obtain ⟨⟨k', q⟩, h1, h2, _, h4⟩ := pairs_get r hp
  cases (show k = k' from h2)
  exact ⟨R.ty, Mix.item (room_of hu) (key_is I2.hok kv ry) R hx h1 ⟨p.2, H2, I2.tok _, h4, q2⟩⟩
theorem ps_mput (hm : md = MD X.prog X.w) (hu : X.A.units + 1 < cLine) (ho : PE X o td) (hi : PE X i ty) (hv : PE X value tv) (hs : swapsWith value (some (.Subscript o i pos')) pos.line X.env = pure false) :
    PS X (.Assign [.Subscript o i pos'] value pos) (sMPut md td ty tv) := by
  subst hm
  refine ⟨fun pins s σ H D I h => ?_⟩
  refine wpAny_Assign_Subscript (thn (hv.run pins s σ H _ I h) fun r s1 ⟨v, H1, I1, rv, q1⟩ => thn (ho.run pins s1 σ H1 _ I1 q1) fun u s2 ⟨x, H2, I2, rx, q2⟩ => thn (hi.run pins s2 σ H2 _ I2 q2) fun iv s3 ⟨y, H3, I3, ry, d, ks, k, ex, hd, kv, kvs, new, hl, q3⟩ => ?_) hs
  subst ex
  obtain rfl : u = Value.ref d := rx
  obtain ⟨lo, hz, xs, pr, R, hx⟩ := Inv.md I3 hd kvs
  have hxl : xs.length = ks.length := by
    have := congrArg List.length (pairs_keys pr)
    simpa [kk] using this.symm
  refine Mix.store (room_of hu) (key_is I3.hok kv ry) R hx (by omega) (by rw [← pairs_keys pr]; exact new) fun h' R' hs' => ?_
  have ok : MDφ X.prog X.w d (ks ++ [(k, y, v)]) h' := ⟨lo, by rw [List.length_append]; exact hl, _, Paired.snoc pr ⟨rfl, ry, rv⟩, R'⟩
  have he : ∃ q, h'.get? d = some q := let ⟨q, _, _, hq, _⟩ := R'; ⟨q, hq⟩
  exact ⟨σ, _, d_write I3 (by rw [hd]; exact True.intro) hs' he (md_ok ok), q3⟩
theorem w_mnew {Q : VK} (q : ∀ d, H d = none → Q (.ref d) (upd H d (md d []))) : tMNew md σ H Q := q
theorem w_mnotin {Q : VK} (q : ty σ H fun y H1 => td σ H1 fun x H2 => ∃ (d : Addr) (ks : Ks) (k : MK), x = .ref d ∧ H2 d = some (md d ks) ∧ KeyV H2 k y ∧ KeysV H2 ks ∧ Q (.bl (!hasG k (kk ks))) H2) : tMNotIn md ty td σ H Q := q
theorem w_mget {Q : VK} (q : td σ H fun x H1 => ty σ H1 fun y H2 => ∃ (d : Addr) (ks : Ks) (k : MK) (j : Nat) (p : V × V), x = .ref d ∧ H2 d = some (md d ks) ∧ KeyV H2 k y ∧ KeysV H2 ks ∧ ks[j]? = some (k, p) ∧ Q p.2 H2) : tMGet md td ty σ H Q := q
theorem w_mput {nx bk ct : L2.St → Hp → Prop} {rt : VK} (q : tv σ H fun v H1 => td σ H1 fun x H2 => ty σ H2 fun y H3 => ∃ (d : Addr) (ks : Ks) (k : MK), x = .ref d ∧ H3 d = some (md d ks) ∧ KeyV H3 k y ∧ KeysV H3 ks ∧ k ∉ kk ks ∧ ks.length < sizeLine ∧ nx σ (upd H3 d (md d (ks ++ [(k, y, v)])))) : sMPut md td ty tv ⟨nx, rt, bk, ct⟩ σ H := q
end
end Ts
namespace Ts
open PySem L2 Mix
/-- where the program's classes stand, and what stands for a dict's description -/
structure Cs where
  Ledger : Addr
  Book : Addr
  Looker : Addr
  TwinError : Addr
  NoRow : Addr
  NoSum : Addr
  NoPlace : Addr
  NoBlock : Addr
  Full : Addr
  Strange : Addr
  md : Mdf
def Cs.none : Cs := ⟨0, 0, 0, 0, 0, 0, 0, 0, 0, 0, fun _ _ => .lst []⟩
/-- what is a whole number: an int that is no truth; of the kinds that are asked -/
def isWholeV (K : PySem.W.Frag) (H : Hp) (v : V) (b : Bool) : Prop :=
  (∃ i, v = .int i ∧ b = true) ∨ (∃ x, v = .bl x ∧ b = false) ∨ (∃ x, v = .str x ∧ b = false) ∨ (v = .non ∧ b = false) ∨ (∃ a xs, v = .ref a ∧ (SqL K H a xs ∨ SqT K H a xs) ∧ b = false)
/-- what was there is there, but for the objects of S -/
def Kp (S : List Addr) (H H' : Hp) : Prop := ∀ a o, H a = some o → a ∉ S → H' a = some o
theorem Kp.refl {S : List Addr} {H : Hp} : Kp S H H := fun _ _ h _ => h
theorem Kp.trans {S : List Addr} {H H1 H2 : Hp} (a : Kp S H H1) (b : Kp S H1 H2) : Kp S H H2 := fun x o h n => b x o (a x o h n) n
theorem Kp.mono {S S' : List Addr} {H H' : Hp} (a : Kp S H H') (h : ∀ x ∈ S, x ∈ S') : Kp S' H H' := fun x o q n => a x o q fun z => n (h x z)
theorem Kp.of_ex {S : List Addr} {H H' : Hp} (e : Ex H H') : Kp S H H' := fun x o q _ => e x o q
theorem Kp.set {S : List Addr} {H H' : Hp} {p : Addr} {o : HO} (a : Kp S H H') (h : p ∈ S) : Kp S H (upd H' p o) := fun x u q n => by
  have ne : x ≠ p := fun z => n (by rw [z]; exact h)
  rw [upd_ne ne]
  exact a x u q n
theorem Kp.new {S : List Addr} {H H' : Hp} {p : Addr} {o : HO} (a : Kp S H H') (h : H' p = none) : Kp S H (upd H' p o) := fun x u q n => by
  have z := a x u q n
  rw [upd_ne (ne_of_none z h)]
  exact z
/-- a new object does not count among what was there -/
theorem Kp.fresh {S : List Addr} {H H' : Hp} {p : Addr} {o : HO} (a : Kp S H H') (h : H p = none) : Kp S H (upd H' p o) := fun x u q n => by
  rw [upd_ne (ne_of_none q h)]
  exact a x u q n
theorem Kp.drop {S S' : List Addr} {H H' : Hp} (a : Kp S H H') (h : ∀ x ∈ S, x ∈ S' ∨ H x = none) : Kp S' H H' := fun x o q n => a x o q fun z => by
  rcases h x z with r | r
  · exact n r
  · rw [q] at r; cases r
theorem Kp.sql {K : PySem.W.Frag} {S : List Addr} {H H' : Hp} {a : Addr} {xs : List V} (k : Kp S H H') (h : SqL K H a xs) (n : a ∉ S) : SqL K H' a xs := by
  rcases h with (h | ⟨o, h⟩) | h
  · exact .inl (.inl (k _ _ h n))
  · exact .inl (.inr ⟨o, k _ _ h n⟩)
  · exact .inr h
theorem Kp.sqt {K : PySem.W.Frag} {S : List Addr} {H H' : Hp} {a : Addr} {xs : List V} (k : Kp S H H') (h : SqT K H a xs) (n : a ∉ S) : SqT K H' a xs := by
  rcases h with (h | ⟨o, h⟩) | h
  · exact .inl (.inl (k _ _ h n))
  · exact .inl (.inr ⟨o, k _ _ h n⟩)
  · exact .inr h
theorem Kp.keyV {S : List Addr} {H H' : Hp} {k : MK} {v : V} (a : Kp S H H') (h : KeyV H k v) (n : ∀ x o, x ∈ S → H x = some o → ¬ ∃ ys, o = .tup ys) : KeyV H' k v := by
  cases k with
  | row x => exact h
  | tup is =>
    obtain ⟨t, h1, h2⟩ := h
    exact ⟨t, h1, a _ _ h2 fun z => n _ _ z h2 ⟨_, rfl⟩⟩
theorem cast_pow (k : Nat) : ((2 ^ k : Nat) : Int) = (2 : Int) ^ k := by push_cast; rfl
theorem cast_div (a b : Nat) : (a : Int) / (b : Int) = ((a / b : Nat) : Int) := by push_cast; rfl
theorem cast_mod (a b : Nat) : (a : Int) % (b : Int) = ((a % b : Nat) : Int) := by push_cast; rfl
/-! ### the loop over a text's signs, a store into a list -/
section
variable {K : PySem.W.Frag} {σ : L2.St} {H : Hp} {t : TS} {te : TE} {g : TG} {nx bk ct : L2.St → Hp → Prop} {rt : VK}
theorem w_iStr {R : It → Hp → Prop} (q : te σ H fun v H1 => ∃ x, v = .str x ∧ R (Its x) H1) : iStr te σ H R := q
theorem lb_str {z : Str} (Pv : Nat → L2.St → Hp → Prop) (h0 : Pv 0 σ H) (hs : ∀ (i : Nat) (c : Nat) σ H, z.cps[i]? = some c → Pv i σ H → g (.str ⟨#[c]⟩) σ H fun σ2 H2 => t ⟨Pv (i + 1), rt, nx, Pv (i + 1)⟩ σ2 H2) (hd : ∀ σ H, Pv z.cps.size σ H → nx σ H) :
    LB g t nx rt σ (Its z) H := by
  refine ⟨fun i m σ H => m = z.cps.size - i ∧ i ≤ z.cps.size ∧ Pv i σ H, ⟨z.cps.size, by simp, Nat.zero_le _, h0⟩, ?_⟩
  rintro i m σ H ⟨rfl, hi, p⟩
  by_cases hlt : i < z.cps.size
  · refine .inr ⟨hlt, Pv (i + 1), fun σ' H' p' => ⟨z.cps.size - (i + 1), by omega, rfl, hlt, p'⟩, fun x H' y => ?_⟩
    obtain ⟨rfl, c, hc, rfl⟩ := y
    exact hs i c σ _ hc p
  · have e : i = z.cps.size := by omega
    subst e
    exact .inl ⟨Nat.le_refl _, hd σ H p⟩
theorem w_setL {a : Addr} {xs : List V} {i : Nat} {v : V} {R : Hp → Prop} (h : H a = some (.lst xs)) (hi : i < xs.length) (q : R (upd H a (.lst (xs.set i v)))) : rSetL (.ref a) (.int (i : Int)) v H R := ⟨a, xs, i, i, rfl, rfl, h, by
  unfold ixN
  rw [if_pos (by omega), if_pos (by omega)]
  simp, q⟩
def rNotInS : R2 := fun x y H Q => ∃ (c : Nat) (z : Str), x = .str ⟨#[c]⟩ ∧ y = .str z ∧ Q (.bl (!decide (c ∈ z.cps.toList))) H
theorem op_notInS1 {X : Cx} : OpR X (compareOp .NotIn) rNotInS := op_notIn_sign
theorem w_notInS {c : Nat} {z : Str} {Q : VK} (q : Q (.bl (!decide (c ∈ z.cps.toList))) H) : rNotInS (.str ⟨#[c]⟩) (.str z) H Q := ⟨c, z, rfl, rfl, q⟩
end
end Ts
namespace Ts
open PySem L2 Mix
section
variable {K : PySem.W.Frag} {σ : L2.St} {H H1 : Hp} {Q : VK} {t : TE} {tt : TT} {te : TE} {g : TG} {vs : List Nat} {D : Addr}
theorem w_noPart {R : Option Int → Hp → Prop} (q : R none H) : tNoPart σ H R := q
theorem w_part {R : Option Int → Hp → Prop} (q : t σ H fun x H1 => ∃ i, x = .int i ∧ R (some i) H1) : tPart t σ H R := q
theorem w_pi {i : Int} {P : Int → Prop} (q : P i) : ∃ k, V.int i = .int k ∧ P k := ⟨i, rfl, q⟩
/-! comprehensions -/
def LC (g : TG) (tt : TT) (te : TE) (vs : List Nat) (σ : L2.St) (Q : VK) (J : It) (D : Addr) (H0 : Hp) : Prop := ∃ W : Nat → Nat → Hp → Prop, (∃ m, W 0 m H0) ∧ ∀ i m H, W i m H →
  (J.stop i H ∧ Q (.ref D) H) ∨ (J.go i H ∧ ∃ Nx : Hp → Prop, (∀ H', Nx H' → ∃ m', m' < m ∧ W (i + 1) m' H') ∧ ∀ x H', J.yld i H x H' → g x (wipe σ vs) H' fun σ2 H2 => wipe σ2 vs = wipe σ vs ∧ tt σ2 H2 fun b H3 =>
    if b = true then te σ2 H3 fun y H4 => ∃ acc, H4 D = some (.lst acc) ∧ acc.length < sizeLine ∧ Nx (upd H4 D (.lst (acc ++ [y]))) else Nx H3)
theorem w_lc {wi : TI} (q : wi σ H fun J H1 => ∀ D, H1 D = none → LC g tt te vs σ Q J D (upd H1 D (.lst []))) : tLc wi g tt te vs σ H Q := q
theorem lcb_range {n : Nat} (Pv : Nat → Hp → Prop) (h0 : Pv 0 (upd H1 D (.lst [])))
    (hs : ∀ (i : Nat) H, i < n → Pv i H → g (.int (i : Int)) (wipe σ vs) H fun σ2 H2 => wipe σ2 vs = wipe σ vs ∧ tt σ2 H2 fun b H3 =>
      if b = true then te σ2 H3 fun y H4 => ∃ acc, H4 D = some (.lst acc) ∧ acc.length < sizeLine ∧ Pv (i + 1) (upd H4 D (.lst (acc ++ [y]))) else Pv (i + 1) H3) (hd : ∀ H, Pv n H → Q (.ref D) H) : LC g tt te vs σ Q (Itr 0 n) D (upd H1 D (.lst [])) :=
  lc_range (lo := 0) (n := n) (Qd := fun H => Q (.ref D) H) Pv h0 (fun i H hi p => by rw [Int.zero_add]; exact hs i H hi p) hd
theorem lcb_list {a : Addr} {xs : List V} (Pv : Nat → Hp → Prop) (h0 : Pv 0 (upd H1 D (.lst []))) (hl : ∀ i H, i ≤ xs.length → Pv i H → SqL K H a xs)
    (hs : ∀ i x H, xs[i]? = some x → Pv i H → g x (wipe σ vs) H fun σ2 H2 => wipe σ2 vs = wipe σ vs ∧ tt σ2 H2 fun b H3 =>
      if b = true then te σ2 H3 fun y H4 => ∃ acc, H4 D = some (.lst acc) ∧ acc.length < sizeLine ∧ Pv (i + 1) (upd H4 D (.lst (acc ++ [y]))) else Pv (i + 1) H3) (hd : ∀ H, Pv xs.length H → Q (.ref D) H) : LC g tt te vs σ Q (Itl K a) D (upd H1 D (.lst [])) :=
  lc_list (K := K) (a := a) (xs := xs) (Qd := fun H => Q (.ref D) H) Pv h0 hl hs hd
theorem w_lstRg2 {ta tb : TE} (q : ta σ H fun x H1 => tb σ H1 fun y H2 => ∃ i j, x = .int i ∧ y = .int j ∧ RgOk i j ∧ ∀ p, H2 p = none → Q (.ref p) (upd H2 p (.lst (rgV i j)))) : tLstRg (tRg2 ta tb) σ H Q := q
theorem w_lstRg1 {ta : TE} (q : ta σ H fun x H1 => ∃ n, x = .int n ∧ RgOk 0 n ∧ ∀ p, H1 p = none → Q (.ref p) (upd H1 p (.lst (rgV 0 n)))) : tLstRg (tRg1 ta) σ H Q := q
theorem w_yes {QT : Bool → Hp → Prop} (q : QT true H) : tYes σ H QT := q
end
end Ts

local macro_rules | `(tactic| walk_at "s1") => `(tactic| ((with_reducible refine Ts.w_mul ?_ ?_); (first | exact Or.inl ⟨by omega, by omega⟩ | exact Or.inr ⟨by omega, by omega⟩)))
local macro_rules | `(tactic| walk_at "s1") => `(tactic| ((with_reducible refine Ts.w_div ?_ ?_ ?_); (first | decide | omega); (first | decide | omega)))
local macro_rules | `(tactic| walk_at "s1") => `(tactic| ((with_reducible refine Ts.w_mod ?_ ?_); (first | decide | omega)))
local macro_rules | `(tactic| walk_at "s1") => `(tactic| ((with_reducible refine Ts.w_pow ?_ ?_); (exact ⟨by decide, by decide, by decide⟩)))
local macro_rules | `(tactic| walk_at "s1") => `(tactic| first | with_reducible refine Ts.w_seq ?_ | with_reducible refine Ts.w_asg ?_ | with_reducible refine Ts.w_ret ?_ | with_reducible refine Ts.w_op ?_ | with_reducible refine Ts.w_c ?_ | with_reducible refine Ts.w_if ?_ | with_reducible refine Ts.w_v0 ?_ | with_reducible refine Ts.w_v1 ?_ | with_reducible refine Ts.w_v2 ?_ | with_reducible refine Ts.w_v3 ?_ | with_reducible refine Ts.w_v4 ?_ | with_reducible refine Ts.w_v5 ?_ | with_reducible refine Ts.w_v6 ?_ | with_reducible refine Ts.w_v7 ?_ | with_reducible refine Ts.w_v8 ?_ | with_reducible refine Ts.w_v9 ?_ | with_reducible refine Ts.w_v10 ?_ | with_reducible refine Ts.w_v11 ?_ | with_reducible refine Ts.w_v12 ?_ | with_reducible refine Ts.w_v13 ?_ | with_reducible refine Ts.w_v14 ?_ | with_reducible refine Ts.w_v15 ?_ | with_reducible refine Ts.w_v16 ?_ | with_reducible refine Ts.w_v17 ?_ | with_reducible refine Ts.w_v18 ?_ | with_reducible refine Ts.w_v19 ?_ | with_reducible refine Ts.w_n0 ?_ | with_reducible refine Ts.w_n1 ?_ | with_reducible refine Ts.w_n2 ?_ | with_reducible refine Ts.w_n3 ?_ | with_reducible refine Ts.w_n4 ?_ | with_reducible refine Ts.w_n5 ?_ | with_reducible refine Ts.w_n6 ?_ | with_reducible refine Ts.w_n7 ?_ | with_reducible refine Ts.w_n8 ?_ | with_reducible refine Ts.w_n9 ?_ | with_reducible refine Ts.w_n10 ?_ | with_reducible refine Ts.w_n11 ?_ | with_reducible refine Ts.w_n12 ?_ | with_reducible refine Ts.w_n13 ?_ | with_reducible refine Ts.w_n14 ?_ | with_reducible refine Ts.w_n15 ?_ | with_reducible refine Ts.w_n16 ?_ | with_reducible refine Ts.w_n17 ?_ | with_reducible refine Ts.w_n18 ?_ | with_reducible refine Ts.w_n19 ?_ | with_reducible refine Ts.w_test ?_ | with_reducible refine Ts.w_call ?_ | with_reducible refine Ts.w_cons ?_ | with_reducible refine Ts.w_nil ?_ | with_reducible refine Ts.w_drop ?_ | with_reducible refine Ts.w_for ?_ | with_reducible refine Ts.w_next ?_ | with_reducible refine Ts.w_break ?_ | with_reducible refine Ts.w_cont ?_ | with_reducible refine Ts.w_retN ?_ | with_reducible refine Ts.w_un ?_ | with_reducible refine Ts.w_tB ?_ | with_reducible refine Ts.w_bl ?_ | with_reducible refine Ts.w_chain ?_ | with_reducible refine Ts.w_and ?_ | with_reducible refine Ts.w_or ?_ | with_reducible refine Ts.w_not ?_ | with_reducible refine Ts.w_andV ?_ | with_reducible refine Ts.w_orV ?_ | with_reducible refine Ts.w_notV ?_ | with_reducible refine Ts.w_tup ?_ | with_reducible refine Ts.w_lst ?_ | with_reducible refine Ts.w_CB ?_ | with_reducible refine Ts.w_meth ?_ | with_reducible refine Ts.w_make ?_ | with_reducible refine Ts.w_callS ?_ | with_reducible refine Ts.w_fld ?_ | with_reducible refine Ts.w_bm0 ?_ | with_reducible refine Ts.w_bm ?_ | with_reducible refine Ts.w_sl ?_ | with_reducible refine Ts.w_sfld ?_ | with_reducible refine Ts.w_gSub ?_ | with_reducible refine Ts.w_gCons ?_ | with_reducible refine Ts.w_gNil ?_ | with_reducible refine Ts.w_iR1 ?_ | with_reducible refine Ts.w_iR2 ?_ | with_reducible refine Ts.w_iR3 ?_ | with_reducible refine Ts.w_iL ?_ | with_reducible refine Ts.w_iStr ?_ | with_reducible refine Ts.w_notInS ?_ | with_reducible refine Ts.w_mnew ?_ | with_reducible refine Ts.w_mnotin ?_ | with_reducible refine Ts.w_mget ?_ | with_reducible refine Ts.w_mput ?_ | with_reducible refine Ts.w_methS ?_ | with_reducible refine Ts.w_raise ?_ | with_reducible refine Ts.w_noPart ?_ | with_reducible refine Ts.w_part ?_ | with_reducible refine Ts.w_pi ?_ | with_reducible refine Ts.w_lc ?_ | with_reducible refine Ts.w_yes ?_ | with_reducible refine Ts.w_lstRg2 ?_ | with_reducible refine Ts.w_lstRg1 ?_ | with_reducible refine Ts.w_addI ?_ | with_reducible refine Ts.w_sub ?_ | with_reducible refine Ts.w_lt ?_ | with_reducible refine Ts.w_le ?_ | with_reducible refine Ts.w_gt ?_ | with_reducible refine Ts.w_ge ?_ | with_reducible refine Ts.w_eqI ?_ | with_reducible refine Ts.w_neI ?_ | with_reducible refine Ts.w_eqS ?_ | with_reducible refine Ts.w_neS ?_ | with_reducible refine Ts.w_isN ?_ | with_reducible refine Ts.w_notN ?_ | with_reducible refine Ts.w_max ?_ | with_reducible refine Ts.w_min ?_ | with_reducible refine Ts.w_intI ?_ | with_reducible refine Ts.w_intB ?_ | with_reducible refine Ts.w_neg ?_)
local macro_rules | `(tactic| walk_at "s") => `(tactic| repeat (walk_at "s1"))

namespace Ne
open PySem PySem.Spec PyProof.Rows PySem.SeqAt
section
variable {M : Model} {prog : Program} {w : World} {A : Around} {E : Value → Shared → Prop} {s : Shared} {K : PySem.W.Frag} {x y C : Addr} {ox oy : Obj} {od oe : Option Obj}
/-- object's own comparisons, of an instance of C -/
structure Plain (K : PySem.W.Frag) (C : Addr) : Prop where
  m : PySem.W.mroIn K C (.type "object") = some true
  e : PySem.W.findIn K (.ref C) "__eq__" = some (some (.builtin "object.__eq__"))
  n : PySem.W.findIn K (.ref C) "__ne__" = some (some (.builtin "object.__ne__"))
theorem bound {name : Str} {id : String} {args : List Value} {Q : Option Value → Shared → Prop} (X : K.In s.heap) (I : PySem.W.InstAt s.heap x ox C od) (hs : PySem.W.findIn K (.ref C) name = some (some (.builtin id))) (S : Slot "object" name id)
    (h : wpAny M A (call (.builtin id) (.ref x :: args)) (fun v => Q (some v)) E s) : wpAny M A (callSpecialIfBound? (.ref x) name args) Q E s := by
  simp only [callSpecialIfBound?, bindSpecialIfBound?]
  refine wpAny_holding (wpAny_bind (wpAny_bind (wpAny_bind (I.type.here ((PySem.W.looks_findIn X hs).here ?_)))))
  refine wpAny_bind (wpAny_askSetting (wpAny_ite ?_))
  have fin : wpAny M A (call (.builtin id) ([.ref x] ++ args) >>= fun v => pure (some v)) Q E s := wpAny_bind (wpAny_mono h (fun v s' h' => wpAny_pure h') fun _ _ h' => h')
  split
  · exact wpAny_bind (wpAny_of_eq (S.bind _) (wpAny_pure (by exact fin)))
  · exact wpAny_tryCatch (wpAny_bind (wpAny_of_eq (S.bind _) (wpAny_pure (by exact fin))))
theorem noTup (I : PySem.W.InstAt s.heap x ox C od) : ox.cls ≠ .type "tuple" := by
  rw [I.cls]
  intro e
  cases e
theorem eq_same {Q : Option Value → Shared → Prop} (p : Plain K C) (X : K.In s.heap) (I : PySem.W.InstAt s.heap x ox C od) (hq : Q (some (.bool true)) s) :
    wpAny (model prog w) A (callSpecialIfBound? (.ref x) "__eq__" [.ref x]) Q E s :=
  bound X I p.e F.cmp_object.eq (wpAny_call (codeAny_call_builtin F.cmp_object.eq.plain F.cmpEntry_eq (PySem.W.check_slot F.cmpKind_eq F.cmpSplit_eq (I.type.andThen (PySem.W.looks_mroIn X p.m)) (F.cmpArgs_eq _ _) (objEq_entry_same hq))))
theorem eq_other {Q : Option Value → Shared → Prop} (p : Plain K C) (X : K.In s.heap) (I : PySem.W.InstAt s.heap x ox C od) (hy : s.heap.get? y = some oy) (ne : x ≠ y) (hq : Q (some .notImplemented) s) :
    wpAny (model prog w) A (callSpecialIfBound? (.ref x) "__eq__" [.ref y]) Q E s :=
  bound X I p.e F.cmp_object.eq (wpAny_call (codeAny_call_builtin F.cmp_object.eq.plain F.cmpEntry_eq (PySem.W.check_slot F.cmpKind_eq F.cmpSplit_eq (I.type.andThen (PySem.W.looks_mroIn X p.m)) (F.cmpArgs_eq _ _) (objEq_entry_other ne I.at_ hy (noTup I) hq))))
theorem ne_same {Q : Option Value → Shared → Prop} (p : Plain K C) (X : K.In s.heap) (I : PySem.W.InstAt s.heap x ox C od) (hu : A.units + 1 < cLine) (hq : Q (some (.bool false)) s) :
    wpAny (model prog w) A (tryCompare (.ref x) "__ne__" (.ref x)) Q E s := by
  simp only [tryCompare]
  refine wpAny_bind (bound X I p.n F.cmp_object.ne (wpAny_call (codeAny_call_builtin F.cmp_object.ne.plain F.cmpEntry_ne (PySem.W.check_slot F.cmpKind_ne F.cmpSplit_ne (I.type.andThen (PySem.W.looks_mroIn X p.m)) (F.cmpArgs_ne _ _) ?_))))
  have hu1 : A.in1.units < cLine := hu
  unfold Builtin.«object.__ne__»
  repeat (first | with_reducible refine wpAny_cRoomFor hu1 ?_ | with_reducible refine eq_same p X I ?_ | wp_step)
  exact hq
theorem ne_other {Q : Option Value → Shared → Prop} (p : Plain K C) (X : K.In s.heap) (I : PySem.W.InstAt s.heap x ox C od) (hy : s.heap.get? y = some oy) (ne : x ≠ y) (hu : A.units + 1 < cLine) (hq : Q none s) :
    wpAny (model prog w) A (tryCompare (.ref x) "__ne__" (.ref y)) Q E s := by
  simp only [tryCompare]
  refine wpAny_bind (bound X I p.n F.cmp_object.ne (wpAny_call (codeAny_call_builtin F.cmp_object.ne.plain F.cmpEntry_ne (PySem.W.check_slot F.cmpKind_ne F.cmpSplit_ne (I.type.andThen (PySem.W.looks_mroIn X p.m)) (F.cmpArgs_ne _ _) ?_))))
  have hu1 : A.in1.units < cLine := hu
  unfold Builtin.«object.__ne__»
  repeat (first | with_reducible refine wpAny_cRoomFor hu1 ?_ | with_reducible refine eq_other p X I hy ne ?_ | wp_step)
  exact hq
theorem cmp_same {Q : Value → Shared → Prop} (p : Plain K C) (X : K.In s.heap) (I : PySem.W.InstAt s.heap x ox C od) (hu : A.units + 1 < cLine) (hq : Q (.bool false) s) :
    wpAny (model prog w) A (compareOp .NotEq (.ref x) (.ref x)) Q E s := by
  show wpAny _ A (richCompare .NotEq (.ref x) (.ref x)) Q E s
  have hu0 : A.units < cLine := Nat.lt_of_succ_lt hu
  simp only [richCompare, cmpInfo_NotEq, oneThing_ref]
  refine wpAny_holding (wpAny_bind (wpAny_cRoomFor hu0 ?_))
  refine wpAny_bind (I.type.here ?_)
  refine wpAny_bind (I.type.here ?_)
  rw [if_neg (by simp)]
  repeat (first | with_reducible refine ne_same p X I hu ?_ | wp_step)
  exact hq
theorem cmp_other {Q : Value → Shared → Prop} (p : Plain K C) (X : K.In s.heap) (I : PySem.W.InstAt s.heap x ox C od) (J : PySem.W.InstAt s.heap y oy C oe) (ne : x ≠ y) (hu : A.units + 1 < cLine) (hq : Q (.bool true) s) :
    wpAny (model prog w) A (compareOp .NotEq (.ref x) (.ref y)) Q E s := by
  show wpAny _ A (richCompare .NotEq (.ref x) (.ref y)) Q E s
  have hu0 : A.units < cLine := Nat.lt_of_succ_lt hu
  simp only [richCompare, cmpInfo_NotEq, oneThing_ref]
  refine wpAny_holding (wpAny_bind (wpAny_cRoomFor hu0 ?_))
  refine wpAny_bind (I.type.here ?_)
  refine wpAny_bind (J.type.here ?_)
  rw [if_neg (by simp)]
  repeat (first | with_reducible refine ne_other p X I J.at_ ne hu ?_ | with_reducible refine ne_other p X J I.at_ ne.symm hu ?_ | with_reducible refine wpAny_isSame_ref_other ne I.at_ J.at_ (noTup I) ?_ | wp_step)
  exact hq
end
end Ne
namespace Ts
open PySem L2
/-- two instances of one class that has object's own comparisons -/
def rNeIns (K : PySem.W.Frag) : R2 := fun x y H Q => ∃ a b C dx dy fs gs, x = .ref a ∧ y = .ref b ∧ H a = some (.ins C dx fs) ∧ H b = some (.ins C dy gs) ∧ Ne.Plain K C ∧ Q (.bl (!decide (a = b))) H
theorem op_neIns {X : Cx} (hu : X.A.units + 64 < cLine) : OpR X (compareOp .NotEq) (rNeIns X.K) := by
  intro pins s σ H x y v u Q I rx ry h
  obtain ⟨a, b, C, dx, dy, fs, gs, rfl, rfl, ha, hb, p, q⟩ := h
  cases rx
  cases ry
  obtain ⟨mA, O, _⟩ := ins_get I.hok ha
  obtain ⟨od, J, _⟩ := O.look
  have hu1 : X.A.units + 1 < cLine := by omega
  by_cases e : a = b
  · subst e
    refine Ne.cmp_same p I.kIn J hu1 ⟨.bl _, H, I, rfl, ?_⟩
    rw [decide_eq_true rfl] at q
    exact q
  · obtain ⟨mB, O2, _⟩ := ins_get I.hok hb
    obtain ⟨oe, J2, _⟩ := O2.look
    refine Ne.cmp_other p I.kIn J J2 e hu1 ⟨.bl _, H, I, rfl, ?_⟩
    rw [decide_eq_false e] at q
    exact q
end Ts

namespace Ts
open PySem L2
/-- a text times a whole number -/
def repS (z : Str) (k : Int) : Str := if k < 1 then Str.empty else if (k == 1 || z.length == 0) = true then z else ⟨(List.replicate k.toNat z.cps).foldl (· ++ ·) #[]⟩
def rMulS : R2 := fun x y H Q => ∃ z k, x = .str z ∧ y = .int k ∧ 0 ≤ k ∧ k ≤ 1000 ∧ z.length ≤ 1000 ∧ (repS z k).length ≤ sizeLine ∧ Q (.str (repS z k)) H
theorem op_mulS {X : Cx} : OpR X (binaryOp .Mult) rMulS := by
  intro pins s σ H x y v u Q I rx ry h
  obtain ⟨z, k, rfl, rfl, h0, h1, hz, hl, q⟩ := h
  obtain ⟨t, rfl⟩ := rx
  obtain ⟨t', rfl⟩ := ry
  have e1 : decide (k < -(2 ^ 63 : Int)) = false := decide_eq_false (by omega)
  have e2 : decide (k ≥ 2 ^ 63) = false := decide_eq_false (by omega)
  refine PySem.P.mul_str (by rw [e1, e2] <;> rfl) (fun n1 _ => ?_) (fun n1 _ => ?_) ?_
  · have a : (9223372036854775807 : Int) / 1000 ≤ 9223372036854775807 / k := by
      refine Int.le_ediv_of_mul_le (by omega) ?_
      have : (9223372036854775807 : Int) / 1000 = 9223372036854775 := by decide
      rw [this]
      have := Int.mul_le_mul_of_nonneg_left h1 (show (0 : Int) ≤ 9223372036854775 by decide)
      omega
    have b : (9223372036854775807 : Int) / 1000 = 9223372036854775 := by decide
    have c : ((2 : Int) ^ 63 - 1) = 9223372036854775807 := by decide
    rw [c]
    omega
  · have m : z.length * k.toNat ≤ 1000 * 1000 := Nat.mul_le_mul hz (by omega)
    have : ¬ z.length * k.toNat > sizeLine := by
      have : (1000 * 1000 : Nat) ≤ sizeLine := by decide
      omega
    exact decide_eq_false this
  · unfold repS at hl q
    split
    · rename_i c
      rw [if_pos c] at hl q
      exact ⟨hl, .str _, H, I.tok _, ⟨_, rfl⟩, q⟩
    · rename_i c
      rw [if_neg c] at hl q
      split
      · rename_i c2
        rw [if_pos c2] at hl q
        exact ⟨.str z, H, I, ⟨_, rfl⟩, q⟩
      · rename_i c2
        rw [if_neg c2] at hl q
        exact ⟨hl, .str _, H, I.tok _, ⟨_, rfl⟩, q⟩
theorem w_mulS {z : Str} {k : Int} {H : Hp} {Q : VK} (h0 : 0 ≤ k) (h1 : k ≤ 1000) (hz : z.length ≤ 1000) (hl : (repS z k).length ≤ sizeLine) (q : Q (.str (repS z k)) H) : rMulS (.str z) (.int k) H Q := ⟨z, k, rfl, rfl, h0, h1, hz, hl, q⟩
end Ts

namespace L2H
open PySem PySem.Spec PyProof.Rows L2
theorem RoomH.units {k : Nat} {A : Around} (r : RoomH k A) : A.units + 64 < cLine := by have := r.un; omega
end L2H
namespace Ts
open PySem PySem.Spec PyProof.Rows L2 L2H
/-! ### a def that is handed the caught error, within an except suite -/
structure FnE (P : Program) (w : World) (K : PySem.W.Frag) (mg : Str → Option Value) (base : Heap) (k : Nat) (f : Addr) (fd : FuncData) (ps : List Str) (sp : Value → Addr → Sp) : Prop where
  len : ∀ cls a vs H Q E, sp cls a vs H Q E → vs.length = ps.length
  run : ∀ (A : Around) (outer : List Env) (s : Shared) (H : Hp) (args : Args) (us : List Value) (vs : List V) (Q : VK) (E : XK) (p : Addr × Obj) (cls : Value), RoomH k A → Hot1 A p → PinOk outer H s p → L2N.Zn cls none p.2 → (∃ vs, p.2.data = .fields vs) → Env0 P w K mg base A outer s H →
    BindsTo s fd args (ps.zip us) → Vals vs us → sp cls p.1 vs H Q E → codeAny (model P w) A (.call (.ref f) args) (CR (L2N.CX P w) outer P w H s Q E) s
structure FnEG (P : Program) (w : World) (K : PySem.W.Frag) (mg : Str → Option Value) (base : Heap) (k : Nat) (x : Str) (ps : List Str) (sp : Value → Addr → Sp) : Prop where
  ex : ∃ f fd, FnE P w K mg base k f fd ps sp ∧ mg x = some (.ref f) ∧ PySem.W.keepIn K (.ref f) = true ∧ Binds K fd ps []
section
variable {P : Program} {w : World} {K : PySem.W.Frag} {mg : Str → Option Value} {base : Heap} {x : Str} {st : Stmt} {ps N : List Str} {k : Nat} {sp : Value → Addr → Sp}
theorem FunG.okE (F : FunG K mg x st ps) (S : FnScope N ps (defScope st)) (len : ∀ cls a vs H Q E, sp cls a vs H Q E → vs.length = ps.length)
    (hb : ∀ (f : Addr) (cdv : Value) (A : Around) (outer : List Env) (s : Shared) (H : Hp) (vs : List V) (Q : VK) (E : XK) (p : Addr × Obj) (cls : Value), RoomH k (A.deeper (envOfC x (defScope st) s.heap.objs.size f cdv)) → Hot1 A p → L2N.Zn cls none p.2 → (∃ vs, p.2.data = .fields vs) → sp cls p.1 vs H Q E →
      ∃ t, PSs (cxH (L2N.CX P w) P w K mg base N x (defScope st) f cdv A outer s H E p) (defBody st) t ∧ t ⟨fun _ H' => Q .non H', Q, fun _ _ => False, fun _ _ => False⟩ (start N vs) H) : FnEG P w K mg base (k + 1) x ps sp := by
  obtain ⟨f, fd, F, g, b⟩ := F.ex
  have kp := F.kp
  obtain ⟨oc, od, kV, doc, pm, an, cdv, ct, osl, rfl, lk, hcd⟩ := F.ex
  refine ⟨f, _, ⟨len, fun A outer s H args us vs Q E p cls hr hot hpin hz hf e0 hbd r hsp => ?_⟩, g, kp, b⟩
  have KX : K.In s.heap := e0.mod.kin.keeps fun b o e => (e0.bs b o e).1
  have lim : s.heap.NoLimit := e0.mod.nolimit.keeps fun b o e => (e0.bs b o e).1
  have hkind : ∀ y ∈ ps.zip us, (defScope st).names.lookup y.1 = some .local ∨ ((defScope st).names.lookup y.1 = some .cell ∧ ((cellsFrom (s.heap.objs.size + 1) (defScope st).names []).lookup y.1).isSome = true) := fun ⟨n, v⟩ hy => by
    rcases S.par n (List.of_mem_zip hy).1 with q | q
    · exact .inl q
    · exact .inr ⟨q, PySem.W.cellsFrom_some _ _ _ (.inl q)⟩
  refine codeAny_call_function hr.depth (KX _ _ lk) rfl S.co S.gen rfl (PySem.W.codeRec_of KX hcd) (hbd _ _ _ _ ?_)
  refine wpAny_newFunctionEnv_cells S.kind hkind fun env he s1 y => ?_
  subst he
  refine ⟨lim.keeps y.toInCall.keep, codeAny_func ?_⟩
  obtain ⟨t, ht, hq⟩ := hb f cdv A outer s H vs Q E p cls (hr.deeper _) hot hz hf hsp
  have I := inv_startH (CX := L2N.CX P w) (qual := x) (f := f) (cd := cdv) (A := A) (E := E) S hpin e0 (len _ _ _ _ _ _ hsp) r y
  refine wpAny_mono (ht.run [] s1 (L2.start N vs) H _ I hq) (fun fl s' hs => ?_) fun e s' hs => hs
  have fin : ∀ {σ' : L2.St} {H' : Hp} {v : V} {u : Value}, Inv (cxH (L2N.CX P w) P w K mg base N x (defScope st) f cdv A outer s H E p) [] σ' H' s' → RelV v u → Q v H' → CE outer P w H s Q u s' :=
    fun {σ' H' v u} J rv q => ⟨v, H', J.os, J.bare, J.base, J.hok, rv, q⟩
  cases fl with
  | ret u =>
    obtain ⟨v, σ', H', J, rv, q⟩ := hs
    exact fin J rv q
  | next =>
    obtain ⟨σ', H', J, q⟩ := hs
    exact fin (v := V.non) (u := Value.none) J rfl q
  | brk =>
    obtain ⟨_, _, _, q⟩ := hs
    exact False.elim q
  | cont =>
    obtain ⟨_, _, _, q⟩ := hs
    exact False.elim q
end
/-- the caught error is handed to a def -/
def tCallE (sp : Value → Addr → Sp) (cls : Value) (d : Option Addr) (a : Addr) (t : TA) : TE := fun σ H Q => t σ H fun vs H1 => d = none ∧ sp cls a vs H1 Q E0
section
variable {X : Cx} {k : Nat} {ps : List Str} {sp : Value → Addr → Sp} {x : Str} {q pos : Pos} {e : Expr} {es : List Expr} {t : TA} {a : Addr} {oe : Obj} {cls : Value} {d : Option Addr} {pn : List (Addr × Obj)}
theorem w_callE {σ : L2.St} {H : Hp} {Q : VK} (q : t σ H fun vs H1 => d = none ∧ sp cls a vs H1 Q E0) : tCallE sp cls d a t σ H Q := q
theorem pe_callE (G : FnEG X.prog X.w X.K X.mg X.base k x ps sp) (hr : Room k X.A) (hz : L2N.Zn cls d oe) (hf : ∃ vs, oe.data = .fields vs) (ha : PA (X.suite a ((a, oe) :: pn)) (e :: es) t) (hg : Gl X x := by rfl)
    (hdb : (x == ("__debug__" : Str)) = false := by decide) (he : starEach (e :: es) X.env = (false, eval e X.env) :: starEach es X.env := by rfl) (hpl : (backTo pos (starEach es X.env)).any (·.1) = false := by rfl) :
    PE (X.suite a ((a, oe) :: pn)) (.Call (.Name x q) (e :: es) [] pos) (tCallE sp cls d a t) := by
  obtain ⟨f, fd, F, hm, hk, hb⟩ := G.ex
  refine ⟨fun pins s σ H Q I h => ?_⟩
  refine wpAny_Call_Name_kw (ld_glob (X := X.suite a ((a, oe) :: pn)) I hg hm ?_ hdb)
  refine PySem.W.callWith_K (h₀ := X.base) I.ok.mod.kin hk (thn (ha.run pos pins s σ H _ I h) fun us s1 ⟨vs, H1, I1, r, hd, hsp⟩ => ⟨I1.kIn, ?_⟩) he hpl
  subst hd
  have hl : us.length = ps.length := by rw [← r.length]; exact F.len _ _ _ _ _ _ hsp
  have b := hb s1 us I1.kIn (by rw [List.append_nil]; exact hl)
  rw [List.append_nil] at b
  have hot : ∃ vs : Array Value, oe.data = .fields vs ∧ vs[2]? = some .none := by
    obtain ⟨vs, hv⟩ := hf
    exact ⟨vs, hv, hz.2.2 vs hv⟩
  have P1 := I1.pin (a, oe) (List.mem_append_left _ List.mem_cons_self)
  have hpin : PinOk (X.suite a ((a, oe) :: pn)).stack H1 s1 (a, oe) := ⟨P1.1, P1.2.1, fun hm => (List.mem_cons.mp (I1.stkSub a hm)).elim P1.2.2.1 P1.2.2.2.1, P1.2.2.2.2⟩
  refine wpAny_call (codeAny_mono (F.run (X.suite a ((a, oe) :: pn)).A (X.suite a ((a, oe) :: pn)).stack s1 H1 ⟨us, []⟩ us vs Q E0 (a, oe) cls ⟨hr.dp, hr.un⟩ ⟨rfl, hot⟩ hpin hz hf I1.env0 b r hsp) fun r s' hq => ?_)
  cases r with
  | error e => exact (passN (X := X.suite a ((a, oe) :: pn)) pins σ H1 s1 e s' I1 hq)
  | ok fl =>
    cases fl with
    | ret u => exact I1.after hq
    | next => exact False.elim hq
    | brk => exact False.elim hq
    | cont => exact False.elim hq
/-- isinstance of it -/
def rIsX (K : PySem.W.Frag) (cls : Value) (a : Addr) : List V → Hp → VK → Prop := fun xs H Q => ∃ D, cls = .ref D ∧ ExcC K D ∧ rIsE K D a xs H Q
theorem call_isX {p : Addr × Obj} (hm : p ∈ X.pn) (hz : L2N.Zn cls none p.2) (hf : ∃ vs, p.2.data = .fields vs) : CallR X (.builtin "isinstance") (rIsX X.K cls p.1) := by
  intro pins s σ H xs us Q I r h
  obtain ⟨D, rfl, C, c, cv, b, rfl, hcv, e, q⟩ := h
  cases r with
  | cons rx rr =>
    cases rr with
    | cons rt rr =>
      cases rr
      cases rx
      have ec := hcv _ rt
      subst ec
      obtain ⟨hget, _⟩ := I.pin p (List.mem_append.mpr (.inl hm))
      obtain ⟨vs, hv⟩ := hf
      obtain ⟨a, oc, od, oda, osl⟩ := p
      obtain ⟨h1, h2, _⟩ := hz
      dsimp only at h1 h2 hv
      subst h1 h2 hv
      have J : PySem.W.InstAt s.heap a _ D none := ⟨hget, rfl, rfl, trivial⟩
      exact PySem.W.kia_one (PySem.W.handS_kitx_exc C.hg C.hk C.hs C.hd C.ha C.hn C.ht C.hm) I.kIn J e (fun z => nomatch z) fun tk => ⟨.bl b, H, I.kept (t' := tk) fun _ _ z => z, rfl, q⟩
end
theorem kit_ref {K : PySem.W.Frag} {D C : Addr} {b : Bool} (hd : PySem.W.hasDictIn K C = true) (ht : PySem.W.typeIn K (.ref C) = some (.type "type")) (h : PySem.W.subIn K (.ref D) (.ref C) = some b) (hs : PySem.W.subIn K (.ref D) (.ref D) = some true) : PySem.W.kitOne K (.ref D) (.ref C) = some b := by
  obtain ⟨cd, hc, _⟩ := PySem.W.any_some hd
  unfold PySem.W.kitOne
  by_cases e : D = C
  · subst e
    rw [if_pos (by simp), ← hs, h]
  · rw [if_neg (by simpa using e)]
    unfold PySem.W.kitCls
    dsimp only
    rw [if_pos (by rw [hc, ht]; rfl)]
    exact h
theorem kit_ty {K : PySem.W.Frag} {D : Addr} {T : String} {b : Bool} (hm : PySem.W.kitMeta T = true) (h : PySem.W.subIn K (.ref D) (.type T) = some b) : PySem.W.kitOne K (.ref D) (.type T) = some b := by
  unfold PySem.W.kitOne
  rw [if_neg (by simp)]
  unfold PySem.W.kitCls
  dsimp only
  rw [if_pos hm]
  exact h
theorem units65 {k : Nat} {A : Around} (r : Room k A) : A.units + 65 < cLine := by have := r.un; omega
theorem isX {K : PySem.W.Frag} {D C a : Addr} {b : Bool} {H : Hp} {Q : VK} (x : ExcC K D) (i : PySem.W.kitOne K (.ref D) (.ref C) = some b) (q : Q (.bl b) H) : rIsX K (.ref D) a [.ref a, .ref C] H Q := ⟨D, rfl, x, .ref C, .ref C, b, rfl, fun _ hu => hu, i, q⟩
theorem isXT {K : PySem.W.Frag} {D a : Addr} {T : String} {b : Bool} {H : Hp} {Q : VK} (x : ExcC K D) (i : PySem.W.kitOne K (.ref D) (.type T) = some b) (q : Q (.bl b) H) : rIsX K (.ref D) a [.ref a, .ty T] H Q := ⟨D, rfl, x, .ty T, .type T, b, rfl, fun _ hu => hu, i, q⟩
end Ts

namespace Ts
open PySem PySem.Spec PyProof.Rows L2 L2H
/-! ### a list over range, where an exception is handled -/
section
variable {X : Cx}
theorem range_it0 {pins : List (Addr × Obj)} {σ : L2.St} {H : Hp} {s : Shared} {R : Nat → Hp → Prop} {E : Value → Shared → Prop} {j : Int} {t u v : Tok} {tk : Nat} (I : Inv X pins σ H s) (h1 : -(2 ^ 62) ≤ j) (h2 : j < 2 ^ 62) (q : R j.toNat H) :
    wpAny (model X.prog X.w) X.A (pyIter (.ref s.heap.objs.size)) (fun itv s2 => ∃ (it : Addr) (n : Nat) (H2 : Hp), itv = .ref it ∧ Inv X pins σ H2 s2 ∧ IsRangeIter s2.heap it (0 + ((0 : Nat) : Int) * 1) ((n : Int) - ((0 : Nat) : Int)) 1 ∧ FpOk X pins H2 it ∧ R n H2) E
      { s with heap := s.heap.push { cls := .type "range", data := .fields #[.int 0 t, .int j u, .int 1 v] }, toks := tk } := by
  refine wpAny_pyIter_range (IsRange.new ..) (small_one (by omega) (by omega) h1 h2) ?_
  have I1 : Inv X pins σ H { s with heap := s.heap.push { cls := .type "range", data := .fields #[.int 0 t, .int j u, .int 1 v] }, toks := tk } := I.kept fun b o e => Heap.get?_push_of_some _ e
  refine ⟨(s.heap.push { cls := .type "range", data := .fields #[.int 0 t, .int j u, .int 1 v] }).objs.size, j.toNat, H, rfl, I1.kept (t' := tk) fun b o e => Heap.get?_push_of_some _ e, ?_, I1.fpOk (Nat.le_refl _) (I1.hok.fresh (Nat.le_refl _)), q⟩
  have e1 : (0 : Int) + ((0 : Nat) : Int) * 1 = 0 := by simp
  have e2 : ((j.toNat : Nat) : Int) - ((0 : Nat) : Int) = Builtin.Range.rangeSize 0 j 1 := by rw [rangeSize_one]; split <;> omega
  rw [e1, e2]
  exact Heap.get?_push_size _ rfl
theorem lc_coreH {pins : List (Addr × Obj)} {s : Shared} {σ : L2.St} {H : Hp} {Q : VK} {elt tg a : Expr} {ifs : List Expr} {scope : Scope} {own : List (Str × Nat)} {pos pos' pr p1 : Pos} {ta : TA} {g : TG} {tt : TT} {te : TE} {use : Option (Value → Sem Unit)} {Qf : Value → Shared → Prop}
    (hc : HotC X) (hN : X.N.Nodup) (I : Inv X pins σ H s) (hgr : Gl X "range") (hmr : X.mg "range" = none) (ha : PA X [a] ta) (hsr : starEach [a] X.env = [(false, eval a X.env)]) (ok : BlkOk X.N X.env.scope scope own)
    (hg : ∀ (s : Shared) (H : Hp) (C : Addr) (cl : List (Str × Addr)) (fp : List Addr), PG (X.blk s H scope (compEnvC scope cl C X.env) fp) tg g) (ht : ∀ (s : Shared) (H : Hp) (C : Addr) (cl : List (Str × Addr)) (fp : List Addr), PTs (X.blk s H scope (compEnvC scope cl C X.env) fp) ifs tt)
    (he : ∀ (s : Shared) (H : Hp) (C : Addr) (cl : List (Str × Addr)) (fp : List Addr), PE (X.blk s H scope (compEnvC scope cl C X.env) fp) elt te) (hs : ∀ x, foldedSetIterable (.Call (.Name "range" pr) [a] [] p1) X.env x = pure x)
    (h : tLc (iRng1 ta) g tt te (own.map (·.2)) σ H Q)
    (hRR : ∀ D C s' m H', Inv X pins σ H' s' → Q (.ref D) H' → s'.heap.Ns C m → FpOk X pins H' C → compPost (model X.prog X.w) X.A X.xe use Qf (.ref D) C (.ok .next) s') :
    wpAny (model X.prog X.w) X.A (comprehension (.ListComp elt [⟨tg, .Call (.Name "range" pr) [a] [] p1, ifs, 0⟩] scope pos) scope X.env pos' (newList []) false (eval (.Call (.Name "range" pr) [a] [] p1) X.env) use) Qf X.xe s := by
  have hfree : ∀ y ∈ scope.names, y.2 = .free → ∃ c, X.env.cells.lookup y.1 = some c := fun y hy e => by
    rcases ok.free y hy e with k | k
    · exact I.ok.has _ (.inl k)
    · exact I.ok.has _ (.inr k)
  have hi : wpAny (model X.prog X.w) X.A (eval (.Call (.Name "range" pr) [a] [] p1) X.env) (fun v s1 => wpAny (model X.prog X.w) X.A (pyIter v) (fun itv s2 => ∃ (it : Addr) (n : Nat) (H2 : Hp), itv = .ref it ∧ Inv X pins σ H2 s2 ∧ IsRangeIter s2.heap it (0 + ((0 : Nat) : Int) * 1) ((n : Int) - ((0 : Nat) : Int)) 1 ∧ FpOk X pins H2 it ∧
      (∀ D, H2 D = none → ∃ W : Nat → Nat → Hp → Prop, (∃ m, W 0 m (upd H2 D (.lst []))) ∧ ∀ i m H, W i m H →
        ((Itr 0 n).stop i H ∧ Q (.ref D) H) ∨ ((Itr 0 n).go i H ∧ ∃ Nx : Hp → Prop, (∀ H', Nx H' → ∃ m', m' < m ∧ W (i + 1) m' H') ∧ ∀ x H', (Itr 0 n).yld i H x H' → g x (wipe σ (own.map (·.2))) H' fun σ2 H2 => wipe σ2 (own.map (·.2)) = wipe σ (own.map (·.2)) ∧ tt σ2 H2 fun b H3 =>
          if b = true then te σ2 H3 fun y H4 => ∃ acc, H4 D = some (.lst acc) ∧ acc.length < sizeLine ∧ Nx (upd H4 D (.lst (acc ++ [y]))) else Nx H3))) X.xe s1) X.xe s := by
    refine Call_ (ld_blt I hgr hmr boot_range (PyProof.Rows.callWith_type1 (thn (ha.run p1 pins s σ H _ I h) fun us s1 ⟨vs, H1, I1, r1, q1⟩ => ?_) hsr rfl))
    obtain ⟨j, e, q1, q2, q⟩ := q1
    subst e
    cases r1 with
    | cons r rr =>
      cases rr
      obtain ⟨t, rfl⟩ := r
      exact call_range_1 (range_it0 I1 q1 q2 q)
  refine wpAny_comprehension_free (use := use) rfl hs (closure_ok hfree) ok.kind (fun y hy e => by rw [ok.uniq y hy, e])
    (thn hi fun xv s1 hx => thn hx fun itv s2 h2 => ?_)
  obtain ⟨it, n, H2, e, I2, st2, f2, q⟩ := h2
  subst e
  have T := turn_rangeH (P := X.prog) (w := X.w) (K := X.K) (tg := tg) it 0 n
  refine wpAny_newObj_type (newEnv_comp ?_) (by show 0 ≤ sizeLine; decide)
  generalize hD : s2.heap.objs.size = D
  have hDn : H2 D = none := I2.hok.fresh (Nat.le_of_eq hD)
  obtain ⟨W, ⟨m0, w0⟩, turn⟩ := q D hDn
  generalize hs3 : ({ s2 with heap := s2.heap.push { cls := .type "list", data := .seq ([] : List Value).toArray } } : Shared) = s3
  have I3 : Inv X pins σ (upd H2 D (.lst [])) s3 := by
    rw [← hs3]
    refine I2.laid (t' := s2.toks) (fun b o e => Heap.get?_push_of_some _ e) (Nat.le_of_eq hD) ⟨Nat.zero_le _, [], 0, .nil, ?_⟩
    rw [← hD]
    exact Heap.get?_push_size _ rfl
  have h3 : s3.heap = s2.heap.push { cls := .type "list", data := .seq ([] : List Value).toArray } := by rw [← hs3]
  have sz : ∀ b ∈ [it], b < s2.heap.objs.size := fun b hb => by
    obtain ⟨o, e, _⟩ := T.obj 0 _ st2 b hb
    exact Heap.lt_size e
  have f2' : ∀ b ∈ [it], FpOk X pins H2 b := fun b hb => by rw [List.mem_singleton.mp hb]; exact f2
  have f3 : ∀ b ∈ [it], FpOk X pins (upd H2 D (.lst [])) b ∧ b < s3.heap.objs.size := fun b hb => by
    have hlt := sz b hb
    refine ⟨⟨?_, (f2' b hb).2⟩, by rw [h3, Heap.size_push]; exact Nat.lt_succ_of_lt hlt⟩
    rw [upd_ne (by rw [← hD]; exact Nat.ne_of_lt hlt)]
    exact (f2' b hb).1
  have st3 : IsRangeIter s3.heap it (0 + ((0 : Nat) : Int) * 1) ((n : Int) - ((0 : Nat) : Int)) 1 := T.keep 0 _ _ st2 fun b _ o e => by rw [h3]; exact Heap.get?_push_of_some _ e
  have I4 := block_start I3 ok hN f3
  have pg := hg s3 (upd H2 D (.lst [])) s3.heap.objs.size (cellsFrom (s3.heap.objs.size + 1) scope.names (cloFrom X.env.cells scope.names [])) [it]
  have pt := ht s3 (upd H2 D (.lst [])) s3.heap.objs.size (cellsFrom (s3.heap.objs.size + 1) scope.names (cloFrom X.env.cells scope.names [])) [it]
  have pe := he s3 (upd H2 D (.lst [])) s3.heap.objs.size (cellsFrom (s3.heap.objs.size + 1) scope.names (cloFrom X.env.cells scope.names [])) [it]
  show codeAny _ _ (.compStart (.ListComp elt [⟨tg, .Call (.Name "range" pr) [a] [] p1, ifs, 0⟩] scope pos) 0 (.ref it) (.ref D) (compEnvC scope (cellsFrom (s3.heap.objs.size + 1) scope.names (cloFrom X.env.cells scope.names [])) s3.heap.objs.size X.env)) (compPost (model X.prog X.w) X.A X.xe use Qf (.ref D) s3.heap.objs.size) { s3 with heap := pushCells (s3.heap.push { cls := .type "dict", data := .dict #[] }) scope.names }
  have nfp : ∀ b ∈ [it], (upd H2 D (.lst [])) b = none := fun b hb => (f3 b hb).1.1
  generalize hce : compEnvC scope (cellsFrom (s3.heap.objs.size + 1) scope.names (cloFrom X.env.cells scope.names [])) s3.heap.objs.size X.env = ce at I4 pg pt pe ⊢
  have cL : ce.locals = s3.heap.objs.size := by subst hce; rfl
  generalize hH3 : upd H2 D (.lst []) = H3 at I3 I4 pg pt pe w0 nfp f3
  generalize hs4 : ({ s3 with heap := pushCells (s3.heap.push { cls := .type "dict", data := .dict #[] }) scope.names } : Shared) = s4 at I4 ⊢
  have st4 : IsRangeIter s4.heap it (0 + ((0 : Nat) : Int) * 1) ((n : Int) - ((0 : Nat) : Int)) 1 := T.keep 0 _ _ st3 fun b _ o e => by rw [← hs4]; exact pushCells_keeps _ _ _ _ (Heap.get?_push_of_some _ e)
  have stat : ∀ {σ' : L2.St} {H' : Hp} {s' : Shared}, Inv (X.blk s3 H3 scope ce [it]) [] σ' H' s' → (∀ b ∈ [it], H' b = none) → ∀ b ∈ [it], FpOk (X.blk s3 H3 scope ce [it]) [] H' b := fun {σ' H' s'} I' hn b hb =>
    ⟨hn b hb, (I'.ok.exf b hb).1, I'.ok.exfs b hb, .inl hb, fun x c e => (I'.ok.exf b hb).2 x c e, fun p hp => absurd (show p ∈ ([] : List (Addr × Obj)) ++ [] from hp) (by simp)⟩
  have loop : codeAny (model X.prog X.w) X.A (.compLoop (.ListComp elt [⟨tg, .Call (.Name "range" pr) [a] [] p1, ifs, 0⟩] scope pos) 0 (.ref it) (.ref D) ce) (compPost (model X.prog X.w) X.A X.xe use Qf (.ref D) s3.heap.objs.size) s4 := by
    refine compLoop_any (fun m s' => ∃ i H', Inv (X.blk s3 H3 scope ce [it]) [] (wipe σ (own.map (·.2))) H' s' ∧ IsRangeIter s'.heap it (0 + ((i : Nat) : Int) * 1) ((n : Int) - ((i : Nat) : Int)) 1 ∧ (∀ b ∈ [it], H' b = none) ∧ W i m H') ?_ m0 ⟨0, H3, I4, st4, nfp, w0⟩
    rintro m s5 ⟨i, H5, I5, st5, n5, w5⟩
    rcases turn i m H5 w5 with ⟨stop, qq⟩ | ⟨go, Nx, hNx, step⟩
    · -- back in the def's context
      have I50 : Inv X pins σ H5 s5 := I3.call' (ch := [it]) I5.os I5.base I5.hok I5.bare fun b hb => ⟨(f3 b hb).1.2.2.2.1, (f3 b hb).1.2.1, (f3 b hb).1.2.2.2.2.1, (f3 b hb).1.2.2.2.2.2⟩
      obtain ⟨x1, hot⟩ := hc.at I50
      obtain ⟨g0, g1, g2, g3, g4, g5⟩ := stat I5 n5 it (by simp)
      have hstop : n ≤ i := stop
      refine HotX.pyNext_range_end_hot hot st5 (by omega) fun h' eb => ?_
      have I6 : Inv (X.blk s3 H3 scope ce [it]) [] (wipe σ (own.map (·.2))) H5 { s5 with heap := h' } := I5.turned (t' := s5.toks) (fun b o _ e => eb b o e) g0 g1 g3 g4 g5
      have I7 : Inv X pins σ H5 { s5 with heap := h' } := I3.call' (ch := [it]) I6.os I6.base I6.hok I6.bare fun b hb => ⟨(f3 b hb).1.2.2.2.1, (f3 b hb).1.2.1, (f3 b hb).1.2.2.2.2.1, (f3 b hb).1.2.2.2.2.2⟩
      have nC : H5 s3.heap.objs.size = none := by
        have z : H5 ce.locals = none := I6.free
        rw [cL] at z
        exact z
      obtain ⟨m', hn, _⟩ := I6.loc
      have hn : ({ s5 with heap := h' } : Shared).heap.Ns ce.locals m' := hn
      rw [cL] at hn
      exact hRR D s3.heap.objs.size { s5 with heap := h' } m' H5 I7 qq hn (I3.fpOk (Nat.le_refl _) nC)
    · have hgo : i < n := go
      obtain ⟨g0, g1, g2, g3, g4, g5⟩ := stat I5 n5 it (by simp)
      refine wpAny_pyNext_range_item st5 (by omega) fun h' st' sb => ?_
      have st7 : IsRangeIter h' it (0 + ((i + 1 : Nat) : Int) * 1) ((n : Int) - ((i + 1 : Nat) : Int)) 1 := by
        have e1 : (0 : Int) + ((i : Nat) : Int) * 1 + 1 = 0 + ((i + 1 : Nat) : Int) * 1 := by omega
        have e2 : (n : Int) - ((i : Nat) : Int) - 1 = (n : Int) - ((i + 1 : Nat) : Int) := by omega
        rw [← e1, ← e2]
        exact st'
      have I7 : Inv (X.blk s3 H3 scope ce [it]) [] (wipe σ (own.map (·.2))) H5 { s5 with heap := h', toks := s5.toks + 1 } := I5.turned (fun b o hb e => (sb.2 b hb).trans e) g0 g1 g3 g4 g5
      refine thnF (go_of (s := { s5 with heap := h', toks := s5.toks + 1 }) (n := "range_iterator") (Q := fun _ s7 => s7 = { s5 with heap := h', toks := s5.toks + 1 }) st7 rfl rfl (by decide) rfl) fun _ s7 e7 => ?_
      subst e7
      have I7' := I7.pinned (stat I7 n5) (T.obj (i + 1) _ st7)
      have r7 : RelV (.int (0 + (i : Nat))) (Value.int (0 + ((i : Nat) : Int) * 1) s5.toks) := ⟨s5.toks, by rw [Int.mul_one]⟩
      refine thnF (pg.run _ _ _ H5 _ _ _ I7' r7 (step _ H5 ⟨rfl, rfl⟩)) fun _ s8 ⟨σ8, H8, I8, hw8, q8⟩ => ?_
      refine thnF (pt.run _ s8 σ8 H8 _ I8 q8) fun b s9 ⟨H9, I9, q9⟩ => ?_
      have fin : ∀ {s' : Shared} {H' : Hp}, Inv (X.blk s3 H3 scope ce [it]) ([] ++ pinsAt [it] h') σ8 H' s' → Nx H' → ∃ m', m' < m ∧ ∃ i H', Inv (X.blk s3 H3 scope ce [it]) [] (wipe σ (own.map (·.2))) H' s' ∧ IsRangeIter s'.heap it (0 + ((i : Nat) : Int) * 1) ((n : Int) - ((i : Nat) : Int)) 1 ∧ (∀ b ∈ [it], H' b = none) ∧ W i m' H' := fun {s' H'} I' nx => by
        obtain ⟨m', hm, w'⟩ := hNx H' nx
        have pin' : ∀ b ∈ [it], ∀ o, h'.get? b = some o → s'.heap.get? b = some o ∧ H' b = none := fun b hb o e =>
          let z := I'.pin (b, o) (List.mem_append_right _ (List.mem_append_right _ (mem_pinsAt hb e)))
          ⟨z.1, z.2.1⟩
        have hl : (wipe σ (own.map (·.2))).length = σ8.length := by rw [← hw8, wipe_length]
        refine ⟨m', hm, i + 1, H', (I'.unpinned (pins := [])).weak hl (fun j v e => ?_), T.keep (i + 1) _ _ st7 fun b hb o e => (pin' b hb o e).1, fun b hb => ?_, w'⟩
        · rw [← hw8] at e
          exact (wipe_some e).1
        · obtain ⟨o, e, _⟩ := T.obj (i + 1) _ st7 b hb
          exact (pin' b hb o e).2
      cases b with
      | false =>
        simp only [Bool.false_eq_true, if_false] at q9 ⊢
        exact fin I9 q9
      | true =>
        simp only [if_true] at q9 ⊢
        refine thnF (pe.run _ s9 σ8 H9 _ I9 q9) fun z s10 ⟨yv, H10, I10, r10, acc, hD10, hz10, nx⟩ => ?_
        exact app_ok (X := X.blk s3 H3 scope ce [it]) I10 hD10 hz10 r10 fun s11 I11 => fin I11 nx
  exact codeAny_compStart_list loop (T.self X.A 0 _ _ _ st4 loop)
/-- as a value -/
theorem pe_lcH {elt tg a : Expr} {ifs : List Expr} {scope : Scope} {own : List (Str × Nat)} {pos pr p1 : Pos} {ta : TA} {g : TG} {tt : TT} {te : TE} (hc : HotC X) (hN : X.N.Nodup) (hgr : Gl X "range") (hmr : X.mg "range" = none) (ha : PA X [a] ta) (ok : BlkOk X.N X.env.scope scope own)
    (hg : ∀ (s : Shared) (H : Hp) (C : Addr) (cl : List (Str × Addr)) (fp : List Addr), PG (X.blk s H scope (compEnvC scope cl C X.env) fp) tg g) (ht : ∀ (s : Shared) (H : Hp) (C : Addr) (cl : List (Str × Addr)) (fp : List Addr), PTs (X.blk s H scope (compEnvC scope cl C X.env) fp) ifs tt)
    (he : ∀ (s : Shared) (H : Hp) (C : Addr) (cl : List (Str × Addr)) (fp : List Addr), PE (X.blk s H scope (compEnvC scope cl C X.env) fp) elt te) (hsr : starEach [a] X.env = [(false, eval a X.env)] := by rfl) (hs : ∀ x, foldedSetIterable (.Call (.Name "range" pr) [a] [] p1) X.env x = pure x := by intro _; rfl) :
    PE X (.ListComp elt [⟨tg, .Call (.Name "range" pr) [a] [] p1, ifs, 0⟩] scope pos) (tLc (iRng1 ta) g tt te (own.map (·.2))) := by
  refine ⟨fun pins s σ H Q I h => ?_⟩
  rw [eval_ListComp]
  refine lc_coreH hc hN I hgr hmr ha hsr ok hg ht he hs h fun D C s' m H' I' q hn f => ⟨m, hn, fun h'' sb => ?_⟩
  obtain ⟨f0, f1, f2, f3, f4, f5⟩ := f
  exact ⟨.ref D, H', I'.turned (t' := s'.toks) (fun b o hb e => (sb.2 b hb).trans e) f0 f1 f3 f4 f5, rfl, q⟩
end
/-! an object of an own class made within a try's body -/
def tMakeS (C : Addr) (sp : Sp) (ES : L2.St → XK) (t : TA) : TE := fun σ H Q => t σ H fun vs H1 => ∀ x dx, H1 x = none → H1 dx = none → dx ≠ x → sp (.ref x :: vs) (upd (upd H1 dx (.own x)) x (.ins C dx [])) (fun v H2 => v = .non ∧ Q (.ref x) H2) (ES σ)
theorem w_makeS {C : Addr} {sp : Sp} {ES : L2.St → XK} {t : TA} {σ : L2.St} {H : Hp} {Q : VK} (q : t σ H fun vs H1 => ∀ x dx, H1 x = none → H1 dx = none → dx ≠ x → sp (.ref x :: vs) (upd (upd H1 dx (.own x)) x (.ins C dx [])) (fun v H2 => v = .non ∧ Q (.ref x) H2) (ES σ)) : tMakeS C sp ES t σ H Q := q
section
variable {X : Cx} {k : Nat} {C : Addr} {ps : List Str} {sp : Sp} {ES : L2.St → XK} {x : Str} {p pos : Pos} {e : Expr} {es : List Expr} {t : TA}
theorem pe_makeGS (G : MkG X.prog X.w X.K X.mg X.base k C x ps sp) (hr : Room (k + 1) X.A) (hx : ∀ σ, PassesAt (L2N.CX X.prog X.w) X σ (ES σ)) (ha : PA X (e :: es) t) (hg : Gl X x := by rfl)
    (hdb : (x == ("__debug__" : Str)) = false := by decide) (he : starEach (e :: es) X.env = (false, eval e X.env) :: starEach es X.env := by rfl) (hpl : (backTo pos (starEach es X.env)).any (·.1) = false := by rfl) :
    PE X (.Call (.Name x p) (e :: es) [] pos) (tMakeS C sp ES t) := by
  obtain ⟨f, fd, F, M, hm, hb⟩ := G.ex
  refine ⟨fun pins s σ H Q I h => ?_⟩
  refine wpAny_Call_Name_kw (ld_glob I hg hm ?_ hdb)
  refine PySem.W.callWith_K (h₀ := X.base) I.ok.mod.kin M.kp (thn (ha.run pos pins s σ H _ I h) fun us s1 ⟨vs, H1, I1, r, q⟩ => ⟨I1.kIn, ?_⟩) he hpl
  have hq := q (s1.heap.objs.size + 1) s1.heap.objs.size (I1.hok.fresh (Nat.le_succ _)) (I1.hok.fresh (Nat.le_refl _)) (Nat.ne_of_lt (Nat.lt_succ_self _))
  have I2 := Inv.made (C := C) I1
  have r2 : Vals (V.ref (s1.heap.objs.size + 1) :: vs) (Value.ref (s1.heap.objs.size + 1) :: us) := .cons rfl r
  have hl : (Value.ref (s1.heap.objs.size + 1) :: us).length = ps.length := by
    have e := r2.length
    rw [F.len _ _ _ _ hq] at e
    exact e.symm
  have b := hb _ (Value.ref (s1.heap.objs.size + 1) :: us) I2.kIn (by rw [List.append_nil]; exact hl)
  rw [List.append_nil] at b
  refine wpAny_call (make_map (f := f) I1.kIn M.makes M.init (beq_iff_eq.mp M.fn) (codeAny_mono (F.run _ X.stack _ _ ⟨Value.ref (s1.heap.objs.size + 1) :: us, []⟩ (Value.ref (s1.heap.objs.size + 1) :: us) _ _ (ES σ) (hr.make C us [])
    (I2.env0.make C us []) b r2 hq) fun r s' hq' => ?_))
  cases r with
  | error e => exact hx σ pins _ _ e s' I2 hq'
  | ok fl =>
    cases fl with
    | ret u =>
      obtain ⟨v, H', I3, rv, ev, q3⟩ := I2.after hq'
      subst ev
      exact ⟨rv, ⟨V.ref (s1.heap.objs.size + 1), H', I3, rfl, q3⟩⟩
    | next => exact False.elim hq'
    | brk => exact False.elim hq'
    | cont => exact False.elim hq'
end
end Ts

namespace Tw
open PySem L2 Ts
/-- what the text's classes are -/
structure TxK (K : PySem.W.Frag) (c : Cs) : Prop where
  cLedger : Cls K c.Ledger
  n_Ledger_given : NoAttr K c.Ledger "given"
  n_Ledger_things : NoAttr K c.Ledger "things"
  cBook : Cls K c.Book
  n_Book_ledger : NoAttr K c.Book "ledger"
  n_Book_lines : NoAttr K c.Book "lines"
  n_Book_levels : NoAttr K c.Book "levels"
  cLooker : Cls K c.Looker
  n_Looker_one : NoAttr K c.Looker "one"
  n_Looker_other : NoAttr K c.Looker "other"
  n_Looker_looks : NoAttr K c.Looker "looks"
  md : ∀ d ks, ∃ φ, c.md d ks = .ext φ
  pl_Ledger : Ne.Plain K c.Ledger
  m_NoRow_TwinError : PySem.W.exmOne K (.ref c.NoRow) (.ref c.TwinError) = some true
  m_NoSum_TwinError : PySem.W.exmOne K (.ref c.NoSum) (.ref c.TwinError) = some true
  m_Full_TwinError : PySem.W.exmOne K (.ref c.Full) (.ref c.TwinError) = some true
  m_NoPlace_TwinError : PySem.W.exmOne K (.ref c.NoPlace) (.ref c.TwinError) = some true
  m_NoBlock_TwinError : PySem.W.exmOne K (.ref c.NoBlock) (.ref c.TwinError) = some true
  m_Strange_TwinError : PySem.W.exmOne K (.ref c.Strange) (.ref c.TwinError) = some true
  x_NoRow : ExcC K c.NoRow
  i_NoRow_Full : PySem.W.kitOne K (.ref c.NoRow) (.ref c.Full) = some false
  i_NoRow_NoRow : PySem.W.kitOne K (.ref c.NoRow) (.ref c.NoRow) = some true
  i_NoRow_Strange : PySem.W.kitOne K (.ref c.NoRow) (.ref c.Strange) = some false
  i_NoRow_NoBlock : PySem.W.kitOne K (.ref c.NoRow) (.ref c.NoBlock) = some false
  i_NoRow_NoPlace : PySem.W.kitOne K (.ref c.NoRow) (.ref c.NoPlace) = some false
  i_NoRow_NoSum : PySem.W.kitOne K (.ref c.NoRow) (.ref c.NoSum) = some false
  i_NoRow_ValueError : PySem.W.kitOne K (.ref c.NoRow) (.type "ValueError") = some true
  x_NoSum : ExcC K c.NoSum
  i_NoSum_Full : PySem.W.kitOne K (.ref c.NoSum) (.ref c.Full) = some false
  i_NoSum_NoRow : PySem.W.kitOne K (.ref c.NoSum) (.ref c.NoRow) = some false
  i_NoSum_Strange : PySem.W.kitOne K (.ref c.NoSum) (.ref c.Strange) = some false
  i_NoSum_NoBlock : PySem.W.kitOne K (.ref c.NoSum) (.ref c.NoBlock) = some false
  i_NoSum_NoPlace : PySem.W.kitOne K (.ref c.NoSum) (.ref c.NoPlace) = some false
  i_NoSum_NoSum : PySem.W.kitOne K (.ref c.NoSum) (.ref c.NoSum) = some true
  i_NoSum_ValueError : PySem.W.kitOne K (.ref c.NoSum) (.type "ValueError") = some true
  x_Full : ExcC K c.Full
  i_Full_Full : PySem.W.kitOne K (.ref c.Full) (.ref c.Full) = some true
  i_Full_NoRow : PySem.W.kitOne K (.ref c.Full) (.ref c.NoRow) = some false
  i_Full_Strange : PySem.W.kitOne K (.ref c.Full) (.ref c.Strange) = some false
  i_Full_NoBlock : PySem.W.kitOne K (.ref c.Full) (.ref c.NoBlock) = some false
  i_Full_NoPlace : PySem.W.kitOne K (.ref c.Full) (.ref c.NoPlace) = some false
  i_Full_NoSum : PySem.W.kitOne K (.ref c.Full) (.ref c.NoSum) = some false
  i_Full_ValueError : PySem.W.kitOne K (.ref c.Full) (.type "ValueError") = some true
  x_NoPlace : ExcC K c.NoPlace
  i_NoPlace_Full : PySem.W.kitOne K (.ref c.NoPlace) (.ref c.Full) = some false
  i_NoPlace_NoRow : PySem.W.kitOne K (.ref c.NoPlace) (.ref c.NoRow) = some false
  i_NoPlace_Strange : PySem.W.kitOne K (.ref c.NoPlace) (.ref c.Strange) = some false
  i_NoPlace_NoBlock : PySem.W.kitOne K (.ref c.NoPlace) (.ref c.NoBlock) = some false
  i_NoPlace_NoPlace : PySem.W.kitOne K (.ref c.NoPlace) (.ref c.NoPlace) = some true
  i_NoPlace_NoSum : PySem.W.kitOne K (.ref c.NoPlace) (.ref c.NoSum) = some false
  i_NoPlace_ValueError : PySem.W.kitOne K (.ref c.NoPlace) (.type "ValueError") = some true
  x_NoBlock : ExcC K c.NoBlock
  i_NoBlock_Full : PySem.W.kitOne K (.ref c.NoBlock) (.ref c.Full) = some false
  i_NoBlock_NoRow : PySem.W.kitOne K (.ref c.NoBlock) (.ref c.NoRow) = some false
  i_NoBlock_Strange : PySem.W.kitOne K (.ref c.NoBlock) (.ref c.Strange) = some false
  i_NoBlock_NoBlock : PySem.W.kitOne K (.ref c.NoBlock) (.ref c.NoBlock) = some true
  i_NoBlock_NoPlace : PySem.W.kitOne K (.ref c.NoBlock) (.ref c.NoPlace) = some false
  i_NoBlock_NoSum : PySem.W.kitOne K (.ref c.NoBlock) (.ref c.NoSum) = some false
  i_NoBlock_ValueError : PySem.W.kitOne K (.ref c.NoBlock) (.type "ValueError") = some true
  x_Strange : ExcC K c.Strange
  i_Strange_Full : PySem.W.kitOne K (.ref c.Strange) (.ref c.Full) = some false
  i_Strange_NoRow : PySem.W.kitOne K (.ref c.Strange) (.ref c.NoRow) = some false
  i_Strange_Strange : PySem.W.kitOne K (.ref c.Strange) (.ref c.Strange) = some true
  i_Strange_NoBlock : PySem.W.kitOne K (.ref c.Strange) (.ref c.NoBlock) = some false
  i_Strange_NoPlace : PySem.W.kitOne K (.ref c.Strange) (.ref c.NoPlace) = some false
  i_Strange_NoSum : PySem.W.kitOne K (.ref c.Strange) (.ref c.NoSum) = some false
  i_Strange_ValueError : PySem.W.kitOne K (.ref c.Strange) (.type "ValueError") = some true
end Tw

namespace Tw
open PySem L2 Ts
/-! ### counts, digits, sizes, parts: the mirror -/
def digs (n : Nat) : Nat := if h : n = 0 then 0 else digs (n / 2) + 1
decreasing_by omega
theorem digs_zero : digs 0 = 0 := by rw [digs]; rfl
theorem digs_pos {n : Nat} (h : n ≠ 0) : digs n = digs (n / 2) + 1 := by rw [digs, dif_neg h]
theorem digs_lt (n : Nat) : n < 2 ^ digs n := by
  induction n using Nat.strongRecOn with
  | _ n ih =>
    by_cases h : n = 0
    · subst h; rw [digs_zero]; decide
    · rw [digs_pos h, Nat.pow_succ]
      have := ih (n / 2) (by omega)
      omega
theorem digs_le {n k : Nat} (h : n < 2 ^ k) : digs n ≤ k := by
  induction k generalizing n with
  | zero =>
    have : n = 0 := by simpa using h
    subst this; rw [digs_zero]; exact Nat.le_refl _
  | succ k ih =>
    by_cases h0 : n = 0
    · subst h0; rw [digs_zero]; exact Nat.zero_le _
    · rw [digs_pos h0]
      have : n / 2 < 2 ^ k := by rw [Nat.pow_succ] at h; omega
      exact Nat.succ_le_succ (ih this)
theorem digs_ge {n k : Nat} (h : 2 ^ k ≤ n) : k < digs n := by
  rcases Nat.lt_or_ge k (digs n) with h1 | h1
  · exact h1
  · have h2 := digs_lt n
    have h3 : 2 ^ digs n ≤ 2 ^ k := Nat.pow_le_pow_right (by decide) h1
    omega
/-- the parts: heights below k, from the place on -/
def partsF (n place : Nat) : Nat → List (Nat × Nat)
  | 0 => []
  | k + 1 => if n / 2 ^ k % 2 = 1 then (k, place / 2 ^ k) :: partsF n (place + 2 ^ k) k else partsF n place k
def parts (n : Nat) : List (Nat × Nat) := partsF n 0 (digs n)
def encP : Enc (Nat × Nat) := eTup2 eNat eNat
/-- the place ahead of height k is the count without its low digits -/
def placeAt (n k : Nat) : Nat := n / 2 ^ k * 2 ^ k
theorem placeAt_succ (n k : Nat) : placeAt n k = placeAt n (k + 1) + (n / 2 ^ k % 2) * 2 ^ k := by
  unfold placeAt
  have h1 : n / 2 ^ (k + 1) = n / 2 ^ k / 2 := by rw [Nat.pow_succ, Nat.div_div_eq_div_mul]
  rw [h1, Nat.pow_succ, Nat.mul_comm (2 ^ k) 2, ← Nat.mul_assoc, ← Nat.add_mul]
  congr 1
  omega
theorem placeAt_le (n k : Nat) : placeAt n k ≤ n := Nat.div_mul_le_self _ _
theorem placeAt_lt (n k : Nat) : n < placeAt n k + 2 ^ k := by
  unfold placeAt
  have := Nat.div_add_mod n (2 ^ k)
  have h2 := Nat.mod_lt n (Nat.two_pow_pos k)
  rw [Nat.mul_comm] at this
  omega
theorem placeAt_digs (n : Nat) : placeAt n (digs n) = 0 := by
  unfold placeAt
  rw [Nat.div_eq_of_lt (digs_lt n), Nat.zero_mul]
theorem placeAt_zero (n : Nat) : placeAt n 0 = n := by simp [placeAt]
/-- the digit is 1 just where there is room -/
theorem bit_room (n k : Nat) : n / 2 ^ k % 2 = 1 ↔ placeAt n (k + 1) + 2 ^ k ≤ n := by
  have h1 := placeAt_succ n k
  have h2 := placeAt_le n k
  have h3 := placeAt_lt n k
  have h4 : n / 2 ^ k % 2 = 0 ∨ n / 2 ^ k % 2 = 1 := by omega
  rcases h4 with h4 | h4
  · rw [h4, Nat.zero_mul] at h1
    constructor
    · intro h; omega
    · intro h; omega
  · rw [h4, Nat.one_mul] at h1
    constructor
    · intro _; omega
    · intro _; exact h4
theorem parts_cons {n k : Nat} (h : n / 2 ^ k % 2 = 1) : partsF n (placeAt n (k + 1)) (k + 1) = (k, placeAt n (k + 1) / 2 ^ k) :: partsF n (placeAt n k) k := by
  have e := placeAt_succ n k
  rw [h, Nat.one_mul] at e
  rw [partsF, if_pos h, ← e]
theorem parts_skip {n k : Nat} (h : ¬ n / 2 ^ k % 2 = 1) : partsF n (placeAt n (k + 1)) (k + 1) = partsF n (placeAt n k) k := by
  have e := placeAt_succ n k
  have h0 : n / 2 ^ k % 2 = 0 := by omega
  rw [h0, Nat.zero_mul, Nat.add_zero] at e
  rw [partsF, if_neg h, ← e]

theorem pow_small {i : Nat} (h : i ≤ 60) : 2 ^ i ≤ 2 ^ 60 := Nat.pow_le_pow_right (by decide) h
/-! ### the readings -/
def N_digits : List Str := ["count", "found"]
def t_digits (K : PySem.W.Frag) (c : Cs) (E : XK) : TS := (tSeq (tAsg (tC (.int 0)) (gName 1))
  (tSeq (tWhile (tTest (tOp rGt (tVar 0) (tC (.int 0)))) (tSeq (tAsg (tOp rDiv (tVar 0) (tC (.int 2))) (gName 0))
  (tAsg (tOp rAddU (tVar 1) (tC (.int 1))) (gName 1))))
  (tRet (tVar 1))))
def sp_digits (_ : PySem.W.Frag) (_ : Cs) : Sp := fun vs H Q _ => ∃ n : Nat, vs = [.int n] ∧ Q (.int (digs n : Nat)) H
theorem len_digits {K c} : ∀ vs H Q E, sp_digits K c vs H Q E → vs.length = 1 := by rintro vs H Q E ⟨n, rfl, _⟩; rfl
theorem pure_digits {K : PySem.W.Frag} {c : Cs} {vs : List V} {H : Hp} {Q : VK} {E : XK} (h : sp_digits K c vs H Q E) : t_digits K c E ⟨fun _ H' => Q .non H', Q, fun _ _ => False, fun _ _ => False⟩ (start N_digits vs) H := by
  obtain ⟨n, rfl, k⟩ := h
  show t_digits K c E _ [some (.int n), none] H
  unfold t_digits
  walk_at "s"
  refine w_while (fun σ H' => H' = H ∧ ∃ m f : Nat, σ = [some (.int m), some (.int f)] ∧ digs m + f = digs n) (fun σ _ => match σ with | some (.int m) :: _ => m.toNat | _ => 0) ⟨rfl, n, 0, rfl, rfl⟩ ?_
  rintro σ H' ⟨rfl, m, f, rfl, e⟩
  walk_at "s"
  refine ite_d (fun h0 => ?_) fun h0 => ?_
  · refine w_wN ?_
    walk_at "s"
    have h1 : m ≠ 0 := by omega
    rw [digs_pos h1] at e
    refine ⟨⟨rfl, m / 2, f + 1, rfl, by omega⟩, ?_⟩
    show ((m : Int) / 2).toNat < ((m : Int)).toNat
    omega
  · walk_at "s"
    have h1 : m = 0 := by omega
    subst h1
    rw [digs_zero, Nat.zero_add] at e
    rw [e]
    exact k

def N_size_of : List Str := ["height", "found", "turn"]
def t_size_of (K : PySem.W.Frag) (c : Cs) (E : XK) : TS := (tSeq (tAsg (tC (.int 1)) (gName 1))
  (tSeq (tFor (iRng1 (tCons (tVar 0) tNil)) (gName 2) (tAsg (tOp rMul (tC (.int 2)) (tVar 1)) (gName 1)))
  (tRet (tVar 1))))
def sp_size_of (_ : PySem.W.Frag) (_ : Cs) : Sp := fun vs H Q _ => ∃ h : Nat, vs = [.int h] ∧ h ≤ 60 ∧ Q (.int ((2 ^ h : Nat) : Int)) H
theorem len_size_of {K c} : ∀ vs H Q E, sp_size_of K c vs H Q E → vs.length = 1 := by rintro vs H Q E ⟨n, rfl, _⟩; rfl
theorem pure_size_of {K : PySem.W.Frag} {c : Cs} {vs : List V} {H : Hp} {Q : VK} {E : XK} (h : sp_size_of K c vs H Q E) : t_size_of K c E ⟨fun _ H' => Q .non H', Q, fun _ _ => False, fun _ _ => False⟩ (start N_size_of vs) H := by
  obtain ⟨n, rfl, hn, k⟩ := h
  show t_size_of K c E _ [some (.int n), none, none] H
  unfold t_size_of
  walk_at "s"
  refine w_iR1v (by omega) (by omega) (lb_range0 (fun i σ H' => H' = H ∧ ∃ v, σ = [some (.int n), some (.int ((2 ^ i : Nat) : Int)), v]) ⟨rfl, none, rfl⟩ ?_ ?_)
  · rintro i σ H' hi ⟨rfl, v, rfl⟩
    have hp := pow_small (i := i) (by omega)
    walk_at "s"
    refine ⟨rfl, some (.int (i : Int)), ?_⟩
    congr 4 <;> (rw [Nat.pow_succ]; push_cast; try omega)
  · rintro σ H' ⟨rfl, v, rfl⟩
    walk_at "s"
    have e : ((n : Int)).toNat = n := by omega
    rw [e]
    exact k

def sp_parted (K : PySem.W.Frag) (_ : Cs) : Sp := fun vs H Q _ => ∃ n : Nat, vs = [.int n] ∧ n < 2 ^ 29 ∧
  ∀ H' p xs, Ex H H' → H p = none → H' p = some (.lst xs) → DpAll K H' xs ((parts n).map encP.enc) → Q (.ref p) H'
theorem len_parted {K c} : ∀ vs H Q E, sp_parted K c vs H Q E → vs.length = 1 := by rintro vs H Q E ⟨n, rfl, _⟩; rfl
theorem dp_pair {K : PySem.W.Frag} {H : Hp} {t : Addr} {a b : Nat} (h : H t = some (.tup [.int (a : Int), .int (b : Int)])) : Dp K H (.ref t) (encP.enc (a, b)) := .tup (sqt h) (.cons (.int _) (.cons (.int _) .nil))
theorem parts_len : ∀ (n place k : Nat), (partsF n place k).length ≤ k
  | _, _, 0 => Nat.le_refl _
  | n, place, k + 1 => by
    unfold partsF
    split
    · rw [List.length_cons]; exact Nat.succ_le_succ (parts_len n _ k)
    · exact Nat.le_succ_of_le (parts_len n _ k)
/-- what the loop over heights keeps: done so far at p, the rest at height k -/
structure PartsAt (K : PySem.W.Frag) (H H' : Hp) (p : Addr) (n k : Nat) : Prop where
  fr : H p = none
  ex : Ex H H'
  at' : ∃ xs done, H' p = some (.lst xs) ∧ DpAll K (hid p H') xs (done.map encP.enc) ∧ done ++ partsF n (placeAt n k) k = parts n ∧ done.length + k ≤ 64
theorem PartsAt.skip {K : PySem.W.Frag} {H H' : Hp} {p : Addr} {n k : Nat} (S : PartsAt K H H' p n (k + 1)) (h : ¬ n / 2 ^ k % 2 = 1) : PartsAt K H H' p n k := by
  obtain ⟨fr, ex, xs, done, h1, h2, h3, h4⟩ := S
  exact ⟨fr, ex, xs, done, h1, h2, by rw [← parts_skip h]; exact h3, by omega⟩
theorem PartsAt.more {K : PySem.W.Frag} {H H' : Hp} {p t : Addr} {n k : Nat} {xs : List V} {j : Int} (S : PartsAt K H H' p n (k + 1)) (h : n / 2 ^ k % 2 = 1) (hx : H' p = some (.lst xs)) (ht : H' t = none) (hj : j = ((placeAt n (k + 1) / 2 ^ k : Nat) : Int)) :
    PartsAt K H (upd (upd H' t (.tup [.int (k : Nat), .int j])) p (.lst (xs ++ [.ref t]))) p n k := by
  subst hj
  obtain ⟨fr, ex, xs', done, h1, h2, h3, h4⟩ := S
  rw [h1] at hx; cases hx
  have tp : t ≠ p := fun z => by rw [z, h1] at ht; cases ht
  refine ⟨fr, ex_mut (ex_new ex ht) fr, _, done ++ [(k, placeAt n (k + 1) / 2 ^ k)], upd_same, ?_, ?_, ?_⟩
  · rw [hid_upd, List.map_append]
    refine dpAll_snoc (dpAll_mono (hid_mono (ex_new ex_refl ht)) h2) (dp_pair ?_)
    rw [hid_ne tp, upd_same]
  · rw [List.append_assoc, List.singleton_append, ← parts_cons h]; exact h3
  · rw [List.length_append]; show done.length + 1 + k ≤ 64; omega
def N_parted : List Str := ["count", "found", "place", "height", "size"]
def t_parted (K : PySem.W.Frag) (c : Cs) (E : XK) : TS := (tSeq (tAsg (tLst tNil) (gName 1))
  (tSeq (tAsg (tC (.int 0)) (gName 2))
  (tSeq (tFor (iRng3 (tCons (tOp rSubI (tCall (sp_digits K c) [] E0 (tCons (tVar 0) tNil)) (tC (.int 1))) (tCons (tUn (rU fun i => .int (-i)) (tC (.int 1))) (tCons (tUn (rU fun i => .int (-i)) (tC (.int 1))) tNil)))) (gName 3) (tSeq (tAsg (tCall (sp_size_of K c) [] E0 (tCons (tVar 3) tNil)) (gName 4))
  (tIfS (tTest (tOp (rEqU K) (tOp rMod (tOp rDiv (tVar 0) (tVar 4)) (tC (.int 2))) (tC (.int 1)))) (tSeq (tDrop (tBM K "list" rAppend (tVar 1) (tCons (tTup (tCons (tVar 3) (tCons (tOp rDiv (tVar 2) (tVar 4)) tNil))) tNil)))
  (tAsg (tOp rAddU (tVar 2) (tVar 4)) (gName 2))) tNext)))
  (tRet (tVar 1)))))
theorem pure_parted {K : PySem.W.Frag} {c : Cs} {vs : List V} {H : Hp} {Q : VK} {E : XK} (h : sp_parted K c vs H Q E) : t_parted K c E ⟨fun _ H' => Q .non H', Q, fun _ _ => False, fun _ _ => False⟩ (start N_parted vs) H := by
  obtain ⟨n, rfl, hn, k⟩ := h
  show t_parted K c E _ [some (.int n), none, none, none, none] H
  unfold t_parted
  walk_at "s"
  refine ⟨Nat.zero_le _, fun p hp => ?_⟩
  walk_at "s"
  have hd : digs n ≤ 29 := digs_le hn
  refine ⟨n, rfl, ?_⟩
  walk_at "s"
  refine w_iR3v (by omega) ?_
  have e1 : ((digs n : Int) - 1 - -1).toNat = digs n := by omega
  rw [e1]
  refine lb_rangeC (fun i σ H' => ∃ v w, σ = [some (.int n), some (.ref p), some (.int (placeAt n (digs n - i) : Nat)), v, w] ∧ PartsAt K H H' p n (digs n - i)) ?_ ?_ ?_
  · refine ⟨none, none, ?_, hp, ex_new ex_refl hp, [], [], upd_same, .nil, ?_, ?_⟩
    · rw [Nat.sub_zero, placeAt_digs]; rfl
    · rw [Nat.sub_zero, placeAt_digs]; rfl
    · show 0 + _ ≤ 64; omega
  · rintro i σ H' hi ⟨v, w, rfl, S⟩
    obtain ⟨h, eh⟩ : ∃ h, digs n - i = h + 1 := ⟨digs n - i - 1, by omega⟩
    have eh2 : (digs n : Int) - 1 + (i : Nat) * -1 = (h : Nat) := by omega
    have eh3 : digs n - (i + 1) = h := by omega
    rw [eh2, eh3]
    rw [eh] at S ⊢
    walk_at "s"
    refine ⟨h, rfl, by omega, ?_⟩
    have hp1 := Nat.two_pow_pos h
    have hp2 : 2 ^ h ≤ 2 ^ 29 := Nat.pow_le_pow_right (by decide) (by omega)
    have hp3 : (2 : Nat) ^ 29 = 536870912 := by decide
    generalize hz : 2 ^ h = z at hp1 hp2
    walk_at "s"
    rw [cast_div, show (2 : Int) = ((2 : Nat) : Int) from rfl, cast_mod]
    refine ite_d (fun h0 => ?_) fun h0 => ?_
    · have hb : n / 2 ^ h % 2 = 1 := by rw [hz]; omega
      obtain ⟨xs, done, h1, h2, h3, h4⟩ := S.at'
      walk_at "s"
      refine ⟨w_tyL (sql h1), ?_⟩
      walk_at "s"
      refine ⟨by show 2 ≤ sizeLine; exact sz100 (by decide), fun t ht => ?_⟩
      have tp : t ≠ p := fun e => by rw [e, h1] at ht; cases ht
      have hl := dpAll_len h2
      rw [List.length_map] at hl
      walk_at "s"
      refine w_app (by rw [upd_ne tp.symm]; exact h1) (szL (by omega)) ?_
      walk_at "s"
      have e2 := placeAt_succ n h
      rw [hb, hz, Nat.one_mul] at e2
      rw [show ((placeAt n (h + 1) : Nat) : Int) + (z : Int) = (placeAt n h : Nat) by omega]
      exact ⟨_, _, rfl, S.more hb h1 ht (by rw [hz, cast_div])⟩
    · have hb : ¬ n / 2 ^ h % 2 = 1 := by rw [hz]; omega
      walk_at "s"
      have e2 := placeAt_succ n h
      have hb0 : n / 2 ^ h % 2 = 0 := by omega
      rw [hb0, Nat.zero_mul, Nat.add_zero] at e2
      rw [show ((placeAt n (h + 1) : Nat) : Int) = (placeAt n h : Nat) by omega]
      exact ⟨_, _, rfl, S.skip hb⟩
  · rintro σ H' ⟨v, w, rfl, S⟩
    rw [Nat.sub_self] at S
    obtain ⟨xs, done, h1, h2, h3, h4⟩ := S.at'
    walk_at "s"
    have e3 : done = parts n := by rw [← h3]; simp [partsF]
    rw [e3] at h2
    exact k H' p xs S.ex hp h1 (dpAll_mono ex_hid h2)
end Tw

namespace Tw
open PySem L2 Ts
def N_law_cell_at : List Str := ["_law_script", "_law_k"]
def t_law_cell_at (K : PySem.W.Frag) (c : Cs) (E : XK) : TS := (tSeq (tIfS (tTest (tOp rLt (tVar 1) (tCB (Ts.rLen K) (tCons (tVar 0) tNil)))) (tRet (tOp (rIx K) (tVar 0) (tVar 1))) tNext)
  (tRet (tC (.int 0))))
/-- a cell of the script, or 0: some whole number -/
def sp_law_cell_at (K : PySem.W.Frag) (_ : Cs) : Sp := fun vs H Q _ => ∃ (a : Addr) (ns : List Int) (i : Nat), vs = [.ref a, .int i] ∧ SqL K H a (ns.map V.int) ∧ ∀ z : Int, Q (.int z) H
theorem len_law_cell_at {K c} : ∀ vs H Q E, sp_law_cell_at K c vs H Q E → vs.length = 2 := by rintro vs H Q E ⟨a, ns, i, rfl, _⟩; rfl
theorem pure_law_cell_at {K : PySem.W.Frag} {c : Cs} {vs : List V} {H : Hp} {Q : VK} {E : XK} (h : sp_law_cell_at K c vs H Q E) : t_law_cell_at K c E ⟨fun _ H' => Q .non H', Q, fun _ _ => False, fun _ _ => False⟩ (start N_law_cell_at vs) H := by
  obtain ⟨a, ns, i, rfl, hs, k⟩ := h
  show t_law_cell_at K c E _ [some (.ref a), some (.int i)] H
  unfold t_law_cell_at
  walk_at "s"
  refine w_lenL hs ?_
  walk_at "s"
  refine ite_d (fun h0 => ?_) fun h0 => ?_
  · walk_at "s"
    have hi : i < (ns.map V.int).length := by omega
    rw [List.length_map] at hi
    exact w_ixL hs (atI_nat (by rw [List.getElem?_map, List.getElem?_eq_getElem hi]; rfl)) (k _)
  · walk_at "s"
    exact k 0
end Tw

namespace Tw
open PySem L2 Ts Mix
/-! ### rows -/
def signs : Str := "abcdefghijklmnopqrstuvwxyz0123456789 "
/-- a row's text -/
def Good (z : Str) : Prop := z.length ≤ 40 ∧ ∀ c ∈ z.cps.toList, c ∈ signs.cps.toList
instance (z : Str) : Decidable (Good z) := inferInstanceAs (Decidable (_ ∧ _))
theorem good_ok {z : Str} (h : Good z) : PyData.strOk z = true := by
  unfold PyData.strOk
  rw [Array.all_eq_true']
  intro c hc
  have h1 := h.2 c (by simpa using hc)
  have h2 : signs.cps.toList.all (fun c => decide (c < 0x110000)) = true := by decide +kernel
  exact List.all_eq_true.mp h2 c h1
theorem good_len {z : Str} (h : Good z) : z.length ≤ sizeLine := Nat.le_trans h.1 (by decide)
/-- what is handed in as a row: a text of few signs, or a thing of another kind -/
def RowV (K : PySem.W.Frag) (H : Hp) (v : V) : Prop := (∃ z, v = .str z ∧ z.length ≤ sizeLine) ∨ (∃ i, v = .int i) ∨ v = .non ∨ (∃ b, v = .bl b) ∨ (∃ a xs, v = .ref a ∧ (SqL K H a xs ∨ SqT K H a xs))
def isRowV (v : V) : Prop := ∃ z, v = .str z ∧ Good z
theorem rowV_good {K : PySem.W.Frag} {H : Hp} {z : Str} (h : Good z) : RowV K H (.str z) := .inl ⟨z, rfl, good_len h⟩

def N_is_whole : List Str := ["thing"]
def t_is_whole (K : PySem.W.Frag) (c : Cs) (E : XK) : TS := (tRet (tAndV (tCB (rIsi K) (tCons (tVar 0) (tCons (tC (.ty "int")) tNil))) (tNotV (tCB (rIsi K) (tCons (tVar 0) (tCons (tC (.ty "bool")) tNil))))))
def sp_is_whole (K : PySem.W.Frag) (_ : Cs) : Sp := fun vs H Q _ => ∃ (v : V) (b : Bool), vs = [v] ∧ isWholeV K H v b ∧ Q (.bl b) H
theorem len_is_whole {K c} : ∀ vs H Q E, sp_is_whole K c vs H Q E → vs.length = 1 := by rintro vs H Q E ⟨a, i, rfl, _⟩; rfl
theorem pure_is_whole {K : PySem.W.Frag} {c : Cs} {vs : List V} {H : Hp} {Q : VK} {E : XK} (h : sp_is_whole K c vs H Q E) : t_is_whole K c E ⟨fun _ H' => Q .non H', Q, fun _ _ => False, fun _ _ => False⟩ (start N_is_whole vs) H := by
  obtain ⟨v, b, rfl, hw, k⟩ := h
  show t_is_whole K c E _ [some v] H
  unfold t_is_whole
  walk_at "s"
  rcases hw with ⟨i, rfl, rfl⟩ | ⟨x, rfl, rfl⟩ | ⟨x, rfl, rfl⟩ | ⟨rfl, rfl⟩ | ⟨a, xs, rfl, h, rfl⟩
  · refine isi_ty (b := true) tyI (by decide +kernel) ?_
    walk_at "s"
    refine iteT ?_
    walk_at "s"
    refine isi_ty (b := false) tyI (by decide +kernel) ?_
    walk_at "s"
    exact k
  · refine isi_ty (b := true) tyB (by decide +kernel) ?_
    walk_at "s"
    refine iteT ?_
    walk_at "s"
    refine isi_ty (b := true) tyB (by decide +kernel) ?_
    walk_at "s"
    exact k
  · refine isi_ty (b := false) tyS (by decide +kernel) ?_
    walk_at "s"
    exact iteF k
  · refine isi_ty (b := false) tyN (by decide +kernel) ?_
    walk_at "s"
    exact iteF k
  · rcases h with h | h
    · refine isi_ty (b := false) (ty_sql h) (by decide +kernel) ?_
      walk_at "s"
      exact iteF k
    · refine isi_ty (b := false) (ty_sqt h) (by decide +kernel) ?_
      walk_at "s"
      exact iteF k
def N_is_row : List Str := ["thing", "sign"]
def t_is_row (K : PySem.W.Frag) (c : Cs) (E : XK) : TS := (tSeq (tIfS (tOr (tNot (tB (tCB (rIsi K) (tCons (tVar 0) (tCons (tC (.ty "str")) tNil))))) (tTest (tOp rGt (tCB (Ts.rLen K) (tCons (tVar 0) tNil)) (tC (.int 40))))) (tRet (tC (.bl false))) tNext)
  (tSeq (tFor (iStr (tVar 0)) (gName 1) (tIfS (tTest (tOp rNotInS (tVar 1) (tC (.str "abcdefghijklmnopqrstuvwxyz0123456789 ")))) (tRet (tC (.bl false))) tNext))
  (tRet (tC (.bl true)))))
def sp_is_row (K : PySem.W.Frag) (_ : Cs) : Sp := fun vs H Q _ => ∃ v, vs = [v] ∧ RowV K H v ∧ (isRowV v → Q (.bl true) H) ∧ (¬ isRowV v → Q (.bl false) H)
theorem len_is_row {K c} : ∀ vs H Q E, sp_is_row K c vs H Q E → vs.length = 1 := by rintro vs H Q E ⟨v, rfl, _⟩; rfl
theorem pure_is_row {K : PySem.W.Frag} {c : Cs} {vs : List V} {H : Hp} {Q : VK} {E : XK} (h : sp_is_row K c vs H Q E) : t_is_row K c E ⟨fun _ H' => Q .non H', Q, fun _ _ => False, fun _ _ => False⟩ (start N_is_row vs) H := by
  obtain ⟨v, rfl, hv, k1, k2⟩ := h
  show t_is_row K c E _ [some v, none] H
  have other : ∀ t, TyX K H v (.type t) → kitB t "str" = some false → (∀ z, v ≠ .str z) → t_is_row K c E ⟨fun _ H' => Q .non H', Q, fun _ _ => False, fun _ _ => False⟩ [some v, none] H := fun t ty kb ne => by
    unfold t_is_row
    walk_at "s"
    refine isi_ty ty kb ?_
    walk_at "s"
    refine iteT ?_
    refine iteT ?_
    walk_at "s"
    exact k2 fun ⟨z, e, _⟩ => ne z e
  rcases hv with ⟨z, rfl, hz⟩ | ⟨i, rfl⟩ | rfl | ⟨b, rfl⟩ | ⟨a, xs, rfl, h | h⟩
  · unfold t_is_row
    walk_at "s"
    refine isi_ty (b := true) tyS (by decide +kernel) ?_
    walk_at "s"
    refine iteF ?_
    walk_at "s"
    refine w_lenS hz ?_
    walk_at "s"
    refine ite_d (fun h0 => ?_) fun h0 => ?_
    · walk_at "s"
      refine k2 ?_
      rintro ⟨z', e, hg⟩
      cases e
      have := hg.1
      omega
    · walk_at "s"
      refine ⟨z, rfl, lb_str (fun i σ H' => H' = H ∧ (∃ v, σ = [some (.str z), v]) ∧ ∀ j c, j < i → z.cps[j]? = some c → c ∈ signs.cps.toList) ⟨rfl, ⟨none, rfl⟩, fun j _ hj => absurd hj (Nat.not_lt_zero _)⟩ ?_ ?_⟩
      · rintro i ch σ H' hc ⟨rfl, ⟨v, rfl⟩, hb⟩
        walk_at "s"
        refine ite_nd (fun h1 => ?_) fun h1 => ?_
        · walk_at "s"
          refine k2 ?_
          rintro ⟨z', e, hg⟩
          cases e
          exact h1 (hg.2 ch (Array.mem_toList_iff.mpr (Array.mem_of_getElem? hc)))
        · walk_at "s"
          refine ⟨rfl, ⟨_, rfl⟩, fun j cj hj hcj => ?_⟩
          rcases Nat.lt_or_ge j i with q | q
          · exact hb j cj q hcj
          · have e : j = i := by omega
            rw [e, hc] at hcj
            cases hcj
            exact h1
      · rintro σ H' ⟨rfl, ⟨v, rfl⟩, hb⟩
        walk_at "s"
        refine k1 ⟨z, rfl, by omega, fun cj hcj => ?_⟩
        obtain ⟨j, hj, e⟩ := Array.mem_iff_getElem.mp (Array.mem_toList_iff.mp hcj)
        exact hb j cj hj (by rw [Array.getElem?_eq_getElem hj, e])
  · exact other "int" tyI (by decide +kernel) fun z e => nomatch e
  · exact other "NoneType" tyN (by decide +kernel) fun z e => nomatch e
  · exact other "bool" tyB (by decide +kernel) fun z e => nomatch e
  · exact other "list" (ty_sql h) (by decide +kernel) fun z e => nomatch e
  · exact other "tuple" (ty_sqt h) (by decide +kernel) fun z e => nomatch e
def N_sure_row : List Str := ["thing"]
def t_sure_row (K : PySem.W.Frag) (c : Cs) (E : XK) : TS := (tIfS (tNot (tB (tCall (sp_is_row K c) [] E (tCons (tVar 0) tNil)))) (tRaiseX c.NoRow (fun cls d _ H => E cls d H)) tNext)
def sp_sure_row (K : PySem.W.Frag) (c : Cs) : Sp := fun vs H Q E => ∃ v, vs = [v] ∧ RowV K H v ∧ (isRowV v → Q .non H) ∧ (¬ isRowV v → E (.ref c.NoRow) none H)
theorem len_sure_row {K c} : ∀ vs H Q E, sp_sure_row K c vs H Q E → vs.length = 1 := by rintro vs H Q E ⟨v, rfl, _⟩; rfl
theorem pure_sure_row {K : PySem.W.Frag} {c : Cs} {vs : List V} {H : Hp} {Q : VK} {E : XK} (h : sp_sure_row K c vs H Q E) : t_sure_row K c E ⟨fun _ H' => Q .non H', Q, fun _ _ => False, fun _ _ => False⟩ (start N_sure_row vs) H := by
  obtain ⟨v, rfl, hv, k1, k2⟩ := h
  show t_sure_row K c E _ [some v] H
  unfold t_sure_row
  walk_at "s"
  refine ⟨v, rfl, hv, fun y => ?_, fun n => ?_⟩
  · walk_at "s"
    refine iteF ?_
    walk_at "s"
    exact k1 y
  · walk_at "s"
    refine iteT ?_
    walk_at "s"
    exact k2 n
end Tw

namespace Tw
open PySem L2 Ts Mix
/-! ### the ledger -/
/-- what the sum of two sums is given out for -/
def pk (a b : Nat) : MK := .tup [(a : Int), (b : Int)]
theorem pk_inj {a b x y : Nat} (h : pk a b = pk x y) : a = x ∧ b = y := by
  have e := MK.tup.inj h
  simp only [List.cons.injEq, and_true] at e
  omega
/-- asked for the sum of k -/
def ask (ths : List MK) (k : MK) : List MK := if k ∈ ths then ths else ths ++ [k]
def num (ths : List MK) (k : MK) : Nat := ths.idxOf k
theorem ask_mem (ths : List MK) (k : MK) : k ∈ ask ths k := by
  unfold ask
  split
  · assumption
  · simp
theorem ask_nd {ths : List MK} {k : MK} (h : ths.Nodup) : (ask ths k).Nodup := by
  unfold ask
  split
  · exact h
  · rename_i n
    exact nd_snoc h n
theorem ask_pre (ths : List MK) (k : MK) : ths <+: ask ths k := by
  unfold ask
  split
  · exact List.prefix_refl _
  · exact List.prefix_append _ _
theorem ask_len (ths : List MK) (k : MK) : (ask ths k).length ≤ ths.length + 1 := by
  unfold ask
  split
  · omega
  · simp
theorem num_get {ths : List MK} {k : MK} (h : k ∈ ths) : ths[num ths k]? = some k := by
  unfold num
  rw [List.getElem?_eq_getElem (List.idxOf_lt_length_of_mem h)]
  exact congrArg some (List.getElem_idxOf _)
theorem num_lt {ths : List MK} {k : MK} (h : k ∈ ths) : num ths k < ths.length := List.idxOf_lt_length_of_mem h
/-- the dict's entries: each thing, as it was handed in, and its number -/
def ents : Nat → List MK → List V → Ks
  | _, [], _ => []
  | _, _, [] => []
  | i, k :: ks, v :: vs => (k, v, .int (i : Nat)) :: ents (i + 1) ks vs
theorem ents_kk : ∀ (i : Nat) (ks : List MK) (vs : List V), ks.length = vs.length → kk (ents i ks vs) = ks
  | _, [], _, _ => rfl
  | _, _ :: _, [], h => by simp at h
  | i, k :: ks, v :: vs, h => by
    show k :: kk (ents (i + 1) ks vs) = k :: ks
    rw [ents_kk (i + 1) ks vs (by simpa using h)]
theorem ents_len (i : Nat) (ks : List MK) (vs : List V) (h : ks.length = vs.length) : (ents i ks vs).length = ks.length := by
  have e := congrArg List.length (ents_kk i ks vs h)
  simpa [kk] using e
theorem ents_snoc : ∀ (i : Nat) (ks : List MK) (vs : List V) (k : MK) (v : V), ks.length = vs.length → ents i (ks ++ [k]) (vs ++ [v]) = ents i ks vs ++ [(k, v, .int ((i + ks.length : Nat) : Int))]
  | i, [], [], k, v, _ => rfl
  | _, [], _ :: _, _, _, h => by simp at h
  | _, _ :: _, [], _, _, h => by simp at h
  | i, a :: ks, b :: vs, k, v, h => by
    show (a, b, V.int (i : Nat)) :: ents (i + 1) (ks ++ [k]) (vs ++ [v]) = (a, b, V.int (i : Nat)) :: (ents (i + 1) ks vs ++ _)
    rw [ents_snoc (i + 1) ks vs k v (by simpa using h), List.length_cons, show i + 1 + ks.length = i + (ks.length + 1) by omega]
theorem ents_get : ∀ (i : Nat) (ks : List MK) (vs : List V) (j : Nat) (k : MK), ks.length = vs.length → ks[j]? = some k → ∃ v, (ents i ks vs)[j]? = some (k, v, .int ((i + j : Nat) : Int)) ∧ vs[j]? = some v
  | _, [], _, j, k, _, h => by simp at h
  | _, _ :: _, [], _, _, h, _ => by simp at h
  | i, a :: ks, b :: vs, 0, k, h, e => by
    simp at e
    subst e
    exact ⟨b, rfl, rfl⟩
  | i, a :: ks, b :: vs, j + 1, k, h, e => by
    obtain ⟨v, h1, h2⟩ := ents_get (i + 1) ks vs j k (by simpa using h) (by simpa using e)
    refine ⟨v, ?_, by simpa using h2⟩
    show (ents (i + 1) ks vs)[j]? = _
    rw [h1, show i + 1 + j = i + (j + 1) by omega]
theorem ents_keys : ∀ (i : Nat) {H : Hp} {ks : List MK} {vs : List V}, Paired (KeyV H) ks vs → KeysV H (ents i ks vs)
  | _, _, _, _, .nil => fun p hp => nomatch hp
  | i, H, _, _, .cons h t => fun p hp => by
    rcases List.mem_cons.mp hp with e | hp
    · subst e; exact h
    · exact ents_keys (i + 1) t p hp
/-- the ledger's attributes -/
def lfl (d l : Addr) : List (Str × V) := putF "things" (.ref l) (putF "given" (.ref d) [])
theorem lfl_given {d l : Addr} : (lfl d l).lookup ("given" : Str) = some (.ref d) := by
  unfold lfl
  rw [lookup_putF, if_neg (by decide +kernel), lookup_putF, if_pos rfl]
theorem lfl_things {d l : Addr} : (lfl d l).lookup ("things" : Str) = some (.ref l) := by
  unfold lfl
  rw [lookup_putF, if_pos rfl]
theorem lfl_no {d l : Addr} {m : Str} (h1 : ¬ m = "given") (h2 : ¬ m = "things") : (lfl d l).lookup m = none := by
  unfold lfl
  rw [lookup_putF, if_neg h2, lookup_putF, if_neg h1]
  rfl
/-- a ledger that has given out the sums of ths -/
structure LedgerAt (c : Cs) (H : Hp) (p d l : Addr) (ths : List MK) (vs : List V) : Prop where
  ob : ∃ dx, H p = some (.ins c.Ledger dx (lfl d l))
  dc : H d = some (c.md d (ents 0 ths vs))
  ls : H l = some (.lst vs)
  kv : Paired (KeyV H) ths vs
  nd : ths.Nodup
theorem paired_len {α β : Type} {F : α → β → Prop} {xs : List α} {ys : List β} (p : Paired F xs ys) : xs.length = ys.length := Paired.length p
section
variable {K : PySem.W.Frag} {c : Cs} {H H' : Hp} {p d l : Addr} {ths : List MK} {vs : List V}
theorem LedgerAt.len (L : LedgerAt c H p d l ths vs) : ths.length = vs.length := paired_len L.kv
theorem LedgerAt.pd (T : TxK K c) (L : LedgerAt c H p d l ths vs) : p ≠ d := by
  obtain ⟨dx, h⟩ := L.ob
  obtain ⟨φ, e⟩ := T.md d (ents 0 ths vs)
  exact ne_of h L.dc (by rw [e]; exact fun z => nomatch z)
theorem LedgerAt.pl (L : LedgerAt c H p d l ths vs) : p ≠ l := by
  obtain ⟨dx, h⟩ := L.ob
  exact ne_of h L.ls fun z => nomatch z
theorem LedgerAt.dl (T : TxK K c) (L : LedgerAt c H p d l ths vs) : d ≠ l := by
  obtain ⟨φ, e⟩ := T.md d (ents 0 ths vs)
  exact ne_of L.dc L.ls (by rw [e]; exact fun z => nomatch z)
theorem paired_imp {α β : Type} {F G : α → β → Prop} {xs : List α} {ys : List β} (p : Paired F xs ys) (h : ∀ a b, F a b → G a b) : Paired G xs ys := Paired.mapP p h
/-- a ledger stands where what it is made of stands -/
theorem LedgerAt.kp {S : List Addr} (T : TxK K c) (L : LedgerAt c H p d l ths vs) (k : Kp S H H') (h : ∀ x ∈ S, x ≠ d ∧ x ≠ l ∧ (∀ o, H x = some o → ∃ ys, o = .lst ys)) : LedgerAt c H' p d l ths vs := by
  obtain ⟨dx, hp⟩ := L.ob
  refine ⟨⟨dx, k _ _ hp fun z => ?_⟩, k _ _ L.dc fun z => (h _ z).1 rfl, k _ _ L.ls fun z => (h _ z).2.1 rfl, paired_imp L.kv fun a b q => k.keyV q fun x o hx ho => ?_, L.nd⟩
  · obtain ⟨ys, e⟩ := (h _ z).2.2 _ hp
    exact nomatch e
  · obtain ⟨ys, e⟩ := (h _ hx).2.2 _ ho
    rintro ⟨zs, e2⟩
    rw [e] at e2
    exact nomatch e2
theorem LedgerAt.ex (L : LedgerAt c H p d l ths vs) (e : Ex H H') : LedgerAt c H' p d l ths vs := by
  obtain ⟨dx, hp⟩ := L.ob
  exact ⟨⟨dx, e _ _ hp⟩, e _ _ L.dc, e _ _ L.ls, paired_imp L.kv fun a b q => keyV_ex e q, L.nd⟩
end
def N_Ledger_init : List Str := ["self"]
def t_Ledger_init (K : PySem.W.Frag) (c : Cs) (E : XK) : TS := (tSeq (sFld K (tVar 0) (tMNew c.md) "given")
  (sFld K (tVar 0) (tLst tNil) "things"))
def sp_Ledger_init (K : PySem.W.Frag) (c : Cs) : Sp := fun vs H Q _ => ∃ p dx, vs = [.ref p] ∧ H p = some (.ins c.Ledger dx []) ∧ ∀ d l H', H d = none → H l = none → LedgerAt c H' p d l [] [] → Kp [p] H H' → Q .non H'
theorem len_Ledger_init {K c} : ∀ vs H Q E, sp_Ledger_init K c vs H Q E → vs.length = 1 := by rintro vs H Q E ⟨p, dx, rfl, _⟩; rfl
theorem pure_Ledger_init {K : PySem.W.Frag} {c : Cs} {vs : List V} {H : Hp} {Q : VK} {E : XK} (T : TxK K c) (h : sp_Ledger_init K c vs H Q E) : t_Ledger_init K c E ⟨fun _ H' => Q .non H', Q, fun _ _ => False, fun _ _ => False⟩ (start N_Ledger_init vs) H := by
  obtain ⟨p, dx, rfl, hp, k⟩ := h
  show t_Ledger_init K c E _ [some (.ref p)] H
  unfold t_Ledger_init
  walk_at "s"
  intro d hd
  walk_at "s"
  have npd : p ≠ d := ne_of_none hp hd
  refine w_sfldAt (by rw [upd_ne npd]; exact hp) T.cLedger T.n_Ledger_given (by show 0 < 1000; decide) ?_
  walk_at "s"
  refine ⟨Nat.zero_le _, fun l hl => ?_⟩
  walk_at "s"
  have nlp : l ≠ p := fun z => by rw [z, upd_same] at hl; cases hl
  rw [upd_ne nlp] at hl
  have nld : l ≠ d := fun z => by rw [z, upd_same] at hl; cases hl
  rw [upd_ne nld] at hl
  refine w_sfldAt (by rw [upd_ne nlp.symm, upd_same]) T.cLedger T.n_Ledger_things (by show 1 < 1000; decide) ?_
  refine k d l _ hd hl ⟨⟨dx, upd_same⟩, ?_, ?_, .nil, List.nodup_nil⟩ ?_
  · rw [upd_ne npd.symm, upd_ne nld.symm, upd_ne npd.symm, upd_same]; rfl
  · rw [upd_ne nlp, upd_same]
  · exact (((Kp.refl.fresh hd).set List.mem_cons_self).fresh hl).set List.mem_cons_self
def N_Ledger_number_of : List Str := ["self", "thing"]
def t_Ledger_number_of (K : PySem.W.Frag) (c : Cs) (E : XK) : TS := (tSeq (tIfS (tB (tMNotIn c.md (tVar 1) (tFld K (tVar 0) "given"))) (tSeq (sMPut c.md (tFld K (tVar 0) "given") (tVar 1) (tCB (Ts.rLen K) (tCons (tFld K (tVar 0) "things") tNil)))
  (tDrop (tBM K "list" rAppend (tFld K (tVar 0) "things") (tCons (tVar 1) tNil)))) tNext)
  (tRet (tMGet c.md (tFld K (tVar 0) "given") (tVar 1))))
def sp_Ledger_number_of (K : PySem.W.Frag) (c : Cs) : Sp := fun vs H Q _ => ∃ p d l ths xs k v, vs = [.ref p, v] ∧ LedgerAt c H p d l ths xs ∧ KeyV H k v ∧ ths.length < 1000000 ∧
  ∀ H' xs', LedgerAt c H' p d l (ask ths k) xs' → Kp [d, l] H H' → Q (.int (num (ask ths k) k : Nat)) H'
theorem len_Ledger_number_of {K c} : ∀ vs H Q E, sp_Ledger_number_of K c vs H Q E → vs.length = 2 := by rintro vs H Q E ⟨p, d, l, ths, xs, k, v, rfl, _⟩; rfl
theorem pure_Ledger_number_of {K : PySem.W.Frag} {c : Cs} {vs : List V} {H : Hp} {Q : VK} {E : XK} (T : TxK K c) (h : sp_Ledger_number_of K c vs H Q E) : t_Ledger_number_of K c E ⟨fun _ H' => Q .non H', Q, fun _ _ => False, fun _ _ => False⟩ (start N_Ledger_number_of vs) H := by
  obtain ⟨p, d, l, ths, xs, k, v, rfl, L, kv, hz, q⟩ := h
  show t_Ledger_number_of K c E _ [some (.ref p), some v] H
  unfold t_Ledger_number_of
  obtain ⟨dx, hp⟩ := L.ob
  have hl := L.len
  have ne1 := L.pd T
  have ne2 := L.pl
  have ne3 := L.dl T
  walk_at "s"
  refine w_fldAt hp T.cLedger T.n_Ledger_given lfl_given ?_
  refine ⟨d, _, k, rfl, L.dc, kv, ents_keys 0 L.kv, ?_⟩
  rw [ents_kk 0 ths xs hl]
  walk_at "s"
  by_cases hk : k ∈ ths
  · rw [hasG_yes hk]
    refine iteF ?_
    walk_at "s"
    refine w_fldAt hp T.cLedger T.n_Ledger_given lfl_given ?_
    walk_at "s"
    obtain ⟨v', h1, _⟩ := ents_get 0 ths xs (num ths k) k hl (num_get hk)
    refine ⟨d, _, k, num ths k, _, rfl, L.dc, kv, ents_keys 0 L.kv, h1, ?_⟩
    have e : ask ths k = ths := by unfold ask; rw [if_pos hk]
    rw [Nat.zero_add]
    have := q H xs (by rw [e]; exact L) Kp.refl
    rw [e] at this
    exact this
  · rw [hasG_no hk]
    refine iteT ?_
    walk_at "s"
    refine w_fldAt hp T.cLedger T.n_Ledger_things lfl_things ?_
    walk_at "s"
    refine w_lenL (sql L.ls) ?_
    walk_at "s"
    refine w_fldAt hp T.cLedger T.n_Ledger_given lfl_given ?_
    walk_at "s"
    refine ⟨d, _, k, rfl, L.dc, kv, ents_keys 0 L.kv, by rw [ents_kk 0 ths xs hl]; exact hk, by rw [ents_len 0 ths xs hl]; exact szL hz, ?_⟩
    walk_at "s"
    have hp1 : ∀ o, (upd H d o) p = some (.ins c.Ledger dx (lfl d l)) := fun o => by rw [upd_ne ne1]; exact hp
    refine w_fldAt (hp1 _) T.cLedger T.n_Ledger_things lfl_things ?_
    have hl1 : ∀ o, (upd H d o) l = some (.lst xs) := fun o => by rw [upd_ne ne3.symm]; exact L.ls
    refine ⟨w_tyL (sql (hl1 _)), ?_⟩
    walk_at "s"
    refine w_app (hl1 _) (by rw [← hl]; exact szL hz) ?_
    walk_at "s"
    refine w_fldAt (by rw [upd_ne ne2]; exact hp1 _) T.cLedger T.n_Ledger_given lfl_given ?_
    walk_at "s"
    have e : ask ths k = ths ++ [k] := by unfold ask; rw [if_neg hk]
    have es := ents_snoc 0 ths xs k v hl
    rw [Nat.zero_add] at es
    -- the tuples stand
    have kv2 : ∀ {k' : MK} {v' : V}, KeyV H k' v' → KeyV (upd (upd H d (c.md d (ents 0 ths xs ++ [(k, v, V.int (xs.length : Nat))]))) l (.lst (xs ++ [v]))) k' v' := fun {k' v'} z => by
      refine (((Kp.refl (S := [d, l])).set (p := d) (by simp)).set (p := l) (by simp)).keyV z fun x o hx ho => ?_
      obtain ⟨φ, e2⟩ := T.md d (ents 0 ths xs)
      rintro ⟨ys, e3⟩
      subst e3
      rcases List.mem_cons.mp hx with r | r
      · rw [r, L.dc, e2] at ho; exact nomatch ho
      · rw [List.mem_singleton.mp r, L.ls] at ho; exact nomatch ho
    have L' : LedgerAt c (upd (upd H d (c.md d (ents 0 ths xs ++ [(k, v, V.int (xs.length : Nat))]))) l (.lst (xs ++ [v]))) p d l (ths ++ [k]) (xs ++ [v]) := by
      refine ⟨⟨dx, by rw [upd_ne ne2]; exact hp1 _⟩, ?_, upd_same, Paired.snoc (paired_imp L.kv fun a b z => kv2 z) (kv2 kv), nd_snoc L.nd hk⟩
      rw [upd_ne ne3, upd_same, es, hl]
    have g : (ents 0 ths xs ++ [(k, v, V.int (xs.length : Nat))])[ths.length]? = some (k, v, V.int (xs.length : Nat)) := by
      rw [List.getElem?_append_right (by rw [ents_len 0 ths xs hl]; exact Nat.le_refl _), ents_len 0 ths xs hl, Nat.sub_self]; rfl
    refine ⟨d, _, k, ths.length, _, rfl, by rw [upd_ne ne3, upd_same], kv2 kv, ?_, g, ?_⟩
    · have z := ents_keys 0 L'.kv
      rw [es, hl] at z
      exact z
    · have z := q _ _ (by rw [e]; exact L') (((Kp.refl (S := [d, l])).set (p := d) (by simp)).set (p := l) (by simp))
      have n : num (ask ths k) k = xs.length := by
        rw [e, ← hl]
        unfold num
        rw [List.idxOf_append, if_neg hk]
        simp
      rw [n] at z
      exact z
end Tw

namespace Tw
open PySem L2 Ts Mix
section
variable {K : PySem.W.Frag} {c : Cs} {H H' : Hp} {p d l : Addr} {ths : List MK} {vs : List V}
theorem LedgerAt.no {m : Str} (h1 : ¬ m = "given") (h2 : ¬ m = "things") : (lfl d l).lookup m = none := lfl_no h1 h2
end
/-- a number that was given out -/
def NumV (n : Nat) (v : V) : Prop := ∃ i : Nat, v = .int i ∧ i < n
theorem whole_of_num {K : PySem.W.Frag} {H : Hp} {n : Nat} {v : V} (h : NumV n v) : isWholeV K H v true := by
  obtain ⟨i, rfl, _⟩ := h
  exact .inl ⟨_, rfl, rfl⟩
def N_Ledger_sure : List Str := ["self", "number"]
def t_Ledger_sure (K : PySem.W.Frag) (c : Cs) (E : XK) : TS := (tIfS (tOr (tNot (tB (tCall (sp_is_whole K c) [] E (tCons (tVar 1) tNil)))) (tNot (tTest (tChain rLe rLt (tC (.int 0)) (tVar 1) (tCB (Ts.rLen K) (tCons (tFld K (tVar 0) "things") tNil)))))) (tRaiseX c.NoSum (fun cls d _ H => E cls d H)) tNext)
def sp_Ledger_sure (K : PySem.W.Frag) (c : Cs) : Sp := fun vs H Q E => ∃ p d l ths xs v b, vs = [.ref p, v] ∧ LedgerAt c H p d l ths xs ∧ isWholeV K H v b ∧ (NumV ths.length v → Q .non H) ∧ (¬ NumV ths.length v → E (.ref c.NoSum) none H)
theorem len_Ledger_sure {K c} : ∀ vs H Q E, sp_Ledger_sure K c vs H Q E → vs.length = 2 := by rintro vs H Q E ⟨p, d, l, ths, xs, v, b, rfl, _⟩; rfl
theorem pure_Ledger_sure {K : PySem.W.Frag} {c : Cs} {vs : List V} {H : Hp} {Q : VK} {E : XK} (T : TxK K c) (h : sp_Ledger_sure K c vs H Q E) : t_Ledger_sure K c E ⟨fun _ H' => Q .non H', Q, fun _ _ => False, fun _ _ => False⟩ (start N_Ledger_sure vs) H := by
  obtain ⟨p, d, l, ths, xs, v, b, rfl, L, hw, k1, k2⟩ := h
  show t_Ledger_sure K c E _ [some (.ref p), some v] H
  unfold t_Ledger_sure
  obtain ⟨dx, hp⟩ := L.ob
  have hl := L.len
  walk_at "s"
  refine ⟨v, b, rfl, hw, ?_⟩
  walk_at "s"
  refine ite_nb (fun hb => ?_) fun hb => ?_
  · refine iteT ?_
    walk_at "s"
    refine k2 fun ⟨i, e, _⟩ => ?_
    subst e
    rcases hw with ⟨_, _, z⟩ | ⟨x, z, _⟩ | ⟨x, z, _⟩ | ⟨z, _⟩ | ⟨a, ys, z, _⟩
    · rw [hb] at z; cases z
    all_goals exact nomatch z
  · subst hb
    obtain ⟨i, rfl⟩ : ∃ i, v = .int i := by
      rcases hw with ⟨i, z, _⟩ | ⟨x, _, z⟩ | ⟨x, _, z⟩ | ⟨_, z⟩ | ⟨a, ys, _, _, z⟩
      · exact ⟨i, z⟩
      all_goals cases z
    walk_at "s"
    refine ite_d (fun h0 => ?_) fun h0 => ?_
    · walk_at "s"
      refine w_fldAt hp T.cLedger T.n_Ledger_things lfl_things ?_
      walk_at "s"
      refine w_lenL (sql L.ls) ?_
      walk_at "s"
      refine ite_nd (fun h1 => ?_) fun h1 => ?_
      · walk_at "s"
        refine k2 fun ⟨n, e, hn⟩ => ?_
        cases e
        omega
      · walk_at "s"
        refine k1 ⟨i.toNat, by congr 1; omega, by omega⟩
    · walk_at "s"
      refine iteT ?_
      walk_at "s"
      refine k2 fun ⟨n, e, hn⟩ => ?_
      cases e
      omega
def N_Ledger_of_row : List Str := ["self", "row"]
def t_Ledger_of_row (K : PySem.W.Frag) (c : Cs) (E : XK) : TS := (tSeq (tDrop (tCall (sp_sure_row K c) [] E (tCons (tVar 1) tNil)))
  (tRet (tMeth c.Ledger "number_of" (sp_Ledger_number_of K c) [] E (tVar 0) (tCons (tVar 1) tNil))))
def sp_Ledger_of_row (K : PySem.W.Frag) (c : Cs) : Sp := fun vs H Q E => ∃ p d l ths xs v, vs = [.ref p, v] ∧ LedgerAt c H p d l ths xs ∧ RowV K H v ∧ ths.length < 1000000 ∧
  (∀ z, v = .str z → Good z → ∀ H' xs', LedgerAt c H' p d l (ask ths (.row z)) xs' → Kp [d, l] H H' → Q (.int (num (ask ths (.row z)) (.row z) : Nat)) H') ∧ (¬ isRowV v → E (.ref c.NoRow) none H)
theorem len_Ledger_of_row {K c} : ∀ vs H Q E, sp_Ledger_of_row K c vs H Q E → vs.length = 2 := by rintro vs H Q E ⟨p, d, l, ths, xs, v, rfl, _⟩; rfl
theorem pure_Ledger_of_row {K : PySem.W.Frag} {c : Cs} {vs : List V} {H : Hp} {Q : VK} {E : XK} (h : sp_Ledger_of_row K c vs H Q E) : t_Ledger_of_row K c E ⟨fun _ H' => Q .non H', Q, fun _ _ => False, fun _ _ => False⟩ (start N_Ledger_of_row vs) H := by
  obtain ⟨p, d, l, ths, xs, v, rfl, L, hv, hz, k1, k2⟩ := h
  show t_Ledger_of_row K c E _ [some (.ref p), some v] H
  unfold t_Ledger_of_row
  obtain ⟨dx, hp⟩ := L.ob
  walk_at "s"
  refine ⟨v, rfl, hv, fun y => ?_, k2⟩
  obtain ⟨z, rfl, hg⟩ := y
  walk_at "s"
  refine w_methAt hp (lfl_no (by decide +kernel) (by decide +kernel)) ?_
  walk_at "s"
  exact ⟨p, d, l, ths, xs, .row z, .str z, rfl, L, rfl, hz, fun H' xs' L' kp => k1 z rfl hg H' xs' L' kp⟩
def N_Ledger_of_pair : List Str := ["self", "one", "other"]
def t_Ledger_of_pair (K : PySem.W.Frag) (c : Cs) (E : XK) : TS := (tSeq (tDrop (tMeth c.Ledger "sure" (sp_Ledger_sure K c) [] E (tVar 0) (tCons (tVar 1) tNil)))
  (tSeq (tDrop (tMeth c.Ledger "sure" (sp_Ledger_sure K c) [] E (tVar 0) (tCons (tVar 2) tNil)))
  (tRet (tMeth c.Ledger "number_of" (sp_Ledger_number_of K c) [] E (tVar 0) (tCons (tTup (tCons (tVar 1) (tCons (tVar 2) tNil))) tNil)))))
def sp_Ledger_of_pair (K : PySem.W.Frag) (c : Cs) : Sp := fun vs H Q E => ∃ p d l ths xs v w b b', vs = [.ref p, v, w] ∧ LedgerAt c H p d l ths xs ∧ isWholeV K H v b ∧ isWholeV K H w b' ∧ ths.length < 1000000 ∧
  (∀ i j : Nat, v = .int i → w = .int j → i < ths.length → j < ths.length → ∀ H' xs', LedgerAt c H' p d l (ask ths (pk i j)) xs' → Kp [d, l] H H' → Q (.int (num (ask ths (pk i j)) (pk i j) : Nat)) H') ∧ (¬ (NumV ths.length v ∧ NumV ths.length w) → E (.ref c.NoSum) none H)
theorem len_Ledger_of_pair {K c} : ∀ vs H Q E, sp_Ledger_of_pair K c vs H Q E → vs.length = 3 := by rintro vs H Q E ⟨p, d, l, ths, xs, v, w, b, b', rfl, _⟩; rfl
theorem pure_Ledger_of_pair {K : PySem.W.Frag} {c : Cs} {vs : List V} {H : Hp} {Q : VK} {E : XK} (h : sp_Ledger_of_pair K c vs H Q E) : t_Ledger_of_pair K c E ⟨fun _ H' => Q .non H', Q, fun _ _ => False, fun _ _ => False⟩ (start N_Ledger_of_pair vs) H := by
  obtain ⟨p, d, l, ths, xs, v, w, b, b', rfl, L, hv, hw, hz, k1, k2⟩ := h
  show t_Ledger_of_pair K c E _ [some (.ref p), some v, some w] H
  unfold t_Ledger_of_pair
  obtain ⟨dx, hp⟩ := L.ob
  walk_at "s"
  refine w_methAt hp (lfl_no (by decide +kernel) (by decide +kernel)) ?_
  walk_at "s"
  refine ⟨p, d, l, ths, xs, v, b, rfl, L, hv, fun y1 => ?_, fun n => k2 fun z => n z.1⟩
  walk_at "s"
  refine w_methAt hp (lfl_no (by decide +kernel) (by decide +kernel)) ?_
  walk_at "s"
  refine ⟨p, d, l, ths, xs, w, b', rfl, L, hw, fun y2 => ?_, fun n => k2 fun z => n z.2⟩
  obtain ⟨i, rfl, hi⟩ := y1
  obtain ⟨j, rfl, hj⟩ := y2
  walk_at "s"
  refine w_methAt hp (lfl_no (by decide +kernel) (by decide +kernel)) ?_
  walk_at "s"
  refine ⟨by show 2 ≤ sizeLine; exact sz100 (by decide), fun t ht => ?_⟩
  walk_at "s"
  have e : Ex H (upd H t (.tup [.int i, .int j])) := ex_new ex_refl ht
  exact ⟨p, d, l, ths, xs, pk i j, .ref t, rfl, L.ex e, ⟨t, rfl, upd_same⟩, hz, fun H' xs' L' kp => k1 i j rfl rfl hi hj H' xs' L' ((Kp.of_ex e).trans kp)⟩
def N_Ledger_what : List Str := ["self", "number"]
def t_Ledger_what (K : PySem.W.Frag) (c : Cs) (E : XK) : TS := (tSeq (tDrop (tMeth c.Ledger "sure" (sp_Ledger_sure K c) [] E (tVar 0) (tCons (tVar 1) tNil)))
  (tRet (tOp (rIx K) (tFld K (tVar 0) "things") (tVar 1))))
def sp_Ledger_what (K : PySem.W.Frag) (c : Cs) : Sp := fun vs H Q E => ∃ p d l ths xs v b, vs = [.ref p, v] ∧ LedgerAt c H p d l ths xs ∧ isWholeV K H v b ∧
  (∀ (i : Nat) k w, v = .int i → ths[i]? = some k → xs[i]? = some w → KeyV H k w → Q w H) ∧ (¬ NumV ths.length v → E (.ref c.NoSum) none H)
theorem len_Ledger_what {K c} : ∀ vs H Q E, sp_Ledger_what K c vs H Q E → vs.length = 2 := by rintro vs H Q E ⟨p, d, l, ths, xs, v, b, rfl, _⟩; rfl
theorem paired_get {α β : Type} {F : α → β → Prop} : ∀ {xs : List α} {ys : List β} {i : Nat} {x : α}, Paired F xs ys → xs[i]? = some x → ∃ y, ys[i]? = some y ∧ F x y
  | _, _, i, x, .nil, e => by simp at e
  | _, _, 0, x, .cons h t, e => by simp at e; subst e; exact ⟨_, rfl, h⟩
  | _, _, i + 1, x, .cons h t, e => by
    obtain ⟨y, h1, h2⟩ := paired_get (i := i) (x := x) t (by simpa using e)
    exact ⟨y, by simpa using h1, h2⟩
theorem pure_Ledger_what {K : PySem.W.Frag} {c : Cs} {vs : List V} {H : Hp} {Q : VK} {E : XK} (T : TxK K c) (h : sp_Ledger_what K c vs H Q E) : t_Ledger_what K c E ⟨fun _ H' => Q .non H', Q, fun _ _ => False, fun _ _ => False⟩ (start N_Ledger_what vs) H := by
  obtain ⟨p, d, l, ths, xs, v, b, rfl, L, hv, k1, k2⟩ := h
  show t_Ledger_what K c E _ [some (.ref p), some v] H
  unfold t_Ledger_what
  obtain ⟨dx, hp⟩ := L.ob
  walk_at "s"
  refine w_methAt hp (lfl_no (by decide +kernel) (by decide +kernel)) ?_
  walk_at "s"
  refine ⟨p, d, l, ths, xs, v, b, rfl, L, hv, fun y1 => ?_, k2⟩
  obtain ⟨i, rfl, hi⟩ := y1
  walk_at "s"
  refine w_fldAt hp T.cLedger T.n_Ledger_things lfl_things ?_
  walk_at "s"
  obtain ⟨w, h1, h2⟩ := paired_get L.kv (List.getElem?_eq_getElem hi)
  exact w_ixL (sql L.ls) (atI_nat h1) (k1 i _ w rfl (List.getElem?_eq_getElem hi) h1 h2)
def N_Ledger_many : List Str := ["self"]
def t_Ledger_many (K : PySem.W.Frag) (c : Cs) (E : XK) : TS := (tRet (tCB (Ts.rLen K) (tCons (tFld K (tVar 0) "things") tNil)))
def sp_Ledger_many (K : PySem.W.Frag) (c : Cs) : Sp := fun vs H Q _ => ∃ p d l ths xs, vs = [.ref p] ∧ LedgerAt c H p d l ths xs ∧ ths.length < 1000000 ∧ Q (.int (ths.length : Nat)) H
theorem len_Ledger_many {K c} : ∀ vs H Q E, sp_Ledger_many K c vs H Q E → vs.length = 1 := by rintro vs H Q E ⟨p, d, l, ths, xs, rfl, _⟩; rfl
theorem pure_Ledger_many {K : PySem.W.Frag} {c : Cs} {vs : List V} {H : Hp} {Q : VK} {E : XK} (T : TxK K c) (h : sp_Ledger_many K c vs H Q E) : t_Ledger_many K c E ⟨fun _ H' => Q .non H', Q, fun _ _ => False, fun _ _ => False⟩ (start N_Ledger_many vs) H := by
  obtain ⟨p, d, l, ths, xs, rfl, L, hz, k⟩ := h
  show t_Ledger_many K c E _ [some (.ref p)] H
  unfold t_Ledger_many
  obtain ⟨dx, hp⟩ := L.ob
  walk_at "s"
  refine w_fldAt hp T.cLedger T.n_Ledger_things lfl_things ?_
  walk_at "s"
  refine w_lenL (sql L.ls) ?_
  rw [← L.len]
  exact k
end Tw

namespace Tw
open PySem L2 Ts Mix
/-! ### blocks, and what a sum is of: the mathematics -/
def lev (levels : List (List Nat)) (h : Nat) : List Nat := levels.getD h []
/-- the rows of a block -/
def blk (rows : List Str) (h j : Nat) : List Str := (rows.drop (j * 2 ^ h)).take (2 ^ h)
/-- the number n is given out for the rows rs, by halves, h high -/
def Den (ths : List MK) : Nat → Nat → List Str → Prop
  | 0, n, rs => ∃ z, rs = [z] ∧ ths[n]? = some (.row z)
  | h + 1, n, rs => ∃ a b r1 r2, ths[n]? = some (pk a b) ∧ Den ths h a r1 ∧ Den ths h b r2 ∧ rs = r1 ++ r2
theorem pre_get {α : Type} {xs ys : List α} (h : xs <+: ys) {i : Nat} {x : α} (e : xs[i]? = some x) : ys[i]? = some x := by
  obtain ⟨t, rfl⟩ := h
  rw [List.getElem?_append_left (List.getElem?_eq_some_iff.mp e).1]
  exact e
theorem Den.mono {ths ths' : List MK} (p : ths <+: ths') : ∀ {h n : Nat} {rs : List Str}, Den ths h n rs → Den ths' h n rs
  | 0, _, _, ⟨z, e, g⟩ => ⟨z, e, pre_get p g⟩
  | _ + 1, _, _, ⟨a, b, r1, r2, g, d1, d2, e⟩ => ⟨a, b, r1, r2, pre_get p g, d1.mono p, d2.mono p, e⟩
theorem Den.lt {ths : List MK} : ∀ {h n : Nat} {rs : List Str}, Den ths h n rs → n < ths.length
  | 0, _, _, ⟨_, _, g⟩ => get_lt g
  | _ + 1, _, _, ⟨_, _, _, _, g, _⟩ => get_lt g
theorem Den.len {ths : List MK} : ∀ {h n : Nat} {rs : List Str}, Den ths h n rs → rs.length = 2 ^ h
  | 0, _, _, ⟨_, e, _⟩ => by rw [e]; rfl
  | h + 1, _, _, ⟨_, _, _, _, _, d1, d2, e⟩ => by rw [e, List.length_append, d1.len, d2.len, Nat.pow_succ]; omega
/-- one number, one block -/
theorem Den.rows_eq {ths : List MK} : ∀ {h n : Nat} {r s : List Str}, Den ths h n r → Den ths h n s → r = s
  | 0, _, _, _, ⟨z, e, g⟩, ⟨z', e', g'⟩ => by rw [g] at g'; cases g'; rw [e, e']
  | h + 1, _, _, _, ⟨a, b, r1, r2, g, d1, d2, e⟩, ⟨a', b', s1, s2, g', d1', d2', e'⟩ => by
    rw [g] at g'
    obtain ⟨rfl, rfl⟩ := pk_inj (Option.some.inj g')
    rw [e, e', d1.rows_eq d1', d2.rows_eq d2']
/-- one block, one number -/
theorem Den.num_eq {ths : List MK} (nd : ths.Nodup) : ∀ {h n m : Nat} {r : List Str}, Den ths h n r → Den ths h m r → n = m
  | 0, _, _, _, ⟨z, e, g⟩, ⟨z', e', g'⟩ => by
    rw [e] at e'
    cases e'
    exact nd_ix nd g g'
  | h + 1, n, m, _, ⟨a, b, r1, r2, g, d1, d2, e⟩, ⟨a', b', s1, s2, g', d1', d2', e'⟩ => by
    rw [e] at e'
    have hl : r1.length = s1.length := by rw [d1.len, d1'.len]
    obtain ⟨e1, e2⟩ := List.append_inj e' hl
    subst e1 e2
    have x1 := d1.num_eq nd d1'
    have x2 := d2.num_eq nd d2'
    subst x1 x2
    exact nd_ix nd g g'
theorem Den.iff {ths : List MK} (nd : ths.Nodup) {h n m : Nat} {r s : List Str} (a : Den ths h n r) (b : Den ths h m s) : n = m ↔ r = s :=
  ⟨fun e => by subst e; exact a.rows_eq b, fun e => by subst e; exact a.num_eq nd b⟩
/-! blocks of rows -/
theorem blk_len {rows : List Str} {h j : Nat} (hj : (j + 1) * 2 ^ h ≤ rows.length) : (blk rows h j).length = 2 ^ h := by
  unfold blk
  rw [List.length_take, List.length_drop]
  have : (j + 1) * 2 ^ h = j * 2 ^ h + 2 ^ h := by rw [Nat.add_mul, Nat.one_mul]
  omega
theorem blk_succ (rows : List Str) (h j : Nat) : blk rows (h + 1) j = blk rows h (2 * j) ++ blk rows h (2 * j + 1) := by
  unfold blk
  have e1 : 2 ^ (h + 1) = 2 ^ h + 2 ^ h := by rw [Nat.pow_succ]; omega
  have e2 : j * (2 ^ h + 2 ^ h) = 2 * j * 2 ^ h := by rw [Nat.mul_add, Nat.mul_comm 2 j, Nat.mul_assoc, Nat.two_mul, Nat.mul_add]
  have e3 : (2 * j + 1) * 2 ^ h = 2 * j * 2 ^ h + 2 ^ h := by rw [Nat.add_mul, Nat.one_mul]
  rw [e1, e2, e3, List.take_add, List.drop_drop]
theorem lt_div_iff {j n h : Nat} : j < n / 2 ^ h ↔ (j + 1) * 2 ^ h ≤ n := by
  rw [← Nat.succ_le_iff]
  exact Nat.le_div_iff_mul_le (Nat.two_pow_pos h)
theorem blk_zero {rows : List Str} {j : Nat} {z : Str} (h : rows[j]? = some z) : blk rows 0 j = [z] := by
  unfold blk
  rw [Nat.pow_zero, Nat.mul_one, drop_at h]
  rfl
/-- rows further on don't matter -/
theorem blk_append {rows more : List Str} {h j : Nat} (hj : (j + 1) * 2 ^ h ≤ rows.length) : blk (rows ++ more) h j = blk rows h j := by
  unfold blk
  have : (j + 1) * 2 ^ h = j * 2 ^ h + 2 ^ h := by rw [Nat.add_mul, Nat.one_mul]
  generalize 2 ^ h = s at *
  rw [List.drop_append_of_le_length (by omega), List.take_append_of_le_length (by rw [List.length_drop]; omega)]
/-- a row elsewhere doesn't matter -/
theorem blk_set {rows : List Str} {place h j : Nat} {z : Str} (hj : j ≠ place / 2 ^ h) : blk (rows.set place z) h j = blk rows h j := by
  unfold blk
  apply List.ext_getElem?
  intro i
  rw [List.getElem?_take, List.getElem?_take]
  by_cases hi : i < 2 ^ h
  · rw [if_pos hi, if_pos hi, List.getElem?_drop, List.getElem?_drop, List.getElem?_set_ne]
    intro e
    apply hj
    rw [e, Nat.mul_comm, Nat.mul_add_div (Nat.two_pow_pos h), Nat.div_eq_of_lt hi, Nat.add_zero]
  · rw [if_neg hi, if_neg hi]

/-! ### the levels -/
def shp (levels : List (List Nat)) (n : Nat) : Prop := ∀ h, (lev levels h).length = n / 2 ^ h
/-- the levels of a book's rows, by what was given out -/
structure BookInv (ths : List MK) (rows : List Str) (levels : List (List Nat)) : Prop where
  len : ∀ h, (lev levels h).length = rows.length / 2 ^ h
  den : ∀ h j x, (lev levels h)[j]? = some x → Den ths h x (blk rows h j)
theorem BookInv.mono {ths ths' : List MK} {rows : List Str} {levels : List (List Nat)} (I : BookInv ths rows levels) (p : ths <+: ths') : BookInv ths' rows levels := ⟨I.len, fun h j x e => (I.den h j x e).mono p⟩
theorem lev_get {levels : List (List Nat)} {h : Nat} {l : List Nat} (e : levels[h]? = some l) : lev levels h = l := by unfold lev; rw [List.getD_eq_getElem?_getD, e]; rfl
theorem lev_out {levels : List (List Nat)} {h : Nat} (e : levels.length ≤ h) : lev levels h = [] := by unfold lev; rw [List.getD_eq_getElem?_getD, List.getElem?_eq_none e]; rfl
theorem lev_set {levels : List (List Nat)} {h k : Nat} {l : List Nat} (hk : h < levels.length) : lev (levels.set h l) k = if k = h then l else lev levels k := by
  unfold lev
  rw [List.getD_eq_getElem?_getD, List.getD_eq_getElem?_getD, List.getElem?_set]
  by_cases e : h = k
  · subst e
    rw [if_pos rfl, if_pos hk, if_pos rfl]; rfl
  · rw [if_neg e, if_neg (Ne.symm e)]
/-- a sum more at a height -/
def addAt (levels : List (List Nat)) (h x : Nat) : List (List Nat) := if h = levels.length then levels ++ [[x]] else levels.set h (lev levels h ++ [x])
theorem lev_addAt {levels : List (List Nat)} {h x k : Nat} (hh : h ≤ levels.length) : lev (addAt levels h x) k = if k = h then lev levels h ++ [x] else lev levels k := by
  unfold addAt
  by_cases e : h = levels.length
  · rw [if_pos e]
    unfold lev
    rw [List.getD_eq_getElem?_getD, List.getD_eq_getElem?_getD, List.getD_eq_getElem?_getD, List.getElem?_append]
    by_cases q : k = h
    · subst q
      rw [if_neg (by omega), if_pos rfl, e, Nat.sub_self, List.getElem?_eq_none (l := levels) (by omega)]; rfl
    · rw [if_neg q]
      by_cases r : k < levels.length
      · rw [if_pos r]
      · rw [if_neg r, List.getElem?_eq_none (l := levels) (by omega), List.getElem?_eq_none (by simp; omega)]
  · rw [if_neg e, lev_set (by omega)]
theorem addAt_len {levels : List (List Nat)} {h x : Nat} (hh : h ≤ levels.length) : (addAt levels h x).length = max levels.length (h + 1) := by
  unfold addAt
  split
  · rw [List.length_append]; simp; omega
  · rw [List.length_set]; omega
/-! growing -/
def growL : Nat → Nat → Nat → Nat → List MK → List (List Nat) → List MK × List (List Nat) × Nat
  | 0, h, _, _, ths, levels => (ths, levels, h)
  | f + 1, h, size, found, ths, levels =>
    if size % 2 = 1 then (ths, addAt levels h found, h + 1)
    else growL f (h + 1) (size / 2) (num (ask ths (pk ((lev (addAt levels h found) h).getD (size - 2) 0) ((lev (addAt levels h found) h).getD (size - 1) 0))) (pk ((lev (addAt levels h found) h).getD (size - 2) 0) ((lev (addAt levels h found) h).getD (size - 1) 0)))
      (ask ths (pk ((lev (addAt levels h found) h).getD (size - 2) 0) ((lev (addAt levels h found) h).getD (size - 1) 0))) (addAt levels h found)
def growM (ths : List MK) (rows : List Str) (levels : List (List Nat)) (z : Str) : List MK × List (List Nat) × Nat :=
  growL (rows.length + 1) 0 (rows.length + 1) (num (ask ths (.row z)) (.row z)) (ask ths (.row z)) levels
/-- what holds ahead of a turn at height h: the heights below are done, found is the block's sum that comes here -/
structure GInv (ths : List MK) (rows : List Str) (h size found : Nat) (levels : List (List Nat)) : Prop where
  n : rows.length = size * 2 ^ h
  pos : 0 < size
  lo : ∀ k, k < h → (lev levels k).length = rows.length / 2 ^ k
  hi : ∀ k, h ≤ k → (lev levels k).length = (rows.length - 1) / 2 ^ k
  den : ∀ k j x, (lev levels k)[j]? = some x → Den ths k x (blk rows k j)
  fd : Den ths h found (blk rows h (size - 1))
section
variable {ths : List MK} {rows : List Str} {h size found : Nat} {levels : List (List Nat)}
theorem GInv.le (G : GInv ths rows h size found levels) : h ≤ levels.length := by
  rcases Nat.lt_or_ge levels.length h with q | q
  · have e := G.lo levels.length q
    rw [lev_out (Nat.le_refl _)] at e
    have h1 : 2 ^ levels.length ≤ 2 ^ h := Nat.pow_le_pow_right (by decide) (by omega)
    have h2 : 2 ^ h ≤ rows.length := by rw [G.n]; exact Nat.le_mul_of_pos_left _ G.pos
    have h3 : 0 < rows.length / 2 ^ levels.length := Nat.div_pos (by omega) (Nat.two_pow_pos _)
    simp at e
    omega
  · exact q
theorem GInv.here (G : GInv ths rows h size found levels) : (lev levels h).length + 1 = size := by
  rw [G.hi h (Nat.le_refl _), G.n]
  have hp := Nat.two_pow_pos h
  obtain ⟨s, e⟩ : ∃ s, size = s + 1 := ⟨size - 1, by have := G.pos; omega⟩
  subst e
  have : (s + 1) * 2 ^ h - 1 = 2 ^ h * s + (2 ^ h - 1) := by rw [Nat.add_mul, Nat.one_mul, Nat.mul_comm]; omega
  rw [this, Nat.mul_add_div hp, Nat.div_eq_of_lt (by omega)]
theorem GInv.den1 (G : GInv ths rows h size found levels) : ∀ k j x, (lev (addAt levels h found) k)[j]? = some x → Den ths k x (blk rows k j) := by
  intro k j x e
  rw [lev_addAt G.le] at e
  by_cases q : k = h
  · subst q
    rw [if_pos rfl, List.getElem?_append] at e
    split at e
    · exact G.den k j x e
    · have h1 := G.here
      have hj : j = (lev levels k).length := by
        have := get_lt e
        simp at this
        omega
      rw [hj, Nat.sub_self] at e
      have e : found = x := by simpa using e
      subst e
      have : j = size - 1 := by omega
      rw [this]
      exact G.fd
  · rw [if_neg q] at e
    exact G.den k j x e
theorem half_odd {n k : Nat} (hn : 0 < n) (hd : ¬ n % 2 ^ k = 0) : (n - 1) / 2 ^ k = n / 2 ^ k := by
  have h1 := Nat.div_add_mod n (2 ^ k)
  have h2 := Nat.mod_lt n (Nat.two_pow_pos k)
  have e : n - 1 = 2 ^ k * (n / 2 ^ k) + (n % 2 ^ k - 1) := by omega
  rw [e, Nat.mul_add_div (Nat.two_pow_pos k), Nat.div_eq_of_lt (show n % 2 ^ k - 1 < 2 ^ k by omega), Nat.add_zero]
/-- the last turn -/
theorem GInv.stop (G : GInv ths rows h size found levels) (odd : size % 2 = 1) : BookInv ths rows (addAt levels h found) := by
  refine ⟨fun k => ?_, G.den1⟩
  rw [lev_addAt G.le]
  by_cases q : k = h
  · subst q
    rw [if_pos rfl, List.length_append, G.n, Nat.mul_div_cancel _ (Nat.two_pow_pos _)]
    exact G.here
  · rw [if_neg q]
    rcases Nat.lt_or_ge k h with r | r
    · exact G.lo k r
    · have r2 : h < k := by omega
      rw [G.hi k r]
      refine half_odd ?_ fun z => ?_
      · rw [G.n]; exact Nat.mul_pos G.pos (Nat.two_pow_pos _)
      · obtain ⟨t, rfl⟩ : ∃ t, k = h + 1 + t := ⟨k - (h + 1), by omega⟩
        have d1 : 2 ^ (h + 1) ∣ rows.length := Nat.dvd_trans (Nat.pow_dvd_pow 2 (by omega)) (Nat.dvd_of_mod_eq_zero z)
        rw [G.n, Nat.pow_succ, Nat.mul_comm size] at d1
        have := Nat.dvd_of_mul_dvd_mul_left (Nat.two_pow_pos h) d1
        omega
/-- the two sums that come to the next one -/
theorem GInv.two (G : GInv ths rows h size found levels) (even : ¬ size % 2 = 1) : ∃ a b, (lev (addAt levels h found) h)[size - 2]? = some a ∧ (lev (addAt levels h found) h)[size - 1]? = some b ∧ Den ths h a (blk rows h (size - 2)) ∧ Den ths h b (blk rows h (size - 1)) ∧
    (lev (addAt levels h found) h).getD (size - 2) 0 = a ∧ (lev (addAt levels h found) h).getD (size - 1) 0 = b := by
  have hl : (lev (addAt levels h found) h).length = size := by rw [lev_addAt G.le, if_pos rfl, List.length_append]; exact G.here
  have hp := G.pos
  have g1 : (lev (addAt levels h found) h)[size - 2]? = some ((lev (addAt levels h found) h)[size - 2]'(by omega)) := List.getElem?_eq_getElem _
  have g2 : (lev (addAt levels h found) h)[size - 1]? = some ((lev (addAt levels h found) h)[size - 1]'(by omega)) := List.getElem?_eq_getElem _
  refine ⟨_, _, g1, g2, G.den1 _ _ _ g1, G.den1 _ _ _ g2, ?_, ?_⟩
  · rw [List.getD_eq_getElem?_getD, g1]; rfl
  · rw [List.getD_eq_getElem?_getD, g2]; rfl
theorem den_pair {a b h : Nat} {r1 r2 : List Str} (d1 : Den ths h a r1) (d2 : Den ths h b r2) : Den (ask ths (pk a b)) (h + 1) (num (ask ths (pk a b)) (pk a b)) (r1 ++ r2) :=
  ⟨a, b, r1, r2, num_get (ask_mem _ _), d1.mono (ask_pre _ _), d2.mono (ask_pre _ _), rfl⟩
theorem den_row (z : Str) : Den (ask ths (.row z)) 0 (num (ask ths (.row z)) (.row z)) [z] := ⟨z, rfl, num_get (ask_mem _ _)⟩
theorem GInv.next (G : GInv ths rows h size found levels) (even : ¬ size % 2 = 1) {a b : Nat} (d1 : Den ths h a (blk rows h (size - 2))) (d2 : Den ths h b (blk rows h (size - 1))) :
    GInv (ask ths (pk a b)) rows (h + 1) (size / 2) (num (ask ths (pk a b)) (pk a b)) (addAt levels h found) := by
  have hp := G.pos
  have e2 : size = 2 * (size / 2) := by omega
  refine ⟨?_, by omega, fun k hk => ?_, fun k hk => ?_, fun k j x e => (G.den1 k j x e).mono (ask_pre _ _), ?_⟩
  · rw [G.n, Nat.pow_succ]
    conv => lhs; rw [e2]
    rw [Nat.mul_comm 2, Nat.mul_assoc, Nat.mul_comm 2]
  · rw [lev_addAt G.le]
    by_cases q : k = h
    · subst q
      rw [if_pos rfl, List.length_append, G.n, Nat.mul_div_cancel _ (Nat.two_pow_pos _)]
      exact G.here
    · rw [if_neg q]; exact G.lo k (by omega)
  · rw [lev_addAt G.le, if_neg (by omega)]
    exact G.hi k (by omega)
  · have e3 : blk rows (h + 1) (size / 2 - 1) = blk rows h (size - 2) ++ blk rows h (size - 1) := by
      rw [blk_succ, show 2 * (size / 2 - 1) = size - 2 by omega, show size - 2 + 1 = size - 1 by omega]
    rw [e3]
    exact den_pair d1 d2
end
theorem GInv.start {ths : List MK} {rows : List Str} {levels : List (List Nat)} (I : BookInv ths rows levels) (z : Str) : GInv (ask ths (.row z)) (rows ++ [z]) 0 (rows.length + 1) (num (ask ths (.row z)) (.row z)) levels := by
  have hl : (rows ++ [z]).length = rows.length + 1 := by simp
  refine ⟨by rw [hl]; simp, by omega, fun k hk => absurd hk (Nat.not_lt_zero _), fun k _ => by rw [hl]; exact I.len k, fun k j x e => ?_, ?_⟩
  · have hj := get_lt e
    rw [I.len] at hj
    rw [blk_append (lt_div_iff.mp hj)]
    exact (I.den k j x e).mono (ask_pre _ _)
  · rw [Nat.add_sub_cancel, blk_zero (z := z) (by simp)]
    exact den_row z
end Tw

namespace Tw
open PySem L2 Ts Mix
def nv (n : Nat) : V := .int (n : Int)
/-- a book's attributes -/
def bfl (L ln lv : Addr) : List (Str × V) := putF "levels" (.ref lv) (putF "lines" (.ref ln) (putF "ledger" (.ref L) []))
theorem bfl_ledger {L ln lv : Addr} : (bfl L ln lv).lookup ("ledger" : Str) = some (.ref L) := by
  unfold bfl
  rw [lookup_putF, if_neg (by decide +kernel), lookup_putF, if_neg (by decide +kernel), lookup_putF, if_pos rfl]
theorem bfl_lines {L ln lv : Addr} : (bfl L ln lv).lookup ("lines" : Str) = some (.ref ln) := by
  unfold bfl
  rw [lookup_putF, if_neg (by decide +kernel), lookup_putF, if_pos rfl]
theorem bfl_levels {L ln lv : Addr} : (bfl L ln lv).lookup ("levels" : Str) = some (.ref lv) := by
  unfold bfl
  rw [lookup_putF, if_pos rfl]
theorem bfl_no {L ln lv : Addr} {m : Str} (h1 : ¬ m = "ledger") (h2 : ¬ m = "lines") (h3 : ¬ m = "levels") : (bfl L ln lv).lookup m = none := by
  unfold bfl
  rw [lookup_putF, if_neg h3, lookup_putF, if_neg h2, lookup_putF, if_neg h1]
  rfl
/-- a book as it lies in the heap -/
structure BookAt (c : Cs) (H : Hp) (B L ln lv : Addr) (lvs : List Addr) (rows : List Str) (levels : List (List Nat)) : Prop where
  ob : ∃ dx, H B = some (.ins c.Book dx (bfl L ln lv))
  hln : H ln = some (.lst (rows.map V.str))
  hlv : H lv = some (.lst (lvs.map V.ref))
  hl : lvs.length = levels.length
  hs : ∀ (i : Nat) a x, lvs[i]? = some a → levels[i]? = some x → H a = some (.lst (x.map nv))
  nd : (ln :: lv :: lvs).Nodup
section
variable {K : PySem.W.Frag} {c : Cs} {H H' : Hp} {B L ln lv : Addr} {lvs : List Addr} {rows : List Str} {levels : List (List Nat)}
theorem BookAt.fp (b : BookAt c H B L ln lv lvs rows levels) : ∀ x ∈ ln :: lv :: lvs, ∃ ys, H x = some (.lst ys) := by
  intro x hx
  rcases List.mem_cons.mp hx with e | hx
  · subst e; exact ⟨_, b.hln⟩
  rcases List.mem_cons.mp hx with e | hx
  · subst e; exact ⟨_, b.hlv⟩
  obtain ⟨i, hi⟩ := List.mem_iff_getElem?.mp hx
  have h1 := get_lt hi
  rw [b.hl] at h1
  exact ⟨_, b.hs i x _ hi (List.getElem?_eq_getElem h1)⟩
theorem BookAt.notB (b : BookAt c H B L ln lv lvs rows levels) : B ∉ ln :: lv :: lvs := fun hx => by
  obtain ⟨ys, e⟩ := b.fp B hx
  obtain ⟨dx, h⟩ := b.ob
  rw [h] at e
  cases e
theorem BookAt.kp {S : List Addr} (b : BookAt c H B L ln lv lvs rows levels) (k : Kp S H H') (h : ∀ x ∈ S, x ∉ ln :: lv :: lvs) (hB : B ∉ S) : BookAt c H' B L ln lv lvs rows levels := by
  obtain ⟨dx, h1⟩ := b.ob
  refine ⟨⟨dx, k _ _ h1 hB⟩, k _ _ b.hln fun z => h _ z (by simp), k _ _ b.hlv fun z => h _ z (by simp), b.hl, fun i a x e1 e2 => k _ _ (b.hs i a x e1 e2) fun z => h _ z ?_, b.nd⟩
  exact List.mem_cons_of_mem _ (List.mem_cons_of_mem _ (List.mem_of_getElem? e1))
theorem BookAt.ex (b : BookAt c H B L ln lv lvs rows levels) (e : Ex H H') : BookAt c H' B L ln lv lvs rows levels := b.kp (S := []) (Kp.of_ex e) (fun _ z => nomatch z) (fun z => nomatch z)
/-- the rows are stored anew -/
theorem BookAt.lines {rows' : List Str} (b : BookAt c H B L ln lv lvs rows levels) : BookAt c (upd H ln (.lst (rows'.map V.str))) B L ln lv lvs rows' levels := by
  obtain ⟨dx, h1⟩ := b.ob
  have nd := b.nd
  rw [List.nodup_cons] at nd
  have nB : B ≠ ln := fun e => b.notB (by rw [e]; simp)
  refine ⟨⟨dx, by rw [upd_ne nB]; exact h1⟩, upd_same, ?_, b.hl, fun i a x e1 e2 => ?_, b.nd⟩
  · rw [upd_ne fun e => nd.1 (by rw [e]; simp)]; exact b.hlv
  · rw [upd_ne fun e => nd.1 (by rw [← e]; exact List.mem_cons_of_mem _ (List.mem_of_getElem? e1))]; exact b.hs i a x e1 e2
/-- a level is stored anew -/
theorem BookAt.level {i : Nat} {a : Addr} {x : List Nat} (b : BookAt c H B L ln lv lvs rows levels) (ha : lvs[i]? = some a) : BookAt c (upd H a (.lst (x.map nv))) B L ln lv lvs rows (levels.set i x) := by
  obtain ⟨dx, h1⟩ := b.ob
  have nd := b.nd
  rw [List.nodup_cons, List.nodup_cons] at nd
  have hm := List.mem_of_getElem? ha
  have nB : B ≠ a := fun e => b.notB (by rw [e]; exact List.mem_cons_of_mem _ (List.mem_cons_of_mem _ hm))
  refine ⟨⟨dx, by rw [upd_ne nB]; exact h1⟩, ?_, ?_, by rw [List.length_set]; exact b.hl, fun j a' y e1 e2 => ?_, b.nd⟩
  · rw [upd_ne fun e => nd.1 (by rw [e]; exact List.mem_cons_of_mem _ hm)]; exact b.hln
  · rw [upd_ne fun e => nd.2.1 (by rw [e]; exact hm)]; exact b.hlv
  · rw [List.getElem?_set] at e2
    by_cases q : i = j
    · subst q
      rw [ha] at e1
      cases e1
      rw [if_pos rfl] at e2
      split at e2
      · cases e2; exact upd_same
      · cases e2
    · rw [if_neg q] at e2
      have ne : a' ≠ a := fun e => by
        subst e
        exact q (nd_ix nd.2.2 ha e1)
      rw [upd_ne ne]
      exact b.hs j a' y e1 e2
/-- a level more -/
theorem BookAt.more {a : Addr} (b : BookAt c H B L ln lv lvs rows levels) (ha : H a = none) : BookAt c (upd (upd H a (.lst [])) lv (.lst (lvs.map V.ref ++ [.ref a]))) B L ln lv (lvs ++ [a]) rows (levels ++ [[]]) := by
  obtain ⟨dx, h1⟩ := b.ob
  have nd := b.nd
  rw [List.nodup_cons, List.nodup_cons] at nd
  have ne : ∀ {x : Addr} {o : HO}, H x = some o → x ≠ a := fun h => ne_of_none h ha
  have nB : B ≠ lv := fun e => b.notB (by rw [e]; simp)
  have na : a ∉ ln :: lv :: lvs := fun hx => by
    obtain ⟨ys, e⟩ := b.fp a hx
    rw [ha] at e
    cases e
  refine ⟨⟨dx, by rw [upd_ne nB, upd_ne (ne h1)]; exact h1⟩, ?_, ?_, by simp [b.hl], fun j a' y e1 e2 => ?_, ?_⟩
  · rw [upd_ne fun e => nd.1 (by rw [e]; simp), upd_ne (ne b.hln)]; exact b.hln
  · rw [upd_same, List.map_append]; rfl
  · rw [List.getElem?_append] at e1 e2
    rw [← b.hl] at e2
    by_cases q : j < lvs.length
    · rw [if_pos q] at e1 e2
      have h3 := b.hs j a' y e1 e2
      rw [upd_ne fun e => nd.2.1 (by rw [← e]; exact List.mem_of_getElem? e1), upd_ne (ne h3)]
      exact h3
    · rw [if_neg q] at e1 e2
      have q0 : j - lvs.length = 0 := by
        have := get_lt e1
        simp at this
        omega
      rw [q0] at e1 e2
      simp at e1 e2
      subst e1 e2
      rw [upd_ne fun e => na (by rw [e]; simp), upd_same]
      rfl
  · have : ln :: lv :: (lvs ++ [a]) = (ln :: lv :: lvs) ++ [a] := rfl
    rw [this]
    exact nd_snoc b.nd na
end
/-- a ledger and a book of it -/
structure BS (c : Cs) (H : Hp) (B L d l ln lv : Addr) (lvs : List Addr) (ths : List MK) (xs : List V) (rows : List Str) (levels : List (List Nat)) : Prop where
  la : LedgerAt c H L d l ths xs
  ba : BookAt c H B L ln lv lvs rows levels
  nd : (d :: l :: ln :: lv :: lvs).Nodup
section
variable {K : PySem.W.Frag} {c : Cs} {H H' : Hp} {B L d l ln lv : Addr} {lvs : List Addr} {ths : List MK} {xs : List V} {rows : List Str} {levels : List (List Nat)}
theorem BS.dl (S : BS c H B L d l ln lv lvs ths xs rows levels) : d ∉ ln :: lv :: lvs ∧ l ∉ ln :: lv :: lvs := by
  have nd := S.nd
  rw [List.nodup_cons, List.nodup_cons] at nd
  exact ⟨fun z => nd.1 (List.mem_cons_of_mem _ z), nd.2.1⟩
/-- behind the ledger's change -/
theorem BS.ledger (T : TxK K c) (S : BS c H B L d l ln lv lvs ths xs rows levels) {ths' : List MK} {xs' : List V} (L' : LedgerAt c H' L d l ths' xs') (k : Kp [d, l] H H') : BS c H' B L d l ln lv lvs ths' xs' rows levels := by
  refine ⟨L', S.ba.kp k (fun x hx => ?_) fun hB => ?_, S.nd⟩
  · rcases List.mem_cons.mp hx with e | e
    · rw [e]; exact S.dl.1
    · rw [List.mem_singleton.mp e]; exact S.dl.2
  · obtain ⟨dx, h1⟩ := S.ba.ob
    rcases List.mem_cons.mp hB with e | e
    · obtain ⟨φ, e2⟩ := T.md d (ents 0 ths xs)
      rw [e, S.la.dc, e2] at h1
      cases h1
    · have := S.la.ls
      rw [← List.mem_singleton.mp e, h1] at this
      cases this
/-- behind a store into one of the book's lists -/
theorem BS.book (T : TxK K c) (S : BS c H B L d l ln lv lvs ths xs rows levels) {rows' : List Str} {levels' : List (List Nat)} {a : Addr} {o : HO} (ha : a ∈ ln :: lv :: lvs) (B' : BookAt c (upd H a o) B L ln lv lvs rows' levels') : BS c (upd H a o) B L d l ln lv lvs ths xs rows' levels' := by
  refine ⟨S.la.kp T (S := ln :: lv :: lvs) (Kp.refl.set ha) fun x hx => ⟨fun e => S.dl.1 (e ▸ hx), fun e => S.dl.2 (e ▸ hx), fun u hu => ?_⟩, B', S.nd⟩
  obtain ⟨ys, h1⟩ := S.ba.fp x hx
  rw [h1] at hu
  cases hu
  exact ⟨ys, rfl⟩
theorem BS.more {a : Addr} (T : TxK K c) (S : BS c H B L d l ln lv lvs ths xs rows levels) (ha : H a = none) : BS c (upd (upd H a (.lst [])) lv (.lst (lvs.map V.ref ++ [.ref a]))) B L d l ln lv (lvs ++ [a]) ths xs rows (levels ++ [[]]) := by
  have na : a ∉ d :: l :: ln :: lv :: lvs := fun hx => by
    rcases List.mem_cons.mp hx with e | hx
    · rw [e, S.la.dc] at ha; cases ha
    rcases List.mem_cons.mp hx with e | hx
    · rw [e, S.la.ls] at ha; cases ha
    obtain ⟨ys, e⟩ := S.ba.fp a hx
    rw [e] at ha
    cases ha
  have nlv : lv ≠ a := fun e => na (by rw [← e]; simp)
  refine ⟨(S.la.ex (ex_new (o := .lst []) ex_refl ha)).kp T (S := [lv]) (Kp.refl.set (by simp)) fun x hx => ?_, S.ba.more ha, ?_⟩
  · rw [List.mem_singleton.mp hx]
    refine ⟨fun e => S.dl.1 (by rw [← e]; simp), fun e => S.dl.2 (by rw [← e]; simp), fun o ho => ?_⟩
    rw [upd_ne nlv, S.ba.hlv] at ho
    cases ho
    exact ⟨_, rfl⟩
  · have e : d :: l :: ln :: lv :: (lvs ++ [a]) = (d :: l :: ln :: lv :: lvs) ++ [a] := rfl
    rw [e]
    exact nd_snoc S.nd na
/-- what is not there is none of the book's -/
theorem BS.new {a : Addr} (S : BS c H B L d l ln lv lvs ths xs rows levels) (ha : H a = none) : a ∉ d :: l :: ln :: lv :: lvs := fun hx => by
  rcases List.mem_cons.mp hx with e | hx
  · rw [e, S.la.dc] at ha; cases ha
  rcases List.mem_cons.mp hx with e | hx
  · rw [e, S.la.ls] at ha; cases ha
  obtain ⟨ys, e⟩ := S.ba.fp a hx
  rw [e] at ha
  cases ha
theorem BS.ex (S : BS c H B L d l ln lv lvs ths xs rows levels) (e : Ex H H') : BS c H' B L d l ln lv lvs ths xs rows levels := ⟨S.la.ex e, S.ba.ex e, S.nd⟩
end
/-- the lists of a book, and what the ledger changes -/
abbrev fpS (d l ln lv : Addr) (lvs : List Addr) : List Addr := d :: l :: ln :: lv :: lvs
/-! ### the readings -/
def N_Book_half_sums : List Str := ["self", "height", "number", "below"]
def t_Book_half_sums (K : PySem.W.Frag) (c : Cs) (E : XK) : TS := (tSeq (tAsg (tOp (rIx K) (tFld K (tVar 0) "levels") (tOp rSubI (tVar 1) (tC (.int 1)))) (gName 3))
  (tRet (tMeth c.Ledger "of_pair" (sp_Ledger_of_pair K c) [] E0 (tFld K (tVar 0) "ledger") (tCons (tOp (rIx K) (tVar 3) (tOp rMul (tC (.int 2)) (tVar 2))) (tCons (tOp (rIx K) (tVar 3) (tOp rAddU (tOp rMul (tC (.int 2)) (tVar 2)) (tC (.int 1)))) tNil)))))
def sp_Book_half_sums (K : PySem.W.Frag) (c : Cs) : Sp := fun vs H Q _ => ∃ (B L d l ln lv : Addr) (lvs : List Addr) (ths : List MK) (xs : List V) (rows : List Str) (levels : List (List Nat)) (h j a b : Nat), vs = [.ref B, .int ((h + 1 : Nat) : Int), .int (j : Int)] ∧ BS c H B L d l ln lv lvs ths xs rows levels ∧ ths.length < 1000000 ∧
  (lev levels h)[2 * j]? = some a ∧ (lev levels h)[2 * j + 1]? = some b ∧ a < ths.length ∧ b < ths.length ∧
  ∀ H' xs', BS c H' B L d l ln lv lvs (ask ths (pk a b)) xs' rows levels → Kp [d, l] H H' → Q (.int (num (ask ths (pk a b)) (pk a b) : Nat)) H'
theorem len_Book_half_sums {K c} : ∀ vs H Q E, sp_Book_half_sums K c vs H Q E → vs.length = 3 := by rintro vs H Q E ⟨_, _, _, _, _, _, _, _, _, _, _, _, _, _, _, rfl, _⟩; rfl
theorem lev_at {levels : List (List Nat)} {h j a : Nat} (e : (lev levels h)[j]? = some a) : ∃ x, levels[h]? = some x ∧ x[j]? = some a := by
  rcases Nat.lt_or_ge h levels.length with q | q
  · have e2 := List.getElem?_eq_getElem q
    rw [lev_get e2] at e
    exact ⟨_, e2, e⟩
  · rw [lev_out q] at e
    simp at e
theorem pure_Book_half_sums {K : PySem.W.Frag} {c : Cs} {vs : List V} {H : Hp} {Q : VK} {E : XK} (T : TxK K c) (h : sp_Book_half_sums K c vs H Q E) : t_Book_half_sums K c E ⟨fun _ H' => Q .non H', Q, fun _ _ => False, fun _ _ => False⟩ (start N_Book_half_sums vs) H := by
  obtain ⟨B, L, d, l, ln, lv, lvs, ths, xs, rows, levels, h, j, a, b, rfl, S, hz, g1, g2, ha, hb, k⟩ := h
  show t_Book_half_sums K c E _ [some (.ref B), some (.int ((h + 1 : Nat) : Int)), some (.int (j : Int)), none] H
  unfold t_Book_half_sums
  obtain ⟨dx, hB⟩ := S.ba.ob
  obtain ⟨dy, hL⟩ := S.la.ob
  obtain ⟨x, x1, x2⟩ := lev_at g1
  obtain ⟨x', x3, x4⟩ := lev_at g2
  rw [x1] at x3
  cases x3
  have hv := S.ba.hl
  obtain ⟨A, hA⟩ : ∃ A, lvs[h]? = some A := ⟨_, List.getElem?_eq_getElem (by rw [hv]; exact get_lt x1)⟩
  have hx := S.ba.hs h A x hA x1
  walk_at "s"
  refine w_fldAt hB T.cBook T.n_Book_levels bfl_levels ?_
  walk_at "s"
  refine w_ixL (sql S.ba.hlv) (at_of (j := h) (v := .ref A) (by omega) (by rw [List.getElem?_map, hA]; rfl)) ?_
  walk_at "s"
  refine w_fldAt hB T.cBook T.n_Book_ledger bfl_ledger ?_
  refine w_methAt hL (lfl_no (by decide +kernel) (by decide +kernel)) ?_
  walk_at "s"
  refine w_ixL (sql hx) (at_of (j := 2 * j) (v := nv a) (by push_cast; rfl) (by rw [List.getElem?_map, x2]; rfl)) ?_
  walk_at "s"
  refine w_ixL (sql hx) (at_of (j := 2 * j + 1) (v := nv b) (by push_cast; rfl) (by rw [List.getElem?_map, x4]; rfl)) ?_
  walk_at "s"
  refine ⟨L, d, l, ths, xs, nv a, nv b, true, true, rfl, S.la, whole_of_num ⟨a, rfl, ha⟩, whole_of_num ⟨b, rfl, hb⟩, hz, fun i1 j1 e1 e2 _ _ H' xs' L' kp => ?_, fun n => absurd ⟨⟨a, rfl, ha⟩, ⟨b, rfl, hb⟩⟩ n⟩
  have e1 : i1 = a := by have := V.int.inj e1; omega
  have e2 : j1 = b := by have := V.int.inj e2; omega
  subst e1 e2
  exact k H' xs' (S.ledger T L' kp) kp
def N_Book_sure : List Str := ["self", "place"]
def t_Book_sure (K : PySem.W.Frag) (c : Cs) (E : XK) : TS := (tIfS (tOr (tNot (tB (tCall (sp_is_whole K c) [] E (tCons (tVar 1) tNil)))) (tNot (tTest (tChain rLe rLt (tC (.int 0)) (tVar 1) (tCB (Ts.rLen K) (tCons (tFld K (tVar 0) "lines") tNil)))))) (tRaiseX c.NoPlace (fun cls d _ H => E cls d H)) tNext)
def sp_Book_sure (K : PySem.W.Frag) (c : Cs) : Sp := fun vs H Q E => ∃ (B L ln lv : Addr) (lvs : List Addr) (rows : List Str) (levels : List (List Nat)) (v : V) (b : Bool), vs = [.ref B, v] ∧ BookAt c H B L ln lv lvs rows levels ∧ isWholeV K H v b ∧ rows.length ≤ 100000 ∧ (NumV rows.length v → Q .non H) ∧ (¬ NumV rows.length v → E (.ref c.NoPlace) none H)
theorem len_Book_sure {K c} : ∀ vs H Q E, sp_Book_sure K c vs H Q E → vs.length = 2 := by rintro vs H Q E ⟨_, _, _, _, _, _, _, _, _, rfl, _⟩; rfl
theorem pure_Book_sure {K : PySem.W.Frag} {c : Cs} {vs : List V} {H : Hp} {Q : VK} {E : XK} (T : TxK K c) (h : sp_Book_sure K c vs H Q E) : t_Book_sure K c E ⟨fun _ H' => Q .non H', Q, fun _ _ => False, fun _ _ => False⟩ (start N_Book_sure vs) H := by
  obtain ⟨B, L, ln, lv, lvs, rows, levels, v, b, rfl, S, hw, hz, k1, k2⟩ := h
  show t_Book_sure K c E _ [some (.ref B), some v] H
  unfold t_Book_sure
  obtain ⟨dx, hB⟩ := S.ob
  walk_at "s"
  refine ⟨v, b, rfl, hw, ?_⟩
  walk_at "s"
  refine ite_nb (fun hb => ?_) fun hb => ?_
  · refine iteT ?_
    walk_at "s"
    refine k2 fun ⟨i, e, _⟩ => ?_
    subst e
    rcases hw with ⟨_, _, z⟩ | ⟨x, z, _⟩ | ⟨x, z, _⟩ | ⟨z, _⟩ | ⟨a, ys, z, _⟩
    · rw [hb] at z; cases z
    all_goals exact nomatch z
  · subst hb
    obtain ⟨i, rfl⟩ : ∃ i, v = .int i := by
      rcases hw with ⟨i, z, _⟩ | ⟨x, _, z⟩ | ⟨x, _, z⟩ | ⟨_, z⟩ | ⟨a, ys, _, _, z⟩
      · exact ⟨i, z⟩
      all_goals cases z
    walk_at "s"
    refine ite_d (fun h0 => ?_) fun h0 => ?_
    · walk_at "s"
      refine w_fldAt hB T.cBook T.n_Book_lines bfl_lines ?_
      walk_at "s"
      refine w_lenL (sql S.hln) ?_
      rw [List.length_map]
      walk_at "s"
      refine ite_nd (fun h1 => ?_) fun h1 => ?_
      · walk_at "s"
        refine k2 fun ⟨n, e, hn⟩ => ?_
        cases e
        omega
      · walk_at "s"
        refine k1 ⟨i.toNat, by congr 1; omega, by omega⟩
    · walk_at "s"
      refine iteT ?_
      walk_at "s"
      refine k2 fun ⟨n, e, hn⟩ => ?_
      cases e
      omega
end Tw

namespace Tw
open PySem L2 Ts Mix
/-- the level that is to be written stands -/
def mid (levels : List (List Nat)) (h : Nat) : List (List Nat) := if h = levels.length then levels ++ [[]] else levels
theorem mid_add {levels : List (List Nat)} {h x : Nat} (hh : h ≤ levels.length) : (mid levels h).set h (lev levels h ++ [x]) = addAt levels h x := by
  unfold mid addAt
  by_cases e : h = levels.length
  · rw [if_pos e, if_pos e, lev_out (by omega), e]
    simp
  · rw [if_neg e, if_neg e]
theorem mid_lev {levels : List (List Nat)} {h : Nat} (hh : h ≤ levels.length) : (mid levels h)[h]? = some (lev levels h) := by
  unfold mid
  by_cases e : h = levels.length
  · rw [if_pos e, lev_out (by omega), e]
    simp
  · rw [if_neg e]
    unfold lev
    rw [List.getD_eq_getElem?_getD, List.getElem?_eq_getElem (by omega)]
    rfl
theorem growL_bound : ∀ (f h size found : Nat) (ths : List MK) (levels : List (List Nat)), 0 < size → size ≤ f → (growL f h size found ths levels).1.length ≤ ths.length + ((growL f h size found ths levels).2.2 - h - 1) ∧ h + 1 ≤ (growL f h size found ths levels).2.2
  | 0, h, _, _, ths, levels, h1, h2 => by omega
  | f + 1, h, size, found, ths, levels, p1, p2 => by
    unfold growL
    split
    · exact ⟨by show ths.length ≤ _; omega, Nat.le_refl _⟩
    · generalize hk : pk ((lev (addAt levels h found) h).getD (size - 2) 0) ((lev (addAt levels h found) h).getD (size - 1) 0) = k
      obtain ⟨h1, h2⟩ := growL_bound f (h + 1) (size / 2) (num (ask ths k) k) (ask ths k) (addAt levels h found) (by omega) (by omega)
      have h3 := ask_len ths k
      generalize growL f (h + 1) (size / 2) (num (ask ths k) k) (ask ths k) (addAt levels h found) = g at *
      exact ⟨by omega, by omega⟩
theorem growL_pre : ∀ (f h size found : Nat) (ths : List MK) (levels : List (List Nat)), ths <+: (growL f h size found ths levels).1
  | 0, h, _, _, ths, levels => List.prefix_refl _
  | f + 1, h, size, found, ths, levels => by
    unfold growL
    split
    · exact List.prefix_refl _
    · exact (ask_pre _ _).trans (growL_pre f _ _ _ _ _)
/-- a place lies in just n of the blocks of cnt rows -/
def IsBc (cnt place n : Nat) : Prop := (∀ h, h < n → (place / 2 ^ h + 1) * 2 ^ h ≤ cnt) ∧ ¬ (place / 2 ^ n + 1) * 2 ^ n ≤ cnt
theorem GInv.bc {ths : List MK} {rows : List Str} {h size found : Nat} {levels : List (List Nat)} (G : GInv ths rows h size found levels) (odd : size % 2 = 1) : IsBc rows.length (rows.length - 1) (h + 1) := by
  have hp := G.pos
  have hn : 0 < rows.length := by rw [G.n]; exact Nat.mul_pos hp (Nat.two_pow_pos _)
  -- 2 ^ k divides the count just for k up to h
  have key : ∀ k, (rows.length - 1) / 2 ^ k * 2 ^ k + 2 ^ k ≤ rows.length ↔ rows.length % 2 ^ k = 0 := fun k => by
    have h1 := Nat.div_add_mod rows.length (2 ^ k)
    have h2 := Nat.mod_lt rows.length (Nat.two_pow_pos k)
    constructor
    · intro q
      rcases Nat.eq_zero_or_pos (rows.length % 2 ^ k) with z | z
      · exact z
      · rw [half_odd hn (by omega), Nat.mul_comm] at q
        omega
    · intro q
      obtain ⟨m, hm⟩ := Nat.dvd_of_mod_eq_zero q
      have m0 : 0 < m := by
        rcases Nat.eq_zero_or_pos m with z | z
        · rw [z, Nat.mul_zero] at hm; omega
        · exact z
      obtain ⟨m', rfl⟩ : ∃ m', m = m' + 1 := ⟨m - 1, by omega⟩
      have e : rows.length - 1 = 2 ^ k * m' + (2 ^ k - 1) := by
        rw [hm, Nat.mul_add, Nat.mul_one]
        have := Nat.two_pow_pos k
        omega
      rw [e, Nat.mul_add_div (Nat.two_pow_pos k), Nat.div_eq_of_lt (by have := Nat.two_pow_pos k; omega), Nat.add_zero, hm, Nat.mul_add, Nat.mul_one, Nat.mul_comm]
      exact Nat.le_refl _
  refine ⟨fun k hk => ?_, fun z => ?_⟩
  · rw [Nat.add_mul, Nat.one_mul]
    refine (key k).mpr ?_
    refine Nat.mod_eq_zero_of_dvd ?_
    rw [G.n]
    exact Nat.dvd_trans (Nat.pow_dvd_pow 2 (by omega)) (Nat.dvd_mul_left _ _)
  · rw [Nat.add_mul, Nat.one_mul] at z
    have d1 := Nat.dvd_of_mod_eq_zero ((key (h + 1)).mp z)
    rw [G.n, Nat.pow_succ, Nat.mul_comm size] at d1
    have := Nat.dvd_of_mul_dvd_mul_left (Nat.two_pow_pos h) d1
    omega
/-- the lists of a book may have become more -/
def Wider (H : Hp) (lvs lvs' : List Addr) : Prop := lvs <+: lvs' ∧ ∀ x ∈ lvs', x ∈ lvs ∨ H x = none
def N_Book_grow : List Str := ["self", "row", "size", "height", "found"]
def t_Book_grow (K : PySem.W.Frag) (c : Cs) (E : XK) : TS := (tSeq (tDrop (tBM K "list" rAppend (tFld K (tVar 0) "lines") (tCons (tVar 1) tNil)))
  (tSeq (tAsg (tCB (Ts.rLen K) (tCons (tFld K (tVar 0) "lines") tNil)) (gName 2))
  (tSeq (tAsg (tC (.int 0)) (gName 3))
  (tSeq (tAsg (tMeth c.Ledger "of_row" (sp_Ledger_of_row K c) [] E0 (tFld K (tVar 0) "ledger") (tCons (tVar 1) tNil)) (gName 4))
  (tWhile (tB (tC (.bl true))) (Evl.tCut (tIfS (tTest (tOp (rEqU K) (tVar 3) (tCB (Ts.rLen K) (tCons (tFld K (tVar 0) "levels") tNil)))) (tDrop (tBM K "list" rAppend (tFld K (tVar 0) "levels") (tCons (tLst tNil) tNil))) tNext)
  (tSeq (tDrop (tBM K "list" rAppend (tOp (rIx K) (tFld K (tVar 0) "levels") (tVar 3)) (tCons (tVar 4) tNil)))
  (tSeq (tIfS (tTest (tOp (rEqU K) (tOp rMod (tVar 2) (tC (.int 2))) (tC (.int 1)))) (tRet (tOp rAddU (tVar 3) (tC (.int 1)))) tNext)
  (tSeq (tAsg (tOp rDiv (tVar 2) (tC (.int 2))) (gName 2))
  (tSeq (tAsg (tOp rAddU (tVar 3) (tC (.int 1))) (gName 3))
  (tAsg (tMeth c.Book "half_sums" (sp_Book_half_sums K c) [] E0 (tVar 0) (tCons (tVar 3) (tCons (tOp rSubI (tVar 2) (tC (.int 1))) tNil))) (gName 4))))))))))))
def sp_Book_grow (K : PySem.W.Frag) (c : Cs) : Sp := fun vs H Q _ => ∃ (B L d l ln lv : Addr) (lvs : List Addr) (ths : List MK) (xs : List V) (rows : List Str) (levels : List (List Nat)) (z : Str), vs = [.ref B, .str z] ∧ BS c H B L d l ln lv lvs ths xs rows levels ∧ BookInv ths rows levels ∧ Good z ∧
  rows.length < 100000 ∧ ths.length < 900000 ∧
  ∀ H' xs' lvs', BS c H' B L d l ln lv lvs' (growM ths rows levels z).1 xs' (rows ++ [z]) (growM ths rows levels z).2.1 → BookInv (growM ths rows levels z).1 (rows ++ [z]) (growM ths rows levels z).2.1 → IsBc (rows.length + 1) rows.length (growM ths rows levels z).2.2 →
    Kp (fpS d l ln lv lvs) H H' → Wider H lvs lvs' → Q (.int ((growM ths rows levels z).2.2 : Nat)) H'
theorem len_Book_grow {K c} : ∀ vs H Q E, sp_Book_grow K c vs H Q E → vs.length = 2 := by rintro vs H Q E ⟨_, _, _, _, _, _, _, _, _, _, _, _, rfl, _⟩; rfl
/-- what the loop keeps -/
structure GrowAt (c : Cs) (H H' : Hp) (B L d l ln lv : Addr) (lvs : List Addr) (ths : List MK) (rows : List Str) (levels : List (List Nat)) (z : Str) (h size found : Nat) : Prop where
  ex : ∃ (f : Nat) (lvs1 : List Addr) (ths1 : List MK) (xs1 : List V) (levels1 : List (List Nat)), BS c H' B L d l ln lv lvs1 ths1 xs1 (rows ++ [z]) levels1 ∧ GInv ths1 (rows ++ [z]) h size found levels1 ∧ Kp (fpS d l ln lv lvs) H H' ∧ Wider H lvs lvs1 ∧
    growL f h size found ths1 levels1 = growM ths rows levels z ∧ size ≤ f ∧ ths1.length ≤ ths.length + 1 + h
theorem GInv.low {ths : List MK} {rows : List Str} {h size found : Nat} {levels : List (List Nat)} (G : GInv ths rows h size found levels) (hr : rows.length ≤ 100000) : h ≤ 16 := by
  rcases Nat.lt_or_ge 16 h with q | q
  · have h1 : 2 ^ 17 ≤ 2 ^ h := Nat.pow_le_pow_right (by decide) (by omega)
    have h2 : 2 ^ h ≤ rows.length := by rw [G.n]; exact Nat.le_mul_of_pos_left _ G.pos
    have h3 : (2 : Nat) ^ 17 = 131072 := by decide
    omega
  · exact q
theorem pure_Book_grow {K : PySem.W.Frag} {c : Cs} {vs : List V} {H : Hp} {Q : VK} {E : XK} (T : TxK K c) (h : sp_Book_grow K c vs H Q E) : t_Book_grow K c E ⟨fun _ H' => Q .non H', Q, fun _ _ => False, fun _ _ => False⟩ (start N_Book_grow vs) H := by
  obtain ⟨B, L, d, l, ln, lv, lvs, ths, xs, rows, levels, z, rfl, S, I, hg, hr, hz, k⟩ := h
  show t_Book_grow K c E _ [some (.ref B), some (.str z), none, none, none] H
  unfold t_Book_grow
  obtain ⟨dx, hB⟩ := S.ba.ob
  have hnl : (rows ++ [z]).length = rows.length + 1 := by simp
  walk_at "s"
  refine w_fldAt hB T.cBook T.n_Book_lines bfl_lines ?_
  refine ⟨w_tyL (sql S.ba.hln), ?_⟩
  walk_at "s"
  refine w_app S.ba.hln (by rw [List.length_map]; exact szL (by omega)) ?_
  walk_at "s"
  have S1 : BS c (upd H ln (.lst (rows.map V.str ++ [.str z]))) B L d l ln lv lvs ths xs (rows ++ [z]) levels := by
    have e : rows.map V.str ++ [.str z] = (rows ++ [z]).map V.str := by rw [List.map_append]; rfl
    rw [e]
    exact S.book T (by simp) S.ba.lines
  have k1 : Kp (fpS d l ln lv lvs) H (upd H ln (.lst (rows.map V.str ++ [.str z]))) := Kp.refl.set (by simp)
  generalize upd H ln (.lst (rows.map V.str ++ [.str z])) = H1 at S1 k1
  obtain ⟨dx1, hB1⟩ := S1.ba.ob
  refine w_fldAt hB1 T.cBook T.n_Book_lines bfl_lines ?_
  walk_at "s"
  refine w_lenL (sql S1.ba.hln) ?_
  rw [List.length_map, hnl]
  walk_at "s"
  refine w_fldAt hB1 T.cBook T.n_Book_ledger bfl_ledger ?_
  obtain ⟨dy, hL1⟩ := S1.la.ob
  refine w_methAt hL1 (lfl_no (by decide +kernel) (by decide +kernel)) ?_
  walk_at "s"
  refine ⟨L, d, l, ths, xs, .str z, rfl, S1.la, rowV_good hg, by omega, fun z' ez _ H2 xs2 L2 kp2 => ?_, fun n => absurd ⟨z, rfl, hg⟩ n⟩
  cases ez
  walk_at "s"
  refine w_while (fun σ H' => ∃ h size found : Nat, σ = [some (.ref B), some (.str z), some (.int (size : Nat)), some (.int (h : Nat)), some (.int (found : Nat))] ∧ GrowAt c H H' B L d l ln lv lvs ths rows levels z h size found)
    (fun σ _ => match σ with | [_, _, some (.int m), _, _] => m.toNat | _ => 0) ?_ ?_
  · refine ⟨0, rows.length + 1, _, rfl, rows.length + 1, lvs, ask ths (.row z), xs2, levels, S1.ledger T L2 kp2, GInv.start I z, ?_, ⟨List.prefix_refl _, fun x hx => .inl hx⟩, rfl, Nat.le_refl _, by have := ask_len ths (.row z); omega⟩
    exact k1.trans (kp2.mono fun x hx => by
      rcases List.mem_cons.mp hx with e | e
      · rw [e]; simp
      · rw [List.mem_singleton.mp e]; simp)
  · rintro σ H3 ⟨h, size, found, rfl, f, lvs1, ths1, xs1, levels1, S3, G, k3, w3, eg, hf, hb⟩
    have hle := G.le
    have hlow := G.low (by omega)
    walk_at "s"
    refine iteT ?_
    refine w_wN ?_
    obtain ⟨dx3, hB3⟩ := S3.ba.ob
    walk_at "s"
    -- the level is there, or a new one
    refine w_cut (Mid := fun σ' H' => σ' = [some (.ref B), some (.str z), some (.int (size : Nat)), some (.int (h : Nat)), some (.int (found : Nat))] ∧ ∃ lvs2, BS c H' B L d l ln lv lvs2 ths1 xs1 (rows ++ [z]) (mid levels1 h) ∧ Kp (fpS d l ln lv lvs) H H' ∧ Wider H lvs lvs2) ?_ ?_
    · walk_at "s"
      refine w_fldAt hB3 T.cBook T.n_Book_levels bfl_levels ?_
      walk_at "s"
      refine w_lenL (sql S3.ba.hlv) ?_
      rw [List.length_map, S3.ba.hl]
      walk_at "s"
      refine ite_d (fun h0 => ?_) fun h0 => ?_
      · have h0 : h = levels1.length := by omega
        walk_at "s"
        refine w_fldAt hB3 T.cBook T.n_Book_levels bfl_levels ?_
        refine ⟨w_tyL (sql S3.ba.hlv), ?_⟩
        walk_at "s"
        refine ⟨Nat.zero_le _, fun a ha => ?_⟩
        walk_at "s"
        have nlv : lv ≠ a := ne_of_none S3.ba.hlv ha
        refine w_app (by rw [upd_ne nlv]; exact S3.ba.hlv) (by rw [List.length_map, S3.ba.hl]; exact szL (by omega)) ?_
        have aH : H a = none := by
          cases q : H a with
          | none => rfl
          | some o =>
            have := k3 a o q fun hx => S3.new ha (by
              rcases List.mem_cons.mp hx with e | hx
              · rw [e]; simp
              rcases List.mem_cons.mp hx with e | hx
              · rw [e]; simp
              rcases List.mem_cons.mp hx with e | hx
              · rw [e]; simp
              rcases List.mem_cons.mp hx with e | hx
              · rw [e]; simp
              · exact List.mem_cons_of_mem _ (List.mem_cons_of_mem _ (List.mem_cons_of_mem _ (List.mem_cons_of_mem _ (w3.1.subset hx)))))
            rw [ha] at this
            cases this
        refine ⟨rfl, lvs1 ++ [a], ?_, (k3.new ha).set (by simp), w3.1.trans (List.prefix_append _ _), fun x hx => ?_⟩
        · unfold mid
          rw [if_pos h0]
          exact S3.more T ha
        · rcases List.mem_append.mp hx with r | r
          · exact w3.2 x r
          · rw [List.mem_singleton.mp r]
            exact .inr aH
      · walk_at "s"
        refine ⟨rfl, lvs1, ?_, k3, w3⟩
        unfold mid
        rw [if_neg fun e => h0 (by omega)]
        exact S3
    · rintro σ H4 ⟨rfl, lvs2, S4, k4, w4⟩
      obtain ⟨dx4, hB4⟩ := S4.ba.ob
      have hm := mid_lev (levels := levels1) hle
      obtain ⟨A, hA⟩ : ∃ A, lvs2[h]? = some A := ⟨_, List.getElem?_eq_getElem (by rw [S4.ba.hl]; exact get_lt hm)⟩
      have hx := S4.ba.hs h A _ hA hm
      have hlev := G.here
      have hsz : size ≤ rows.length + 1 := by
        have := G.n
        rw [hnl] at this
        have h2 := Nat.two_pow_pos h
        rw [this]
        exact Nat.le_mul_of_pos_right _ h2
      walk_at "s"
      refine w_fldAt hB4 T.cBook T.n_Book_levels bfl_levels ?_
      walk_at "s"
      refine w_ixL (sql S4.ba.hlv) (atI_nat (v := .ref A) (by rw [List.getElem?_map, hA]; rfl)) ?_
      refine ⟨w_tyL (sql hx), ?_⟩
      walk_at "s"
      refine w_app hx (by rw [List.length_map]; exact szL (by omega)) ?_
      have hA2 : A ∈ ln :: lv :: lvs2 := List.mem_cons_of_mem _ (List.mem_cons_of_mem _ (List.mem_of_getElem? hA))
      have S5 : BS c (upd H4 A (.lst ((lev levels1 h).map nv ++ [.int (found : Nat)]))) B L d l ln lv lvs2 ths1 xs1 (rows ++ [z]) (addAt levels1 h found) := by
        have e : (lev levels1 h).map nv ++ [.int (found : Nat)] = (lev levels1 h ++ [found]).map nv := by rw [List.map_append]; rfl
        rw [e, ← mid_add hle]
        exact S4.book T hA2 (S4.ba.level hA)
      have k5 : Kp (fpS d l ln lv lvs) H (upd H4 A (.lst ((lev levels1 h).map nv ++ [.int (found : Nat)]))) := by
        rcases w4.2 A (List.mem_of_getElem? hA) with r | r
        · exact k4.set (by simp [r])
        · exact k4.fresh r
      generalize upd H4 A (.lst ((lev levels1 h).map nv ++ [.int (found : Nat)])) = H5 at S5 k5
      walk_at "s"
      refine ite_d (fun h0 => ?_) fun h0 => ?_
      · have odd : size % 2 = 1 := by omega
        walk_at "s"
        cases f with
        | zero => have := G.pos; omega
        | succ f =>
          have eg2 := eg
          unfold growL at eg2
          rw [if_pos odd] at eg2
          have I5 := G.stop odd
          have bc := G.bc odd
          rw [hnl, Nat.add_sub_cancel] at bc
          rw [show ((h : Nat) : Int) + 1 = ((h + 1 : Nat) : Int) by push_cast; rfl]
          have := k H5 xs1 lvs2
          rw [← eg2] at this
          exact this S5 I5 bc k5 w4
      · have even : ¬ size % 2 = 1 := by omega
        obtain ⟨a, b, g1, g2, d1, d2, e1, e2⟩ := G.two even
        have hp := G.pos
        walk_at "s"
        obtain ⟨dx5, hB5⟩ := S5.ba.ob
        refine w_methAt hB5 (bfl_no (by decide +kernel) (by decide +kernel) (by decide +kernel)) ?_
        walk_at "s"
        have i1 : ((h : Nat) : Int) + 1 = ((h + 1 : Nat) : Int) := by push_cast; rfl
        have i3 : ((size : Nat) : Int) / 2 - 1 = ((size / 2 - 1 : Nat) : Int) := by omega
        rw [i1, i3]
        refine ⟨B, L, d, l, ln, lv, lvs2, ths1, xs1, rows ++ [z], addAt levels1 h found, h, size / 2 - 1, a, b, rfl, S5, by omega, by rw [show 2 * (size / 2 - 1) = size - 2 by omega]; exact g1, by rw [show 2 * (size / 2 - 1) + 1 = size - 1 by omega]; exact g2, d1.lt, d2.lt, fun H6 xs6 S6 kp6 => ?_⟩
        walk_at "s"
        cases f with
        | zero => omega
        | succ f =>
          have eg2 := eg
          unfold growL at eg2
          rw [if_neg even, e1, e2] at eg2
          have al := ask_len ths1 (pk a b)
          refine ⟨⟨h + 1, size / 2, _, ?_, f, lvs2, ask ths1 (pk a b), xs6, addAt levels1 h found, S6, G.next even d1 d2, k5.trans (kp6.mono fun x hx => ?_), w4, eg2, by omega, by omega⟩, ?_⟩
          · rw [show ((size : Nat) : Int) / 2 = ((size / 2 : Nat) : Int) by omega]
          · rcases List.mem_cons.mp hx with e | e
            · rw [e]; simp
            · rw [List.mem_singleton.mp e]; simp
          · show (((size : Nat) : Int) / 2).toNat < ((size : Nat) : Int).toNat
            omega
end Tw

namespace Tw
open PySem L2 Ts Mix
/-! putting: the levels from below -/
def putL : Nat → Nat → Nat → List MK → List (List Nat) → List MK × List (List Nat) × Nat
  | 0, h, _, ths, levels => (ths, levels, h)
  | f + 1, h, j, ths, levels =>
    if h < levels.length ∧ j < (lev levels h).length then
      putL f (h + 1) (j / 2) (ask ths (pk ((lev levels (h - 1)).getD (2 * j) 0) ((lev levels (h - 1)).getD (2 * j + 1) 0)))
        (levels.set h ((lev levels h).set j (num (ask ths (pk ((lev levels (h - 1)).getD (2 * j) 0) ((lev levels (h - 1)).getD (2 * j + 1) 0))) (pk ((lev levels (h - 1)).getD (2 * j) 0) ((lev levels (h - 1)).getD (2 * j + 1) 0)))))
    else (ths, levels, h)
def putM (ths : List MK) (levels : List (List Nat)) (place : Nat) (z : Str) : List MK × List (List Nat) × Nat :=
  putL (levels.length + 1) 1 (place / 2) (ask ths (.row z)) (levels.set 0 ((lev levels 0).set place (num (ask ths (.row z)) (.row z))))
theorem putL_bound : ∀ (f h j : Nat) (ths : List MK) (levels : List (List Nat)), (putL f h j ths levels).1.length ≤ ths.length + ((putL f h j ths levels).2.2 - h) ∧ h ≤ (putL f h j ths levels).2.2
  | 0, h, _, ths, levels => ⟨Nat.le_add_right _ _, Nat.le_refl _⟩
  | f + 1, h, j, ths, levels => by
    unfold putL
    split
    · generalize hk : pk ((lev levels (h - 1)).getD (2 * j) 0) ((lev levels (h - 1)).getD (2 * j + 1) 0) = k
      obtain ⟨h1, h2⟩ := putL_bound f (h + 1) (j / 2) (ask ths k) (levels.set h ((lev levels h).set j (num (ask ths k) k)))
      have h3 := ask_len ths k
      generalize putL f (h + 1) (j / 2) (ask ths k) (levels.set h ((lev levels h).set j (num (ask ths k) k))) = g at *
      exact ⟨by omega, by omega⟩
    · exact ⟨Nat.le_add_right _ _, Nat.le_refl _⟩
theorem putL_pre : ∀ (f h j : Nat) (ths : List MK) (levels : List (List Nat)), ths <+: (putL f h j ths levels).1
  | 0, _, _, _, _ => List.prefix_refl _
  | f + 1, h, j, ths, levels => by
    unfold putL
    split
    · exact (ask_pre _ _).trans (putL_pre f _ _ _ _)
    · exact List.prefix_refl _
/-- ahead of a turn at height h: below it all is done; from it on all but the block that has the place -/
structure PInv (ths : List MK) (rows : List Str) (place h : Nat) (levels : List (List Nat)) : Prop where
  pl : place < rows.length
  len : ∀ k, (lev levels k).length = rows.length / 2 ^ k
  lo : ∀ k j x, k < h → (lev levels k)[j]? = some x → Den ths k x (blk rows k j)
  hi : ∀ k j x, h ≤ k → j ≠ place / 2 ^ k → (lev levels k)[j]? = some x → Den ths k x (blk rows k j)
  lt : h ≤ levels.length
section
variable {ths : List MK} {rows : List Str} {place h : Nat} {levels : List (List Nat)}
theorem PInv.stop (G : PInv ths rows place h levels) (q : ¬ (h < levels.length ∧ place / 2 ^ h < (lev levels h).length)) : BookInv ths rows levels := by
  refine ⟨G.len, fun k j x e => ?_⟩
  rcases Nat.lt_or_ge k h with r | r
  · exact G.lo k j x r e
  · refine G.hi k j x r (fun z => ?_) e
    have h1 := get_lt e
    have h2 : k < levels.length := by
      rcases Nat.lt_or_ge k levels.length with w | w
      · exact w
      · rw [lev_out w] at h1; simp at h1
    apply q
    refine ⟨by omega, ?_⟩
    rw [G.len, z] at h1
    rw [G.len]
    have h3 := (lt_div_iff (j := place / 2 ^ k) (n := rows.length) (h := k)).mp h1
    refine lt_div_iff.mpr ?_
    obtain ⟨t, rfl⟩ : ∃ t, k = h + t := ⟨k - h, by omega⟩
    have e1 : place / 2 ^ (h + t) = place / 2 ^ h / 2 ^ t := by rw [Nat.pow_add, Nat.div_div_eq_div_mul]
    rw [e1, Nat.pow_add, Nat.mul_comm (2 ^ h), ← Nat.mul_assoc] at h3
    refine Nat.le_trans (Nat.mul_le_mul_right _ ?_) h3
    have h4 := Nat.div_add_mod (place / 2 ^ h) (2 ^ t)
    have h5 := Nat.mod_lt (place / 2 ^ h) (Nat.two_pow_pos t)
    rw [Nat.add_mul, Nat.one_mul, Nat.mul_comm]
    omega
theorem PInv.two (G : PInv ths rows place (h + 1) levels) (q : place / 2 ^ (h + 1) < (lev levels (h + 1)).length) : ∃ a b, (lev levels h)[2 * (place / 2 ^ (h + 1))]? = some a ∧ (lev levels h)[2 * (place / 2 ^ (h + 1)) + 1]? = some b ∧
    Den ths h a (blk rows h (2 * (place / 2 ^ (h + 1)))) ∧ Den ths h b (blk rows h (2 * (place / 2 ^ (h + 1)) + 1)) ∧ (lev levels h).getD (2 * (place / 2 ^ (h + 1))) 0 = a ∧ (lev levels h).getD (2 * (place / 2 ^ (h + 1)) + 1) 0 = b := by
  generalize place / 2 ^ (h + 1) = j at *
  rw [G.len, lt_div_iff, Nat.pow_succ] at q
  have q2 : 2 * j + 1 < (lev levels h).length := by
    rw [G.len, lt_div_iff]
    have : (2 * j + 1 + 1) * 2 ^ h = (j + 1) * (2 ^ h * 2) := by rw [show 2 * j + 1 + 1 = (j + 1) * 2 by omega, Nat.mul_assoc, Nat.mul_comm 2]
    omega
  have g1 : (lev levels h)[2 * j]? = some ((lev levels h)[2 * j]'(by omega)) := List.getElem?_eq_getElem _
  have g2 : (lev levels h)[2 * j + 1]? = some ((lev levels h)[2 * j + 1]'(by omega)) := List.getElem?_eq_getElem _
  refine ⟨_, _, g1, g2, G.lo _ _ _ (Nat.lt_succ_self h) g1, G.lo _ _ _ (Nat.lt_succ_self h) g2, ?_, ?_⟩
  · rw [List.getD_eq_getElem?_getD, g1]; rfl
  · rw [List.getD_eq_getElem?_getD, g2]; rfl
theorem PInv.next (G : PInv ths rows place (h + 1) levels) (q : h + 1 < levels.length) {a b : Nat} (d1 : Den ths h a (blk rows h (2 * (place / 2 ^ (h + 1))))) (d2 : Den ths h b (blk rows h (2 * (place / 2 ^ (h + 1)) + 1))) :
    PInv (ask ths (pk a b)) rows place (h + 2) (levels.set (h + 1) ((lev levels (h + 1)).set (place / 2 ^ (h + 1)) (num (ask ths (pk a b)) (pk a b)))) := by
  refine ⟨G.pl, fun k => ?_, fun k j x hk e => ?_, fun k j x hk hj e => ?_, by rw [List.length_set]; omega⟩
  · rw [lev_set q]
    by_cases w : k = h + 1
    · rw [if_pos w, List.length_set, w]; exact G.len _
    · rw [if_neg w]; exact G.len k
  · rw [lev_set q] at e
    by_cases w : k = h + 1
    · subst w
      rw [if_pos rfl, List.getElem?_set] at e
      by_cases r : place / 2 ^ (h + 1) = j
      · rw [if_pos r] at e
        split at e
        · cases e
          rw [← r, blk_succ]
          exact den_pair d1 d2
        · cases e
      · rw [if_neg r] at e
        exact (G.hi _ j x (Nat.le_refl _) (Ne.symm r) e).mono (ask_pre _ _)
    · rw [if_neg w] at e
      exact (G.lo k j x (by omega) e).mono (ask_pre _ _)
  · rw [lev_set q, if_neg (by omega)] at e
    exact (G.hi k j x (by omega) hj e).mono (ask_pre _ _)
theorem PInv.start {levels : List (List Nat)} (I : BookInv ths rows levels) (hp : place < rows.length) (z : Str) : PInv (ask ths (.row z)) (rows.set place z) place 1 (levels.set 0 ((lev levels 0).set place (num (ask ths (.row z)) (.row z)))) := by
  have l0 : (lev levels 0).length = rows.length := by rw [I.len, Nat.pow_zero, Nat.div_one]
  have q : 0 < levels.length := by
    rcases Nat.eq_zero_or_pos levels.length with w | w
    · rw [lev_out (by omega)] at l0; simp at l0; omega
    · exact w
  refine ⟨by rw [List.length_set]; exact hp, fun k => ?_, fun k j x hk e => ?_, fun k j x hk hj e => ?_, by rw [List.length_set]; omega⟩
  · rw [List.length_set, lev_set q]
    by_cases w : k = 0
    · rw [if_pos w, List.length_set, w]; exact I.len _
    · rw [if_neg w]; exact I.len k
  · have k0 : k = 0 := by omega
    subst k0
    rw [lev_set q, if_pos rfl, List.getElem?_set] at e
    by_cases r : place = j
    · subst r
      rw [if_pos rfl] at e
      split at e
      · cases e
        rw [blk_zero (z := z) (by rw [List.getElem?_set]; simp [hp])]
        exact den_row z
      · cases e
    · rw [if_neg r] at e
      rw [blk_set (by rw [Nat.pow_zero, Nat.div_one]; exact Ne.symm r)]
      exact (I.den 0 j x e).mono (ask_pre _ _)
  · rw [lev_set q, if_neg (by omega)] at e
    rw [blk_set hj]
    exact (I.den k j x e).mono (ask_pre _ _)
end
def N_Book_put : List Str := ["self", "place", "row", "height", "number"]
def t_Book_put (K : PySem.W.Frag) (c : Cs) (E : XK) : TS := (tSeq (tDrop (tMeth c.Book "sure" (sp_Book_sure K c) [] E (tVar 0) (tCons (tVar 1) tNil)))
  (tSeq (tDrop (tCall (sp_sure_row K c) [] E (tCons (tVar 2) tNil)))
  (tSeq (tAsg (tVar 2) (gSub (tFld K (tVar 0) "lines") (tVar 1) rSetL))
  (tSeq (tAsg (tMeth c.Ledger "of_row" (sp_Ledger_of_row K c) [] E (tFld K (tVar 0) "ledger") (tCons (tVar 2) tNil)) (gSub (tOp (rIx K) (tFld K (tVar 0) "levels") (tC (.int 0))) (tVar 1) rSetL))
  (tSeq (tAsg (tC (.int 1)) (gName 3))
  (tSeq (tAsg (tOp rDiv (tVar 1) (tC (.int 2))) (gName 4))
  (tSeq (tWhile (tAnd (tTest (tOp rLt (tVar 3) (tCB (Ts.rLen K) (tCons (tFld K (tVar 0) "levels") tNil)))) (tTest (tOp rLt (tVar 4) (tCB (Ts.rLen K) (tCons (tOp (rIx K) (tFld K (tVar 0) "levels") (tVar 3)) tNil))))) (tSeq (tAsg (tMeth c.Book "half_sums" (sp_Book_half_sums K c) [] E (tVar 0) (tCons (tVar 3) (tCons (tVar 4) tNil))) (gSub (tOp (rIx K) (tFld K (tVar 0) "levels") (tVar 3)) (tVar 4) rSetL))
  (tSeq (tAsg (tOp rAddU (tVar 3) (tC (.int 1))) (gName 3))
  (tAsg (tOp rDiv (tVar 4) (tC (.int 2))) (gName 4)))))
  (tRet (tVar 3)))))))))
def sp_Book_put (K : PySem.W.Frag) (c : Cs) : Sp := fun vs H Q E => ∃ (B L d l ln lv : Addr) (lvs : List Addr) (ths : List MK) (xs : List V) (rows : List Str) (levels : List (List Nat)) (p v : V) (b : Bool), vs = [.ref B, p, v] ∧ BS c H B L d l ln lv lvs ths xs rows levels ∧ BookInv ths rows levels ∧ isWholeV K H p b ∧ RowV K H v ∧
  rows.length ≤ 100000 ∧ ths.length < 900000 ∧
  (¬ NumV rows.length p → E (.ref c.NoPlace) none H) ∧ (NumV rows.length p → ¬ isRowV v → E (.ref c.NoRow) none H) ∧
  (∀ (place : Nat) (z : Str), p = .int place → v = .str z → place < rows.length → Good z → ∀ H' xs', BS c H' B L d l ln lv lvs (putM ths levels place z).1 xs' (rows.set place z) (putM ths levels place z).2.1 → BookInv (putM ths levels place z).1 (rows.set place z) (putM ths levels place z).2.1 →
    IsBc rows.length place (putM ths levels place z).2.2 → Kp (fpS d l ln lv lvs) H H' → Q (.int ((putM ths levels place z).2.2 : Nat)) H')
theorem len_Book_put {K c} : ∀ vs H Q E, sp_Book_put K c vs H Q E → vs.length = 3 := by rintro vs H Q E ⟨_, _, _, _, _, _, _, _, _, _, _, _, _, _, rfl, _⟩; rfl
theorem pure_Book_put {K : PySem.W.Frag} {c : Cs} {vs : List V} {H : Hp} {Q : VK} {E : XK} (T : TxK K c) (h : sp_Book_put K c vs H Q E) : t_Book_put K c E ⟨fun _ H' => Q .non H', Q, fun _ _ => False, fun _ _ => False⟩ (start N_Book_put vs) H := by
  obtain ⟨B, L, d, l, ln, lv, lvs, ths, xs, rows, levels, p, v, b, rfl, S, I, hw, hv, hr, hz, k1, k2, k3⟩ := h
  show t_Book_put K c E _ [some (.ref B), some p, some v, none, none] H
  unfold t_Book_put
  obtain ⟨dx, hB⟩ := S.ba.ob
  walk_at "s"
  refine w_methAt hB (bfl_no (by decide +kernel) (by decide +kernel) (by decide +kernel)) ?_
  walk_at "s"
  refine ⟨B, L, ln, lv, lvs, rows, levels, p, b, rfl, S.ba, hw, hr, fun y => ?_, k1⟩
  obtain ⟨place, rfl, hp⟩ := y
  walk_at "s"
  refine ⟨v, rfl, hv, fun y2 => ?_, fun n => k2 ⟨place, rfl, hp⟩ n⟩
  obtain ⟨z, rfl, hg⟩ := y2
  have k := k3 place z rfl rfl hp hg
  clear k1 k2 k3
  walk_at "s"
  refine w_fldAt hB T.cBook T.n_Book_lines bfl_lines ?_
  walk_at "s"
  refine w_setL S.ba.hln (by rw [List.length_map]; exact hp) ?_
  walk_at "s"
  have S1 : BS c (upd H ln (.lst ((rows.map V.str).set place (.str z)))) B L d l ln lv lvs ths xs (rows.set place z) levels := by
    rw [← List.map_set]
    exact S.book T (by simp) S.ba.lines
  have q1 : Kp (fpS d l ln lv lvs) H (upd H ln (.lst ((rows.map V.str).set place (.str z)))) := Kp.refl.set (by simp)
  generalize upd H ln (.lst ((rows.map V.str).set place (.str z))) = H1 at S1 q1
  obtain ⟨dx1, hB1⟩ := S1.ba.ob
  refine w_fldAt hB1 T.cBook T.n_Book_ledger bfl_ledger ?_
  obtain ⟨dy, hL1⟩ := S1.la.ob
  refine w_methAt hL1 (lfl_no (by decide +kernel) (by decide +kernel)) ?_
  walk_at "s"
  refine ⟨L, d, l, ths, xs, .str z, rfl, S1.la, rowV_good hg, by omega, fun z' ez _ H2 xs2 L2 kp2 => ?_, fun n => absurd ⟨z, rfl, hg⟩ n⟩
  cases ez
  have S2 := S1.ledger T L2 kp2
  have q2 := q1.trans (kp2.mono (S' := fpS d l ln lv lvs) fun x hx => by
      rcases List.mem_cons.mp hx with e | e
      · rw [e]; simp
      · rw [List.mem_singleton.mp e]; simp)
  walk_at "s"
  obtain ⟨dx2, hB2⟩ := S2.ba.ob
  refine w_fldAt hB2 T.cBook T.n_Book_levels bfl_levels ?_
  walk_at "s"
  have l0 : (lev levels 0).length = rows.length := by rw [I.len, Nat.pow_zero, Nat.div_one]
  have g0 : ∃ x, levels[0]? = some x ∧ lev levels 0 = x := by
    rcases Nat.eq_zero_or_pos levels.length with w | w
    · rw [lev_out (by omega)] at l0; simp at l0; omega
    · exact ⟨_, List.getElem?_eq_getElem w, lev_get (List.getElem?_eq_getElem w)⟩
  obtain ⟨x0, g1, g2⟩ := g0
  obtain ⟨A, hA⟩ : ∃ A, lvs[0]? = some A := ⟨_, List.getElem?_eq_getElem (by rw [S2.ba.hl]; exact get_lt g1)⟩
  have hx0 := S2.ba.hs 0 A _ hA g1
  refine w_ixL (sql S2.ba.hlv) (atI_nat (j := 0) (v := .ref A) (by rw [List.getElem?_map, hA]; rfl)) ?_
  walk_at "s"
  refine w_setL hx0 (by rw [List.length_map, ← g2, l0]; exact hp) ?_
  have hA2 : A ∈ ln :: lv :: lvs := List.mem_cons_of_mem _ (List.mem_cons_of_mem _ (List.mem_of_getElem? hA))
  have S3 : BS c (upd H2 A (.lst ((x0.map nv).set place (.int (num (ask ths (.row z)) (.row z) : Nat))))) B L d l ln lv lvs (ask ths (.row z)) xs2 (rows.set place z) (levels.set 0 ((lev levels 0).set place (num (ask ths (.row z)) (.row z)))) := by
    have e : (x0.map nv).set place (.int (num (ask ths (.row z)) (.row z) : Nat)) = (x0.set place (num (ask ths (.row z)) (.row z))).map nv := by rw [List.map_set]; rfl
    rw [e, g2]
    exact S2.book T hA2 (S2.ba.level hA)
  have q3 : Kp (fpS d l ln lv lvs) H (upd H2 A (.lst ((x0.map nv).set place (.int (num (ask ths (.row z)) (.row z) : Nat))))) := q2.set (List.mem_cons_of_mem _ (List.mem_cons_of_mem _ hA2))
  generalize upd H2 A (.lst ((x0.map nv).set place (.int (num (ask ths (.row z)) (.row z) : Nat)))) = H3 at S3 q3
  have G3 := PInv.start I hp z
  walk_at "s"
  have ea := ask_len ths (.row z)
  refine w_while (fun σ H' => ∃ (h f : Nat) (ths1 : List MK) (xs1 : List V) (levels1 : List (List Nat)), σ = [some (.ref B), some (.int (place : Nat)), some (.str z), some (.int ((h + 1 : Nat) : Int)), some (.int ((place / 2 ^ (h + 1) : Nat) : Int))] ∧ BS c H' B L d l ln lv lvs ths1 xs1 (rows.set place z) levels1 ∧
      PInv ths1 (rows.set place z) place (h + 1) levels1 ∧ Kp (fpS d l ln lv lvs) H H' ∧ putL f (h + 1) (place / 2 ^ (h + 1)) ths1 levels1 = putM ths levels place z ∧ levels1.length ≤ f + h ∧ ths1.length ≤ ths.length + 1 + h ∧ h ≤ 17 ∧ (∀ k, k < h + 1 → (place / 2 ^ k + 1) * 2 ^ k ≤ rows.length) ∧ levels1.length = levels.length)
    (fun σ _ => match σ with | [_, _, _, some (.int m), _] => levels.length + 1 - m.toNat | _ => 0) ?_ ?_
  · refine ⟨0, levels.length + 1, ask ths (.row z), xs2, _, ?_, S3, G3, q3, rfl, by rw [List.length_set]; omega, by omega, by omega, fun k hk => ?_, by rw [List.length_set]⟩
    · rw [show ((place : Nat) : Int) / 2 = ((place / 2 ^ (0 + 1) : Nat) : Int) by rw [Nat.zero_add, Nat.pow_one]; omega]
      rfl
    · have : k = 0 := by omega
      subst this
      simp
      omega
  · rintro σ H4 ⟨h, f, ths1, xs1, levels1, rfl, S4, G, q4, ep, hf, hb, hh, hbc, hll⟩
    obtain ⟨dx4, hB4⟩ := S4.ba.ob
    have hrl : (rows.set place z).length = rows.length := List.length_set
    walk_at "s"
    refine w_fldAt hB4 T.cBook T.n_Book_levels bfl_levels ?_
    walk_at "s"
    refine w_lenL (sql S4.ba.hlv) ?_
    rw [List.length_map, S4.ba.hl]
    walk_at "s"
    have fin : ¬ (h + 1 < levels1.length ∧ place / 2 ^ (h + 1) < (lev levels1 (h + 1)).length) → Q (.int ((h + 1 : Nat) : Int)) H4 := fun no => by
      have e : putL f (h + 1) (place / 2 ^ (h + 1)) ths1 levels1 = (ths1, levels1, h + 1) := by
        cases f with
        | zero => rfl
        | succ f => unfold putL; rw [if_neg no]
      rw [e] at ep
      have I4 := G.stop no
      have k4 := k H4 xs1
      rw [← ep] at k4
      refine k4 S4 I4 ⟨hbc, fun z2 => no ?_⟩ q4
      rw [← lt_div_iff] at z2
      have e2 := G.len (h + 1)
      rw [hrl] at e2
      refine ⟨?_, by rw [e2]; exact z2⟩
      rcases Nat.lt_or_ge (h + 1) levels1.length with w | w
      · exact w
      · rw [lev_out w] at e2
        have e3 : 0 = rows.length / 2 ^ (h + 1) := e2
        have z3 : place / 2 ^ (h + 1) < rows.length / 2 ^ (h + 1) := z2
        rw [← e3] at z3
        exact absurd z3 (Nat.not_lt_zero _)
    refine ite_d (fun h1 => ?_) fun h1 => ?_
    · have h1 : h + 1 < levels1.length := by omega
      obtain ⟨A1, hA1⟩ : ∃ A, lvs[h + 1]? = some A := ⟨_, List.getElem?_eq_getElem (by rw [S4.ba.hl]; exact h1)⟩
      have gl := List.getElem?_eq_getElem h1
      have hx1 := S4.ba.hs (h + 1) A1 _ hA1 gl
      have gl2 := lev_get gl
      rw [← gl2] at hx1
      walk_at "s"
      refine w_fldAt hB4 T.cBook T.n_Book_levels bfl_levels ?_
      walk_at "s"
      refine w_ixL (sql S4.ba.hlv) (atI_nat (v := .ref A1) (by rw [List.getElem?_map, hA1]; rfl)) ?_
      walk_at "s"
      refine w_lenL (sql hx1) ?_
      rw [List.length_map]
      walk_at "s"
      refine ite_d (fun h2 => ?_) fun h2 => ?_
      · have h2 : place / 2 ^ (h + 1) < (lev levels1 (h + 1)).length := by omega
        have yes : h + 1 < levels1.length ∧ place / 2 ^ (h + 1) < (lev levels1 (h + 1)).length := ⟨h1, h2⟩
        obtain ⟨a, b2, g1, g2, d1, d2, e1, e2⟩ := G.two h2
        have hbc2 : (place / 2 ^ (h + 1) + 1) * 2 ^ (h + 1) ≤ rows.length := by
          rw [G.len, hrl, lt_div_iff] at h2
          exact h2
        have hlow : h + 1 ≤ 16 := by
          rcases Nat.lt_or_ge 16 (h + 1) with w | w
          · have w1 : 2 ^ 17 ≤ 2 ^ (h + 1) := Nat.pow_le_pow_right (by decide) (by omega)
            have w2 : 2 ^ (h + 1) ≤ (place / 2 ^ (h + 1) + 1) * 2 ^ (h + 1) := Nat.le_mul_of_pos_left _ (Nat.succ_pos _)
            have w3 : (2 : Nat) ^ 17 = 131072 := by decide
            omega
          · exact w
        refine w_wN ?_
        walk_at "s"
        refine w_methAt hB4 (bfl_no (by decide +kernel) (by decide +kernel) (by decide +kernel)) ?_
        walk_at "s"
        refine ⟨B, L, d, l, ln, lv, lvs, ths1, xs1, rows.set place z, levels1, h, place / 2 ^ (h + 1), a, b2, rfl, S4, by omega, g1, g2, d1.lt, d2.lt, fun H5 xs5 S5 kp5 => ?_⟩
        walk_at "s"
        obtain ⟨dx5, hB5⟩ := S5.ba.ob
        refine w_fldAt hB5 T.cBook T.n_Book_levels bfl_levels ?_
        walk_at "s"
        refine w_ixL (sql S5.ba.hlv) (atI_nat (v := .ref A1) (by rw [List.getElem?_map, hA1]; rfl)) ?_
        walk_at "s"
        have hx5 := S5.ba.hs (h + 1) A1 _ hA1 gl
        rw [← gl2] at hx5
        refine w_setL hx5 (by rw [List.length_map]; exact h2) ?_
        have hA3 : A1 ∈ ln :: lv :: lvs := List.mem_cons_of_mem _ (List.mem_cons_of_mem _ (List.mem_of_getElem? hA1))
        have S6 : BS c (upd H5 A1 (.lst (((lev levels1 (h + 1)).map nv).set (place / 2 ^ (h + 1)) (.int (num (ask ths1 (pk a b2)) (pk a b2) : Nat))))) B L d l ln lv lvs (ask ths1 (pk a b2)) xs5 (rows.set place z) (levels1.set (h + 1) ((lev levels1 (h + 1)).set (place / 2 ^ (h + 1)) (num (ask ths1 (pk a b2)) (pk a b2)))) := by
          have e : ((lev levels1 (h + 1)).map nv).set (place / 2 ^ (h + 1)) (.int (num (ask ths1 (pk a b2)) (pk a b2) : Nat)) = ((lev levels1 (h + 1)).set (place / 2 ^ (h + 1)) (num (ask ths1 (pk a b2)) (pk a b2))).map nv := by rw [List.map_set]; rfl
          rw [e]
          exact S5.book T hA3 (S5.ba.level hA1)
        have q6 : Kp (fpS d l ln lv lvs) H (upd H5 A1 (.lst (((lev levels1 (h + 1)).map nv).set (place / 2 ^ (h + 1)) (.int (num (ask ths1 (pk a b2)) (pk a b2) : Nat))))) := (q4.trans (kp5.mono fun x hx => by
          rcases List.mem_cons.mp hx with e | e
          · rw [e]; simp
          · rw [List.mem_singleton.mp e]; simp)).set (List.mem_cons_of_mem _ (List.mem_cons_of_mem _ hA3))
        generalize upd H5 A1 (.lst (((lev levels1 (h + 1)).map nv).set (place / 2 ^ (h + 1)) (.int (num (ask ths1 (pk a b2)) (pk a b2) : Nat)))) = H6 at S6 q6
        walk_at "s"
        have al := ask_len ths1 (pk a b2)
        cases f with
        | zero => omega
        | succ f =>
          have ep2 := ep
          unfold putL at ep2
          rw [if_pos yes, Nat.add_sub_cancel, e1, e2, show place / 2 ^ (h + 1) / 2 = place / 2 ^ (h + 1 + 1) by rw [Nat.pow_succ 2 (h + 1), Nat.div_div_eq_div_mul]] at ep2
          refine ⟨⟨h + 1, f, ask ths1 (pk a b2), xs5, _, ?_, S6, G.next h1 d1 d2, q6, ep2, by rw [List.length_set]; omega, by omega, by omega, fun k' hk' => ?_, by rw [List.length_set]; exact hll⟩, ?_⟩
          · rw [show ((h + 1 : Nat) : Int) + 1 = ((h + 1 + 1 : Nat) : Int) by push_cast; rfl, show ((place / 2 ^ (h + 1) : Nat) : Int) / 2 = ((place / 2 ^ (h + 1 + 1) : Nat) : Int) by rw [Nat.pow_succ 2 (h + 1), ← Nat.div_div_eq_div_mul]; omega]
          · rcases Nat.lt_or_ge k' (h + 1) with w | w
            · exact hbc k' w
            · have : k' = h + 1 := by omega
              rw [this]; exact hbc2
          · show levels.length + 1 - (((h + 1 : Nat) : Int) + 1).toNat < levels.length + 1 - ((h + 1 : Nat) : Int).toNat
            omega
      · walk_at "s"
        exact fin fun w => h2 (by have := w.2; omega)
    · refine iteF ?_
      walk_at "s"
      exact fin fun w => h1 (by have := w.1; omega)
end Tw

namespace Tw
open PySem L2 Ts Mix
/-! ### small ones -/
section
variable {K : PySem.W.Frag} {c : Cs} {H H' : Hp} {B L ln lv : Addr} {lvs : List Addr} {rows : List Str} {levels : List (List Nat)}
theorem BookAt.lvl (b : BookAt c H B L ln lv lvs rows levels) {h : Nat} (hh : h < levels.length) : ∃ A, lvs[h]? = some A ∧ (lvs.map V.ref)[h]? = some (.ref A) ∧ H A = some (.lst ((lev levels h).map nv)) := by
  obtain ⟨A, hA⟩ : ∃ A, lvs[h]? = some A := ⟨_, List.getElem?_eq_getElem (by rw [b.hl]; exact hh)⟩
  have g := List.getElem?_eq_getElem hh
  refine ⟨A, hA, by rw [List.getElem?_map, hA]; rfl, ?_⟩
  rw [lev_get g]
  exact b.hs h A _ hA g
end
def N_Book_count : List Str := ["self"]
def t_Book_count (K : PySem.W.Frag) (c : Cs) (E : XK) : TS := (tRet (tCB (Ts.rLen K) (tCons (tFld K (tVar 0) "lines") tNil)))
def sp_Book_count (K : PySem.W.Frag) (c : Cs) : Sp := fun vs H Q _ => ∃ (B L ln lv : Addr) (lvs : List Addr) (rows : List Str) (levels : List (List Nat)), vs = [.ref B] ∧ BookAt c H B L ln lv lvs rows levels ∧ Q (.int (rows.length : Nat)) H
theorem len_Book_count {K c} : ∀ vs H Q E, sp_Book_count K c vs H Q E → vs.length = 1 := by rintro vs H Q E ⟨_, _, _, _, _, _, _, rfl, _⟩; rfl
theorem pure_Book_count {K : PySem.W.Frag} {c : Cs} {vs : List V} {H : Hp} {Q : VK} {E : XK} (T : TxK K c) (h : sp_Book_count K c vs H Q E) : t_Book_count K c E ⟨fun _ H' => Q .non H', Q, fun _ _ => False, fun _ _ => False⟩ (start N_Book_count vs) H := by
  obtain ⟨B, L, ln, lv, lvs, rows, levels, rfl, S, k⟩ := h
  show t_Book_count K c E _ [some (.ref B)] H
  unfold t_Book_count
  obtain ⟨dx, hB⟩ := S.ob
  walk_at "s"
  refine w_fldAt hB T.cBook T.n_Book_lines bfl_lines ?_
  walk_at "s"
  refine w_lenL (sql S.hln) ?_
  rw [List.length_map]
  exact k
def N_Book_row : List Str := ["self", "place"]
def t_Book_row (K : PySem.W.Frag) (c : Cs) (E : XK) : TS := (tSeq (tDrop (tMeth c.Book "sure" (sp_Book_sure K c) [] E (tVar 0) (tCons (tVar 1) tNil)))
  (tRet (tOp (rIx K) (tFld K (tVar 0) "lines") (tVar 1))))
def sp_Book_row (K : PySem.W.Frag) (c : Cs) : Sp := fun vs H Q E => ∃ (B L ln lv : Addr) (lvs : List Addr) (rows : List Str) (levels : List (List Nat)) (v : V) (b : Bool), vs = [.ref B, v] ∧ BookAt c H B L ln lv lvs rows levels ∧ isWholeV K H v b ∧ rows.length ≤ 100000 ∧
  (∀ (i : Nat) z, v = .int i → rows[i]? = some z → Q (.str z) H) ∧ (¬ NumV rows.length v → E (.ref c.NoPlace) none H)
theorem len_Book_row {K c} : ∀ vs H Q E, sp_Book_row K c vs H Q E → vs.length = 2 := by rintro vs H Q E ⟨_, _, _, _, _, _, _, _, _, rfl, _⟩; rfl
theorem pure_Book_row {K : PySem.W.Frag} {c : Cs} {vs : List V} {H : Hp} {Q : VK} {E : XK} (T : TxK K c) (h : sp_Book_row K c vs H Q E) : t_Book_row K c E ⟨fun _ H' => Q .non H', Q, fun _ _ => False, fun _ _ => False⟩ (start N_Book_row vs) H := by
  obtain ⟨B, L, ln, lv, lvs, rows, levels, v, b, rfl, S, hw, hr, k1, k2⟩ := h
  show t_Book_row K c E _ [some (.ref B), some v] H
  unfold t_Book_row
  obtain ⟨dx, hB⟩ := S.ob
  walk_at "s"
  refine w_methAt hB (bfl_no (by decide +kernel) (by decide +kernel) (by decide +kernel)) ?_
  walk_at "s"
  refine ⟨B, L, ln, lv, lvs, rows, levels, v, b, rfl, S, hw, hr, fun y => ?_, k2⟩
  obtain ⟨i, rfl, hi⟩ := y
  walk_at "s"
  refine w_fldAt hB T.cBook T.n_Book_lines bfl_lines ?_
  walk_at "s"
  exact w_ixL (sql S.hln) (atI_nat (v := .str rows[i]) (by rw [List.getElem?_map, List.getElem?_eq_getElem hi]; rfl)) (k1 i _ rfl (List.getElem?_eq_getElem hi))
def N_Book_rows : List Str := ["self"]
def t_Book_rows (K : PySem.W.Frag) (c : Cs) (E : XK) : TS := (tRet (tCB (rListOf K) (tCons (tFld K (tVar 0) "lines") tNil)))
def sp_Book_rows (K : PySem.W.Frag) (c : Cs) : Sp := fun vs H Q _ => ∃ (B L ln lv : Addr) (lvs : List Addr) (rows : List Str) (levels : List (List Nat)), vs = [.ref B] ∧ BookAt c H B L ln lv lvs rows levels ∧ ∀ p, H p = none → Q (.ref p) (upd H p (.lst (rows.map V.str)))
theorem len_Book_rows {K c} : ∀ vs H Q E, sp_Book_rows K c vs H Q E → vs.length = 1 := by rintro vs H Q E ⟨_, _, _, _, _, _, _, rfl, _⟩; rfl
theorem pure_Book_rows {K : PySem.W.Frag} {c : Cs} {vs : List V} {H : Hp} {Q : VK} {E : XK} (T : TxK K c) (h : sp_Book_rows K c vs H Q E) : t_Book_rows K c E ⟨fun _ H' => Q .non H', Q, fun _ _ => False, fun _ _ => False⟩ (start N_Book_rows vs) H := by
  obtain ⟨B, L, ln, lv, lvs, rows, levels, rfl, S, k⟩ := h
  show t_Book_rows K c E _ [some (.ref B)] H
  unfold t_Book_rows
  obtain ⟨dx, hB⟩ := S.ob
  walk_at "s"
  refine w_fldAt hB T.cBook T.n_Book_lines bfl_lines ?_
  walk_at "s"
  exact w_listL (sql S.hln) k
def N_Book_add : List Str := ["self", "row"]
def t_Book_add (K : PySem.W.Frag) (c : Cs) (E : XK) : TS := (tSeq (tDrop (tCall (sp_sure_row K c) [] E (tCons (tVar 1) tNil)))
  (tSeq (tIfS (tTest (tOp (rEqU K) (tCB (Ts.rLen K) (tCons (tFld K (tVar 0) "lines") tNil)) (tC (.int 1024)))) (tRaiseX c.Full (fun cls d _ H => E cls d H)) tNext)
  (tRet (tMeth c.Book "grow" (sp_Book_grow K c) [] E (tVar 0) (tCons (tVar 1) tNil)))))
def sp_Book_add (K : PySem.W.Frag) (c : Cs) : Sp := fun vs H Q E => ∃ (B L d l ln lv : Addr) (lvs : List Addr) (ths : List MK) (xs : List V) (rows : List Str) (levels : List (List Nat)) (v : V), vs = [.ref B, v] ∧ BS c H B L d l ln lv lvs ths xs rows levels ∧ BookInv ths rows levels ∧ RowV K H v ∧
  rows.length ≤ 1024 ∧ ths.length < 900000 ∧ (¬ isRowV v → E (.ref c.NoRow) none H) ∧ (isRowV v → rows.length = 1024 → E (.ref c.Full) none H) ∧
  ∀ z, v = .str z → Good z → rows.length < 1024 → ∀ H' xs' lvs', BS c H' B L d l ln lv lvs' (growM ths rows levels z).1 xs' (rows ++ [z]) (growM ths rows levels z).2.1 → BookInv (growM ths rows levels z).1 (rows ++ [z]) (growM ths rows levels z).2.1 → IsBc (rows.length + 1) rows.length (growM ths rows levels z).2.2 →
    Kp (fpS d l ln lv lvs) H H' → Wider H lvs lvs' → Q (.int ((growM ths rows levels z).2.2 : Nat)) H'
theorem len_Book_add {K c} : ∀ vs H Q E, sp_Book_add K c vs H Q E → vs.length = 2 := by rintro vs H Q E ⟨_, _, _, _, _, _, _, _, _, _, _, _, rfl, _⟩; rfl
theorem pure_Book_add {K : PySem.W.Frag} {c : Cs} {vs : List V} {H : Hp} {Q : VK} {E : XK} (T : TxK K c) (h : sp_Book_add K c vs H Q E) : t_Book_add K c E ⟨fun _ H' => Q .non H', Q, fun _ _ => False, fun _ _ => False⟩ (start N_Book_add vs) H := by
  obtain ⟨B, L, d, l, ln, lv, lvs, ths, xs, rows, levels, v, rfl, S, I, hv, hr, hz, k1, k2, k3⟩ := h
  show t_Book_add K c E _ [some (.ref B), some v] H
  unfold t_Book_add
  obtain ⟨dx, hB⟩ := S.ba.ob
  walk_at "s"
  refine ⟨v, rfl, hv, fun y => ?_, k1⟩
  walk_at "s"
  refine w_fldAt hB T.cBook T.n_Book_lines bfl_lines ?_
  walk_at "s"
  refine w_lenL (sql S.ba.hln) ?_
  rw [List.length_map]
  walk_at "s"
  refine ite_d (fun h0 => ?_) fun h0 => ?_
  · walk_at "s"
    exact k2 y (by omega)
  · obtain ⟨z, rfl, hg⟩ := y
    walk_at "s"
    refine w_methAt hB (bfl_no (by decide +kernel) (by decide +kernel) (by decide +kernel)) ?_
    walk_at "s"
    exact ⟨B, L, d, l, ln, lv, lvs, ths, xs, rows, levels, z, rfl, S, I, hg, by omega, hz, k3 z rfl hg (by omega)⟩
/-- the block stands -/
def HasB (levels : List (List Nat)) (v w : V) : Prop := ∃ h j : Nat, v = .int h ∧ w = .int j ∧ j < (lev levels h).length
def N_Book_has_block : List Str := ["self", "height", "number"]
def t_Book_has_block (K : PySem.W.Frag) (c : Cs) (E : XK) : TS := (tSeq (tIfS (tOr (tNot (tB (tCall (sp_is_whole K c) [] E0 (tCons (tVar 1) tNil)))) (tOr (tNot (tB (tCall (sp_is_whole K c) [] E0 (tCons (tVar 2) tNil)))) (tOr (tTest (tOp rLt (tVar 1) (tC (.int 0)))) (tTest (tOp rLt (tVar 2) (tC (.int 0))))))) (tRet (tC (.bl false))) tNext)
  (tRet (tAndV (tOp rLt (tVar 1) (tCB (Ts.rLen K) (tCons (tFld K (tVar 0) "levels") tNil))) (tOp rLt (tVar 2) (tCB (Ts.rLen K) (tCons (tOp (rIx K) (tFld K (tVar 0) "levels") (tVar 1)) tNil))))))
def sp_Book_has_block (K : PySem.W.Frag) (c : Cs) : Sp := fun vs H Q _ => ∃ (B L ln lv : Addr) (lvs : List Addr) (rows : List Str) (levels : List (List Nat)) (v w : V) (b b' : Bool), vs = [.ref B, v, w] ∧ BookAt c H B L ln lv lvs rows levels ∧ isWholeV K H v b ∧ isWholeV K H w b' ∧
  (HasB levels v w → Q (.bl true) H) ∧ (¬ HasB levels v w → Q (.bl false) H)
theorem len_Book_has_block {K c} : ∀ vs H Q E, sp_Book_has_block K c vs H Q E → vs.length = 3 := by rintro vs H Q E ⟨_, _, _, _, _, _, _, _, _, _, _, rfl, _⟩; rfl
theorem whole_yes {K : PySem.W.Frag} {H : Hp} {v : V} (h : isWholeV K H v true) : ∃ i, v = .int i := by
  rcases h with ⟨i, z, _⟩ | ⟨x, _, z⟩ | ⟨x, _, z⟩ | ⟨_, z⟩ | ⟨a, ys, _, _, z⟩
  · exact ⟨i, z⟩
  all_goals cases z
theorem whole_no {K : PySem.W.Frag} {H : Hp} {v : V} (h : isWholeV K H v false) : ∀ i, v ≠ .int i := by
  intro i e
  subst e
  rcases h with ⟨_, _, z⟩ | ⟨x, z, _⟩ | ⟨x, z, _⟩ | ⟨z, _⟩ | ⟨a, ys, z, _⟩
  · cases z
  all_goals exact nomatch z
theorem pure_Book_has_block {K : PySem.W.Frag} {c : Cs} {vs : List V} {H : Hp} {Q : VK} {E : XK} (T : TxK K c) (h : sp_Book_has_block K c vs H Q E) : t_Book_has_block K c E ⟨fun _ H' => Q .non H', Q, fun _ _ => False, fun _ _ => False⟩ (start N_Book_has_block vs) H := by
  obtain ⟨B, L, ln, lv, lvs, rows, levels, v, w, b, b', rfl, S, hv, hw, k1, k2⟩ := h
  show t_Book_has_block K c E _ [some (.ref B), some v, some w] H
  unfold t_Book_has_block
  obtain ⟨dx, hB⟩ := S.ob
  walk_at "s"
  refine ⟨v, b, rfl, hv, ?_⟩
  walk_at "s"
  refine ite_nb (fun e => ?_) fun e => ?_
  · subst e
    refine iteT ?_
    walk_at "s"
    exact k2 fun ⟨h, j, z, _⟩ => whole_no hv _ z
  subst e
  obtain ⟨i, rfl⟩ := whole_yes hv
  walk_at "s"
  refine ⟨w, b', rfl, hw, ?_⟩
  walk_at "s"
  refine ite_nb (fun e => ?_) fun e => ?_
  · subst e
    refine iteT ?_
    walk_at "s"
    exact k2 fun ⟨h, j, _, z, _⟩ => whole_no hw _ z
  subst e
  obtain ⟨j, rfl⟩ := whole_yes hw
  walk_at "s"
  refine ite_d (fun h0 => ?_) fun h0 => ?_
  · refine iteT ?_
    walk_at "s"
    refine k2 fun ⟨h, j, z, _⟩ => ?_
    cases z
    omega
  walk_at "s"
  refine ite_d (fun h1 => ?_) fun h1 => ?_
  · walk_at "s"
    refine k2 fun ⟨h, j, _, z, _⟩ => ?_
    cases z
    omega
  obtain ⟨h, rfl⟩ := Int.eq_ofNat_of_zero_le (a := i) (by omega)
  obtain ⟨n, rfl⟩ := Int.eq_ofNat_of_zero_le (a := j) (by omega)
  walk_at "s"
  refine w_fldAt hB T.cBook T.n_Book_levels bfl_levels ?_
  walk_at "s"
  refine w_lenL (sql S.hlv) ?_
  rw [List.length_map, S.hl]
  walk_at "s"
  refine ite_d (fun h2 => ?_) fun h2 => ?_
  · have h2 : h < levels.length := by omega
    obtain ⟨A, _, a2, a3⟩ := S.lvl h2
    walk_at "s"
    refine w_fldAt hB T.cBook T.n_Book_levels bfl_levels ?_
    walk_at "s"
    refine w_ixL (sql S.hlv) (atI_nat a2) ?_
    walk_at "s"
    refine w_lenL (sql a3) ?_
    rw [List.length_map]
    walk_at "s"
    by_cases q : n < (lev levels h).length
    · rw [decide_eq_true (show ((n : Nat) : Int) < ((lev levels h).length : Nat) by omega)]
      exact k1 ⟨h, n, rfl, rfl, q⟩
    · rw [decide_eq_false (show ¬ ((n : Nat) : Int) < ((lev levels h).length : Nat) by omega)]
      refine k2 fun ⟨h', j', z1, z2, z3⟩ => ?_
      have z1 : h' = h := by have := V.int.inj z1; omega
      have z2 : j' = n := by have := V.int.inj z2; omega
      subst z1 z2
      exact q z3
  · refine k2 fun ⟨h', j', z1, z2, z3⟩ => ?_
    have z1 : h' = h := by have := V.int.inj z1; omega
    subst z1
    rw [lev_out (by omega)] at z3
    exact absurd z3 (Nat.not_lt_zero _)
def N_Book_sum_of : List Str := ["self", "height", "number"]
def t_Book_sum_of (K : PySem.W.Frag) (c : Cs) (E : XK) : TS := (tSeq (tIfS (tNot (tB (tMeth c.Book "has_block" (sp_Book_has_block K c) [] E (tVar 0) (tCons (tVar 1) (tCons (tVar 2) tNil))))) (tRaiseX c.NoBlock (fun cls d _ H => E cls d H)) tNext)
  (tRet (tOp (rIx K) (tOp (rIx K) (tFld K (tVar 0) "levels") (tVar 1)) (tVar 2))))
def sp_Book_sum_of (K : PySem.W.Frag) (c : Cs) : Sp := fun vs H Q E => ∃ (B L ln lv : Addr) (lvs : List Addr) (rows : List Str) (levels : List (List Nat)) (v w : V) (b b' : Bool), vs = [.ref B, v, w] ∧ BookAt c H B L ln lv lvs rows levels ∧ isWholeV K H v b ∧ isWholeV K H w b' ∧
  (∀ h j x : Nat, v = .int h → w = .int j → (lev levels h)[j]? = some x → Q (.int x) H) ∧ (¬ HasB levels v w → E (.ref c.NoBlock) none H)
theorem len_Book_sum_of {K c} : ∀ vs H Q E, sp_Book_sum_of K c vs H Q E → vs.length = 3 := by rintro vs H Q E ⟨_, _, _, _, _, _, _, _, _, _, _, rfl, _⟩; rfl
theorem pure_Book_sum_of {K : PySem.W.Frag} {c : Cs} {vs : List V} {H : Hp} {Q : VK} {E : XK} (T : TxK K c) (h : sp_Book_sum_of K c vs H Q E) : t_Book_sum_of K c E ⟨fun _ H' => Q .non H', Q, fun _ _ => False, fun _ _ => False⟩ (start N_Book_sum_of vs) H := by
  obtain ⟨B, L, ln, lv, lvs, rows, levels, v, w, b, b', rfl, S, hv, hw, k1, k2⟩ := h
  show t_Book_sum_of K c E _ [some (.ref B), some v, some w] H
  unfold t_Book_sum_of
  obtain ⟨dx, hB⟩ := S.ob
  walk_at "s"
  refine w_methAt hB (bfl_no (by decide +kernel) (by decide +kernel) (by decide +kernel)) ?_
  walk_at "s"
  refine ⟨B, L, ln, lv, lvs, rows, levels, v, w, b, b', rfl, S, hv, hw, fun y => ?_, fun n => ?_⟩
  · obtain ⟨h, j, rfl, rfl, hj⟩ := y
    walk_at "s"
    refine iteF ?_
    walk_at "s"
    have h2 : h < levels.length := by
      rcases Nat.lt_or_ge h levels.length with q | q
      · exact q
      · rw [lev_out q] at hj
        exact absurd hj (Nat.not_lt_zero _)
    obtain ⟨A, _, a2, a3⟩ := S.lvl h2
    refine w_fldAt hB T.cBook T.n_Book_levels bfl_levels ?_
    walk_at "s"
    refine w_ixL (sql S.hlv) (atI_nat a2) ?_
    walk_at "s"
    exact w_ixL (sql a3) (atI_nat (v := nv (lev levels h)[j]) (by rw [List.getElem?_map, List.getElem?_eq_getElem hj]; rfl)) (k1 h j _ rfl rfl (List.getElem?_eq_getElem hj))
  · walk_at "s"
    refine iteT ?_
    walk_at "s"
    exact k2 n
end Tw

namespace Tw
open PySem L2 Ts Mix
theorem getLast_at {α : Type} {l : List α} (h : l ≠ []) : ∃ x, l[l.length - 1]? = some x ∧ l = l.dropLast ++ [x] := by
  refine ⟨l.getLast h, ?_, (List.dropLast_concat_getLast h).symm⟩
  rw [List.getLast_eq_getElem]
  exact List.getElem?_eq_getElem _
theorem div_pred {n k : Nat} (hn : 0 < n) : (n - 1) / 2 ^ k = if n % 2 ^ k = 0 then n / 2 ^ k - 1 else n / 2 ^ k := by
  by_cases h : n % 2 ^ k = 0
  · rw [if_pos h]
    obtain ⟨m, hm⟩ := Nat.dvd_of_mod_eq_zero h
    have p := Nat.two_pow_pos k
    generalize 2 ^ k = s at *
    have m0 : 0 < m := by
      rcases Nat.eq_zero_or_pos m with z | z
      · rw [z, Nat.mul_zero] at hm; omega
      · exact z
    obtain ⟨m', rfl⟩ : ∃ m', m = m' + 1 := ⟨m - 1, by omega⟩
    have e : n - 1 = s * m' + (s - 1) := by rw [hm, Nat.mul_add, Nat.mul_one]; omega
    rw [e, Nat.mul_add_div p, Nat.div_eq_of_lt (by omega), hm, Nat.mul_div_cancel_left _ p]
    omega
  · rw [if_neg h]
    exact half_odd hn h
/-- ahead of a turn: the heights below h have lost their last block -/
structure DInv (ths : List MK) (rows : List Str) (h : Nat) (levels : List (List Nat)) : Prop where
  pos : 0 < rows.length
  dv : ∀ k, k < h → rows.length % 2 ^ k = 0
  lo : ∀ k, k < h → (lev levels k).length = rows.length / 2 ^ k - 1
  hi : ∀ k, h ≤ k → (lev levels k).length = rows.length / 2 ^ k
  den : ∀ k j x, (lev levels k)[j]? = some x → Den ths k x (blk rows k j)
section
variable {ths : List MK} {rows : List Str} {h : Nat} {levels : List (List Nat)}
theorem dropLast_get {α : Type} {l : List α} {j : Nat} {x : α} (e : l.dropLast[j]? = some x) : l[j]? = some x := by
  have h1 := get_lt e
  rw [List.length_dropLast] at h1
  rw [List.getElem?_dropLast, if_pos h1] at e
  exact e
theorem dvd_low {n k m : Nat} (h : n % 2 ^ m = 0) (hk : k ≤ m) : n % 2 ^ k = 0 := Nat.mod_eq_zero_of_dvd (Nat.dvd_trans (Nat.pow_dvd_pow 2 hk) (Nat.dvd_of_mod_eq_zero h))
theorem DInv.next (G : DInv ths rows h levels) (q : rows.length % 2 ^ h = 0) (hl : h < levels.length) : DInv ths rows (h + 1) (levels.set h (lev levels h).dropLast) := by
  refine ⟨G.pos, fun k hk => dvd_low q (by omega), fun k hk => ?_, fun k hk => ?_, fun k j x e => ?_⟩
  · rw [lev_set hl]
    by_cases w : k = h
    · rw [if_pos w, List.length_dropLast, G.hi h (Nat.le_refl _), w]
    · rw [if_neg w]; exact G.lo k (by omega)
  · rw [lev_set hl, if_neg (by omega)]
    exact G.hi k (by omega)
  · rw [lev_set hl] at e
    by_cases w : k = h
    · rw [if_pos w] at e
      subst w
      exact G.den k j x (dropLast_get e)
    · rw [if_neg w] at e
      exact G.den k j x e
theorem DInv.there (G : DInv ths rows h levels) (q : rows.length % 2 ^ h = 0) : h < levels.length ∧ lev levels h ≠ [] := by
  have p : 0 < (lev levels h).length := by
    rw [G.hi h (Nat.le_refl _)]
    refine Nat.div_pos ?_ (Nat.two_pow_pos h)
    exact Nat.le_of_dvd G.pos (Nat.dvd_of_mod_eq_zero q)
  refine ⟨?_, fun z => by rw [z] at p; exact absurd p (Nat.lt_irrefl _)⟩
  rcases Nat.lt_or_ge h levels.length with w | w
  · exact w
  · rw [lev_out w] at p
    exact absurd p (Nat.lt_irrefl _)
theorem DInv.stop (G : DInv ths rows h levels) (q : ¬ rows.length % 2 ^ h = 0) : BookInv ths rows.dropLast levels ∧ IsBc rows.length (rows.length - 1) h := by
  have hd : rows.dropLast.length = rows.length - 1 := List.length_dropLast
  have len : ∀ k, (lev levels k).length = rows.dropLast.length / 2 ^ k := fun k => by
    rw [hd, div_pred G.pos]
    rcases Nat.lt_or_ge k h with w | w
    · rw [if_pos (G.dv k w)]; exact G.lo k w
    · rw [if_neg fun z => q (dvd_low z w)]; exact G.hi k w
  refine ⟨⟨len, fun k j x e => ?_⟩, fun k hk => ?_, fun z => ?_⟩
  · have hj := get_lt e
    rw [len, lt_div_iff] at hj
    have d := G.den k j x e
    obtain ⟨y, _, ey⟩ := getLast_at (l := rows) (fun z => by have := G.pos; rw [z] at this; exact absurd this (Nat.lt_irrefl _))
    rw [ey, blk_append hj] at d
    exact d
  · rw [← lt_div_iff]
    have := div_pred (k := k) G.pos
    rw [if_pos (G.dv k hk)] at this
    have p : 0 < rows.length / 2 ^ k := Nat.div_pos (Nat.le_of_dvd G.pos (Nat.dvd_of_mod_eq_zero (G.dv k hk))) (Nat.two_pow_pos k)
    omega
  · rw [← lt_div_iff] at z
    have := div_pred (k := h) G.pos
    rw [if_neg q] at this
    omega
theorem DInv.low (G : DInv ths rows h levels) (hr : rows.length ≤ 100000) : h ≤ 17 := by
  rcases Nat.lt_or_ge 17 h with w | w
  · have d := G.dv 17 w
    have h1 := Nat.le_of_dvd G.pos (Nat.dvd_of_mod_eq_zero d)
    have h3 : (2 : Nat) ^ 17 = 131072 := by decide
    omega
  · exact w
theorem DInv.start {levels : List (List Nat)} (I : BookInv ths rows levels) (hp : 0 < rows.length) (hl : 0 < levels.length) : DInv ths rows 1 (levels.set 0 (lev levels 0).dropLast) := by
  have G0 : DInv ths rows 0 levels := ⟨hp, fun k hk => absurd hk (Nat.not_lt_zero _), fun k hk => absurd hk (Nat.not_lt_zero _), fun k _ => I.len k, I.den⟩
  exact G0.next (by rw [Nat.pow_zero, Nat.mod_one]) hl
end
def N_Book_cut : List Str := ["self", "size", "height"]
def t_Book_cut (K : PySem.W.Frag) (c : Cs) (E : XK) : TS := (tSeq (tIfS (tTest (tOp (rEqU K) (tCB (Ts.rLen K) (tCons (tFld K (tVar 0) "lines") tNil)) (tC (.int 0)))) (tRaiseX c.NoPlace (fun cls d _ H => E cls d H)) tNext)
  (tSeq (tAsg (tCB (Ts.rLen K) (tCons (tFld K (tVar 0) "lines") tNil)) (gName 1))
  (tSeq (tDrop (tBM0 K "list" rPop (tFld K (tVar 0) "lines")))
  (tSeq (tDrop (tBM0 K "list" rPop (tOp (rIx K) (tFld K (tVar 0) "levels") (tC (.int 0)))))
  (tSeq (tAsg (tC (.int 1)) (gName 2))
  (tSeq (tWhile (tTest (tOp (rEqU K) (tOp rMod (tVar 1) (tCall (sp_size_of K c) [] E (tCons (tVar 2) tNil))) (tC (.int 0)))) (tSeq (tDrop (tBM0 K "list" rPop (tOp (rIx K) (tFld K (tVar 0) "levels") (tVar 2))))
  (tAsg (tOp rAddU (tVar 2) (tC (.int 1))) (gName 2))))
  (tRet (tVar 2))))))))
def sp_Book_cut (K : PySem.W.Frag) (c : Cs) : Sp := fun vs H Q E => ∃ (B L d l ln lv : Addr) (lvs : List Addr) (ths : List MK) (xs : List V) (rows : List Str) (levels : List (List Nat)), vs = [.ref B] ∧ BS c H B L d l ln lv lvs ths xs rows levels ∧ BookInv ths rows levels ∧ rows.length ≤ 100000 ∧
  (rows = [] → E (.ref c.NoPlace) none H) ∧
  (rows ≠ [] → ∀ H' levels' n, BS c H' B L d l ln lv lvs ths xs rows.dropLast levels' → BookInv ths rows.dropLast levels' → IsBc rows.length (rows.length - 1) n → Kp (ln :: lv :: lvs) H H' → Q (.int (n : Nat)) H')
theorem len_Book_cut {K c} : ∀ vs H Q E, sp_Book_cut K c vs H Q E → vs.length = 1 := by rintro vs H Q E ⟨_, _, _, _, _, _, _, _, _, _, _, rfl, _⟩; rfl
theorem pure_Book_cut {K : PySem.W.Frag} {c : Cs} {vs : List V} {H : Hp} {Q : VK} {E : XK} (T : TxK K c) (h : sp_Book_cut K c vs H Q E) : t_Book_cut K c E ⟨fun _ H' => Q .non H', Q, fun _ _ => False, fun _ _ => False⟩ (start N_Book_cut vs) H := by
  obtain ⟨B, L, d, l, ln, lv, lvs, ths, xs, rows, levels, rfl, S, I, hr, k1, k2⟩ := h
  show t_Book_cut K c E _ [some (.ref B), none, none] H
  unfold t_Book_cut
  obtain ⟨dx, hB⟩ := S.ba.ob
  walk_at "s"
  refine w_fldAt hB T.cBook T.n_Book_lines bfl_lines ?_
  walk_at "s"
  refine w_lenL (sql S.ba.hln) ?_
  rw [List.length_map]
  walk_at "s"
  refine ite_d (fun h0 => ?_) fun h0 => ?_
  · walk_at "s"
    exact k1 (List.length_eq_zero_iff.mp (by omega))
  have ne : rows ≠ [] := fun z => h0 (by rw [z]; rfl)
  have hp : 0 < rows.length := List.length_pos_iff.mpr ne
  have k := k2 ne
  walk_at "s"
  refine w_fldAt hB T.cBook T.n_Book_lines bfl_lines ?_
  walk_at "s"
  refine w_lenL (sql S.ba.hln) ?_
  rw [List.length_map]
  walk_at "s"
  refine w_fldAt hB T.cBook T.n_Book_lines bfl_lines ?_
  refine ⟨w_tyL (sql S.ba.hln), ?_⟩
  obtain ⟨y, ey, er⟩ := getLast_at (l := rows.map V.str) (fun z => ne (List.map_eq_nil_iff.mp z))
  refine w_pop S.ba.hln ey ?_
  have S1 : BS c (upd H ln (.lst (rows.map V.str).dropLast)) B L d l ln lv lvs ths xs rows.dropLast levels := by
    rw [← List.map_dropLast]
    exact S.book T (by simp) S.ba.lines
  have q1 : Kp (ln :: lv :: lvs) H (upd H ln (.lst (rows.map V.str).dropLast)) := Kp.refl.set (by simp)
  generalize upd H ln (.lst (rows.map V.str).dropLast) = H1 at S1 q1
  walk_at "s"
  obtain ⟨dx1, hB1⟩ := S1.ba.ob
  refine w_fldAt hB1 T.cBook T.n_Book_levels bfl_levels ?_
  walk_at "s"
  have l0 : (lev levels 0).length = rows.length := by rw [I.len, Nat.pow_zero, Nat.div_one]
  have hl0 : 0 < levels.length := by
    rcases Nat.eq_zero_or_pos levels.length with w | w
    · rw [lev_out (by omega)] at l0; simp at l0; omega
    · exact w
  obtain ⟨A, a1, a2, a3⟩ := S1.ba.lvl hl0
  refine w_ixL (sql S1.ba.hlv) (atI_nat (j := 0) a2) ?_
  refine ⟨w_tyL (sql a3), ?_⟩
  obtain ⟨y0, ey0, _⟩ := getLast_at (l := (lev levels 0).map nv) (fun z => by have := List.map_eq_nil_iff.mp z; rw [this] at l0; simp at l0; omega)
  refine w_pop a3 ey0 ?_
  have hA2 : A ∈ ln :: lv :: lvs := List.mem_cons_of_mem _ (List.mem_cons_of_mem _ (List.mem_of_getElem? a1))
  have S2 : BS c (upd H1 A (.lst ((lev levels 0).map nv).dropLast)) B L d l ln lv lvs ths xs rows.dropLast (levels.set 0 (lev levels 0).dropLast) := by
    rw [← List.map_dropLast]
    exact S1.book T hA2 (S1.ba.level a1)
  have q2 : Kp (ln :: lv :: lvs) H (upd H1 A (.lst ((lev levels 0).map nv).dropLast)) := q1.set hA2
  generalize upd H1 A (.lst ((lev levels 0).map nv).dropLast) = H2 at S2 q2
  have G2 := DInv.start I hp hl0
  walk_at "s"
  refine w_while (fun σ H' => ∃ (h : Nat) (levels1 : List (List Nat)), σ = [some (.ref B), some (.int (rows.length : Nat)), some (.int (h : Nat))] ∧ BS c H' B L d l ln lv lvs ths xs rows.dropLast levels1 ∧ DInv ths rows h levels1 ∧ Kp (ln :: lv :: lvs) H H')
    (fun σ _ => match σ with | [_, _, some (.int m)] => 20 - m.toNat | _ => 0) ⟨1, _, rfl, S2, G2, q2⟩ ?_
  rintro σ H3 ⟨h, levels1, rfl, S3, G, q3⟩
  have hlow := G.low hr
  walk_at "s"
  refine ⟨h, rfl, by omega, ?_⟩
  have hp1 := Nat.two_pow_pos h
  refine w_mod (by omega) ?_
  rw [cast_mod]
  walk_at "s"
  refine ite_d (fun h1 => ?_) fun h1 => ?_
  · have h1 : rows.length % 2 ^ h = 0 := by omega
    obtain ⟨t1, t2⟩ := G.there h1
    refine w_wN ?_
    obtain ⟨dx3, hB3⟩ := S3.ba.ob
    walk_at "s"
    refine w_fldAt hB3 T.cBook T.n_Book_levels bfl_levels ?_
    walk_at "s"
    obtain ⟨A3, b1, b2, b3⟩ := S3.ba.lvl t1
    refine w_ixL (sql S3.ba.hlv) (atI_nat b2) ?_
    refine ⟨w_tyL (sql b3), ?_⟩
    obtain ⟨y3, ey3, _⟩ := getLast_at (l := (lev levels1 h).map nv) (fun z => t2 (List.map_eq_nil_iff.mp z))
    refine w_pop b3 ey3 ?_
    have hA3 : A3 ∈ ln :: lv :: lvs := List.mem_cons_of_mem _ (List.mem_cons_of_mem _ (List.mem_of_getElem? b1))
    have S4 : BS c (upd H3 A3 (.lst ((lev levels1 h).map nv).dropLast)) B L d l ln lv lvs ths xs rows.dropLast (levels1.set h (lev levels1 h).dropLast) := by
      rw [← List.map_dropLast]
      exact S3.book T hA3 (S3.ba.level b1)
    have q4 : Kp (ln :: lv :: lvs) H (upd H3 A3 (.lst ((lev levels1 h).map nv).dropLast)) := q3.set hA3
    generalize upd H3 A3 (.lst ((lev levels1 h).map nv).dropLast) = H4 at S4 q4
    walk_at "s"
    refine ⟨⟨h + 1, _, ?_, S4, G.next h1 t1, q4⟩, ?_⟩
    · rw [show ((h : Nat) : Int) + 1 = ((h + 1 : Nat) : Int) by push_cast; rfl]
    · show 20 - (((h : Nat) : Int) + 1).toNat < 20 - ((h : Nat) : Int).toNat
      omega
  · have h1 : ¬ rows.length % 2 ^ h = 0 := by omega
    walk_at "s"
    obtain ⟨I4, bc⟩ := G.stop h1
    exact k H3 levels1 h S3 I4 bc q3
/-! ### a book is made -/
def growsM : List MK → List Str → List (List Nat) → List Str → List MK × List (List Nat)
  | ths, _, levels, [] => (ths, levels)
  | ths, rows, levels, z :: zs => growsM (growM ths rows levels z).1 (rows ++ [z]) (growM ths rows levels z).2.1 zs
theorem growM_len {ths : List MK} {rows : List Str} {levels : List (List Nat)} {z : Str} : (growM ths rows levels z).1.length ≤ ths.length + (growM ths rows levels z).2.2 := by
  obtain ⟨h1, h2⟩ := growL_bound (rows.length + 1) 0 (rows.length + 1) (num (ask ths (.row z)) (.row z)) (ask ths (.row z)) levels (by omega) (by omega)
  have h3 := ask_len ths (.row z)
  unfold growM
  omega
theorem growM_pre {ths : List MK} {rows : List Str} {levels : List (List Nat)} {z : Str} : ths <+: (growM ths rows levels z).1 := (ask_pre _ _).trans (growL_pre _ _ _ _ _ _)
theorem putM_len {ths : List MK} {levels : List (List Nat)} {place : Nat} {z : Str} : (putM ths levels place z).1.length ≤ ths.length + (putM ths levels place z).2.2 := by
  obtain ⟨h1, h2⟩ := putL_bound (levels.length + 1) 1 (place / 2) (ask ths (.row z)) (levels.set 0 ((lev levels 0).set place (num (ask ths (.row z)) (.row z))))
  have h3 := ask_len ths (.row z)
  unfold putM
  omega
theorem putM_pre {ths : List MK} {levels : List (List Nat)} {place : Nat} {z : Str} : ths <+: (putM ths levels place z).1 := (ask_pre _ _).trans (putL_pre _ _ _ _ _)
theorem IsBc.low {n p m : Nat} (h : IsBc n p m) (hn : n ≤ 100000) : m ≤ 17 := by
  rcases Nat.lt_or_ge 17 m with w | w
  · have h1 := h.1 17 w
    have h2 : 2 ^ 17 ≤ (p / 2 ^ 17 + 1) * 2 ^ 17 := Nat.le_mul_of_pos_left _ (Nat.succ_pos _)
    have h3 : (2 : Nat) ^ 17 = 131072 := by decide
    omega
  · exact w
theorem IsBc.one {n p m m' : Nat} (h : IsBc n p m) (h' : IsBc n p m') : m = m' := by
  rcases Nat.lt_trichotomy m m' with w | w | w
  · exact absurd (h'.1 m w) h.2
  · exact w
  · exact absurd (h.1 m' w) h'.2
end Tw

namespace Tw
open PySem L2 Ts Mix
/-! ### a book is made -/
def N_Book_init : List Str := ["self", "ledger", "rows", "row"]
def t_Book_init (K : PySem.W.Frag) (c : Cs) (E : XK) : TS := (tSeq (tFor (iList K (tVar 2)) (gName 3) (tDrop (tCall (sp_sure_row K c) [] E (tCons (tVar 3) tNil))))
  (tSeq (tIfS (tTest (tOp rGt (tCB (Ts.rLen K) (tCons (tVar 2) tNil)) (tC (.int 1024)))) (tRaiseX c.Full (fun cls d _ H => E cls d H)) tNext)
  (tSeq (sFld K (tVar 0) (tVar 1) "ledger")
  (tSeq (sFld K (tVar 0) (tLst tNil) "lines")
  (tSeq (sFld K (tVar 0) (tLst tNil) "levels")
  (tFor (iList K (tVar 2)) (gName 3) (tDrop (tMeth c.Book "grow" (sp_Book_grow K c) [] E (tVar 0) (tCons (tVar 3) tNil)))))))))
def sp_Book_init (K : PySem.W.Frag) (c : Cs) : Sp := fun vs H Q E => ∃ (B dx L d l a : Addr) (ths : List MK) (xs ys : List V), vs = [.ref B, .ref L, .ref a] ∧ H B = some (.ins c.Book dx []) ∧ LedgerAt c H L d l ths xs ∧ SqL K H a ys ∧ a ≠ d ∧ a ≠ l ∧ (∀ y ∈ ys, RowV K H y) ∧ ys.length ≤ 100000 ∧ ths.length < 500000 ∧
  ((∃ y ∈ ys, ¬ isRowV y) → E (.ref c.NoRow) none H) ∧ ((∀ y ∈ ys, isRowV y) → 1024 < ys.length → E (.ref c.Full) none H) ∧
  (∀ zs, ys = zs.map V.str → (∀ z ∈ zs, Good z) → zs.length ≤ 1024 → ∀ H' ln lv lvs xs', BS c H' B L d l ln lv lvs (growsM ths [] [] zs).1 xs' zs (growsM ths [] [] zs).2 → BookInv (growsM ths [] [] zs).1 zs (growsM ths [] [] zs).2 → Kp [B, d, l] H H' → (∀ x ∈ ln :: lv :: lvs, H x = none) →
    (growsM ths [] [] zs).1.length ≤ ths.length + 17 * zs.length → Q .non H')
theorem len_Book_init {K c} : ∀ vs H Q E, sp_Book_init K c vs H Q E → vs.length = 3 := by rintro vs H Q E ⟨_, _, _, _, _, _, _, _, _, rfl, _⟩; rfl
theorem sql_stay {K : PySem.W.Frag} {S : List Addr} {H H' : Hp} {a : Addr} {ys : List V} (h : SqL K H a ys) (k : Kp S H H') (n : ∀ o, H a = some o → (∀ C dx fs, o ≠ .ins C dx fs) → a ∉ S) : SqL K H' a ys := by
  rcases h with (h | ⟨o, h⟩) | h
  · exact .inl (.inl (k _ _ h (n _ h fun _ _ _ e => nomatch e)))
  · exact .inl (.inr ⟨o, k _ _ h (n _ h fun _ _ _ e => nomatch e)⟩)
  · exact .inr h
theorem kp_trans2 {S S' : List Addr} {H H1 H2 : Hp} (a : Kp S H H1) (b : Kp S' H1 H2) (h : ∀ x ∈ S', x ∈ S ∨ H x = none) : Kp S H H2 := fun x o q n => b x o (a x o q n) fun z => by
  rcases h x z with r | r
  · exact n r
  · rw [q] at r; cases r
/-- what a loop over the rows keeps -/
structure MakeAt (c : Cs) (H H' : Hp) (B L d l : Addr) (ths : List MK) (zs : List Str) (i : Nat) : Prop where
  ex : ∃ (ln lv : Addr) (lvs : List Addr) (xs : List V) (ths1 : List MK) (levels1 : List (List Nat)), BS c H' B L d l ln lv lvs ths1 xs (zs.take i) levels1 ∧ BookInv ths1 (zs.take i) levels1 ∧ Kp [B, d, l] H H' ∧ (∀ x ∈ ln :: lv :: lvs, H x = none) ∧
    growsM ths1 (zs.take i) levels1 (zs.drop i) = growsM ths [] [] zs ∧ ths1.length ≤ ths.length + 17 * i
theorem bookInv_nil (ths : List MK) : BookInv ths [] [] := ⟨fun h => by rw [lev_out (Nat.zero_le _)]; simp, fun h j x e => by rw [lev_out (Nat.zero_le _)] at e; simp at e⟩
theorem pure_Book_init {K : PySem.W.Frag} {c : Cs} {vs : List V} {H : Hp} {Q : VK} {E : XK} (T : TxK K c) (h : sp_Book_init K c vs H Q E) : t_Book_init K c E ⟨fun _ H' => Q .non H', Q, fun _ _ => False, fun _ _ => False⟩ (start N_Book_init vs) H := by
  obtain ⟨B, dx, L, d, l, a, ths, xs, ys, rfl, hB, hL, ha, nad, nal, hy, hyl, hz, k1, k2, k3⟩ := h
  show t_Book_init K c E _ [some (.ref B), some (.ref L), some (.ref a), none] H
  unfold t_Book_init
  have nBd : B ≠ d := fun e => by
    obtain ⟨φ, e2⟩ := T.md d (ents 0 ths xs)
    have := hL.dc
    rw [e2, ← e, hB] at this
    exact nomatch this
  have nBl : B ≠ l := fun e => by
    have := hL.ls
    rw [← e, hB] at this
    exact nomatch this
  have nBL : B ≠ L := fun e => by
    obtain ⟨dy, h1⟩ := hL.ob
    rw [← e, hB] at h1
    have h2 := (HO.ins.inj (Option.some.inj h1)).2.2
    unfold lfl at h2
    exact nomatch (show ([] : List (Str × V)) = _ from h2)
  walk_at "s"
  refine w_iLv ha (lb_list (K := K) (xs := ys) (fun i σ H' => H = H' ∧ (∃ v, σ = [some (.ref B), some (.ref L), some (.ref a), v]) ∧ ∀ j y, j < i → ys[j]? = some y → isRowV y) ⟨rfl, ⟨none, rfl⟩, fun j _ hj => absurd hj (Nat.not_lt_zero _)⟩ ?_ ?_ ?_)
  · rintro i σ H' _ ⟨rfl, _⟩
    exact ha
  · rintro i y σ H' hi ⟨rfl, ⟨v, rfl⟩, hb⟩
    walk_at "s"
    refine ⟨y, rfl, hy y (List.mem_of_getElem? hi), fun g => ?_, fun n => k1 ⟨y, List.mem_of_getElem? hi, n⟩⟩
    refine ⟨rfl, ⟨_, rfl⟩, fun j y' hj e => ?_⟩
    rcases Nat.lt_or_ge j i with q | q
    · exact hb j y' q e
    · have e2 : j = i := by omega
      rw [e2, hi] at e
      cases e
      exact g
  rintro σ H' ⟨rfl, ⟨v, rfl⟩, hb⟩
  have hg : ∀ y ∈ ys, isRowV y := fun y hy => by
    obtain ⟨j, hj⟩ := List.mem_iff_getElem?.mp hy
    exact hb j y (get_lt hj) hj
  obtain ⟨zs, rfl, hzs⟩ : ∃ zs : List Str, ys = zs.map V.str ∧ ∀ z ∈ zs, Good z := by
    clear hb k1 k2 k3 ha hy hyl
    induction ys with
    | nil => exact ⟨[], rfl, fun z hz => nomatch hz⟩
    | cons y ys ih =>
      obtain ⟨zs, e, h1⟩ := ih fun y hy => hg y (List.mem_cons_of_mem _ hy)
      obtain ⟨z, e2, h2⟩ := hg y List.mem_cons_self
      refine ⟨z :: zs, by rw [e, e2]; rfl, fun x hx => ?_⟩
      rcases List.mem_cons.mp hx with r | r
      · rw [r]; exact h2
      · exact h1 x r
  rw [List.length_map] at hyl k2
  walk_at "s"
  refine w_lenL ha ?_
  rw [List.length_map]
  walk_at "s"
  refine ite_d (fun h0 => ?_) fun h0 => ?_
  · walk_at "s"
    exact k2 hg (by omega)
  have hm : zs.length ≤ 1024 := by omega
  have k := k3 zs rfl hzs hm
  clear k1 k2 k3
  walk_at "s"
  refine w_sfldAt hB T.cBook T.n_Book_ledger (by show 0 < 1000; decide) ?_
  walk_at "s"
  refine ⟨Nat.zero_le _, fun ln hln => ?_⟩
  have nB1 : B ≠ ln := fun e => by rw [← e, upd_same] at hln; exact nomatch hln
  have fln : H ln = none := by rw [upd_ne (Ne.symm nB1)] at hln; exact hln
  walk_at "s"
  refine w_sfldAt (by rw [upd_ne nB1, upd_same]) T.cBook T.n_Book_lines (by show 1 < 1000; decide) ?_
  walk_at "s"
  refine ⟨Nat.zero_le _, fun lv hlv => ?_⟩
  have nB2 : B ≠ lv := fun e => by rw [← e, upd_same] at hlv; exact nomatch hlv
  have n12 : ln ≠ lv := fun e => by rw [← e, upd_ne (Ne.symm nB1), upd_same] at hlv; exact nomatch hlv
  have flv : H lv = none := by rw [upd_ne (Ne.symm nB2), upd_ne (Ne.symm n12), upd_ne (Ne.symm nB2)] at hlv; exact hlv
  walk_at "s"
  refine w_sfldAt (by rw [upd_ne nB2, upd_same]) T.cBook T.n_Book_levels (by show 2 < 1000; decide) ?_
  walk_at "s"
  have q1 : Kp [B, d, l] H (upd (upd (upd (upd (upd H B (.ins c.Book dx (putF "ledger" (.ref L) []))) ln (.lst [])) B (.ins c.Book dx (putF "lines" (.ref ln) (putF "ledger" (.ref L) [])))) lv (.lst [])) B (.ins c.Book dx (putF "levels" (.ref lv) (putF "lines" (.ref ln) (putF "ledger" (.ref L) []))))) :=
    ((((Kp.refl.set (by simp)).fresh fln).set (by simp)).fresh flv).set (by simp)
  have b1 : BookAt c (upd (upd (upd (upd (upd H B (.ins c.Book dx (putF "ledger" (.ref L) []))) ln (.lst [])) B (.ins c.Book dx (putF "lines" (.ref ln) (putF "ledger" (.ref L) [])))) lv (.lst [])) B (.ins c.Book dx (putF "levels" (.ref lv) (putF "lines" (.ref ln) (putF "ledger" (.ref L) []))))) B L ln lv [] [] [] := by
    refine ⟨⟨dx, upd_same⟩, ?_, ?_, rfl, fun i a x e _ => by simp at e, ?_⟩
    · rw [upd_ne (Ne.symm nB1), upd_ne n12, upd_ne (Ne.symm nB1), upd_same]; rfl
    · rw [upd_ne (Ne.symm nB2), upd_same]; rfl
    · rw [List.nodup_cons]
      exact ⟨by simpa using n12, by simp⟩
  have q0 : Kp [B] H (upd (upd (upd (upd (upd H B (.ins c.Book dx (putF "ledger" (.ref L) []))) ln (.lst [])) B (.ins c.Book dx (putF "lines" (.ref ln) (putF "ledger" (.ref L) [])))) lv (.lst [])) B (.ins c.Book dx (putF "levels" (.ref lv) (putF "lines" (.ref ln) (putF "ledger" (.ref L) []))))) :=
    ((((Kp.refl.set (by simp)).fresh fln).set (by simp)).fresh flv).set (by simp)
  generalize upd (upd (upd (upd (upd H B (.ins c.Book dx (putF "ledger" (.ref L) []))) ln (.lst [])) B (.ins c.Book dx (putF "lines" (.ref ln) (putF "ledger" (.ref L) [])))) lv (.lst [])) B (.ins c.Book dx (putF "levels" (.ref lv) (putF "lines" (.ref ln) (putF "ledger" (.ref L) [])))) = H1 at q1 q0 b1
  have l1 : LedgerAt c H1 L d l ths xs := by
    obtain ⟨dy, hp⟩ := hL.ob
    refine ⟨⟨dy, q0 _ _ hp (by simpa using Ne.symm nBL)⟩, q0 _ _ hL.dc (by simpa using Ne.symm nBd), q0 _ _ hL.ls (by simpa using Ne.symm nBl), paired_imp hL.kv fun a b q => q0.keyV q fun x o hx ho => ?_, hL.nd⟩
    rw [List.mem_singleton.mp hx, hB] at ho
    cases ho
    rintro ⟨_, e⟩
    cases e
  have S1 : BS c H1 B L d l ln lv [] ths xs [] [] := by
    refine ⟨l1, b1, ?_⟩
    have nd : ∀ {x : Addr} {o : HO}, H x = some o → x ≠ ln ∧ x ≠ lv := fun h => ⟨ne_of_none h fln, ne_of_none h flv⟩
    rw [List.nodup_cons, List.nodup_cons]
    refine ⟨?_, ?_, b1.nd⟩
    · simp [hL.dl T, (nd hL.dc).1, (nd hL.dc).2]
    · simp [(nd hL.ls).1, (nd hL.ls).2]
  have ha1 : ∀ {H' : Hp}, Kp [B, d, l] H H' → SqL K H' a (zs.map V.str) := fun k => sql_stay ha k fun o ho no hx => by
    rcases List.mem_cons.mp hx with e | hx
    · rw [e, hB] at ho
      cases ho
      exact no _ _ _ rfl
    rcases List.mem_cons.mp hx with e | hx
    · exact nad e
    · exact nal (List.mem_singleton.mp hx)
  refine w_iLv (ha1 q1) (lb_list (K := K) (xs := zs.map V.str) (fun i σ H' => (∃ v, σ = [some (.ref B), some (.ref L), some (.ref a), v]) ∧ MakeAt c H H' B L d l ths zs i) ⟨⟨_, rfl⟩, ln, lv, [], xs, ths, [], by rw [List.take_zero]; exact S1, by rw [List.take_zero]; exact bookInv_nil _, q1, fun x hx => ?_, rfl, by omega⟩ ?_ ?_ ?_)
  · rcases List.mem_cons.mp hx with e | hx
    · rw [e]; exact fln
    · rw [List.mem_singleton.mp hx]; exact flv
  · rintro i σ H' _ ⟨_, ln1, lv1, lvs1, xs1, ths1, levels1, _, _, q, _⟩
    exact ha1 q
  · rintro i y σ H2 hi ⟨⟨v, rfl⟩, ln1, lv1, lvs1, xs1, ths1, levels1, S2, I2, q2, f2, e2, b2⟩
    obtain ⟨z, hz1, rfl⟩ := get_map hi
    have hlt := get_lt hz1
    have htl : (zs.take i).length = i := by rw [List.length_take]; omega
    walk_at "s"
    obtain ⟨dx2, hB2⟩ := S2.ba.ob
    refine w_methAt hB2 (bfl_no (by decide +kernel) (by decide +kernel) (by decide +kernel)) ?_
    walk_at "s"
    refine ⟨B, L, d, l, ln1, lv1, lvs1, ths1, xs1, zs.take i, levels1, z, rfl, S2, I2, hzs z (List.mem_of_getElem? hz1), by omega, by omega, fun H3 xs3 lvs3 S3 I3 bc k3 w3 => ?_⟩
    rw [drop_at hz1] at e2
    rw [← take_at hz1] at S3 I3
    have low := bc.low (by omega)
    have gl := growM_len (ths := ths1) (rows := zs.take i) (levels := levels1) (z := z)
    refine ⟨⟨_, rfl⟩, ln1, lv1, lvs3, xs3, _, _, S3, I3, kp_trans2 q2 k3 fun x hx => ?_, fun x hx => ?_, ?_, by omega⟩
    · rcases List.mem_cons.mp hx with e | hx
      · rw [e]; simp
      rcases List.mem_cons.mp hx with e | hx
      · rw [e]; simp
      exact .inr (f2 x hx)
    · have key : x ∈ ln1 :: lv1 :: lvs1 ∨ H2 x = none := by
        rcases List.mem_cons.mp hx with e | hx
        · rw [e]; simp
        rcases List.mem_cons.mp hx with e | hx
        · rw [e]; simp
        rcases w3.2 x hx with r | r
        · exact .inl (List.mem_cons_of_mem _ (List.mem_cons_of_mem _ r))
        · exact .inr r
      rcases key with r | r
      · exact f2 x r
      · cases q : H x with
        | none => rfl
        | some o =>
          have := q2 x o q fun hx => by
            rcases List.mem_cons.mp hx with e | hx
            · rw [e, hB2] at r; cases r
            rcases List.mem_cons.mp hx with e | hx
            · rw [e, S2.la.dc] at r; cases r
            · rw [List.mem_singleton.mp hx, S2.la.ls] at r; cases r
          rw [this] at r
          cases r
    · rw [take_at hz1]; exact e2
  · rintro σ H2 ⟨⟨v, rfl⟩, ln1, lv1, lvs1, xs1, ths1, levels1, S2, I2, q2, f2, e2, b2⟩
    rw [List.length_map, List.take_length] at S2 I2 e2
    rw [List.length_map] at b2
    rw [List.drop_length] at e2
    have e3 : growsM ths [] [] zs = (ths1, levels1) := e2.symm
    walk_at "s"
    have := k H2 ln1 lv1 lvs1 xs1
    rw [e3] at this
    exact this S2 I2 q2 f2 b2
end Tw

namespace Tw
open PySem L2 Ts
/-! ### the laws' own digits, sizes, parts -/
end Tw

namespace Tw
open PySem L2 Ts Mix
/-! ### what the laws draw -/
theorem good_nil : Good "" := by decide +kernel
theorem good_app {a b : Str} (ha : ∀ c ∈ a.cps.toList, c ∈ signs.cps.toList) (hb : ∀ c ∈ b.cps.toList, c ∈ signs.cps.toList) : ∀ c ∈ (a ++ b).cps.toList, c ∈ signs.cps.toList := by
  intro c hc
  have e : (a ++ b).cps.toList = a.cps.toList ++ b.cps.toList := by
    show (a.cps ++ b.cps).toList = _
    simp
  rw [e] at hc
  rcases List.mem_append.mp hc with h | h
  · exact ha c h
  · exact hb c h
theorem len_app {a b : Str} : (a ++ b).length = a.length + b.length := by
  show (a.cps ++ b.cps).size = _
  rw [Array.size_append]; rfl
theorem good_num : ∀ n : Fin 40, (Str.ofString (toString ((n.val : Nat) : Int))).length ≤ 2 ∧ ∀ c ∈ (Str.ofString (toString ((n.val : Nat) : Int))).cps.toList, c ∈ signs.cps.toList := by decide +kernel
theorem goodN {n : Nat} (h : n < 40) : (Str.ofString (toString ((n : Nat) : Int))).length ≤ 2 ∧ ∀ c ∈ (Str.ofString (toString ((n : Nat) : Int))).cps.toList, c ∈ signs.cps.toList := good_num ⟨n, h⟩
theorem good_one {c : Nat} (h : c ∈ signs.cps.toList) : ∀ x ∈ (⟨#[c]⟩ : Str).cps.toList, x ∈ signs.cps.toList := by
  intro x hx
  simp at hx
  rw [hx]; exact h
theorem good_cut {z : Str} {lo hi : Option Int} (h : ∀ c ∈ z.cps.toList, c ∈ signs.cps.toList) : ∀ c ∈ (cutS z lo hi).cps.toList, c ∈ signs.cps.toList := by
  intro c hc
  unfold cutS at hc
  exact h c (List.mem_of_mem_drop (List.mem_of_mem_take (by simpa using hc)))
theorem at_signs {i : Int} (h0 : 0 ≤ i) (h1 : i < 37) : ∃ c, c ∈ signs.cps.toList ∧ atI signs.cps.toList i = some c := by
  have e : (37 : Int) = (signs.cps.toList.length : Nat) := by decide +kernel
  exact atI_lt h0 (by rw [← e]; exact h1)
def N_law_mix : List Str := ["_law_number", "_law_k", "_law_more"]
def t_law_mix (K : PySem.W.Frag) (c : Cs) (E : XK) : TS := (tSeq (tAsg (tOp rMod (tOp rAddU (tOp rAddU (tOp rMul (tVar 0) (tC (.int 48271))) (tOp rMul (tVar 1) (tC (.int 69621)))) (tC (.int 11))) (tC (.int 1000003))) (gName 2))
  (tRet (tOp rMod (tOp rAddU (tOp rAddU (tOp rMul (tVar 2) (tVar 2)) (tOp rMul (tC (.int 7)) (tVar 2))) (tVar 1)) (tC (.int 999983)))))
def sp_law_mix (K : PySem.W.Frag) (_ : Cs) : Sp := fun vs H Q _ => ∃ n k : Int, vs = [.int n, .int k] ∧ ∀ r : Nat, r < 999983 → Q (.int (r : Nat)) H
theorem len_law_mix {K c} : ∀ vs H Q E, sp_law_mix K c vs H Q E → vs.length = 2 := by rintro vs H Q E ⟨_, _, rfl, _⟩; rfl
theorem pure_law_mix {K : PySem.W.Frag} {c : Cs} {vs : List V} {H : Hp} {Q : VK} {E : XK} (h : sp_law_mix K c vs H Q E) : t_law_mix K c E ⟨fun _ H' => Q .non H', Q, fun _ _ => False, fun _ _ => False⟩ (start N_law_mix vs) H := by
  obtain ⟨n, k, rfl, q⟩ := h
  show t_law_mix K c E _ [some (.int n), some (.int k), none] H
  unfold t_law_mix
  walk_at "s"
  have h1 := Int.emod_nonneg (n * 48271 + k * 69621 + 11) (show (1000003 : Int) ≠ 0 by decide)
  have h2 := Int.emod_lt_of_pos (n * 48271 + k * 69621 + 11) (show (0 : Int) < 1000003 by decide)
  generalize (n * 48271 + k * 69621 + 11) % 1000003 = m at h1 h2
  obtain ⟨r, hr⟩ := Int.eq_ofNat_of_zero_le (a := (m * m + 7 * m + k) % 999983) (Int.emod_nonneg _ (by decide))
  have h3 := Int.emod_lt_of_pos (m * m + 7 * m + k) (show (0 : Int) < 999983 by decide)
  rw [hr] at h3 ⊢
  exact q r (by omega)
def N_law_text : List Str := ["_law_cell", "_law_signs", "_law_many", "_law_text_here", "_law_k"]
def t_law_text (K : PySem.W.Frag) (c : Cs) (E : XK) : TS := (tSeq (tAsg (tC (.str "abcdefghijklmnopqrstuvwxyz0123456789 ")) (gName 1))
  (tSeq (tAsg (tOp rMod (tVar 0) (tC (.int 9))) (gName 2))
  (tSeq (tIfS (tTest (tOp (rEqU K) (tOp rMod (tOp rDiv (tVar 0) (tC (.int 9))) (tC (.int 6))) (tC (.int 2)))) (tRet (tOp rAddU (tOp rAddU (tCB rStr1 (tCons (tOp rMod (tOp rDiv (tVar 0) (tC (.int 54))) (tC (.int 40))) tNil)) (tOp (rIx K) (tLst (tCons (tC (.str " ")) (tCons (tC (.str "")) tNil))) (tOp rMod (tOp rDiv (tVar 0) (tC (.int 2160))) (tC (.int 2))))) (tCB rStr1 (tCons (tOp rMod (tOp rDiv (tVar 0) (tC (.int 4320))) (tC (.int 40))) tNil)))) tNext)
  (Evl.tCut (tIfS (tTest (tOp (rEqU K) (tOp rMod (tOp rDiv (tVar 0) (tC (.int 9))) (tC (.int 6))) (tC (.int 1)))) (tAsg (tOp (rIx K) (tLst (tCons (tC (.int 40)) (tCons (tC (.int 39)) (tCons (tC (.int 0)) (tCons (tC (.int 1)) tNil))))) (tOp rMod (tOp rDiv (tVar 0) (tC (.int 54))) (tC (.int 4)))) (gName 2)) tNext)
  (tSeq (tAsg (tC (.str "")) (gName 3))
  (tSeq (tFor (iRng1 (tCons (tVar 2) tNil)) (gName 4) (tAsg (tOp rAddU (tVar 3) (tOp (rIx K) (tVar 1) (tOp rMod (tOp rDiv (tCall (sp_law_mix K c) [] E0 (tCons (tVar 0) (tCons (tVar 4) tNil))) (tC (.int 7))) (tC (.int 37))))) (gName 3)))
  (tRet (tVar 3))))))))
def sp_law_text (K : PySem.W.Frag) (_ : Cs) : Sp := fun vs H Q _ => ∃ n : Int, vs = [.int n] ∧ ∀ (z : Str) H', Good z → Ex H H' → Q (.str z) H'
theorem len_law_text {K c} : ∀ vs H Q E, sp_law_text K c vs H Q E → vs.length = 1 := by rintro vs H Q E ⟨_, rfl, _⟩; rfl
theorem pure_law_text {K : PySem.W.Frag} {c : Cs} {vs : List V} {H : Hp} {Q : VK} {E : XK} (h : sp_law_text K c vs H Q E) : t_law_text K c E ⟨fun _ H' => Q .non H', Q, fun _ _ => False, fun _ _ => False⟩ (start N_law_text vs) H := by
  obtain ⟨n, rfl, q⟩ := h
  show t_law_text K c E _ [some (.int n), none, none, none, none] H
  unfold t_law_text
  walk_at "s"
  refine ite_d (fun h0 => ?_) fun h0 => ?_
  · walk_at "s"
    obtain ⟨i, hi⟩ := Int.eq_ofNat_of_zero_le (a := n / 54 % 40) (by omega)
    obtain ⟨j, hj⟩ := Int.eq_ofNat_of_zero_le (a := n / 4320 % 40) (by omega)
    rw [hi]
    have g1 := goodN (n := i) (by omega)
    have g2 := goodN (n := j) (by omega)
    refine w_str (Nat.lt_of_le_of_lt (Nat.log2_le_self _) (by omega)) ?_
    walk_at "s"
    refine ⟨by show 2 ≤ sizeLine; exact sz100 (by decide), fun p hp => ?_⟩
    walk_at "s"
    refine w_ixAny (sql upd_same) (by omega) (by show _ < ((2 : Nat) : Int); omega) fun v hv => ?_
    obtain ⟨y, rfl, g3, g4⟩ : ∃ y : Str, v = .str y ∧ y.length ≤ 1 ∧ ∀ c ∈ y.cps.toList, c ∈ signs.cps.toList := by
      rcases List.mem_cons.mp hv with e | hv
      · exact ⟨_, e, by decide +kernel, by decide +kernel⟩
      · exact ⟨_, List.mem_singleton.mp hv, by decide +kernel, by decide +kernel⟩
    walk_at "s"
    refine w_addS (szM (by have := g1.1; omega)) ?_
    walk_at "s"
    rw [hj]
    refine w_str (Nat.lt_of_le_of_lt (Nat.log2_le_self _) (by omega)) ?_
    have l1 := g1.1
    have l2 := g2.1
    have l3 : (toString ((i : Nat) : Int) ++ y : Str).length ≤ 3 := by rw [len_app]; omega
    refine w_addS (szM (by omega)) ?_
    exact q _ _ ⟨by rw [len_app]; omega, good_app (good_app g1.2 g4) g2.2⟩ (ex_new ex_refl hp)
  walk_at "s"
  refine w_cut (Mid := fun σ' H' => Ex H H' ∧ ∃ m : Nat, m ≤ 40 ∧ σ' = [some (.int n), some (.str signs), some (.int (m : Nat)), none, none]) ?_ ?_
  · walk_at "s"
    refine ite_d (fun h1 => ?_) fun h1 => ?_
    · walk_at "s"
      refine ⟨by show 4 ≤ sizeLine; exact sz100 (by decide), fun p hp => ?_⟩
      walk_at "s"
      refine w_ixAny (sql upd_same) (by omega) (by show _ < ((4 : Nat) : Int); omega) fun v hv => ?_
      walk_at "s"
      simp only [List.mem_cons, List.not_mem_nil, or_false] at hv
      rcases hv with rfl | rfl | rfl | rfl
      · exact ⟨ex_new ex_refl hp, 40, by decide, rfl⟩
      · exact ⟨ex_new ex_refl hp, 39, by decide, rfl⟩
      · exact ⟨ex_new ex_refl hp, 0, by decide, rfl⟩
      · exact ⟨ex_new ex_refl hp, 1, by decide, rfl⟩
    · walk_at "s"
      obtain ⟨m, e⟩ := Int.eq_ofNat_of_zero_le (a := n % 9) (by omega)
      rw [e]
      exact ⟨ex_refl, m, by omega, rfl⟩
  rintro σ H1 ⟨ex1, m, hm, rfl⟩
  walk_at "s"
  refine w_iR1v (by omega) (by omega) ?_
  rw [Int.toNat_natCast]
  refine lb_range0 (fun i σ H' => Ex H H' ∧ ∃ (z : Str) (v : Option V), z.length = i ∧ (∀ c ∈ z.cps.toList, c ∈ signs.cps.toList) ∧ σ = [some (.int n), some (.str signs), some (.int (m : Nat)), some (.str z), v]) ⟨ex1, _, _, rfl, good_nil.2, rfl⟩ ?_ ?_
  · rintro i σ H2 hi ⟨ex2, z, v, hz, hg, rfl⟩
    walk_at "s"
    refine ⟨n, i, rfl, fun r hr => ?_⟩
    walk_at "s"
    obtain ⟨ch, hc, ec⟩ := at_signs (i := (r : Nat) / 7 % 37) (by omega) (by omega)
    refine w_ixS (by decide +kernel) ec ?_
    have l1 : (⟨#[ch]⟩ : Str).length = 1 := rfl
    refine w_addS (szM (by omega)) ?_
    walk_at "s"
    exact ⟨ex2, _, _, by rw [len_app, hz, l1], good_app hg (good_one hc), rfl⟩
  · rintro σ H2 ⟨ex2, z, v, hz, hg, rfl⟩
    walk_at "s"
    exact q z _ ⟨by omega, hg⟩ ex2
theorem cut_hi {z : Str} {k : Nat} (h : k ≤ z.length) : (cutS z none (some (k : Int))).length = k := by
  unfold cutS
  rw [HT.sIx_none, HT.sIx_nat, List.drop_zero, Nat.sub_zero]
  show (List.toArray _).size = k
  rw [List.size_toArray, List.length_take]
  show min (min k z.length) z.cps.toList.length = k
  rw [Array.length_toList]
  show min (min k z.length) z.length = k
  omega
theorem cut_lo {z : Str} {k : Nat} (h : k ≤ z.length) : (cutS z (some (k : Int)) none).length = z.length - k := by
  unfold cutS
  rw [HT.sIx_none, HT.sIx_nat]
  show (List.toArray _).size = _
  rw [List.size_toArray, List.length_take, List.length_drop]
  show min (z.length - min k z.length) (z.cps.toList.length - min k z.length) = z.length - k
  rw [Array.length_toList]
  show min (z.length - min k z.length) (z.length - min k z.length) = z.length - k
  omega
def N_law_near : List Str := ["_law_text_here", "_law_cell", "_law_at", "_law_sign"]
def t_law_near (K : PySem.W.Frag) (c : Cs) (E : XK) : TS := (tSeq (tAsg (tOp rMod (tVar 1) (tOp rAddU (tC (.int 1)) (tCB (Ts.rLen K) (tCons (tVar 0) tNil)))) (gName 2))
  (tSeq (tAsg (tOp (rIx K) (tC (.str "abcdefghijklmnopqrstuvwxyz0123456789 ")) (tOp rMod (tOp rDiv (tVar 1) (tC (.int 41))) (tC (.int 37)))) (gName 3))
  (tSeq (tIfS (tAnd (tTest (tOp rLt (tVar 2) (tCB (Ts.rLen K) (tCons (tVar 0) tNil)))) (tTest (tOp (rNeU K) (tOp (rIx K) (tVar 0) (tVar 2)) (tVar 3)))) (tRet (tOp rAddU (tOp rAddU (tSl (rSlU K) (tVar 0) tNoPart (tPart (tVar 2))) (tVar 3)) (tSl (rSlU K) (tVar 0) (tPart (tOp rAddU (tVar 2) (tC (.int 1)))) tNoPart))) tNext)
  (tSeq (tIfS (tTest (tOp rLt (tCB (Ts.rLen K) (tCons (tVar 0) tNil)) (tC (.int 40)))) (tRet (tOp rAddU (tOp rAddU (tSl (rSlU K) (tVar 0) tNoPart (tPart (tVar 2))) (tVar 3)) (tSl (rSlU K) (tVar 0) (tPart (tVar 2)) tNoPart))) tNext)
  (tRet (tSl (rSlU K) (tVar 0) (tPart (tC (.int 1))) tNoPart))))))
def sp_law_near (K : PySem.W.Frag) (_ : Cs) : Sp := fun vs H Q _ => ∃ (y : Str) (n : Int), vs = [.str y, .int n] ∧ Good y ∧ ∀ (z : Str), Good z → Q (.str z) H
theorem len_law_near {K c} : ∀ vs H Q E, sp_law_near K c vs H Q E → vs.length = 2 := by rintro vs H Q E ⟨_, _, rfl, _⟩; rfl
theorem pure_law_near {K : PySem.W.Frag} {c : Cs} {vs : List V} {H : Hp} {Q : VK} {E : XK} (h : sp_law_near K c vs H Q E) : t_law_near K c E ⟨fun _ H' => Q .non H', Q, fun _ _ => False, fun _ _ => False⟩ (start N_law_near vs) H := by
  obtain ⟨y, n, rfl, hy, q⟩ := h
  show t_law_near K c E _ [some (.str y), some (.int n), none, none] H
  unfold t_law_near
  have hl := hy.1
  walk_at "s"
  refine w_lenS (good_len hy) ?_
  walk_at "s"
  obtain ⟨k, hk⟩ := Int.eq_ofNat_of_zero_le (a := n % (1 + (y.length : Nat))) (Int.emod_nonneg _ (by omega))
  have hk2 := Int.emod_lt_of_pos n (show (0 : Int) < 1 + (y.length : Nat) by omega)
  rw [hk] at hk2 ⊢
  have hk3 : k ≤ y.length := by omega
  walk_at "s"
  obtain ⟨ch, hc, ec⟩ := at_signs (i := n / 41 % 37) (by omega) (by omega)
  refine w_ixS (by decide +kernel) ec ?_
  have l1 : (⟨#[ch]⟩ : Str).length = 1 := rfl
  walk_at "s"
  refine w_lenS (good_len hy) ?_
  walk_at "s"
  have l2 := cut_hi hk3
  have rest : tSeq (tIfS (tTest (tOp rLt (tCB (Ts.rLen K) (tCons (tVar 0) tNil)) (tC (.int 40)))) (tRet (tOp rAddU (tOp rAddU (tSl (rSlU K) (tVar 0) tNoPart (tPart (tVar 2))) (tVar 3)) (tSl (rSlU K) (tVar 0) (tPart (tVar 2)) tNoPart))) tNext)
      (tRet (tSl (rSlU K) (tVar 0) (tPart (tC (.int 1))) tNoPart)) ⟨fun _ H' => Q .non H', Q, fun _ _ => False, fun _ _ => False⟩ [some (.str y), some (.int n), some (.int (k : Nat)), some (.str ⟨#[ch]⟩)] H := by
    walk_at "s"
    refine w_lenS (good_len hy) ?_
    walk_at "s"
    refine ite_d (fun h0 => ?_) fun h0 => ?_
    · walk_at "s"
      refine w_slS (good_len hy) ?_
      walk_at "s"
      refine w_addS (szM (by omega)) ?_
      walk_at "s"
      refine w_slS (good_len hy) ?_
      have l3 := cut_lo hk3
      refine w_addS (szM (by rw [len_app]; omega)) ?_
      exact q _ ⟨by rw [len_app, len_app]; omega, good_app (good_app (good_cut hy.2) (good_one hc)) (good_cut hy.2)⟩
    · walk_at "s"
      refine w_slS (good_len hy) ?_
      exact q _ ⟨Nat.le_trans (cutS_length _ _ _) hl, good_cut hy.2⟩
  refine ite_d (fun h0 => ?_) fun h0 => ?_
  · have hk4 : k < y.length := by omega
    obtain ⟨d, hd⟩ : ∃ d, y.cps.toList[k]? = some d := ⟨_, List.getElem?_eq_getElem (by rw [Array.length_toList]; exact hk4)⟩
    walk_at "s"
    refine w_ixS (good_len hy) (atI_nat hd) ?_
    walk_at "s"
    refine ite_nd (fun h1 => ?_) fun h1 => ?_
    · walk_at "s"
      refine w_slS (good_len hy) ?_
      walk_at "s"
      refine w_addS (szM (by omega)) ?_
      walk_at "s"
      refine w_slS (good_len hy) ?_
      have l3 := cut_lo (z := y) (k := k + 1) hk4
      rw [show ((k : Nat) : Int) + 1 = ((k + 1 : Nat) : Int) by push_cast; rfl]
      refine w_addS (szM (by rw [len_app]; omega)) ?_
      exact q _ ⟨by rw [len_app, len_app]; omega, good_app (good_app (good_cut hy.2) (good_one hc)) (good_cut hy.2)⟩
    · exact rest
  · exact rest
end Tw

namespace Tw
open PySem L2 Ts Mix
/-- a list of rows, made anew -/
structure NewRows (H H' : Hp) (a : Addr) (zs : List Str) : Prop where
  new : H a = none
  at' : H' a = some (.lst (zs.map V.str))
  ex : Ex H H'
  good : ∀ z ∈ zs, Good z
theorem good_snoc {zs : List Str} {z : Str} (h : ∀ z ∈ zs, Good z) (hz : Good z) : ∀ x ∈ zs ++ [z], Good x := fun x hx => by
  rcases List.mem_append.mp hx with q | q
  · exact h x q
  · rw [List.mem_singleton.mp q]; exact hz
theorem map_snoc (zs : List Str) (z : Str) : zs.map V.str ++ [.str z] = (zs ++ [z]).map V.str := by rw [List.map_append]; rfl
def N_law_rows : List Str := ["_law_cell", "_law_more", "_law_many", "_law_kinds", "_law_rows_here", "_law_k"]
def t_law_rows (K : PySem.W.Frag) (c : Cs) (E : XK) : TS := (tSeq (tAsg (tOp rMod (tVar 0) (tC (.int 21))) (gName 2))
  (Evl.tCut (tIfS (tTest (tOp (rEqU K) (tOp rMod (tOp rDiv (tVar 0) (tC (.int 21))) (tC (.int 8))) (tC (.int 1)))) (tAsg (tOp (rIx K) (tLst (tCons (tC (.int 16)) (tCons (tC (.int 17)) (tCons (tC (.int 31)) (tCons (tC (.int 32)) (tCons (tC (.int 33)) (tCons (tC (.int 64)) (tCons (tC (.int 63)) (tCons (tC (.int 100)) (tCons (tC (.int 128)) (tCons (tC (.int 200)) (tCons (tC (.int 600)) (tCons (tC (.int 900)) tNil))))))))))))) (tOp rMod (tOp rDiv (tVar 0) (tC (.int 168))) (tC (.int 12)))) (gName 2)) tNext)
  (tSeq (tAsg (tOp rAddU (tC (.int 1)) (tOp rMod (tVar 1) (tC (.int 5)))) (gName 3))
  (tSeq (tAsg (tLst tNil) (gName 4))
  (tSeq (tFor (iRng1 (tCons (tVar 2) tNil)) (gName 5) (tDrop (tBM K "list" rAppend (tVar 4) (tCons (tCall (sp_law_text K c) [] E0 (tCons (tOp rMod (tOp rDiv (tCall (sp_law_mix K c) [] E0 (tCons (tVar 1) (tCons (tVar 5) tNil))) (tC (.int 3))) (tOp (rIx K) (tLst (tCons (tVar 3) (tCons (tC (.int 99991)) tNil))) (tOp rDiv (tOp rMod (tVar 5) (tC (.int 3))) (tC (.int 2))))) tNil)) tNil))))
  (tRet (tVar 4)))))))
def sp_law_rows (K : PySem.W.Frag) (_ : Cs) : Sp := fun vs H Q _ => ∃ n m : Int, vs = [.int n, .int m] ∧ ∀ a zs H', NewRows H H' a zs → zs.length ≤ 900 → Q (.ref a) H'
theorem len_law_rows {K c} : ∀ vs H Q E, sp_law_rows K c vs H Q E → vs.length = 2 := by rintro vs H Q E ⟨_, _, rfl, _⟩; rfl
theorem pure_law_rows {K : PySem.W.Frag} {c : Cs} {vs : List V} {H : Hp} {Q : VK} {E : XK} (h : sp_law_rows K c vs H Q E) : t_law_rows K c E ⟨fun _ H' => Q .non H', Q, fun _ _ => False, fun _ _ => False⟩ (start N_law_rows vs) H := by
  obtain ⟨n, m, rfl, q⟩ := h
  show t_law_rows K c E _ [some (.int n), some (.int m), none, none, none, none] H
  unfold t_law_rows
  walk_at "s"
  refine w_cut (Mid := fun σ' H' => Ex H H' ∧ ∃ k : Nat, k ≤ 900 ∧ σ' = [some (.int n), some (.int m), some (.int (k : Nat)), none, none, none]) ?_ ?_
  · walk_at "s"
    refine ite_d (fun h1 => ?_) fun h1 => ?_
    · walk_at "s"
      refine ⟨by show 12 ≤ sizeLine; exact sz100 (by decide), fun p hp => ?_⟩
      walk_at "s"
      refine w_ixAny (sql upd_same) (by omega) (by show _ < ((12 : Nat) : Int); omega) fun v hv => ?_
      walk_at "s"
      simp only [List.mem_cons, List.not_mem_nil, or_false] at hv
      obtain ⟨k, hk, rfl⟩ : ∃ k : Nat, k ≤ 900 ∧ v = .int (k : Nat) := by
        rcases hv with rfl | rfl | rfl | rfl | rfl | rfl | rfl | rfl | rfl | rfl | rfl | rfl
        · exact ⟨16, by decide, rfl⟩
        · exact ⟨17, by decide, rfl⟩
        · exact ⟨31, by decide, rfl⟩
        · exact ⟨32, by decide, rfl⟩
        · exact ⟨33, by decide, rfl⟩
        · exact ⟨64, by decide, rfl⟩
        · exact ⟨63, by decide, rfl⟩
        · exact ⟨100, by decide, rfl⟩
        · exact ⟨128, by decide, rfl⟩
        · exact ⟨200, by decide, rfl⟩
        · exact ⟨600, by decide, rfl⟩
        · exact ⟨900, by decide, rfl⟩
      exact ⟨ex_new ex_refl hp, k, hk, rfl⟩
    · walk_at "s"
      obtain ⟨k, e⟩ := Int.eq_ofNat_of_zero_le (a := n % 21) (by omega)
      rw [e]
      exact ⟨ex_refl, k, by omega, rfl⟩
  rintro σ H1 ⟨ex1, k, hk, rfl⟩
  walk_at "s"
  refine ⟨Nat.zero_le _, fun a ha => ?_⟩
  walk_at "s"
  have fa : H a = none := ex_free ex1 ha
  refine w_iR1v (by omega) (by omega) ?_
  rw [Int.toNat_natCast]
  refine lb_range0 (fun i σ H' => ∃ (zs : List Str) (v : Option V), zs.length = i ∧ NewRows H H' a zs ∧ σ = [some (.int n), some (.int m), some (.int (k : Nat)), some (.int (1 + m % 5)), some (.ref a), v]) ⟨[], _, rfl, ⟨fa, upd_same, ex_mut ex1 fa, fun z hz => nomatch hz⟩, rfl⟩ ?_ ?_
  · rintro i σ H2 hi ⟨zs, v, hz, S, rfl⟩
    walk_at "s"
    refine ⟨w_tyL (sql S.at'), ?_⟩
    walk_at "s"
    refine ⟨m, i, rfl, fun r hr => ?_⟩
    walk_at "s"
    refine ⟨by show 2 ≤ sizeLine; exact sz100 (by decide), fun p hp => ?_⟩
    walk_at "s"
    have np : a ≠ p := ne_of_none S.at' hp
    refine w_ixAny (sql upd_same) (by omega) (by show _ < ((2 : Nat) : Int); omega) fun v hv => ?_
    obtain ⟨j, hj, rfl⟩ : ∃ j : Int, 0 < j ∧ v = .int j := by
      rcases List.mem_cons.mp hv with e | hv
      · exact ⟨_, by omega, e⟩
      · exact ⟨_, by decide, List.mem_singleton.mp hv⟩
    refine w_mod hj ?_
    walk_at "s"
    refine ⟨_, rfl, fun z H3 gz ex3 => ?_⟩
    walk_at "s"
    have a3 : H3 a = some (.lst (zs.map V.str)) := ex3 _ _ (by rw [upd_ne np]; exact S.at')
    refine w_app a3 (by rw [List.length_map]; exact szL (by omega)) ?_
    refine ⟨zs ++ [z], _, by simp [hz], ⟨S.new, by rw [upd_same, map_snoc], ?_, good_snoc S.good gz⟩, rfl⟩
    exact ex_mut ((ex_new S.ex hp).trans ex3) S.new
  · rintro σ H2 ⟨zs, v, hz, S, rfl⟩
    walk_at "s"
    exact q a zs H2 S (by omega)
end Tw

namespace Tw
open PySem L2 Ts Mix
/-- a book, its rows kept beside in the list a -/
structure Bk (c : Cs) (H : Hp) (L d l : Addr) (ths : List MK) (B ln lv : Addr) (lvs : List Addr) (a : Addr) (rows : List Str) (levels : List (List Nat)) : Prop where
  ba : BookAt c H B L ln lv lvs rows levels
  iv : BookInv ths rows levels
  kept : H a = some (.lst (rows.map V.str))
  nd : (a :: d :: l :: ln :: lv :: lvs).Nodup
  good : ∀ z ∈ rows, Good z
section
variable {K : PySem.W.Frag} {c : Cs} {H H' : Hp} {B L d l ln lv a : Addr} {lvs lvs' : List Addr} {ths ths' : List MK} {xs xs' : List V} {rows rows' : List Str} {levels levels' : List (List Nat)}
theorem Bk.bs (b : Bk c H L d l ths B ln lv lvs a rows levels) (L1 : LedgerAt c H L d l ths xs) : BS c H B L d l ln lv lvs ths xs rows levels := ⟨L1, b.ba, (List.nodup_cons.mp b.nd).2⟩
theorem Bk.na (b : Bk c H L d l ths B ln lv lvs a rows levels) : a ∉ fpS d l ln lv lvs := (List.nodup_cons.mp b.nd).1
theorem Bk.nB (b : Bk c H L d l ths B ln lv lvs a rows levels) : B ≠ a := by
  obtain ⟨dx, h⟩ := b.ba.ob
  exact ne_of h b.kept fun z => nomatch z
/-- behind a deed the rows beside are kept anew -/
theorem Bk.step (T : TxK K c) (b : Bk c H L d l ths B ln lv lvs a rows levels) (S' : BS c H' B L d l ln lv lvs' ths' xs' rows' levels') (I' : BookInv ths' rows' levels') (w : Wider H lvs lvs') (k : Kp (fpS d l ln lv lvs) H H') (g : ∀ z ∈ rows', Good z) :
    H' a = some (.lst (rows.map V.str)) ∧ LedgerAt c (upd H' a (.lst (rows'.map V.str))) L d l ths' xs' ∧ Bk c (upd H' a (.lst (rows'.map V.str))) L d l ths' B ln lv lvs' a rows' levels' ∧ Kp (a :: fpS d l ln lv lvs) H (upd H' a (.lst (rows'.map V.str))) := by
  have na := b.na
  have ha := k _ _ b.kept na
  have k1 : Kp [a] H' (upd H' a (.lst (rows'.map V.str))) := Kp.refl.set (by simp)
  have na2 : a ∉ fpS d l ln lv lvs' := fun hx => by
    rcases List.mem_cons.mp hx with e | hx
    · exact na (by rw [e]; simp)
    rcases List.mem_cons.mp hx with e | hx
    · exact na (by rw [e]; simp)
    rcases List.mem_cons.mp hx with e | hx
    · exact na (by rw [e]; simp)
    rcases List.mem_cons.mp hx with e | hx
    · exact na (by rw [e]; simp)
    rcases w.2 a hx with r | r
    · exact na (by simp [r])
    · rw [b.kept] at r; cases r
  refine ⟨ha, S'.la.kp T k1 fun x hx => ?_, ⟨S'.ba.kp k1 (fun x hx => ?_) ?_, I', upd_same, List.nodup_cons.mpr ⟨na2, S'.nd⟩, g⟩, (k.mono fun x hx => List.mem_cons_of_mem _ hx).set List.mem_cons_self⟩
  · rw [List.mem_singleton.mp hx]
    refine ⟨fun e => na2 (by rw [e]; simp), fun e => na2 (by rw [e]; simp), fun o ho => ?_⟩
    rw [ha] at ho
    cases ho
    exact ⟨_, rfl⟩
  · rw [List.mem_singleton.mp hx]
    exact fun z => na2 (List.mem_cons_of_mem _ (List.mem_cons_of_mem _ z))
  · intro hx
    exact b.nB (List.mem_singleton.mp hx)
/-- a book that the change does not touch -/
theorem Bk.kp {S : List Addr} (b : Bk c H L d l ths B ln lv lvs a rows levels) (k : Kp S H H') (p : ths <+: ths') (h : ∀ x ∈ S, x ∉ a :: ln :: lv :: lvs) (hB : B ∉ S) : Bk c H' L d l ths' B ln lv lvs a rows levels :=
  ⟨b.ba.kp k (fun x hx z => h x hx (List.mem_cons_of_mem _ z)) hB, b.iv.mono p, k _ _ b.kept fun z => h _ z List.mem_cons_self, b.nd, b.good⟩
theorem Bk.ex (b : Bk c H L d l ths B ln lv lvs a rows levels) (e : Ex H H') : Bk c H' L d l ths B ln lv lvs a rows levels :=
  ⟨b.ba.ex e, b.iv, e _ _ b.kept, b.nd, b.good⟩
/-- B is no list, no dict -/
theorem Bk.notB (T : TxK K c) (b : Bk c H L d l ths B ln lv lvs a rows levels) (L1 : LedgerAt c H L d l ths xs) {S : List Addr} (h : ∀ x ∈ S, (∃ ys, H x = some (.lst ys)) ∨ x = d) : B ∉ S := fun hx => by
  obtain ⟨dx, hb⟩ := b.ba.ob
  rcases h B hx with ⟨ys, e⟩ | e
  · rw [hb] at e; cases e
  · obtain ⟨φ, e2⟩ := T.md d (ents 0 ths xs)
    have := L1.dc
    rw [← e, hb] at this
    rw [← e] at e2
    rw [e2] at this
    cases this
theorem Bk.lists (b : Bk c H L d l ths B ln lv lvs a rows levels) : ∀ x ∈ a :: ln :: lv :: lvs, ∃ ys, H x = some (.lst ys) := fun x hx => by
  rcases List.mem_cons.mp hx with e | hx
  · rw [e]; exact ⟨_, b.kept⟩
  · exact b.ba.fp x hx
theorem wider_refl : Wider H lvs lvs := ⟨List.prefix_refl _, fun _ h => .inl h⟩
end
/-- what a deed that the law does brings: the book has other rows, kept beside -/
def Deed (c : Cs) (H H' : Hp) (L d l : Addr) (ths : List MK) (B ln lv : Addr) (lvs : List Addr) (a : Addr) (n : Nat) : Prop :=
  ∃ (lvs' : List Addr) (ths' : List MK) (xs' : List V) (rows' : List Str) (levels' : List (List Nat)), LedgerAt c H' L d l ths' xs' ∧ Bk c H' L d l ths' B ln lv lvs' a rows' levels' ∧ Kp (a :: fpS d l ln lv lvs) H H' ∧ Wider H lvs lvs' ∧
    ths <+: ths' ∧ ths'.length ≤ ths.length + 18 ∧ rows'.length ≤ n + 1
theorem deed_ex {c : Cs} {H H1 H' : Hp} {L d l : Addr} {ths : List MK} {B ln lv : Addr} {lvs : List Addr} {a : Addr} {n : Nat} (e : Ex H H1) (D : Deed c H1 H' L d l ths B ln lv lvs a n) : Deed c H H' L d l ths B ln lv lvs a n := by
  obtain ⟨lvs', ths', xs', rows', levels', h1, h2, h3, h4, h5⟩ := D
  refine ⟨lvs', ths', xs', rows', levels', h1, h2, (Kp.of_ex e).trans h3, ⟨h4.1, fun x hx => ?_⟩, h5⟩
  rcases h4.2 x hx with r | r
  · exact .inl r
  · refine .inr ?_
    cases q : H x with
    | none => rfl
    | some o => rw [e _ _ q] at r; cases r
section
variable {K : PySem.W.Frag} {c : Cs} {H : Hp} {B L d l ln lv a : Addr} {lvs : List Addr} {ths : List MK} {xs : List V} {rows : List Str} {levels : List (List Nat)} {Q : Hp → Prop} {E : XK}
/-- a row put, and kept beside -/
theorem deed_put (T : TxK K c) (L1 : LedgerAt c H L d l ths xs) (b : Bk c H L d l ths B ln lv lvs a rows levels) (hr : rows.length ≤ 1000) (hz : ths.length < 800000) {place : Nat} {z : Str} (hp : place < rows.length) (hg : Good z)
    (q : ∀ H', H' a = some (.lst (rows.map V.str)) → Deed c H (upd H' a (.lst ((rows.map V.str).set place (.str z)))) L d l ths B ln lv lvs a rows.length → Q H') :
    sp_Book_put K c [.ref B, .int (place : Nat), .str z] H (fun _ H' => Q H') E := by
  refine ⟨B, L, d, l, ln, lv, lvs, ths, xs, rows, levels, _, _, true, rfl, b.bs L1, b.iv, .inl ⟨_, rfl, rfl⟩, rowV_good hg, by omega, by omega, fun n => absurd ⟨place, rfl, hp⟩ n, fun _ n => absurd ⟨z, rfl, hg⟩ n, ?_⟩
  intro place' z' e1 e2 _ _ H' xs' S' I' bc k
  have e1 : place' = place := by have := V.int.inj e1; omega
  cases e2
  subst e1
  obtain ⟨h1, h2, h3, h4⟩ := b.step T S' I' wider_refl k fun x hx => by
    rcases List.mem_or_eq_of_mem_set hx with r | r
    · exact b.good x r
    · rw [r]; exact hg
  have low := bc.low (by omega)
  have gl := putM_len (ths := ths) (levels := levels) (place := place') (z := z)
  refine q H' h1 ?_
  rw [List.map_set] at h2 h3 h4
  exact ⟨lvs, _, xs', _, _, h2, h3, h4, wider_refl, putM_pre, by omega, by rw [List.length_set]; omega⟩
theorem deed_add (T : TxK K c) (L1 : LedgerAt c H L d l ths xs) (b : Bk c H L d l ths B ln lv lvs a rows levels) (hr : rows.length ≤ 1000) (hz : ths.length < 800000) {z : Str} (hg : Good z)
    (q : ∀ H', H' a = some (.lst (rows.map V.str)) → Deed c H (upd H' a (.lst (rows.map V.str ++ [.str z]))) L d l ths B ln lv lvs a rows.length → Q H') :
    sp_Book_add K c [.ref B, .str z] H (fun _ H' => Q H') E := by
  refine ⟨B, L, d, l, ln, lv, lvs, ths, xs, rows, levels, _, rfl, b.bs L1, b.iv, rowV_good hg, by omega, by omega, fun n => absurd ⟨z, rfl, hg⟩ n, fun _ n => absurd n (by omega), ?_⟩
  intro z' e2 _ _ H' xs' lvs' S' I' bc k w
  cases e2
  obtain ⟨h1, h2, h3, h4⟩ := b.step T S' I' w k (good_snoc b.good hg)
  have low := bc.low (by omega)
  have gl := growM_len (ths := ths) (rows := rows) (levels := levels) (z := z)
  refine q H' h1 ?_
  rw [← map_snoc] at h2 h3 h4
  exact ⟨lvs', _, xs', _, _, h2, h3, h4, w, growM_pre, by omega, by simp⟩
theorem deed_cut (T : TxK K c) (L1 : LedgerAt c H L d l ths xs) (b : Bk c H L d l ths B ln lv lvs a rows levels) (hr : rows.length ≤ 1000) (hz : ths.length < 800000) (ne : rows ≠ [])
    (q : ∀ H', H' a = some (.lst (rows.map V.str)) → Deed c H (upd H' a (.lst (rows.map V.str).dropLast)) L d l ths B ln lv lvs a rows.length → Q H') :
    sp_Book_cut K c [.ref B] H (fun _ H' => Q H') E := by
  refine ⟨B, L, d, l, ln, lv, lvs, ths, xs, rows, levels, rfl, b.bs L1, b.iv, by omega, fun n => absurd n ne, ?_⟩
  intro _ H' levels' n S' I' bc k
  obtain ⟨h1, h2, h3, h4⟩ := b.step T S' I' wider_refl (k.mono fun x hx => List.mem_cons_of_mem _ (List.mem_cons_of_mem _ hx)) fun x hx => b.good x (List.dropLast_subset _ hx)
  refine q H' h1 ?_
  rw [List.map_dropLast] at h2 h3 h4
  exact ⟨lvs, _, xs, _, _, h2, h3, h4, wider_refl, List.prefix_refl _, by omega, by rw [List.length_dropLast]; omega⟩
end
end Tw

namespace Tw
open PySem L2 Ts Mix
section
variable {K : PySem.W.Frag} {c : Cs} {H : Hp} {Q : Addr → Hp → Prop} {E : XK}
theorem new_ledger (q : ∀ L d l H', H L = none → H d = none → H l = none → LedgerAt c H' L d l [] [] → Ex H H' → Q L H') :
    ∀ x dx, H x = none → H dx = none → dx ≠ x → sp_Ledger_init K c [.ref x] (upd (upd H dx (.own x)) x (.ins c.Ledger dx [])) (fun v H2 => v = .non ∧ Q x H2) E := fun x dx hx hdx ne => by
  refine ⟨x, dx, rfl, upd_same, fun d l H' hd hl L k => ⟨rfl, ?_⟩⟩
  have e1 : Ex H (upd (upd H dx (.own x)) x (.ins c.Ledger dx [])) := ex_new (ex_new ex_refl hdx) (by rw [upd_ne (Ne.symm ne)]; exact hx)
  refine q x d l H' hx (ex_free e1 hd) (ex_free e1 hl) L fun b o h => k b o (e1 b o h) fun z => ?_
  rw [List.mem_singleton.mp z, hx] at h
  cases h
theorem new_book {L d l p : Addr} {ths : List MK} {xs : List V} {zs : List Str} (L1 : LedgerAt c H L d l ths xs) (hp : H p = some (.lst (zs.map V.str))) (T : TxK K c) (np : p ≠ d ∧ p ≠ l) (hg : ∀ z ∈ zs, Good z) (hl : zs.length ≤ 1024) (hz : ths.length < 500000)
    (q : ∀ B ln lv lvs xs' H', H B = none → (∀ x ∈ ln :: lv :: lvs, H x = none) → BS c H' B L d l ln lv lvs (growsM ths [] [] zs).1 xs' zs (growsM ths [] [] zs).2 → BookInv (growsM ths [] [] zs).1 zs (growsM ths [] [] zs).2 → Kp [d, l] H H' →
      (growsM ths [] [] zs).1.length ≤ ths.length + 17 * zs.length → Q B H') :
    ∀ x dx, H x = none → H dx = none → dx ≠ x → sp_Book_init K c [.ref x, .ref L, .ref p] (upd (upd H dx (.own x)) x (.ins c.Book dx [])) (fun v H2 => v = .non ∧ Q x H2) E := fun x dx hx hdx ne => by
  have e1 : Ex H (upd (upd H dx (.own x)) x (.ins c.Book dx [])) := ex_new (ex_new ex_refl hdx) (by rw [upd_ne (Ne.symm ne)]; exact hx)
  refine ⟨x, dx, L, d, l, p, ths, xs, zs.map V.str, rfl, upd_same, L1.ex e1, sql (e1 _ _ hp), np.1, np.2, fun y hy => ?_, by rw [List.length_map]; omega, hz, fun n => ?_, fun _ n => absurd n (by rw [List.length_map]; omega), fun zs' ez g' l' H' ln lv lvs xs' S I k f b => ⟨rfl, ?_⟩⟩
  · obtain ⟨z, hz, rfl⟩ := List.mem_map.mp hy
    exact rowV_good (hg z hz)
  · obtain ⟨y, hy, n⟩ := n
    obtain ⟨z, hz, rfl⟩ := List.mem_map.mp hy
    exact absurd ⟨z, rfl, hg z hz⟩ n
  · have ez : zs' = zs := (List.map_inj_right (fun a b h => V.str.inj h)).mp ez.symm
    subst ez
    refine q x ln lv lvs xs' H' hx (fun y hy => ex_free e1 (f y hy)) S I (fun b o h n => k b o (e1 b o h) fun z => ?_) b
    rcases List.mem_cons.mp z with e | z
    · rw [e, hx] at h; cases h
    · exact n z
theorem growsM_pre : ∀ (zs rows : List Str) (ths : List MK) (levels : List (List Nat)), ths <+: (growsM ths rows levels zs).1
  | [], _, ths, _ => List.prefix_refl _
  | z :: zs, rows, ths, levels => growM_pre.trans (growsM_pre zs _ _ _)
end
theorem ne_new {H : Hp} {x y : Addr} {o : HO} (h : H x = some o) (f : H y = none) : x ≠ y := fun e => by rw [e, f] at h; cases h
theorem num_at {ths : List MK} (nd : ths.Nodup) {x : Nat} {k : MK} (e : ths[x]? = some k) : ask ths k = ths ∧ num ths k = x := by
  have hm := List.mem_of_getElem? e
  refine ⟨by unfold ask; rw [if_pos hm], nd_ix nd (num_get hm) e⟩
theorem cutV_nat {xs : List V} {i j : Nat} : cutV xs (some (i : Int)) (some (j : Int)) = (xs.drop i).take (j - i) := by
  unfold cutV
  rw [HT.sIx_nat, HT.sIx_nat]
  apply List.ext_getElem?
  intro k
  rw [List.getElem?_take, List.getElem?_take, List.getElem?_drop, List.getElem?_drop]
  by_cases h : k < j - i
  · rw [if_pos h]
    by_cases h2 : k < min j xs.length - min i xs.length
    · rw [if_pos h2]
      congr 1
      omega
    · rw [if_neg h2, List.getElem?_eq_none (by omega)]
  · rw [if_neg h]
    by_cases h2 : k < min j xs.length - min i xs.length
    · rw [if_pos h2, List.getElem?_eq_none (by omega)]
    · rw [if_neg h2]
theorem cut_blk {rows : List Str} {h j : Nat} : cutV (rows.map V.str) (some ((j * 2 ^ h : Nat) : Int)) (some (((j + 1) * 2 ^ h : Nat) : Int)) = (blk rows h j).map V.str := by
  rw [cutV_nat]
  unfold blk
  rw [List.map_take, List.map_drop, Nat.add_mul, Nat.one_mul, Nat.add_sub_cancel_left]
theorem cutV_ints (ns : List Int) (lo hi : Option Int) : ∃ ms : List Int, cutV (ns.map V.int) lo hi = ms.map V.int ∧ ms.length ≤ ns.length := by
  unfold cutV
  refine ⟨_, by rw [← List.map_drop, ← List.map_take], ?_⟩
  rw [List.length_take, List.length_drop]
  omega
/-- the block stands just where its rows do -/
theorem hasB_iff {ths : List MK} {rows : List Str} {levels : List (List Nat)} (I : BookInv ths rows levels) {h j : Nat} : HasB levels (.int (h : Nat)) (.int (j : Nat)) ↔ (j + 1) * 2 ^ h ≤ rows.length := by
  rw [← lt_div_iff, ← I.len]
  constructor
  · rintro ⟨h', j', e1, e2, z⟩
    have e1 : h' = h := by have := V.int.inj e1; omega
    have e2 : j' = j := by have := V.int.inj e2; omega
    rw [← e1, ← e2]
    exact z
  · intro z
    exact ⟨h, j, rfl, rfl, z⟩
end Tw

namespace Tw
open PySem L2 Ts Mix
/-- one book of a ledger, and its rows beside; all of it made behind H0; the objects of keep are none of it -/
structure One (c : Cs) (H0 H : Hp) (L d l B ln lv a : Addr) (keep : List Addr) (lvs : List Addr) (ths : List MK) (xs : List V) (rows : List Str) (levels : List (List Nat)) (n t : Nat) : Prop where
  la : LedgerAt c H L d l ths xs
  bk : Bk c H L d l ths B ln lv lvs a rows levels
  ex : Ex H0 H
  fr : ∀ x ∈ a :: fpS d l ln lv lvs, H0 x = none
  kp : ∀ x ∈ keep, (∃ o, H x = some o) ∧ x ∉ a :: fpS d l ln lv lvs
  hn : rows.length ≤ n
  ht : ths.length ≤ t
section
variable {K : PySem.W.Frag} {c : Cs} {H0 H H' : Hp} {L d l B ln lv a : Addr} {keep : List Addr} {lvs : List Addr} {ths : List MK} {xs xs' : List V} {rows : List Str} {levels : List (List Nat)} {n t : Nat}
theorem One.mono (S : One c H0 H L d l B ln lv a keep lvs ths xs rows levels n t) (e : Ex H H') : One c H0 H' L d l B ln lv a keep lvs ths xs rows levels n t :=
  ⟨S.la.ex e, S.bk.ex e, S.ex.trans e, S.fr, fun x hx => ⟨let ⟨o, h⟩ := (S.kp x hx).1; ⟨o, e _ _ h⟩, (S.kp x hx).2⟩, S.hn, S.ht⟩
/-- an object more to be kept: a new one -/
theorem One.more {p : Addr} (S : One c H0 H L d l B ln lv a keep lvs ths xs rows levels n t) (hp : H p = none) (e : Ex H H') (hp' : ∃ o, H' p = some o) : One c H0 H' L d l B ln lv a (p :: keep) lvs ths xs rows levels n t := by
  have S' := S.mono e
  refine ⟨S'.la, S'.bk, S'.ex, S'.fr, fun x hx => ?_, S.hn, S.ht⟩
  rcases List.mem_cons.mp hx with r | r
  · rw [r]
    refine ⟨hp', fun z => ?_⟩
    rcases List.mem_cons.mp z with e | z
    · rw [e, S.bk.kept] at hp; cases hp
    · exact (S.bk.bs S.la).new hp z
  · exact S'.kp x r
theorem One.less {keep' : List Addr} (S : One c H0 H L d l B ln lv a keep lvs ths xs rows levels n t) (h : ∀ x ∈ keep', x ∈ keep) : One c H0 H L d l B ln lv a keep' lvs ths xs rows levels n t :=
  ⟨S.la, S.bk, S.ex, S.fr, fun x hx => S.kp x (h x hx), S.hn, S.ht⟩
theorem One.keeps {x : Addr} {o : HO} (S : One c H0 H L d l B ln lv a keep lvs ths xs rows levels n t) (k : Kp (a :: fpS d l ln lv lvs) H H') (hx : x ∈ keep) (h : H x = some o) : H' x = some o := k _ _ h (S.kp x hx).2
theorem One.sub (k : Kp [d, l] H H') : Kp (a :: fpS d l ln lv lvs) H H' := k.mono fun x hx => by
  rcases List.mem_cons.mp hx with e | e
  · rw [e]; simp
  · rw [List.mem_singleton.mp e]; simp
theorem ex_of_kp {F : List Addr} (e : Ex H0 H) (fr : ∀ x ∈ F, H0 x = none) (k : Kp F H H') : Ex H0 H' := fun x o h => k _ _ (e _ _ h) fun z => by rw [fr x z] at h; cases h
theorem One.asked (S : One c H0 H L d l B ln lv a keep lvs ths xs rows levels n t) (L1 : LedgerAt c H' L d l ths xs') (b : Bk c H' L d l ths B ln lv lvs a rows levels) (k : Kp [d, l] H H') : One c H0 H' L d l B ln lv a keep lvs ths xs' rows levels n t :=
  ⟨L1, b, ex_of_kp S.ex S.fr (One.sub k), S.fr, fun x hx => ⟨let ⟨_, h⟩ := (S.kp x hx).1; ⟨_, S.keeps (One.sub k) hx h⟩, (S.kp x hx).2⟩, S.hn, S.ht⟩
theorem One.deed (S : One c H0 H L d l B ln lv a keep lvs ths xs rows levels n t) (D : Deed c H H' L d l ths B ln lv lvs a rows.length) : Kp (a :: fpS d l ln lv lvs) H H' ∧ ∃ lvs' ths' xs' rows' levels', One c H0 H' L d l B ln lv a keep lvs' ths' xs' rows' levels' (n + 1) (t + 18) := by
  obtain ⟨lvs', ths', xs', rows', levels', h1, h2, h3, h4, h5, h6, h7⟩ := D
  have hn := S.hn
  have ht := S.ht
  have key : ∀ x ∈ a :: fpS d l ln lv lvs', x ∈ a :: fpS d l ln lv lvs ∨ H x = none := fun x hx => by
    rcases List.mem_cons.mp hx with e | hx
    · exact .inl (by rw [e]; simp)
    rcases List.mem_cons.mp hx with e | hx
    · exact .inl (by rw [e]; simp)
    rcases List.mem_cons.mp hx with e | hx
    · exact .inl (by rw [e]; simp)
    rcases List.mem_cons.mp hx with e | hx
    · exact .inl (by rw [e]; simp)
    rcases List.mem_cons.mp hx with e | hx
    · exact .inl (by rw [e]; simp)
    rcases h4.2 x hx with r | r
    · exact .inl (by simp [r])
    · exact .inr r
  refine ⟨h3, lvs', ths', xs', rows', levels', h1, h2, ex_of_kp S.ex S.fr h3, fun x hx => ?_, fun x hx => ⟨let ⟨_, h⟩ := (S.kp x hx).1; ⟨_, S.keeps h3 hx h⟩, fun z => ?_⟩, by omega, by omega⟩
  · rcases key x hx with r | r
    · exact S.fr x r
    · cases q : H0 x with
      | none => rfl
      | some o => rw [S.ex _ _ q] at r; cases r
  · rcases key x z with r | r
    · exact (S.kp x hx).2 r
    · obtain ⟨o, h⟩ := (S.kp x hx).1
      rw [h] at r; cases r
/-- a ledger, rows, and a book of them -/
theorem One.make {zs : List Str} {p : Addr} {H1 H2 : Hp} (L1 : LedgerAt c H1 L d l ths xs) (T : TxK K c) (e1 : Ex H0 H1) (f1 : H0 d = none ∧ H0 l = none) (N : NewRows H1 H2 a zs) (hl : zs.length ≤ 1000) (hz : ths.length < 400000) (hp : H2 p = none) {Q : Addr → Hp → Prop} {E : XK}
    (q : ∀ H' B ln lv lvs ths' xs' levels, One c H0 H' L d l B ln lv a [] lvs ths' xs' zs levels zs.length (ths.length + 17 * zs.length) → Q B H') :
    ∀ x dx, (upd H2 p (.lst (zs.map V.str))) x = none → (upd H2 p (.lst (zs.map V.str))) dx = none → dx ≠ x → sp_Book_init K c [.ref x, .ref L, .ref p] (upd (upd (upd H2 p (.lst (zs.map V.str))) dx (.own x)) x (.ins c.Book dx [])) (fun v H2 => v = .non ∧ Q x H2) E := by
  have e3 : Ex H2 (upd H2 p (.lst (zs.map V.str))) := ex_new ex_refl hp
  have e2 := N.ex.trans e3
  have L3 := L1.ex e2
  have e0 := e1.trans e2
  refine new_book L3 upd_same T ⟨fun z => ?_, fun z => ?_⟩ N.good (by omega) (by omega) fun B ln lv lvs xs' H' hB hf S I k hb => q H' B ln lv lvs (growsM ths [] [] zs).1 xs' (growsM ths [] [] zs).2 ?_
  · have := N.ex _ _ L1.dc
    rw [← z, hp] at this; cases this
  · have := N.ex _ _ L1.ls
    rw [← z, hp] at this; cases this
  have ha := e3 _ _ N.at'
  have na : a ∉ fpS d l ln lv lvs := fun z => by
    rcases List.mem_cons.mp z with e | z
    · have := N.new; rw [e, L1.dc] at this; cases this
    rcases List.mem_cons.mp z with e | z
    · have := N.new; rw [e, L1.ls] at this; cases this
    · rw [hf a z] at ha; cases ha
  have fr : ∀ x ∈ a :: fpS d l ln lv lvs, H0 x = none := fun x hx => by
    rcases List.mem_cons.mp hx with e | hx
    · rw [e]; exact ex_free e1 N.new
    rcases List.mem_cons.mp hx with e | hx
    · rw [e]; exact f1.1
    rcases List.mem_cons.mp hx with e | hx
    · rw [e]; exact f1.2
    · exact ex_free e0 (hf x hx)
  have nd2 : a ∉ [d, l] := fun z => na (by
    rcases List.mem_cons.mp z with e | z
    · rw [e]; simp
    · rw [List.mem_singleton.mp z]; simp)
  have b : Bk c H' L d l (growsM ths [] [] zs).1 B ln lv lvs a zs (growsM ths [] [] zs).2 := ⟨S.ba, I, k _ _ ha nd2, List.nodup_cons.mpr ⟨na, S.nd⟩, N.good⟩
  exact ⟨S.la, b, ex_of_kp e0 fr (One.sub k), fr, fun x hx => (nomatch hx), Nat.le_refl _, hb⟩
end
end Tw

namespace Tw
open PySem L2 Ts Mix
/-- a book's places, and what it holds -/
structure BR where
  B : Addr
  ln : Addr
  lv : Addr
  a : Addr
  lvs : List Addr
  rows : List Str
  levels : List (List Nat)
def BR.fp (b : BR) : List Addr := b.a :: b.ln :: b.lv :: b.lvs
def BR.At (b : BR) (c : Cs) (H : Hp) (L d l : Addr) (ths : List MK) : Prop := Bk c H L d l ths b.B b.ln b.lv b.lvs b.a b.rows b.levels
/-- two books of a ledger, their rows beside; all of it made behind H0; the objects of keep are none of it -/
structure Two (c : Cs) (H0 H : Hp) (L d l : Addr) (keep : List Addr) (b1 b2 : BR) (ths : List MK) (xs : List V) (n t : Nat) : Prop where
  la : LedgerAt c H L d l ths xs
  k1 : b1.At c H L d l ths
  k2 : b2.At c H L d l ths
  dis : ∀ x ∈ b1.fp, x ∉ b2.fp
  ex : Ex H0 H
  fr : ∀ x, x = d ∨ x = l ∨ x ∈ b1.fp ∨ x ∈ b2.fp → H0 x = none
  kp : ∀ x ∈ keep, (∃ o, H x = some o) ∧ ¬ (x = d ∨ x = l ∨ x ∈ b1.fp ∨ x ∈ b2.fp)
  n1 : b1.rows.length ≤ n
  n2 : b2.rows.length ≤ n
  ht : ths.length ≤ t
section
variable {K : PySem.W.Frag} {c : Cs} {H0 H H' : Hp} {L d l : Addr} {keep : List Addr} {b1 b2 : BR} {ths ths' : List MK} {xs xs' : List V} {n t : Nat}
theorem Two.swap (S : Two c H0 H L d l keep b1 b2 ths xs n t) : Two c H0 H L d l keep b2 b1 ths xs n t :=
  ⟨S.la, S.k2, S.k1, fun x h z => S.dis x z h, S.ex, fun x h => S.fr x (by rcases h with h | h | h | h <;> simp [h]), fun x hx => ⟨(S.kp x hx).1, fun h => (S.kp x hx).2 (by rcases h with h | h | h | h <;> simp [h])⟩, S.n2, S.n1, S.ht⟩
theorem Two.mono (S : Two c H0 H L d l keep b1 b2 ths xs n t) (e : Ex H H') : Two c H0 H' L d l keep b1 b2 ths xs n t :=
  ⟨S.la.ex e, Bk.ex S.k1 e, Bk.ex S.k2 e, S.dis, S.ex.trans e, S.fr, fun x hx => ⟨let ⟨o, h⟩ := (S.kp x hx).1; ⟨o, e _ _ h⟩, (S.kp x hx).2⟩, S.n1, S.n2, S.ht⟩
/-- what the two are made of is there -/
theorem Two.there (S : Two c H0 H L d l keep b1 b2 ths xs n t) {x : Addr} (h : x = d ∨ x = l ∨ x ∈ b1.fp ∨ x ∈ b2.fp) : ∃ o, H x = some o := by
  rcases h with h | h | h | h
  · rw [h]; exact ⟨_, S.la.dc⟩
  · rw [h]; exact ⟨_, S.la.ls⟩
  · obtain ⟨ys, h⟩ := Bk.lists S.k1 x h; exact ⟨_, h⟩
  · obtain ⟨ys, h⟩ := Bk.lists S.k2 x h; exact ⟨_, h⟩
theorem Two.more {p : Addr} (S : Two c H0 H L d l keep b1 b2 ths xs n t) (hp : H p = none) (e : Ex H H') (hp' : ∃ o, H' p = some o) : Two c H0 H' L d l (p :: keep) b1 b2 ths xs n t := by
  have S' := S.mono e
  refine ⟨S'.la, S'.k1, S'.k2, S'.dis, S'.ex, S'.fr, fun x hx => ?_, S'.n1, S'.n2, S'.ht⟩
  rcases List.mem_cons.mp hx with r | r
  · rw [r]
    refine ⟨hp', fun z => ?_⟩
    obtain ⟨o, h⟩ := S.there z
    rw [hp] at h
    cases h
  · exact S'.kp x r
theorem Two.less {keep' : List Addr} (S : Two c H0 H L d l keep b1 b2 ths xs n t) (h : ∀ x ∈ keep', x ∈ keep) : Two c H0 H L d l keep' b1 b2 ths xs n t :=
  ⟨S.la, S.k1, S.k2, S.dis, S.ex, S.fr, fun x hx => S.kp x (h x hx), S.n1, S.n2, S.ht⟩
theorem Two.wide {n' t' : Nat} (S : Two c H0 H L d l keep b1 b2 ths xs n t) (hn : n ≤ n') (ht : t ≤ t') : Two c H0 H L d l keep b1 b2 ths xs n' t' :=
  ⟨S.la, S.k1, S.k2, S.dis, S.ex, S.fr, S.kp, Nat.le_trans S.n1 hn, Nat.le_trans S.n2 hn, Nat.le_trans S.ht ht⟩
/-- a deed changes nothing that is kept -/
theorem Two.keeps {x : Addr} {o : HO} (S : Two c H0 H L d l keep b1 b2 ths xs n t) (k : Kp (b1.a :: fpS d l b1.ln b1.lv b1.lvs) H H') (hx : x ∈ keep) (h : H x = some o) : H' x = some o := k _ _ h fun z => (S.kp x hx).2 (by
  rcases List.mem_cons.mp z with e | z
  · exact .inr (.inr (.inl (by rw [e]; exact List.mem_cons_self)))
  rcases List.mem_cons.mp z with e | z
  · exact .inl e
  rcases List.mem_cons.mp z with e | z
  · exact .inr (.inl e)
  · exact .inr (.inr (.inl (List.mem_cons_of_mem _ z))))
/-- the first book behind a deed of it -/
theorem Two.deed1 (T : TxK K c) {m : Nat} (S : Two c H0 H L d l keep b1 b2 ths xs n t) (D : Deed c H H' L d l ths b1.B b1.ln b1.lv b1.lvs b1.a m) (hm : m ≤ n) :
    Kp (b1.a :: fpS d l b1.ln b1.lv b1.lvs) H H' ∧ ∃ (b : BR) (ths' : List MK) (xs' : List V), b.B = b1.B ∧ b.a = b1.a ∧ Two c H0 H' L d l keep b b2 ths' xs' (n + 1) (t + 18) := by
  obtain ⟨lvs', ths', xs', rows', levels', h1, h2, h3, h4, h5, h6, h7⟩ := D
  refine ⟨h3, ⟨b1.B, b1.ln, b1.lv, b1.a, lvs', rows', levels'⟩, ths', xs', rfl, rfl, ?_⟩
  have key : ∀ x ∈ (⟨b1.B, b1.ln, b1.lv, b1.a, lvs', rows', levels'⟩ : BR).fp, x ∈ b1.fp ∨ H x = none := fun x hx => by
    rcases List.mem_cons.mp hx with e | hx
    · exact .inl (by rw [e]; exact List.mem_cons_self)
    rcases List.mem_cons.mp hx with e | hx
    · exact .inl (by rw [e]; exact List.mem_cons_of_mem _ List.mem_cons_self)
    rcases List.mem_cons.mp hx with e | hx
    · exact .inl (by rw [e]; exact List.mem_cons_of_mem _ (List.mem_cons_of_mem _ List.mem_cons_self))
    rcases h4.2 x hx with r | r
    · exact .inl (List.mem_cons_of_mem _ (List.mem_cons_of_mem _ (List.mem_cons_of_mem _ r)))
    · exact .inr r
  have mem1 : ∀ x ∈ b1.a :: fpS d l b1.ln b1.lv b1.lvs, x = d ∨ x = l ∨ x ∈ b1.fp := fun x z => by
    rcases List.mem_cons.mp z with e | z
    · exact .inr (.inr (by rw [e]; exact List.mem_cons_self))
    rcases List.mem_cons.mp z with e | z
    · exact .inl e
    rcases List.mem_cons.mp z with e | z
    · exact .inr (.inl e)
    · exact .inr (.inr (List.mem_cons_of_mem _ z))
  have nd2 := S.k2.nd
  rw [List.nodup_cons, List.nodup_cons, List.nodup_cons] at nd2
  have o2 : b2.At c H' L d l ths' := Bk.kp S.k2 h3 h5 (fun x hx z => by
    rcases mem1 x hx with e | e | e
    · rcases List.mem_cons.mp z with r | r
      · exact nd2.1 (by rw [← r, e]; simp)
      · exact nd2.2.1 (by rw [← e]; exact List.mem_cons_of_mem _ r)
    · rcases List.mem_cons.mp z with r | r
      · exact nd2.1 (by rw [← r, e]; simp)
      · exact nd2.2.2.1 (by rw [← e]; exact r)
    · exact S.dis x e z) (Bk.notB T S.k2 S.la fun x hx => by
    rcases mem1 x hx with e | e | e
    · exact .inr e
    · rw [e]; exact .inl ⟨_, S.la.ls⟩
    · exact .inl (Bk.lists S.k1 x e))
  have hn1 := S.n1
  have hn2 := S.n2
  have ht := S.ht
  refine ⟨h1, h2, o2, fun x hx z => ?_, ex_of_kp S.ex (fun x hx => ?_) h3, fun x hx => ?_, fun x hx => ⟨let ⟨_, h⟩ := (S.kp x hx).1; ⟨_, S.keeps h3 hx h⟩, fun z => ?_⟩, by show rows'.length ≤ n + 1; omega, by omega, by omega⟩
  · rcases key x hx with r | r
    · exact S.dis x r z
    · obtain ⟨ys, h⟩ := Bk.lists S.k2 x z
      rw [r] at h; cases h
  · rcases mem1 x hx with e | e | e
    · exact S.fr x (.inl e)
    · exact S.fr x (.inr (.inl e))
    · exact S.fr x (.inr (.inr (.inl e)))
  · rcases hx with e | e | e | e
    · exact S.fr x (.inl e)
    · exact S.fr x (.inr (.inl e))
    · rcases key x e with r | r
      · exact S.fr x (.inr (.inr (.inl r)))
      · exact ex_free S.ex r
    · exact S.fr x (.inr (.inr (.inr e)))
  · obtain ⟨o, h⟩ := (S.kp x hx).1
    rcases z with e | e | e | e
    · exact (S.kp x hx).2 (.inl e)
    · exact (S.kp x hx).2 (.inr (.inl e))
    · rcases key x e with r | r
      · exact (S.kp x hx).2 (.inr (.inr (.inl r)))
      · rw [h] at r; cases r
    · exact (S.kp x hx).2 (.inr (.inr (.inr e)))
end
section
variable {K : PySem.W.Frag} {c : Cs} {H0 H H' : Hp} {L d l : Addr} {keep : List Addr} {ths : List MK} {xs : List V} {n t : Nat}
/-- a first book -/
theorem make_one {zs : List Str} {a p : Addr} (L1 : LedgerAt c H L d l ths xs) (T : TxK K c) (e0 : Ex H0 H) (f1 : H0 d = none ∧ H0 l = none ∧ H0 a = none) (ha : H a = some (.lst (zs.map V.str))) (na : a ≠ d ∧ a ≠ l) (hg : ∀ z ∈ zs, Good z) (hl : zs.length ≤ 1000) (hz : ths.length < 400000) (hp : H p = none)
    (hk : ∀ x ∈ keep, (∃ o, H x = some o) ∧ x ≠ d ∧ x ≠ l ∧ x ≠ a) {Q : Addr → Hp → Prop} {E : XK}
    (q : ∀ H' B ln lv lvs ths' xs' levels, One c H0 H' L d l B ln lv a keep lvs ths' xs' zs levels zs.length (ths.length + 17 * zs.length) → Kp [d, l] H H' → (∀ x ∈ ln :: lv :: lvs, H x = none) → ths <+: ths' → Q B H') :
    ∀ x dx, (upd H p (.lst (zs.map V.str))) x = none → (upd H p (.lst (zs.map V.str))) dx = none → dx ≠ x → sp_Book_init K c [.ref x, .ref L, .ref p] (upd (upd (upd H p (.lst (zs.map V.str))) dx (.own x)) x (.ins c.Book dx [])) (fun v H2 => v = .non ∧ Q x H2) E := by
  have e3 : Ex H (upd H p (.lst (zs.map V.str))) := ex_new ex_refl hp
  have e00 := e0.trans e3
  refine new_book (L1.ex e3) upd_same T ⟨fun z => ?_, fun z => ?_⟩ hg (by omega) (by omega) fun B ln lv lvs xs' H' hB hf S I k hb => q H' B ln lv lvs (growsM ths [] [] zs).1 xs' (growsM ths [] [] zs).2 ?_ ((Kp.of_ex e3).trans k) (fun x hx => ex_free e3 (hf x hx)) (growsM_pre _ _ _ _)
  · have := L1.dc
    rw [← z, hp] at this; cases this
  · have := L1.ls
    rw [← z, hp] at this; cases this
  have ha := e3 _ _ ha
  have nf : ∀ x o, (upd H p (.lst (zs.map V.str))) x = some o → x ∉ ln :: lv :: lvs := fun x o h z => by rw [hf x z] at h; cases h
  have na2 : a ∉ fpS d l ln lv lvs := fun z => by
    rcases List.mem_cons.mp z with e | z
    · exact na.1 e
    rcases List.mem_cons.mp z with e | z
    · exact na.2 e
    · exact nf _ _ ha z
  have fr : ∀ x ∈ a :: fpS d l ln lv lvs, H0 x = none := fun x hx => by
    rcases List.mem_cons.mp hx with e | hx
    · rw [e]; exact f1.2.2
    rcases List.mem_cons.mp hx with e | hx
    · rw [e]; exact f1.1
    rcases List.mem_cons.mp hx with e | hx
    · rw [e]; exact f1.2.1
    · exact ex_free e00 (hf x hx)
  have nd2 : a ∉ [d, l] := fun z => na2 (by
    rcases List.mem_cons.mp z with e | z
    · rw [e]; simp
    · rw [List.mem_singleton.mp z]; simp)
  have b : Bk c H' L d l (growsM ths [] [] zs).1 B ln lv lvs a zs (growsM ths [] [] zs).2 := ⟨S.ba, I, k _ _ ha nd2, List.nodup_cons.mpr ⟨na2, S.nd⟩, hg⟩
  refine ⟨S.la, b, ex_of_kp e00 fr (One.sub k), fr, fun x hx => ?_, Nat.le_refl _, hb⟩
  obtain ⟨⟨o, ho⟩, n1, n2, n3⟩ := hk x hx
  have ho := e3 _ _ ho
  refine ⟨⟨o, k _ _ ho fun z => ?_⟩, fun z => ?_⟩
  · rcases List.mem_cons.mp z with e | z
    · exact n1 e
    · exact n2 (List.mem_singleton.mp z)
  · rcases List.mem_cons.mp z with e | z
    · exact n3 e
    rcases List.mem_cons.mp z with e | z
    · exact n1 e
    rcases List.mem_cons.mp z with e | z
    · exact n2 e
    · exact nf _ _ ho z
/-- a second one -/
theorem make_two {B1 ln1 lv1 a1 : Addr} {lvs1 : List Addr} {rows1 : List Str} {levels1 : List (List Nat)} {zs : List Str} {a p : Addr} (T : TxK K c) (S1 : One c H0 H L d l B1 ln1 lv1 a1 keep lvs1 ths xs rows1 levels1 n t) (hk : a ∈ keep) (fa : H0 a = none) (ha : H a = some (.lst (zs.map V.str)))
    (hg : ∀ z ∈ zs, Good z) (hl : zs.length ≤ n) (hn : n ≤ 1000) (hz : t < 400000) (hp : H p = none) {Q : Addr → Hp → Prop} {E : XK}
    (q : ∀ H' (b1 b2 : BR) ths' xs', b1.B = B1 → b1.a = a1 → b2.a = a → b1.rows = rows1 → b2.rows = zs → Two c H0 H' L d l [] b1 b2 ths' xs' n (t + 17 * n) → Q b2.B H') :
    ∀ x dx, (upd H p (.lst (zs.map V.str))) x = none → (upd H p (.lst (zs.map V.str))) dx = none → dx ≠ x → sp_Book_init K c [.ref x, .ref L, .ref p] (upd (upd (upd H p (.lst (zs.map V.str))) dx (.own x)) x (.ins c.Book dx [])) (fun v H2 => v = .non ∧ Q x H2) E := by
  have ht := S1.ht
  have na := (S1.kp a hk).2
  have fr1 := S1.fr
  have fd : H0 d = none := fr1 d (by simp)
  have fl : H0 l = none := fr1 l (by simp)
  refine make_one (keep := []) S1.la T S1.ex ⟨fd, fl, fa⟩ ha ⟨fun e => na (by rw [e]; simp), fun e => na (by rw [e]; simp)⟩ hg (by omega) (by omega) hp (fun x hx => nomatch hx) fun H' B ln lv lvs ths' xs' levels S2 k hf hpre => ?_
  refine q H' ⟨B1, ln1, lv1, a1, lvs1, rows1, levels1⟩ ⟨B, ln, lv, a, lvs, zs, levels⟩ ths' xs' rfl rfl rfl rfl rfl ?_
  have nd := S1.bk.nd
  rw [List.nodup_cons, List.nodup_cons, List.nodup_cons] at nd
  have o1 : Bk c H' L d l ths' B1 ln1 lv1 lvs1 a1 rows1 levels1 := by
    refine Bk.kp S1.bk k hpre (fun x hx z => ?_) (Bk.notB T S1.bk S1.la fun x hx => ?_)
    · rcases List.mem_cons.mp hx with e | e
      · rcases List.mem_cons.mp z with r | r
        · exact nd.1 (by rw [← r, e]; simp)
        · exact nd.2.1 (by rw [← e]; exact List.mem_cons_of_mem _ r)
      · have e := List.mem_singleton.mp e
        rcases List.mem_cons.mp z with r | r
        · exact nd.1 (by rw [← r, e]; simp)
        · exact nd.2.2.1 (by rw [← e]; exact r)
    · rcases List.mem_cons.mp hx with e | e
      · exact .inr e
      · rw [List.mem_singleton.mp e]; exact .inl ⟨_, S1.la.ls⟩
  have h1 : ∀ x ∈ a1 :: ln1 :: lv1 :: lvs1, (∃ o, H x = some o) ∧ H0 x = none := fun x hx => by
    obtain ⟨ys, h⟩ := S1.bk.lists x hx
    refine ⟨⟨_, h⟩, fr1 x ?_⟩
    rcases List.mem_cons.mp hx with e | e
    · rw [e]; simp
    · exact List.mem_cons_of_mem _ (List.mem_cons_of_mem _ (List.mem_cons_of_mem _ e))
  have hn2 := S2.hn
  have ht2 := S2.ht
  refine ⟨S2.la, o1, S2.bk, fun x hx z => ?_, S2.ex, fun x hx => ?_, fun x hx => (nomatch hx), S1.hn, by show zs.length ≤ n; exact hl, by omega⟩
  · rcases List.mem_cons.mp z with e | z
    · have e : x = a := e
      rw [e] at hx
      refine na ?_
      rcases List.mem_cons.mp hx with r | r
      · rw [show a = a1 from r]; simp
      · exact List.mem_cons_of_mem _ (List.mem_cons_of_mem _ (List.mem_cons_of_mem _ r))
    · obtain ⟨⟨o, h⟩, _⟩ := h1 x hx
      rw [hf x z] at h
      cases h
  · rcases hx with e | e | e | e
    · rw [e]; exact fd
    · rw [e]; exact fl
    · exact (h1 x e).2
    · refine S2.fr x ?_
      rcases List.mem_cons.mp e with r | r
      · rw [show x = a from r]; simp
      · exact List.mem_cons_of_mem _ (List.mem_cons_of_mem _ (List.mem_cons_of_mem _ r))
end
end Tw

namespace Tw
open PySem L2 Ts Mix
/-! ### looks at blocks -/
abbrev Look := Nat × Nat × Bool
def encL : Enc Look := eTup3 eNat eNat eBool
theorem encL_sh (l : List Look) : SeqAt.shaped ((eList encL).enc l) = true := (eList encL).shaped (by decide) l fun _ _ => ⟨trivial, trivial, trivial⟩
/-- two blocks are alike -/
def alk (r1 r2 : List Str) (h j : Nat) : Bool := decide (blk r1 h j = blk r2 h j)
/-- from a block that isn't alike down -/
def firstIn (r1 r2 : List Str) : Nat → Nat → List Look × Nat
  | 0, j => ([], j)
  | h + 1, j => ((h, 2 * j, alk r1 r2 h (2 * j)) :: (firstIn r1 r2 h (if alk r1 r2 h (2 * j) = true then 2 * j + 1 else 2 * j)).1, (firstIn r1 r2 h (if alk r1 r2 h (2 * j) = true then 2 * j + 1 else 2 * j)).2)
theorem firstIn_len (r1 r2 : List Str) : ∀ h j, (firstIn r1 r2 h j).1.length = h
  | 0, _ => rfl
  | h + 1, j => by show (firstIn r1 r2 h _).1.length + 1 = h + 1; rw [firstIn_len r1 r2 h]
def lkfl (B1 B2 lk : Addr) : List (Str × V) := putF "looks" (.ref lk) (putF "other" (.ref B2) (putF "one" (.ref B1) []))
theorem lkfl_one {a b l : Addr} : (lkfl a b l).lookup ("one" : Str) = some (.ref a) := by
  unfold lkfl
  rw [lookup_putF, if_neg (by decide +kernel), lookup_putF, if_neg (by decide +kernel), lookup_putF, if_pos rfl]
theorem lkfl_other {a b l : Addr} : (lkfl a b l).lookup ("other" : Str) = some (.ref b) := by
  unfold lkfl
  rw [lookup_putF, if_neg (by decide +kernel), lookup_putF, if_pos rfl]
theorem lkfl_looks {a b l : Addr} : (lkfl a b l).lookup ("looks" : Str) = some (.ref l) := by
  unfold lkfl
  rw [lookup_putF, if_pos rfl]
theorem lkfl_no {a b l : Addr} {m : Str} (h1 : ¬ m = "one") (h2 : ¬ m = "other") (h3 : ¬ m = "looks") : (lkfl a b l).lookup m = none := by
  unfold lkfl
  rw [lookup_putF, if_neg h3, lookup_putF, if_neg h2, lookup_putF, if_neg h1]
  rfl
def BR.Bo (b : BR) (c : Cs) (H : Hp) (L : Addr) : Prop := BookAt c H b.B L b.ln b.lv b.lvs b.rows b.levels
/-- two books, ready to be looked at -/
structure TB (c : Cs) (H : Hp) (L : Addr) (b1 b2 : BR) (ths : List MK) : Prop where
  a1 : b1.Bo c H L
  a2 : b2.Bo c H L
  i1 : BookInv ths b1.rows b1.levels
  i2 : BookInv ths b2.rows b2.levels
  nd : ths.Nodup
  hL : ∃ dx fs, H L = some (.ins c.Ledger dx fs)
  n1 : b1.rows.length ≤ 1024
  n2 : b2.rows.length ≤ 1024
theorem TB.ex {c : Cs} {H H' : Hp} {L : Addr} {b1 b2 : BR} {ths : List MK} (t : TB c H L b1 b2 ths) (e : Ex H H') : TB c H' L b1 b2 ths :=
  ⟨BookAt.ex t.a1 e, BookAt.ex t.a2 e, t.i1, t.i2, t.nd, let ⟨dx, fs, h⟩ := t.hL; ⟨dx, fs, e _ _ h⟩, t.n1, t.n2⟩
/-- a looker; lk its looks -/
structure LS (K : PySem.W.Frag) (c : Cs) (H : Hp) (L p lk : Addr) (b1 b2 : BR) (ths : List MK) (ds : List Look) : Prop where
  ob : ∃ dx, hid lk H p = some (.ins c.Looker dx (lkfl b1.B b2.B lk))
  ls : ∃ xs, H lk = some (.lst xs) ∧ DpAll K (hid lk H) xs (ds.map encL.enc)
  tb : TB c (hid lk H) L b1 b2 ths
section
variable {K : PySem.W.Frag} {c : Cs} {H H' : Hp} {L p lk : Addr} {b1 b2 : BR} {ths : List MK} {ds : List Look}
theorem LS.ob' (S : LS K c H L p lk b1 b2 ths ds) : ∃ dx, H p = some (.ins c.Looker dx (lkfl b1.B b2.B lk)) := let ⟨dx, h⟩ := S.ob; ⟨dx, ex_hid _ _ h⟩
theorem LS.tb' (S : LS K c H L p lk b1 b2 ths ds) : TB c H L b1 b2 ths := S.tb.ex ex_hid
theorem LS.ex (S : LS K c H L p lk b1 b2 ths ds) (e : Ex H H') : LS K c H' L p lk b1 b2 ths ds := by
  obtain ⟨dx, h⟩ := S.ob
  obtain ⟨xs, h1, h2⟩ := S.ls
  exact ⟨⟨dx, hid_mono e _ _ h⟩, ⟨xs, e _ _ h1, dpAll_mono (hid_mono e) h2⟩, S.tb.ex (hid_mono e)⟩
/-- a look more -/
theorem LS.look (S : LS K c H L p lk b1 b2 ths ds) {xs : List V} {t : Addr} {h j : Nat} {b : Bool} (h1 : H lk = some (.lst xs)) (h2 : DpAll K (hid lk H) xs (ds.map encL.enc)) (ht : H t = none) :
    LS K c (upd (upd H t (.tup [.int (h : Nat), .int (j : Nat), .bl b])) lk (.lst (xs ++ [.ref t]))) L p lk b1 b2 ths (ds ++ [(h, j, b)]) ∧ Ex (hid lk H) (hid lk (upd (upd H t (.tup [.int (h : Nat), .int (j : Nat), .bl b])) lk (.lst (xs ++ [.ref t])))) := by
  have nt : lk ≠ t := ne_of_none h1 ht
  have e : Ex (hid lk H) (hid lk (upd H t (.tup [.int (h : Nat), .int (j : Nat), .bl b]))) := hid_mono (ex_new ex_refl ht)
  rw [hid_upd]
  refine ⟨⟨?_, ⟨_, upd_same, ?_⟩, ?_⟩, e⟩
  · obtain ⟨dx, h⟩ := S.ob
    rw [hid_upd]
    exact ⟨dx, e _ _ h⟩
  · rw [hid_upd, List.map_append]
    refine dpAll_snoc (dpAll_mono e h2) ?_
    refine .tup (sqt (xs := [.int (h : Nat), .int (j : Nat), .bl b]) ?_) (.cons (.int _) (.cons (.int _) (.cons (.bl _) .nil)))
    rw [hid_ne (Ne.symm nt), upd_same]
  · rw [hid_upd]
    exact S.tb.ex e
end
def N_Looker_init : List Str := ["self", "one", "other"]
def t_Looker_init (K : PySem.W.Frag) (c : Cs) (E : XK) : TS := (tSeq (tIfS (tTest (tOp (rNeIns K) (tFld K (tVar 1) "ledger") (tFld K (tVar 2) "ledger"))) (tRaiseX c.Strange (fun cls d _ H => E cls d H)) tNext)
  (tSeq (sFld K (tVar 0) (tVar 1) "one")
  (tSeq (sFld K (tVar 0) (tVar 2) "other")
  (sFld K (tVar 0) (tLst tNil) "looks"))))
def sp_Looker_init (K : PySem.W.Frag) (c : Cs) : Sp := fun vs H Q E => ∃ (p dx L1 L2 e1 e2 : Addr) (f1 f2 : List (Str × V)) (b1 b2 : BR), vs = [.ref p, .ref b1.B, .ref b2.B] ∧ H p = some (.ins c.Looker dx []) ∧ b1.Bo c H L1 ∧ b2.Bo c H L2 ∧ H L1 = some (.ins c.Ledger e1 f1) ∧ H L2 = some (.ins c.Ledger e2 f2) ∧
  (L1 ≠ L2 → E (.ref c.Strange) none H) ∧ (L1 = L2 → ∀ lk H', H lk = none → H' lk = some (.lst []) → (∃ dx, H' p = some (.ins c.Looker dx (lkfl b1.B b2.B lk))) → Kp [p] H H' → Q .non H')
theorem len_Looker_init {K c} : ∀ vs H Q E, sp_Looker_init K c vs H Q E → vs.length = 3 := by rintro vs H Q E ⟨_, _, _, _, _, _, _, _, _, _, rfl, _⟩; rfl
theorem pure_Looker_init {K : PySem.W.Frag} {c : Cs} {vs : List V} {H : Hp} {Q : VK} {E : XK} (T : TxK K c) (h : sp_Looker_init K c vs H Q E) : t_Looker_init K c E ⟨fun _ H' => Q .non H', Q, fun _ _ => False, fun _ _ => False⟩ (start N_Looker_init vs) H := by
  obtain ⟨p, dx, L1, L2, e1, e2, f1, f2, b1, b2, rfl, hp, a1, a2, h1, h2, k1, k2⟩ := h
  show t_Looker_init K c E _ [some (.ref p), some (.ref b1.B), some (.ref b2.B)] H
  unfold t_Looker_init
  obtain ⟨d1, hB1⟩ := BookAt.ob a1
  obtain ⟨d2, hB2⟩ := BookAt.ob a2
  walk_at "s"
  refine w_fldAt hB1 T.cBook T.n_Book_ledger bfl_ledger ?_
  walk_at "s"
  refine w_fldAt hB2 T.cBook T.n_Book_ledger bfl_ledger ?_
  refine ⟨L1, L2, c.Ledger, e1, e2, f1, f2, rfl, rfl, h1, h2, T.pl_Ledger, ?_⟩
  walk_at "s"
  refine ite_nd (fun h0 => ?_) fun h0 => ?_
  · walk_at "s"
    exact k1 h0
  · walk_at "s"
    refine w_sfldAt hp T.cLooker T.n_Looker_one (by show 0 < 1000; decide) ?_
    walk_at "s"
    refine w_sfldAt upd_same T.cLooker T.n_Looker_other (by show 1 < 1000; decide) ?_
    walk_at "s"
    refine ⟨Nat.zero_le _, fun lk hlk => ?_⟩
    have np : p ≠ lk := fun e => by rw [← e, upd_same] at hlk; cases hlk
    have fk : H lk = none := by rw [upd_ne (Ne.symm np), upd_ne (Ne.symm np)] at hlk; exact hlk
    walk_at "s"
    refine w_sfldAt (by rw [upd_ne np, upd_same]) T.cLooker T.n_Looker_looks (by show 2 < 1000; decide) ?_
    refine k2 h0 lk _ fk ?_ ⟨dx, upd_same⟩ ?_
    · rw [upd_ne (Ne.symm np), upd_same]
    · exact (((Kp.refl.set (by simp)).set (by simp)).fresh fk).set (by simp)
theorem new_looker {K : PySem.W.Frag} {c : Cs} {H : Hp} {Q : Addr → Hp → Prop} {E : XK} {L : Addr} {b1 b2 : BR} {ths : List MK} (t : TB c H L b1 b2 ths)
    (q : ∀ p lk H', LS K c H' L p lk b1 b2 ths [] → Ex H (hid lk H') → H lk = none → H p = none → Q p H') :
    ∀ x dx, H x = none → H dx = none → dx ≠ x → sp_Looker_init K c [.ref x, .ref b1.B, .ref b2.B] (upd (upd H dx (.own x)) x (.ins c.Looker dx [])) (fun v H2 => v = .non ∧ Q x H2) E := fun x dx hx hdx ne => by
  have e1 : Ex H (upd (upd H dx (.own x)) x (.ins c.Looker dx [])) := ex_new (ex_new ex_refl hdx) (by rw [upd_ne (Ne.symm ne)]; exact hx)
  have t1 := t.ex e1
  obtain ⟨d, fs, hL⟩ := t1.hL
  refine ⟨x, dx, L, L, d, d, fs, fs, b1, b2, rfl, upd_same, t1.a1, t1.a2, hL, hL, fun n => absurd rfl n, fun _ lk H' fk h1 ⟨dy, h2⟩ k => ⟨rfl, ?_⟩⟩
  have fl := ex_free e1 fk
  have np : x ≠ lk := fun e => by rw [← e, upd_same] at fk; cases fk
  have ex2 : Ex H (hid lk H') := hid_free fl fun b o h => k b o (e1 b o h) fun z => by
    rw [List.mem_singleton.mp z, hx] at h
    cases h
  exact q x lk H' ⟨⟨dy, hid_get h2 np⟩, ⟨[], h1, .nil⟩, t.ex ex2⟩ ex2 fl hx
def N_Looker_lesser : List Str := ["self"]
def t_Looker_lesser (K : PySem.W.Frag) (c : Cs) (E : XK) : TS := (tRet (tCB rMin (tCons (tMeth c.Book "count" (sp_Book_count K c) [] E0 (tFld K (tVar 0) "one") tNil) (tCons (tMeth c.Book "count" (sp_Book_count K c) [] E0 (tFld K (tVar 0) "other") tNil) tNil))))
def sp_Looker_lesser (K : PySem.W.Frag) (c : Cs) : Sp := fun vs H Q _ => ∃ (L p lk : Addr) (b1 b2 : BR) (ths : List MK) (ds : List Look), vs = [.ref p] ∧ LS K c H L p lk b1 b2 ths ds ∧ Q (.int (min b1.rows.length b2.rows.length : Nat)) H
theorem len_Looker_lesser {K c} : ∀ vs H Q E, sp_Looker_lesser K c vs H Q E → vs.length = 1 := by rintro vs H Q E ⟨_, _, _, _, _, _, _, rfl, _⟩; rfl
theorem pure_Looker_lesser {K : PySem.W.Frag} {c : Cs} {vs : List V} {H : Hp} {Q : VK} {E : XK} (T : TxK K c) (h : sp_Looker_lesser K c vs H Q E) : t_Looker_lesser K c E ⟨fun _ H' => Q .non H', Q, fun _ _ => False, fun _ _ => False⟩ (start N_Looker_lesser vs) H := by
  obtain ⟨L, p, lk, b1, b2, ths, ds, rfl, S, k⟩ := h
  show t_Looker_lesser K c E _ [some (.ref p)] H
  unfold t_Looker_lesser
  obtain ⟨dx, hp⟩ := S.ob'
  have tb := S.tb'
  obtain ⟨d1, hB1⟩ := BookAt.ob tb.a1
  obtain ⟨d2, hB2⟩ := BookAt.ob tb.a2
  walk_at "s"
  refine w_fldAt hp T.cLooker T.n_Looker_one lkfl_one ?_
  refine w_methAt hB1 (bfl_no (by decide +kernel) (by decide +kernel) (by decide +kernel)) ?_
  walk_at "s"
  refine ⟨b1.B, L, b1.ln, b1.lv, b1.lvs, b1.rows, b1.levels, rfl, tb.a1, ?_⟩
  walk_at "s"
  refine w_fldAt hp T.cLooker T.n_Looker_other lkfl_other ?_
  refine w_methAt hB2 (bfl_no (by decide +kernel) (by decide +kernel) (by decide +kernel)) ?_
  walk_at "s"
  refine ⟨b2.B, L, b2.ln, b2.lv, b2.lvs, b2.rows, b2.levels, rfl, tb.a2, ?_⟩
  walk_at "s"
  have e : (if ((b2.rows.length : Nat) : Int) < (b1.rows.length : Nat) then ((b2.rows.length : Nat) : Int) else (b1.rows.length : Nat)) = ((min b1.rows.length b2.rows.length : Nat) : Int) := by split <;> omega
  rw [e]
  exact k
/-- the sum of a block that stands -/
theorem sum_at {K : PySem.W.Frag} {c : Cs} {H : Hp} {L : Addr} {b : BR} {ths : List MK} {Q : VK} {E : XK} (a : b.Bo c H L) (I : BookInv ths b.rows b.levels) {h j : Nat} (hb : (j + 1) * 2 ^ h ≤ b.rows.length) (q : ∀ x : Nat, Den ths h x (blk b.rows h j) → Q (.int (x : Nat)) H) :
    sp_Book_sum_of K c [.ref b.B, .int (h : Nat), .int (j : Nat)] H Q E := by
  have hj : j < (lev b.levels h).length := by rw [I.len]; exact lt_div_iff.mpr hb
  refine ⟨b.B, L, b.ln, b.lv, b.lvs, b.rows, b.levels, _, _, true, true, rfl, a, .inl ⟨_, rfl, rfl⟩, .inl ⟨_, rfl, rfl⟩, fun h' j' x e1 e2 e3 => ?_, fun n => absurd ⟨h, j, rfl, rfl, hj⟩ n⟩
  have e1 : h' = h := by have := V.int.inj e1; omega
  have e2 : j' = j := by have := V.int.inj e2; omega
  rw [e1, e2] at e3
  exact q x (I.den h j x e3)
def N_Looker_are_alike : List Str := ["self", "height", "number", "alike"]
def t_Looker_are_alike (K : PySem.W.Frag) (c : Cs) (E : XK) : TS := (tSeq (tAsg (tOp (rEqU K) (tMeth c.Book "sum_of" (sp_Book_sum_of K c) [] E0 (tFld K (tVar 0) "one") (tCons (tVar 1) (tCons (tVar 2) tNil))) (tMeth c.Book "sum_of" (sp_Book_sum_of K c) [] E0 (tFld K (tVar 0) "other") (tCons (tVar 1) (tCons (tVar 2) tNil)))) (gName 3))
  (tSeq (tDrop (tBM K "list" rAppend (tFld K (tVar 0) "looks") (tCons (tTup (tCons (tVar 1) (tCons (tVar 2) (tCons (tVar 3) tNil)))) tNil)))
  (tRet (tVar 3))))
def sp_Looker_are_alike (K : PySem.W.Frag) (c : Cs) : Sp := fun vs H Q _ => ∃ (L p lk : Addr) (b1 b2 : BR) (ths : List MK) (ds : List Look) (h j : Nat), vs = [.ref p, .int (h : Nat), .int (j : Nat)] ∧ LS K c H L p lk b1 b2 ths ds ∧ (j + 1) * 2 ^ h ≤ b1.rows.length ∧ (j + 1) * 2 ^ h ≤ b2.rows.length ∧ ds.length < 100000 ∧
  ∀ H', LS K c H' L p lk b1 b2 ths (ds ++ [(h, j, alk b1.rows b2.rows h j)]) → Ex (hid lk H) (hid lk H') → Q (.bl (alk b1.rows b2.rows h j)) H'
theorem len_Looker_are_alike {K c} : ∀ vs H Q E, sp_Looker_are_alike K c vs H Q E → vs.length = 3 := by rintro vs H Q E ⟨_, _, _, _, _, _, _, _, _, rfl, _⟩; rfl
theorem pure_Looker_are_alike {K : PySem.W.Frag} {c : Cs} {vs : List V} {H : Hp} {Q : VK} {E : XK} (T : TxK K c) (g : sp_Looker_are_alike K c vs H Q E) : t_Looker_are_alike K c E ⟨fun _ H' => Q .non H', Q, fun _ _ => False, fun _ _ => False⟩ (start N_Looker_are_alike vs) H := by
  obtain ⟨L, p, lk, b1, b2, ths, ds, h, j, rfl, S, hb1, hb2, hd, k⟩ := g
  show t_Looker_are_alike K c E _ [some (.ref p), some (.int (h : Nat)), some (.int (j : Nat)), none] H
  unfold t_Looker_are_alike
  obtain ⟨dx, hp⟩ := S.ob'
  have tb := S.tb'
  obtain ⟨d1, hB1⟩ := BookAt.ob tb.a1
  obtain ⟨d2, hB2⟩ := BookAt.ob tb.a2
  walk_at "s"
  refine w_fldAt hp T.cLooker T.n_Looker_one lkfl_one ?_
  refine w_methAt hB1 (bfl_no (by decide +kernel) (by decide +kernel) (by decide +kernel)) ?_
  walk_at "s"
  refine sum_at tb.a1 tb.i1 hb1 fun x D1 => ?_
  walk_at "s"
  refine w_fldAt hp T.cLooker T.n_Looker_other lkfl_other ?_
  refine w_methAt hB2 (bfl_no (by decide +kernel) (by decide +kernel) (by decide +kernel)) ?_
  walk_at "s"
  refine sum_at tb.a2 tb.i2 hb2 fun y D2 => ?_
  walk_at "s"
  have e : decide (((x : Nat) : Int) = (y : Nat)) = alk b1.rows b2.rows h j := by
    unfold alk
    rw [decide_eq_decide, ← D1.iff tb.nd D2]
    omega
  rw [e]
  refine w_fldAt hp T.cLooker T.n_Looker_looks lkfl_looks ?_
  obtain ⟨xs, h1, h2⟩ := S.ls
  have hl := dpAll_len h2
  rw [List.length_map] at hl
  refine ⟨w_tyL (sql h1), ?_⟩
  walk_at "s"
  refine ⟨by show 3 ≤ sizeLine; exact sz100 (by decide), fun t ht => ?_⟩
  have nt : lk ≠ t := ne_of_none h1 ht
  walk_at "s"
  refine w_app (by rw [upd_ne nt]; exact h1) (szL (by omega)) ?_
  walk_at "s"
  obtain ⟨S', e'⟩ := S.look (h := h) (j := j) (b := alk b1.rows b2.rows h j) h1 h2 ht
  exact k _ S' e'
def N_Looker_first_in : List Str := ["self", "height", "number"]
def t_Looker_first_in (K : PySem.W.Frag) (c : Cs) (E : XK) : TS := (tSeq (tWhile (tTest (tOp rGt (tVar 1) (tC (.int 0)))) (tSeq (tAsg (tOp rSubI (tVar 1) (tC (.int 1))) (gName 1))
  (tSeq (tAsg (tOp rMul (tC (.int 2)) (tVar 2)) (gName 2))
  (tIfS (tB (tMeth c.Looker "are_alike" (sp_Looker_are_alike K c) [] E0 (tVar 0) (tCons (tVar 1) (tCons (tVar 2) tNil)))) (tAsg (tOp rAddU (tVar 2) (tC (.int 1))) (gName 2)) tNext))))
  (tRet (tVar 2)))
def sp_Looker_first_in (K : PySem.W.Frag) (c : Cs) : Sp := fun vs H Q _ => ∃ (L p lk : Addr) (b1 b2 : BR) (ths : List MK) (ds : List Look) (h j : Nat), vs = [.ref p, .int (h : Nat), .int (j : Nat)] ∧ LS K c H L p lk b1 b2 ths ds ∧ (j + 1) * 2 ^ h ≤ b1.rows.length ∧ (j + 1) * 2 ^ h ≤ b2.rows.length ∧ ds.length + h < 100000 ∧
  ∀ H', LS K c H' L p lk b1 b2 ths (ds ++ (firstIn b1.rows b2.rows h j).1) → Ex (hid lk H) (hid lk H') → Q (.int ((firstIn b1.rows b2.rows h j).2 : Nat)) H'
theorem len_Looker_first_in {K c} : ∀ vs H Q E, sp_Looker_first_in K c vs H Q E → vs.length = 3 := by rintro vs H Q E ⟨_, _, _, _, _, _, _, _, _, rfl, _⟩; rfl
theorem pure_Looker_first_in {K : PySem.W.Frag} {c : Cs} {vs : List V} {H : Hp} {Q : VK} {E : XK} (T : TxK K c) (g : sp_Looker_first_in K c vs H Q E) : t_Looker_first_in K c E ⟨fun _ H' => Q .non H', Q, fun _ _ => False, fun _ _ => False⟩ (start N_Looker_first_in vs) H := by
  obtain ⟨L, p, lk, b1, b2, ths, ds, h, j, rfl, S, hb1, hb2, hd, k⟩ := g
  show t_Looker_first_in K c E _ [some (.ref p), some (.int (h : Nat)), some (.int (j : Nat))] H
  unfold t_Looker_first_in
  walk_at "s"
  refine w_while (fun σ H' => ∃ (h' j' : Nat) (ds' : List Look), σ = [some (.ref p), some (.int (h' : Nat)), some (.int (j' : Nat))] ∧ LS K c H' L p lk b1 b2 ths ds' ∧ (j' + 1) * 2 ^ h' ≤ b1.rows.length ∧ (j' + 1) * 2 ^ h' ≤ b2.rows.length ∧ ds'.length + h' < 100000 ∧
      ds' ++ (firstIn b1.rows b2.rows h' j').1 = ds ++ (firstIn b1.rows b2.rows h j).1 ∧ (firstIn b1.rows b2.rows h' j').2 = (firstIn b1.rows b2.rows h j).2 ∧ Ex (hid lk H) (hid lk H'))
    (fun σ _ => match σ with | [_, some (.int m), _] => m.toNat | _ => 0) ⟨h, j, ds, rfl, S, hb1, hb2, hd, rfl, rfl, ex_refl⟩ ?_
  rintro σ H1 ⟨h', j', ds', rfl, S1, q1, q2, qd, e1, e2, ex1⟩
  walk_at "s"
  refine ite_d (fun h0 => ?_) fun h0 => ?_
  · obtain ⟨h', rfl⟩ : ∃ k, h' = k + 1 := ⟨h' - 1, by omega⟩
    refine w_wN ?_
    walk_at "s"
    rw [show ((h' + 1 : Nat) : Int) - 1 = (h' : Nat) by push_cast; omega, show (2 : Int) * (j' : Nat) = ((2 * j' : Nat) : Int) by push_cast; rfl]
    obtain ⟨dx, hp⟩ := S1.ob'
    refine w_methAt hp (lkfl_no (by decide +kernel) (by decide +kernel) (by decide +kernel)) ?_
    walk_at "s"
    have m1 : (2 * j' + 1 + 1) * 2 ^ h' = (j' + 1) * 2 ^ (h' + 1) := by rw [Nat.pow_succ, show 2 * j' + 1 + 1 = (j' + 1) * 2 by omega, Nat.mul_assoc, Nat.mul_comm 2]
    have m2 : (2 * j' + 1) * 2 ^ h' ≤ (2 * j' + 1 + 1) * 2 ^ h' := Nat.mul_le_mul_right _ (Nat.le_succ _)
    refine ⟨L, p, lk, b1, b2, ths, ds', h', 2 * j', rfl, S1, by omega, by omega, by omega, fun H2 S2 ex2 => ?_⟩
    walk_at "s"
    have f1 : (firstIn b1.rows b2.rows (h' + 1) j') = ((h', 2 * j', alk b1.rows b2.rows h' (2 * j')) :: (firstIn b1.rows b2.rows h' (if alk b1.rows b2.rows h' (2 * j') = true then 2 * j' + 1 else 2 * j')).1, (firstIn b1.rows b2.rows h' (if alk b1.rows b2.rows h' (2 * j') = true then 2 * j' + 1 else 2 * j')).2) := rfl
    rw [f1] at e1 e2
    refine ite_b (fun hb => ?_) fun hb => ?_
    · rw [hb] at S2 e1 e2
      rw [if_pos rfl] at e1 e2
      walk_at "s"
      rw [show ((2 * j' : Nat) : Int) + 1 = ((2 * j' + 1 : Nat) : Int) by push_cast; rfl]
      refine ⟨⟨h', 2 * j' + 1, _, rfl, S2, by omega, by omega, by rw [List.length_append]; simp; omega, by rw [List.append_assoc]; exact e1, e2, ex1.trans ex2⟩, ?_⟩
      show ((h' : Nat) : Int).toNat < ((h' + 1 : Nat) : Int).toNat
      omega
    · rw [hb] at S2 e1 e2
      rw [if_neg Bool.false_ne_true] at e1 e2
      walk_at "s"
      refine ⟨⟨h', 2 * j', _, rfl, S2, by omega, by omega, by rw [List.length_append]; simp; omega, by rw [List.append_assoc]; exact e1, e2, ex1.trans ex2⟩, ?_⟩
      show ((h' : Nat) : Int).toNat < ((h' + 1 : Nat) : Int).toNat
      omega
  · have h0 : h' = 0 := by omega
    subst h0
    walk_at "s"
    have e1 : ds' ++ [] = ds ++ (firstIn b1.rows b2.rows h j).1 := e1
    rw [List.append_nil] at e1
    have e2 : j' = (firstIn b1.rows b2.rows h j).2 := e2
    rw [e1] at S1
    rw [e2]
    exact k H1 S1 ex1
end Tw

namespace Tw
open PySem L2 Ts Mix
theorem sqt_hid {K : PySem.W.Frag} {H : Hp} {lk a : Addr} {xs ys : List V} (h : SqT K H a xs) (hl : H lk = some (.lst ys)) : SqT K (hid lk H) a xs := by
  rcases h with (h | ⟨o, h⟩) | h
  · exact .inl (.inl (hid_get h (ne_of h hl fun z => nomatch z)))
  · exact .inl (.inr ⟨o, hid_get h (ne_of h hl fun z => nomatch z)⟩)
  · exact .inr h
/-- each part lies within the count -/
theorem parts_in (n : Nat) : ∀ (k : Nat), ∀ p ∈ partsF n (placeAt n k) k, (p.2 + 1) * 2 ^ p.1 ≤ n
  | 0 => fun p hp => nomatch hp
  | k + 1 => fun p hp => by
    by_cases b : n / 2 ^ k % 2 = 1
    · rw [parts_cons b] at hp
      rcases List.mem_cons.mp hp with e | hp
      · subst e
        have d : 2 ^ k ∣ placeAt n (k + 1) := ⟨n / 2 ^ (k + 1) * 2, by unfold placeAt; rw [Nat.pow_succ, Nat.mul_comm (2 ^ k) 2, ← Nat.mul_assoc, Nat.mul_comm (2 ^ k)]⟩
        have h1 := Nat.div_mul_cancel d
        have h2 := (bit_room n k).mp b
        show (placeAt n (k + 1) / 2 ^ k + 1) * 2 ^ k ≤ n
        rw [Nat.add_mul, h1, Nat.one_mul]
        exact h2
      · exact parts_in n k p hp
    · rw [parts_skip b] at hp
      exact parts_in n k p hp
theorem parts_le {n : Nat} {p : Nat × Nat} (h : p ∈ parts n) : (p.2 + 1) * 2 ^ p.1 ≤ n := by
  refine parts_in n (digs n) p ?_
  rw [placeAt_digs]
  exact h
theorem ht_le {h j n : Nat} (hb : (j + 1) * 2 ^ h ≤ n) (hn : n ≤ 1024) : h ≤ 10 := by
  rcases Nat.lt_or_ge 10 h with w | w
  · have h1 : 2 ^ 11 ≤ 2 ^ h := Nat.pow_le_pow_right (by decide) (by omega)
    have h2 : 2 ^ h ≤ (j + 1) * 2 ^ h := Nat.le_mul_of_pos_left _ (Nat.succ_pos _)
    have h3 : (2 : Nat) ^ 11 = 2048 := by decide
    omega
  · exact w
theorem parts_length {n : Nat} (h : n ≤ 1024) : (parts n).length ≤ 11 := by
  have e : (2 : Nat) ^ 11 = 2048 := by decide
  exact Nat.le_trans (parts_len _ _ _) (digs_le (by omega))
/-! ### the first place -/
def firstM (r1 r2 : List Str) : List (Nat × Nat) → List Look × Option Nat
  | [] => ([], none)
  | (h, j) :: ps => if alk r1 r2 h j = true then ((h, j, true) :: (firstM r1 r2 ps).1, (firstM r1 r2 ps).2) else ((h, j, false) :: (firstIn r1 r2 h j).1, some (firstIn r1 r2 h j).2)
def firstR (r1 r2 : List Str) : List Look × Option Nat :=
  ((firstM r1 r2 (parts (min r1.length r2.length))).1, match (firstM r1 r2 (parts (min r1.length r2.length))).2 with
    | some p => some p
    | none => if r1.length = r2.length then none else some (min r1.length r2.length))
def plV : Option Nat → V
  | none => .non
  | some p => .int (p : Nat)
/-- what is told: a tuple at t, its looks at lk -/
structure Found (K : PySem.W.Frag) (H H' : Hp) (t lk : Addr) (v : V) (ds : List Look) : Prop where
  ex : Ex H (hid lk H')
  nl : H lk = none
  nt : H t = none
  ht : H' t = some (.tup [v, .ref lk])
  ls : ∃ xs, H' lk = some (.lst xs) ∧ DpAll K (hid lk H') xs (ds.map encL.enc)
theorem Found.ex' {K : PySem.W.Frag} {H H' : Hp} {t lk : Addr} {v : V} {ds : List Look} (F : Found K H H' t lk v ds) : Ex H H' := fun b o h => ex_hid _ _ (F.ex b o h)
/-- books of two ledgers -/
def Stranger (c : Cs) (H : Hp) (b1 b2 : BR) (E : XK) : Prop := ∃ (L1 L2 e1 e2 : Addr) (f1 f2 : List (Str × V)), b1.Bo c H L1 ∧ b2.Bo c H L2 ∧ H L1 = some (.ins c.Ledger e1 f1) ∧ H L2 = some (.ins c.Ledger e2 f2) ∧ L1 ≠ L2 ∧ ∀ H', Ex H H' → E (.ref c.Strange) none H'
theorem strange_looker {K : PySem.W.Frag} {c : Cs} {H : Hp} {Q : Addr → Hp → Prop} {E : XK} {b1 b2 : BR} (s : Stranger c H b1 b2 E) :
    ∀ x dx, H x = none → H dx = none → dx ≠ x → sp_Looker_init K c [.ref x, .ref b1.B, .ref b2.B] (upd (upd H dx (.own x)) x (.ins c.Looker dx [])) (fun v H2 => v = .non ∧ Q x H2) E := fun x dx hx hdx ne => by
  have e : Ex H (upd (upd H dx (.own x)) x (.ins c.Looker dx [])) := ex_new (ex_new ex_refl hdx) (by rw [upd_ne (Ne.symm ne)]; exact hx)
  obtain ⟨L1, L2, e1, e2, f1, f2, a1, a2, h1, h2, n, k⟩ := s
  exact ⟨x, dx, L1, L2, e1, e2, f1, f2, b1, b2, rfl, upd_same, BookAt.ex a1 e, BookAt.ex a2 e, e _ _ h1, e _ _ h2, fun _ => k _ e, fun z => absurd z n⟩
def N_first_unlike : List Str := ["one", "other", "looker", "height", "number"]
def t_first_unlike (K : PySem.W.Frag) (c : Cs) (E : XK) : TS := (tSeq (tAsg (tMake c.Looker (sp_Looker_init K c) [] E (tCons (tVar 0) (tCons (tVar 1) tNil))) (gName 2))
  (tSeq (tFor (iList K (tCall (sp_parted K c) [] E (tCons (tMeth c.Looker "lesser" (sp_Looker_lesser K c) [] E (tVar 2) tNil) tNil))) (gTup K 2 (gCons (gName 3) (gCons (gName 4) gNil))) (tIfS (tNot (tB (tMeth c.Looker "are_alike" (sp_Looker_are_alike K c) [] E (tVar 2) (tCons (tVar 3) (tCons (tVar 4) tNil))))) (tRet (tTup (tCons (tMeth c.Looker "first_in" (sp_Looker_first_in K c) [] E (tVar 2) (tCons (tVar 3) (tCons (tVar 4) tNil))) (tCons (tFld K (tVar 2) "looks") tNil)))) tNext))
  (tSeq (tIfS (tTest (tOp (rEqU K) (tMeth c.Book "count" (sp_Book_count K c) [] E (tVar 0) tNil) (tMeth c.Book "count" (sp_Book_count K c) [] E (tVar 1) tNil))) (tRet (tTup (tCons (tC .non) (tCons (tFld K (tVar 2) "looks") tNil)))) tNext)
  (tRet (tTup (tCons (tMeth c.Looker "lesser" (sp_Looker_lesser K c) [] E (tVar 2) tNil) (tCons (tFld K (tVar 2) "looks") tNil)))))))
def sp_first_unlike (K : PySem.W.Frag) (c : Cs) : Sp := fun vs H Q E => ∃ (b1 b2 : BR), vs = [.ref b1.B, .ref b2.B] ∧ ((∃ (L : Addr) (ths : List MK), TB c H L b1 b2 ths ∧ ∀ H' t lk, Found K H H' t lk (plV (firstR b1.rows b2.rows).2) (firstR b1.rows b2.rows).1 → Q (.ref t) H') ∨ Stranger c H b1 b2 E)
theorem len_first_unlike {K c} : ∀ vs H Q E, sp_first_unlike K c vs H Q E → vs.length = 2 := by rintro vs H Q E ⟨_, _, rfl, _⟩; rfl
theorem pure_first_unlike {K : PySem.W.Frag} {c : Cs} {vs : List V} {H : Hp} {Q : VK} {E : XK} (T : TxK K c) (g : sp_first_unlike K c vs H Q E) : t_first_unlike K c E ⟨fun _ H' => Q .non H', Q, fun _ _ => False, fun _ _ => False⟩ (start N_first_unlike vs) H := by
  obtain ⟨b1, b2, rfl, g⟩ := g
  rcases g with ⟨L, ths, tb, k⟩ | s
  case inr =>
    show t_first_unlike K c E _ [some (.ref b1.B), some (.ref b2.B), none, none, none] H
    unfold t_first_unlike
    walk_at "s"
    exact strange_looker s
  show t_first_unlike K c E _ [some (.ref b1.B), some (.ref b2.B), none, none, none] H
  unfold t_first_unlike
  walk_at "s"
  refine new_looker tb fun p lk H1 S1 ex1 fl fp => ?_
  obtain ⟨dx, hp⟩ := S1.ob'
  have n1 := tb.n1
  have n2 := tb.n2
  walk_at "s"
  refine w_methAt hp (lkfl_no (by decide +kernel) (by decide +kernel) (by decide +kernel)) ?_
  walk_at "s"
  refine ⟨L, p, lk, b1, b2, ths, [], rfl, S1, ?_⟩
  walk_at "s"
  have p29 : (2 : Nat) ^ 29 = 536870912 := by decide
  refine ⟨_, rfl, by omega, fun H2 q xs ex2 fq hq dq => ?_⟩
  have S2 := S1.ex ex2
  have pl := parts_length (n := min b1.rows.length b2.rows.length) (by omega)
  have pin : ∀ h j, (h, j) ∈ parts (min b1.rows.length b2.rows.length) → (j + 1) * 2 ^ h ≤ min b1.rows.length b2.rows.length := fun h j hm => parts_le hm
  generalize hps : parts (min b1.rows.length b2.rows.length) = ps at dq pl pin
  have hxl := dpAll_len dq
  rw [List.length_map] at hxl
  obtain ⟨l1, h1, _⟩ := S1.ls
  have h2 := ex2 _ _ h1
  have nq : q ≠ lk := fun e => by rw [e, h1] at fq; cases fq
  have G2 : Ex H (hid lk H2) := ex1.trans (hid_mono ex2)
  refine w_iLv (sql hq) (lb_list (K := K) (xs := xs) (fun i σ H' => ∃ (v3 v4 : Option V) (ds : List Look), σ = [some (.ref b1.B), some (.ref b2.B), some (.ref p), v3, v4] ∧ LS K c H' L p lk b1 b2 ths ds ∧ Ex (hid lk H2) (hid lk H') ∧ ds.length = i ∧
      ds ++ (firstM b1.rows b2.rows (ps.drop i)).1 = (firstM b1.rows b2.rows ps).1 ∧ (firstM b1.rows b2.rows (ps.drop i)).2 = (firstM b1.rows b2.rows ps).2) ⟨_, _, [], rfl, S2, ex_refl, rfl, rfl, rfl⟩ ?_ ?_ ?_)
  · rintro i σ H' _ ⟨_, _, _, _, _, e, _⟩
    exact sql (ex_hid _ _ (e _ _ (hid_get hq nq)))
  · rintro i x σ H3 hi ⟨v3, v4, ds, rfl, S3, e3, hd, q1, q2⟩
    obtain ⟨dd, hd1, hd2⟩ := dpAll_get dq hi
    rw [List.getElem?_map] at hd1
    obtain ⟨⟨h, j⟩, hp1, rfl⟩ := Option.map_eq_some_iff.mp hd1
    obtain ⟨t, x1, y1, rfl, ht, hx1, hy1⟩ := dp_tup2 hd2
    have hx1 := dp_int hx1
    have hy1 := dp_int hy1
    subst hx1 hy1
    have hb := pin h j (List.mem_of_getElem? hp1)
    have hh := ht_le hb (by omega)
    have hil := get_lt hp1
    rw [drop_at hp1] at q1 q2
    have ht3 := sqt_ex ex_hid (sqt_ex e3 (sqt_hid ht h2))
    obtain ⟨dx3, hp3⟩ := S3.ob'
    refine w_gTup ht3 rfl ?_
    walk_at "s"
    refine w_methAt hp3 (lkfl_no (by decide +kernel) (by decide +kernel) (by decide +kernel)) ?_
    walk_at "s"
    refine ⟨L, p, lk, b1, b2, ths, ds, h, j, rfl, S3, by omega, by omega, by omega, fun H4 S4 e4 => ?_⟩
    walk_at "s"
    refine ite_nb (fun hb0 => ?_) fun hb0 => ?_
    · rw [hb0] at S4
      have f1 : firstM b1.rows b2.rows ((h, j) :: ps.drop (i + 1)) = ((h, j, false) :: (firstIn b1.rows b2.rows h j).1, some (firstIn b1.rows b2.rows h j).2) := by
        show (if alk b1.rows b2.rows h j = true then _ else _) = _
        rw [hb0, if_neg Bool.false_ne_true]
      rw [f1] at q1 q2
      walk_at "s"
      obtain ⟨dx4, hp4⟩ := S4.ob'
      refine w_methAt hp4 (lkfl_no (by decide +kernel) (by decide +kernel) (by decide +kernel)) ?_
      walk_at "s"
      refine ⟨L, p, lk, b1, b2, ths, _, h, j, rfl, S4, by omega, by omega, by rw [List.length_append]; simp; omega, fun H5 S5 e5 => ?_⟩
      rw [List.append_assoc] at S5
      have q1 : ds ++ ([(h, j, false)] ++ (firstIn b1.rows b2.rows h j).1) = (firstM b1.rows b2.rows ps).1 := q1
      rw [q1] at S5
      obtain ⟨dx5, hp5⟩ := S5.ob'
      walk_at "s"
      refine w_fldAt hp5 T.cLooker T.n_Looker_looks lkfl_looks ?_
      walk_at "s"
      refine ⟨by show 2 ≤ sizeLine; exact sz100 (by decide), fun t5 ht5 => ?_⟩
      have S6 := S5.ex (ex_new (o := .tup [.int ((firstIn b1.rows b2.rows h j).2 : Nat), .ref lk]) ex_refl ht5)
      have G6 : Ex H (hid lk (upd H5 t5 (.tup [.int ((firstIn b1.rows b2.rows h j).2 : Nat), .ref lk]))) := ((G2.trans e3).trans (e4.trans e5)).trans (hid_mono (ex_new ex_refl ht5))
      have G5 : Ex H H5 := ((G2.trans e3).trans (e4.trans e5)).trans ex_hid
      have q2 : some (firstIn b1.rows b2.rows h j).2 = (firstM b1.rows b2.rows ps).2 := q2
      refine k _ t5 lk ⟨G6, fl, ex_free G5 ht5, ?_, ?_⟩
      · rw [upd_same]
        unfold firstR
        rw [hps, ← q2]
        rfl
      · have := S6.ls
        unfold firstR
        rw [hps]
        exact this
    · rw [hb0] at S4
      have f1 : firstM b1.rows b2.rows ((h, j) :: ps.drop (i + 1)) = ((h, j, true) :: (firstM b1.rows b2.rows (ps.drop (i + 1))).1, (firstM b1.rows b2.rows (ps.drop (i + 1))).2) := by
        show (if alk b1.rows b2.rows h j = true then _ else _) = _
        rw [hb0, if_pos rfl]
      rw [f1] at q1 q2
      walk_at "s"
      exact ⟨_, _, _, rfl, S4, e3.trans e4, by rw [List.length_append, hd]; rfl, by rw [List.append_assoc]; exact q1, q2⟩
  · rintro σ H3 ⟨v3, v4, ds, rfl, S3, e3, hd, q1, q2⟩
    rw [hxl, List.drop_length] at q1 q2
    have q1 : ds ++ [] = (firstM b1.rows b2.rows ps).1 := q1
    have q2 : none = (firstM b1.rows b2.rows ps).2 := q2
    rw [List.append_nil] at q1
    rw [q1] at S3
    have tb3 := S3.tb'
    obtain ⟨d1, hB1⟩ := BookAt.ob tb3.a1
    obtain ⟨d2, hB2⟩ := BookAt.ob tb3.a2
    obtain ⟨dx3, hp3⟩ := S3.ob'
    have fin : ∀ (t : Addr) (v : V), H3 t = none → v = plV (firstR b1.rows b2.rows).2 → Q (.ref t) (upd H3 t (.tup [v, .ref lk])) := fun t v ht ev => by
      have S6 := S3.ex (ex_new (o := .tup [v, .ref lk]) ex_refl ht)
      refine k _ t lk ⟨(G2.trans e3).trans (hid_mono (ex_new ex_refl ht)), fl, ex_free ((G2.trans e3).trans ex_hid) ht, by rw [upd_same, ev], ?_⟩
      have := S6.ls
      unfold firstR
      rw [hps]
      exact this
    have e2 : (firstR b1.rows b2.rows).2 = if b1.rows.length = b2.rows.length then none else some (min b1.rows.length b2.rows.length) := by
      unfold firstR
      rw [hps, ← q2]
    walk_at "s"
    refine w_methAt hB1 (bfl_no (by decide +kernel) (by decide +kernel) (by decide +kernel)) ?_
    walk_at "s"
    refine ⟨b1.B, L, b1.ln, b1.lv, b1.lvs, b1.rows, b1.levels, rfl, tb3.a1, ?_⟩
    walk_at "s"
    refine w_methAt hB2 (bfl_no (by decide +kernel) (by decide +kernel) (by decide +kernel)) ?_
    walk_at "s"
    refine ⟨b2.B, L, b2.ln, b2.lv, b2.lvs, b2.rows, b2.levels, rfl, tb3.a2, ?_⟩
    walk_at "s"
    refine ite_d (fun h0 => ?_) fun h0 => ?_
    · walk_at "s"
      refine w_fldAt hp3 T.cLooker T.n_Looker_looks lkfl_looks ?_
      walk_at "s"
      refine ⟨by show 2 ≤ sizeLine; exact sz100 (by decide), fun t5 ht5 => ?_⟩
      refine fin t5 .non ht5 ?_
      rw [e2, if_pos (by omega)]
      rfl
    · walk_at "s"
      refine w_methAt hp3 (lkfl_no (by decide +kernel) (by decide +kernel) (by decide +kernel)) ?_
      walk_at "s"
      refine ⟨L, p, lk, b1, b2, ths, _, rfl, S3, ?_⟩
      walk_at "s"
      refine w_fldAt hp3 T.cLooker T.n_Looker_looks lkfl_looks ?_
      walk_at "s"
      refine ⟨by show 2 ≤ sizeLine; exact sz100 (by decide), fun t5 ht5 => ?_⟩
      refine fin t5 _ ht5 ?_
      rw [e2, if_neg (by omega)]
      rfl
end Tw

namespace Tw
open PySem L2 Ts Mix
/-- lists and dicts: what tuples do not lean on -/
def Soft (H : Hp) (S : List Addr) : Prop := ∀ x ∈ S, ∀ o, H x = some o → (∃ ys, o = .lst ys) ∨ ∃ φ, o = .ext φ
theorem sqt_keep {K : PySem.W.Frag} {H H' : Hp} {S : List Addr} {a : Addr} {xs : List V} (k : Kp S H H') (s : Soft H S) (h : SqT K H a xs) : SqT K H' a xs := by
  rcases h with (h | ⟨o, h⟩) | h
  · refine .inl (.inl (k _ _ h fun z => ?_))
    rcases s a z _ h with ⟨_, e⟩ | ⟨_, e⟩ <;> cases e
  · refine .inl (.inr ⟨o, k _ _ h fun z => ?_⟩)
    rcases s a z _ h with ⟨_, e⟩ | ⟨_, e⟩ <;> cases e
  · exact .inr h
theorem dpLooks_keep {K : PySem.W.Frag} {H H' : Hp} {S : List Addr} (k : Kp S H H') (s : Soft H S) : ∀ {ds : List Look} {xs : List V}, DpAll K H xs (ds.map encL.enc) → DpAll K H' xs (ds.map encL.enc)
  | [], _, .nil => .nil
  | d :: ds, _, .cons h t => by
    obtain ⟨a, x, y, z, rfl, hs, hx, hy, hz⟩ := dp_tup3 h
    have hx := dp_int hx
    have hy := dp_int hy
    have hz := dp_bool hz
    subst hx hy hz
    exact .cons (.tup (sqt_keep k s hs) (.cons (.int _) (.cons (.int _) (.cons (.bl _) .nil)))) (dpLooks_keep k s t)
section
variable {K : PySem.W.Frag} {c : Cs} {H0 H H' : Hp} {L d l : Addr} {keep : List Addr} {b1 b2 : BR} {ths ths' : List MK} {xs xs' : List V} {n t : Nat}
theorem Two.soft (T : TxK K c) (S : Two c H0 H L d l keep b1 b2 ths xs n t) : Soft H (b1.a :: fpS d l b1.ln b1.lv b1.lvs) := fun x hx o ho => by
  rcases List.mem_cons.mp hx with e | hx
  · have := S.k1.kept
    rw [← e, ho] at this
    cases this
    exact .inl ⟨_, rfl⟩
  rcases List.mem_cons.mp hx with e | hx
  · obtain ⟨φ, e2⟩ := T.md d (ents 0 ths xs)
    have := S.la.dc
    rw [← e, ho] at this
    cases this
    rw [← e] at e2
    exact .inr ⟨φ, e2⟩
  rcases List.mem_cons.mp hx with e | hx
  · have := S.la.ls
    rw [← e, ho] at this
    cases this
    exact .inl ⟨_, rfl⟩
  · obtain ⟨ys, h⟩ := Bk.lists S.k1 x (List.mem_cons_of_mem _ hx)
    rw [ho] at h
    cases h
    exact .inl ⟨_, rfl⟩
theorem soft_one {p : Addr} {ys : List V} (h : H p = some (.lst ys)) : Soft H [p] := fun x hx o ho => by
  rw [List.mem_singleton.mp hx, h] at ho
  cases ho
  exact .inl ⟨_, rfl⟩
theorem Two.tb (S : Two c H0 H L d l keep b1 b2 ths xs n t) (hn : n ≤ 1024) : TB c H L b1 b2 ths :=
  ⟨S.k1.ba, S.k2.ba, S.k1.iv, S.k2.iv, S.la.nd, let ⟨dx, h⟩ := S.la.ob; ⟨dx, _, h⟩, Nat.le_trans S.n1 hn, Nat.le_trans S.n2 hn⟩
/-- a list beside is changed -/
theorem Two.side (T : TxK K c) (S : Two c H0 H L d l keep b1 b2 ths xs n t) {p : Addr} (hp : p ∈ keep) (f : H0 p = none) {ys : List V} (h : H p = some (.lst ys)) (o : HO) : Two c H0 (upd H p o) L d l keep b1 b2 ths xs n t := by
  have no := (S.kp p hp).2
  have k : Kp [p] H (upd H p o) := Kp.refl.set (by simp)
  have nB : ∀ {b : BR}, b.At c H L d l ths → b.B ∉ [p] := fun {b} k z => by
    obtain ⟨dx, h2⟩ := k.ba.ob
    rw [List.mem_singleton.mp z, h] at h2
    cases h2
  refine ⟨S.la.kp T k fun x hx => ?_, Bk.kp S.k1 k (List.prefix_refl _) (fun x hx z => ?_) (nB S.k1), Bk.kp S.k2 k (List.prefix_refl _) (fun x hx z => ?_) (nB S.k2), S.dis, ex_mut S.ex f, S.fr, fun x hx => ⟨?_, (S.kp x hx).2⟩, S.n1, S.n2, S.ht⟩
  · rw [List.mem_singleton.mp hx]
    refine ⟨fun e => no (.inl e), fun e => no (.inr (.inl e)), fun o ho => ?_⟩
    rw [h] at ho
    cases ho
    exact ⟨_, rfl⟩
  · rw [List.mem_singleton.mp hx] at z
    exact no (.inr (.inr (.inl z)))
  · rw [List.mem_singleton.mp hx] at z
    exact no (.inr (.inr (.inr z)))
  · by_cases e : x = p
    · rw [e]; exact ⟨_, upd_same⟩
    · rw [upd_ne e]; exact (S.kp x hx).1
/-- what a deed of the first book brings, by the rows -/
theorem Two.deedR (T : TxK K c) {lvs' : List Addr} {rows' : List Str} {levels' : List (List Nat)} {n' : Nat} (S : Two c H0 H L d l keep b1 b2 ths xs n t) (h1 : LedgerAt c H' L d l ths' xs') (h2 : Bk c H' L d l ths' b1.B b1.ln b1.lv lvs' b1.a rows' levels')
    (h3 : Kp (b1.a :: fpS d l b1.ln b1.lv b1.lvs) H H') (h4 : Wider H b1.lvs lvs') (h5 : ths <+: ths') (h6 : ths'.length ≤ ths.length + 18) (hn : n ≤ n') (h7 : rows'.length ≤ n') :
    Two c H0 H' L d l keep ⟨b1.B, b1.ln, b1.lv, b1.a, lvs', rows', levels'⟩ b2 ths' xs' n' (t + 18) := by
  have key : ∀ x ∈ (⟨b1.B, b1.ln, b1.lv, b1.a, lvs', rows', levels'⟩ : BR).fp, x ∈ b1.fp ∨ H x = none := fun x hx => by
    rcases List.mem_cons.mp hx with e | hx
    · exact .inl (by rw [e]; exact List.mem_cons_self)
    rcases List.mem_cons.mp hx with e | hx
    · exact .inl (by rw [e]; exact List.mem_cons_of_mem _ List.mem_cons_self)
    rcases List.mem_cons.mp hx with e | hx
    · exact .inl (by rw [e]; exact List.mem_cons_of_mem _ (List.mem_cons_of_mem _ List.mem_cons_self))
    rcases h4.2 x hx with r | r
    · exact .inl (List.mem_cons_of_mem _ (List.mem_cons_of_mem _ (List.mem_cons_of_mem _ r)))
    · exact .inr r
  have mem1 : ∀ x ∈ b1.a :: fpS d l b1.ln b1.lv b1.lvs, x = d ∨ x = l ∨ x ∈ b1.fp := fun x z => by
    rcases List.mem_cons.mp z with e | z
    · exact .inr (.inr (by rw [e]; exact List.mem_cons_self))
    rcases List.mem_cons.mp z with e | z
    · exact .inl e
    rcases List.mem_cons.mp z with e | z
    · exact .inr (.inl e)
    · exact .inr (.inr (List.mem_cons_of_mem _ z))
  have nd2 := S.k2.nd
  rw [List.nodup_cons, List.nodup_cons, List.nodup_cons] at nd2
  have o2 : b2.At c H' L d l ths' := Bk.kp S.k2 h3 h5 (fun x hx z => by
    rcases mem1 x hx with e | e | e
    · rcases List.mem_cons.mp z with r | r
      · exact nd2.1 (by rw [← r, e]; simp)
      · exact nd2.2.1 (by rw [← e]; exact List.mem_cons_of_mem _ r)
    · rcases List.mem_cons.mp z with r | r
      · exact nd2.1 (by rw [← r, e]; simp)
      · exact nd2.2.2.1 (by rw [← e]; exact r)
    · exact S.dis x e z) (Bk.notB T S.k2 S.la fun x hx => by
    rcases mem1 x hx with e | e | e
    · exact .inr e
    · rw [e]; exact .inl ⟨_, S.la.ls⟩
    · exact .inl (Bk.lists S.k1 x e))
  have hn2 := S.n2
  have ht := S.ht
  refine ⟨h1, h2, o2, fun x hx z => ?_, ex_of_kp S.ex (fun x hx => ?_) h3, fun x hx => ?_, fun x hx => ⟨let ⟨_, h⟩ := (S.kp x hx).1; ⟨_, S.keeps h3 hx h⟩, fun z => ?_⟩, h7, by omega, by omega⟩
  · rcases key x hx with r | r
    · exact S.dis x r z
    · obtain ⟨ys, h⟩ := Bk.lists S.k2 x z
      rw [r] at h; cases h
  · rcases mem1 x hx with e | e | e
    · exact S.fr x (.inl e)
    · exact S.fr x (.inr (.inl e))
    · exact S.fr x (.inr (.inr (.inl e)))
  · rcases hx with e | e | e | e
    · exact S.fr x (.inl e)
    · exact S.fr x (.inr (.inl e))
    · rcases key x e with r | r
      · exact S.fr x (.inr (.inr (.inl r)))
      · exact ex_free S.ex r
    · exact S.fr x (.inr (.inr (.inr e)))
  · obtain ⟨o, h⟩ := (S.kp x hx).1
    rcases z with e | e | e | e
    · exact (S.kp x hx).2 (.inl e)
    · exact (S.kp x hx).2 (.inr (.inl e))
    · rcases key x e with r | r
      · exact (S.kp x hx).2 (.inr (.inr (.inl r)))
      · rw [h] at r; cases r
    · exact (S.kp x hx).2 (.inr (.inr (.inr e)))
/-- the rows kept beside have changed first, now the book's -/
theorem Two.putK (T : TxK K c) (S : Two c H0 H L d l keep b1 b2 ths xs n t) (hn : n ≤ 1024) (hz : t < 800000) {place : Nat} {z : Str} (hp : place < b1.rows.length) (hg : Good z) {Q : Hp → Prop} {E : XK}
    (q : ∀ H' (b : BR) ths' xs', b.B = b1.B → b.a = b1.a → b.rows = b1.rows.set place z → Two c H0 H' L d l keep b b2 ths' xs' n (t + 18) → Kp (b1.a :: fpS d l b1.ln b1.lv b1.lvs) H H' → Q H') :
    sp_Book_put K c [.ref b1.B, .int (place : Nat), .str z] (upd H b1.a (.lst ((b1.rows.map V.str).set place (.str z)))) (fun _ H' => Q H') E := by
  have na := Bk.na S.k1
  have k0 : Kp [b1.a] H (upd H b1.a (.lst ((b1.rows.map V.str).set place (.str z)))) := Kp.refl.set (by simp)
  have hup : (upd H b1.a (.lst ((b1.rows.map V.str).set place (.str z)))) b1.a = some (.lst ((b1.rows.set place z).map V.str)) := by rw [upd_same, List.map_set]
  have L1 : LedgerAt c (upd H b1.a (.lst ((b1.rows.map V.str).set place (.str z)))) L d l ths xs := S.la.kp T k0 fun x hx => by
    rw [List.mem_singleton.mp hx]
    refine ⟨fun e => na (by rw [e]; simp), fun e => na (by rw [e]; simp), fun o ho => ?_⟩
    have := S.k1.kept
    rw [ho] at this
    cases this
    exact ⟨_, rfl⟩
  have B1 : b1.Bo c (upd H b1.a (.lst ((b1.rows.map V.str).set place (.str z)))) L := BookAt.kp S.k1.ba k0 (fun x hx h => by
    rw [List.mem_singleton.mp hx] at h
    exact na (List.mem_cons_of_mem _ (List.mem_cons_of_mem _ h))) fun h => Bk.nB S.k1 (List.mem_singleton.mp h)
  generalize upd H b1.a (.lst ((b1.rows.map V.str).set place (.str z))) = H1 at k0 L1 B1 hup
  have hn1 := S.n1
  have ht := S.ht
  refine ⟨b1.B, L, d, l, b1.ln, b1.lv, b1.lvs, ths, xs, b1.rows, b1.levels, _, _, true, rfl, ⟨L1, B1, (List.nodup_cons.mp S.k1.nd).2⟩, S.k1.iv, .inl ⟨_, rfl, rfl⟩, rowV_good hg, by omega, by omega, fun n => absurd ⟨place, rfl, hp⟩ n, fun _ n => absurd ⟨z, rfl, hg⟩ n, ?_⟩
  intro place' z' e1 e2 _ _ H' xs' S' I' bc k
  have e1 : place' = place := by have := V.int.inj e1; omega
  cases e2
  subst e1
  have low := bc.low (by omega)
  have gl := putM_len (ths := ths) (levels := b1.levels) (place := place') (z := z)
  have kk : Kp (b1.a :: fpS d l b1.ln b1.lv b1.lvs) H H' := (k0.mono fun x hx => by rw [List.mem_singleton.mp hx]; simp).trans (k.mono fun x hx => List.mem_cons_of_mem _ hx)
  refine q H' ⟨b1.B, b1.ln, b1.lv, b1.a, b1.lvs, b1.rows.set place' z, (putM ths b1.levels place' z).2.1⟩ (putM ths b1.levels place' z).1 xs' rfl rfl rfl (S.deedR T S'.la ⟨S'.ba, I', k _ _ hup na, S.k1.nd, fun x hx => ?_⟩ kk wider_refl putM_pre (by omega) (Nat.le_refl _) (by rw [List.length_set]; omega)) kk
  rcases List.mem_or_eq_of_mem_set hx with r | r
  · exact S.k1.good x r
  · rw [r]; exact hg
/-- a put that the rows kept beside are not told of -/
theorem Two.putT (T : TxK K c) (S : Two c H0 H L d l keep b1 b2 ths xs n t) (hn : n ≤ 1024) (hz : t < 800000) {place : Nat} {z : Str} (hp : place < b1.rows.length) (hg : Good z) {Q : Hp → Prop} {E : XK}
    (q : ∀ H' (b : BR) ths', b.B = b1.B → b.rows = b1.rows.set place z → TB c H' L b b2 ths' → Kp (b1.a :: fpS d l b1.ln b1.lv b1.lvs) H H' → Q H') :
    sp_Book_put K c [.ref b1.B, .int (place : Nat), .str z] H (fun _ H' => Q H') E := by
  have hn1 := S.n1
  have hn2 := S.n2
  have ht := S.ht
  refine ⟨b1.B, L, d, l, b1.ln, b1.lv, b1.lvs, ths, xs, b1.rows, b1.levels, _, _, true, rfl, Bk.bs S.k1 S.la, S.k1.iv, .inl ⟨_, rfl, rfl⟩, rowV_good hg, by omega, by omega, fun n => absurd ⟨place, rfl, hp⟩ n, fun _ n => absurd ⟨z, rfl, hg⟩ n, ?_⟩
  intro place' z' e1 e2 _ _ H' xs' S' I' bc k
  have e1 : place' = place := by have := V.int.inj e1; omega
  cases e2
  subst e1
  have low := bc.low (by omega)
  have gl := putM_len (ths := ths) (levels := b1.levels) (place := place') (z := z)
  -- as though the rows beside were told
  obtain ⟨_, u1, u2, u3⟩ := Bk.step T S.k1 S' I' wider_refl k fun x hx => by
    rcases List.mem_or_eq_of_mem_set hx with r | r
    · exact S.k1.good x r
    · rw [r]; exact hg
  have W := S.deedR T (n' := n) u1 u2 u3 wider_refl putM_pre (by omega) (Nat.le_refl _) (by rw [List.length_set]; omega)
  have k2 : Kp (b1.a :: fpS d l b1.ln b1.lv b1.lvs) H H' := k.mono fun x hx => List.mem_cons_of_mem _ hx
  -- the second book
  have nd2 := S.k2.nd
  rw [List.nodup_cons, List.nodup_cons, List.nodup_cons] at nd2
  have a2 : b2.Bo c H' L := BookAt.kp S.k2.ba k2 (fun x hx z => by
    rcases List.mem_cons.mp hx with e | hx
    · exact S.dis x (by rw [e]; exact List.mem_cons_self) (List.mem_cons_of_mem _ z)
    rcases List.mem_cons.mp hx with e | hx
    · exact nd2.2.1 (by rw [← e]; exact List.mem_cons_of_mem _ z)
    rcases List.mem_cons.mp hx with e | hx
    · exact nd2.2.2.1 (by rw [← e]; exact z)
    · exact S.dis x (List.mem_cons_of_mem _ hx) (List.mem_cons_of_mem _ z)) (Bk.notB T S.k2 S.la fun x hx => by
    rcases List.mem_cons.mp hx with e | hx
    · rw [e]; exact .inl ⟨_, S.k1.kept⟩
    rcases List.mem_cons.mp hx with e | hx
    · exact .inr e
    rcases List.mem_cons.mp hx with e | hx
    · rw [e]; exact .inl ⟨_, S.la.ls⟩
    · exact .inl (Bk.lists S.k1 x (List.mem_cons_of_mem _ hx)))
  exact q H' ⟨b1.B, b1.ln, b1.lv, b1.a, b1.lvs, b1.rows.set place' z, (putM ths b1.levels place' z).2.1⟩ (putM ths b1.levels place' z).1 rfl rfl ⟨S'.ba, a2, I', S.k2.iv.mono putM_pre, S'.la.nd, let ⟨dx, h⟩ := S'.la.ob; ⟨dx, _, h⟩, by show (b1.rows.set place' z).length ≤ 1024; rw [List.length_set]; omega, by omega⟩ k2
end
/-! looks are as they are told with the books exchanged -/
theorem alk_comm (r1 r2 : List Str) (h j : Nat) : alk r1 r2 h j = alk r2 r1 h j := by unfold alk; rw [decide_eq_decide]; exact eq_comm
theorem firstIn_comm (r1 r2 : List Str) : ∀ h j, firstIn r1 r2 h j = firstIn r2 r1 h j
  | 0, _ => rfl
  | h + 1, j => by
    show ((h, 2 * j, alk r1 r2 h (2 * j)) :: (firstIn r1 r2 h _).1, (firstIn r1 r2 h _).2) = ((h, 2 * j, alk r2 r1 h (2 * j)) :: (firstIn r2 r1 h _).1, (firstIn r2 r1 h _).2)
    rw [alk_comm, firstIn_comm r1 r2 h]
theorem firstM_comm (r1 r2 : List Str) : ∀ ps, firstM r1 r2 ps = firstM r2 r1 ps
  | [] => rfl
  | (h, j) :: ps => by
    show (if alk r1 r2 h j = true then _ else _) = (if alk r2 r1 h j = true then _ else _)
    rw [alk_comm, firstM_comm r1 r2 ps, firstIn_comm]
theorem firstR_comm (r1 r2 : List Str) : firstR r1 r2 = firstR r2 r1 := by
  unfold firstR
  rw [firstM_comm, Nat.min_comm]
  congr 1
  split
  · rfl
  · by_cases e : r1.length = r2.length
    · rw [if_pos e, if_pos e.symm]
    · rw [if_neg e, if_neg (Ne.symm e)]
end Tw

namespace Tw
open PySem L2 Ts Mix
theorem dp_strs {K : PySem.W.Frag} {H : Hp} {p : Addr} {rs : List Str} (h : H p = some (.lst (rs.map V.str))) : Dp K H (.ref p) ((eList eStr).enc rs) := .lst (sql h) (dpAll_strs _)
theorem sh_strs {rs : List Str} (g : ∀ z ∈ rs, Good z) : SeqAt.shaped ((eList eStr).enc rs) = true := (eList eStr).shaped (by decide) rs fun z hz => good_ok (g z hz)
theorem blk_good {rs : List Str} (g : ∀ z ∈ rs, Good z) (h j : Nat) : ∀ z ∈ blk rs h j, Good z := fun z hz => g z (List.mem_of_mem_drop (List.mem_of_mem_take hz))
end Tw

namespace Tw
open PySem L2 Ts Mix
theorem firstM_len (r1 r2 : List Str) : ∀ ps : List (Nat × Nat), (∀ p ∈ ps, p.1 ≤ 10) → (firstM r1 r2 ps).1.length ≤ ps.length + 10
  | [], _ => Nat.zero_le _
  | (h, j) :: ps, hp => by
    have h1 : h ≤ 10 := hp (h, j) List.mem_cons_self
    have h2 := firstM_len r1 r2 ps fun p m => hp p (List.mem_cons_of_mem _ m)
    show (if alk r1 r2 h j = true then ((h, j, true) :: (firstM r1 r2 ps).1, (firstM r1 r2 ps).2) else ((h, j, false) :: (firstIn r1 r2 h j).1, some (firstIn r1 r2 h j).2)).1.length ≤ ps.length + 1 + 10
    split
    · show (firstM r1 r2 ps).1.length + 1 ≤ _
      omega
    · show (firstIn r1 r2 h j).1.length + 1 ≤ _
      rw [firstIn_len]
      omega
theorem firstR_len {r1 r2 : List Str} (h : r1.length ≤ 1024) : (firstR r1 r2).1.length ≤ 21 := by
  have h1 := firstM_len r1 r2 (parts (min r1.length r2.length)) fun p hp => ht_le (parts_le hp) (by omega)
  have h2 := parts_length (n := min r1.length r2.length) (by omega)
  show (firstM r1 r2 (parts (min r1.length r2.length))).1.length ≤ 21
  omega
section
variable {K : PySem.W.Frag} {c : Cs} {H0 H H' : Hp} {L d l : Addr} {keep : List Addr} {b1 b2 : BR} {ths ths' : List MK} {xs xs' : List V} {n t : Nat}
theorem Two.more2 {p q : Addr} (S : Two c H0 H L d l keep b1 b2 ths xs n t) (hp : H p = none) (hq : H q = none) (e : Ex H H') (hp' : ∃ o, H' p = some o) (hq' : ∃ o, H' q = some o) : Two c H0 H' L d l (p :: q :: keep) b1 b2 ths xs n t := by
  have S1 := S.more hp e hp'
  have S2 := S.more hq e hq'
  refine ⟨S1.la, S1.k1, S1.k2, S1.dis, S1.ex, S1.fr, fun x hx => ?_, S1.n1, S1.n2, S1.ht⟩
  rcases List.mem_cons.mp hx with r | hx
  · rw [r]; exact S1.kp p List.mem_cons_self
  · exact S2.kp x hx
theorem Two.notK {x : Addr} (S : Two c H0 H L d l keep b1 b2 ths xs n t) (hx : x ∈ keep) : x ∉ b1.a :: fpS d l b1.ln b1.lv b1.lvs := fun z => (S.kp x hx).2 (by
  rcases List.mem_cons.mp z with e | z
  · exact .inr (.inr (.inl (by rw [e]; exact List.mem_cons_self)))
  rcases List.mem_cons.mp z with e | z
  · exact .inl e
  rcases List.mem_cons.mp z with e | z
  · exact .inr (.inl e)
  · exact .inr (.inr (.inl (List.mem_cons_of_mem _ z))))
end
end Tw

namespace Tw
open PySem L2 Ts Mix
/-! lists of whole numbers -/
def numsV (l : List Nat) : List V := l.map fun n : Nat => V.int n
theorem numsV_len {l : List Nat} : (numsV l).length = l.length := List.length_map _
theorem numsV_app {l m : List Nat} : numsV (l ++ m) = numsV l ++ numsV m := List.map_append
theorem numsV_dp {K : PySem.W.Frag} {H : Hp} : ∀ l : List Nat, DpAll K H (numsV l) (l.map eNat.enc)
  | [] => .nil
  | _ :: l => .cons (.int _) (numsV_dp l)
theorem numsV_int {l : List Nat} : numsV l = (l.map fun n : Nat => (n : Int)).map V.int := by
  unfold numsV
  rw [List.map_map]
  rfl
theorem rgV_nat {a b : Nat} : rgV (a : Nat) (b : Nat) = numsV ((List.range (b - a)).map fun x => a + x) := by
  unfold rgV numsV
  rw [List.map_map, show ((b : Int) - (a : Int)).toNat = b - a by omega]
  refine List.map_congr_left fun x _ => ?_
  show V.int _ = V.int _
  congr 1
theorem rgV_zero {b : Nat} : rgV 0 (b : Nat) = numsV (List.range b) := by
  have h := rgV_nat (a := 0) (b := b)
  rw [show ((0 : Nat) : Int) = 0 from rfl] at h
  rw [h, Nat.sub_zero]
  congr 1
  conv => rhs; rw [← List.map_id (List.range b)]
  exact List.map_congr_left fun x _ => Nat.zero_add x
theorem numsV_more {a b : Nat} (h : a ≤ b) : numsV (List.range a) ++ rgV (a : Nat) (b : Nat) = numsV (List.range b) := by
  rw [rgV_nat, ← numsV_app, ← List.range_add, show a + (b - a) = b by omega]
theorem rgOk {a b : Nat} (ha : a ≤ 100000) (hb : b ≤ 100000) : RgOk (a : Nat) (b : Nat) := ⟨by omega, by omega, by omega, by omega, by omega⟩
theorem rgOk0 {b : Nat} (hb : b ≤ 100000) : RgOk 0 (b : Nat) := ⟨by omega, by omega, by omega, by omega, by omega⟩
/-- numbers that rise are left as they are -/
theorem sorted_range {k : Nat} {ns : List Int} (p : ns.Perm ((List.range k).map fun n : Nat => (n : Int))) (w : ns.Pairwise (· ≤ ·)) : ns.map V.int = numsV (List.range k) := by
  have e : ns = (List.range k).map fun n : Nat => (n : Int) := by
    refine List.Perm.eq_of_pairwise (le := fun x y : Int => x ≤ y) (fun a b _ _ h1 h2 => by omega) w ?_ p
    rw [List.pairwise_map]
    exact List.pairwise_lt_range.imp fun h => by omega
  rw [e, numsV_int]
theorem numsV_flat (l : List Nat) : (numsV l).all flatV = true := by
  rw [List.all_eq_true]
  intro x hx
  obtain ⟨n, _, rfl⟩ := List.mem_map.mp hx
  rfl
theorem numsV_in (m : Nat) (l : List Nat) : inV (.int (m : Nat)) (numsV l) = decide (m ∈ l) := by
  unfold inV numsV
  rw [List.any_map, Bool.eq_iff_iff, List.any_eq_true, decide_eq_true_iff]
  constructor
  · rintro ⟨x, hx, e⟩
    have e : (((x : Nat) : Int) == ((m : Nat) : Int)) = true := e
    have := eq_of_beq e
    rw [show m = x by omega]
    exact hx
  · intro h
    exact ⟨m, h, beq_self_eq_true (α := Int) _⟩
end Tw

namespace Tw
open PySem L2 Ts Mix
/-! ### all places -/
def allIn (r1 r2 : List Str) : Nat → Nat → List Look × List Nat
  | 0, j => ([], [j])
  | h + 1, j => if alk r1 r2 h (2 * j) = true then ((h, 2 * j, true) :: (allIn r1 r2 h (2 * j + 1)).1, (allIn r1 r2 h (2 * j + 1)).2)
    else if alk r1 r2 h (2 * j + 1) = true then ((h, 2 * j, false) :: ((allIn r1 r2 h (2 * j)).1 ++ [(h, 2 * j + 1, true)]), (allIn r1 r2 h (2 * j)).2)
    else ((h, 2 * j, false) :: ((allIn r1 r2 h (2 * j)).1 ++ (h, 2 * j + 1, false) :: (allIn r1 r2 h (2 * j + 1)).1), (allIn r1 r2 h (2 * j)).2 ++ (allIn r1 r2 h (2 * j + 1)).2)
section
variable {r1 r2 : List Str} {h j : Nat}
theorem allIn_0 : allIn r1 r2 0 j = ([], [j]) := rfl
theorem allIn_t (a : alk r1 r2 h (2 * j) = true) : allIn r1 r2 (h + 1) j = ((h, 2 * j, true) :: (allIn r1 r2 h (2 * j + 1)).1, (allIn r1 r2 h (2 * j + 1)).2) := by
  show (if alk r1 r2 h (2 * j) = true then _ else _) = _
  rw [if_pos a]
theorem allIn_ft (a : alk r1 r2 h (2 * j) = false) (b : alk r1 r2 h (2 * j + 1) = true) : allIn r1 r2 (h + 1) j = ((h, 2 * j, false) :: ((allIn r1 r2 h (2 * j)).1 ++ [(h, 2 * j + 1, true)]), (allIn r1 r2 h (2 * j)).2) := by
  show (if alk r1 r2 h (2 * j) = true then _ else if alk r1 r2 h (2 * j + 1) = true then _ else _) = _
  rw [if_neg (by rw [a]; exact Bool.false_ne_true), if_pos b]
theorem allIn_ff (a : alk r1 r2 h (2 * j) = false) (b : alk r1 r2 h (2 * j + 1) = false) : allIn r1 r2 (h + 1) j = ((h, 2 * j, false) :: ((allIn r1 r2 h (2 * j)).1 ++ (h, 2 * j + 1, false) :: (allIn r1 r2 h (2 * j + 1)).1), (allIn r1 r2 h (2 * j)).2 ++ (allIn r1 r2 h (2 * j + 1)).2) := by
  show (if alk r1 r2 h (2 * j) = true then _ else if alk r1 r2 h (2 * j + 1) = true then _ else _) = _
  rw [if_neg (by rw [a]; exact Bool.false_ne_true), if_neg (by rw [b]; exact Bool.false_ne_true)]
theorem allIn_len : ∀ (h j : Nat), (allIn r1 r2 h j).1.length + 2 ≤ 2 * 2 ^ h ∧ (allIn r1 r2 h j).2.length ≤ 2 ^ h
  | 0, j => by rw [allIn_0]; simp
  | h + 1, j => by
    obtain ⟨a1, a2⟩ := allIn_len h (2 * j)
    obtain ⟨b1, b2⟩ := allIn_len h (2 * j + 1)
    have p := Nat.two_pow_pos h
    rw [Nat.pow_succ]
    cases ea : alk r1 r2 h (2 * j) with
    | true =>
      rw [allIn_t ea]
      simp only [List.length_cons]
      omega
    | false =>
      cases eb : alk r1 r2 h (2 * j + 1) with
      | true =>
        rw [allIn_ft ea eb]
        simp only [List.length_cons, List.length_append, List.length_nil]
        omega
      | false =>
        rw [allIn_ff ea eb]
        simp only [List.length_cons, List.length_append]
        omega
end
def allM (r1 r2 : List Str) : List (Nat × Nat) → List Look × List Nat
  | [] => ([], [])
  | (h, j) :: ps => if alk r1 r2 h j = true then ((h, j, true) :: (allM r1 r2 ps).1, (allM r1 r2 ps).2)
    else ((h, j, false) :: ((allIn r1 r2 h j).1 ++ (allM r1 r2 ps).1), (allIn r1 r2 h j).2 ++ (allM r1 r2 ps).2)
def allR (r1 r2 : List Str) : List Look × List Nat := allM r1 r2 (parts (min r1.length r2.length))
section
variable {r1 r2 : List Str} {h j : Nat} {ps : List (Nat × Nat)}
theorem allM_t (a : alk r1 r2 h j = true) : allM r1 r2 ((h, j) :: ps) = ((h, j, true) :: (allM r1 r2 ps).1, (allM r1 r2 ps).2) := by
  show (if alk r1 r2 h j = true then _ else _) = _
  rw [if_pos a]
theorem allM_f (a : alk r1 r2 h j = false) : allM r1 r2 ((h, j) :: ps) = ((h, j, false) :: ((allIn r1 r2 h j).1 ++ (allM r1 r2 ps).1), (allIn r1 r2 h j).2 ++ (allM r1 r2 ps).2) := by
  show (if alk r1 r2 h j = true then _ else _) = _
  rw [if_neg (by rw [a]; exact Bool.false_ne_true)]
theorem pow10 {h : Nat} (hh : h ≤ 10) : 2 ^ h ≤ 1024 := Nat.le_trans (Nat.pow_le_pow_right (by decide) hh) (by decide)
theorem allM_len : ∀ ps : List (Nat × Nat), (∀ p ∈ ps, p.1 ≤ 10) → (allM r1 r2 ps).1.length ≤ ps.length * 2049 ∧ (allM r1 r2 ps).2.length ≤ ps.length * 1024
  | [], _ => ⟨Nat.zero_le _, Nat.zero_le _⟩
  | (h, j) :: ps, hp => by
    have h1 : 2 ^ h ≤ 1024 := pow10 (hp (h, j) List.mem_cons_self)
    obtain ⟨c1, c2⟩ := allM_len ps fun p m => hp p (List.mem_cons_of_mem _ m)
    obtain ⟨a1, a2⟩ := allIn_len (r1 := r1) (r2 := r2) h j
    rw [List.length_cons, Nat.add_mul, Nat.add_mul]
    cases ea : alk r1 r2 h j with
    | true =>
      rw [allM_t ea]
      simp only [List.length_cons]
      omega
    | false =>
      rw [allM_f ea]
      simp only [List.length_cons, List.length_append]
      omega
theorem allR_len (hn : r1.length ≤ 1024) : (allR r1 r2).1.length ≤ 22539 ∧ (allR r1 r2).2.length ≤ 11264 := by
  have h1 := allM_len (r1 := r1) (r2 := r2) (parts (min r1.length r2.length)) fun p hp => ht_le (parts_le hp) (by omega)
  have h2 := parts_length (n := min r1.length r2.length) (by omega)
  unfold allR
  have m1 := Nat.mul_le_mul_right 2049 h2
  have m2 := Nat.mul_le_mul_right 1024 h2
  omega
end
theorem allIn_comm (r1 r2 : List Str) : ∀ h j, allIn r1 r2 h j = allIn r2 r1 h j
  | 0, _ => rfl
  | h + 1, j => by
    have i1 := allIn_comm r1 r2 h (2 * j)
    have i2 := allIn_comm r1 r2 h (2 * j + 1)
    unfold allIn
    rw [i1, i2, alk_comm r1 r2 h (2 * j), alk_comm r1 r2 h (2 * j + 1)]
theorem allM_comm (r1 r2 : List Str) : ∀ ps, allM r1 r2 ps = allM r2 r1 ps
  | [] => rfl
  | (h, j) :: ps => by
    have i1 := allM_comm r1 r2 ps
    unfold allM
    rw [i1, allIn_comm r1 r2, alk_comm r1 r2 h j]
theorem allR_comm (r1 r2 : List Str) : allR r1 r2 = allR r2 r1 := by
  unfold allR
  rw [allM_comm, Nat.min_comm]
def sp_Looker_all_in : Nat → PySem.W.Frag → Cs → Sp
  | 0, _, _ => fun _ _ _ _ => False
  | n + 1, K, c => fun vs H Q _ => ∃ (L p lk : Addr) (b1 b2 : BR) (ths : List MK) (ds : List Look) (h j : Nat), vs = [.ref p, .int (h : Nat), .int (j : Nat)] ∧ LS K c H L p lk b1 b2 ths ds ∧ (j + 1) * 2 ^ h ≤ b1.rows.length ∧ (j + 1) * 2 ^ h ≤ b2.rows.length ∧ h ≤ n ∧ ds.length + 2 * 2 ^ h < 100000 ∧
  ∀ H' q, LS K c H' L p lk b1 b2 ths (ds ++ (allIn b1.rows b2.rows h j).1) → Ex (hid lk H) (hid lk H') → q ≠ lk → H q = none → H' q = some (.lst (numsV (allIn b1.rows b2.rows h j).2)) → Q (.ref q) H'
def N_Looker_all_in : List Str := ["self", "height", "number", "found", "left"]
def t_Looker_all_in (n : Nat) (K : PySem.W.Frag) (c : Cs) (E : XK) : TS := (tSeq (tIfS (tTest (tOp (rEqU K) (tVar 1) (tC (.int 0)))) (tRet (tLst (tCons (tVar 2) tNil))) tNext)
  (tSeq (tAsg (tLst tNil) (gName 3))
  (tSeq (tAsg (tMeth c.Looker "are_alike" (sp_Looker_are_alike K c) [] E0 (tVar 0) (tCons (tOp rSubI (tVar 1) (tC (.int 1))) (tCons (tOp rMul (tC (.int 2)) (tVar 2)) tNil))) (gName 4))
  (tSeq (tIfS (tNot (tB (tVar 4))) (tAsg (tMeth c.Looker "all_in" (sp_Looker_all_in n K c) [] E0 (tVar 0) (tCons (tOp rSubI (tVar 1) (tC (.int 1))) (tCons (tOp rMul (tC (.int 2)) (tVar 2)) tNil))) (gName 3)) tNext)
  (tSeq (tIfS (tOr (tB (tVar 4)) (tNot (tB (tMeth c.Looker "are_alike" (sp_Looker_are_alike K c) [] E0 (tVar 0) (tCons (tOp rSubI (tVar 1) (tC (.int 1))) (tCons (tOp rAddU (tOp rMul (tC (.int 2)) (tVar 2)) (tC (.int 1))) tNil)))))) (tAsg (tOp rAddU (tVar 3) (tMeth c.Looker "all_in" (sp_Looker_all_in n K c) [] E0 (tVar 0) (tCons (tOp rSubI (tVar 1) (tC (.int 1))) (tCons (tOp rAddU (tOp rMul (tC (.int 2)) (tVar 2)) (tC (.int 1))) tNil)))) (gName 3)) tNext)
  (tRet (tVar 3)))))))
theorem len_Looker_all_in (n : Nat) {K c} : ∀ vs H Q E, sp_Looker_all_in n K c vs H Q E → vs.length = 3 := by
  cases n with
  | zero => intro vs H Q E h; exact h.elim
  | succ n => rintro vs H Q E ⟨_, _, _, _, _, _, _, _, _, rfl, _⟩; rfl
theorem pure_Looker_all_in (n : Nat) {K : PySem.W.Frag} {c : Cs} {vs : List V} {H : Hp} {Q : VK} {E : XK} (T : TxK K c) (g : sp_Looker_all_in (n + 1) K c vs H Q E) : t_Looker_all_in n K c E ⟨fun _ H' => Q .non H', Q, fun _ _ => False, fun _ _ => False⟩ (start N_Looker_all_in vs) H := by
  obtain ⟨L, p, lk, b1, b2, ths, ds, h, j, rfl, S, hb1, hb2, hn, hd, k⟩ := g
  show t_Looker_all_in n K c E _ [some (.ref p), some (.int (h : Nat)), some (.int (j : Nat)), none, none] H
  unfold t_Looker_all_in
  obtain ⟨l0, h00, _⟩ := S.ls
  walk_at "s"
  refine ite_d (fun h0 => ?_) fun h0 => ?_
  · have h0 : h = 0 := by omega
    subst h0
    walk_at "s"
    refine ⟨by show 1 ≤ sizeLine; exact sz100 (by decide), fun q hq => ?_⟩
    have nq : q ≠ lk := fun e => by rw [e, h00] at hq; cases hq
    refine k _ q ?_ (hid_mono (ex_new ex_refl hq)) nq hq upd_same
    rw [allIn_0, List.append_nil]
    exact S.ex (ex_new ex_refl hq)
  · obtain ⟨h, rfl⟩ : ∃ k, h = k + 1 := ⟨h - 1, by omega⟩
    obtain ⟨n, rfl⟩ : ∃ k, n = k + 1 := ⟨n - 1, by omega⟩
    have m1 : (2 * j + 1 + 1) * 2 ^ h = (j + 1) * 2 ^ (h + 1) := by rw [Nat.pow_succ, show 2 * j + 1 + 1 = (j + 1) * 2 by omega, Nat.mul_assoc, Nat.mul_comm 2]
    have m2 : (2 * j + 1) * 2 ^ h ≤ (2 * j + 1 + 1) * 2 ^ h := Nat.mul_le_mul_right _ (Nat.le_succ _)
    have pp := Nat.two_pow_pos h
    rw [Nat.pow_succ] at hd
    have i1 : ((h + 1 : Nat) : Int) - 1 = (h : Nat) := by push_cast; omega
    have i2 : (2 : Int) * (j : Nat) = ((2 * j : Nat) : Int) := by push_cast; rfl
    have i3 : ((2 * j : Nat) : Int) + 1 = ((2 * j + 1 : Nat) : Int) := by push_cast; rfl
    obtain ⟨a1, a2⟩ := allIn_len (r1 := b1.rows) (r2 := b2.rows) h (2 * j)
    obtain ⟨c1, c2⟩ := allIn_len (r1 := b1.rows) (r2 := b2.rows) h (2 * j + 1)
    walk_at "s"
    refine ⟨Nat.zero_le _, fun q0 hq0 => ?_⟩
    have nq0 : q0 ≠ lk := fun e => by rw [e, h00] at hq0; cases hq0
    have S1 := S.ex (ex_new (o := .lst []) ex_refl hq0)
    have e1 : Ex (hid lk H) (hid lk (upd H q0 (.lst []))) := hid_mono (ex_new ex_refl hq0)
    have g1 : (upd H q0 (.lst [])) q0 = some (.lst []) := upd_same
    generalize upd H q0 (.lst []) = H1 at S1 e1 g1
    obtain ⟨dx, hp⟩ := S1.ob'
    walk_at "s"
    refine w_methAt hp (lkfl_no (by decide +kernel) (by decide +kernel) (by decide +kernel)) ?_
    walk_at "s"
    rw [i1, i2]
    refine ⟨L, p, lk, b1, b2, ths, ds, h, 2 * j, rfl, S1, by omega, by omega, by omega, fun H2 S2 e2 => ?_⟩
    have g2 := ex_hid _ _ (e2 _ _ (hid_get g1 nq0))
    have e2 := e1.trans e2
    walk_at "s"
    -- the right half, told last
    have right : ∀ (H3 : Hp) (v4 : Option V) (ds' : List Look) (ns : List Nat) (q3 : Addr), LS K c H3 L p lk b1 b2 ths ds' → Ex (hid lk H) (hid lk H3) → q3 ≠ lk → H3 q3 = some (.lst (numsV ns)) → ns.length ≤ 2 ^ h → ds'.length + 2 * 2 ^ h < 100000 →
        ds' ++ (allIn b1.rows b2.rows h (2 * j + 1)).1 = ds ++ (allIn b1.rows b2.rows (h + 1) j).1 → ns ++ (allIn b1.rows b2.rows h (2 * j + 1)).2 = (allIn b1.rows b2.rows (h + 1) j).2 →
        tAsg (tOp rAddU (tVar 3) (tMeth c.Looker "all_in" (sp_Looker_all_in (n + 1) K c) [] E0 (tVar 0) (tCons (tOp rSubI (tVar 1) (tC (.int 1))) (tCons (tOp rAddU (tOp rMul (tC (.int 2)) (tVar 2)) (tC (.int 1))) tNil)))) (gName 3) ⟨fun σ' H' => tRet (tVar 3) ⟨fun _ H' => Q .non H', Q, fun _ _ => False, fun _ _ => False⟩ σ' H', Q, fun _ _ => False, fun _ _ => False⟩ [some (.ref p), some (.int ((h + 1 : Nat) : Int)), some (.int (j : Nat)), some (.ref q3), v4] H3 := by
      intro H3 v4 ds' ns q3 S3 e3 n3 g3 ln ld t1 t2
      obtain ⟨dx3, hp3⟩ := S3.ob'
      walk_at "s"
      refine w_methAt hp3 (lkfl_no (by decide +kernel) (by decide +kernel) (by decide +kernel)) ?_
      walk_at "s"
      rw [i1, i2, i3]
      refine ⟨L, p, lk, b1, b2, ths, ds', h, 2 * j + 1, rfl, S3, by omega, by omega, by omega, by omega, fun H4 q4 S4 e4 n4 _ g4 => ?_⟩
      have g3 := ex_hid _ _ (e4 _ _ (hid_get g3 n3))
      walk_at "s"
      refine w_addL g3 g4 (szM (by rw [numsV_len, numsV_len]; have := pow10 (h := h) (ht_le (n := 1024) (h := h) (j := 2 * j + 1) (by have := S3.tb.n1; omega) (by decide)); omega)) fun q5 hq5 => ?_
      obtain ⟨l4, h4, _⟩ := S4.ls
      have n5 : q5 ≠ lk := fun e => by rw [e, h4] at hq5; cases hq5
      have e5 : Ex (hid lk H) (hid lk (upd H4 q5 (.lst (numsV ns ++ numsV (allIn b1.rows b2.rows h (2 * j + 1)).2)))) := (e3.trans e4).trans (hid_mono (ex_new ex_refl hq5))
      walk_at "s"
      refine k _ q5 ?_ e5 n5 ?_ ?_
      · rw [← t1]; exact S4.ex (ex_new ex_refl hq5)
      · have := ex_free (e3.trans e4) (p := q5) (by rw [hid_ne n5]; exact hq5)
        rw [hid_ne n5] at this
        exact this
      · rw [upd_same, ← t2, numsV_app]
    refine ite_nb (fun hb => ?_) fun hb => ?_
    · rw [hb] at S2
      walk_at "s"
      obtain ⟨dx2, hp2⟩ := S2.ob'
      refine w_methAt hp2 (lkfl_no (by decide +kernel) (by decide +kernel) (by decide +kernel)) ?_
      walk_at "s"
      rw [i1, i2]
      refine ⟨L, p, lk, b1, b2, ths, _, h, 2 * j, rfl, S2, by omega, by omega, by omega, by rw [List.length_append]; simp; omega, fun H3 q3 S3 e3 n3 f3 g3 => ?_⟩
      walk_at "s"
      refine ite_b (fun z => absurd z (by rw [hb]; decide)) fun _ => ?_
      walk_at "s"
      obtain ⟨dx3, hp3⟩ := S3.ob'
      refine w_methAt hp3 (lkfl_no (by decide +kernel) (by decide +kernel) (by decide +kernel)) ?_
      walk_at "s"
      rw [i1, i2, i3]
      refine ⟨L, p, lk, b1, b2, ths, _, h, 2 * j + 1, rfl, S3, by omega, by omega, by rw [List.length_append, List.length_append]; simp; omega, fun H4 S4 e4 => ?_⟩
      have g4 := ex_hid _ _ (e4 _ _ (hid_get g3 n3))
      walk_at "s"
      refine ite_nb (fun hc => ?_) fun hc => ?_
      · rw [hc] at S4
        refine right H4 _ _ _ q3 S4 ((e2.trans e3).trans e4) n3 g4 a2 (by simp only [List.length_append, List.length_cons, List.length_nil]; omega) ?_ ?_
        · rw [allIn_ff hb hc]; simp
        · rw [allIn_ff hb hc]
      · rw [hc] at S4
        walk_at "s"
        refine k _ q3 ?_ ((e2.trans e3).trans e4) n3 ?_ ?_
        · rw [allIn_ft hb hc]
          simpa using S4
        · obtain ⟨l2, h2, _⟩ := S2.ls
          have := ex_free e2 (p := q3) (by rw [hid_ne n3]; exact f3)
          rw [hid_ne n3] at this
          exact this
        · rw [allIn_ft hb hc]; exact g4
    · rw [hb] at S2
      walk_at "s"
      refine ite_b (fun _ => ?_) fun z => absurd z (by rw [hb]; decide)
      refine right H2 _ _ [] q0 S2 e2 nq0 g2 (Nat.zero_le _) (by rw [List.length_append]; simp; omega) ?_ ?_
      · rw [allIn_t hb]; simp
      · rw [allIn_t hb]; rfl
/-- what is told: a tuple of two lists -/
structure All (K : PySem.W.Frag) (H H' : Hp) (t pl lk : Addr) (R : List Look × List Nat) : Prop where
  ex : Ex H (hid lk H')
  nl : H lk = none
  np : H pl = none
  nt : H t = none
  ne : pl ≠ lk
  ht : H' t = some (.tup [.ref pl, .ref lk])
  hp : H' pl = some (.lst (numsV R.2))
  ls : ∃ xs, H' lk = some (.lst xs) ∧ DpAll K (hid lk H') xs (R.1.map encL.enc)
theorem All.ex' {K : PySem.W.Frag} {H H' : Hp} {t pl lk : Addr} {R : List Look × List Nat} (F : All K H H' t pl lk R) : Ex H H' := fun b o h => ex_hid _ _ (F.ex b o h)
def N_all_unlike : List Str := ["one", "other", "looker", "found", "height", "number"]
def t_all_unlike (K : PySem.W.Frag) (c : Cs) (E : XK) : TS := (tSeq (tAsg (tMake c.Looker (sp_Looker_init K c) [] E (tCons (tVar 0) (tCons (tVar 1) tNil))) (gName 2))
  (tSeq (tAsg (tLst tNil) (gName 3))
  (tSeq (tFor (iList K (tCall (sp_parted K c) [] E (tCons (tMeth c.Looker "lesser" (sp_Looker_lesser K c) [] E (tVar 2) tNil) tNil))) (gTup K 2 (gCons (gName 4) (gCons (gName 5) gNil))) (tIfS (tNot (tB (tMeth c.Looker "are_alike" (sp_Looker_are_alike K c) [] E (tVar 2) (tCons (tVar 4) (tCons (tVar 5) tNil))))) (tAsg (tOp rAddU (tVar 3) (tMeth c.Looker "all_in" (sp_Looker_all_in 20 K c) [] E (tVar 2) (tCons (tVar 4) (tCons (tVar 5) tNil)))) (gName 3)) tNext))
  (tRet (tTup (tCons (tVar 3) (tCons (tFld K (tVar 2) "looks") tNil)))))))
def sp_all_unlike (K : PySem.W.Frag) (c : Cs) : Sp := fun vs H Q E => ∃ (b1 b2 : BR), vs = [.ref b1.B, .ref b2.B] ∧ ((∃ (L : Addr) (ths : List MK), TB c H L b1 b2 ths ∧ ∀ H' t pl lk, All K H H' t pl lk (allR b1.rows b2.rows) → Q (.ref t) H') ∨ Stranger c H b1 b2 E)
theorem len_all_unlike {K c} : ∀ vs H Q E, sp_all_unlike K c vs H Q E → vs.length = 2 := by rintro vs H Q E ⟨_, _, rfl, _⟩; rfl
theorem pure_all_unlike {K : PySem.W.Frag} {c : Cs} {vs : List V} {H : Hp} {Q : VK} {E : XK} (T : TxK K c) (g : sp_all_unlike K c vs H Q E) : t_all_unlike K c E ⟨fun _ H' => Q .non H', Q, fun _ _ => False, fun _ _ => False⟩ (start N_all_unlike vs) H := by
  obtain ⟨b1, b2, rfl, g⟩ := g
  rcases g with ⟨L, ths, tb, k⟩ | s
  case inr =>
    show t_all_unlike K c E _ [some (.ref b1.B), some (.ref b2.B), none, none, none, none] H
    unfold t_all_unlike
    walk_at "s"
    exact strange_looker s
  show t_all_unlike K c E _ [some (.ref b1.B), some (.ref b2.B), none, none, none, none] H
  unfold t_all_unlike
  walk_at "s"
  refine new_looker tb fun p lk H1 S1 ex1 fl fp => ?_
  have n1 := tb.n1
  have n2 := tb.n2
  walk_at "s"
  obtain ⟨l1, h1, _⟩ := S1.ls
  refine ⟨Nat.zero_le _, fun q0 hq0 => ?_⟩
  have nq0 : q0 ≠ lk := fun e => by rw [e, h1] at hq0; cases hq0
  have S2 := S1.ex (ex_new (o := .lst []) ex_refl hq0)
  have e2 : Ex H (hid lk (upd H1 q0 (.lst []))) := ex1.trans (hid_mono (ex_new ex_refl hq0))
  have g2 : (upd H1 q0 (.lst [])) q0 = some (.lst []) := upd_same
  have f0 : H q0 = none := ex_free ex1 (by rw [hid_ne nq0]; exact hq0)
  generalize upd H1 q0 (.lst []) = H2 at S2 e2 g2
  clear S1 ex1 h1 hq0
  obtain ⟨dx, hp⟩ := S2.ob'
  obtain ⟨l2, h2, _⟩ := S2.ls
  walk_at "s"
  refine w_methAt hp (lkfl_no (by decide +kernel) (by decide +kernel) (by decide +kernel)) ?_
  walk_at "s"
  refine ⟨L, p, lk, b1, b2, ths, [], rfl, S2, ?_⟩
  walk_at "s"
  have p29 : (2 : Nat) ^ 29 = 536870912 := by decide
  refine ⟨_, rfl, by omega, fun H3 q xs ex3 fq hq dq => ?_⟩
  have S3 := S2.ex ex3
  have g3 := ex3 _ _ g2
  have e3 := e2.trans (hid_mono ex3)
  have pl := parts_length (n := min b1.rows.length b2.rows.length) (by omega)
  have pin : ∀ h j, (h, j) ∈ parts (min b1.rows.length b2.rows.length) → (j + 1) * 2 ^ h ≤ min b1.rows.length b2.rows.length := fun h j hm => parts_le hm
  have eR : allR b1.rows b2.rows = allM b1.rows b2.rows (parts (min b1.rows.length b2.rows.length)) := rfl
  generalize parts (min b1.rows.length b2.rows.length) = ps at dq pl pin eR
  have hxl := dpAll_len dq
  rw [List.length_map] at hxl
  have nq : q ≠ lk := fun e => by rw [e, h2] at fq; cases fq
  obtain ⟨l3, h3, _⟩ := S3.ls
  have lh : ∀ p ∈ ps, p.1 ≤ 10 := fun (p : Nat × Nat) hp => @ht_le p.1 p.2 1024 (by have := pin p.1 p.2 hp; omega) (by decide)
  refine w_iLv (sql hq) (lb_list (K := K) (xs := xs) (fun i σ H' => ∃ (v4 v5 : Option V) (q3 : Addr) (ds : List Look) (ns : List Nat), σ = [some (.ref b1.B), some (.ref b2.B), some (.ref p), some (.ref q3), v4, v5] ∧ LS K c H' L p lk b1 b2 ths ds ∧ Ex (hid lk H3) (hid lk H') ∧
      ds.length ≤ i * 2049 ∧ ns.length ≤ i * 1024 ∧ q3 ≠ lk ∧ H q3 = none ∧ H' q3 = some (.lst (numsV ns)) ∧ ds ++ (allM b1.rows b2.rows (ps.drop i)).1 = (allM b1.rows b2.rows ps).1 ∧ ns ++ (allM b1.rows b2.rows (ps.drop i)).2 = (allM b1.rows b2.rows ps).2) ⟨_, _, q0, [], [], rfl, S3, ex_refl, Nat.zero_le _, Nat.zero_le _, nq0, f0, g3, rfl, rfl⟩ ?_ ?_ ?_)
  · rintro i σ H' _ ⟨_, _, _, _, _, _, _, e, _⟩
    exact sql (ex_hid _ _ (e _ _ (hid_get hq nq)))
  · rintro i x σ H4 hi ⟨v4, v5, q3, ds, ns, rfl, S4, e4, hd, hns, n3, f3, g4, t1, t2⟩
    obtain ⟨dd, hd1, hd2⟩ := dpAll_get dq hi
    rw [List.getElem?_map] at hd1
    obtain ⟨⟨h, j⟩, hp1, rfl⟩ := Option.map_eq_some_iff.mp hd1
    obtain ⟨t, x1, y1, rfl, ht, hx1, hy1⟩ := dp_tup2 hd2
    have hx1 := dp_int hx1
    have hy1 := dp_int hy1
    subst hx1 hy1
    have hb := pin h j (List.mem_of_getElem? hp1)
    have hh := pow10 (lh _ (List.mem_of_getElem? hp1))
    have hl10 := lh _ (List.mem_of_getElem? hp1)
    have hh : 2 ^ h ≤ 1024 := hh
    have hl10 : h ≤ 10 := hl10
    have hil := get_lt hp1
    rw [drop_at hp1] at t1 t2
    obtain ⟨a1, a2⟩ := allIn_len (r1 := b1.rows) (r2 := b2.rows) h j
    have ht4 := sqt_ex ex_hid (sqt_ex e4 (sqt_hid ht h3))
    obtain ⟨dx4, hp4⟩ := S4.ob'
    refine w_gTup ht4 rfl ?_
    walk_at "s"
    refine w_methAt hp4 (lkfl_no (by decide +kernel) (by decide +kernel) (by decide +kernel)) ?_
    walk_at "s"
    refine ⟨L, p, lk, b1, b2, ths, ds, h, j, rfl, S4, by omega, by omega, by omega, fun H5 S5 e5 => ?_⟩
    have g5 := ex_hid _ _ (e5 _ _ (hid_get g4 n3))
    walk_at "s"
    refine ite_nb (fun hb0 => ?_) fun hb0 => ?_
    · rw [hb0] at S5
      rw [allM_f hb0] at t1 t2
      walk_at "s"
      obtain ⟨dx5, hp5⟩ := S5.ob'
      refine w_methAt hp5 (lkfl_no (by decide +kernel) (by decide +kernel) (by decide +kernel)) ?_
      walk_at "s"
      refine ⟨L, p, lk, b1, b2, ths, _, h, j, rfl, S5, by omega, by omega, Nat.le_trans hl10 (by decide), by rw [List.length_append]; simp; omega, fun H6 q6 S6 e6 n6 _ g6 => ?_⟩
      have g5 := ex_hid _ _ (e6 _ _ (hid_get g5 n3))
      walk_at "s"
      refine w_addL g5 g6 (szM (by rw [numsV_len, numsV_len]; omega)) fun q7 hq7 => ?_
      obtain ⟨l6, h6, _⟩ := S6.ls
      have n7 : q7 ≠ lk := fun e => by rw [e, h6] at hq7; cases hq7
      have e46 := (e4.trans e5).trans e6
      have e7 : Ex (hid lk H3) (hid lk (upd H6 q7 (.lst (numsV ns ++ numsV (allIn b1.rows b2.rows h j).2)))) := e46.trans (hid_mono (ex_new ex_refl hq7))
      walk_at "s"
      refine ⟨_, _, q7, _, ns ++ (allIn b1.rows b2.rows h j).2, rfl, S6.ex (ex_new ex_refl hq7), e7, ?_, ?_, n7, ex_free (e3.trans e46) (by rw [hid_ne n7]; exact hq7), by rw [upd_same, numsV_app], ?_, ?_⟩
      · simp only [List.length_append, List.length_cons, List.length_nil]; omega
      · simp only [List.length_append]; omega
      · simpa using t1
      · simpa using t2
    · rw [hb0] at S5
      rw [allM_t hb0] at t1 t2
      walk_at "s"
      exact ⟨_, _, q3, _, ns, rfl, S5, e4.trans e5, by simp only [List.length_append, List.length_cons, List.length_nil]; omega, by omega, n3, f3, g5, by simpa using t1, t2⟩
  · rintro σ H4 ⟨v4, v5, q3, ds, ns, rfl, S4, e4, hd, hns, n3, f3, g4, t1, t2⟩
    rw [hxl, List.drop_length] at t1 t2
    have t1 : ds ++ [] = (allM b1.rows b2.rows ps).1 := t1
    have t2 : ns ++ [] = (allM b1.rows b2.rows ps).2 := t2
    rw [List.append_nil] at t1 t2
    rw [t1] at S4
    rw [t2] at g4
    obtain ⟨dx4, hp4⟩ := S4.ob'
    walk_at "s"
    refine w_fldAt hp4 T.cLooker T.n_Looker_looks lkfl_looks ?_
    walk_at "s"
    refine ⟨by show 2 ≤ sizeLine; exact sz100 (by decide), fun t5 ht5 => ?_⟩
    have S5 := S4.ex (ex_new (o := .tup [.ref q3, .ref lk]) ex_refl ht5)
    refine k _ t5 q3 lk ⟨(e3.trans e4).trans (hid_mono (ex_new ex_refl ht5)), fl, f3, ?_, n3, upd_same, ?_, ?_⟩
    · refine ex_free ((e3.trans e4).trans ex_hid) ht5
    · rw [eR]; exact ex_new ex_refl ht5 _ _ g4
    · rw [eR]; exact S5.ls
end Tw

namespace Tw
open PySem L2 Ts Mix
/-- the places from a on, ahead of b, at which the rows differ -/
def diffs (r1 r2 : List Str) (a b : Nat) : List Nat := (List.range' a (b - a)).filter fun i => !decide (r1[i]? = r2[i]?)
section
variable {r1 r2 : List Str} {n : Nat}
theorem diffs_split {a b c : Nat} (h1 : a ≤ b) (h2 : b ≤ c) : diffs r1 r2 a c = diffs r1 r2 a b ++ diffs r1 r2 b c := by
  unfold diffs
  rw [← List.filter_append]
  congr 1
  have := List.range'_append (s := a) (m := b - a) (n := c - b) (step := 1)
  rw [Nat.one_mul, show a + (b - a) = b by omega, show b - a + (c - b) = c - a by omega] at this
  exact this.symm
theorem diffs_nil {a b : Nat} (h : ∀ i, a ≤ i → i < b → r1[i]? = r2[i]?) : diffs r1 r2 a b = [] := by
  unfold diffs
  rw [List.filter_eq_nil_iff]
  intro i hi
  obtain ⟨k, hk, rfl⟩ := List.mem_range'.mp hi
  rw [decide_eq_true (h _ (by omega) (by omega))]
  decide
theorem diffs_refl {r : List Str} {a b : Nat} : diffs r r a b = [] := diffs_nil fun _ _ _ => rfl
theorem diffs_one {j : Nat} : diffs r1 r2 j (j + 1) = if r1[j]? = r2[j]? then [] else [j] := by
  unfold diffs
  rw [show j + 1 - j = 1 by omega, List.range'_one, List.filter_cons, List.filter_nil]
  by_cases h : r1[j]? = r2[j]?
  · rw [decide_eq_true h, if_pos h]; rfl
  · rw [decide_eq_false h, if_neg h]; rfl
theorem diffs_snoc {i : Nat} : diffs r1 r2 0 (i + 1) = diffs r1 r2 0 i ++ (if r1[i]? = r2[i]? then [] else [i]) := by
  rw [diffs_split (b := i) (Nat.zero_le _) (Nat.le_succ _), diffs_one]
theorem diffs_lt {a b p : Nat} (h : p ∈ diffs r1 r2 a b) : a ≤ p ∧ p < b ∧ r1[p]? ≠ r2[p]? := by
  obtain ⟨h1, h2⟩ := List.mem_filter.mp h
  obtain ⟨k, hk, rfl⟩ := List.mem_range'.mp h1
  refine ⟨by omega, by omega, fun e => ?_⟩
  rw [decide_eq_true e] at h2
  exact absurd h2 (by decide)
theorem diffs_len {a b : Nat} : (diffs r1 r2 a b).length ≤ b - a := by
  unfold diffs
  have := List.length_filter_le (fun i => !decide (r1[i]? = r2[i]?)) (List.range' a (b - a))
  rw [List.length_range'] at this
  exact this
theorem alk_at {h j : Nat} : alk r1 r2 h j = true ↔ ∀ i, j * 2 ^ h ≤ i → i < (j + 1) * 2 ^ h → r1[i]? = r2[i]? := by
  have get : ∀ {r : List Str} {i : Nat}, j * 2 ^ h ≤ i → i < (j + 1) * 2 ^ h → (blk r h j)[i - j * 2 ^ h]? = r[i]? := fun {r i} h1 h2 => by
    unfold blk
    rw [Nat.add_mul, Nat.one_mul] at h2
    rw [List.getElem?_take_of_lt (by omega), List.getElem?_drop]
    congr 1
    omega
  unfold alk
  rw [decide_eq_true_iff]
  constructor
  · intro e i h1 h2
    rw [← get (r := r1) h1 h2, ← get (r := r2) h1 h2, e]
  · intro q
    refine List.ext_getElem? fun k => ?_
    by_cases hk : k < 2 ^ h
    · have h1 : j * 2 ^ h ≤ j * 2 ^ h + k := Nat.le_add_right _ _
      have h2 : j * 2 ^ h + k < (j + 1) * 2 ^ h := by rw [Nat.add_mul, Nat.one_mul]; omega
      have e1 := get (r := r1) h1 h2
      have e2 := get (r := r2) h1 h2
      rw [show j * 2 ^ h + k - j * 2 ^ h = k by omega] at e1 e2
      rw [e1, e2]
      exact q _ h1 h2
    · have z : ∀ r : List Str, (blk r h j)[k]? = none := fun r => by
        unfold blk
        rw [List.getElem?_eq_none]
        rw [List.length_take]
        omega
      rw [z, z]
theorem allIn_places : ∀ (h j : Nat), alk r1 r2 h j = false → (allIn r1 r2 h j).2 = diffs r1 r2 (j * 2 ^ h) ((j + 1) * 2 ^ h)
  | 0, j, na => by
    rw [allIn_0, Nat.pow_zero, Nat.mul_one, Nat.mul_one, diffs_one, if_neg]
    intro e
    have : alk r1 r2 0 j = true := alk_at.mpr fun i h1 h2 => by
      rw [Nat.pow_zero, Nat.mul_one] at h1 h2
      rw [show i = j by omega]; exact e
    rw [na] at this
    cases this
  | h + 1, j, na => by
    have p1 : (2 * j) * 2 ^ h = j * 2 ^ (h + 1) := by rw [Nat.pow_succ, Nat.mul_comm (2 ^ h) 2, ← Nat.mul_assoc, Nat.mul_comm j 2]
    have p2 : (2 * j + 1 + 1) * 2 ^ h = (j + 1) * 2 ^ (h + 1) := by rw [Nat.pow_succ, show 2 * j + 1 + 1 = (j + 1) * 2 by omega, Nat.mul_assoc, Nat.mul_comm 2]
    have p3 : (2 * j + 1) * 2 ^ h ≤ (2 * j + 1 + 1) * 2 ^ h := Nat.mul_le_mul_right _ (Nat.le_succ _)
    have p4 : (2 * j) * 2 ^ h ≤ (2 * j + 1) * 2 ^ h := Nat.mul_le_mul_right _ (Nat.le_succ _)
    rw [← p1, ← p2, diffs_split p4 p3]
    cases hb : alk r1 r2 h (2 * j) with
    | true =>
      rw [allIn_t hb, diffs_nil (alk_at.mp hb), List.nil_append]
      refine allIn_places h (2 * j + 1) ?_
      cases hc : alk r1 r2 h (2 * j + 1) with
      | false => rfl
      | true =>
        have : alk r1 r2 (h + 1) j = true := alk_at.mpr fun i h1 h2 => by
          rw [← p1] at h1
          rw [← p2] at h2
          by_cases z : i < (2 * j + 1) * 2 ^ h
          · exact alk_at.mp hb i h1 z
          · exact alk_at.mp hc i (by omega) h2
        rw [na] at this
        cases this
    | false =>
      cases hc : alk r1 r2 h (2 * j + 1) with
      | true => rw [allIn_ft hb hc, diffs_nil (alk_at.mp hc), List.append_nil]; exact allIn_places h _ hb
      | false => rw [allIn_ff hb hc, ← allIn_places h _ hb, ← allIn_places h _ hc]
theorem allM_places : ∀ k : Nat, (allM r1 r2 (partsF n (placeAt n k) k)).2 = diffs r1 r2 (placeAt n k) n
  | 0 => by
    rw [placeAt_zero]
    show [] = _
    rw [diffs_nil]
    intro i h1 h2
    omega
  | k + 1 => by
    by_cases b : n / 2 ^ k % 2 = 1
    · rw [parts_cons b]
      have d : 2 ^ k ∣ placeAt n (k + 1) := ⟨n / 2 ^ (k + 1) * 2, by unfold placeAt; rw [Nat.pow_succ, Nat.mul_comm (2 ^ k) 2, ← Nat.mul_assoc, Nat.mul_comm (2 ^ k)]⟩
      have h1 := Nat.div_mul_cancel d
      have h2 := placeAt_le n k
      have h3 := placeAt_succ n k
      rw [b, Nat.one_mul] at h3
      generalize placeAt n (k + 1) / 2 ^ k = j at h1
      have h4 : (j + 1) * 2 ^ k = placeAt n k := by rw [Nat.add_mul, Nat.one_mul]; omega
      rw [diffs_split (b := placeAt n k) (by omega) h2, ← allM_places k, ← h1, ← h4]
      cases hb : alk r1 r2 k j with
      | true => rw [allM_t hb, diffs_nil (alk_at.mp hb), h4]; rfl
      | false => rw [allM_f hb, ← allIn_places k j hb, h4]
    · rw [parts_skip b, allM_places k]
      have e := placeAt_succ n k
      have e2 : n / 2 ^ k % 2 = 0 := by have := Nat.mod_lt (n / 2 ^ k) (show 0 < 2 by decide); omega
      rw [e2, Nat.zero_mul, Nat.add_zero] at e
      rw [e]
end
theorem allR_places (r1 r2 : List Str) : (allR r1 r2).2 = diffs r1 r2 0 (min r1.length r2.length) := by
  have h := allM_places (r1 := r1) (r2 := r2) (n := min r1.length r2.length) (digs (min r1.length r2.length))
  rw [placeAt_digs] at h
  exact h
end Tw

namespace Tw
open PySem L2 Ts Mix
/-! ### moves -/
inductive Mv where
  | put (p : Nat) (z : Str)
  | add (z : Str)
  | cut
  deriving DecidableEq
def Mv.items : Mv → List V
  | .put p z => [.str "put", .int (p : Nat), .str z]
  | .add z => [.str "add", .str z]
  | .cut => [.str "cut"]
def Mv.okE : Mv → Prop
  | .put _ z => PyData.strOk z = true
  | .add z => PyData.strOk z = true
  | .cut => True
def e3 : Enc (Str × Nat × Str) := eTup3 eStr eNat eStr
def e2 : Enc (Str × Str) := eTup2 eStr eStr
def mvD : Mv → PyData
  | .put p z => e3.enc ("put", p, z)
  | .add z => e2.enc ("add", z)
  | .cut => .tuple [.str "cut"]
def encM : Enc Mv := ⟨mvD, Mv.okE, fun m h => by
  cases m with
  | put p z => exact e3.lay ("put", p, z) ⟨show PyData.strOk "put" = true by decide +kernel, trivial, h⟩
  | add z => exact e2.lay ("add", z) ⟨show PyData.strOk "add" = true by decide +kernel, h⟩
  | cut => decide +kernel, 1, fun m => by
  cases m with
  | put p z => exact e3.hdep ("put", p, z)
  | add z => exact e2.hdep ("add", z)
  | cut => decide +kernel, fun x y => by
  cases x with
  | put p z =>
    cases y with
    | put q w =>
      refine (e3.eq ("put", p, z) ("put", q, w)).trans ?_
      rw [decide_eq_decide]
      constructor
      · intro h; cases h; rfl
      · intro h; cases h; rfl
    | add w => simp [mvD, e3, e2, eTup3, eTup2, PyData.eqv, PyData.eqvAll]
    | cut => simp [mvD, e3, e2, eTup3, eTup2, PyData.eqv, PyData.eqvAll]
  | add z =>
    cases y with
    | put q w => simp [mvD, e3, e2, eTup3, eTup2, PyData.eqv, PyData.eqvAll]
    | add w =>
      refine (e2.eq ("add", z) ("add", w)).trans ?_
      rw [decide_eq_decide]
      constructor
      · intro h; cases h; rfl
      · intro h; cases h; rfl
    | cut => simp [mvD, e3, e2, eTup3, eTup2, PyData.eqv, PyData.eqvAll]
  | cut =>
    cases y with
    | put q w => simp [mvD, e3, e2, eTup3, eTup2, PyData.eqv, PyData.eqvAll]
    | add w => simp [mvD, e3, e2, eTup3, eTup2, PyData.eqv, PyData.eqvAll]
    | cut => decide +kernel⟩
theorem dp_str {K : PySem.W.Frag} {H : Hp} {v : V} {z : Str} (h : Dp K H v (.str z)) : v = .str z := by cases h; rfl
theorem dp_mv {K : PySem.W.Frag} {H : Hp} {v : V} {m : Mv} (h : Dp K H v (encM.enc m)) : ∃ t, v = .ref t ∧ SqT K H t m.items := by
  cases m with
  | put p z =>
    obtain ⟨a, x, y, w, rfl, hs, hx, hy, hz⟩ := dp_tup3 h
    have hx := dp_str hx
    have hy := dp_int hy
    have hz := dp_str hz
    subst hx hy hz
    exact ⟨a, rfl, hs⟩
  | add z =>
    obtain ⟨a, x, y, rfl, hs, hx, hy⟩ := dp_tup2 h
    have hx := dp_str hx
    have hy := dp_str hy
    subst hx hy
    exact ⟨a, rfl, hs⟩
  | cut =>
    cases h with
    | tup hs ha =>
      cases ha with
      | cons h t =>
        cases t
        cases h
        exact ⟨_, rfl, hs⟩
theorem mv_dp {K : PySem.W.Frag} {H : Hp} {t : Addr} {m : Mv} (h : SqT K H t m.items) : Dp K H (.ref t) (encM.enc m) := by
  cases m with
  | put p z => exact .tup h (.cons (.str _) (.cons (.int _) (.cons (.str _) .nil)))
  | add z => exact .tup h (.cons (.str _) (.cons (.str _) .nil))
  | cut => exact .tup h (.cons (.str _) .nil)
theorem dpMvs_keep {K : PySem.W.Frag} {H H' : Hp} {S : List Addr} (k : Kp S H H') (s : Soft H S) : ∀ {ms : List Mv} {xs : List V}, DpAll K H xs (ms.map encM.enc) → DpAll K H' xs (ms.map encM.enc)
  | [], _, .nil => .nil
  | m :: ms, _, .cons h t => by
    obtain ⟨a, rfl, hs⟩ := dp_mv h
    exact .cons (mv_dp (sqt_keep k s hs)) (dpMvs_keep k s t)
/-- a list of moves, wherever -/
def MvL (K : PySem.W.Frag) (H : Hp) (q : Addr) (ms : List Mv) : Prop := ∃ xs, H q = some (.lst xs) ∧ DpAll K H xs (ms.map encM.enc)
theorem MvL.mono {K : PySem.W.Frag} {H H' : Hp} {q : Addr} {ms : List Mv} (h : MvL K H q ms) (e : Ex H H') : MvL K H' q ms := let ⟨xs, h1, h2⟩ := h; ⟨xs, e _ _ h1, dpAll_mono e h2⟩
theorem MvL.keep {K : PySem.W.Frag} {H H' : Hp} {q : Addr} {ms : List Mv} {S : List Addr} (h : MvL K H q ms) (k : Kp S H H') (s : Soft H S) (n : q ∉ S) : MvL K H' q ms := let ⟨xs, h1, h2⟩ := h; ⟨xs, k _ _ h1 n, dpMvs_keep k s h2⟩
theorem MvL.dp {K : PySem.W.Frag} {H : Hp} {q : Addr} {ms : List Mv} (h : MvL K H q ms) : Dp K H (.ref q) ((eList encM).enc ms) := let ⟨_, h1, h2⟩ := h; .lst (sql h1) h2
theorem mvs_sh {ms : List Mv} (h : ∀ m ∈ ms, m.okE) : SeqAt.shaped ((eList encM).enc ms) = true := (eList encM).shaped (by decide) ms h
/-- a list, made anew -/
structure LsAt {α : Type} [DecidableEq α] (e : Enc α) (K : PySem.W.Frag) (H H' : Hp) (q : Addr) (as : List α) : Prop where
  nl : H q = none
  ex : Ex H (hid q H')
  ls : ∃ xs, H' q = some (.lst xs) ∧ DpAll K (hid q H') xs (as.map e.enc)
section
variable {α : Type} [DecidableEq α] {e : Enc α} {K : PySem.W.Frag} {H H' H'' : Hp} {q t : Addr} {as : List α} {a : α}
theorem LsAt.new (h : H' q = none) (x : Ex H H') : LsAt e K H (upd H' q (.lst [])) q [] := ⟨ex_free x h, hid_free (ex_free x h) (ex_new x h), [], upd_same, .nil⟩
theorem LsAt.mono (S : LsAt e K H H' q as) (x : Ex H' H'') : LsAt e K H H'' q as := by
  obtain ⟨xs, h1, h2⟩ := S.ls
  exact ⟨S.nl, S.ex.trans (hid_mono x), xs, x _ _ h1, dpAll_mono (hid_mono x) h2⟩
theorem LsAt.ex' (S : LsAt e K H H' q as) : Ex H H' := S.ex.trans ex_hid
theorem LsAt.push {xs : List V} {v : V} (S : LsAt e K H H' q as) (h1 : H' q = some (.lst xs)) (d : Dp K (hid q H') v (e.enc a)) : LsAt e K H (upd H' q (.lst (xs ++ [v]))) q (as ++ [a]) := by
  obtain ⟨xs', h1', h2⟩ := S.ls
  rw [h1] at h1'
  cases h1'
  refine ⟨S.nl, by rw [hid_upd]; exact S.ex, _, upd_same, ?_⟩
  rw [hid_upd, List.map_append]
  exact dpAll_snoc h2 d
theorem LsAt.at' (S : LsAt e K H H' q as) : ∃ xs, H' q = some (.lst xs) ∧ xs.length = as.length := by
  obtain ⟨xs, h1, h2⟩ := S.ls
  have hl := dpAll_len h2
  rw [List.length_map] at hl
  exact ⟨xs, h1, hl⟩
end
theorem LsAt.mvl {K : PySem.W.Frag} {H H' : Hp} {q : Addr} {ms : List Mv} (S : LsAt encM K H H' q ms) : MvL K H' q ms := let ⟨xs, h1, h2⟩ := S.ls; ⟨xs, h1, dpAll_mono ex_hid h2⟩
/-- a move told at the end of a list -/
theorem LsAt.move {K : PySem.W.Frag} {H H' : Hp} {q t : Addr} {xs : List V} {ms : List Mv} (S : LsAt encM K H H' q ms) (m : Mv) (h1 : H' q = some (.lst xs)) (ht : H' t = none) :
    LsAt encM K H (upd (upd H' t (.tup m.items)) q (.lst (xs ++ [.ref t]))) q (ms ++ [m]) := by
  have n : q ≠ t := ne_new h1 ht
  have x := ex_new (o := .tup m.items) ex_refl ht
  exact (S.mono x).push (x _ _ h1) (mv_dp (sqt (hid_get upd_same (Ne.symm n))))
/-! ### what moves do to rows -/
def Mv.apl : Mv → List Str → List Str
  | .put p z, r => r.set p z
  | .add z, r => r ++ [z]
  | .cut, r => r.dropLast
def Mv.Ok : Mv → List Str → Prop
  | .put p z, r => p < r.length ∧ Good z
  | .add z, r => Good z ∧ r.length < 1024
  | .cut, r => r ≠ []
def runM : List Mv → List Str → List Str
  | [], r => r
  | m :: ms, r => runM ms (m.apl r)
def OkM : List Mv → List Str → Prop
  | [], _ => True
  | m :: ms, r => m.Ok r ∧ OkM ms (m.apl r)
theorem runM_app : ∀ (ms ns : List Mv) (r : List Str), runM (ms ++ ns) r = runM ns (runM ms r)
  | [], _, _ => rfl
  | m :: ms, ns, r => runM_app ms ns (m.apl r)
theorem okM_app : ∀ (ms ns : List Mv) (r : List Str), OkM ms r → OkM ns (runM ms r) → OkM (ms ++ ns) r
  | [], _, _, _, h => h
  | m :: ms, ns, r, h1, h2 => ⟨h1.1, okM_app ms ns (m.apl r) h1.2 h2⟩
section
variable {r1 r2 : List Str}
def putAt (r2 : List Str) (p : Nat) : Mv := .put p (r2[p]?.getD Str.empty)
theorem run_puts : ∀ (ps : List Nat) (r : List Str), (∀ p ∈ ps, p < r.length ∧ p < r2.length) → (∀ z ∈ r2, Good z) →
    OkM (ps.map (putAt r2)) r ∧ (runM (ps.map (putAt r2)) r).length = r.length ∧ ∀ i, (runM (ps.map (putAt r2)) r)[i]? = if i ∈ ps then r2[i]? else r[i]?
  | [], r, _, _ => ⟨trivial, rfl, fun i => by rw [if_neg (List.not_mem_nil)]; rfl⟩
  | p :: ps, r, h, g => by
    obtain ⟨h1, h2⟩ := h p List.mem_cons_self
    have e : r2[p]? = some r2[p] := List.getElem?_eq_getElem h2
    have gz : putAt r2 p = .put p r2[p] := by unfold putAt; rw [e]; rfl
    obtain ⟨i1, i2, i3⟩ := run_puts ps (r.set p r2[p]) (fun q hq => by rw [List.length_set]; exact h q (List.mem_cons_of_mem _ hq)) g
    rw [List.map_cons, gz]
    refine ⟨⟨⟨h1, g _ (List.getElem_mem h2)⟩, i1⟩, i2.trans List.length_set, fun i => ?_⟩
    refine (i3 i).trans ?_
    by_cases m : i ∈ ps
    · rw [if_pos m, if_pos (List.mem_cons_of_mem _ m)]
    · rw [if_neg m]
      by_cases z : i = p
      · subst z
        rw [if_pos List.mem_cons_self, List.getElem?_set_self h1, e]
      · rw [if_neg (fun w => by rcases List.mem_cons.mp w with w | w; exact z w; exact m w), List.getElem?_set_ne (Ne.symm z)]
theorem run_adds : ∀ (zs r : List Str), (∀ z ∈ zs, Good z) → r.length + zs.length ≤ 1024 → OkM (zs.map .add) r ∧ runM (zs.map .add) r = r ++ zs
  | [], r, _, _ => ⟨trivial, (List.append_nil r).symm⟩
  | z :: zs, r, g, h => by
    rw [List.length_cons] at h
    obtain ⟨i1, i2⟩ := run_adds zs (r ++ [z]) (fun y hy => g y (List.mem_cons_of_mem _ hy)) (by rw [List.length_append]; simp; omega)
    refine ⟨⟨⟨g z List.mem_cons_self, by omega⟩, i1⟩, ?_⟩
    refine i2.trans ?_
    rw [List.append_assoc]
    rfl
theorem run_cuts : ∀ (k : Nat) (r : List Str), k ≤ r.length → OkM (List.replicate k .cut) r ∧ runM (List.replicate k .cut) r = r.take (r.length - k)
  | 0, r, _ => ⟨trivial, by rw [Nat.sub_zero, List.take_length]; rfl⟩
  | k + 1, r, h => by
    have l : r.dropLast.length = r.length - 1 := List.length_dropLast
    obtain ⟨i1, i2⟩ := run_cuts k r.dropLast (by omega)
    rw [List.replicate_succ]
    refine ⟨⟨fun e => by rw [e] at h; simp at h, i1⟩, ?_⟩
    refine i2.trans ?_
    rw [l, List.dropLast_eq_take, List.take_take]
    congr 1
    omega
/-- the moves that make the rows of one book the other's -/
def movesR (r1 r2 : List Str) : List Mv := (diffs r1 r2 0 (min r1.length r2.length)).map (putAt r2) ++ (r2.drop r1.length).map .add ++ List.replicate (r1.length - r2.length) .cut
theorem movesR_run (g2 : ∀ z ∈ r2, Good z) (h1 : r1.length ≤ 1024) (h2 : r2.length ≤ 1024) : OkM (movesR r1 r2) r1 ∧ runM (movesR r1 r2) r1 = r2 := by
  obtain ⟨p1, p2, p3⟩ := run_puts (r2 := r2) (diffs r1 r2 0 (min r1.length r2.length)) r1 (fun p hp => by have := diffs_lt hp; omega) g2
  have p4 : ∀ i, i < min r1.length r2.length → (runM ((diffs r1 r2 0 (min r1.length r2.length)).map (putAt r2)) r1)[i]? = r2[i]? := fun i hi => by
    rw [p3]
    by_cases m : i ∈ diffs r1 r2 0 (min r1.length r2.length)
    · rw [if_pos m]
    · rw [if_neg m]
      by_cases z : r1[i]? = r2[i]?
      · exact z
      · refine absurd (List.mem_filter.mpr ⟨List.mem_range'.mpr ⟨i, by omega, by omega⟩, ?_⟩) m
        rw [decide_eq_false z]; rfl
  unfold movesR
  have hg : ∀ z ∈ r2.drop r1.length, Good z := fun z hz => g2 z (List.mem_of_mem_drop hz)
  generalize hr : runM ((diffs r1 r2 0 (min r1.length r2.length)).map (putAt r2)) r1 = r at p2 p4
  obtain ⟨a1, a2⟩ := run_adds (r2.drop r1.length) r hg (by rw [List.length_drop]; omega)
  obtain ⟨c1, c2⟩ := run_cuts (r1.length - r2.length) (r ++ r2.drop r1.length) (by rw [List.length_append, List.length_drop]; omega)
  refine ⟨okM_app _ _ _ (okM_app _ _ _ p1 (by rw [hr]; exact a1)) (by rw [runM_app, hr, a2]; exact c1), ?_⟩
  rw [runM_app, runM_app, hr, a2, c2]
  refine List.ext_getElem? fun i => ?_
  have hm : (r ++ r2.drop r1.length).length - (r1.length - r2.length) = r2.length := by rw [List.length_append, List.length_drop]; omega
  rw [hm, List.getElem?_take]
  by_cases hi : i < r2.length
  · rw [if_pos hi]
    by_cases hj : i < r.length
    · rw [List.getElem?_append_left hj]; exact p4 i (by omega)
    · rw [List.getElem?_append_right (by omega), List.getElem?_drop]; congr 1; omega
  · rw [if_neg hi, List.getElem?_eq_none (by omega)]
theorem movesR_same (r : List Str) : movesR r r = [] := by
  unfold movesR
  rw [diffs_refl, List.drop_length, Nat.sub_self]
  rfl
theorem movesR_okE (g2 : ∀ z ∈ r2, Good z) : ∀ m ∈ movesR r1 r2, m.okE := fun m hm => by
  rcases List.mem_append.mp hm with hm | hm
  · rcases List.mem_append.mp hm with hm | hm
    · obtain ⟨p, hp, rfl⟩ := List.mem_map.mp hm
      have h := diffs_lt hp
      have e : r2[p]? = some r2[p] := List.getElem?_eq_getElem (by omega)
      unfold putAt
      rw [e]
      exact good_ok (g2 _ (List.getElem_mem (by omega)))
    · obtain ⟨z, hz, rfl⟩ := List.mem_map.mp hm
      exact good_ok (g2 z (List.mem_of_mem_drop hz))
  · rw [List.eq_of_mem_replicate hm]
    trivial
theorem movesR_len : (movesR r1 r2).length ≤ r1.length + r2.length + 2 := by
  have := diffs_len (r1 := r1) (r2 := r2) (a := 0) (b := min r1.length r2.length)
  unfold movesR
  simp only [List.length_append, List.length_map, List.length_drop, List.length_replicate]
  omega
end
end Tw

namespace Tw
open PySem L2 Ts Mix
theorem cutV_from {xs : List V} {i : Nat} : cutV xs (some (i : Int)) none = xs.drop i := by
  unfold cutV
  rw [HT.sIx_nat, HT.sIx_none]
  apply List.ext_getElem?
  intro k
  rw [List.getElem?_take, List.getElem?_drop, List.getElem?_drop]
  by_cases h : k < xs.length - min i xs.length
  · rw [if_pos h]
    congr 1
    omega
  · rw [if_neg h, List.getElem?_eq_none (by omega)]
def N_moves : List Str := ["one", "other", "place", "found", "turn"]
def t_moves (K : PySem.W.Frag) (c : Cs) (E : XK) : TS := (tSeq (tAsg (tLc (iList K (tOp (rIx K) (tCall (sp_all_unlike K c) [] E (tCons (tVar 0) (tCons (tVar 1) tNil))) (tC (.int 0)))) (gName 2) tYes (tTup (tCons (tC (.str "put")) (tCons (tVar 2) (tCons (tMeth c.Book "row" (sp_Book_row K c) [] E0 (tVar 1) (tCons (tVar 2) tNil)) tNil)))) [2]) (gName 3))
  (tSeq (tFor (iRng2 (tCons (tMeth c.Book "count" (sp_Book_count K c) [] E (tVar 0) tNil) (tCons (tMeth c.Book "count" (sp_Book_count K c) [] E (tVar 1) tNil) tNil))) (gName 2) (tDrop (tBM K "list" rAppend (tVar 3) (tCons (tTup (tCons (tC (.str "add")) (tCons (tMeth c.Book "row" (sp_Book_row K c) [] E (tVar 1) (tCons (tVar 2) tNil)) tNil))) tNil))))
  (tSeq (tFor (iRng2 (tCons (tMeth c.Book "count" (sp_Book_count K c) [] E (tVar 1) tNil) (tCons (tMeth c.Book "count" (sp_Book_count K c) [] E (tVar 0) tNil) tNil))) (gName 4) (tDrop (tBM K "list" rAppend (tVar 3) (tCons (tTup (tCons (tC (.str "cut")) tNil)) tNil))))
  (tRet (tVar 3)))))
def sp_moves (K : PySem.W.Frag) (c : Cs) : Sp := fun vs H Q E => ∃ (b1 b2 : BR), vs = [.ref b1.B, .ref b2.B] ∧ ((∃ (L : Addr) (ths : List MK), TB c H L b1 b2 ths ∧ ∀ H' q, LsAt encM K H H' q (movesR b1.rows b2.rows) → Q (.ref q) H') ∨ Stranger c H b1 b2 E)
theorem len_moves {K c} : ∀ vs H Q E, sp_moves K c vs H Q E → vs.length = 2 := by rintro vs H Q E ⟨_, _, rfl, _⟩; rfl
theorem pure_moves {K : PySem.W.Frag} {c : Cs} {vs : List V} {H : Hp} {Q : VK} {E : XK} (T : TxK K c) (g : sp_moves K c vs H Q E) : t_moves K c E ⟨fun _ H' => Q .non H', Q, fun _ _ => False, fun _ _ => False⟩ (start N_moves vs) H := by
  obtain ⟨b1, b2, rfl, g⟩ := g
  show t_moves K c E _ [some (.ref b1.B), some (.ref b2.B), none, none, none] H
  unfold t_moves
  walk_at "s"
  rcases g with ⟨L, ths, tb, k⟩ | s
  case inr => exact ⟨b1, b2, rfl, .inr s⟩
  have n1 := tb.n1
  have n2 := tb.n2
  refine ⟨b1, b2, rfl, .inl ⟨L, ths, tb, fun H1 t pl lk F => ?_⟩⟩
  obtain ⟨d1, hB1⟩ := BookAt.ob tb.a1
  obtain ⟨d2, hB2⟩ := BookAt.ob tb.a2
  have lr := (allR_len (r1 := b1.rows) (r2 := b2.rows) n1).2
  have F' := F
  rw [show allR b1.rows b2.rows = ((allR b1.rows b2.rows).1, (allR b1.rows b2.rows).2) from rfl, allR_places] at F'
  rw [allR_places] at lr
  have hpl := F'.hp
  have hpl : H1 pl = some (.lst (numsV (diffs b1.rows b2.rows 0 (min b1.rows.length b2.rows.length)))) := hpl
  have ht := F.ht
  have x1 := F.ex'
  clear F F'
  generalize hds : diffs b1.rows b2.rows 0 (min b1.rows.length b2.rows.length) = ds at lr hpl
  walk_at "s"
  refine w_ixT (v := .ref pl) (sqt ht) rfl ?_
  walk_at "s"
  refine ⟨_, rfl, ⟨_, sql hpl⟩, fun D hD => ?_⟩
  refine lcb_list (xs := numsV ds) (fun i H' => LsAt encM K H H' D ((ds.take i).map (putAt b2.rows)) ∧ Ex (hid D H1) (hid D H')) ⟨LsAt.new hD x1, by rw [hid_upd]; exact ex_refl⟩ (fun i H' _ h => sql (ex_hid _ _ (h.2 _ _ (hid_get hpl (ne_new hpl hD))))) ?_ ?_
  · rintro i x H2 hi ⟨S2, x2⟩
    obtain ⟨p, hp, rfl⟩ := get_map hi
    have hil := get_lt hp
    have pd := diffs_lt (r1 := b1.rows) (r2 := b2.rows) (p := p) (by rw [hds]; exact List.mem_of_getElem? hp)
    have e : b2.rows[p]? = some b2.rows[p] := List.getElem?_eq_getElem (by omega)
    show gName 2 _ [some (.ref b1.B), some (.ref b2.B), none, none, none] _ _
    walk_at "s"
    refine ⟨rfl, ?_⟩
    refine w_yes ?_
    rw [if_pos rfl]
    show tTup _ [some (.ref b1.B), some (.ref b2.B), some (.int (p : Nat)), none, none] _ _
    walk_at "s"
    refine w_methAt (S2.ex' _ _ hB2) (bfl_no (by decide +kernel) (by decide +kernel) (by decide +kernel)) ?_
    walk_at "s"
    refine ⟨b2.B, L, b2.ln, b2.lv, b2.lvs, b2.rows, b2.levels, .int (p : Nat), true, rfl, BookAt.ex tb.a2 S2.ex', .inl ⟨_, rfl, rfl⟩, by omega, fun i' z ei ez => ?_, fun n => absurd ⟨p, rfl, by omega⟩ n⟩
    have ei : i' = p := by have := V.int.inj ei; omega
    rw [ei, e] at ez
    cases ez
    walk_at "s"
    refine ⟨by show 3 ≤ sizeLine; exact sz100 (by decide), fun t2 ht2 => ?_⟩
    obtain ⟨ys, hy, ly⟩ := S2.at'
    have S3 := S2.move (.put p b2.rows[p]) hy ht2
    have nq : D ≠ t2 := ne_new hy ht2
    refine ⟨ys, by rw [upd_ne nq]; exact hy, by rw [ly, List.length_map, List.length_take]; exact szL (by omega), ?_, ?_⟩
    · have e4 : (ds.take (i + 1)).map (putAt b2.rows) = (ds.take i).map (putAt b2.rows) ++ [.put p b2.rows[p]] := by
        rw [List.take_add_one, hp, List.map_append]
        show _ ++ [putAt b2.rows p] = _
        unfold putAt
        rw [e]
        rfl
      rw [e4]
      exact S3
    · rw [hid_upd]
      exact x2.trans (hid_mono (ex_new ex_refl ht2))
  · rintro H2 ⟨S2, x2⟩
    rw [numsV_len, List.take_length] at S2
    clear x2 hD hpl ht
    walk_at "s"
    refine w_methAt (S2.ex' _ _ hB1) (bfl_no (by decide +kernel) (by decide +kernel) (by decide +kernel)) ?_
    walk_at "s"
    refine ⟨b1.B, L, b1.ln, b1.lv, b1.lvs, b1.rows, b1.levels, rfl, BookAt.ex tb.a1 S2.ex', ?_⟩
    walk_at "s"
    refine w_methAt (S2.ex' _ _ hB2) (bfl_no (by decide +kernel) (by decide +kernel) (by decide +kernel)) ?_
    walk_at "s"
    refine ⟨b2.B, L, b2.ln, b2.lv, b2.lvs, b2.rows, b2.levels, rfl, BookAt.ex tb.a2 S2.ex', ?_⟩
    walk_at "s"
    refine w_iR2v ⟨by omega, by omega, by omega, by omega⟩ ?_
    have lm : (ds.map (putAt b2.rows)).length ≤ 11264 := by rw [List.length_map]; exact lr
    generalize hms : ds.map (putAt b2.rows) = ms at S2 lm
    refine lb_range (lo := (b1.rows.length : Nat)) (n := (((b2.rows.length : Nat) : Int) - ((b1.rows.length : Nat) : Int)).toNat) (fun i σ H' => (∃ v2, σ = [some (.ref b1.B), some (.ref b2.B), v2, some (.ref D), none]) ∧ LsAt encM K H H' D (ms ++ ((b2.rows.drop b1.rows.length).take i).map Mv.add)) ⟨⟨_, rfl⟩, by rw [List.take_zero, List.map_nil, List.append_nil]; exact S2⟩ ?_ ?_
    · rintro i σ H3 hi ⟨⟨v2, rfl⟩, S3⟩
      have hi : b1.rows.length + i < b2.rows.length := by omega
      have e : b2.rows[b1.rows.length + i]? = some b2.rows[b1.rows.length + i] := List.getElem?_eq_getElem hi
      have ec : ((b1.rows.length : Nat) : Int) + ((i : Nat) : Int) = ((b1.rows.length + i : Nat) : Int) := by push_cast; rfl
      rw [ec]
      obtain ⟨ys, hy, ly⟩ := S3.at'
      walk_at "s"
      refine ⟨w_tyL (sql hy), ?_⟩
      walk_at "s"
      refine w_methAt (S3.ex' _ _ hB2) (bfl_no (by decide +kernel) (by decide +kernel) (by decide +kernel)) ?_
      walk_at "s"
      refine ⟨b2.B, L, b2.ln, b2.lv, b2.lvs, b2.rows, b2.levels, .int ((b1.rows.length + i : Nat) : Int), true, rfl, BookAt.ex tb.a2 S3.ex', .inl ⟨_, rfl, rfl⟩, by omega, fun i' z ei ez => ?_, fun n => absurd ⟨_, rfl, hi⟩ n⟩
      have ei : i' = b1.rows.length + i := by have := V.int.inj ei; omega
      rw [ei, e] at ez
      cases ez
      walk_at "s"
      refine ⟨by show 2 ≤ sizeLine; exact sz100 (by decide), fun t2 ht2 => ?_⟩
      have S4 := S3.move (.add b2.rows[b1.rows.length + i]) hy ht2
      have nq : D ≠ t2 := ne_new hy ht2
      walk_at "s"
      refine w_app (by rw [upd_ne nq]; exact hy) (by rw [ly, List.length_append, List.length_map, List.length_take]; exact szL (by omega)) ?_
      walk_at "s"
      refine ⟨⟨_, rfl⟩, ?_⟩
      rw [List.take_add_one, List.getElem?_drop, e, List.map_append, ← List.append_assoc]
      exact S4
    · rintro σ H3 ⟨⟨v2, rfl⟩, S3⟩
      rw [List.take_of_length_le (by rw [List.length_drop]; omega)] at S3
      have lm2 : (ms ++ (b2.rows.drop b1.rows.length).map Mv.add).length ≤ 12500 := by rw [List.length_append, List.length_map, List.length_drop]; omega
      have hms2 : movesR b1.rows b2.rows = ms ++ (b2.rows.drop b1.rows.length).map Mv.add ++ List.replicate (b1.rows.length - b2.rows.length) .cut := by rw [← hms, ← hds]; rfl
      generalize ms ++ (b2.rows.drop b1.rows.length).map Mv.add = ns at S3 lm2 hms2
      walk_at "s"
      refine w_methAt (S3.ex' _ _ hB2) (bfl_no (by decide +kernel) (by decide +kernel) (by decide +kernel)) ?_
      walk_at "s"
      refine ⟨b2.B, L, b2.ln, b2.lv, b2.lvs, b2.rows, b2.levels, rfl, BookAt.ex tb.a2 S3.ex', ?_⟩
      walk_at "s"
      refine w_methAt (S3.ex' _ _ hB1) (bfl_no (by decide +kernel) (by decide +kernel) (by decide +kernel)) ?_
      walk_at "s"
      refine ⟨b1.B, L, b1.ln, b1.lv, b1.lvs, b1.rows, b1.levels, rfl, BookAt.ex tb.a1 S3.ex', ?_⟩
      walk_at "s"
      refine w_iR2v ⟨by omega, by omega, by omega, by omega⟩ ?_
      refine lb_range (lo := (b2.rows.length : Nat)) (n := (((b1.rows.length : Nat) : Int) - ((b2.rows.length : Nat) : Int)).toNat) (fun i σ H' => (∃ v4, σ = [some (.ref b1.B), some (.ref b2.B), v2, some (.ref D), v4]) ∧ LsAt encM K H H' D (ns ++ List.replicate i Mv.cut)) ⟨⟨_, rfl⟩, by rw [List.replicate_zero, List.append_nil]; exact S3⟩ ?_ ?_
      · rintro i σ H4 hi ⟨⟨v4, rfl⟩, S4⟩
        obtain ⟨ys, hy, ly⟩ := S4.at'
        walk_at "s"
        refine ⟨w_tyL (sql hy), ?_⟩
        walk_at "s"
        refine ⟨by show 1 ≤ sizeLine; exact sz100 (by decide), fun t2 ht2 => ?_⟩
        have S5 := S4.move .cut hy ht2
        have nq : D ≠ t2 := ne_new hy ht2
        walk_at "s"
        refine w_app (by rw [upd_ne nq]; exact hy) (by rw [ly, List.length_append, List.length_replicate]; exact szL (by omega)) ?_
        walk_at "s"
        refine ⟨⟨_, rfl⟩, ?_⟩
        rw [List.replicate_succ', ← List.append_assoc]
        exact S5
      · rintro σ H4 ⟨⟨v4, rfl⟩, S4⟩
        rw [show (((b1.rows.length : Nat) : Int) - ((b2.rows.length : Nat) : Int)).toNat = b1.rows.length - b2.rows.length by omega, ← hms2] at S4
        walk_at "s"
        exact k _ D S4
end Tw

namespace Tw
open PySem L2 Ts Mix
/-- the places of the truths -/
def truths (bs : List Bool) (n : Nat) : List V := ((List.range n).filter fun j => bs.getD j false).map fun (j : Nat) => V.int (j : Nat)
theorem truths_succ (bs : List Bool) (n : Nat) : truths bs (n + 1) = truths bs n ++ (if bs.getD n false = true then [V.int (n : Nat)] else []) := by
  unfold truths
  rw [List.range_succ, List.filter_append, List.map_append]
  congr 1
  by_cases h : bs.getD n false = true
  · rw [if_pos h, List.filter_cons, if_pos h]; rfl
  · rw [if_neg h, List.filter_cons, if_neg h]; rfl
theorem truths_len (bs : List Bool) (n : Nat) : (truths bs n).length ≤ n := by
  unfold truths
  rw [List.length_map]
  exact Nat.le_trans (List.length_filter_le _ _) (by simp)
def N_law_class : List Str := ["_law_e", "_law_some", "_law_k"]
def t_law_class (cls : Value) (a : Addr) (K : PySem.W.Frag) (c : Cs) (E : XK) : TS := (tSeq (tAsg (tLst (tCons (tCB (rIsX K cls a) (tCons (tVar 0) (tCons (tC (.ref c.Full)) tNil))) (tCons (tCB (rIsX K cls a) (tCons (tVar 0) (tCons (tC (.ref c.NoRow)) tNil))) (tCons (tCB (rIsX K cls a) (tCons (tVar 0) (tCons (tC (.ref c.Strange)) tNil))) (tCons (tCB (rIsX K cls a) (tCons (tVar 0) (tCons (tC (.ref c.NoBlock)) tNil))) tNil))))) (gName 1))
  (tSeq (tAsg (tOp rAddU (tVar 1) (tLst (tCons (tCB (rIsX K cls a) (tCons (tVar 0) (tCons (tC (.ref c.NoPlace)) tNil))) (tCons (tCB (rIsX K cls a) (tCons (tVar 0) (tCons (tC (.ref c.NoSum)) tNil))) (tCons (tNotV (tCB (rIsX K cls a) (tCons (tVar 0) (tCons (tC (.ty "ValueError")) tNil)))) tNil))))) (gName 1))
  (tRet (tLc (iRng1 (tCons (tC (.int 7)) tNil)) (gName 2) (tB (tOp (rIx K) (tVar 1) (tVar 2))) (tVar 2) [2]))))
def sp_law_class (_ : PySem.W.Frag) (c : Cs) (cls : Value) (a : Addr) : Sp := fun vs H Q _ => vs = [.ref a] ∧ ((cls = .ref c.Full ∧ ∀ H' t, Ex H H' → H' t = some (.lst [.int 0]) → Q (.ref t) H') ∨ (cls = .ref c.NoRow ∧ ∀ H' t, Ex H H' → H' t = some (.lst [.int 1]) → Q (.ref t) H') ∨
  (cls = .ref c.Strange ∧ ∀ H' t, Ex H H' → H' t = some (.lst [.int 2]) → Q (.ref t) H'))
theorem len_law_class {K c} : ∀ cls a vs H Q E, sp_law_class K c cls a vs H Q E → vs.length = 1 := by rintro cls a vs H Q E ⟨rfl, _⟩; rfl
theorem pure_law_class {K : PySem.W.Frag} {c : Cs} {cls : Value} {a : Addr} {vs : List V} {H : Hp} {Q : VK} {E : XK} (T : TxK K c) (h : sp_law_class K c cls a vs H Q E) : t_law_class cls a K c E ⟨fun _ H' => Q .non H', Q, fun _ _ => False, fun _ _ => False⟩ (start N_law_class vs) H := by
  obtain ⟨rfl, h⟩ := h
  show t_law_class cls a K c E _ [some (.ref a), none, none] H
  unfold t_law_class
  -- which of them are told
  have fin : ∀ (bs : List Bool) (p : Addr) (H1 : Hp), bs.length = 7 → H1 p = some (.lst (bs.map V.bl)) → Ex H H1 → (∀ H' t, Ex H H' → H' t = some (.lst (truths bs 7)) → Q (.ref t) H') →
      tRet (tLc (iRng1 (tCons (tC (.int 7)) tNil)) (gName 2) (tB (tOp (rIx K) (tVar 1) (tVar 2))) (tVar 2) [2]) ⟨fun _ H' => Q .non H', Q, fun _ _ => False, fun _ _ => False⟩ [some (.ref a), some (.ref p), none] H1 := fun bs p H1 hb hp e1 q => by
    walk_at "s"
    refine ⟨_, rfl, by decide, by decide, fun D hD => ?_⟩
    refine lcb_range (n := 7) (fun i H' => Ex H1 H' ∧ H' D = some (.lst (truths bs i))) ⟨ex_new ex_refl hD, upd_same⟩ ?_ ?_
    · rintro i H2 hi ⟨e2, hD2⟩
      have hbi : (bs.map V.bl)[i]? = some (.bl (bs.getD i false)) := by
        rw [List.getElem?_map, List.getElem?_eq_getElem (by omega), List.getD_eq_getElem?_getD, List.getElem?_eq_getElem (by omega)]
        rfl
      show gName 2 _ [some (.ref a), some (.ref p), none] _ _
      walk_at "s"
      refine ⟨rfl, ?_⟩
      show tB _ [some (.ref a), some (.ref p), some (.int (i : Nat))] _ _
      walk_at "s"
      refine w_ixL (sql (e2 _ _ hp)) (atI_nat hbi) ?_
      refine ⟨_, rfl, ?_⟩
      have ts := truths_succ bs i
      have tl := truths_len bs i
      cases hbb : bs.getD i false with
      | true =>
        rw [hbb, if_pos rfl] at ts
        rw [if_pos rfl]
        walk_at "s"
        exact ⟨_, hD2, szL (by omega), ex_mut e2 hD, by rw [upd_same, ts]⟩
      | false =>
        rw [hbb, if_neg Bool.false_ne_true, List.append_nil] at ts
        rw [if_neg Bool.false_ne_true]
        exact ⟨e2, by rw [ts]; exact hD2⟩
    · rintro H2 ⟨e2, hD2⟩
      exact q H2 D (e1.trans e2) hD2
  have two : ∀ (b0 b1 b2 b3 b4 b5 b6 : Bool) (p1 p2 : Addr) (H1 H2 : Hp) (k : L2.St → Hp → Prop), H p1 = none → H1 = upd H p1 (.lst [.bl b0, .bl b1, .bl b2, .bl b3]) → H1 p2 = none → H2 = upd H1 p2 (.lst [.bl b4, .bl b5, .bl b6]) →
      (∀ p H3, Ex H H3 → H3 p = some (.lst ([b0, b1, b2, b3, b4, b5, b6].map V.bl)) → k [some (.ref a), some (.ref p), none] H3) → rAddU (.ref p1) (.ref p2) H2 (fun x H3 => gName 1 x [some (.ref a), some (.ref p1), none] H3 k) := fun b0 b1 b2 b3 b4 b5 b6 p1 p2 H1 H2 k f1 e1 f2 e2 q => by
    have x1 := ex_new (o := .lst [.bl b0, .bl b1, .bl b2, .bl b3]) ex_refl f1
    rw [← e1] at x1
    have x2 := ex_new (o := .lst [.bl b4, .bl b5, .bl b6]) ex_refl f2
    rw [← e2] at x2
    have c1 : H2 p1 = some (.lst [.bl b0, .bl b1, .bl b2, .bl b3]) := x2 _ _ (by rw [e1, upd_same])
    have c2 : H2 p2 = some (.lst [.bl b4, .bl b5, .bl b6]) := by rw [e2, upd_same]
    refine w_addL c1 c2 (by show 7 ≤ sizeLine; exact sz100 (by decide)) fun p hp => ?_
    walk_at "s"
    exact q p _ ((x1.trans x2).trans (ex_new ex_refl hp)) upd_same
  walk_at "s"
  rcases h with ⟨rfl, q⟩ | ⟨rfl, q⟩ | ⟨rfl, q⟩
  · refine isX T.x_Full T.i_Full_Full ?_
    walk_at "s"
    refine isX T.x_Full T.i_Full_NoRow ?_
    walk_at "s"
    refine isX T.x_Full T.i_Full_Strange ?_
    walk_at "s"
    refine isX T.x_Full T.i_Full_NoBlock ?_
    walk_at "s"
    refine ⟨by show 4 ≤ sizeLine; exact sz100 (by decide), fun p1 hp1 => ?_⟩
    walk_at "s"
    refine isX T.x_Full T.i_Full_NoPlace ?_
    walk_at "s"
    refine isX T.x_Full T.i_Full_NoSum ?_
    walk_at "s"
    refine isXT T.x_Full T.i_Full_ValueError ?_
    walk_at "s"
    refine ⟨by show 3 ≤ sizeLine; exact sz100 (by decide), fun p2 hp2 => ?_⟩
    refine two true false false false false false false p1 p2 _ _ _ hp1 rfl hp2 rfl fun p H3 e3 c3 => ?_
    exact fin [true, false, false, false, false, false, false] p H3 rfl c3 e3 fun H' t e ht => q H' t e (by rw [ht]; rfl)
  · refine isX T.x_NoRow T.i_NoRow_Full ?_
    walk_at "s"
    refine isX T.x_NoRow T.i_NoRow_NoRow ?_
    walk_at "s"
    refine isX T.x_NoRow T.i_NoRow_Strange ?_
    walk_at "s"
    refine isX T.x_NoRow T.i_NoRow_NoBlock ?_
    walk_at "s"
    refine ⟨by show 4 ≤ sizeLine; exact sz100 (by decide), fun p1 hp1 => ?_⟩
    walk_at "s"
    refine isX T.x_NoRow T.i_NoRow_NoPlace ?_
    walk_at "s"
    refine isX T.x_NoRow T.i_NoRow_NoSum ?_
    walk_at "s"
    refine isXT T.x_NoRow T.i_NoRow_ValueError ?_
    walk_at "s"
    refine ⟨by show 3 ≤ sizeLine; exact sz100 (by decide), fun p2 hp2 => ?_⟩
    refine two false true false false false false false p1 p2 _ _ _ hp1 rfl hp2 rfl fun p H3 e3 c3 => ?_
    exact fin [false, true, false, false, false, false, false] p H3 rfl c3 e3 fun H' t e ht => q H' t e (by rw [ht]; rfl)
  · refine isX T.x_Strange T.i_Strange_Full ?_
    walk_at "s"
    refine isX T.x_Strange T.i_Strange_NoRow ?_
    walk_at "s"
    refine isX T.x_Strange T.i_Strange_Strange ?_
    walk_at "s"
    refine isX T.x_Strange T.i_Strange_NoBlock ?_
    walk_at "s"
    refine ⟨by show 4 ≤ sizeLine; exact sz100 (by decide), fun p1 hp1 => ?_⟩
    walk_at "s"
    refine isX T.x_Strange T.i_Strange_NoPlace ?_
    walk_at "s"
    refine isX T.x_Strange T.i_Strange_NoSum ?_
    walk_at "s"
    refine isXT T.x_Strange T.i_Strange_ValueError ?_
    walk_at "s"
    refine ⟨by show 3 ≤ sizeLine; exact sz100 (by decide), fun p2 hp2 => ?_⟩
    refine two false false true false false false false p1 p2 _ _ _ hp1 rfl hp2 rfl fun p H3 e3 c3 => ?_
    exact fin [false, false, true, false, false, false, false] p H3 rfl c3 e3 fun H' t e ht => q H' t e (by rw [ht]; rfl)
end Tw

namespace Ts
open PySem L2
def rInsert : V → List V → Hp → VK → Prop := fun x vs H Q => ∃ (l : Addr) (xs : List V) (i : Int) (y : V), x = .ref l ∧ vs = [.int i, y] ∧ H l = some (.lst xs) ∧ xs.length < sizeLine ∧ 0 ≤ i ∧ i < 2 ^ 63 ∧
    Q .non (upd H l (.lst (xs.take i.toNat ++ [y] ++ xs.drop i.toNat)))
theorem mt_insertL {X : Cx} : MtR X "list.insert" rInsert := mt_insert
theorem w_insert {l : Addr} {xs : List V} {i : Int} {y : V} {H : Hp} {Q : VK} (h : H l = some (.lst xs)) (hz : xs.length < sizeLine) (h0 : 0 ≤ i) (h1 : i < 2 ^ 63) (q : Q .non (upd H l (.lst (xs.take i.toNat ++ [y] ++ xs.drop i.toNat)))) : rInsert (.ref l) [.int i, y] H Q := ⟨l, xs, i, y, rfl, rfl, h, hz, h0, h1, q⟩
end Ts
namespace Tw
open PySem L2 Ts Mix
theorem rowV_ex {K : PySem.W.Frag} {H H' : Hp} {v : V} (h : RowV K H v) (e : Ex H H') : RowV K H' v := by
  rcases h with h | h | h | h | ⟨a, xs, h1, h2 | h2⟩
  · exact .inl h
  · exact .inr (.inl h)
  · exact .inr (.inr (.inl h))
  · exact .inr (.inr (.inr (.inl h)))
  · exact .inr (.inr (.inr (.inr ⟨a, xs, h1, .inl (sql_ex e h2)⟩)))
  · exact .inr (.inr (.inr (.inr ⟨a, xs, h1, .inr (sqt_ex e h2)⟩)))
/-- books of two ledgers -/
def Apart (c : Cs) (H : Hp) (b1 b2 : BR) : Prop := ∃ (L1 L2 e1 e2 : Addr) (f1 f2 : List (Str × V)), b1.Bo c H L1 ∧ b2.Bo c H L2 ∧ H L1 = some (.ins c.Ledger e1 f1) ∧ H L2 = some (.ins c.Ledger e2 f2) ∧ L1 ≠ L2
theorem Apart.to {c : Cs} {H : Hp} {b1 b2 : BR} {E : XK} (a : Apart c H b1 b2) (h : ∀ H', Ex H H' → E (.ref c.Strange) none H') : Stranger c H b1 b2 E := by
  obtain ⟨L1, L2, e1, e2, f1, f2, h1, h2, h3, h4, h5⟩ := a
  exact ⟨L1, L2, e1, e2, f1, f2, h1, h2, h3, h4, h5, h⟩
theorem Apart.ex {c : Cs} {H H' : Hp} {b1 b2 : BR} (a : Apart c H b1 b2) (e : Ex H H') : Apart c H' b1 b2 := by
  obtain ⟨L1, L2, e1, e2, f1, f2, h1, h2, h3, h4, h5⟩ := a
  exact ⟨L1, L2, e1, e2, f1, f2, BookAt.ex h1 e, BookAt.ex h2 e, e _ _ h3, e _ _ h4, h5⟩
def N_law_looked : List Str := ["_law_way", "_law_one", "_law_other", "_law_e"]
def t_law_looked (K : PySem.W.Frag) (c : Cs) (E : XK) : TS := (tSeq (fun D σ H => (fun (W1 : WX) => (tIfS (tTest (tOp (rEqU K) (tVar 0) (tC (.int 0)))) (tDrop (tCallS (sp_first_unlike K c) (WE W1) (tCons (tVar 1) (tCons (tVar 2) tNil)))) (tIfS (tTest (tOp (rEqU K) (tVar 0) (tC (.int 1)))) (tDrop (tCallS (sp_all_unlike K c) (WE W1) (tCons (tVar 1) (tCons (tVar 2) tNil)))) (tDrop (tCallS (sp_moves K c) (WE W1) (tCons (tVar 1) (tCons (tVar 2) tNil))))))) (wAs K (.ref c.TwinError) 3 (fun a cls d => (tRet (tCallE (sp_law_class K c) cls d a (tCons (tVar 3) tNil)))) (fun _ _ _ _ => False) D) D σ H)
  (tRet (tLst tNil)))
def sp_law_looked (K : PySem.W.Frag) (c : Cs) : Sp := fun vs H Q _ => ∃ (w : Nat) (b1 b2 : BR), vs = [.int (w : Nat), .ref b1.B, .ref b2.B] ∧
  (((∃ (L : Addr) (ths : List MK), TB c H L b1 b2 ths) ∧ ∀ H' t, Ex H H' → H' t = some (.lst []) → Q (.ref t) H') ∨ (Apart c H b1 b2 ∧ ∀ H' t, Ex H H' → H' t = some (.lst [.int 2]) → Q (.ref t) H'))
theorem len_law_looked {K c} : ∀ vs H Q E, sp_law_looked K c vs H Q E → vs.length = 3 := by rintro vs H Q E ⟨_, _, _, rfl, _⟩; rfl
theorem pure_law_looked {K : PySem.W.Frag} {c : Cs} {vs : List V} {H : Hp} {Q : VK} {E : XK} (T : TxK K c) (h : sp_law_looked K c vs H Q E) : t_law_looked K c E ⟨fun _ H' => Q .non H', Q, fun _ _ => False, fun _ _ => False⟩ (start N_law_looked vs) H := by
  obtain ⟨w, b1, b2, rfl, kind⟩ := h
  show t_law_looked K c E _ [some (.int (w : Nat)), some (.ref b1.B), some (.ref b2.B), none] H
  unfold t_law_looked
  have caught : ∀ {D : Ends} {a : Addr} {H1 : Hp}, D.rt = Q → Ex H H1 → (∀ H' t, Ex H H' → H' t = some (.lst [.int 2]) → Q (.ref t) H') →
      tRet (tCallE (sp_law_class K c) (.ref c.Strange) none a (tCons (tVar 3) tNil)) D [some (.int (w : Nat)), some (.ref b1.B), some (.ref b2.B), some (.ref a)] H1 := fun {D a H1} hD e1 q => by
    obtain ⟨nx, rt, bk, ct⟩ := D
    obtain rfl : rt = Q := hD
    walk_at "s"
    refine w_callE ?_
    walk_at "s"
    exact ⟨rfl, rfl, .inr (.inr ⟨rfl, fun H' t e ht => q H' t (e1.trans e) ht⟩)⟩
  walk_at "s"
  refine ite_d (fun h0 => ?_) fun h0 => ?_
  · walk_at "s"
    rcases kind with ⟨⟨L, ths, tb⟩, q⟩ | ⟨ap, q⟩
    · refine ⟨b1, b2, rfl, .inl ⟨L, ths, tb, fun H' t lk F => ?_⟩⟩
      walk_at "s"
      refine ⟨Nat.zero_le _, fun t ht => ?_⟩
      exact q _ t (ex_new F.ex' ht) upd_same
    · exact ⟨b1, b2, rfl, .inr (ap.to fun H1 e1 => ⟨true, T.m_Strange_TwinError, fun _ a ha => caught rfl e1 q, fun e => nomatch e⟩)⟩
  walk_at "s"
  refine ite_d (fun h1 => ?_) fun h1 => ?_
  · walk_at "s"
    rcases kind with ⟨⟨L, ths, tb⟩, q⟩ | ⟨ap, q⟩
    · refine ⟨b1, b2, rfl, .inl ⟨L, ths, tb, fun H' t pl lk F => ?_⟩⟩
      walk_at "s"
      refine ⟨Nat.zero_le _, fun t ht => ?_⟩
      exact q _ t (ex_new F.ex' ht) upd_same
    · exact ⟨b1, b2, rfl, .inr (ap.to fun H1 e1 => ⟨true, T.m_Strange_TwinError, fun _ a ha => caught rfl e1 q, fun e => nomatch e⟩)⟩
  · walk_at "s"
    rcases kind with ⟨⟨L, ths, tb⟩, q⟩ | ⟨ap, q⟩
    · refine ⟨b1, b2, rfl, .inl ⟨L, ths, tb, fun H' t S => ?_⟩⟩
      walk_at "s"
      refine ⟨Nat.zero_le _, fun t ht => ?_⟩
      exact q _ t (ex_new S.ex' ht) upd_same
    · exact ⟨b1, b2, rfl, .inr (ap.to fun H1 e1 => ⟨true, T.m_Strange_TwinError, fun _ a ha => caught rfl e1 q, fun e => nomatch e⟩)⟩
def N_law_book : List Str := ["_law_ledger", "_law_rows_here", "_law_e"]
def t_law_book (K : PySem.W.Frag) (c : Cs) (E : XK) : TS := (tSeq (fun D σ H => (fun (W1 : WX) => (tDrop (tMakeS c.Book (sp_Book_init K c) (WE W1) (tCons (tVar 0) (tCons (tVar 1) tNil))))) (wAs K (.ref c.TwinError) 2 (fun a cls d => (tRet (tCallE (sp_law_class K c) cls d a (tCons (tVar 2) tNil)))) (fun _ _ _ _ => False) D) D σ H)
  (tRet (tLst tNil)))
def sp_law_book (K : PySem.W.Frag) (c : Cs) : Sp := fun vs H Q _ => ∃ (L d l a : Addr) (ths : List MK) (xs ys : List V), vs = [.ref L, .ref a] ∧ LedgerAt c H L d l ths xs ∧ SqL K H a ys ∧ a ≠ d ∧ a ≠ l ∧ (∀ y ∈ ys, RowV K H y) ∧ ys.length ≤ 100000 ∧ ths.length < 500000 ∧
  (((∃ y ∈ ys, ¬ isRowV y) ∧ ∀ H' t, Ex H H' → H' t = some (.lst [.int 1]) → Q (.ref t) H') ∨ ((∀ y ∈ ys, isRowV y) ∧ 1024 < ys.length ∧ ∀ H' t, Ex H H' → H' t = some (.lst [.int 0]) → Q (.ref t) H'))
theorem len_law_book {K c} : ∀ vs H Q E, sp_law_book K c vs H Q E → vs.length = 2 := by rintro vs H Q E ⟨_, _, _, _, _, _, _, rfl, _⟩; rfl
theorem pure_law_book {K : PySem.W.Frag} {c : Cs} {vs : List V} {H : Hp} {Q : VK} {E : XK} (T : TxK K c) (h : sp_law_book K c vs H Q E) : t_law_book K c E ⟨fun _ H' => Q .non H', Q, fun _ _ => False, fun _ _ => False⟩ (start N_law_book vs) H := by
  obtain ⟨L, d, l, a, ths, xs, ys, rfl, La, ha, nad, nal, hy, hyl, hz, kind⟩ := h
  show t_law_book K c E _ [some (.ref L), some (.ref a), none] H
  unfold t_law_book
  walk_at "s"
  refine w_makeS ?_
  walk_at "s"
  intro x dx hx hdx ne
  have e1 : Ex H (upd (upd H dx (.own x)) x (.ins c.Book dx [])) := ex_new (ex_new ex_refl hdx) (by rw [upd_ne (Ne.symm ne)]; exact hx)
  refine ⟨x, dx, L, d, l, a, ths, xs, ys, rfl, upd_same, La.ex e1, sql_ex e1 ha, nad, nal, fun y m => rowV_ex (hy y m) e1, hyl, hz, fun bad => ?_, fun good gt => ?_, fun zs ez gz lz => ?_⟩
  · rcases kind with ⟨_, q⟩ | ⟨g, _⟩
    · refine ⟨true, T.m_NoRow_TwinError, fun _ a' ha' => ?_, fun e => nomatch e⟩
      show tRet _ _ [some (.ref L), some (.ref a), some (.ref a')] _
      walk_at "s"
      refine w_callE ?_
      walk_at "s"
      exact ⟨rfl, rfl, .inr (.inl ⟨rfl, fun H' t e ht => q H' t (e1.trans e) ht⟩)⟩
    · obtain ⟨y, m, n⟩ := bad
      exact absurd (g y m) n
  · rcases kind with ⟨⟨y, m, n⟩, _⟩ | ⟨_, _, q⟩
    · exact absurd (good y m) n
    · refine ⟨true, T.m_Full_TwinError, fun _ a' ha' => ?_, fun e => nomatch e⟩
      show tRet _ _ [some (.ref L), some (.ref a), some (.ref a')] _
      walk_at "s"
      refine w_callE ?_
      walk_at "s"
      exact ⟨rfl, rfl, .inl ⟨rfl, fun H' t e ht => q H' t (e1.trans e) ht⟩⟩
  · rcases kind with ⟨⟨y, m, n⟩, _⟩ | ⟨_, gt, _⟩
    · rw [ez] at m
      obtain ⟨z, hz, rfl⟩ := List.mem_map.mp m
      exact absurd ⟨z, rfl, gz z hz⟩ n
    · rw [ez, List.length_map] at gt
      omega
def N_law_added : List Str := ["_law_book_here", "_law_row", "_law_e"]
def t_law_added (K : PySem.W.Frag) (c : Cs) (E : XK) : TS := (tSeq (fun D σ H => (fun (W1 : WX) => (tDrop (tMethS c.Book "add" (sp_Book_add K c) (WE W1) (tVar 0) (tCons (tVar 1) tNil)))) (wAs K (.ref c.TwinError) 2 (fun a cls d => (tRet (tCallE (sp_law_class K c) cls d a (tCons (tVar 2) tNil)))) (fun _ _ _ _ => False) D) D σ H)
  (tRet (tLst tNil)))
def sp_law_added (K : PySem.W.Frag) (c : Cs) : Sp := fun vs H Q _ => ∃ (B L d l ln lv : Addr) (lvs : List Addr) (ths : List MK) (xs : List V) (rows : List Str) (levels : List (List Nat)) (v : V), vs = [.ref B, v] ∧ BS c H B L d l ln lv lvs ths xs rows levels ∧ BookInv ths rows levels ∧ RowV K H v ∧
  rows.length ≤ 1024 ∧ ths.length < 900000 ∧ (¬ isRowV v → ∀ H' t, Ex H H' → H' t = some (.lst [.int 1]) → Q (.ref t) H') ∧ (isRowV v → rows.length = 1024 → ∀ H' t, Ex H H' → H' t = some (.lst [.int 0]) → Q (.ref t) H') ∧
  ∀ z, v = .str z → Good z → rows.length < 1024 → ∀ H' xs' lvs' t, BS c H' B L d l ln lv lvs' (growM ths rows levels z).1 xs' (rows ++ [z]) (growM ths rows levels z).2.1 → BookInv (growM ths rows levels z).1 (rows ++ [z]) (growM ths rows levels z).2.1 → (growM ths rows levels z).1.length ≤ ths.length + 18 →
    H' t = some (.lst []) → Q (.ref t) H'
theorem len_law_added {K c} : ∀ vs H Q E, sp_law_added K c vs H Q E → vs.length = 2 := by rintro vs H Q E ⟨_, _, _, _, _, _, _, _, _, _, _, _, rfl, _⟩; rfl
theorem pure_law_added {K : PySem.W.Frag} {c : Cs} {vs : List V} {H : Hp} {Q : VK} {E : XK} (T : TxK K c) (h : sp_law_added K c vs H Q E) : t_law_added K c E ⟨fun _ H' => Q .non H', Q, fun _ _ => False, fun _ _ => False⟩ (start N_law_added vs) H := by
  obtain ⟨B, L, d, l, ln, lv, lvs, ths, xs, rows, levels, v, rfl, S, I, hv, hr, hz, k1, k2, k3⟩ := h
  show t_law_added K c E _ [some (.ref B), some v, none] H
  unfold t_law_added
  obtain ⟨dx, hB⟩ := S.ba.ob
  walk_at "s"
  refine w_methAt hB (bfl_no (by decide +kernel) (by decide +kernel) (by decide +kernel)) ?_
  walk_at "s"
  refine ⟨B, L, d, l, ln, lv, lvs, ths, xs, rows, levels, v, rfl, S, I, hv, hr, hz, fun n => ?_, fun y e => ?_, fun z ez gz lt H' xs' lvs' S' I' bc k w => ?_⟩
  · refine ⟨true, T.m_NoRow_TwinError, fun _ a' ha' => ?_, fun e => nomatch e⟩
    show tRet _ _ [some (.ref B), some v, some (.ref a')] _
    walk_at "s"
    refine w_callE ?_
    walk_at "s"
    exact ⟨rfl, rfl, .inr (.inl ⟨rfl, fun H' t e ht => k1 n H' t e ht⟩)⟩
  · refine ⟨true, T.m_Full_TwinError, fun _ a' ha' => ?_, fun e => nomatch e⟩
    show tRet _ _ [some (.ref B), some v, some (.ref a')] _
    walk_at "s"
    refine w_callE ?_
    walk_at "s"
    exact ⟨rfl, rfl, .inl ⟨rfl, fun H' t e' ht => k2 y e H' t e' ht⟩⟩
  · have low := bc.low (by omega)
    have gl := growM_len (ths := ths) (rows := rows) (levels := levels) (z := z)
    walk_at "s"
    refine ⟨Nat.zero_le _, fun t ht => ?_⟩
    have e := ex_new (o := .lst []) ex_refl ht
    exact k3 z ez gz lt _ xs' lvs' t (S'.ex e) I' (by omega) upd_same
end Tw

namespace Tw
open PySem L2 Ts Mix
theorem not_row {z : Str} (h : ¬ Good z) : ¬ isRowV (.str z) := by
  rintro ⟨w, e, g⟩
  cases e
  exact h g
theorem not_row' {v : V} (h : ∀ z, v ≠ .str z) : ¬ isRowV v := by
  rintro ⟨w, e, g⟩
  exact h w e
/-- a row that is none -/
def BadV (K : PySem.W.Frag) (H : Hp) (v : V) : Prop := RowV K H v ∧ ¬ isRowV v
theorem bad_str {K : PySem.W.Frag} {H : Hp} {z : Str} (hl : z.length ≤ sizeLine) (h : ¬ Good z) : BadV K H (.str z) := ⟨.inl ⟨z, rfl, hl⟩, not_row h⟩
theorem bad_non {K : PySem.W.Frag} {H : Hp} : BadV K H .non := ⟨.inr (.inr (.inl rfl)), not_row' fun z e => nomatch e⟩
theorem bad_tup {K : PySem.W.Frag} {H : Hp} {t : Addr} {xs : List V} (h : H t = some (.tup xs)) : BadV K H (.ref t) := ⟨.inr (.inr (.inr (.inr ⟨t, xs, rfl, .inr (sqt h)⟩))), not_row' fun z e => nomatch e⟩
theorem l41 : (repS "a" 41).length = 41 := by decide +kernel
theorem bad_41 {K : PySem.W.Frag} {H : Hp} : BadV K H (.str (repS "a" 41)) := bad_str (szM (by rw [l41]; decide)) fun g => by have := g.1; rw [l41] at this; omega
theorem bad_A {K : PySem.W.Frag} {H : Hp} : BadV K H (.str "A") := bad_str (by decide +kernel) (by decide +kernel)
theorem bad_n {K : PySem.W.Frag} {H : Hp} : BadV K H (.str "a\n") := bad_str (by decide +kernel) (by decide +kernel)
theorem bad_t {K : PySem.W.Frag} {H : Hp} : BadV K H (.str "\t") := bad_str (by decide +kernel) (by decide +kernel)
theorem isBc11 : IsBc 1024 1023 11 := ⟨by decide, by decide⟩
/-- lists of few whole numbers, told and due -/
theorem dp_few {K : PySem.W.Frag} {H : Hp} {t : Addr} {is : List Int} (h : H t = some (.lst (is.map V.int))) : Dp K H (.ref t) (.list (is.map PyData.int)) := .lst (sql h) (dpAll_ints is)
theorem w_ne1 {K : PySem.W.Frag} {H : Hp} {t u : Addr} {i : Int} {Q : VK} (h : H t = some (.lst [.int i])) (h' : H u = some (.lst [.int i])) (q : Q (.bl false) H) : rNeU K (.ref t) (.ref u) H Q := by
  have sh : SeqAt.shaped (.list [.int i]) = true := (eList eInt).shaped (by decide) [i] fun _ _ => trivial
  refine w_neD (d := .list [.int i]) (e := .list [.int i]) (dp_few (is := [i]) h) (dp_few (is := [i]) h') sh sh ?_
  rw [show PyData.eqv (.list [.int i]) (.list [.int i]) = true from ((eList eInt).eq [i] [i]).trans (decide_eq_true rfl)]
  exact q
theorem w_eq1 {K : PySem.W.Frag} {H : Hp} {t u : Addr} {i : Int} {Q : VK} (h : H t = some (.lst [.int i])) (h' : H u = some (.lst [.int i])) (q : Q (.bl true) H) : rEqU K (.ref t) (.ref u) H Q := by
  have sh : SeqAt.shaped (.list [.int i]) = true := (eList eInt).shaped (by decide) [i] fun _ _ => trivial
  refine w_eqD (d := .list [.int i]) (e := .list [.int i]) (dp_few (is := [i]) h) (dp_few (is := [i]) h') sh sh ?_
  rw [show PyData.eqv (.list [.int i]) (.list [.int i]) = true from ((eList eInt).eq [i] [i]).trans (decide_eq_true rfl)]
  exact q
theorem w_ne0 {K : PySem.W.Frag} {H : Hp} {t u : Addr} {Q : VK} (h : H t = some (.lst [])) (h' : H u = some (.lst [])) (q : Q (.bl false) H) : rNeU K (.ref t) (.ref u) H Q := by
  refine w_neD (d := .list []) (e := .list []) (dp_few (is := []) h) (dp_few (is := []) h') (by decide) (by decide) ?_
  exact q
theorem w_eq0 {K : PySem.W.Frag} {H : Hp} {t u : Addr} {Q : VK} (h : H t = some (.lst [])) (h' : H u = some (.lst [])) (q : Q (.bl true) H) : rEqU K (.ref t) (.ref u) H Q := by
  refine w_eqD (d := .list []) (e := .list []) (dp_few (is := []) h) (dp_few (is := []) h') (by decide) (by decide) ?_
  exact q
def N_law_long : List Str := ["_law_script", "_law_cell", "_law_ledger", "_law_many", "_law_k", "_law_rows_here", "_law_bad", "_law_book_here", "_law_given"]
def t_law_long (K : PySem.W.Frag) (c : Cs) (E : XK) : TS := (tSeq (tAsg (tMake c.Ledger (sp_Ledger_init K c) [] E0 tNil) (gName 2))
  (tSeq (tAsg (tOp rAddU (tC (.int 1020)) (tOp rMod (tVar 1) (tC (.int 7)))) (gName 3))
  (tSeq (tAsg (tLc (iRng1 (tCons (tVar 3) tNil)) (gName 4) tYes (tOp (rIx K) (tLst (tCons (tC (.str "a")) (tCons (tC (.str "bb")) (tCons (tC (.str "ccc")) tNil)))) (tOp rMod (tOp rAddU (tOp rDiv (tVar 1) (tC (.int 7))) (tOp rDiv (tVar 4) (tOp rAddU (tC (.int 1)) (tOp rMod (tOp rDiv (tVar 1) (tC (.int 21))) (tC (.int 5)))))) (tC (.int 3)))) [4]) (gName 5))
  (tSeq (tAsg (tCB (rListOf K) (tCons (tVar 5) tNil)) (gName 6))
  (tSeq (tAsg (tOp (rIx K) (tLst (tCons (tC (.str "A")) (tCons (tC .non) (tCons (tC (.str "a\n")) (tCons (tOp rMulS (tC (.str "a")) (tC (.int 41))) tNil))))) (tOp rMod (tOp rDiv (tVar 1) (tC (.int 7))) (tC (.int 4)))) (gSub (tVar 6) (tOp rMod (tCall (sp_law_mix K c) [] E0 (tCons (tVar 1) (tCons (tC (.int 5)) tNil))) (tVar 3)) rSetL))
  (tSeq (tIfS (tOr (tTest (tOp (rNeU K) (tCall (sp_law_book K c) [] E0 (tCons (tVar 2) (tCons (tVar 6) tNil))) (tLst (tCons (tC (.int 1)) tNil)))) (tTest (tOp (rNeU K) (tMeth c.Ledger "many" (sp_Ledger_many K c) [] E0 (tVar 2) tNil) (tC (.int 0))))) (tRet (tC (.bl false))) tNext)
  (tSeq (tIfS (tTest (tOp rGt (tVar 3) (tC (.int 1024)))) (tRet (tAndV (tOp (rEqU K) (tCall (sp_law_book K c) [] E0 (tCons (tVar 2) (tCons (tVar 5) tNil))) (tLst (tCons (tC (.int 0)) tNil))) (tOp (rEqU K) (tMeth c.Ledger "many" (sp_Ledger_many K c) [] E0 (tVar 2) tNil) (tC (.int 0))))) tNext)
  (tSeq (tAsg (tMake c.Book (sp_Book_init K c) [] E0 (tCons (tVar 2) (tCons (tVar 5) tNil))) (gName 7))
  (tSeq (tFor (iRng2 (tCons (tVar 3) (tCons (tC (.int 1024)) tNil))) (gName 4) (tIfS (tTest (tOp (rNeU K) (tCall (sp_law_added K c) [] E0 (tCons (tVar 7) (tCons (tC (.str "d")) tNil))) (tLst tNil))) (tRet (tC (.bl false))) tNext))
  (tSeq (tAsg (tMeth c.Ledger "many" (sp_Ledger_many K c) [] E0 (tVar 2) tNil) (gName 8))
  (tSeq (tIfS (tOr (tTest (tOp (rNeU K) (tCall (sp_law_added K c) [] E0 (tCons (tVar 7) (tCons (tC (.str "A")) tNil))) (tLst (tCons (tC (.int 1)) tNil)))) (tOr (tTest (tOp (rNeU K) (tCall (sp_law_added K c) [] E0 (tCons (tVar 7) (tCons (tC (.str "zzz")) tNil))) (tLst (tCons (tC (.int 0)) tNil)))) (tTest (tOp (rNeU K) (tMeth c.Ledger "many" (sp_Ledger_many K c) [] E0 (tVar 2) tNil) (tVar 8))))) (tRet (tC (.bl false))) tNext)
  (tRet (tAndV (tOp (rEqU K) (tMeth c.Book "count" (sp_Book_count K c) [] E0 (tVar 7) tNil) (tC (.int 1024))) (tAndV (tOp (rEqU K) (tMeth c.Book "cut" (sp_Book_cut K c) [] E0 (tVar 7) tNil) (tC (.int 11))) (tOp (rEqU K) (tCall (sp_law_added K c) [] E0 (tCons (tVar 7) (tCons (tC (.str "d")) tNil))) (tLst tNil))))))))))))))))
def sp_law_long (_ : PySem.W.Frag) (_ : Cs) : Sp := fun vs _ Q _ => ∃ (s : V) (n : Int), vs = [s, .int n] ∧ ∀ H', Q (.bl true) H'
theorem len_law_long {K c} : ∀ vs H Q E, sp_law_long K c vs H Q E → vs.length = 2 := by rintro vs H Q E ⟨_, _, rfl, _⟩; rfl
theorem pure_law_long {K : PySem.W.Frag} {c : Cs} {vs : List V} {H : Hp} {Q : VK} {E : XK} (T : TxK K c) (h : sp_law_long K c vs H Q E) : t_law_long K c E ⟨fun _ H' => Q .non H', Q, fun _ _ => False, fun _ _ => False⟩ (start N_law_long vs) H := by
  obtain ⟨s, n, rfl, q⟩ := h
  show t_law_long K c E _ [some s, some (.int n), none, none, none, none, none, none, none] H
  unfold t_law_long
  walk_at "s"
  refine new_ledger fun L d l H1 fL fd fl La e1 => ?_
  walk_at "s"
  obtain ⟨m, hm, hm1, hm2⟩ : ∃ m : Nat, 1020 + n % 7 = (m : Int) ∧ 1020 ≤ m ∧ m ≤ 1026 := ⟨(1020 + n % 7).toNat, by omega, by omega, by omega⟩
  rw [hm]
  refine ⟨_, rfl, by omega, by omega, fun D hD => ?_⟩
  have nDd := ne_new La.dc hD
  have nDl := ne_new La.ls hD
  refine lcb_range (n := ((m : Nat) : Int).toNat) (fun i H' => Ex H1 H' ∧ ∃ zs : List Str, zs.length = i ∧ (∀ z ∈ zs, Good z) ∧ H' D = some (.lst (zs.map V.str))) ⟨ex_new ex_refl hD, [], rfl, fun z hz => (nomatch hz), upd_same⟩ ?_ ?_
  · rintro i H2 hi ⟨e2, zs, hl, hg, hD2⟩
    show gName 4 _ [some s, some (.int n), some (.ref L), some (.int (m : Nat)), none, none, none, none, none] _ _
    walk_at "s"
    refine ⟨rfl, ?_⟩
    refine w_yes ?_
    rw [if_pos rfl]
    show tOp _ _ _ [some s, some (.int n), some (.ref L), some (.int (m : Nat)), some (.int (i : Nat)), none, none, none, none] _ _
    walk_at "s"
    refine ⟨by show 3 ≤ sizeLine; exact sz100 (by decide), fun p hp => ?_⟩
    walk_at "s"
    refine w_ixAny (sql upd_same) (by omega) (by show _ < ((3 : Nat) : Int); omega) fun v hv => ?_
    obtain ⟨y, rfl, gy⟩ : ∃ y : Str, v = .str y ∧ Good y := by
      simp only [List.mem_cons, List.not_mem_nil, or_false] at hv
      rcases hv with rfl | rfl | rfl
      all_goals exact ⟨_, rfl, by decide +kernel⟩
    have x2 := ex_new (o := .lst [.str "a", .str "bb", .str "ccc"]) ex_refl hp
    refine ⟨_, x2 _ _ hD2, by rw [List.length_map]; exact szL (by omega), ex_mut (e2.trans x2) hD, zs ++ [y], by simp [hl], good_snoc hg gy, by rw [upd_same, map_snoc]⟩
  rintro H2 ⟨e2, zs, hl, hg, hD2⟩
  rw [Int.toNat_natCast] at hl
  have La2 := La.ex e2
  clear La hD
  walk_at "s"
  refine w_listL (sql hD2) fun b hb => ?_
  have x3 := ex_new (o := .lst (zs.map V.str)) ex_refl hb
  have La3 := La2.ex x3
  have hD3 := x3 _ _ hD2
  have nbd := ne_new La2.dc hb
  have nbl := ne_new La2.ls hb
  have nDb := ne_new hD2 hb
  have cb : (upd H2 b (.lst (zs.map V.str))) b = some (.lst (zs.map V.str)) := upd_same
  generalize upd H2 b (.lst (zs.map V.str)) = H3 at x3 La3 hD3 cb
  clear La2 hD2 hb
  walk_at "s"
  refine w_mulS (by decide) (by decide) (by decide +kernel) (szM (by rw [l41]; decide)) ?_
  walk_at "s"
  refine ⟨by show 4 ≤ sizeLine; exact sz100 (by decide), fun p hp => ?_⟩
  have x4 := ex_new (o := .lst [.str "A", .non, .str "a\n", .str (repS "a" 41)]) ex_refl hp
  walk_at "s"
  refine w_ixAny (sql upd_same) (by omega) (by show _ < ((4 : Nat) : Int); omega) fun v hv => ?_
  have bad : ∀ {H'}, BadV K H' v := fun {H'} => by
    simp only [List.mem_cons, List.not_mem_nil, or_false] at hv
    rcases hv with rfl | rfl | rfl | rfl
    · exact bad_A
    · exact bad_non
    · exact bad_n
    · exact bad_41
  have La4 := La3.ex x4
  have hD4 := x4 _ _ hD3
  have cb4 := x4 _ _ cb
  generalize upd H3 p (.lst [.str "A", .non, .str "a\n", .str (repS "a" 41)]) = H4 at x4 La4 hD4 cb4
  clear La3 hD3 cb hp hv
  walk_at "s"
  refine ⟨n, 5, rfl, fun r _ => ?_⟩
  walk_at "s"
  rw [cast_mod]
  have hr : r % m < m := Nat.mod_lt _ (by omega)
  generalize r % m = j at hr
  refine w_setL cb4 (by rw [List.length_map, hl]; exact hr) ?_
  have k5 : Kp [b] H4 (upd H4 b (.lst ((zs.map V.str).set j v))) := Kp.refl.set (by simp)
  have La5 : LedgerAt c (upd H4 b (.lst ((zs.map V.str).set j v))) L d l [] [] := La4.kp T k5 fun x hx => by
    rw [List.mem_singleton.mp hx]
    exact ⟨Ne.symm nbd, Ne.symm nbl, fun o ho => by rw [cb4] at ho; cases ho; exact ⟨_, rfl⟩⟩
  have hD5 := k5 _ _ hD4 (by simpa using nDb)
  have cb5 : (upd H4 b (.lst ((zs.map V.str).set j v))) b = some (.lst ((zs.map V.str).set j v)) := upd_same
  generalize upd H4 b (.lst ((zs.map V.str).set j v)) = H5 at La5 hD5 cb5
  clear La4 hD4 cb4 k5
  walk_at "s"
  have slen : ((zs.map V.str).set j v).length = m := by rw [List.length_set, List.length_map, hl]
  refine ⟨L, d, l, b, [], [], (zs.map V.str).set j v, rfl, La5, sql cb5, Ne.symm nbd, Ne.symm nbl, fun y hy => ?_, by omega, by decide, .inl ⟨⟨v, List.mem_of_getElem? (i := j) (by rw [List.getElem?_set_self (by rw [List.length_map, hl]; exact hr)]), (bad (H' := H5)).2⟩, fun H6 t e6 ht => ?_⟩⟩
  · rcases List.mem_or_eq_of_mem_set hy with hy | hy
    · obtain ⟨z, hz, rfl⟩ := List.mem_map.mp hy
      exact rowV_good (hg z hz)
    · rw [hy]; exact bad.1
  walk_at "s"
  refine ⟨by show 1 ≤ sizeLine; exact sz100 (by decide), fun u hu => ?_⟩
  have x7 := ex_new (o := .lst [.int 1]) ex_refl hu
  refine w_ne1 (i := 1) (x7 _ _ ht) upd_same ?_
  have La7 := La5.ex (e6.trans x7)
  have hD7 := (e6.trans x7) _ _ hD5
  generalize upd H6 u (.lst [.int 1]) = H7 at La7 hD7
  clear La5 hD5 cb5 x7
  obtain ⟨dx7, hL7⟩ := La7.ob
  walk_at "s"
  refine iteF ?_
  walk_at "s"
  refine w_methAt hL7 (lfl_no (by decide +kernel) (by decide +kernel)) ?_
  walk_at "s"
  refine ⟨L, d, l, [], [], rfl, La7, by decide, ?_⟩
  walk_at "s"
  refine iteF ?_
  walk_at "s"
  refine ite_d (fun h0 => ?_) fun h0 => ?_
  · walk_at "s"
    refine ⟨L, d, l, D, [], [], zs.map V.str, rfl, La7, sql hD7, Ne.symm nDd, Ne.symm nDl, fun y hy => ?_, by rw [List.length_map]; omega, by decide, .inr ⟨fun y hy => ?_, by rw [List.length_map]; omega, fun H8 t e8 ht => ?_⟩⟩
    · obtain ⟨z, hz, rfl⟩ := List.mem_map.mp hy
      exact rowV_good (hg z hz)
    · obtain ⟨z, hz, rfl⟩ := List.mem_map.mp hy
      exact ⟨z, rfl, hg z hz⟩
    walk_at "s"
    refine ⟨by show 1 ≤ sizeLine; exact sz100 (by decide), fun u hu => ?_⟩
    have x9 := ex_new (o := .lst [.int 0]) ex_refl hu
    refine w_eq1 (i := 0) (x9 _ _ ht) upd_same ?_
    have La9 := La7.ex (e8.trans x9)
    generalize upd H8 u (.lst [.int 0]) = H9 at La9
    obtain ⟨dx9, hL9⟩ := La9.ob
    walk_at "s"
    refine iteT ?_
    walk_at "s"
    refine w_methAt hL9 (lfl_no (by decide +kernel) (by decide +kernel)) ?_
    walk_at "s"
    refine ⟨L, d, l, [], [], rfl, La9, by decide, ?_⟩
    walk_at "s"
    exact q _
  walk_at "s"
  refine new_book La7 hD7 T ⟨Ne.symm nDd, Ne.symm nDl⟩ hg (by omega) (by decide) fun B ln lv lvs xs' H8 hB hf S I k hbd => ?_
  have hbd : (growsM [] [] [] zs).1.length ≤ 17442 := by
    have h1 : (growsM [] [] [] zs).1.length ≤ ([] : List MK).length + 17 * zs.length := hbd
    have h2 : ([] : List MK).length = 0 := rfl
    omega
  generalize (growsM [] [] [] zs).1 = th at S I hbd
  generalize (growsM [] [] [] zs).2 = levels at S I
  clear k hf hB La7 hD7
  walk_at "s"
  refine w_iR2v (by omega) ?_
  refine lb_range (lo := (m : Nat)) (n := ((1024 : Int) - (m : Nat)).toNat) (fun i σ H' => (∃ v4, σ = [some s, some (.int n), some (.ref L), some (.int (m : Nat)), v4, some (.ref D), some (.ref b), some (.ref B), none]) ∧ ∃ (lvs : List Addr) (ths : List MK) (xs : List V) (rows : List Str) (levels : List (List Nat)), BS c H' B L d l ln lv lvs ths xs rows levels ∧ BookInv ths rows levels ∧
      rows.length = m + i ∧ ths.length ≤ 17442 + 18 * i) ⟨⟨_, rfl⟩, lvs, th, xs', zs, levels, S, I, by omega, by omega⟩ ?_ ?_
  · rintro i σ H9 hi ⟨⟨v4, rfl⟩, lvs, ths, xs, rows, levels, S, I, hrl, htl⟩
    walk_at "s"
    have gd : Good "d" := by decide +kernel
    refine ⟨B, L, d, l, ln, lv, lvs, ths, xs, rows, levels, .str "d", rfl, S, I, rowV_good gd, by omega, by omega, fun n => absurd ⟨_, rfl, gd⟩ n, fun _ e => absurd e (by omega), fun z ez gz _ H10 xs' lvs' t S' I' hl' ht => ?_⟩
    cases ez
    walk_at "s"
    refine ⟨Nat.zero_le _, fun u hu => ?_⟩
    have x11 := ex_new (o := .lst []) ex_refl hu
    refine w_ne0 (x11 _ _ ht) upd_same ?_
    walk_at "s"
    refine iteF ?_
    walk_at "s"
    exact ⟨⟨_, rfl⟩, lvs', _, xs', _, _, S'.ex x11, I', by rw [List.length_append, hrl]; simp; omega, by omega⟩
  rintro σ H9 ⟨⟨v4, rfl⟩, lvs, ths, xs, rows, levels, S, I, hrl, htl⟩
  have hrl : rows.length = 1024 := by omega
  have htl : ths.length ≤ 18000 := by omega
  obtain ⟨dx9, hL9⟩ := S.la.ob
  walk_at "s"
  refine w_methAt hL9 (lfl_no (by decide +kernel) (by decide +kernel)) ?_
  walk_at "s"
  refine ⟨L, d, l, ths, xs, rfl, S.la, by omega, ?_⟩
  walk_at "s"
  have bA : BadV K H9 (.str "A") := bad_A
  refine ⟨B, L, d, l, ln, lv, lvs, ths, xs, rows, levels, .str "A", rfl, S, I, bA.1, by omega, by omega, fun _ H10 t e10 ht => ?_, fun y _ => absurd y bA.2, fun z ez gz lt => absurd lt (by omega)⟩
  walk_at "s"
  refine ⟨by show 1 ≤ sizeLine; exact sz100 (by decide), fun u hu => ?_⟩
  have x11 := ex_new (o := .lst [.int 1]) ex_refl hu
  refine w_ne1 (i := 1) (x11 _ _ ht) upd_same ?_
  have S11 := S.ex (e10.trans x11)
  generalize upd H10 u (.lst [.int 1]) = H11 at S11
  walk_at "s"
  refine iteF ?_
  walk_at "s"
  have gz : Good "zzz" := by decide +kernel
  refine ⟨B, L, d, l, ln, lv, lvs, ths, xs, rows, levels, .str "zzz", rfl, S11, I, rowV_good gz, by omega, by omega, fun n => absurd ⟨_, rfl, gz⟩ n, fun _ _ H12 t e12 ht => ?_, fun z ez gz lt => absurd lt (by omega)⟩
  walk_at "s"
  refine ⟨by show 1 ≤ sizeLine; exact sz100 (by decide), fun u hu => ?_⟩
  have x13 := ex_new (o := .lst [.int 0]) ex_refl hu
  refine w_ne1 (i := 0) (x13 _ _ ht) upd_same ?_
  have S13 := S11.ex (e12.trans x13)
  generalize upd H12 u (.lst [.int 0]) = H13 at S13
  obtain ⟨dx13, hL13⟩ := S13.la.ob
  obtain ⟨dy13, hB13⟩ := S13.ba.ob
  walk_at "s"
  refine iteF ?_
  walk_at "s"
  refine w_methAt hL13 (lfl_no (by decide +kernel) (by decide +kernel)) ?_
  walk_at "s"
  refine ⟨L, d, l, ths, xs, rfl, S13.la, by omega, ?_⟩
  walk_at "s"
  rw [decide_eq_true rfl]
  refine iteF ?_
  walk_at "s"
  refine w_methAt hB13 (bfl_no (by decide +kernel) (by decide +kernel) (by decide +kernel)) ?_
  walk_at "s"
  refine ⟨B, L, ln, lv, lvs, rows, levels, rfl, S13.ba, ?_⟩
  rw [hrl]
  walk_at "s"
  refine iteT ?_
  walk_at "s"
  refine w_methAt hB13 (bfl_no (by decide +kernel) (by decide +kernel) (by decide +kernel)) ?_
  walk_at "s"
  refine ⟨B, L, d, l, ln, lv, lvs, ths, xs, rows, levels, rfl, S13, I, by omega, fun e => by rw [e] at hrl; simp at hrl, fun _ H14 levels' k S14 I14 bc _ => ?_⟩
  have hk : k = 11 := by
    rw [hrl] at bc
    exact bc.one isBc11
  subst hk
  walk_at "s"
  refine iteT ?_
  walk_at "s"
  have gd : Good "d" := by decide +kernel
  have dl : rows.dropLast.length = 1023 := by rw [List.length_dropLast, hrl]
  refine ⟨B, L, d, l, ln, lv, lvs, ths, xs, rows.dropLast, levels', .str "d", rfl, S14, I14, rowV_good gd, by omega, by omega, fun n => absurd ⟨_, rfl, gd⟩ n, fun _ e => absurd e (by omega), fun z ez gz _ H15 xs' lvs' t S' I' hl' ht => ?_⟩
  walk_at "s"
  refine ⟨Nat.zero_le _, fun u hu => ?_⟩
  exact w_eq0 (ex_new (o := .lst []) ex_refl hu _ _ ht) upd_same (q _)
end Tw

namespace Tw
open PySem L2 Ts Mix
theorem LedgerAt.kpD {K : PySem.W.Frag} {c : Cs} {H H' : Hp} {p d l p' d' l' : Addr} {ths ths' : List MK} {vs vs' : List V} (T : TxK K c) (L : LedgerAt c H p d l ths vs) (L' : LedgerAt c H p' d' l' ths' vs') (k : Kp [d', l'] H H') (hd : d ∉ [d', l']) (hl : l ∉ [d', l']) : LedgerAt c H' p d l ths vs := by
  have s : ∀ x ∈ [d', l'], ∀ o, H x = some o → (∃ ys, o = .lst ys) ∨ ∃ φ, o = .ext φ := fun x hx o ho => by
    rcases List.mem_cons.mp hx with e | hx
    · obtain ⟨φ, e2⟩ := T.md d' (ents 0 ths' vs')
      have := L'.dc
      rw [← e, ho] at this
      cases this
      rw [← e] at e2
      exact .inr ⟨φ, e2⟩
    · have := L'.ls
      rw [← List.mem_singleton.mp hx, ho] at this
      cases this
      exact .inl ⟨_, rfl⟩
  obtain ⟨dx, hp⟩ := L.ob
  refine ⟨⟨dx, k _ _ hp fun z => ?_⟩, k _ _ L.dc hd, k _ _ L.ls hl, paired_imp L.kv fun a b q => k.keyV q fun x o hx ho => ?_, L.nd⟩
  · rcases s _ z _ hp with ⟨_, e⟩ | ⟨_, e⟩ <;> cases e
  · rcases s _ hx _ ho with ⟨_, e⟩ | ⟨_, e⟩
    · rw [e]; rintro ⟨_, e2⟩; cases e2
    · rw [e]; rintro ⟨_, e2⟩; cases e2
def brAt (B ln lv : Addr) (lvs : List Addr) (rows : List Str) (levels : List (List Nat)) : BR := ⟨B, ln, lv, ln, lvs, rows, levels⟩
theorem mem2 {x a b : Addr} (h : x ∈ [a, b]) : x = a ∨ x = b := by simpa using h
def N_law : List Str := ["_law_script", "_law_cell", "_law_rows_here", "_law_others", "_law_ledgers", "_law_books", "_law_way", "_law_given", "_law_bad"]
def t_law (K : PySem.W.Frag) (c : Cs) (E : XK) : TS := (tSeq (tAsg (tCall (sp_law_cell_at K c) [] E0 (tCons (tVar 0) (tCons (tC (.int 2)) tNil))) (gName 1))
  (tSeq (tIfS (tTest (tOp (rEqU K) (tOp rMod (tVar 1) (tC (.int 4))) (tC (.int 1)))) (tRet (tCall (sp_law_long K c) [] E0 (tCons (tVar 0) (tCons (tOp rDiv (tVar 1) (tC (.int 4))) tNil)))) tNext)
  (tSeq (tAsg (tCall (sp_law_rows K c) [] E0 (tCons (tCall (sp_law_cell_at K c) [] E0 (tCons (tVar 0) (tCons (tC (.int 0)) tNil))) (tCons (tCall (sp_law_cell_at K c) [] E0 (tCons (tVar 0) (tCons (tC (.int 1)) tNil))) tNil))) (gName 2))
  (tSeq (tAsg (tCall (sp_law_rows K c) [] E0 (tCons (tCall (sp_law_cell_at K c) [] E0 (tCons (tVar 0) (tCons (tC (.int 0)) tNil))) (tCons (tOp rAddU (tCall (sp_law_cell_at K c) [] E0 (tCons (tVar 0) (tCons (tC (.int 1)) tNil))) (tOp rMod (tOp rDiv (tVar 1) (tC (.int 4))) (tC (.int 2)))) tNil))) (gName 3))
  (tSeq (tAsg (tLst (tCons (tMake c.Ledger (sp_Ledger_init K c) [] E0 tNil) (tCons (tMake c.Ledger (sp_Ledger_init K c) [] E0 tNil) tNil))) (gName 4))
  (tSeq (tAsg (tLst (tCons (tMake c.Book (sp_Book_init K c) [] E0 (tCons (tOp (rIx K) (tVar 4) (tC (.int 0))) (tCons (tVar 2) tNil))) (tCons (tMake c.Book (sp_Book_init K c) [] E0 (tCons (tOp (rIx K) (tVar 4) (tC (.int 1))) (tCons (tVar 3) tNil))) (tCons (tMake c.Book (sp_Book_init K c) [] E0 (tCons (tOp (rIx K) (tVar 4) (tC (.int 0))) (tCons (tVar 3) tNil))) tNil)))) (gName 5))
  (tSeq (tFor (iRng1 (tCons (tC (.int 3)) tNil)) (gName 6) (tSeq (tIfS (tOr (tTest (tOp (rNeU K) (tCall (sp_law_looked K c) [] E0 (tCons (tVar 6) (tCons (tOp (rIx K) (tVar 5) (tC (.int 0))) (tCons (tOp (rIx K) (tVar 5) (tC (.int 1))) tNil)))) (tLst (tCons (tC (.int 2)) tNil)))) (tTest (tOp (rNeU K) (tCall (sp_law_looked K c) [] E0 (tCons (tVar 6) (tCons (tOp (rIx K) (tVar 5) (tC (.int 1))) (tCons (tOp (rIx K) (tVar 5) (tC (.int 2))) tNil)))) (tLst (tCons (tC (.int 2)) tNil))))) (tRet (tC (.bl false))) tNext)
  (tIfS (tOr (tTest (tOp (rNeU K) (tCall (sp_law_looked K c) [] E0 (tCons (tVar 6) (tCons (tOp (rIx K) (tVar 5) (tC (.int 0))) (tCons (tOp (rIx K) (tVar 5) (tC (.int 2))) tNil)))) (tLst tNil))) (tTest (tOp (rNeU K) (tCall (sp_law_looked K c) [] E0 (tCons (tVar 6) (tCons (tOp (rIx K) (tVar 5) (tC (.int 1))) (tCons (tOp (rIx K) (tVar 5) (tC (.int 1))) tNil)))) (tLst tNil)))) (tRet (tC (.bl false))) tNext)))
  (tSeq (tAsg (tMeth c.Ledger "many" (sp_Ledger_many K c) [] E0 (tOp (rIx K) (tVar 4) (tC (.int 0))) tNil) (gName 7))
  (tSeq (tAsg (tCB (rListOf K) (tCons (tVar 2) tNil)) (gName 8))
  (tSeq (tDrop (tBM K "list" rInsert (tVar 8) (tCons (tOp rMod (tOp rDiv (tVar 1) (tC (.int 8))) (tOp rAddU (tC (.int 1)) (tCB (Ts.rLen K) (tCons (tVar 2) tNil)))) (tCons (tOp (rIx K) (tLst (tCons (tC (.str "A")) (tCons (tC .non) (tCons (tC (.str "a\n")) (tCons (tOp rMulS (tC (.str "a")) (tC (.int 41))) (tCons (tTup (tCons (tC (.str "a")) tNil)) (tCons (tC (.str "\t")) tNil))))))) (tOp rMod (tOp rDiv (tVar 1) (tC (.int 8))) (tC (.int 6)))) tNil))))
  (tRet (tAndV (tOp (rEqU K) (tCall (sp_law_book K c) [] E0 (tCons (tOp (rIx K) (tVar 4) (tC (.int 0))) (tCons (tVar 8) tNil))) (tLst (tCons (tC (.int 1)) tNil))) (tAndV (tOp (rEqU K) (tMeth c.Ledger "many" (sp_Ledger_many K c) [] E0 (tOp (rIx K) (tVar 4) (tC (.int 0))) tNil) (tVar 7)) (tOp (rEqU K) (tMeth c.Book "rows" (sp_Book_rows K c) [] E0 (tOp (rIx K) (tVar 5) (tC (.int 0))) tNil) (tVar 2)))))))))))))))
def sp_law (K : PySem.W.Frag) (_ : Cs) : Sp := fun vs H Q _ => ∃ (a : Addr) (ns : List Int), vs = [.ref a] ∧ SqL K H a (ns.map V.int) ∧ ns.length ≤ 63 ∧ ∀ H', Q (.bl true) H'
theorem len_law {K c} : ∀ vs H Q E, sp_law K c vs H Q E → vs.length = 1 := by rintro vs H Q E ⟨a, ns, rfl, _⟩; rfl
theorem pure_law {K : PySem.W.Frag} {c : Cs} {vs : List V} {H : Hp} {Q : VK} {E : XK} (T : TxK K c) (h : sp_law K c vs H Q E) : t_law K c E ⟨fun _ H' => Q .non H', Q, fun _ _ => False, fun _ _ => False⟩ (start N_law vs) H := by
  obtain ⟨s, ns, rfl, hs, hlen, q⟩ := h
  show t_law K c E _ [some (.ref s), none, none, none, none, none, none, none, none] H
  unfold t_law
  walk_at "s"
  refine ⟨s, ns, 2, rfl, hs, fun n => ?_⟩
  walk_at "s"
  refine ite_d (fun h0 => ?_) fun h0 => ?_
  · walk_at "s"
    exact ⟨_, _, rfl, q⟩
  walk_at "s"
  refine ⟨s, ns, 0, rfl, hs, fun c0 => ?_⟩
  walk_at "s"
  refine ⟨s, ns, 1, rfl, hs, fun c1 => ?_⟩
  walk_at "s"
  refine ⟨c0, c1, rfl, fun a zs H1 N hz => ?_⟩
  have ca := N.at'
  have e1 := N.ex
  have zg := N.good
  have fa := N.new
  clear N
  walk_at "s"
  refine ⟨s, ns, 0, rfl, sql_ex e1 hs, fun c2 => ?_⟩
  walk_at "s"
  refine ⟨s, ns, 1, rfl, sql_ex e1 hs, fun c3 => ?_⟩
  walk_at "s"
  refine ⟨c2, _, rfl, fun o ws H2 M hw => ?_⟩
  have co := M.at'
  have x2 := M.ex
  have wg := M.good
  have fo := M.new
  clear M
  have ca := x2 _ _ ca
  walk_at "s"
  refine new_ledger fun L0 d0 l0 H3 fL0 fd0 fl0 La0 x3 => ?_
  have ca := x3 _ _ ca
  have co := x3 _ _ co
  walk_at "s"
  refine new_ledger fun L1 d1 l1 H4 fL1 fd1 fl1 La1 x4 => ?_
  have ca4 := x4 _ _ ca
  have co4 := x4 _ _ co
  have La04 := La0.ex x4
  walk_at "s"
  refine ⟨by show 2 ≤ sizeLine; exact sz100 (by decide), fun Lg hLg => ?_⟩
  have x5 := ex_new (o := .lst [.ref L0, .ref L1]) ex_refl hLg
  have cL : (upd H4 Lg (.lst [.ref L0, .ref L1])) Lg = some (.lst [.ref L0, .ref L1]) := upd_same
  -- what is apart
  have nL : L0 ≠ L1 := by
    obtain ⟨dx, h⟩ := La0.ob
    exact ne_new h fL1
  have g1 := ne_new La0.dc fd1
  have g2 := ne_new La0.dc fl1
  have g3 := ne_new La0.ls fd1
  have g4 := ne_new La0.ls fl1
  have a0 : a ≠ d0 ∧ a ≠ l0 := ⟨ne_new (x2 _ _ (by exact (show H1 a = some _ from ‹H1 a = some (.lst (zs.map V.str))›))) fd0, ne_new (x2 _ _ ‹H1 a = some (.lst (zs.map V.str))›) fl0⟩
  have o0 : o ≠ d0 ∧ o ≠ l0 := ⟨ne_new ‹H2 o = some (.lst (ws.map V.str))› fd0, ne_new ‹H2 o = some (.lst (ws.map V.str))› fl0⟩
  have a1 : a ≠ d1 ∧ a ≠ l1 := ⟨ne_new ca fd1, ne_new ca fl1⟩
  have o1 : o ≠ d1 ∧ o ≠ l1 := ⟨ne_new co fd1, ne_new co fl1⟩
  have q0 : Lg ≠ d0 ∧ Lg ≠ l0 := ⟨Ne.symm (ne_new La04.dc hLg), Ne.symm (ne_new La04.ls hLg)⟩
  have q1 : Lg ≠ d1 ∧ Lg ≠ l1 := ⟨Ne.symm (ne_new La1.dc hLg), Ne.symm (ne_new La1.ls hLg)⟩
  have La05 := La04.ex x5
  have La15 := La1.ex x5
  have ca5 := x5 _ _ ca4
  have co5 := x5 _ _ co4
  generalize upd H4 Lg (.lst [.ref L0, .ref L1]) = H5 at x5 cL La05 La15 ca5 co5
  clear ca4 co4 La04 La0 La1 x4 x5 hLg fL1 fd1 fl1 fL0 fd0 fl0
  walk_at "s"
  -- the first book
  refine w_ixL (v := .ref L0) (sql cL) rfl ?_
  walk_at "s"
  refine new_book La05 ca5 T a0 zg (by omega) (by show 0 < 500000; decide) fun B0 ln0 lv0 lvs0 xs0 H6 hB0 hf0 S0 I0 k6 hb0 => ?_
  have no6 : ∀ {x : Addr}, x ≠ d0 ∧ x ≠ l0 → x ∉ [d0, l0] := fun n z => by
    rcases mem2 z with e | e
    · exact n.1 e
    · exact n.2 e
  have no7 : ∀ {x : Addr}, x ≠ d1 ∧ x ≠ l1 → x ∉ [d1, l1] := fun n z => by
    rcases mem2 z with e | e
    · exact n.1 e
    · exact n.2 e
  have ca6 := k6 _ _ ca5 (no6 a0)
  have co6 := k6 _ _ co5 (no6 o0)
  have cL6 := k6 _ _ cL (no6 q0)
  have La16 := La15.kpD T La05 k6 (no6 ⟨Ne.symm g1, Ne.symm g3⟩) (no6 ⟨Ne.symm g2, Ne.symm g4⟩)
  have nB0 : B0 ≠ d1 ∧ B0 ≠ l1 := ⟨Ne.symm (ne_new La15.dc hB0), Ne.symm (ne_new La15.ls hB0)⟩
  have nf0 : ∀ x ∈ ln0 :: lv0 :: lvs0, x ≠ d1 ∧ x ≠ l1 := fun x hx => ⟨Ne.symm (ne_new La15.dc (hf0 x hx)), Ne.symm (ne_new La15.ls (hf0 x hx))⟩
  have t0 : (growsM [] [] [] zs).1.length ≤ 15300 := by
    have h1 : (growsM [] [] [] zs).1.length ≤ ([] : List MK).length + 17 * zs.length := hb0
    have h2 : ([] : List MK).length = 0 := rfl
    omega
  generalize (growsM [] [] [] zs).1 = th0 at S0 I0 t0
  generalize (growsM [] [] [] zs).2 = lev0 at S0 I0
  clear ca5 co5 cL La05 La15 hB0 hf0 hb0 k6
  walk_at "s"
  -- the second one
  refine w_ixL (v := .ref L1) (sql cL6) rfl ?_
  walk_at "s"
  refine new_book La16 co6 T o1 wg (by omega) (by show 0 < 500000; decide) fun B1 ln1 lv1 lvs1 xs1 H7 hB1 hf1 S1 I1 k7 hb1 => ?_
  have ca7 := k7 _ _ ca6 (no7 a1)
  have co7 := k7 _ _ co6 (no7 o1)
  have cL7 := k7 _ _ cL6 (no7 q1)
  have La07 := S0.la.kpD T La16 k7 (no7 ⟨g1, g2⟩) (no7 ⟨g3, g4⟩)
  have Ba07 : BookAt c H7 B0 L0 ln0 lv0 lvs0 zs lev0 := S0.ba.kp k7 (fun x hx z => by
    have := nf0 x z
    rcases mem2 hx with e | e
    · exact this.1 e
    · exact this.2 e) (no7 nB0)
  have nB1 : B1 ≠ d0 ∧ B1 ≠ l0 := ⟨Ne.symm (ne_new S0.la.dc hB1), Ne.symm (ne_new S0.la.ls hB1)⟩
  have nf1 : ∀ x ∈ ln1 :: lv1 :: lvs1, x ≠ d0 ∧ x ≠ l0 := fun x hx => ⟨Ne.symm (ne_new S0.la.dc (hf1 x hx)), Ne.symm (ne_new S0.la.ls (hf1 x hx))⟩
  have sd0 := S0.dl
  have nB0d : B0 ∉ [d0, l0] := fun z => by
    obtain ⟨dx, h⟩ := S0.ba.ob
    rcases mem2 z with e | e
    · obtain ⟨φ, e2⟩ := T.md d0 (ents 0 th0 xs0)
      have := S0.la.dc
      rw [e2, ← e, h] at this
      cases this
    · have := S0.la.ls
      rw [← e, h] at this
      cases this
  generalize (growsM [] [] [] ws).1 = th1 at S1 I1
  generalize (growsM [] [] [] ws).2 = lev1 at S1 I1
  clear ca6 co6 cL6 La16 hB1 hf1 hb1 k7 S0
  walk_at "s"
  -- the third one
  refine w_ixL (v := .ref L0) (sql cL7) rfl ?_
  walk_at "s"
  refine new_book La07 co7 T o0 wg (by omega) (by omega) fun B2 ln2 lv2 lvs2 xs2 H8 hB2 hf2 S2 I2 k8 hb2 => ?_
  have ca8 := k8 _ _ ca7 (no6 a0)
  have cL8 := k8 _ _ cL7 (no6 q0)
  have La18 := S1.la.kpD T La07 k8 (no6 ⟨Ne.symm g1, Ne.symm g3⟩) (no6 ⟨Ne.symm g2, Ne.symm g4⟩)
  have Ba08 : BookAt c H8 B0 L0 ln0 lv0 lvs0 zs lev0 := Ba07.kp k8 (fun x hx z => by
    rcases mem2 hx with e | e
    · exact sd0.1 (by rw [← e]; exact z)
    · exact sd0.2 (by rw [← e]; exact z)) nB0d
  have Ba18 : BookAt c H8 B1 L1 ln1 lv1 lvs1 ws lev1 := S1.ba.kp k8 (fun x hx z => by
    have := nf1 x z
    rcases mem2 hx with e | e
    · exact this.1 e
    · exact this.2 e) (no6 nB1)
  have I02 := I0.mono (growsM_pre ws [] th0 [])
  have t2 : (growsM th0 [] [] ws).1.length ≤ 31000 := by omega
  generalize (growsM th0 [] [] ws).1 = th2 at S2 I2 I02 t2
  generalize (growsM th0 [] [] ws).2 = lev2 at S2 I2
  clear ca7 co7 cL7 La07 hB2 hf2 hb2 k8 S1 Ba07
  walk_at "s"
  refine ⟨by show 3 ≤ sizeLine; exact sz100 (by decide), fun bl hbl => ?_⟩
  have x9 := ex_new (o := .lst [.ref B0, .ref B1, .ref B2]) ex_refl hbl
  have cb : (upd H8 bl (.lst [.ref B0, .ref B1, .ref B2])) bl = some (.lst [.ref B0, .ref B1, .ref B2]) := upd_same
  have ca9 := x9 _ _ ca8
  have cL9 := x9 _ _ cL8
  have La19 := La18.ex x9
  have S29 := S2.ex x9
  have Ba09 := Ba08.ex x9
  have Ba19 := Ba18.ex x9
  generalize upd H8 bl (.lst [.ref B0, .ref B1, .ref B2]) = H9 at x9 cb ca9 cL9 La19 S29 Ba09 Ba19
  clear ca8 cL8 La18 S2 Ba08 Ba18 hbl x9
  -- the pairs
  have La2 := S29.la
  obtain ⟨dxa, hLa⟩ := La2.ob
  obtain ⟨dxb, hLb⟩ := La19.ob
  have p01 : Apart c H9 (brAt B0 ln0 lv0 lvs0 zs lev0) (brAt B1 ln1 lv1 lvs1 ws lev1) := ⟨L0, L1, dxa, dxb, _, _, Ba09, Ba19, hLa, hLb, nL⟩
  have p12 : Apart c H9 (brAt B1 ln1 lv1 lvs1 ws lev1) (brAt B2 ln2 lv2 lvs2 ws lev2) := ⟨L1, L0, dxb, dxa, _, _, Ba19, S29.ba, hLb, hLa, Ne.symm nL⟩
  have p02 : TB c H9 L0 (brAt B0 ln0 lv0 lvs0 zs lev0) (brAt B2 ln2 lv2 lvs2 ws lev2) th2 := ⟨Ba09, S29.ba, I02, I2, La2.nd, ⟨dxa, _, hLa⟩, by show zs.length ≤ 1024; omega, by show ws.length ≤ 1024; omega⟩
  have p11 : TB c H9 L1 (brAt B1 ln1 lv1 lvs1 ws lev1) (brAt B1 ln1 lv1 lvs1 ws lev1) th1 := ⟨Ba19, Ba19, I1, I1, La19.nd, ⟨dxb, _, hLb⟩, by show ws.length ≤ 1024; omega, by show ws.length ≤ 1024; omega⟩
  walk_at "s"
  refine w_iR1v (by decide) (by decide) ?_
  refine lb_range0 (n := 3) (fun i σ H' => (∃ v6, σ = [some (.ref s), some (.int n), some (.ref a), some (.ref o), some (.ref Lg), some (.ref bl), v6, none, none]) ∧ Ex H9 H') ⟨⟨_, rfl⟩, ex_refl⟩ ?_ ?_
  · rintro i σ H10 hi ⟨⟨v6, rfl⟩, e10⟩
    walk_at "s"
    refine w_ixL (v := .ref B0) (sql (e10 _ _ cb)) rfl ?_
    walk_at "s"
    refine w_ixL (v := .ref B1) (sql (e10 _ _ cb)) rfl ?_
    walk_at "s"
    refine ⟨i, brAt B0 ln0 lv0 lvs0 zs lev0, brAt B1 ln1 lv1 lvs1 ws lev1, rfl, .inr ⟨p01.ex e10, fun H11 t e11 ht => ?_⟩⟩
    walk_at "s"
    refine ⟨by show 1 ≤ sizeLine; exact sz100 (by decide), fun u hu => ?_⟩
    have x12 := ex_new (o := .lst [.int 2]) ex_refl hu
    refine w_ne1 (i := 2) (x12 _ _ ht) upd_same ?_
    have e12 := (e10.trans e11).trans x12
    generalize upd H11 u (.lst [.int 2]) = H12 at e12
    walk_at "s"
    refine iteF ?_
    walk_at "s"
    refine w_ixL (v := .ref B1) (sql (e12 _ _ cb)) rfl ?_
    walk_at "s"
    refine w_ixL (v := .ref B2) (sql (e12 _ _ cb)) rfl ?_
    walk_at "s"
    refine ⟨i, brAt B1 ln1 lv1 lvs1 ws lev1, brAt B2 ln2 lv2 lvs2 ws lev2, rfl, .inr ⟨p12.ex e12, fun H13 t e13 ht => ?_⟩⟩
    walk_at "s"
    refine ⟨by show 1 ≤ sizeLine; exact sz100 (by decide), fun u hu => ?_⟩
    have x14 := ex_new (o := .lst [.int 2]) ex_refl hu
    refine w_ne1 (i := 2) (x14 _ _ ht) upd_same ?_
    have e14 := (e12.trans e13).trans x14
    generalize upd H13 u (.lst [.int 2]) = H14 at e14
    walk_at "s"
    refine iteF ?_
    walk_at "s"
    refine w_ixL (v := .ref B0) (sql (e14 _ _ cb)) rfl ?_
    walk_at "s"
    refine w_ixL (v := .ref B2) (sql (e14 _ _ cb)) rfl ?_
    walk_at "s"
    refine ⟨i, brAt B0 ln0 lv0 lvs0 zs lev0, brAt B2 ln2 lv2 lvs2 ws lev2, rfl, .inl ⟨⟨L0, th2, p02.ex e14⟩, fun H15 t e15 ht => ?_⟩⟩
    walk_at "s"
    refine ⟨Nat.zero_le _, fun u hu => ?_⟩
    have x16 := ex_new (o := .lst []) ex_refl hu
    refine w_ne0 (x16 _ _ ht) upd_same ?_
    have e16 := (e14.trans e15).trans x16
    generalize upd H15 u (.lst []) = H16 at e16
    walk_at "s"
    refine iteF ?_
    walk_at "s"
    refine w_ixL (v := .ref B1) (sql (e16 _ _ cb)) rfl ?_
    walk_at "s"
    refine w_ixL (v := .ref B1) (sql (e16 _ _ cb)) rfl ?_
    walk_at "s"
    refine ⟨i, brAt B1 ln1 lv1 lvs1 ws lev1, brAt B1 ln1 lv1 lvs1 ws lev1, rfl, .inl ⟨⟨L1, th1, p11.ex e16⟩, fun H17 t e17 ht => ?_⟩⟩
    walk_at "s"
    refine ⟨Nat.zero_le _, fun u hu => ?_⟩
    have x18 := ex_new (o := .lst []) ex_refl hu
    refine w_ne0 (x18 _ _ ht) upd_same ?_
    have e18 := (e16.trans e17).trans x18
    generalize upd H17 u (.lst []) = H18 at e18
    walk_at "s"
    refine iteF ?_
    walk_at "s"
    exact ⟨⟨_, rfl⟩, e18⟩
  rintro σ H10 ⟨⟨v6, rfl⟩, e10⟩
  have cb := e10 _ _ cb
  have ca := e10 _ _ ca9
  have cL := e10 _ _ cL9
  have La := La2.ex e10
  have Ba := Ba09.ex e10
  clear e10 ca9 cL9 La2 La19 S29 Ba09 Ba19 p01 p12 p02 p11 hLa hLb
  obtain ⟨dxL, hL⟩ := La.ob
  walk_at "s"
  refine w_ixL (v := .ref L0) (sql cL) rfl ?_
  walk_at "s"
  refine w_methAt hL (lfl_no (by decide +kernel) (by decide +kernel)) ?_
  walk_at "s"
  refine ⟨L0, d0, l0, th2, _, rfl, La, by omega, ?_⟩
  walk_at "s"
  refine w_listL (sql ca) fun b hb => ?_
  have x11 := ex_new (o := .lst (zs.map V.str)) ex_refl hb
  have cbb : (upd H10 b (.lst (zs.map V.str))) b = some (.lst (zs.map V.str)) := upd_same
  have nb0 := ne_new La.dc hb
  have nb1 := ne_new La.ls hb
  have nbL := ne_new cL hb
  have nbb := ne_new cb hb
  have nba := ne_new ca hb
  have nB : ∀ x ∈ ln0 :: lv0 :: lvs0, x ≠ b := fun x hx => by
    obtain ⟨ys, h⟩ := Ba.fp x hx
    exact ne_new h hb
  have nBB : B0 ≠ b := by
    obtain ⟨dx, h⟩ := Ba.ob
    exact ne_new h hb
  have La11 := La.ex x11
  have Ba11 := Ba.ex x11
  have ca11 := x11 _ _ ca
  have cL11 := x11 _ _ cL
  have cb11 := x11 _ _ cb
  generalize upd H10 b (.lst (zs.map V.str)) = H11 at x11 cbb La11 Ba11 ca11 cL11 cb11
  clear La Ba ca cL cb hb
  walk_at "s"
  refine ⟨w_tyL (sql cbb), ?_⟩
  walk_at "s"
  refine w_lenL (sql ca11) ?_
  rw [List.length_map]
  walk_at "s"
  have i0 := Int.emod_nonneg (n / 8) (b := 1 + ((zs.length : Nat) : Int)) (by omega)
  have i1 := Int.emod_lt_of_pos (n / 8) (b := 1 + ((zs.length : Nat) : Int)) (by omega)
  generalize n / 8 % (1 + ((zs.length : Nat) : Int)) = ix at i0 i1
  refine w_mulS (by decide) (by decide) (by decide +kernel) (szM (by rw [l41]; decide)) ?_
  walk_at "s"
  refine ⟨by show 1 ≤ sizeLine; exact sz100 (by decide), fun t ht => ?_⟩
  have x12 := ex_new (o := .tup [.str "a"]) ex_refl ht
  have ct : (upd H11 t (.tup [.str "a"])) t = some (.tup [.str "a"]) := upd_same
  generalize upd H11 t (.tup [.str "a"]) = H12 at x12 ct
  walk_at "s"
  refine ⟨by show 6 ≤ sizeLine; exact sz100 (by decide), fun p hp => ?_⟩
  have x13 := x12.trans (ex_new (o := .lst [.str "A", .non, .str "a\n", .str (repS "a" 41), .ref t, .str "\t"]) ex_refl hp)
  have ct := ex_new (o := .lst [.str "A", .non, .str "a\n", .str (repS "a" 41), .ref t, .str "\t"]) ex_refl hp _ _ ct
  walk_at "s"
  refine w_ixAny (sql upd_same) (by omega) (by show _ < ((6 : Nat) : Int); omega) fun v hv => ?_
  generalize upd H12 p (.lst [.str "A", .non, .str "a\n", .str (repS "a" 41), .ref t, .str "\t"]) = H13 at x13 ct
  have bad : ∀ {H' : Hp}, H' t = some (.tup [.str "a"]) → BadV K H' v := fun {H'} h => by
    simp only [List.mem_cons, List.not_mem_nil, or_false] at hv
    rcases hv with rfl | rfl | rfl | rfl | rfl | rfl
    · exact bad_A
    · exact bad_non
    · exact bad_n
    · exact bad_41
    · exact bad_tup h
    · exact bad_t
  walk_at "s"
  have cb13 := x13 _ _ cbb
  refine w_insert cb13 (by rw [List.length_map]; exact szL (by omega)) i0 (by omega) ?_
  have nbt : b ≠ t := fun e => by
    rw [e, ct] at cb13
    cases cb13
  have k14 : Kp [b] H13 (upd H13 b (.lst ((zs.map V.str).take ix.toNat ++ [v] ++ (zs.map V.str).drop ix.toNat))) := Kp.refl.set (by simp)
  have La14 : LedgerAt c (upd H13 b (.lst ((zs.map V.str).take ix.toNat ++ [v] ++ (zs.map V.str).drop ix.toNat))) L0 d0 l0 th2 xs2 := (La11.ex x13).kp T k14 fun x hx => by
    rw [List.mem_singleton.mp hx]
    exact ⟨Ne.symm nb0, Ne.symm nb1, fun o ho => by rw [cb13] at ho; cases ho; exact ⟨_, rfl⟩⟩
  have Ba14 := (Ba11.ex x13).kp k14 (fun x hx z => nB b (by rw [← List.mem_singleton.mp hx]; exact z) rfl) (by simpa using nBB)
  have ca14 := k14 _ _ (x13 _ _ ca11) (by simpa using nba)
  have cL14 := k14 _ _ (x13 _ _ cL11) (by simpa using nbL)
  have cbl14 := k14 _ _ (x13 _ _ cb11) (by simpa using nbb)
  have ct14 := k14 _ _ ct (by simpa using Ne.symm nbt)
  have cb14 : (upd H13 b (.lst ((zs.map V.str).take ix.toNat ++ [v] ++ (zs.map V.str).drop ix.toNat))) b = some (.lst ((zs.map V.str).take ix.toNat ++ [v] ++ (zs.map V.str).drop ix.toNat)) := upd_same
  generalize upd H13 b (.lst ((zs.map V.str).take ix.toNat ++ [v] ++ (zs.map V.str).drop ix.toNat)) = H14 at La14 Ba14 ca14 cL14 cbl14 ct14 cb14
  clear k14 La11 Ba11 ca11 cL11 cb11 cb13 hp ht x12 x13
  have b14 := bad ct14
  walk_at "s"
  refine w_ixL (v := .ref L0) (sql cL14) rfl ?_
  walk_at "s"
  refine ⟨L0, d0, l0, b, th2, xs2, _, rfl, La14, sql cb14, Ne.symm nb0, Ne.symm nb1, fun y hy => ?_, by simp only [List.length_append, List.length_take, List.length_drop, List.length_map, List.length_cons, List.length_nil]; omega, by omega, .inl ⟨⟨v, by simp, b14.2⟩, fun H15 t e15 ht => ?_⟩⟩
  · have rw' : ∀ y ∈ zs.map V.str, RowV K H14 y := fun y hy => by
      obtain ⟨z, hz, rfl⟩ := List.mem_map.mp hy
      exact rowV_good (zg z hz)
    rcases List.mem_append.mp hy with hy | hy
    · rcases List.mem_append.mp hy with hy | hy
      · exact rw' y (List.mem_of_mem_take hy)
      · rw [List.mem_singleton.mp hy]; exact b14.1
    · exact rw' y (List.mem_of_mem_drop hy)
  walk_at "s"
  refine ⟨by show 1 ≤ sizeLine; exact sz100 (by decide), fun u hu => ?_⟩
  have x16 := ex_new (o := .lst [.int 1]) ex_refl hu
  refine w_eq1 (i := 1) (x16 _ _ ht) upd_same ?_
  have e16 := e15.trans x16
  generalize upd H15 u (.lst [.int 1]) = H16 at e16
  have La16 := La14.ex e16
  obtain ⟨dxm, hLm⟩ := La16.ob
  have Ba16 := Ba14.ex e16
  obtain ⟨dxn, hBn⟩ := Ba16.ob
  walk_at "s"
  refine iteT ?_
  walk_at "s"
  refine w_ixL (v := .ref L0) (sql (e16 _ _ cL14)) rfl ?_
  walk_at "s"
  refine w_methAt hLm (lfl_no (by decide +kernel) (by decide +kernel)) ?_
  walk_at "s"
  refine ⟨L0, d0, l0, th2, _, rfl, La16, by omega, ?_⟩
  walk_at "s"
  rw [decide_eq_true rfl]
  refine iteT ?_
  walk_at "s"
  refine w_ixL (v := .ref B0) (sql (e16 _ _ cbl14)) rfl ?_
  walk_at "s"
  refine w_methAt hBn (bfl_no (by decide +kernel) (by decide +kernel) (by decide +kernel)) ?_
  walk_at "s"
  refine ⟨B0, L0, ln0, lv0, lvs0, zs, lev0, rfl, Ba16, fun p hp => ?_⟩
  walk_at "s"
  have sh := (eList eStr).shaped (by decide) zs fun z hz => good_ok (zg z hz)
  refine w_eqD (d := (eList eStr).enc zs) (e := (eList eStr).enc zs) (.lst (sql upd_same) (dpAll_strs _)) (.lst (sql (ex_new (o := .lst (zs.map V.str)) ex_refl hp _ _ (e16 _ _ ca14))) (dpAll_strs _)) sh sh ?_
  rw [(eList eStr).eq, decide_eq_true rfl]
  exact q _
end Tw

namespace Tw
open PySem PySem.Spec PyProof.Rows L2 Ts
def topS (i : Nat) : Stmt := PySem.Challenge.pw_twinsum_k11_refused.main.body.getD i (.Pass ⟨0, 0, 0, 0⟩)
structure BM (mg : Str → Option Value) : Prop where
  ValueError : mg "ValueError" = none
  bool : mg "bool" = none
  int : mg "int" = none
  isinstance : mg "isinstance" = none
  len : mg "len" = none
  list : mg "list" = none
  min : mg "min" = none
  range : mg "range" = none
  str : mg "str" = none
  MOST_ROWS : ∃ t, mg "MOST_ROWS" = some (.int 1024 t)
  MOST_SIGNS : ∃ t, mg "MOST_SIGNS" = some (.int 40 t)
  SIGNS : ∃ t, mg "SIGNS" = some (.str "abcdefghijklmnopqrstuvwxyz0123456789 " t)
section
variable {P : Program} {w : World} {K : PySem.W.Frag} {mg : Str → Option Value} {base : Heap} {c : Cs}
abbrev s_law_cell_at : Stmt := topS 28
theorem sc_law_cell_at : FnScope N_law_cell_at ["_law_script", "_law_k"] (defScope s_law_cell_at) := ⟨rfl, rfl, rfl, by decide +kernel, rfl, by decide +kernel, by decide +kernel⟩
theorem ok_law_cell_at (M : BM mg) (T : TxK K c) (F : FunG K mg "_law_cell_at" s_law_cell_at ["_law_script", "_law_k"]) (D : c.md = MD P w) : FnG P w K mg base 1 "_law_cell_at" ["_law_script", "_law_k"] (sp_law_cell_at K c) := by
  refine F.ok sc_law_cell_at len_law_cell_at (fun f cdv A outer s H vs Q E hr h => ⟨t_law_cell_at K c E, ?_, pure_law_cell_at h⟩)
  exact (pss_cons (ps_if (pt_cmpR op_lt1 (pv 1) (pe_callB call_len1 (by rfl) M.len (by decide +kernel) (pa_cons (pv 0) pa_nil)) (nomark _)) (pss_one (ps_ret (pe_ix ix_seq (pv 0) (pv 1) (fun _ _ => rfl)))) pss_nil)
  (pss_one (ps_ret pe_int)))
abbrev s_law_mix : Stmt := topS 29
theorem sc_law_mix : FnScope N_law_mix ["_law_number", "_law_k"] (defScope s_law_mix) := ⟨rfl, rfl, rfl, by decide +kernel, rfl, by decide +kernel, by decide +kernel⟩
theorem ok_law_mix (M : BM mg) (T : TxK K c) (F : FunG K mg "_law_mix" s_law_mix ["_law_number", "_law_k"]) (D : c.md = MD P w) : FnG P w K mg base 1 "_law_mix" ["_law_number", "_law_k"] (sp_law_mix K c) := by
  refine F.ok sc_law_mix len_law_mix (fun f cdv A outer s H vs Q E hr h => ⟨t_law_mix K c E, ?_, pure_law_mix h⟩)
  exact (pss_cons (ps_set (i := 2) sc_law_mix.nd rfl (Or.inl rfl) (pe_op op_mod1 (pe_op op_addU (pe_op op_addU (pe_op op_mul1 (pv 0) pe_int) (pe_op op_mul1 (pv 1) pe_int)) pe_int) pe_int))
  (pss_one (ps_ret (pe_op op_mod1 (pe_op op_addU (pe_op op_addU (pe_op op_mul1 (pv 2) (pv 2)) (pe_op op_mul1 pe_int (pv 2))) (pv 1)) pe_int))))
abbrev s_law_text : Stmt := topS 30
theorem sc_law_text : FnScope N_law_text ["_law_cell"] (defScope s_law_text) := ⟨rfl, rfl, rfl, by decide +kernel, rfl, by decide +kernel, by decide +kernel⟩
theorem ok_law_text (M : BM mg) (T : TxK K c) (F : FunG K mg "_law_text" s_law_text ["_law_cell"]) (D : c.md = MD P w) (G_law_mix : FnG P w K mg base 1 "_law_mix" ["_law_number", "_law_k"] (sp_law_mix K c)) : FnG P w K mg base 2 "_law_text" ["_law_cell"] (sp_law_text K c) := by
  refine F.ok sc_law_text len_law_text (fun f cdv A outer s H vs Q E hr h => ⟨t_law_text K c E, ?_, pure_law_text h⟩)
  exact (pss_cons (ps_set (i := 1) sc_law_text.nd rfl (Or.inl rfl) pe_str)
  (pss_cons (ps_set (i := 2) sc_law_text.nd rfl (Or.inl rfl) (pe_op op_mod1 (pv 0) pe_int))
  (pss_cons (ps_if (pt_cmpR (op_eqU hr.units) (pe_op op_mod1 (pe_op op_div1 (pv 0) pe_int) pe_int) pe_int (nomark _)) (pss_one (ps_ret (pe_op op_addU (pe_op op_addU (pe_callTy call_str1 (by rfl) M.str (by decide +kernel) (pa_cons (pe_op op_mod1 (pe_op op_div1 (pv 0) pe_int) pe_int) pa_nil)) (pe_ix ix_seq (pe_lst (pa_cons pe_str (pa_cons pe_str pa_nil))) (pe_op op_mod1 (pe_op op_div1 (pv 0) pe_int) pe_int) (fun _ _ => rfl))) (pe_callTy call_str1 (by rfl) M.str (by decide +kernel) (pa_cons (pe_op op_mod1 (pe_op op_div1 (pv 0) pe_int) pe_int) pa_nil))))) pss_nil)
  (Evl.pss_cut (ps_if (pt_cmpR (op_eqU hr.units) (pe_op op_mod1 (pe_op op_div1 (pv 0) pe_int) pe_int) pe_int (nomark _)) (pss_one (ps_set (i := 2) sc_law_text.nd rfl (Or.inl rfl) (pe_ix ix_seq (pe_lst (pa_cons pe_int (pa_cons pe_int (pa_cons pe_int (pa_cons pe_int pa_nil))))) (pe_op op_mod1 (pe_op op_div1 (pv 0) pe_int) pe_int) (fun _ _ => rfl)))) pss_nil) (pss_cons (ps_set (i := 3) sc_law_text.nd rfl (Or.inl rfl) pe_str)
  (pss_cons (ps_for (passes_of rfl) rfl (pi_range1 (by rfl) M.range (pa_cons (pv 2) pa_nil)) (pg_name (i := 4) sc_law_text.nd rfl (Or.inl rfl)) (pss_one (ps_set (i := 3) sc_law_text.nd rfl (Or.inl rfl) (pe_op op_addU (pv 3) (pe_ix ix_seq (pv 1) (pe_op op_mod1 (pe_op op_div1 (pe_callG (E := E0) G_law_mix (hr.mono (by decide)) passN (by exact (pa_cons (pv 0) (pa_cons (pv 4) pa_nil)))) pe_int) pe_int) (fun _ _ => rfl))))))
  (pss_one (ps_ret (pv 3)))))))))
abbrev s_law_rows : Stmt := topS 32
theorem sc_law_rows : FnScope N_law_rows ["_law_cell", "_law_more"] (defScope s_law_rows) := ⟨rfl, rfl, rfl, by decide +kernel, rfl, by decide +kernel, by decide +kernel⟩
theorem ok_law_rows (M : BM mg) (T : TxK K c) (F : FunG K mg "_law_rows" s_law_rows ["_law_cell", "_law_more"]) (D : c.md = MD P w) (G_law_text : FnG P w K mg base 2 "_law_text" ["_law_cell"] (sp_law_text K c)) (G_law_mix : FnG P w K mg base 1 "_law_mix" ["_law_number", "_law_k"] (sp_law_mix K c)) : FnG P w K mg base 3 "_law_rows" ["_law_cell", "_law_more"] (sp_law_rows K c) := by
  refine F.ok sc_law_rows len_law_rows (fun f cdv A outer s H vs Q E hr h => ⟨t_law_rows K c E, ?_, pure_law_rows h⟩)
  exact (pss_cons (ps_set (i := 2) sc_law_rows.nd rfl (Or.inl rfl) (pe_op op_mod1 (pv 0) pe_int))
  (Evl.pss_cut (ps_if (pt_cmpR (op_eqU hr.units) (pe_op op_mod1 (pe_op op_div1 (pv 0) pe_int) pe_int) pe_int (nomark _)) (pss_one (ps_set (i := 2) sc_law_rows.nd rfl (Or.inl rfl) (pe_ix ix_seq (pe_lst (pa_cons pe_int (pa_cons pe_int (pa_cons pe_int (pa_cons pe_int (pa_cons pe_int (pa_cons pe_int (pa_cons pe_int (pa_cons pe_int (pa_cons pe_int (pa_cons pe_int (pa_cons pe_int (pa_cons pe_int pa_nil))))))))))))) (pe_op op_mod1 (pe_op op_div1 (pv 0) pe_int) pe_int) (fun _ _ => rfl)))) pss_nil) (pss_cons (ps_set (i := 3) sc_law_rows.nd rfl (Or.inl rfl) (pe_op op_addU pe_int (pe_op op_mod1 (pv 1) pe_int)))
  (pss_cons (ps_set (i := 4) sc_law_rows.nd rfl (Or.inl rfl) (pe_lst pa_nil))
  (pss_cons (ps_for (passes_of rfl) rfl (pi_range1 (by rfl) M.range (pa_cons (pv 2) pa_nil)) (pg_name (i := 5) sc_law_rows.nd rfl (Or.inl rfl)) (pss_one (ps_expr (pe_bm PySem.F.plainAttrs_list PySem.F.slot_list_append PySem.F.type_list_append mt_append (pv 4) (pa_cons (pe_callG (E := E0) G_law_text (hr.mono (by decide)) passN (by exact (pa_cons (pe_op op_mod1 (pe_op op_div1 (pe_callG (E := E0) G_law_mix (hr.mono (by decide)) passN (by exact (pa_cons (pv 1) (pa_cons (pv 5) pa_nil)))) pe_int) (pe_ix ix_seq (pe_lst (pa_cons (pv 3) (pa_cons pe_int pa_nil))) (pe_op op_div1 (pe_op op_mod1 (pv 5) pe_int) pe_int) (fun _ _ => rfl))) pa_nil))) pa_nil)))))
  (pss_one (ps_ret (pv 4))))))))
abbrev s_Ledger_many : Stmt := inClass (topS 18) 6
theorem sc_Ledger_many : FnScope N_Ledger_many ["self"] (defScope s_Ledger_many) := ⟨rfl, rfl, rfl, by decide +kernel, rfl, by decide +kernel, by decide +kernel⟩
theorem ok_Ledger_many (M : BM mg) (T : TxK K c) (F : MetG K c.Ledger "many" "Ledger.many" s_Ledger_many ["self"]) (D : c.md = MD P w) : MtG P w K mg base 1 c.Ledger "many" ["self"] (sp_Ledger_many K c) := by
  refine F.ok sc_Ledger_many len_Ledger_many (fun f cdv A outer s H vs Q E hr h => ⟨t_Ledger_many K c E, ?_, pure_Ledger_many T h⟩)
  exact (pss_one (ps_ret (pe_callB call_len1 (by rfl) M.len (by decide +kernel) (pa_cons (pe_fld (pv 0) rfl) pa_nil))))
abbrev s_Ledger_init : Stmt := inClass (topS 18) 0
theorem sc_Ledger_init : FnScope N_Ledger_init ["self"] (defScope s_Ledger_init) := ⟨rfl, rfl, rfl, by decide +kernel, rfl, by decide +kernel, by decide +kernel⟩
theorem ok_Ledger_init (M : BM mg) (T : TxK K c) (F : IniG K mg c.Ledger "Ledger" "Ledger.__init__" s_Ledger_init ["self"]) (D : c.md = MD P w) : MkG P w K mg base 1 c.Ledger "Ledger" ["self"] (sp_Ledger_init K c) := by
  refine F.ok sc_Ledger_init len_Ledger_init (fun f cdv A outer s H vs Q E hr h => ⟨t_Ledger_init K c E, ?_, pure_Ledger_init T h⟩)
  exact (pss_cons (ps_fld (pv 0) (pe_mnew D) rfl)
  (pss_one (ps_fld (pv 0) (pe_lst pa_nil) rfl)))
abbrev s_is_row : Stmt := topS 16
theorem sc_is_row : FnScope N_is_row ["thing"] (defScope s_is_row) := ⟨rfl, rfl, rfl, by decide +kernel, rfl, by decide +kernel, by decide +kernel⟩
theorem ok_is_row (M : BM mg) (T : TxK K c) (F : FunG K mg "is_row" s_is_row ["thing"]) (D : c.md = MD P w) : FnG P w K mg base 1 "is_row" ["thing"] (sp_is_row K c) := by
  refine F.ok sc_is_row len_is_row (fun f cdv A outer s H vs Q E hr h => ⟨t_is_row K c E, ?_, pure_is_row h⟩)
  exact (pss_cons (ps_if (PW.pt (pw_or (pt_not (pt_val (pe_callB call_isi (by rfl) M.isinstance (by decide +kernel) (pa_cons (pv 0) (pa_cons (pe_bltn (v := .ty "str") (by rfl) M.str (by decide +kernel) rfl) pa_nil))))) (pw_or1 (pt_cmpR op_gt1 (pe_callB call_len1 (by rfl) M.len (by decide +kernel) (pa_cons (pv 0) pa_nil)) (pe_glob (by rfl) M.MOST_SIGNS.choose_spec ⟨_, rfl⟩) (nomark _))))) (pss_one (ps_ret pe_bl)) pss_nil)
  (pss_cons (ps_for (passes_of rfl) rfl (pi_str (pv 0)) (pg_name (i := 1) sc_is_row.nd rfl (Or.inl rfl)) (pss_one (ps_if (pt_cmpR op_notInS1 (pv 1) (pe_glob (by rfl) M.SIGNS.choose_spec ⟨_, rfl⟩) (by rfl)) (pss_one (ps_ret pe_bl)) pss_nil)))
  (pss_one (ps_ret pe_bl))))
abbrev s_sure_row : Stmt := topS 17
theorem sc_sure_row : FnScope N_sure_row ["thing"] (defScope s_sure_row) := ⟨rfl, rfl, rfl, by decide +kernel, rfl, by decide +kernel, by decide +kernel⟩
theorem ok_sure_row (M : BM mg) (T : TxK K c) (F : FunG K mg "sure_row" s_sure_row ["thing"]) (D : c.md = MD P w) (X_NoRow : ExcT K mg "NoRow" c.NoRow) (G_is_row : FnG P w K mg base 1 "is_row" ["thing"] (sp_is_row K c)) : FnG P w K mg base 2 "sure_row" ["thing"] (sp_sure_row K c) := by
  refine F.ok sc_sure_row len_sure_row (fun f cdv A outer s H vs Q E hr h => ⟨t_sure_row K c E, ?_, pure_sure_row h⟩)
  exact (pss_one (ps_if (pt_not (pt_val (pe_callG (E := E) G_is_row (hr.mono (by decide)) (passE (L2N.takes_of rfl rfl rfl rfl)) (by exact (pa_cons (pv 0) pa_nil))))) (pss_one (ps_raiseG X_NoRow rfl (L2N.takes_of rfl rfl rfl rfl))) pss_nil))
abbrev s_Ledger_number_of : Stmt := inClass (topS 18) 1
theorem sc_Ledger_number_of : FnScope N_Ledger_number_of ["self", "thing"] (defScope s_Ledger_number_of) := ⟨rfl, rfl, rfl, by decide +kernel, rfl, by decide +kernel, by decide +kernel⟩
theorem ok_Ledger_number_of (M : BM mg) (T : TxK K c) (F : MetG K c.Ledger "number_of" "Ledger.number_of" s_Ledger_number_of ["self", "thing"]) (D : c.md = MD P w) : MtG P w K mg base 1 c.Ledger "number_of" ["self", "thing"] (sp_Ledger_number_of K c) := by
  refine F.ok sc_Ledger_number_of len_Ledger_number_of (fun f cdv A outer s H vs Q E hr h => ⟨t_Ledger_number_of K c E, ?_, pure_Ledger_number_of T h⟩)
  exact (pss_cons (ps_if (pt_cmp (pc_mnotin D (hu_of hr) (pv 1) (pe_fld (pv 0) rfl))) (pss_cons (ps_mput D (hu_of hr) (pe_fld (pv 0) rfl) (pv 1) (pe_callB call_len1 (by rfl) M.len (by decide +kernel) (pa_cons (pe_fld (pv 0) rfl) pa_nil)) rfl)
  (pss_one (ps_expr (pe_bm PySem.F.plainAttrs_list PySem.F.slot_list_append PySem.F.type_list_append mt_append (pe_fld (pv 0) rfl) (pa_cons (pv 1) pa_nil))))) pss_nil)
  (pss_one (ps_ret (pe_mget D (hu_of hr) (pe_fld (pv 0) rfl) (pv 1) (fun _ _ => rfl)))))
abbrev s_Ledger_of_row : Stmt := inClass (topS 18) 3
theorem sc_Ledger_of_row : FnScope N_Ledger_of_row ["self", "row"] (defScope s_Ledger_of_row) := ⟨rfl, rfl, rfl, by decide +kernel, rfl, by decide +kernel, by decide +kernel⟩
theorem ok_Ledger_of_row (M : BM mg) (T : TxK K c) (F : MetG K c.Ledger "of_row" "Ledger.of_row" s_Ledger_of_row ["self", "row"]) (D : c.md = MD P w) (G_sure_row : FnG P w K mg base 2 "sure_row" ["thing"] (sp_sure_row K c)) (G_Ledger_number_of : MtG P w K mg base 1 c.Ledger "number_of" ["self", "thing"] (sp_Ledger_number_of K c)) : MtG P w K mg base 3 c.Ledger "of_row" ["self", "row"] (sp_Ledger_of_row K c) := by
  refine F.ok sc_Ledger_of_row len_Ledger_of_row (fun f cdv A outer s H vs Q E hr h => ⟨t_Ledger_of_row K c E, ?_, pure_Ledger_of_row h⟩)
  exact (pss_cons (ps_expr (pe_callG (E := E) G_sure_row (hr.mono (by decide)) (passE (L2N.takes_of rfl rfl rfl rfl)) (by exact (pa_cons (pv 1) pa_nil))))
  (pss_one (ps_ret (pe_methG (E := E) (pv 0) T.cLedger G_Ledger_number_of (hr.mono (by decide)) (passE (L2N.takes_of rfl rfl rfl rfl)) (by exact (pa_cons (pv 1) pa_nil))))))
abbrev s_is_whole : Stmt := topS 15
theorem sc_is_whole : FnScope N_is_whole ["thing"] (defScope s_is_whole) := ⟨rfl, rfl, rfl, by decide +kernel, rfl, by decide +kernel, by decide +kernel⟩
theorem ok_is_whole (M : BM mg) (T : TxK K c) (F : FunG K mg "is_whole" s_is_whole ["thing"]) (D : c.md = MD P w) : FnG P w K mg base 1 "is_whole" ["thing"] (sp_is_whole K c) := by
  refine F.ok sc_is_whole len_is_whole (fun f cdv A outer s H vs Q E hr h => ⟨t_is_whole K c E, ?_, pure_is_whole h⟩)
  exact (pss_one (ps_ret (pe_and (pe_callB call_isi (by rfl) M.isinstance (by decide +kernel) (pa_cons (pv 0) (pa_cons (pe_bltn (v := .ty "int") (by rfl) M.int (by decide +kernel) rfl) pa_nil))) (pe_one (pe_not (pe_callB call_isi (by rfl) M.isinstance (by decide +kernel) (pa_cons (pv 0) (pa_cons (pe_bltn (v := .ty "bool") (by rfl) M.bool (by decide +kernel) rfl) pa_nil))))))))
abbrev s_Ledger_sure : Stmt := inClass (topS 18) 2
theorem sc_Ledger_sure : FnScope N_Ledger_sure ["self", "number"] (defScope s_Ledger_sure) := ⟨rfl, rfl, rfl, by decide +kernel, rfl, by decide +kernel, by decide +kernel⟩
theorem ok_Ledger_sure (M : BM mg) (T : TxK K c) (F : MetG K c.Ledger "sure" "Ledger.sure" s_Ledger_sure ["self", "number"]) (D : c.md = MD P w) (X_NoSum : ExcT K mg "NoSum" c.NoSum) (G_is_whole : FnG P w K mg base 1 "is_whole" ["thing"] (sp_is_whole K c)) : MtG P w K mg base 2 c.Ledger "sure" ["self", "number"] (sp_Ledger_sure K c) := by
  refine F.ok sc_Ledger_sure len_Ledger_sure (fun f cdv A outer s H vs Q E hr h => ⟨t_Ledger_sure K c E, ?_, pure_Ledger_sure T h⟩)
  exact (pss_one (ps_if (PW.pt (pw_or (pt_not (pt_val (pe_callG (E := E) G_is_whole (hr.mono (by decide)) (passE (L2N.takes_of rfl rfl rfl rfl)) (by exact (pa_cons (pv 1) pa_nil))))) (pw_or1 (pt_not (pt_chain op_le1 op_lt1 pe_int (pv 1) (pe_callB call_len1 (by rfl) M.len (by decide +kernel) (pa_cons (pe_fld (pv 0) rfl) pa_nil))))))) (pss_one (ps_raiseG X_NoSum rfl (L2N.takes_of rfl rfl rfl rfl))) pss_nil))
abbrev s_Ledger_of_pair : Stmt := inClass (topS 18) 4
theorem sc_Ledger_of_pair : FnScope N_Ledger_of_pair ["self", "one", "other"] (defScope s_Ledger_of_pair) := ⟨rfl, rfl, rfl, by decide +kernel, rfl, by decide +kernel, by decide +kernel⟩
theorem ok_Ledger_of_pair (M : BM mg) (T : TxK K c) (F : MetG K c.Ledger "of_pair" "Ledger.of_pair" s_Ledger_of_pair ["self", "one", "other"]) (D : c.md = MD P w) (G_Ledger_sure : MtG P w K mg base 2 c.Ledger "sure" ["self", "number"] (sp_Ledger_sure K c)) (G_Ledger_number_of : MtG P w K mg base 1 c.Ledger "number_of" ["self", "thing"] (sp_Ledger_number_of K c)) : MtG P w K mg base 3 c.Ledger "of_pair" ["self", "one", "other"] (sp_Ledger_of_pair K c) := by
  refine F.ok sc_Ledger_of_pair len_Ledger_of_pair (fun f cdv A outer s H vs Q E hr h => ⟨t_Ledger_of_pair K c E, ?_, pure_Ledger_of_pair h⟩)
  exact (pss_cons (ps_expr (pe_methG (E := E) (pv 0) T.cLedger G_Ledger_sure (hr.mono (by decide)) (passE (L2N.takes_of rfl rfl rfl rfl)) (by exact (pa_cons (pv 1) pa_nil))))
  (pss_cons (ps_expr (pe_methG (E := E) (pv 0) T.cLedger G_Ledger_sure (hr.mono (by decide)) (passE (L2N.takes_of rfl rfl rfl rfl)) (by exact (pa_cons (pv 2) pa_nil))))
  (pss_one (ps_ret (pe_methG (E := E) (pv 0) T.cLedger G_Ledger_number_of (hr.mono (by decide)) (passE (L2N.takes_of rfl rfl rfl rfl)) (by exact (pa_cons (pe_tup (pa_cons (pv 1) (pa_cons (pv 2) pa_nil))) pa_nil)))))))
abbrev s_Book_half_sums : Stmt := inClass (topS 21) 2
theorem sc_Book_half_sums : FnScope N_Book_half_sums ["self", "height", "number"] (defScope s_Book_half_sums) := ⟨rfl, rfl, rfl, by decide +kernel, rfl, by decide +kernel, by decide +kernel⟩
theorem ok_Book_half_sums (M : BM mg) (T : TxK K c) (F : MetG K c.Book "half_sums" "Book.half_sums" s_Book_half_sums ["self", "height", "number"]) (D : c.md = MD P w) (G_Ledger_of_pair : MtG P w K mg base 3 c.Ledger "of_pair" ["self", "one", "other"] (sp_Ledger_of_pair K c)) : MtG P w K mg base 4 c.Book "half_sums" ["self", "height", "number"] (sp_Book_half_sums K c) := by
  refine F.ok sc_Book_half_sums len_Book_half_sums (fun f cdv A outer s H vs Q E hr h => ⟨t_Book_half_sums K c E, ?_, pure_Book_half_sums T h⟩)
  exact (pss_cons (ps_set (i := 3) sc_Book_half_sums.nd rfl (Or.inl rfl) (pe_ix ix_seq (pe_fld (pv 0) rfl) (pe_op op_sub1 (pv 1) pe_int) (fun _ _ => rfl)))
  (pss_one (ps_ret (pe_methG (E := E0) (pe_fld (pv 0) rfl) T.cLedger G_Ledger_of_pair (hr.mono (by decide)) passN (by exact (pa_cons (pe_ix ix_seq (pv 3) (pe_op op_mul1 pe_int (pv 2)) (fun _ _ => rfl)) (pa_cons (pe_ix ix_seq (pv 3) (pe_op op_addU (pe_op op_mul1 pe_int (pv 2)) pe_int) (fun _ _ => rfl)) pa_nil)))))))
abbrev s_Book_grow : Stmt := inClass (topS 21) 3
theorem sc_Book_grow : FnScope N_Book_grow ["self", "row"] (defScope s_Book_grow) := ⟨rfl, rfl, rfl, by decide +kernel, rfl, by decide +kernel, by decide +kernel⟩
theorem ok_Book_grow (M : BM mg) (T : TxK K c) (F : MetG K c.Book "grow" "Book.grow" s_Book_grow ["self", "row"]) (D : c.md = MD P w) (G_Ledger_of_row : MtG P w K mg base 3 c.Ledger "of_row" ["self", "row"] (sp_Ledger_of_row K c)) (G_Book_half_sums : MtG P w K mg base 4 c.Book "half_sums" ["self", "height", "number"] (sp_Book_half_sums K c)) : MtG P w K mg base 5 c.Book "grow" ["self", "row"] (sp_Book_grow K c) := by
  refine F.ok sc_Book_grow len_Book_grow (fun f cdv A outer s H vs Q E hr h => ⟨t_Book_grow K c E, ?_, pure_Book_grow T h⟩)
  exact (pss_cons (ps_expr (pe_bm PySem.F.plainAttrs_list PySem.F.slot_list_append PySem.F.type_list_append mt_append (pe_fld (pv 0) rfl) (pa_cons (pv 1) pa_nil)))
  (pss_cons (ps_set (i := 2) sc_Book_grow.nd rfl (Or.inl rfl) (pe_callB call_len1 (by rfl) M.len (by decide +kernel) (pa_cons (pe_fld (pv 0) rfl) pa_nil)))
  (pss_cons (ps_set (i := 3) sc_Book_grow.nd rfl (Or.inl rfl) pe_int)
  (pss_cons (ps_set (i := 4) sc_Book_grow.nd rfl (Or.inl rfl) (pe_methG (E := E0) (pe_fld (pv 0) rfl) T.cLedger G_Ledger_of_row (hr.mono (by decide)) passN (by exact (pa_cons (pv 1) pa_nil))))
  (pss_one (ps_while (passes_of rfl) (pt_val pe_bl) (Evl.pss_cut (ps_if (pt_cmpR (op_eqU hr.units) (pv 3) (pe_callB call_len1 (by rfl) M.len (by decide +kernel) (pa_cons (pe_fld (pv 0) rfl) pa_nil)) (nomark _)) (pss_one (ps_expr (pe_bm PySem.F.plainAttrs_list PySem.F.slot_list_append PySem.F.type_list_append mt_append (pe_fld (pv 0) rfl) (pa_cons (pe_lst pa_nil) pa_nil)))) pss_nil) (pss_cons (ps_expr (pe_bm PySem.F.plainAttrs_list PySem.F.slot_list_append PySem.F.type_list_append mt_append (pe_ix ix_seq (pe_fld (pv 0) rfl) (pv 3) (fun _ _ => rfl)) (pa_cons (pv 4) pa_nil)))
  (pss_cons (ps_if (pt_cmpR (op_eqU hr.units) (pe_op op_mod1 (pv 2) pe_int) pe_int (nomark _)) (pss_one (ps_ret (pe_op op_addU (pv 3) pe_int))) pss_nil)
  (pss_cons (ps_set (i := 2) sc_Book_grow.nd rfl (Or.inl rfl) (pe_op op_div1 (pv 2) pe_int))
  (pss_cons (ps_set (i := 3) sc_Book_grow.nd rfl (Or.inl rfl) (pe_op op_addU (pv 3) pe_int))
  (pss_one (ps_set (i := 4) sc_Book_grow.nd rfl (Or.inl rfl) (pe_methG (E := E0) (pv 0) T.cBook G_Book_half_sums (hr.mono (by decide)) passN (by exact (pa_cons (pv 3) (pa_cons (pe_op op_sub1 (pv 2) pe_int) pa_nil)))))))))))))))))
abbrev s_Book_init : Stmt := inClass (topS 21) 0
theorem sc_Book_init : FnScope N_Book_init ["self", "ledger", "rows"] (defScope s_Book_init) := ⟨rfl, rfl, rfl, by decide +kernel, rfl, by decide +kernel, by decide +kernel⟩
theorem ok_Book_init (M : BM mg) (T : TxK K c) (F : IniG K mg c.Book "Book" "Book.__init__" s_Book_init ["self", "ledger", "rows"]) (D : c.md = MD P w) (X_Full : ExcT K mg "Full" c.Full) (G_sure_row : FnG P w K mg base 2 "sure_row" ["thing"] (sp_sure_row K c)) (G_Book_grow : MtG P w K mg base 5 c.Book "grow" ["self", "row"] (sp_Book_grow K c)) : MkG P w K mg base 6 c.Book "Book" ["self", "ledger", "rows"] (sp_Book_init K c) := by
  refine F.ok sc_Book_init len_Book_init (fun f cdv A outer s H vs Q E hr h => ⟨t_Book_init K c E, ?_, pure_Book_init T h⟩)
  exact (pss_cons (ps_for (passes_of rfl) rfl (pi_list (pv 2)) (pg_name (i := 3) sc_Book_init.nd rfl (Or.inl rfl)) (pss_one (ps_expr (pe_callG (E := E) G_sure_row (hr.mono (by decide)) (passE (L2N.takes_of rfl rfl rfl rfl)) (by exact (pa_cons (pv 3) pa_nil))))))
  (pss_cons (ps_if (pt_cmpR op_gt1 (pe_callB call_len1 (by rfl) M.len (by decide +kernel) (pa_cons (pv 2) pa_nil)) (pe_glob (by rfl) M.MOST_ROWS.choose_spec ⟨_, rfl⟩) (nomark _)) (pss_one (ps_raiseG X_Full rfl (L2N.takes_of rfl rfl rfl rfl))) pss_nil)
  (pss_cons (ps_fld (pv 0) (pv 1) rfl)
  (pss_cons (ps_fld (pv 0) (pe_lst pa_nil) rfl)
  (pss_cons (ps_fld (pv 0) (pe_lst pa_nil) rfl)
  (pss_one (ps_for (passes_of rfl) rfl (pi_list (pv 2)) (pg_name (i := 3) sc_Book_init.nd rfl (Or.inl rfl)) (pss_one (ps_expr (pe_methG (E := E) (pv 0) T.cBook G_Book_grow (hr.mono (by decide)) (passE (L2N.takes_of rfl rfl rfl rfl)) (by exact (pa_cons (pv 3) pa_nil))))))))))))
abbrev s_law_class : Stmt := topS 33
theorem sc_law_class : FnScope N_law_class ["_law_e"] (defScope s_law_class) := ⟨rfl, rfl, rfl, by decide +kernel, rfl, by decide +kernel, by decide +kernel⟩
theorem ok_law_class (M : BM mg) (T : TxK K c) (F : FunG K mg "_law_class" s_law_class ["_law_e"]) (D : c.md = MD P w) (X_Full : ExcT K mg "Full" c.Full) (X_NoRow : ExcT K mg "NoRow" c.NoRow) (X_Strange : ExcT K mg "Strange" c.Strange) (X_NoBlock : ExcT K mg "NoBlock" c.NoBlock) (X_NoPlace : ExcT K mg "NoPlace" c.NoPlace) (X_NoSum : ExcT K mg "NoSum" c.NoSum) : FnEG P w K mg base 1 "_law_class" ["_law_e"] (sp_law_class K c) := by
  refine F.okE sc_law_class len_law_class (fun f cdv A outer s H vs Q E p cls hr hot hz hf h => ⟨t_law_class cls p.1 K c E, ?_, pure_law_class T h⟩)
  exact (pss_cons (ps_set (i := 1) sc_law_class.nd rfl (Or.inr rfl) (pe_lst (pa_cons (pe_callB (call_isX (p := p) (cls := cls) (by exact List.mem_singleton.mpr rfl) hz hf) (by rfl) M.isinstance (by decide +kernel) (pa_cons (pv 0) (pa_cons (pe_glob (v := .ref c.Full) (by rfl) X_Full.g rfl) pa_nil))) (pa_cons (pe_callB (call_isX (p := p) (cls := cls) (by exact List.mem_singleton.mpr rfl) hz hf) (by rfl) M.isinstance (by decide +kernel) (pa_cons (pv 0) (pa_cons (pe_glob (v := .ref c.NoRow) (by rfl) X_NoRow.g rfl) pa_nil))) (pa_cons (pe_callB (call_isX (p := p) (cls := cls) (by exact List.mem_singleton.mpr rfl) hz hf) (by rfl) M.isinstance (by decide +kernel) (pa_cons (pv 0) (pa_cons (pe_glob (v := .ref c.Strange) (by rfl) X_Strange.g rfl) pa_nil))) (pa_cons (pe_callB (call_isX (p := p) (cls := cls) (by exact List.mem_singleton.mpr rfl) hz hf) (by rfl) M.isinstance (by decide +kernel) (pa_cons (pv 0) (pa_cons (pe_glob (v := .ref c.NoBlock) (by rfl) X_NoBlock.g rfl) pa_nil))) pa_nil))))))
  (pss_cons (ps_set (i := 1) sc_law_class.nd rfl (Or.inr rfl) (pe_op op_addU (pv 1) (pe_lst (pa_cons (pe_callB (call_isX (p := p) (cls := cls) (by exact List.mem_singleton.mpr rfl) hz hf) (by rfl) M.isinstance (by decide +kernel) (pa_cons (pv 0) (pa_cons (pe_glob (v := .ref c.NoPlace) (by rfl) X_NoPlace.g rfl) pa_nil))) (pa_cons (pe_callB (call_isX (p := p) (cls := cls) (by exact List.mem_singleton.mpr rfl) hz hf) (by rfl) M.isinstance (by decide +kernel) (pa_cons (pv 0) (pa_cons (pe_glob (v := .ref c.NoSum) (by rfl) X_NoSum.g rfl) pa_nil))) (pa_cons (pe_not (pe_callB (call_isX (p := p) (cls := cls) (by exact List.mem_singleton.mpr rfl) hz hf) (by rfl) M.isinstance (by decide +kernel) (pa_cons (pv 0) (pa_cons (pe_bltn (v := .ty "ValueError") (by rfl) M.ValueError (by decide +kernel) rfl) pa_nil)))) pa_nil))))))
  (pss_one (ps_ret (pe_lcH (own := [("_law_k", 2)]) (g := (gName 2)) (tt := (tB (tOp (rIx K) (tVar 1) (tVar 2)))) ⟨p, ⟨hot.1, hot.2⟩, List.mem_singleton.mpr rfl⟩ sc_law_class.nd (by rfl) M.range (pa_cons pe_int pa_nil) (blkOk_by (N := N_law_class) (sc := defScope s_law_class) (by decide +kernel)) (fun _ _ _ _ _ => (pg_name (i := 2) sc_law_class.nd rfl (Or.inl rfl))) (fun _ _ _ _ _ => (pts_one (pt_val (pe_ix ix_seq (pv 1) (pv 2) (fun _ _ => rfl))))) (fun _ _ _ _ _ => (by exact (pv 2))))))))
abbrev s_law_book : Stmt := topS 35
theorem sc_law_book : FnScope N_law_book ["_law_ledger", "_law_rows_here"] (defScope s_law_book) := ⟨rfl, rfl, rfl, by decide +kernel, rfl, by decide +kernel, by decide +kernel⟩
theorem ok_law_book (M : BM mg) (T : TxK K c) (F : FunG K mg "_law_book" s_law_book ["_law_ledger", "_law_rows_here"]) (D : c.md = MD P w) (X_TwinError : ExcT K mg "TwinError" c.TwinError) (G_Book_init : MkG P w K mg base 6 c.Book "Book" ["self", "ledger", "rows"] (sp_Book_init K c)) (G_law_class : FnEG P w K mg base 1 "_law_class" ["_law_e"] (sp_law_class K c)) : FnG P w K mg base 8 "_law_book" ["_law_ledger", "_law_rows_here"] (sp_law_book K c) := by
  refine F.ok sc_law_book len_law_book (fun f cdv A outer s H vs Q E hr h => ⟨t_law_book K c E, ?_, pure_law_book T h⟩)
  exact (pss_cons (L2N.ps_try_as (i := 2) (tb := fun W1 => (tDrop (tMakeS c.Book (sp_Book_init K c) (WE W1) (tCons (tVar 0) (tCons (tVar 1) tNil))))) (ts := fun a cls d => (tRet (tCallE (sp_law_class K c) cls d a (tCons (tVar 2) tNil)))) (Wout := (fun _ _ _ _ => False)) rfl rfl sc_law_book.nd rfl rfl ⟨rfl, by decide, Or.inl X_TwinError.g⟩ takesN0 (fun W1 pn1 xe1 tk1 po1 => (pss_one (ps_expr (pe_makeGS G_Book_init (hr.mono (by decide)) (fun σ => L2N.passAt tk1 σ) (by exact (pa_cons (pv 0) (pa_cons (pv 1) pa_nil))))))) (fun a oe cls d pn hz hf => (pss_one (ps_ret (pe_callE G_law_class (hr.mono (by decide)) hz hf (by exact (pa_cons (pv 2) pa_nil)))))))
  (pss_one (ps_ret (pe_lst pa_nil))))
abbrev s_Book_add : Stmt := inClass (topS 21) 5
theorem sc_Book_add : FnScope N_Book_add ["self", "row"] (defScope s_Book_add) := ⟨rfl, rfl, rfl, by decide +kernel, rfl, by decide +kernel, by decide +kernel⟩
theorem ok_Book_add (M : BM mg) (T : TxK K c) (F : MetG K c.Book "add" "Book.add" s_Book_add ["self", "row"]) (D : c.md = MD P w) (X_Full : ExcT K mg "Full" c.Full) (G_sure_row : FnG P w K mg base 2 "sure_row" ["thing"] (sp_sure_row K c)) (G_Book_grow : MtG P w K mg base 5 c.Book "grow" ["self", "row"] (sp_Book_grow K c)) : MtG P w K mg base 6 c.Book "add" ["self", "row"] (sp_Book_add K c) := by
  refine F.ok sc_Book_add len_Book_add (fun f cdv A outer s H vs Q E hr h => ⟨t_Book_add K c E, ?_, pure_Book_add T h⟩)
  exact (pss_cons (ps_expr (pe_callG (E := E) G_sure_row (hr.mono (by decide)) (passE (L2N.takes_of rfl rfl rfl rfl)) (by exact (pa_cons (pv 1) pa_nil))))
  (pss_cons (ps_if (pt_cmpR (op_eqU hr.units) (pe_callB call_len1 (by rfl) M.len (by decide +kernel) (pa_cons (pe_fld (pv 0) rfl) pa_nil)) (pe_glob (by rfl) M.MOST_ROWS.choose_spec ⟨_, rfl⟩) (nomark _)) (pss_one (ps_raiseG X_Full rfl (L2N.takes_of rfl rfl rfl rfl))) pss_nil)
  (pss_one (ps_ret (pe_methG (E := E) (pv 0) T.cBook G_Book_grow (hr.mono (by decide)) (passE (L2N.takes_of rfl rfl rfl rfl)) (by exact (pa_cons (pv 1) pa_nil)))))))
abbrev s_law_added : Stmt := topS 36
theorem sc_law_added : FnScope N_law_added ["_law_book_here", "_law_row"] (defScope s_law_added) := ⟨rfl, rfl, rfl, by decide +kernel, rfl, by decide +kernel, by decide +kernel⟩
theorem ok_law_added (M : BM mg) (T : TxK K c) (F : FunG K mg "_law_added" s_law_added ["_law_book_here", "_law_row"]) (D : c.md = MD P w) (X_TwinError : ExcT K mg "TwinError" c.TwinError) (G_Book_add : MtG P w K mg base 6 c.Book "add" ["self", "row"] (sp_Book_add K c)) (G_law_class : FnEG P w K mg base 1 "_law_class" ["_law_e"] (sp_law_class K c)) : FnG P w K mg base 7 "_law_added" ["_law_book_here", "_law_row"] (sp_law_added K c) := by
  refine F.ok sc_law_added len_law_added (fun f cdv A outer s H vs Q E hr h => ⟨t_law_added K c E, ?_, pure_law_added T h⟩)
  exact (pss_cons (L2N.ps_try_as (i := 2) (tb := fun W1 => (tDrop (tMethS c.Book "add" (sp_Book_add K c) (WE W1) (tVar 0) (tCons (tVar 1) tNil)))) (ts := fun a cls d => (tRet (tCallE (sp_law_class K c) cls d a (tCons (tVar 2) tNil)))) (Wout := (fun _ _ _ _ => False)) rfl rfl sc_law_added.nd rfl rfl ⟨rfl, by decide, Or.inl X_TwinError.g⟩ takesN0 (fun W1 pn1 xe1 tk1 po1 => (pss_one (ps_expr (pe_methGS (pv 0) T.cBook G_Book_add (hr.mono (by decide)) (fun σ => L2N.passAt tk1 σ) (by exact (pa_cons (pv 1) pa_nil)))))) (fun a oe cls d pn hz hf => (pss_one (ps_ret (pe_callE G_law_class (hr.mono (by decide)) hz hf (by exact (pa_cons (pv 2) pa_nil)))))))
  (pss_one (ps_ret (pe_lst pa_nil))))
abbrev s_Book_count : Stmt := inClass (topS 21) 7
theorem sc_Book_count : FnScope N_Book_count ["self"] (defScope s_Book_count) := ⟨rfl, rfl, rfl, by decide +kernel, rfl, by decide +kernel, by decide +kernel⟩
theorem ok_Book_count (M : BM mg) (T : TxK K c) (F : MetG K c.Book "count" "Book.count" s_Book_count ["self"]) (D : c.md = MD P w) : MtG P w K mg base 1 c.Book "count" ["self"] (sp_Book_count K c) := by
  refine F.ok sc_Book_count len_Book_count (fun f cdv A outer s H vs Q E hr h => ⟨t_Book_count K c E, ?_, pure_Book_count T h⟩)
  exact (pss_one (ps_ret (pe_callB call_len1 (by rfl) M.len (by decide +kernel) (pa_cons (pe_fld (pv 0) rfl) pa_nil))))
abbrev s_size_of : Stmt := topS 2
theorem sc_size_of : FnScope N_size_of ["height"] (defScope s_size_of) := ⟨rfl, rfl, rfl, by decide +kernel, rfl, by decide +kernel, by decide +kernel⟩
theorem ok_size_of (M : BM mg) (T : TxK K c) (F : FunG K mg "size_of" s_size_of ["height"]) (D : c.md = MD P w) : FnG P w K mg base 1 "size_of" ["height"] (sp_size_of K c) := by
  refine F.ok sc_size_of len_size_of (fun f cdv A outer s H vs Q E hr h => ⟨t_size_of K c E, ?_, pure_size_of h⟩)
  exact (pss_cons (ps_set (i := 1) sc_size_of.nd rfl (Or.inl rfl) pe_int)
  (pss_cons (ps_for (passes_of rfl) rfl (pi_range1 (by rfl) M.range (pa_cons (pv 0) pa_nil)) (pg_name (i := 2) sc_size_of.nd rfl (Or.inl rfl)) (pss_one (ps_set (i := 1) sc_size_of.nd rfl (Or.inl rfl) (pe_op op_mul1 pe_int (pv 1)))))
  (pss_one (ps_ret (pv 1)))))
abbrev s_Book_cut : Stmt := inClass (topS 21) 6
theorem sc_Book_cut : FnScope N_Book_cut ["self"] (defScope s_Book_cut) := ⟨rfl, rfl, rfl, by decide +kernel, rfl, by decide +kernel, by decide +kernel⟩
theorem ok_Book_cut (M : BM mg) (T : TxK K c) (F : MetG K c.Book "cut" "Book.cut" s_Book_cut ["self"]) (D : c.md = MD P w) (X_NoPlace : ExcT K mg "NoPlace" c.NoPlace) (G_size_of : FnG P w K mg base 1 "size_of" ["height"] (sp_size_of K c)) : MtG P w K mg base 2 c.Book "cut" ["self"] (sp_Book_cut K c) := by
  refine F.ok sc_Book_cut len_Book_cut (fun f cdv A outer s H vs Q E hr h => ⟨t_Book_cut K c E, ?_, pure_Book_cut T h⟩)
  exact (pss_cons (ps_if (pt_cmpR (op_eqU hr.units) (pe_callB call_len1 (by rfl) M.len (by decide +kernel) (pa_cons (pe_fld (pv 0) rfl) pa_nil)) pe_int (nomark _)) (pss_one (ps_raiseG X_NoPlace rfl (L2N.takes_of rfl rfl rfl rfl))) pss_nil)
  (pss_cons (ps_set (i := 1) sc_Book_cut.nd rfl (Or.inl rfl) (pe_callB call_len1 (by rfl) M.len (by decide +kernel) (pa_cons (pe_fld (pv 0) rfl) pa_nil)))
  (pss_cons (ps_expr (pe_bm0 PySem.F.plainAttrs_list PySem.F.slot_list_pop PySem.F.type_list_pop mt_pop (pe_fld (pv 0) rfl)))
  (pss_cons (ps_expr (pe_bm0 PySem.F.plainAttrs_list PySem.F.slot_list_pop PySem.F.type_list_pop mt_pop (pe_ix ix_seq (pe_fld (pv 0) rfl) pe_int (fun _ _ => rfl))))
  (pss_cons (ps_set (i := 2) sc_Book_cut.nd rfl (Or.inl rfl) pe_int)
  (pss_cons (ps_while (passes_of rfl) (pt_cmpR (op_eqU hr.units) (pe_op op_mod1 (pv 1) (pe_callG (E := E) G_size_of (hr.mono (by decide)) (passE (L2N.takes_of rfl rfl rfl rfl)) (by exact (pa_cons (pv 2) pa_nil)))) pe_int (nomark _)) (pss_cons (ps_expr (pe_bm0 PySem.F.plainAttrs_list PySem.F.slot_list_pop PySem.F.type_list_pop mt_pop (pe_ix ix_seq (pe_fld (pv 0) rfl) (pv 2) (fun _ _ => rfl))))
  (pss_one (ps_set (i := 2) sc_Book_cut.nd rfl (Or.inl rfl) (pe_op op_addU (pv 2) pe_int)))))
  (pss_one (ps_ret (pv 2)))))))))
abbrev s_law_long : Stmt := topS 37
theorem sc_law_long : FnScope N_law_long ["_law_script", "_law_cell"] (defScope s_law_long) := ⟨rfl, rfl, rfl, by decide +kernel, rfl, by decide +kernel, by decide +kernel⟩
theorem ok_law_long (M : BM mg) (T : TxK K c) (F : FunG K mg "_law_long" s_law_long ["_law_script", "_law_cell"]) (D : c.md = MD P w) (G_Ledger_init : MkG P w K mg base 1 c.Ledger "Ledger" ["self"] (sp_Ledger_init K c)) (G_Book_init : MkG P w K mg base 6 c.Book "Book" ["self", "ledger", "rows"] (sp_Book_init K c)) (G_Ledger_many : MtG P w K mg base 1 c.Ledger "many" ["self"] (sp_Ledger_many K c)) (G_law_mix : FnG P w K mg base 1 "_law_mix" ["_law_number", "_law_k"] (sp_law_mix K c)) (G_law_book : FnG P w K mg base 8 "_law_book" ["_law_ledger", "_law_rows_here"] (sp_law_book K c)) (G_law_added : FnG P w K mg base 7 "_law_added" ["_law_book_here", "_law_row"] (sp_law_added K c)) (G_Book_count : MtG P w K mg base 1 c.Book "count" ["self"] (sp_Book_count K c)) (G_Book_cut : MtG P w K mg base 2 c.Book "cut" ["self"] (sp_Book_cut K c)) : FnG P w K mg base 9 "_law_long" ["_law_script", "_law_cell"] (sp_law_long K c) := by
  refine F.ok sc_law_long len_law_long (fun f cdv A outer s H vs Q E hr h => ⟨t_law_long K c E, ?_, pure_law_long T h⟩)
  exact (pss_cons (ps_set (i := 2) sc_law_long.nd rfl (Or.inl rfl) (pe_makeG0 (E := E0) G_Ledger_init (hr.mono (by decide)) passN))
  (pss_cons (ps_set (i := 3) sc_law_long.nd rfl (Or.inl rfl) (pe_op op_addU pe_int (pe_op op_mod1 (pv 1) pe_int)))
  (pss_cons (ps_setLc (i := 5) (own := [("_law_k", 4)]) (g := (gName 4)) (tt := tYes) rfl sc_law_long.nd rfl rfl (sw_true rfl rfl rfl (by decide +kernel)) (pi_range1 (by rfl) M.range (pa_cons (pv 3) pa_nil)) (blkOk_by (N := N_law_long) (sc := defScope s_law_long) (by decide +kernel)) (fun _ _ _ _ _ => (pg_name (i := 4) sc_law_long.nd rfl (Or.inl rfl))) (fun _ _ _ _ _ => pts_nil) (fun _ _ _ _ _ => (by exact (pe_ix ix_seq (pe_lst (pa_cons pe_str (pa_cons pe_str (pa_cons pe_str pa_nil)))) (pe_op op_mod1 (pe_op op_addU (pe_op op_div1 (pv 1) pe_int) (pe_op op_div1 (pv 4) (pe_op op_addU pe_int (pe_op op_mod1 (pe_op op_div1 (pv 1) pe_int) pe_int)))) pe_int) (fun _ _ => rfl)))))
  (pss_cons (ps_set (i := 6) sc_law_long.nd rfl (Or.inl rfl) (pe_callTy call_list1 (by rfl) M.list (by decide +kernel) (pa_cons (pv 5) pa_nil)))
  (pss_cons (ps_asg (pe_ix ix_seq (pe_lst (pa_cons pe_str (pa_cons pe_non (pa_cons pe_str (pa_cons (pe_op op_mulS pe_str pe_int) pa_nil))))) (pe_op op_mod1 (pe_op op_div1 (pv 1) pe_int) pe_int) (fun _ _ => rfl)) (pg_sub (pv 6) (pe_op op_mod1 (pe_callG (E := E0) G_law_mix (hr.mono (by decide)) passN (by exact (pa_cons (pv 1) (pa_cons pe_int pa_nil)))) (pv 3)) set_list))
  (pss_cons (ps_if (PW.pt (pw_or (pt_cmpR (op_neU hr.units) (pe_callG (E := E0) G_law_book (hr.mono (by decide)) passN (by exact (pa_cons (pv 2) (pa_cons (pv 6) pa_nil)))) (pe_lst (pa_cons pe_int pa_nil)) (nomark _)) (pw_or1 (pt_cmpR (op_neU hr.units) (pe_methG0 (E := E0) (pv 2) T.cLedger G_Ledger_many (hr.mono (by decide)) passN) pe_int (nomark _))))) (pss_one (ps_ret pe_bl)) pss_nil)
  (pss_cons (ps_if (pt_cmpR op_gt1 (pv 3) pe_int (nomark _)) (pss_one (ps_ret (pe_and (pe_cmpR (op_eqU hr.units) (pe_callG (E := E0) G_law_book (hr.mono (by decide)) passN (by exact (pa_cons (pv 2) (pa_cons (pv 5) pa_nil)))) (pe_lst (pa_cons pe_int pa_nil)) (nomark _)) (pe_one (pe_cmpR (op_eqU hr.units) (pe_methG0 (E := E0) (pv 2) T.cLedger G_Ledger_many (hr.mono (by decide)) passN) pe_int (nomark _)))))) pss_nil)
  (pss_cons (ps_set (i := 7) sc_law_long.nd rfl (Or.inl rfl) (pe_makeG (E := E0) G_Book_init (hr.mono (by decide)) passN (by exact (pa_cons (pv 2) (pa_cons (pv 5) pa_nil)))))
  (pss_cons (ps_for (passes_of rfl) rfl (pi_range2 (by rfl) M.range (pa_cons (pv 3) (pa_cons pe_int pa_nil))) (pg_name (i := 4) sc_law_long.nd rfl (Or.inl rfl)) (pss_one (ps_if (pt_cmpR (op_neU hr.units) (pe_callG (E := E0) G_law_added (hr.mono (by decide)) passN (by exact (pa_cons (pv 7) (pa_cons pe_str pa_nil)))) (pe_lst pa_nil) (nomark _)) (pss_one (ps_ret pe_bl)) pss_nil)))
  (pss_cons (ps_set (i := 8) sc_law_long.nd rfl (Or.inl rfl) (pe_methG0 (E := E0) (pv 2) T.cLedger G_Ledger_many (hr.mono (by decide)) passN))
  (pss_cons (ps_if (PW.pt (pw_or (pt_cmpR (op_neU hr.units) (pe_callG (E := E0) G_law_added (hr.mono (by decide)) passN (by exact (pa_cons (pv 7) (pa_cons pe_str pa_nil)))) (pe_lst (pa_cons pe_int pa_nil)) (nomark _)) (pw_or (pt_cmpR (op_neU hr.units) (pe_callG (E := E0) G_law_added (hr.mono (by decide)) passN (by exact (pa_cons (pv 7) (pa_cons pe_str pa_nil)))) (pe_lst (pa_cons pe_int pa_nil)) (nomark _)) (pw_or1 (pt_cmpR (op_neU hr.units) (pe_methG0 (E := E0) (pv 2) T.cLedger G_Ledger_many (hr.mono (by decide)) passN) (pv 8) (nomark _)))))) (pss_one (ps_ret pe_bl)) pss_nil)
  (pss_one (ps_ret (pe_and (pe_cmpR (op_eqU hr.units) (pe_methG0 (E := E0) (pv 7) T.cBook G_Book_count (hr.mono (by decide)) passN) pe_int (nomark _)) (pe_and (pe_cmpR (op_eqU hr.units) (pe_methG0 (E := E0) (pv 7) T.cBook G_Book_cut (hr.mono (by decide)) passN) pe_int (nomark _)) (pe_one (pe_cmpR (op_eqU hr.units) (pe_callG (E := E0) G_law_added (hr.mono (by decide)) passN (by exact (pa_cons (pv 7) (pa_cons pe_str pa_nil)))) (pe_lst pa_nil) (nomark _))))))))))))))))))
abbrev s_Book_rows : Stmt := inClass (topS 21) 9
theorem sc_Book_rows : FnScope N_Book_rows ["self"] (defScope s_Book_rows) := ⟨rfl, rfl, rfl, by decide +kernel, rfl, by decide +kernel, by decide +kernel⟩
theorem ok_Book_rows (M : BM mg) (T : TxK K c) (F : MetG K c.Book "rows" "Book.rows" s_Book_rows ["self"]) (D : c.md = MD P w) : MtG P w K mg base 1 c.Book "rows" ["self"] (sp_Book_rows K c) := by
  refine F.ok sc_Book_rows len_Book_rows (fun f cdv A outer s H vs Q E hr h => ⟨t_Book_rows K c E, ?_, pure_Book_rows T h⟩)
  exact (pss_one (ps_ret (pe_callTy call_list1 (by rfl) M.list (by decide +kernel) (pa_cons (pe_fld (pv 0) rfl) pa_nil))))
abbrev s_Looker_init : Stmt := inClass (topS 23) 0
theorem sc_Looker_init : FnScope N_Looker_init ["self", "one", "other"] (defScope s_Looker_init) := ⟨rfl, rfl, rfl, by decide +kernel, rfl, by decide +kernel, by decide +kernel⟩
theorem ok_Looker_init (M : BM mg) (T : TxK K c) (F : IniG K mg c.Looker "Looker" "Looker.__init__" s_Looker_init ["self", "one", "other"]) (D : c.md = MD P w) (X_Strange : ExcT K mg "Strange" c.Strange) : MkG P w K mg base 1 c.Looker "Looker" ["self", "one", "other"] (sp_Looker_init K c) := by
  refine F.ok sc_Looker_init len_Looker_init (fun f cdv A outer s H vs Q E hr h => ⟨t_Looker_init K c E, ?_, pure_Looker_init T h⟩)
  exact (pss_cons (ps_if (pt_cmpR (op_neIns hr.units) (pe_fld (pv 1) rfl) (pe_fld (pv 2) rfl) (nomark _)) (pss_one (ps_raiseG X_Strange rfl (L2N.takes_of rfl rfl rfl rfl))) pss_nil)
  (pss_cons (ps_fld (pv 0) (pv 1) rfl)
  (pss_cons (ps_fld (pv 0) (pv 2) rfl)
  (pss_one (ps_fld (pv 0) (pe_lst pa_nil) rfl)))))
abbrev s_digits : Stmt := topS 1
theorem sc_digits : FnScope N_digits ["count"] (defScope s_digits) := ⟨rfl, rfl, rfl, by decide +kernel, rfl, by decide +kernel, by decide +kernel⟩
theorem ok_digits (M : BM mg) (T : TxK K c) (F : FunG K mg "digits" s_digits ["count"]) (D : c.md = MD P w) : FnG P w K mg base 1 "digits" ["count"] (sp_digits K c) := by
  refine F.ok sc_digits len_digits (fun f cdv A outer s H vs Q E hr h => ⟨t_digits K c E, ?_, pure_digits h⟩)
  exact (pss_cons (ps_set (i := 1) sc_digits.nd rfl (Or.inl rfl) pe_int)
  (pss_cons (ps_while (passes_of rfl) (pt_cmpR op_gt1 (pv 0) pe_int (nomark _)) (pss_cons (ps_set (i := 0) sc_digits.nd rfl (Or.inl rfl) (pe_op op_div1 (pv 0) pe_int))
  (pss_one (ps_set (i := 1) sc_digits.nd rfl (Or.inl rfl) (pe_op op_addU (pv 1) pe_int)))))
  (pss_one (ps_ret (pv 1)))))
abbrev s_parted : Stmt := topS 3
theorem sc_parted : FnScope N_parted ["count"] (defScope s_parted) := ⟨rfl, rfl, rfl, by decide +kernel, rfl, by decide +kernel, by decide +kernel⟩
theorem ok_parted (M : BM mg) (T : TxK K c) (F : FunG K mg "parted" s_parted ["count"]) (D : c.md = MD P w) (G_size_of : FnG P w K mg base 1 "size_of" ["height"] (sp_size_of K c)) (G_digits : FnG P w K mg base 1 "digits" ["count"] (sp_digits K c)) : FnG P w K mg base 2 "parted" ["count"] (sp_parted K c) := by
  refine F.ok sc_parted len_parted (fun f cdv A outer s H vs Q E hr h => ⟨t_parted K c E, ?_, pure_parted h⟩)
  exact (pss_cons (ps_set (i := 1) sc_parted.nd rfl (Or.inl rfl) (pe_lst pa_nil))
  (pss_cons (ps_set (i := 2) sc_parted.nd rfl (Or.inl rfl) pe_int)
  (pss_cons (ps_for (passes_of rfl) rfl (pi_range3 (by rfl) M.range (pa_cons (pe_op op_sub1 (pe_callG (E := E0) G_digits (hr.mono (by decide)) passN (by exact (pa_cons (pv 0) pa_nil))) pe_int) (pa_cons (pe_un un_neg pe_int) (pa_cons (pe_un un_neg pe_int) pa_nil)))) (pg_name (i := 3) sc_parted.nd rfl (Or.inl rfl)) (pss_cons (ps_set (i := 4) sc_parted.nd rfl (Or.inl rfl) (pe_callG (E := E0) G_size_of (hr.mono (by decide)) passN (by exact (pa_cons (pv 3) pa_nil))))
  (pss_one (ps_if (pt_cmpR (op_eqU hr.units) (pe_op op_mod1 (pe_op op_div1 (pv 0) (pv 4)) pe_int) pe_int (nomark _)) (pss_cons (ps_expr (pe_bm PySem.F.plainAttrs_list PySem.F.slot_list_append PySem.F.type_list_append mt_append (pv 1) (pa_cons (pe_tup (pa_cons (pv 3) (pa_cons (pe_op op_div1 (pv 2) (pv 4)) pa_nil))) pa_nil)))
  (pss_one (ps_set (i := 2) sc_parted.nd rfl (Or.inl rfl) (pe_op op_addU (pv 2) (pv 4))))) pss_nil))))
  (pss_one (ps_ret (pv 1))))))
abbrev s_Looker_lesser : Stmt := inClass (topS 23) 1
theorem sc_Looker_lesser : FnScope N_Looker_lesser ["self"] (defScope s_Looker_lesser) := ⟨rfl, rfl, rfl, by decide +kernel, rfl, by decide +kernel, by decide +kernel⟩
theorem ok_Looker_lesser (M : BM mg) (T : TxK K c) (F : MetG K c.Looker "lesser" "Looker.lesser" s_Looker_lesser ["self"]) (D : c.md = MD P w) (G_Book_count : MtG P w K mg base 1 c.Book "count" ["self"] (sp_Book_count K c)) : MtG P w K mg base 2 c.Looker "lesser" ["self"] (sp_Looker_lesser K c) := by
  refine F.ok sc_Looker_lesser len_Looker_lesser (fun f cdv A outer s H vs Q E hr h => ⟨t_Looker_lesser K c E, ?_, pure_Looker_lesser T h⟩)
  exact (pss_one (ps_ret (pe_callB (call_min1 rfl) (by rfl) M.min (by decide +kernel) (pa_cons (pe_methG0 (E := E0) (pe_fld (pv 0) rfl) T.cBook G_Book_count (hr.mono (by decide)) passN) (pa_cons (pe_methG0 (E := E0) (pe_fld (pv 0) rfl) T.cBook G_Book_count (hr.mono (by decide)) passN) pa_nil)))))
abbrev s_Book_has_block : Stmt := inClass (topS 21) 10
theorem sc_Book_has_block : FnScope N_Book_has_block ["self", "height", "number"] (defScope s_Book_has_block) := ⟨rfl, rfl, rfl, by decide +kernel, rfl, by decide +kernel, by decide +kernel⟩
theorem ok_Book_has_block (M : BM mg) (T : TxK K c) (F : MetG K c.Book "has_block" "Book.has_block" s_Book_has_block ["self", "height", "number"]) (D : c.md = MD P w) (G_is_whole : FnG P w K mg base 1 "is_whole" ["thing"] (sp_is_whole K c)) : MtG P w K mg base 2 c.Book "has_block" ["self", "height", "number"] (sp_Book_has_block K c) := by
  refine F.ok sc_Book_has_block len_Book_has_block (fun f cdv A outer s H vs Q E hr h => ⟨t_Book_has_block K c E, ?_, pure_Book_has_block T h⟩)
  exact (pss_cons (ps_if (PW.pt (pw_or (pt_not (pt_val (pe_callG (E := E0) G_is_whole (hr.mono (by decide)) passN (by exact (pa_cons (pv 1) pa_nil))))) (pw_or (pt_not (pt_val (pe_callG (E := E0) G_is_whole (hr.mono (by decide)) passN (by exact (pa_cons (pv 2) pa_nil))))) (pw_or (pt_cmpR op_lt1 (pv 1) pe_int (nomark _)) (pw_or1 (pt_cmpR op_lt1 (pv 2) pe_int (nomark _))))))) (pss_one (ps_ret pe_bl)) pss_nil)
  (pss_one (ps_ret (pe_and (pe_cmpR op_lt1 (pv 1) (pe_callB call_len1 (by rfl) M.len (by decide +kernel) (pa_cons (pe_fld (pv 0) rfl) pa_nil)) (nomark _)) (pe_one (pe_cmpR op_lt1 (pv 2) (pe_callB call_len1 (by rfl) M.len (by decide +kernel) (pa_cons (pe_ix ix_seq (pe_fld (pv 0) rfl) (pv 1) (fun _ _ => rfl)) pa_nil)) (nomark _)))))))
abbrev s_Book_sum_of : Stmt := inClass (topS 21) 11
theorem sc_Book_sum_of : FnScope N_Book_sum_of ["self", "height", "number"] (defScope s_Book_sum_of) := ⟨rfl, rfl, rfl, by decide +kernel, rfl, by decide +kernel, by decide +kernel⟩
theorem ok_Book_sum_of (M : BM mg) (T : TxK K c) (F : MetG K c.Book "sum_of" "Book.sum_of" s_Book_sum_of ["self", "height", "number"]) (D : c.md = MD P w) (X_NoBlock : ExcT K mg "NoBlock" c.NoBlock) (G_Book_has_block : MtG P w K mg base 2 c.Book "has_block" ["self", "height", "number"] (sp_Book_has_block K c)) : MtG P w K mg base 3 c.Book "sum_of" ["self", "height", "number"] (sp_Book_sum_of K c) := by
  refine F.ok sc_Book_sum_of len_Book_sum_of (fun f cdv A outer s H vs Q E hr h => ⟨t_Book_sum_of K c E, ?_, pure_Book_sum_of T h⟩)
  exact (pss_cons (ps_if (pt_not (pt_val (pe_methG (E := E) (pv 0) T.cBook G_Book_has_block (hr.mono (by decide)) (passE (L2N.takes_of rfl rfl rfl rfl)) (by exact (pa_cons (pv 1) (pa_cons (pv 2) pa_nil)))))) (pss_one (ps_raiseG X_NoBlock rfl (L2N.takes_of rfl rfl rfl rfl))) pss_nil)
  (pss_one (ps_ret (pe_ix ix_seq (pe_ix ix_seq (pe_fld (pv 0) rfl) (pv 1) (fun _ _ => rfl)) (pv 2) (fun _ _ => rfl)))))
abbrev s_Looker_are_alike : Stmt := inClass (topS 23) 2
theorem sc_Looker_are_alike : FnScope N_Looker_are_alike ["self", "height", "number"] (defScope s_Looker_are_alike) := ⟨rfl, rfl, rfl, by decide +kernel, rfl, by decide +kernel, by decide +kernel⟩
theorem ok_Looker_are_alike (M : BM mg) (T : TxK K c) (F : MetG K c.Looker "are_alike" "Looker.are_alike" s_Looker_are_alike ["self", "height", "number"]) (D : c.md = MD P w) (G_Book_sum_of : MtG P w K mg base 3 c.Book "sum_of" ["self", "height", "number"] (sp_Book_sum_of K c)) : MtG P w K mg base 4 c.Looker "are_alike" ["self", "height", "number"] (sp_Looker_are_alike K c) := by
  refine F.ok sc_Looker_are_alike len_Looker_are_alike (fun f cdv A outer s H vs Q E hr h => ⟨t_Looker_are_alike K c E, ?_, pure_Looker_are_alike T h⟩)
  exact (pss_cons (ps_set (i := 3) sc_Looker_are_alike.nd rfl (Or.inl rfl) (pe_cmpR (op_eqU hr.units) (pe_methG (E := E0) (pe_fld (pv 0) rfl) T.cBook G_Book_sum_of (hr.mono (by decide)) passN (by exact (pa_cons (pv 1) (pa_cons (pv 2) pa_nil)))) (pe_methG (E := E0) (pe_fld (pv 0) rfl) T.cBook G_Book_sum_of (hr.mono (by decide)) passN (by exact (pa_cons (pv 1) (pa_cons (pv 2) pa_nil)))) (nomark _)))
  (pss_cons (ps_expr (pe_bm PySem.F.plainAttrs_list PySem.F.slot_list_append PySem.F.type_list_append mt_append (pe_fld (pv 0) rfl) (pa_cons (pe_tup (pa_cons (pv 1) (pa_cons (pv 2) (pa_cons (pv 3) pa_nil)))) pa_nil)))
  (pss_one (ps_ret (pv 3)))))
abbrev s_Looker_first_in : Stmt := inClass (topS 23) 3
theorem sc_Looker_first_in : FnScope N_Looker_first_in ["self", "height", "number"] (defScope s_Looker_first_in) := ⟨rfl, rfl, rfl, by decide +kernel, rfl, by decide +kernel, by decide +kernel⟩
theorem ok_Looker_first_in (M : BM mg) (T : TxK K c) (F : MetG K c.Looker "first_in" "Looker.first_in" s_Looker_first_in ["self", "height", "number"]) (D : c.md = MD P w) (G_Looker_are_alike : MtG P w K mg base 4 c.Looker "are_alike" ["self", "height", "number"] (sp_Looker_are_alike K c)) : MtG P w K mg base 5 c.Looker "first_in" ["self", "height", "number"] (sp_Looker_first_in K c) := by
  refine F.ok sc_Looker_first_in len_Looker_first_in (fun f cdv A outer s H vs Q E hr h => ⟨t_Looker_first_in K c E, ?_, pure_Looker_first_in T h⟩)
  exact (pss_cons (ps_while (passes_of rfl) (pt_cmpR op_gt1 (pv 1) pe_int (nomark _)) (pss_cons (ps_set (i := 1) sc_Looker_first_in.nd rfl (Or.inl rfl) (pe_op op_sub1 (pv 1) pe_int))
  (pss_cons (ps_set (i := 2) sc_Looker_first_in.nd rfl (Or.inl rfl) (pe_op op_mul1 pe_int (pv 2)))
  (pss_one (ps_if (pt_val (pe_methG (E := E0) (pv 0) T.cLooker G_Looker_are_alike (hr.mono (by decide)) passN (by exact (pa_cons (pv 1) (pa_cons (pv 2) pa_nil))))) (pss_one (ps_set (i := 2) sc_Looker_first_in.nd rfl (Or.inl rfl) (pe_op op_addU (pv 2) pe_int))) pss_nil)))))
  (pss_one (ps_ret (pv 2))))
abbrev s_first_unlike : Stmt := topS 24
theorem sc_first_unlike : FnScope N_first_unlike ["one", "other"] (defScope s_first_unlike) := ⟨rfl, rfl, rfl, by decide +kernel, rfl, by decide +kernel, by decide +kernel⟩
theorem ok_first_unlike (M : BM mg) (T : TxK K c) (F : FunG K mg "first_unlike" s_first_unlike ["one", "other"]) (D : c.md = MD P w) (G_Looker_init : MkG P w K mg base 1 c.Looker "Looker" ["self", "one", "other"] (sp_Looker_init K c)) (G_parted : FnG P w K mg base 2 "parted" ["count"] (sp_parted K c)) (G_Looker_lesser : MtG P w K mg base 2 c.Looker "lesser" ["self"] (sp_Looker_lesser K c)) (G_Book_count : MtG P w K mg base 1 c.Book "count" ["self"] (sp_Book_count K c)) (G_Looker_are_alike : MtG P w K mg base 4 c.Looker "are_alike" ["self", "height", "number"] (sp_Looker_are_alike K c)) (G_Looker_first_in : MtG P w K mg base 5 c.Looker "first_in" ["self", "height", "number"] (sp_Looker_first_in K c)) : FnG P w K mg base 6 "first_unlike" ["one", "other"] (sp_first_unlike K c) := by
  refine F.ok sc_first_unlike len_first_unlike (fun f cdv A outer s H vs Q E hr h => ⟨t_first_unlike K c E, ?_, pure_first_unlike T h⟩)
  exact (pss_cons (ps_set (i := 2) sc_first_unlike.nd rfl (Or.inl rfl) (pe_makeG (E := E) G_Looker_init (hr.mono (by decide)) (passE (L2N.takes_of rfl rfl rfl rfl)) (by exact (pa_cons (pv 0) (pa_cons (pv 1) pa_nil)))))
  (pss_cons (ps_for (passes_of rfl) rfl (pi_list (pe_callG (E := E) G_parted (hr.mono (by decide)) (passE (L2N.takes_of rfl rfl rfl rfl)) (by exact (pa_cons (pe_methG0 (E := E) (pv 2) T.cLooker G_Looker_lesser (hr.mono (by decide)) (passE (L2N.takes_of rfl rfl rfl rfl))) pa_nil)))) (pg_tup rfl (pgs_cons (pg_name (i := 3) sc_first_unlike.nd rfl (Or.inl rfl)) (pgs_cons (pg_name (i := 4) sc_first_unlike.nd rfl (Or.inl rfl)) pgs_nil))) (pss_one (ps_if (pt_not (pt_val (pe_methG (E := E) (pv 2) T.cLooker G_Looker_are_alike (hr.mono (by decide)) (passE (L2N.takes_of rfl rfl rfl rfl)) (by exact (pa_cons (pv 3) (pa_cons (pv 4) pa_nil)))))) (pss_one (ps_ret (pe_tup (pa_cons (pe_methG (E := E) (pv 2) T.cLooker G_Looker_first_in (hr.mono (by decide)) (passE (L2N.takes_of rfl rfl rfl rfl)) (by exact (pa_cons (pv 3) (pa_cons (pv 4) pa_nil)))) (pa_cons (pe_fld (pv 2) rfl) pa_nil))))) pss_nil)))
  (pss_cons (ps_if (pt_cmpR (op_eqU hr.units) (pe_methG0 (E := E) (pv 0) T.cBook G_Book_count (hr.mono (by decide)) (passE (L2N.takes_of rfl rfl rfl rfl))) (pe_methG0 (E := E) (pv 1) T.cBook G_Book_count (hr.mono (by decide)) (passE (L2N.takes_of rfl rfl rfl rfl))) (nomark _)) (pss_one (ps_ret (pe_tup (pa_cons pe_non (pa_cons (pe_fld (pv 2) rfl) pa_nil))))) pss_nil)
  (pss_one (ps_ret (pe_tup (pa_cons (pe_methG0 (E := E) (pv 2) T.cLooker G_Looker_lesser (hr.mono (by decide)) (passE (L2N.takes_of rfl rfl rfl rfl))) (pa_cons (pe_fld (pv 2) rfl) pa_nil))))))))
abbrev s_Looker_all_in : Stmt := inClass (topS 23) 4
theorem sc_Looker_all_in : FnScope N_Looker_all_in ["self", "height", "number"] (defScope s_Looker_all_in) := ⟨rfl, rfl, rfl, by decide +kernel, rfl, by decide +kernel, by decide +kernel⟩
theorem okn_Looker_all_in (M : BM mg) (T : TxK K c) (F : MetG K c.Looker "all_in" "Looker.all_in" s_Looker_all_in ["self", "height", "number"]) (D : c.md = MD P w) (G_Looker_are_alike : MtG P w K mg base 4 c.Looker "are_alike" ["self", "height", "number"] (sp_Looker_are_alike K c)) : ∀ n, MtG P w K mg base (5 + n) c.Looker "all_in" ["self", "height", "number"] (sp_Looker_all_in n K c) := by
  intro n
  induction n with
  | zero =>
    exact (F.ok sc_Looker_all_in (len_Looker_all_in 0) (fun f cdv A outer s H vs Q E hr h => h.elim) : MtG P w K mg base 5 c.Looker "all_in" ["self", "height", "number"] (sp_Looker_all_in 0 K c))
  | succ n G_self =>
    refine F.ok sc_Looker_all_in (len_Looker_all_in (n + 1)) (fun f cdv A outer s H vs Q E hr h => ⟨t_Looker_all_in n K c E, ?_, pure_Looker_all_in n T h⟩)
    exact (pss_cons (ps_if (pt_cmpR (op_eqU hr.units) (pv 1) pe_int (nomark _)) (pss_one (ps_ret (pe_lst (pa_cons (pv 2) pa_nil)))) pss_nil)
  (pss_cons (ps_set (i := 3) sc_Looker_all_in.nd rfl (Or.inl rfl) (pe_lst pa_nil))
  (pss_cons (ps_set (i := 4) sc_Looker_all_in.nd rfl (Or.inl rfl) (pe_methG (E := E0) (pv 0) T.cLooker G_Looker_are_alike (hr.mono (Nat.le_trans (by decide) (Nat.le_add_right 5 n))) passN (by exact (pa_cons (pe_op op_sub1 (pv 1) pe_int) (pa_cons (pe_op op_mul1 pe_int (pv 2)) pa_nil)))))
  (pss_cons (ps_if (pt_not (pt_val (pv 4))) (pss_one (ps_set (i := 3) sc_Looker_all_in.nd rfl (Or.inl rfl) (pe_methG (E := E0) (pv 0) T.cLooker G_self hr passN (by exact (pa_cons (pe_op op_sub1 (pv 1) pe_int) (pa_cons (pe_op op_mul1 pe_int (pv 2)) pa_nil)))))) pss_nil)
  (pss_cons (ps_if (PW.pt (pw_or (pt_val (pv 4)) (pw_or1 (pt_not (pt_val (pe_methG (E := E0) (pv 0) T.cLooker G_Looker_are_alike (hr.mono (Nat.le_trans (by decide) (Nat.le_add_right 5 n))) passN (by exact (pa_cons (pe_op op_sub1 (pv 1) pe_int) (pa_cons (pe_op op_addU (pe_op op_mul1 pe_int (pv 2)) pe_int) pa_nil))))))))) (pss_one (ps_set (i := 3) sc_Looker_all_in.nd rfl (Or.inl rfl) (pe_op op_addU (pv 3) (pe_methG (E := E0) (pv 0) T.cLooker G_self hr passN (by exact (pa_cons (pe_op op_sub1 (pv 1) pe_int) (pa_cons (pe_op op_addU (pe_op op_mul1 pe_int (pv 2)) pe_int) pa_nil))))))) pss_nil)
  (pss_one (ps_ret (pv 3))))))))
theorem ok_Looker_all_in (M : BM mg) (T : TxK K c) (F : MetG K c.Looker "all_in" "Looker.all_in" s_Looker_all_in ["self", "height", "number"]) (D : c.md = MD P w) (G_Looker_are_alike : MtG P w K mg base 4 c.Looker "are_alike" ["self", "height", "number"] (sp_Looker_are_alike K c)) : MtG P w K mg base 25 c.Looker "all_in" ["self", "height", "number"] (sp_Looker_all_in 20 K c) := okn_Looker_all_in M T F D G_Looker_are_alike 20
abbrev s_all_unlike : Stmt := topS 25
theorem sc_all_unlike : FnScope N_all_unlike ["one", "other"] (defScope s_all_unlike) := ⟨rfl, rfl, rfl, by decide +kernel, rfl, by decide +kernel, by decide +kernel⟩
theorem ok_all_unlike (M : BM mg) (T : TxK K c) (F : FunG K mg "all_unlike" s_all_unlike ["one", "other"]) (D : c.md = MD P w) (G_Looker_init : MkG P w K mg base 1 c.Looker "Looker" ["self", "one", "other"] (sp_Looker_init K c)) (G_parted : FnG P w K mg base 2 "parted" ["count"] (sp_parted K c)) (G_Looker_lesser : MtG P w K mg base 2 c.Looker "lesser" ["self"] (sp_Looker_lesser K c)) (G_Looker_are_alike : MtG P w K mg base 4 c.Looker "are_alike" ["self", "height", "number"] (sp_Looker_are_alike K c)) (G_Looker_all_in : MtG P w K mg base 25 c.Looker "all_in" ["self", "height", "number"] (sp_Looker_all_in 20 K c)) : FnG P w K mg base 26 "all_unlike" ["one", "other"] (sp_all_unlike K c) := by
  refine F.ok sc_all_unlike len_all_unlike (fun f cdv A outer s H vs Q E hr h => ⟨t_all_unlike K c E, ?_, pure_all_unlike T h⟩)
  exact (pss_cons (ps_set (i := 2) sc_all_unlike.nd rfl (Or.inl rfl) (pe_makeG (E := E) G_Looker_init (hr.mono (by decide)) (passE (L2N.takes_of rfl rfl rfl rfl)) (by exact (pa_cons (pv 0) (pa_cons (pv 1) pa_nil)))))
  (pss_cons (ps_set (i := 3) sc_all_unlike.nd rfl (Or.inl rfl) (pe_lst pa_nil))
  (pss_cons (ps_for (passes_of rfl) rfl (pi_list (pe_callG (E := E) G_parted (hr.mono (by decide)) (passE (L2N.takes_of rfl rfl rfl rfl)) (by exact (pa_cons (pe_methG0 (E := E) (pv 2) T.cLooker G_Looker_lesser (hr.mono (by decide)) (passE (L2N.takes_of rfl rfl rfl rfl))) pa_nil)))) (pg_tup rfl (pgs_cons (pg_name (i := 4) sc_all_unlike.nd rfl (Or.inl rfl)) (pgs_cons (pg_name (i := 5) sc_all_unlike.nd rfl (Or.inl rfl)) pgs_nil))) (pss_one (ps_if (pt_not (pt_val (pe_methG (E := E) (pv 2) T.cLooker G_Looker_are_alike (hr.mono (by decide)) (passE (L2N.takes_of rfl rfl rfl rfl)) (by exact (pa_cons (pv 4) (pa_cons (pv 5) pa_nil)))))) (pss_one (ps_set (i := 3) sc_all_unlike.nd rfl (Or.inl rfl) (pe_op op_addU (pv 3) (pe_methG (E := E) (pv 2) T.cLooker G_Looker_all_in (hr.mono (by decide)) (passE (L2N.takes_of rfl rfl rfl rfl)) (by exact (pa_cons (pv 4) (pa_cons (pv 5) pa_nil))))))) pss_nil)))
  (pss_one (ps_ret (pe_tup (pa_cons (pv 3) (pa_cons (pe_fld (pv 2) rfl) pa_nil))))))))
abbrev s_Book_sure : Stmt := inClass (topS 21) 1
theorem sc_Book_sure : FnScope N_Book_sure ["self", "place"] (defScope s_Book_sure) := ⟨rfl, rfl, rfl, by decide +kernel, rfl, by decide +kernel, by decide +kernel⟩
theorem ok_Book_sure (M : BM mg) (T : TxK K c) (F : MetG K c.Book "sure" "Book.sure" s_Book_sure ["self", "place"]) (D : c.md = MD P w) (X_NoPlace : ExcT K mg "NoPlace" c.NoPlace) (G_is_whole : FnG P w K mg base 1 "is_whole" ["thing"] (sp_is_whole K c)) : MtG P w K mg base 2 c.Book "sure" ["self", "place"] (sp_Book_sure K c) := by
  refine F.ok sc_Book_sure len_Book_sure (fun f cdv A outer s H vs Q E hr h => ⟨t_Book_sure K c E, ?_, pure_Book_sure T h⟩)
  exact (pss_one (ps_if (PW.pt (pw_or (pt_not (pt_val (pe_callG (E := E) G_is_whole (hr.mono (by decide)) (passE (L2N.takes_of rfl rfl rfl rfl)) (by exact (pa_cons (pv 1) pa_nil))))) (pw_or1 (pt_not (pt_chain op_le1 op_lt1 pe_int (pv 1) (pe_callB call_len1 (by rfl) M.len (by decide +kernel) (pa_cons (pe_fld (pv 0) rfl) pa_nil))))))) (pss_one (ps_raiseG X_NoPlace rfl (L2N.takes_of rfl rfl rfl rfl))) pss_nil))
abbrev s_Book_row : Stmt := inClass (topS 21) 8
theorem sc_Book_row : FnScope N_Book_row ["self", "place"] (defScope s_Book_row) := ⟨rfl, rfl, rfl, by decide +kernel, rfl, by decide +kernel, by decide +kernel⟩
theorem ok_Book_row (M : BM mg) (T : TxK K c) (F : MetG K c.Book "row" "Book.row" s_Book_row ["self", "place"]) (D : c.md = MD P w) (G_Book_sure : MtG P w K mg base 2 c.Book "sure" ["self", "place"] (sp_Book_sure K c)) : MtG P w K mg base 3 c.Book "row" ["self", "place"] (sp_Book_row K c) := by
  refine F.ok sc_Book_row len_Book_row (fun f cdv A outer s H vs Q E hr h => ⟨t_Book_row K c E, ?_, pure_Book_row T h⟩)
  exact (pss_cons (ps_expr (pe_methG (E := E) (pv 0) T.cBook G_Book_sure (hr.mono (by decide)) (passE (L2N.takes_of rfl rfl rfl rfl)) (by exact (pa_cons (pv 1) pa_nil))))
  (pss_one (ps_ret (pe_ix ix_seq (pe_fld (pv 0) rfl) (pv 1) (fun _ _ => rfl)))))
abbrev s_moves : Stmt := topS 26
theorem sc_moves : FnScope N_moves ["one", "other"] (defScope s_moves) := ⟨rfl, rfl, rfl, by decide +kernel, rfl, by decide +kernel, by decide +kernel⟩
theorem ok_moves (M : BM mg) (T : TxK K c) (F : FunG K mg "moves" s_moves ["one", "other"]) (D : c.md = MD P w) (G_Book_count : MtG P w K mg base 1 c.Book "count" ["self"] (sp_Book_count K c)) (G_Book_row : MtG P w K mg base 3 c.Book "row" ["self", "place"] (sp_Book_row K c)) (G_all_unlike : FnG P w K mg base 26 "all_unlike" ["one", "other"] (sp_all_unlike K c)) : FnG P w K mg base 27 "moves" ["one", "other"] (sp_moves K c) := by
  refine F.ok sc_moves len_moves (fun f cdv A outer s H vs Q E hr h => ⟨t_moves K c E, ?_, pure_moves T h⟩)
  exact (pss_cons (ps_setLc (i := 3) (own := [("place", 2)]) (g := (gName 2)) (tt := tYes) rfl sc_moves.nd rfl rfl (sw_true rfl rfl rfl (by decide +kernel)) (pi_list (pe_ix ix_seq (pe_callG (E := E) G_all_unlike (hr.mono (by decide)) (passE (L2N.takes_of rfl rfl rfl rfl)) (by exact (pa_cons (pv 0) (pa_cons (pv 1) pa_nil)))) pe_int (fun _ _ => rfl))) (blkOk_by (N := N_moves) (sc := defScope s_moves) (by decide +kernel)) (fun _ _ _ _ _ => (pg_name (i := 2) sc_moves.nd rfl (Or.inl rfl))) (fun _ _ _ _ _ => pts_nil) (fun _ _ _ _ _ => (by exact (pe_tup (pa_cons pe_str (pa_cons (pv 2) (pa_cons (pe_methG (E := E0) (pv 1) T.cBook G_Book_row (hr.mono (by decide)) passN (by exact (pa_cons (pv 2) pa_nil))) pa_nil)))))))
  (pss_cons (ps_for (passes_of rfl) rfl (pi_range2 (by rfl) M.range (pa_cons (pe_methG0 (E := E) (pv 0) T.cBook G_Book_count (hr.mono (by decide)) (passE (L2N.takes_of rfl rfl rfl rfl))) (pa_cons (pe_methG0 (E := E) (pv 1) T.cBook G_Book_count (hr.mono (by decide)) (passE (L2N.takes_of rfl rfl rfl rfl))) pa_nil))) (pg_name (i := 2) sc_moves.nd rfl (Or.inl rfl)) (pss_one (ps_expr (pe_bm PySem.F.plainAttrs_list PySem.F.slot_list_append PySem.F.type_list_append mt_append (pv 3) (pa_cons (pe_tup (pa_cons pe_str (pa_cons (pe_methG (E := E) (pv 1) T.cBook G_Book_row (hr.mono (by decide)) (passE (L2N.takes_of rfl rfl rfl rfl)) (by exact (pa_cons (pv 2) pa_nil))) pa_nil))) pa_nil)))))
  (pss_cons (ps_for (passes_of rfl) rfl (pi_range2 (by rfl) M.range (pa_cons (pe_methG0 (E := E) (pv 1) T.cBook G_Book_count (hr.mono (by decide)) (passE (L2N.takes_of rfl rfl rfl rfl))) (pa_cons (pe_methG0 (E := E) (pv 0) T.cBook G_Book_count (hr.mono (by decide)) (passE (L2N.takes_of rfl rfl rfl rfl))) pa_nil))) (pg_name (i := 4) sc_moves.nd rfl (Or.inl rfl)) (pss_one (ps_expr (pe_bm PySem.F.plainAttrs_list PySem.F.slot_list_append PySem.F.type_list_append mt_append (pv 3) (pa_cons (pe_tup (pa_cons pe_str pa_nil)) pa_nil)))))
  (pss_one (ps_ret (pv 3))))))
abbrev s_law_looked : Stmt := topS 34
theorem sc_law_looked : FnScope N_law_looked ["_law_way", "_law_one", "_law_other"] (defScope s_law_looked) := ⟨rfl, rfl, rfl, by decide +kernel, rfl, by decide +kernel, by decide +kernel⟩
theorem ok_law_looked (M : BM mg) (T : TxK K c) (F : FunG K mg "_law_looked" s_law_looked ["_law_way", "_law_one", "_law_other"]) (D : c.md = MD P w) (X_TwinError : ExcT K mg "TwinError" c.TwinError) (G_first_unlike : FnG P w K mg base 6 "first_unlike" ["one", "other"] (sp_first_unlike K c)) (G_law_class : FnEG P w K mg base 1 "_law_class" ["_law_e"] (sp_law_class K c)) (G_all_unlike : FnG P w K mg base 26 "all_unlike" ["one", "other"] (sp_all_unlike K c)) (G_moves : FnG P w K mg base 27 "moves" ["one", "other"] (sp_moves K c)) : FnG P w K mg base 28 "_law_looked" ["_law_way", "_law_one", "_law_other"] (sp_law_looked K c) := by
  refine F.ok sc_law_looked len_law_looked (fun f cdv A outer s H vs Q E hr h => ⟨t_law_looked K c E, ?_, pure_law_looked T h⟩)
  exact (pss_cons (L2N.ps_try_as (i := 3) (tb := fun W1 => (tIfS (tTest (tOp (rEqU K) (tVar 0) (tC (.int 0)))) (tDrop (tCallS (sp_first_unlike K c) (WE W1) (tCons (tVar 1) (tCons (tVar 2) tNil)))) (tIfS (tTest (tOp (rEqU K) (tVar 0) (tC (.int 1)))) (tDrop (tCallS (sp_all_unlike K c) (WE W1) (tCons (tVar 1) (tCons (tVar 2) tNil)))) (tDrop (tCallS (sp_moves K c) (WE W1) (tCons (tVar 1) (tCons (tVar 2) tNil))))))) (ts := fun a cls d => (tRet (tCallE (sp_law_class K c) cls d a (tCons (tVar 3) tNil)))) (Wout := (fun _ _ _ _ => False)) rfl rfl sc_law_looked.nd rfl rfl ⟨rfl, by decide, Or.inl X_TwinError.g⟩ takesN0 (fun W1 pn1 xe1 tk1 po1 => (pss_one (ps_if (pt_cmpR (op_eqU hr.units) (pv 0) pe_int (nomark _)) (pss_one (ps_expr (pe_callGS G_first_unlike (hr.mono (by decide)) (fun σ => L2N.passAt tk1 σ) (by exact (pa_cons (pv 1) (pa_cons (pv 2) pa_nil)))))) (pss_one (ps_if (pt_cmpR (op_eqU hr.units) (pv 0) pe_int (nomark _)) (pss_one (ps_expr (pe_callGS G_all_unlike (hr.mono (by decide)) (fun σ => L2N.passAt tk1 σ) (by exact (pa_cons (pv 1) (pa_cons (pv 2) pa_nil)))))) (pss_one (ps_expr (pe_callGS G_moves (hr.mono (by decide)) (fun σ => L2N.passAt tk1 σ) (by exact (pa_cons (pv 1) (pa_cons (pv 2) pa_nil))))))))))) (fun a oe cls d pn hz hf => (pss_one (ps_ret (pe_callE G_law_class (hr.mono (by decide)) hz hf (by exact (pa_cons (pv 3) pa_nil)))))))
  (pss_one (ps_ret (pe_lst pa_nil))))
abbrev s_law : Stmt := topS 38
theorem sc_law : FnScope N_law ["_law_script"] (defScope s_law) := ⟨rfl, rfl, rfl, by decide +kernel, rfl, by decide +kernel, by decide +kernel⟩
theorem ok_law (M : BM mg) (T : TxK K c) {f : Addr} {fd : FuncData} (F : Fun K "law" "law" s_law f fd) (D : c.md = MD P w) (G_law_cell_at : FnG P w K mg base 1 "_law_cell_at" ["_law_script", "_law_k"] (sp_law_cell_at K c)) (G_law_rows : FnG P w K mg base 3 "_law_rows" ["_law_cell", "_law_more"] (sp_law_rows K c)) (G_Ledger_many : MtG P w K mg base 1 c.Ledger "many" ["self"] (sp_Ledger_many K c)) (G_law_long : FnG P w K mg base 9 "_law_long" ["_law_script", "_law_cell"] (sp_law_long K c)) (G_Ledger_init : MkG P w K mg base 1 c.Ledger "Ledger" ["self"] (sp_Ledger_init K c)) (G_Book_init : MkG P w K mg base 6 c.Book "Book" ["self", "ledger", "rows"] (sp_Book_init K c)) (G_law_book : FnG P w K mg base 8 "_law_book" ["_law_ledger", "_law_rows_here"] (sp_law_book K c)) (G_Book_rows : MtG P w K mg base 1 c.Book "rows" ["self"] (sp_Book_rows K c)) (G_law_looked : FnG P w K mg base 28 "_law_looked" ["_law_way", "_law_one", "_law_other"] (sp_law_looked K c)) : FnOk P w K mg base (L2N.CX P w) 29 f fd ["_law_script"] (sp_law K c) := by
  refine F.okN sc_law len_law (fun cdv A outer s H vs Q E hr h => ⟨t_law K c E, ?_, pure_law T h⟩)
  exact (pss_cons (ps_set (i := 1) sc_law.nd rfl (Or.inl rfl) (pe_callG (E := E0) G_law_cell_at (hr.mono (by decide)) passN (by exact (pa_cons (pv 0) (pa_cons pe_int pa_nil)))))
  (pss_cons (ps_if (pt_cmpR (op_eqU hr.units) (pe_op op_mod1 (pv 1) pe_int) pe_int (nomark _)) (pss_one (ps_ret (pe_callG (E := E0) G_law_long (hr.mono (by decide)) passN (by exact (pa_cons (pv 0) (pa_cons (pe_op op_div1 (pv 1) pe_int) pa_nil)))))) pss_nil)
  (pss_cons (ps_set (i := 2) sc_law.nd rfl (Or.inl rfl) (pe_callG (E := E0) G_law_rows (hr.mono (by decide)) passN (by exact (pa_cons (pe_callG (E := E0) G_law_cell_at (hr.mono (by decide)) passN (by exact (pa_cons (pv 0) (pa_cons pe_int pa_nil)))) (pa_cons (pe_callG (E := E0) G_law_cell_at (hr.mono (by decide)) passN (by exact (pa_cons (pv 0) (pa_cons pe_int pa_nil)))) pa_nil)))))
  (pss_cons (ps_set (i := 3) sc_law.nd rfl (Or.inl rfl) (pe_callG (E := E0) G_law_rows (hr.mono (by decide)) passN (by exact (pa_cons (pe_callG (E := E0) G_law_cell_at (hr.mono (by decide)) passN (by exact (pa_cons (pv 0) (pa_cons pe_int pa_nil)))) (pa_cons (pe_op op_addU (pe_callG (E := E0) G_law_cell_at (hr.mono (by decide)) passN (by exact (pa_cons (pv 0) (pa_cons pe_int pa_nil)))) (pe_op op_mod1 (pe_op op_div1 (pv 1) pe_int) pe_int)) pa_nil)))))
  (pss_cons (ps_set (i := 4) sc_law.nd rfl (Or.inl rfl) (pe_lst (pa_cons (pe_makeG0 (E := E0) G_Ledger_init (hr.mono (by decide)) passN) (pa_cons (pe_makeG0 (E := E0) G_Ledger_init (hr.mono (by decide)) passN) pa_nil))))
  (pss_cons (ps_set (i := 5) sc_law.nd rfl (Or.inl rfl) (pe_lst (pa_cons (pe_makeG (E := E0) G_Book_init (hr.mono (by decide)) passN (by exact (pa_cons (pe_ix ix_seq (pv 4) pe_int (fun _ _ => rfl)) (pa_cons (pv 2) pa_nil)))) (pa_cons (pe_makeG (E := E0) G_Book_init (hr.mono (by decide)) passN (by exact (pa_cons (pe_ix ix_seq (pv 4) pe_int (fun _ _ => rfl)) (pa_cons (pv 3) pa_nil)))) (pa_cons (pe_makeG (E := E0) G_Book_init (hr.mono (by decide)) passN (by exact (pa_cons (pe_ix ix_seq (pv 4) pe_int (fun _ _ => rfl)) (pa_cons (pv 3) pa_nil)))) pa_nil)))))
  (pss_cons (ps_for (passes_of rfl) rfl (pi_range1 (by rfl) M.range (pa_cons pe_int pa_nil)) (pg_name (i := 6) sc_law.nd rfl (Or.inl rfl)) (pss_cons (ps_if (PW.pt (pw_or (pt_cmpR (op_neU hr.units) (pe_callG (E := E0) G_law_looked (hr.mono (by decide)) passN (by exact (pa_cons (pv 6) (pa_cons (pe_ix ix_seq (pv 5) pe_int (fun _ _ => rfl)) (pa_cons (pe_ix ix_seq (pv 5) pe_int (fun _ _ => rfl)) pa_nil))))) (pe_lst (pa_cons pe_int pa_nil)) (nomark _)) (pw_or1 (pt_cmpR (op_neU hr.units) (pe_callG (E := E0) G_law_looked (hr.mono (by decide)) passN (by exact (pa_cons (pv 6) (pa_cons (pe_ix ix_seq (pv 5) pe_int (fun _ _ => rfl)) (pa_cons (pe_ix ix_seq (pv 5) pe_int (fun _ _ => rfl)) pa_nil))))) (pe_lst (pa_cons pe_int pa_nil)) (nomark _))))) (pss_one (ps_ret pe_bl)) pss_nil)
  (pss_one (ps_if (PW.pt (pw_or (pt_cmpR (op_neU hr.units) (pe_callG (E := E0) G_law_looked (hr.mono (by decide)) passN (by exact (pa_cons (pv 6) (pa_cons (pe_ix ix_seq (pv 5) pe_int (fun _ _ => rfl)) (pa_cons (pe_ix ix_seq (pv 5) pe_int (fun _ _ => rfl)) pa_nil))))) (pe_lst pa_nil) (nomark _)) (pw_or1 (pt_cmpR (op_neU hr.units) (pe_callG (E := E0) G_law_looked (hr.mono (by decide)) passN (by exact (pa_cons (pv 6) (pa_cons (pe_ix ix_seq (pv 5) pe_int (fun _ _ => rfl)) (pa_cons (pe_ix ix_seq (pv 5) pe_int (fun _ _ => rfl)) pa_nil))))) (pe_lst pa_nil) (nomark _))))) (pss_one (ps_ret pe_bl)) pss_nil))))
  (pss_cons (ps_set (i := 7) sc_law.nd rfl (Or.inl rfl) (pe_methG0 (E := E0) (pe_ix ix_seq (pv 4) pe_int (fun _ _ => rfl)) T.cLedger G_Ledger_many (hr.mono (by decide)) passN))
  (pss_cons (ps_set (i := 8) sc_law.nd rfl (Or.inl rfl) (pe_callTy call_list1 (by rfl) M.list (by decide +kernel) (pa_cons (pv 2) pa_nil)))
  (pss_cons (ps_expr (pe_bm PySem.F.plainAttrs_list PySem.F.slot_list_insert PySem.F.type_list_insert mt_insertL (pv 8) (pa_cons (pe_op op_mod1 (pe_op op_div1 (pv 1) pe_int) (pe_op op_addU pe_int (pe_callB call_len1 (by rfl) M.len (by decide +kernel) (pa_cons (pv 2) pa_nil)))) (pa_cons (pe_ix ix_seq (pe_lst (pa_cons pe_str (pa_cons pe_non (pa_cons pe_str (pa_cons (pe_op op_mulS pe_str pe_int) (pa_cons (pe_tup (pa_cons pe_str pa_nil)) (pa_cons pe_str pa_nil))))))) (pe_op op_mod1 (pe_op op_div1 (pv 1) pe_int) pe_int) (fun _ _ => rfl)) pa_nil))))
  (pss_one (ps_ret (pe_and (pe_cmpR (op_eqU hr.units) (pe_callG (E := E0) G_law_book (hr.mono (by decide)) passN (by exact (pa_cons (pe_ix ix_seq (pv 4) pe_int (fun _ _ => rfl)) (pa_cons (pv 8) pa_nil)))) (pe_lst (pa_cons pe_int pa_nil)) (nomark _)) (pe_and (pe_cmpR (op_eqU hr.units) (pe_methG0 (E := E0) (pe_ix ix_seq (pv 4) pe_int (fun _ _ => rfl)) T.cLedger G_Ledger_many (hr.mono (by decide)) passN) (pv 7) (nomark _)) (pe_one (pe_cmpR (op_eqU hr.units) (pe_methG0 (E := E0) (pe_ix ix_seq (pv 5) pe_int (fun _ _ => rfl)) T.cBook G_Book_rows (hr.mono (by decide)) passN) (pv 2) (nomark _)))))))))))))))))
end
theorem all_mk {l : PySem.W.OpenLaw} {w : World} {K : PySem.W.Frag} {h : Heap} {mg : Str → Option Value} {fa : Addr} (X : K.In h) (G : h.Ns mainGlobals mg) (hfa : mg "law" = some (.ref fa))
    {C_Ledger : Addr}
    {C_Book : Addr}
    {C_Looker : Addr}
    {C_NoRow : Addr}
    {C_NoSum : Addr}
    {C_Full : Addr}
    {C_Strange : Addr}
    {C_NoBlock : Addr}
    {C_NoPlace : Addr}
    {C_TwinError : Addr}
    {f_law_cell_at : Addr} {od_law_cell_at an_law_cell_at : Option Addr} {sl_law_cell_at : Array (Option Value)} {oc_law_cell_at kV_law_cell_at dc_law_cell_at pm_law_cell_at cd_law_cell_at ct_law_cell_at : Value}
    {f_law_mix : Addr} {od_law_mix an_law_mix : Option Addr} {sl_law_mix : Array (Option Value)} {oc_law_mix kV_law_mix dc_law_mix pm_law_mix cd_law_mix ct_law_mix : Value}
    {f_law_text : Addr} {od_law_text an_law_text : Option Addr} {sl_law_text : Array (Option Value)} {oc_law_text kV_law_text dc_law_text pm_law_text cd_law_text ct_law_text : Value}
    {f_law_rows : Addr} {od_law_rows an_law_rows : Option Addr} {sl_law_rows : Array (Option Value)} {oc_law_rows kV_law_rows dc_law_rows pm_law_rows cd_law_rows ct_law_rows : Value}
    {f_Ledger_many : Addr} {od_Ledger_many an_Ledger_many : Option Addr} {sl_Ledger_many : Array (Option Value)} {oc_Ledger_many kV_Ledger_many dc_Ledger_many pm_Ledger_many cd_Ledger_many ct_Ledger_many : Value}
    {f_Ledger_init : Addr} {od_Ledger_init an_Ledger_init : Option Addr} {sl_Ledger_init : Array (Option Value)} {oc_Ledger_init kV_Ledger_init dc_Ledger_init pm_Ledger_init cd_Ledger_init ct_Ledger_init : Value}
    {f_is_row : Addr} {od_is_row an_is_row : Option Addr} {sl_is_row : Array (Option Value)} {oc_is_row kV_is_row dc_is_row pm_is_row cd_is_row ct_is_row : Value}
    {f_sure_row : Addr} {od_sure_row an_sure_row : Option Addr} {sl_sure_row : Array (Option Value)} {oc_sure_row kV_sure_row dc_sure_row pm_sure_row cd_sure_row ct_sure_row : Value}
    {f_Ledger_number_of : Addr} {od_Ledger_number_of an_Ledger_number_of : Option Addr} {sl_Ledger_number_of : Array (Option Value)} {oc_Ledger_number_of kV_Ledger_number_of dc_Ledger_number_of pm_Ledger_number_of cd_Ledger_number_of ct_Ledger_number_of : Value}
    {f_Ledger_of_row : Addr} {od_Ledger_of_row an_Ledger_of_row : Option Addr} {sl_Ledger_of_row : Array (Option Value)} {oc_Ledger_of_row kV_Ledger_of_row dc_Ledger_of_row pm_Ledger_of_row cd_Ledger_of_row ct_Ledger_of_row : Value}
    {f_is_whole : Addr} {od_is_whole an_is_whole : Option Addr} {sl_is_whole : Array (Option Value)} {oc_is_whole kV_is_whole dc_is_whole pm_is_whole cd_is_whole ct_is_whole : Value}
    {f_Ledger_sure : Addr} {od_Ledger_sure an_Ledger_sure : Option Addr} {sl_Ledger_sure : Array (Option Value)} {oc_Ledger_sure kV_Ledger_sure dc_Ledger_sure pm_Ledger_sure cd_Ledger_sure ct_Ledger_sure : Value}
    {f_Ledger_of_pair : Addr} {od_Ledger_of_pair an_Ledger_of_pair : Option Addr} {sl_Ledger_of_pair : Array (Option Value)} {oc_Ledger_of_pair kV_Ledger_of_pair dc_Ledger_of_pair pm_Ledger_of_pair cd_Ledger_of_pair ct_Ledger_of_pair : Value}
    {f_Book_half_sums : Addr} {od_Book_half_sums an_Book_half_sums : Option Addr} {sl_Book_half_sums : Array (Option Value)} {oc_Book_half_sums kV_Book_half_sums dc_Book_half_sums pm_Book_half_sums cd_Book_half_sums ct_Book_half_sums : Value}
    {f_Book_grow : Addr} {od_Book_grow an_Book_grow : Option Addr} {sl_Book_grow : Array (Option Value)} {oc_Book_grow kV_Book_grow dc_Book_grow pm_Book_grow cd_Book_grow ct_Book_grow : Value}
    {f_Book_init : Addr} {od_Book_init an_Book_init : Option Addr} {sl_Book_init : Array (Option Value)} {oc_Book_init kV_Book_init dc_Book_init pm_Book_init cd_Book_init ct_Book_init : Value}
    {f_law_class : Addr} {od_law_class an_law_class : Option Addr} {sl_law_class : Array (Option Value)} {oc_law_class kV_law_class dc_law_class pm_law_class cd_law_class ct_law_class : Value}
    {f_law_book : Addr} {od_law_book an_law_book : Option Addr} {sl_law_book : Array (Option Value)} {oc_law_book kV_law_book dc_law_book pm_law_book cd_law_book ct_law_book : Value}
    {f_Book_add : Addr} {od_Book_add an_Book_add : Option Addr} {sl_Book_add : Array (Option Value)} {oc_Book_add kV_Book_add dc_Book_add pm_Book_add cd_Book_add ct_Book_add : Value}
    {f_law_added : Addr} {od_law_added an_law_added : Option Addr} {sl_law_added : Array (Option Value)} {oc_law_added kV_law_added dc_law_added pm_law_added cd_law_added ct_law_added : Value}
    {f_Book_count : Addr} {od_Book_count an_Book_count : Option Addr} {sl_Book_count : Array (Option Value)} {oc_Book_count kV_Book_count dc_Book_count pm_Book_count cd_Book_count ct_Book_count : Value}
    {f_size_of : Addr} {od_size_of an_size_of : Option Addr} {sl_size_of : Array (Option Value)} {oc_size_of kV_size_of dc_size_of pm_size_of cd_size_of ct_size_of : Value}
    {f_Book_cut : Addr} {od_Book_cut an_Book_cut : Option Addr} {sl_Book_cut : Array (Option Value)} {oc_Book_cut kV_Book_cut dc_Book_cut pm_Book_cut cd_Book_cut ct_Book_cut : Value}
    {f_law_long : Addr} {od_law_long an_law_long : Option Addr} {sl_law_long : Array (Option Value)} {oc_law_long kV_law_long dc_law_long pm_law_long cd_law_long ct_law_long : Value}
    {f_Book_rows : Addr} {od_Book_rows an_Book_rows : Option Addr} {sl_Book_rows : Array (Option Value)} {oc_Book_rows kV_Book_rows dc_Book_rows pm_Book_rows cd_Book_rows ct_Book_rows : Value}
    {f_Looker_init : Addr} {od_Looker_init an_Looker_init : Option Addr} {sl_Looker_init : Array (Option Value)} {oc_Looker_init kV_Looker_init dc_Looker_init pm_Looker_init cd_Looker_init ct_Looker_init : Value}
    {f_digits : Addr} {od_digits an_digits : Option Addr} {sl_digits : Array (Option Value)} {oc_digits kV_digits dc_digits pm_digits cd_digits ct_digits : Value}
    {f_parted : Addr} {od_parted an_parted : Option Addr} {sl_parted : Array (Option Value)} {oc_parted kV_parted dc_parted pm_parted cd_parted ct_parted : Value}
    {f_Looker_lesser : Addr} {od_Looker_lesser an_Looker_lesser : Option Addr} {sl_Looker_lesser : Array (Option Value)} {oc_Looker_lesser kV_Looker_lesser dc_Looker_lesser pm_Looker_lesser cd_Looker_lesser ct_Looker_lesser : Value}
    {f_Book_has_block : Addr} {od_Book_has_block an_Book_has_block : Option Addr} {sl_Book_has_block : Array (Option Value)} {oc_Book_has_block kV_Book_has_block dc_Book_has_block pm_Book_has_block cd_Book_has_block ct_Book_has_block : Value}
    {f_Book_sum_of : Addr} {od_Book_sum_of an_Book_sum_of : Option Addr} {sl_Book_sum_of : Array (Option Value)} {oc_Book_sum_of kV_Book_sum_of dc_Book_sum_of pm_Book_sum_of cd_Book_sum_of ct_Book_sum_of : Value}
    {f_Looker_are_alike : Addr} {od_Looker_are_alike an_Looker_are_alike : Option Addr} {sl_Looker_are_alike : Array (Option Value)} {oc_Looker_are_alike kV_Looker_are_alike dc_Looker_are_alike pm_Looker_are_alike cd_Looker_are_alike ct_Looker_are_alike : Value}
    {f_Looker_first_in : Addr} {od_Looker_first_in an_Looker_first_in : Option Addr} {sl_Looker_first_in : Array (Option Value)} {oc_Looker_first_in kV_Looker_first_in dc_Looker_first_in pm_Looker_first_in cd_Looker_first_in ct_Looker_first_in : Value}
    {f_first_unlike : Addr} {od_first_unlike an_first_unlike : Option Addr} {sl_first_unlike : Array (Option Value)} {oc_first_unlike kV_first_unlike dc_first_unlike pm_first_unlike cd_first_unlike ct_first_unlike : Value}
    {f_Looker_all_in : Addr} {od_Looker_all_in an_Looker_all_in : Option Addr} {sl_Looker_all_in : Array (Option Value)} {oc_Looker_all_in kV_Looker_all_in dc_Looker_all_in pm_Looker_all_in cd_Looker_all_in ct_Looker_all_in : Value}
    {f_all_unlike : Addr} {od_all_unlike an_all_unlike : Option Addr} {sl_all_unlike : Array (Option Value)} {oc_all_unlike kV_all_unlike dc_all_unlike pm_all_unlike cd_all_unlike ct_all_unlike : Value}
    {f_Book_sure : Addr} {od_Book_sure an_Book_sure : Option Addr} {sl_Book_sure : Array (Option Value)} {oc_Book_sure kV_Book_sure dc_Book_sure pm_Book_sure cd_Book_sure ct_Book_sure : Value}
    {f_Book_row : Addr} {od_Book_row an_Book_row : Option Addr} {sl_Book_row : Array (Option Value)} {oc_Book_row kV_Book_row dc_Book_row pm_Book_row cd_Book_row ct_Book_row : Value}
    {f_moves : Addr} {od_moves an_moves : Option Addr} {sl_moves : Array (Option Value)} {oc_moves kV_moves dc_moves pm_moves cd_moves ct_moves : Value}
    {f_law_looked : Addr} {od_law_looked an_law_looked : Option Addr} {sl_law_looked : Array (Option Value)} {oc_law_looked kV_law_looked dc_law_looked pm_law_looked cd_law_looked ct_law_looked : Value}
    {f_law : Addr} {od_law an_law : Option Addr} {sl_law : Array (Option Value)} {oc_law kV_law dc_law pm_law cd_law ct_law : Value}
    {tk_MOST_ROWS : Tok}
    {tk_MOST_SIGNS : Tok}
    {tk_SIGNS : Tok}
    (a_Ledger : PySem.W.nsIn K mainGlobals "Ledger" = some (some (.ref C_Ledger)))
    (pg_Ledger : PySem.W.plainGet K C_Ledger Str.empty = true)
    (hd_Ledger : PySem.W.hasDictIn K C_Ledger = true)
    (po_Ledger : PySem.W.plainOver K C_Ledger = true)
    (sa_Ledger : PySem.W.findIn K (.ref C_Ledger) "__setattr__" = some (some (.builtin "object.__setattr__")))
    (mk_Ledger : PySem.W.makesIn K C_Ledger = true)
    (kc_Ledger : PySem.W.keepIn K (.ref C_Ledger) = true)
    (nf_Ledger_given : PySem.W.findIn K (.ref C_Ledger) "given" = some none)
    (nf_Ledger_things : PySem.W.findIn K (.ref C_Ledger) "things" = some none)
    (a_Book : PySem.W.nsIn K mainGlobals "Book" = some (some (.ref C_Book)))
    (pg_Book : PySem.W.plainGet K C_Book Str.empty = true)
    (hd_Book : PySem.W.hasDictIn K C_Book = true)
    (po_Book : PySem.W.plainOver K C_Book = true)
    (sa_Book : PySem.W.findIn K (.ref C_Book) "__setattr__" = some (some (.builtin "object.__setattr__")))
    (mk_Book : PySem.W.makesIn K C_Book = true)
    (kc_Book : PySem.W.keepIn K (.ref C_Book) = true)
    (nf_Book_ledger : PySem.W.findIn K (.ref C_Book) "ledger" = some none)
    (nf_Book_lines : PySem.W.findIn K (.ref C_Book) "lines" = some none)
    (nf_Book_levels : PySem.W.findIn K (.ref C_Book) "levels" = some none)
    (a_Looker : PySem.W.nsIn K mainGlobals "Looker" = some (some (.ref C_Looker)))
    (pg_Looker : PySem.W.plainGet K C_Looker Str.empty = true)
    (hd_Looker : PySem.W.hasDictIn K C_Looker = true)
    (po_Looker : PySem.W.plainOver K C_Looker = true)
    (sa_Looker : PySem.W.findIn K (.ref C_Looker) "__setattr__" = some (some (.builtin "object.__setattr__")))
    (mk_Looker : PySem.W.makesIn K C_Looker = true)
    (kc_Looker : PySem.W.keepIn K (.ref C_Looker) = true)
    (nf_Looker_one : PySem.W.findIn K (.ref C_Looker) "one" = some none)
    (nf_Looker_other : PySem.W.findIn K (.ref C_Looker) "other" = some none)
    (nf_Looker_looks : PySem.W.findIn K (.ref C_Looker) "looks" = some none)
    (a_NoRow : PySem.W.nsIn K mainGlobals "NoRow" = some (some (.ref C_NoRow)))
    (xP_NoRow : PySem.W.excIn K C_NoRow [.type "ValueError", .type "Exception", .type "BaseException", .type "object"] "ValueError.__new__" = true)
    (kP_NoRow : PySem.W.keepIn K (.ref C_NoRow) = true)
    (bP_NoRow : PySem.W.subIn K (.ref C_NoRow) (.type "BaseException") = some true)
    (tP_NoRow : PySem.W.typeIn K (.ref C_NoRow) = some (.type "type"))
    (a_NoSum : PySem.W.nsIn K mainGlobals "NoSum" = some (some (.ref C_NoSum)))
    (xP_NoSum : PySem.W.excIn K C_NoSum [.type "ValueError", .type "Exception", .type "BaseException", .type "object"] "ValueError.__new__" = true)
    (kP_NoSum : PySem.W.keepIn K (.ref C_NoSum) = true)
    (bP_NoSum : PySem.W.subIn K (.ref C_NoSum) (.type "BaseException") = some true)
    (tP_NoSum : PySem.W.typeIn K (.ref C_NoSum) = some (.type "type"))
    (a_Full : PySem.W.nsIn K mainGlobals "Full" = some (some (.ref C_Full)))
    (xP_Full : PySem.W.excIn K C_Full [.type "ValueError", .type "Exception", .type "BaseException", .type "object"] "ValueError.__new__" = true)
    (kP_Full : PySem.W.keepIn K (.ref C_Full) = true)
    (bP_Full : PySem.W.subIn K (.ref C_Full) (.type "BaseException") = some true)
    (tP_Full : PySem.W.typeIn K (.ref C_Full) = some (.type "type"))
    (a_Strange : PySem.W.nsIn K mainGlobals "Strange" = some (some (.ref C_Strange)))
    (xP_Strange : PySem.W.excIn K C_Strange [.type "ValueError", .type "Exception", .type "BaseException", .type "object"] "ValueError.__new__" = true)
    (kP_Strange : PySem.W.keepIn K (.ref C_Strange) = true)
    (bP_Strange : PySem.W.subIn K (.ref C_Strange) (.type "BaseException") = some true)
    (tP_Strange : PySem.W.typeIn K (.ref C_Strange) = some (.type "type"))
    (a_NoBlock : PySem.W.nsIn K mainGlobals "NoBlock" = some (some (.ref C_NoBlock)))
    (xP_NoBlock : PySem.W.excIn K C_NoBlock [.type "ValueError", .type "Exception", .type "BaseException", .type "object"] "ValueError.__new__" = true)
    (kP_NoBlock : PySem.W.keepIn K (.ref C_NoBlock) = true)
    (bP_NoBlock : PySem.W.subIn K (.ref C_NoBlock) (.type "BaseException") = some true)
    (tP_NoBlock : PySem.W.typeIn K (.ref C_NoBlock) = some (.type "type"))
    (a_NoPlace : PySem.W.nsIn K mainGlobals "NoPlace" = some (some (.ref C_NoPlace)))
    (xP_NoPlace : PySem.W.excIn K C_NoPlace [.type "ValueError", .type "Exception", .type "BaseException", .type "object"] "ValueError.__new__" = true)
    (kP_NoPlace : PySem.W.keepIn K (.ref C_NoPlace) = true)
    (bP_NoPlace : PySem.W.subIn K (.ref C_NoPlace) (.type "BaseException") = some true)
    (tP_NoPlace : PySem.W.typeIn K (.ref C_NoPlace) = some (.type "type"))
    (a_TwinError : PySem.W.nsIn K mainGlobals "TwinError" = some (some (.ref C_TwinError)))
    (xP_TwinError : PySem.W.excIn K C_TwinError [.type "ValueError", .type "Exception", .type "BaseException", .type "object"] "ValueError.__new__" = true)
    (kP_TwinError : PySem.W.keepIn K (.ref C_TwinError) = true)
    (bP_TwinError : PySem.W.subIn K (.ref C_TwinError) (.type "BaseException") = some true)
    (tP_TwinError : PySem.W.typeIn K (.ref C_TwinError) = some (.type "type"))
    (pm_Ledger : PySem.W.mroIn K C_Ledger (.type "object") = some true)
    (pe_Ledger : PySem.W.findIn K (.ref C_Ledger) "__eq__" = some (some (.builtin "object.__eq__")))
    (pn_Ledger : PySem.W.findIn K (.ref C_Ledger) "__ne__" = some (some (.builtin "object.__ne__")))
    (m_NoRow_TwinError : PySem.W.subIn K (.ref C_NoRow) (.ref C_TwinError) = some true)
    (m_NoSum_TwinError : PySem.W.subIn K (.ref C_NoSum) (.ref C_TwinError) = some true)
    (m_Full_TwinError : PySem.W.subIn K (.ref C_Full) (.ref C_TwinError) = some true)
    (m_NoPlace_TwinError : PySem.W.subIn K (.ref C_NoPlace) (.ref C_TwinError) = some true)
    (m_NoBlock_TwinError : PySem.W.subIn K (.ref C_NoBlock) (.ref C_TwinError) = some true)
    (m_Strange_TwinError : PySem.W.subIn K (.ref C_Strange) (.ref C_TwinError) = some true)
    (hd_TwinError : PySem.W.hasDictIn K C_TwinError = true)
    (hd_NoRow : PySem.W.hasDictIn K C_NoRow = true)
    (hd_NoSum : PySem.W.hasDictIn K C_NoSum = true)
    (hd_Full : PySem.W.hasDictIn K C_Full = true)
    (hd_NoPlace : PySem.W.hasDictIn K C_NoPlace = true)
    (hd_NoBlock : PySem.W.hasDictIn K C_NoBlock = true)
    (hd_Strange : PySem.W.hasDictIn K C_Strange = true)
    (ga_NoRow : PySem.W.findIn K (.ref C_NoRow) "__getattribute__" = some (some (.builtin "BaseException.__getattribute__")))
    (gt_NoRow : PySem.W.findIn K (.ref C_NoRow) "__getattr__" = some none)
    (cl_NoRow : PySem.W.findIn K (.ref C_NoRow) "__class__" = some (some (.builtin "object.__class__")))
    (mo_NoRow : PySem.W.mroIn K C_NoRow (.type "object") = some true)
    (ve_NoRow : PySem.W.subIn K (.ref C_NoRow) (.type "ValueError") = some true)
    (s_NoRow_NoRow : PySem.W.subIn K (.ref C_NoRow) (.ref C_NoRow) = some true)
    (s_NoRow_Full : PySem.W.subIn K (.ref C_NoRow) (.ref C_Full) = some false)
    (s_NoRow_Strange : PySem.W.subIn K (.ref C_NoRow) (.ref C_Strange) = some false)
    (s_NoRow_NoBlock : PySem.W.subIn K (.ref C_NoRow) (.ref C_NoBlock) = some false)
    (s_NoRow_NoPlace : PySem.W.subIn K (.ref C_NoRow) (.ref C_NoPlace) = some false)
    (s_NoRow_NoSum : PySem.W.subIn K (.ref C_NoRow) (.ref C_NoSum) = some false)
    (ga_NoSum : PySem.W.findIn K (.ref C_NoSum) "__getattribute__" = some (some (.builtin "BaseException.__getattribute__")))
    (gt_NoSum : PySem.W.findIn K (.ref C_NoSum) "__getattr__" = some none)
    (cl_NoSum : PySem.W.findIn K (.ref C_NoSum) "__class__" = some (some (.builtin "object.__class__")))
    (mo_NoSum : PySem.W.mroIn K C_NoSum (.type "object") = some true)
    (ve_NoSum : PySem.W.subIn K (.ref C_NoSum) (.type "ValueError") = some true)
    (s_NoSum_NoSum : PySem.W.subIn K (.ref C_NoSum) (.ref C_NoSum) = some true)
    (s_NoSum_Full : PySem.W.subIn K (.ref C_NoSum) (.ref C_Full) = some false)
    (s_NoSum_NoRow : PySem.W.subIn K (.ref C_NoSum) (.ref C_NoRow) = some false)
    (s_NoSum_Strange : PySem.W.subIn K (.ref C_NoSum) (.ref C_Strange) = some false)
    (s_NoSum_NoBlock : PySem.W.subIn K (.ref C_NoSum) (.ref C_NoBlock) = some false)
    (s_NoSum_NoPlace : PySem.W.subIn K (.ref C_NoSum) (.ref C_NoPlace) = some false)
    (ga_Full : PySem.W.findIn K (.ref C_Full) "__getattribute__" = some (some (.builtin "BaseException.__getattribute__")))
    (gt_Full : PySem.W.findIn K (.ref C_Full) "__getattr__" = some none)
    (cl_Full : PySem.W.findIn K (.ref C_Full) "__class__" = some (some (.builtin "object.__class__")))
    (mo_Full : PySem.W.mroIn K C_Full (.type "object") = some true)
    (ve_Full : PySem.W.subIn K (.ref C_Full) (.type "ValueError") = some true)
    (s_Full_Full : PySem.W.subIn K (.ref C_Full) (.ref C_Full) = some true)
    (s_Full_NoRow : PySem.W.subIn K (.ref C_Full) (.ref C_NoRow) = some false)
    (s_Full_Strange : PySem.W.subIn K (.ref C_Full) (.ref C_Strange) = some false)
    (s_Full_NoBlock : PySem.W.subIn K (.ref C_Full) (.ref C_NoBlock) = some false)
    (s_Full_NoPlace : PySem.W.subIn K (.ref C_Full) (.ref C_NoPlace) = some false)
    (s_Full_NoSum : PySem.W.subIn K (.ref C_Full) (.ref C_NoSum) = some false)
    (ga_NoPlace : PySem.W.findIn K (.ref C_NoPlace) "__getattribute__" = some (some (.builtin "BaseException.__getattribute__")))
    (gt_NoPlace : PySem.W.findIn K (.ref C_NoPlace) "__getattr__" = some none)
    (cl_NoPlace : PySem.W.findIn K (.ref C_NoPlace) "__class__" = some (some (.builtin "object.__class__")))
    (mo_NoPlace : PySem.W.mroIn K C_NoPlace (.type "object") = some true)
    (ve_NoPlace : PySem.W.subIn K (.ref C_NoPlace) (.type "ValueError") = some true)
    (s_NoPlace_NoPlace : PySem.W.subIn K (.ref C_NoPlace) (.ref C_NoPlace) = some true)
    (s_NoPlace_Full : PySem.W.subIn K (.ref C_NoPlace) (.ref C_Full) = some false)
    (s_NoPlace_NoRow : PySem.W.subIn K (.ref C_NoPlace) (.ref C_NoRow) = some false)
    (s_NoPlace_Strange : PySem.W.subIn K (.ref C_NoPlace) (.ref C_Strange) = some false)
    (s_NoPlace_NoBlock : PySem.W.subIn K (.ref C_NoPlace) (.ref C_NoBlock) = some false)
    (s_NoPlace_NoSum : PySem.W.subIn K (.ref C_NoPlace) (.ref C_NoSum) = some false)
    (ga_NoBlock : PySem.W.findIn K (.ref C_NoBlock) "__getattribute__" = some (some (.builtin "BaseException.__getattribute__")))
    (gt_NoBlock : PySem.W.findIn K (.ref C_NoBlock) "__getattr__" = some none)
    (cl_NoBlock : PySem.W.findIn K (.ref C_NoBlock) "__class__" = some (some (.builtin "object.__class__")))
    (mo_NoBlock : PySem.W.mroIn K C_NoBlock (.type "object") = some true)
    (ve_NoBlock : PySem.W.subIn K (.ref C_NoBlock) (.type "ValueError") = some true)
    (s_NoBlock_NoBlock : PySem.W.subIn K (.ref C_NoBlock) (.ref C_NoBlock) = some true)
    (s_NoBlock_Full : PySem.W.subIn K (.ref C_NoBlock) (.ref C_Full) = some false)
    (s_NoBlock_NoRow : PySem.W.subIn K (.ref C_NoBlock) (.ref C_NoRow) = some false)
    (s_NoBlock_Strange : PySem.W.subIn K (.ref C_NoBlock) (.ref C_Strange) = some false)
    (s_NoBlock_NoPlace : PySem.W.subIn K (.ref C_NoBlock) (.ref C_NoPlace) = some false)
    (s_NoBlock_NoSum : PySem.W.subIn K (.ref C_NoBlock) (.ref C_NoSum) = some false)
    (ga_Strange : PySem.W.findIn K (.ref C_Strange) "__getattribute__" = some (some (.builtin "BaseException.__getattribute__")))
    (gt_Strange : PySem.W.findIn K (.ref C_Strange) "__getattr__" = some none)
    (cl_Strange : PySem.W.findIn K (.ref C_Strange) "__class__" = some (some (.builtin "object.__class__")))
    (mo_Strange : PySem.W.mroIn K C_Strange (.type "object") = some true)
    (ve_Strange : PySem.W.subIn K (.ref C_Strange) (.type "ValueError") = some true)
    (s_Strange_Strange : PySem.W.subIn K (.ref C_Strange) (.ref C_Strange) = some true)
    (s_Strange_Full : PySem.W.subIn K (.ref C_Strange) (.ref C_Full) = some false)
    (s_Strange_NoRow : PySem.W.subIn K (.ref C_Strange) (.ref C_NoRow) = some false)
    (s_Strange_NoBlock : PySem.W.subIn K (.ref C_Strange) (.ref C_NoBlock) = some false)
    (s_Strange_NoPlace : PySem.W.subIn K (.ref C_Strange) (.ref C_NoPlace) = some false)
    (s_Strange_NoSum : PySem.W.subIn K (.ref C_Strange) (.ref C_NoSum) = some false)
    (sp_cls : PySem.W.specialIn K (.builtin "object.__class__") "__get__" = some (some (.builtin "getset_descriptor.__get__")))
    (tk_cls : PySem.W.takesIn K (.builtin "object.__class__") = some true)
    (a_law_cell_at : PySem.W.nsIn K mainGlobals "_law_cell_at" = some (some (.ref f_law_cell_at)))
    (l_law_cell_at : K.lookup f_law_cell_at = some ⟨oc_law_cell_at, od_law_cell_at, .func (PySem.W.fnOf "_law_cell_at" "_law_cell_at" (defArgs s_law_cell_at) (defBody s_law_cell_at) (defScope s_law_cell_at) .none kV_law_cell_at dc_law_cell_at pm_law_cell_at an_law_cell_at cd_law_cell_at ct_law_cell_at), sl_law_cell_at⟩)
    (c_law_cell_at : PySem.W.codeIn K cd_law_cell_at "_law_cell_at" = true)
    (k_law_cell_at : PySem.W.keepIn K (.ref f_law_cell_at) = true)
    (a_law_mix : PySem.W.nsIn K mainGlobals "_law_mix" = some (some (.ref f_law_mix)))
    (l_law_mix : K.lookup f_law_mix = some ⟨oc_law_mix, od_law_mix, .func (PySem.W.fnOf "_law_mix" "_law_mix" (defArgs s_law_mix) (defBody s_law_mix) (defScope s_law_mix) .none kV_law_mix dc_law_mix pm_law_mix an_law_mix cd_law_mix ct_law_mix), sl_law_mix⟩)
    (c_law_mix : PySem.W.codeIn K cd_law_mix "_law_mix" = true)
    (k_law_mix : PySem.W.keepIn K (.ref f_law_mix) = true)
    (a_law_text : PySem.W.nsIn K mainGlobals "_law_text" = some (some (.ref f_law_text)))
    (l_law_text : K.lookup f_law_text = some ⟨oc_law_text, od_law_text, .func (PySem.W.fnOf "_law_text" "_law_text" (defArgs s_law_text) (defBody s_law_text) (defScope s_law_text) .none kV_law_text dc_law_text pm_law_text an_law_text cd_law_text ct_law_text), sl_law_text⟩)
    (c_law_text : PySem.W.codeIn K cd_law_text "_law_text" = true)
    (k_law_text : PySem.W.keepIn K (.ref f_law_text) = true)
    (a_law_rows : PySem.W.nsIn K mainGlobals "_law_rows" = some (some (.ref f_law_rows)))
    (l_law_rows : K.lookup f_law_rows = some ⟨oc_law_rows, od_law_rows, .func (PySem.W.fnOf "_law_rows" "_law_rows" (defArgs s_law_rows) (defBody s_law_rows) (defScope s_law_rows) .none kV_law_rows dc_law_rows pm_law_rows an_law_rows cd_law_rows ct_law_rows), sl_law_rows⟩)
    (c_law_rows : PySem.W.codeIn K cd_law_rows "_law_rows" = true)
    (k_law_rows : PySem.W.keepIn K (.ref f_law_rows) = true)
    (a_Ledger_many : PySem.W.findIn K (.ref C_Ledger) "many" = some (some (.ref f_Ledger_many)))
    (i_Ledger_many : PySem.W.isFn K (.ref f_Ledger_many) = true)
    (l_Ledger_many : K.lookup f_Ledger_many = some ⟨oc_Ledger_many, od_Ledger_many, .func (PySem.W.fnOf "many" "Ledger.many" (defArgs s_Ledger_many) (defBody s_Ledger_many) (defScope s_Ledger_many) .none kV_Ledger_many dc_Ledger_many pm_Ledger_many an_Ledger_many cd_Ledger_many ct_Ledger_many), sl_Ledger_many⟩)
    (c_Ledger_many : PySem.W.codeIn K cd_Ledger_many "Ledger.many" = true)
    (k_Ledger_many : PySem.W.keepIn K (.ref f_Ledger_many) = true)
    (a_Ledger_init : PySem.W.findIn K (.ref C_Ledger) "__init__" = some (some (.ref f_Ledger_init)))
    (i_Ledger_init : PySem.W.isFn K (.ref f_Ledger_init) = true)
    (l_Ledger_init : K.lookup f_Ledger_init = some ⟨oc_Ledger_init, od_Ledger_init, .func (PySem.W.fnOf "__init__" "Ledger.__init__" (defArgs s_Ledger_init) (defBody s_Ledger_init) (defScope s_Ledger_init) .none kV_Ledger_init dc_Ledger_init pm_Ledger_init an_Ledger_init cd_Ledger_init ct_Ledger_init), sl_Ledger_init⟩)
    (c_Ledger_init : PySem.W.codeIn K cd_Ledger_init "Ledger.__init__" = true)
    (k_Ledger_init : PySem.W.keepIn K (.ref f_Ledger_init) = true)
    (a_is_row : PySem.W.nsIn K mainGlobals "is_row" = some (some (.ref f_is_row)))
    (l_is_row : K.lookup f_is_row = some ⟨oc_is_row, od_is_row, .func (PySem.W.fnOf "is_row" "is_row" (defArgs s_is_row) (defBody s_is_row) (defScope s_is_row) .none kV_is_row dc_is_row pm_is_row an_is_row cd_is_row ct_is_row), sl_is_row⟩)
    (c_is_row : PySem.W.codeIn K cd_is_row "is_row" = true)
    (k_is_row : PySem.W.keepIn K (.ref f_is_row) = true)
    (a_sure_row : PySem.W.nsIn K mainGlobals "sure_row" = some (some (.ref f_sure_row)))
    (l_sure_row : K.lookup f_sure_row = some ⟨oc_sure_row, od_sure_row, .func (PySem.W.fnOf "sure_row" "sure_row" (defArgs s_sure_row) (defBody s_sure_row) (defScope s_sure_row) .none kV_sure_row dc_sure_row pm_sure_row an_sure_row cd_sure_row ct_sure_row), sl_sure_row⟩)
    (c_sure_row : PySem.W.codeIn K cd_sure_row "sure_row" = true)
    (k_sure_row : PySem.W.keepIn K (.ref f_sure_row) = true)
    (a_Ledger_number_of : PySem.W.findIn K (.ref C_Ledger) "number_of" = some (some (.ref f_Ledger_number_of)))
    (i_Ledger_number_of : PySem.W.isFn K (.ref f_Ledger_number_of) = true)
    (l_Ledger_number_of : K.lookup f_Ledger_number_of = some ⟨oc_Ledger_number_of, od_Ledger_number_of, .func (PySem.W.fnOf "number_of" "Ledger.number_of" (defArgs s_Ledger_number_of) (defBody s_Ledger_number_of) (defScope s_Ledger_number_of) .none kV_Ledger_number_of dc_Ledger_number_of pm_Ledger_number_of an_Ledger_number_of cd_Ledger_number_of ct_Ledger_number_of), sl_Ledger_number_of⟩)
    (c_Ledger_number_of : PySem.W.codeIn K cd_Ledger_number_of "Ledger.number_of" = true)
    (k_Ledger_number_of : PySem.W.keepIn K (.ref f_Ledger_number_of) = true)
    (a_Ledger_of_row : PySem.W.findIn K (.ref C_Ledger) "of_row" = some (some (.ref f_Ledger_of_row)))
    (i_Ledger_of_row : PySem.W.isFn K (.ref f_Ledger_of_row) = true)
    (l_Ledger_of_row : K.lookup f_Ledger_of_row = some ⟨oc_Ledger_of_row, od_Ledger_of_row, .func (PySem.W.fnOf "of_row" "Ledger.of_row" (defArgs s_Ledger_of_row) (defBody s_Ledger_of_row) (defScope s_Ledger_of_row) .none kV_Ledger_of_row dc_Ledger_of_row pm_Ledger_of_row an_Ledger_of_row cd_Ledger_of_row ct_Ledger_of_row), sl_Ledger_of_row⟩)
    (c_Ledger_of_row : PySem.W.codeIn K cd_Ledger_of_row "Ledger.of_row" = true)
    (k_Ledger_of_row : PySem.W.keepIn K (.ref f_Ledger_of_row) = true)
    (a_is_whole : PySem.W.nsIn K mainGlobals "is_whole" = some (some (.ref f_is_whole)))
    (l_is_whole : K.lookup f_is_whole = some ⟨oc_is_whole, od_is_whole, .func (PySem.W.fnOf "is_whole" "is_whole" (defArgs s_is_whole) (defBody s_is_whole) (defScope s_is_whole) .none kV_is_whole dc_is_whole pm_is_whole an_is_whole cd_is_whole ct_is_whole), sl_is_whole⟩)
    (c_is_whole : PySem.W.codeIn K cd_is_whole "is_whole" = true)
    (k_is_whole : PySem.W.keepIn K (.ref f_is_whole) = true)
    (a_Ledger_sure : PySem.W.findIn K (.ref C_Ledger) "sure" = some (some (.ref f_Ledger_sure)))
    (i_Ledger_sure : PySem.W.isFn K (.ref f_Ledger_sure) = true)
    (l_Ledger_sure : K.lookup f_Ledger_sure = some ⟨oc_Ledger_sure, od_Ledger_sure, .func (PySem.W.fnOf "sure" "Ledger.sure" (defArgs s_Ledger_sure) (defBody s_Ledger_sure) (defScope s_Ledger_sure) .none kV_Ledger_sure dc_Ledger_sure pm_Ledger_sure an_Ledger_sure cd_Ledger_sure ct_Ledger_sure), sl_Ledger_sure⟩)
    (c_Ledger_sure : PySem.W.codeIn K cd_Ledger_sure "Ledger.sure" = true)
    (k_Ledger_sure : PySem.W.keepIn K (.ref f_Ledger_sure) = true)
    (a_Ledger_of_pair : PySem.W.findIn K (.ref C_Ledger) "of_pair" = some (some (.ref f_Ledger_of_pair)))
    (i_Ledger_of_pair : PySem.W.isFn K (.ref f_Ledger_of_pair) = true)
    (l_Ledger_of_pair : K.lookup f_Ledger_of_pair = some ⟨oc_Ledger_of_pair, od_Ledger_of_pair, .func (PySem.W.fnOf "of_pair" "Ledger.of_pair" (defArgs s_Ledger_of_pair) (defBody s_Ledger_of_pair) (defScope s_Ledger_of_pair) .none kV_Ledger_of_pair dc_Ledger_of_pair pm_Ledger_of_pair an_Ledger_of_pair cd_Ledger_of_pair ct_Ledger_of_pair), sl_Ledger_of_pair⟩)
    (c_Ledger_of_pair : PySem.W.codeIn K cd_Ledger_of_pair "Ledger.of_pair" = true)
    (k_Ledger_of_pair : PySem.W.keepIn K (.ref f_Ledger_of_pair) = true)
    (a_Book_half_sums : PySem.W.findIn K (.ref C_Book) "half_sums" = some (some (.ref f_Book_half_sums)))
    (i_Book_half_sums : PySem.W.isFn K (.ref f_Book_half_sums) = true)
    (l_Book_half_sums : K.lookup f_Book_half_sums = some ⟨oc_Book_half_sums, od_Book_half_sums, .func (PySem.W.fnOf "half_sums" "Book.half_sums" (defArgs s_Book_half_sums) (defBody s_Book_half_sums) (defScope s_Book_half_sums) .none kV_Book_half_sums dc_Book_half_sums pm_Book_half_sums an_Book_half_sums cd_Book_half_sums ct_Book_half_sums), sl_Book_half_sums⟩)
    (c_Book_half_sums : PySem.W.codeIn K cd_Book_half_sums "Book.half_sums" = true)
    (k_Book_half_sums : PySem.W.keepIn K (.ref f_Book_half_sums) = true)
    (a_Book_grow : PySem.W.findIn K (.ref C_Book) "grow" = some (some (.ref f_Book_grow)))
    (i_Book_grow : PySem.W.isFn K (.ref f_Book_grow) = true)
    (l_Book_grow : K.lookup f_Book_grow = some ⟨oc_Book_grow, od_Book_grow, .func (PySem.W.fnOf "grow" "Book.grow" (defArgs s_Book_grow) (defBody s_Book_grow) (defScope s_Book_grow) .none kV_Book_grow dc_Book_grow pm_Book_grow an_Book_grow cd_Book_grow ct_Book_grow), sl_Book_grow⟩)
    (c_Book_grow : PySem.W.codeIn K cd_Book_grow "Book.grow" = true)
    (k_Book_grow : PySem.W.keepIn K (.ref f_Book_grow) = true)
    (a_Book_init : PySem.W.findIn K (.ref C_Book) "__init__" = some (some (.ref f_Book_init)))
    (i_Book_init : PySem.W.isFn K (.ref f_Book_init) = true)
    (l_Book_init : K.lookup f_Book_init = some ⟨oc_Book_init, od_Book_init, .func (PySem.W.fnOf "__init__" "Book.__init__" (defArgs s_Book_init) (defBody s_Book_init) (defScope s_Book_init) .none kV_Book_init dc_Book_init pm_Book_init an_Book_init cd_Book_init ct_Book_init), sl_Book_init⟩)
    (c_Book_init : PySem.W.codeIn K cd_Book_init "Book.__init__" = true)
    (k_Book_init : PySem.W.keepIn K (.ref f_Book_init) = true)
    (a_law_class : PySem.W.nsIn K mainGlobals "_law_class" = some (some (.ref f_law_class)))
    (l_law_class : K.lookup f_law_class = some ⟨oc_law_class, od_law_class, .func (PySem.W.fnOf "_law_class" "_law_class" (defArgs s_law_class) (defBody s_law_class) (defScope s_law_class) .none kV_law_class dc_law_class pm_law_class an_law_class cd_law_class ct_law_class), sl_law_class⟩)
    (c_law_class : PySem.W.codeIn K cd_law_class "_law_class" = true)
    (k_law_class : PySem.W.keepIn K (.ref f_law_class) = true)
    (a_law_book : PySem.W.nsIn K mainGlobals "_law_book" = some (some (.ref f_law_book)))
    (l_law_book : K.lookup f_law_book = some ⟨oc_law_book, od_law_book, .func (PySem.W.fnOf "_law_book" "_law_book" (defArgs s_law_book) (defBody s_law_book) (defScope s_law_book) .none kV_law_book dc_law_book pm_law_book an_law_book cd_law_book ct_law_book), sl_law_book⟩)
    (c_law_book : PySem.W.codeIn K cd_law_book "_law_book" = true)
    (k_law_book : PySem.W.keepIn K (.ref f_law_book) = true)
    (a_Book_add : PySem.W.findIn K (.ref C_Book) "add" = some (some (.ref f_Book_add)))
    (i_Book_add : PySem.W.isFn K (.ref f_Book_add) = true)
    (l_Book_add : K.lookup f_Book_add = some ⟨oc_Book_add, od_Book_add, .func (PySem.W.fnOf "add" "Book.add" (defArgs s_Book_add) (defBody s_Book_add) (defScope s_Book_add) .none kV_Book_add dc_Book_add pm_Book_add an_Book_add cd_Book_add ct_Book_add), sl_Book_add⟩)
    (c_Book_add : PySem.W.codeIn K cd_Book_add "Book.add" = true)
    (k_Book_add : PySem.W.keepIn K (.ref f_Book_add) = true)
    (a_law_added : PySem.W.nsIn K mainGlobals "_law_added" = some (some (.ref f_law_added)))
    (l_law_added : K.lookup f_law_added = some ⟨oc_law_added, od_law_added, .func (PySem.W.fnOf "_law_added" "_law_added" (defArgs s_law_added) (defBody s_law_added) (defScope s_law_added) .none kV_law_added dc_law_added pm_law_added an_law_added cd_law_added ct_law_added), sl_law_added⟩)
    (c_law_added : PySem.W.codeIn K cd_law_added "_law_added" = true)
    (k_law_added : PySem.W.keepIn K (.ref f_law_added) = true)
    (a_Book_count : PySem.W.findIn K (.ref C_Book) "count" = some (some (.ref f_Book_count)))
    (i_Book_count : PySem.W.isFn K (.ref f_Book_count) = true)
    (l_Book_count : K.lookup f_Book_count = some ⟨oc_Book_count, od_Book_count, .func (PySem.W.fnOf "count" "Book.count" (defArgs s_Book_count) (defBody s_Book_count) (defScope s_Book_count) .none kV_Book_count dc_Book_count pm_Book_count an_Book_count cd_Book_count ct_Book_count), sl_Book_count⟩)
    (c_Book_count : PySem.W.codeIn K cd_Book_count "Book.count" = true)
    (k_Book_count : PySem.W.keepIn K (.ref f_Book_count) = true)
    (a_size_of : PySem.W.nsIn K mainGlobals "size_of" = some (some (.ref f_size_of)))
    (l_size_of : K.lookup f_size_of = some ⟨oc_size_of, od_size_of, .func (PySem.W.fnOf "size_of" "size_of" (defArgs s_size_of) (defBody s_size_of) (defScope s_size_of) .none kV_size_of dc_size_of pm_size_of an_size_of cd_size_of ct_size_of), sl_size_of⟩)
    (c_size_of : PySem.W.codeIn K cd_size_of "size_of" = true)
    (k_size_of : PySem.W.keepIn K (.ref f_size_of) = true)
    (a_Book_cut : PySem.W.findIn K (.ref C_Book) "cut" = some (some (.ref f_Book_cut)))
    (i_Book_cut : PySem.W.isFn K (.ref f_Book_cut) = true)
    (l_Book_cut : K.lookup f_Book_cut = some ⟨oc_Book_cut, od_Book_cut, .func (PySem.W.fnOf "cut" "Book.cut" (defArgs s_Book_cut) (defBody s_Book_cut) (defScope s_Book_cut) .none kV_Book_cut dc_Book_cut pm_Book_cut an_Book_cut cd_Book_cut ct_Book_cut), sl_Book_cut⟩)
    (c_Book_cut : PySem.W.codeIn K cd_Book_cut "Book.cut" = true)
    (k_Book_cut : PySem.W.keepIn K (.ref f_Book_cut) = true)
    (a_law_long : PySem.W.nsIn K mainGlobals "_law_long" = some (some (.ref f_law_long)))
    (l_law_long : K.lookup f_law_long = some ⟨oc_law_long, od_law_long, .func (PySem.W.fnOf "_law_long" "_law_long" (defArgs s_law_long) (defBody s_law_long) (defScope s_law_long) .none kV_law_long dc_law_long pm_law_long an_law_long cd_law_long ct_law_long), sl_law_long⟩)
    (c_law_long : PySem.W.codeIn K cd_law_long "_law_long" = true)
    (k_law_long : PySem.W.keepIn K (.ref f_law_long) = true)
    (a_Book_rows : PySem.W.findIn K (.ref C_Book) "rows" = some (some (.ref f_Book_rows)))
    (i_Book_rows : PySem.W.isFn K (.ref f_Book_rows) = true)
    (l_Book_rows : K.lookup f_Book_rows = some ⟨oc_Book_rows, od_Book_rows, .func (PySem.W.fnOf "rows" "Book.rows" (defArgs s_Book_rows) (defBody s_Book_rows) (defScope s_Book_rows) .none kV_Book_rows dc_Book_rows pm_Book_rows an_Book_rows cd_Book_rows ct_Book_rows), sl_Book_rows⟩)
    (c_Book_rows : PySem.W.codeIn K cd_Book_rows "Book.rows" = true)
    (k_Book_rows : PySem.W.keepIn K (.ref f_Book_rows) = true)
    (a_Looker_init : PySem.W.findIn K (.ref C_Looker) "__init__" = some (some (.ref f_Looker_init)))
    (i_Looker_init : PySem.W.isFn K (.ref f_Looker_init) = true)
    (l_Looker_init : K.lookup f_Looker_init = some ⟨oc_Looker_init, od_Looker_init, .func (PySem.W.fnOf "__init__" "Looker.__init__" (defArgs s_Looker_init) (defBody s_Looker_init) (defScope s_Looker_init) .none kV_Looker_init dc_Looker_init pm_Looker_init an_Looker_init cd_Looker_init ct_Looker_init), sl_Looker_init⟩)
    (c_Looker_init : PySem.W.codeIn K cd_Looker_init "Looker.__init__" = true)
    (k_Looker_init : PySem.W.keepIn K (.ref f_Looker_init) = true)
    (a_digits : PySem.W.nsIn K mainGlobals "digits" = some (some (.ref f_digits)))
    (l_digits : K.lookup f_digits = some ⟨oc_digits, od_digits, .func (PySem.W.fnOf "digits" "digits" (defArgs s_digits) (defBody s_digits) (defScope s_digits) .none kV_digits dc_digits pm_digits an_digits cd_digits ct_digits), sl_digits⟩)
    (c_digits : PySem.W.codeIn K cd_digits "digits" = true)
    (k_digits : PySem.W.keepIn K (.ref f_digits) = true)
    (a_parted : PySem.W.nsIn K mainGlobals "parted" = some (some (.ref f_parted)))
    (l_parted : K.lookup f_parted = some ⟨oc_parted, od_parted, .func (PySem.W.fnOf "parted" "parted" (defArgs s_parted) (defBody s_parted) (defScope s_parted) .none kV_parted dc_parted pm_parted an_parted cd_parted ct_parted), sl_parted⟩)
    (c_parted : PySem.W.codeIn K cd_parted "parted" = true)
    (k_parted : PySem.W.keepIn K (.ref f_parted) = true)
    (a_Looker_lesser : PySem.W.findIn K (.ref C_Looker) "lesser" = some (some (.ref f_Looker_lesser)))
    (i_Looker_lesser : PySem.W.isFn K (.ref f_Looker_lesser) = true)
    (l_Looker_lesser : K.lookup f_Looker_lesser = some ⟨oc_Looker_lesser, od_Looker_lesser, .func (PySem.W.fnOf "lesser" "Looker.lesser" (defArgs s_Looker_lesser) (defBody s_Looker_lesser) (defScope s_Looker_lesser) .none kV_Looker_lesser dc_Looker_lesser pm_Looker_lesser an_Looker_lesser cd_Looker_lesser ct_Looker_lesser), sl_Looker_lesser⟩)
    (c_Looker_lesser : PySem.W.codeIn K cd_Looker_lesser "Looker.lesser" = true)
    (k_Looker_lesser : PySem.W.keepIn K (.ref f_Looker_lesser) = true)
    (a_Book_has_block : PySem.W.findIn K (.ref C_Book) "has_block" = some (some (.ref f_Book_has_block)))
    (i_Book_has_block : PySem.W.isFn K (.ref f_Book_has_block) = true)
    (l_Book_has_block : K.lookup f_Book_has_block = some ⟨oc_Book_has_block, od_Book_has_block, .func (PySem.W.fnOf "has_block" "Book.has_block" (defArgs s_Book_has_block) (defBody s_Book_has_block) (defScope s_Book_has_block) .none kV_Book_has_block dc_Book_has_block pm_Book_has_block an_Book_has_block cd_Book_has_block ct_Book_has_block), sl_Book_has_block⟩)
    (c_Book_has_block : PySem.W.codeIn K cd_Book_has_block "Book.has_block" = true)
    (k_Book_has_block : PySem.W.keepIn K (.ref f_Book_has_block) = true)
    (a_Book_sum_of : PySem.W.findIn K (.ref C_Book) "sum_of" = some (some (.ref f_Book_sum_of)))
    (i_Book_sum_of : PySem.W.isFn K (.ref f_Book_sum_of) = true)
    (l_Book_sum_of : K.lookup f_Book_sum_of = some ⟨oc_Book_sum_of, od_Book_sum_of, .func (PySem.W.fnOf "sum_of" "Book.sum_of" (defArgs s_Book_sum_of) (defBody s_Book_sum_of) (defScope s_Book_sum_of) .none kV_Book_sum_of dc_Book_sum_of pm_Book_sum_of an_Book_sum_of cd_Book_sum_of ct_Book_sum_of), sl_Book_sum_of⟩)
    (c_Book_sum_of : PySem.W.codeIn K cd_Book_sum_of "Book.sum_of" = true)
    (k_Book_sum_of : PySem.W.keepIn K (.ref f_Book_sum_of) = true)
    (a_Looker_are_alike : PySem.W.findIn K (.ref C_Looker) "are_alike" = some (some (.ref f_Looker_are_alike)))
    (i_Looker_are_alike : PySem.W.isFn K (.ref f_Looker_are_alike) = true)
    (l_Looker_are_alike : K.lookup f_Looker_are_alike = some ⟨oc_Looker_are_alike, od_Looker_are_alike, .func (PySem.W.fnOf "are_alike" "Looker.are_alike" (defArgs s_Looker_are_alike) (defBody s_Looker_are_alike) (defScope s_Looker_are_alike) .none kV_Looker_are_alike dc_Looker_are_alike pm_Looker_are_alike an_Looker_are_alike cd_Looker_are_alike ct_Looker_are_alike), sl_Looker_are_alike⟩)
    (c_Looker_are_alike : PySem.W.codeIn K cd_Looker_are_alike "Looker.are_alike" = true)
    (k_Looker_are_alike : PySem.W.keepIn K (.ref f_Looker_are_alike) = true)
    (a_Looker_first_in : PySem.W.findIn K (.ref C_Looker) "first_in" = some (some (.ref f_Looker_first_in)))
    (i_Looker_first_in : PySem.W.isFn K (.ref f_Looker_first_in) = true)
    (l_Looker_first_in : K.lookup f_Looker_first_in = some ⟨oc_Looker_first_in, od_Looker_first_in, .func (PySem.W.fnOf "first_in" "Looker.first_in" (defArgs s_Looker_first_in) (defBody s_Looker_first_in) (defScope s_Looker_first_in) .none kV_Looker_first_in dc_Looker_first_in pm_Looker_first_in an_Looker_first_in cd_Looker_first_in ct_Looker_first_in), sl_Looker_first_in⟩)
    (c_Looker_first_in : PySem.W.codeIn K cd_Looker_first_in "Looker.first_in" = true)
    (k_Looker_first_in : PySem.W.keepIn K (.ref f_Looker_first_in) = true)
    (a_first_unlike : PySem.W.nsIn K mainGlobals "first_unlike" = some (some (.ref f_first_unlike)))
    (l_first_unlike : K.lookup f_first_unlike = some ⟨oc_first_unlike, od_first_unlike, .func (PySem.W.fnOf "first_unlike" "first_unlike" (defArgs s_first_unlike) (defBody s_first_unlike) (defScope s_first_unlike) .none kV_first_unlike dc_first_unlike pm_first_unlike an_first_unlike cd_first_unlike ct_first_unlike), sl_first_unlike⟩)
    (c_first_unlike : PySem.W.codeIn K cd_first_unlike "first_unlike" = true)
    (k_first_unlike : PySem.W.keepIn K (.ref f_first_unlike) = true)
    (a_Looker_all_in : PySem.W.findIn K (.ref C_Looker) "all_in" = some (some (.ref f_Looker_all_in)))
    (i_Looker_all_in : PySem.W.isFn K (.ref f_Looker_all_in) = true)
    (l_Looker_all_in : K.lookup f_Looker_all_in = some ⟨oc_Looker_all_in, od_Looker_all_in, .func (PySem.W.fnOf "all_in" "Looker.all_in" (defArgs s_Looker_all_in) (defBody s_Looker_all_in) (defScope s_Looker_all_in) .none kV_Looker_all_in dc_Looker_all_in pm_Looker_all_in an_Looker_all_in cd_Looker_all_in ct_Looker_all_in), sl_Looker_all_in⟩)
    (c_Looker_all_in : PySem.W.codeIn K cd_Looker_all_in "Looker.all_in" = true)
    (k_Looker_all_in : PySem.W.keepIn K (.ref f_Looker_all_in) = true)
    (a_all_unlike : PySem.W.nsIn K mainGlobals "all_unlike" = some (some (.ref f_all_unlike)))
    (l_all_unlike : K.lookup f_all_unlike = some ⟨oc_all_unlike, od_all_unlike, .func (PySem.W.fnOf "all_unlike" "all_unlike" (defArgs s_all_unlike) (defBody s_all_unlike) (defScope s_all_unlike) .none kV_all_unlike dc_all_unlike pm_all_unlike an_all_unlike cd_all_unlike ct_all_unlike), sl_all_unlike⟩)
    (c_all_unlike : PySem.W.codeIn K cd_all_unlike "all_unlike" = true)
    (k_all_unlike : PySem.W.keepIn K (.ref f_all_unlike) = true)
    (a_Book_sure : PySem.W.findIn K (.ref C_Book) "sure" = some (some (.ref f_Book_sure)))
    (i_Book_sure : PySem.W.isFn K (.ref f_Book_sure) = true)
    (l_Book_sure : K.lookup f_Book_sure = some ⟨oc_Book_sure, od_Book_sure, .func (PySem.W.fnOf "sure" "Book.sure" (defArgs s_Book_sure) (defBody s_Book_sure) (defScope s_Book_sure) .none kV_Book_sure dc_Book_sure pm_Book_sure an_Book_sure cd_Book_sure ct_Book_sure), sl_Book_sure⟩)
    (c_Book_sure : PySem.W.codeIn K cd_Book_sure "Book.sure" = true)
    (k_Book_sure : PySem.W.keepIn K (.ref f_Book_sure) = true)
    (a_Book_row : PySem.W.findIn K (.ref C_Book) "row" = some (some (.ref f_Book_row)))
    (i_Book_row : PySem.W.isFn K (.ref f_Book_row) = true)
    (l_Book_row : K.lookup f_Book_row = some ⟨oc_Book_row, od_Book_row, .func (PySem.W.fnOf "row" "Book.row" (defArgs s_Book_row) (defBody s_Book_row) (defScope s_Book_row) .none kV_Book_row dc_Book_row pm_Book_row an_Book_row cd_Book_row ct_Book_row), sl_Book_row⟩)
    (c_Book_row : PySem.W.codeIn K cd_Book_row "Book.row" = true)
    (k_Book_row : PySem.W.keepIn K (.ref f_Book_row) = true)
    (a_moves : PySem.W.nsIn K mainGlobals "moves" = some (some (.ref f_moves)))
    (l_moves : K.lookup f_moves = some ⟨oc_moves, od_moves, .func (PySem.W.fnOf "moves" "moves" (defArgs s_moves) (defBody s_moves) (defScope s_moves) .none kV_moves dc_moves pm_moves an_moves cd_moves ct_moves), sl_moves⟩)
    (c_moves : PySem.W.codeIn K cd_moves "moves" = true)
    (k_moves : PySem.W.keepIn K (.ref f_moves) = true)
    (a_law_looked : PySem.W.nsIn K mainGlobals "_law_looked" = some (some (.ref f_law_looked)))
    (l_law_looked : K.lookup f_law_looked = some ⟨oc_law_looked, od_law_looked, .func (PySem.W.fnOf "_law_looked" "_law_looked" (defArgs s_law_looked) (defBody s_law_looked) (defScope s_law_looked) .none kV_law_looked dc_law_looked pm_law_looked an_law_looked cd_law_looked ct_law_looked), sl_law_looked⟩)
    (c_law_looked : PySem.W.codeIn K cd_law_looked "_law_looked" = true)
    (k_law_looked : PySem.W.keepIn K (.ref f_law_looked) = true)
    (a_law : PySem.W.nsIn K mainGlobals "law" = some (some (.ref f_law)))
    (l_law : K.lookup f_law = some ⟨oc_law, od_law, .func (PySem.W.fnOf "law" "law" (defArgs s_law) (defBody s_law) (defScope s_law) .none kV_law dc_law pm_law an_law cd_law ct_law), sl_law⟩)
    (c_law : PySem.W.codeIn K cd_law "law" = true)
    (k_law : PySem.W.keepIn K (.ref f_law) = true)
    (z_ValueError : PySem.W.nsIn K mainGlobals "ValueError" = some none)
    (z_bool : PySem.W.nsIn K mainGlobals "bool" = some none)
    (z_int : PySem.W.nsIn K mainGlobals "int" = some none)
    (z_isinstance : PySem.W.nsIn K mainGlobals "isinstance" = some none)
    (z_len : PySem.W.nsIn K mainGlobals "len" = some none)
    (z_list : PySem.W.nsIn K mainGlobals "list" = some none)
    (z_min : PySem.W.nsIn K mainGlobals "min" = some none)
    (z_range : PySem.W.nsIn K mainGlobals "range" = some none)
    (z_str : PySem.W.nsIn K mainGlobals "str" = some none)
    (z_MOST_ROWS : PySem.W.nsIn K mainGlobals "MOST_ROWS" = some (some (.int 1024 tk_MOST_ROWS)))
    (z_MOST_SIGNS : PySem.W.nsIn K mainGlobals "MOST_SIGNS" = some (some (.int 40 tk_MOST_SIGNS)))
    (z_SIGNS : PySem.W.nsIn K mainGlobals "SIGNS" = some (some (.str "abcdefghijklmnopqrstuvwxyz0123456789 " tk_SIGNS)))
    : ∃ fd : FuncData, (∀ (s : Shared) (v : Value), BindsTo s fd ⟨[v], []⟩ [("_law_script", v)]) ∧ ∀ base : Heap, K.In base → base.Ns mainGlobals mg → FnOk l.prog w K mg base (L2N.CX l.prog w) 29 fa fd ["_law_script"] (sp_law K Cs.none) := by
  have e := hfa.symm.trans (PySem.W.mg_of X G a_law)
  cases e
  let c : Cs := { Ledger := C_Ledger, Book := C_Book, Looker := C_Looker, TwinError := C_TwinError, NoRow := C_NoRow, NoSum := C_NoSum, NoPlace := C_NoPlace, NoBlock := C_NoBlock, Full := C_Full, Strange := C_Strange, md := MD l.prog w }
  have D : c.md = MD l.prog w := rfl
  have M : BM mg := ⟨PySem.W.mg_none_of X G z_ValueError, PySem.W.mg_none_of X G z_bool, PySem.W.mg_none_of X G z_int, PySem.W.mg_none_of X G z_isinstance, PySem.W.mg_none_of X G z_len, PySem.W.mg_none_of X G z_list, PySem.W.mg_none_of X G z_min, PySem.W.mg_none_of X G z_range, PySem.W.mg_none_of X G z_str, ⟨_, PySem.W.mg_of X G z_MOST_ROWS⟩, ⟨_, PySem.W.mg_of X G z_MOST_SIGNS⟩, ⟨_, PySem.W.mg_of X G z_SIGNS⟩⟩
  have cl_Ledger : Cls K C_Ledger := ⟨pg_Ledger, hd_Ledger, po_Ledger, sa_Ledger⟩
  have cl_Book : Cls K C_Book := ⟨pg_Book, hd_Book, po_Book, sa_Book⟩
  have cl_Looker : Cls K C_Looker := ⟨pg_Looker, hd_Looker, po_Looker, sa_Looker⟩
  have T : TxK K c := ⟨cl_Ledger, nf_Ledger_given, nf_Ledger_things, cl_Book, nf_Book_ledger, nf_Book_lines, nf_Book_levels, cl_Looker, nf_Looker_one, nf_Looker_other, nf_Looker_looks, fun d ks => ⟨_, rfl⟩, ⟨pm_Ledger, pe_Ledger, pn_Ledger⟩, PySem.W.exm_ref bP_TwinError hd_TwinError tP_TwinError m_NoRow_TwinError, PySem.W.exm_ref bP_TwinError hd_TwinError tP_TwinError m_NoSum_TwinError, PySem.W.exm_ref bP_TwinError hd_TwinError tP_TwinError m_Full_TwinError, PySem.W.exm_ref bP_TwinError hd_TwinError tP_TwinError m_NoPlace_TwinError, PySem.W.exm_ref bP_TwinError hd_TwinError tP_TwinError m_NoBlock_TwinError, PySem.W.exm_ref bP_TwinError hd_TwinError tP_TwinError m_Strange_TwinError, ⟨ga_NoRow, gt_NoRow, bP_NoRow, hd_NoRow, cl_NoRow, sp_cls, tk_cls, mo_NoRow⟩, kit_ref hd_Full tP_Full s_NoRow_Full s_NoRow_NoRow, kit_ref hd_NoRow tP_NoRow s_NoRow_NoRow s_NoRow_NoRow, kit_ref hd_Strange tP_Strange s_NoRow_Strange s_NoRow_NoRow, kit_ref hd_NoBlock tP_NoBlock s_NoRow_NoBlock s_NoRow_NoRow, kit_ref hd_NoPlace tP_NoPlace s_NoRow_NoPlace s_NoRow_NoRow, kit_ref hd_NoSum tP_NoSum s_NoRow_NoSum s_NoRow_NoRow, kit_ty (by decide +kernel) ve_NoRow, ⟨ga_NoSum, gt_NoSum, bP_NoSum, hd_NoSum, cl_NoSum, sp_cls, tk_cls, mo_NoSum⟩, kit_ref hd_Full tP_Full s_NoSum_Full s_NoSum_NoSum, kit_ref hd_NoRow tP_NoRow s_NoSum_NoRow s_NoSum_NoSum, kit_ref hd_Strange tP_Strange s_NoSum_Strange s_NoSum_NoSum, kit_ref hd_NoBlock tP_NoBlock s_NoSum_NoBlock s_NoSum_NoSum, kit_ref hd_NoPlace tP_NoPlace s_NoSum_NoPlace s_NoSum_NoSum, kit_ref hd_NoSum tP_NoSum s_NoSum_NoSum s_NoSum_NoSum, kit_ty (by decide +kernel) ve_NoSum, ⟨ga_Full, gt_Full, bP_Full, hd_Full, cl_Full, sp_cls, tk_cls, mo_Full⟩, kit_ref hd_Full tP_Full s_Full_Full s_Full_Full, kit_ref hd_NoRow tP_NoRow s_Full_NoRow s_Full_Full, kit_ref hd_Strange tP_Strange s_Full_Strange s_Full_Full, kit_ref hd_NoBlock tP_NoBlock s_Full_NoBlock s_Full_Full, kit_ref hd_NoPlace tP_NoPlace s_Full_NoPlace s_Full_Full, kit_ref hd_NoSum tP_NoSum s_Full_NoSum s_Full_Full, kit_ty (by decide +kernel) ve_Full, ⟨ga_NoPlace, gt_NoPlace, bP_NoPlace, hd_NoPlace, cl_NoPlace, sp_cls, tk_cls, mo_NoPlace⟩, kit_ref hd_Full tP_Full s_NoPlace_Full s_NoPlace_NoPlace, kit_ref hd_NoRow tP_NoRow s_NoPlace_NoRow s_NoPlace_NoPlace, kit_ref hd_Strange tP_Strange s_NoPlace_Strange s_NoPlace_NoPlace, kit_ref hd_NoBlock tP_NoBlock s_NoPlace_NoBlock s_NoPlace_NoPlace, kit_ref hd_NoPlace tP_NoPlace s_NoPlace_NoPlace s_NoPlace_NoPlace, kit_ref hd_NoSum tP_NoSum s_NoPlace_NoSum s_NoPlace_NoPlace, kit_ty (by decide +kernel) ve_NoPlace, ⟨ga_NoBlock, gt_NoBlock, bP_NoBlock, hd_NoBlock, cl_NoBlock, sp_cls, tk_cls, mo_NoBlock⟩, kit_ref hd_Full tP_Full s_NoBlock_Full s_NoBlock_NoBlock, kit_ref hd_NoRow tP_NoRow s_NoBlock_NoRow s_NoBlock_NoBlock, kit_ref hd_Strange tP_Strange s_NoBlock_Strange s_NoBlock_NoBlock, kit_ref hd_NoBlock tP_NoBlock s_NoBlock_NoBlock s_NoBlock_NoBlock, kit_ref hd_NoPlace tP_NoPlace s_NoBlock_NoPlace s_NoBlock_NoBlock, kit_ref hd_NoSum tP_NoSum s_NoBlock_NoSum s_NoBlock_NoBlock, kit_ty (by decide +kernel) ve_NoBlock, ⟨ga_Strange, gt_Strange, bP_Strange, hd_Strange, cl_Strange, sp_cls, tk_cls, mo_Strange⟩, kit_ref hd_Full tP_Full s_Strange_Full s_Strange_Strange, kit_ref hd_NoRow tP_NoRow s_Strange_NoRow s_Strange_Strange, kit_ref hd_Strange tP_Strange s_Strange_Strange s_Strange_Strange, kit_ref hd_NoBlock tP_NoBlock s_Strange_NoBlock s_Strange_Strange, kit_ref hd_NoPlace tP_NoPlace s_Strange_NoPlace s_Strange_Strange, kit_ref hd_NoSum tP_NoSum s_Strange_NoSum s_Strange_Strange, kit_ty (by decide +kernel) ve_Strange⟩
  have X_NoRow : ExcT K mg "NoRow" c.NoRow := ⟨PySem.W.mg_of X G a_NoRow, xP_NoRow, kP_NoRow, bP_NoRow, tP_NoRow⟩
  have X_NoSum : ExcT K mg "NoSum" c.NoSum := ⟨PySem.W.mg_of X G a_NoSum, xP_NoSum, kP_NoSum, bP_NoSum, tP_NoSum⟩
  have X_Full : ExcT K mg "Full" c.Full := ⟨PySem.W.mg_of X G a_Full, xP_Full, kP_Full, bP_Full, tP_Full⟩
  have X_Strange : ExcT K mg "Strange" c.Strange := ⟨PySem.W.mg_of X G a_Strange, xP_Strange, kP_Strange, bP_Strange, tP_Strange⟩
  have X_NoBlock : ExcT K mg "NoBlock" c.NoBlock := ⟨PySem.W.mg_of X G a_NoBlock, xP_NoBlock, kP_NoBlock, bP_NoBlock, tP_NoBlock⟩
  have X_NoPlace : ExcT K mg "NoPlace" c.NoPlace := ⟨PySem.W.mg_of X G a_NoPlace, xP_NoPlace, kP_NoPlace, bP_NoPlace, tP_NoPlace⟩
  have X_TwinError : ExcT K mg "TwinError" c.TwinError := ⟨PySem.W.mg_of X G a_TwinError, xP_TwinError, kP_TwinError, bP_TwinError, tP_TwinError⟩
  have F_law_cell_at := fun_mk (st := s_law_cell_at) l_law_cell_at c_law_cell_at k_law_cell_at
  have b_law_cell_at := F_law_cell_at.binds (ps := ["_law_script", "_law_k"]) fun _ _ _ _ _ _ us hl => match us, hl with | [_, _], _ => rfl
  have H_law_cell_at : FunG K mg "_law_cell_at" s_law_cell_at ["_law_script", "_law_k"] := ⟨⟨_, _, F_law_cell_at, PySem.W.mg_of X G a_law_cell_at, b_law_cell_at⟩⟩
  have F_law_mix := fun_mk (st := s_law_mix) l_law_mix c_law_mix k_law_mix
  have b_law_mix := F_law_mix.binds (ps := ["_law_number", "_law_k"]) fun _ _ _ _ _ _ us hl => match us, hl with | [_, _], _ => rfl
  have H_law_mix : FunG K mg "_law_mix" s_law_mix ["_law_number", "_law_k"] := ⟨⟨_, _, F_law_mix, PySem.W.mg_of X G a_law_mix, b_law_mix⟩⟩
  have F_law_text := fun_mk (st := s_law_text) l_law_text c_law_text k_law_text
  have b_law_text := F_law_text.binds (ps := ["_law_cell"]) fun _ _ _ _ _ _ us hl => match us, hl with | [_], _ => rfl
  have H_law_text : FunG K mg "_law_text" s_law_text ["_law_cell"] := ⟨⟨_, _, F_law_text, PySem.W.mg_of X G a_law_text, b_law_text⟩⟩
  have F_law_rows := fun_mk (st := s_law_rows) l_law_rows c_law_rows k_law_rows
  have b_law_rows := F_law_rows.binds (ps := ["_law_cell", "_law_more"]) fun _ _ _ _ _ _ us hl => match us, hl with | [_, _], _ => rfl
  have H_law_rows : FunG K mg "_law_rows" s_law_rows ["_law_cell", "_law_more"] := ⟨⟨_, _, F_law_rows, PySem.W.mg_of X G a_law_rows, b_law_rows⟩⟩
  have F_Ledger_many := fun_mk (st := s_Ledger_many) l_Ledger_many c_Ledger_many k_Ledger_many
  have b_Ledger_many := F_Ledger_many.binds (ps := ["self"]) fun _ _ _ _ _ _ us hl => match us, hl with | [_], _ => rfl
  have H_Ledger_many : MetG K c.Ledger "many" "Ledger.many" s_Ledger_many ["self"] := ⟨⟨_, _, F_Ledger_many, ⟨a_Ledger_many, i_Ledger_many, k_Ledger_many⟩, b_Ledger_many⟩⟩
  have F_Ledger_init := fun_mk (st := s_Ledger_init) l_Ledger_init c_Ledger_init k_Ledger_init
  have b_Ledger_init := F_Ledger_init.binds (ps := ["self"]) fun _ _ _ _ _ _ us hl => match us, hl with | [_], _ => rfl
  have H_Ledger_init : IniG K mg c.Ledger "Ledger" "Ledger.__init__" s_Ledger_init ["self"] := ⟨⟨_, _, F_Ledger_init, ⟨mk_Ledger, a_Ledger_init, i_Ledger_init, kc_Ledger⟩, PySem.W.mg_of X G a_Ledger, b_Ledger_init⟩⟩
  have F_is_row := fun_mk (st := s_is_row) l_is_row c_is_row k_is_row
  have b_is_row := F_is_row.binds (ps := ["thing"]) fun _ _ _ _ _ _ us hl => match us, hl with | [_], _ => rfl
  have H_is_row : FunG K mg "is_row" s_is_row ["thing"] := ⟨⟨_, _, F_is_row, PySem.W.mg_of X G a_is_row, b_is_row⟩⟩
  have F_sure_row := fun_mk (st := s_sure_row) l_sure_row c_sure_row k_sure_row
  have b_sure_row := F_sure_row.binds (ps := ["thing"]) fun _ _ _ _ _ _ us hl => match us, hl with | [_], _ => rfl
  have H_sure_row : FunG K mg "sure_row" s_sure_row ["thing"] := ⟨⟨_, _, F_sure_row, PySem.W.mg_of X G a_sure_row, b_sure_row⟩⟩
  have F_Ledger_number_of := fun_mk (st := s_Ledger_number_of) l_Ledger_number_of c_Ledger_number_of k_Ledger_number_of
  have b_Ledger_number_of := F_Ledger_number_of.binds (ps := ["self", "thing"]) fun _ _ _ _ _ _ us hl => match us, hl with | [_, _], _ => rfl
  have H_Ledger_number_of : MetG K c.Ledger "number_of" "Ledger.number_of" s_Ledger_number_of ["self", "thing"] := ⟨⟨_, _, F_Ledger_number_of, ⟨a_Ledger_number_of, i_Ledger_number_of, k_Ledger_number_of⟩, b_Ledger_number_of⟩⟩
  have F_Ledger_of_row := fun_mk (st := s_Ledger_of_row) l_Ledger_of_row c_Ledger_of_row k_Ledger_of_row
  have b_Ledger_of_row := F_Ledger_of_row.binds (ps := ["self", "row"]) fun _ _ _ _ _ _ us hl => match us, hl with | [_, _], _ => rfl
  have H_Ledger_of_row : MetG K c.Ledger "of_row" "Ledger.of_row" s_Ledger_of_row ["self", "row"] := ⟨⟨_, _, F_Ledger_of_row, ⟨a_Ledger_of_row, i_Ledger_of_row, k_Ledger_of_row⟩, b_Ledger_of_row⟩⟩
  have F_is_whole := fun_mk (st := s_is_whole) l_is_whole c_is_whole k_is_whole
  have b_is_whole := F_is_whole.binds (ps := ["thing"]) fun _ _ _ _ _ _ us hl => match us, hl with | [_], _ => rfl
  have H_is_whole : FunG K mg "is_whole" s_is_whole ["thing"] := ⟨⟨_, _, F_is_whole, PySem.W.mg_of X G a_is_whole, b_is_whole⟩⟩
  have F_Ledger_sure := fun_mk (st := s_Ledger_sure) l_Ledger_sure c_Ledger_sure k_Ledger_sure
  have b_Ledger_sure := F_Ledger_sure.binds (ps := ["self", "number"]) fun _ _ _ _ _ _ us hl => match us, hl with | [_, _], _ => rfl
  have H_Ledger_sure : MetG K c.Ledger "sure" "Ledger.sure" s_Ledger_sure ["self", "number"] := ⟨⟨_, _, F_Ledger_sure, ⟨a_Ledger_sure, i_Ledger_sure, k_Ledger_sure⟩, b_Ledger_sure⟩⟩
  have F_Ledger_of_pair := fun_mk (st := s_Ledger_of_pair) l_Ledger_of_pair c_Ledger_of_pair k_Ledger_of_pair
  have b_Ledger_of_pair := F_Ledger_of_pair.binds (ps := ["self", "one", "other"]) fun _ _ _ _ _ _ us hl => match us, hl with | [_, _, _], _ => rfl
  have H_Ledger_of_pair : MetG K c.Ledger "of_pair" "Ledger.of_pair" s_Ledger_of_pair ["self", "one", "other"] := ⟨⟨_, _, F_Ledger_of_pair, ⟨a_Ledger_of_pair, i_Ledger_of_pair, k_Ledger_of_pair⟩, b_Ledger_of_pair⟩⟩
  have F_Book_half_sums := fun_mk (st := s_Book_half_sums) l_Book_half_sums c_Book_half_sums k_Book_half_sums
  have b_Book_half_sums := F_Book_half_sums.binds (ps := ["self", "height", "number"]) fun _ _ _ _ _ _ us hl => match us, hl with | [_, _, _], _ => rfl
  have H_Book_half_sums : MetG K c.Book "half_sums" "Book.half_sums" s_Book_half_sums ["self", "height", "number"] := ⟨⟨_, _, F_Book_half_sums, ⟨a_Book_half_sums, i_Book_half_sums, k_Book_half_sums⟩, b_Book_half_sums⟩⟩
  have F_Book_grow := fun_mk (st := s_Book_grow) l_Book_grow c_Book_grow k_Book_grow
  have b_Book_grow := F_Book_grow.binds (ps := ["self", "row"]) fun _ _ _ _ _ _ us hl => match us, hl with | [_, _], _ => rfl
  have H_Book_grow : MetG K c.Book "grow" "Book.grow" s_Book_grow ["self", "row"] := ⟨⟨_, _, F_Book_grow, ⟨a_Book_grow, i_Book_grow, k_Book_grow⟩, b_Book_grow⟩⟩
  have F_Book_init := fun_mk (st := s_Book_init) l_Book_init c_Book_init k_Book_init
  have b_Book_init := F_Book_init.binds (ps := ["self", "ledger", "rows"]) fun _ _ _ _ _ _ us hl => match us, hl with | [_, _, _], _ => rfl
  have H_Book_init : IniG K mg c.Book "Book" "Book.__init__" s_Book_init ["self", "ledger", "rows"] := ⟨⟨_, _, F_Book_init, ⟨mk_Book, a_Book_init, i_Book_init, kc_Book⟩, PySem.W.mg_of X G a_Book, b_Book_init⟩⟩
  have F_law_class := fun_mk (st := s_law_class) l_law_class c_law_class k_law_class
  have b_law_class := F_law_class.binds (ps := ["_law_e"]) fun _ _ _ _ _ _ us hl => match us, hl with | [_], _ => rfl
  have H_law_class : FunG K mg "_law_class" s_law_class ["_law_e"] := ⟨⟨_, _, F_law_class, PySem.W.mg_of X G a_law_class, b_law_class⟩⟩
  have F_law_book := fun_mk (st := s_law_book) l_law_book c_law_book k_law_book
  have b_law_book := F_law_book.binds (ps := ["_law_ledger", "_law_rows_here"]) fun _ _ _ _ _ _ us hl => match us, hl with | [_, _], _ => rfl
  have H_law_book : FunG K mg "_law_book" s_law_book ["_law_ledger", "_law_rows_here"] := ⟨⟨_, _, F_law_book, PySem.W.mg_of X G a_law_book, b_law_book⟩⟩
  have F_Book_add := fun_mk (st := s_Book_add) l_Book_add c_Book_add k_Book_add
  have b_Book_add := F_Book_add.binds (ps := ["self", "row"]) fun _ _ _ _ _ _ us hl => match us, hl with | [_, _], _ => rfl
  have H_Book_add : MetG K c.Book "add" "Book.add" s_Book_add ["self", "row"] := ⟨⟨_, _, F_Book_add, ⟨a_Book_add, i_Book_add, k_Book_add⟩, b_Book_add⟩⟩
  have F_law_added := fun_mk (st := s_law_added) l_law_added c_law_added k_law_added
  have b_law_added := F_law_added.binds (ps := ["_law_book_here", "_law_row"]) fun _ _ _ _ _ _ us hl => match us, hl with | [_, _], _ => rfl
  have H_law_added : FunG K mg "_law_added" s_law_added ["_law_book_here", "_law_row"] := ⟨⟨_, _, F_law_added, PySem.W.mg_of X G a_law_added, b_law_added⟩⟩
  have F_Book_count := fun_mk (st := s_Book_count) l_Book_count c_Book_count k_Book_count
  have b_Book_count := F_Book_count.binds (ps := ["self"]) fun _ _ _ _ _ _ us hl => match us, hl with | [_], _ => rfl
  have H_Book_count : MetG K c.Book "count" "Book.count" s_Book_count ["self"] := ⟨⟨_, _, F_Book_count, ⟨a_Book_count, i_Book_count, k_Book_count⟩, b_Book_count⟩⟩
  have F_size_of := fun_mk (st := s_size_of) l_size_of c_size_of k_size_of
  have b_size_of := F_size_of.binds (ps := ["height"]) fun _ _ _ _ _ _ us hl => match us, hl with | [_], _ => rfl
  have H_size_of : FunG K mg "size_of" s_size_of ["height"] := ⟨⟨_, _, F_size_of, PySem.W.mg_of X G a_size_of, b_size_of⟩⟩
  have F_Book_cut := fun_mk (st := s_Book_cut) l_Book_cut c_Book_cut k_Book_cut
  have b_Book_cut := F_Book_cut.binds (ps := ["self"]) fun _ _ _ _ _ _ us hl => match us, hl with | [_], _ => rfl
  have H_Book_cut : MetG K c.Book "cut" "Book.cut" s_Book_cut ["self"] := ⟨⟨_, _, F_Book_cut, ⟨a_Book_cut, i_Book_cut, k_Book_cut⟩, b_Book_cut⟩⟩
  have F_law_long := fun_mk (st := s_law_long) l_law_long c_law_long k_law_long
  have b_law_long := F_law_long.binds (ps := ["_law_script", "_law_cell"]) fun _ _ _ _ _ _ us hl => match us, hl with | [_, _], _ => rfl
  have H_law_long : FunG K mg "_law_long" s_law_long ["_law_script", "_law_cell"] := ⟨⟨_, _, F_law_long, PySem.W.mg_of X G a_law_long, b_law_long⟩⟩
  have F_Book_rows := fun_mk (st := s_Book_rows) l_Book_rows c_Book_rows k_Book_rows
  have b_Book_rows := F_Book_rows.binds (ps := ["self"]) fun _ _ _ _ _ _ us hl => match us, hl with | [_], _ => rfl
  have H_Book_rows : MetG K c.Book "rows" "Book.rows" s_Book_rows ["self"] := ⟨⟨_, _, F_Book_rows, ⟨a_Book_rows, i_Book_rows, k_Book_rows⟩, b_Book_rows⟩⟩
  have F_Looker_init := fun_mk (st := s_Looker_init) l_Looker_init c_Looker_init k_Looker_init
  have b_Looker_init := F_Looker_init.binds (ps := ["self", "one", "other"]) fun _ _ _ _ _ _ us hl => match us, hl with | [_, _, _], _ => rfl
  have H_Looker_init : IniG K mg c.Looker "Looker" "Looker.__init__" s_Looker_init ["self", "one", "other"] := ⟨⟨_, _, F_Looker_init, ⟨mk_Looker, a_Looker_init, i_Looker_init, kc_Looker⟩, PySem.W.mg_of X G a_Looker, b_Looker_init⟩⟩
  have F_digits := fun_mk (st := s_digits) l_digits c_digits k_digits
  have b_digits := F_digits.binds (ps := ["count"]) fun _ _ _ _ _ _ us hl => match us, hl with | [_], _ => rfl
  have H_digits : FunG K mg "digits" s_digits ["count"] := ⟨⟨_, _, F_digits, PySem.W.mg_of X G a_digits, b_digits⟩⟩
  have F_parted := fun_mk (st := s_parted) l_parted c_parted k_parted
  have b_parted := F_parted.binds (ps := ["count"]) fun _ _ _ _ _ _ us hl => match us, hl with | [_], _ => rfl
  have H_parted : FunG K mg "parted" s_parted ["count"] := ⟨⟨_, _, F_parted, PySem.W.mg_of X G a_parted, b_parted⟩⟩
  have F_Looker_lesser := fun_mk (st := s_Looker_lesser) l_Looker_lesser c_Looker_lesser k_Looker_lesser
  have b_Looker_lesser := F_Looker_lesser.binds (ps := ["self"]) fun _ _ _ _ _ _ us hl => match us, hl with | [_], _ => rfl
  have H_Looker_lesser : MetG K c.Looker "lesser" "Looker.lesser" s_Looker_lesser ["self"] := ⟨⟨_, _, F_Looker_lesser, ⟨a_Looker_lesser, i_Looker_lesser, k_Looker_lesser⟩, b_Looker_lesser⟩⟩
  have F_Book_has_block := fun_mk (st := s_Book_has_block) l_Book_has_block c_Book_has_block k_Book_has_block
  have b_Book_has_block := F_Book_has_block.binds (ps := ["self", "height", "number"]) fun _ _ _ _ _ _ us hl => match us, hl with | [_, _, _], _ => rfl
  have H_Book_has_block : MetG K c.Book "has_block" "Book.has_block" s_Book_has_block ["self", "height", "number"] := ⟨⟨_, _, F_Book_has_block, ⟨a_Book_has_block, i_Book_has_block, k_Book_has_block⟩, b_Book_has_block⟩⟩
  have F_Book_sum_of := fun_mk (st := s_Book_sum_of) l_Book_sum_of c_Book_sum_of k_Book_sum_of
  have b_Book_sum_of := F_Book_sum_of.binds (ps := ["self", "height", "number"]) fun _ _ _ _ _ _ us hl => match us, hl with | [_, _, _], _ => rfl
  have H_Book_sum_of : MetG K c.Book "sum_of" "Book.sum_of" s_Book_sum_of ["self", "height", "number"] := ⟨⟨_, _, F_Book_sum_of, ⟨a_Book_sum_of, i_Book_sum_of, k_Book_sum_of⟩, b_Book_sum_of⟩⟩
  have F_Looker_are_alike := fun_mk (st := s_Looker_are_alike) l_Looker_are_alike c_Looker_are_alike k_Looker_are_alike
  have b_Looker_are_alike := F_Looker_are_alike.binds (ps := ["self", "height", "number"]) fun _ _ _ _ _ _ us hl => match us, hl with | [_, _, _], _ => rfl
  have H_Looker_are_alike : MetG K c.Looker "are_alike" "Looker.are_alike" s_Looker_are_alike ["self", "height", "number"] := ⟨⟨_, _, F_Looker_are_alike, ⟨a_Looker_are_alike, i_Looker_are_alike, k_Looker_are_alike⟩, b_Looker_are_alike⟩⟩
  have F_Looker_first_in := fun_mk (st := s_Looker_first_in) l_Looker_first_in c_Looker_first_in k_Looker_first_in
  have b_Looker_first_in := F_Looker_first_in.binds (ps := ["self", "height", "number"]) fun _ _ _ _ _ _ us hl => match us, hl with | [_, _, _], _ => rfl
  have H_Looker_first_in : MetG K c.Looker "first_in" "Looker.first_in" s_Looker_first_in ["self", "height", "number"] := ⟨⟨_, _, F_Looker_first_in, ⟨a_Looker_first_in, i_Looker_first_in, k_Looker_first_in⟩, b_Looker_first_in⟩⟩
  have F_first_unlike := fun_mk (st := s_first_unlike) l_first_unlike c_first_unlike k_first_unlike
  have b_first_unlike := F_first_unlike.binds (ps := ["one", "other"]) fun _ _ _ _ _ _ us hl => match us, hl with | [_, _], _ => rfl
  have H_first_unlike : FunG K mg "first_unlike" s_first_unlike ["one", "other"] := ⟨⟨_, _, F_first_unlike, PySem.W.mg_of X G a_first_unlike, b_first_unlike⟩⟩
  have F_Looker_all_in := fun_mk (st := s_Looker_all_in) l_Looker_all_in c_Looker_all_in k_Looker_all_in
  have b_Looker_all_in := F_Looker_all_in.binds (ps := ["self", "height", "number"]) fun _ _ _ _ _ _ us hl => match us, hl with | [_, _, _], _ => rfl
  have H_Looker_all_in : MetG K c.Looker "all_in" "Looker.all_in" s_Looker_all_in ["self", "height", "number"] := ⟨⟨_, _, F_Looker_all_in, ⟨a_Looker_all_in, i_Looker_all_in, k_Looker_all_in⟩, b_Looker_all_in⟩⟩
  have F_all_unlike := fun_mk (st := s_all_unlike) l_all_unlike c_all_unlike k_all_unlike
  have b_all_unlike := F_all_unlike.binds (ps := ["one", "other"]) fun _ _ _ _ _ _ us hl => match us, hl with | [_, _], _ => rfl
  have H_all_unlike : FunG K mg "all_unlike" s_all_unlike ["one", "other"] := ⟨⟨_, _, F_all_unlike, PySem.W.mg_of X G a_all_unlike, b_all_unlike⟩⟩
  have F_Book_sure := fun_mk (st := s_Book_sure) l_Book_sure c_Book_sure k_Book_sure
  have b_Book_sure := F_Book_sure.binds (ps := ["self", "place"]) fun _ _ _ _ _ _ us hl => match us, hl with | [_, _], _ => rfl
  have H_Book_sure : MetG K c.Book "sure" "Book.sure" s_Book_sure ["self", "place"] := ⟨⟨_, _, F_Book_sure, ⟨a_Book_sure, i_Book_sure, k_Book_sure⟩, b_Book_sure⟩⟩
  have F_Book_row := fun_mk (st := s_Book_row) l_Book_row c_Book_row k_Book_row
  have b_Book_row := F_Book_row.binds (ps := ["self", "place"]) fun _ _ _ _ _ _ us hl => match us, hl with | [_, _], _ => rfl
  have H_Book_row : MetG K c.Book "row" "Book.row" s_Book_row ["self", "place"] := ⟨⟨_, _, F_Book_row, ⟨a_Book_row, i_Book_row, k_Book_row⟩, b_Book_row⟩⟩
  have F_moves := fun_mk (st := s_moves) l_moves c_moves k_moves
  have b_moves := F_moves.binds (ps := ["one", "other"]) fun _ _ _ _ _ _ us hl => match us, hl with | [_, _], _ => rfl
  have H_moves : FunG K mg "moves" s_moves ["one", "other"] := ⟨⟨_, _, F_moves, PySem.W.mg_of X G a_moves, b_moves⟩⟩
  have F_law_looked := fun_mk (st := s_law_looked) l_law_looked c_law_looked k_law_looked
  have b_law_looked := F_law_looked.binds (ps := ["_law_way", "_law_one", "_law_other"]) fun _ _ _ _ _ _ us hl => match us, hl with | [_, _, _], _ => rfl
  have H_law_looked : FunG K mg "_law_looked" s_law_looked ["_law_way", "_law_one", "_law_other"] := ⟨⟨_, _, F_law_looked, PySem.W.mg_of X G a_law_looked, b_law_looked⟩⟩
  have F_law := fun_mk (st := s_law) l_law c_law k_law
  have b_law := F_law.binds (ps := ["_law_script"]) fun _ _ _ _ _ _ us hl => match us, hl with | [_], _ => rfl
  refine ⟨PySem.W.fnOf "law" "law" (defArgs s_law) (defBody s_law) (defScope s_law) .none kV_law dc_law pm_law an_law cd_law ct_law, fun s v => .of_eq rfl, fun base _ _ => ?_⟩
  have G_law_cell_at : FnG l.prog w K mg base 1 "_law_cell_at" ["_law_script", "_law_k"] (sp_law_cell_at K c) := ok_law_cell_at M T H_law_cell_at D
  have G_law_mix : FnG l.prog w K mg base 1 "_law_mix" ["_law_number", "_law_k"] (sp_law_mix K c) := ok_law_mix M T H_law_mix D
  have G_law_text : FnG l.prog w K mg base 2 "_law_text" ["_law_cell"] (sp_law_text K c) := ok_law_text M T H_law_text D G_law_mix
  have G_law_rows : FnG l.prog w K mg base 3 "_law_rows" ["_law_cell", "_law_more"] (sp_law_rows K c) := ok_law_rows M T H_law_rows D G_law_text G_law_mix
  have G_Ledger_many : MtG l.prog w K mg base 1 c.Ledger "many" ["self"] (sp_Ledger_many K c) := ok_Ledger_many M T H_Ledger_many D
  have G_Ledger_init : MkG l.prog w K mg base 1 c.Ledger "Ledger" ["self"] (sp_Ledger_init K c) := ok_Ledger_init M T H_Ledger_init D
  have G_is_row : FnG l.prog w K mg base 1 "is_row" ["thing"] (sp_is_row K c) := ok_is_row M T H_is_row D
  have G_sure_row : FnG l.prog w K mg base 2 "sure_row" ["thing"] (sp_sure_row K c) := ok_sure_row M T H_sure_row D X_NoRow G_is_row
  have G_Ledger_number_of : MtG l.prog w K mg base 1 c.Ledger "number_of" ["self", "thing"] (sp_Ledger_number_of K c) := ok_Ledger_number_of M T H_Ledger_number_of D
  have G_Ledger_of_row : MtG l.prog w K mg base 3 c.Ledger "of_row" ["self", "row"] (sp_Ledger_of_row K c) := ok_Ledger_of_row M T H_Ledger_of_row D G_sure_row G_Ledger_number_of
  have G_is_whole : FnG l.prog w K mg base 1 "is_whole" ["thing"] (sp_is_whole K c) := ok_is_whole M T H_is_whole D
  have G_Ledger_sure : MtG l.prog w K mg base 2 c.Ledger "sure" ["self", "number"] (sp_Ledger_sure K c) := ok_Ledger_sure M T H_Ledger_sure D X_NoSum G_is_whole
  have G_Ledger_of_pair : MtG l.prog w K mg base 3 c.Ledger "of_pair" ["self", "one", "other"] (sp_Ledger_of_pair K c) := ok_Ledger_of_pair M T H_Ledger_of_pair D G_Ledger_sure G_Ledger_number_of
  have G_Book_half_sums : MtG l.prog w K mg base 4 c.Book "half_sums" ["self", "height", "number"] (sp_Book_half_sums K c) := ok_Book_half_sums M T H_Book_half_sums D G_Ledger_of_pair
  have G_Book_grow : MtG l.prog w K mg base 5 c.Book "grow" ["self", "row"] (sp_Book_grow K c) := ok_Book_grow M T H_Book_grow D G_Ledger_of_row G_Book_half_sums
  have G_Book_init : MkG l.prog w K mg base 6 c.Book "Book" ["self", "ledger", "rows"] (sp_Book_init K c) := ok_Book_init M T H_Book_init D X_Full G_sure_row G_Book_grow
  have G_law_class : FnEG l.prog w K mg base 1 "_law_class" ["_law_e"] (sp_law_class K c) := ok_law_class M T H_law_class D X_Full X_NoRow X_Strange X_NoBlock X_NoPlace X_NoSum
  have G_law_book : FnG l.prog w K mg base 8 "_law_book" ["_law_ledger", "_law_rows_here"] (sp_law_book K c) := ok_law_book M T H_law_book D X_TwinError G_Book_init G_law_class
  have G_Book_add : MtG l.prog w K mg base 6 c.Book "add" ["self", "row"] (sp_Book_add K c) := ok_Book_add M T H_Book_add D X_Full G_sure_row G_Book_grow
  have G_law_added : FnG l.prog w K mg base 7 "_law_added" ["_law_book_here", "_law_row"] (sp_law_added K c) := ok_law_added M T H_law_added D X_TwinError G_Book_add G_law_class
  have G_Book_count : MtG l.prog w K mg base 1 c.Book "count" ["self"] (sp_Book_count K c) := ok_Book_count M T H_Book_count D
  have G_size_of : FnG l.prog w K mg base 1 "size_of" ["height"] (sp_size_of K c) := ok_size_of M T H_size_of D
  have G_Book_cut : MtG l.prog w K mg base 2 c.Book "cut" ["self"] (sp_Book_cut K c) := ok_Book_cut M T H_Book_cut D X_NoPlace G_size_of
  have G_law_long : FnG l.prog w K mg base 9 "_law_long" ["_law_script", "_law_cell"] (sp_law_long K c) := ok_law_long M T H_law_long D G_Ledger_init G_Book_init G_Ledger_many G_law_mix G_law_book G_law_added G_Book_count G_Book_cut
  have G_Book_rows : MtG l.prog w K mg base 1 c.Book "rows" ["self"] (sp_Book_rows K c) := ok_Book_rows M T H_Book_rows D
  have G_Looker_init : MkG l.prog w K mg base 1 c.Looker "Looker" ["self", "one", "other"] (sp_Looker_init K c) := ok_Looker_init M T H_Looker_init D X_Strange
  have G_digits : FnG l.prog w K mg base 1 "digits" ["count"] (sp_digits K c) := ok_digits M T H_digits D
  have G_parted : FnG l.prog w K mg base 2 "parted" ["count"] (sp_parted K c) := ok_parted M T H_parted D G_size_of G_digits
  have G_Looker_lesser : MtG l.prog w K mg base 2 c.Looker "lesser" ["self"] (sp_Looker_lesser K c) := ok_Looker_lesser M T H_Looker_lesser D G_Book_count
  have G_Book_has_block : MtG l.prog w K mg base 2 c.Book "has_block" ["self", "height", "number"] (sp_Book_has_block K c) := ok_Book_has_block M T H_Book_has_block D G_is_whole
  have G_Book_sum_of : MtG l.prog w K mg base 3 c.Book "sum_of" ["self", "height", "number"] (sp_Book_sum_of K c) := ok_Book_sum_of M T H_Book_sum_of D X_NoBlock G_Book_has_block
  have G_Looker_are_alike : MtG l.prog w K mg base 4 c.Looker "are_alike" ["self", "height", "number"] (sp_Looker_are_alike K c) := ok_Looker_are_alike M T H_Looker_are_alike D G_Book_sum_of
  have G_Looker_first_in : MtG l.prog w K mg base 5 c.Looker "first_in" ["self", "height", "number"] (sp_Looker_first_in K c) := ok_Looker_first_in M T H_Looker_first_in D G_Looker_are_alike
  have G_first_unlike : FnG l.prog w K mg base 6 "first_unlike" ["one", "other"] (sp_first_unlike K c) := ok_first_unlike M T H_first_unlike D G_Looker_init G_parted G_Looker_lesser G_Book_count G_Looker_are_alike G_Looker_first_in
  have G_Looker_all_in : MtG l.prog w K mg base 25 c.Looker "all_in" ["self", "height", "number"] (sp_Looker_all_in 20 K c) := ok_Looker_all_in M T H_Looker_all_in D G_Looker_are_alike
  have G_all_unlike : FnG l.prog w K mg base 26 "all_unlike" ["one", "other"] (sp_all_unlike K c) := ok_all_unlike M T H_all_unlike D G_Looker_init G_parted G_Looker_lesser G_Looker_are_alike G_Looker_all_in
  have G_Book_sure : MtG l.prog w K mg base 2 c.Book "sure" ["self", "place"] (sp_Book_sure K c) := ok_Book_sure M T H_Book_sure D X_NoPlace G_is_whole
  have G_Book_row : MtG l.prog w K mg base 3 c.Book "row" ["self", "place"] (sp_Book_row K c) := ok_Book_row M T H_Book_row D G_Book_sure
  have G_moves : FnG l.prog w K mg base 27 "moves" ["one", "other"] (sp_moves K c) := ok_moves M T H_moves D G_Book_count G_Book_row G_all_unlike
  have G_law_looked : FnG l.prog w K mg base 28 "_law_looked" ["_law_way", "_law_one", "_law_other"] (sp_law_looked K c) := ok_law_looked M T H_law_looked D X_TwinError G_first_unlike G_law_class G_all_unlike G_moves
  have G_law := ok_law (P := l.prog) (w := w) (base := base) M T F_law D G_law_cell_at G_law_rows G_Ledger_many G_law_long G_Ledger_init G_Book_init G_law_book G_Book_rows G_law_looked
  exact G_law
theorem walk {l : PySem.W.OpenLaw} {q : Program} {loose : List Str} {XP : (Str → Option Value) → Heap → Prop} {YP : World → Heap → Prop} {d : DefRec} {K : Params → PySem.W.Frag} (hn : l.most = some 63) (hdf : d.params.defaults = [])
    (hY : ∀ (w : World) (h : Heap), YP w h → (K w.params).In h)
    (F : ∀ (w : World) (mg : Str → Option Value) (fa : Addr) (h : Heap), (K w.params).In h → h.Ns mainGlobals mg → mg d.name = some (.ref fa) →
      ∃ fd : FuncData, (∀ (s : Shared) (u : Value), BindsTo s fd ⟨[u], []⟩ [("_law_script", u)]) ∧ ∀ base : Heap, (K w.params).In base → base.Ns mainGlobals mg → FnOk l.prog w (K w.params) mg base (L2N.CX l.prog w) 29 fa fd ["_law_script"] (sp_law (K w.params) Cs.none)) :
    PySem.W.WalkO q loose XP YP l.row.toRowW d [] (fun f vs => PySem.call f vs) :=
  L2.walk_of (n := 63) (k := 29) (x := "_law_script") (CX := fun w => L2N.CX l.prog w) (sp := fun w => sp_law (K w.params) Cs.none) hn (by decide) hdf ⟨rfl, by decide, by decide⟩ hY F (fun _ _ a ns hl _ hS => ⟨a, ns, rfl, hS, hl, fun _ => rfl⟩)
    fun _ _ _ _ _ h => by
      obtain ⟨_, _, _, _, _, _, _, _, _, _, _, _, z⟩ := h
      exact z.elim
end Tw
open PySem PySem.W PyProof.Rows
set_option maxRecDepth 100000 in
set_option maxHeartbeats 0 in
theorem PySem.Challenge.cw_twinsum_k11_refused_holds : PySem.Challenge.rw_twinsum_k11_refused.Holds := by
  w_on; o_law; k_head; (case hw => w_witness2)
  k_fill
  refine Tw.walk (l := PySem.Challenge.rw_twinsum_k11_refused) rfl rfl (fun w h Y => PySem.W.kIn_of Y) ?F
  case F =>
    intro w mg fa h KX G hmg
    refine' Tw.all_mk KX G hmg ?a_Ledger ?pg_Ledger ?hd_Ledger ?po_Ledger ?sa_Ledger ?mk_Ledger ?kc_Ledger ?nf_Ledger_given ?nf_Ledger_things ?a_Book ?pg_Book ?hd_Book ?po_Book ?sa_Book ?mk_Book ?kc_Book ?nf_Book_ledger ?nf_Book_lines ?nf_Book_levels ?a_Looker ?pg_Looker ?hd_Looker ?po_Looker ?sa_Looker ?mk_Looker ?kc_Looker ?nf_Looker_one ?nf_Looker_other ?nf_Looker_looks ?a_NoRow ?xP_NoRow ?kP_NoRow ?bP_NoRow ?tP_NoRow ?a_NoSum ?xP_NoSum ?kP_NoSum ?bP_NoSum ?tP_NoSum ?a_Full ?xP_Full ?kP_Full ?bP_Full ?tP_Full ?a_Strange ?xP_Strange ?kP_Strange ?bP_Strange ?tP_Strange ?a_NoBlock ?xP_NoBlock ?kP_NoBlock ?bP_NoBlock ?tP_NoBlock ?a_NoPlace ?xP_NoPlace ?kP_NoPlace ?bP_NoPlace ?tP_NoPlace ?a_TwinError ?xP_TwinError ?kP_TwinError ?bP_TwinError ?tP_TwinError ?pm_Ledger ?pe_Ledger ?pn_Ledger ?m_NoRow_TwinError ?m_NoSum_TwinError ?m_Full_TwinError ?m_NoPlace_TwinError ?m_NoBlock_TwinError ?m_Strange_TwinError ?hd_TwinError ?hd_NoRow ?hd_NoSum ?hd_Full ?hd_NoPlace ?hd_NoBlock ?hd_Strange ?ga_NoRow ?gt_NoRow ?cl_NoRow ?mo_NoRow ?ve_NoRow ?s_NoRow_NoRow ?s_NoRow_Full ?s_NoRow_Strange ?s_NoRow_NoBlock ?s_NoRow_NoPlace ?s_NoRow_NoSum ?ga_NoSum ?gt_NoSum ?cl_NoSum ?mo_NoSum ?ve_NoSum ?s_NoSum_NoSum ?s_NoSum_Full ?s_NoSum_NoRow ?s_NoSum_Strange ?s_NoSum_NoBlock ?s_NoSum_NoPlace ?ga_Full ?gt_Full ?cl_Full ?mo_Full ?ve_Full ?s_Full_Full ?s_Full_NoRow ?s_Full_Strange ?s_Full_NoBlock ?s_Full_NoPlace ?s_Full_NoSum ?ga_NoPlace ?gt_NoPlace ?cl_NoPlace ?mo_NoPlace ?ve_NoPlace ?s_NoPlace_NoPlace ?s_NoPlace_Full ?s_NoPlace_NoRow ?s_NoPlace_Strange ?s_NoPlace_NoBlock ?s_NoPlace_NoSum ?ga_NoBlock ?gt_NoBlock ?cl_NoBlock ?mo_NoBlock ?ve_NoBlock ?s_NoBlock_NoBlock ?s_NoBlock_Full ?s_NoBlock_NoRow ?s_NoBlock_Strange ?s_NoBlock_NoPlace ?s_NoBlock_NoSum ?ga_Strange ?gt_Strange ?cl_Strange ?mo_Strange ?ve_Strange ?s_Strange_Strange ?s_Strange_Full ?s_Strange_NoRow ?s_Strange_NoBlock ?s_Strange_NoPlace ?s_Strange_NoSum ?sp_cls ?tk_cls ?a_law_cell_at ?l_law_cell_at ?c_law_cell_at ?k_law_cell_at ?a_law_mix ?l_law_mix ?c_law_mix ?k_law_mix ?a_law_text ?l_law_text ?c_law_text ?k_law_text ?a_law_rows ?l_law_rows ?c_law_rows ?k_law_rows ?a_Ledger_many ?i_Ledger_many ?l_Ledger_many ?c_Ledger_many ?k_Ledger_many ?a_Ledger_init ?i_Ledger_init ?l_Ledger_init ?c_Ledger_init ?k_Ledger_init ?a_is_row ?l_is_row ?c_is_row ?k_is_row ?a_sure_row ?l_sure_row ?c_sure_row ?k_sure_row ?a_Ledger_number_of ?i_Ledger_number_of ?l_Ledger_number_of ?c_Ledger_number_of ?k_Ledger_number_of ?a_Ledger_of_row ?i_Ledger_of_row ?l_Ledger_of_row ?c_Ledger_of_row ?k_Ledger_of_row ?a_is_whole ?l_is_whole ?c_is_whole ?k_is_whole ?a_Ledger_sure ?i_Ledger_sure ?l_Ledger_sure ?c_Ledger_sure ?k_Ledger_sure ?a_Ledger_of_pair ?i_Ledger_of_pair ?l_Ledger_of_pair ?c_Ledger_of_pair ?k_Ledger_of_pair ?a_Book_half_sums ?i_Book_half_sums ?l_Book_half_sums ?c_Book_half_sums ?k_Book_half_sums ?a_Book_grow ?i_Book_grow ?l_Book_grow ?c_Book_grow ?k_Book_grow ?a_Book_init ?i_Book_init ?l_Book_init ?c_Book_init ?k_Book_init ?a_law_class ?l_law_class ?c_law_class ?k_law_class ?a_law_book ?l_law_book ?c_law_book ?k_law_book ?a_Book_add ?i_Book_add ?l_Book_add ?c_Book_add ?k_Book_add ?a_law_added ?l_law_added ?c_law_added ?k_law_added ?a_Book_count ?i_Book_count ?l_Book_count ?c_Book_count ?k_Book_count ?a_size_of ?l_size_of ?c_size_of ?k_size_of ?a_Book_cut ?i_Book_cut ?l_Book_cut ?c_Book_cut ?k_Book_cut ?a_law_long ?l_law_long ?c_law_long ?k_law_long ?a_Book_rows ?i_Book_rows ?l_Book_rows ?c_Book_rows ?k_Book_rows ?a_Looker_init ?i_Looker_init ?l_Looker_init ?c_Looker_init ?k_Looker_init ?a_digits ?l_digits ?c_digits ?k_digits ?a_parted ?l_parted ?c_parted ?k_parted ?a_Looker_lesser ?i_Looker_lesser ?l_Looker_lesser ?c_Looker_lesser ?k_Looker_lesser ?a_Book_has_block ?i_Book_has_block ?l_Book_has_block ?c_Book_has_block ?k_Book_has_block ?a_Book_sum_of ?i_Book_sum_of ?l_Book_sum_of ?c_Book_sum_of ?k_Book_sum_of ?a_Looker_are_alike ?i_Looker_are_alike ?l_Looker_are_alike ?c_Looker_are_alike ?k_Looker_are_alike ?a_Looker_first_in ?i_Looker_first_in ?l_Looker_first_in ?c_Looker_first_in ?k_Looker_first_in ?a_first_unlike ?l_first_unlike ?c_first_unlike ?k_first_unlike ?a_Looker_all_in ?i_Looker_all_in ?l_Looker_all_in ?c_Looker_all_in ?k_Looker_all_in ?a_all_unlike ?l_all_unlike ?c_all_unlike ?k_all_unlike ?a_Book_sure ?i_Book_sure ?l_Book_sure ?c_Book_sure ?k_Book_sure ?a_Book_row ?i_Book_row ?l_Book_row ?c_Book_row ?k_Book_row ?a_moves ?l_moves ?c_moves ?k_moves ?a_law_looked ?l_law_looked ?c_law_looked ?k_law_looked ?a_law ?l_law ?c_law ?k_law ?z_ValueError ?z_bool ?z_int ?z_isinstance ?z_len ?z_list ?z_min ?z_range ?z_str ?z_MOST_ROWS ?z_MOST_SIGNS ?z_SIGNS
    (case a_Ledger => k_is)
    (case pg_Ledger => k_is)
    (case hd_Ledger => k_is)
    (case po_Ledger => k_is)
    (case sa_Ledger => k_is)
    (case mk_Ledger => k_is)
    (case kc_Ledger => k_is)
    (case nf_Ledger_given => k_is)
    (case nf_Ledger_things => k_is)
    (case a_Book => k_is)
    (case pg_Book => k_is)
    (case hd_Book => k_is)
    (case po_Book => k_is)
    (case sa_Book => k_is)
    (case mk_Book => k_is)
    (case kc_Book => k_is)
    (case nf_Book_ledger => k_is)
    (case nf_Book_lines => k_is)
    (case nf_Book_levels => k_is)
    (case a_Looker => k_is)
    (case pg_Looker => k_is)
    (case hd_Looker => k_is)
    (case po_Looker => k_is)
    (case sa_Looker => k_is)
    (case mk_Looker => k_is)
    (case kc_Looker => k_is)
    (case nf_Looker_one => k_is)
    (case nf_Looker_other => k_is)
    (case nf_Looker_looks => k_is)
    (case a_NoRow => k_is)
    (case xP_NoRow => k_exc)
    (case kP_NoRow => k_is)
    (case bP_NoRow => k_is)
    (case tP_NoRow => k_is)
    (case a_NoSum => k_is)
    (case xP_NoSum => k_exc)
    (case kP_NoSum => k_is)
    (case bP_NoSum => k_is)
    (case tP_NoSum => k_is)
    (case a_Full => k_is)
    (case xP_Full => k_exc)
    (case kP_Full => k_is)
    (case bP_Full => k_is)
    (case tP_Full => k_is)
    (case a_Strange => k_is)
    (case xP_Strange => k_exc)
    (case kP_Strange => k_is)
    (case bP_Strange => k_is)
    (case tP_Strange => k_is)
    (case a_NoBlock => k_is)
    (case xP_NoBlock => k_exc)
    (case kP_NoBlock => k_is)
    (case bP_NoBlock => k_is)
    (case tP_NoBlock => k_is)
    (case a_NoPlace => k_is)
    (case xP_NoPlace => k_exc)
    (case kP_NoPlace => k_is)
    (case bP_NoPlace => k_is)
    (case tP_NoPlace => k_is)
    (case a_TwinError => k_is)
    (case xP_TwinError => k_exc)
    (case kP_TwinError => k_is)
    (case bP_TwinError => k_is)
    (case tP_TwinError => k_is)
    (case pm_Ledger => k_is)
    (case pe_Ledger => k_is)
    (case pn_Ledger => k_is)
    (case m_NoRow_TwinError => k_is)
    (case m_NoSum_TwinError => k_is)
    (case m_Full_TwinError => k_is)
    (case m_NoPlace_TwinError => k_is)
    (case m_NoBlock_TwinError => k_is)
    (case m_Strange_TwinError => k_is)
    (case hd_TwinError => k_is)
    (case hd_NoRow => k_is)
    (case hd_NoSum => k_is)
    (case hd_Full => k_is)
    (case hd_NoPlace => k_is)
    (case hd_NoBlock => k_is)
    (case hd_Strange => k_is)
    (case ga_NoRow => k_is)
    (case gt_NoRow => k_is)
    (case cl_NoRow => k_is)
    (case mo_NoRow => k_is)
    (case ve_NoRow => k_is)
    (case s_NoRow_NoRow => k_is)
    (case s_NoRow_Full => k_is)
    (case s_NoRow_Strange => k_is)
    (case s_NoRow_NoBlock => k_is)
    (case s_NoRow_NoPlace => k_is)
    (case s_NoRow_NoSum => k_is)
    (case ga_NoSum => k_is)
    (case gt_NoSum => k_is)
    (case cl_NoSum => k_is)
    (case mo_NoSum => k_is)
    (case ve_NoSum => k_is)
    (case s_NoSum_NoSum => k_is)
    (case s_NoSum_Full => k_is)
    (case s_NoSum_NoRow => k_is)
    (case s_NoSum_Strange => k_is)
    (case s_NoSum_NoBlock => k_is)
    (case s_NoSum_NoPlace => k_is)
    (case ga_Full => k_is)
    (case gt_Full => k_is)
    (case cl_Full => k_is)
    (case mo_Full => k_is)
    (case ve_Full => k_is)
    (case s_Full_Full => k_is)
    (case s_Full_NoRow => k_is)
    (case s_Full_Strange => k_is)
    (case s_Full_NoBlock => k_is)
    (case s_Full_NoPlace => k_is)
    (case s_Full_NoSum => k_is)
    (case ga_NoPlace => k_is)
    (case gt_NoPlace => k_is)
    (case cl_NoPlace => k_is)
    (case mo_NoPlace => k_is)
    (case ve_NoPlace => k_is)
    (case s_NoPlace_NoPlace => k_is)
    (case s_NoPlace_Full => k_is)
    (case s_NoPlace_NoRow => k_is)
    (case s_NoPlace_Strange => k_is)
    (case s_NoPlace_NoBlock => k_is)
    (case s_NoPlace_NoSum => k_is)
    (case ga_NoBlock => k_is)
    (case gt_NoBlock => k_is)
    (case cl_NoBlock => k_is)
    (case mo_NoBlock => k_is)
    (case ve_NoBlock => k_is)
    (case s_NoBlock_NoBlock => k_is)
    (case s_NoBlock_Full => k_is)
    (case s_NoBlock_NoRow => k_is)
    (case s_NoBlock_Strange => k_is)
    (case s_NoBlock_NoPlace => k_is)
    (case s_NoBlock_NoSum => k_is)
    (case ga_Strange => k_is)
    (case gt_Strange => k_is)
    (case cl_Strange => k_is)
    (case mo_Strange => k_is)
    (case ve_Strange => k_is)
    (case s_Strange_Strange => k_is)
    (case s_Strange_Full => k_is)
    (case s_Strange_NoRow => k_is)
    (case s_Strange_NoBlock => k_is)
    (case s_Strange_NoPlace => k_is)
    (case s_Strange_NoSum => k_is)
    (case sp_cls => k_is)
    (case tk_cls => k_is)
    (case a_law_cell_at => k_is)
    (case l_law_cell_at => k_is)
    (case c_law_cell_at => k_is)
    (case k_law_cell_at => k_is)
    (case a_law_mix => k_is)
    (case l_law_mix => k_is)
    (case c_law_mix => k_is)
    (case k_law_mix => k_is)
    (case a_law_text => k_is)
    (case l_law_text => k_is)
    (case c_law_text => k_is)
    (case k_law_text => k_is)
    (case a_law_rows => k_is)
    (case l_law_rows => k_is)
    (case c_law_rows => k_is)
    (case k_law_rows => k_is)
    (case a_Ledger_many => k_is)
    (case i_Ledger_many => k_is)
    (case l_Ledger_many => k_is)
    (case c_Ledger_many => k_is)
    (case k_Ledger_many => k_is)
    (case a_Ledger_init => k_is)
    (case i_Ledger_init => k_is)
    (case l_Ledger_init => k_is)
    (case c_Ledger_init => k_is)
    (case k_Ledger_init => k_is)
    (case a_is_row => k_is)
    (case l_is_row => k_is)
    (case c_is_row => k_is)
    (case k_is_row => k_is)
    (case a_sure_row => k_is)
    (case l_sure_row => k_is)
    (case c_sure_row => k_is)
    (case k_sure_row => k_is)
    (case a_Ledger_number_of => k_is)
    (case i_Ledger_number_of => k_is)
    (case l_Ledger_number_of => k_is)
    (case c_Ledger_number_of => k_is)
    (case k_Ledger_number_of => k_is)
    (case a_Ledger_of_row => k_is)
    (case i_Ledger_of_row => k_is)
    (case l_Ledger_of_row => k_is)
    (case c_Ledger_of_row => k_is)
    (case k_Ledger_of_row => k_is)
    (case a_is_whole => k_is)
    (case l_is_whole => k_is)
    (case c_is_whole => k_is)
    (case k_is_whole => k_is)
    (case a_Ledger_sure => k_is)
    (case i_Ledger_sure => k_is)
    (case l_Ledger_sure => k_is)
    (case c_Ledger_sure => k_is)
    (case k_Ledger_sure => k_is)
    (case a_Ledger_of_pair => k_is)
    (case i_Ledger_of_pair => k_is)
    (case l_Ledger_of_pair => k_is)
    (case c_Ledger_of_pair => k_is)
    (case k_Ledger_of_pair => k_is)
    (case a_Book_half_sums => k_is)
    (case i_Book_half_sums => k_is)
    (case l_Book_half_sums => k_is)
    (case c_Book_half_sums => k_is)
    (case k_Book_half_sums => k_is)
    (case a_Book_grow => k_is)
    (case i_Book_grow => k_is)
    (case l_Book_grow => k_is)
    (case c_Book_grow => k_is)
    (case k_Book_grow => k_is)
    (case a_Book_init => k_is)
    (case i_Book_init => k_is)
    (case l_Book_init => k_is)
    (case c_Book_init => k_is)
    (case k_Book_init => k_is)
    (case a_law_class => k_is)
    (case l_law_class => k_is)
    (case c_law_class => k_is)
    (case k_law_class => k_is)
    (case a_law_book => k_is)
    (case l_law_book => k_is)
    (case c_law_book => k_is)
    (case k_law_book => k_is)
    (case a_Book_add => k_is)
    (case i_Book_add => k_is)
    (case l_Book_add => k_is)
    (case c_Book_add => k_is)
    (case k_Book_add => k_is)
    (case a_law_added => k_is)
    (case l_law_added => k_is)
    (case c_law_added => k_is)
    (case k_law_added => k_is)
    (case a_Book_count => k_is)
    (case i_Book_count => k_is)
    (case l_Book_count => k_is)
    (case c_Book_count => k_is)
    (case k_Book_count => k_is)
    (case a_size_of => k_is)
    (case l_size_of => k_is)
    (case c_size_of => k_is)
    (case k_size_of => k_is)
    (case a_Book_cut => k_is)
    (case i_Book_cut => k_is)
    (case l_Book_cut => k_is)
    (case c_Book_cut => k_is)
    (case k_Book_cut => k_is)
    (case a_law_long => k_is)
    (case l_law_long => k_is)
    (case c_law_long => k_is)
    (case k_law_long => k_is)
    (case a_Book_rows => k_is)
    (case i_Book_rows => k_is)
    (case l_Book_rows => k_is)
    (case c_Book_rows => k_is)
    (case k_Book_rows => k_is)
    (case a_Looker_init => k_is)
    (case i_Looker_init => k_is)
    (case l_Looker_init => k_is)
    (case c_Looker_init => k_is)
    (case k_Looker_init => k_is)
    (case a_digits => k_is)
    (case l_digits => k_is)
    (case c_digits => k_is)
    (case k_digits => k_is)
    (case a_parted => k_is)
    (case l_parted => k_is)
    (case c_parted => k_is)
    (case k_parted => k_is)
    (case a_Looker_lesser => k_is)
    (case i_Looker_lesser => k_is)
    (case l_Looker_lesser => k_is)
    (case c_Looker_lesser => k_is)
    (case k_Looker_lesser => k_is)
    (case a_Book_has_block => k_is)
    (case i_Book_has_block => k_is)
    (case l_Book_has_block => k_is)
    (case c_Book_has_block => k_is)
    (case k_Book_has_block => k_is)
    (case a_Book_sum_of => k_is)
    (case i_Book_sum_of => k_is)
    (case l_Book_sum_of => k_is)
    (case c_Book_sum_of => k_is)
    (case k_Book_sum_of => k_is)
    (case a_Looker_are_alike => k_is)
    (case i_Looker_are_alike => k_is)
    (case l_Looker_are_alike => k_is)
    (case c_Looker_are_alike => k_is)
    (case k_Looker_are_alike => k_is)
    (case a_Looker_first_in => k_is)
    (case i_Looker_first_in => k_is)
    (case l_Looker_first_in => k_is)
    (case c_Looker_first_in => k_is)
    (case k_Looker_first_in => k_is)
    (case a_first_unlike => k_is)
    (case l_first_unlike => k_is)
    (case c_first_unlike => k_is)
    (case k_first_unlike => k_is)
    (case a_Looker_all_in => k_is)
    (case i_Looker_all_in => k_is)
    (case l_Looker_all_in => k_is)
    (case c_Looker_all_in => k_is)
    (case k_Looker_all_in => k_is)
    (case a_all_unlike => k_is)
    (case l_all_unlike => k_is)
    (case c_all_unlike => k_is)
    (case k_all_unlike => k_is)
    (case a_Book_sure => k_is)
    (case i_Book_sure => k_is)
    (case l_Book_sure => k_is)
    (case c_Book_sure => k_is)
    (case k_Book_sure => k_is)
    (case a_Book_row => k_is)
    (case i_Book_row => k_is)
    (case l_Book_row => k_is)
    (case c_Book_row => k_is)
    (case k_Book_row => k_is)
    (case a_moves => k_is)
    (case l_moves => k_is)
    (case c_moves => k_is)
    (case k_moves => k_is)
    (case a_law_looked => k_is)
    (case l_law_looked => k_is)
    (case c_law_looked => k_is)
    (case k_law_looked => k_is)
    (case a_law => k_is)
    (case l_law => k_is)
    (case c_law => k_is)
    (case k_law => k_is)
    (case z_ValueError => k_is)
    (case z_bool => k_is)
    (case z_int => k_is)
    (case z_isinstance => k_is)
    (case z_len => k_is)
    (case z_list => k_is)
    (case z_min => k_is)
    (case z_range => k_is)
    (case z_str => k_is)
    (case z_MOST_ROWS => k_is)
    (case z_MOST_SIGNS => k_is)
    (case z_SIGNS => k_is)
#print axioms PySem.Challenge.cw_twinsum_k11_refused_holds

