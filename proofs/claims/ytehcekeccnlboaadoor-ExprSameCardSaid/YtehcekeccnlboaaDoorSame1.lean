/- ExprSame: the proof. Here: DSameLaw, DInj, DInj2, DPlain, DGoSame, DRowSame -/
import Derived.Test.YtehcekeccnlboaaDoorSame0
import Derived.SevenTiedAt
import Derived.LaidMore

section
set_option linter.unusedSimpArgs false
set_option linter.unusedVariables false
set_option linter.unusedSectionVars false
/- ExprSame: the walk. -/
set_option maxRecDepth 100000
set_option linter.unusedSimpArgs false
set_option linter.unusedVariables false
namespace Go.Pm
open Go.Proofs Go.Proofs.YtehcekeccnlboaaDoor

def alikeAt (a b : List It) (i : Nat) : Bool := match a[i]?, b[i]? with
  | some x, some y => alikeB x y
  | _, _ => false
def loopB (a b : List It) : Nat → Nat → Bool → Bool
  | 0, _, s => s
  | n + 1, i, s => if s then loopB a b n (i + 1) (alikeAt a b i) else s

section
variable {call : CallA} {G : Globals} {fuel : Nat}

theorem loop_same (a b : List It) (vx vy : AV) (px : vx.pure = true) (py : vy.pure = true) (h13 : ∀ x y σ, callC call 13 [x.av, y.av] σ = some (.ret (.bool (alikeB x y)), σ)) (m : Nat) (hm : m ≤ 60) (ha : m ≤ a.length) :
    ∀ (n i : Nat) (s : Bool), i + n = m → (s = true → m ≤ b.length) → ∀ f, n < f → ∃ j : Int,
      iterA (evalCode call (drawA call G) G fuel i3_L0 none) [0, 1, 5, 9, 11, 13, 14] f [(0, rowA a), (1, rowA b), (5, .int .i64 m), (9, vx), (11, vy), (13, .bool s), (14, .int .i64 i)] [] =
        some (.exit 0, [(0, rowA a), (1, rowA b), (5, .int .i64 m), (9, vx), (11, vy), (13, .bool (loopB a b n i s)), (14, .int .i64 j), (59, .bool false)], [])
  | 0, i, s, hi, hb, 0, hf => by omega
  | 0, i, s, hi, hb, f + 1, hf => by
    have e1 : ((i : Int) < (m : Int)) = False := by simp only [eq_iff_iff, iff_false]; omega
    refine ⟨i, ?_⟩
    rw [iterX_succ]
    simp only [evalFn, params, List.length_cons, List.length_nil, Nat.reduceAdd, evalCode, evalOps, guardOk, evalOp, AX.ev, look, putE, val, evs, optEv, binA, intBin, wrapI, unA, callM, keepE_cons, keepE_nil, Nat.reduceEqDiff, if_true, if_false, reduceIte, Int.toNat_natCast, List.append_nil, List.nil_append, List.cons_append, decide_true, decide_false, bft, btf, btt, bff, Bool.false_eq_true, resultsA, oneOrTup, Option.map_some, Option.map_none, Bool.not_true, Bool.not_false, loadAt, storeAt, storeOf, partOf, List.getElem?_cons_zero, List.getElem?_cons_succ, List.set_cons_zero, List.set_cons_succ, AV.cells, AV.isCell, List.all_cons, List.all_nil, Bool.and_true, Bool.and_false, Bool.false_and, Bool.true_and, Bool.and_self, and_true, true_and, and_self, putAt, hasLabel, Bool.or_false, Bool.false_or, Bool.or_true, Bool.true_or, fillA, pickParts, pickSl, strBin, eqA, eqCell, ne_eq, not_true_eq_false, not_false_eq_true, Nat.reduceLeDiff, Nat.reduceLT, Nat.reduceMul, Nat.reduceSub, Nat.zero_add, Nat.add_zero, Option.bind_some, asNat, bounds2, reduceCtorEq, List.take_succ_cons, List.take_zero, List.drop_succ_cons, List.drop_zero, Nat.reduceBEq, List.take_nil, List.drop_nil, Int.reduceLE, Int.reduceLT, Int.reduceToNat, Int.toNat_zero, Int.reduceBEq, Int.le_refl, Nat.le_refl, b2s, srcRow, binA, beq_self_eq_true, bne_self_eq_false, minI, maxI, foldI, Bool.not_not, Int.lt_irrefl, gt_iff_lt, ge_iff_le, List.length_map, AV.undef, i3_L0, e1, loopB]
  | n + 1, i, s, hi, hb, 0, hf => by omega
  | n + 1, i, s, hi, hb, f + 1, hf => by
    have e1 : ((i : Int) < (m : Int)) = True := by simp only [eq_iff_iff, iff_true]; omega
    cases s with
    | false =>
      refine ⟨i, ?_⟩
      rw [iterX_succ]
      simp only [evalFn, params, List.length_cons, List.length_nil, Nat.reduceAdd, evalCode, evalOps, guardOk, evalOp, AX.ev, look, putE, val, evs, optEv, binA, intBin, wrapI, unA, callM, keepE_cons, keepE_nil, Nat.reduceEqDiff, if_true, if_false, reduceIte, Int.toNat_natCast, List.append_nil, List.nil_append, List.cons_append, decide_true, decide_false, bft, btf, btt, bff, Bool.false_eq_true, resultsA, oneOrTup, Option.map_some, Option.map_none, Bool.not_true, Bool.not_false, loadAt, storeAt, storeOf, partOf, List.getElem?_cons_zero, List.getElem?_cons_succ, List.set_cons_zero, List.set_cons_succ, AV.cells, AV.isCell, List.all_cons, List.all_nil, Bool.and_true, Bool.and_false, Bool.false_and, Bool.true_and, Bool.and_self, and_true, true_and, and_self, putAt, hasLabel, Bool.or_false, Bool.false_or, Bool.or_true, Bool.true_or, fillA, pickParts, pickSl, strBin, eqA, eqCell, ne_eq, not_true_eq_false, not_false_eq_true, Nat.reduceLeDiff, Nat.reduceLT, Nat.reduceMul, Nat.reduceSub, Nat.zero_add, Nat.add_zero, Option.bind_some, asNat, bounds2, reduceCtorEq, List.take_succ_cons, List.take_zero, List.drop_succ_cons, List.drop_zero, Nat.reduceBEq, List.take_nil, List.drop_nil, Int.reduceLE, Int.reduceLT, Int.reduceToNat, Int.toNat_zero, Int.reduceBEq, Int.le_refl, Nat.le_refl, b2s, srcRow, binA, beq_self_eq_true, bne_self_eq_false, minI, maxI, foldI, Bool.not_not, Int.lt_irrefl, gt_iff_lt, ge_iff_le, List.length_map, AV.undef, i3_L0, e1, loopB]
    | true =>
      have hbl := hb rfl
      obtain ⟨x, hx⟩ : ∃ x, a[i]? = some x := ⟨a[i]'(by omega), List.getElem?_eq_getElem (by omega)⟩
      obtain ⟨y, hy⟩ : ∃ y, b[i]? = some y := ⟨b[i]'(by omega), List.getElem?_eq_getElem (by omega)⟩
      have hA : (a.map It.av)[i]? = some x.av := by rw [List.getElem?_map, hx]; rfl
      have hB : (b.map It.av)[i]? = some y.av := by rw [List.getElem?_map, hy]; rfl
      have e0 : (0 ≤ (i : Int)) = True := by simp
      have e2 : ((i : Int) < (a.length : Int)) = True := by simp only [eq_iff_iff, iff_true]; omega
      have e3 : ((i : Int) < (b.length : Int)) = True := by simp only [eq_iff_iff, iff_true]; omega
      have w1 : IntKind.i64.wrap ((i : Int) + 1) = ((i + 1 : Nat) : Int) := by rw [wrap_i64] <;> omega
      have hc := h13 x y
      have es : alikeAt a b i = alikeB x y := by unfold alikeAt; rw [hx, hy]
      obtain ⟨j, hj⟩ := loop_same a b vx vy px py h13 m hm ha n (i + 1) (alikeAt a b i) (by omega) (fun _ => hbl) f (by omega)
      refine ⟨j, ?_⟩
      rw [iterX_succ]
      have el : loopB a b (n + 1) i true = loopB a b n (i + 1) (alikeAt a b i) := by simp [loopB]
      rw [el, ← hj, es]
      obtain ⟨k, o, q, t, ii, xx⟩ := x
      obtain ⟨k', o', q', t', i', x'⟩ := y
      simp only [It.av] at hA hB hc
      have pa := row_pure a
      have pb := row_pure b
      simp only [evalFn, params, List.length_cons, List.length_nil, Nat.reduceAdd, evalCode, evalOps, guardOk, evalOp, AX.ev, look, putE, val, evs, optEv, binA, intBin, wrapI, unA, callM, keepE_cons, keepE_nil, Nat.reduceEqDiff, if_true, if_false, reduceIte, Int.toNat_natCast, List.append_nil, List.nil_append, List.cons_append, decide_true, decide_false, bft, btf, btt, bff, Bool.false_eq_true, resultsA, oneOrTup, Option.map_some, Option.map_none, Bool.not_true, Bool.not_false, loadAt, storeAt, storeOf, partOf, List.getElem?_cons_zero, List.getElem?_cons_succ, List.set_cons_zero, List.set_cons_succ, AV.cells, AV.isCell, List.all_cons, List.all_nil, Bool.and_true, Bool.and_false, Bool.false_and, Bool.true_and, Bool.and_self, and_true, true_and, and_self, putAt, hasLabel, Bool.or_false, Bool.false_or, Bool.or_true, Bool.true_or, fillA, pickParts, pickSl, strBin, eqA, eqCell, ne_eq, not_true_eq_false, not_false_eq_true, Nat.reduceLeDiff, Nat.reduceLT, Nat.reduceMul, Nat.reduceSub, Nat.zero_add, Nat.add_zero, Option.bind_some, asNat, bounds2, reduceCtorEq, List.take_succ_cons, List.take_zero, List.drop_succ_cons, List.drop_zero, Nat.reduceBEq, List.take_nil, List.drop_nil, Int.reduceLE, Int.reduceLT, Int.reduceToNat, Int.toNat_zero, Int.reduceBEq, Int.le_refl, Nat.le_refl, b2s, srcRow, binA, beq_self_eq_true, bne_self_eq_false, minI, maxI, foldI, Bool.not_not, Int.lt_irrefl, gt_iff_lt, ge_iff_le, List.length_map, AV.undef, puress, AV.pure, strip, drawA, goD, stepG, stepD, bornD, readsD, births, AOp.births, Eff.app, pairsD, loudsD, loudD, conflict, apart, AOp.shares, List.getD_cons_succ, List.getD_cons_zero, List.contains_cons, List.contains_nil, Bool.not_or, Option.getD_some, Option.getD_none, Nat.reduceBNe, List.replicate_zero, List.append_nil, i3_L0, rowA, e1, e0, e2, e3, hA, hB, hc, w1, pa, pb]

theorem sameLaw (a b : List It) (ha : wfL a) (hb : wfL b) (hw : ∀ σ, callC call 10 [] σ = some (.ret (.bool true), σ)) (h13 : ∀ x y σ, callC call 13 [x.av, y.av] σ = some (.ret (.bool (alikeB x y)), σ))
    (h11 : ∀ l σ, rDom l → callC call 11 [rowA l] σ = some (.ret (.tup [.int .i64 (endZ l 0).1, .bool (goodB l)]), σ))
    (h12 : ∀ l σ, rDom l → callC call 12 [rowA l, .int .i64 0, .int .i64 20] σ = some (.ret (outO (ofT 20 l 0)), σ))
    (h14 : ∀ x y σ, okT x → okT y → callC call 14 [x.av, y.av] σ = some (.ret (.bool (sameM x y)), σ))
    (h15 : ∀ x σ, okT x → callC call 15 [x.av] σ = some (.ret (.str (textM x)), σ))
    (plain : ∀ m n : Nat, a.length ≤ 60 → b.length ≤ 60 → goodB a = true → goodB b = true → (endZ a 0).1 = m → (endZ b 0).1 = n →
      sameM (ofT 20 a 0).1 (ofT 20 b 0).1 = loopB a b m 0 ((m : Int) == (n : Int)) ∧ (textM (ofT 20 a 0).1 == textM (ofT 20 b 0).1) = loopB a b m 0 ((m : Int) == (n : Int))) :
    ∃ σ', evalFn call (drawA call G) G 100 i3 [rowA a, rowA b] [] = some (.ret (.bool true), σ') := by
  have l1 : ∀ l : List It, (60 < (l.length : Int)) = (60 < l.length) := fun l => by simp only [eq_iff_iff]; omega
  by_cases c1 : 60 < a.length
  · have e1 : (60 < (a.length : Int)) = True := by simp only [eq_iff_iff, iff_true]; omega
    exact ⟨_, by simp only [evalFn, params, List.length_cons, List.length_nil, Nat.reduceAdd, evalCode, evalOps, guardOk, evalOp, AX.ev, look, putE, val, evs, optEv, binA, intBin, wrapI, unA, callM, keepE_cons, keepE_nil, Nat.reduceEqDiff, if_true, if_false, reduceIte, Int.toNat_natCast, List.append_nil, List.nil_append, List.cons_append, decide_true, decide_false, bft, btf, btt, bff, Bool.false_eq_true, resultsA, oneOrTup, Option.map_some, Option.map_none, Bool.not_true, Bool.not_false, loadAt, storeAt, storeOf, partOf, List.getElem?_cons_zero, List.getElem?_cons_succ, List.set_cons_zero, List.set_cons_succ, AV.cells, AV.isCell, List.all_cons, List.all_nil, Bool.and_true, Bool.and_false, Bool.false_and, Bool.true_and, Bool.and_self, and_true, true_and, and_self, putAt, hasLabel, Bool.or_false, Bool.false_or, Bool.or_true, Bool.true_or, fillA, pickParts, pickSl, strBin, eqA, eqCell, ne_eq, not_true_eq_false, not_false_eq_true, Nat.reduceLeDiff, Nat.reduceLT, Nat.reduceMul, Nat.reduceSub, Nat.zero_add, Nat.add_zero, Option.bind_some, asNat, bounds2, reduceCtorEq, List.take_succ_cons, List.take_zero, List.drop_succ_cons, List.drop_zero, Nat.reduceBEq, List.take_nil, List.drop_nil, Int.reduceLE, Int.reduceLT, Int.reduceToNat, Int.toNat_zero, Int.reduceBEq, Int.le_refl, Nat.le_refl, b2s, srcRow, binA, beq_self_eq_true, bne_self_eq_false, minI, maxI, foldI, Bool.not_not, Int.lt_irrefl, gt_iff_lt, ge_iff_le, List.length_map, AV.undef, i3, rowA, e1, hw]; rfl⟩
  have e1 : (60 < (a.length : Int)) = False := by simp only [eq_iff_iff, iff_false]; omega
  by_cases c2 : 60 < b.length
  · have e2 : (60 < (b.length : Int)) = True := by simp only [eq_iff_iff, iff_true]; omega
    exact ⟨_, by simp only [evalFn, params, List.length_cons, List.length_nil, Nat.reduceAdd, evalCode, evalOps, guardOk, evalOp, AX.ev, look, putE, val, evs, optEv, binA, intBin, wrapI, unA, callM, keepE_cons, keepE_nil, Nat.reduceEqDiff, if_true, if_false, reduceIte, Int.toNat_natCast, List.append_nil, List.nil_append, List.cons_append, decide_true, decide_false, bft, btf, btt, bff, Bool.false_eq_true, resultsA, oneOrTup, Option.map_some, Option.map_none, Bool.not_true, Bool.not_false, loadAt, storeAt, storeOf, partOf, List.getElem?_cons_zero, List.getElem?_cons_succ, List.set_cons_zero, List.set_cons_succ, AV.cells, AV.isCell, List.all_cons, List.all_nil, Bool.and_true, Bool.and_false, Bool.false_and, Bool.true_and, Bool.and_self, and_true, true_and, and_self, putAt, hasLabel, Bool.or_false, Bool.false_or, Bool.or_true, Bool.true_or, fillA, pickParts, pickSl, strBin, eqA, eqCell, ne_eq, not_true_eq_false, not_false_eq_true, Nat.reduceLeDiff, Nat.reduceLT, Nat.reduceMul, Nat.reduceSub, Nat.zero_add, Nat.add_zero, Option.bind_some, asNat, bounds2, reduceCtorEq, List.take_succ_cons, List.take_zero, List.drop_succ_cons, List.drop_zero, Nat.reduceBEq, List.take_nil, List.drop_nil, Int.reduceLE, Int.reduceLT, Int.reduceToNat, Int.toNat_zero, Int.reduceBEq, Int.le_refl, Nat.le_refl, b2s, srcRow, binA, beq_self_eq_true, bne_self_eq_false, minI, maxI, foldI, Bool.not_not, Int.lt_irrefl, gt_iff_lt, ge_iff_le, List.length_map, AV.undef, i3, rowA, e1, e2, hw]; rfl⟩
  have e2 : (60 < (b.length : Int)) = False := by simp only [eq_iff_iff, iff_false]; omega
  have ra : rDom a := ⟨ha, by omega⟩
  have rb : rDom b := ⟨hb, by omega⟩
  have ga := fun σ => h11 a σ ra
  have gb := fun σ => h11 b σ rb
  simp only [rowA] at ga gb
  by_cases c3 : ¬ goodB a = true
  · have g1 : goodB a = false := by simpa using c3
    exact ⟨_, by simp only [evalFn, params, List.length_cons, List.length_nil, Nat.reduceAdd, evalCode, evalOps, guardOk, evalOp, AX.ev, look, putE, val, evs, optEv, binA, intBin, wrapI, unA, callM, keepE_cons, keepE_nil, Nat.reduceEqDiff, if_true, if_false, reduceIte, Int.toNat_natCast, List.append_nil, List.nil_append, List.cons_append, decide_true, decide_false, bft, btf, btt, bff, Bool.false_eq_true, resultsA, oneOrTup, Option.map_some, Option.map_none, Bool.not_true, Bool.not_false, loadAt, storeAt, storeOf, partOf, List.getElem?_cons_zero, List.getElem?_cons_succ, List.set_cons_zero, List.set_cons_succ, AV.cells, AV.isCell, List.all_cons, List.all_nil, Bool.and_true, Bool.and_false, Bool.false_and, Bool.true_and, Bool.and_self, and_true, true_and, and_self, putAt, hasLabel, Bool.or_false, Bool.false_or, Bool.or_true, Bool.true_or, fillA, pickParts, pickSl, strBin, eqA, eqCell, ne_eq, not_true_eq_false, not_false_eq_true, Nat.reduceLeDiff, Nat.reduceLT, Nat.reduceMul, Nat.reduceSub, Nat.zero_add, Nat.add_zero, Option.bind_some, asNat, bounds2, reduceCtorEq, List.take_succ_cons, List.take_zero, List.drop_succ_cons, List.drop_zero, Nat.reduceBEq, List.take_nil, List.drop_nil, Int.reduceLE, Int.reduceLT, Int.reduceToNat, Int.toNat_zero, Int.reduceBEq, Int.le_refl, Nat.le_refl, b2s, srcRow, binA, beq_self_eq_true, bne_self_eq_false, minI, maxI, foldI, Bool.not_not, Int.lt_irrefl, gt_iff_lt, ge_iff_le, List.length_map, AV.undef, i3, rowA, e1, e2, ga, gb, g1, hw]; rfl⟩
  have c3 : goodB a = true := Decidable.not_not.1 c3
  by_cases c4 : ¬ goodB b = true
  · have g2 : goodB b = false := by simpa using c4
    exact ⟨_, by simp only [evalFn, params, List.length_cons, List.length_nil, Nat.reduceAdd, evalCode, evalOps, guardOk, evalOp, AX.ev, look, putE, val, evs, optEv, binA, intBin, wrapI, unA, callM, keepE_cons, keepE_nil, Nat.reduceEqDiff, if_true, if_false, reduceIte, Int.toNat_natCast, List.append_nil, List.nil_append, List.cons_append, decide_true, decide_false, bft, btf, btt, bff, Bool.false_eq_true, resultsA, oneOrTup, Option.map_some, Option.map_none, Bool.not_true, Bool.not_false, loadAt, storeAt, storeOf, partOf, List.getElem?_cons_zero, List.getElem?_cons_succ, List.set_cons_zero, List.set_cons_succ, AV.cells, AV.isCell, List.all_cons, List.all_nil, Bool.and_true, Bool.and_false, Bool.false_and, Bool.true_and, Bool.and_self, and_true, true_and, and_self, putAt, hasLabel, Bool.or_false, Bool.false_or, Bool.or_true, Bool.true_or, fillA, pickParts, pickSl, strBin, eqA, eqCell, ne_eq, not_true_eq_false, not_false_eq_true, Nat.reduceLeDiff, Nat.reduceLT, Nat.reduceMul, Nat.reduceSub, Nat.zero_add, Nat.add_zero, Option.bind_some, asNat, bounds2, reduceCtorEq, List.take_succ_cons, List.take_zero, List.drop_succ_cons, List.drop_zero, Nat.reduceBEq, List.take_nil, List.drop_nil, Int.reduceLE, Int.reduceLT, Int.reduceToNat, Int.toNat_zero, Int.reduceBEq, Int.le_refl, Nat.le_refl, b2s, srcRow, binA, beq_self_eq_true, bne_self_eq_false, minI, maxI, foldI, Bool.not_not, Int.lt_irrefl, gt_iff_lt, ge_iff_le, List.length_map, AV.undef, i3, rowA, e1, e2, ga, gb, c3, g2, hw]; rfl⟩
  have c4 : goodB b = true := Decidable.not_not.1 c4
  have na : 0 ≤ (endZ a 0).1 := by unfold goodB at c3; simp at c3; exact c3.1
  have nb : 0 ≤ (endZ b 0).1 := by unfold goodB at c4; simp at c4; exact c4.1
  have la := endZ_le a 0 na
  have lb := endZ_le b 0 nb
  obtain ⟨m, hm⟩ : ∃ m : Nat, (endZ a 0).1 = m := ⟨(endZ a 0).1.toNat, by omega⟩
  obtain ⟨n, hn⟩ : ∃ m : Nat, (endZ b 0).1 = m := ⟨(endZ b 0).1.toNat, by omega⟩
  rw [hm] at ga la
  rw [hn] at gb lb
  obtain ⟨k1, k2⟩ := plain m n (by omega) (by omega) c3 c4 hm hn
  have oa := fun σ => h12 a σ ra
  have ob := fun σ => h12 b σ rb
  have ta := okT_of a 0 ha
  have tb := okT_of b 0 hb
  generalize ofT 20 a 0 = X at oa ta k1 k2
  generalize ofT 20 b 0 = Y at ob tb k1 k2
  obtain ⟨X, x2⟩ := X
  obtain ⟨Y, y2⟩ := Y
  simp only at ta tb k1 k2
  have sm := fun σ => h14 X Y σ ta tb
  have tx := fun σ => h15 X σ ta
  have ty := fun σ => h15 Y σ tb
  obtain ⟨j, hj⟩ := loop_same (call := call) (G := G) (fuel := 100) a b X.av Y.av (T.pure X) (T.pure Y) h13 m (by omega) (by omega) m 0 ((m : Int) == (n : Int)) (by omega) (fun h => by have := eq_of_beq h; omega) 100 (by omega)
  generalize loopB a b m 0 ((m : Int) == (n : Int)) = q at hj k1 k2
  simp only [rowA, outO] at oa ob hj
  rw [show (((0 : Nat) : Int)) = 0 from rfl] at hj
  simp only [k1] at sm
  have key : Ends call (drawA call G) G 100 i3.body [(0, rowA a), (1, rowA b)] [] fun e env σ => e = .ret ∧ look env 4 = some (.bool true) ∧ σ = [] := by
    unfold rowA
    refine Ends.seq (by simp only [evalFn, params, List.length_cons, List.length_nil, Nat.reduceAdd, evalCode, evalOps, guardOk, evalOp, AX.ev, look, putE, val, evs, optEv, binA, intBin, wrapI, unA, callM, keepE_cons, keepE_nil, Nat.reduceEqDiff, if_true, if_false, reduceIte, Int.toNat_natCast, List.append_nil, List.nil_append, List.cons_append, decide_true, decide_false, bft, btf, btt, bff, Bool.false_eq_true, resultsA, oneOrTup, Option.map_some, Option.map_none, Bool.not_true, Bool.not_false, loadAt, storeAt, storeOf, partOf, List.getElem?_cons_zero, List.getElem?_cons_succ, List.set_cons_zero, List.set_cons_succ, AV.cells, AV.isCell, List.all_cons, List.all_nil, Bool.and_true, Bool.and_false, Bool.false_and, Bool.true_and, Bool.and_self, and_true, true_and, and_self, putAt, hasLabel, Bool.or_false, Bool.false_or, Bool.or_true, Bool.true_or, fillA, pickParts, pickSl, strBin, eqA, eqCell, ne_eq, not_true_eq_false, not_false_eq_true, Nat.reduceLeDiff, Nat.reduceLT, Nat.reduceMul, Nat.reduceSub, Nat.zero_add, Nat.add_zero, Option.bind_some, asNat, bounds2, reduceCtorEq, List.take_succ_cons, List.take_zero, List.drop_succ_cons, List.drop_zero, Nat.reduceBEq, List.take_nil, List.drop_nil, Int.reduceLE, Int.reduceLT, Int.reduceToNat, Int.toNat_zero, Int.reduceBEq, Int.le_refl, Nat.le_refl, b2s, srcRow, binA, beq_self_eq_true, bne_self_eq_false, minI, maxI, foldI, Bool.not_not, Int.lt_irrefl, gt_iff_lt, ge_iff_le, List.length_map, AV.undef]; rfl) ?_
    refine Ends.seq (by simp only [evalFn, params, List.length_cons, List.length_nil, Nat.reduceAdd, evalCode, evalOps, guardOk, evalOp, AX.ev, look, putE, val, evs, optEv, binA, intBin, wrapI, unA, callM, keepE_cons, keepE_nil, Nat.reduceEqDiff, if_true, if_false, reduceIte, Int.toNat_natCast, List.append_nil, List.nil_append, List.cons_append, decide_true, decide_false, bft, btf, btt, bff, Bool.false_eq_true, resultsA, oneOrTup, Option.map_some, Option.map_none, Bool.not_true, Bool.not_false, loadAt, storeAt, storeOf, partOf, List.getElem?_cons_zero, List.getElem?_cons_succ, List.set_cons_zero, List.set_cons_succ, AV.cells, AV.isCell, List.all_cons, List.all_nil, Bool.and_true, Bool.and_false, Bool.false_and, Bool.true_and, Bool.and_self, and_true, true_and, and_self, putAt, hasLabel, Bool.or_false, Bool.false_or, Bool.or_true, Bool.true_or, fillA, pickParts, pickSl, strBin, eqA, eqCell, ne_eq, not_true_eq_false, not_false_eq_true, Nat.reduceLeDiff, Nat.reduceLT, Nat.reduceMul, Nat.reduceSub, Nat.zero_add, Nat.add_zero, Option.bind_some, asNat, bounds2, reduceCtorEq, List.take_succ_cons, List.take_zero, List.drop_succ_cons, List.drop_zero, Nat.reduceBEq, List.take_nil, List.drop_nil, Int.reduceLE, Int.reduceLT, Int.reduceToNat, Int.toNat_zero, Int.reduceBEq, Int.le_refl, Nat.le_refl, b2s, srcRow, binA, beq_self_eq_true, bne_self_eq_false, minI, maxI, foldI, Bool.not_not, Int.lt_irrefl, gt_iff_lt, ge_iff_le, List.length_map, AV.undef, e1, e2]; rfl) ?_
    refine Ends.seq (by simp only [evalFn, params, List.length_cons, List.length_nil, Nat.reduceAdd, evalCode, evalOps, guardOk, evalOp, AX.ev, look, putE, val, evs, optEv, binA, intBin, wrapI, unA, callM, keepE_cons, keepE_nil, Nat.reduceEqDiff, if_true, if_false, reduceIte, Int.toNat_natCast, List.append_nil, List.nil_append, List.cons_append, decide_true, decide_false, bft, btf, btt, bff, Bool.false_eq_true, resultsA, oneOrTup, Option.map_some, Option.map_none, Bool.not_true, Bool.not_false, loadAt, storeAt, storeOf, partOf, List.getElem?_cons_zero, List.getElem?_cons_succ, List.set_cons_zero, List.set_cons_succ, AV.cells, AV.isCell, List.all_cons, List.all_nil, Bool.and_true, Bool.and_false, Bool.false_and, Bool.true_and, Bool.and_self, and_true, true_and, and_self, putAt, hasLabel, Bool.or_false, Bool.false_or, Bool.or_true, Bool.true_or, fillA, pickParts, pickSl, strBin, eqA, eqCell, ne_eq, not_true_eq_false, not_false_eq_true, Nat.reduceLeDiff, Nat.reduceLT, Nat.reduceMul, Nat.reduceSub, Nat.zero_add, Nat.add_zero, Option.bind_some, asNat, bounds2, reduceCtorEq, List.take_succ_cons, List.take_zero, List.drop_succ_cons, List.drop_zero, Nat.reduceBEq, List.take_nil, List.drop_nil, Int.reduceLE, Int.reduceLT, Int.reduceToNat, Int.toNat_zero, Int.reduceBEq, Int.le_refl, Nat.le_refl, b2s, srcRow, binA, beq_self_eq_true, bne_self_eq_false, minI, maxI, foldI, Bool.not_not, Int.lt_irrefl, gt_iff_lt, ge_iff_le, List.length_map, AV.undef, ga, c3]; rfl) ?_
    refine Ends.seq (by simp only [evalFn, params, List.length_cons, List.length_nil, Nat.reduceAdd, evalCode, evalOps, guardOk, evalOp, AX.ev, look, putE, val, evs, optEv, binA, intBin, wrapI, unA, callM, keepE_cons, keepE_nil, Nat.reduceEqDiff, if_true, if_false, reduceIte, Int.toNat_natCast, List.append_nil, List.nil_append, List.cons_append, decide_true, decide_false, bft, btf, btt, bff, Bool.false_eq_true, resultsA, oneOrTup, Option.map_some, Option.map_none, Bool.not_true, Bool.not_false, loadAt, storeAt, storeOf, partOf, List.getElem?_cons_zero, List.getElem?_cons_succ, List.set_cons_zero, List.set_cons_succ, AV.cells, AV.isCell, List.all_cons, List.all_nil, Bool.and_true, Bool.and_false, Bool.false_and, Bool.true_and, Bool.and_self, and_true, true_and, and_self, putAt, hasLabel, Bool.or_false, Bool.false_or, Bool.or_true, Bool.true_or, fillA, pickParts, pickSl, strBin, eqA, eqCell, ne_eq, not_true_eq_false, not_false_eq_true, Nat.reduceLeDiff, Nat.reduceLT, Nat.reduceMul, Nat.reduceSub, Nat.zero_add, Nat.add_zero, Option.bind_some, asNat, bounds2, reduceCtorEq, List.take_succ_cons, List.take_zero, List.drop_succ_cons, List.drop_zero, Nat.reduceBEq, List.take_nil, List.drop_nil, Int.reduceLE, Int.reduceLT, Int.reduceToNat, Int.toNat_zero, Int.reduceBEq, Int.le_refl, Nat.le_refl, b2s, srcRow, binA, beq_self_eq_true, bne_self_eq_false, minI, maxI, foldI, Bool.not_not, Int.lt_irrefl, gt_iff_lt, ge_iff_le, List.length_map, AV.undef, gb, c4]; rfl) ?_
    refine Ends.seq (by simp only [evalFn, params, List.length_cons, List.length_nil, Nat.reduceAdd, evalCode, evalOps, guardOk, evalOp, AX.ev, look, putE, val, evs, optEv, binA, intBin, wrapI, unA, callM, keepE_cons, keepE_nil, Nat.reduceEqDiff, if_true, if_false, reduceIte, Int.toNat_natCast, List.append_nil, List.nil_append, List.cons_append, decide_true, decide_false, bft, btf, btt, bff, Bool.false_eq_true, resultsA, oneOrTup, Option.map_some, Option.map_none, Bool.not_true, Bool.not_false, loadAt, storeAt, storeOf, partOf, List.getElem?_cons_zero, List.getElem?_cons_succ, List.set_cons_zero, List.set_cons_succ, AV.cells, AV.isCell, List.all_cons, List.all_nil, Bool.and_true, Bool.and_false, Bool.false_and, Bool.true_and, Bool.and_self, and_true, true_and, and_self, putAt, hasLabel, Bool.or_false, Bool.false_or, Bool.or_true, Bool.true_or, fillA, pickParts, pickSl, strBin, eqA, eqCell, ne_eq, not_true_eq_false, not_false_eq_true, Nat.reduceLeDiff, Nat.reduceLT, Nat.reduceMul, Nat.reduceSub, Nat.zero_add, Nat.add_zero, Option.bind_some, asNat, bounds2, reduceCtorEq, List.take_succ_cons, List.take_zero, List.drop_succ_cons, List.drop_zero, Nat.reduceBEq, List.take_nil, List.drop_nil, Int.reduceLE, Int.reduceLT, Int.reduceToNat, Int.toNat_zero, Int.reduceBEq, Int.le_refl, Nat.le_refl, b2s, srcRow, binA, beq_self_eq_true, bne_self_eq_false, minI, maxI, foldI, Bool.not_not, Int.lt_irrefl, gt_iff_lt, ge_iff_le, List.length_map, AV.undef]; rfl) ?_
    refine Ends.seq (by simp only [evalFn, params, List.length_cons, List.length_nil, Nat.reduceAdd, evalCode, evalOps, guardOk, evalOp, AX.ev, look, putE, val, evs, optEv, binA, intBin, wrapI, unA, callM, keepE_cons, keepE_nil, Nat.reduceEqDiff, if_true, if_false, reduceIte, Int.toNat_natCast, List.append_nil, List.nil_append, List.cons_append, decide_true, decide_false, bft, btf, btt, bff, Bool.false_eq_true, resultsA, oneOrTup, Option.map_some, Option.map_none, Bool.not_true, Bool.not_false, loadAt, storeAt, storeOf, partOf, List.getElem?_cons_zero, List.getElem?_cons_succ, List.set_cons_zero, List.set_cons_succ, AV.cells, AV.isCell, List.all_cons, List.all_nil, Bool.and_true, Bool.and_false, Bool.false_and, Bool.true_and, Bool.and_self, and_true, true_and, and_self, putAt, hasLabel, Bool.or_false, Bool.false_or, Bool.or_true, Bool.true_or, fillA, pickParts, pickSl, strBin, eqA, eqCell, ne_eq, not_true_eq_false, not_false_eq_true, Nat.reduceLeDiff, Nat.reduceLT, Nat.reduceMul, Nat.reduceSub, Nat.zero_add, Nat.add_zero, Option.bind_some, asNat, bounds2, reduceCtorEq, List.take_succ_cons, List.take_zero, List.drop_succ_cons, List.drop_zero, Nat.reduceBEq, List.take_nil, List.drop_nil, Int.reduceLE, Int.reduceLT, Int.reduceToNat, Int.toNat_zero, Int.reduceBEq, Int.le_refl, Nat.le_refl, b2s, srcRow, binA, beq_self_eq_true, bne_self_eq_false, minI, maxI, foldI, Bool.not_not, Int.lt_irrefl, gt_iff_lt, ge_iff_le, List.length_map, AV.undef, oa]; rfl) ?_
    refine Ends.seq (by simp only [evalFn, params, List.length_cons, List.length_nil, Nat.reduceAdd, evalCode, evalOps, guardOk, evalOp, AX.ev, look, putE, val, evs, optEv, binA, intBin, wrapI, unA, callM, keepE_cons, keepE_nil, Nat.reduceEqDiff, if_true, if_false, reduceIte, Int.toNat_natCast, List.append_nil, List.nil_append, List.cons_append, decide_true, decide_false, bft, btf, btt, bff, Bool.false_eq_true, resultsA, oneOrTup, Option.map_some, Option.map_none, Bool.not_true, Bool.not_false, loadAt, storeAt, storeOf, partOf, List.getElem?_cons_zero, List.getElem?_cons_succ, List.set_cons_zero, List.set_cons_succ, AV.cells, AV.isCell, List.all_cons, List.all_nil, Bool.and_true, Bool.and_false, Bool.false_and, Bool.true_and, Bool.and_self, and_true, true_and, and_self, putAt, hasLabel, Bool.or_false, Bool.false_or, Bool.or_true, Bool.true_or, fillA, pickParts, pickSl, strBin, eqA, eqCell, ne_eq, not_true_eq_false, not_false_eq_true, Nat.reduceLeDiff, Nat.reduceLT, Nat.reduceMul, Nat.reduceSub, Nat.zero_add, Nat.add_zero, Option.bind_some, asNat, bounds2, reduceCtorEq, List.take_succ_cons, List.take_zero, List.drop_succ_cons, List.drop_zero, Nat.reduceBEq, List.take_nil, List.drop_nil, Int.reduceLE, Int.reduceLT, Int.reduceToNat, Int.toNat_zero, Int.reduceBEq, Int.le_refl, Nat.le_refl, b2s, srcRow, binA, beq_self_eq_true, bne_self_eq_false, minI, maxI, foldI, Bool.not_not, Int.lt_irrefl, gt_iff_lt, ge_iff_le, List.length_map, AV.undef, ob]; rfl) ?_
    refine Ends.seq (by simp only [evalFn, params, List.length_cons, List.length_nil, Nat.reduceAdd, evalCode, evalOps, guardOk, evalOp, AX.ev, look, putE, val, evs, optEv, binA, intBin, wrapI, unA, callM, keepE_cons, keepE_nil, Nat.reduceEqDiff, if_true, if_false, reduceIte, Int.toNat_natCast, List.append_nil, List.nil_append, List.cons_append, decide_true, decide_false, bft, btf, btt, bff, Bool.false_eq_true, resultsA, oneOrTup, Option.map_some, Option.map_none, Bool.not_true, Bool.not_false, loadAt, storeAt, storeOf, partOf, List.getElem?_cons_zero, List.getElem?_cons_succ, List.set_cons_zero, List.set_cons_succ, AV.cells, AV.isCell, List.all_cons, List.all_nil, Bool.and_true, Bool.and_false, Bool.false_and, Bool.true_and, Bool.and_self, and_true, true_and, and_self, putAt, hasLabel, Bool.or_false, Bool.false_or, Bool.or_true, Bool.true_or, fillA, pickParts, pickSl, strBin, eqA, eqCell, ne_eq, not_true_eq_false, not_false_eq_true, Nat.reduceLeDiff, Nat.reduceLT, Nat.reduceMul, Nat.reduceSub, Nat.zero_add, Nat.add_zero, Option.bind_some, asNat, bounds2, reduceCtorEq, List.take_succ_cons, List.take_zero, List.drop_succ_cons, List.drop_zero, Nat.reduceBEq, List.take_nil, List.drop_nil, Int.reduceLE, Int.reduceLT, Int.reduceToNat, Int.toNat_zero, Int.reduceBEq, Int.le_refl, Nat.le_refl, b2s, srcRow, binA, beq_self_eq_true, bne_self_eq_false, minI, maxI, foldI, Bool.not_not, Int.lt_irrefl, gt_iff_lt, ge_iff_le, List.length_map, AV.undef]; rfl) ?_
    refine Ends.seq (by simp only [evalFn, params, List.length_cons, List.length_nil, Nat.reduceAdd, evalCode, evalOps, guardOk, evalOp, AX.ev, look, putE, val, evs, optEv, binA, intBin, wrapI, unA, callM, keepE_cons, keepE_nil, Nat.reduceEqDiff, if_true, if_false, reduceIte, Int.toNat_natCast, List.append_nil, List.nil_append, List.cons_append, decide_true, decide_false, bft, btf, btt, bff, Bool.false_eq_true, resultsA, oneOrTup, Option.map_some, Option.map_none, Bool.not_true, Bool.not_false, loadAt, storeAt, storeOf, partOf, List.getElem?_cons_zero, List.getElem?_cons_succ, List.set_cons_zero, List.set_cons_succ, AV.cells, AV.isCell, List.all_cons, List.all_nil, Bool.and_true, Bool.and_false, Bool.false_and, Bool.true_and, Bool.and_self, and_true, true_and, and_self, putAt, hasLabel, Bool.or_false, Bool.false_or, Bool.or_true, Bool.true_or, fillA, pickParts, pickSl, strBin, eqA, eqCell, ne_eq, not_true_eq_false, not_false_eq_true, Nat.reduceLeDiff, Nat.reduceLT, Nat.reduceMul, Nat.reduceSub, Nat.zero_add, Nat.add_zero, Option.bind_some, asNat, bounds2, reduceCtorEq, List.take_succ_cons, List.take_zero, List.drop_succ_cons, List.drop_zero, Nat.reduceBEq, List.take_nil, List.drop_nil, Int.reduceLE, Int.reduceLT, Int.reduceToNat, Int.toNat_zero, Int.reduceBEq, Int.le_refl, Nat.le_refl, b2s, srcRow, binA, beq_self_eq_true, bne_self_eq_false, minI, maxI, foldI, Bool.not_not, Int.lt_irrefl, gt_iff_lt, ge_iff_le, List.length_map, AV.undef, hj]; rfl) ?_
    cases q
    · refine Ends.seq (by simp only [evalFn, params, List.length_cons, List.length_nil, Nat.reduceAdd, evalCode, evalOps, guardOk, evalOp, AX.ev, look, putE, val, evs, optEv, binA, intBin, wrapI, unA, callM, keepE_cons, keepE_nil, Nat.reduceEqDiff, if_true, if_false, reduceIte, Int.toNat_natCast, List.append_nil, List.nil_append, List.cons_append, decide_true, decide_false, bft, btf, btt, bff, Bool.false_eq_true, resultsA, oneOrTup, Option.map_some, Option.map_none, Bool.not_true, Bool.not_false, loadAt, storeAt, storeOf, partOf, List.getElem?_cons_zero, List.getElem?_cons_succ, List.set_cons_zero, List.set_cons_succ, AV.cells, AV.isCell, List.all_cons, List.all_nil, Bool.and_true, Bool.and_false, Bool.false_and, Bool.true_and, Bool.and_self, and_true, true_and, and_self, putAt, hasLabel, Bool.or_false, Bool.false_or, Bool.or_true, Bool.true_or, fillA, pickParts, pickSl, strBin, eqA, eqCell, ne_eq, not_true_eq_false, not_false_eq_true, Nat.reduceLeDiff, Nat.reduceLT, Nat.reduceMul, Nat.reduceSub, Nat.zero_add, Nat.add_zero, Option.bind_some, asNat, bounds2, reduceCtorEq, List.take_succ_cons, List.take_zero, List.drop_succ_cons, List.drop_zero, Nat.reduceBEq, List.take_nil, List.drop_nil, Int.reduceLE, Int.reduceLT, Int.reduceToNat, Int.toNat_zero, Int.reduceBEq, Int.le_refl, Nat.le_refl, b2s, srcRow, binA, beq_self_eq_true, bne_self_eq_false, minI, maxI, foldI, Bool.not_not, Int.lt_irrefl, gt_iff_lt, ge_iff_le, List.length_map, AV.undef, sm, tx, ty, k2, hw]; rfl) ?_
      exact Ends.done (by simp only [evalFn, params, List.length_cons, List.length_nil, Nat.reduceAdd, evalCode, evalOps, guardOk, evalOp, AX.ev, look, putE, val, evs, optEv, binA, intBin, wrapI, unA, callM, keepE_cons, keepE_nil, Nat.reduceEqDiff, if_true, if_false, reduceIte, Int.toNat_natCast, List.append_nil, List.nil_append, List.cons_append, decide_true, decide_false, bft, btf, btt, bff, Bool.false_eq_true, resultsA, oneOrTup, Option.map_some, Option.map_none, Bool.not_true, Bool.not_false, loadAt, storeAt, storeOf, partOf, List.getElem?_cons_zero, List.getElem?_cons_succ, List.set_cons_zero, List.set_cons_succ, AV.cells, AV.isCell, List.all_cons, List.all_nil, Bool.and_true, Bool.and_false, Bool.false_and, Bool.true_and, Bool.and_self, and_true, true_and, and_self, putAt, hasLabel, Bool.or_false, Bool.false_or, Bool.or_true, Bool.true_or, fillA, pickParts, pickSl, strBin, eqA, eqCell, ne_eq, not_true_eq_false, not_false_eq_true, Nat.reduceLeDiff, Nat.reduceLT, Nat.reduceMul, Nat.reduceSub, Nat.zero_add, Nat.add_zero, Option.bind_some, asNat, bounds2, reduceCtorEq, List.take_succ_cons, List.take_zero, List.drop_succ_cons, List.drop_zero, Nat.reduceBEq, List.take_nil, List.drop_nil, Int.reduceLE, Int.reduceLT, Int.reduceToNat, Int.toNat_zero, Int.reduceBEq, Int.le_refl, Nat.le_refl, b2s, srcRow, binA, beq_self_eq_true, bne_self_eq_false, minI, maxI, foldI, Bool.not_not, Int.lt_irrefl, gt_iff_lt, ge_iff_le, List.length_map, AV.undef]; rfl) ⟨rfl, rfl, rfl⟩
    · refine Ends.seq (by simp only [evalFn, params, List.length_cons, List.length_nil, Nat.reduceAdd, evalCode, evalOps, guardOk, evalOp, AX.ev, look, putE, val, evs, optEv, binA, intBin, wrapI, unA, callM, keepE_cons, keepE_nil, Nat.reduceEqDiff, if_true, if_false, reduceIte, Int.toNat_natCast, List.append_nil, List.nil_append, List.cons_append, decide_true, decide_false, bft, btf, btt, bff, Bool.false_eq_true, resultsA, oneOrTup, Option.map_some, Option.map_none, Bool.not_true, Bool.not_false, loadAt, storeAt, storeOf, partOf, List.getElem?_cons_zero, List.getElem?_cons_succ, List.set_cons_zero, List.set_cons_succ, AV.cells, AV.isCell, List.all_cons, List.all_nil, Bool.and_true, Bool.and_false, Bool.false_and, Bool.true_and, Bool.and_self, and_true, true_and, and_self, putAt, hasLabel, Bool.or_false, Bool.false_or, Bool.or_true, Bool.true_or, fillA, pickParts, pickSl, strBin, eqA, eqCell, ne_eq, not_true_eq_false, not_false_eq_true, Nat.reduceLeDiff, Nat.reduceLT, Nat.reduceMul, Nat.reduceSub, Nat.zero_add, Nat.add_zero, Option.bind_some, asNat, bounds2, reduceCtorEq, List.take_succ_cons, List.take_zero, List.drop_succ_cons, List.drop_zero, Nat.reduceBEq, List.take_nil, List.drop_nil, Int.reduceLE, Int.reduceLT, Int.reduceToNat, Int.toNat_zero, Int.reduceBEq, Int.le_refl, Nat.le_refl, b2s, srcRow, binA, beq_self_eq_true, bne_self_eq_false, minI, maxI, foldI, Bool.not_not, Int.lt_irrefl, gt_iff_lt, ge_iff_le, List.length_map, AV.undef, sm, tx, ty, k2, hw]; rfl) ?_
      exact Ends.done (by simp only [evalFn, params, List.length_cons, List.length_nil, Nat.reduceAdd, evalCode, evalOps, guardOk, evalOp, AX.ev, look, putE, val, evs, optEv, binA, intBin, wrapI, unA, callM, keepE_cons, keepE_nil, Nat.reduceEqDiff, if_true, if_false, reduceIte, Int.toNat_natCast, List.append_nil, List.nil_append, List.cons_append, decide_true, decide_false, bft, btf, btt, bff, Bool.false_eq_true, resultsA, oneOrTup, Option.map_some, Option.map_none, Bool.not_true, Bool.not_false, loadAt, storeAt, storeOf, partOf, List.getElem?_cons_zero, List.getElem?_cons_succ, List.set_cons_zero, List.set_cons_succ, AV.cells, AV.isCell, List.all_cons, List.all_nil, Bool.and_true, Bool.and_false, Bool.false_and, Bool.true_and, Bool.and_self, and_true, true_and, and_self, putAt, hasLabel, Bool.or_false, Bool.false_or, Bool.or_true, Bool.true_or, fillA, pickParts, pickSl, strBin, eqA, eqCell, ne_eq, not_true_eq_false, not_false_eq_true, Nat.reduceLeDiff, Nat.reduceLT, Nat.reduceMul, Nat.reduceSub, Nat.zero_add, Nat.add_zero, Option.bind_some, asNat, bounds2, reduceCtorEq, List.take_succ_cons, List.take_zero, List.drop_succ_cons, List.drop_zero, Nat.reduceBEq, List.take_nil, List.drop_nil, Int.reduceLE, Int.reduceLT, Int.reduceToNat, Int.toNat_zero, Int.reduceBEq, Int.le_refl, Nat.le_refl, b2s, srcRow, binA, beq_self_eq_true, bne_self_eq_false, minI, maxI, foldI, Bool.not_not, Int.lt_irrefl, gt_iff_lt, ge_iff_le, List.length_map, AV.undef]; rfl) ⟨rfl, rfl, rfl⟩
  obtain ⟨e, env, σ', k1, rfl, k2, rfl⟩ := key
  refine ⟨[], ?_⟩
  simp only [evalFn, show i3.nparams = 2 from rfl, show i3.res = [.tmp 4] from rfl, params, List.length_cons, List.length_nil, Nat.reduceAdd, if_true, k1, resultsA, k2, oneOrTup, Option.map_some]
end
end Go.Pm
end

section
set_option linter.unusedSimpArgs false
set_option linter.unusedVariables false
set_option linter.unusedSectionVars false
/- Unlike expressions are written unlike: plain data. -/
set_option maxRecDepth 100000
set_option linter.unusedSimpArgs false
set_option linter.unusedVariables false
namespace Go.Pm

def dgB (c : UInt8) : Bool := 48 ≤ c.toNat && c.toNat ≤ 57
def valD (l : List UInt8) : Nat := l.foldl (fun v c => v * 10 + (c.toNat - 48)) 0

theorem dg_of (n : Nat) (h : n < 10) : (UInt8.ofNat (48 + n)).toNat = 48 + n := by rw [UInt8.toNat_ofNat']; omega
theorem valD_dec (n : Nat) : valD (Lib.decDigits n) = n := by
  by_cases h : n < 10
  · rw [Lib.decDigits_one h]
    have e := dg_of n h
    show 0 * 10 + ((UInt8.ofNat (48 + n)).toNat - 48) = n
    rw [e]; omega
  · have ih := valD_dec (n / 10)
    rw [Lib.decDigits, dif_neg h]
    unfold valD at ih ⊢
    rw [List.foldl_append, ih]
    have e := dg_of (n % 10) (by omega)
    show n / 10 * 10 + ((UInt8.ofNat (48 + n % 10)).toNat - 48) = n
    rw [e]; omega
termination_by n
decreasing_by omega
theorem dec_dg (n : Nat) : ∀ c ∈ Lib.decDigits n, dgB c = true := by
  intro c hc
  by_cases h : n < 10
  · rw [Lib.decDigits_one h] at hc
    simp only [List.mem_singleton] at hc
    subst hc
    have e := dg_of n h
    simp only [dgB, e]; simp; omega
  · rw [Lib.decDigits, dif_neg h] at hc
    rcases List.mem_append.1 hc with hc | hc
    · exact dec_dg (n / 10) c hc
    · simp only [List.mem_singleton] at hc
      subst hc
      have e := dg_of (n % 10) (by omega)
      simp only [dgB, e]; simp; omega
termination_by n
decreasing_by omega
theorem dec_ne (n : Nat) : Lib.decDigits n ≠ [] := by
  intro h
  have := Lib.decDigits_length n
  rw [h] at this
  have := Lib.nDigits_pos n
  simp at *; omega

/-- What may stand behind an expression. -/
def Rest : List UInt8 → Prop
  | [] => True
  | c :: _ => c = 32 ∨ c = 41
theorem Rest.head {c : UInt8} {r : List UInt8} (h : Rest (c :: r)) : dgB c = false ∧ c ≠ 58 := by
  rcases h with rfl | rfl <;> exact ⟨by decide, by decide⟩
theorem take_dec (n : Nat) (r : List UInt8) (h : ∀ c r', r = c :: r' → dgB c = false) : (Lib.decDigits n ++ r).takeWhile dgB = Lib.decDigits n ∧ (Lib.decDigits n ++ r).dropWhile dgB = r := by
  have hd := dec_dg n
  generalize Lib.decDigits n = l at hd
  induction l with
  | nil =>
    cases r with
    | nil => exact ⟨rfl, rfl⟩
    | cons c r => have := h c r rfl; simp [List.takeWhile_cons, List.dropWhile_cons, this]
  | cons a l ih =>
    have := hd a (by simp)
    obtain ⟨i1, i2⟩ := ih fun c hc => hd c (by simp [hc])
    simp [List.takeWhile_cons, List.dropWhile_cons, this, i1, i2]

def colR : List UInt8 → Option (List UInt8)
  | a :: b :: r => if a = 58 ∧ b = 114 then some r else none
  | _ => none
def leafRd : List UInt8 → Option (T × List UInt8)
  | [] => none
  | c :: r =>
    if dgB c then
      match colR ((c :: r).dropWhile dgB) with
      | some r2 => some (.node 2 0 0 (valD ((c :: r).takeWhile dgB)) (valD (r2.takeWhile dgB)) 0 .nil .nil, r2.dropWhile dgB)
      | none => some (.node 0 0 (valD ((c :: r).takeWhile dgB)) 0 0 0 .nil .nil, (c :: r).dropWhile dgB)
    else if c = 114 then some (.node 1 0 0 0 (valD (r.takeWhile dgB)) 0 .nil .nil, r.dropWhile dgB)
    else some (.node 3 0 0 0 0 c.toNat .nil .nil, r)

def opOne (b : UInt8) : Option Nat :=
  if b = 60 then some 3 else if b = 43 then some 5 else if b = 45 then some 6 else if b = 124 then some 7 else if b = 94 then some 8 else if b = 42 then some 9
  else if b = 47 then some 10 else if b = 37 then some 11 else if b = 38 then some 12 else none
def opTwo (b c : UInt8) : Option Nat :=
  if b = 61 ∧ c = 61 then some 1 else if b = 33 ∧ c = 61 then some 2 else if b = 60 ∧ c = 61 then some 4 else none
def opRd : List UInt8 → Option (Nat × List UInt8)
  | a :: b :: c :: r =>
    if a = 32 then
      if c = 32 then (opOne b).map fun o => (o, r)
      else match r with
        | d :: r' => if d = 32 then (opTwo b c).map fun o => (o, r') else none
        | [] => none
    else none
  | _ => none
theorem opRd_op : ∀ (o : Nat), 1 ≤ o → o ≤ 12 → ∀ r : List UInt8, opRd ([32] ++ opN o ++ [32] ++ r) = some (o, r)
  | 0, h, _, _ => by omega
  | 1, _, _, r => rfl
  | 2, _, _, r => rfl
  | 3, _, _, r => rfl
  | 4, _, _, r => rfl
  | 5, _, _, r => rfl
  | 6, _, _, r => rfl
  | 7, _, _, r => rfl
  | 8, _, _, r => rfl
  | 9, _, _, r => rfl
  | 10, _, _, r => rfl
  | 11, _, _, r => rfl
  | 12, _, _, r => rfl
  | n + 13, _, h, _ => by omega
theorem opRd_close (r : List UInt8) : opRd (41 :: r) = none := by
  unfold opRd
  split
  · rename_i a b c r' h
    cases h
    rw [if_neg (by decide)]
  · rfl

inductive Md where
  | atom
  | expr (m : Nat)
  | loop (m : Nat) (acc : T)

def closeR : Option (T × List UInt8) → Option (T × List UInt8)
  | some (t, c :: r) => if c = 41 then some (t, r) else none
  | _ => none

def rd : Nat → Md → List UInt8 → Option (T × List UInt8)
  | 0, _, _ => none
  | _ + 1, .atom, [] => none
  | n + 1, .atom, c :: r =>
    if c = 40 then closeR (rd n (.expr 1) r)
    else if c = 33 then (rd n .atom r).map fun x => (.node 4 13 0 0 0 0 x.1 .nil, x.2)
    else if c = 45 then (rd n .atom r).map fun x => (.node 4 14 0 0 0 0 x.1 .nil, x.2)
    else leafRd (c :: r)
  | n + 1, .expr m, s => (rd n .atom s).bind fun x => rd n (.loop m x.1) x.2
  | n + 1, .loop m acc, s =>
    match opRd s with
    | some (o, r) => if m ≤ strN o then (rd n (.expr (strN o + 1)) r).bind fun x => rd n (.loop m (.node 5 o 0 0 0 0 acc x.1)) x.2 else some (acc, s)
    | none => some (acc, s)

theorem rd_mono : ∀ (n : Nat) (md : Md) (s : List UInt8) (x : T × List UInt8), rd n md s = some x → rd (n + 1) md s = some x
  | 0, _, _, _, h => by simp [rd] at h
  | n + 1, .atom, [], x, h => by simp [rd] at h
  | n + 1, .atom, c :: r, x, h => by
    rw [rd] at h ⊢
    split
    · rename_i hc
      rw [if_pos hc] at h
      cases he : rd n (.expr 1) r with
      | none => rw [he] at h; simp [closeR] at h
      | some y => rw [rd_mono n _ _ _ he, ← he]; exact h
    · rename_i hc
      rw [if_neg hc] at h
      split
      · rename_i hc2
        rw [if_pos hc2] at h
        obtain ⟨y, hy, rfl⟩ := Option.map_eq_some_iff.1 h
        rw [rd_mono n _ _ _ hy]; rfl
      · rename_i hc2
        rw [if_neg hc2] at h
        split
        · rename_i hc3
          rw [if_pos hc3] at h
          obtain ⟨y, hy, rfl⟩ := Option.map_eq_some_iff.1 h
          rw [rd_mono n _ _ _ hy]; rfl
        · rename_i hc3
          rw [if_neg hc3] at h
          exact h
  | n + 1, .expr m, s, x, h => by
    rw [rd] at h ⊢
    obtain ⟨y, h1, h2⟩ := Option.bind_eq_some_iff.1 h
    rw [rd_mono n _ _ _ h1]
    exact rd_mono n _ _ _ h2
  | n + 1, .loop m acc, s, x, h => by
    rw [rd] at h ⊢
    cases ho : opRd s with
    | none => rw [ho] at h; exact h
    | some y =>
      obtain ⟨o, r⟩ := y
      rw [ho] at h
      simp only at h ⊢
      split
      · rename_i hm
        rw [if_pos hm] at h
        obtain ⟨y, h1, h2⟩ := Option.bind_eq_some_iff.1 h
        rw [rd_mono n _ _ _ h1]
        exact rd_mono n _ _ _ h2
      · rename_i hm
        rw [if_neg hm] at h
        exact h
theorem rd_le {n m : Nat} (h : n ≤ m) {md : Md} {s : List UInt8} {x : T × List UInt8} (hx : rd n md s = some x) : rd m md s = some x := by
  induction h with
  | refl => exact hx
  | step _ ih => exact rd_mono _ _ _ _ ih

def RdT (md : Md) (s : List UInt8) (x : T × List UInt8) : Prop := ∃ n, rd n md s = some x
theorem RdT.det {md : Md} {s : List UInt8} {x y : T × List UInt8} (h : RdT md s x) (h' : RdT md s y) : x = y := by
  obtain ⟨n, h⟩ := h
  obtain ⟨m, h'⟩ := h'
  have a := rd_le (Nat.le_max_left n m) h
  have b := rd_le (Nat.le_max_right n m) h'
  rw [a] at b
  exact Option.some.inj b
theorem RdT.expr {m : Nat} {s r : List UInt8} {t : T} {x : T × List UInt8} (h : RdT .atom s (t, r)) (h' : RdT (.loop m t) r x) : RdT (.expr m) s x := by
  obtain ⟨a, h⟩ := h
  obtain ⟨b, h'⟩ := h'
  refine ⟨max a b + 1, ?_⟩
  rw [rd, rd_le (Nat.le_max_left a b) h]
  exact rd_le (Nat.le_max_right a b) h'
theorem RdT.stop {m : Nat} {t : T} {r : List UInt8} (h : ∀ o r', opRd r = some (o, r') → strN o < m) : RdT (.loop m t) r (t, r) := by
  refine ⟨1, ?_⟩
  rw [rd]
  cases ho : opRd r with
  | none => rfl
  | some y =>
    obtain ⟨o, r'⟩ := y
    have := h o r' ho
    simp only
    rw [if_neg (by omega)]
theorem RdT.go {m o : Nat} {acc t : T} {s r r' : List UInt8} {x : T × List UInt8} (ho : opRd s = some (o, r)) (hm : m ≤ strN o) (h : RdT (.expr (strN o + 1)) r (t, r')) (h' : RdT (.loop m (.node 5 o 0 0 0 0 acc t)) r' x) : RdT (.loop m acc) s x := by
  obtain ⟨a, h⟩ := h
  obtain ⟨b, h'⟩ := h'
  refine ⟨max a b + 1, ?_⟩
  rw [rd, ho]
  simp only
  rw [if_pos hm, rd_le (Nat.le_max_left a b) h]
  exact rd_le (Nat.le_max_right a b) h'
theorem RdT.paren {s r : List UInt8} {t : T} (h : RdT (.expr 1) s (t, 41 :: r)) : RdT .atom (40 :: s) (t, r) := by
  obtain ⟨a, h⟩ := h
  refine ⟨a + 1, ?_⟩
  rw [rd, if_pos rfl, h]
  rfl
end Go.Pm
end

section
set_option linter.unusedSimpArgs false
set_option linter.unusedVariables false
set_option linter.unusedSectionVars false
/- Unlike expressions are written unlike: what is written is read again. -/
set_option maxRecDepth 100000
set_option linter.unusedSimpArgs false
set_option linter.unusedVariables false
namespace Go.Pm

theorem isNil_eq {t : T} (h : t.isNil = true) : t = .nil := by cases t <;> simp [T.isNil] at h ⊢
theorem zeroB_eq {a : Int} (h : zeroB a = true) : a = 0 := by simpa [zeroB] using h
theorem good_shape {t : T} (h : goodT t = true) :
    (∃ n, t = .node 0 0 n 0 0 0 .nil .nil) ∨ (∃ i, t = .node 1 0 0 0 i 0 .nil .nil ∧ i < 8) ∨ (∃ u i, t = .node 2 0 0 u i 0 .nil .nil ∧ u < 4 ∧ i < 8) ∨
    (∃ x, t = .node 3 0 0 0 0 x .nil .nil ∧ 97 ≤ x ∧ x ≤ 122 ∧ x ≠ 114) ∨ (∃ o l, t = .node 4 o 0 0 0 0 l .nil ∧ sidesZ o = 1 ∧ goodT l = true) ∨
    (∃ o l r, t = .node 5 o 0 0 0 0 l r ∧ sidesZ o = 2 ∧ goodT l = true ∧ goodT r = true) := by
  cases t with
  | nil => simp [goodT] at h
  | node k o n t i x l r =>
    have hp : plainOk k o n t i x l r = true := by simp only [goodT, Bool.and_eq_true] at h; exact h.1
    rcases good_cases h with rfl | ⟨rfl, h1⟩ | ⟨rfl, h1, h2⟩ | ⟨rfl, h1⟩ | ⟨rfl, h1, h2⟩ | ⟨rfl, h1, h2, h3⟩
    · simp [plainOk] at hp
      obtain ⟨⟨⟨⟨⟨a1, a2⟩, a3⟩, a4⟩, a5⟩, a6⟩ := hp
      rw [zeroB_eq a1, zeroB_eq a2, zeroB_eq a3, zeroB_eq a4, isNil_eq a5, isNil_eq a6]
      exact .inl ⟨n, rfl⟩
    · simp [plainOk] at hp
      obtain ⟨⟨⟨⟨⟨a1, a2⟩, a3⟩, a4⟩, a5⟩, a6⟩ := hp
      rw [zeroB_eq a1, zeroB_eq a2, zeroB_eq a3, zeroB_eq a4, isNil_eq a5, isNil_eq a6]
      exact .inr (.inl ⟨i, rfl, h1⟩)
    · simp [plainOk] at hp
      obtain ⟨⟨⟨⟨a1, a2⟩, a3⟩, a5⟩, a6⟩ := hp
      rw [zeroB_eq a1, zeroB_eq a2, zeroB_eq a3, isNil_eq a5, isNil_eq a6]
      exact .inr (.inr (.inl ⟨t, i, rfl, h1, h2⟩))
    · simp [plainOk] at hp
      obtain ⟨⟨⟨⟨⟨a1, a2⟩, a3⟩, a4⟩, a5⟩, a6⟩ := hp
      rw [zeroB_eq a1, zeroB_eq a2, zeroB_eq a3, zeroB_eq a4, isNil_eq a5, isNil_eq a6]
      exact .inr (.inr (.inr (.inl ⟨x, rfl, h1⟩)))
    · simp [plainOk] at hp
      obtain ⟨⟨⟨⟨a1, a2⟩, a3⟩, a4⟩, a6⟩ := hp
      rw [zeroB_eq a1, zeroB_eq a2, zeroB_eq a3, zeroB_eq a4, isNil_eq a6]
      exact .inr (.inr (.inr (.inr (.inl ⟨o, l, rfl, h1, h2⟩))))
    · simp [plainOk] at hp
      obtain ⟨⟨⟨a1, a2⟩, a3⟩, a4⟩ := hp
      rw [zeroB_eq a1, zeroB_eq a2, zeroB_eq a3, zeroB_eq a4]
      exact .inr (.inr (.inr (.inr (.inr ⟨o, l, r, rfl, h1, h2, h3⟩))))

theorem leaf_atom {c : UInt8} {s : List UInt8} {x : T × List UInt8} (h1 : c ≠ 40) (h2 : c ≠ 33) (h3 : c ≠ 45) (h : leafRd (c :: s) = some x) : RdT .atom (c :: s) x := by
  refine ⟨1, ?_⟩
  rw [rd, if_neg h1, if_neg h2, if_neg h3]
  exact h
theorem dg_ne {c : UInt8} (h : dgB c = true) : c ≠ 40 ∧ c ≠ 33 ∧ c ≠ 45 := by
  refine ⟨?_, ?_, ?_⟩ <;> (rintro rfl; revert h; decide)
theorem colR_rest {r : List UInt8} (h : Rest r) : colR r = none := by
  unfold colR
  split
  · rename_i a b r'
    rw [if_neg fun hh => h.head.2 hh.1]
  · rfl
theorem dec_cons (n : Nat) : ∃ c l, Lib.decDigits n = c :: l ∧ dgB c = true := by
  cases h : Lib.decDigits n with
  | nil => exact absurd h (dec_ne n)
  | cons c l => exact ⟨c, l, rfl, dec_dg n c (by rw [h]; simp)⟩
theorem rest_dg {r : List UInt8} (h : Rest r) : ∀ c r', r = c :: r' → dgB c = false := by
  rintro c r' rfl; exact h.head.1

theorem rd_num (n : Nat) (r : List UInt8) (h : Rest r) : RdT .atom (Lib.decDigits n ++ r) (.node 0 0 n 0 0 0 .nil .nil, r) := by
  obtain ⟨k1, k2⟩ := take_dec n r (rest_dg h)
  have kv := valD_dec n
  obtain ⟨c, l, e, hc⟩ := dec_cons n
  rw [e] at k1 k2 kv ⊢
  obtain ⟨g1, g2, g3⟩ := dg_ne hc
  rw [List.cons_append] at k1 k2 ⊢
  refine leaf_atom g1 g2 g3 ?_
  unfold leafRd
  simp only
  rw [if_pos hc, k1, k2, colR_rest h, kv]
theorem rd_of (u i : Nat) (r : List UInt8) (h : Rest r) : RdT .atom (Lib.decDigits u ++ [58, 114] ++ Lib.decDigits i ++ r) (.node 2 0 0 u i 0 .nil .nil, r) := by
  obtain ⟨k1, k2⟩ := take_dec u (58 :: 114 :: (Lib.decDigits i ++ r)) (by rintro c r' he; cases he; decide)
  obtain ⟨j1, j2⟩ := take_dec i r (rest_dg h)
  have kv := valD_dec u
  obtain ⟨c, l, e, hc⟩ := dec_cons u
  have e2 : Lib.decDigits u ++ [58, 114] ++ Lib.decDigits i ++ r = Lib.decDigits u ++ 58 :: 114 :: (Lib.decDigits i ++ r) := by simp
  rw [e2]
  rw [e] at k1 k2 kv ⊢
  obtain ⟨g1, g2, g3⟩ := dg_ne hc
  rw [List.cons_append] at k1 k2 ⊢
  refine leaf_atom g1 g2 g3 ?_
  unfold leafRd
  simp only
  rw [if_pos hc, k1, k2, kv]
  simp only [colR, and_self, if_true, j1, j2, valD_dec]
theorem rd_reg (i : Nat) (r : List UInt8) (h : Rest r) : RdT .atom (114 :: Lib.decDigits i ++ r) (.node 1 0 0 0 i 0 .nil .nil, r) := by
  obtain ⟨j1, j2⟩ := take_dec i r (rest_dg h)
  rw [List.cons_append]
  refine leaf_atom (by decide) (by decide) (by decide) ?_
  unfold leafRd
  have hd : dgB 114 = false := by decide
  simp only [hd, Bool.false_eq_true, if_false, if_true, j1, j2, valD_dec]
theorem rd_loc (x : Int) (h1 : 97 ≤ x) (h2 : x ≤ 122) (h3 : x ≠ 114) (r : List UInt8) : RdT .atom (chB x ++ r) (.node 3 0 0 0 0 x .nil .nil, r) := by
  obtain ⟨m, rfl⟩ : ∃ m : Nat, x = m := ⟨x.toNat, by omega⟩
  have e : (UInt8.ofNat m).toNat = m := by rw [UInt8.toNat_ofNat']; omega
  have ne : ∀ c : UInt8, c.toNat ≠ m → UInt8.ofNat m ≠ c := fun c hc he => hc (by rw [← he, e])
  unfold chB
  rw [Int.toNat_natCast, List.cons_append, List.nil_append]
  refine leaf_atom (ne 40 (by simp; omega)) (ne 33 (by simp; omega)) (ne 45 (by simp; omega)) ?_
  unfold leafRd
  simp only
  have hd : dgB (UInt8.ofNat m) = false := by unfold dgB; rw [e]; simp; omega
  rw [if_neg (by simp [hd]), if_neg (ne 114 (by simp; omega)), e]

def Cont (s : Nat) (r : List UInt8) : Prop := ∀ o r', opRd r = some (o, r') → strN o ≤ s
theorem cont_close (s : Nat) (r : List UInt8) : Cont s (41 :: r) := fun o r' h => by rw [opRd_close] at h; cases h

/-- What is read of a tree that is written. -/
def Reads (t : T) : Prop := (4 ≤ strT t → ∀ r, Rest r → RdT .atom (textT t ++ r) (t, r)) ∧
  (∀ m r x, 1 ≤ m → m ≤ strT t → Rest r → Cont (strT t) r → RdT (.loop m t) r x → RdT (.expr m) (textT t ++ r) x)

theorem reads_atom {t : T} (h : ∀ r, Rest r → RdT .atom (textT t ++ r) (t, r)) : Reads t :=
  ⟨fun _ => h, fun m r x _ _ hr _ hx => (h r hr).expr hx⟩
theorem Reads.paren {t : T} (h : Reads t) (h1 : 1 ≤ strT t) (r : List UInt8) : RdT .atom (40 :: (textT t ++ [41]) ++ r) (t, r) := by
  have := h.2 1 (41 :: r) (t, 41 :: r) (by omega) h1 (.inr rfl) (cont_close _ _) (RdT.stop fun o r' ho => by rw [opRd_close] at ho; cases ho)
  have e : 40 :: (textT t ++ [41]) ++ r = 40 :: (textT t ++ 41 :: r) := by simp
  rw [e]
  exact this.paren
theorem Reads.part {t : T} (h : Reads t) (h1 : 1 ≤ strT t) {m s : Nat} (hm : 1 ≤ m) (hms : m ≤ s) {r : List UInt8} {x : T × List UInt8} (hr : Rest r) (hc : s ≤ strT t → Cont (strT t) r) (hx : RdT (.loop m t) r x) :
    RdT (.expr m) (parB s (strT t) (textT t) ++ r) x := by
  unfold parB
  split
  · exact (h.paren h1 r).expr hx
  · exact h.2 m r x hm (by omega) hr (hc (by omega)) hx

theorem strT_pos {t : T} (h : goodT t = true) (hw : t.wf) : 1 ≤ strT t := by
  rcases good_shape h with ⟨n, rfl⟩ | ⟨i, rfl, _⟩ | ⟨u, i, rfl, _⟩ | ⟨x, rfl, _⟩ | ⟨o, l, rfl, h1, _⟩ | ⟨o, l, r, rfl, h1, _⟩
  · simp [strT]
  · simp [strT]
  · simp [strT]
  · simp [strT]
  · have ho := hw.2.1
    unfold u8 at ho
    unfold sidesZ at h1
    simp only [strT, strZ, strN]
    repeat' split at h1
    all_goals (repeat' split) <;> omega
  · have ho := hw.2.1
    unfold u8 at ho
    unfold sidesZ at h1
    simp only [strT, strZ, strN]
    repeat' split at h1
    all_goals (repeat' split) <;> omega

theorem reads : ∀ t : T, goodT t = true → t.wf → Reads t
  | .nil, h, _ => by simp [goodT] at h
  | .node k o n t i x l r, h, hw => by
    have ihl := reads l
    have ihr := reads r
    rcases good_shape h with ⟨n', e⟩ | ⟨i', e, _⟩ | ⟨u', i', e, _⟩ | ⟨x', e, hx1, hx2, hx3⟩ | ⟨o', l', e, h1, hl⟩ | ⟨o', l', r', e, h1, hl, hr⟩
    · cases e
      obtain ⟨m, rfl⟩ : ∃ m : Nat, n = m := ⟨n.toNat, by have := hw.2.2.1; unfold u64 at this; omega⟩
      refine reads_atom fun r hr => ?_
      have e : textT (.node 0 0 m 0 0 0 .nil .nil) = Lib.decDigits m := by simp [textT]
      rw [e]; exact rd_num m r hr
    · cases e
      obtain ⟨m, rfl⟩ : ∃ m : Nat, i = m := ⟨i.toNat, by have := hw.2.2.2.2.1; unfold u8 at this; omega⟩
      refine reads_atom fun r hr => ?_
      have e : textT (.node 1 0 0 0 m 0 .nil .nil) = 114 :: Lib.decDigits m := by simp [textT]
      rw [e]; exact rd_reg m r hr
    · cases e
      obtain ⟨m, rfl⟩ : ∃ m : Nat, i = m := ⟨i.toNat, by have := hw.2.2.2.2.1; unfold u8 at this; omega⟩
      obtain ⟨q, rfl⟩ : ∃ m : Nat, t = m := ⟨t.toNat, by have := hw.2.2.2.1; unfold u8 at this; omega⟩
      refine reads_atom fun r hr => ?_
      have e : textT (.node 2 0 0 q m 0 .nil .nil) = Lib.decDigits q ++ [58, 114] ++ Lib.decDigits m := by simp [textT]
      rw [e]; exact rd_of q m r hr
    · cases e
      refine reads_atom fun r hr => ?_
      have e : textT (.node 3 0 0 0 0 x .nil .nil) = chB x := by simp [textT]
      rw [e]; exact rd_loc x hx1 hx2 hx3 r
    · cases e
      have hwl := hw.2.2.2.2.2.2.1
      have il := ihl hl hwl
      have lp := strT_pos hl hwl
      refine reads_atom fun r hr => ?_
      have ho : o = 13 ∨ o = 14 := by
        unfold sidesZ at h1
        split at h1
        · assumption
        · split at h1 <;> omega
      have inner : RdT .atom (parB 4 (strT l) (textT l) ++ r) (l, r) := by
        unfold parB
        split
        · exact il.paren lp r
        · exact il.1 (by omega) r hr
      have e : textT (.node 4 o 0 0 0 0 l .nil) = opS o ++ parB 4 (strT l) (textT l) := by simp [textT]
      rw [e, List.append_assoc]
      obtain ⟨a, ha⟩ := inner
      rcases ho with rfl | rfl
      · refine ⟨a + 1, ?_⟩
        show rd (a + 1) .atom (33 :: (parB 4 (strT l) (textT l) ++ r)) = _
        rw [rd, if_neg (by decide), if_pos rfl, ha]
        rfl
      · refine ⟨a + 1, ?_⟩
        show rd (a + 1) .atom (45 :: (parB 4 (strT l) (textT l) ++ r)) = _
        rw [rd, if_neg (by decide), if_neg (by decide), if_pos rfl, ha]
        rfl
    · cases e
      have hwl := hw.2.2.2.2.2.2.1
      have hwr := hw.2.2.2.2.2.2.2
      have il := ihl hl hwl
      have ir := ihr hr hwr
      have lp := strT_pos hl hwl
      have rp := strT_pos hr hwr
      obtain ⟨q, rfl⟩ : ∃ m : Nat, o = m := ⟨o.toNat, by have := hw.2.1; unfold u8 at this; omega⟩
      have hq : 1 ≤ q ∧ q ≤ 12 := by
        unfold sidesZ at h1
        repeat' split at h1
        all_goals omega
      have hs : strT (.node 5 q 0 0 0 0 l r) = strN q := by simp [strT, strZ]
      have hz : strZ (q : Int) = strN q := by simp [strZ]
      have hb : strN q ≤ 3 := by
        unfold strN
        repeat' split
        all_goals omega
      have e : ∀ rest, textT (.node 5 q 0 0 0 0 l r) ++ rest = parB (strN q) (strT l) (textT l) ++ ([32] ++ opN q ++ [32] ++ (parB (strN q + 1) (strT r) (textT r) ++ rest)) := by
        intro rest; simp [textT, hz, opS]
      refine ⟨fun h4 => by rw [hs] at h4; omega, fun m rest x hm hms hrest hc hx => ?_⟩
      rw [hs] at hms hc
      rw [e rest]
      have ho := opRd_op q hq.1 hq.2 (parB (strN q + 1) (strT r) (textT r) ++ rest)
      refine il.part lp hm hms (.inl rfl) (fun hge o' r' ho' => ?_) ?_
      · rw [ho] at ho'; cases ho'; exact hge
      · refine RdT.go ho hms ?_ hx
        refine ir.part rp (by omega) (Nat.le_refl _) hrest (fun hge o' r' ho' => ?_) (RdT.stop fun o' r' ho' => ?_)
        · have := hc o' r' ho'; omega
        · have := hc o' r' ho'; omega

/-- Unlike trees are written unlike. -/
theorem text_inj {a b : T} (ha : goodT a = true) (wa : a.wf) (hb : goodT b = true) (wb : b.wf) (h : textT a = textT b) : a = b := by
  have ra := (reads a ha wa).2 1 [] (a, []) (by omega) (strT_pos ha wa) trivial (fun o r' ho => by cases ho) (RdT.stop fun o r' ho => by cases ho)
  have rb := (reads b hb wb).2 1 [] (b, []) (by omega) (strT_pos hb wb) trivial (fun o r' ho => by cases ho) (RdT.stop fun o r' ho => by cases ho)
  rw [h] at ra
  have := ra.det rb
  exact (Prod.mk.inj this).1
end Go.Pm
end

section
set_option linter.unusedSimpArgs false
set_option linter.unusedVariables false
set_option linter.unusedSectionVars false
/- ExprSame: the plain law. -/
set_option maxRecDepth 100000
set_option linter.unusedSimpArgs false
set_option linter.unusedVariables false
namespace Go.Pm

def kindT : T → Int
  | .nil => -1
  | .node k .. => k
theorem kind_leaf {x : It} (h : x.k = 0 ∨ x.k = 1 ∨ x.k = 2 ∨ x.k = 3) : kindT (leafT x) = x.k := by
  unfold leafT
  rcases h with h | h | h | h <;> simp [h, kindT]
theorem leaf_alike {x y : It} (hx : x.k = 0 ∨ x.k = 1 ∨ x.k = 2 ∨ x.k = 3) (hy : y.k = 0 ∨ y.k = 1 ∨ y.k = 2 ∨ y.k = 3) : alikeB x y = true ↔ leafT x = leafT y := by
  by_cases hk : x.k = y.k
  · rcases hx with h | h | h | h <;> (have h' := h; rw [hk] at h') <;> simp [alikeB, leafT, h, h', hk]
  · constructor
    · intro h; unfold alikeB at h; rw [if_neg hk] at h; cases h
    · intro h
      have := congrArg kindT h
      rw [kind_leaf hx, kind_leaf hy] at this
      exact absurd this hk
theorem alike_kind {x y : It} (h : alikeB x y = true) : x.k = y.k := by
  unfold alikeB at h
  split at h
  · assumption
  · cases h
theorem alike_op {x y : It} (hk : x.k = y.k) (h : x.k = 4 ∨ x.k = 5) : alikeB x y = true ↔ x.o = y.o := by
  unfold alikeB
  rw [if_pos hk]
  rcases h with h | h <;> simp [h]

def allAt (a b : List It) (p q : Nat) : Prop := ∀ i, p ≤ i → i < q → alikeAt a b i = true
theorem kind_tree : ∀ (n : Nat) (l : List It) (p : Nat) (e : E) (q : Nat) (x : It), l[p]? = some x → parse n l p = some (e, q) → kindT e.tree = x.k
  | 0, _, _, _, _, _, _, h => by simp [parse] at h
  | n + 1, l, p, e, q, x, hx, h => by
    simp only [parse, hx] at h
    split at h
    · rename_i h1
      split at h
      · cases h; rw [(parts_one h1).1]; rfl
      · cases h
    · split at h
      · rename_i h2
        split at h
        · split at h
          · cases h; rw [(parts_two h2).1]; rfl
          · cases h
        · cases h
      · split at h
        · rename_i h0
          cases h
          exact kind_leaf (parts_zero h0).2
        · cases h

theorem rows_same : ∀ (n : Nat) (a b : List It) (p : Nat) (e e' : E) (q q' : Nat), parse n a p = some (e, q) → parse n b p = some (e', q') →
    (allAt a b p q → e.tree = e'.tree ∧ q = q') ∧ (e.tree = e'.tree → q = q' ∧ allAt a b p q)
  | 0, _, _, _, _, _, _, _, h, _ => by simp [parse] at h
  | n + 1, a, b, p, e, e', q, q', h, h' => by
    cases hx : a[p]? with
    | none => simp [parse, hx] at h
    | some x =>
      cases hy : b[p]? with
      | none => simp [parse, hy] at h'
      | some y =>
        have kx := kind_tree (n + 1) a p e q x hx h
        have ky := kind_tree (n + 1) b p e' q' y hy h'
        have lq := (parse_le _ _ _ _ _ h).1
        have at_ : alikeAt a b p = alikeB x y := by unfold alikeAt; rw [hx, hy]
        by_cases hk : x.k = y.k
        rotate_left
        · constructor
          · intro hall
            have := hall p (Nat.le_refl _) lq
            rw [at_] at this
            exact absurd (alike_kind this) hk
          · intro ht
            rw [← kx, ← ky, ht] at hk
            exact absurd rfl hk
        simp only [parse, hx] at h
        simp only [parse, hy] at h'
        split at h
        · rename_i h1
          have k4 := (parts_one h1).1
          have ny2 : partsZ y ≠ 2 := fun hh => by have := (parts_two hh).1; omega
          have ny0 : partsZ y ≠ 0 := fun hh => by have := (parts_zero hh).2; omega
          rw [if_neg ny2, if_neg ny0] at h'
          split at h'
          rotate_left
          · cases h'
          split at h
          rotate_left
          · cases h
          rename_i u q1 hu
          split at h'
          rotate_left
          · cases h'
          rename_i v q2 hv
          cases h
          cases h'
          have ih := rows_same n a b (p + 1) _ _ _ _ hu hv
          have le := parse_le _ _ _ _ _ hu
          have op := alike_op hk (.inl k4)
          constructor
          · intro hall
            obtain ⟨g1, g2⟩ := ih.1 fun i h1 h2 => hall i (by omega) h2
            have := hall p (Nat.le_refl _) lq
            rw [at_] at this
            exact ⟨by simp only [E.tree, g1, op.1 this], g2⟩
          · intro ht
            simp only [E.tree, T.node.injEq, true_and, and_true] at ht
            obtain ⟨g1, g2⟩ := ih.2 ht.2
            refine ⟨g1, fun i h1 h2 => ?_⟩
            by_cases hi : i = p
            · subst hi; rw [at_]; exact op.2 ht.1
            · exact g2 i (by omega) h2
        · rename_i n1
          split at h
          · rename_i h1
            have k5 := (parts_two h1).1
            have ny1 : partsZ y ≠ 1 := fun hh => by have := (parts_one hh).1; omega
            have ny0 : partsZ y ≠ 0 := fun hh => by have := (parts_zero hh).2; omega
            rw [if_neg ny1, if_neg ny0] at h'
            split at h'
            rotate_left
            · cases h'
            split at h
            rotate_left
            · cases h
            rename_i u q1 hu
            split at h
            rotate_left
            · cases h
            rename_i u2 q3 hu2
            split at h'
            rotate_left
            · cases h'
            rename_i v q2 hv
            split at h'
            rotate_left
            · cases h'
            rename_i v2 q4 hv2
            cases h
            cases h'
            have ih := rows_same n a b (p + 1) _ _ _ _ hu hv
            have le := parse_le _ _ _ _ _ hu
            have le2 := parse_le _ _ _ _ _ hu2
            have op := alike_op hk (.inr k5)
            constructor
            · intro hall
              obtain ⟨g1, g2⟩ := ih.1 fun i h1 h2 => hall i (by omega) (by omega)
              subst g2
              obtain ⟨g3, g4⟩ := (rows_same n a b q1 _ _ _ _ hu2 hv2).1 fun i h1 h2 => hall i (by omega) (by omega)
              have := hall p (Nat.le_refl _) lq
              rw [at_] at this
              exact ⟨by simp only [E.tree, g1, g3, op.1 this], g4⟩
            · intro ht
              simp only [E.tree, T.node.injEq, true_and, and_true] at ht
              obtain ⟨g1, g2⟩ := ih.2 ht.2.1
              subst g1
              obtain ⟨g3, g4⟩ := (rows_same n a b q1 _ _ _ _ hu2 hv2).2 ht.2.2
              refine ⟨g3, fun i h1 h2 => ?_⟩
              by_cases hi : i = p
              · subst hi; rw [at_]; exact op.2 ht.1
              · by_cases hi2 : i < q1
                · exact g2 i (by omega) hi2
                · exact g4 i (by omega) h2
          · split at h
            rotate_left
            · cases h
            rename_i n2 h0
            have k0 := (parts_zero h0).2
            have ny1 : partsZ y ≠ 1 := fun hh => by have := (parts_one hh).1; omega
            have ny2 : partsZ y ≠ 2 := fun hh => by have := (parts_two hh).1; omega
            rw [if_neg ny1, if_neg ny2] at h'
            split at h'
            rotate_left
            · cases h'
            rename_i h0'
            have k0' := (parts_zero h0').2
            cases h
            cases h'
            have la := leaf_alike k0 k0'
            constructor
            · intro hall
              have := hall p (Nat.le_refl _) lq
              rw [at_] at this
              exact ⟨la.1 this, rfl⟩
            · intro ht
              refine ⟨rfl, fun i h1 h2 => ?_⟩
              have hi : i = p := by omega
              subst hi
              rw [at_]
              exact la.2 ht

theorem loop_all (a b : List It) : ∀ (n i : Nat) (s : Bool), loopB a b n i s = true ↔ s = true ∧ allAt a b i (i + n)
  | 0, i, s => by simp only [loopB, allAt]; constructor <;> intro h; exact ⟨h, fun j h1 h2 => by omega⟩; exact h.1
  | n + 1, i, s => by
    cases s with
    | false => simp [loopB]
    | true =>
      simp only [loopB, if_true, true_and, loop_all a b n (i + 1)]
      constructor
      · rintro ⟨h1, h2⟩ j h3 h4
        by_cases hj : j = i
        · subst hj; exact h1
        · exact h2 j (by omega) (by omega)
      · intro h
        exact ⟨h i (by omega) (by omega), fun j h1 h2 => h j (by omega) (by omega)⟩

theorem plain_same (a b : List It) (ha : wfL a) (hb : wfL b) (m n : Nat) (la : a.length ≤ 60) (lb : b.length ≤ 60) (ga : goodB a = true) (gb : goodB b = true) (hm : (endZ a 0).1 = m) (hn : (endZ b 0).1 = n) :
    sameM (ofT 20 a 0).1 (ofT 20 b 0).1 = loopB a b m 0 ((m : Int) == (n : Int)) ∧ (textM (ofT 20 a 0).1 == textM (ofT 20 b 0).1) = loopB a b m 0 ((m : Int) == (n : Int)) := by
  have key : ∀ (l : List It) (m : Nat), wfL l → goodB l = true → (endZ l 0).1 = m → ∃ e : E, exprAt l 0 = some (e, m) ∧ (ofT 20 l 0).1 = e.tree ∧ mayT e.tree = true ∧ e.tree.wf := by
    intro l m hw hg hm
    unfold goodB at hg
    simp only [Bool.and_eq_true, decide_eq_true_eq] at hg
    unfold endZ at hg hm
    cases he : exprAt l 0 with
    | none => rw [he] at hg; simp at hg
    | some r =>
      obtain ⟨e, q⟩ := r
      rw [he] at hg hm
      simp only at hg hm
      have hq : q = m := by omega
      subst hq
      have ho := of_parse 20 l 0 e q he (by omega)
      have hmay := may_of l
      rw [he, ho] at hmay
      simp only at hmay
      rw [decide_eq_true hg.2] at hmay
      have hwf := ofT_wf 20 l 0 hw
      rw [ho] at hwf
      exact ⟨e, rfl, by rw [ho], hmay, hwf⟩
  obtain ⟨e, e1, e2, e3, e4⟩ := key a m ha ga hm
  obtain ⟨f, f1, f2, f3, f4⟩ := key b n hb gb hn
  rw [e2, f2]
  have p1 : parse 100 a 0 = some (e, m) := by rw [exprAt_eq (by omega)]; exact e1
  have p2 : parse 100 b 0 = some (f, n) := by rw [exprAt_eq (by omega)]; exact f1
  have rs := rows_same 100 a b 0 e f m n p1 p2
  have iff : loopB a b m 0 ((m : Int) == (n : Int)) = true ↔ e.tree = f.tree := by
    rw [loop_all, Nat.zero_add]
    constructor
    · rintro ⟨_, h⟩; exact (rs.1 h).1
    · intro h
      obtain ⟨h1, h2⟩ := rs.2 h
      subst h1
      exact ⟨by simp, h2⟩
  constructor
  · rw [Bool.eq_iff_iff, iff]
    unfold sameM
    rw [e3, f3, Bool.true_and, Bool.true_and]
    exact sameT_iff _ _
  · rw [Bool.eq_iff_iff, iff, beq_iff_eq]
    unfold textM
    rw [if_pos e3, if_pos f3]
    constructor
    · exact text_inj (may_good e3) e4 (may_good f3) f4
    · intro h; rw [h]
end Go.Pm
end

section
set_option linter.unusedSimpArgs false
set_option linter.unusedVariables false
set_option linter.unusedSectionVars false
/- ExprSame: what the machine answers. -/
set_option maxRecDepth 100000
namespace Go.Proofs.YtehcekeccnlboaaDoor
open Go.Pm

theorem exGl_met {W : World} {laid : List (String × DataW Unit)} (h : laidMet Tryd.prog laid W) (h1 : ("troth/num.texts", Rows.laid_troth_num_texts) ∈ laid)
    (h4 : ("internal/strconv.uint64pow10", Rows.laid_internal_strconv_uint64pow10) ∈ laid) (h6 : ("math/bits.deBruijn32tab", Rows.laid_math_bits_deBruijn32tab) ∈ laid) (h7 : ("math/bits.deBruijn64tab", Rows.laid_math_bits_deBruijn64tab) ∈ laid) : GR (lookG exprGl) (wctx W) :=
  GR_of (by
    unfold exprGl
    simp only [List.forall_mem_cons]
    exact ⟨laid_texts h h1, laid_pow10 h h4, laid_32tab h h6, laid_64tab h h7, by simp⟩)

def itSh : Sh := .st [.int .u8, .int .u8, .int .u64, .int .u8, .int .u8, .int .u8]

theorem item_of {r : List AV} (h : Shaped itSh r) : ∃ x : It, mkEl 6 r = x.av ∧ x.wf := by
  obtain ⟨_, _, rfl, ⟨k, rfl, k1, k2⟩, _, _, rfl, ⟨o, rfl, o1, o2⟩, _, _, rfl, ⟨n, rfl, n1, n2⟩, _, _, rfl, ⟨t, rfl, t1, t2⟩, _, _, rfl, ⟨i, rfl, i1, i2⟩, _, _, rfl, ⟨x, rfl, x1, x2⟩, hh⟩ := h
  obtain rfl := hh
  simp only [show IntKind.u8.min = 0 from rfl, show IntKind.u8.max = 255 from rfl, show IntKind.u64.min = 0 from rfl, show IntKind.u64.max = 18446744073709551615 from rfl] at k1 k2 o1 o2 n1 n2 t1 t2 i1 i2 x1 x2
  exact ⟨⟨k, o, n, t, i, x⟩, rfl, ⟨k1, by simp only; omega⟩, ⟨o1, by simp only; omega⟩, ⟨n1, by simp only; omega⟩, ⟨t1, by simp only; omega⟩, ⟨i1, by simp only; omega⟩, ⟨x1, by simp only; omega⟩⟩

theorem items_of : ∀ {rows : List (List AV)}, (∀ r ∈ rows, Shaped itSh r) → ∃ l : List It, rows.map (mkEl 6) = l.map It.av ∧ wfL l
  | [], _ => ⟨[], rfl, fun _ h => by cases h⟩
  | r :: rows, h => by
    obtain ⟨x, hx, hw⟩ := item_of (h r (by simp))
    obtain ⟨l, hl, hwl⟩ := items_of (rows := rows) fun q hq => h q (by simp [hq])
    refine ⟨x :: l, by simp only [List.map_cons, hx, hl], fun y hy => ?_⟩
    rcases List.mem_cons.1 hy with rfl | hy
    · exact hw
    · exact hwl y hy

theorem row_of {avs : List AV} (h : Shaped (.sl itSh) avs) : ∃ l : List It, avs = [rowA l] ∧ wfL l := by
  obtain ⟨rows, rfl, _, h⟩ := h
  obtain ⟨l, hl, hw⟩ := items_of h
  exact ⟨l, by unfold rowA; rw [show Sh.size itSh = 6 from rfl, hl], hw⟩

theorem exprSame_go (W : World) (hL : laidMetH Tryd.prog Rows.exprSameRow.laid W) (hs : W.ShapedOpen Tryd.prog) :
    ∃ G : Globals, GR G (wctx W) ∧ ∀ xs, ShapedAll [.sl itSh, .sl itSh] xs → ∃ (call : CallA) (σ' : Store), CallS Tryd.prog G call ∧ call 3 xs [] = some (.ret (.bool true), σ') := by
  have hl : laidMet Tryd.prog Rows.exprSameRow.laid W := hL
  refine ⟨exG, exGl_met hl (.tail _ (.tail _ (.tail _ (.head _)))) (.tail _ (.tail _ (.head _))) (.head _) (.tail _ (.head _)), ?_⟩
  intro xs has
  obtain ⟨u, v, rfl, h1, has⟩ := has
  obtain ⟨u2, v2, rfl, h2, has⟩ := has
  obtain rfl : v2 = [] := has
  obtain ⟨a, rfl, ha⟩ := row_of h1
  obtain ⟨b, rfl, hb⟩ := row_of h2
  obtain ⟨σ', h⟩ := sameLaw (call := rwW) (G := exG) a b ha hb rwW_wakes (fun x y σ => rwW_alike (x, y) σ trivial) (fun l σ hl => rwW_good l σ hl)
    (fun l σ hl => rwW_of (l, 0, 20) σ ⟨hl.2, by simp, by simp, by simp⟩) (fun x y σ hx hy => rwW_same (x, y) σ ⟨hx, hy⟩) (fun x σ hx => rwW_text x σ hx)
    (fun m n la lb ga gb hm hn => plain_same a b ha hb m n la lb ga gb hm hn)
  exact law_call (fuel := 100) (σ' := σ') rwW_sound mixed exG_pure ok3 h
end Go.Proofs.YtehcekeccnlboaaDoor
end

section
set_option linter.unusedSimpArgs false
set_option linter.unusedVariables false
set_option linter.unusedSectionVars false
/- ExprSame: the statement. -/
set_option maxRecDepth 100000
namespace Go.Proofs.YtehcekeccnlboaaDoor
open Go.Pm

theorem exprSame_door (os : Os) (args : Array Value) : laidMetH Tryd.prog Rows.exprSameRow.laid ((World.doorLaid Tryd.prog 400 os).forCall (fun _ _ => 0) ⟨#[], args, []⟩).memory :=
  laidMetH_of_parts3 (fuel := 8) (laidMet_of_run' 8 (by kernel_rfl) (by kernel_rfl)) (by kernel_rfl) (by kernel_rfl)

theorem exprSame_lifted (os : Os) (started : os.Started) (H : Type) (enc : TypeId × Value → H) :
    ReturnsInHanded {} Tryd.checked os 3 .any (fun w args => (Rows.exprSameSpec.pre enc Tryd.prog Tryd.f3 [] false w args ∧ laidMetH Tryd.prog Rows.exprSameRow.laid w) ∧ sizedMet enc Tryd.prog Tryd.f3 (OpenSpec.ofChange Rows.exprSameSpec) false w args)
      (Rows.exprSameSpec.post enc Tryd.prog Tryd.f3 false true false false) :=
  law_lifted (C := Tryd.checked) 20 [.sl itSh, .sl itSh] own started (by kernel_rfl) Tryd.func3
    (ChangeSpec.witness_shaped (enc := enc) (C := Tryd.checked) (os := os) (X := fun w _ => laidMetH Tryd.prog Rows.exprSameRow.laid w) false (World.doorLaid Tryd.prog 400 os) #[.slice none 0 0, .slice none 0 0] 20 rfl (World.shaped_of_RefB (by kernel_rfl) (by kernel_rfl)) (by kernel_rfl) (by kernel_rfl) (by kernel_rfl) (exprSame_door os _))
    rfl (fun ds h => by
      have hp : Tryd.f3.params.toList.length = 2 := by kernel_rfl
      rw [hp] at h
      match ds, h with
      | [_, _], _ => rfl) (tb := 4) (by kernel_rfl) (by kernel_rfl) laidOut (by kernel_rfl) (by kernel_rfl) exprSame_go

theorem exprSame_row : Rows.ExprSameSaid :=
  OpenClaim.holds_of_wide 3 Tryd.f3 rfl rfl rfl rfl rfl rfl rfl ⟨rfl, rfl, rfl, rfl, rfl⟩ rfl rfl rfl rfl rfl (by kernel_rfl) Tryd.func3 (by kernel_rfl)
    (of_decide_eq_true (by kernel_rfl)) (by unfold Func.isWrapper; rw [if_neg (by decide +kernel)]; exact ⟨rfl, rfl⟩)
    (fun os started H enc _ => exprSame_lifted os started H enc)

theorem exprSame_holds : Rows.ExprSameCardSaid :=
  Claim7.holds_tied_plain_at .later [] [.data, .data, .data, .data] true (true, "fb664ba62042774bf3f3f7a5c558e3e76a079831b744c089e1a6d58fa548ceb2") true
    exprSame_row (fun _ h => by cases h) (by kernel_rfl) (fun _ h => by cases h) exprSame_row_tie rfl ⟨rfl, rfl⟩ (by kernel_rfl) rfl
    (fun f fn hf hfn => by
      obtain rfl : f = 3 := Option.some.inj ((show Tryd.prog.funcNamed "troth/trothlaw03.ExprSame" = some 3 by kernel_rfl).symm.trans hf) |>.symm
      obtain rfl : fn = Tryd.f3 := (Option.some.inj (Tryd.func3.symm.trans hfn)).symm
      exact ⟨by kernel_rfl, fun j t ht => by
        have hall : (Tryd.f3.params.toList.all fun u => !Tryd.prog.wantsStandIn u) = true := by kernel_rfl
        have hm : t ∈ Tryd.f3.params.toList := by simpa using Array.mem_of_getElem? ht
        exact (show Tryd.prog.wantsStandIn t = false by simpa using List.all_eq_true.1 hall t hm)⟩)
    (by kernel_rfl)
#print axioms exprSame_holds
end Go.Proofs.YtehcekeccnlboaaDoor
end
