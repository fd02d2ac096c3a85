/- Proof that ProgModes (how any mode is written, which a kind may have, blocks that are too deep) returns true, for the program as translated, under the conditions of its given row and card: over a machine on plain data that is proved sound for the model. Here: DLex1, DLex2, DS1, DLex3, DLex4, DLex5, DLex6, DLex7, DLex8, DModesA, DModes, DGoModes, DRowModes -/
import Derived.Test.YtehcekeccnlboaaDoorB3
import Derived.KernelRfl
import Derived.SevenTiedAt
import Derived.LaidMore

section
set_option linter.unusedSimpArgs false
set_option linter.unusedVariables false
set_option linter.unusedSectionVars false
/- The lexer's small functions. -/
set_option maxRecDepth 100000
set_option linter.unusedSimpArgs false
namespace Go.Pm
section
variable {call : CallA} {draw : DrawA} {G : Globals} {fuel : Nat}

def digitB (c : UInt8) : Bool := 48 ≤ c.toNat && c.toNat ≤ 57
def letterB (c : UInt8) : Bool := 97 ≤ c.toNat && c.toNat ≤ 122
def wordB (c : UInt8) : Bool := letterB c || digitB c
def noLf (c : UInt8) : Bool := !(c.toNat == 10)

theorem digit_spec (c : UInt8) (σ : Store) : evalFn call draw G fuel i59 [.int .u8 c.toNat] σ = some (.ret (.bool (digitB c)), σ) := by
  have e1 : ((c.toNat : Int) ≥ 48) = (48 ≤ c.toNat) := by simp; omega
  have e2 : ((c.toNat : Int) ≤ 57) = (c.toNat ≤ 57) := by simp; omega
  by_cases h : 48 ≤ c.toNat <;> by_cases h' : c.toNat ≤ 57 <;> simp only [evalFn, params, List.length_cons, List.length_nil, Nat.reduceAdd, evalCode, evalOps, guardOk, evalOp, AX.ev, look, putE, val, evs, optEv, binA, intBin, wrapI, unA, callM, keepE_cons, keepE_nil, callC, strips, stripWs, stripW, AV.flatv, flatvs, Nat.reduceEqDiff, if_true, if_false, reduceIte, Int.toNat_natCast, List.append_nil, List.nil_append, List.cons_append, decide_true, decide_false, bft, btf, btt, bff, Bool.false_eq_true, resultsA, oneOrTup, Option.map_some, Option.map_none, Bool.not_true, Bool.not_false, loadAt, storeAt, storeOf, partOf, List.getElem?_cons_zero, List.getElem?_cons_succ, List.set_cons_zero, List.set_cons_succ, AV.cells, AV.isCell, List.all_cons, List.all_nil, Bool.and_true, Bool.and_false, Bool.false_and, Bool.true_and, Bool.and_self, and_true, true_and, and_self, putAt, hasLabel, Bool.or_false, Bool.false_or, Bool.or_true, Bool.true_or, fillA, pickParts, pickSl, strBin, eqA, eqCell, ne_eq, not_true_eq_false, not_false_eq_true, Nat.reduceLeDiff, Nat.reduceLT, Nat.reduceMul, Nat.reduceSub, Nat.zero_add, Nat.add_zero, Option.bind_some, asNat, bounds2, reduceCtorEq, List.take_succ_cons, List.take_zero, List.drop_succ_cons, List.drop_zero, Nat.reduceBEq, List.take_nil, List.drop_nil, Int.reduceLE, Int.reduceLT, Int.reduceToNat, Int.toNat_zero, Int.reduceBEq, Int.le_refl, Nat.le_refl, i59, digitB, e1, e2, h, h']

theorem letter_spec (c : UInt8) (σ : Store) : evalFn call draw G fuel i61 [.int .u8 c.toNat] σ = some (.ret (.bool (letterB c)), σ) := by
  have e1 : ((c.toNat : Int) ≥ 97) = (97 ≤ c.toNat) := by simp; omega
  have e2 : ((c.toNat : Int) ≤ 122) = (c.toNat ≤ 122) := by simp; omega
  by_cases h : 97 ≤ c.toNat <;> by_cases h' : c.toNat ≤ 122 <;> simp only [evalFn, params, List.length_cons, List.length_nil, Nat.reduceAdd, evalCode, evalOps, guardOk, evalOp, AX.ev, look, putE, val, evs, optEv, binA, intBin, wrapI, unA, callM, keepE_cons, keepE_nil, callC, strips, stripWs, stripW, AV.flatv, flatvs, Nat.reduceEqDiff, if_true, if_false, reduceIte, Int.toNat_natCast, List.append_nil, List.nil_append, List.cons_append, decide_true, decide_false, bft, btf, btt, bff, Bool.false_eq_true, resultsA, oneOrTup, Option.map_some, Option.map_none, Bool.not_true, Bool.not_false, loadAt, storeAt, storeOf, partOf, List.getElem?_cons_zero, List.getElem?_cons_succ, List.set_cons_zero, List.set_cons_succ, AV.cells, AV.isCell, List.all_cons, List.all_nil, Bool.and_true, Bool.and_false, Bool.false_and, Bool.true_and, Bool.and_self, and_true, true_and, and_self, putAt, hasLabel, Bool.or_false, Bool.false_or, Bool.or_true, Bool.true_or, fillA, pickParts, pickSl, strBin, eqA, eqCell, ne_eq, not_true_eq_false, not_false_eq_true, Nat.reduceLeDiff, Nat.reduceLT, Nat.reduceMul, Nat.reduceSub, Nat.zero_add, Nat.add_zero, Option.bind_some, asNat, bounds2, reduceCtorEq, List.take_succ_cons, List.take_zero, List.drop_succ_cons, List.drop_zero, Nat.reduceBEq, List.take_nil, List.drop_nil, Int.reduceLE, Int.reduceLT, Int.reduceToNat, Int.toNat_zero, Int.reduceBEq, Int.le_refl, Nat.le_refl, i61, letterB, e1, e2, h, h']

theorem noLf_spec (c : UInt8) (σ : Store) : evalFn call draw G fuel i58 [.int .u8 c.toNat] σ = some (.ret (.bool (noLf c)), σ) := by
  have e1 : (((c.toNat : Int)) != 10) = !(c.toNat == 10) := by
    by_cases h : c.toNat = 10
    · rw [h]; rfl
    · have : ¬ (c.toNat : Int) = 10 := by omega
      simp only [bne, beq_eq_false_iff_ne.2 h, beq_eq_false_iff_ne.2 this]
  simp only [evalFn, params, List.length_cons, List.length_nil, Nat.reduceAdd, evalCode, evalOps, guardOk, evalOp, AX.ev, look, putE, val, evs, optEv, binA, intBin, wrapI, unA, callM, keepE_cons, keepE_nil, callC, strips, stripWs, stripW, AV.flatv, flatvs, Nat.reduceEqDiff, if_true, if_false, reduceIte, Int.toNat_natCast, List.append_nil, List.nil_append, List.cons_append, decide_true, decide_false, bft, btf, btt, bff, Bool.false_eq_true, resultsA, oneOrTup, Option.map_some, Option.map_none, Bool.not_true, Bool.not_false, loadAt, storeAt, storeOf, partOf, List.getElem?_cons_zero, List.getElem?_cons_succ, List.set_cons_zero, List.set_cons_succ, AV.cells, AV.isCell, List.all_cons, List.all_nil, Bool.and_true, Bool.and_false, Bool.false_and, Bool.true_and, Bool.and_self, and_true, true_and, and_self, putAt, hasLabel, Bool.or_false, Bool.false_or, Bool.or_true, Bool.true_or, fillA, pickParts, pickSl, strBin, eqA, eqCell, ne_eq, not_true_eq_false, not_false_eq_true, Nat.reduceLeDiff, Nat.reduceLT, Nat.reduceMul, Nat.reduceSub, Nat.zero_add, Nat.add_zero, Option.bind_some, asNat, bounds2, reduceCtorEq, List.take_succ_cons, List.take_zero, List.drop_succ_cons, List.drop_zero, Nat.reduceBEq, List.take_nil, List.drop_nil, Int.reduceLE, Int.reduceLT, Int.reduceToNat, Int.toNat_zero, Int.reduceBEq, Int.le_refl, Nat.le_refl, i58, noLf, e1]
end
end Go.Pm
end

section
set_option linter.unusedSimpArgs false
set_option linter.unusedVariables false
set_option linter.unusedSectionVars false
/- The lexer: a word's bytes, a sign. -/
set_option maxRecDepth 100000
set_option linter.unusedSimpArgs false
namespace Go.Pm
section
variable {call : CallA} {draw : DrawA} {G : Globals} {fuel : Nat}

theorem word_spec (h59 : ∀ (c : UInt8) σ, call 59 [.int .u8 c.toNat] σ = some (.ret (.bool (digitB c)), σ)) (h61 : ∀ (c : UInt8) σ, call 61 [.int .u8 c.toNat] σ = some (.ret (.bool (letterB c)), σ))
    (c : UInt8) (σ : Store) : evalFn call draw G fuel i62 [.int .u8 c.toNat] σ = some (.ret (.bool (wordB c)), σ) := by
  cases h : letterB c <;> simp only [evalFn, params, List.length_cons, List.length_nil, Nat.reduceAdd, evalCode, evalOps, guardOk, evalOp, AX.ev, look, putE, val, evs, optEv, binA, intBin, wrapI, unA, callM, keepE_cons, keepE_nil, callC, strips, stripWs, stripW, AV.flatv, flatvs, Nat.reduceEqDiff, if_true, if_false, reduceIte, Int.toNat_natCast, List.append_nil, List.nil_append, List.cons_append, decide_true, decide_false, bft, btf, btt, bff, Bool.false_eq_true, resultsA, oneOrTup, Option.map_some, Option.map_none, Bool.not_true, Bool.not_false, loadAt, storeAt, storeOf, partOf, List.getElem?_cons_zero, List.getElem?_cons_succ, List.set_cons_zero, List.set_cons_succ, AV.cells, AV.isCell, List.all_cons, List.all_nil, Bool.and_true, Bool.and_false, Bool.false_and, Bool.true_and, Bool.and_self, and_true, true_and, and_self, putAt, hasLabel, Bool.or_false, Bool.false_or, Bool.or_true, Bool.true_or, fillA, pickParts, pickSl, strBin, eqA, eqCell, ne_eq, not_true_eq_false, not_false_eq_true, Nat.reduceLeDiff, Nat.reduceLT, Nat.reduceMul, Nat.reduceSub, Nat.zero_add, Nat.add_zero, Option.bind_some, asNat, bounds2, reduceCtorEq, List.take_succ_cons, List.take_zero, List.drop_succ_cons, List.drop_zero, Nat.reduceBEq, List.take_nil, List.drop_nil, Int.reduceLE, Int.reduceLT, Int.reduceToNat, Int.toNat_zero, Int.reduceBEq, Int.le_refl, Nat.le_refl, i62, wordB, h59, h61, h]

def longS : List UInt8 := [61, 61, 32, 33, 61, 32, 60, 61]
def shortS : List UInt8 := [60, 61, 33, 43, 45, 124, 94, 42, 47, 37, 38, 40, 41, 123, 125, 44, 59, 58]

def signN : List UInt8 → Nat
  | [] => 0
  | [a] => if containsB [a] shortS then 1 else 0
  | a :: b :: _ => if b.toNat == 61 && containsB [a, b] longS then 2 else if containsB [a] shortS then 1 else 0

theorem sign_spec (h101 : ∀ (s t : List UInt8) σ, s.length < 100 → t.length < 100 → call 101 [.str s, .str t] σ = some (.ret (.bool (containsB t s)), σ))
    (a : UInt8) (s : List UInt8) (σ : Store) (hs : s.length < 9223372036854775807) : evalFn call draw G fuel i63 [.str (a :: s)] σ = some (.ret (.int .i64 (signN (a :: s))), σ) := by
  have q1 : ∀ t : List UInt8, t.length < 100 → ∀ σ, call 101 [.str [60, 61, 33, 43, 45, 124, 94, 42, 47, 37, 38, 40, 41, 123, 125, 44, 59, 58], .str t] σ = some (.ret (.bool (containsB t shortS)), σ) := fun t ht σ => h101 _ _ σ (by decide) ht
  have q2 : ∀ t : List UInt8, t.length < 100 → ∀ σ, call 101 [.str [61, 61, 32, 33, 61, 32, 60, 61], .str t] σ = some (.ret (.bool (containsB t longS)), σ) := fun t ht σ => h101 _ _ σ (by decide) ht
  cases s with
  | nil =>
    have e1 : (((1 : Nat) : Int) > 1) = False := by simp
    have e2 : ((0 : Int) ≤ 1 ∧ (1 : Int) ≤ ((1 : Nat) : Int)) = True := by simp
    have e8 : ((1 : Int) ≤ ((1 : Nat) : Int)) = True := by simp
    have e3 := q1 [a] (by simp)
    cases hc : containsB [a] shortS <;> simp only [evalFn, params, List.length_cons, List.length_nil, Nat.reduceAdd, evalCode, evalOps, guardOk, evalOp, AX.ev, look, putE, val, evs, optEv, binA, intBin, wrapI, unA, callM, keepE_cons, keepE_nil, callC, strips, stripWs, stripW, AV.flatv, flatvs, Nat.reduceEqDiff, if_true, if_false, reduceIte, Int.toNat_natCast, List.append_nil, List.nil_append, List.cons_append, decide_true, decide_false, bft, btf, btt, bff, Bool.false_eq_true, resultsA, oneOrTup, Option.map_some, Option.map_none, Bool.not_true, Bool.not_false, loadAt, storeAt, storeOf, partOf, List.getElem?_cons_zero, List.getElem?_cons_succ, List.set_cons_zero, List.set_cons_succ, AV.cells, AV.isCell, List.all_cons, List.all_nil, Bool.and_true, Bool.and_false, Bool.false_and, Bool.true_and, Bool.and_self, and_true, true_and, and_self, putAt, hasLabel, Bool.or_false, Bool.false_or, Bool.or_true, Bool.true_or, fillA, pickParts, pickSl, strBin, eqA, eqCell, ne_eq, not_true_eq_false, not_false_eq_true, Nat.reduceLeDiff, Nat.reduceLT, Nat.reduceMul, Nat.reduceSub, Nat.zero_add, Nat.add_zero, Option.bind_some, asNat, bounds2, reduceCtorEq, List.take_succ_cons, List.take_zero, List.drop_succ_cons, List.drop_zero, Nat.reduceBEq, List.take_nil, List.drop_nil, Int.reduceLE, Int.reduceLT, Int.reduceToNat, Int.toNat_zero, Int.reduceBEq, Int.le_refl, Nat.le_refl, i63, signN, e1, e2, e3, e8, hc, List.take_succ_cons, List.take_zero, List.drop_zero, Int.toNat_one, Int.reduceToNat]
    all_goals rfl
  | cons b s =>
    have e1 : (((s.length + 1 + 1 : Nat) : Int) > 1) = True := by simp; omega
    have e2 : ((0 : Int) ≤ 1 ∧ (1 : Int) ≤ ((s.length + 1 + 1 : Nat) : Int)) = True := by simp; omega
    have e4 : ((0 : Int) ≤ 2 ∧ (2 : Int) ≤ ((s.length + 1 + 1 : Nat) : Int)) = True := by simp; omega
    have e3 := q1 [a] (by simp)
    have e5 := q2 [a, b] (by simp)
    have e6 : ((b.toNat : Int) == 61) = (b.toNat == 61) := by
      by_cases h : b.toNat = 61
      · rw [h]; rfl
      · have : ¬ (b.toNat : Int) = 61 := by omega
        rw [beq_eq_false_iff_ne.2 h, beq_eq_false_iff_ne.2 this]
    have e7 : (0 ≤ (1 : Int)) = True := by simp
    have e8 : ((1 : Int) ≤ ((s.length + 1 + 1 : Nat) : Int)) = True := by simp; omega
    have e9 : ((2 : Int) ≤ ((s.length + 1 + 1 : Nat) : Int)) = True := by simp; omega
    have e10 : ((0 : Int) ≤ 2) = True := by simp
    cases hb : (b.toNat == 61) <;> cases hl : containsB [a, b] longS <;> cases hc : containsB [a] shortS <;>
      simp only [evalFn, params, List.length_cons, List.length_nil, Nat.reduceAdd, evalCode, evalOps, guardOk, evalOp, AX.ev, look, putE, val, evs, optEv, binA, intBin, wrapI, unA, callM, keepE_cons, keepE_nil, callC, strips, stripWs, stripW, AV.flatv, flatvs, Nat.reduceEqDiff, if_true, if_false, reduceIte, Int.toNat_natCast, List.append_nil, List.nil_append, List.cons_append, decide_true, decide_false, bft, btf, btt, bff, Bool.false_eq_true, resultsA, oneOrTup, Option.map_some, Option.map_none, Bool.not_true, Bool.not_false, loadAt, storeAt, storeOf, partOf, List.getElem?_cons_zero, List.getElem?_cons_succ, List.set_cons_zero, List.set_cons_succ, AV.cells, AV.isCell, List.all_cons, List.all_nil, Bool.and_true, Bool.and_false, Bool.false_and, Bool.true_and, Bool.and_self, and_true, true_and, and_self, putAt, hasLabel, Bool.or_false, Bool.false_or, Bool.or_true, Bool.true_or, fillA, pickParts, pickSl, strBin, eqA, eqCell, ne_eq, not_true_eq_false, not_false_eq_true, Nat.reduceLeDiff, Nat.reduceLT, Nat.reduceMul, Nat.reduceSub, Nat.zero_add, Nat.add_zero, Option.bind_some, asNat, bounds2, reduceCtorEq, List.take_succ_cons, List.take_zero, List.drop_succ_cons, List.drop_zero, Nat.reduceBEq, List.take_nil, List.drop_nil, Int.reduceLE, Int.reduceLT, Int.reduceToNat, Int.toNat_zero, Int.reduceBEq, Int.le_refl, Nat.le_refl, i63, signN, e1, e2, e3, e4, e5, e6, e7, e8, e9, e10, hb, hl, hc, List.take_succ_cons, List.take_zero, List.drop_zero, Int.toNat_one, Int.reduceToNat]
    all_goals first | rfl | skip
end
end Go.Pm
end

section
set_option linter.unusedSimpArgs false
set_option linter.unusedVariables false
set_option linter.unusedSectionVars false
set_option maxRecDepth 100000
set_option linter.unusedSimpArgs false
namespace Go.Pm
section
variable {call : CallA} {draw : DrawA} {G : Globals} {fuel : Nat}

/-- lex.run, a round: on. -/
theorem run_on (s : List UInt8) (f : FuncId) (p : UInt8 → Bool) (n : Nat) (σ : Store) (hs : s.length ≤ 9223372036854775807)
    (hp : ∀ c : UInt8, call f [.int .u8 c.toNat] σ = some (.ret (.bool (p c)), σ)) (hn : n < s.length) (ht : p s[n] = true) :
    evalCode call draw G fuel i57_L0 none [(0, .str s), (1, .fn (.func f) [] []), (5, .int .i64 n)] σ = some (.normal, [(0, .str s), (1, .fn (.func f) [] []), (5, .int .i64 (n + 1 : Nat))], σ) := by
  have h1 : s[n]? = some s[n] := List.getElem?_eq_getElem hn
  have h2 : ((n : Int) < s.length) = True := by simp; omega
  have h3 : (0 ≤ (n : Int)) = True := by simp
  have h4 : IntKind.i64.wrap ((n : Int) + 1) = ((n + 1 : Nat) : Int) := by rw [wrap_i64] <;> omega
  simp only [i57_L0, evalCode, evalOps, guardOk, evalOp, AX.ev, look, putE, val, evs, binA, intBin, wrapI, callM, keepE_cons, keepE_nil, Nat.reduceEqDiff, if_true, if_false, h1, h2, h3, h4, ht, Int.toNat_natCast, hp, List.append_nil, List.nil_append, decide_true, beq_self_eq_true, reduceIte]

theorem run_off (s : List UInt8) (f : FuncId) (p : UInt8 → Bool) (n : Nat) (σ : Store)
    (hp : ∀ c : UInt8, call f [.int .u8 c.toNat] σ = some (.ret (.bool (p c)), σ)) (hn : n < s.length) (ht : p s[n] = false) :
    ∃ env, evalCode call draw G fuel i57_L0 none [(0, .str s), (1, .fn (.func f) [] []), (5, .int .i64 n)] σ = some (.exit 0, env, σ) ∧ look env 5 = some (.int .i64 n) := by
  have h1 : s[n]? = some s[n] := List.getElem?_eq_getElem hn
  have h2 : ((n : Int) < s.length) = True := by simp; omega
  have h3 : (0 ≤ (n : Int)) = True := by simp
  simp only [i57_L0, evalCode, evalOps, guardOk, evalOp, AX.ev, look, putE, val, evs, binA, intBin, wrapI, callM, keepE_cons, keepE_nil, Nat.reduceEqDiff, if_true, if_false, h1, h2, h3, ht, Int.toNat_natCast, hp, List.append_nil, List.nil_append, decide_true, beq_self_eq_true, reduceIte]
  exact ⟨_, rfl, rfl⟩

theorem run_end (s : List UInt8) (f : FuncId) (σ : Store) :
    ∃ env, evalCode call draw G fuel i57_L0 none [(0, .str s), (1, .fn (.func f) [] []), (5, .int .i64 s.length)] σ = some (.exit 0, env, σ) ∧ look env 5 = some (.int .i64 s.length) := by
  have h2 : ((s.length : Int) < s.length) = False := by simp
  simp only [i57_L0, evalCode, evalOps, guardOk, evalOp, AX.ev, look, putE, val, evs, binA, intBin, wrapI, callM, keepE_cons, keepE_nil, Nat.reduceEqDiff, if_true, if_false, h2, decide_false, bft, btf, btt, bff, reduceIte, Bool.false_eq_true]
  exact ⟨_, rfl, rfl⟩

def spanLen (p : UInt8 → Bool) (s : List UInt8) : Nat := (s.takeWhile p).length

theorem run_loop (s : List UInt8) (f : FuncId) (p : UInt8 → Bool) (σ : Store) (hs : s.length ≤ 9223372036854775807)
    (hp : ∀ c : UInt8, call f [.int .u8 c.toNat] σ = some (.ret (.bool (p c)), σ)) : ∀ (k n m : Nat), s.length - n = k → n ≤ s.length → k < m →
    ∃ env, iterA (evalCode call draw G fuel i57_L0 none) [0, 1, 5] m [(0, .str s), (1, .fn (.func f) [] []), (5, .int .i64 n)] σ = some (.exit 0, env, σ) ∧ look env 5 = some (.int .i64 ((n + spanLen p (s.drop n) : Nat) : Int)) := by
  intro k
  induction k with
  | zero =>
    intro n m hk hn hm
    obtain rfl : n = s.length := by omega
    obtain ⟨env, h1, h2⟩ := run_end (call := call) (draw := draw) (G := G) (fuel := fuel) s f σ
    obtain ⟨m, rfl⟩ : ∃ m', m = m' + 1 := ⟨m - 1, by omega⟩
    refine ⟨env, iterA_out (by simpa only [keepE_cons, keepE_nil, look, Nat.reduceEqDiff, if_true, if_false, reduceIte] using h1) (by simp), ?_⟩
    rw [h2]; simp [spanLen]
  | succ k ih =>
    intro n m hk hn hm
    have hlt : n < s.length := by omega
    obtain ⟨m, rfl⟩ : ∃ m', m = m' + 1 := ⟨m - 1, by omega⟩
    have hdrop : s.drop n = s[n] :: s.drop (n + 1) := List.drop_eq_getElem_cons hlt
    cases ht : p s[n] with
    | true =>
      have h1 := run_on (call := call) (draw := draw) (G := G) (fuel := fuel) s f p n σ hs hp hlt ht
      obtain ⟨env, h2, h3⟩ := ih (n + 1) m (by omega) (by omega) (by omega)
      refine ⟨env, ?_, ?_⟩
      · rw [iterA_normal (by simpa only [keepE_cons, keepE_nil, look, Nat.reduceEqDiff, if_true, if_false, reduceIte] using h1)]
        exact h2
      · have e : spanLen p (s.drop n) = spanLen p (s.drop (n + 1)) + 1 := by
          unfold spanLen; rw [hdrop, List.takeWhile_cons, if_pos ht, List.length_cons]
        rw [h3, e]
        congr 2; omega
    | false =>
      obtain ⟨env, h1, h2⟩ := run_off (call := call) (draw := draw) (G := G) (fuel := fuel) s f p n σ hp hlt ht
      refine ⟨env, iterA_out (by simpa only [keepE_cons, keepE_nil, look, Nat.reduceEqDiff, if_true, if_false, reduceIte] using h1) (by simp), ?_⟩
      have e : spanLen p (s.drop n) = 0 := by
        unfold spanLen; rw [hdrop, List.takeWhile_cons, if_neg (by simp [ht])]; rfl
      rw [h2, e]; rfl

theorem run_spec (s : List UInt8) (f : FuncId) (p : UInt8 → Bool) (σ : Store) (hs : s.length ≤ 9223372036854775807) (hf : s.length < fuel)
    (hp : ∀ c : UInt8, call f [.int .u8 c.toNat] σ = some (.ret (.bool (p c)), σ)) :
    evalFn call draw G fuel i57 [.str s, .fn (.func f) [] []] σ = some (.ret (.int .i64 (spanLen p s)), σ) := by
  obtain ⟨env, h1, h2⟩ := run_loop (call := call) (draw := draw) (G := G) (fuel := fuel) s f p σ hs hp s.length 0 fuel (by omega) (by omega) hf
  simp only [Nat.zero_add, List.drop_zero, Int.ofNat_zero] at h1 h2
  simp only [evalFn, i57, params, List.length_cons, List.length_nil, Nat.reduceAdd, if_true, evalCode, evalOps, guardOk, evalOp, AX.ev, look, putE, val, keepE_cons, keepE_nil, Nat.reduceEqDiff, if_false, reduceIte, h1, h2, resultsA, oneOrTup, Option.map_some]
end
end Go.Pm
end

section
set_option linter.unusedSimpArgs false
set_option linter.unusedVariables false
set_option linter.unusedSectionVars false
/- The lexer: a step of it. -/
set_option maxRecDepth 100000
set_option linter.unusedSimpArgs false
namespace Go.Pm
section
variable {call : CallA} {draw : DrawA} {G : Globals} {fuel : Nat}

/-- The text, the result's place, the place, the piece. -/
def lexS (text : List UInt8) (r : AObj) (line col : Int) (rest : Store) : Store :=
  .cells [.str text] (some 9) :: r :: .cells [.int .i64 line, .int .i64 col] (some 53) :: rest

theorem take_spec (text : List UInt8) (r : AObj) (line col : Int) (rest : Store) (n : Nat) (hn : n ≤ text.length) (ht : text.length ≤ 5000) (hc : 0 ≤ col) (hc2 : col ≤ 100000) :
    evalFn call draw G fuel i56 [.int .i64 n, .bp 0 0, .bp 2 0] (lexS text r line col rest) = some (.ret (.str (text.take n)), lexS (text.drop n) r line (col + n) rest) := by
  have e1 : (0 ≤ (n : Int)) = True := by simp
  have e2 : ((n : Int) ≤ (text.length : Int)) = True := by simp; omega
  have e3 : IntKind.i64.wrap (col + (n : Int)) = col + n := wrap_i64 (by omega) (by omega)
  simp only [evalFn, params, List.length_cons, List.length_nil, Nat.reduceAdd, evalCode, evalOps, guardOk, evalOp, AX.ev, look, putE, val, evs, optEv, binA, intBin, wrapI, unA, callM, keepE_cons, keepE_nil, callC, strips, stripWs, stripW, AV.flatv, flatvs, Nat.reduceEqDiff, if_true, if_false, reduceIte, Int.toNat_natCast, List.append_nil, List.nil_append, List.cons_append, decide_true, decide_false, bft, btf, btt, bff, Bool.false_eq_true, resultsA, oneOrTup, Option.map_some, Option.map_none, Bool.not_true, Bool.not_false, loadAt, storeAt, storeOf, partOf, List.getElem?_cons_zero, List.getElem?_cons_succ, List.set_cons_zero, List.set_cons_succ, AV.cells, AV.isCell, List.all_cons, List.all_nil, Bool.and_true, Bool.and_false, Bool.false_and, Bool.true_and, Bool.and_self, and_true, true_and, and_self, putAt, hasLabel, Bool.or_false, Bool.false_or, Bool.or_true, Bool.true_or, fillA, pickParts, pickSl, strBin, eqA, eqCell, ne_eq, not_true_eq_false, not_false_eq_true, Nat.reduceLeDiff, Nat.reduceLT, Nat.reduceMul, Nat.reduceSub, Nat.zero_add, Nat.add_zero, Option.bind_some, asNat, bounds2, reduceCtorEq, List.take_succ_cons, List.take_zero, List.drop_succ_cons, List.drop_zero, Nat.reduceBEq, List.take_nil, List.drop_nil, Int.reduceLE, Int.reduceLT, Int.reduceToNat, Int.toNat_zero, Int.reduceBEq, Int.le_refl, Nat.le_refl, i56, lexS, e1, e2, e3, List.take_length, List.drop_zero]

def lexE (out : AV) : Env := [(1, .bp 0 0), (3, .bp 1 0), (5, .bp 2 0), (6, out), (7, .bp 3 0), (9, .fn (.func 56) [] [.bp 0 0, .bp 2 0])]

def Take (call : CallA) : Prop := ∀ (text : List UInt8) (r : AObj) (line col : Int) (rest : Store) (n : Nat), n ≤ text.length → text.length ≤ 5000 → 0 ≤ col → col ≤ 100000 →
    call 56 [.int .i64 n, .bp 0 0, .bp 2 0] (lexS text r line col rest) = some (.ret (.str (text.take n)), lexS (text.drop n) r line (col + n) rest)

def pieceO (k : Int) (t : List UInt8) (n line col : Int) : AObj := .cells [.int .u8 k, .str t, .int .u64 n, .int .i64 line, .int .i64 col] (some 61)

theorem lex_lf (h56 : Take call) (t : List UInt8) (r : AObj) (line col : Int) (p0 p1 p2 p3 p4 : AV) (toks : Store) (out : AV) (ht : t.length < 5000) (hl : 0 ≤ line) (hl2 : line ≤ 100000) (hc : 0 ≤ col) (hc2 : col ≤ 100000) :
    ∃ q0 q1 q2 q3 q4, evalCode call draw G fuel i26_L2 (some 0) (lexE out) (lexS (10 :: t) r line col (.cells [p0, p1, p2, p3, p4] (some 61) :: toks)) = some (.goto 0, lexE out, lexS t r (line + 1) 1 (.cells [q0, q1, q2, q3, q4] (some 61) :: toks)) := by
  have k := fun r rest => h56 (10 :: t) r line col rest 1 (by simp) (by simp; omega) hc hc2
  simp only [Int.natCast_one, lexS, List.take_succ_cons, List.take_zero, List.drop_succ_cons, List.drop_zero] at k
  have e1 : IntKind.i64.wrap (line + 1) = line + 1 := wrap_i64 (by omega) (by omega)
  have e2 : (10 :: t == ([] : List UInt8)) = false := rfl
  have e3 : ((((10 : UInt8).toNat : Nat) : Int) == 10) = true := rfl
  simp only [evalFn, params, List.length_cons, List.length_nil, Nat.reduceAdd, evalCode, evalOps, guardOk, evalOp, AX.ev, look, putE, val, evs, optEv, binA, intBin, wrapI, unA, callM, keepE_cons, keepE_nil, callC, strips, stripWs, stripW, AV.flatv, flatvs, Nat.reduceEqDiff, if_true, if_false, reduceIte, Int.toNat_natCast, List.append_nil, List.nil_append, List.cons_append, decide_true, decide_false, bft, btf, btt, bff, Bool.false_eq_true, resultsA, oneOrTup, Option.map_some, Option.map_none, Bool.not_true, Bool.not_false, loadAt, storeAt, storeOf, partOf, List.getElem?_cons_zero, List.getElem?_cons_succ, List.set_cons_zero, List.set_cons_succ, AV.cells, AV.isCell, List.all_cons, List.all_nil, Bool.and_true, Bool.and_false, Bool.false_and, Bool.true_and, Bool.and_self, and_true, true_and, and_self, putAt, hasLabel, Bool.or_false, Bool.false_or, Bool.or_true, Bool.true_or, fillA, pickParts, pickSl, strBin, eqA, eqCell, ne_eq, not_true_eq_false, not_false_eq_true, Nat.reduceLeDiff, Nat.reduceLT, Nat.reduceMul, Nat.reduceSub, Nat.zero_add, Nat.add_zero, Option.bind_some, asNat, bounds2, reduceCtorEq, List.take_succ_cons, List.take_zero, List.drop_succ_cons, List.drop_zero, Nat.reduceBEq, List.take_nil, List.drop_nil, Int.reduceLE, Int.reduceLT, Int.reduceToNat, Int.toNat_zero, Int.reduceBEq, Int.le_refl, Nat.le_refl, i26_L0, i26_L1, i26_L2, lexE, lexS, e1, e2, e3, k]
  exact ⟨_, _, _, _, _, rfl⟩

def Run (call : CallA) (f : FuncId) (p : UInt8 → Bool) : Prop := ∀ (s : List UInt8) (σ : Store), s.length ≤ 5000 → call 57 [.str s, .fn (.func f) [] []] σ = some (.ret (.int .i64 (spanLen p s)), σ)

theorem spanLen_le (p : UInt8 → Bool) (s : List UInt8) : spanLen p s ≤ s.length := by
  unfold spanLen
  exact (List.takeWhile_sublist p).length_le

theorem u8eq (c : UInt8) (k : Nat) : (((c.toNat : Nat) : Int) == (k : Int)) = (c.toNat == k) := by
  by_cases h : c.toNat = k
  · rw [h]; simp
  · have : ¬ (c.toNat : Int) = (k : Int) := by omega
    rw [beq_eq_false_iff_ne.2 h, beq_eq_false_iff_ne.2 this]

theorem lex_blank (h56 : Take call) (c : UInt8) (hcc : (c.toNat == 32 || c.toNat == 9) = true) (t : List UInt8) (r : AObj) (line col : Int) (p0 p1 p2 p3 p4 : AV) (toks : Store) (out : AV) (ht : t.length < 5000) (hc : 0 ≤ col) (hc2 : col ≤ 100000) :
    ∃ q0 q1 q2 q3 q4, evalCode call draw G fuel i26_L2 (some 0) (lexE out) (lexS (c :: t) r line col (.cells [p0, p1, p2, p3, p4] (some 61) :: toks)) = some (.goto 0, lexE out, lexS t r line (col + 1) (.cells [q0, q1, q2, q3, q4] (some 61) :: toks)) := by
  have k := fun r rest => h56 (c :: t) r line col rest 1 (by simp) (by simp; omega) hc hc2
  simp only [Int.natCast_one, lexS, List.take_succ_cons, List.take_zero, List.drop_succ_cons, List.drop_zero] at k
  have e2 : (c :: t == ([] : List UInt8)) = false := rfl
  have e10 := u8eq c 10
  have e32 := u8eq c 32
  have e9 := u8eq c 9
  simp only [Int.cast_ofNat_Int] at e10 e32 e9
  cases h32 : (c.toNat == 32) with
  | true =>
    have h10 : (c.toNat == 10) = false := by rw [beq_eq_false_iff_ne]; rw [beq_iff_eq] at h32; omega
    simp only [evalFn, params, List.length_cons, List.length_nil, Nat.reduceAdd, evalCode, evalOps, guardOk, evalOp, AX.ev, look, putE, val, evs, optEv, binA, intBin, wrapI, unA, callM, keepE_cons, keepE_nil, callC, strips, stripWs, stripW, AV.flatv, flatvs, Nat.reduceEqDiff, if_true, if_false, reduceIte, Int.toNat_natCast, List.append_nil, List.nil_append, List.cons_append, decide_true, decide_false, bft, btf, btt, bff, Bool.false_eq_true, resultsA, oneOrTup, Option.map_some, Option.map_none, Bool.not_true, Bool.not_false, loadAt, storeAt, storeOf, partOf, List.getElem?_cons_zero, List.getElem?_cons_succ, List.set_cons_zero, List.set_cons_succ, AV.cells, AV.isCell, List.all_cons, List.all_nil, Bool.and_true, Bool.and_false, Bool.false_and, Bool.true_and, Bool.and_self, and_true, true_and, and_self, putAt, hasLabel, Bool.or_false, Bool.false_or, Bool.or_true, Bool.true_or, fillA, pickParts, pickSl, strBin, eqA, eqCell, ne_eq, not_true_eq_false, not_false_eq_true, Nat.reduceLeDiff, Nat.reduceLT, Nat.reduceMul, Nat.reduceSub, Nat.zero_add, Nat.add_zero, Option.bind_some, asNat, bounds2, reduceCtorEq, List.take_succ_cons, List.take_zero, List.drop_succ_cons, List.drop_zero, Nat.reduceBEq, List.take_nil, List.drop_nil, Int.reduceLE, Int.reduceLT, Int.reduceToNat, Int.toNat_zero, Int.reduceBEq, Int.le_refl, Nat.le_refl, i26_L0, i26_L1, i26_L2, lexE, lexS, e2, e10, e32, e9, h32, h10, k]
    exact ⟨_, _, _, _, _, rfl⟩
  | false =>
    have h9 : (c.toNat == 9) = true := by simpa [h32] using hcc
    have h10 : (c.toNat == 10) = false := by rw [beq_eq_false_iff_ne]; rw [beq_iff_eq] at h9; omega
    simp only [evalFn, params, List.length_cons, List.length_nil, Nat.reduceAdd, evalCode, evalOps, guardOk, evalOp, AX.ev, look, putE, val, evs, optEv, binA, intBin, wrapI, unA, callM, keepE_cons, keepE_nil, callC, strips, stripWs, stripW, AV.flatv, flatvs, Nat.reduceEqDiff, if_true, if_false, reduceIte, Int.toNat_natCast, List.append_nil, List.nil_append, List.cons_append, decide_true, decide_false, bft, btf, btt, bff, Bool.false_eq_true, resultsA, oneOrTup, Option.map_some, Option.map_none, Bool.not_true, Bool.not_false, loadAt, storeAt, storeOf, partOf, List.getElem?_cons_zero, List.getElem?_cons_succ, List.set_cons_zero, List.set_cons_succ, AV.cells, AV.isCell, List.all_cons, List.all_nil, Bool.and_true, Bool.and_false, Bool.false_and, Bool.true_and, Bool.and_self, and_true, true_and, and_self, putAt, hasLabel, Bool.or_false, Bool.false_or, Bool.or_true, Bool.true_or, fillA, pickParts, pickSl, strBin, eqA, eqCell, ne_eq, not_true_eq_false, not_false_eq_true, Nat.reduceLeDiff, Nat.reduceLT, Nat.reduceMul, Nat.reduceSub, Nat.zero_add, Nat.add_zero, Option.bind_some, asNat, bounds2, reduceCtorEq, List.take_succ_cons, List.take_zero, List.drop_succ_cons, List.drop_zero, Nat.reduceBEq, List.take_nil, List.drop_nil, Int.reduceLE, Int.reduceLT, Int.reduceToNat, Int.toNat_zero, Int.reduceBEq, Int.le_refl, Nat.le_refl, i26_L0, i26_L1, i26_L2, lexE, lexS, e2, e10, e32, e9, h32, h9, h10, k]
    exact ⟨_, _, _, _, _, rfl⟩

theorem lex_hash (h56 : Take call) (h57 : Run call 58 noLf) (t : List UInt8) (r : AObj) (line col : Int) (p0 p1 p2 p3 p4 : AV) (toks : Store) (out : AV) (ht : t.length < 5000) (hc : 0 ≤ col) (hc2 : col ≤ 100000) :
    ∃ q0 q1 q2 q3 q4, evalCode call draw G fuel i26_L2 (some 0) (lexE out) (lexS (35 :: t) r line col (.cells [p0, p1, p2, p3, p4] (some 61) :: toks)) =
      some (.goto 0, lexE out, lexS ((35 :: t).drop (spanLen noLf (35 :: t))) r line (col + spanLen noLf (35 :: t)) (.cells [q0, q1, q2, q3, q4] (some 61) :: toks)) := by
  have k := fun r rest => h56 (35 :: t) r line col rest (spanLen noLf (35 :: t)) (spanLen_le _ _) (by simp; omega) hc hc2
  simp only [lexS] at k
  have e2 : (35 :: t == ([] : List UInt8)) = false := rfl
  have e10 : ((((35 : UInt8).toNat : Nat) : Int) == 10) = false := rfl
  have e32 : ((((35 : UInt8).toNat : Nat) : Int) == 32) = false := rfl
  have e9 : ((((35 : UInt8).toNat : Nat) : Int) == 9) = false := rfl
  have e35 : ((((35 : UInt8).toNat : Nat) : Int) == 35) = true := rfl
  have h := fun σ => h57 (35 :: t) σ (by simp; omega)
  simp only [evalFn, params, List.length_cons, List.length_nil, Nat.reduceAdd, evalCode, evalOps, guardOk, evalOp, AX.ev, look, putE, val, evs, optEv, binA, intBin, wrapI, unA, callM, keepE_cons, keepE_nil, callC, strips, stripWs, stripW, AV.flatv, flatvs, Nat.reduceEqDiff, if_true, if_false, reduceIte, Int.toNat_natCast, List.append_nil, List.nil_append, List.cons_append, decide_true, decide_false, bft, btf, btt, bff, Bool.false_eq_true, resultsA, oneOrTup, Option.map_some, Option.map_none, Bool.not_true, Bool.not_false, loadAt, storeAt, storeOf, partOf, List.getElem?_cons_zero, List.getElem?_cons_succ, List.set_cons_zero, List.set_cons_succ, AV.cells, AV.isCell, List.all_cons, List.all_nil, Bool.and_true, Bool.and_false, Bool.false_and, Bool.true_and, Bool.and_self, and_true, true_and, and_self, putAt, hasLabel, Bool.or_false, Bool.false_or, Bool.or_true, Bool.true_or, fillA, pickParts, pickSl, strBin, eqA, eqCell, ne_eq, not_true_eq_false, not_false_eq_true, Nat.reduceLeDiff, Nat.reduceLT, Nat.reduceMul, Nat.reduceSub, Nat.zero_add, Nat.add_zero, Option.bind_some, asNat, bounds2, reduceCtorEq, List.take_succ_cons, List.take_zero, List.drop_succ_cons, List.drop_zero, Nat.reduceBEq, List.take_nil, List.drop_nil, Int.reduceLE, Int.reduceLT, Int.reduceToNat, Int.toNat_zero, Int.reduceBEq, Int.le_refl, Nat.le_refl, i26_L0, i26_L1, i26_L2, lexE, lexS, e2, e10, e32, e9, e35, k, h]
  exact ⟨_, _, _, _, _, rfl⟩
end
end Go.Pm
end

section
set_option linter.unusedSimpArgs false
set_option linter.unusedVariables false
set_option linter.unusedSectionVars false
/- The lexer: numbers, words, signs, the end. -/
set_option maxRecDepth 100000
set_option linter.unusedSimpArgs false
namespace Go.Pm
section
variable {call : CallA} {draw : DrawA} {G : Globals} {fuel : Nat}

/-- What strconv.ParseUint answers here. -/
def Parse (call : CallA) : Prop := ∀ (s : List UInt8) (σ : Store), s.length ≤ 5000 →
    (∀ u, Lib.parseUintB 64 s = .ok u → ∃ σ', call 60 [.str s, .int .i64 10, .int .i64 64] σ = some (.ret (.tup [.int .u64 u, .nili]), σ')) ∧
    (Lib.parseUintB 64 s = .range → ∃ σ', call 60 [.str s, .int .i64 10, .int .i64 64] σ = some (.ret (.tup [.int .u64 18446744073709551615, .iface 153 (.ip 1 [] 0 0)]), σ'))
def Digit (call : CallA) : Prop := ∀ (c : UInt8) σ, call 59 [.int .u8 c.toNat] σ = some (.ret (.bool (digitB c)), σ)
def Letter (call : CallA) : Prop := ∀ (c : UInt8) σ, call 61 [.int .u8 c.toNat] σ = some (.ret (.bool (letterB c)), σ)

theorem digit_lt {c : UInt8} (h : digitB c = true) : 48 ≤ c.toNat ∧ c.toNat ≤ 57 := by simpa [digitB] using h
theorem letter_lt {c : UInt8} (h : letterB c = true) : 97 ≤ c.toNat ∧ c.toNat ≤ 122 := by simpa [letterB] using h

theorem lex_num (h56 : Take call) (h57 : Run call 59 digitB) (h59 : Digit call) (h60 : Parse call) (c : UInt8) (hd : digitB c = true) (t : List UInt8) (r : AObj) (line col : Int) (p0 p1 p2 p3 p4 : AV) (toks : Store) (out : AV) (ht : t.length < 5000) (hc : 0 ≤ col) (hc2 : col ≤ 100000)
    (u : Nat) (hu : Lib.parseUintB 64 ((c :: t).take (spanLen digitB (c :: t))) = .ok u) :
    evalCode call draw G fuel i26_L2 (some 0) (lexE out) (lexS (c :: t) r line col (.cells [p0, p1, p2, p3, p4] (some 61) :: toks)) =
      some (.goto 1, lexE out, lexS ((c :: t).drop (spanLen digitB (c :: t))) r line (col + spanLen digitB (c :: t)) (pieceO 1 ((c :: t).take (spanLen digitB (c :: t))) u line col :: toks)) := by
  have k := fun r rest => h56 (c :: t) r line col rest (spanLen digitB (c :: t)) (spanLen_le _ _) (by simp; omega) hc hc2
  simp only [lexS] at k
  have e2 : (c :: t == ([] : List UInt8)) = false := rfl
  have e10 := u8eq c 10
  have e32 := u8eq c 32
  have e9 := u8eq c 9
  have e35 := u8eq c 35
  simp only [Int.cast_ofNat_Int] at e10 e32 e9 e35
  have hr := digit_lt hd
  have n10 : (c.toNat == 10) = false := by rw [beq_eq_false_iff_ne]; omega
  have n32 : (c.toNat == 32) = false := by rw [beq_eq_false_iff_ne]; omega
  have n9 : (c.toNat == 9) = false := by rw [beq_eq_false_iff_ne]; omega
  have n35 : (c.toNat == 35) = false := by rw [beq_eq_false_iff_ne]; omega
  have h := fun σ => h57 (c :: t) σ (by simp; omega)
  have hlen : ((c :: t).take (spanLen digitB (c :: t))).length ≤ 5000 := by simp; omega
  obtain ⟨σp, hp⟩ := (h60 ((c :: t).take (spanLen digitB (c :: t))) [] hlen).1 u hu
  have hdig := h59 c
  simp only [evalFn, params, List.length_cons, List.length_nil, Nat.reduceAdd, evalCode, evalOps, guardOk, evalOp, AX.ev, look, putE, val, evs, optEv, binA, intBin, wrapI, unA, callM, keepE_cons, keepE_nil, callC, strips, stripWs, stripW, AV.flatv, flatvs, Nat.reduceEqDiff, if_true, if_false, reduceIte, Int.toNat_natCast, List.append_nil, List.nil_append, List.cons_append, decide_true, decide_false, bft, btf, btt, bff, Bool.false_eq_true, resultsA, oneOrTup, Option.map_some, Option.map_none, Bool.not_true, Bool.not_false, loadAt, storeAt, storeOf, partOf, List.getElem?_cons_zero, List.getElem?_cons_succ, List.set_cons_zero, List.set_cons_succ, AV.cells, AV.isCell, List.all_cons, List.all_nil, Bool.and_true, Bool.and_false, Bool.false_and, Bool.true_and, Bool.and_self, and_true, true_and, and_self, putAt, hasLabel, Bool.or_false, Bool.false_or, Bool.or_true, Bool.true_or, fillA, pickParts, pickSl, strBin, eqA, eqCell, ne_eq, not_true_eq_false, not_false_eq_true, Nat.reduceLeDiff, Nat.reduceLT, Nat.reduceMul, Nat.reduceSub, Nat.zero_add, Nat.add_zero, Option.bind_some, asNat, bounds2, reduceCtorEq, List.take_succ_cons, List.take_zero, List.drop_succ_cons, List.drop_zero, Nat.reduceBEq, List.take_nil, List.drop_nil, Int.reduceLE, Int.reduceLT, Int.reduceToNat, Int.toNat_zero, Int.reduceBEq, Int.le_refl, Nat.le_refl, i26_L0, i26_L1, i26_L2, lexE, lexS, pieceO, e2, e10, e32, e9, e35, n10, n32, n9, n35, k, h, hp, hd, hdig]

theorem lex_numErr (h56 : Take call) (h57 : Run call 59 digitB) (h59 : Digit call) (h60 : Parse call) (c : UInt8) (hd : digitB c = true) (t : List UInt8) (r0 r1 : AV) (line col : Int) (p0 p1 p2 p3 p4 : AV) (toks : Store) (out : AV) (ht : t.length < 5000) (hc : 0 ≤ col) (hc2 : col ≤ 100000)
    (hu : Lib.parseUintB 64 ((c :: t).take (spanLen digitB (c :: t))) = .range) :
    ∃ σ', evalCode call (drawA call G) G fuel i26_L2 (some 0) (lexE out) (lexS (c :: t) (.cells [r0, r1] (some 53)) line col (.cells [p0, p1, p2, p3, p4] (some 61) :: toks)) =
      some (.ret, [(2, .sl 5 [] .exact), (3, .bp 1 0), (4, .int .i64 4)], σ') ∧ σ'[1]? = some (.cells [.int .i64 line, .int .i64 col] (some 53)) := by
  have k := fun r rest => h56 (c :: t) r line col rest (spanLen digitB (c :: t)) (spanLen_le _ _) (by simp; omega) hc hc2
  simp only [lexS] at k
  have e2 : (c :: t == ([] : List UInt8)) = false := rfl
  have e10 := u8eq c 10
  have e32 := u8eq c 32
  have e9 := u8eq c 9
  have e35 := u8eq c 35
  simp only [Int.cast_ofNat_Int] at e10 e32 e9 e35
  have hr := digit_lt hd
  have n10 : (c.toNat == 10) = false := by rw [beq_eq_false_iff_ne]; omega
  have n32 : (c.toNat == 32) = false := by rw [beq_eq_false_iff_ne]; omega
  have n9 : (c.toNat == 9) = false := by rw [beq_eq_false_iff_ne]; omega
  have n35 : (c.toNat == 35) = false := by rw [beq_eq_false_iff_ne]; omega
  have h := fun σ => h57 (c :: t) σ (by simp; omega)
  have hlen : ((c :: t).take (spanLen digitB (c :: t))).length ≤ 5000 := by simp; omega
  obtain ⟨σp, hp⟩ := (h60 ((c :: t).take (spanLen digitB (c :: t))) [] hlen).2 hu
  have hdig := h59 c
  simp only [evalFn, params, List.length_cons, List.length_nil, Nat.reduceAdd, evalCode, evalOps, guardOk, evalOp, AX.ev, look, putE, val, evs, optEv, binA, intBin, wrapI, unA, callM, keepE_cons, keepE_nil, callC, strips, stripWs, stripW, AV.flatv, flatvs, Nat.reduceEqDiff, if_true, if_false, reduceIte, Int.toNat_natCast, List.append_nil, List.nil_append, List.cons_append, decide_true, decide_false, bft, btf, btt, bff, Bool.false_eq_true, resultsA, oneOrTup, Option.map_some, Option.map_none, Bool.not_true, Bool.not_false, loadAt, storeAt, storeOf, partOf, List.getElem?_cons_zero, List.getElem?_cons_succ, List.set_cons_zero, List.set_cons_succ, AV.cells, AV.isCell, List.all_cons, List.all_nil, Bool.and_true, Bool.and_false, Bool.false_and, Bool.true_and, Bool.and_self, and_true, true_and, and_self, putAt, hasLabel, Bool.or_false, Bool.false_or, Bool.or_true, Bool.true_or, fillA, pickParts, pickSl, strBin, eqA, eqCell, ne_eq, not_true_eq_false, not_false_eq_true, Nat.reduceLeDiff, Nat.reduceLT, Nat.reduceMul, Nat.reduceSub, Nat.zero_add, Nat.add_zero, Option.bind_some, asNat, bounds2, reduceCtorEq, List.take_succ_cons, List.take_zero, List.drop_succ_cons, List.drop_zero, Nat.reduceBEq, List.take_nil, List.drop_nil, Int.reduceLE, Int.reduceLT, Int.reduceToNat, Int.toNat_zero, Int.reduceBEq, Int.le_refl, Nat.le_refl, puress, AV.pure, strip, drawA, goD, stepG, stepD, bornD, readsD, births, AOp.births, Eff.app, pairsD, loudsD, loudD, conflict, apart, AOp.shares, List.replicate_zero, List.replicate_succ, List.getD_cons_succ, List.getD_cons_zero, List.contains_cons, List.contains_nil, Bool.not_or, Option.getD_some, Option.getD_none, Nat.reduceBNe, decide_eq_true_eq, Bool.if_false_left, i26_L0, i26_L1, i26_L2, lexE, lexS, pieceO, e2, e10, e32, e9, e35, n10, n32, n9, n35, k, h, hp, hd, hdig]
  exact ⟨_, rfl, rfl⟩

theorem lex_word (h56 : Take call) (h57 : Run call 62 wordB) (h59 : Digit call) (h61 : Letter call) (c : UInt8) (hd : letterB c = true) (t : List UInt8) (r : AObj) (line col : Int) (p0 p1 p2 p3 p4 : AV) (toks : Store) (out : AV) (ht : t.length < 5000) (hc : 0 ≤ col) (hc2 : col ≤ 100000) :
    evalCode call draw G fuel i26_L2 (some 0) (lexE out) (lexS (c :: t) r line col (.cells [p0, p1, p2, p3, p4] (some 61) :: toks)) =
      some (.goto 1, lexE out, lexS ((c :: t).drop (spanLen wordB (c :: t))) r line (col + spanLen wordB (c :: t)) (pieceO 2 ((c :: t).take (spanLen wordB (c :: t))) 0 line col :: toks)) := by
  have k := fun r rest => h56 (c :: t) r line col rest (spanLen wordB (c :: t)) (spanLen_le _ _) (by simp; omega) hc hc2
  simp only [lexS] at k
  have e2 : (c :: t == ([] : List UInt8)) = false := rfl
  have e10 := u8eq c 10
  have e32 := u8eq c 32
  have e9 := u8eq c 9
  have e35 := u8eq c 35
  simp only [Int.cast_ofNat_Int] at e10 e32 e9 e35
  have hr := letter_lt hd
  have n10 : (c.toNat == 10) = false := by rw [beq_eq_false_iff_ne]; omega
  have n32 : (c.toNat == 32) = false := by rw [beq_eq_false_iff_ne]; omega
  have n9 : (c.toNat == 9) = false := by rw [beq_eq_false_iff_ne]; omega
  have n35 : (c.toNat == 35) = false := by rw [beq_eq_false_iff_ne]; omega
  have nd : digitB c = false := by
    cases hx : digitB c with
    | false => rfl
    | true => have := digit_lt hx; omega
  have h := fun σ => h57 (c :: t) σ (by simp; omega)
  have hdig := h59 c
  have hlet := h61 c
  simp only [evalFn, params, List.length_cons, List.length_nil, Nat.reduceAdd, evalCode, evalOps, guardOk, evalOp, AX.ev, look, putE, val, evs, optEv, binA, intBin, wrapI, unA, callM, keepE_cons, keepE_nil, callC, strips, stripWs, stripW, AV.flatv, flatvs, Nat.reduceEqDiff, if_true, if_false, reduceIte, Int.toNat_natCast, List.append_nil, List.nil_append, List.cons_append, decide_true, decide_false, bft, btf, btt, bff, Bool.false_eq_true, resultsA, oneOrTup, Option.map_some, Option.map_none, Bool.not_true, Bool.not_false, loadAt, storeAt, storeOf, partOf, List.getElem?_cons_zero, List.getElem?_cons_succ, List.set_cons_zero, List.set_cons_succ, AV.cells, AV.isCell, List.all_cons, List.all_nil, Bool.and_true, Bool.and_false, Bool.false_and, Bool.true_and, Bool.and_self, and_true, true_and, and_self, putAt, hasLabel, Bool.or_false, Bool.false_or, Bool.or_true, Bool.true_or, fillA, pickParts, pickSl, strBin, eqA, eqCell, ne_eq, not_true_eq_false, not_false_eq_true, Nat.reduceLeDiff, Nat.reduceLT, Nat.reduceMul, Nat.reduceSub, Nat.zero_add, Nat.add_zero, Option.bind_some, asNat, bounds2, reduceCtorEq, List.take_succ_cons, List.take_zero, List.drop_succ_cons, List.drop_zero, Nat.reduceBEq, List.take_nil, List.drop_nil, Int.reduceLE, Int.reduceLT, Int.reduceToNat, Int.toNat_zero, Int.reduceBEq, Int.le_refl, Nat.le_refl, i26_L0, i26_L1, i26_L2, lexE, lexS, pieceO, e2, e10, e32, e9, e35, n10, n32, n9, n35, k, h, hd, nd, hdig, hlet]

/-- The rows that have been put, and the right to go on. -/
def OutOk (rows : List AV) (cap : Cap) (toks : Store) : Prop :=
  (cap = .exact ∧ rows = []) ∨ ∃ j, cap = .tok (4 + j) ∧ toks[j]? = some (.tok 61)

def pieceA (k : Int) (t : List UInt8) (n line col : Int) : AV := .agg [.int .u8 k, .str t, .int .u64 n, .int .i64 line, .int .i64 col]

theorem put_app (rows : List AV) (cap : Cap) (a b c d : AObj) (toks : Store) (ho : OutOk rows cap toks) (hn : rows.length ≤ 5000) (k : Int) (t : List UInt8) (n line col : Int) :
    ∃ cap' toks', appendA (a :: b :: c :: d :: toks) 61 5 48 (.sl 5 rows cap) (.sl 5 [pieceA k t n line col] .exact) = some (.sl 5 (rows ++ [pieceA k t n line col]) cap', a :: b :: c :: d :: toks') ∧
      OutOk (rows ++ [pieceA k t n line col]) cap' toks' := by
  have hb : 2 * (rows.length + 1) * 48 ≤ 281474976710656 := by omega
  rcases ho with ⟨rfl, rfl⟩ | ⟨j, rfl, hj⟩
  · refine ⟨.tok (4 + toks.length), toks ++ [.tok 61], ?_, .inr ⟨toks.length, rfl, by simp⟩⟩
    simp [appendA, srcRow, rowOk, pieceA, AV.cells, AV.isCell]
    omega
  · refine ⟨.tok (4 + toks.length), toks.set j .dead ++ [.tok 61], ?_, .inr ⟨toks.length, rfl, by simp⟩⟩
    have hg : (a :: b :: c :: d :: toks)[4 + j]? = some (.tok 61) := by
      rw [show 4 + j = j + 1 + 1 + 1 + 1 by omega]; simpa using hj
    have hs : (a :: b :: c :: d :: toks).set (4 + j) AObj.dead = a :: b :: c :: d :: toks.set j .dead := by
      rw [show 4 + j = j + 1 + 1 + 1 + 1 by omega]; simp
    simp only [appendA, srcRow, rowOk, pieceA, AV.cells, AV.isCell, List.all_cons, List.all_nil, hg, hs, List.length_cons, List.length_nil, if_true]
    simp
    omega

theorem lex_put (rows : List AV) (cap : Cap) (text : List UInt8) (r : AObj) (line col : Int) (k : Int) (t : List UInt8) (n pl pc : Int) (toks : Store) (ho : OutOk rows cap toks) (hn : rows.length ≤ 5000) :
    ∃ cap' toks', evalCode call draw G fuel i26_L2 (some 1) (lexE (.sl 5 rows cap)) (lexS text r line col (pieceO k t n pl pc :: toks)) =
      some (.goto 0, lexE (.sl 5 (rows ++ [pieceA k t n pl pc]) cap'), lexS text r line col (pieceO k t n pl pc :: toks')) ∧ OutOk (rows ++ [pieceA k t n pl pc]) cap' toks' := by
  obtain ⟨cap', toks', h1, h2⟩ := put_app rows cap (.cells [.str text] (some 9)) r (.cells [.int .i64 line, .int .i64 col] (some 53)) (pieceO k t n pl pc) toks ho hn k t n pl pc
  refine ⟨cap', toks', ?_, h2⟩
  simp only [pieceO, pieceA] at h1
  simp only [evalFn, params, List.length_cons, List.length_nil, Nat.reduceAdd, evalCode, evalOps, guardOk, evalOp, AX.ev, look, putE, val, evs, optEv, binA, intBin, wrapI, unA, callM, keepE_cons, keepE_nil, callC, strips, stripWs, stripW, AV.flatv, flatvs, Nat.reduceEqDiff, if_true, if_false, reduceIte, Int.toNat_natCast, List.append_nil, List.nil_append, List.cons_append, decide_true, decide_false, bft, btf, btt, bff, Bool.false_eq_true, resultsA, oneOrTup, Option.map_some, Option.map_none, Bool.not_true, Bool.not_false, loadAt, storeAt, storeOf, partOf, List.getElem?_cons_zero, List.getElem?_cons_succ, List.set_cons_zero, List.set_cons_succ, AV.cells, AV.isCell, List.all_cons, List.all_nil, Bool.and_true, Bool.and_false, Bool.false_and, Bool.true_and, Bool.and_self, and_true, true_and, and_self, putAt, hasLabel, Bool.or_false, Bool.false_or, Bool.or_true, Bool.true_or, fillA, pickParts, pickSl, strBin, eqA, eqCell, ne_eq, not_true_eq_false, not_false_eq_true, Nat.reduceLeDiff, Nat.reduceLT, Nat.reduceMul, Nat.reduceSub, Nat.zero_add, Nat.add_zero, Option.bind_some, asNat, bounds2, reduceCtorEq, List.take_succ_cons, List.take_zero, List.drop_succ_cons, List.drop_zero, Nat.reduceBEq, List.take_nil, List.drop_nil, Int.reduceLE, Int.reduceLT, Int.reduceToNat, Int.toNat_zero, Int.reduceBEq, Int.le_refl, Nat.le_refl, i26_L0, i26_L1, i26_L2, lexE, lexS, pieceO, pieceA, h1, List.replicate_succ, List.replicate_zero, List.flatten_cons, List.flatten_nil, rowOfCells, chunks, Nat.one_mul, Nat.mul_one, Nat.zero_mul]
end
end Go.Pm
end

section
set_option linter.unusedSimpArgs false
set_option linter.unusedVariables false
set_option linter.unusedSectionVars false
/- The lexer: signs, the end. -/
set_option maxRecDepth 100000
set_option linter.unusedSimpArgs false
namespace Go.Pm
section
variable {call : CallA} {draw : DrawA} {G : Globals} {fuel : Nat}

def Sign (call : CallA) : Prop := ∀ (a : UInt8) (s : List UInt8) σ, s.length ≤ 5000 → call 63 [.str (a :: s)] σ = some (.ret (.int .i64 (signN (a :: s))), σ)

theorem signN_le (a : UInt8) (s : List UInt8) : signN (a :: s) ≤ (a :: s).length := by
  cases s with
  | nil => simp only [signN]; split <;> simp
  | cons b s => simp only [signN]; split <;> (try split) <;> simp

theorem lex_end (rows : List AV) (cap : Cap) (r0 r1 : AV) (line col : Int) (p0 p1 p2 p3 p4 : AV) (toks : Store) (ho : OutOk rows cap toks) (hn : rows.length ≤ 5000) :
    ∃ cap' σ', evalCode call draw G fuel i26_L2 (some 0) (lexE (.sl 5 rows cap)) (lexS [] (.cells [r0, r1] (some 53)) line col (.cells [p0, p1, p2, p3, p4] (some 61) :: toks)) =
      some (.ret, [(2, .sl 5 (rows ++ [pieceA 0 [] 0 line col]) cap'), (3, .bp 1 0), (4, .int .i64 0)], σ') ∧ σ'[1]? = some (.cells [.int .i64 0, .int .i64 0] (some 53)) := by
  obtain ⟨cap', toks', h1, h2⟩ := put_app rows cap (.cells [.str []] (some 9)) (.cells [r0, r1] (some 53)) (.cells [.int .i64 line, .int .i64 col] (some 53)) (pieceO 0 [] 0 line col) toks ho hn 0 [] 0 line col
  simp only [pieceO, pieceA] at h1
  have e2 : (([] : List UInt8) == []) = true := rfl
  simp only [evalFn, params, List.length_cons, List.length_nil, Nat.reduceAdd, evalCode, evalOps, guardOk, evalOp, AX.ev, look, putE, val, evs, optEv, binA, intBin, wrapI, unA, callM, keepE_cons, keepE_nil, callC, strips, stripWs, stripW, AV.flatv, flatvs, Nat.reduceEqDiff, if_true, if_false, reduceIte, Int.toNat_natCast, List.append_nil, List.nil_append, List.cons_append, decide_true, decide_false, bft, btf, btt, bff, Bool.false_eq_true, resultsA, oneOrTup, Option.map_some, Option.map_none, Bool.not_true, Bool.not_false, loadAt, storeAt, storeOf, partOf, List.getElem?_cons_zero, List.getElem?_cons_succ, List.set_cons_zero, List.set_cons_succ, AV.cells, AV.isCell, List.all_cons, List.all_nil, Bool.and_true, Bool.and_false, Bool.false_and, Bool.true_and, Bool.and_self, and_true, true_and, and_self, putAt, hasLabel, Bool.or_false, Bool.false_or, Bool.or_true, Bool.true_or, fillA, pickParts, pickSl, strBin, eqA, eqCell, ne_eq, not_true_eq_false, not_false_eq_true, Nat.reduceLeDiff, Nat.reduceLT, Nat.reduceMul, Nat.reduceSub, Nat.zero_add, Nat.add_zero, Option.bind_some, asNat, bounds2, reduceCtorEq, List.take_succ_cons, List.take_zero, List.drop_succ_cons, List.drop_zero, Nat.reduceBEq, List.take_nil, List.drop_nil, Int.reduceLE, Int.reduceLT, Int.reduceToNat, Int.toNat_zero, Int.reduceBEq, Int.le_refl, Nat.le_refl, i26_L0, i26_L1, i26_L2, lexE, lexS, pieceO, pieceA, e2, h1, List.replicate_succ, List.replicate_zero, List.flatten_cons, List.flatten_nil, rowOfCells, chunks, Nat.one_mul, Nat.mul_one, Nat.zero_mul]
  exact ⟨_, _, rfl, rfl⟩

/-- A byte that begins nothing but, maybe, a sign. -/
def other (c : UInt8) : Bool := !(c.toNat == 10 || c.toNat == 32 || c.toNat == 9 || c.toNat == 35 || digitB c || letterB c)

theorem lex_sign (h56 : Take call) (h59 : Digit call) (h61 : Letter call) (h63 : Sign call) (c : UInt8) (hd : other c = true) (t : List UInt8) (r : AObj) (line col : Int) (p0 p1 p2 p3 p4 : AV) (toks : Store) (rows : List AV) (cap : Cap) (ht : t.length < 5000) (hc : 0 ≤ col) (hc2 : col ≤ 100000)
    (hs : signN (c :: t) ≠ 0) (ho : OutOk rows cap toks) (hn : rows.length ≤ 5000) :
    ∃ cap' toks' q0 q1 q2 q3 q4, evalCode call draw G fuel i26_L2 (some 0) (lexE (.sl 5 rows cap)) (lexS (c :: t) r line col (.cells [p0, p1, p2, p3, p4] (some 61) :: toks)) =
      some (.goto 0, lexE (.sl 5 (rows ++ [pieceA 3 ((c :: t).take (signN (c :: t))) 0 line col]) cap'), lexS ((c :: t).drop (signN (c :: t))) r line (col + signN (c :: t)) (.cells [q0, q1, q2, q3, q4] (some 61) :: toks')) ∧
      OutOk (rows ++ [pieceA 3 ((c :: t).take (signN (c :: t))) 0 line col]) cap' toks' := by
  obtain ⟨cap', toks', h1, h2⟩ := put_app rows cap (.cells [.str ((c :: t).drop (signN (c :: t)))] (some 9)) r (.cells [.int .i64 line, .int .i64 (col + signN (c :: t))] (some 53)) (pieceO 3 ((c :: t).take (signN (c :: t))) 0 line col) toks ho hn 3 ((c :: t).take (signN (c :: t))) 0 line col
  simp only [pieceO, pieceA] at h1
  have k := fun r rest => h56 (c :: t) r line col rest (signN (c :: t)) (signN_le _ _) (by simp; omega) hc hc2
  simp only [lexS] at k
  have e2 : (c :: t == ([] : List UInt8)) = false := rfl
  have e10 := u8eq c 10
  have e32 := u8eq c 32
  have e9 := u8eq c 9
  have e35 := u8eq c 35
  simp only [Int.cast_ofNat_Int] at e10 e32 e9 e35
  simp only [other, Bool.not_eq_true', Bool.or_eq_false_iff] at hd
  obtain ⟨⟨⟨⟨⟨n10, n32⟩, n9⟩, n35⟩, nd⟩, nl⟩ := hd
  have hdig := h59 c
  have hlet := h61 c
  have hsig := fun σ => h63 c t σ (by omega)
  have e0 : (((signN (c :: t) : Nat) : Int) == 0) = false := by
    rw [beq_eq_false_iff_ne]; omega
  generalize signN (c :: t) = n at *
  simp only [evalFn, params, List.length_cons, List.length_nil, Nat.reduceAdd, evalCode, evalOps, guardOk, evalOp, AX.ev, look, putE, val, evs, optEv, binA, intBin, wrapI, unA, callM, keepE_cons, keepE_nil, callC, strips, stripWs, stripW, AV.flatv, flatvs, Nat.reduceEqDiff, if_true, if_false, reduceIte, Int.toNat_natCast, List.append_nil, List.nil_append, List.cons_append, decide_true, decide_false, bft, btf, btt, bff, Bool.false_eq_true, resultsA, oneOrTup, Option.map_some, Option.map_none, Bool.not_true, Bool.not_false, loadAt, storeAt, storeOf, partOf, List.getElem?_cons_zero, List.getElem?_cons_succ, List.set_cons_zero, List.set_cons_succ, AV.cells, AV.isCell, List.all_cons, List.all_nil, Bool.and_true, Bool.and_false, Bool.false_and, Bool.true_and, Bool.and_self, and_true, true_and, and_self, putAt, hasLabel, Bool.or_false, Bool.false_or, Bool.or_true, Bool.true_or, fillA, pickParts, pickSl, strBin, eqA, eqCell, ne_eq, not_true_eq_false, not_false_eq_true, Nat.reduceLeDiff, Nat.reduceLT, Nat.reduceMul, Nat.reduceSub, Nat.zero_add, Nat.add_zero, Option.bind_some, asNat, bounds2, reduceCtorEq, List.take_succ_cons, List.take_zero, List.drop_succ_cons, List.drop_zero, Nat.reduceBEq, List.take_nil, List.drop_nil, Int.reduceLE, Int.reduceLT, Int.reduceToNat, Int.toNat_zero, Int.reduceBEq, Int.le_refl, Nat.le_refl, i26_L0, i26_L1, i26_L2, lexE, lexS, pieceO, pieceA, e2, e10, e32, e9, e35, n10, n32, n9, n35, k, nd, nl, hdig, hlet, hsig, e0, h1, List.replicate_succ, List.replicate_zero, List.flatten_cons, List.flatten_nil, rowOfCells, chunks, Nat.one_mul, Nat.mul_one, Nat.zero_mul]
  exact ⟨cap', toks', _, _, _, _, _, rfl, h2⟩

theorem lex_signErr (h59 : Digit call) (h61 : Letter call) (h63 : Sign call) (c : UInt8) (hd : other c = true) (t : List UInt8) (r0 r1 : AV) (line col : Int) (p0 p1 p2 p3 p4 : AV) (toks : Store) (out : AV) (ht : t.length < 5000)
    (hs : signN (c :: t) = 0) :
    ∃ σ', evalCode call (drawA call G) G fuel i26_L2 (some 0) (lexE out) (lexS (c :: t) (.cells [r0, r1] (some 53)) line col (.cells [p0, p1, p2, p3, p4] (some 61) :: toks)) =
      some (.ret, [(2, .sl 5 [] .exact), (3, .bp 1 0), (4, .int .i64 3)], σ') ∧ σ'[1]? = some (.cells [.int .i64 line, .int .i64 col] (some 53)) := by
  have e2 : (c :: t == ([] : List UInt8)) = false := rfl
  have e10 := u8eq c 10
  have e32 := u8eq c 32
  have e9 := u8eq c 9
  have e35 := u8eq c 35
  simp only [Int.cast_ofNat_Int] at e10 e32 e9 e35
  simp only [other, Bool.not_eq_true', Bool.or_eq_false_iff] at hd
  obtain ⟨⟨⟨⟨⟨n10, n32⟩, n9⟩, n35⟩, nd⟩, nl⟩ := hd
  have hdig := h59 c
  have hlet := h61 c
  have hsig := fun σ => h63 c t σ (by omega)
  have e0 : (((0 : Nat) : Int) == 0) = true := rfl
  rw [hs] at hsig
  simp only [evalFn, params, List.length_cons, List.length_nil, Nat.reduceAdd, evalCode, evalOps, guardOk, evalOp, AX.ev, look, putE, val, evs, optEv, binA, intBin, wrapI, unA, callM, keepE_cons, keepE_nil, callC, strips, stripWs, stripW, AV.flatv, flatvs, Nat.reduceEqDiff, if_true, if_false, reduceIte, Int.toNat_natCast, List.append_nil, List.nil_append, List.cons_append, decide_true, decide_false, bft, btf, btt, bff, Bool.false_eq_true, resultsA, oneOrTup, Option.map_some, Option.map_none, Bool.not_true, Bool.not_false, loadAt, storeAt, storeOf, partOf, List.getElem?_cons_zero, List.getElem?_cons_succ, List.set_cons_zero, List.set_cons_succ, AV.cells, AV.isCell, List.all_cons, List.all_nil, Bool.and_true, Bool.and_false, Bool.false_and, Bool.true_and, Bool.and_self, and_true, true_and, and_self, putAt, hasLabel, Bool.or_false, Bool.false_or, Bool.or_true, Bool.true_or, fillA, pickParts, pickSl, strBin, eqA, eqCell, ne_eq, not_true_eq_false, not_false_eq_true, Nat.reduceLeDiff, Nat.reduceLT, Nat.reduceMul, Nat.reduceSub, Nat.zero_add, Nat.add_zero, Option.bind_some, asNat, bounds2, reduceCtorEq, List.take_succ_cons, List.take_zero, List.drop_succ_cons, List.drop_zero, Nat.reduceBEq, List.take_nil, List.drop_nil, Int.reduceLE, Int.reduceLT, Int.reduceToNat, Int.toNat_zero, Int.reduceBEq, Int.le_refl, Nat.le_refl, puress, AV.pure, strip, drawA, goD, stepG, stepD, bornD, readsD, births, AOp.births, Eff.app, pairsD, loudsD, loudD, conflict, apart, AOp.shares, List.replicate_zero, List.replicate_succ, List.getD_cons_succ, List.getD_cons_zero, List.contains_cons, List.contains_nil, Bool.not_or, Option.getD_some, Option.getD_none, Nat.reduceBNe, decide_eq_true_eq, Bool.if_false_left, i26_L0, i26_L1, i26_L2, lexE, lexS, pieceO, pieceA, e2, e10, e32, e9, e35, n10, n32, n9, n35, nd, nl, hdig, hlet, hsig, e0]
  exact ⟨_, rfl, rfl⟩
end
end Go.Pm
end

section
set_option linter.unusedSimpArgs false
set_option linter.unusedVariables false
set_option linter.unusedSectionVars false
/- The lexer, whole. -/
set_option maxRecDepth 100000
set_option linter.unusedSimpArgs false
namespace Go.Pm
section
variable {call : CallA} {draw : DrawA} {G : Globals} {fuel : Nat}

/-- What the lexer comes to. -/
inductive LexR where
  | ok (l : List AV)
  | err (line col code : Int)

def lexF : Nat → List UInt8 → Int → Int → List AV → LexR
  | 0, _, _, _, _ => .err 0 0 0
  | _ + 1, [], line, col, acc => .ok (acc ++ [pieceA 0 [] 0 line col])
  | n + 1, c :: t, line, col, acc =>
    if c.toNat == 10 then lexF n t (line + 1) 1 acc else
    if c.toNat == 32 || c.toNat == 9 then lexF n t line (col + 1) acc else
    if c.toNat == 35 then lexF n ((c :: t).drop (spanLen noLf (c :: t))) line (col + spanLen noLf (c :: t)) acc else
    if digitB c then
      match Lib.parseUintB 64 ((c :: t).take (spanLen digitB (c :: t))) with
      | .ok u => lexF n ((c :: t).drop (spanLen digitB (c :: t))) line (col + spanLen digitB (c :: t)) (acc ++ [pieceA 1 ((c :: t).take (spanLen digitB (c :: t))) u line col])
      | _ => .err line col 4
    else
    if letterB c then lexF n ((c :: t).drop (spanLen wordB (c :: t))) line (col + spanLen wordB (c :: t)) (acc ++ [pieceA 2 ((c :: t).take (spanLen wordB (c :: t))) 0 line col]) else
    if signN (c :: t) = 0 then .err line col 3 else
    lexF n ((c :: t).drop (signN (c :: t))) line (col + signN (c :: t)) (acc ++ [pieceA 3 ((c :: t).take (signN (c :: t))) 0 line col])

/-- What a run's results say. -/
def LexOut (r : LexR) (env : Env) (σ : Store) : Prop :=
  match r with
  | .ok l => ∃ cap, env = [(2, .sl 5 l cap), (3, .bp 1 0), (4, .int .i64 0)] ∧ σ[1]? = some (.cells [.int .i64 0, .int .i64 0] (some 53))
  | .err line col code => env = [(2, .sl 5 [] .exact), (3, .bp 1 0), (4, .int .i64 code)] ∧ σ[1]? = some (.cells [.int .i64 line, .int .i64 col] (some 53))

structure LexCalls (call : CallA) : Prop where
  take : Take call
  lf : Run call 58 noLf
  digits : Run call 59 digitB
  word : Run call 62 wordB
  digit : Digit call
  letter : Letter call
  parse : Parse call
  sign : Sign call

theorem spanLen_pos {p : UInt8 → Bool} {c : UInt8} {t : List UInt8} (h : p c = true) : 1 ≤ spanLen p (c :: t) := by
  unfold spanLen; rw [List.takeWhile_cons, if_pos h]; simp

theorem take_span (p : UInt8 → Bool) (s : List UInt8) : s.take (spanLen p s) = s.takeWhile p := by
  unfold spanLen
  induction s with
  | nil => rfl
  | cons c t ih =>
    rw [List.takeWhile_cons]
    split
    · simp [ih]
    · simp

theorem parseM_digits : ∀ (l : List UInt8) (M acc : Nat), (∀ c ∈ l, digitB c = true) → (∃ u, Lib.parseUintM M acc l = .ok u) ∨ Lib.parseUintM M acc l = .range
  | [], M, acc, _ => by simp [Lib.parseUintM]
  | c :: r, M, acc, h => by
    have hc := digit_lt (h c (by simp))
    unfold Lib.parseUintM
    rw [if_pos hc]
    split
    · simp
    · split
      · simp
      · exact parseM_digits r _ _ (fun x hx => h x (by simp [hx]))

theorem takeWhile_all (p : UInt8 → Bool) : ∀ (l : List UInt8) (x : UInt8), x ∈ l.takeWhile p → p x = true
  | [], x, h => by simp at h
  | c :: t, x, h => by
    rw [List.takeWhile_cons] at h
    split at h
    · rename_i hc
      rw [List.mem_cons] at h
      rcases h with rfl | h
      · exact hc
      · exact takeWhile_all p t x h
    · simp at h

theorem parse_digits (c : UInt8) (t : List UInt8) (h : digitB c = true) : (∃ u, Lib.parseUintB 64 ((c :: t).take (spanLen digitB (c :: t))) = .ok u) ∨ Lib.parseUintB 64 ((c :: t).take (spanLen digitB (c :: t))) = .range := by
  rw [take_span]
  unfold Lib.parseUintB
  rw [if_neg (by rw [List.takeWhile_cons, if_pos h]; simp)]
  exact parseM_digits _ _ _ (fun x hx => takeWhile_all _ _ x hx)

theorem lex_go (H : LexCalls call) : ∀ (n : Nat) (text : List UInt8) (line col : Int) (rows : List AV) (cap : Cap) (toks : Store) (r0 r1 p0 p1 p2 p3 p4 : AV) (m : Nat),
    text.length < n → text.length + rows.length ≤ 4999 → 0 ≤ line → line + text.length ≤ 5000 → 0 ≤ col → col + text.length ≤ 5000 → OutOk rows cap toks → 2 * text.length < m →
    ∃ env σ', jumpsA (evalCode call (drawA call G) G fuel i26_L2) m (some 0) (lexE (.sl 5 rows cap)) (lexS text (.cells [r0, r1] (some 53)) line col (.cells [p0, p1, p2, p3, p4] (some 61) :: toks)) = some (.ret, env, σ') ∧
      LexOut (lexF n text line col rows) env σ' := by
  intro n
  induction n with
  | zero => intro text line col rows cap toks r0 r1 p0 p1 p2 p3 p4 m h; omega
  | succ n ih =>
    intro text line col rows cap toks r0 r1 p0 p1 p2 p3 p4 m hn hrows hl0 hl hc0 hc ho hm
    obtain ⟨m, rfl⟩ : ∃ m', m = m' + 1 := ⟨m - 1, by omega⟩
    cases text with
    | nil =>
      obtain ⟨cap', σ', h1, h2⟩ := lex_end (call := call) (draw := drawA call G) (G := G) (fuel := fuel) rows cap r0 r1 line col p0 p1 p2 p3 p4 toks ho (by simp at hrows; omega)
      refine ⟨_, σ', ?_, cap', rfl, h2⟩
      rw [jumpsA_succ, h1]
    | cons c t =>
      simp only [List.length_cons] at hn hrows hl hc hm
      have hlt : t.length < 5000 := by omega
      simp only [lexF]
      -- a step and the rest
      have goOn : ∀ (text' : List UInt8) (line' col' : Int) (rows' : List AV) (cap' : Cap) (toks' : Store) (x0 x1 x2 x3 x4 : AV),
          evalCode call (drawA call G) G fuel i26_L2 (some 0) (lexE (.sl 5 rows cap)) (lexS (c :: t) (.cells [r0, r1] (some 53)) line col (.cells [p0, p1, p2, p3, p4] (some 61) :: toks)) = some (.goto 0, lexE (.sl 5 rows' cap'), lexS text' (.cells [r0, r1] (some 53)) line' col' (.cells [x0, x1, x2, x3, x4] (some 61) :: toks')) →
          text'.length ≤ t.length → text'.length + rows'.length ≤ 4999 → 0 ≤ line' → line' + text'.length ≤ 5000 → 0 ≤ col' → col' + text'.length ≤ 5000 → OutOk rows' cap' toks' →
          ∃ env σ', jumpsA (evalCode call (drawA call G) G fuel i26_L2) (m + 1) (some 0) (lexE (.sl 5 rows cap)) (lexS (c :: t) (.cells [r0, r1] (some 53)) line col (.cells [p0, p1, p2, p3, p4] (some 61) :: toks)) = some (.ret, env, σ') ∧ LexOut (lexF n text' line' col' rows') env σ' := by
        intro text' line' col' rows' cap' toks' x0 x1 x2 x3 x4 hst h1 h2 h3 h4 h5 h6 h7
        obtain ⟨env, σ', k1, k2⟩ := ih text' line' col' rows' cap' toks' r0 r1 x0 x1 x2 x3 x4 m (by omega) h2 h3 h4 h5 h6 h7 (by omega)
        exact ⟨env, σ', by rw [jumpsA_succ, hst]; exact k1, k2⟩
      -- two steps and the rest
      have goTwo : ∀ (k : Int) (tx : List UInt8) (nn : Int) (sp : Nat), 1 ≤ sp → sp ≤ t.length + 1 →
          evalCode call (drawA call G) G fuel i26_L2 (some 0) (lexE (.sl 5 rows cap)) (lexS (c :: t) (.cells [r0, r1] (some 53)) line col (.cells [p0, p1, p2, p3, p4] (some 61) :: toks)) = some (.goto 1, lexE (.sl 5 rows cap), lexS ((c :: t).drop sp) (.cells [r0, r1] (some 53)) line (col + sp) (pieceO k tx nn line col :: toks)) →
          ∃ env σ', jumpsA (evalCode call (drawA call G) G fuel i26_L2) (m + 1) (some 0) (lexE (.sl 5 rows cap)) (lexS (c :: t) (.cells [r0, r1] (some 53)) line col (.cells [p0, p1, p2, p3, p4] (some 61) :: toks)) = some (.ret, env, σ') ∧ LexOut (lexF n ((c :: t).drop sp) line (col + sp) (rows ++ [pieceA k tx nn line col])) env σ' := by
        intro k tx nn sp hs1 hs2 hst
        obtain ⟨m, rfl⟩ : ∃ m', m = m' + 1 := ⟨m - 1, by omega⟩
        obtain ⟨cap', toks', k1, k2⟩ := lex_put (call := call) (draw := drawA call G) (G := G) (fuel := fuel) rows cap ((c :: t).drop sp) (.cells [r0, r1] (some 53)) line (col + sp) k tx nn line col toks ho (by omega)
        have hlen : ((c :: t).drop sp).length = t.length + 1 - sp := by simp
        obtain ⟨env, σ', q1, q2⟩ := ih ((c :: t).drop sp) line (col + sp) (rows ++ [pieceA k tx nn line col]) cap' toks' r0 r1 (.int .u8 k) (.str tx) (.int .u64 nn) (.int .i64 line) (.int .i64 col) m (by omega) (by simp; omega) hl0 (by omega) (by omega) (by omega) k2 (by omega)
        refine ⟨env, σ', ?_, q2⟩
        rw [jumpsA_succ, hst]
        simp only
        rw [jumpsA_succ, k1]
        exact q1
      by_cases h10 : (c.toNat == 10) = true
      · rw [if_pos h10]
        have : c = 10 := UInt8.toNat_inj.1 (by simpa using h10)
        subst this
        obtain ⟨q0, q1, q2, q3, q4, hst⟩ := lex_lf (call := call) (draw := drawA call G) (G := G) (fuel := fuel) H.take t (.cells [r0, r1] (some 53)) line col p0 p1 p2 p3 p4 toks (.sl 5 rows cap) hlt hl0 (by omega) hc0 (by omega)
        exact goOn t (line + 1) 1 rows cap toks q0 q1 q2 q3 q4 hst (Nat.le_refl _) (by omega) (by omega) (by omega) (by omega) (by omega) ho
      · rw [if_neg h10]
        by_cases hb : (c.toNat == 32 || c.toNat == 9) = true
        · rw [if_pos hb]
          obtain ⟨q0, q1, q2, q3, q4, hst⟩ := lex_blank (call := call) (draw := drawA call G) (G := G) (fuel := fuel) H.take c hb t (.cells [r0, r1] (some 53)) line col p0 p1 p2 p3 p4 toks (.sl 5 rows cap) hlt hc0 (by omega)
          exact goOn t line (col + 1) rows cap toks q0 q1 q2 q3 q4 hst (Nat.le_refl _) (by omega) (by omega) (by omega) (by omega) (by omega) ho
        · rw [if_neg hb]
          by_cases h35 : (c.toNat == 35) = true
          · rw [if_pos h35]
            have : c = 35 := UInt8.toNat_inj.1 (by simpa using h35)
            subst this
            obtain ⟨q0, q1, q2, q3, q4, hst⟩ := lex_hash (call := call) (draw := drawA call G) (G := G) (fuel := fuel) H.take H.lf t (.cells [r0, r1] (some 53)) line col p0 p1 p2 p3 p4 toks (.sl 5 rows cap) hlt hc0 (by omega)
            have s1 : 1 ≤ spanLen noLf (35 :: t) := spanLen_pos (by decide)
            have s2 := spanLen_le noLf (35 :: t)
            simp only [List.length_cons] at s2
            exact goOn _ line _ rows cap toks q0 q1 q2 q3 q4 hst (by simp; omega) (by simp; omega) (by omega) (by simp; omega) (by omega) (by simp; omega) ho
          · rw [if_neg h35]
            by_cases hd : digitB c = true
            · rw [if_pos hd]
              have s1 : 1 ≤ spanLen digitB (c :: t) := spanLen_pos hd
              have s2 := spanLen_le digitB (c :: t)
              simp only [List.length_cons] at s2
              rcases parse_digits c t hd with ⟨u, hp⟩ | hp
              · rw [hp]
                have hst := lex_num (call := call) (draw := drawA call G) (G := G) (fuel := fuel) H.take H.digits H.digit H.parse c hd t (.cells [r0, r1] (some 53)) line col p0 p1 p2 p3 p4 toks (.sl 5 rows cap) hlt hc0 (by omega) u hp
                exact goTwo 1 _ u _ s1 s2 hst
              · rw [hp]
                obtain ⟨σ', hst, h2⟩ := lex_numErr (call := call) (G := G) (fuel := fuel) H.take H.digits H.digit H.parse c hd t r0 r1 line col p0 p1 p2 p3 p4 toks (.sl 5 rows cap) hlt hc0 (by omega) hp
                exact ⟨_, σ', by rw [jumpsA_succ, hst], rfl, h2⟩
            · rw [if_neg hd]
              by_cases hw : letterB c = true
              · rw [if_pos hw]
                have s1 : 1 ≤ spanLen wordB (c :: t) := spanLen_pos (by simp [wordB, hw])
                have s2 := spanLen_le wordB (c :: t)
                simp only [List.length_cons] at s2
                have hst := lex_word (call := call) (draw := drawA call G) (G := G) (fuel := fuel) H.take H.word H.digit H.letter c hw t (.cells [r0, r1] (some 53)) line col p0 p1 p2 p3 p4 toks (.sl 5 rows cap) hlt hc0 (by omega)
                exact goTwo 2 _ 0 _ s1 s2 hst
              · rw [if_neg hw]
                have hoth : other c = true := by
                  simp only [Bool.not_eq_true] at h10 hb h35 hd hw
                  simp only [Bool.or_eq_false_iff] at hb
                  simp [other, h10, hb.1, hb.2, h35, hd, hw]
                by_cases hs : signN (c :: t) = 0
                · rw [if_pos hs]
                  obtain ⟨σ', hst, h2⟩ := lex_signErr (call := call) (G := G) (fuel := fuel) H.digit H.letter H.sign c hoth t r0 r1 line col p0 p1 p2 p3 p4 toks (.sl 5 rows cap) hlt hs
                  exact ⟨_, σ', by rw [jumpsA_succ, hst], rfl, h2⟩
                · rw [if_neg hs]
                  obtain ⟨cap', toks', q0, q1, q2, q3, q4, hst, ho'⟩ := lex_sign (call := call) (draw := drawA call G) (G := G) (fuel := fuel) H.take H.digit H.letter H.sign c hoth t (.cells [r0, r1] (some 53)) line col p0 p1 p2 p3 p4 toks rows cap hlt hc0 (by omega) hs ho (by omega)
                  have s2 := signN_le c t
                  simp only [List.length_cons] at s2
                  exact goOn _ line _ _ cap' toks' q0 q1 q2 q3 q4 hst (by simp; omega) (by simp; omega) (by omega) (by simp; omega) (by omega) (by simp; omega) ho'
end
end Go.Pm
end

section
set_option linter.unusedSimpArgs false
set_option linter.unusedVariables false
set_option linter.unusedSectionVars false
/- The lexer as a function. -/
set_option maxRecDepth 100000
set_option linter.unusedSimpArgs false
namespace Go.Pm
section
variable {call : CallA} {draw : DrawA} {G : Globals} {fuel : Nat}

theorem lex_start (text : List UInt8) (ht : text.length ≤ 4096) :
    evalCode call draw G fuel i26_L2 none [(1, .bp 0 0), (3, .bp 1 0)] [.cells [.str text] (some 9), .cells [.int .i64 0, .int .i64 0] (some 53)] =
    evalCode call draw G fuel i26_L2 (some 0) (lexE (.sl 5 [] .exact)) (lexS text (.cells [.int .i64 0, .int .i64 0] (some 53)) 1 1 (.cells [.int .u8 0, .str [], .int .u64 0, .int .i64 0, .int .i64 0] (some 61) :: [])) := by
  have e1 : ((text.length : Int) > 4096) = False := by simp; omega
  simp only [evalFn, params, List.length_cons, List.length_nil, Nat.reduceAdd, evalCode, evalOps, guardOk, evalOp, AX.ev, look, putE, val, evs, optEv, binA, intBin, wrapI, unA, callM, keepE_cons, keepE_nil, callC, strips, stripWs, stripW, AV.flatv, flatvs, Nat.reduceEqDiff, if_true, if_false, reduceIte, Int.toNat_natCast, List.append_nil, List.nil_append, List.cons_append, decide_true, decide_false, bft, btf, btt, bff, Bool.false_eq_true, resultsA, oneOrTup, Option.map_some, Option.map_none, Bool.not_true, Bool.not_false, loadAt, storeAt, storeOf, partOf, List.getElem?_cons_zero, List.getElem?_cons_succ, List.set_cons_zero, List.set_cons_succ, AV.cells, AV.isCell, List.all_cons, List.all_nil, Bool.and_true, Bool.and_false, Bool.false_and, Bool.true_and, Bool.and_self, and_true, true_and, and_self, putAt, hasLabel, Bool.or_false, Bool.false_or, Bool.or_true, Bool.true_or, fillA, pickParts, pickSl, strBin, eqA, eqCell, ne_eq, not_true_eq_false, not_false_eq_true, Nat.reduceLeDiff, Nat.reduceLT, Nat.reduceMul, Nat.reduceSub, Nat.zero_add, Nat.add_zero, Option.bind_some, asNat, bounds2, reduceCtorEq, List.take_succ_cons, List.take_zero, List.drop_succ_cons, List.drop_zero, Nat.reduceBEq, List.take_nil, List.drop_nil, Int.reduceLE, Int.reduceLT, Int.reduceToNat, Int.toNat_zero, Int.reduceBEq, Int.le_refl, Nat.le_refl, i26_L2, lexE, lexS, e1]

theorem lex_long (text : List UInt8) (ht : 4096 < text.length) :
    ∃ σ', evalCode call (drawA call G) G fuel i26_L2 none [(1, .bp 0 0), (3, .bp 1 0)] [.cells [.str text] (some 9), .cells [.int .i64 0, .int .i64 0] (some 53)] =
    some (.ret, [(2, .sl 5 [] .exact), (3, .bp 1 0), (4, .int .i64 4)], σ') ∧ σ'[1]? = some (.cells [.int .i64 1, .int .i64 1] (some 53)) := by
  have e1 : ((text.length : Int) > 4096) = True := by simp; omega
  simp only [evalFn, params, List.length_cons, List.length_nil, Nat.reduceAdd, evalCode, evalOps, guardOk, evalOp, AX.ev, look, putE, val, evs, optEv, binA, intBin, wrapI, unA, callM, keepE_cons, keepE_nil, callC, strips, stripWs, stripW, AV.flatv, flatvs, Nat.reduceEqDiff, if_true, if_false, reduceIte, Int.toNat_natCast, List.append_nil, List.nil_append, List.cons_append, decide_true, decide_false, bft, btf, btt, bff, Bool.false_eq_true, resultsA, oneOrTup, Option.map_some, Option.map_none, Bool.not_true, Bool.not_false, loadAt, storeAt, storeOf, partOf, List.getElem?_cons_zero, List.getElem?_cons_succ, List.set_cons_zero, List.set_cons_succ, AV.cells, AV.isCell, List.all_cons, List.all_nil, Bool.and_true, Bool.and_false, Bool.false_and, Bool.true_and, Bool.and_self, and_true, true_and, and_self, putAt, hasLabel, Bool.or_false, Bool.false_or, Bool.or_true, Bool.true_or, fillA, pickParts, pickSl, strBin, eqA, eqCell, ne_eq, not_true_eq_false, not_false_eq_true, Nat.reduceLeDiff, Nat.reduceLT, Nat.reduceMul, Nat.reduceSub, Nat.zero_add, Nat.add_zero, Option.bind_some, asNat, bounds2, reduceCtorEq, List.take_succ_cons, List.take_zero, List.drop_succ_cons, List.drop_zero, Nat.reduceBEq, List.take_nil, List.drop_nil, Int.reduceLE, Int.reduceLT, Int.reduceToNat, Int.toNat_zero, Int.reduceBEq, Int.le_refl, Nat.le_refl, puress, AV.pure, strip, drawA, goD, stepG, stepD, bornD, readsD, births, AOp.births, Eff.app, pairsD, loudsD, loudD, conflict, apart, AOp.shares, List.replicate_zero, List.replicate_succ, List.getD_cons_succ, List.getD_cons_zero, List.contains_cons, List.contains_nil, Bool.not_or, Option.getD_some, Option.getD_none, Nat.reduceBNe, decide_eq_true_eq, Bool.if_false_left, i26_L2, e1]
  exact ⟨_, rfl, rfl⟩

/-- What the lexer answers. -/
def lexR (text : List UInt8) : LexR := if 4096 < text.length then .err 1 1 4 else lexF 4097 text 1 1 []

def LexR.av : LexR → AV
  | .ok l => .tup [.sl 5 l .no, .agg [.int .i64 0, .int .i64 0], .int .i64 0]
  | .err line col code => .tup [.sl 5 [] .no, .agg [.int .i64 line, .int .i64 col], .int .i64 code]

theorem jumps_first (f : Option Nat → Env → Store → Res) (n : Nat) (s : Option Nat) (env env' : Env) (σ σ' : Store) (h : f none env σ = f s env' σ') : jumpsA f (n + 1) none env σ = jumpsA f (n + 1) s env' σ' := by
  rw [jumpsA_succ, jumpsA_succ, h]

theorem lex_spec (H : LexCalls call) (text : List UInt8) (hf : 20000 ≤ fuel) :
    ∃ v σ', evalFn call (drawA call G) G fuel i26 [.str text] [] = some (.ret v, σ') ∧
      match lexR text with
      | .ok l => ∃ cap, v = .tup [.sl 5 l cap, .agg [.int .i64 0, .int .i64 0], .int .i64 0]
      | .err line col code => v = .tup [.sl 5 [] .exact, .agg [.int .i64 line, .int .i64 col], .int .i64 code] := by
  obtain ⟨fuel, rfl⟩ : ∃ f, fuel = f + 1 := ⟨fuel - 1, by omega⟩
  have body : ∃ env σ', jumpsA (evalCode call (drawA call G) G (fuel + 1) i26_L2) (fuel + 1) none [(1, .bp 0 0), (3, .bp 1 0)] [.cells [.str text] (some 9), .cells [.int .i64 0, .int .i64 0] (some 53)] = some (.ret, env, σ') ∧ LexOut (lexR text) env σ' := by
    by_cases ht : 4096 < text.length
    · obtain ⟨σ', h1, h2⟩ := lex_long (call := call) (G := G) (fuel := fuel + 1) text ht
      refine ⟨_, σ', by rw [jumpsA_succ, h1], ?_⟩
      unfold lexR; rw [if_pos ht]; exact ⟨rfl, h2⟩
    · rw [jumps_first _ _ (some 0) _ _ _ _ (lex_start text (by omega))]
      unfold lexR; rw [if_neg ht]
      exact lex_go H 4097 text 1 1 [] .exact [] (.int .i64 0) (.int .i64 0) _ _ _ _ _ (fuel + 1) (by omega) (by simp; omega) (by omega) (by omega) (by omega) (by omega) (.inl ⟨rfl, rfl⟩) (by omega)
  obtain ⟨env, σ', h1, h2⟩ := body
  generalize lexR text = R at *
  cases R with
  | ok l =>
    obtain ⟨cap, rfl, hs⟩ := h2
    refine ⟨.tup [.sl 5 l cap, .agg [.int .i64 0, .int .i64 0], .int .i64 0], σ', ?_, cap, rfl⟩
    simp only [evalFn, params, List.length_cons, List.length_nil, Nat.reduceAdd, evalCode, evalOps, guardOk, evalOp, AX.ev, look, putE, val, evs, optEv, binA, intBin, wrapI, unA, callM, keepE_cons, keepE_nil, callC, strips, stripWs, stripW, AV.flatv, flatvs, Nat.reduceEqDiff, if_true, if_false, reduceIte, Int.toNat_natCast, List.append_nil, List.nil_append, List.cons_append, decide_true, decide_false, bft, btf, btt, bff, Bool.false_eq_true, resultsA, oneOrTup, Option.map_some, Option.map_none, Bool.not_true, Bool.not_false, loadAt, storeAt, storeOf, partOf, List.getElem?_cons_zero, List.getElem?_cons_succ, List.set_cons_zero, List.set_cons_succ, AV.cells, AV.isCell, List.all_cons, List.all_nil, Bool.and_true, Bool.and_false, Bool.false_and, Bool.true_and, Bool.and_self, and_true, true_and, and_self, putAt, hasLabel, Bool.or_false, Bool.false_or, Bool.or_true, Bool.true_or, fillA, pickParts, pickSl, strBin, eqA, eqCell, ne_eq, not_true_eq_false, not_false_eq_true, Nat.reduceLeDiff, Nat.reduceLT, Nat.reduceMul, Nat.reduceSub, Nat.zero_add, Nat.add_zero, Option.bind_some, asNat, bounds2, reduceCtorEq, List.take_succ_cons, List.take_zero, List.drop_succ_cons, List.drop_zero, Nat.reduceBEq, List.take_nil, List.drop_nil, Int.reduceLE, Int.reduceLT, Int.reduceToNat, Int.toNat_zero, Int.reduceBEq, Int.le_refl, Nat.le_refl, i26, h1, hs]
  | err line col code =>
    obtain ⟨rfl, hs⟩ := h2
    refine ⟨_, σ', ?_, rfl⟩
    simp only [evalFn, params, List.length_cons, List.length_nil, Nat.reduceAdd, evalCode, evalOps, guardOk, evalOp, AX.ev, look, putE, val, evs, optEv, binA, intBin, wrapI, unA, callM, keepE_cons, keepE_nil, callC, strips, stripWs, stripW, AV.flatv, flatvs, Nat.reduceEqDiff, if_true, if_false, reduceIte, Int.toNat_natCast, List.append_nil, List.nil_append, List.cons_append, decide_true, decide_false, bft, btf, btt, bff, Bool.false_eq_true, resultsA, oneOrTup, Option.map_some, Option.map_none, Bool.not_true, Bool.not_false, loadAt, storeAt, storeOf, partOf, List.getElem?_cons_zero, List.getElem?_cons_succ, List.set_cons_zero, List.set_cons_succ, AV.cells, AV.isCell, List.all_cons, List.all_nil, Bool.and_true, Bool.and_false, Bool.false_and, Bool.true_and, Bool.and_self, and_true, true_and, and_self, putAt, hasLabel, Bool.or_false, Bool.false_or, Bool.or_true, Bool.true_or, fillA, pickParts, pickSl, strBin, eqA, eqCell, ne_eq, not_true_eq_false, not_false_eq_true, Nat.reduceLeDiff, Nat.reduceLT, Nat.reduceMul, Nat.reduceSub, Nat.zero_add, Nat.add_zero, Option.bind_some, asNat, bounds2, reduceCtorEq, List.take_succ_cons, List.take_zero, List.drop_succ_cons, List.drop_zero, Nat.reduceBEq, List.take_nil, List.drop_nil, Int.reduceLE, Int.reduceLT, Int.reduceToNat, Int.toNat_zero, Int.reduceBEq, Int.le_refl, Nat.le_refl, i26, h1, hs]
end
end Go.Pm
end

section
set_option linter.unusedSimpArgs false
set_option linter.unusedVariables false
set_option linter.unusedSectionVars false
/- LexLimits: its loop, its answer. -/
set_option maxRecDepth 100000
set_option linter.unusedSimpArgs false
namespace Go.Pm
section
variable {call : CallA} {draw : DrawA} {G : Globals} {fuel : Nat}

mutual
theorem stripW_flat (f : Nat → Option (List AV)) : ∀ v : AV, v.flatv = true → stripW f v = some v
  | .bool _, _ | .int .., _ | .str _, _ | .flt .., _ | .cplx .., _ | .nilp, _ | .nilm, _ | .nilf, _ | .nili, _ => rfl
  | .agg cs, h => by simp only [stripW]; rw [stripWs_flat f cs (by simpa [AV.flatv] using h)]
  | .tup cs, h => by simp only [stripW]; rw [stripWs_flat f cs (by simpa [AV.flatv] using h)]
  | .iface t v, h => by simp only [stripW]; rw [stripW_flat f v (by simpa [AV.flatv] using h)]
  | .ip .., h | .bp .., h | .sl .., h | .bs .., h | .map _, h | .fn .., h => by simp [AV.flatv] at h
theorem stripWs_flat (f : Nat → Option (List AV)) : ∀ v : List AV, flatvs v = true → stripWs f v = some v
  | [], _ => rfl
  | v :: r, h => by
    simp only [flatvs, Bool.and_eq_true] at h
    simp only [stripWs]
    rw [stripW_flat f v h.1, stripWs_flat f r h.2]
end

theorem flatvs_append : ∀ (a b : List AV), flatvs (a ++ b) = (flatvs a && flatvs b)
  | [], b => by simp [flatvs]
  | v :: a, b => by simp [flatvs, flatvs_append a b, Bool.and_assoc]

theorem lexF_flat : ∀ (n : Nat) (text : List UInt8) (line col : Int) (acc : List AV), flatvs acc = true → ∀ l, lexF n text line col acc = .ok l → flatvs l = true
  | 0, _, _, _, _, _, l, h => by simp [lexF] at h
  | n + 1, [], line, col, acc, ha, l, h => by
    simp only [lexF, LexR.ok.injEq] at h; subst h
    rw [flatvs_append, ha]; rfl
  | n + 1, c :: t, line, col, acc, ha, l, h => by
    have hp : ∀ k tx nn, flatvs (acc ++ [pieceA k tx nn line col]) = true := fun k tx nn => by rw [flatvs_append, ha]; rfl
    simp only [lexF] at h
    repeat' split at h
    all_goals first
      | (cases h; done)
      | exact lexF_flat n _ _ _ _ ha l h
      | exact lexF_flat n _ _ _ _ (hp _ _ _) l h

/-- What a caller of the lexer sees. -/
def Lexes (call : CallA) : Prop := ∀ (text : List UInt8) (σ : Store), callC call 26 [.str text] σ = some (.ret (lexR text).av, σ)

theorem lexes_of (h : ∀ text : List UInt8, ∃ v σ', call 26 [.str text] [] = some (.ret v, σ') ∧
      match lexR text with
      | .ok l => ∃ cap, v = .tup [.sl 5 l cap, .agg [.int .i64 0, .int .i64 0], .int .i64 0]
      | .err line col code => v = .tup [.sl 5 [] .exact, .agg [.int .i64 line, .int .i64 col], .int .i64 code]) : Lexes call := by
  intro text σ
  obtain ⟨v, σ', h1, h2⟩ := h text
  cases hR : lexR text with
  | ok l =>
    rw [hR] at h2
    obtain ⟨cap, rfl⟩ := h2
    have hl : flatvs l = true := by
      unfold lexR at hR
      split at hR
      · cases hR
      · exact lexF_flat _ _ _ _ _ rfl l hR
    simp only [callC, strips, stripWs, stripW, h1, AV.flatv, flatvs, Bool.false_and, puress, AV.pure, strip, stripWs_flat _ l hl, LexR.av]
    rfl
  | err line col code =>
    rw [hR] at h2
    subst h2
    simp only [callC, strips, stripWs, stripW, h1, AV.flatv, flatvs, Bool.false_and, puress, AV.pure, strip, LexR.av]
    rfl

theorem lexF_spaces : ∀ (k n : Nat) (line col : Int) (acc : List AV), k < n → lexF n (List.replicate k 32) line col acc = .ok (acc ++ [pieceA 0 [] 0 line (col + k)])
  | 0, n + 1, line, col, acc, _ => by simp [lexF]
  | k + 1, n + 1, line, col, acc, h => by
    rw [List.replicate_succ, lexF]
    rw [if_neg (by decide), if_pos (by decide), lexF_spaces k n line (col + 1) acc (by omega)]
    congr 4
    omega

theorem lim_on (b0 b1 b2 : AObj) (c1 c3 c6 : AV) (a z : List AV) (x : AV) (e : Option TypeId) (n m : Nat) (ha : a.length = n) (hm : n < m) (hm2 : m ≤ 4096) (hz : n + 1 + z.length = m) :
    evalCode call draw G fuel i7_L0 none [(1, c1), (3, c3), (5, .bp 1 0), (6, c6), (8, .bs 1 3 0 m), (9, .int .i64 n)] [b0, b1, b2, .cells (a ++ x :: z) e] =
      some (.normal, [(1, c1), (3, c3), (5, .bp 1 0), (6, c6), (8, .bs 1 3 0 m), (9, .int .i64 (n + 1 : Nat))], [b0, b1, b2, .cells ((a ++ [.int .u8 32]) ++ z) e]) := by
  have e1 : ((n : Int) < (m : Int)) = True := by simp; omega
  have e2 : (0 ≤ (n : Int)) = True := by simp
  have e3 : IntKind.i64.wrap ((n : Int) + 1) = ((n + 1 : Nat) : Int) := by rw [wrap_i64] <;> omega
  have e4 : (n + 1 ≤ (a ++ x :: z).length) = True := by simp; omega
  have e5 : putAt (a ++ x :: z) n [AV.int .u8 32] = a ++ AV.int .u8 32 :: z := by
    subst ha
    clear hm hz hm2 e1 e2 e3 e4
    induction a with
    | nil => cases z <;> rfl
    | cons y a ih => simp only [List.cons_append, List.length_cons, putAt, ih]
  simp only [evalFn, params, List.length_cons, List.length_nil, Nat.reduceAdd, evalCode, evalOps, guardOk, evalOp, AX.ev, look, putE, val, evs, optEv, binA, intBin, wrapI, unA, callM, keepE_cons, keepE_nil, callC, strips, stripWs, stripW, AV.flatv, flatvs, Nat.reduceEqDiff, if_true, if_false, reduceIte, Int.toNat_natCast, List.append_nil, List.nil_append, List.cons_append, decide_true, decide_false, bft, btf, btt, bff, Bool.false_eq_true, resultsA, oneOrTup, Option.map_some, Option.map_none, Bool.not_true, Bool.not_false, loadAt, storeAt, storeOf, partOf, List.getElem?_cons_zero, List.getElem?_cons_succ, List.set_cons_zero, List.set_cons_succ, AV.cells, AV.isCell, List.all_cons, List.all_nil, Bool.and_true, Bool.and_false, Bool.false_and, Bool.true_and, Bool.and_self, and_true, true_and, and_self, putAt, hasLabel, Bool.or_false, Bool.false_or, Bool.or_true, Bool.true_or, fillA, pickParts, pickSl, strBin, eqA, eqCell, ne_eq, not_true_eq_false, not_false_eq_true, Nat.reduceLeDiff, Nat.reduceLT, Nat.reduceMul, Nat.reduceSub, Nat.zero_add, Nat.add_zero, Option.bind_some, asNat, bounds2, reduceCtorEq, List.take_succ_cons, List.take_zero, List.drop_succ_cons, List.drop_zero, Nat.reduceBEq, List.take_nil, List.drop_nil, Int.reduceLE, Int.reduceLT, Int.reduceToNat, Int.toNat_zero, Int.reduceBEq, Int.le_refl, Nat.le_refl, i7_L0, e1, e2, e3, e4, e5, Nat.mul_one, List.append_assoc]

theorem lim_off (b0 b1 b2 b3 : AObj) (c1 c3 c6 : AV) (m : Nat) :
    evalCode call draw G fuel i7_L0 none [(1, c1), (3, c3), (5, .bp 1 0), (6, c6), (8, .bs 1 3 0 m), (9, .int .i64 m)] [b0, b1, b2, b3] =
      some (.exit 0, [(1, c1), (3, c3), (5, .bp 1 0), (6, c6), (8, .bs 1 3 0 m), (9, .int .i64 m), (33, .bool false)], [b0, b1, b2, b3]) := by
  have e1 : ((m : Int) < (m : Int)) = False := by simp
  simp only [evalFn, params, List.length_cons, List.length_nil, Nat.reduceAdd, evalCode, evalOps, guardOk, evalOp, AX.ev, look, putE, val, evs, optEv, binA, intBin, wrapI, unA, callM, keepE_cons, keepE_nil, callC, strips, stripWs, stripW, AV.flatv, flatvs, Nat.reduceEqDiff, if_true, if_false, reduceIte, Int.toNat_natCast, List.append_nil, List.nil_append, List.cons_append, decide_true, decide_false, bft, btf, btt, bff, Bool.false_eq_true, resultsA, oneOrTup, Option.map_some, Option.map_none, Bool.not_true, Bool.not_false, loadAt, storeAt, storeOf, partOf, List.getElem?_cons_zero, List.getElem?_cons_succ, List.set_cons_zero, List.set_cons_succ, AV.cells, AV.isCell, List.all_cons, List.all_nil, Bool.and_true, Bool.and_false, Bool.false_and, Bool.true_and, Bool.and_self, and_true, true_and, and_self, putAt, hasLabel, Bool.or_false, Bool.false_or, Bool.or_true, Bool.true_or, fillA, pickParts, pickSl, strBin, eqA, eqCell, ne_eq, not_true_eq_false, not_false_eq_true, Nat.reduceLeDiff, Nat.reduceLT, Nat.reduceMul, Nat.reduceSub, Nat.zero_add, Nat.add_zero, Option.bind_some, asNat, bounds2, reduceCtorEq, List.take_succ_cons, List.take_zero, List.drop_succ_cons, List.drop_zero, Nat.reduceBEq, List.take_nil, List.drop_nil, Int.reduceLE, Int.reduceLT, Int.reduceToNat, Int.toNat_zero, Int.reduceBEq, Int.le_refl, Nat.le_refl, i7_L0, e1]

theorem lim_loop (b0 b1 b2 : AObj) (c1 c3 c6 : AV) (e : Option TypeId) (m : Nat) (hm2 : m ≤ 4096) : ∀ (k n : Nat) (a z : List AV) (f : Nat), a.length = n → z.length = k → n + k = m → k < f →
    iterA (evalCode call draw G fuel i7_L0 none) [1, 3, 5, 6, 8, 9] f [(1, c1), (3, c3), (5, .bp 1 0), (6, c6), (8, .bs 1 3 0 m), (9, .int .i64 n)] [b0, b1, b2, .cells (a ++ z) e] =
      some (.exit 0, [(1, c1), (3, c3), (5, .bp 1 0), (6, c6), (8, .bs 1 3 0 m), (9, .int .i64 m), (33, .bool false)], [b0, b1, b2, .cells (a ++ List.replicate k (.int .u8 32)) e]) := by
  intro k
  induction k with
  | zero =>
    intro n a z f ha hz hn hf
    obtain ⟨f, rfl⟩ : ∃ f', f = f' + 1 := ⟨f - 1, by omega⟩
    obtain rfl : z = [] := List.eq_nil_of_length_eq_zero hz
    obtain rfl : n = m := by omega
    have h1 := lim_off (call := call) (draw := draw) (G := G) (fuel := fuel) b0 b1 b2 (.cells (a ++ []) e) c1 c3 c6 n
    exact iterA_out (by simpa only [keepE_cons, keepE_nil, look, Nat.reduceEqDiff, if_true, if_false, reduceIte, List.replicate_zero] using h1) (by simp)
  | succ k ih =>
    intro n a z f ha hz hn hf
    obtain ⟨f, rfl⟩ : ∃ f', f = f' + 1 := ⟨f - 1, by omega⟩
    cases z with
    | nil => simp at hz
    | cons x z =>
      simp only [List.length_cons] at hz
      have h1 := lim_on (call := call) (draw := draw) (G := G) (fuel := fuel) b0 b1 b2 c1 c3 c6 a z x e n m ha (by omega) hm2 (by omega)
      rw [iterA_normal (by simpa only [keepE_cons, keepE_nil, look, Nat.reduceEqDiff, if_true, if_false, reduceIte] using h1)]
      rw [ih (n + 1) (a ++ [AV.int .u8 32]) z f (by simp [ha]) (by omega) (by omega) (by omega)]
      rw [List.append_assoc, List.singleton_append, ← List.replicate_succ]

def spaces : List UInt8 := List.replicate 4096 32
def zeroRow : List AV := List.replicate 4096 (.int .u8 0)
def spaceRow : List AV := List.replicate 4096 (.int .u8 32)

theorem bytesOf_rep (b : UInt8) : ∀ n, bytesOf (List.replicate n (.int .u8 b.toNat)) = some (List.replicate n b)
  | 0 => rfl
  | n + 1 => by
    rw [List.replicate_succ, bytesOf, bytesOf_rep b n, List.replicate_succ]
    simp

theorem lim_spec (hL : Lexes call) (hw : ∀ σ, callC call 25 [] σ = some (.ret (.bool true), σ)) (hf : 5000 < fuel) :
    ∃ σ', evalFn call draw G fuel i7 [] [] = some (.ret (.bool true), σ') := by
  have r1 : lexR [49, 56, 52, 52, 54, 55, 52, 52, 48, 55, 51, 55, 48, 57, 53, 53, 49, 54, 49, 53] = .ok [pieceA 1 [49, 56, 52, 52, 54, 55, 52, 52, 48, 55, 51, 55, 48, 57, 53, 53, 49, 54, 49, 53] 18446744073709551615 1 1, pieceA 0 [] 0 1 21] := by rfl
  have r2 : lexR [97, 32, 49, 56, 52, 52, 54, 55, 52, 52, 48, 55, 51, 55, 48, 57, 53, 53, 49, 54, 49, 54] = .err 1 3 4 := by rfl
  have r3 : lexR spaces = .ok [pieceA 0 [] 0 1 4097] := by
    unfold lexR spaces
    rw [if_neg (by simp), lexF_spaces 4096 4097 1 1 [] (by omega)]
    rfl
  have r4 : lexR (spaces ++ [32]) = .err 1 1 4 := by
    unfold lexR spaces
    rw [if_pos (by simp)]
  have z1 : (List.replicate 4096 [AV.int .u8 0]).flatten = zeroRow := by
    unfold zeroRow
    have : ∀ n, (List.replicate n [AV.int .u8 0]).flatten = List.replicate n (.int .u8 0) := by
      intro n; induction n with
      | zero => rfl
      | succ n ih => rw [List.replicate_succ, List.flatten_cons, ih, List.replicate_succ]; rfl
    exact this 4096
  have z2 : bytesOf zeroRow = some (List.replicate 4096 0) := bytesOf_rep 0 4096
  have z3 : zeroRow.length = 4096 := by unfold zeroRow; simp
  have z4 : zeroRow.all AV.isCell = true := by unfold zeroRow; rw [List.all_replicate]; simp [AV.isCell]
  have z5 : zeroRow.take 4096 = zeroRow := List.take_of_length_le (by rw [z3]; exact Nat.le_refl _)
  have z6 : (List.replicate 4096 (0 : UInt8)).map (fun b => AV.int .u8 (b.toNat : Int)) = zeroRow := by rw [List.map_replicate]; rfl
  have z7 : (List.replicate 4096 (0 : UInt8)).length = 4096 := by simp
  have p2 : bytesOf spaceRow = some spaces := bytesOf_rep 32 4096
  have p3 : spaceRow.length = 4096 := by unfold spaceRow; simp
  have p4 : spaceRow.all AV.isCell = true := by unfold spaceRow; rw [List.all_replicate]; simp [AV.isCell]
  have p5 : spaceRow.take 4096 = spaceRow := List.take_of_length_le (by rw [p3]; exact Nat.le_refl _)
  have p6 : spaces.length = 4096 := by unfold spaces; simp
  have loop := fun b0 b1 b2 c1 c3 c6 e => lim_loop (call := call) (draw := draw) (G := G) (fuel := fuel) b0 b1 b2 c1 c3 c6 e 4096 (by omega) 4096 0 [] zeroRow fuel rfl z3 rfl (by omega)
  simp only [List.nil_append, Int.ofNat_zero] at loop
  have loop' : ∀ b0 b1 b2 c1 c3 c6 e, iterA (evalCode call draw G fuel i7_L0 none) [1, 3, 5, 6, 8, 9] fuel [(1, c1), (3, c3), (5, .bp 1 0), (6, c6), (8, .bs 1 3 0 4096), (9, .int .i64 0)] [b0, b1, b2, .cells zeroRow e] =
      some (.exit 0, [(1, c1), (3, c3), (5, .bp 1 0), (6, c6), (8, .bs 1 3 0 4096), (9, .int .i64 4096), (33, .bool false)], [b0, b1, b2, .cells spaceRow e]) := loop
  clear loop
  have l1 := fun σ => hL [49, 56, 52, 52, 54, 55, 52, 52, 48, 55, 51, 55, 48, 57, 53, 53, 49, 54, 49, 53] σ
  have l2 := fun σ => hL [97, 32, 49, 56, 52, 52, 54, 55, 52, 52, 48, 55, 51, 55, 48, 57, 53, 53, 49, 54, 49, 54] σ
  have l3 := fun σ => hL spaces σ
  have l4 := fun σ => hL (spaces ++ [32]) σ
  rw [r1] at l1; rw [r2] at l2; rw [r3] at l3; rw [r4] at l4
  simp only [LexR.av, pieceA] at l1 l2 l3 l4
  clear r1 r2 r3 r4 hL
  generalize spaces = S at *
  generalize zeroRow = Z at *
  generalize spaceRow = T at *
  have q1 : ((4096 : Int).toNat * 1 ≤ 281474976710656) = True := by simp
  have q2 : ((4096 : Int) ≤ 9223372036854775807) = True := by simp
  have q3 : (S.length + 1 ≤ 9223372036854775807) = True := by rw [p6]; simp
  have key : Ends call draw G fuel i7.body [] [] fun e env _ => e = .ret ∧ look env 0 = some (.bool true) := by
    unfold i7
    refine Ends.seq (by simp only [evalFn, params, List.length_cons, List.length_nil, Nat.reduceAdd, evalCode, evalOps, guardOk, evalOp, AX.ev, look, putE, val, evs, optEv, binA, intBin, wrapI, unA, callM, keepE_cons, keepE_nil, Nat.reduceEqDiff, if_true, if_false, reduceIte, Int.toNat_natCast, List.append_nil, List.nil_append, List.cons_append, decide_true, decide_false, bft, btf, btt, bff, Bool.false_eq_true, resultsA, oneOrTup, Option.map_some, Option.map_none, Bool.not_true, Bool.not_false, loadAt, storeAt, storeOf, partOf, List.getElem?_cons_zero, List.getElem?_cons_succ, List.set_cons_zero, List.set_cons_succ, AV.cells, AV.isCell, List.all_cons, List.all_nil, Bool.and_true, Bool.and_false, Bool.false_and, Bool.true_and, Bool.and_self, and_true, true_and, and_self, putAt, hasLabel, Bool.or_false, Bool.false_or, Bool.or_true, Bool.true_or, fillA, pickParts, pickSl, strBin, eqA, eqCell, ne_eq, not_true_eq_false, not_false_eq_true, Nat.reduceLeDiff, Nat.reduceLT, Nat.reduceMul, Nat.reduceSub, Nat.zero_add, Nat.add_zero, Option.bind_some, asNat, bounds2, reduceCtorEq, List.take_succ_cons, List.take_zero, List.drop_succ_cons, List.drop_zero, Nat.reduceBEq, List.take_nil, List.drop_nil, Int.reduceLE, Int.reduceLT, Int.reduceToNat, Int.toNat_zero, Int.reduceBEq, Int.le_refl, Nat.le_refl, b2s, srcRow, binA]; rfl) ?_
    refine Ends.seq (by simp only [evalFn, params, List.length_cons, List.length_nil, Nat.reduceAdd, evalCode, evalOps, guardOk, evalOp, AX.ev, look, putE, val, evs, optEv, binA, intBin, wrapI, unA, callM, keepE_cons, keepE_nil, Nat.reduceEqDiff, if_true, if_false, reduceIte, Int.toNat_natCast, List.append_nil, List.nil_append, List.cons_append, decide_true, decide_false, bft, btf, btt, bff, Bool.false_eq_true, resultsA, oneOrTup, Option.map_some, Option.map_none, Bool.not_true, Bool.not_false, loadAt, storeAt, storeOf, partOf, List.getElem?_cons_zero, List.getElem?_cons_succ, List.set_cons_zero, List.set_cons_succ, AV.cells, AV.isCell, List.all_cons, List.all_nil, Bool.and_true, Bool.and_false, Bool.false_and, Bool.true_and, Bool.and_self, and_true, true_and, and_self, putAt, hasLabel, Bool.or_false, Bool.false_or, Bool.or_true, Bool.true_or, fillA, pickParts, pickSl, strBin, eqA, eqCell, ne_eq, not_true_eq_false, not_false_eq_true, Nat.reduceLeDiff, Nat.reduceLT, Nat.reduceMul, Nat.reduceSub, Nat.zero_add, Nat.add_zero, Option.bind_some, asNat, bounds2, reduceCtorEq, List.take_succ_cons, List.take_zero, List.drop_succ_cons, List.drop_zero, Nat.reduceBEq, List.take_nil, List.drop_nil, Int.reduceLE, Int.reduceLT, Int.reduceToNat, Int.toNat_zero, Int.reduceBEq, Int.le_refl, Nat.le_refl, b2s, srcRow, binA, l1]; rfl) ?_
    refine Ends.seq (by simp only [evalFn, params, List.length_cons, List.length_nil, Nat.reduceAdd, evalCode, evalOps, guardOk, evalOp, AX.ev, look, putE, val, evs, optEv, binA, intBin, wrapI, unA, callM, keepE_cons, keepE_nil, Nat.reduceEqDiff, if_true, if_false, reduceIte, Int.toNat_natCast, List.append_nil, List.nil_append, List.cons_append, decide_true, decide_false, bft, btf, btt, bff, Bool.false_eq_true, resultsA, oneOrTup, Option.map_some, Option.map_none, Bool.not_true, Bool.not_false, loadAt, storeAt, storeOf, partOf, List.getElem?_cons_zero, List.getElem?_cons_succ, List.set_cons_zero, List.set_cons_succ, AV.cells, AV.isCell, List.all_cons, List.all_nil, Bool.and_true, Bool.and_false, Bool.false_and, Bool.true_and, Bool.and_self, and_true, true_and, and_self, putAt, hasLabel, Bool.or_false, Bool.false_or, Bool.or_true, Bool.true_or, fillA, pickParts, pickSl, strBin, eqA, eqCell, ne_eq, not_true_eq_false, not_false_eq_true, Nat.reduceLeDiff, Nat.reduceLT, Nat.reduceMul, Nat.reduceSub, Nat.zero_add, Nat.add_zero, Option.bind_some, asNat, bounds2, reduceCtorEq, List.take_succ_cons, List.take_zero, List.drop_succ_cons, List.drop_zero, Nat.reduceBEq, List.take_nil, List.drop_nil, Int.reduceLE, Int.reduceLT, Int.reduceToNat, Int.toNat_zero, Int.reduceBEq, Int.le_refl, Nat.le_refl, b2s, srcRow, binA, l2]; rfl) ?_
    refine Ends.seq (by simp only [evalFn, params, List.length_cons, List.length_nil, Nat.reduceAdd, evalCode, evalOps, guardOk, evalOp, AX.ev, look, putE, val, evs, optEv, binA, intBin, wrapI, unA, callM, keepE_cons, keepE_nil, Nat.reduceEqDiff, if_true, if_false, reduceIte, Int.toNat_natCast, List.append_nil, List.nil_append, List.cons_append, decide_true, decide_false, bft, btf, btt, bff, Bool.false_eq_true, resultsA, oneOrTup, Option.map_some, Option.map_none, Bool.not_true, Bool.not_false, loadAt, storeAt, storeOf, partOf, List.getElem?_cons_zero, List.getElem?_cons_succ, List.set_cons_zero, List.set_cons_succ, AV.cells, AV.isCell, List.all_cons, List.all_nil, Bool.and_true, Bool.and_false, Bool.false_and, Bool.true_and, Bool.and_self, and_true, true_and, and_self, putAt, hasLabel, Bool.or_false, Bool.false_or, Bool.or_true, Bool.true_or, fillA, pickParts, pickSl, strBin, eqA, eqCell, ne_eq, not_true_eq_false, not_false_eq_true, Nat.reduceLeDiff, Nat.reduceLT, Nat.reduceMul, Nat.reduceSub, Nat.zero_add, Nat.add_zero, Option.bind_some, asNat, bounds2, reduceCtorEq, List.take_succ_cons, List.take_zero, List.drop_succ_cons, List.drop_zero, Nat.reduceBEq, List.take_nil, List.drop_nil, Int.reduceLE, Int.reduceLT, Int.reduceToNat, Int.toNat_zero, Int.reduceBEq, Int.le_refl, Nat.le_refl, b2s, srcRow, binA, z1, z2, z3, z4, z5, z6, z7, q1, q2]; rfl) ?_
    refine Ends.seq (by simp only [evalFn, params, List.length_cons, List.length_nil, Nat.reduceAdd, evalCode, evalOps, guardOk, evalOp, AX.ev, look, putE, val, evs, optEv, binA, intBin, wrapI, unA, callM, keepE_cons, keepE_nil, Nat.reduceEqDiff, if_true, if_false, reduceIte, Int.toNat_natCast, List.append_nil, List.nil_append, List.cons_append, decide_true, decide_false, bft, btf, btt, bff, Bool.false_eq_true, resultsA, oneOrTup, Option.map_some, Option.map_none, Bool.not_true, Bool.not_false, loadAt, storeAt, storeOf, partOf, List.getElem?_cons_zero, List.getElem?_cons_succ, List.set_cons_zero, List.set_cons_succ, AV.cells, AV.isCell, List.all_cons, List.all_nil, Bool.and_true, Bool.and_false, Bool.false_and, Bool.true_and, Bool.and_self, and_true, true_and, and_self, putAt, hasLabel, Bool.or_false, Bool.false_or, Bool.or_true, Bool.true_or, fillA, pickParts, pickSl, strBin, eqA, eqCell, ne_eq, not_true_eq_false, not_false_eq_true, Nat.reduceLeDiff, Nat.reduceLT, Nat.reduceMul, Nat.reduceSub, Nat.zero_add, Nat.add_zero, Option.bind_some, asNat, bounds2, reduceCtorEq, List.take_succ_cons, List.take_zero, List.drop_succ_cons, List.drop_zero, Nat.reduceBEq, List.take_nil, List.drop_nil, Int.reduceLE, Int.reduceLT, Int.reduceToNat, Int.toNat_zero, Int.reduceBEq, Int.le_refl, Nat.le_refl, b2s, srcRow, binA, z1, z2, z3, z4, z5, z6, z7, q1, q2]; rfl) ?_
    refine Ends.seq (by simp only [evalFn, params, List.length_cons, List.length_nil, Nat.reduceAdd, evalCode, evalOps, guardOk, evalOp, AX.ev, look, putE, val, evs, optEv, binA, intBin, wrapI, unA, callM, keepE_cons, keepE_nil, Nat.reduceEqDiff, if_true, if_false, reduceIte, Int.toNat_natCast, List.append_nil, List.nil_append, List.cons_append, decide_true, decide_false, bft, btf, btt, bff, Bool.false_eq_true, resultsA, oneOrTup, Option.map_some, Option.map_none, Bool.not_true, Bool.not_false, loadAt, storeAt, storeOf, partOf, List.getElem?_cons_zero, List.getElem?_cons_succ, List.set_cons_zero, List.set_cons_succ, AV.cells, AV.isCell, List.all_cons, List.all_nil, Bool.and_true, Bool.and_false, Bool.false_and, Bool.true_and, Bool.and_self, and_true, true_and, and_self, putAt, hasLabel, Bool.or_false, Bool.false_or, Bool.or_true, Bool.true_or, fillA, pickParts, pickSl, strBin, eqA, eqCell, ne_eq, not_true_eq_false, not_false_eq_true, Nat.reduceLeDiff, Nat.reduceLT, Nat.reduceMul, Nat.reduceSub, Nat.zero_add, Nat.add_zero, Option.bind_some, asNat, bounds2, reduceCtorEq, List.take_succ_cons, List.take_zero, List.drop_succ_cons, List.drop_zero, Nat.reduceBEq, List.take_nil, List.drop_nil, Int.reduceLE, Int.reduceLT, Int.reduceToNat, Int.toNat_zero, Int.reduceBEq, Int.le_refl, Nat.le_refl, b2s, srcRow, binA, loop']; rfl) ?_
    refine Ends.seq (by simp only [evalFn, params, List.length_cons, List.length_nil, Nat.reduceAdd, evalCode, evalOps, guardOk, evalOp, AX.ev, look, putE, val, evs, optEv, binA, intBin, wrapI, unA, callM, keepE_cons, keepE_nil, Nat.reduceEqDiff, if_true, if_false, reduceIte, Int.toNat_natCast, List.append_nil, List.nil_append, List.cons_append, decide_true, decide_false, bft, btf, btt, bff, Bool.false_eq_true, resultsA, oneOrTup, Option.map_some, Option.map_none, Bool.not_true, Bool.not_false, loadAt, storeAt, storeOf, partOf, List.getElem?_cons_zero, List.getElem?_cons_succ, List.set_cons_zero, List.set_cons_succ, AV.cells, AV.isCell, List.all_cons, List.all_nil, Bool.and_true, Bool.and_false, Bool.false_and, Bool.true_and, Bool.and_self, and_true, true_and, and_self, putAt, hasLabel, Bool.or_false, Bool.false_or, Bool.or_true, Bool.true_or, fillA, pickParts, pickSl, strBin, eqA, eqCell, ne_eq, not_true_eq_false, not_false_eq_true, Nat.reduceLeDiff, Nat.reduceLT, Nat.reduceMul, Nat.reduceSub, Nat.zero_add, Nat.add_zero, Option.bind_some, asNat, bounds2, reduceCtorEq, List.take_succ_cons, List.take_zero, List.drop_succ_cons, List.drop_zero, Nat.reduceBEq, List.take_nil, List.drop_nil, Int.reduceLE, Int.reduceLT, Int.reduceToNat, Int.toNat_zero, Int.reduceBEq, Int.le_refl, Nat.le_refl, b2s, srcRow, binA, p2, p3, p4, p5, p6, l3, Nat.mul_one]; rfl) ?_
    refine Ends.seq (by simp only [evalFn, params, List.length_cons, List.length_nil, Nat.reduceAdd, evalCode, evalOps, guardOk, evalOp, AX.ev, look, putE, val, evs, optEv, binA, intBin, wrapI, unA, callM, keepE_cons, keepE_nil, Nat.reduceEqDiff, if_true, if_false, reduceIte, Int.toNat_natCast, List.append_nil, List.nil_append, List.cons_append, decide_true, decide_false, bft, btf, btt, bff, Bool.false_eq_true, resultsA, oneOrTup, Option.map_some, Option.map_none, Bool.not_true, Bool.not_false, loadAt, storeAt, storeOf, partOf, List.getElem?_cons_zero, List.getElem?_cons_succ, List.set_cons_zero, List.set_cons_succ, AV.cells, AV.isCell, List.all_cons, List.all_nil, Bool.and_true, Bool.and_false, Bool.false_and, Bool.true_and, Bool.and_self, and_true, true_and, and_self, putAt, hasLabel, Bool.or_false, Bool.false_or, Bool.or_true, Bool.true_or, fillA, pickParts, pickSl, strBin, eqA, eqCell, ne_eq, not_true_eq_false, not_false_eq_true, Nat.reduceLeDiff, Nat.reduceLT, Nat.reduceMul, Nat.reduceSub, Nat.zero_add, Nat.add_zero, Option.bind_some, asNat, bounds2, reduceCtorEq, List.take_succ_cons, List.take_zero, List.drop_succ_cons, List.drop_zero, Nat.reduceBEq, List.take_nil, List.drop_nil, Int.reduceLE, Int.reduceLT, Int.reduceToNat, Int.toNat_zero, Int.reduceBEq, Int.le_refl, Nat.le_refl, b2s, srcRow, binA, p2, p3, p4, p5, p6, l4, q3, Nat.mul_one]; rfl) ?_
    refine Ends.seq (by simp only [evalFn, params, List.length_cons, List.length_nil, Nat.reduceAdd, evalCode, evalOps, guardOk, evalOp, AX.ev, look, putE, val, evs, optEv, binA, intBin, wrapI, unA, callM, keepE_cons, keepE_nil, Nat.reduceEqDiff, if_true, if_false, reduceIte, Int.toNat_natCast, List.append_nil, List.nil_append, List.cons_append, decide_true, decide_false, bft, btf, btt, bff, Bool.false_eq_true, resultsA, oneOrTup, Option.map_some, Option.map_none, Bool.not_true, Bool.not_false, loadAt, storeAt, storeOf, partOf, List.getElem?_cons_zero, List.getElem?_cons_succ, List.set_cons_zero, List.set_cons_succ, AV.cells, AV.isCell, List.all_cons, List.all_nil, Bool.and_true, Bool.and_false, Bool.false_and, Bool.true_and, Bool.and_self, and_true, true_and, and_self, putAt, hasLabel, Bool.or_false, Bool.false_or, Bool.or_true, Bool.true_or, fillA, pickParts, pickSl, strBin, eqA, eqCell, ne_eq, not_true_eq_false, not_false_eq_true, Nat.reduceLeDiff, Nat.reduceLT, Nat.reduceMul, Nat.reduceSub, Nat.zero_add, Nat.add_zero, Option.bind_some, asNat, bounds2, reduceCtorEq, List.take_succ_cons, List.take_zero, List.drop_succ_cons, List.drop_zero, Nat.reduceBEq, List.take_nil, List.drop_nil, Int.reduceLE, Int.reduceLT, Int.reduceToNat, Int.toNat_zero, Int.reduceBEq, Int.le_refl, Nat.le_refl, b2s, srcRow, binA, hw, eqFields, Int.cast_ofNat_Int, Int.natCast_one, Int.natCast_zero, Int.reduceLT, List.length_singleton, beq_self_eq_true, and_true, true_and]; rfl) ?_
    exact Ends.done (by simp only [evalFn, params, List.length_cons, List.length_nil, Nat.reduceAdd, evalCode, evalOps, guardOk, evalOp, AX.ev, look, putE, val, evs, optEv, binA, intBin, wrapI, unA, callM, keepE_cons, keepE_nil, Nat.reduceEqDiff, if_true, if_false, reduceIte, Int.toNat_natCast, List.append_nil, List.nil_append, List.cons_append, decide_true, decide_false, bft, btf, btt, bff, Bool.false_eq_true, resultsA, oneOrTup, Option.map_some, Option.map_none, Bool.not_true, Bool.not_false, loadAt, storeAt, storeOf, partOf, List.getElem?_cons_zero, List.getElem?_cons_succ, List.set_cons_zero, List.set_cons_succ, AV.cells, AV.isCell, List.all_cons, List.all_nil, Bool.and_true, Bool.and_false, Bool.false_and, Bool.true_and, Bool.and_self, and_true, true_and, and_self, putAt, hasLabel, Bool.or_false, Bool.false_or, Bool.or_true, Bool.true_or, fillA, pickParts, pickSl, strBin, eqA, eqCell, ne_eq, not_true_eq_false, not_false_eq_true, Nat.reduceLeDiff, Nat.reduceLT, Nat.reduceMul, Nat.reduceSub, Nat.zero_add, Nat.add_zero, Option.bind_some, asNat, bounds2, reduceCtorEq, List.take_succ_cons, List.take_zero, List.drop_succ_cons, List.drop_zero, Nat.reduceBEq, List.take_nil, List.drop_nil, Int.reduceLE, Int.reduceLT, Int.reduceToNat, Int.toNat_zero, Int.reduceBEq, Int.le_refl, Nat.le_refl, b2s, srcRow, binA]; rfl) ⟨rfl, rfl⟩
  obtain ⟨e, env, σ', k1, rfl, k2⟩ := key
  refine ⟨σ', ?_⟩
  simp only [evalFn, show i7.nparams = 0 from rfl, show i7.res = [.tmp 0] from rfl, params, List.length_nil, if_true, k1, resultsA, k2, oneOrTup, Option.map_some]
end
end Go.Pm
end

section
set_option linter.unusedSimpArgs false
set_option linter.unusedVariables false
set_option linter.unusedSectionVars false
/- ProgModes comes to true. -/
set_option maxRecDepth 100000
namespace Go.Pm
open Go.Proofs Go.Proofs.YtehcekeccnlboaaDoor

def tailAt : Nat → ACode → ACode
  | n + 1, .seq _ b => tailAt n b
  | _, c => c
def headOf : ACode → ACode
  | .seq a _ => a
  | c => c

/-- What wakes layer 4, and its functions. -/
def progW : CallA := orC (atF 35 (pureS trueS)) (runA irOf libP (lookG progGl) 200)
theorem progW_sound : CallS Tryd.prog (lookG progGl) progW :=
  ((runP_sound progGl_pure 200).closed progGl_pure (isTrue_some wakes35)).or (runP_sound progGl_pure 200)

def strEq : Option (AOut × Store) → Option (AOut × Store) → Bool
  | some (.ret (.str a), []), some (.ret (.str b), []) => a == b
  | _, _ => false
theorem modes_alike : ((List.range 256).all fun m => strEq (callC progW 30 [.int .u8 m] []) (callC progW 31 [.int .u8 m] [])) = true := by kernel_rfl

theorem modes_at (m : Nat) (hm : m < 256) : ∃ t, callC progW 30 [.int .u8 m] [] = some (.ret (.str t), []) ∧ callC progW 31 [.int .u8 m] [] = some (.ret (.str t), []) := by
  have h := List.all_eq_true.1 modes_alike m (List.mem_range.2 hm)
  unfold strEq at h
  split at h
  · rename_i a b h1 h2
    have : a = b := by simpa using h
    subst this
    exact ⟨a, h1, h2⟩
  · cases h


def stmtZ (t : AV) : AV := .agg [.int .u8 9, .int .u8 0, .int .u8 0, .int .u8 0, .ip 8 [.agg [.int .u8 0, .int .u8 0, .int .u64 0, .int .u8 0, .int .u8 0, .int .u8 0, .nilp, .nilp]] 0 0, .nilp, t, .sl 8 [] .exact]
def nestRow : Nat → List AV
  | 0 => []
  | n + 1 => [stmtZ (.sl 8 (nestRow n) .exact)]
def nestAV (n : Nat) : AV := .sl 8 (nestRow n) .exact

def walkOk (d : Nat) : Bool := match progW 32 [nestAV d, .fn (.func 33) [] [.bp 0 0]] [.cells [.int .i64 0] (some 3)] with
  | some (.ret _, .cells [.int .i64 n] (some 3) :: _) => n == (Nat.min d 8 : Nat)
  | _ => false
def deepOk (d : Nat) : Bool := match callC progW 34 [nestAV d] [] with
  | some (.ret (.int .i64 n), []) => n == (Nat.min (d + 1) 9 : Nat)
  | _ => false
theorem walk_ok : ((List.range 20).all walkOk) = true := by kernel_rfl
theorem deep_ok : ((List.range 20).all deepOk) = true := by kernel_rfl

def rowOf (k : Nat) : List Int :=
  if k = 2 then [1, 2, 3] else if k = 3 then [1, 2, 4] else if k = 4 ∨ k = 5 ∨ k = 6 then [2, 3, 4, 5] else if k = 7 then [3, 4, 5, 6] else []
theorem kinds_all : (List.range 256).map (fun k => callC progW 29 [.int .u8 (k : Nat)] []) = (List.range 256).map (fun k => some (.ret (.sl 1 ((rowOf k).map (.int .u8)) .no), [])) := by kernel_rfl
theorem kinds_at (k : Nat) (h : k < 256) : callC progW 29 [.int .u8 k] [] = some (.ret (.sl 1 ((rowOf k).map (.int .u8)) .no), []) := by
  have := congrArg (fun l => l[k]?) kinds_all
  simpa [List.getElem?_range h] using this

theorem walk_at (d : Nat) (h : d < 20) : ∃ v rest, progW 32 [nestAV d, .fn (.func 33) [] [.bp 0 0]] [.cells [.int .i64 0] (some 3)] = some (.ret v, .cells [.int .i64 (Nat.min d 8 : Nat)] (some 3) :: rest) := by
  have k := List.all_eq_true.1 walk_ok d (List.mem_range.2 h)
  unfold walkOk at k
  split at k
  · rename_i v n rest e
    have : n = (Nat.min d 8 : Nat) := by simpa using k
    subst this
    exact ⟨v, rest, e⟩
  · cases k

theorem nest_pure : ∀ d, puress [nestAV d] = true
  | 0 => rfl
  | d + 1 => by
    have := nest_pure d
    simp only [nestAV, puress, AV.pure, Bool.and_true] at this
    simp only [nestAV, nestRow, stmtZ, puress, AV.pure, this, Bool.and_true]

theorem deep_at (d : Nat) (h : d < 20) (σ : Store) : callC progW 34 [nestAV d] σ = some (.ret (.int .i64 (Nat.min (d + 1) 9 : Nat)), σ) := by
  have k := List.all_eq_true.1 deep_ok d (List.mem_range.2 h)
  unfold deepOk at k
  split at k
  · rename_i n e
    have : n = (Nat.min (d + 1) 9 : Nat) := by simpa using k
    subst this
    obtain ⟨σ2, h2⟩ := callC_pure (nest_pure d) e σ
    have h3 := h2
    unfold callC at h3
    split at h3
    · cases h3
    · split at h3
      · split at h3
        · cases h3; exact h2
        · split at h3
          · split at h3
            · cases h3; exact h2
            · cases h3
          · cases h3
      · split at h3 <;> cases h3
      · cases h3
  · cases k

end Go.Pm
end

section
set_option linter.unusedSimpArgs false
set_option linter.unusedVariables false
set_option linter.unusedSectionVars false
/- ProgModes comes to true. -/
set_option maxRecDepth 100000
set_option linter.unusedSimpArgs false
namespace Go.Pm
open Go.Proofs Go.Proofs.YtehcekeccnlboaaDoor
section
variable {draw : DrawA} {G : Globals} {fuel : Nat}

theorem modes_on (d n : Nat) (hd : d < 256) (hn : n < d % 20) (row : List AV) :
    evalCode progW draw G fuel i8_L1 none [(2, .int .u8 d), (10, .sl 8 row .exact), (11, .int .i64 n)] [] = some (.normal, [(2, .int .u8 d), (10, .sl 8 [stmtZ (.sl 8 row .exact)] .exact), (11, .int .i64 (n + 1 : Nat))], []) := by
  have e1 : IntKind.i64.wrap (d : Int) = d := by rw [wrap_i64] <;> omega
  have e2 : (d : Int).tmod 20 = (d % 20 : Nat) := (Int.ofNat_tmod d 20).symm
  have e3 : ((n : Int) < ((d % 20 : Nat) : Int)) = True := by simp; omega
  have e4 : IntKind.i64.wrap ((n : Int) + 1) = ((n + 1 : Nat) : Int) := by rw [wrap_i64] <;> omega
  have e5 : ((20 : Int) = 0) = False := by simp
  simp only [evalFn, params, List.length_cons, List.length_nil, Nat.reduceAdd, evalCode, evalOps, guardOk, evalOp, AX.ev, look, putE, val, evs, optEv, binA, intBin, wrapI, unA, callM, keepE_cons, keepE_nil, callC, strips, stripWs, stripW, AV.flatv, flatvs, Nat.reduceEqDiff, if_true, if_false, reduceIte, Int.toNat_natCast, List.append_nil, List.nil_append, List.cons_append, decide_true, decide_false, bft, btf, btt, bff, Bool.false_eq_true, resultsA, oneOrTup, Option.map_some, Option.map_none, Bool.not_true, Bool.not_false, loadAt, storeAt, storeOf, partOf, List.getElem?_cons_zero, List.getElem?_cons_succ, List.set_cons_zero, List.set_cons_succ, AV.cells, AV.isCell, List.all_cons, List.all_nil, Bool.and_true, Bool.and_false, Bool.false_and, Bool.true_and, Bool.and_self, and_true, true_and, and_self, putAt, hasLabel, Bool.or_false, Bool.false_or, Bool.or_true, Bool.true_or, fillA, pickParts, pickSl, strBin, eqA, eqCell, ne_eq, not_true_eq_false, not_false_eq_true, Nat.reduceLeDiff, Nat.reduceLT, Nat.reduceMul, Nat.reduceSub, Nat.zero_add, Nat.add_zero, Option.bind_some, asNat, bounds2, reduceCtorEq, List.take_succ_cons, List.take_zero, List.drop_succ_cons, List.drop_zero, Nat.reduceBEq, List.take_nil, List.drop_nil, Int.reduceLE, Int.reduceLT, Int.reduceToNat, Int.toNat_zero, Int.reduceBEq, Int.le_refl, Nat.le_refl, i8_L1, e1, e2, e3, e4, e5, stmtZ, List.replicate_succ, List.replicate_zero, List.flatten_cons, List.flatten_nil, rowOfCells, chunks]

theorem modes_off (d : Nat) (hd : d < 256) (row : List AV) :
    ∃ env, evalCode progW draw G fuel i8_L1 none [(2, .int .u8 d), (10, .sl 8 row .exact), (11, .int .i64 (d % 20 : Nat))] [] = some (.exit 3, env, []) ∧ look env 2 = some (.int .u8 d) ∧ look env 10 = some (.sl 8 row .exact) := by
  have e1 : IntKind.i64.wrap (d : Int) = d := by rw [wrap_i64] <;> omega
  have e2 : (d : Int).tmod 20 = (d % 20 : Nat) := (Int.ofNat_tmod d 20).symm
  have e3 : (((d % 20 : Nat) : Int) < ((d % 20 : Nat) : Int)) = False := by simp
  have e5 : ((20 : Int) = 0) = False := by simp
  simp only [evalFn, params, List.length_cons, List.length_nil, Nat.reduceAdd, evalCode, evalOps, guardOk, evalOp, AX.ev, look, putE, val, evs, optEv, binA, intBin, wrapI, unA, callM, keepE_cons, keepE_nil, callC, strips, stripWs, stripW, AV.flatv, flatvs, Nat.reduceEqDiff, if_true, if_false, reduceIte, Int.toNat_natCast, List.append_nil, List.nil_append, List.cons_append, decide_true, decide_false, bft, btf, btt, bff, Bool.false_eq_true, resultsA, oneOrTup, Option.map_some, Option.map_none, Bool.not_true, Bool.not_false, loadAt, storeAt, storeOf, partOf, List.getElem?_cons_zero, List.getElem?_cons_succ, List.set_cons_zero, List.set_cons_succ, AV.cells, AV.isCell, List.all_cons, List.all_nil, Bool.and_true, Bool.and_false, Bool.false_and, Bool.true_and, Bool.and_self, and_true, true_and, and_self, putAt, hasLabel, Bool.or_false, Bool.false_or, Bool.or_true, Bool.true_or, fillA, pickParts, pickSl, strBin, eqA, eqCell, ne_eq, not_true_eq_false, not_false_eq_true, Nat.reduceLeDiff, Nat.reduceLT, Nat.reduceMul, Nat.reduceSub, Nat.zero_add, Nat.add_zero, Option.bind_some, asNat, bounds2, reduceCtorEq, List.take_succ_cons, List.take_zero, List.drop_succ_cons, List.drop_zero, Nat.reduceBEq, List.take_nil, List.drop_nil, Int.reduceLE, Int.reduceLT, Int.reduceToNat, Int.toNat_zero, Int.reduceBEq, Int.le_refl, Nat.le_refl, i8_L1, e1, e2, e3, e5]
  exact ⟨_, rfl, rfl, rfl⟩

theorem modes_loop (d : Nat) (hd : d < 256) : ∀ (k n f : Nat), n + k = d % 20 → k < f →
    ∃ env, iterA (evalCode progW draw G fuel i8_L1 none) [2, 10, 11] f [(2, .int .u8 d), (10, .sl 8 (nestRow n) .exact), (11, .int .i64 n)] [] = some (.exit 3, env, []) ∧ look env 2 = some (.int .u8 d) ∧ look env 10 = some (nestAV (d % 20)) := by
  intro k
  induction k with
  | zero =>
    intro n f hn hf
    obtain ⟨f, rfl⟩ : ∃ f', f = f' + 1 := ⟨f - 1, by omega⟩
    obtain rfl : n = d % 20 := by omega
    obtain ⟨env, h1, h2, h3⟩ := modes_off (draw := draw) (G := G) (fuel := fuel) d hd (nestRow (d % 20))
    exact ⟨env, iterA_out (by simpa only [keepE_cons, keepE_nil, look, Nat.reduceEqDiff, if_true, if_false, reduceIte] using h1) (by simp), h2, h3⟩
  | succ k ih =>
    intro n f hn hf
    obtain ⟨f, rfl⟩ : ∃ f', f = f' + 1 := ⟨f - 1, by omega⟩
    have h1 := modes_on (draw := draw) (G := G) (fuel := fuel) d n hd (by omega) (nestRow n)
    rw [iterA_normal (by simpa only [keepE_cons, keepE_nil, look, Nat.reduceEqDiff, if_true, if_false, reduceIte] using h1)]
    exact ih (n + 1) f (by omega) (by omega)

def exit1 : Res → Option (Option AV × Store)
  | some (.exit 1, env, σ) => some (look env 2, σ)
  | _ => none
theorem exit1_some {r : Res} {x : AV} (h : exit1 r = some (some x, [])) : ∃ env, r = some (.exit 1, env, []) ∧ look env 2 = some x := by
  unfold exit1 at h
  split at h
  · rename_i env σ
    simp only [Option.some.injEq, Prod.mk.injEq] at h
    obtain ⟨h1, rfl⟩ := h
    exact ⟨env, rfl, h1⟩
  · cases h

theorem rows_loop (k : Nat) (x : AV) : ∃ env, iterA (evalCode progW (drawA progW G) G 300 i8_L0 none) [2, 8, 9] 300 [(2, x), (8, .sl 1 ((rowOf k).map (.int .u8)) .no), (9, .int .i64 1)] [] = some (.exit 1, env, []) ∧ look env 2 = some x := by
  apply exit1_some
  unfold rowOf
  repeat' split
  all_goals kernel_rfl
end

section
variable {G : Globals}
theorem modes_ends (m k d : Nat) (hm : m < 256) (hk : k < 256) (hd : d < 256) :
    Ends progW (drawA progW G) G 300 i8.body [(0, .int .u8 m), (1, .int .u8 k), (2, .int .u8 d)] [] fun e env _ => e = .ret ∧ look env 6 = some (.bool true) := by
  obtain ⟨t, m1, m2⟩ := modes_at m hm
  have k1 := kinds_at k hk
  obtain ⟨r1, r2, r3⟩ := rows_loop (G := G) k (.int .u8 d)
  obtain ⟨l1, l2, l3, l4⟩ := modes_loop (draw := drawA progW G) (G := G) (fuel := 300) d hd (d % 20) 0 300 (by omega) (by omega)
  simp only [nestRow, Int.ofNat_zero] at l2
  have hd20 : d % 20 < 20 := by omega
  obtain ⟨v, rest, w1⟩ := walk_at (d % 20) hd20
  have d1 := deep_at (d % 20) hd20
  have wk : ∀ σ, callC progW 35 [] σ = some (.ret (.bool true), σ) := fun σ => rfl
  have e1 : IntKind.i64.wrap (d : Int) = d := by rw [wrap_i64] <;> omega
  have e2 : (d : Int).tmod 20 = (d % 20 : Nat) := (Int.ofNat_tmod d 20).symm
  have e5 : ((20 : Int) = 0) = False := by simp
  have e6 : IntKind.i64.wrap (((d % 20 : Nat) : Int) + 1) = ((d % 20 + 1 : Nat) : Int) := by rw [wrap_i64] <;> omega
  have q1 : ((((d % 20 + 1).min 9 : Nat) : Int) == if (9 : Int) < ((d % 20 + 1 : Nat) : Int) then 9 else ((d % 20 + 1 : Nat) : Int)) = true := by
    rw [beq_iff_eq]; split <;> rw [show (d % 20 + 1).min 9 = if d % 20 + 1 ≤ 9 then d % 20 + 1 else 9 from rfl] <;> split <;> omega
  have q2 : ((((d % 20).min 8 : Nat) : Int) == if (8 : Int) < ((d % 20 : Nat) : Int) then 8 else ((d % 20 : Nat) : Int)) = true := by
    rw [beq_iff_eq]; split <;> rw [show (d % 20).min 8 = if d % 20 ≤ 8 then d % 20 else 8 from rfl] <;> split <;> omega
  unfold i8
  refine Ends.seq (by simp only [evalFn, params, List.length_cons, List.length_nil, Nat.reduceAdd, evalCode, evalOps, guardOk, evalOp, AX.ev, look, putE, val, evs, optEv, binA, intBin, wrapI, unA, callM, keepE_cons, keepE_nil, Nat.reduceEqDiff, if_true, if_false, reduceIte, Int.toNat_natCast, List.append_nil, List.nil_append, List.cons_append, decide_true, decide_false, bft, btf, btt, bff, Bool.false_eq_true, resultsA, oneOrTup, Option.map_some, Option.map_none, Bool.not_true, Bool.not_false, loadAt, storeAt, storeOf, partOf, List.getElem?_cons_zero, List.getElem?_cons_succ, List.set_cons_zero, List.set_cons_succ, AV.cells, AV.isCell, List.all_cons, List.all_nil, Bool.and_true, Bool.and_false, Bool.false_and, Bool.true_and, Bool.and_self, and_true, true_and, and_self, putAt, hasLabel, Bool.or_false, Bool.false_or, Bool.or_true, Bool.true_or, fillA, pickParts, pickSl, strBin, eqA, eqCell, ne_eq, not_true_eq_false, not_false_eq_true, Nat.reduceLeDiff, Nat.reduceLT, Nat.reduceMul, Nat.reduceSub, Nat.zero_add, Nat.add_zero, Option.bind_some, asNat, bounds2, reduceCtorEq, List.take_succ_cons, List.take_zero, List.drop_succ_cons, List.drop_zero, Nat.reduceBEq, List.take_nil, List.drop_nil, Int.reduceLE, Int.reduceLT, Int.reduceToNat, Int.toNat_zero, Int.reduceBEq, Int.le_refl, Nat.le_refl, b2s, srcRow, binA, beq_self_eq_true, bne_self_eq_false, minI, maxI, foldI, Bool.not_not, Int.lt_irrefl, gt_iff_lt, ge_iff_le, List.length_map]; rfl) ?_
  refine Ends.seq (by simp only [evalFn, params, List.length_cons, List.length_nil, Nat.reduceAdd, evalCode, evalOps, guardOk, evalOp, AX.ev, look, putE, val, evs, optEv, binA, intBin, wrapI, unA, callM, keepE_cons, keepE_nil, Nat.reduceEqDiff, if_true, if_false, reduceIte, Int.toNat_natCast, List.append_nil, List.nil_append, List.cons_append, decide_true, decide_false, bft, btf, btt, bff, Bool.false_eq_true, resultsA, oneOrTup, Option.map_some, Option.map_none, Bool.not_true, Bool.not_false, loadAt, storeAt, storeOf, partOf, List.getElem?_cons_zero, List.getElem?_cons_succ, List.set_cons_zero, List.set_cons_succ, AV.cells, AV.isCell, List.all_cons, List.all_nil, Bool.and_true, Bool.and_false, Bool.false_and, Bool.true_and, Bool.and_self, and_true, true_and, and_self, putAt, hasLabel, Bool.or_false, Bool.false_or, Bool.or_true, Bool.true_or, fillA, pickParts, pickSl, strBin, eqA, eqCell, ne_eq, not_true_eq_false, not_false_eq_true, Nat.reduceLeDiff, Nat.reduceLT, Nat.reduceMul, Nat.reduceSub, Nat.zero_add, Nat.add_zero, Option.bind_some, asNat, bounds2, reduceCtorEq, List.take_succ_cons, List.take_zero, List.drop_succ_cons, List.drop_zero, Nat.reduceBEq, List.take_nil, List.drop_nil, Int.reduceLE, Int.reduceLT, Int.reduceToNat, Int.toNat_zero, Int.reduceBEq, Int.le_refl, Nat.le_refl, b2s, srcRow, binA, beq_self_eq_true, bne_self_eq_false, minI, maxI, foldI, Bool.not_not, Int.lt_irrefl, gt_iff_lt, ge_iff_le, List.length_map]; rfl) ?_
  have sw : ∃ (n : Int) (env : Env), evalCode progW (drawA progW G) G 300 (headOf (tailAt 2 i8.body)) none [(0, .int .u8 m), (1, .int .u8 k), (2, .int .u8 d), (7, .int .i64 0)] [] = some (.normal, env, []) ∧ n = ((rowOf k).map (AV.int .u8)).length ∧ look env 0 = some (.int .u8 m) ∧ look env 1 = some (.int .u8 k) ∧ look env 2 = some (.int .u8 d) ∧ look env 7 = some (.int .i64 n) := by
    have hne : ∀ j : Nat, k ≠ j → ((k : Int) == (j : Int)) = false := fun j h => by simp; omega
    unfold rowOf
    by_cases h2 : k = 2
    · subst h2; exact ⟨3, _, by simp only [evalFn, params, List.length_cons, List.length_nil, Nat.reduceAdd, evalCode, evalOps, guardOk, evalOp, AX.ev, look, putE, val, evs, optEv, binA, intBin, wrapI, unA, callM, keepE_cons, keepE_nil, Nat.reduceEqDiff, if_true, if_false, reduceIte, Int.toNat_natCast, List.append_nil, List.nil_append, List.cons_append, decide_true, decide_false, bft, btf, btt, bff, Bool.false_eq_true, resultsA, oneOrTup, Option.map_some, Option.map_none, Bool.not_true, Bool.not_false, loadAt, storeAt, storeOf, partOf, List.getElem?_cons_zero, List.getElem?_cons_succ, List.set_cons_zero, List.set_cons_succ, AV.cells, AV.isCell, List.all_cons, List.all_nil, Bool.and_true, Bool.and_false, Bool.false_and, Bool.true_and, Bool.and_self, and_true, true_and, and_self, putAt, hasLabel, Bool.or_false, Bool.false_or, Bool.or_true, Bool.true_or, fillA, pickParts, pickSl, strBin, eqA, eqCell, ne_eq, not_true_eq_false, not_false_eq_true, Nat.reduceLeDiff, Nat.reduceLT, Nat.reduceMul, Nat.reduceSub, Nat.zero_add, Nat.add_zero, Option.bind_some, asNat, bounds2, reduceCtorEq, List.take_succ_cons, List.take_zero, List.drop_succ_cons, List.drop_zero, Nat.reduceBEq, List.take_nil, List.drop_nil, Int.reduceLE, Int.reduceLT, Int.reduceToNat, Int.toNat_zero, Int.reduceBEq, Int.le_refl, Nat.le_refl, b2s, srcRow, binA, beq_self_eq_true, bne_self_eq_false, minI, maxI, foldI, Bool.not_not, Int.lt_irrefl, gt_iff_lt, ge_iff_le, List.length_map, headOf, tailAt, i8]; rfl, rfl, rfl, rfl, rfl, rfl⟩
    by_cases h3 : k = 3
    · subst h3; exact ⟨3, _, by simp only [evalFn, params, List.length_cons, List.length_nil, Nat.reduceAdd, evalCode, evalOps, guardOk, evalOp, AX.ev, look, putE, val, evs, optEv, binA, intBin, wrapI, unA, callM, keepE_cons, keepE_nil, Nat.reduceEqDiff, if_true, if_false, reduceIte, Int.toNat_natCast, List.append_nil, List.nil_append, List.cons_append, decide_true, decide_false, bft, btf, btt, bff, Bool.false_eq_true, resultsA, oneOrTup, Option.map_some, Option.map_none, Bool.not_true, Bool.not_false, loadAt, storeAt, storeOf, partOf, List.getElem?_cons_zero, List.getElem?_cons_succ, List.set_cons_zero, List.set_cons_succ, AV.cells, AV.isCell, List.all_cons, List.all_nil, Bool.and_true, Bool.and_false, Bool.false_and, Bool.true_and, Bool.and_self, and_true, true_and, and_self, putAt, hasLabel, Bool.or_false, Bool.false_or, Bool.or_true, Bool.true_or, fillA, pickParts, pickSl, strBin, eqA, eqCell, ne_eq, not_true_eq_false, not_false_eq_true, Nat.reduceLeDiff, Nat.reduceLT, Nat.reduceMul, Nat.reduceSub, Nat.zero_add, Nat.add_zero, Option.bind_some, asNat, bounds2, reduceCtorEq, List.take_succ_cons, List.take_zero, List.drop_succ_cons, List.drop_zero, Nat.reduceBEq, List.take_nil, List.drop_nil, Int.reduceLE, Int.reduceLT, Int.reduceToNat, Int.toNat_zero, Int.reduceBEq, Int.le_refl, Nat.le_refl, b2s, srcRow, binA, beq_self_eq_true, bne_self_eq_false, minI, maxI, foldI, Bool.not_not, Int.lt_irrefl, gt_iff_lt, ge_iff_le, List.length_map, headOf, tailAt, i8]; rfl, rfl, rfl, rfl, rfl, rfl⟩
    by_cases h4 : k = 4
    · subst h4; exact ⟨4, _, by simp only [evalFn, params, List.length_cons, List.length_nil, Nat.reduceAdd, evalCode, evalOps, guardOk, evalOp, AX.ev, look, putE, val, evs, optEv, binA, intBin, wrapI, unA, callM, keepE_cons, keepE_nil, Nat.reduceEqDiff, if_true, if_false, reduceIte, Int.toNat_natCast, List.append_nil, List.nil_append, List.cons_append, decide_true, decide_false, bft, btf, btt, bff, Bool.false_eq_true, resultsA, oneOrTup, Option.map_some, Option.map_none, Bool.not_true, Bool.not_false, loadAt, storeAt, storeOf, partOf, List.getElem?_cons_zero, List.getElem?_cons_succ, List.set_cons_zero, List.set_cons_succ, AV.cells, AV.isCell, List.all_cons, List.all_nil, Bool.and_true, Bool.and_false, Bool.false_and, Bool.true_and, Bool.and_self, and_true, true_and, and_self, putAt, hasLabel, Bool.or_false, Bool.false_or, Bool.or_true, Bool.true_or, fillA, pickParts, pickSl, strBin, eqA, eqCell, ne_eq, not_true_eq_false, not_false_eq_true, Nat.reduceLeDiff, Nat.reduceLT, Nat.reduceMul, Nat.reduceSub, Nat.zero_add, Nat.add_zero, Option.bind_some, asNat, bounds2, reduceCtorEq, List.take_succ_cons, List.take_zero, List.drop_succ_cons, List.drop_zero, Nat.reduceBEq, List.take_nil, List.drop_nil, Int.reduceLE, Int.reduceLT, Int.reduceToNat, Int.toNat_zero, Int.reduceBEq, Int.le_refl, Nat.le_refl, b2s, srcRow, binA, beq_self_eq_true, bne_self_eq_false, minI, maxI, foldI, Bool.not_not, Int.lt_irrefl, gt_iff_lt, ge_iff_le, List.length_map, headOf, tailAt, i8]; rfl, rfl, rfl, rfl, rfl, rfl⟩
    by_cases h5 : k = 5
    · subst h5; exact ⟨4, _, by simp only [evalFn, params, List.length_cons, List.length_nil, Nat.reduceAdd, evalCode, evalOps, guardOk, evalOp, AX.ev, look, putE, val, evs, optEv, binA, intBin, wrapI, unA, callM, keepE_cons, keepE_nil, Nat.reduceEqDiff, if_true, if_false, reduceIte, Int.toNat_natCast, List.append_nil, List.nil_append, List.cons_append, decide_true, decide_false, bft, btf, btt, bff, Bool.false_eq_true, resultsA, oneOrTup, Option.map_some, Option.map_none, Bool.not_true, Bool.not_false, loadAt, storeAt, storeOf, partOf, List.getElem?_cons_zero, List.getElem?_cons_succ, List.set_cons_zero, List.set_cons_succ, AV.cells, AV.isCell, List.all_cons, List.all_nil, Bool.and_true, Bool.and_false, Bool.false_and, Bool.true_and, Bool.and_self, and_true, true_and, and_self, putAt, hasLabel, Bool.or_false, Bool.false_or, Bool.or_true, Bool.true_or, fillA, pickParts, pickSl, strBin, eqA, eqCell, ne_eq, not_true_eq_false, not_false_eq_true, Nat.reduceLeDiff, Nat.reduceLT, Nat.reduceMul, Nat.reduceSub, Nat.zero_add, Nat.add_zero, Option.bind_some, asNat, bounds2, reduceCtorEq, List.take_succ_cons, List.take_zero, List.drop_succ_cons, List.drop_zero, Nat.reduceBEq, List.take_nil, List.drop_nil, Int.reduceLE, Int.reduceLT, Int.reduceToNat, Int.toNat_zero, Int.reduceBEq, Int.le_refl, Nat.le_refl, b2s, srcRow, binA, beq_self_eq_true, bne_self_eq_false, minI, maxI, foldI, Bool.not_not, Int.lt_irrefl, gt_iff_lt, ge_iff_le, List.length_map, headOf, tailAt, i8]; rfl, rfl, rfl, rfl, rfl, rfl⟩
    by_cases h6 : k = 6
    · subst h6; exact ⟨4, _, by simp only [evalFn, params, List.length_cons, List.length_nil, Nat.reduceAdd, evalCode, evalOps, guardOk, evalOp, AX.ev, look, putE, val, evs, optEv, binA, intBin, wrapI, unA, callM, keepE_cons, keepE_nil, Nat.reduceEqDiff, if_true, if_false, reduceIte, Int.toNat_natCast, List.append_nil, List.nil_append, List.cons_append, decide_true, decide_false, bft, btf, btt, bff, Bool.false_eq_true, resultsA, oneOrTup, Option.map_some, Option.map_none, Bool.not_true, Bool.not_false, loadAt, storeAt, storeOf, partOf, List.getElem?_cons_zero, List.getElem?_cons_succ, List.set_cons_zero, List.set_cons_succ, AV.cells, AV.isCell, List.all_cons, List.all_nil, Bool.and_true, Bool.and_false, Bool.false_and, Bool.true_and, Bool.and_self, and_true, true_and, and_self, putAt, hasLabel, Bool.or_false, Bool.false_or, Bool.or_true, Bool.true_or, fillA, pickParts, pickSl, strBin, eqA, eqCell, ne_eq, not_true_eq_false, not_false_eq_true, Nat.reduceLeDiff, Nat.reduceLT, Nat.reduceMul, Nat.reduceSub, Nat.zero_add, Nat.add_zero, Option.bind_some, asNat, bounds2, reduceCtorEq, List.take_succ_cons, List.take_zero, List.drop_succ_cons, List.drop_zero, Nat.reduceBEq, List.take_nil, List.drop_nil, Int.reduceLE, Int.reduceLT, Int.reduceToNat, Int.toNat_zero, Int.reduceBEq, Int.le_refl, Nat.le_refl, b2s, srcRow, binA, beq_self_eq_true, bne_self_eq_false, minI, maxI, foldI, Bool.not_not, Int.lt_irrefl, gt_iff_lt, ge_iff_le, List.length_map, headOf, tailAt, i8]; rfl, rfl, rfl, rfl, rfl, rfl⟩
    by_cases h7 : k = 7
    · subst h7; exact ⟨4, _, by simp only [evalFn, params, List.length_cons, List.length_nil, Nat.reduceAdd, evalCode, evalOps, guardOk, evalOp, AX.ev, look, putE, val, evs, optEv, binA, intBin, wrapI, unA, callM, keepE_cons, keepE_nil, Nat.reduceEqDiff, if_true, if_false, reduceIte, Int.toNat_natCast, List.append_nil, List.nil_append, List.cons_append, decide_true, decide_false, bft, btf, btt, bff, Bool.false_eq_true, resultsA, oneOrTup, Option.map_some, Option.map_none, Bool.not_true, Bool.not_false, loadAt, storeAt, storeOf, partOf, List.getElem?_cons_zero, List.getElem?_cons_succ, List.set_cons_zero, List.set_cons_succ, AV.cells, AV.isCell, List.all_cons, List.all_nil, Bool.and_true, Bool.and_false, Bool.false_and, Bool.true_and, Bool.and_self, and_true, true_and, and_self, putAt, hasLabel, Bool.or_false, Bool.false_or, Bool.or_true, Bool.true_or, fillA, pickParts, pickSl, strBin, eqA, eqCell, ne_eq, not_true_eq_false, not_false_eq_true, Nat.reduceLeDiff, Nat.reduceLT, Nat.reduceMul, Nat.reduceSub, Nat.zero_add, Nat.add_zero, Option.bind_some, asNat, bounds2, reduceCtorEq, List.take_succ_cons, List.take_zero, List.drop_succ_cons, List.drop_zero, Nat.reduceBEq, List.take_nil, List.drop_nil, Int.reduceLE, Int.reduceLT, Int.reduceToNat, Int.toNat_zero, Int.reduceBEq, Int.le_refl, Nat.le_refl, b2s, srcRow, binA, beq_self_eq_true, bne_self_eq_false, minI, maxI, foldI, Bool.not_not, Int.lt_irrefl, gt_iff_lt, ge_iff_le, List.length_map, headOf, tailAt, i8]; rfl, rfl, rfl, rfl, rfl, rfl⟩
    have g2 : ((k : Int) == 2) = false := hne 2 h2
    have g3 : ((k : Int) == 3) = false := hne 3 h3
    have g4 : ((k : Int) == 4) = false := hne 4 h4
    have g5 : ((k : Int) == 5) = false := hne 5 h5
    have g6 : ((k : Int) == 6) = false := hne 6 h6
    have g7 : ((k : Int) == 7) = false := hne 7 h7
    refine ⟨0, _, by simp only [evalFn, params, List.length_cons, List.length_nil, Nat.reduceAdd, evalCode, evalOps, guardOk, evalOp, AX.ev, look, putE, val, evs, optEv, binA, intBin, wrapI, unA, callM, keepE_cons, keepE_nil, Nat.reduceEqDiff, if_true, if_false, reduceIte, Int.toNat_natCast, List.append_nil, List.nil_append, List.cons_append, decide_true, decide_false, bft, btf, btt, bff, Bool.false_eq_true, resultsA, oneOrTup, Option.map_some, Option.map_none, Bool.not_true, Bool.not_false, loadAt, storeAt, storeOf, partOf, List.getElem?_cons_zero, List.getElem?_cons_succ, List.set_cons_zero, List.set_cons_succ, AV.cells, AV.isCell, List.all_cons, List.all_nil, Bool.and_true, Bool.and_false, Bool.false_and, Bool.true_and, Bool.and_self, and_true, true_and, and_self, putAt, hasLabel, Bool.or_false, Bool.false_or, Bool.or_true, Bool.true_or, fillA, pickParts, pickSl, strBin, eqA, eqCell, ne_eq, not_true_eq_false, not_false_eq_true, Nat.reduceLeDiff, Nat.reduceLT, Nat.reduceMul, Nat.reduceSub, Nat.zero_add, Nat.add_zero, Option.bind_some, asNat, bounds2, reduceCtorEq, List.take_succ_cons, List.take_zero, List.drop_succ_cons, List.drop_zero, Nat.reduceBEq, List.take_nil, List.drop_nil, Int.reduceLE, Int.reduceLT, Int.reduceToNat, Int.toNat_zero, Int.reduceBEq, Int.le_refl, Nat.le_refl, b2s, srcRow, binA, beq_self_eq_true, bne_self_eq_false, minI, maxI, foldI, Bool.not_not, Int.lt_irrefl, gt_iff_lt, ge_iff_le, List.length_map, headOf, tailAt, i8, g2, g3, g4, g5, g6, g7]; rfl, ?_, rfl, rfl, rfl, rfl⟩
    rw [if_neg h2, if_neg h3, if_neg (by omega), if_neg h7]; rfl
  obtain ⟨n, env, s1, s2, x0, x1, x2, x7⟩ := sw
  refine Ends.seq s1 ?_
  refine Ends.seq (by simp only [evalFn, params, List.length_cons, List.length_nil, Nat.reduceAdd, evalCode, evalOps, guardOk, evalOp, AX.ev, look, putE, val, evs, optEv, binA, intBin, wrapI, unA, callM, keepE_cons, keepE_nil, Nat.reduceEqDiff, if_true, if_false, reduceIte, Int.toNat_natCast, List.append_nil, List.nil_append, List.cons_append, decide_true, decide_false, bft, btf, btt, bff, Bool.false_eq_true, resultsA, oneOrTup, Option.map_some, Option.map_none, Bool.not_true, Bool.not_false, loadAt, storeAt, storeOf, partOf, List.getElem?_cons_zero, List.getElem?_cons_succ, List.set_cons_zero, List.set_cons_succ, AV.cells, AV.isCell, List.all_cons, List.all_nil, Bool.and_true, Bool.and_false, Bool.false_and, Bool.true_and, Bool.and_self, and_true, true_and, and_self, putAt, hasLabel, Bool.or_false, Bool.false_or, Bool.or_true, Bool.true_or, fillA, pickParts, pickSl, strBin, eqA, eqCell, ne_eq, not_true_eq_false, not_false_eq_true, Nat.reduceLeDiff, Nat.reduceLT, Nat.reduceMul, Nat.reduceSub, Nat.zero_add, Nat.add_zero, Option.bind_some, asNat, bounds2, reduceCtorEq, List.take_succ_cons, List.take_zero, List.drop_succ_cons, List.drop_zero, Nat.reduceBEq, List.take_nil, List.drop_nil, Int.reduceLE, Int.reduceLT, Int.reduceToNat, Int.toNat_zero, Int.reduceBEq, Int.le_refl, Nat.le_refl, b2s, srcRow, binA, beq_self_eq_true, bne_self_eq_false, minI, maxI, foldI, Bool.not_not, Int.lt_irrefl, gt_iff_lt, ge_iff_le, List.length_map, x0, x1, x2, x7, k1]; rfl) ?_
  refine Ends.seq (by simp only [evalFn, params, List.length_cons, List.length_nil, Nat.reduceAdd, evalCode, evalOps, guardOk, evalOp, AX.ev, look, putE, val, evs, optEv, binA, intBin, wrapI, unA, callM, keepE_cons, keepE_nil, Nat.reduceEqDiff, if_true, if_false, reduceIte, Int.toNat_natCast, List.append_nil, List.nil_append, List.cons_append, decide_true, decide_false, bft, btf, btt, bff, Bool.false_eq_true, resultsA, oneOrTup, Option.map_some, Option.map_none, Bool.not_true, Bool.not_false, loadAt, storeAt, storeOf, partOf, List.getElem?_cons_zero, List.getElem?_cons_succ, List.set_cons_zero, List.set_cons_succ, AV.cells, AV.isCell, List.all_cons, List.all_nil, Bool.and_true, Bool.and_false, Bool.false_and, Bool.true_and, Bool.and_self, and_true, true_and, and_self, putAt, hasLabel, Bool.or_false, Bool.false_or, Bool.or_true, Bool.true_or, fillA, pickParts, pickSl, strBin, eqA, eqCell, ne_eq, not_true_eq_false, not_false_eq_true, Nat.reduceLeDiff, Nat.reduceLT, Nat.reduceMul, Nat.reduceSub, Nat.zero_add, Nat.add_zero, Option.bind_some, asNat, bounds2, reduceCtorEq, List.take_succ_cons, List.take_zero, List.drop_succ_cons, List.drop_zero, Nat.reduceBEq, List.take_nil, List.drop_nil, Int.reduceLE, Int.reduceLT, Int.reduceToNat, Int.toNat_zero, Int.reduceBEq, Int.le_refl, Nat.le_refl, b2s, srcRow, binA, beq_self_eq_true, bne_self_eq_false, minI, maxI, foldI, Bool.not_not, Int.lt_irrefl, gt_iff_lt, ge_iff_le, List.length_map, m1, m2, s2]; rfl) ?_
  refine Ends.seq (by simp only [evalFn, params, List.length_cons, List.length_nil, Nat.reduceAdd, evalCode, evalOps, guardOk, evalOp, AX.ev, look, putE, val, evs, optEv, binA, intBin, wrapI, unA, callM, keepE_cons, keepE_nil, Nat.reduceEqDiff, if_true, if_false, reduceIte, Int.toNat_natCast, List.append_nil, List.nil_append, List.cons_append, decide_true, decide_false, bft, btf, btt, bff, Bool.false_eq_true, resultsA, oneOrTup, Option.map_some, Option.map_none, Bool.not_true, Bool.not_false, loadAt, storeAt, storeOf, partOf, List.getElem?_cons_zero, List.getElem?_cons_succ, List.set_cons_zero, List.set_cons_succ, AV.cells, AV.isCell, List.all_cons, List.all_nil, Bool.and_true, Bool.and_false, Bool.false_and, Bool.true_and, Bool.and_self, and_true, true_and, and_self, putAt, hasLabel, Bool.or_false, Bool.false_or, Bool.or_true, Bool.true_or, fillA, pickParts, pickSl, strBin, eqA, eqCell, ne_eq, not_true_eq_false, not_false_eq_true, Nat.reduceLeDiff, Nat.reduceLT, Nat.reduceMul, Nat.reduceSub, Nat.zero_add, Nat.add_zero, Option.bind_some, asNat, bounds2, reduceCtorEq, List.take_succ_cons, List.take_zero, List.drop_succ_cons, List.drop_zero, Nat.reduceBEq, List.take_nil, List.drop_nil, Int.reduceLE, Int.reduceLT, Int.reduceToNat, Int.toNat_zero, Int.reduceBEq, Int.le_refl, Nat.le_refl, b2s, srcRow, binA, beq_self_eq_true, bne_self_eq_false, minI, maxI, foldI, Bool.not_not, Int.lt_irrefl, gt_iff_lt, ge_iff_le, List.length_map, r2]; rfl) ?_
  refine Ends.seq (by simp only [evalFn, params, List.length_cons, List.length_nil, Nat.reduceAdd, evalCode, evalOps, guardOk, evalOp, AX.ev, look, putE, val, evs, optEv, binA, intBin, wrapI, unA, callM, keepE_cons, keepE_nil, Nat.reduceEqDiff, if_true, if_false, reduceIte, Int.toNat_natCast, List.append_nil, List.nil_append, List.cons_append, decide_true, decide_false, bft, btf, btt, bff, Bool.false_eq_true, resultsA, oneOrTup, Option.map_some, Option.map_none, Bool.not_true, Bool.not_false, loadAt, storeAt, storeOf, partOf, List.getElem?_cons_zero, List.getElem?_cons_succ, List.set_cons_zero, List.set_cons_succ, AV.cells, AV.isCell, List.all_cons, List.all_nil, Bool.and_true, Bool.and_false, Bool.false_and, Bool.true_and, Bool.and_self, and_true, true_and, and_self, putAt, hasLabel, Bool.or_false, Bool.false_or, Bool.or_true, Bool.true_or, fillA, pickParts, pickSl, strBin, eqA, eqCell, ne_eq, not_true_eq_false, not_false_eq_true, Nat.reduceLeDiff, Nat.reduceLT, Nat.reduceMul, Nat.reduceSub, Nat.zero_add, Nat.add_zero, Option.bind_some, asNat, bounds2, reduceCtorEq, List.take_succ_cons, List.take_zero, List.drop_succ_cons, List.drop_zero, Nat.reduceBEq, List.take_nil, List.drop_nil, Int.reduceLE, Int.reduceLT, Int.reduceToNat, Int.toNat_zero, Int.reduceBEq, Int.le_refl, Nat.le_refl, b2s, srcRow, binA, beq_self_eq_true, bne_self_eq_false, minI, maxI, foldI, Bool.not_not, Int.lt_irrefl, gt_iff_lt, ge_iff_le, List.length_map, r3]; rfl) ?_
  refine Ends.seq (by simp only [evalFn, params, List.length_cons, List.length_nil, Nat.reduceAdd, evalCode, evalOps, guardOk, evalOp, AX.ev, look, putE, val, evs, optEv, binA, intBin, wrapI, unA, callM, keepE_cons, keepE_nil, Nat.reduceEqDiff, if_true, if_false, reduceIte, Int.toNat_natCast, List.append_nil, List.nil_append, List.cons_append, decide_true, decide_false, bft, btf, btt, bff, Bool.false_eq_true, resultsA, oneOrTup, Option.map_some, Option.map_none, Bool.not_true, Bool.not_false, loadAt, storeAt, storeOf, partOf, List.getElem?_cons_zero, List.getElem?_cons_succ, List.set_cons_zero, List.set_cons_succ, AV.cells, AV.isCell, List.all_cons, List.all_nil, Bool.and_true, Bool.and_false, Bool.false_and, Bool.true_and, Bool.and_self, and_true, true_and, and_self, putAt, hasLabel, Bool.or_false, Bool.false_or, Bool.or_true, Bool.true_or, fillA, pickParts, pickSl, strBin, eqA, eqCell, ne_eq, not_true_eq_false, not_false_eq_true, Nat.reduceLeDiff, Nat.reduceLT, Nat.reduceMul, Nat.reduceSub, Nat.zero_add, Nat.add_zero, Option.bind_some, asNat, bounds2, reduceCtorEq, List.take_succ_cons, List.take_zero, List.drop_succ_cons, List.drop_zero, Nat.reduceBEq, List.take_nil, List.drop_nil, Int.reduceLE, Int.reduceLT, Int.reduceToNat, Int.toNat_zero, Int.reduceBEq, Int.le_refl, Nat.le_refl, b2s, srcRow, binA, beq_self_eq_true, bne_self_eq_false, minI, maxI, foldI, Bool.not_not, Int.lt_irrefl, gt_iff_lt, ge_iff_le, List.length_map, l2]; rfl) ?_
  refine Ends.seq (by simp only [evalFn, params, List.length_cons, List.length_nil, Nat.reduceAdd, evalCode, evalOps, guardOk, evalOp, AX.ev, look, putE, val, evs, optEv, binA, intBin, wrapI, unA, callM, keepE_cons, keepE_nil, Nat.reduceEqDiff, if_true, if_false, reduceIte, Int.toNat_natCast, List.append_nil, List.nil_append, List.cons_append, decide_true, decide_false, bft, btf, btt, bff, Bool.false_eq_true, resultsA, oneOrTup, Option.map_some, Option.map_none, Bool.not_true, Bool.not_false, loadAt, storeAt, storeOf, partOf, List.getElem?_cons_zero, List.getElem?_cons_succ, List.set_cons_zero, List.set_cons_succ, AV.cells, AV.isCell, List.all_cons, List.all_nil, Bool.and_true, Bool.and_false, Bool.false_and, Bool.true_and, Bool.and_self, and_true, true_and, and_self, putAt, hasLabel, Bool.or_false, Bool.false_or, Bool.or_true, Bool.true_or, fillA, pickParts, pickSl, strBin, eqA, eqCell, ne_eq, not_true_eq_false, not_false_eq_true, Nat.reduceLeDiff, Nat.reduceLT, Nat.reduceMul, Nat.reduceSub, Nat.zero_add, Nat.add_zero, Option.bind_some, asNat, bounds2, reduceCtorEq, List.take_succ_cons, List.take_zero, List.drop_succ_cons, List.drop_zero, Nat.reduceBEq, List.take_nil, List.drop_nil, Int.reduceLE, Int.reduceLT, Int.reduceToNat, Int.toNat_zero, Int.reduceBEq, Int.le_refl, Nat.le_refl, b2s, srcRow, binA, beq_self_eq_true, bne_self_eq_false, minI, maxI, foldI, Bool.not_not, Int.lt_irrefl, gt_iff_lt, ge_iff_le, List.length_map, l3, l4]; rfl) ?_
  refine Ends.seq (by simp only [evalFn, params, List.length_cons, List.length_nil, Nat.reduceAdd, evalCode, evalOps, guardOk, evalOp, AX.ev, look, putE, val, evs, optEv, binA, intBin, wrapI, unA, callM, keepE_cons, keepE_nil, Nat.reduceEqDiff, if_true, if_false, reduceIte, Int.toNat_natCast, List.append_nil, List.nil_append, List.cons_append, decide_true, decide_false, bft, btf, btt, bff, Bool.false_eq_true, resultsA, oneOrTup, Option.map_some, Option.map_none, Bool.not_true, Bool.not_false, loadAt, storeAt, storeOf, partOf, List.getElem?_cons_zero, List.getElem?_cons_succ, List.set_cons_zero, List.set_cons_succ, AV.cells, AV.isCell, List.all_cons, List.all_nil, Bool.and_true, Bool.and_false, Bool.false_and, Bool.true_and, Bool.and_self, and_true, true_and, and_self, putAt, hasLabel, Bool.or_false, Bool.false_or, Bool.or_true, Bool.true_or, fillA, pickParts, pickSl, strBin, eqA, eqCell, ne_eq, not_true_eq_false, not_false_eq_true, Nat.reduceLeDiff, Nat.reduceLT, Nat.reduceMul, Nat.reduceSub, Nat.zero_add, Nat.add_zero, Option.bind_some, asNat, bounds2, reduceCtorEq, List.take_succ_cons, List.take_zero, List.drop_succ_cons, List.drop_zero, Nat.reduceBEq, List.take_nil, List.drop_nil, Int.reduceLE, Int.reduceLT, Int.reduceToNat, Int.toNat_zero, Int.reduceBEq, Int.le_refl, Nat.le_refl, b2s, srcRow, binA, beq_self_eq_true, bne_self_eq_false, minI, maxI, foldI, Bool.not_not, Int.lt_irrefl, gt_iff_lt, ge_iff_le, List.length_map, w1]; rfl) ?_
  refine Ends.seq (by simp only [evalFn, params, List.length_cons, List.length_nil, Nat.reduceAdd, evalCode, evalOps, guardOk, evalOp, AX.ev, look, putE, val, evs, optEv, binA, intBin, wrapI, unA, callM, keepE_cons, keepE_nil, Nat.reduceEqDiff, if_true, if_false, reduceIte, Int.toNat_natCast, List.append_nil, List.nil_append, List.cons_append, decide_true, decide_false, bft, btf, btt, bff, Bool.false_eq_true, resultsA, oneOrTup, Option.map_some, Option.map_none, Bool.not_true, Bool.not_false, loadAt, storeAt, storeOf, partOf, List.getElem?_cons_zero, List.getElem?_cons_succ, List.set_cons_zero, List.set_cons_succ, AV.cells, AV.isCell, List.all_cons, List.all_nil, Bool.and_true, Bool.and_false, Bool.false_and, Bool.true_and, Bool.and_self, and_true, true_and, and_self, putAt, hasLabel, Bool.or_false, Bool.false_or, Bool.or_true, Bool.true_or, fillA, pickParts, pickSl, strBin, eqA, eqCell, ne_eq, not_true_eq_false, not_false_eq_true, Nat.reduceLeDiff, Nat.reduceLT, Nat.reduceMul, Nat.reduceSub, Nat.zero_add, Nat.add_zero, Option.bind_some, asNat, bounds2, reduceCtorEq, List.take_succ_cons, List.take_zero, List.drop_succ_cons, List.drop_zero, Nat.reduceBEq, List.take_nil, List.drop_nil, Int.reduceLE, Int.reduceLT, Int.reduceToNat, Int.toNat_zero, Int.reduceBEq, Int.le_refl, Nat.le_refl, b2s, srcRow, binA, beq_self_eq_true, bne_self_eq_false, minI, maxI, foldI, Bool.not_not, Int.lt_irrefl, gt_iff_lt, ge_iff_le, List.length_map, e1, e2, e5]; rfl) ?_
  refine Ends.seq (by simp only [evalFn, params, List.length_cons, List.length_nil, Nat.reduceAdd, evalCode, evalOps, guardOk, evalOp, AX.ev, look, putE, val, evs, optEv, binA, intBin, wrapI, unA, callM, keepE_cons, keepE_nil, Nat.reduceEqDiff, if_true, if_false, reduceIte, Int.toNat_natCast, List.append_nil, List.nil_append, List.cons_append, decide_true, decide_false, bft, btf, btt, bff, Bool.false_eq_true, resultsA, oneOrTup, Option.map_some, Option.map_none, Bool.not_true, Bool.not_false, loadAt, storeAt, storeOf, partOf, List.getElem?_cons_zero, List.getElem?_cons_succ, List.set_cons_zero, List.set_cons_succ, AV.cells, AV.isCell, List.all_cons, List.all_nil, Bool.and_true, Bool.and_false, Bool.false_and, Bool.true_and, Bool.and_self, and_true, true_and, and_self, putAt, hasLabel, Bool.or_false, Bool.false_or, Bool.or_true, Bool.true_or, fillA, pickParts, pickSl, strBin, eqA, eqCell, ne_eq, not_true_eq_false, not_false_eq_true, Nat.reduceLeDiff, Nat.reduceLT, Nat.reduceMul, Nat.reduceSub, Nat.zero_add, Nat.add_zero, Option.bind_some, asNat, bounds2, reduceCtorEq, List.take_succ_cons, List.take_zero, List.drop_succ_cons, List.drop_zero, Nat.reduceBEq, List.take_nil, List.drop_nil, Int.reduceLE, Int.reduceLT, Int.reduceToNat, Int.toNat_zero, Int.reduceBEq, Int.le_refl, Nat.le_refl, b2s, srcRow, binA, beq_self_eq_true, bne_self_eq_false, minI, maxI, foldI, Bool.not_not, Int.lt_irrefl, gt_iff_lt, ge_iff_le, List.length_map, d1, wk, e6, q1, q2]; rfl) ?_
  exact Ends.done (by simp only [evalFn, params, List.length_cons, List.length_nil, Nat.reduceAdd, evalCode, evalOps, guardOk, evalOp, AX.ev, look, putE, val, evs, optEv, binA, intBin, wrapI, unA, callM, keepE_cons, keepE_nil, Nat.reduceEqDiff, if_true, if_false, reduceIte, Int.toNat_natCast, List.append_nil, List.nil_append, List.cons_append, decide_true, decide_false, bft, btf, btt, bff, Bool.false_eq_true, resultsA, oneOrTup, Option.map_some, Option.map_none, Bool.not_true, Bool.not_false, loadAt, storeAt, storeOf, partOf, List.getElem?_cons_zero, List.getElem?_cons_succ, List.set_cons_zero, List.set_cons_succ, AV.cells, AV.isCell, List.all_cons, List.all_nil, Bool.and_true, Bool.and_false, Bool.false_and, Bool.true_and, Bool.and_self, and_true, true_and, and_self, putAt, hasLabel, Bool.or_false, Bool.false_or, Bool.or_true, Bool.true_or, fillA, pickParts, pickSl, strBin, eqA, eqCell, ne_eq, not_true_eq_false, not_false_eq_true, Nat.reduceLeDiff, Nat.reduceLT, Nat.reduceMul, Nat.reduceSub, Nat.zero_add, Nat.add_zero, Option.bind_some, asNat, bounds2, reduceCtorEq, List.take_succ_cons, List.take_zero, List.drop_succ_cons, List.drop_zero, Nat.reduceBEq, List.take_nil, List.drop_nil, Int.reduceLE, Int.reduceLT, Int.reduceToNat, Int.toNat_zero, Int.reduceBEq, Int.le_refl, Nat.le_refl, b2s, srcRow, binA, beq_self_eq_true, bne_self_eq_false, minI, maxI, foldI, Bool.not_not, Int.lt_irrefl, gt_iff_lt, ge_iff_le, List.length_map]; rfl) ⟨rfl, rfl⟩
end
end Go.Pm
end

section
set_option linter.unusedSimpArgs false
set_option linter.unusedVariables false
set_option linter.unusedSectionVars false
/- ProgModes: what the machine answers. -/
set_option maxRecDepth 100000
namespace Go.Proofs.YtehcekeccnlboaaDoor
open Go.Pm

theorem progGl_met {W : World} {laid : List (String × DataW Unit)} (h : laidMet Tryd.prog laid W) (h0 : ("troth/prog.modes", Rows.laid_troth_prog_modes) ∈ laid) (h1 : ("troth/num.texts", Rows.laid_troth_num_texts) ∈ laid)
    (h4 : ("internal/strconv.uint64pow10", Rows.laid_internal_strconv_uint64pow10) ∈ laid) (h6 : ("math/bits.deBruijn32tab", Rows.laid_math_bits_deBruijn32tab) ∈ laid) (h7 : ("math/bits.deBruijn64tab", Rows.laid_math_bits_deBruijn64tab) ∈ laid) : GR (lookG progGl) (wctx W) :=
  GR_of (by
    unfold progGl
    simp only [List.forall_mem_cons]
    exact ⟨laid_modes h h0, laid_texts h h1, laid_pow10 h h4, laid_32tab h h6, laid_64tab h h7, by simp⟩)

theorem exprGl_met {W : World} {laid : List (String × DataW Unit)} (h : laidMet Tryd.prog laid W) (h1 : ("troth/num.texts", Rows.laid_troth_num_texts) ∈ laid)
    (h4 : ("internal/strconv.uint64pow10", Rows.laid_internal_strconv_uint64pow10) ∈ laid) (h6 : ("math/bits.deBruijn32tab", Rows.laid_math_bits_deBruijn32tab) ∈ laid) (h7 : ("math/bits.deBruijn64tab", Rows.laid_math_bits_deBruijn64tab) ∈ laid) : GR (lookG exprGl) (wctx W) :=
  GR_of (by
    unfold exprGl
    simp only [List.forall_mem_cons]
    exact ⟨laid_texts h h1, laid_pow10 h h4, laid_32tab h h6, laid_64tab h h7, by simp⟩)

theorem progModes_go (W : World) (hL : laidMetH Tryd.prog Rows.progModesRow.laid W) (hs : W.ShapedOpen Tryd.prog) :
    ∃ G : Globals, GR G (wctx W) ∧ ∀ xs, ShapedAll [.int .u8, .int .u8, .int .u8] xs → ∃ (call : CallA) (σ' : Store), CallS Tryd.prog G call ∧ call 8 xs [] = some (.ret (.bool true), σ') := by
  have hl : laidMet Tryd.prog Rows.progModesRow.laid W := hL
  refine ⟨lookG progGl, progGl_met hl (.tail _ (.tail _ (.tail _ (.tail _ (.head _))))) (.tail _ (.tail _ (.tail _ (.head _)))) (.tail _ (.tail _ (.head _))) (.head _) (.tail _ (.head _)), ?_⟩
  intro xs has
  obtain ⟨a, b, rfl, ⟨m, rfl, m1, m2⟩, has⟩ := has
  obtain ⟨a, b, rfl, ⟨k, rfl, k1, k2⟩, has⟩ := has
  obtain ⟨a, b, rfl, ⟨d, rfl, d1, d2⟩, has⟩ := has
  obtain rfl : b = [] := has
  simp only [show IntKind.u8.min = 0 from rfl, show IntKind.u8.max = 255 from rfl] at m1 m2 k1 k2 d1 d2
  obtain ⟨e, env, σ', h1, rfl, h2⟩ := modes_ends (G := lookG progGl) m.toNat k.toNat d.toNat (by omega) (by omega) (by omega)
  rw [Int.toNat_of_nonneg m1, Int.toNat_of_nonneg k1, Int.toNat_of_nonneg d1] at h1
  refine law_call (fuel := 300) (σ' := σ') progW_sound mixed progGl_pure ok8 ?_
  simp only [evalFn, show i8.nparams = 3 from rfl, show i8.res = [.tmp 6] from rfl, params, argAV, List.length_cons, List.length_nil, Nat.reduceAdd, if_true, h1, resultsA, h2, oneOrTup, Option.map_some]
end Go.Proofs.YtehcekeccnlboaaDoor
end

section
set_option linter.unusedSimpArgs false
set_option linter.unusedVariables false
set_option linter.unusedSectionVars false
/- ProgModes: the statement. -/
set_option maxRecDepth 100000
namespace Go.Proofs.YtehcekeccnlboaaDoor
open Go.Pm

theorem progModes_door (os : Os) (args : Array Value) : laidMetH Tryd.prog Rows.progModesRow.laid ((World.doorLaid Tryd.prog 400 os).forCall (fun _ _ => 0) ⟨#[], args, []⟩).memory :=
  laidMetH_of_parts3 (fuel := 8) (laidMet_of_run' 8 (by kernel_rfl) (by kernel_rfl)) (by kernel_rfl) (by kernel_rfl)

theorem progModes_lifted (os : Os) (started : os.Started) (H : Type) (enc : TypeId × Value → H) :
    ReturnsInHanded {} Tryd.checked os 8 .any (fun w args => (Rows.progModesSpec.pre enc Tryd.prog Tryd.f8 [] false w args ∧ laidMetH Tryd.prog Rows.progModesRow.laid w) ∧ sizedMet enc Tryd.prog Tryd.f8 (OpenSpec.ofChange Rows.progModesSpec) false w args)
      (Rows.progModesSpec.post enc Tryd.prog Tryd.f8 false true false false) :=
  law_lifted (C := Tryd.checked) 20 [.int .u8, .int .u8, .int .u8] own started (by kernel_rfl) Tryd.func8
    (ChangeSpec.witness_shaped (enc := enc) (C := Tryd.checked) (os := os) (X := fun w _ => laidMetH Tryd.prog Rows.progModesRow.laid w) false (World.doorLaid Tryd.prog 400 os) #[.int .u8 0, .int .u8 0, .int .u8 0] 20 rfl (World.shaped_of_RefB (by kernel_rfl) (by kernel_rfl)) (by kernel_rfl) (by kernel_rfl) (by kernel_rfl) (progModes_door os _))
    rfl (fun ds h => by
      have hp : Tryd.f8.params.toList.length = 3 := by kernel_rfl
      rw [hp] at h
      match ds, h with
      | [_, _, _], _ => rfl) (tb := 4) (by kernel_rfl) (by kernel_rfl) laidOut (by kernel_rfl) (by kernel_rfl) progModes_go

theorem progModes_row : Rows.ProgModesSaid :=
  OpenClaim.holds_of_wide 8 Tryd.f8 rfl rfl rfl rfl rfl rfl rfl ⟨rfl, rfl, rfl, rfl, rfl⟩ rfl rfl rfl rfl rfl (by kernel_rfl) Tryd.func8 (by kernel_rfl)
    (of_decide_eq_true (by kernel_rfl)) (by unfold Func.isWrapper; rw [if_neg (by decide +kernel)]; exact ⟨rfl, rfl⟩)
    (fun os started H enc _ => progModes_lifted os started H enc)

theorem progModes_holds : Rows.ProgModesCardSaid :=
  Claim7.holds_tied_plain_at .later [] [.data, .data, .data, .data, .data] true (true, "fb664ba62042774bf3f3f7a5c558e3e76a079831b744c089e1a6d58fa548ceb2") true
    progModes_row (fun _ h => by cases h) (by kernel_rfl) (fun _ h => by cases h) progModes_row_tie rfl ⟨rfl, rfl⟩ (by kernel_rfl) rfl
    (fun f fn hf hfn => by
      obtain rfl : f = 8 := Option.some.inj ((show Tryd.prog.funcNamed "troth/trothlaw04.ProgModes" = some 8 by kernel_rfl).symm.trans hf) |>.symm
      obtain rfl : fn = Tryd.f8 := (Option.some.inj (Tryd.func8.symm.trans hfn)).symm
      exact ⟨by kernel_rfl, fun j t ht => by
        have hall : (Tryd.f8.params.toList.all fun u => !Tryd.prog.wantsStandIn u) = true := by kernel_rfl
        have hm : t ∈ Tryd.f8.params.toList := by simpa using Array.mem_of_getElem? ht
        exact (show Tryd.prog.wantsStandIn t = false by simpa using List.all_eq_true.1 hall t hm)⟩)
    (by kernel_rfl)
#print axioms progModes_holds
end Go.Proofs.YtehcekeccnlboaaDoor
end
