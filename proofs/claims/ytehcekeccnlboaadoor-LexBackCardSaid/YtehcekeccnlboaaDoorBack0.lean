/- Proof that LexBack (pieces that are written one behind the other, with blanks between, are told as themselves; each stands at its place) returns true, for the program as translated, under the conditions of its given row and card: over a machine on plain data that is proved sound for the model. Here: DLex1, DLex2, DS1, DLex3, DLex4, DLex5, DLex6, DRef1, DRef2, DRef3, DRef4, DRef5, DLex7, DLex8, DRef6, DLex9, DLexA, DLexB, DLexO, DLexP, DLexC, DTells -/
import Derived.Test.YtehcekeccnlboaaDoorB3
import Derived.KernelRfl
import Derived.Lib.IndexMore

section
set_option linter.unusedSimpArgs false
set_option linter.unusedVariables false
set_option linter.unusedSectionVars false
/- The lexer's small functions. -/
set_option maxRecDepth 100000
set_option linter.unusedSimpArgs false
namespace Go.Pm
section
variable {call : CallA} {draw : DrawA} {G : Globals} {fuel : Nat}

def digitB (c : UInt8) : Bool := 48 ≤ c.toNat && c.toNat ≤ 57
def letterB (c : UInt8) : Bool := 97 ≤ c.toNat && c.toNat ≤ 122
def wordB (c : UInt8) : Bool := letterB c || digitB c
def noLf (c : UInt8) : Bool := !(c.toNat == 10)

theorem digit_spec (c : UInt8) (σ : Store) : evalFn call draw G fuel i59 [.int .u8 c.toNat] σ = some (.ret (.bool (digitB c)), σ) := by
  have e1 : ((c.toNat : Int) ≥ 48) = (48 ≤ c.toNat) := by simp; omega
  have e2 : ((c.toNat : Int) ≤ 57) = (c.toNat ≤ 57) := by simp; omega
  by_cases h : 48 ≤ c.toNat <;> by_cases h' : c.toNat ≤ 57 <;> simp only [evalFn, params, List.length_cons, List.length_nil, Nat.reduceAdd, evalCode, evalOps, guardOk, evalOp, AX.ev, look, putE, val, evs, optEv, binA, intBin, wrapI, unA, callM, keepE_cons, keepE_nil, callC, strips, stripWs, stripW, AV.flatv, flatvs, Nat.reduceEqDiff, if_true, if_false, reduceIte, Int.toNat_natCast, List.append_nil, List.nil_append, List.cons_append, decide_true, decide_false, bft, btf, btt, bff, Bool.false_eq_true, resultsA, oneOrTup, Option.map_some, Option.map_none, Bool.not_true, Bool.not_false, loadAt, storeAt, storeOf, partOf, List.getElem?_cons_zero, List.getElem?_cons_succ, List.set_cons_zero, List.set_cons_succ, AV.cells, AV.isCell, List.all_cons, List.all_nil, Bool.and_true, Bool.and_false, Bool.false_and, Bool.true_and, Bool.and_self, and_true, true_and, and_self, putAt, hasLabel, Bool.or_false, Bool.false_or, Bool.or_true, Bool.true_or, fillA, pickParts, pickSl, strBin, eqA, eqCell, ne_eq, not_true_eq_false, not_false_eq_true, Nat.reduceLeDiff, Nat.reduceLT, Nat.reduceMul, Nat.reduceSub, Nat.zero_add, Nat.add_zero, Option.bind_some, asNat, bounds2, reduceCtorEq, List.take_succ_cons, List.take_zero, List.drop_succ_cons, List.drop_zero, Nat.reduceBEq, List.take_nil, List.drop_nil, Int.reduceLE, Int.reduceLT, Int.reduceToNat, Int.toNat_zero, Int.reduceBEq, Int.le_refl, Nat.le_refl, i59, digitB, e1, e2, h, h']

theorem letter_spec (c : UInt8) (σ : Store) : evalFn call draw G fuel i61 [.int .u8 c.toNat] σ = some (.ret (.bool (letterB c)), σ) := by
  have e1 : ((c.toNat : Int) ≥ 97) = (97 ≤ c.toNat) := by simp; omega
  have e2 : ((c.toNat : Int) ≤ 122) = (c.toNat ≤ 122) := by simp; omega
  by_cases h : 97 ≤ c.toNat <;> by_cases h' : c.toNat ≤ 122 <;> simp only [evalFn, params, List.length_cons, List.length_nil, Nat.reduceAdd, evalCode, evalOps, guardOk, evalOp, AX.ev, look, putE, val, evs, optEv, binA, intBin, wrapI, unA, callM, keepE_cons, keepE_nil, callC, strips, stripWs, stripW, AV.flatv, flatvs, Nat.reduceEqDiff, if_true, if_false, reduceIte, Int.toNat_natCast, List.append_nil, List.nil_append, List.cons_append, decide_true, decide_false, bft, btf, btt, bff, Bool.false_eq_true, resultsA, oneOrTup, Option.map_some, Option.map_none, Bool.not_true, Bool.not_false, loadAt, storeAt, storeOf, partOf, List.getElem?_cons_zero, List.getElem?_cons_succ, List.set_cons_zero, List.set_cons_succ, AV.cells, AV.isCell, List.all_cons, List.all_nil, Bool.and_true, Bool.and_false, Bool.false_and, Bool.true_and, Bool.and_self, and_true, true_and, and_self, putAt, hasLabel, Bool.or_false, Bool.false_or, Bool.or_true, Bool.true_or, fillA, pickParts, pickSl, strBin, eqA, eqCell, ne_eq, not_true_eq_false, not_false_eq_true, Nat.reduceLeDiff, Nat.reduceLT, Nat.reduceMul, Nat.reduceSub, Nat.zero_add, Nat.add_zero, Option.bind_some, asNat, bounds2, reduceCtorEq, List.take_succ_cons, List.take_zero, List.drop_succ_cons, List.drop_zero, Nat.reduceBEq, List.take_nil, List.drop_nil, Int.reduceLE, Int.reduceLT, Int.reduceToNat, Int.toNat_zero, Int.reduceBEq, Int.le_refl, Nat.le_refl, i61, letterB, e1, e2, h, h']

theorem noLf_spec (c : UInt8) (σ : Store) : evalFn call draw G fuel i58 [.int .u8 c.toNat] σ = some (.ret (.bool (noLf c)), σ) := by
  have e1 : (((c.toNat : Int)) != 10) = !(c.toNat == 10) := by
    by_cases h : c.toNat = 10
    · rw [h]; rfl
    · have : ¬ (c.toNat : Int) = 10 := by omega
      simp only [bne, beq_eq_false_iff_ne.2 h, beq_eq_false_iff_ne.2 this]
  simp only [evalFn, params, List.length_cons, List.length_nil, Nat.reduceAdd, evalCode, evalOps, guardOk, evalOp, AX.ev, look, putE, val, evs, optEv, binA, intBin, wrapI, unA, callM, keepE_cons, keepE_nil, callC, strips, stripWs, stripW, AV.flatv, flatvs, Nat.reduceEqDiff, if_true, if_false, reduceIte, Int.toNat_natCast, List.append_nil, List.nil_append, List.cons_append, decide_true, decide_false, bft, btf, btt, bff, Bool.false_eq_true, resultsA, oneOrTup, Option.map_some, Option.map_none, Bool.not_true, Bool.not_false, loadAt, storeAt, storeOf, partOf, List.getElem?_cons_zero, List.getElem?_cons_succ, List.set_cons_zero, List.set_cons_succ, AV.cells, AV.isCell, List.all_cons, List.all_nil, Bool.and_true, Bool.and_false, Bool.false_and, Bool.true_and, Bool.and_self, and_true, true_and, and_self, putAt, hasLabel, Bool.or_false, Bool.false_or, Bool.or_true, Bool.true_or, fillA, pickParts, pickSl, strBin, eqA, eqCell, ne_eq, not_true_eq_false, not_false_eq_true, Nat.reduceLeDiff, Nat.reduceLT, Nat.reduceMul, Nat.reduceSub, Nat.zero_add, Nat.add_zero, Option.bind_some, asNat, bounds2, reduceCtorEq, List.take_succ_cons, List.take_zero, List.drop_succ_cons, List.drop_zero, Nat.reduceBEq, List.take_nil, List.drop_nil, Int.reduceLE, Int.reduceLT, Int.reduceToNat, Int.toNat_zero, Int.reduceBEq, Int.le_refl, Nat.le_refl, i58, noLf, e1]
end
end Go.Pm
end

section
set_option linter.unusedSimpArgs false
set_option linter.unusedVariables false
set_option linter.unusedSectionVars false
/- The lexer: a word's bytes, a sign. -/
set_option maxRecDepth 100000
set_option linter.unusedSimpArgs false
namespace Go.Pm
section
variable {call : CallA} {draw : DrawA} {G : Globals} {fuel : Nat}

theorem word_spec (h59 : ∀ (c : UInt8) σ, call 59 [.int .u8 c.toNat] σ = some (.ret (.bool (digitB c)), σ)) (h61 : ∀ (c : UInt8) σ, call 61 [.int .u8 c.toNat] σ = some (.ret (.bool (letterB c)), σ))
    (c : UInt8) (σ : Store) : evalFn call draw G fuel i62 [.int .u8 c.toNat] σ = some (.ret (.bool (wordB c)), σ) := by
  cases h : letterB c <;> simp only [evalFn, params, List.length_cons, List.length_nil, Nat.reduceAdd, evalCode, evalOps, guardOk, evalOp, AX.ev, look, putE, val, evs, optEv, binA, intBin, wrapI, unA, callM, keepE_cons, keepE_nil, callC, strips, stripWs, stripW, AV.flatv, flatvs, Nat.reduceEqDiff, if_true, if_false, reduceIte, Int.toNat_natCast, List.append_nil, List.nil_append, List.cons_append, decide_true, decide_false, bft, btf, btt, bff, Bool.false_eq_true, resultsA, oneOrTup, Option.map_some, Option.map_none, Bool.not_true, Bool.not_false, loadAt, storeAt, storeOf, partOf, List.getElem?_cons_zero, List.getElem?_cons_succ, List.set_cons_zero, List.set_cons_succ, AV.cells, AV.isCell, List.all_cons, List.all_nil, Bool.and_true, Bool.and_false, Bool.false_and, Bool.true_and, Bool.and_self, and_true, true_and, and_self, putAt, hasLabel, Bool.or_false, Bool.false_or, Bool.or_true, Bool.true_or, fillA, pickParts, pickSl, strBin, eqA, eqCell, ne_eq, not_true_eq_false, not_false_eq_true, Nat.reduceLeDiff, Nat.reduceLT, Nat.reduceMul, Nat.reduceSub, Nat.zero_add, Nat.add_zero, Option.bind_some, asNat, bounds2, reduceCtorEq, List.take_succ_cons, List.take_zero, List.drop_succ_cons, List.drop_zero, Nat.reduceBEq, List.take_nil, List.drop_nil, Int.reduceLE, Int.reduceLT, Int.reduceToNat, Int.toNat_zero, Int.reduceBEq, Int.le_refl, Nat.le_refl, i62, wordB, h59, h61, h]

def longS : List UInt8 := [61, 61, 32, 33, 61, 32, 60, 61]
def shortS : List UInt8 := [60, 61, 33, 43, 45, 124, 94, 42, 47, 37, 38, 40, 41, 123, 125, 44, 59, 58]

def signN : List UInt8 → Nat
  | [] => 0
  | [a] => if containsB [a] shortS then 1 else 0
  | a :: b :: _ => if b.toNat == 61 && containsB [a, b] longS then 2 else if containsB [a] shortS then 1 else 0

theorem sign_spec (h101 : ∀ (s t : List UInt8) σ, s.length < 100 → t.length < 100 → call 101 [.str s, .str t] σ = some (.ret (.bool (containsB t s)), σ))
    (a : UInt8) (s : List UInt8) (σ : Store) (hs : s.length < 9223372036854775807) : evalFn call draw G fuel i63 [.str (a :: s)] σ = some (.ret (.int .i64 (signN (a :: s))), σ) := by
  have q1 : ∀ t : List UInt8, t.length < 100 → ∀ σ, call 101 [.str [60, 61, 33, 43, 45, 124, 94, 42, 47, 37, 38, 40, 41, 123, 125, 44, 59, 58], .str t] σ = some (.ret (.bool (containsB t shortS)), σ) := fun t ht σ => h101 _ _ σ (by decide) ht
  have q2 : ∀ t : List UInt8, t.length < 100 → ∀ σ, call 101 [.str [61, 61, 32, 33, 61, 32, 60, 61], .str t] σ = some (.ret (.bool (containsB t longS)), σ) := fun t ht σ => h101 _ _ σ (by decide) ht
  cases s with
  | nil =>
    have e1 : (((1 : Nat) : Int) > 1) = False := by simp
    have e2 : ((0 : Int) ≤ 1 ∧ (1 : Int) ≤ ((1 : Nat) : Int)) = True := by simp
    have e8 : ((1 : Int) ≤ ((1 : Nat) : Int)) = True := by simp
    have e3 := q1 [a] (by simp)
    cases hc : containsB [a] shortS <;> simp only [evalFn, params, List.length_cons, List.length_nil, Nat.reduceAdd, evalCode, evalOps, guardOk, evalOp, AX.ev, look, putE, val, evs, optEv, binA, intBin, wrapI, unA, callM, keepE_cons, keepE_nil, callC, strips, stripWs, stripW, AV.flatv, flatvs, Nat.reduceEqDiff, if_true, if_false, reduceIte, Int.toNat_natCast, List.append_nil, List.nil_append, List.cons_append, decide_true, decide_false, bft, btf, btt, bff, Bool.false_eq_true, resultsA, oneOrTup, Option.map_some, Option.map_none, Bool.not_true, Bool.not_false, loadAt, storeAt, storeOf, partOf, List.getElem?_cons_zero, List.getElem?_cons_succ, List.set_cons_zero, List.set_cons_succ, AV.cells, AV.isCell, List.all_cons, List.all_nil, Bool.and_true, Bool.and_false, Bool.false_and, Bool.true_and, Bool.and_self, and_true, true_and, and_self, putAt, hasLabel, Bool.or_false, Bool.false_or, Bool.or_true, Bool.true_or, fillA, pickParts, pickSl, strBin, eqA, eqCell, ne_eq, not_true_eq_false, not_false_eq_true, Nat.reduceLeDiff, Nat.reduceLT, Nat.reduceMul, Nat.reduceSub, Nat.zero_add, Nat.add_zero, Option.bind_some, asNat, bounds2, reduceCtorEq, List.take_succ_cons, List.take_zero, List.drop_succ_cons, List.drop_zero, Nat.reduceBEq, List.take_nil, List.drop_nil, Int.reduceLE, Int.reduceLT, Int.reduceToNat, Int.toNat_zero, Int.reduceBEq, Int.le_refl, Nat.le_refl, i63, signN, e1, e2, e3, e8, hc, List.take_succ_cons, List.take_zero, List.drop_zero, Int.toNat_one, Int.reduceToNat]
    all_goals rfl
  | cons b s =>
    have e1 : (((s.length + 1 + 1 : Nat) : Int) > 1) = True := by simp; omega
    have e2 : ((0 : Int) ≤ 1 ∧ (1 : Int) ≤ ((s.length + 1 + 1 : Nat) : Int)) = True := by simp; omega
    have e4 : ((0 : Int) ≤ 2 ∧ (2 : Int) ≤ ((s.length + 1 + 1 : Nat) : Int)) = True := by simp; omega
    have e3 := q1 [a] (by simp)
    have e5 := q2 [a, b] (by simp)
    have e6 : ((b.toNat : Int) == 61) = (b.toNat == 61) := by
      by_cases h : b.toNat = 61
      · rw [h]; rfl
      · have : ¬ (b.toNat : Int) = 61 := by omega
        rw [beq_eq_false_iff_ne.2 h, beq_eq_false_iff_ne.2 this]
    have e7 : (0 ≤ (1 : Int)) = True := by simp
    have e8 : ((1 : Int) ≤ ((s.length + 1 + 1 : Nat) : Int)) = True := by simp; omega
    have e9 : ((2 : Int) ≤ ((s.length + 1 + 1 : Nat) : Int)) = True := by simp; omega
    have e10 : ((0 : Int) ≤ 2) = True := by simp
    cases hb : (b.toNat == 61) <;> cases hl : containsB [a, b] longS <;> cases hc : containsB [a] shortS <;>
      simp only [evalFn, params, List.length_cons, List.length_nil, Nat.reduceAdd, evalCode, evalOps, guardOk, evalOp, AX.ev, look, putE, val, evs, optEv, binA, intBin, wrapI, unA, callM, keepE_cons, keepE_nil, callC, strips, stripWs, stripW, AV.flatv, flatvs, Nat.reduceEqDiff, if_true, if_false, reduceIte, Int.toNat_natCast, List.append_nil, List.nil_append, List.cons_append, decide_true, decide_false, bft, btf, btt, bff, Bool.false_eq_true, resultsA, oneOrTup, Option.map_some, Option.map_none, Bool.not_true, Bool.not_false, loadAt, storeAt, storeOf, partOf, List.getElem?_cons_zero, List.getElem?_cons_succ, List.set_cons_zero, List.set_cons_succ, AV.cells, AV.isCell, List.all_cons, List.all_nil, Bool.and_true, Bool.and_false, Bool.false_and, Bool.true_and, Bool.and_self, and_true, true_and, and_self, putAt, hasLabel, Bool.or_false, Bool.false_or, Bool.or_true, Bool.true_or, fillA, pickParts, pickSl, strBin, eqA, eqCell, ne_eq, not_true_eq_false, not_false_eq_true, Nat.reduceLeDiff, Nat.reduceLT, Nat.reduceMul, Nat.reduceSub, Nat.zero_add, Nat.add_zero, Option.bind_some, asNat, bounds2, reduceCtorEq, List.take_succ_cons, List.take_zero, List.drop_succ_cons, List.drop_zero, Nat.reduceBEq, List.take_nil, List.drop_nil, Int.reduceLE, Int.reduceLT, Int.reduceToNat, Int.toNat_zero, Int.reduceBEq, Int.le_refl, Nat.le_refl, i63, signN, e1, e2, e3, e4, e5, e6, e7, e8, e9, e10, hb, hl, hc, List.take_succ_cons, List.take_zero, List.drop_zero, Int.toNat_one, Int.reduceToNat]
    all_goals first | rfl | skip
end
end Go.Pm
end

section
set_option linter.unusedSimpArgs false
set_option linter.unusedVariables false
set_option linter.unusedSectionVars false
set_option maxRecDepth 100000
set_option linter.unusedSimpArgs false
namespace Go.Pm
section
variable {call : CallA} {draw : DrawA} {G : Globals} {fuel : Nat}

/-- lex.run, a round: on. -/
theorem run_on (s : List UInt8) (f : FuncId) (p : UInt8 → Bool) (n : Nat) (σ : Store) (hs : s.length ≤ 9223372036854775807)
    (hp : ∀ c : UInt8, call f [.int .u8 c.toNat] σ = some (.ret (.bool (p c)), σ)) (hn : n < s.length) (ht : p s[n] = true) :
    evalCode call draw G fuel i57_L0 none [(0, .str s), (1, .fn (.func f) [] []), (5, .int .i64 n)] σ = some (.normal, [(0, .str s), (1, .fn (.func f) [] []), (5, .int .i64 (n + 1 : Nat))], σ) := by
  have h1 : s[n]? = some s[n] := List.getElem?_eq_getElem hn
  have h2 : ((n : Int) < s.length) = True := by simp; omega
  have h3 : (0 ≤ (n : Int)) = True := by simp
  have h4 : IntKind.i64.wrap ((n : Int) + 1) = ((n + 1 : Nat) : Int) := by rw [wrap_i64] <;> omega
  simp only [i57_L0, evalCode, evalOps, guardOk, evalOp, AX.ev, look, putE, val, evs, binA, intBin, wrapI, callM, keepE_cons, keepE_nil, Nat.reduceEqDiff, if_true, if_false, h1, h2, h3, h4, ht, Int.toNat_natCast, hp, List.append_nil, List.nil_append, decide_true, beq_self_eq_true, reduceIte]

theorem run_off (s : List UInt8) (f : FuncId) (p : UInt8 → Bool) (n : Nat) (σ : Store)
    (hp : ∀ c : UInt8, call f [.int .u8 c.toNat] σ = some (.ret (.bool (p c)), σ)) (hn : n < s.length) (ht : p s[n] = false) :
    ∃ env, evalCode call draw G fuel i57_L0 none [(0, .str s), (1, .fn (.func f) [] []), (5, .int .i64 n)] σ = some (.exit 0, env, σ) ∧ look env 5 = some (.int .i64 n) := by
  have h1 : s[n]? = some s[n] := List.getElem?_eq_getElem hn
  have h2 : ((n : Int) < s.length) = True := by simp; omega
  have h3 : (0 ≤ (n : Int)) = True := by simp
  simp only [i57_L0, evalCode, evalOps, guardOk, evalOp, AX.ev, look, putE, val, evs, binA, intBin, wrapI, callM, keepE_cons, keepE_nil, Nat.reduceEqDiff, if_true, if_false, h1, h2, h3, ht, Int.toNat_natCast, hp, List.append_nil, List.nil_append, decide_true, beq_self_eq_true, reduceIte]
  exact ⟨_, rfl, rfl⟩

theorem run_end (s : List UInt8) (f : FuncId) (σ : Store) :
    ∃ env, evalCode call draw G fuel i57_L0 none [(0, .str s), (1, .fn (.func f) [] []), (5, .int .i64 s.length)] σ = some (.exit 0, env, σ) ∧ look env 5 = some (.int .i64 s.length) := by
  have h2 : ((s.length : Int) < s.length) = False := by simp
  simp only [i57_L0, evalCode, evalOps, guardOk, evalOp, AX.ev, look, putE, val, evs, binA, intBin, wrapI, callM, keepE_cons, keepE_nil, Nat.reduceEqDiff, if_true, if_false, h2, decide_false, bft, btf, btt, bff, reduceIte, Bool.false_eq_true]
  exact ⟨_, rfl, rfl⟩

def spanLen (p : UInt8 → Bool) (s : List UInt8) : Nat := (s.takeWhile p).length

theorem run_loop (s : List UInt8) (f : FuncId) (p : UInt8 → Bool) (σ : Store) (hs : s.length ≤ 9223372036854775807)
    (hp : ∀ c : UInt8, call f [.int .u8 c.toNat] σ = some (.ret (.bool (p c)), σ)) : ∀ (k n m : Nat), s.length - n = k → n ≤ s.length → k < m →
    ∃ env, iterA (evalCode call draw G fuel i57_L0 none) [0, 1, 5] m [(0, .str s), (1, .fn (.func f) [] []), (5, .int .i64 n)] σ = some (.exit 0, env, σ) ∧ look env 5 = some (.int .i64 ((n + spanLen p (s.drop n) : Nat) : Int)) := by
  intro k
  induction k with
  | zero =>
    intro n m hk hn hm
    obtain rfl : n = s.length := by omega
    obtain ⟨env, h1, h2⟩ := run_end (call := call) (draw := draw) (G := G) (fuel := fuel) s f σ
    obtain ⟨m, rfl⟩ : ∃ m', m = m' + 1 := ⟨m - 1, by omega⟩
    refine ⟨env, iterA_out (by simpa only [keepE_cons, keepE_nil, look, Nat.reduceEqDiff, if_true, if_false, reduceIte] using h1) (by simp), ?_⟩
    rw [h2]; simp [spanLen]
  | succ k ih =>
    intro n m hk hn hm
    have hlt : n < s.length := by omega
    obtain ⟨m, rfl⟩ : ∃ m', m = m' + 1 := ⟨m - 1, by omega⟩
    have hdrop : s.drop n = s[n] :: s.drop (n + 1) := List.drop_eq_getElem_cons hlt
    cases ht : p s[n] with
    | true =>
      have h1 := run_on (call := call) (draw := draw) (G := G) (fuel := fuel) s f p n σ hs hp hlt ht
      obtain ⟨env, h2, h3⟩ := ih (n + 1) m (by omega) (by omega) (by omega)
      refine ⟨env, ?_, ?_⟩
      · rw [iterA_normal (by simpa only [keepE_cons, keepE_nil, look, Nat.reduceEqDiff, if_true, if_false, reduceIte] using h1)]
        exact h2
      · have e : spanLen p (s.drop n) = spanLen p (s.drop (n + 1)) + 1 := by
          unfold spanLen; rw [hdrop, List.takeWhile_cons, if_pos ht, List.length_cons]
        rw [h3, e]
        congr 2; omega
    | false =>
      obtain ⟨env, h1, h2⟩ := run_off (call := call) (draw := draw) (G := G) (fuel := fuel) s f p n σ hp hlt ht
      refine ⟨env, iterA_out (by simpa only [keepE_cons, keepE_nil, look, Nat.reduceEqDiff, if_true, if_false, reduceIte] using h1) (by simp), ?_⟩
      have e : spanLen p (s.drop n) = 0 := by
        unfold spanLen; rw [hdrop, List.takeWhile_cons, if_neg (by simp [ht])]; rfl
      rw [h2, e]; rfl

theorem run_spec (s : List UInt8) (f : FuncId) (p : UInt8 → Bool) (σ : Store) (hs : s.length ≤ 9223372036854775807) (hf : s.length < fuel)
    (hp : ∀ c : UInt8, call f [.int .u8 c.toNat] σ = some (.ret (.bool (p c)), σ)) :
    evalFn call draw G fuel i57 [.str s, .fn (.func f) [] []] σ = some (.ret (.int .i64 (spanLen p s)), σ) := by
  obtain ⟨env, h1, h2⟩ := run_loop (call := call) (draw := draw) (G := G) (fuel := fuel) s f p σ hs hp s.length 0 fuel (by omega) (by omega) hf
  simp only [Nat.zero_add, List.drop_zero, Int.ofNat_zero] at h1 h2
  simp only [evalFn, i57, params, List.length_cons, List.length_nil, Nat.reduceAdd, if_true, evalCode, evalOps, guardOk, evalOp, AX.ev, look, putE, val, keepE_cons, keepE_nil, Nat.reduceEqDiff, if_false, reduceIte, h1, h2, resultsA, oneOrTup, Option.map_some]
end
end Go.Pm
end

section
set_option linter.unusedSimpArgs false
set_option linter.unusedVariables false
set_option linter.unusedSectionVars false
/- The lexer: a step of it. -/
set_option maxRecDepth 100000
set_option linter.unusedSimpArgs false
namespace Go.Pm
section
variable {call : CallA} {draw : DrawA} {G : Globals} {fuel : Nat}

/-- The text, the result's place, the place, the piece. -/
def lexS (text : List UInt8) (r : AObj) (line col : Int) (rest : Store) : Store :=
  .cells [.str text] (some 9) :: r :: .cells [.int .i64 line, .int .i64 col] (some 53) :: rest

theorem take_spec (text : List UInt8) (r : AObj) (line col : Int) (rest : Store) (n : Nat) (hn : n ≤ text.length) (ht : text.length ≤ 5000) (hc : 0 ≤ col) (hc2 : col ≤ 100000) :
    evalFn call draw G fuel i56 [.int .i64 n, .bp 0 0, .bp 2 0] (lexS text r line col rest) = some (.ret (.str (text.take n)), lexS (text.drop n) r line (col + n) rest) := by
  have e1 : (0 ≤ (n : Int)) = True := by simp
  have e2 : ((n : Int) ≤ (text.length : Int)) = True := by simp; omega
  have e3 : IntKind.i64.wrap (col + (n : Int)) = col + n := wrap_i64 (by omega) (by omega)
  simp only [evalFn, params, List.length_cons, List.length_nil, Nat.reduceAdd, evalCode, evalOps, guardOk, evalOp, AX.ev, look, putE, val, evs, optEv, binA, intBin, wrapI, unA, callM, keepE_cons, keepE_nil, callC, strips, stripWs, stripW, AV.flatv, flatvs, Nat.reduceEqDiff, if_true, if_false, reduceIte, Int.toNat_natCast, List.append_nil, List.nil_append, List.cons_append, decide_true, decide_false, bft, btf, btt, bff, Bool.false_eq_true, resultsA, oneOrTup, Option.map_some, Option.map_none, Bool.not_true, Bool.not_false, loadAt, storeAt, storeOf, partOf, List.getElem?_cons_zero, List.getElem?_cons_succ, List.set_cons_zero, List.set_cons_succ, AV.cells, AV.isCell, List.all_cons, List.all_nil, Bool.and_true, Bool.and_false, Bool.false_and, Bool.true_and, Bool.and_self, and_true, true_and, and_self, putAt, hasLabel, Bool.or_false, Bool.false_or, Bool.or_true, Bool.true_or, fillA, pickParts, pickSl, strBin, eqA, eqCell, ne_eq, not_true_eq_false, not_false_eq_true, Nat.reduceLeDiff, Nat.reduceLT, Nat.reduceMul, Nat.reduceSub, Nat.zero_add, Nat.add_zero, Option.bind_some, asNat, bounds2, reduceCtorEq, List.take_succ_cons, List.take_zero, List.drop_succ_cons, List.drop_zero, Nat.reduceBEq, List.take_nil, List.drop_nil, Int.reduceLE, Int.reduceLT, Int.reduceToNat, Int.toNat_zero, Int.reduceBEq, Int.le_refl, Nat.le_refl, i56, lexS, e1, e2, e3, List.take_length, List.drop_zero]

def lexE (out : AV) : Env := [(1, .bp 0 0), (3, .bp 1 0), (5, .bp 2 0), (6, out), (7, .bp 3 0), (9, .fn (.func 56) [] [.bp 0 0, .bp 2 0])]

def Take (call : CallA) : Prop := ∀ (text : List UInt8) (r : AObj) (line col : Int) (rest : Store) (n : Nat), n ≤ text.length → text.length ≤ 5000 → 0 ≤ col → col ≤ 100000 →
    call 56 [.int .i64 n, .bp 0 0, .bp 2 0] (lexS text r line col rest) = some (.ret (.str (text.take n)), lexS (text.drop n) r line (col + n) rest)

def pieceO (k : Int) (t : List UInt8) (n line col : Int) : AObj := .cells [.int .u8 k, .str t, .int .u64 n, .int .i64 line, .int .i64 col] (some 61)

theorem lex_lf (h56 : Take call) (t : List UInt8) (r : AObj) (line col : Int) (p0 p1 p2 p3 p4 : AV) (toks : Store) (out : AV) (ht : t.length < 5000) (hl : 0 ≤ line) (hl2 : line ≤ 100000) (hc : 0 ≤ col) (hc2 : col ≤ 100000) :
    ∃ q0 q1 q2 q3 q4, evalCode call draw G fuel i26_L2 (some 0) (lexE out) (lexS (10 :: t) r line col (.cells [p0, p1, p2, p3, p4] (some 61) :: toks)) = some (.goto 0, lexE out, lexS t r (line + 1) 1 (.cells [q0, q1, q2, q3, q4] (some 61) :: toks)) := by
  have k := fun r rest => h56 (10 :: t) r line col rest 1 (by simp) (by simp; omega) hc hc2
  simp only [Int.natCast_one, lexS, List.take_succ_cons, List.take_zero, List.drop_succ_cons, List.drop_zero] at k
  have e1 : IntKind.i64.wrap (line + 1) = line + 1 := wrap_i64 (by omega) (by omega)
  have e2 : (10 :: t == ([] : List UInt8)) = false := rfl
  have e3 : ((((10 : UInt8).toNat : Nat) : Int) == 10) = true := rfl
  simp only [evalFn, params, List.length_cons, List.length_nil, Nat.reduceAdd, evalCode, evalOps, guardOk, evalOp, AX.ev, look, putE, val, evs, optEv, binA, intBin, wrapI, unA, callM, keepE_cons, keepE_nil, callC, strips, stripWs, stripW, AV.flatv, flatvs, Nat.reduceEqDiff, if_true, if_false, reduceIte, Int.toNat_natCast, List.append_nil, List.nil_append, List.cons_append, decide_true, decide_false, bft, btf, btt, bff, Bool.false_eq_true, resultsA, oneOrTup, Option.map_some, Option.map_none, Bool.not_true, Bool.not_false, loadAt, storeAt, storeOf, partOf, List.getElem?_cons_zero, List.getElem?_cons_succ, List.set_cons_zero, List.set_cons_succ, AV.cells, AV.isCell, List.all_cons, List.all_nil, Bool.and_true, Bool.and_false, Bool.false_and, Bool.true_and, Bool.and_self, and_true, true_and, and_self, putAt, hasLabel, Bool.or_false, Bool.false_or, Bool.or_true, Bool.true_or, fillA, pickParts, pickSl, strBin, eqA, eqCell, ne_eq, not_true_eq_false, not_false_eq_true, Nat.reduceLeDiff, Nat.reduceLT, Nat.reduceMul, Nat.reduceSub, Nat.zero_add, Nat.add_zero, Option.bind_some, asNat, bounds2, reduceCtorEq, List.take_succ_cons, List.take_zero, List.drop_succ_cons, List.drop_zero, Nat.reduceBEq, List.take_nil, List.drop_nil, Int.reduceLE, Int.reduceLT, Int.reduceToNat, Int.toNat_zero, Int.reduceBEq, Int.le_refl, Nat.le_refl, i26_L0, i26_L1, i26_L2, lexE, lexS, e1, e2, e3, k]
  exact ⟨_, _, _, _, _, rfl⟩

def Run (call : CallA) (f : FuncId) (p : UInt8 → Bool) : Prop := ∀ (s : List UInt8) (σ : Store), s.length ≤ 5000 → call 57 [.str s, .fn (.func f) [] []] σ = some (.ret (.int .i64 (spanLen p s)), σ)

theorem spanLen_le (p : UInt8 → Bool) (s : List UInt8) : spanLen p s ≤ s.length := by
  unfold spanLen
  exact (List.takeWhile_sublist p).length_le

theorem u8eq (c : UInt8) (k : Nat) : (((c.toNat : Nat) : Int) == (k : Int)) = (c.toNat == k) := by
  by_cases h : c.toNat = k
  · rw [h]; simp
  · have : ¬ (c.toNat : Int) = (k : Int) := by omega
    rw [beq_eq_false_iff_ne.2 h, beq_eq_false_iff_ne.2 this]

theorem lex_blank (h56 : Take call) (c : UInt8) (hcc : (c.toNat == 32 || c.toNat == 9) = true) (t : List UInt8) (r : AObj) (line col : Int) (p0 p1 p2 p3 p4 : AV) (toks : Store) (out : AV) (ht : t.length < 5000) (hc : 0 ≤ col) (hc2 : col ≤ 100000) :
    ∃ q0 q1 q2 q3 q4, evalCode call draw G fuel i26_L2 (some 0) (lexE out) (lexS (c :: t) r line col (.cells [p0, p1, p2, p3, p4] (some 61) :: toks)) = some (.goto 0, lexE out, lexS t r line (col + 1) (.cells [q0, q1, q2, q3, q4] (some 61) :: toks)) := by
  have k := fun r rest => h56 (c :: t) r line col rest 1 (by simp) (by simp; omega) hc hc2
  simp only [Int.natCast_one, lexS, List.take_succ_cons, List.take_zero, List.drop_succ_cons, List.drop_zero] at k
  have e2 : (c :: t == ([] : List UInt8)) = false := rfl
  have e10 := u8eq c 10
  have e32 := u8eq c 32
  have e9 := u8eq c 9
  simp only [Int.cast_ofNat_Int] at e10 e32 e9
  cases h32 : (c.toNat == 32) with
  | true =>
    have h10 : (c.toNat == 10) = false := by rw [beq_eq_false_iff_ne]; rw [beq_iff_eq] at h32; omega
    simp only [evalFn, params, List.length_cons, List.length_nil, Nat.reduceAdd, evalCode, evalOps, guardOk, evalOp, AX.ev, look, putE, val, evs, optEv, binA, intBin, wrapI, unA, callM, keepE_cons, keepE_nil, callC, strips, stripWs, stripW, AV.flatv, flatvs, Nat.reduceEqDiff, if_true, if_false, reduceIte, Int.toNat_natCast, List.append_nil, List.nil_append, List.cons_append, decide_true, decide_false, bft, btf, btt, bff, Bool.false_eq_true, resultsA, oneOrTup, Option.map_some, Option.map_none, Bool.not_true, Bool.not_false, loadAt, storeAt, storeOf, partOf, List.getElem?_cons_zero, List.getElem?_cons_succ, List.set_cons_zero, List.set_cons_succ, AV.cells, AV.isCell, List.all_cons, List.all_nil, Bool.and_true, Bool.and_false, Bool.false_and, Bool.true_and, Bool.and_self, and_true, true_and, and_self, putAt, hasLabel, Bool.or_false, Bool.false_or, Bool.or_true, Bool.true_or, fillA, pickParts, pickSl, strBin, eqA, eqCell, ne_eq, not_true_eq_false, not_false_eq_true, Nat.reduceLeDiff, Nat.reduceLT, Nat.reduceMul, Nat.reduceSub, Nat.zero_add, Nat.add_zero, Option.bind_some, asNat, bounds2, reduceCtorEq, List.take_succ_cons, List.take_zero, List.drop_succ_cons, List.drop_zero, Nat.reduceBEq, List.take_nil, List.drop_nil, Int.reduceLE, Int.reduceLT, Int.reduceToNat, Int.toNat_zero, Int.reduceBEq, Int.le_refl, Nat.le_refl, i26_L0, i26_L1, i26_L2, lexE, lexS, e2, e10, e32, e9, h32, h10, k]
    exact ⟨_, _, _, _, _, rfl⟩
  | false =>
    have h9 : (c.toNat == 9) = true := by simpa [h32] using hcc
    have h10 : (c.toNat == 10) = false := by rw [beq_eq_false_iff_ne]; rw [beq_iff_eq] at h9; omega
    simp only [evalFn, params, List.length_cons, List.length_nil, Nat.reduceAdd, evalCode, evalOps, guardOk, evalOp, AX.ev, look, putE, val, evs, optEv, binA, intBin, wrapI, unA, callM, keepE_cons, keepE_nil, callC, strips, stripWs, stripW, AV.flatv, flatvs, Nat.reduceEqDiff, if_true, if_false, reduceIte, Int.toNat_natCast, List.append_nil, List.nil_append, List.cons_append, decide_true, decide_false, bft, btf, btt, bff, Bool.false_eq_true, resultsA, oneOrTup, Option.map_some, Option.map_none, Bool.not_true, Bool.not_false, loadAt, storeAt, storeOf, partOf, List.getElem?_cons_zero, List.getElem?_cons_succ, List.set_cons_zero, List.set_cons_succ, AV.cells, AV.isCell, List.all_cons, List.all_nil, Bool.and_true, Bool.and_false, Bool.false_and, Bool.true_and, Bool.and_self, and_true, true_and, and_self, putAt, hasLabel, Bool.or_false, Bool.false_or, Bool.or_true, Bool.true_or, fillA, pickParts, pickSl, strBin, eqA, eqCell, ne_eq, not_true_eq_false, not_false_eq_true, Nat.reduceLeDiff, Nat.reduceLT, Nat.reduceMul, Nat.reduceSub, Nat.zero_add, Nat.add_zero, Option.bind_some, asNat, bounds2, reduceCtorEq, List.take_succ_cons, List.take_zero, List.drop_succ_cons, List.drop_zero, Nat.reduceBEq, List.take_nil, List.drop_nil, Int.reduceLE, Int.reduceLT, Int.reduceToNat, Int.toNat_zero, Int.reduceBEq, Int.le_refl, Nat.le_refl, i26_L0, i26_L1, i26_L2, lexE, lexS, e2, e10, e32, e9, h32, h9, h10, k]
    exact ⟨_, _, _, _, _, rfl⟩

theorem lex_hash (h56 : Take call) (h57 : Run call 58 noLf) (t : List UInt8) (r : AObj) (line col : Int) (p0 p1 p2 p3 p4 : AV) (toks : Store) (out : AV) (ht : t.length < 5000) (hc : 0 ≤ col) (hc2 : col ≤ 100000) :
    ∃ q0 q1 q2 q3 q4, evalCode call draw G fuel i26_L2 (some 0) (lexE out) (lexS (35 :: t) r line col (.cells [p0, p1, p2, p3, p4] (some 61) :: toks)) =
      some (.goto 0, lexE out, lexS ((35 :: t).drop (spanLen noLf (35 :: t))) r line (col + spanLen noLf (35 :: t)) (.cells [q0, q1, q2, q3, q4] (some 61) :: toks)) := by
  have k := fun r rest => h56 (35 :: t) r line col rest (spanLen noLf (35 :: t)) (spanLen_le _ _) (by simp; omega) hc hc2
  simp only [lexS] at k
  have e2 : (35 :: t == ([] : List UInt8)) = false := rfl
  have e10 : ((((35 : UInt8).toNat : Nat) : Int) == 10) = false := rfl
  have e32 : ((((35 : UInt8).toNat : Nat) : Int) == 32) = false := rfl
  have e9 : ((((35 : UInt8).toNat : Nat) : Int) == 9) = false := rfl
  have e35 : ((((35 : UInt8).toNat : Nat) : Int) == 35) = true := rfl
  have h := fun σ => h57 (35 :: t) σ (by simp; omega)
  simp only [evalFn, params, List.length_cons, List.length_nil, Nat.reduceAdd, evalCode, evalOps, guardOk, evalOp, AX.ev, look, putE, val, evs, optEv, binA, intBin, wrapI, unA, callM, keepE_cons, keepE_nil, callC, strips, stripWs, stripW, AV.flatv, flatvs, Nat.reduceEqDiff, if_true, if_false, reduceIte, Int.toNat_natCast, List.append_nil, List.nil_append, List.cons_append, decide_true, decide_false, bft, btf, btt, bff, Bool.false_eq_true, resultsA, oneOrTup, Option.map_some, Option.map_none, Bool.not_true, Bool.not_false, loadAt, storeAt, storeOf, partOf, List.getElem?_cons_zero, List.getElem?_cons_succ, List.set_cons_zero, List.set_cons_succ, AV.cells, AV.isCell, List.all_cons, List.all_nil, Bool.and_true, Bool.and_false, Bool.false_and, Bool.true_and, Bool.and_self, and_true, true_and, and_self, putAt, hasLabel, Bool.or_false, Bool.false_or, Bool.or_true, Bool.true_or, fillA, pickParts, pickSl, strBin, eqA, eqCell, ne_eq, not_true_eq_false, not_false_eq_true, Nat.reduceLeDiff, Nat.reduceLT, Nat.reduceMul, Nat.reduceSub, Nat.zero_add, Nat.add_zero, Option.bind_some, asNat, bounds2, reduceCtorEq, List.take_succ_cons, List.take_zero, List.drop_succ_cons, List.drop_zero, Nat.reduceBEq, List.take_nil, List.drop_nil, Int.reduceLE, Int.reduceLT, Int.reduceToNat, Int.toNat_zero, Int.reduceBEq, Int.le_refl, Nat.le_refl, i26_L0, i26_L1, i26_L2, lexE, lexS, e2, e10, e32, e9, e35, k, h]
  exact ⟨_, _, _, _, _, rfl⟩
end
end Go.Pm
end

section
set_option linter.unusedSimpArgs false
set_option linter.unusedVariables false
set_option linter.unusedSectionVars false
/- The lexer: numbers, words, signs, the end. -/
set_option maxRecDepth 100000
set_option linter.unusedSimpArgs false
namespace Go.Pm
section
variable {call : CallA} {draw : DrawA} {G : Globals} {fuel : Nat}

/-- What strconv.ParseUint answers here. -/
def Parse (call : CallA) : Prop := ∀ (s : List UInt8) (σ : Store), s.length ≤ 5000 →
    (∀ u, Lib.parseUintB 64 s = .ok u → ∃ σ', call 60 [.str s, .int .i64 10, .int .i64 64] σ = some (.ret (.tup [.int .u64 u, .nili]), σ')) ∧
    (Lib.parseUintB 64 s = .range → ∃ σ', call 60 [.str s, .int .i64 10, .int .i64 64] σ = some (.ret (.tup [.int .u64 18446744073709551615, .iface 153 (.ip 1 [] 0 0)]), σ'))
def Digit (call : CallA) : Prop := ∀ (c : UInt8) σ, call 59 [.int .u8 c.toNat] σ = some (.ret (.bool (digitB c)), σ)
def Letter (call : CallA) : Prop := ∀ (c : UInt8) σ, call 61 [.int .u8 c.toNat] σ = some (.ret (.bool (letterB c)), σ)

theorem digit_lt {c : UInt8} (h : digitB c = true) : 48 ≤ c.toNat ∧ c.toNat ≤ 57 := by simpa [digitB] using h
theorem letter_lt {c : UInt8} (h : letterB c = true) : 97 ≤ c.toNat ∧ c.toNat ≤ 122 := by simpa [letterB] using h

theorem lex_num (h56 : Take call) (h57 : Run call 59 digitB) (h59 : Digit call) (h60 : Parse call) (c : UInt8) (hd : digitB c = true) (t : List UInt8) (r : AObj) (line col : Int) (p0 p1 p2 p3 p4 : AV) (toks : Store) (out : AV) (ht : t.length < 5000) (hc : 0 ≤ col) (hc2 : col ≤ 100000)
    (u : Nat) (hu : Lib.parseUintB 64 ((c :: t).take (spanLen digitB (c :: t))) = .ok u) :
    evalCode call draw G fuel i26_L2 (some 0) (lexE out) (lexS (c :: t) r line col (.cells [p0, p1, p2, p3, p4] (some 61) :: toks)) =
      some (.goto 1, lexE out, lexS ((c :: t).drop (spanLen digitB (c :: t))) r line (col + spanLen digitB (c :: t)) (pieceO 1 ((c :: t).take (spanLen digitB (c :: t))) u line col :: toks)) := by
  have k := fun r rest => h56 (c :: t) r line col rest (spanLen digitB (c :: t)) (spanLen_le _ _) (by simp; omega) hc hc2
  simp only [lexS] at k
  have e2 : (c :: t == ([] : List UInt8)) = false := rfl
  have e10 := u8eq c 10
  have e32 := u8eq c 32
  have e9 := u8eq c 9
  have e35 := u8eq c 35
  simp only [Int.cast_ofNat_Int] at e10 e32 e9 e35
  have hr := digit_lt hd
  have n10 : (c.toNat == 10) = false := by rw [beq_eq_false_iff_ne]; omega
  have n32 : (c.toNat == 32) = false := by rw [beq_eq_false_iff_ne]; omega
  have n9 : (c.toNat == 9) = false := by rw [beq_eq_false_iff_ne]; omega
  have n35 : (c.toNat == 35) = false := by rw [beq_eq_false_iff_ne]; omega
  have h := fun σ => h57 (c :: t) σ (by simp; omega)
  have hlen : ((c :: t).take (spanLen digitB (c :: t))).length ≤ 5000 := by simp; omega
  obtain ⟨σp, hp⟩ := (h60 ((c :: t).take (spanLen digitB (c :: t))) [] hlen).1 u hu
  have hdig := h59 c
  simp only [evalFn, params, List.length_cons, List.length_nil, Nat.reduceAdd, evalCode, evalOps, guardOk, evalOp, AX.ev, look, putE, val, evs, optEv, binA, intBin, wrapI, unA, callM, keepE_cons, keepE_nil, callC, strips, stripWs, stripW, AV.flatv, flatvs, Nat.reduceEqDiff, if_true, if_false, reduceIte, Int.toNat_natCast, List.append_nil, List.nil_append, List.cons_append, decide_true, decide_false, bft, btf, btt, bff, Bool.false_eq_true, resultsA, oneOrTup, Option.map_some, Option.map_none, Bool.not_true, Bool.not_false, loadAt, storeAt, storeOf, partOf, List.getElem?_cons_zero, List.getElem?_cons_succ, List.set_cons_zero, List.set_cons_succ, AV.cells, AV.isCell, List.all_cons, List.all_nil, Bool.and_true, Bool.and_false, Bool.false_and, Bool.true_and, Bool.and_self, and_true, true_and, and_self, putAt, hasLabel, Bool.or_false, Bool.false_or, Bool.or_true, Bool.true_or, fillA, pickParts, pickSl, strBin, eqA, eqCell, ne_eq, not_true_eq_false, not_false_eq_true, Nat.reduceLeDiff, Nat.reduceLT, Nat.reduceMul, Nat.reduceSub, Nat.zero_add, Nat.add_zero, Option.bind_some, asNat, bounds2, reduceCtorEq, List.take_succ_cons, List.take_zero, List.drop_succ_cons, List.drop_zero, Nat.reduceBEq, List.take_nil, List.drop_nil, Int.reduceLE, Int.reduceLT, Int.reduceToNat, Int.toNat_zero, Int.reduceBEq, Int.le_refl, Nat.le_refl, i26_L0, i26_L1, i26_L2, lexE, lexS, pieceO, e2, e10, e32, e9, e35, n10, n32, n9, n35, k, h, hp, hd, hdig]

theorem lex_numErr (h56 : Take call) (h57 : Run call 59 digitB) (h59 : Digit call) (h60 : Parse call) (c : UInt8) (hd : digitB c = true) (t : List UInt8) (r0 r1 : AV) (line col : Int) (p0 p1 p2 p3 p4 : AV) (toks : Store) (out : AV) (ht : t.length < 5000) (hc : 0 ≤ col) (hc2 : col ≤ 100000)
    (hu : Lib.parseUintB 64 ((c :: t).take (spanLen digitB (c :: t))) = .range) :
    ∃ σ', evalCode call (drawA call G) G fuel i26_L2 (some 0) (lexE out) (lexS (c :: t) (.cells [r0, r1] (some 53)) line col (.cells [p0, p1, p2, p3, p4] (some 61) :: toks)) =
      some (.ret, [(2, .sl 5 [] .exact), (3, .bp 1 0), (4, .int .i64 4)], σ') ∧ σ'[1]? = some (.cells [.int .i64 line, .int .i64 col] (some 53)) := by
  have k := fun r rest => h56 (c :: t) r line col rest (spanLen digitB (c :: t)) (spanLen_le _ _) (by simp; omega) hc hc2
  simp only [lexS] at k
  have e2 : (c :: t == ([] : List UInt8)) = false := rfl
  have e10 := u8eq c 10
  have e32 := u8eq c 32
  have e9 := u8eq c 9
  have e35 := u8eq c 35
  simp only [Int.cast_ofNat_Int] at e10 e32 e9 e35
  have hr := digit_lt hd
  have n10 : (c.toNat == 10) = false := by rw [beq_eq_false_iff_ne]; omega
  have n32 : (c.toNat == 32) = false := by rw [beq_eq_false_iff_ne]; omega
  have n9 : (c.toNat == 9) = false := by rw [beq_eq_false_iff_ne]; omega
  have n35 : (c.toNat == 35) = false := by rw [beq_eq_false_iff_ne]; omega
  have h := fun σ => h57 (c :: t) σ (by simp; omega)
  have hlen : ((c :: t).take (spanLen digitB (c :: t))).length ≤ 5000 := by simp; omega
  obtain ⟨σp, hp⟩ := (h60 ((c :: t).take (spanLen digitB (c :: t))) [] hlen).2 hu
  have hdig := h59 c
  simp only [evalFn, params, List.length_cons, List.length_nil, Nat.reduceAdd, evalCode, evalOps, guardOk, evalOp, AX.ev, look, putE, val, evs, optEv, binA, intBin, wrapI, unA, callM, keepE_cons, keepE_nil, callC, strips, stripWs, stripW, AV.flatv, flatvs, Nat.reduceEqDiff, if_true, if_false, reduceIte, Int.toNat_natCast, List.append_nil, List.nil_append, List.cons_append, decide_true, decide_false, bft, btf, btt, bff, Bool.false_eq_true, resultsA, oneOrTup, Option.map_some, Option.map_none, Bool.not_true, Bool.not_false, loadAt, storeAt, storeOf, partOf, List.getElem?_cons_zero, List.getElem?_cons_succ, List.set_cons_zero, List.set_cons_succ, AV.cells, AV.isCell, List.all_cons, List.all_nil, Bool.and_true, Bool.and_false, Bool.false_and, Bool.true_and, Bool.and_self, and_true, true_and, and_self, putAt, hasLabel, Bool.or_false, Bool.false_or, Bool.or_true, Bool.true_or, fillA, pickParts, pickSl, strBin, eqA, eqCell, ne_eq, not_true_eq_false, not_false_eq_true, Nat.reduceLeDiff, Nat.reduceLT, Nat.reduceMul, Nat.reduceSub, Nat.zero_add, Nat.add_zero, Option.bind_some, asNat, bounds2, reduceCtorEq, List.take_succ_cons, List.take_zero, List.drop_succ_cons, List.drop_zero, Nat.reduceBEq, List.take_nil, List.drop_nil, Int.reduceLE, Int.reduceLT, Int.reduceToNat, Int.toNat_zero, Int.reduceBEq, Int.le_refl, Nat.le_refl, puress, AV.pure, strip, drawA, goD, stepG, stepD, bornD, readsD, births, AOp.births, Eff.app, pairsD, loudsD, loudD, conflict, apart, AOp.shares, List.replicate_zero, List.replicate_succ, List.getD_cons_succ, List.getD_cons_zero, List.contains_cons, List.contains_nil, Bool.not_or, Option.getD_some, Option.getD_none, Nat.reduceBNe, decide_eq_true_eq, Bool.if_false_left, i26_L0, i26_L1, i26_L2, lexE, lexS, pieceO, e2, e10, e32, e9, e35, n10, n32, n9, n35, k, h, hp, hd, hdig]
  exact ⟨_, rfl, rfl⟩

theorem lex_word (h56 : Take call) (h57 : Run call 62 wordB) (h59 : Digit call) (h61 : Letter call) (c : UInt8) (hd : letterB c = true) (t : List UInt8) (r : AObj) (line col : Int) (p0 p1 p2 p3 p4 : AV) (toks : Store) (out : AV) (ht : t.length < 5000) (hc : 0 ≤ col) (hc2 : col ≤ 100000) :
    evalCode call draw G fuel i26_L2 (some 0) (lexE out) (lexS (c :: t) r line col (.cells [p0, p1, p2, p3, p4] (some 61) :: toks)) =
      some (.goto 1, lexE out, lexS ((c :: t).drop (spanLen wordB (c :: t))) r line (col + spanLen wordB (c :: t)) (pieceO 2 ((c :: t).take (spanLen wordB (c :: t))) 0 line col :: toks)) := by
  have k := fun r rest => h56 (c :: t) r line col rest (spanLen wordB (c :: t)) (spanLen_le _ _) (by simp; omega) hc hc2
  simp only [lexS] at k
  have e2 : (c :: t == ([] : List UInt8)) = false := rfl
  have e10 := u8eq c 10
  have e32 := u8eq c 32
  have e9 := u8eq c 9
  have e35 := u8eq c 35
  simp only [Int.cast_ofNat_Int] at e10 e32 e9 e35
  have hr := letter_lt hd
  have n10 : (c.toNat == 10) = false := by rw [beq_eq_false_iff_ne]; omega
  have n32 : (c.toNat == 32) = false := by rw [beq_eq_false_iff_ne]; omega
  have n9 : (c.toNat == 9) = false := by rw [beq_eq_false_iff_ne]; omega
  have n35 : (c.toNat == 35) = false := by rw [beq_eq_false_iff_ne]; omega
  have nd : digitB c = false := by
    cases hx : digitB c with
    | false => rfl
    | true => have := digit_lt hx; omega
  have h := fun σ => h57 (c :: t) σ (by simp; omega)
  have hdig := h59 c
  have hlet := h61 c
  simp only [evalFn, params, List.length_cons, List.length_nil, Nat.reduceAdd, evalCode, evalOps, guardOk, evalOp, AX.ev, look, putE, val, evs, optEv, binA, intBin, wrapI, unA, callM, keepE_cons, keepE_nil, callC, strips, stripWs, stripW, AV.flatv, flatvs, Nat.reduceEqDiff, if_true, if_false, reduceIte, Int.toNat_natCast, List.append_nil, List.nil_append, List.cons_append, decide_true, decide_false, bft, btf, btt, bff, Bool.false_eq_true, resultsA, oneOrTup, Option.map_some, Option.map_none, Bool.not_true, Bool.not_false, loadAt, storeAt, storeOf, partOf, List.getElem?_cons_zero, List.getElem?_cons_succ, List.set_cons_zero, List.set_cons_succ, AV.cells, AV.isCell, List.all_cons, List.all_nil, Bool.and_true, Bool.and_false, Bool.false_and, Bool.true_and, Bool.and_self, and_true, true_and, and_self, putAt, hasLabel, Bool.or_false, Bool.false_or, Bool.or_true, Bool.true_or, fillA, pickParts, pickSl, strBin, eqA, eqCell, ne_eq, not_true_eq_false, not_false_eq_true, Nat.reduceLeDiff, Nat.reduceLT, Nat.reduceMul, Nat.reduceSub, Nat.zero_add, Nat.add_zero, Option.bind_some, asNat, bounds2, reduceCtorEq, List.take_succ_cons, List.take_zero, List.drop_succ_cons, List.drop_zero, Nat.reduceBEq, List.take_nil, List.drop_nil, Int.reduceLE, Int.reduceLT, Int.reduceToNat, Int.toNat_zero, Int.reduceBEq, Int.le_refl, Nat.le_refl, i26_L0, i26_L1, i26_L2, lexE, lexS, pieceO, e2, e10, e32, e9, e35, n10, n32, n9, n35, k, h, hd, nd, hdig, hlet]

/-- The rows that have been put, and the right to go on. -/
def OutOk (rows : List AV) (cap : Cap) (toks : Store) : Prop :=
  (cap = .exact ∧ rows = []) ∨ ∃ j, cap = .tok (4 + j) ∧ toks[j]? = some (.tok 61)

def pieceA (k : Int) (t : List UInt8) (n line col : Int) : AV := .agg [.int .u8 k, .str t, .int .u64 n, .int .i64 line, .int .i64 col]

theorem put_app (rows : List AV) (cap : Cap) (a b c d : AObj) (toks : Store) (ho : OutOk rows cap toks) (hn : rows.length ≤ 5000) (k : Int) (t : List UInt8) (n line col : Int) :
    ∃ cap' toks', appendA (a :: b :: c :: d :: toks) 61 5 48 (.sl 5 rows cap) (.sl 5 [pieceA k t n line col] .exact) = some (.sl 5 (rows ++ [pieceA k t n line col]) cap', a :: b :: c :: d :: toks') ∧
      OutOk (rows ++ [pieceA k t n line col]) cap' toks' := by
  have hb : 2 * (rows.length + 1) * 48 ≤ 281474976710656 := by omega
  rcases ho with ⟨rfl, rfl⟩ | ⟨j, rfl, hj⟩
  · refine ⟨.tok (4 + toks.length), toks ++ [.tok 61], ?_, .inr ⟨toks.length, rfl, by simp⟩⟩
    simp [appendA, srcRow, rowOk, pieceA, AV.cells, AV.isCell]
    omega
  · refine ⟨.tok (4 + toks.length), toks.set j .dead ++ [.tok 61], ?_, .inr ⟨toks.length, rfl, by simp⟩⟩
    have hg : (a :: b :: c :: d :: toks)[4 + j]? = some (.tok 61) := by
      rw [show 4 + j = j + 1 + 1 + 1 + 1 by omega]; simpa using hj
    have hs : (a :: b :: c :: d :: toks).set (4 + j) AObj.dead = a :: b :: c :: d :: toks.set j .dead := by
      rw [show 4 + j = j + 1 + 1 + 1 + 1 by omega]; simp
    simp only [appendA, srcRow, rowOk, pieceA, AV.cells, AV.isCell, List.all_cons, List.all_nil, hg, hs, List.length_cons, List.length_nil, if_true]
    simp
    omega

theorem lex_put (rows : List AV) (cap : Cap) (text : List UInt8) (r : AObj) (line col : Int) (k : Int) (t : List UInt8) (n pl pc : Int) (toks : Store) (ho : OutOk rows cap toks) (hn : rows.length ≤ 5000) :
    ∃ cap' toks', evalCode call draw G fuel i26_L2 (some 1) (lexE (.sl 5 rows cap)) (lexS text r line col (pieceO k t n pl pc :: toks)) =
      some (.goto 0, lexE (.sl 5 (rows ++ [pieceA k t n pl pc]) cap'), lexS text r line col (pieceO k t n pl pc :: toks')) ∧ OutOk (rows ++ [pieceA k t n pl pc]) cap' toks' := by
  obtain ⟨cap', toks', h1, h2⟩ := put_app rows cap (.cells [.str text] (some 9)) r (.cells [.int .i64 line, .int .i64 col] (some 53)) (pieceO k t n pl pc) toks ho hn k t n pl pc
  refine ⟨cap', toks', ?_, h2⟩
  simp only [pieceO, pieceA] at h1
  simp only [evalFn, params, List.length_cons, List.length_nil, Nat.reduceAdd, evalCode, evalOps, guardOk, evalOp, AX.ev, look, putE, val, evs, optEv, binA, intBin, wrapI, unA, callM, keepE_cons, keepE_nil, callC, strips, stripWs, stripW, AV.flatv, flatvs, Nat.reduceEqDiff, if_true, if_false, reduceIte, Int.toNat_natCast, List.append_nil, List.nil_append, List.cons_append, decide_true, decide_false, bft, btf, btt, bff, Bool.false_eq_true, resultsA, oneOrTup, Option.map_some, Option.map_none, Bool.not_true, Bool.not_false, loadAt, storeAt, storeOf, partOf, List.getElem?_cons_zero, List.getElem?_cons_succ, List.set_cons_zero, List.set_cons_succ, AV.cells, AV.isCell, List.all_cons, List.all_nil, Bool.and_true, Bool.and_false, Bool.false_and, Bool.true_and, Bool.and_self, and_true, true_and, and_self, putAt, hasLabel, Bool.or_false, Bool.false_or, Bool.or_true, Bool.true_or, fillA, pickParts, pickSl, strBin, eqA, eqCell, ne_eq, not_true_eq_false, not_false_eq_true, Nat.reduceLeDiff, Nat.reduceLT, Nat.reduceMul, Nat.reduceSub, Nat.zero_add, Nat.add_zero, Option.bind_some, asNat, bounds2, reduceCtorEq, List.take_succ_cons, List.take_zero, List.drop_succ_cons, List.drop_zero, Nat.reduceBEq, List.take_nil, List.drop_nil, Int.reduceLE, Int.reduceLT, Int.reduceToNat, Int.toNat_zero, Int.reduceBEq, Int.le_refl, Nat.le_refl, i26_L0, i26_L1, i26_L2, lexE, lexS, pieceO, pieceA, h1, List.replicate_succ, List.replicate_zero, List.flatten_cons, List.flatten_nil, rowOfCells, chunks, Nat.one_mul, Nat.mul_one, Nat.zero_mul]
end
end Go.Pm
end

section
set_option linter.unusedSimpArgs false
set_option linter.unusedVariables false
set_option linter.unusedSectionVars false
/- The lexer: signs, the end. -/
set_option maxRecDepth 100000
set_option linter.unusedSimpArgs false
namespace Go.Pm
section
variable {call : CallA} {draw : DrawA} {G : Globals} {fuel : Nat}

def Sign (call : CallA) : Prop := ∀ (a : UInt8) (s : List UInt8) σ, s.length ≤ 5000 → call 63 [.str (a :: s)] σ = some (.ret (.int .i64 (signN (a :: s))), σ)

theorem signN_le (a : UInt8) (s : List UInt8) : signN (a :: s) ≤ (a :: s).length := by
  cases s with
  | nil => simp only [signN]; split <;> simp
  | cons b s => simp only [signN]; split <;> (try split) <;> simp

theorem lex_end (rows : List AV) (cap : Cap) (r0 r1 : AV) (line col : Int) (p0 p1 p2 p3 p4 : AV) (toks : Store) (ho : OutOk rows cap toks) (hn : rows.length ≤ 5000) :
    ∃ cap' σ', evalCode call draw G fuel i26_L2 (some 0) (lexE (.sl 5 rows cap)) (lexS [] (.cells [r0, r1] (some 53)) line col (.cells [p0, p1, p2, p3, p4] (some 61) :: toks)) =
      some (.ret, [(2, .sl 5 (rows ++ [pieceA 0 [] 0 line col]) cap'), (3, .bp 1 0), (4, .int .i64 0)], σ') ∧ σ'[1]? = some (.cells [.int .i64 0, .int .i64 0] (some 53)) := by
  obtain ⟨cap', toks', h1, h2⟩ := put_app rows cap (.cells [.str []] (some 9)) (.cells [r0, r1] (some 53)) (.cells [.int .i64 line, .int .i64 col] (some 53)) (pieceO 0 [] 0 line col) toks ho hn 0 [] 0 line col
  simp only [pieceO, pieceA] at h1
  have e2 : (([] : List UInt8) == []) = true := rfl
  simp only [evalFn, params, List.length_cons, List.length_nil, Nat.reduceAdd, evalCode, evalOps, guardOk, evalOp, AX.ev, look, putE, val, evs, optEv, binA, intBin, wrapI, unA, callM, keepE_cons, keepE_nil, callC, strips, stripWs, stripW, AV.flatv, flatvs, Nat.reduceEqDiff, if_true, if_false, reduceIte, Int.toNat_natCast, List.append_nil, List.nil_append, List.cons_append, decide_true, decide_false, bft, btf, btt, bff, Bool.false_eq_true, resultsA, oneOrTup, Option.map_some, Option.map_none, Bool.not_true, Bool.not_false, loadAt, storeAt, storeOf, partOf, List.getElem?_cons_zero, List.getElem?_cons_succ, List.set_cons_zero, List.set_cons_succ, AV.cells, AV.isCell, List.all_cons, List.all_nil, Bool.and_true, Bool.and_false, Bool.false_and, Bool.true_and, Bool.and_self, and_true, true_and, and_self, putAt, hasLabel, Bool.or_false, Bool.false_or, Bool.or_true, Bool.true_or, fillA, pickParts, pickSl, strBin, eqA, eqCell, ne_eq, not_true_eq_false, not_false_eq_true, Nat.reduceLeDiff, Nat.reduceLT, Nat.reduceMul, Nat.reduceSub, Nat.zero_add, Nat.add_zero, Option.bind_some, asNat, bounds2, reduceCtorEq, List.take_succ_cons, List.take_zero, List.drop_succ_cons, List.drop_zero, Nat.reduceBEq, List.take_nil, List.drop_nil, Int.reduceLE, Int.reduceLT, Int.reduceToNat, Int.toNat_zero, Int.reduceBEq, Int.le_refl, Nat.le_refl, i26_L0, i26_L1, i26_L2, lexE, lexS, pieceO, pieceA, e2, h1, List.replicate_succ, List.replicate_zero, List.flatten_cons, List.flatten_nil, rowOfCells, chunks, Nat.one_mul, Nat.mul_one, Nat.zero_mul]
  exact ⟨_, _, rfl, rfl⟩

/-- A byte that begins nothing but, maybe, a sign. -/
def other (c : UInt8) : Bool := !(c.toNat == 10 || c.toNat == 32 || c.toNat == 9 || c.toNat == 35 || digitB c || letterB c)

theorem lex_sign (h56 : Take call) (h59 : Digit call) (h61 : Letter call) (h63 : Sign call) (c : UInt8) (hd : other c = true) (t : List UInt8) (r : AObj) (line col : Int) (p0 p1 p2 p3 p4 : AV) (toks : Store) (rows : List AV) (cap : Cap) (ht : t.length < 5000) (hc : 0 ≤ col) (hc2 : col ≤ 100000)
    (hs : signN (c :: t) ≠ 0) (ho : OutOk rows cap toks) (hn : rows.length ≤ 5000) :
    ∃ cap' toks' q0 q1 q2 q3 q4, evalCode call draw G fuel i26_L2 (some 0) (lexE (.sl 5 rows cap)) (lexS (c :: t) r line col (.cells [p0, p1, p2, p3, p4] (some 61) :: toks)) =
      some (.goto 0, lexE (.sl 5 (rows ++ [pieceA 3 ((c :: t).take (signN (c :: t))) 0 line col]) cap'), lexS ((c :: t).drop (signN (c :: t))) r line (col + signN (c :: t)) (.cells [q0, q1, q2, q3, q4] (some 61) :: toks')) ∧
      OutOk (rows ++ [pieceA 3 ((c :: t).take (signN (c :: t))) 0 line col]) cap' toks' := by
  obtain ⟨cap', toks', h1, h2⟩ := put_app rows cap (.cells [.str ((c :: t).drop (signN (c :: t)))] (some 9)) r (.cells [.int .i64 line, .int .i64 (col + signN (c :: t))] (some 53)) (pieceO 3 ((c :: t).take (signN (c :: t))) 0 line col) toks ho hn 3 ((c :: t).take (signN (c :: t))) 0 line col
  simp only [pieceO, pieceA] at h1
  have k := fun r rest => h56 (c :: t) r line col rest (signN (c :: t)) (signN_le _ _) (by simp; omega) hc hc2
  simp only [lexS] at k
  have e2 : (c :: t == ([] : List UInt8)) = false := rfl
  have e10 := u8eq c 10
  have e32 := u8eq c 32
  have e9 := u8eq c 9
  have e35 := u8eq c 35
  simp only [Int.cast_ofNat_Int] at e10 e32 e9 e35
  simp only [other, Bool.not_eq_true', Bool.or_eq_false_iff] at hd
  obtain ⟨⟨⟨⟨⟨n10, n32⟩, n9⟩, n35⟩, nd⟩, nl⟩ := hd
  have hdig := h59 c
  have hlet := h61 c
  have hsig := fun σ => h63 c t σ (by omega)
  have e0 : (((signN (c :: t) : Nat) : Int) == 0) = false := by
    rw [beq_eq_false_iff_ne]; omega
  generalize signN (c :: t) = n at *
  simp only [evalFn, params, List.length_cons, List.length_nil, Nat.reduceAdd, evalCode, evalOps, guardOk, evalOp, AX.ev, look, putE, val, evs, optEv, binA, intBin, wrapI, unA, callM, keepE_cons, keepE_nil, callC, strips, stripWs, stripW, AV.flatv, flatvs, Nat.reduceEqDiff, if_true, if_false, reduceIte, Int.toNat_natCast, List.append_nil, List.nil_append, List.cons_append, decide_true, decide_false, bft, btf, btt, bff, Bool.false_eq_true, resultsA, oneOrTup, Option.map_some, Option.map_none, Bool.not_true, Bool.not_false, loadAt, storeAt, storeOf, partOf, List.getElem?_cons_zero, List.getElem?_cons_succ, List.set_cons_zero, List.set_cons_succ, AV.cells, AV.isCell, List.all_cons, List.all_nil, Bool.and_true, Bool.and_false, Bool.false_and, Bool.true_and, Bool.and_self, and_true, true_and, and_self, putAt, hasLabel, Bool.or_false, Bool.false_or, Bool.or_true, Bool.true_or, fillA, pickParts, pickSl, strBin, eqA, eqCell, ne_eq, not_true_eq_false, not_false_eq_true, Nat.reduceLeDiff, Nat.reduceLT, Nat.reduceMul, Nat.reduceSub, Nat.zero_add, Nat.add_zero, Option.bind_some, asNat, bounds2, reduceCtorEq, List.take_succ_cons, List.take_zero, List.drop_succ_cons, List.drop_zero, Nat.reduceBEq, List.take_nil, List.drop_nil, Int.reduceLE, Int.reduceLT, Int.reduceToNat, Int.toNat_zero, Int.reduceBEq, Int.le_refl, Nat.le_refl, i26_L0, i26_L1, i26_L2, lexE, lexS, pieceO, pieceA, e2, e10, e32, e9, e35, n10, n32, n9, n35, k, nd, nl, hdig, hlet, hsig, e0, h1, List.replicate_succ, List.replicate_zero, List.flatten_cons, List.flatten_nil, rowOfCells, chunks, Nat.one_mul, Nat.mul_one, Nat.zero_mul]
  exact ⟨cap', toks', _, _, _, _, _, rfl, h2⟩

theorem lex_signErr (h59 : Digit call) (h61 : Letter call) (h63 : Sign call) (c : UInt8) (hd : other c = true) (t : List UInt8) (r0 r1 : AV) (line col : Int) (p0 p1 p2 p3 p4 : AV) (toks : Store) (out : AV) (ht : t.length < 5000)
    (hs : signN (c :: t) = 0) :
    ∃ σ', evalCode call (drawA call G) G fuel i26_L2 (some 0) (lexE out) (lexS (c :: t) (.cells [r0, r1] (some 53)) line col (.cells [p0, p1, p2, p3, p4] (some 61) :: toks)) =
      some (.ret, [(2, .sl 5 [] .exact), (3, .bp 1 0), (4, .int .i64 3)], σ') ∧ σ'[1]? = some (.cells [.int .i64 line, .int .i64 col] (some 53)) := by
  have e2 : (c :: t == ([] : List UInt8)) = false := rfl
  have e10 := u8eq c 10
  have e32 := u8eq c 32
  have e9 := u8eq c 9
  have e35 := u8eq c 35
  simp only [Int.cast_ofNat_Int] at e10 e32 e9 e35
  simp only [other, Bool.not_eq_true', Bool.or_eq_false_iff] at hd
  obtain ⟨⟨⟨⟨⟨n10, n32⟩, n9⟩, n35⟩, nd⟩, nl⟩ := hd
  have hdig := h59 c
  have hlet := h61 c
  have hsig := fun σ => h63 c t σ (by omega)
  have e0 : (((0 : Nat) : Int) == 0) = true := rfl
  rw [hs] at hsig
  simp only [evalFn, params, List.length_cons, List.length_nil, Nat.reduceAdd, evalCode, evalOps, guardOk, evalOp, AX.ev, look, putE, val, evs, optEv, binA, intBin, wrapI, unA, callM, keepE_cons, keepE_nil, callC, strips, stripWs, stripW, AV.flatv, flatvs, Nat.reduceEqDiff, if_true, if_false, reduceIte, Int.toNat_natCast, List.append_nil, List.nil_append, List.cons_append, decide_true, decide_false, bft, btf, btt, bff, Bool.false_eq_true, resultsA, oneOrTup, Option.map_some, Option.map_none, Bool.not_true, Bool.not_false, loadAt, storeAt, storeOf, partOf, List.getElem?_cons_zero, List.getElem?_cons_succ, List.set_cons_zero, List.set_cons_succ, AV.cells, AV.isCell, List.all_cons, List.all_nil, Bool.and_true, Bool.and_false, Bool.false_and, Bool.true_and, Bool.and_self, and_true, true_and, and_self, putAt, hasLabel, Bool.or_false, Bool.false_or, Bool.or_true, Bool.true_or, fillA, pickParts, pickSl, strBin, eqA, eqCell, ne_eq, not_true_eq_false, not_false_eq_true, Nat.reduceLeDiff, Nat.reduceLT, Nat.reduceMul, Nat.reduceSub, Nat.zero_add, Nat.add_zero, Option.bind_some, asNat, bounds2, reduceCtorEq, List.take_succ_cons, List.take_zero, List.drop_succ_cons, List.drop_zero, Nat.reduceBEq, List.take_nil, List.drop_nil, Int.reduceLE, Int.reduceLT, Int.reduceToNat, Int.toNat_zero, Int.reduceBEq, Int.le_refl, Nat.le_refl, puress, AV.pure, strip, drawA, goD, stepG, stepD, bornD, readsD, births, AOp.births, Eff.app, pairsD, loudsD, loudD, conflict, apart, AOp.shares, List.replicate_zero, List.replicate_succ, List.getD_cons_succ, List.getD_cons_zero, List.contains_cons, List.contains_nil, Bool.not_or, Option.getD_some, Option.getD_none, Nat.reduceBNe, decide_eq_true_eq, Bool.if_false_left, i26_L0, i26_L1, i26_L2, lexE, lexS, pieceO, pieceA, e2, e10, e32, e9, e35, n10, n32, n9, n35, nd, nl, hdig, hlet, hsig, e0]
  exact ⟨_, rfl, rfl⟩
end
end Go.Pm
end

section
set_option linter.unusedSimpArgs false
set_option linter.unusedVariables false
set_option linter.unusedSectionVars false
/- The lexer, whole. -/
set_option maxRecDepth 100000
set_option linter.unusedSimpArgs false
namespace Go.Pm
section
variable {call : CallA} {draw : DrawA} {G : Globals} {fuel : Nat}

/-- What the lexer comes to. -/
inductive LexR where
  | ok (l : List AV)
  | err (line col code : Int)

def lexF : Nat → List UInt8 → Int → Int → List AV → LexR
  | 0, _, _, _, _ => .err 0 0 0
  | _ + 1, [], line, col, acc => .ok (acc ++ [pieceA 0 [] 0 line col])
  | n + 1, c :: t, line, col, acc =>
    if c.toNat == 10 then lexF n t (line + 1) 1 acc else
    if c.toNat == 32 || c.toNat == 9 then lexF n t line (col + 1) acc else
    if c.toNat == 35 then lexF n ((c :: t).drop (spanLen noLf (c :: t))) line (col + spanLen noLf (c :: t)) acc else
    if digitB c then
      match Lib.parseUintB 64 ((c :: t).take (spanLen digitB (c :: t))) with
      | .ok u => lexF n ((c :: t).drop (spanLen digitB (c :: t))) line (col + spanLen digitB (c :: t)) (acc ++ [pieceA 1 ((c :: t).take (spanLen digitB (c :: t))) u line col])
      | _ => .err line col 4
    else
    if letterB c then lexF n ((c :: t).drop (spanLen wordB (c :: t))) line (col + spanLen wordB (c :: t)) (acc ++ [pieceA 2 ((c :: t).take (spanLen wordB (c :: t))) 0 line col]) else
    if signN (c :: t) = 0 then .err line col 3 else
    lexF n ((c :: t).drop (signN (c :: t))) line (col + signN (c :: t)) (acc ++ [pieceA 3 ((c :: t).take (signN (c :: t))) 0 line col])

/-- What a run's results say. -/
def LexOut (r : LexR) (env : Env) (σ : Store) : Prop :=
  match r with
  | .ok l => ∃ cap, env = [(2, .sl 5 l cap), (3, .bp 1 0), (4, .int .i64 0)] ∧ σ[1]? = some (.cells [.int .i64 0, .int .i64 0] (some 53))
  | .err line col code => env = [(2, .sl 5 [] .exact), (3, .bp 1 0), (4, .int .i64 code)] ∧ σ[1]? = some (.cells [.int .i64 line, .int .i64 col] (some 53))

structure LexCalls (call : CallA) : Prop where
  take : Take call
  lf : Run call 58 noLf
  digits : Run call 59 digitB
  word : Run call 62 wordB
  digit : Digit call
  letter : Letter call
  parse : Parse call
  sign : Sign call

theorem spanLen_pos {p : UInt8 → Bool} {c : UInt8} {t : List UInt8} (h : p c = true) : 1 ≤ spanLen p (c :: t) := by
  unfold spanLen; rw [List.takeWhile_cons, if_pos h]; simp

theorem take_span (p : UInt8 → Bool) (s : List UInt8) : s.take (spanLen p s) = s.takeWhile p := by
  unfold spanLen
  induction s with
  | nil => rfl
  | cons c t ih =>
    rw [List.takeWhile_cons]
    split
    · simp [ih]
    · simp

theorem parseM_digits : ∀ (l : List UInt8) (M acc : Nat), (∀ c ∈ l, digitB c = true) → (∃ u, Lib.parseUintM M acc l = .ok u) ∨ Lib.parseUintM M acc l = .range
  | [], M, acc, _ => by simp [Lib.parseUintM]
  | c :: r, M, acc, h => by
    have hc := digit_lt (h c (by simp))
    unfold Lib.parseUintM
    rw [if_pos hc]
    split
    · simp
    · split
      · simp
      · exact parseM_digits r _ _ (fun x hx => h x (by simp [hx]))

theorem takeWhile_all (p : UInt8 → Bool) : ∀ (l : List UInt8) (x : UInt8), x ∈ l.takeWhile p → p x = true
  | [], x, h => by simp at h
  | c :: t, x, h => by
    rw [List.takeWhile_cons] at h
    split at h
    · rename_i hc
      rw [List.mem_cons] at h
      rcases h with rfl | h
      · exact hc
      · exact takeWhile_all p t x h
    · simp at h

theorem parse_digits (c : UInt8) (t : List UInt8) (h : digitB c = true) : (∃ u, Lib.parseUintB 64 ((c :: t).take (spanLen digitB (c :: t))) = .ok u) ∨ Lib.parseUintB 64 ((c :: t).take (spanLen digitB (c :: t))) = .range := by
  rw [take_span]
  unfold Lib.parseUintB
  rw [if_neg (by rw [List.takeWhile_cons, if_pos h]; simp)]
  exact parseM_digits _ _ _ (fun x hx => takeWhile_all _ _ x hx)

theorem lex_go (H : LexCalls call) : ∀ (n : Nat) (text : List UInt8) (line col : Int) (rows : List AV) (cap : Cap) (toks : Store) (r0 r1 p0 p1 p2 p3 p4 : AV) (m : Nat),
    text.length < n → text.length + rows.length ≤ 4999 → 0 ≤ line → line + text.length ≤ 5000 → 0 ≤ col → col + text.length ≤ 5000 → OutOk rows cap toks → 2 * text.length < m →
    ∃ env σ', jumpsA (evalCode call (drawA call G) G fuel i26_L2) m (some 0) (lexE (.sl 5 rows cap)) (lexS text (.cells [r0, r1] (some 53)) line col (.cells [p0, p1, p2, p3, p4] (some 61) :: toks)) = some (.ret, env, σ') ∧
      LexOut (lexF n text line col rows) env σ' := by
  intro n
  induction n with
  | zero => intro text line col rows cap toks r0 r1 p0 p1 p2 p3 p4 m h; omega
  | succ n ih =>
    intro text line col rows cap toks r0 r1 p0 p1 p2 p3 p4 m hn hrows hl0 hl hc0 hc ho hm
    obtain ⟨m, rfl⟩ : ∃ m', m = m' + 1 := ⟨m - 1, by omega⟩
    cases text with
    | nil =>
      obtain ⟨cap', σ', h1, h2⟩ := lex_end (call := call) (draw := drawA call G) (G := G) (fuel := fuel) rows cap r0 r1 line col p0 p1 p2 p3 p4 toks ho (by simp at hrows; omega)
      refine ⟨_, σ', ?_, cap', rfl, h2⟩
      rw [jumpsA_succ, h1]
    | cons c t =>
      simp only [List.length_cons] at hn hrows hl hc hm
      have hlt : t.length < 5000 := by omega
      simp only [lexF]
      -- a step and the rest
      have goOn : ∀ (text' : List UInt8) (line' col' : Int) (rows' : List AV) (cap' : Cap) (toks' : Store) (x0 x1 x2 x3 x4 : AV),
          evalCode call (drawA call G) G fuel i26_L2 (some 0) (lexE (.sl 5 rows cap)) (lexS (c :: t) (.cells [r0, r1] (some 53)) line col (.cells [p0, p1, p2, p3, p4] (some 61) :: toks)) = some (.goto 0, lexE (.sl 5 rows' cap'), lexS text' (.cells [r0, r1] (some 53)) line' col' (.cells [x0, x1, x2, x3, x4] (some 61) :: toks')) →
          text'.length ≤ t.length → text'.length + rows'.length ≤ 4999 → 0 ≤ line' → line' + text'.length ≤ 5000 → 0 ≤ col' → col' + text'.length ≤ 5000 → OutOk rows' cap' toks' →
          ∃ env σ', jumpsA (evalCode call (drawA call G) G fuel i26_L2) (m + 1) (some 0) (lexE (.sl 5 rows cap)) (lexS (c :: t) (.cells [r0, r1] (some 53)) line col (.cells [p0, p1, p2, p3, p4] (some 61) :: toks)) = some (.ret, env, σ') ∧ LexOut (lexF n text' line' col' rows') env σ' := by
        intro text' line' col' rows' cap' toks' x0 x1 x2 x3 x4 hst h1 h2 h3 h4 h5 h6 h7
        obtain ⟨env, σ', k1, k2⟩ := ih text' line' col' rows' cap' toks' r0 r1 x0 x1 x2 x3 x4 m (by omega) h2 h3 h4 h5 h6 h7 (by omega)
        exact ⟨env, σ', by rw [jumpsA_succ, hst]; exact k1, k2⟩
      -- two steps and the rest
      have goTwo : ∀ (k : Int) (tx : List UInt8) (nn : Int) (sp : Nat), 1 ≤ sp → sp ≤ t.length + 1 →
          evalCode call (drawA call G) G fuel i26_L2 (some 0) (lexE (.sl 5 rows cap)) (lexS (c :: t) (.cells [r0, r1] (some 53)) line col (.cells [p0, p1, p2, p3, p4] (some 61) :: toks)) = some (.goto 1, lexE (.sl 5 rows cap), lexS ((c :: t).drop sp) (.cells [r0, r1] (some 53)) line (col + sp) (pieceO k tx nn line col :: toks)) →
          ∃ env σ', jumpsA (evalCode call (drawA call G) G fuel i26_L2) (m + 1) (some 0) (lexE (.sl 5 rows cap)) (lexS (c :: t) (.cells [r0, r1] (some 53)) line col (.cells [p0, p1, p2, p3, p4] (some 61) :: toks)) = some (.ret, env, σ') ∧ LexOut (lexF n ((c :: t).drop sp) line (col + sp) (rows ++ [pieceA k tx nn line col])) env σ' := by
        intro k tx nn sp hs1 hs2 hst
        obtain ⟨m, rfl⟩ : ∃ m', m = m' + 1 := ⟨m - 1, by omega⟩
        obtain ⟨cap', toks', k1, k2⟩ := lex_put (call := call) (draw := drawA call G) (G := G) (fuel := fuel) rows cap ((c :: t).drop sp) (.cells [r0, r1] (some 53)) line (col + sp) k tx nn line col toks ho (by omega)
        have hlen : ((c :: t).drop sp).length = t.length + 1 - sp := by simp
        obtain ⟨env, σ', q1, q2⟩ := ih ((c :: t).drop sp) line (col + sp) (rows ++ [pieceA k tx nn line col]) cap' toks' r0 r1 (.int .u8 k) (.str tx) (.int .u64 nn) (.int .i64 line) (.int .i64 col) m (by omega) (by simp; omega) hl0 (by omega) (by omega) (by omega) k2 (by omega)
        refine ⟨env, σ', ?_, q2⟩
        rw [jumpsA_succ, hst]
        simp only
        rw [jumpsA_succ, k1]
        exact q1
      by_cases h10 : (c.toNat == 10) = true
      · rw [if_pos h10]
        have : c = 10 := UInt8.toNat_inj.1 (by simpa using h10)
        subst this
        obtain ⟨q0, q1, q2, q3, q4, hst⟩ := lex_lf (call := call) (draw := drawA call G) (G := G) (fuel := fuel) H.take t (.cells [r0, r1] (some 53)) line col p0 p1 p2 p3 p4 toks (.sl 5 rows cap) hlt hl0 (by omega) hc0 (by omega)
        exact goOn t (line + 1) 1 rows cap toks q0 q1 q2 q3 q4 hst (Nat.le_refl _) (by omega) (by omega) (by omega) (by omega) (by omega) ho
      · rw [if_neg h10]
        by_cases hb : (c.toNat == 32 || c.toNat == 9) = true
        · rw [if_pos hb]
          obtain ⟨q0, q1, q2, q3, q4, hst⟩ := lex_blank (call := call) (draw := drawA call G) (G := G) (fuel := fuel) H.take c hb t (.cells [r0, r1] (some 53)) line col p0 p1 p2 p3 p4 toks (.sl 5 rows cap) hlt hc0 (by omega)
          exact goOn t line (col + 1) rows cap toks q0 q1 q2 q3 q4 hst (Nat.le_refl _) (by omega) (by omega) (by omega) (by omega) (by omega) ho
        · rw [if_neg hb]
          by_cases h35 : (c.toNat == 35) = true
          · rw [if_pos h35]
            have : c = 35 := UInt8.toNat_inj.1 (by simpa using h35)
            subst this
            obtain ⟨q0, q1, q2, q3, q4, hst⟩ := lex_hash (call := call) (draw := drawA call G) (G := G) (fuel := fuel) H.take H.lf t (.cells [r0, r1] (some 53)) line col p0 p1 p2 p3 p4 toks (.sl 5 rows cap) hlt hc0 (by omega)
            have s1 : 1 ≤ spanLen noLf (35 :: t) := spanLen_pos (by decide)
            have s2 := spanLen_le noLf (35 :: t)
            simp only [List.length_cons] at s2
            exact goOn _ line _ rows cap toks q0 q1 q2 q3 q4 hst (by simp; omega) (by simp; omega) (by omega) (by simp; omega) (by omega) (by simp; omega) ho
          · rw [if_neg h35]
            by_cases hd : digitB c = true
            · rw [if_pos hd]
              have s1 : 1 ≤ spanLen digitB (c :: t) := spanLen_pos hd
              have s2 := spanLen_le digitB (c :: t)
              simp only [List.length_cons] at s2
              rcases parse_digits c t hd with ⟨u, hp⟩ | hp
              · rw [hp]
                have hst := lex_num (call := call) (draw := drawA call G) (G := G) (fuel := fuel) H.take H.digits H.digit H.parse c hd t (.cells [r0, r1] (some 53)) line col p0 p1 p2 p3 p4 toks (.sl 5 rows cap) hlt hc0 (by omega) u hp
                exact goTwo 1 _ u _ s1 s2 hst
              · rw [hp]
                obtain ⟨σ', hst, h2⟩ := lex_numErr (call := call) (G := G) (fuel := fuel) H.take H.digits H.digit H.parse c hd t r0 r1 line col p0 p1 p2 p3 p4 toks (.sl 5 rows cap) hlt hc0 (by omega) hp
                exact ⟨_, σ', by rw [jumpsA_succ, hst], rfl, h2⟩
            · rw [if_neg hd]
              by_cases hw : letterB c = true
              · rw [if_pos hw]
                have s1 : 1 ≤ spanLen wordB (c :: t) := spanLen_pos (by simp [wordB, hw])
                have s2 := spanLen_le wordB (c :: t)
                simp only [List.length_cons] at s2
                have hst := lex_word (call := call) (draw := drawA call G) (G := G) (fuel := fuel) H.take H.word H.digit H.letter c hw t (.cells [r0, r1] (some 53)) line col p0 p1 p2 p3 p4 toks (.sl 5 rows cap) hlt hc0 (by omega)
                exact goTwo 2 _ 0 _ s1 s2 hst
              · rw [if_neg hw]
                have hoth : other c = true := by
                  simp only [Bool.not_eq_true] at h10 hb h35 hd hw
                  simp only [Bool.or_eq_false_iff] at hb
                  simp [other, h10, hb.1, hb.2, h35, hd, hw]
                by_cases hs : signN (c :: t) = 0
                · rw [if_pos hs]
                  obtain ⟨σ', hst, h2⟩ := lex_signErr (call := call) (G := G) (fuel := fuel) H.digit H.letter H.sign c hoth t r0 r1 line col p0 p1 p2 p3 p4 toks (.sl 5 rows cap) hlt hs
                  exact ⟨_, σ', by rw [jumpsA_succ, hst], rfl, h2⟩
                · rw [if_neg hs]
                  obtain ⟨cap', toks', q0, q1, q2, q3, q4, hst, ho'⟩ := lex_sign (call := call) (draw := drawA call G) (G := G) (fuel := fuel) H.take H.digit H.letter H.sign c hoth t (.cells [r0, r1] (some 53)) line col p0 p1 p2 p3 p4 toks rows cap hlt hc0 (by omega) hs ho (by omega)
                  have s2 := signN_le c t
                  simp only [List.length_cons] at s2
                  exact goOn _ line _ _ cap' toks' q0 q1 q2 q3 q4 hst (by simp; omega) (by simp; omega) (by omega) (by simp; omega) (by omega) (by simp; omega) ho'
end
end Go.Pm
end

section
set_option linter.unusedSimpArgs false
set_option linter.unusedVariables false
set_option linter.unusedSectionVars false
/- The document's lexer: its small functions, its scans. -/
set_option maxRecDepth 100000
set_option linter.unusedSimpArgs false
set_option linter.unusedVariables false
namespace Go.Pm
section
variable {call : CallA} {draw : DrawA} {G : Globals} {fuel : Nat}

theorem u8b {n : Nat} (h : n < 256) : (0 ≤ (n : Int) ∧ (n : Int) < 256) := by omega

/-- word: does a byte begin a word, or go on in one? -/
theorem rword_spec (c : UInt8) (first : Bool) (σ : Store) : evalFn call draw G fuel i65 [.int .u8 c.toNat, .bool first] σ = some (.ret (.bool (letterB c || (!first && digitB c))), σ) := by
  have e1 : ((97 : Int) ≤ (c.toNat : Int)) = (97 ≤ c.toNat) := by simp; omega
  have e2 : ((c.toNat : Int) ≤ 122) = (c.toNat ≤ 122) := by simp; omega
  have e3 : ((48 : Int) ≤ (c.toNat : Int)) = (48 ≤ c.toNat) := by simp; omega
  have e4 : ((c.toNat : Int) ≤ 57) = (c.toNat ≤ 57) := by simp; omega
  cases first <;> by_cases h : 97 ≤ c.toNat <;> by_cases h' : c.toNat ≤ 122 <;> by_cases g : 48 ≤ c.toNat <;> by_cases g' : c.toNat ≤ 57 <;> simp only [evalFn, params, List.length_cons, List.length_nil, Nat.reduceAdd, evalCode, evalOps, guardOk, evalOp, AX.ev, look, putE, val, evs, optEv, binA, intBin, wrapI, unA, callM, keepE_cons, keepE_nil, callC, strips, stripWs, stripW, AV.flatv, flatvs, Nat.reduceEqDiff, if_true, if_false, reduceIte, Int.toNat_natCast, List.append_nil, List.nil_append, List.cons_append, decide_true, decide_false, bft, btf, btt, bff, Bool.false_eq_true, resultsA, oneOrTup, Option.map_some, Option.map_none, Bool.not_true, Bool.not_false, loadAt, storeAt, storeOf, partOf, List.getElem?_cons_zero, List.getElem?_cons_succ, List.set_cons_zero, List.set_cons_succ, AV.cells, AV.isCell, List.all_cons, List.all_nil, Bool.and_true, Bool.and_false, Bool.false_and, Bool.true_and, Bool.and_self, and_true, true_and, and_self, putAt, hasLabel, Bool.or_false, Bool.false_or, Bool.or_true, Bool.true_or, fillA, pickParts, pickSl, strBin, eqA, eqCell, ne_eq, not_true_eq_false, not_false_eq_true, Nat.reduceLeDiff, Nat.reduceLT, Nat.reduceMul, Nat.reduceSub, Nat.zero_add, Nat.add_zero, Option.bind_some, asNat, bounds2, reduceCtorEq, List.take_succ_cons, List.take_zero, List.drop_succ_cons, List.drop_zero, Nat.reduceBEq, List.take_nil, List.drop_nil, Int.reduceLE, Int.reduceLT, Int.reduceToNat, Int.toNat_zero, Int.reduceBEq, Int.le_refl, Nat.le_refl, AV.undef, beq_self_eq_true, bne_self_eq_false, Bool.not_not, Int.lt_irrefl, gt_iff_lt, ge_iff_le, i65, letterB, digitB, e1, e2, e3, e4, h, h', g, g']

/-- Where the byte behind a text stands. -/
def placeF : List UInt8 → Int → Int → Int × Int
  | [], l, c => (l, c)
  | b :: r, l, c => if b.toNat == 10 then placeF r (l + 1) 1 else placeF r l (c + 1)

theorem placeF_append : ∀ (a b : List UInt8) (l c : Int), placeF (a ++ b) l c = placeF b (placeF a l c).1 (placeF a l c).2
  | [], b, l, c => rfl
  | x :: a, b, l, c => by
    rw [List.cons_append, placeF, placeF]
    split
    · exact placeF_append a b _ _
    · exact placeF_append a b _ _

theorem placeF_bound : ∀ (a : List UInt8) (l c : Int), 0 ≤ l → 0 ≤ c → 0 ≤ (placeF a l c).1 ∧ (placeF a l c).1 ≤ l + a.length ∧ 0 ≤ (placeF a l c).2 ∧ (placeF a l c).2 ≤ max c 1 + a.length
  | [], l, c, hl, hc => by simp [placeF]; omega
  | x :: a, l, c, hl, hc => by
    rw [placeF]
    split
    · have := placeF_bound a (l + 1) 1 (by omega) (by omega)
      simp only [List.length_cons]; omega
    · have := placeF_bound a l (c + 1) hl (by omega)
      simp only [List.length_cons]; omega

theorem placeF_start (a : List UInt8) : 0 ≤ (placeF a 1 1).1 ∧ (placeF a 1 1).1 ≤ 1 + a.length ∧ 0 ≤ (placeF a 1 1).2 ∧ (placeF a 1 1).2 ≤ 1 + a.length := by
  have := placeF_bound a 1 1 (by omega) (by omega)
  simpa using this

theorem place_on (s : List UInt8) (at_ n : Nat) (x : AV) (l c : Int) (b : AObj) (hn : n < at_) (ha : at_ ≤ s.length) (hs : s.length ≤ 5000) (hl : 0 ≤ l) (hl2 : l ≤ 10000) (hc : 0 ≤ c) (hc2 : c ≤ 10000) (h : n < s.length) :
    evalCode call draw G fuel i64_L0 none [(0, .str s), (1, .int .i64 at_), (4, x), (5, .bp 1 0), (6, .int .i64 n)] [b, .cells [.int .i64 l, .int .i64 c] (some 53)] =
      some (.normal, [(0, .str s), (1, .int .i64 at_), (4, x), (5, .bp 1 0), (6, .int .i64 (n + 1 : Nat))], [b, .cells [.int .i64 (placeF [s[n]] l c).1, .int .i64 (placeF [s[n]] l c).2] (some 53)]) := by
  have e1 : ((n : Int) < (at_ : Int)) = True := by simp; omega
  have e2 : (0 ≤ (n : Int)) = True := by simp
  have e3 : s[n]? = some s[n] := List.getElem?_eq_getElem h
  have e4 : IntKind.i64.wrap ((n : Int) + 1) = ((n + 1 : Nat) : Int) := by rw [wrap_i64] <;> omega
  have e5 : IntKind.i64.wrap (c + 1) = c + 1 := wrap_i64 (by omega) (by omega)
  have e6 : IntKind.i64.wrap (l + 1) = l + 1 := wrap_i64 (by omega) (by omega)
  have e7 : ((s[n].toNat : Int) == 10) = (s[n].toNat == 10) := u8eq s[n] 10
  cases hb : (s[n].toNat == 10) <;> simp only [evalFn, params, List.length_cons, List.length_nil, Nat.reduceAdd, evalCode, evalOps, guardOk, evalOp, AX.ev, look, putE, val, evs, optEv, binA, intBin, wrapI, unA, callM, keepE_cons, keepE_nil, callC, strips, stripWs, stripW, AV.flatv, flatvs, Nat.reduceEqDiff, if_true, if_false, reduceIte, Int.toNat_natCast, List.append_nil, List.nil_append, List.cons_append, decide_true, decide_false, bft, btf, btt, bff, Bool.false_eq_true, resultsA, oneOrTup, Option.map_some, Option.map_none, Bool.not_true, Bool.not_false, loadAt, storeAt, storeOf, partOf, List.getElem?_cons_zero, List.getElem?_cons_succ, List.set_cons_zero, List.set_cons_succ, AV.cells, AV.isCell, List.all_cons, List.all_nil, Bool.and_true, Bool.and_false, Bool.false_and, Bool.true_and, Bool.and_self, and_true, true_and, and_self, putAt, hasLabel, Bool.or_false, Bool.false_or, Bool.or_true, Bool.true_or, fillA, pickParts, pickSl, strBin, eqA, eqCell, ne_eq, not_true_eq_false, not_false_eq_true, Nat.reduceLeDiff, Nat.reduceLT, Nat.reduceMul, Nat.reduceSub, Nat.zero_add, Nat.add_zero, Option.bind_some, asNat, bounds2, reduceCtorEq, List.take_succ_cons, List.take_zero, List.drop_succ_cons, List.drop_zero, Nat.reduceBEq, List.take_nil, List.drop_nil, Int.reduceLE, Int.reduceLT, Int.reduceToNat, Int.toNat_zero, Int.reduceBEq, Int.le_refl, Nat.le_refl, i64_L0, e1, e2, e3, e4, e5, e6, e7, hb, placeF]

theorem place_off (s : List UInt8) (at_ : Nat) (x : AV) (σ : Store) :
    evalCode call draw G fuel i64_L0 none [(0, .str s), (1, .int .i64 at_), (4, x), (5, .bp 1 0), (6, .int .i64 at_)] σ =
      some (.exit 0, [(0, .str s), (1, .int .i64 at_), (4, x), (5, .bp 1 0), (6, .int .i64 at_), (10, .bool false)], σ) := by
  have e1 : ((at_ : Int) < (at_ : Int)) = False := by simp
  simp only [evalFn, params, List.length_cons, List.length_nil, Nat.reduceAdd, evalCode, evalOps, guardOk, evalOp, AX.ev, look, putE, val, evs, optEv, binA, intBin, wrapI, unA, callM, keepE_cons, keepE_nil, callC, strips, stripWs, stripW, AV.flatv, flatvs, Nat.reduceEqDiff, if_true, if_false, reduceIte, Int.toNat_natCast, List.append_nil, List.nil_append, List.cons_append, decide_true, decide_false, bft, btf, btt, bff, Bool.false_eq_true, resultsA, oneOrTup, Option.map_some, Option.map_none, Bool.not_true, Bool.not_false, loadAt, storeAt, storeOf, partOf, List.getElem?_cons_zero, List.getElem?_cons_succ, List.set_cons_zero, List.set_cons_succ, AV.cells, AV.isCell, List.all_cons, List.all_nil, Bool.and_true, Bool.and_false, Bool.false_and, Bool.true_and, Bool.and_self, and_true, true_and, and_self, putAt, hasLabel, Bool.or_false, Bool.false_or, Bool.or_true, Bool.true_or, fillA, pickParts, pickSl, strBin, eqA, eqCell, ne_eq, not_true_eq_false, not_false_eq_true, Nat.reduceLeDiff, Nat.reduceLT, Nat.reduceMul, Nat.reduceSub, Nat.zero_add, Nat.add_zero, Option.bind_some, asNat, bounds2, reduceCtorEq, List.take_succ_cons, List.take_zero, List.drop_succ_cons, List.drop_zero, Nat.reduceBEq, List.take_nil, List.drop_nil, Int.reduceLE, Int.reduceLT, Int.reduceToNat, Int.toNat_zero, Int.reduceBEq, Int.le_refl, Nat.le_refl, i64_L0, e1]

theorem place_loop (s : List UInt8) (at_ : Nat) (x : AV) (b : AObj) (ha : at_ ≤ s.length) (hs : s.length ≤ 5000) : ∀ (k n f : Nat), at_ - n = k → n ≤ at_ → k < f →
    iterA (evalCode call draw G fuel i64_L0 none) [0, 1, 4, 5, 6] f [(0, .str s), (1, .int .i64 at_), (4, x), (5, .bp 1 0), (6, .int .i64 n)] [b, .cells [.int .i64 (placeF (s.take n) 1 1).1, .int .i64 (placeF (s.take n) 1 1).2] (some 53)] =
      some (.exit 0, [(0, .str s), (1, .int .i64 at_), (4, x), (5, .bp 1 0), (6, .int .i64 at_), (10, .bool false)], [b, .cells [.int .i64 (placeF (s.take at_) 1 1).1, .int .i64 (placeF (s.take at_) 1 1).2] (some 53)]) := by
  intro k
  induction k with
  | zero =>
    intro n f hk hn hf
    obtain rfl : n = at_ := by omega
    obtain ⟨f, rfl⟩ : ∃ f', f = f' + 1 := ⟨f - 1, by omega⟩
    exact iterA_out (by simpa only [keepE_cons, keepE_nil, look, Nat.reduceEqDiff, if_true, if_false, reduceIte] using place_off s n x _) (by simp)
  | succ k ih =>
    intro n f hk hn hf
    obtain ⟨f, rfl⟩ : ∃ f', f = f' + 1 := ⟨f - 1, by omega⟩
    have hlt : n < s.length := by omega
    have hb := placeF_start (s.take n)
    rw [List.length_take] at hb
    have h1 := place_on (call := call) (draw := draw) (G := G) (fuel := fuel) s at_ n x (placeF (s.take n) 1 1).1 (placeF (s.take n) 1 1).2 b (by omega) ha hs (by omega) (by omega) (by omega) (by omega) hlt
    have e : placeF (s.take (n + 1)) 1 1 = placeF [s[n]] (placeF (s.take n) 1 1).1 (placeF (s.take n) 1 1).2 := by
      rw [List.take_succ_eq_append_getElem hlt, placeF_append]
    rw [iterA_normal (by simpa only [keepE_cons, keepE_nil, look, Nat.reduceEqDiff, if_true, if_false, reduceIte] using h1), ← e]
    exact ih (n + 1) f (by omega) (by omega) (by omega)

def placeAV (s : List UInt8) : AV := .agg [.int .i64 (placeF s 1 1).1, .int .i64 (placeF s 1 1).2]

theorem place_spec (s : List UInt8) (n : Nat) (hn : n ≤ s.length) (hs : s.length ≤ 5000) (hf : 5001 < fuel) :
    ∃ σ', evalFn call draw G fuel i64 [.str s, .int .i64 n] [] = some (.ret (placeAV (s.take n)), σ') := by
  have hl := place_loop (call := call) (draw := draw) (G := G) (fuel := fuel) s n (.bp 0 0) (.cells [.int .i64 0, .int .i64 0] (some 53)) hn hs n 0 fuel (by omega) (by omega) (by omega)
  simp only [List.take_zero, placeF, Int.ofNat_zero] at hl
  simp only [evalFn, params, List.length_cons, List.length_nil, Nat.reduceAdd, evalCode, evalOps, guardOk, evalOp, AX.ev, look, putE, val, evs, optEv, binA, intBin, wrapI, unA, callM, keepE_cons, keepE_nil, callC, strips, stripWs, stripW, AV.flatv, flatvs, Nat.reduceEqDiff, if_true, if_false, reduceIte, Int.toNat_natCast, List.append_nil, List.nil_append, List.cons_append, decide_true, decide_false, bft, btf, btt, bff, Bool.false_eq_true, resultsA, oneOrTup, Option.map_some, Option.map_none, Bool.not_true, Bool.not_false, loadAt, storeAt, storeOf, partOf, List.getElem?_cons_zero, List.getElem?_cons_succ, List.set_cons_zero, List.set_cons_succ, AV.cells, AV.isCell, List.all_cons, List.all_nil, Bool.and_true, Bool.and_false, Bool.false_and, Bool.true_and, Bool.and_self, and_true, true_and, and_self, putAt, hasLabel, Bool.or_false, Bool.false_or, Bool.or_true, Bool.true_or, fillA, pickParts, pickSl, strBin, eqA, eqCell, ne_eq, not_true_eq_false, not_false_eq_true, Nat.reduceLeDiff, Nat.reduceLT, Nat.reduceMul, Nat.reduceSub, Nat.zero_add, Nat.add_zero, Option.bind_some, asNat, bounds2, reduceCtorEq, List.take_succ_cons, List.take_zero, List.drop_succ_cons, List.drop_zero, Nat.reduceBEq, List.take_nil, List.drop_nil, Int.reduceLE, Int.reduceLT, Int.reduceToNat, Int.toNat_zero, Int.reduceBEq, Int.le_refl, Nat.le_refl, i64, hl, placeAV]
  exact ⟨_, rfl⟩
end
end Go.Pm
end

section
set_option linter.unusedSimpArgs false
set_option linter.unusedVariables false
set_option linter.unusedSectionVars false
/- The document's lexer: a number, its scans. -/
set_option maxRecDepth 100000
set_option linter.unusedSimpArgs false
set_option linter.unusedVariables false
namespace Go.Pm
section
variable {call : CallA} {draw : DrawA} {G : Globals} {fuel : Nat}

theorem num_on (s : List UInt8) (n acc : Nat) (σ : Store) (hs : s.length ≤ 5000) (h : n < s.length) (hd : digitB s[n] = true) (ha : acc ≤ (18446744073709551615 - (s[n].toNat - 48)) / 10) :
    evalCode call draw G fuel i66_L0 none [(0, .str s), (4, .int .u64 acc), (5, .int .i64 n)] σ = some (.normal, [(0, .str s), (4, .int .u64 (acc * 10 + (s[n].toNat - 48) : Nat)), (5, .int .i64 (n + 1 : Nat))], σ) := by
  have hd2 := digit_lt hd
  have e1 : ((n : Int) < (s.length : Int)) = True := by simp; omega
  have e2 : (0 ≤ (n : Int)) = True := by simp
  have e3 : s[n]? = some s[n] := List.getElem?_eq_getElem h
  have e4 : IntKind.i64.wrap ((n : Int) + 1) = ((n + 1 : Nat) : Int) := by rw [wrap_i64] <;> omega
  have e5 : IntKind.u8.wrap ((s[n].toNat : Int) - 48) = ((s[n].toNat - 48 : Nat) : Int) := by rw [wrap_u8] <;> omega
  have e6 : IntKind.u64.wrap ((s[n].toNat - 48 : Nat) : Int) = ((s[n].toNat - 48 : Nat) : Int) := by rw [wrap_u64] <;> omega
  have e7 : IntKind.u64.wrap (18446744073709551615 - ((s[n].toNat - 48 : Nat) : Int)) = ((18446744073709551615 - (s[n].toNat - 48) : Nat) : Int) := by rw [wrap_u64] <;> omega
  have e8 : ((18446744073709551615 - (s[n].toNat - 48) : Nat) : Int).tdiv 10 = (((18446744073709551615 - (s[n].toNat - 48)) / 10 : Nat) : Int) := (Int.ofNat_tdiv _ 10).symm
  have e9 : IntKind.u64.wrap (((18446744073709551615 - (s[n].toNat - 48)) / 10 : Nat) : Int) = (((18446744073709551615 - (s[n].toNat - 48)) / 10 : Nat) : Int) := by rw [wrap_u64] <;> omega
  have e10 : ((((18446744073709551615 - (s[n].toNat - 48)) / 10 : Nat) : Int) < (acc : Int)) = False := by simp; omega
  have e11 : IntKind.u64.wrap (10 * (acc : Int)) = ((10 * acc : Nat) : Int) := by rw [wrap_u64] <;> omega
  have e12 : IntKind.u64.wrap (((10 * acc : Nat) : Int) + ((s[n].toNat - 48 : Nat) : Int)) = ((acc * 10 + (s[n].toNat - 48) : Nat) : Int) := by rw [wrap_u64] <;> omega
  have e13 : ((10 : Int) = 0) = False := by simp
  simp only [evalFn, params, List.length_cons, List.length_nil, Nat.reduceAdd, evalCode, evalOps, guardOk, evalOp, AX.ev, look, putE, val, evs, optEv, binA, intBin, wrapI, unA, callM, keepE_cons, keepE_nil, callC, strips, stripWs, stripW, AV.flatv, flatvs, Nat.reduceEqDiff, if_true, if_false, reduceIte, Int.toNat_natCast, List.append_nil, List.nil_append, List.cons_append, decide_true, decide_false, bft, btf, btt, bff, Bool.false_eq_true, resultsA, oneOrTup, Option.map_some, Option.map_none, Bool.not_true, Bool.not_false, loadAt, storeAt, storeOf, partOf, List.getElem?_cons_zero, List.getElem?_cons_succ, List.set_cons_zero, List.set_cons_succ, AV.cells, AV.isCell, List.all_cons, List.all_nil, Bool.and_true, Bool.and_false, Bool.false_and, Bool.true_and, Bool.and_self, and_true, true_and, and_self, putAt, hasLabel, Bool.or_false, Bool.false_or, Bool.or_true, Bool.true_or, fillA, pickParts, pickSl, strBin, eqA, eqCell, ne_eq, not_true_eq_false, not_false_eq_true, Nat.reduceLeDiff, Nat.reduceLT, Nat.reduceMul, Nat.reduceSub, Nat.zero_add, Nat.add_zero, Option.bind_some, asNat, bounds2, reduceCtorEq, List.take_succ_cons, List.take_zero, List.drop_succ_cons, List.drop_zero, Nat.reduceBEq, List.take_nil, List.drop_nil, Int.reduceLE, Int.reduceLT, Int.reduceToNat, Int.toNat_zero, Int.reduceBEq, Int.le_refl, Nat.le_refl, AV.undef, beq_self_eq_true, bne_self_eq_false, Bool.not_not, Int.lt_irrefl, gt_iff_lt, ge_iff_le, i66_L0, e1, e2, e3, e4, e5, e6, e7, e8, e9, e10, e11, e12, e13]

theorem num_over (s : List UInt8) (n acc : Nat) (σ : Store) (hs : s.length ≤ 5000) (h : n < s.length) (hd : digitB s[n] = true) (ha : (18446744073709551615 - (s[n].toNat - 48)) / 10 < acc) :
    evalCode call draw G fuel i66_L0 none [(0, .str s), (4, .int .u64 acc), (5, .int .i64 n)] σ = some (.ret, [(2, .int .u64 0), (3, .bool false)], σ) := by
  have hd2 := digit_lt hd
  have e1 : ((n : Int) < (s.length : Int)) = True := by simp; omega
  have e2 : (0 ≤ (n : Int)) = True := by simp
  have e3 : s[n]? = some s[n] := List.getElem?_eq_getElem h
  have e5 : IntKind.u8.wrap ((s[n].toNat : Int) - 48) = ((s[n].toNat - 48 : Nat) : Int) := by rw [wrap_u8] <;> omega
  have e6 : IntKind.u64.wrap ((s[n].toNat - 48 : Nat) : Int) = ((s[n].toNat - 48 : Nat) : Int) := by rw [wrap_u64] <;> omega
  have e7 : IntKind.u64.wrap (18446744073709551615 - ((s[n].toNat - 48 : Nat) : Int)) = ((18446744073709551615 - (s[n].toNat - 48) : Nat) : Int) := by rw [wrap_u64] <;> omega
  have e8 : ((18446744073709551615 - (s[n].toNat - 48) : Nat) : Int).tdiv 10 = (((18446744073709551615 - (s[n].toNat - 48)) / 10 : Nat) : Int) := (Int.ofNat_tdiv _ 10).symm
  have e9 : IntKind.u64.wrap (((18446744073709551615 - (s[n].toNat - 48)) / 10 : Nat) : Int) = (((18446744073709551615 - (s[n].toNat - 48)) / 10 : Nat) : Int) := by rw [wrap_u64] <;> omega
  have e10 : ((((18446744073709551615 - (s[n].toNat - 48)) / 10 : Nat) : Int) < (acc : Int)) = True := by simp; omega
  have e13 : ((10 : Int) = 0) = False := by simp
  simp only [evalFn, params, List.length_cons, List.length_nil, Nat.reduceAdd, evalCode, evalOps, guardOk, evalOp, AX.ev, look, putE, val, evs, optEv, binA, intBin, wrapI, unA, callM, keepE_cons, keepE_nil, callC, strips, stripWs, stripW, AV.flatv, flatvs, Nat.reduceEqDiff, if_true, if_false, reduceIte, Int.toNat_natCast, List.append_nil, List.nil_append, List.cons_append, decide_true, decide_false, bft, btf, btt, bff, Bool.false_eq_true, resultsA, oneOrTup, Option.map_some, Option.map_none, Bool.not_true, Bool.not_false, loadAt, storeAt, storeOf, partOf, List.getElem?_cons_zero, List.getElem?_cons_succ, List.set_cons_zero, List.set_cons_succ, AV.cells, AV.isCell, List.all_cons, List.all_nil, Bool.and_true, Bool.and_false, Bool.false_and, Bool.true_and, Bool.and_self, and_true, true_and, and_self, putAt, hasLabel, Bool.or_false, Bool.false_or, Bool.or_true, Bool.true_or, fillA, pickParts, pickSl, strBin, eqA, eqCell, ne_eq, not_true_eq_false, not_false_eq_true, Nat.reduceLeDiff, Nat.reduceLT, Nat.reduceMul, Nat.reduceSub, Nat.zero_add, Nat.add_zero, Option.bind_some, asNat, bounds2, reduceCtorEq, List.take_succ_cons, List.take_zero, List.drop_succ_cons, List.drop_zero, Nat.reduceBEq, List.take_nil, List.drop_nil, Int.reduceLE, Int.reduceLT, Int.reduceToNat, Int.toNat_zero, Int.reduceBEq, Int.le_refl, Nat.le_refl, AV.undef, beq_self_eq_true, bne_self_eq_false, Bool.not_not, Int.lt_irrefl, gt_iff_lt, ge_iff_le, i66_L0, e1, e2, e3, e5, e6, e7, e8, e9, e10, e13]

theorem num_off (s : List UInt8) (x : AV) (σ : Store) :
    evalCode call draw G fuel i66_L0 none [(0, .str s), (4, x), (5, .int .i64 s.length)] σ = some (.exit 0, [(0, .str s), (4, x), (5, .int .i64 s.length), (10, .bool false)], σ) := by
  have e1 : ((s.length : Int) < (s.length : Int)) = False := by simp
  simp only [evalFn, params, List.length_cons, List.length_nil, Nat.reduceAdd, evalCode, evalOps, guardOk, evalOp, AX.ev, look, putE, val, evs, optEv, binA, intBin, wrapI, unA, callM, keepE_cons, keepE_nil, callC, strips, stripWs, stripW, AV.flatv, flatvs, Nat.reduceEqDiff, if_true, if_false, reduceIte, Int.toNat_natCast, List.append_nil, List.nil_append, List.cons_append, decide_true, decide_false, bft, btf, btt, bff, Bool.false_eq_true, resultsA, oneOrTup, Option.map_some, Option.map_none, Bool.not_true, Bool.not_false, loadAt, storeAt, storeOf, partOf, List.getElem?_cons_zero, List.getElem?_cons_succ, List.set_cons_zero, List.set_cons_succ, AV.cells, AV.isCell, List.all_cons, List.all_nil, Bool.and_true, Bool.and_false, Bool.false_and, Bool.true_and, Bool.and_self, and_true, true_and, and_self, putAt, hasLabel, Bool.or_false, Bool.false_or, Bool.or_true, Bool.true_or, fillA, pickParts, pickSl, strBin, eqA, eqCell, ne_eq, not_true_eq_false, not_false_eq_true, Nat.reduceLeDiff, Nat.reduceLT, Nat.reduceMul, Nat.reduceSub, Nat.zero_add, Nat.add_zero, Option.bind_some, asNat, bounds2, reduceCtorEq, List.take_succ_cons, List.take_zero, List.drop_succ_cons, List.drop_zero, Nat.reduceBEq, List.take_nil, List.drop_nil, Int.reduceLE, Int.reduceLT, Int.reduceToNat, Int.toNat_zero, Int.reduceBEq, Int.le_refl, Nat.le_refl, AV.undef, beq_self_eq_true, bne_self_eq_false, Bool.not_not, Int.lt_irrefl, gt_iff_lt, ge_iff_le, i66_L0, e1]

theorem num_loop (s : List UInt8) (σ : Store) (hs : s.length ≤ 5000) (hd : ∀ c ∈ s, digitB c = true) : ∀ (k n acc f : Nat), s.length - n = k → n ≤ s.length → k < f →
    (∀ u, Lib.parseUintM 18446744073709551615 acc (s.drop n) = .ok u → iterA (evalCode call draw G fuel i66_L0 none) [0, 4, 5] f [(0, .str s), (4, .int .u64 acc), (5, .int .i64 n)] σ = some (.exit 0, [(0, .str s), (4, .int .u64 u), (5, .int .i64 s.length), (10, .bool false)], σ)) ∧
    (Lib.parseUintM 18446744073709551615 acc (s.drop n) = .range → iterA (evalCode call draw G fuel i66_L0 none) [0, 4, 5] f [(0, .str s), (4, .int .u64 acc), (5, .int .i64 n)] σ = some (.ret, [(2, .int .u64 0), (3, .bool false)], σ)) := by
  intro k
  induction k with
  | zero =>
    intro n acc f hk hn hf
    obtain rfl : n = s.length := by omega
    obtain ⟨f, rfl⟩ : ∃ f', f = f' + 1 := ⟨f - 1, by omega⟩
    rw [List.drop_length]
    constructor
    · intro u hu
      simp only [Lib.parseUintM, Lib.NumEnd.ok.injEq] at hu
      subst hu
      exact iterA_out (by simpa only [keepE_cons, keepE_nil, look, Nat.reduceEqDiff, if_true, if_false, reduceIte] using num_off s _ σ) (by simp)
    · intro hu; simp [Lib.parseUintM] at hu
  | succ k ih =>
    intro n acc f hk hn hf
    obtain ⟨f, rfl⟩ : ∃ f', f = f' + 1 := ⟨f - 1, by omega⟩
    have hlt : n < s.length := by omega
    have hdn := hd s[n] (List.getElem_mem hlt)
    have hd2 := digit_lt hdn
    rw [List.drop_eq_getElem_cons hlt, Lib.parseUintM, if_pos hd2]
    by_cases ha : acc ≤ (18446744073709551615 - (s[n].toNat - 48)) / 10
    · rw [if_neg (by omega), if_neg (by omega)]
      have h1 := num_on (call := call) (draw := draw) (G := G) (fuel := fuel) s n acc σ hs hlt hdn ha
      rw [iterA_normal (by simpa only [keepE_cons, keepE_nil, look, Nat.reduceEqDiff, if_true, if_false, reduceIte] using h1)]
      exact ih (n + 1) _ f (by omega) (by omega) (by omega)
    · have h1 := num_over (call := call) (draw := draw) (G := G) (fuel := fuel) s n acc σ hs hlt hdn (by omega)
      have h2 := iterA_out (n := f) (keep := [0, 4, 5]) (env := [(0, .str s), (4, .int .u64 acc), (5, .int .i64 n)]) (f := evalCode call draw G fuel i66_L0 none) (by simpa only [keepE_cons, keepE_nil, look, Nat.reduceEqDiff, if_true, if_false, reduceIte] using h1) (by simp)
      constructor
      · intro u hu
        split at hu
        · cases hu
        · rw [if_pos (by omega)] at hu; cases hu
      · intro _; exact h2

theorem number_spec (c : UInt8) (t : List UInt8) (σ : Store) (hs : (c :: t).length ≤ 5000) (hd : ∀ x ∈ c :: t, digitB x = true) (hf : 5001 < fuel) :
    (∀ u, Lib.parseUintB 64 (c :: t) = .ok u → evalFn call draw G fuel i66 [.str (c :: t)] σ = some (.ret (.tup [.int .u64 u, .bool true]), σ)) ∧
    (Lib.parseUintB 64 (c :: t) = .range → evalFn call draw G fuel i66 [.str (c :: t)] σ = some (.ret (.tup [.int .u64 0, .bool false]), σ)) := by
  have hl := num_loop (call := call) (draw := draw) (G := G) (fuel := fuel) (c :: t) σ hs hd _ 0 0 fuel rfl (by omega) (by omega)
  simp only [List.drop_zero, Int.ofNat_zero, Int.natCast_zero] at hl
  unfold Lib.parseUintB
  rw [if_neg (by simp)]
  constructor
  · intro u hu
    have := hl.1 u hu
    simp only [evalFn, params, List.length_cons, List.length_nil, Nat.reduceAdd, evalCode, evalOps, guardOk, evalOp, AX.ev, look, putE, val, evs, optEv, binA, intBin, wrapI, unA, callM, keepE_cons, keepE_nil, callC, strips, stripWs, stripW, AV.flatv, flatvs, Nat.reduceEqDiff, if_true, if_false, reduceIte, Int.toNat_natCast, List.append_nil, List.nil_append, List.cons_append, decide_true, decide_false, bft, btf, btt, bff, Bool.false_eq_true, resultsA, oneOrTup, Option.map_some, Option.map_none, Bool.not_true, Bool.not_false, loadAt, storeAt, storeOf, partOf, List.getElem?_cons_zero, List.getElem?_cons_succ, List.set_cons_zero, List.set_cons_succ, AV.cells, AV.isCell, List.all_cons, List.all_nil, Bool.and_true, Bool.and_false, Bool.false_and, Bool.true_and, Bool.and_self, and_true, true_and, and_self, putAt, hasLabel, Bool.or_false, Bool.false_or, Bool.or_true, Bool.true_or, fillA, pickParts, pickSl, strBin, eqA, eqCell, ne_eq, not_true_eq_false, not_false_eq_true, Nat.reduceLeDiff, Nat.reduceLT, Nat.reduceMul, Nat.reduceSub, Nat.zero_add, Nat.add_zero, Option.bind_some, asNat, bounds2, reduceCtorEq, List.take_succ_cons, List.take_zero, List.drop_succ_cons, List.drop_zero, Nat.reduceBEq, List.take_nil, List.drop_nil, Int.reduceLE, Int.reduceLT, Int.reduceToNat, Int.toNat_zero, Int.reduceBEq, Int.le_refl, Nat.le_refl, AV.undef, beq_self_eq_true, bne_self_eq_false, Bool.not_not, Int.lt_irrefl, gt_iff_lt, ge_iff_le, i66, this]
  · intro hu
    have := hl.2 hu
    simp only [evalFn, params, List.length_cons, List.length_nil, Nat.reduceAdd, evalCode, evalOps, guardOk, evalOp, AX.ev, look, putE, val, evs, optEv, binA, intBin, wrapI, unA, callM, keepE_cons, keepE_nil, callC, strips, stripWs, stripW, AV.flatv, flatvs, Nat.reduceEqDiff, if_true, if_false, reduceIte, Int.toNat_natCast, List.append_nil, List.nil_append, List.cons_append, decide_true, decide_false, bft, btf, btt, bff, Bool.false_eq_true, resultsA, oneOrTup, Option.map_some, Option.map_none, Bool.not_true, Bool.not_false, loadAt, storeAt, storeOf, partOf, List.getElem?_cons_zero, List.getElem?_cons_succ, List.set_cons_zero, List.set_cons_succ, AV.cells, AV.isCell, List.all_cons, List.all_nil, Bool.and_true, Bool.and_false, Bool.false_and, Bool.true_and, Bool.and_self, and_true, true_and, and_self, putAt, hasLabel, Bool.or_false, Bool.false_or, Bool.or_true, Bool.true_or, fillA, pickParts, pickSl, strBin, eqA, eqCell, ne_eq, not_true_eq_false, not_false_eq_true, Nat.reduceLeDiff, Nat.reduceLT, Nat.reduceMul, Nat.reduceSub, Nat.zero_add, Nat.add_zero, Option.bind_some, asNat, bounds2, reduceCtorEq, List.take_succ_cons, List.take_zero, List.drop_succ_cons, List.drop_zero, Nat.reduceBEq, List.take_nil, List.drop_nil, Int.reduceLE, Int.reduceLT, Int.reduceToNat, Int.toNat_zero, Int.reduceBEq, Int.le_refl, Nat.le_refl, AV.undef, beq_self_eq_true, bne_self_eq_false, Bool.not_not, Int.lt_irrefl, gt_iff_lt, ge_iff_le, i66, this]

/-! ### Scans -/

theorem scan0_on (s : List UInt8) (n : Nat) (x3 x5 : AV) (σ : Store) (hs : s.length ≤ 5000) (h : n < s.length) (hp : noLf s[n] = true) :
    evalCode call draw G fuel i27_L0 none [(0, .str s), (3, x3), (5, x5), (6, .int .i64 n)] σ = some (.normal, [(0, .str s), (3, x3), (5, x5), (6, .int .i64 (n + 1 : Nat))], σ) := by
  have e1 : ((n : Int) < (s.length : Int)) = True := by simp; omega
  have e2 : (0 ≤ (n : Int)) = True := by simp
  have e3 : s[n]? = some s[n] := List.getElem?_eq_getElem h
  have e4 : IntKind.i64.wrap ((n : Int) + 1) = ((n + 1 : Nat) : Int) := by rw [wrap_i64] <;> omega
  have e5 : ((s[n].toNat : Int) != 10) = true := by
    simp only [noLf, Bool.not_eq_true', beq_eq_false_iff_ne] at hp
    simp; omega
  simp only [evalFn, params, List.length_cons, List.length_nil, Nat.reduceAdd, evalCode, evalOps, guardOk, evalOp, AX.ev, look, putE, val, evs, optEv, binA, intBin, wrapI, unA, callM, keepE_cons, keepE_nil, callC, strips, stripWs, stripW, AV.flatv, flatvs, Nat.reduceEqDiff, if_true, if_false, reduceIte, Int.toNat_natCast, List.append_nil, List.nil_append, List.cons_append, decide_true, decide_false, bft, btf, btt, bff, Bool.false_eq_true, resultsA, oneOrTup, Option.map_some, Option.map_none, Bool.not_true, Bool.not_false, loadAt, storeAt, storeOf, partOf, List.getElem?_cons_zero, List.getElem?_cons_succ, List.set_cons_zero, List.set_cons_succ, AV.cells, AV.isCell, List.all_cons, List.all_nil, Bool.and_true, Bool.and_false, Bool.false_and, Bool.true_and, Bool.and_self, and_true, true_and, and_self, putAt, hasLabel, Bool.or_false, Bool.false_or, Bool.or_true, Bool.true_or, fillA, pickParts, pickSl, strBin, eqA, eqCell, ne_eq, not_true_eq_false, not_false_eq_true, Nat.reduceLeDiff, Nat.reduceLT, Nat.reduceMul, Nat.reduceSub, Nat.zero_add, Nat.add_zero, Option.bind_some, asNat, bounds2, reduceCtorEq, List.take_succ_cons, List.take_zero, List.drop_succ_cons, List.drop_zero, Nat.reduceBEq, List.take_nil, List.drop_nil, Int.reduceLE, Int.reduceLT, Int.reduceToNat, Int.toNat_zero, Int.reduceBEq, Int.le_refl, Nat.le_refl, AV.undef, beq_self_eq_true, bne_self_eq_false, Bool.not_not, Int.lt_irrefl, gt_iff_lt, ge_iff_le, i27_L0, e1, e2, e3, e4, e5]

theorem scan0_off (s : List UInt8) (n : Nat) (x3 x5 : AV) (σ : Store) (hn : n ≤ s.length) (hp : ∀ h : n < s.length, noLf s[n] = false) :
    evalCode call draw G fuel i27_L0 none [(0, .str s), (3, x3), (5, x5), (6, .int .i64 n)] σ = some (.exit 2, [(0, .str s), (3, x3), (5, x5), (6, .int .i64 n), (49, .bool false)], σ) := by
  by_cases h : n < s.length
  · have e1 : ((n : Int) < (s.length : Int)) = True := by simp; omega
    have e2 : (0 ≤ (n : Int)) = True := by simp
    have e3 : s[n]? = some s[n] := List.getElem?_eq_getElem h
    have e5 : ((s[n].toNat : Int) != 10) = false := by
      have := hp h
      simp only [noLf, Bool.not_eq_false', beq_iff_eq] at this
      simp [this]
    simp only [evalFn, params, List.length_cons, List.length_nil, Nat.reduceAdd, evalCode, evalOps, guardOk, evalOp, AX.ev, look, putE, val, evs, optEv, binA, intBin, wrapI, unA, callM, keepE_cons, keepE_nil, callC, strips, stripWs, stripW, AV.flatv, flatvs, Nat.reduceEqDiff, if_true, if_false, reduceIte, Int.toNat_natCast, List.append_nil, List.nil_append, List.cons_append, decide_true, decide_false, bft, btf, btt, bff, Bool.false_eq_true, resultsA, oneOrTup, Option.map_some, Option.map_none, Bool.not_true, Bool.not_false, loadAt, storeAt, storeOf, partOf, List.getElem?_cons_zero, List.getElem?_cons_succ, List.set_cons_zero, List.set_cons_succ, AV.cells, AV.isCell, List.all_cons, List.all_nil, Bool.and_true, Bool.and_false, Bool.false_and, Bool.true_and, Bool.and_self, and_true, true_and, and_self, putAt, hasLabel, Bool.or_false, Bool.false_or, Bool.or_true, Bool.true_or, fillA, pickParts, pickSl, strBin, eqA, eqCell, ne_eq, not_true_eq_false, not_false_eq_true, Nat.reduceLeDiff, Nat.reduceLT, Nat.reduceMul, Nat.reduceSub, Nat.zero_add, Nat.add_zero, Option.bind_some, asNat, bounds2, reduceCtorEq, List.take_succ_cons, List.take_zero, List.drop_succ_cons, List.drop_zero, Nat.reduceBEq, List.take_nil, List.drop_nil, Int.reduceLE, Int.reduceLT, Int.reduceToNat, Int.toNat_zero, Int.reduceBEq, Int.le_refl, Nat.le_refl, AV.undef, beq_self_eq_true, bne_self_eq_false, Bool.not_not, Int.lt_irrefl, gt_iff_lt, ge_iff_le, i27_L0, e1, e2, e3, e5]
  · have e1 : ((n : Int) < (s.length : Int)) = False := by simp; omega
    simp only [evalFn, params, List.length_cons, List.length_nil, Nat.reduceAdd, evalCode, evalOps, guardOk, evalOp, AX.ev, look, putE, val, evs, optEv, binA, intBin, wrapI, unA, callM, keepE_cons, keepE_nil, callC, strips, stripWs, stripW, AV.flatv, flatvs, Nat.reduceEqDiff, if_true, if_false, reduceIte, Int.toNat_natCast, List.append_nil, List.nil_append, List.cons_append, decide_true, decide_false, bft, btf, btt, bff, Bool.false_eq_true, resultsA, oneOrTup, Option.map_some, Option.map_none, Bool.not_true, Bool.not_false, loadAt, storeAt, storeOf, partOf, List.getElem?_cons_zero, List.getElem?_cons_succ, List.set_cons_zero, List.set_cons_succ, AV.cells, AV.isCell, List.all_cons, List.all_nil, Bool.and_true, Bool.and_false, Bool.false_and, Bool.true_and, Bool.and_self, and_true, true_and, and_self, putAt, hasLabel, Bool.or_false, Bool.false_or, Bool.or_true, Bool.true_or, fillA, pickParts, pickSl, strBin, eqA, eqCell, ne_eq, not_true_eq_false, not_false_eq_true, Nat.reduceLeDiff, Nat.reduceLT, Nat.reduceMul, Nat.reduceSub, Nat.zero_add, Nat.add_zero, Option.bind_some, asNat, bounds2, reduceCtorEq, List.take_succ_cons, List.take_zero, List.drop_succ_cons, List.drop_zero, Nat.reduceBEq, List.take_nil, List.drop_nil, Int.reduceLE, Int.reduceLT, Int.reduceToNat, Int.toNat_zero, Int.reduceBEq, Int.le_refl, Nat.le_refl, AV.undef, beq_self_eq_true, bne_self_eq_false, Bool.not_not, Int.lt_irrefl, gt_iff_lt, ge_iff_le, i27_L0, e1]

theorem spanLen_on {p : UInt8 → Bool} {s : List UInt8} {n : Nat} (h : n < s.length) (hp : p s[n] = true) : spanLen p (s.drop n) = spanLen p (s.drop (n + 1)) + 1 := by
  unfold spanLen; rw [List.drop_eq_getElem_cons h, List.takeWhile_cons, if_pos hp, List.length_cons]
theorem spanLen_off {p : UInt8 → Bool} {s : List UInt8} {n : Nat} (hp : ∀ h : n < s.length, p s[n] = false) : spanLen p (s.drop n) = 0 := by
  by_cases h : n < s.length
  · unfold spanLen; rw [List.drop_eq_getElem_cons h, List.takeWhile_cons, if_neg (by simp [hp h])]; rfl
  · rw [List.drop_of_length_le (by omega)]; rfl

theorem scan0 (s : List UInt8) (x3 x5 : AV) (σ : Store) (hs : s.length ≤ 5000) : ∀ (k n f : Nat), s.length - n = k → n ≤ s.length → k < f →
    iterA (evalCode call draw G fuel i27_L0 none) [0, 3, 5, 6] f [(0, .str s), (3, x3), (5, x5), (6, .int .i64 n)] σ = some (.exit 2, [(0, .str s), (3, x3), (5, x5), (6, .int .i64 (n + spanLen noLf (s.drop n) : Nat)), (49, .bool false)], σ) := by
  intro k
  induction k with
  | zero =>
    intro n f hk hn hf
    obtain ⟨f, rfl⟩ : ∃ f', f = f' + 1 := ⟨f - 1, by omega⟩
    have hp : ∀ h : n < s.length, noLf s[n] = false := fun h => by omega
    rw [spanLen_off hp, Nat.add_zero n]
    exact iterA_out (by simpa only [keepE_cons, keepE_nil, look, Nat.reduceEqDiff, if_true, if_false, reduceIte] using scan0_off s n x3 x5 σ hn hp) (by simp)
  | succ k ih =>
    intro n f hk hn hf
    obtain ⟨f, rfl⟩ : ∃ f', f = f' + 1 := ⟨f - 1, by omega⟩
    have hlt : n < s.length := by omega
    cases hp : noLf s[n] with
    | true =>
      have h1 := scan0_on (call := call) (draw := draw) (G := G) (fuel := fuel) s n x3 x5 σ hs hlt hp
      rw [iterA_normal (by simpa only [keepE_cons, keepE_nil, look, Nat.reduceEqDiff, if_true, if_false, reduceIte] using h1), ih (n + 1) f (by omega) (by omega) (by omega), spanLen_on hlt hp]
      simp only [Nat.add_assoc, Nat.add_comm 1]
    | false =>
      have hp' : ∀ h : n < s.length, noLf s[n] = false := fun _ => hp
      rw [spanLen_off hp', Nat.add_zero n]
      exact iterA_out (by simpa only [keepE_cons, keepE_nil, look, Nat.reduceEqDiff, if_true, if_false, reduceIte] using scan0_off s n x3 x5 σ hn hp') (by simp)

theorem scan1_on (h65 : ∀ (c : UInt8) (b : Bool) σ, callC call 65 [.int .u8 c.toNat, .bool b] σ = some (.ret (.bool (letterB c || (!b && digitB c))), σ)) (s : List UInt8) (n : Nat) (x3 x5 x6 x9 : AV) (σ : Store) (hs : s.length ≤ 5000) (h : n < s.length) (hp : wordB s[n] = true) :
    evalCode call draw G fuel i27_L1 none [(0, .str s), (3, x3), (5, x5), (6, x6), (8, .int .i64 n), (9, x9)] σ = some (.normal, [(0, .str s), (3, x3), (5, x5), (6, x6), (8, .int .i64 (n + 1 : Nat)), (9, x9)], σ) := by
  have e1 : ((n : Int) < (s.length : Int)) = True := by simp; omega
  have e2 : (0 ≤ (n : Int)) = True := by simp
  have e3 : s[n]? = some s[n] := List.getElem?_eq_getElem h
  have e4 : IntKind.i64.wrap ((n : Int) + 1) = ((n + 1 : Nat) : Int) := by rw [wrap_i64] <;> omega
  have e5 := h65 s[n] false σ
  have e6 : (letterB s[n] || (!false && digitB s[n])) = true := by simpa [wordB] using hp
  rw [e6] at e5
  simp only [evalFn, params, List.length_cons, List.length_nil, Nat.reduceAdd, evalCode, evalOps, guardOk, evalOp, AX.ev, look, putE, val, evs, optEv, binA, intBin, wrapI, unA, callM, keepE_cons, keepE_nil, Nat.reduceEqDiff, if_true, if_false, reduceIte, Int.toNat_natCast, List.append_nil, List.nil_append, List.cons_append, decide_true, decide_false, bft, btf, btt, bff, Bool.false_eq_true, resultsA, oneOrTup, Option.map_some, Option.map_none, Bool.not_true, Bool.not_false, loadAt, storeAt, storeOf, partOf, List.getElem?_cons_zero, List.getElem?_cons_succ, List.set_cons_zero, List.set_cons_succ, AV.cells, AV.isCell, List.all_cons, List.all_nil, Bool.and_true, Bool.and_false, Bool.false_and, Bool.true_and, Bool.and_self, and_true, true_and, and_self, putAt, hasLabel, Bool.or_false, Bool.false_or, Bool.or_true, Bool.true_or, fillA, pickParts, pickSl, strBin, eqA, eqCell, ne_eq, not_true_eq_false, not_false_eq_true, Nat.reduceLeDiff, Nat.reduceLT, Nat.reduceMul, Nat.reduceSub, Nat.zero_add, Nat.add_zero, Option.bind_some, asNat, bounds2, reduceCtorEq, List.take_succ_cons, List.take_zero, List.drop_succ_cons, List.drop_zero, Nat.reduceBEq, List.take_nil, List.drop_nil, Int.reduceLE, Int.reduceLT, Int.reduceToNat, Int.toNat_zero, Int.reduceBEq, Int.le_refl, Nat.le_refl, b2s, srcRow, binA, beq_self_eq_true, bne_self_eq_false, minI, maxI, foldI, Bool.not_not, Int.lt_irrefl, gt_iff_lt, ge_iff_le, List.length_map, AV.undef, i27_L1, e1, e2, e3, e4, e5]

theorem scan1_off (h65 : ∀ (c : UInt8) (b : Bool) σ, callC call 65 [.int .u8 c.toNat, .bool b] σ = some (.ret (.bool (letterB c || (!b && digitB c))), σ)) (s : List UInt8) (n : Nat) (x3 x5 x6 x9 : AV) (σ : Store) (hn : n ≤ s.length) (hp : ∀ h : n < s.length, wordB s[n] = false) :
    evalCode call draw G fuel i27_L1 none [(0, .str s), (3, x3), (5, x5), (6, x6), (8, .int .i64 n), (9, x9)] σ = some (.exit 4, [(0, .str s), (3, x3), (5, x5), (6, x6), (8, .int .i64 n), (9, x9), (67, .bool false)], σ) := by
  by_cases h : n < s.length
  · have e1 : ((n : Int) < (s.length : Int)) = True := by simp; omega
    have e2 : (0 ≤ (n : Int)) = True := by simp
    have e3 : s[n]? = some s[n] := List.getElem?_eq_getElem h
    have e5 := h65 s[n] false σ
    have e6 : (letterB s[n] || (!false && digitB s[n])) = false := by simpa [wordB] using hp h
    rw [e6] at e5
    simp only [evalFn, params, List.length_cons, List.length_nil, Nat.reduceAdd, evalCode, evalOps, guardOk, evalOp, AX.ev, look, putE, val, evs, optEv, binA, intBin, wrapI, unA, callM, keepE_cons, keepE_nil, Nat.reduceEqDiff, if_true, if_false, reduceIte, Int.toNat_natCast, List.append_nil, List.nil_append, List.cons_append, decide_true, decide_false, bft, btf, btt, bff, Bool.false_eq_true, resultsA, oneOrTup, Option.map_some, Option.map_none, Bool.not_true, Bool.not_false, loadAt, storeAt, storeOf, partOf, List.getElem?_cons_zero, List.getElem?_cons_succ, List.set_cons_zero, List.set_cons_succ, AV.cells, AV.isCell, List.all_cons, List.all_nil, Bool.and_true, Bool.and_false, Bool.false_and, Bool.true_and, Bool.and_self, and_true, true_and, and_self, putAt, hasLabel, Bool.or_false, Bool.false_or, Bool.or_true, Bool.true_or, fillA, pickParts, pickSl, strBin, eqA, eqCell, ne_eq, not_true_eq_false, not_false_eq_true, Nat.reduceLeDiff, Nat.reduceLT, Nat.reduceMul, Nat.reduceSub, Nat.zero_add, Nat.add_zero, Option.bind_some, asNat, bounds2, reduceCtorEq, List.take_succ_cons, List.take_zero, List.drop_succ_cons, List.drop_zero, Nat.reduceBEq, List.take_nil, List.drop_nil, Int.reduceLE, Int.reduceLT, Int.reduceToNat, Int.toNat_zero, Int.reduceBEq, Int.le_refl, Nat.le_refl, b2s, srcRow, binA, beq_self_eq_true, bne_self_eq_false, minI, maxI, foldI, Bool.not_not, Int.lt_irrefl, gt_iff_lt, ge_iff_le, List.length_map, AV.undef, i27_L1, e1, e2, e3, e5]
  · have e1 : ((n : Int) < (s.length : Int)) = False := by simp; omega
    simp only [evalFn, params, List.length_cons, List.length_nil, Nat.reduceAdd, evalCode, evalOps, guardOk, evalOp, AX.ev, look, putE, val, evs, optEv, binA, intBin, wrapI, unA, callM, keepE_cons, keepE_nil, Nat.reduceEqDiff, if_true, if_false, reduceIte, Int.toNat_natCast, List.append_nil, List.nil_append, List.cons_append, decide_true, decide_false, bft, btf, btt, bff, Bool.false_eq_true, resultsA, oneOrTup, Option.map_some, Option.map_none, Bool.not_true, Bool.not_false, loadAt, storeAt, storeOf, partOf, List.getElem?_cons_zero, List.getElem?_cons_succ, List.set_cons_zero, List.set_cons_succ, AV.cells, AV.isCell, List.all_cons, List.all_nil, Bool.and_true, Bool.and_false, Bool.false_and, Bool.true_and, Bool.and_self, and_true, true_and, and_self, putAt, hasLabel, Bool.or_false, Bool.false_or, Bool.or_true, Bool.true_or, fillA, pickParts, pickSl, strBin, eqA, eqCell, ne_eq, not_true_eq_false, not_false_eq_true, Nat.reduceLeDiff, Nat.reduceLT, Nat.reduceMul, Nat.reduceSub, Nat.zero_add, Nat.add_zero, Option.bind_some, asNat, bounds2, reduceCtorEq, List.take_succ_cons, List.take_zero, List.drop_succ_cons, List.drop_zero, Nat.reduceBEq, List.take_nil, List.drop_nil, Int.reduceLE, Int.reduceLT, Int.reduceToNat, Int.toNat_zero, Int.reduceBEq, Int.le_refl, Nat.le_refl, b2s, srcRow, binA, beq_self_eq_true, bne_self_eq_false, minI, maxI, foldI, Bool.not_not, Int.lt_irrefl, gt_iff_lt, ge_iff_le, List.length_map, AV.undef, i27_L1, e1]

theorem scan1 (h65 : ∀ (c : UInt8) (b : Bool) σ, callC call 65 [.int .u8 c.toNat, .bool b] σ = some (.ret (.bool (letterB c || (!b && digitB c))), σ)) (s : List UInt8) (x3 x5 x6 x9 : AV) (σ : Store) (hs : s.length ≤ 5000) : ∀ (k n f : Nat), s.length - n = k → n ≤ s.length → k < f →
    iterA (evalCode call draw G fuel i27_L1 none) [0, 3, 5, 6, 8, 9] f [(0, .str s), (3, x3), (5, x5), (6, x6), (8, .int .i64 n), (9, x9)] σ = some (.exit 4, [(0, .str s), (3, x3), (5, x5), (6, x6), (8, .int .i64 (n + spanLen wordB (s.drop n) : Nat)), (9, x9), (67, .bool false)], σ) := by
  intro k
  induction k with
  | zero =>
    intro n f hk hn hf
    obtain ⟨f, rfl⟩ : ∃ f', f = f' + 1 := ⟨f - 1, by omega⟩
    have hp : ∀ h : n < s.length, wordB s[n] = false := fun h => by omega
    rw [spanLen_off hp, Nat.add_zero n]
    exact iterA_out (by simpa only [keepE_cons, keepE_nil, look, Nat.reduceEqDiff, if_true, if_false, reduceIte] using scan1_off h65 s n x3 x5 x6 x9 σ hn hp) (by simp)
  | succ k ih =>
    intro n f hk hn hf
    obtain ⟨f, rfl⟩ : ∃ f', f = f' + 1 := ⟨f - 1, by omega⟩
    have hlt : n < s.length := by omega
    cases hp : wordB s[n] with
    | true =>
      have h1 := scan1_on (draw := draw) (G := G) (fuel := fuel) h65 s n x3 x5 x6 x9 σ hs hlt hp
      rw [iterA_normal (by simpa only [keepE_cons, keepE_nil, look, Nat.reduceEqDiff, if_true, if_false, reduceIte] using h1), ih (n + 1) f (by omega) (by omega) (by omega), spanLen_on hlt hp]
      simp only [Nat.add_assoc, Nat.add_comm 1]
    | false =>
      have hp' : ∀ h : n < s.length, wordB s[n] = false := fun _ => hp
      rw [spanLen_off hp', Nat.add_zero n]
      exact iterA_out (by simpa only [keepE_cons, keepE_nil, look, Nat.reduceEqDiff, if_true, if_false, reduceIte] using scan1_off h65 s n x3 x5 x6 x9 σ hn hp') (by simp)

theorem scan2_on (s : List UInt8) (n : Nat) (x3 x5 x6 x9 : AV) (σ : Store) (hs : s.length ≤ 5000) (h : n < s.length) (hp : digitB s[n] = true) :
    evalCode call draw G fuel i27_L2 none [(0, .str s), (3, x3), (5, x5), (6, x6), (8, .int .i64 n), (9, x9)] σ = some (.normal, [(0, .str s), (3, x3), (5, x5), (6, x6), (8, .int .i64 (n + 1 : Nat)), (9, x9)], σ) := by
  have hd := digit_lt hp
  have e1 : ((n : Int) < (s.length : Int)) = True := by simp; omega
  have e2 : (0 ≤ (n : Int)) = True := by simp
  have e3 : s[n]? = some s[n] := List.getElem?_eq_getElem h
  have e4 : IntKind.i64.wrap ((n : Int) + 1) = ((n + 1 : Nat) : Int) := by rw [wrap_i64] <;> omega
  have e5 : ((48 : Int) ≤ (s[n].toNat : Int)) = True := by simp; omega
  have e6 : ((s[n].toNat : Int) ≤ 57) = True := by simp; omega
  simp only [evalFn, params, List.length_cons, List.length_nil, Nat.reduceAdd, evalCode, evalOps, guardOk, evalOp, AX.ev, look, putE, val, evs, optEv, binA, intBin, wrapI, unA, callM, keepE_cons, keepE_nil, callC, strips, stripWs, stripW, AV.flatv, flatvs, Nat.reduceEqDiff, if_true, if_false, reduceIte, Int.toNat_natCast, List.append_nil, List.nil_append, List.cons_append, decide_true, decide_false, bft, btf, btt, bff, Bool.false_eq_true, resultsA, oneOrTup, Option.map_some, Option.map_none, Bool.not_true, Bool.not_false, loadAt, storeAt, storeOf, partOf, List.getElem?_cons_zero, List.getElem?_cons_succ, List.set_cons_zero, List.set_cons_succ, AV.cells, AV.isCell, List.all_cons, List.all_nil, Bool.and_true, Bool.and_false, Bool.false_and, Bool.true_and, Bool.and_self, and_true, true_and, and_self, putAt, hasLabel, Bool.or_false, Bool.false_or, Bool.or_true, Bool.true_or, fillA, pickParts, pickSl, strBin, eqA, eqCell, ne_eq, not_true_eq_false, not_false_eq_true, Nat.reduceLeDiff, Nat.reduceLT, Nat.reduceMul, Nat.reduceSub, Nat.zero_add, Nat.add_zero, Option.bind_some, asNat, bounds2, reduceCtorEq, List.take_succ_cons, List.take_zero, List.drop_succ_cons, List.drop_zero, Nat.reduceBEq, List.take_nil, List.drop_nil, Int.reduceLE, Int.reduceLT, Int.reduceToNat, Int.toNat_zero, Int.reduceBEq, Int.le_refl, Nat.le_refl, AV.undef, beq_self_eq_true, bne_self_eq_false, Bool.not_not, Int.lt_irrefl, gt_iff_lt, ge_iff_le, i27_L2, e1, e2, e3, e4, e5, e6]

theorem scan2_off (s : List UInt8) (n : Nat) (x3 x5 x6 x9 : AV) (σ : Store) (hn : n ≤ s.length) (hp : ∀ h : n < s.length, digitB s[n] = false) :
    evalCode call draw G fuel i27_L2 none [(0, .str s), (3, x3), (5, x5), (6, x6), (8, .int .i64 n), (9, x9)] σ = some (.exit 6, [(0, .str s), (3, x3), (5, x5), (6, x6), (8, .int .i64 n), (9, x9), (88, .bool false)], σ) := by
  by_cases h : n < s.length
  · have e1 : ((n : Int) < (s.length : Int)) = True := by simp; omega
    have e2 : (0 ≤ (n : Int)) = True := by simp
    have e3 : s[n]? = some s[n] := List.getElem?_eq_getElem h
    have hd := hp h
    have e5 : ((48 : Int) ≤ (s[n].toNat : Int)) = (48 ≤ s[n].toNat) := by simp; omega
    have e6 : ((s[n].toNat : Int) ≤ 57) = (s[n].toNat ≤ 57) := by simp; omega
    by_cases g : 48 ≤ s[n].toNat <;> by_cases g' : s[n].toNat ≤ 57
    · exfalso; simp [digitB, g, g'] at hd
    all_goals simp only [evalFn, params, List.length_cons, List.length_nil, Nat.reduceAdd, evalCode, evalOps, guardOk, evalOp, AX.ev, look, putE, val, evs, optEv, binA, intBin, wrapI, unA, callM, keepE_cons, keepE_nil, callC, strips, stripWs, stripW, AV.flatv, flatvs, Nat.reduceEqDiff, if_true, if_false, reduceIte, Int.toNat_natCast, List.append_nil, List.nil_append, List.cons_append, decide_true, decide_false, bft, btf, btt, bff, Bool.false_eq_true, resultsA, oneOrTup, Option.map_some, Option.map_none, Bool.not_true, Bool.not_false, loadAt, storeAt, storeOf, partOf, List.getElem?_cons_zero, List.getElem?_cons_succ, List.set_cons_zero, List.set_cons_succ, AV.cells, AV.isCell, List.all_cons, List.all_nil, Bool.and_true, Bool.and_false, Bool.false_and, Bool.true_and, Bool.and_self, and_true, true_and, and_self, putAt, hasLabel, Bool.or_false, Bool.false_or, Bool.or_true, Bool.true_or, fillA, pickParts, pickSl, strBin, eqA, eqCell, ne_eq, not_true_eq_false, not_false_eq_true, Nat.reduceLeDiff, Nat.reduceLT, Nat.reduceMul, Nat.reduceSub, Nat.zero_add, Nat.add_zero, Option.bind_some, asNat, bounds2, reduceCtorEq, List.take_succ_cons, List.take_zero, List.drop_succ_cons, List.drop_zero, Nat.reduceBEq, List.take_nil, List.drop_nil, Int.reduceLE, Int.reduceLT, Int.reduceToNat, Int.toNat_zero, Int.reduceBEq, Int.le_refl, Nat.le_refl, AV.undef, beq_self_eq_true, bne_self_eq_false, Bool.not_not, Int.lt_irrefl, gt_iff_lt, ge_iff_le, i27_L2, e1, e2, e3, e5, e6, g, g']
  · have e1 : ((n : Int) < (s.length : Int)) = False := by simp; omega
    simp only [evalFn, params, List.length_cons, List.length_nil, Nat.reduceAdd, evalCode, evalOps, guardOk, evalOp, AX.ev, look, putE, val, evs, optEv, binA, intBin, wrapI, unA, callM, keepE_cons, keepE_nil, callC, strips, stripWs, stripW, AV.flatv, flatvs, Nat.reduceEqDiff, if_true, if_false, reduceIte, Int.toNat_natCast, List.append_nil, List.nil_append, List.cons_append, decide_true, decide_false, bft, btf, btt, bff, Bool.false_eq_true, resultsA, oneOrTup, Option.map_some, Option.map_none, Bool.not_true, Bool.not_false, loadAt, storeAt, storeOf, partOf, List.getElem?_cons_zero, List.getElem?_cons_succ, List.set_cons_zero, List.set_cons_succ, AV.cells, AV.isCell, List.all_cons, List.all_nil, Bool.and_true, Bool.and_false, Bool.false_and, Bool.true_and, Bool.and_self, and_true, true_and, and_self, putAt, hasLabel, Bool.or_false, Bool.false_or, Bool.or_true, Bool.true_or, fillA, pickParts, pickSl, strBin, eqA, eqCell, ne_eq, not_true_eq_false, not_false_eq_true, Nat.reduceLeDiff, Nat.reduceLT, Nat.reduceMul, Nat.reduceSub, Nat.zero_add, Nat.add_zero, Option.bind_some, asNat, bounds2, reduceCtorEq, List.take_succ_cons, List.take_zero, List.drop_succ_cons, List.drop_zero, Nat.reduceBEq, List.take_nil, List.drop_nil, Int.reduceLE, Int.reduceLT, Int.reduceToNat, Int.toNat_zero, Int.reduceBEq, Int.le_refl, Nat.le_refl, AV.undef, beq_self_eq_true, bne_self_eq_false, Bool.not_not, Int.lt_irrefl, gt_iff_lt, ge_iff_le, i27_L2, e1]

theorem scan2 (s : List UInt8) (x3 x5 x6 x9 : AV) (σ : Store) (hs : s.length ≤ 5000) : ∀ (k n f : Nat), s.length - n = k → n ≤ s.length → k < f →
    iterA (evalCode call draw G fuel i27_L2 none) [0, 3, 5, 6, 8, 9] f [(0, .str s), (3, x3), (5, x5), (6, x6), (8, .int .i64 n), (9, x9)] σ = some (.exit 6, [(0, .str s), (3, x3), (5, x5), (6, x6), (8, .int .i64 (n + spanLen digitB (s.drop n) : Nat)), (9, x9), (88, .bool false)], σ) := by
  intro k
  induction k with
  | zero =>
    intro n f hk hn hf
    obtain ⟨f, rfl⟩ : ∃ f', f = f' + 1 := ⟨f - 1, by omega⟩
    have hp : ∀ h : n < s.length, digitB s[n] = false := fun h => by omega
    rw [spanLen_off hp, Nat.add_zero n]
    exact iterA_out (by simpa only [keepE_cons, keepE_nil, look, Nat.reduceEqDiff, if_true, if_false, reduceIte] using scan2_off s n x3 x5 x6 x9 σ hn hp) (by simp)
  | succ k ih =>
    intro n f hk hn hf
    obtain ⟨f, rfl⟩ : ∃ f', f = f' + 1 := ⟨f - 1, by omega⟩
    have hlt : n < s.length := by omega
    cases hp : digitB s[n] with
    | true =>
      have h1 := scan2_on (call := call) (draw := draw) (G := G) (fuel := fuel) s n x3 x5 x6 x9 σ hs hlt hp
      rw [iterA_normal (by simpa only [keepE_cons, keepE_nil, look, Nat.reduceEqDiff, if_true, if_false, reduceIte] using h1), ih (n + 1) f (by omega) (by omega) (by omega), spanLen_on hlt hp]
      simp only [Nat.add_assoc, Nat.add_comm 1]
    | false =>
      have hp' : ∀ h : n < s.length, digitB s[n] = false := fun _ => hp
      rw [spanLen_off hp', Nat.add_zero n]
      exact iterA_out (by simpa only [keepE_cons, keepE_nil, look, Nat.reduceEqDiff, if_true, if_false, reduceIte] using scan2_off s n x3 x5 x6 x9 σ hn hp') (by simp)
end
end Go.Pm
end

section
set_option linter.unusedSimpArgs false
set_option linter.unusedVariables false
set_option linter.unusedSectionVars false
/- The document's lexer: its signs. -/
set_option maxRecDepth 100000
set_option linter.unusedSimpArgs false
set_option linter.unusedVariables false
namespace Go.Pm

def signsL : List (List UInt8) := [[61, 61], [33, 61], [60, 61], [60], [61], [33], [43], [45], [124], [94], [42], [47], [37], [38], [40], [41], [123], [125], [44], [59], [58]]
def signsAV : List AV := signsL.map .str
/-- The first of some texts with which a text begins: its length; 0: none. -/
def findLen : List (List UInt8) → List UInt8 → Nat
  | [], _ => 0
  | t :: r, l => if prefixB t l then t.length else findLen r l

section
variable {call : CallA} {G : Globals} {fuel : Nat}

theorem signs_spec {draw : DrawA} : evalFn call draw G fuel i67 [] [] = some (.ret (.sl 1 signsAV .exact), []) := rfl

theorem prefixB_take : ∀ (t l : List UInt8), prefixB t l = (decide (t.length ≤ l.length) && l.take t.length == t)
  | [], l => by simp [prefixB]
  | a :: t, [] => by simp [prefixB]
  | a :: t, b :: l => by
    rw [prefixB, prefixB_take t l]
    simp only [List.length_cons, List.take_succ_cons, Nat.add_le_add_iff_right]
    by_cases h : a = b
    · subst h
      by_cases h2 : t.length ≤ l.length <;> simp [h2]
    · have h' : (b == a) = false := beq_eq_false_iff_ne.2 fun e => h e.symm
      have h2 : (a == b) = false := beq_eq_false_iff_ne.2 h
      simp [h2, h']

theorem sign_hit (s : List UInt8) (i k : Nat) (t : List UInt8) (x3 x5 x9 : AV) (σ : Store) (hs : s.length ≤ 5000) (hi : i < s.length) (hk : k < 21) (ht : signsAV[k]? = some (.str t)) (htl : t.length ≤ 2) (hp : prefixB t (s.drop i) = true) :
    evalCode call (drawA call G) G fuel i27_L3 none [(0, .str s), (3, x3), (5, x5), (6, .int .i64 i), (8, .int .i64 i), (9, x9), (12, .sl 1 signsAV .no), (13, .int .i64 k)] σ =
      some (.normal, [(0, .str s), (3, x3), (5, x5), (6, .int .i64 i), (8, .int .i64 (i + t.length : Nat)), (9, x9), (12, .sl 1 signsAV .no), (13, .int .i64 (k + 1 : Nat))], σ) := by
  rw [prefixB_take, Bool.and_eq_true, decide_eq_true_eq, beq_iff_eq, List.length_drop] at hp
  obtain ⟨h1, h2⟩ := hp
  have e1 : ((k : Int) < (signsAV.length : Int)) = True := by simp [signsAV, signsL]; omega
  have e2 : IntKind.i64.wrap ((s.length : Int) - (i : Int)) = ((s.length - i : Nat) : Int) := by rw [wrap_i64] <;> omega
  have e3 : (0 ≤ (k : Int)) = True := by simp
  have e4 : ((t.length : Int) ≤ ((s.length - i : Nat) : Int)) = True := by simp; omega
  have e5 : IntKind.i64.wrap ((i : Int) + (t.length : Int)) = ((i + t.length : Nat) : Int) := by rw [wrap_i64] <;> omega
  have e6 : (0 ≤ (i : Int)) = True := by simp
  have e7 : (0 ≤ ((i + t.length : Nat) : Int)) = True := by simp; omega
  have e8 : (((i + t.length : Nat) : Int) ≤ (s.length : Int)) = True := by simp; omega
  have e9 : ((i : Int) ≤ ((i + t.length : Nat) : Int)) = True := by simp; omega
  have e10 : (s.take (i + t.length)).drop i = t := by rw [List.drop_take, Nat.add_sub_cancel_left]; exact h2
  have e11 : IntKind.i64.wrap ((k : Int) + 1) = ((k + 1 : Nat) : Int) := by rw [wrap_i64] <;> omega
  simp only [evalFn, params, List.length_cons, List.length_nil, Nat.reduceAdd, evalCode, evalOps, guardOk, evalOp, AX.ev, look, putE, val, evs, optEv, binA, intBin, wrapI, unA, callM, keepE_cons, keepE_nil, callC, strips, stripWs, stripW, AV.flatv, flatvs, Nat.reduceEqDiff, if_true, if_false, reduceIte, Int.toNat_natCast, List.append_nil, List.nil_append, List.cons_append, decide_true, decide_false, bft, btf, btt, bff, Bool.false_eq_true, resultsA, oneOrTup, Option.map_some, Option.map_none, Bool.not_true, Bool.not_false, loadAt, storeAt, storeOf, partOf, List.getElem?_cons_zero, List.getElem?_cons_succ, List.set_cons_zero, List.set_cons_succ, AV.cells, AV.isCell, List.all_cons, List.all_nil, Bool.and_true, Bool.and_false, Bool.false_and, Bool.true_and, Bool.and_self, and_true, true_and, and_self, putAt, hasLabel, Bool.or_false, Bool.false_or, Bool.or_true, Bool.true_or, fillA, pickParts, pickSl, strBin, eqA, eqCell, ne_eq, not_true_eq_false, not_false_eq_true, Nat.reduceLeDiff, Nat.reduceLT, Nat.reduceMul, Nat.reduceSub, Nat.zero_add, Nat.add_zero, Option.bind_some, asNat, bounds2, reduceCtorEq, List.take_succ_cons, List.take_zero, List.drop_succ_cons, List.drop_zero, Nat.reduceBEq, List.take_nil, List.drop_nil, Int.reduceLE, Int.reduceLT, Int.reduceToNat, Int.toNat_zero, Int.reduceBEq, Int.le_refl, Nat.le_refl, puress, AV.pure, strip, drawA, goD, stepG, stepD, bornD, readsD, births, AOp.births, Eff.app, pairsD, loudsD, loudD, conflict, apart, AOp.shares, List.replicate_zero, List.replicate_succ, List.getD_cons_succ, List.getD_cons_zero, List.contains_cons, List.contains_nil, Bool.not_or, Option.getD_some, Option.getD_none, Nat.reduceBNe, decide_eq_true_eq, Bool.if_false_left, AV.undef, beq_self_eq_true, bne_self_eq_false, Bool.not_not, Int.lt_irrefl, gt_iff_lt, ge_iff_le, i27_L3, e1, e2, e3, e4, e5, e6, e7, e8, e9, e10, e11, ht]

theorem sign_miss (s : List UInt8) (i k : Nat) (t : List UInt8) (x3 x5 x9 : AV) (σ : Store) (hs : s.length ≤ 5000) (hi : i < s.length) (hk : k < 21) (ht : signsAV[k]? = some (.str t)) (htl : t.length ≤ 2) (hp : prefixB t (s.drop i) = false) :
    evalCode call (drawA call G) G fuel i27_L3 none [(0, .str s), (3, x3), (5, x5), (6, .int .i64 i), (8, .int .i64 i), (9, x9), (12, .sl 1 signsAV .no), (13, .int .i64 k)] σ =
      some (.normal, [(0, .str s), (3, x3), (5, x5), (6, .int .i64 i), (8, .int .i64 i), (9, x9), (12, .sl 1 signsAV .no), (13, .int .i64 (k + 1 : Nat))], σ) := by
  rw [prefixB_take, List.length_drop] at hp
  have e1 : ((k : Int) < (signsAV.length : Int)) = True := by simp [signsAV, signsL]; omega
  have e2 : IntKind.i64.wrap ((s.length : Int) - (i : Int)) = ((s.length - i : Nat) : Int) := by rw [wrap_i64] <;> omega
  have e3 : (0 ≤ (k : Int)) = True := by simp
  have e11 : IntKind.i64.wrap ((k : Int) + 1) = ((k + 1 : Nat) : Int) := by rw [wrap_i64] <;> omega
  by_cases h1 : t.length ≤ s.length - i
  · have e4 : ((t.length : Int) ≤ ((s.length - i : Nat) : Int)) = True := by simp; omega
    have e5 : IntKind.i64.wrap ((i : Int) + (t.length : Int)) = ((i + t.length : Nat) : Int) := by rw [wrap_i64] <;> omega
    have e6 : (0 ≤ (i : Int)) = True := by simp
    have e7 : (0 ≤ ((i + t.length : Nat) : Int)) = True := by simp; omega
    have e8 : (((i + t.length : Nat) : Int) ≤ (s.length : Int)) = True := by simp; omega
    have e9 : ((i : Int) ≤ ((i + t.length : Nat) : Int)) = True := by simp; omega
    have e10 : ((s.take (i + t.length)).drop i == t) = false := by
      rw [List.drop_take, Nat.add_sub_cancel_left]
      simpa [h1] using hp
    simp only [evalFn, params, List.length_cons, List.length_nil, Nat.reduceAdd, evalCode, evalOps, guardOk, evalOp, AX.ev, look, putE, val, evs, optEv, binA, intBin, wrapI, unA, callM, keepE_cons, keepE_nil, callC, strips, stripWs, stripW, AV.flatv, flatvs, Nat.reduceEqDiff, if_true, if_false, reduceIte, Int.toNat_natCast, List.append_nil, List.nil_append, List.cons_append, decide_true, decide_false, bft, btf, btt, bff, Bool.false_eq_true, resultsA, oneOrTup, Option.map_some, Option.map_none, Bool.not_true, Bool.not_false, loadAt, storeAt, storeOf, partOf, List.getElem?_cons_zero, List.getElem?_cons_succ, List.set_cons_zero, List.set_cons_succ, AV.cells, AV.isCell, List.all_cons, List.all_nil, Bool.and_true, Bool.and_false, Bool.false_and, Bool.true_and, Bool.and_self, and_true, true_and, and_self, putAt, hasLabel, Bool.or_false, Bool.false_or, Bool.or_true, Bool.true_or, fillA, pickParts, pickSl, strBin, eqA, eqCell, ne_eq, not_true_eq_false, not_false_eq_true, Nat.reduceLeDiff, Nat.reduceLT, Nat.reduceMul, Nat.reduceSub, Nat.zero_add, Nat.add_zero, Option.bind_some, asNat, bounds2, reduceCtorEq, List.take_succ_cons, List.take_zero, List.drop_succ_cons, List.drop_zero, Nat.reduceBEq, List.take_nil, List.drop_nil, Int.reduceLE, Int.reduceLT, Int.reduceToNat, Int.toNat_zero, Int.reduceBEq, Int.le_refl, Nat.le_refl, puress, AV.pure, strip, drawA, goD, stepG, stepD, bornD, readsD, births, AOp.births, Eff.app, pairsD, loudsD, loudD, conflict, apart, AOp.shares, List.replicate_zero, List.replicate_succ, List.getD_cons_succ, List.getD_cons_zero, List.contains_cons, List.contains_nil, Bool.not_or, Option.getD_some, Option.getD_none, Nat.reduceBNe, decide_eq_true_eq, Bool.if_false_left, AV.undef, beq_self_eq_true, bne_self_eq_false, Bool.not_not, Int.lt_irrefl, gt_iff_lt, ge_iff_le, i27_L3, e1, e2, e3, e4, e5, e6, e7, e8, e9, e10, e11, ht]
  · have e4 : ((t.length : Int) ≤ ((s.length - i : Nat) : Int)) = False := by simp; omega
    simp only [evalFn, params, List.length_cons, List.length_nil, Nat.reduceAdd, evalCode, evalOps, guardOk, evalOp, AX.ev, look, putE, val, evs, optEv, binA, intBin, wrapI, unA, callM, keepE_cons, keepE_nil, callC, strips, stripWs, stripW, AV.flatv, flatvs, Nat.reduceEqDiff, if_true, if_false, reduceIte, Int.toNat_natCast, List.append_nil, List.nil_append, List.cons_append, decide_true, decide_false, bft, btf, btt, bff, Bool.false_eq_true, resultsA, oneOrTup, Option.map_some, Option.map_none, Bool.not_true, Bool.not_false, loadAt, storeAt, storeOf, partOf, List.getElem?_cons_zero, List.getElem?_cons_succ, List.set_cons_zero, List.set_cons_succ, AV.cells, AV.isCell, List.all_cons, List.all_nil, Bool.and_true, Bool.and_false, Bool.false_and, Bool.true_and, Bool.and_self, and_true, true_and, and_self, putAt, hasLabel, Bool.or_false, Bool.false_or, Bool.or_true, Bool.true_or, fillA, pickParts, pickSl, strBin, eqA, eqCell, ne_eq, not_true_eq_false, not_false_eq_true, Nat.reduceLeDiff, Nat.reduceLT, Nat.reduceMul, Nat.reduceSub, Nat.zero_add, Nat.add_zero, Option.bind_some, asNat, bounds2, reduceCtorEq, List.take_succ_cons, List.take_zero, List.drop_succ_cons, List.drop_zero, Nat.reduceBEq, List.take_nil, List.drop_nil, Int.reduceLE, Int.reduceLT, Int.reduceToNat, Int.toNat_zero, Int.reduceBEq, Int.le_refl, Nat.le_refl, puress, AV.pure, strip, drawA, goD, stepG, stepD, bornD, readsD, births, AOp.births, Eff.app, pairsD, loudsD, loudD, conflict, apart, AOp.shares, List.replicate_zero, List.replicate_succ, List.getD_cons_succ, List.getD_cons_zero, List.contains_cons, List.contains_nil, Bool.not_or, Option.getD_some, Option.getD_none, Nat.reduceBNe, decide_eq_true_eq, Bool.if_false_left, AV.undef, beq_self_eq_true, bne_self_eq_false, Bool.not_not, Int.lt_irrefl, gt_iff_lt, ge_iff_le, i27_L3, e1, e2, e3, e4, e11, ht]

theorem sign_found (s : List UInt8) (i k e : Nat) (x3 x5 x9 : AV) (σ : Store) (hk : k < 21) (he : e ≠ i) {draw : DrawA} :
    evalCode call draw G fuel i27_L3 none [(0, .str s), (3, x3), (5, x5), (6, .int .i64 i), (8, .int .i64 e), (9, x9), (12, .sl 1 signsAV .no), (13, .int .i64 k)] σ =
      some (.exit 8, [(0, .str s), (3, x3), (5, x5), (6, .int .i64 i), (8, .int .i64 e), (9, x9), (12, .sl 1 signsAV .no), (13, .int .i64 k), (115, .bool false)], σ) := by
  have e1 : ((k : Int) < (signsAV.length : Int)) = True := by simp [signsAV, signsL]; omega
  have e2 : ((e : Int) == (i : Int)) = false := by simp; omega
  simp only [evalFn, params, List.length_cons, List.length_nil, Nat.reduceAdd, evalCode, evalOps, guardOk, evalOp, AX.ev, look, putE, val, evs, optEv, binA, intBin, wrapI, unA, callM, keepE_cons, keepE_nil, callC, strips, stripWs, stripW, AV.flatv, flatvs, Nat.reduceEqDiff, if_true, if_false, reduceIte, Int.toNat_natCast, List.append_nil, List.nil_append, List.cons_append, decide_true, decide_false, bft, btf, btt, bff, Bool.false_eq_true, resultsA, oneOrTup, Option.map_some, Option.map_none, Bool.not_true, Bool.not_false, loadAt, storeAt, storeOf, partOf, List.getElem?_cons_zero, List.getElem?_cons_succ, List.set_cons_zero, List.set_cons_succ, AV.cells, AV.isCell, List.all_cons, List.all_nil, Bool.and_true, Bool.and_false, Bool.false_and, Bool.true_and, Bool.and_self, and_true, true_and, and_self, putAt, hasLabel, Bool.or_false, Bool.false_or, Bool.or_true, Bool.true_or, fillA, pickParts, pickSl, strBin, eqA, eqCell, ne_eq, not_true_eq_false, not_false_eq_true, Nat.reduceLeDiff, Nat.reduceLT, Nat.reduceMul, Nat.reduceSub, Nat.zero_add, Nat.add_zero, Option.bind_some, asNat, bounds2, reduceCtorEq, List.take_succ_cons, List.take_zero, List.drop_succ_cons, List.drop_zero, Nat.reduceBEq, List.take_nil, List.drop_nil, Int.reduceLE, Int.reduceLT, Int.reduceToNat, Int.toNat_zero, Int.reduceBEq, Int.le_refl, Nat.le_refl, AV.undef, beq_self_eq_true, bne_self_eq_false, Bool.not_not, Int.lt_irrefl, gt_iff_lt, ge_iff_le, i27_L3, e1, e2]

theorem sign_out (s : List UInt8) (i e k : Nat) (x3 x5 x9 : AV) (σ : Store) (hk : 21 ≤ k) {draw : DrawA} :
    evalCode call draw G fuel i27_L3 none [(0, .str s), (3, x3), (5, x5), (6, .int .i64 i), (8, .int .i64 e), (9, x9), (12, .sl 1 signsAV .no), (13, .int .i64 k)] σ =
      some (.exit 8, [(0, .str s), (3, x3), (5, x5), (6, .int .i64 i), (8, .int .i64 e), (9, x9), (12, .sl 1 signsAV .no), (13, .int .i64 k), (115, .bool false)], σ) := by
  have e1 : ((k : Int) < (signsAV.length : Int)) = False := by simp [signsAV, signsL]; omega
  simp only [evalFn, params, List.length_cons, List.length_nil, Nat.reduceAdd, evalCode, evalOps, guardOk, evalOp, AX.ev, look, putE, val, evs, optEv, binA, intBin, wrapI, unA, callM, keepE_cons, keepE_nil, callC, strips, stripWs, stripW, AV.flatv, flatvs, Nat.reduceEqDiff, if_true, if_false, reduceIte, Int.toNat_natCast, List.append_nil, List.nil_append, List.cons_append, decide_true, decide_false, bft, btf, btt, bff, Bool.false_eq_true, resultsA, oneOrTup, Option.map_some, Option.map_none, Bool.not_true, Bool.not_false, loadAt, storeAt, storeOf, partOf, List.getElem?_cons_zero, List.getElem?_cons_succ, List.set_cons_zero, List.set_cons_succ, AV.cells, AV.isCell, List.all_cons, List.all_nil, Bool.and_true, Bool.and_false, Bool.false_and, Bool.true_and, Bool.and_self, and_true, true_and, and_self, putAt, hasLabel, Bool.or_false, Bool.false_or, Bool.or_true, Bool.true_or, fillA, pickParts, pickSl, strBin, eqA, eqCell, ne_eq, not_true_eq_false, not_false_eq_true, Nat.reduceLeDiff, Nat.reduceLT, Nat.reduceMul, Nat.reduceSub, Nat.zero_add, Nat.add_zero, Option.bind_some, asNat, bounds2, reduceCtorEq, List.take_succ_cons, List.take_zero, List.drop_succ_cons, List.drop_zero, Nat.reduceBEq, List.take_nil, List.drop_nil, Int.reduceLE, Int.reduceLT, Int.reduceToNat, Int.toNat_zero, Int.reduceBEq, Int.le_refl, Nat.le_refl, AV.undef, beq_self_eq_true, bne_self_eq_false, Bool.not_not, Int.lt_irrefl, gt_iff_lt, ge_iff_le, i27_L3, e1]

theorem signs_loop (s : List UInt8) (i : Nat) (x3 x5 x9 : AV) (σ : Store) (hs : s.length ≤ 5000) (hi : i < s.length) : ∀ (j k f : Nat), k + j = 21 → j + 1 < f →
    ∃ y, iterA (evalCode call (drawA call G) G fuel i27_L3 none) [0, 3, 5, 6, 8, 9, 12, 13] f [(0, .str s), (3, x3), (5, x5), (6, .int .i64 i), (8, .int .i64 i), (9, x9), (12, .sl 1 signsAV .no), (13, .int .i64 k)] σ =
      some (.exit 8, [(0, .str s), (3, x3), (5, x5), (6, .int .i64 i), (8, .int .i64 (i + findLen (signsL.drop k) (s.drop i) : Nat)), (9, x9), (12, .sl 1 signsAV .no), (13, y), (115, .bool false)], σ) := by
  intro j
  induction j with
  | zero =>
    intro k f hk hf
    obtain ⟨f, rfl⟩ : ∃ f', f = f' + 1 := ⟨f - 1, by omega⟩
    refine ⟨.int .i64 k, ?_⟩
    have e : findLen (signsL.drop k) (s.drop i) = 0 := by
      obtain rfl : k = 21 := by omega
      rfl
    rw [e, Nat.add_zero i]
    exact iterA_out (by simpa only [keepE_cons, keepE_nil, look, Nat.reduceEqDiff, if_true, if_false, reduceIte] using sign_out s i i k x3 x5 x9 σ (by omega)) (by simp)
  | succ j ih =>
    intro k f hk hf
    obtain ⟨f, rfl⟩ : ∃ f', f = f' + 1 := ⟨f - 1, by omega⟩
    have hlt : k < signsL.length := by simp [signsL]; omega
    obtain ⟨t, ht⟩ : ∃ t, signsL[k]? = some t := ⟨_, List.getElem?_eq_getElem hlt⟩
    have ht' : signsAV[k]? = some (.str t) := by simp [signsAV, ht]
    have hmem : t ∈ signsL := List.mem_of_getElem? ht
    have hall : ∀ t ∈ signsL, 1 ≤ t.length ∧ t.length ≤ 2 := by decide
    obtain ⟨ht0, ht1⟩ := hall t hmem
    have hd : signsL.drop k = t :: signsL.drop (k + 1) := by
      rw [List.drop_eq_getElem_cons hlt]
      congr 1
      rw [List.getElem?_eq_getElem hlt] at ht
      exact Option.some.inj ht
    rw [hd, findLen]
    cases hp : prefixB t (s.drop i) with
    | true =>
      rw [if_pos rfl]
      have h1 := sign_hit (call := call) (G := G) (fuel := fuel) s i k t x3 x5 x9 σ hs hi (by omega) ht' ht1 hp
      obtain ⟨f, rfl⟩ : ∃ f', f = f' + 1 := ⟨f - 1, by omega⟩
      rw [iterA_normal (by simpa only [keepE_cons, keepE_nil, look, Nat.reduceEqDiff, if_true, if_false, reduceIte] using h1)]
      by_cases h21 : k + 1 < 21
      · exact ⟨.int .i64 (k + 1 : Nat), iterA_out (by simpa only [keepE_cons, keepE_nil, look, Nat.reduceEqDiff, if_true, if_false, reduceIte] using sign_found s i (k + 1) (i + t.length) x3 x5 x9 σ h21 (by omega)) (by simp)⟩
      · exact ⟨.int .i64 (k + 1 : Nat), iterA_out (by simpa only [keepE_cons, keepE_nil, look, Nat.reduceEqDiff, if_true, if_false, reduceIte] using sign_out s i (i + t.length) (k + 1) x3 x5 x9 σ (by omega)) (by simp)⟩
    | false =>
      rw [if_neg (by simp)]
      have h1 := sign_miss (call := call) (G := G) (fuel := fuel) s i k t x3 x5 x9 σ hs hi (by omega) ht' ht1 hp
      rw [iterA_normal (by simpa only [keepE_cons, keepE_nil, look, Nat.reduceEqDiff, if_true, if_false, reduceIte] using h1)]
      exact ih (k + 1) f (by omega) (by omega)
end

/-! ### The program's way to tell a sign, and the document's -/

theorem find_one : ((List.range 256).all fun n => findLen signsL [UInt8.ofNat n] == signN [UInt8.ofNat n]) = true := by kernel_rfl
theorem find_eq : ((List.range 256).all fun n => findLen signsL [UInt8.ofNat n, 61] == signN [UInt8.ofNat n, 61]) = true := by kernel_rfl

theorem prefixB_two (t : List UInt8) (ht : t.length ≤ 2) (a b : UInt8) (r : List UInt8) : prefixB t (a :: b :: r) = prefixB t [a, b] := by
  match t, ht with
  | [], _ => rfl
  | [x], _ => simp [prefixB]
  | [x, y], _ => simp [prefixB]

theorem findLen_congr : ∀ (l : List (List UInt8)) (u v : List UInt8), (∀ t ∈ l, prefixB t u = prefixB t v) → findLen l u = findLen l v
  | [], _, _, _ => rfl
  | t :: r, u, v, h => by
    rw [findLen, findLen, h t (by simp), findLen_congr r u v (fun x hx => h x (by simp [hx]))]

theorem find_sign : ∀ (s : List UInt8), findLen signsL s = signN s
  | [] => rfl
  | [a] => by
    have := List.all_eq_true.1 find_one a.toNat (List.mem_range.2 a.toNat_lt)
    simpa [UInt8.ofNat_toNat] using this
  | a :: b :: r => by
    have hall : ∀ t ∈ signsL, t.length ≤ 2 ∧ (t = [] ∨ t.length = 1 ∨ t[1]? = some 61) := by decide
    rw [findLen_congr signsL (a :: b :: r) [a, b] (fun t ht => prefixB_two t (hall t ht).1 a b r)]
    have hs : signN (a :: b :: r) = signN [a, b] := rfl
    rw [hs]
    by_cases hb : b = 61
    · subst hb
      have := List.all_eq_true.1 find_eq a.toNat (List.mem_range.2 a.toNat_lt)
      simpa [UInt8.ofNat_toNat] using this
    · have hb' : (b.toNat == 61) = false := by
        rw [beq_eq_false_iff_ne]
        intro h
        exact hb (UInt8.toNat_inj.1 (by simpa using h))
      have h1 : signN [a, b] = signN [a] := by simp only [signN, hb', Bool.false_and, Bool.false_eq_true, if_false]
      rw [h1, findLen_congr signsL [a, b] [a] (fun t ht => by
        obtain ⟨k1, k2⟩ := hall t ht
        match t, k1, k2 with
        | [], _, _ => rfl
        | [x], _, _ => simp [prefixB]
        | [x, y], _, k2 =>
          simp at k2
          subst k2
          have : ¬ (61 : UInt8) = b := fun e => hb e.symm
          simp [prefixB, this])]
      have := List.all_eq_true.1 find_one a.toNat (List.mem_range.2 a.toNat_lt)
      simpa [UInt8.ofNat_toNat] using this
end Go.Pm
end

section
set_option linter.unusedSimpArgs false
set_option linter.unusedVariables false
set_option linter.unusedSectionVars false
/- The document's lexer: a round. -/
set_option maxRecDepth 100000
set_option linter.unusedSimpArgs false
set_option linter.unusedVariables false
namespace Go.Pm

def OutOk2 (rows : List AV) (cap : Cap) (σ : Store) : Prop :=
  (cap = .exact ∧ rows = []) ∨ ∃ k, cap = .tok k ∧ σ[k]? = some (.tok 62)

theorem ref_app (rows : List AV) (cap : Cap) (σ : Store) (x : AObj) (a0 b0 : AV) (h0 : σ[0]? = some (.cells [a0, b0] (some 53))) (ho : OutOk2 rows cap σ) (hn : rows.length ≤ 5000) (k : Int) (t : List UInt8) (n line col : Int) :
    ∃ cap' σ', appendA (σ ++ [x]) 62 5 48 (.sl 5 rows cap) (.sl 5 [pieceA k t n line col] .exact) = some (.sl 5 (rows ++ [pieceA k t n line col]) cap', σ') ∧
      OutOk2 (rows ++ [pieceA k t n line col]) cap' σ' ∧ σ'[0]? = some (.cells [a0, b0] (some 53)) := by
  have hb : 2 * (rows.length + 1) * 48 ≤ 281474976710656 := by omega
  have hlt : 0 < σ.length := (List.getElem?_eq_some_iff.1 h0).1
  rcases ho with ⟨rfl, rfl⟩ | ⟨j, rfl, hj⟩
  · refine ⟨.tok (σ ++ [x]).length, σ ++ [x] ++ [.tok 62], ?_, .inr ⟨_, rfl, by simp⟩, ?_⟩
    · simp [appendA, srcRow, rowOk, pieceA, AV.cells, AV.isCell]
    · rw [List.append_assoc, List.getElem?_append_left hlt]; exact h0
  · have hjl := (List.getElem?_eq_some_iff.1 hj).1
    have hg : (σ ++ [x])[j]? = some (.tok 62) := by rw [List.getElem?_append_left hjl]; exact hj
    have hj0 : j ≠ 0 := by rintro rfl; rw [h0] at hj; cases hj
    refine ⟨.tok (σ ++ [x]).length, (σ ++ [x]).set j .dead ++ [.tok 62], ?_, .inr ⟨_, rfl, by simp⟩, ?_⟩
    · simp only [appendA, srcRow, rowOk, pieceA, AV.cells, AV.isCell, hg, List.all_cons, List.all_nil, List.length_cons, List.length_nil, Bool.and_self, Bool.and_true, and_self, if_true, hb, Nat.reduceAdd, Nat.zero_add, beq_self_eq_true, reduceCtorEq, if_false]
    · rw [List.getElem?_append_left (by simp), List.getElem?_set_ne hj0, List.getElem?_append_left hlt]; exact h0

theorem iterA_congr {f : Env → Store → Res} {keep : List Nat} {n : Nat} {env env' : Env} {σ : Store} (h : keepE keep env = keepE keep env') : iterA f keep n env σ = iterA f keep n env' σ := by
  cases n with
  | zero => rfl
  | succ n => rw [iterA_succ, iterA_succ, h]

section
variable {call : CallA} {G : Globals} {fuel : Nat}

structure RefCalls (call : CallA) : Prop where
  place : ∀ (s : List UInt8) (n : Nat) σ, n ≤ s.length → s.length ≤ 4096 → callC call 64 [.str s, .int .i64 n] σ = some (.ret (placeAV (s.take n)), σ)
  word : ∀ (c : UInt8) (b : Bool) σ, callC call 65 [.int .u8 c.toNat, .bool b] σ = some (.ret (.bool (letterB c || (!b && digitB c))), σ)
  num : ∀ (c : UInt8) (t : List UInt8) σ, (c :: t).length ≤ 4096 → (∀ x ∈ c :: t, digitB x = true) →
    (∀ u, Lib.parseUintB 64 (c :: t) = .ok u → callC call 66 [.str (c :: t)] σ = some (.ret (.tup [.int .u64 u, .bool true]), σ)) ∧
    (Lib.parseUintB 64 (c :: t) = .range → callC call 66 [.str (c :: t)] σ = some (.ret (.tup [.int .u64 0, .bool false]), σ))
  signs : ∀ σ, callC call 67 [] σ = some (.ret (.sl 1 signsAV .no), σ)

def rEnv (s : List UInt8) (rows : List AV) (cap : Cap) (i : Nat) : Env := [(0, .str s), (3, .bp 0 0), (5, .sl 5 rows cap), (6, .int .i64 i)]

theorem ref_blank {draw : DrawA} (s : List UInt8) (rows : List AV) (cap : Cap) (i : Nat) (σ : Store) (hs : s.length ≤ 4096) (hi : i < s.length) (hb : (s[i].toNat == 10 || (s[i].toNat == 9 || s[i].toNat == 32)) = true) :
    evalCode call draw G fuel i27_L4 none (rEnv s rows cap i) σ = some (.normal, rEnv s rows cap (i + 1), σ) := by
  have e1 : ((i : Int) < (s.length : Int)) = True := by simp; omega
  have e2 : (0 ≤ (i : Int)) = True := by simp
  have e3 : s[i]? = some s[i] := List.getElem?_eq_getElem hi
  have e4 : IntKind.i64.wrap ((i : Int) + 1) = ((i + 1 : Nat) : Int) := by rw [wrap_i64] <;> omega
  have e10 := u8eq s[i] 10
  have e9 := u8eq s[i] 9
  have e32 := u8eq s[i] 32
  simp only [Int.cast_ofNat_Int] at e10 e9 e32
  cases h10 : (s[i].toNat == 10) <;> cases h9 : (s[i].toNat == 9) <;> cases h32 : (s[i].toNat == 32) <;> rw [h10, h9, h32] at hb <;>
    first | (cases hb; done) | (simp only [evalFn, params, List.length_cons, List.length_nil, Nat.reduceAdd, evalCode, evalOps, guardOk, evalOp, AX.ev, look, putE, val, evs, optEv, binA, intBin, wrapI, unA, callM, keepE_cons, keepE_nil, callC, strips, stripWs, stripW, AV.flatv, flatvs, Nat.reduceEqDiff, if_true, if_false, reduceIte, Int.toNat_natCast, List.append_nil, List.nil_append, List.cons_append, decide_true, decide_false, bft, btf, btt, bff, Bool.false_eq_true, resultsA, oneOrTup, Option.map_some, Option.map_none, Bool.not_true, Bool.not_false, loadAt, storeAt, storeOf, partOf, List.getElem?_cons_zero, List.getElem?_cons_succ, List.set_cons_zero, List.set_cons_succ, AV.cells, AV.isCell, List.all_cons, List.all_nil, Bool.and_true, Bool.and_false, Bool.false_and, Bool.true_and, Bool.and_self, and_true, true_and, and_self, putAt, hasLabel, Bool.or_false, Bool.false_or, Bool.or_true, Bool.true_or, fillA, pickParts, pickSl, strBin, eqA, eqCell, ne_eq, not_true_eq_false, not_false_eq_true, Nat.reduceLeDiff, Nat.reduceLT, Nat.reduceMul, Nat.reduceSub, Nat.zero_add, Nat.add_zero, Option.bind_some, asNat, bounds2, reduceCtorEq, List.take_succ_cons, List.take_zero, List.drop_succ_cons, List.drop_zero, Nat.reduceBEq, List.take_nil, List.drop_nil, Int.reduceLE, Int.reduceLT, Int.reduceToNat, Int.toNat_zero, Int.reduceBEq, Int.le_refl, Nat.le_refl, AV.undef, beq_self_eq_true, bne_self_eq_false, Bool.not_not, Int.lt_irrefl, gt_iff_lt, ge_iff_le, i27_L4, rEnv, e1, e2, e3, e4, e10, e9, e32, h10, h9, h32]; done)

theorem ref_hash {draw : DrawA} (s : List UInt8) (rows : List AV) (cap : Cap) (i : Nat) (σ : Store) (hs : s.length ≤ 4096) (hi : i < s.length) (h35 : s[i].toNat = 35) (hf : 5001 < fuel) :
    evalCode call draw G fuel i27_L4 none (rEnv s rows cap i) σ = some (.normal, rEnv s rows cap (i + spanLen noLf (s.drop i)) ++ [(49, .bool false)], σ) := by
  have e1 : ((i : Int) < (s.length : Int)) = True := by simp; omega
  have e2 : (0 ≤ (i : Int)) = True := by simp
  have e3 : s[i]? = some s[i] := List.getElem?_eq_getElem hi
  have e10 : ((s[i].toNat : Int) == 10) = false := by rw [h35]; rfl
  have e9 : ((s[i].toNat : Int) == 9) = false := by rw [h35]; rfl
  have e32 : ((s[i].toNat : Int) == 32) = false := by rw [h35]; rfl
  have e35 : ((s[i].toNat : Int) == 35) = true := by rw [h35]; rfl
  have hl : ∀ env, keepE [0, 3, 5, 6] env = [(0, .str s), (3, .bp 0 0), (5, .sl 5 rows cap), (6, .int .i64 i)] → _ := fun env he => (iterA_congr (env' := [(0, .str s), (3, .bp 0 0), (5, .sl 5 rows cap), (6, .int .i64 i)]) he).trans (scan0 (call := call) (draw := draw) (G := G) (fuel := fuel) s (.bp 0 0) (.sl 5 rows cap) σ (by omega) _ i fuel rfl (by omega) (by omega))
  simp only [evalFn, params, List.length_cons, List.length_nil, Nat.reduceAdd, evalCode, evalOps, guardOk, evalOp, AX.ev, look, putE, val, evs, optEv, binA, intBin, wrapI, unA, callM, keepE_cons, keepE_nil, callC, strips, stripWs, stripW, AV.flatv, flatvs, Nat.reduceEqDiff, if_true, if_false, reduceIte, Int.toNat_natCast, List.append_nil, List.nil_append, List.cons_append, decide_true, decide_false, bft, btf, btt, bff, Bool.false_eq_true, resultsA, oneOrTup, Option.map_some, Option.map_none, Bool.not_true, Bool.not_false, loadAt, storeAt, storeOf, partOf, List.getElem?_cons_zero, List.getElem?_cons_succ, List.set_cons_zero, List.set_cons_succ, AV.cells, AV.isCell, List.all_cons, List.all_nil, Bool.and_true, Bool.and_false, Bool.false_and, Bool.true_and, Bool.and_self, and_true, true_and, and_self, putAt, hasLabel, Bool.or_false, Bool.false_or, Bool.or_true, Bool.true_or, fillA, pickParts, pickSl, strBin, eqA, eqCell, ne_eq, not_true_eq_false, not_false_eq_true, Nat.reduceLeDiff, Nat.reduceLT, Nat.reduceMul, Nat.reduceSub, Nat.zero_add, Nat.add_zero, Option.bind_some, asNat, bounds2, reduceCtorEq, List.take_succ_cons, List.take_zero, List.drop_succ_cons, List.drop_zero, Nat.reduceBEq, List.take_nil, List.drop_nil, Int.reduceLE, Int.reduceLT, Int.reduceToNat, Int.toNat_zero, Int.reduceBEq, Int.le_refl, Nat.le_refl, AV.undef, beq_self_eq_true, bne_self_eq_false, Bool.not_not, Int.lt_irrefl, gt_iff_lt, ge_iff_le, i27_L4, rEnv, e1, e2, e3, e10, e9, e32, e35, hl]

theorem ref_end {draw : DrawA} (s : List UInt8) (rows : List AV) (cap : Cap) (σ : Store) :
    evalCode call draw G fuel i27_L4 none (rEnv s rows cap s.length) σ = some (.exit 0, [(0, .str s), (3, .bp 0 0), (5, .sl 5 rows cap), (6, .int .i64 s.length), (21, .bool false)], σ) := by
  have e1 : ((s.length : Int) < (s.length : Int)) = False := by simp
  simp only [evalFn, params, List.length_cons, List.length_nil, Nat.reduceAdd, evalCode, evalOps, guardOk, evalOp, AX.ev, look, putE, val, evs, optEv, binA, intBin, wrapI, unA, callM, keepE_cons, keepE_nil, callC, strips, stripWs, stripW, AV.flatv, flatvs, Nat.reduceEqDiff, if_true, if_false, reduceIte, Int.toNat_natCast, List.append_nil, List.nil_append, List.cons_append, decide_true, decide_false, bft, btf, btt, bff, Bool.false_eq_true, resultsA, oneOrTup, Option.map_some, Option.map_none, Bool.not_true, Bool.not_false, loadAt, storeAt, storeOf, partOf, List.getElem?_cons_zero, List.getElem?_cons_succ, List.set_cons_zero, List.set_cons_succ, AV.cells, AV.isCell, List.all_cons, List.all_nil, Bool.and_true, Bool.and_false, Bool.false_and, Bool.true_and, Bool.and_self, and_true, true_and, and_self, putAt, hasLabel, Bool.or_false, Bool.false_or, Bool.or_true, Bool.true_or, fillA, pickParts, pickSl, strBin, eqA, eqCell, ne_eq, not_true_eq_false, not_false_eq_true, Nat.reduceLeDiff, Nat.reduceLT, Nat.reduceMul, Nat.reduceSub, Nat.zero_add, Nat.add_zero, Option.bind_some, asNat, bounds2, reduceCtorEq, List.take_succ_cons, List.take_zero, List.drop_succ_cons, List.drop_zero, Nat.reduceBEq, List.take_nil, List.drop_nil, Int.reduceLE, Int.reduceLT, Int.reduceToNat, Int.toNat_zero, Int.reduceBEq, Int.le_refl, Nat.le_refl, AV.undef, beq_self_eq_true, bne_self_eq_false, Bool.not_not, Int.lt_irrefl, gt_iff_lt, ge_iff_le, i27_L4, rEnv, e1]

theorem notBlank {c : UInt8} (h10 : (c.toNat == 10) = false) (hb : (c.toNat == 32 || c.toNat == 9) = false) (h35 : (c.toNat == 35) = false) :
    ((c.toNat : Int) == 10) = false ∧ ((c.toNat : Int) == 9) = false ∧ ((c.toNat : Int) == 32) = false ∧ ((c.toNat : Int) == 35) = false := by
  rw [Bool.or_eq_false_iff] at hb
  have e10 := u8eq c 10
  have e9 := u8eq c 9
  have e32 := u8eq c 32
  have e35 := u8eq c 35
  simp only [Int.cast_ofNat_Int] at e10 e9 e32 e35
  rw [e10, e9, e32, e35]
  exact ⟨h10, hb.2, hb.1, h35⟩

theorem ref_word (H : RefCalls call) {draw : DrawA} (s : List UInt8) (rows : List AV) (cap : Cap) (i : Nat) (σ : Store) (a0 b0 : AV) (h0 : σ[0]? = some (.cells [a0, b0] (some 53))) (ho : OutOk2 rows cap σ) (hn : rows.length ≤ 5000) (hs : s.length ≤ 4096) (hi : i < s.length) (hf : 5001 < fuel)
    (h10 : (s[i].toNat == 10) = false) (hb : (s[i].toNat == 32 || s[i].toNat == 9) = false) (h35 : (s[i].toNat == 35) = false) (hw : letterB s[i] = true) :
    ∃ cap' σ', evalCode call draw G fuel i27_L4 none (rEnv s rows cap i) σ = some (.normal, rEnv s (rows ++ [pieceA 2 ((s.drop i).take (spanLen wordB (s.drop i))) 0 (placeF (s.take i) 1 1).1 (placeF (s.take i) 1 1).2]) cap' (i + spanLen wordB (s.drop i)), σ') ∧
      OutOk2 (rows ++ [pieceA 2 ((s.drop i).take (spanLen wordB (s.drop i))) 0 (placeF (s.take i) 1 1).1 (placeF (s.take i) 1 1).2]) cap' σ' ∧ σ'[0]? = some (.cells [a0, b0] (some 53)) := by
  have e1 : ((i : Int) < (s.length : Int)) = True := by simp; omega
  have e2 : (0 ≤ (i : Int)) = True := by simp
  have e3 : s[i]? = some s[i] := List.getElem?_eq_getElem hi
  obtain ⟨e10, e9, e32, e35⟩ := notBlank h10 hb h35
  have hp := fun σ => H.place s i σ (by omega) hs
  have hwd := fun σ => H.word s[i] true σ
  have hwt : (letterB s[i] || (!true && digitB s[i])) = true := by simp [hw]
  rw [hwt] at hwd
  have hl : ∀ x9 σ env, keepE [0, 3, 5, 6, 8, 9] env = [(0, .str s), (3, .bp 0 0), (5, .sl 5 rows cap), (6, .int .i64 i), (8, .int .i64 i), (9, x9)] → _ := fun x9 σ env he => (iterA_congr (env' := [(0, .str s), (3, .bp 0 0), (5, .sl 5 rows cap), (6, .int .i64 i), (8, .int .i64 i), (9, x9)]) he).trans (scan1 (draw := draw) (G := G) (fuel := fuel) H.word s (.bp 0 0) (.sl 5 rows cap) (.int .i64 i) x9 σ (by omega) _ i fuel rfl (by omega) (by omega))
  have hl := fun τ => hl (.bp σ.length 0) τ
  have hle := spanLen_le wordB (s.drop i)
  rw [List.length_drop] at hle
  generalize hk : spanLen wordB (s.drop i) = k at *
  have e4 : ((i : Int) ≤ ((i + k : Nat) : Int)) = True := by simp; omega
  have e5 : (((i + k : Nat) : Int) ≤ (s.length : Int)) = True := by simp; omega
  have e6 : (0 ≤ ((i + k : Nat) : Int)) = True := by simp; omega
  have e7 : (s.take (i + k)).drop i = (s.drop i).take k := by rw [List.drop_take, Nat.add_sub_cancel_left]
  have g1 : ∀ x : AObj, (σ ++ [x])[σ.length]? = some x := fun x => by simp
  have g2 : ∀ x y : AObj, (σ ++ [x]).set σ.length y = σ ++ [y] := fun x y => by simp
  obtain ⟨cap', σ', k1, k2, k3⟩ := ref_app rows cap σ (.cells [.int .u8 2, .str ((s.drop i).take k), .int .u64 0, .int .i64 (placeF (s.take i) 1 1).1, .int .i64 (placeF (s.take i) 1 1).2] (some 62)) a0 b0 h0 ho hn 2 ((s.drop i).take k) 0 (placeF (s.take i) 1 1).1 (placeF (s.take i) 1 1).2
  refine ⟨cap', σ', ?_, k2, k3⟩
  simp only [pieceA] at k1 ⊢
  simp only [placeAV] at hp
  simp only [evalFn, params, List.length_cons, List.length_nil, Nat.reduceAdd, evalCode, evalOps, guardOk, evalOp, AX.ev, look, putE, val, evs, optEv, binA, intBin, wrapI, unA, callM, keepE_cons, keepE_nil, Nat.reduceEqDiff, if_true, if_false, reduceIte, Int.toNat_natCast, List.append_nil, List.nil_append, List.cons_append, decide_true, decide_false, bft, btf, btt, bff, Bool.false_eq_true, resultsA, oneOrTup, Option.map_some, Option.map_none, Bool.not_true, Bool.not_false, loadAt, storeAt, storeOf, partOf, List.getElem?_cons_zero, List.getElem?_cons_succ, List.set_cons_zero, List.set_cons_succ, AV.cells, AV.isCell, List.all_cons, List.all_nil, Bool.and_true, Bool.and_false, Bool.false_and, Bool.true_and, Bool.and_self, and_true, true_and, and_self, putAt, hasLabel, Bool.or_false, Bool.false_or, Bool.or_true, Bool.true_or, fillA, pickParts, pickSl, strBin, eqA, eqCell, ne_eq, not_true_eq_false, not_false_eq_true, Nat.reduceLeDiff, Nat.reduceLT, Nat.reduceMul, Nat.reduceSub, Nat.zero_add, Nat.add_zero, Option.bind_some, asNat, bounds2, reduceCtorEq, List.take_succ_cons, List.take_zero, List.drop_succ_cons, List.drop_zero, Nat.reduceBEq, List.take_nil, List.drop_nil, Int.reduceLE, Int.reduceLT, Int.reduceToNat, Int.toNat_zero, Int.reduceBEq, Int.le_refl, Nat.le_refl, b2s, srcRow, binA, beq_self_eq_true, bne_self_eq_false, minI, maxI, foldI, Bool.not_not, Int.lt_irrefl, gt_iff_lt, ge_iff_le, List.length_map, AV.undef, i27_L4, rEnv, e1, e2, e3, e4, e5, e6, e7, e10, e9, e32, e35, hp, hwd, hl, g1, g2, k1, List.replicate_succ, List.replicate_zero, List.flatten_cons, List.flatten_nil, rowOfCells, chunks, Nat.one_mul, Nat.mul_one, Nat.zero_mul]
end
end Go.Pm
end

section
set_option linter.unusedSimpArgs false
set_option linter.unusedVariables false
set_option linter.unusedSectionVars false
/- The document's lexer: rounds with numbers and signs. -/
set_option maxRecDepth 100000
set_option linter.unusedSimpArgs false
set_option linter.unusedVariables false
namespace Go.Pm
section
variable {call : CallA} {G : Globals} {fuel : Nat}

theorem take_digits (s : List UInt8) (i : Nat) (hi : i < s.length) (hd : digitB s[i] = true) : ∃ t, (s.drop i).take (spanLen digitB (s.drop i)) = s[i] :: t ∧ (s[i] :: t).length = spanLen digitB (s.drop i) ∧ ∀ x ∈ s[i] :: t, digitB x = true := by
  have e : s.drop i = s[i] :: s.drop (i + 1) := List.drop_eq_getElem_cons hi
  rw [take_span]
  have hw : (s.drop i).takeWhile digitB = s[i] :: (s.drop (i + 1)).takeWhile digitB := by rw [e, List.takeWhile_cons, if_pos hd]
  refine ⟨_, hw, ?_, ?_⟩
  · rw [← hw]; rfl
  · rw [← hw]; exact fun x hx => takeWhile_all _ _ x hx

theorem ref_num (H : RefCalls call) {draw : DrawA} (s : List UInt8) (rows : List AV) (cap : Cap) (i : Nat) (σ : Store) (a0 b0 : AV) (h0 : σ[0]? = some (.cells [a0, b0] (some 53))) (ho : OutOk2 rows cap σ) (hn : rows.length ≤ 5000) (hs : s.length ≤ 4096) (hi : i < s.length) (hf : 5001 < fuel)
    (h10 : (s[i].toNat == 10) = false) (hb : (s[i].toNat == 32 || s[i].toNat == 9) = false) (h35 : (s[i].toNat == 35) = false) (hw : letterB s[i] = false) (hd : digitB s[i] = true) (u : Nat) (hu : Lib.parseUintB 64 ((s.drop i).take (spanLen digitB (s.drop i))) = .ok u) :
    ∃ cap' σ', evalCode call draw G fuel i27_L4 none (rEnv s rows cap i) σ = some (.normal, rEnv s (rows ++ [pieceA 1 ((s.drop i).take (spanLen digitB (s.drop i))) u (placeF (s.take i) 1 1).1 (placeF (s.take i) 1 1).2]) cap' (i + spanLen digitB (s.drop i)), σ') ∧
      OutOk2 (rows ++ [pieceA 1 ((s.drop i).take (spanLen digitB (s.drop i))) u (placeF (s.take i) 1 1).1 (placeF (s.take i) 1 1).2]) cap' σ' ∧ σ'[0]? = some (.cells [a0, b0] (some 53)) := by
  have e1 : ((i : Int) < (s.length : Int)) = True := by simp; omega
  have e2 : (0 ≤ (i : Int)) = True := by simp
  have e3 : s[i]? = some s[i] := List.getElem?_eq_getElem hi
  obtain ⟨e10, e9, e32, e35⟩ := notBlank h10 hb h35
  have hp := fun σ => H.place s i σ (by omega) hs
  have hwd := fun σ => H.word s[i] true σ
  have hwt : (letterB s[i] || (!true && digitB s[i])) = false := by simp [hw]
  rw [hwt] at hwd
  have hwe := fun σ => H.word s[i] false σ
  have hwt2 : (letterB s[i] || (!false && digitB s[i])) = true := by simp [hw, hd]
  rw [hwt2] at hwe
  have hl : ∀ x9 σ env, keepE [0, 3, 5, 6, 8, 9] env = [(0, .str s), (3, .bp 0 0), (5, .sl 5 rows cap), (6, .int .i64 i), (8, .int .i64 i), (9, x9)] → _ := fun x9 σ env he => (iterA_congr (env' := [(0, .str s), (3, .bp 0 0), (5, .sl 5 rows cap), (6, .int .i64 i), (8, .int .i64 i), (9, x9)]) he).trans (scan2 (call := call) (draw := draw) (G := G) (fuel := fuel) s (.bp 0 0) (.sl 5 rows cap) (.int .i64 i) x9 σ (by omega) _ i fuel rfl (by omega) (by omega))
  have hl := fun τ => hl (.bp σ.length 0) τ
  have hle := spanLen_le digitB (s.drop i)
  rw [List.length_drop] at hle
  obtain ⟨t, t1, t2, t3⟩ := take_digits s i hi hd
  have hnum := fun σ => (H.num s[i] t σ (by omega) t3).1 u (by rw [← t1]; exact hu)
  rw [← t1] at hnum
  generalize hk : spanLen digitB (s.drop i) = k at *
  have e4 : ((i : Int) ≤ ((i + k : Nat) : Int)) = True := by simp; omega
  have e5 : (((i + k : Nat) : Int) ≤ (s.length : Int)) = True := by simp; omega
  have e6 : (0 ≤ ((i + k : Nat) : Int)) = True := by simp; omega
  have e7 : (s.take (i + k)).drop i = (s.drop i).take k := by rw [List.drop_take, Nat.add_sub_cancel_left]
  have g1 : ∀ x : AObj, (σ ++ [x])[σ.length]? = some x := fun x => by simp
  have g2 : ∀ x y : AObj, (σ ++ [x]).set σ.length y = σ ++ [y] := fun x y => by simp
  obtain ⟨cap', σ', k1, k2, k3⟩ := ref_app rows cap σ (.cells [.int .u8 1, .str ((s.drop i).take k), .int .u64 u, .int .i64 (placeF (s.take i) 1 1).1, .int .i64 (placeF (s.take i) 1 1).2] (some 62)) a0 b0 h0 ho hn 1 ((s.drop i).take k) u (placeF (s.take i) 1 1).1 (placeF (s.take i) 1 1).2
  refine ⟨cap', σ', ?_, k2, k3⟩
  simp only [pieceA] at k1 ⊢
  simp only [placeAV] at hp
  simp only [evalFn, params, List.length_cons, List.length_nil, Nat.reduceAdd, evalCode, evalOps, guardOk, evalOp, AX.ev, look, putE, val, evs, optEv, binA, intBin, wrapI, unA, callM, keepE_cons, keepE_nil, Nat.reduceEqDiff, if_true, if_false, reduceIte, Int.toNat_natCast, List.append_nil, List.nil_append, List.cons_append, decide_true, decide_false, bft, btf, btt, bff, Bool.false_eq_true, resultsA, oneOrTup, Option.map_some, Option.map_none, Bool.not_true, Bool.not_false, loadAt, storeAt, storeOf, partOf, List.getElem?_cons_zero, List.getElem?_cons_succ, List.set_cons_zero, List.set_cons_succ, AV.cells, AV.isCell, List.all_cons, List.all_nil, Bool.and_true, Bool.and_false, Bool.false_and, Bool.true_and, Bool.and_self, and_true, true_and, and_self, putAt, hasLabel, Bool.or_false, Bool.false_or, Bool.or_true, Bool.true_or, fillA, pickParts, pickSl, strBin, eqA, eqCell, ne_eq, not_true_eq_false, not_false_eq_true, Nat.reduceLeDiff, Nat.reduceLT, Nat.reduceMul, Nat.reduceSub, Nat.zero_add, Nat.add_zero, Option.bind_some, asNat, bounds2, reduceCtorEq, List.take_succ_cons, List.take_zero, List.drop_succ_cons, List.drop_zero, Nat.reduceBEq, List.take_nil, List.drop_nil, Int.reduceLE, Int.reduceLT, Int.reduceToNat, Int.toNat_zero, Int.reduceBEq, Int.le_refl, Nat.le_refl, b2s, srcRow, binA, beq_self_eq_true, bne_self_eq_false, minI, maxI, foldI, Bool.not_not, Int.lt_irrefl, gt_iff_lt, ge_iff_le, List.length_map, AV.undef, i27_L4, rEnv, e1, e2, e3, e4, e5, e6, e7, e10, e9, e32, e35, hp, hwd, hwe, hl, hnum, g1, g2, k1, List.replicate_succ, List.replicate_zero, List.flatten_cons, List.flatten_nil, rowOfCells, chunks, Nat.one_mul, Nat.mul_one, Nat.zero_mul]

theorem ref_numErr (H : RefCalls call) (s : List UInt8) (rows : List AV) (cap : Cap) (i : Nat) (σ : Store) (a0 b0 : AV) (h0 : σ[0]? = some (.cells [a0, b0] (some 53))) (hs : s.length ≤ 4096) (hi : i < s.length) (hf : 5001 < fuel)
    (h10 : (s[i].toNat == 10) = false) (hb : (s[i].toNat == 32 || s[i].toNat == 9) = false) (h35 : (s[i].toNat == 35) = false) (hw : letterB s[i] = false) (hd : digitB s[i] = true) (hu : Lib.parseUintB 64 ((s.drop i).take (spanLen digitB (s.drop i))) = .range) :
    ∃ σ', evalCode call (drawA call G) G fuel i27_L4 none (rEnv s rows cap i) σ = some (.ret, [(2, .sl 5 [] .exact), (3, .bp 0 0), (4, .int .i64 4)], σ') ∧ σ'[0]? = some (.cells [.int .i64 (placeF (s.take i) 1 1).1, .int .i64 (placeF (s.take i) 1 1).2] (some 53)) := by
  have e1 : ((i : Int) < (s.length : Int)) = True := by simp; omega
  have e2 : (0 ≤ (i : Int)) = True := by simp
  have e3 : s[i]? = some s[i] := List.getElem?_eq_getElem hi
  obtain ⟨e10, e9, e32, e35⟩ := notBlank h10 hb h35
  have hp := fun σ => H.place s i σ (by omega) hs
  have hwd := fun σ => H.word s[i] true σ
  have hwt : (letterB s[i] || (!true && digitB s[i])) = false := by simp [hw]
  rw [hwt] at hwd
  have hwe := fun σ => H.word s[i] false σ
  have hwt2 : (letterB s[i] || (!false && digitB s[i])) = true := by simp [hw, hd]
  rw [hwt2] at hwe
  have hl : ∀ x9 σ env, keepE [0, 3, 5, 6, 8, 9] env = [(0, .str s), (3, .bp 0 0), (5, .sl 5 rows cap), (6, .int .i64 i), (8, .int .i64 i), (9, x9)] → _ := fun x9 σ env he => (iterA_congr (env' := [(0, .str s), (3, .bp 0 0), (5, .sl 5 rows cap), (6, .int .i64 i), (8, .int .i64 i), (9, x9)]) he).trans (scan2 (call := call) (draw := drawA call G) (G := G) (fuel := fuel) s (.bp 0 0) (.sl 5 rows cap) (.int .i64 i) x9 σ (by omega) _ i fuel rfl (by omega) (by omega))
  have hl := fun τ => hl (.bp σ.length 0) τ
  have hle := spanLen_le digitB (s.drop i)
  rw [List.length_drop] at hle
  obtain ⟨t, t1, t2, t3⟩ := take_digits s i hi hd
  have hnum := fun σ => (H.num s[i] t σ (by omega) t3).2 (by rw [← t1]; exact hu)
  rw [← t1] at hnum
  generalize hk : spanLen digitB (s.drop i) = k at *
  have e4 : ((i : Int) ≤ ((i + k : Nat) : Int)) = True := by simp; omega
  have e5 : (((i + k : Nat) : Int) ≤ (s.length : Int)) = True := by simp; omega
  have e6 : (0 ≤ ((i + k : Nat) : Int)) = True := by simp; omega
  have e7 : (s.take (i + k)).drop i = (s.drop i).take k := by rw [List.drop_take, Nat.add_sub_cancel_left]
  have g1 : ∀ x : AObj, (σ ++ [x])[σ.length]? = some x := fun x => by simp
  have g2 : ∀ x y : AObj, (σ ++ [x]).set σ.length y = σ ++ [y] := fun x y => by simp
  have hlt : 0 < σ.length := (List.getElem?_eq_some_iff.1 h0).1
  have g3 : ∀ x : AObj, (σ ++ [x])[0]? = some (.cells [a0, b0] (some 53)) := fun x => by rw [List.getElem?_append_left hlt]; exact h0
  simp only [placeAV] at hp
  simp only [evalFn, params, List.length_cons, List.length_nil, Nat.reduceAdd, evalCode, evalOps, guardOk, evalOp, AX.ev, look, putE, val, evs, optEv, binA, intBin, wrapI, unA, callM, keepE_cons, keepE_nil, Nat.reduceEqDiff, if_true, if_false, reduceIte, Int.toNat_natCast, List.append_nil, List.nil_append, List.cons_append, decide_true, decide_false, bft, btf, btt, bff, Bool.false_eq_true, resultsA, oneOrTup, Option.map_some, Option.map_none, Bool.not_true, Bool.not_false, loadAt, storeAt, storeOf, partOf, List.getElem?_cons_zero, List.getElem?_cons_succ, List.set_cons_zero, List.set_cons_succ, AV.cells, AV.isCell, List.all_cons, List.all_nil, Bool.and_true, Bool.and_false, Bool.false_and, Bool.true_and, Bool.and_self, and_true, true_and, and_self, putAt, hasLabel, Bool.or_false, Bool.false_or, Bool.or_true, Bool.true_or, fillA, pickParts, pickSl, strBin, eqA, eqCell, ne_eq, not_true_eq_false, not_false_eq_true, Nat.reduceLeDiff, Nat.reduceLT, Nat.reduceMul, Nat.reduceSub, Nat.zero_add, Nat.add_zero, Option.bind_some, asNat, bounds2, reduceCtorEq, List.take_succ_cons, List.take_zero, List.drop_succ_cons, List.drop_zero, Nat.reduceBEq, List.take_nil, List.drop_nil, Int.reduceLE, Int.reduceLT, Int.reduceToNat, Int.toNat_zero, Int.reduceBEq, Int.le_refl, Nat.le_refl, b2s, srcRow, binA, beq_self_eq_true, bne_self_eq_false, minI, maxI, foldI, Bool.not_not, Int.lt_irrefl, gt_iff_lt, ge_iff_le, List.length_map, AV.undef, puress, AV.pure, strip, drawA, goD, stepG, stepD, bornD, readsD, births, AOp.births, Eff.app, pairsD, loudsD, loudD, conflict, apart, AOp.shares, List.getD_cons_succ, List.getD_cons_zero, List.contains_cons, List.contains_nil, Bool.not_or, Option.getD_some, Option.getD_none, Nat.reduceBNe, List.replicate_zero, List.append_nil, i27_L4, rEnv, e1, e2, e3, e4, e5, e6, e7, e10, e9, e32, e35, hp, hwd, hwe, hl, hnum, g1, g2, g3]
  exact ⟨_, rfl, by rw [List.getElem?_set_self (by simp)]⟩

theorem ref_sign (H : RefCalls call) (s : List UInt8) (rows : List AV) (cap : Cap) (i : Nat) (σ : Store) (a0 b0 : AV) (h0 : σ[0]? = some (.cells [a0, b0] (some 53))) (ho : OutOk2 rows cap σ) (hn : rows.length ≤ 5000) (hs : s.length ≤ 4096) (hi : i < s.length) (hf : 5001 < fuel)
    (h10 : (s[i].toNat == 10) = false) (hb : (s[i].toNat == 32 || s[i].toNat == 9) = false) (h35 : (s[i].toNat == 35) = false) (hw : letterB s[i] = false) (hd : digitB s[i] = false) (hg : signN (s.drop i) ≠ 0) :
    ∃ cap' σ', evalCode call (drawA call G) G fuel i27_L4 none (rEnv s rows cap i) σ = some (.normal, rEnv s (rows ++ [pieceA 3 ((s.drop i).take (signN (s.drop i))) 0 (placeF (s.take i) 1 1).1 (placeF (s.take i) 1 1).2]) cap' (i + signN (s.drop i)), σ') ∧
      OutOk2 (rows ++ [pieceA 3 ((s.drop i).take (signN (s.drop i))) 0 (placeF (s.take i) 1 1).1 (placeF (s.take i) 1 1).2]) cap' σ' ∧ σ'[0]? = some (.cells [a0, b0] (some 53)) := by
  have e1 : ((i : Int) < (s.length : Int)) = True := by simp; omega
  have e2 : (0 ≤ (i : Int)) = True := by simp
  have e3 : s[i]? = some s[i] := List.getElem?_eq_getElem hi
  obtain ⟨e10, e9, e32, e35⟩ := notBlank h10 hb h35
  have hp := fun σ => H.place s i σ (by omega) hs
  have hwd := fun σ => H.word s[i] true σ
  have hwt : (letterB s[i] || (!true && digitB s[i])) = false := by simp [hw]
  rw [hwt] at hwd
  have hwe := fun σ => H.word s[i] false σ
  have hwt2 : (letterB s[i] || (!false && digitB s[i])) = false := by simp [hw, hd]
  rw [hwt2] at hwe
  have hsg := H.signs
  obtain ⟨y, hy⟩ := signs_loop (call := call) (G := G) (fuel := fuel) s i (.bp 0 0) (.sl 5 rows cap) (.bp σ.length 0) (σ ++ [.cells [.int .u8 0, .str [], .int .u64 0, .int .i64 (placeF (s.take i) 1 1).1, .int .i64 (placeF (s.take i) 1 1).2] (some 62)]) (by omega) hi 21 0 fuel rfl (by omega)
  rw [List.drop_zero, find_sign] at hy
  have hl : ∀ env, keepE [0, 3, 5, 6, 8, 9, 12, 13] env = [(0, .str s), (3, .bp 0 0), (5, .sl 5 rows cap), (6, .int .i64 i), (8, .int .i64 i), (9, .bp σ.length 0), (12, .sl 1 signsAV .no), (13, .int .i64 (0 : Nat))] → _ := fun env he => (iterA_congr (env' := [(0, .str s), (3, .bp 0 0), (5, .sl 5 rows cap), (6, .int .i64 i), (8, .int .i64 i), (9, .bp σ.length 0), (12, .sl 1 signsAV .no), (13, .int .i64 (0 : Nat))]) he).trans hy
  simp only [Int.natCast_zero] at hl
  have hle : signN (s.drop i) ≤ (s.drop i).length := by
    rw [List.drop_eq_getElem_cons hi]; exact signN_le _ _
  rw [List.length_drop] at hle
  generalize hk : signN (s.drop i) = k at *
  have e0 : (((i + k : Nat) : Int) == (i : Int)) = false := by rw [beq_eq_false_iff_ne]; omega
  have e4 : ((i : Int) ≤ ((i + k : Nat) : Int)) = True := by simp; omega
  have e5 : (((i + k : Nat) : Int) ≤ (s.length : Int)) = True := by simp; omega
  have e6 : (0 ≤ ((i + k : Nat) : Int)) = True := by simp; omega
  have e7 : (s.take (i + k)).drop i = (s.drop i).take k := by rw [List.drop_take, Nat.add_sub_cancel_left]
  have g1 : ∀ x : AObj, (σ ++ [x])[σ.length]? = some x := fun x => by simp
  have g2 : ∀ x y : AObj, (σ ++ [x]).set σ.length y = σ ++ [y] := fun x y => by simp
  obtain ⟨cap', σ', k1, k2, k3⟩ := ref_app rows cap σ (.cells [.int .u8 3, .str ((s.drop i).take k), .int .u64 0, .int .i64 (placeF (s.take i) 1 1).1, .int .i64 (placeF (s.take i) 1 1).2] (some 62)) a0 b0 h0 ho hn 3 ((s.drop i).take k) 0 (placeF (s.take i) 1 1).1 (placeF (s.take i) 1 1).2
  refine ⟨cap', σ', ?_, k2, k3⟩
  simp only [pieceA] at k1 ⊢
  simp only [placeAV] at hp
  simp only [evalFn, params, List.length_cons, List.length_nil, Nat.reduceAdd, evalCode, evalOps, guardOk, evalOp, AX.ev, look, putE, val, evs, optEv, binA, intBin, wrapI, unA, callM, keepE_cons, keepE_nil, Nat.reduceEqDiff, if_true, if_false, reduceIte, Int.toNat_natCast, List.append_nil, List.nil_append, List.cons_append, decide_true, decide_false, bft, btf, btt, bff, Bool.false_eq_true, resultsA, oneOrTup, Option.map_some, Option.map_none, Bool.not_true, Bool.not_false, loadAt, storeAt, storeOf, partOf, List.getElem?_cons_zero, List.getElem?_cons_succ, List.set_cons_zero, List.set_cons_succ, AV.cells, AV.isCell, List.all_cons, List.all_nil, Bool.and_true, Bool.and_false, Bool.false_and, Bool.true_and, Bool.and_self, and_true, true_and, and_self, putAt, hasLabel, Bool.or_false, Bool.false_or, Bool.or_true, Bool.true_or, fillA, pickParts, pickSl, strBin, eqA, eqCell, ne_eq, not_true_eq_false, not_false_eq_true, Nat.reduceLeDiff, Nat.reduceLT, Nat.reduceMul, Nat.reduceSub, Nat.zero_add, Nat.add_zero, Option.bind_some, asNat, bounds2, reduceCtorEq, List.take_succ_cons, List.take_zero, List.drop_succ_cons, List.drop_zero, Nat.reduceBEq, List.take_nil, List.drop_nil, Int.reduceLE, Int.reduceLT, Int.reduceToNat, Int.toNat_zero, Int.reduceBEq, Int.le_refl, Nat.le_refl, b2s, srcRow, binA, beq_self_eq_true, bne_self_eq_false, minI, maxI, foldI, Bool.not_not, Int.lt_irrefl, gt_iff_lt, ge_iff_le, List.length_map, AV.undef, i27_L4, rEnv, e0, e1, e2, e3, e4, e5, e6, e7, e10, e9, e32, e35, hp, hwd, hwe, hsg, hl, g1, g2, k1, List.replicate_succ, List.replicate_zero, List.flatten_cons, List.flatten_nil, rowOfCells, chunks, Nat.one_mul, Nat.mul_one, Nat.zero_mul]

theorem ref_signErr (H : RefCalls call) (s : List UInt8) (rows : List AV) (cap : Cap) (i : Nat) (σ : Store) (a0 b0 : AV) (h0 : σ[0]? = some (.cells [a0, b0] (some 53))) (hs : s.length ≤ 4096) (hi : i < s.length) (hf : 5001 < fuel)
    (h10 : (s[i].toNat == 10) = false) (hb : (s[i].toNat == 32 || s[i].toNat == 9) = false) (h35 : (s[i].toNat == 35) = false) (hw : letterB s[i] = false) (hd : digitB s[i] = false) (hg : signN (s.drop i) = 0) :
    ∃ σ', evalCode call (drawA call G) G fuel i27_L4 none (rEnv s rows cap i) σ = some (.ret, [(2, .sl 5 [] .exact), (3, .bp 0 0), (4, .int .i64 3)], σ') ∧ σ'[0]? = some (.cells [.int .i64 (placeF (s.take i) 1 1).1, .int .i64 (placeF (s.take i) 1 1).2] (some 53)) := by
  have e1 : ((i : Int) < (s.length : Int)) = True := by simp; omega
  have e2 : (0 ≤ (i : Int)) = True := by simp
  have e3 : s[i]? = some s[i] := List.getElem?_eq_getElem hi
  obtain ⟨e10, e9, e32, e35⟩ := notBlank h10 hb h35
  have hp := fun σ => H.place s i σ (by omega) hs
  have hwd := fun σ => H.word s[i] true σ
  have hwt : (letterB s[i] || (!true && digitB s[i])) = false := by simp [hw]
  rw [hwt] at hwd
  have hwe := fun σ => H.word s[i] false σ
  have hwt2 : (letterB s[i] || (!false && digitB s[i])) = false := by simp [hw, hd]
  rw [hwt2] at hwe
  have hsg := H.signs
  obtain ⟨y, hy⟩ := signs_loop (call := call) (G := G) (fuel := fuel) s i (.bp 0 0) (.sl 5 rows cap) (.bp σ.length 0) (σ ++ [.cells [.int .u8 0, .str [], .int .u64 0, .int .i64 (placeF (s.take i) 1 1).1, .int .i64 (placeF (s.take i) 1 1).2] (some 62)]) (by omega) hi 21 0 fuel rfl (by omega)
  rw [List.drop_zero, find_sign, hg, Nat.add_zero i] at hy
  have hl : ∀ env, keepE [0, 3, 5, 6, 8, 9, 12, 13] env = [(0, .str s), (3, .bp 0 0), (5, .sl 5 rows cap), (6, .int .i64 i), (8, .int .i64 i), (9, .bp σ.length 0), (12, .sl 1 signsAV .no), (13, .int .i64 (0 : Nat))] → _ := fun env he => (iterA_congr (env' := [(0, .str s), (3, .bp 0 0), (5, .sl 5 rows cap), (6, .int .i64 i), (8, .int .i64 i), (9, .bp σ.length 0), (12, .sl 1 signsAV .no), (13, .int .i64 (0 : Nat))]) he).trans hy
  simp only [Int.natCast_zero] at hl
  have g1 : ∀ x : AObj, (σ ++ [x])[σ.length]? = some x := fun x => by simp
  have g2 : ∀ x y : AObj, (σ ++ [x]).set σ.length y = σ ++ [y] := fun x y => by simp
  have hlt : 0 < σ.length := (List.getElem?_eq_some_iff.1 h0).1
  have g3 : ∀ x : AObj, (σ ++ [x])[0]? = some (.cells [a0, b0] (some 53)) := fun x => by rw [List.getElem?_append_left hlt]; exact h0
  simp only [placeAV] at hp
  simp only [evalFn, params, List.length_cons, List.length_nil, Nat.reduceAdd, evalCode, evalOps, guardOk, evalOp, AX.ev, look, putE, val, evs, optEv, binA, intBin, wrapI, unA, callM, keepE_cons, keepE_nil, Nat.reduceEqDiff, if_true, if_false, reduceIte, Int.toNat_natCast, List.append_nil, List.nil_append, List.cons_append, decide_true, decide_false, bft, btf, btt, bff, Bool.false_eq_true, resultsA, oneOrTup, Option.map_some, Option.map_none, Bool.not_true, Bool.not_false, loadAt, storeAt, storeOf, partOf, List.getElem?_cons_zero, List.getElem?_cons_succ, List.set_cons_zero, List.set_cons_succ, AV.cells, AV.isCell, List.all_cons, List.all_nil, Bool.and_true, Bool.and_false, Bool.false_and, Bool.true_and, Bool.and_self, and_true, true_and, and_self, putAt, hasLabel, Bool.or_false, Bool.false_or, Bool.or_true, Bool.true_or, fillA, pickParts, pickSl, strBin, eqA, eqCell, ne_eq, not_true_eq_false, not_false_eq_true, Nat.reduceLeDiff, Nat.reduceLT, Nat.reduceMul, Nat.reduceSub, Nat.zero_add, Nat.add_zero, Option.bind_some, asNat, bounds2, reduceCtorEq, List.take_succ_cons, List.take_zero, List.drop_succ_cons, List.drop_zero, Nat.reduceBEq, List.take_nil, List.drop_nil, Int.reduceLE, Int.reduceLT, Int.reduceToNat, Int.toNat_zero, Int.reduceBEq, Int.le_refl, Nat.le_refl, b2s, srcRow, binA, beq_self_eq_true, bne_self_eq_false, minI, maxI, foldI, Bool.not_not, Int.lt_irrefl, gt_iff_lt, ge_iff_le, List.length_map, AV.undef, puress, AV.pure, strip, drawA, goD, stepG, stepD, bornD, readsD, births, AOp.births, Eff.app, pairsD, loudsD, loudD, conflict, apart, AOp.shares, List.getD_cons_succ, List.getD_cons_zero, List.contains_cons, List.contains_nil, Bool.not_or, Option.getD_some, Option.getD_none, Nat.reduceBNe, List.replicate_zero, List.append_nil, i27_L4, rEnv, e1, e2, e3, e10, e9, e32, e35, hp, hwd, hwe, hsg, hl, g1, g2, g3]
  exact ⟨_, rfl, by rw [List.getElem?_set_self (by simp)]⟩
end
end Go.Pm
end

section
set_option linter.unusedSimpArgs false
set_option linter.unusedVariables false
set_option linter.unusedSectionVars false
/- The lexer as a function. -/
set_option maxRecDepth 100000
set_option linter.unusedSimpArgs false
namespace Go.Pm
section
variable {call : CallA} {draw : DrawA} {G : Globals} {fuel : Nat}

theorem lex_start (text : List UInt8) (ht : text.length ≤ 4096) :
    evalCode call draw G fuel i26_L2 none [(1, .bp 0 0), (3, .bp 1 0)] [.cells [.str text] (some 9), .cells [.int .i64 0, .int .i64 0] (some 53)] =
    evalCode call draw G fuel i26_L2 (some 0) (lexE (.sl 5 [] .exact)) (lexS text (.cells [.int .i64 0, .int .i64 0] (some 53)) 1 1 (.cells [.int .u8 0, .str [], .int .u64 0, .int .i64 0, .int .i64 0] (some 61) :: [])) := by
  have e1 : ((text.length : Int) > 4096) = False := by simp; omega
  simp only [evalFn, params, List.length_cons, List.length_nil, Nat.reduceAdd, evalCode, evalOps, guardOk, evalOp, AX.ev, look, putE, val, evs, optEv, binA, intBin, wrapI, unA, callM, keepE_cons, keepE_nil, callC, strips, stripWs, stripW, AV.flatv, flatvs, Nat.reduceEqDiff, if_true, if_false, reduceIte, Int.toNat_natCast, List.append_nil, List.nil_append, List.cons_append, decide_true, decide_false, bft, btf, btt, bff, Bool.false_eq_true, resultsA, oneOrTup, Option.map_some, Option.map_none, Bool.not_true, Bool.not_false, loadAt, storeAt, storeOf, partOf, List.getElem?_cons_zero, List.getElem?_cons_succ, List.set_cons_zero, List.set_cons_succ, AV.cells, AV.isCell, List.all_cons, List.all_nil, Bool.and_true, Bool.and_false, Bool.false_and, Bool.true_and, Bool.and_self, and_true, true_and, and_self, putAt, hasLabel, Bool.or_false, Bool.false_or, Bool.or_true, Bool.true_or, fillA, pickParts, pickSl, strBin, eqA, eqCell, ne_eq, not_true_eq_false, not_false_eq_true, Nat.reduceLeDiff, Nat.reduceLT, Nat.reduceMul, Nat.reduceSub, Nat.zero_add, Nat.add_zero, Option.bind_some, asNat, bounds2, reduceCtorEq, List.take_succ_cons, List.take_zero, List.drop_succ_cons, List.drop_zero, Nat.reduceBEq, List.take_nil, List.drop_nil, Int.reduceLE, Int.reduceLT, Int.reduceToNat, Int.toNat_zero, Int.reduceBEq, Int.le_refl, Nat.le_refl, i26_L2, lexE, lexS, e1]

theorem lex_long (text : List UInt8) (ht : 4096 < text.length) :
    ∃ σ', evalCode call (drawA call G) G fuel i26_L2 none [(1, .bp 0 0), (3, .bp 1 0)] [.cells [.str text] (some 9), .cells [.int .i64 0, .int .i64 0] (some 53)] =
    some (.ret, [(2, .sl 5 [] .exact), (3, .bp 1 0), (4, .int .i64 4)], σ') ∧ σ'[1]? = some (.cells [.int .i64 1, .int .i64 1] (some 53)) := by
  have e1 : ((text.length : Int) > 4096) = True := by simp; omega
  simp only [evalFn, params, List.length_cons, List.length_nil, Nat.reduceAdd, evalCode, evalOps, guardOk, evalOp, AX.ev, look, putE, val, evs, optEv, binA, intBin, wrapI, unA, callM, keepE_cons, keepE_nil, callC, strips, stripWs, stripW, AV.flatv, flatvs, Nat.reduceEqDiff, if_true, if_false, reduceIte, Int.toNat_natCast, List.append_nil, List.nil_append, List.cons_append, decide_true, decide_false, bft, btf, btt, bff, Bool.false_eq_true, resultsA, oneOrTup, Option.map_some, Option.map_none, Bool.not_true, Bool.not_false, loadAt, storeAt, storeOf, partOf, List.getElem?_cons_zero, List.getElem?_cons_succ, List.set_cons_zero, List.set_cons_succ, AV.cells, AV.isCell, List.all_cons, List.all_nil, Bool.and_true, Bool.and_false, Bool.false_and, Bool.true_and, Bool.and_self, and_true, true_and, and_self, putAt, hasLabel, Bool.or_false, Bool.false_or, Bool.or_true, Bool.true_or, fillA, pickParts, pickSl, strBin, eqA, eqCell, ne_eq, not_true_eq_false, not_false_eq_true, Nat.reduceLeDiff, Nat.reduceLT, Nat.reduceMul, Nat.reduceSub, Nat.zero_add, Nat.add_zero, Option.bind_some, asNat, bounds2, reduceCtorEq, List.take_succ_cons, List.take_zero, List.drop_succ_cons, List.drop_zero, Nat.reduceBEq, List.take_nil, List.drop_nil, Int.reduceLE, Int.reduceLT, Int.reduceToNat, Int.toNat_zero, Int.reduceBEq, Int.le_refl, Nat.le_refl, puress, AV.pure, strip, drawA, goD, stepG, stepD, bornD, readsD, births, AOp.births, Eff.app, pairsD, loudsD, loudD, conflict, apart, AOp.shares, List.replicate_zero, List.replicate_succ, List.getD_cons_succ, List.getD_cons_zero, List.contains_cons, List.contains_nil, Bool.not_or, Option.getD_some, Option.getD_none, Nat.reduceBNe, decide_eq_true_eq, Bool.if_false_left, i26_L2, e1]
  exact ⟨_, rfl, rfl⟩

/-- What the lexer answers. -/
def lexR (text : List UInt8) : LexR := if 4096 < text.length then .err 1 1 4 else lexF 4097 text 1 1 []

def LexR.av : LexR → AV
  | .ok l => .tup [.sl 5 l .no, .agg [.int .i64 0, .int .i64 0], .int .i64 0]
  | .err line col code => .tup [.sl 5 [] .no, .agg [.int .i64 line, .int .i64 col], .int .i64 code]

theorem jumps_first (f : Option Nat → Env → Store → Res) (n : Nat) (s : Option Nat) (env env' : Env) (σ σ' : Store) (h : f none env σ = f s env' σ') : jumpsA f (n + 1) none env σ = jumpsA f (n + 1) s env' σ' := by
  rw [jumpsA_succ, jumpsA_succ, h]

theorem lex_spec (H : LexCalls call) (text : List UInt8) (hf : 20000 ≤ fuel) :
    ∃ v σ', evalFn call (drawA call G) G fuel i26 [.str text] [] = some (.ret v, σ') ∧
      match lexR text with
      | .ok l => ∃ cap, v = .tup [.sl 5 l cap, .agg [.int .i64 0, .int .i64 0], .int .i64 0]
      | .err line col code => v = .tup [.sl 5 [] .exact, .agg [.int .i64 line, .int .i64 col], .int .i64 code] := by
  obtain ⟨fuel, rfl⟩ : ∃ f, fuel = f + 1 := ⟨fuel - 1, by omega⟩
  have body : ∃ env σ', jumpsA (evalCode call (drawA call G) G (fuel + 1) i26_L2) (fuel + 1) none [(1, .bp 0 0), (3, .bp 1 0)] [.cells [.str text] (some 9), .cells [.int .i64 0, .int .i64 0] (some 53)] = some (.ret, env, σ') ∧ LexOut (lexR text) env σ' := by
    by_cases ht : 4096 < text.length
    · obtain ⟨σ', h1, h2⟩ := lex_long (call := call) (G := G) (fuel := fuel + 1) text ht
      refine ⟨_, σ', by rw [jumpsA_succ, h1], ?_⟩
      unfold lexR; rw [if_pos ht]; exact ⟨rfl, h2⟩
    · rw [jumps_first _ _ (some 0) _ _ _ _ (lex_start text (by omega))]
      unfold lexR; rw [if_neg ht]
      exact lex_go H 4097 text 1 1 [] .exact [] (.int .i64 0) (.int .i64 0) _ _ _ _ _ (fuel + 1) (by omega) (by simp; omega) (by omega) (by omega) (by omega) (by omega) (.inl ⟨rfl, rfl⟩) (by omega)
  obtain ⟨env, σ', h1, h2⟩ := body
  generalize lexR text = R at *
  cases R with
  | ok l =>
    obtain ⟨cap, rfl, hs⟩ := h2
    refine ⟨.tup [.sl 5 l cap, .agg [.int .i64 0, .int .i64 0], .int .i64 0], σ', ?_, cap, rfl⟩
    simp only [evalFn, params, List.length_cons, List.length_nil, Nat.reduceAdd, evalCode, evalOps, guardOk, evalOp, AX.ev, look, putE, val, evs, optEv, binA, intBin, wrapI, unA, callM, keepE_cons, keepE_nil, callC, strips, stripWs, stripW, AV.flatv, flatvs, Nat.reduceEqDiff, if_true, if_false, reduceIte, Int.toNat_natCast, List.append_nil, List.nil_append, List.cons_append, decide_true, decide_false, bft, btf, btt, bff, Bool.false_eq_true, resultsA, oneOrTup, Option.map_some, Option.map_none, Bool.not_true, Bool.not_false, loadAt, storeAt, storeOf, partOf, List.getElem?_cons_zero, List.getElem?_cons_succ, List.set_cons_zero, List.set_cons_succ, AV.cells, AV.isCell, List.all_cons, List.all_nil, Bool.and_true, Bool.and_false, Bool.false_and, Bool.true_and, Bool.and_self, and_true, true_and, and_self, putAt, hasLabel, Bool.or_false, Bool.false_or, Bool.or_true, Bool.true_or, fillA, pickParts, pickSl, strBin, eqA, eqCell, ne_eq, not_true_eq_false, not_false_eq_true, Nat.reduceLeDiff, Nat.reduceLT, Nat.reduceMul, Nat.reduceSub, Nat.zero_add, Nat.add_zero, Option.bind_some, asNat, bounds2, reduceCtorEq, List.take_succ_cons, List.take_zero, List.drop_succ_cons, List.drop_zero, Nat.reduceBEq, List.take_nil, List.drop_nil, Int.reduceLE, Int.reduceLT, Int.reduceToNat, Int.toNat_zero, Int.reduceBEq, Int.le_refl, Nat.le_refl, i26, h1, hs]
  | err line col code =>
    obtain ⟨rfl, hs⟩ := h2
    refine ⟨_, σ', ?_, rfl⟩
    simp only [evalFn, params, List.length_cons, List.length_nil, Nat.reduceAdd, evalCode, evalOps, guardOk, evalOp, AX.ev, look, putE, val, evs, optEv, binA, intBin, wrapI, unA, callM, keepE_cons, keepE_nil, callC, strips, stripWs, stripW, AV.flatv, flatvs, Nat.reduceEqDiff, if_true, if_false, reduceIte, Int.toNat_natCast, List.append_nil, List.nil_append, List.cons_append, decide_true, decide_false, bft, btf, btt, bff, Bool.false_eq_true, resultsA, oneOrTup, Option.map_some, Option.map_none, Bool.not_true, Bool.not_false, loadAt, storeAt, storeOf, partOf, List.getElem?_cons_zero, List.getElem?_cons_succ, List.set_cons_zero, List.set_cons_succ, AV.cells, AV.isCell, List.all_cons, List.all_nil, Bool.and_true, Bool.and_false, Bool.false_and, Bool.true_and, Bool.and_self, and_true, true_and, and_self, putAt, hasLabel, Bool.or_false, Bool.false_or, Bool.or_true, Bool.true_or, fillA, pickParts, pickSl, strBin, eqA, eqCell, ne_eq, not_true_eq_false, not_false_eq_true, Nat.reduceLeDiff, Nat.reduceLT, Nat.reduceMul, Nat.reduceSub, Nat.zero_add, Nat.add_zero, Option.bind_some, asNat, bounds2, reduceCtorEq, List.take_succ_cons, List.take_zero, List.drop_succ_cons, List.drop_zero, Nat.reduceBEq, List.take_nil, List.drop_nil, Int.reduceLE, Int.reduceLT, Int.reduceToNat, Int.toNat_zero, Int.reduceBEq, Int.le_refl, Nat.le_refl, i26, h1, hs]
end
end Go.Pm
end

section
set_option linter.unusedSimpArgs false
set_option linter.unusedVariables false
set_option linter.unusedSectionVars false
/- LexLimits: its loop, its answer. -/
set_option maxRecDepth 100000
set_option linter.unusedSimpArgs false
namespace Go.Pm
section
variable {call : CallA} {draw : DrawA} {G : Globals} {fuel : Nat}

mutual
theorem stripW_flat (f : Nat → Option (List AV)) : ∀ v : AV, v.flatv = true → stripW f v = some v
  | .bool _, _ | .int .., _ | .str _, _ | .flt .., _ | .cplx .., _ | .nilp, _ | .nilm, _ | .nilf, _ | .nili, _ => rfl
  | .agg cs, h => by simp only [stripW]; rw [stripWs_flat f cs (by simpa [AV.flatv] using h)]
  | .tup cs, h => by simp only [stripW]; rw [stripWs_flat f cs (by simpa [AV.flatv] using h)]
  | .iface t v, h => by simp only [stripW]; rw [stripW_flat f v (by simpa [AV.flatv] using h)]
  | .ip .., h | .bp .., h | .sl .., h | .bs .., h | .map _, h | .fn .., h => by simp [AV.flatv] at h
theorem stripWs_flat (f : Nat → Option (List AV)) : ∀ v : List AV, flatvs v = true → stripWs f v = some v
  | [], _ => rfl
  | v :: r, h => by
    simp only [flatvs, Bool.and_eq_true] at h
    simp only [stripWs]
    rw [stripW_flat f v h.1, stripWs_flat f r h.2]
end

theorem flatvs_append : ∀ (a b : List AV), flatvs (a ++ b) = (flatvs a && flatvs b)
  | [], b => by simp [flatvs]
  | v :: a, b => by simp [flatvs, flatvs_append a b, Bool.and_assoc]

theorem lexF_flat : ∀ (n : Nat) (text : List UInt8) (line col : Int) (acc : List AV), flatvs acc = true → ∀ l, lexF n text line col acc = .ok l → flatvs l = true
  | 0, _, _, _, _, _, l, h => by simp [lexF] at h
  | n + 1, [], line, col, acc, ha, l, h => by
    simp only [lexF, LexR.ok.injEq] at h; subst h
    rw [flatvs_append, ha]; rfl
  | n + 1, c :: t, line, col, acc, ha, l, h => by
    have hp : ∀ k tx nn, flatvs (acc ++ [pieceA k tx nn line col]) = true := fun k tx nn => by rw [flatvs_append, ha]; rfl
    simp only [lexF] at h
    repeat' split at h
    all_goals first
      | (cases h; done)
      | exact lexF_flat n _ _ _ _ ha l h
      | exact lexF_flat n _ _ _ _ (hp _ _ _) l h

/-- What a caller of the lexer sees. -/
def Lexes (call : CallA) : Prop := ∀ (text : List UInt8) (σ : Store), callC call 26 [.str text] σ = some (.ret (lexR text).av, σ)

theorem lexes_of (h : ∀ text : List UInt8, ∃ v σ', call 26 [.str text] [] = some (.ret v, σ') ∧
      match lexR text with
      | .ok l => ∃ cap, v = .tup [.sl 5 l cap, .agg [.int .i64 0, .int .i64 0], .int .i64 0]
      | .err line col code => v = .tup [.sl 5 [] .exact, .agg [.int .i64 line, .int .i64 col], .int .i64 code]) : Lexes call := by
  intro text σ
  obtain ⟨v, σ', h1, h2⟩ := h text
  cases hR : lexR text with
  | ok l =>
    rw [hR] at h2
    obtain ⟨cap, rfl⟩ := h2
    have hl : flatvs l = true := by
      unfold lexR at hR
      split at hR
      · cases hR
      · exact lexF_flat _ _ _ _ _ rfl l hR
    simp only [callC, strips, stripWs, stripW, h1, AV.flatv, flatvs, Bool.false_and, puress, AV.pure, strip, stripWs_flat _ l hl, LexR.av]
    rfl
  | err line col code =>
    rw [hR] at h2
    subst h2
    simp only [callC, strips, stripWs, stripW, h1, AV.flatv, flatvs, Bool.false_and, puress, AV.pure, strip, LexR.av]
    rfl

theorem lexF_spaces : ∀ (k n : Nat) (line col : Int) (acc : List AV), k < n → lexF n (List.replicate k 32) line col acc = .ok (acc ++ [pieceA 0 [] 0 line (col + k)])
  | 0, n + 1, line, col, acc, _ => by simp [lexF]
  | k + 1, n + 1, line, col, acc, h => by
    rw [List.replicate_succ, lexF]
    rw [if_neg (by decide), if_pos (by decide), lexF_spaces k n line (col + 1) acc (by omega)]
    congr 4
    omega

theorem lim_on (b0 b1 b2 : AObj) (c1 c3 c6 : AV) (a z : List AV) (x : AV) (e : Option TypeId) (n m : Nat) (ha : a.length = n) (hm : n < m) (hm2 : m ≤ 4096) (hz : n + 1 + z.length = m) :
    evalCode call draw G fuel i7_L0 none [(1, c1), (3, c3), (5, .bp 1 0), (6, c6), (8, .bs 1 3 0 m), (9, .int .i64 n)] [b0, b1, b2, .cells (a ++ x :: z) e] =
      some (.normal, [(1, c1), (3, c3), (5, .bp 1 0), (6, c6), (8, .bs 1 3 0 m), (9, .int .i64 (n + 1 : Nat))], [b0, b1, b2, .cells ((a ++ [.int .u8 32]) ++ z) e]) := by
  have e1 : ((n : Int) < (m : Int)) = True := by simp; omega
  have e2 : (0 ≤ (n : Int)) = True := by simp
  have e3 : IntKind.i64.wrap ((n : Int) + 1) = ((n + 1 : Nat) : Int) := by rw [wrap_i64] <;> omega
  have e4 : (n + 1 ≤ (a ++ x :: z).length) = True := by simp; omega
  have e5 : putAt (a ++ x :: z) n [AV.int .u8 32] = a ++ AV.int .u8 32 :: z := by
    subst ha
    clear hm hz hm2 e1 e2 e3 e4
    induction a with
    | nil => cases z <;> rfl
    | cons y a ih => simp only [List.cons_append, List.length_cons, putAt, ih]
  simp only [evalFn, params, List.length_cons, List.length_nil, Nat.reduceAdd, evalCode, evalOps, guardOk, evalOp, AX.ev, look, putE, val, evs, optEv, binA, intBin, wrapI, unA, callM, keepE_cons, keepE_nil, callC, strips, stripWs, stripW, AV.flatv, flatvs, Nat.reduceEqDiff, if_true, if_false, reduceIte, Int.toNat_natCast, List.append_nil, List.nil_append, List.cons_append, decide_true, decide_false, bft, btf, btt, bff, Bool.false_eq_true, resultsA, oneOrTup, Option.map_some, Option.map_none, Bool.not_true, Bool.not_false, loadAt, storeAt, storeOf, partOf, List.getElem?_cons_zero, List.getElem?_cons_succ, List.set_cons_zero, List.set_cons_succ, AV.cells, AV.isCell, List.all_cons, List.all_nil, Bool.and_true, Bool.and_false, Bool.false_and, Bool.true_and, Bool.and_self, and_true, true_and, and_self, putAt, hasLabel, Bool.or_false, Bool.false_or, Bool.or_true, Bool.true_or, fillA, pickParts, pickSl, strBin, eqA, eqCell, ne_eq, not_true_eq_false, not_false_eq_true, Nat.reduceLeDiff, Nat.reduceLT, Nat.reduceMul, Nat.reduceSub, Nat.zero_add, Nat.add_zero, Option.bind_some, asNat, bounds2, reduceCtorEq, List.take_succ_cons, List.take_zero, List.drop_succ_cons, List.drop_zero, Nat.reduceBEq, List.take_nil, List.drop_nil, Int.reduceLE, Int.reduceLT, Int.reduceToNat, Int.toNat_zero, Int.reduceBEq, Int.le_refl, Nat.le_refl, i7_L0, e1, e2, e3, e4, e5, Nat.mul_one, List.append_assoc]

theorem lim_off (b0 b1 b2 b3 : AObj) (c1 c3 c6 : AV) (m : Nat) :
    evalCode call draw G fuel i7_L0 none [(1, c1), (3, c3), (5, .bp 1 0), (6, c6), (8, .bs 1 3 0 m), (9, .int .i64 m)] [b0, b1, b2, b3] =
      some (.exit 0, [(1, c1), (3, c3), (5, .bp 1 0), (6, c6), (8, .bs 1 3 0 m), (9, .int .i64 m), (33, .bool false)], [b0, b1, b2, b3]) := by
  have e1 : ((m : Int) < (m : Int)) = False := by simp
  simp only [evalFn, params, List.length_cons, List.length_nil, Nat.reduceAdd, evalCode, evalOps, guardOk, evalOp, AX.ev, look, putE, val, evs, optEv, binA, intBin, wrapI, unA, callM, keepE_cons, keepE_nil, callC, strips, stripWs, stripW, AV.flatv, flatvs, Nat.reduceEqDiff, if_true, if_false, reduceIte, Int.toNat_natCast, List.append_nil, List.nil_append, List.cons_append, decide_true, decide_false, bft, btf, btt, bff, Bool.false_eq_true, resultsA, oneOrTup, Option.map_some, Option.map_none, Bool.not_true, Bool.not_false, loadAt, storeAt, storeOf, partOf, List.getElem?_cons_zero, List.getElem?_cons_succ, List.set_cons_zero, List.set_cons_succ, AV.cells, AV.isCell, List.all_cons, List.all_nil, Bool.and_true, Bool.and_false, Bool.false_and, Bool.true_and, Bool.and_self, and_true, true_and, and_self, putAt, hasLabel, Bool.or_false, Bool.false_or, Bool.or_true, Bool.true_or, fillA, pickParts, pickSl, strBin, eqA, eqCell, ne_eq, not_true_eq_false, not_false_eq_true, Nat.reduceLeDiff, Nat.reduceLT, Nat.reduceMul, Nat.reduceSub, Nat.zero_add, Nat.add_zero, Option.bind_some, asNat, bounds2, reduceCtorEq, List.take_succ_cons, List.take_zero, List.drop_succ_cons, List.drop_zero, Nat.reduceBEq, List.take_nil, List.drop_nil, Int.reduceLE, Int.reduceLT, Int.reduceToNat, Int.toNat_zero, Int.reduceBEq, Int.le_refl, Nat.le_refl, i7_L0, e1]

theorem lim_loop (b0 b1 b2 : AObj) (c1 c3 c6 : AV) (e : Option TypeId) (m : Nat) (hm2 : m ≤ 4096) : ∀ (k n : Nat) (a z : List AV) (f : Nat), a.length = n → z.length = k → n + k = m → k < f →
    iterA (evalCode call draw G fuel i7_L0 none) [1, 3, 5, 6, 8, 9] f [(1, c1), (3, c3), (5, .bp 1 0), (6, c6), (8, .bs 1 3 0 m), (9, .int .i64 n)] [b0, b1, b2, .cells (a ++ z) e] =
      some (.exit 0, [(1, c1), (3, c3), (5, .bp 1 0), (6, c6), (8, .bs 1 3 0 m), (9, .int .i64 m), (33, .bool false)], [b0, b1, b2, .cells (a ++ List.replicate k (.int .u8 32)) e]) := by
  intro k
  induction k with
  | zero =>
    intro n a z f ha hz hn hf
    obtain ⟨f, rfl⟩ : ∃ f', f = f' + 1 := ⟨f - 1, by omega⟩
    obtain rfl : z = [] := List.eq_nil_of_length_eq_zero hz
    obtain rfl : n = m := by omega
    have h1 := lim_off (call := call) (draw := draw) (G := G) (fuel := fuel) b0 b1 b2 (.cells (a ++ []) e) c1 c3 c6 n
    exact iterA_out (by simpa only [keepE_cons, keepE_nil, look, Nat.reduceEqDiff, if_true, if_false, reduceIte, List.replicate_zero] using h1) (by simp)
  | succ k ih =>
    intro n a z f ha hz hn hf
    obtain ⟨f, rfl⟩ : ∃ f', f = f' + 1 := ⟨f - 1, by omega⟩
    cases z with
    | nil => simp at hz
    | cons x z =>
      simp only [List.length_cons] at hz
      have h1 := lim_on (call := call) (draw := draw) (G := G) (fuel := fuel) b0 b1 b2 c1 c3 c6 a z x e n m ha (by omega) hm2 (by omega)
      rw [iterA_normal (by simpa only [keepE_cons, keepE_nil, look, Nat.reduceEqDiff, if_true, if_false, reduceIte] using h1)]
      rw [ih (n + 1) (a ++ [AV.int .u8 32]) z f (by simp [ha]) (by omega) (by omega) (by omega)]
      rw [List.append_assoc, List.singleton_append, ← List.replicate_succ]

def spaces : List UInt8 := List.replicate 4096 32
def zeroRow : List AV := List.replicate 4096 (.int .u8 0)
def spaceRow : List AV := List.replicate 4096 (.int .u8 32)

theorem bytesOf_rep (b : UInt8) : ∀ n, bytesOf (List.replicate n (.int .u8 b.toNat)) = some (List.replicate n b)
  | 0 => rfl
  | n + 1 => by
    rw [List.replicate_succ, bytesOf, bytesOf_rep b n, List.replicate_succ]
    simp

theorem lim_spec (hL : Lexes call) (hw : ∀ σ, callC call 25 [] σ = some (.ret (.bool true), σ)) (hf : 5000 < fuel) :
    ∃ σ', evalFn call draw G fuel i7 [] [] = some (.ret (.bool true), σ') := by
  have r1 : lexR [49, 56, 52, 52, 54, 55, 52, 52, 48, 55, 51, 55, 48, 57, 53, 53, 49, 54, 49, 53] = .ok [pieceA 1 [49, 56, 52, 52, 54, 55, 52, 52, 48, 55, 51, 55, 48, 57, 53, 53, 49, 54, 49, 53] 18446744073709551615 1 1, pieceA 0 [] 0 1 21] := by rfl
  have r2 : lexR [97, 32, 49, 56, 52, 52, 54, 55, 52, 52, 48, 55, 51, 55, 48, 57, 53, 53, 49, 54, 49, 54] = .err 1 3 4 := by rfl
  have r3 : lexR spaces = .ok [pieceA 0 [] 0 1 4097] := by
    unfold lexR spaces
    rw [if_neg (by simp), lexF_spaces 4096 4097 1 1 [] (by omega)]
    rfl
  have r4 : lexR (spaces ++ [32]) = .err 1 1 4 := by
    unfold lexR spaces
    rw [if_pos (by simp)]
  have z1 : (List.replicate 4096 [AV.int .u8 0]).flatten = zeroRow := by
    unfold zeroRow
    have : ∀ n, (List.replicate n [AV.int .u8 0]).flatten = List.replicate n (.int .u8 0) := by
      intro n; induction n with
      | zero => rfl
      | succ n ih => rw [List.replicate_succ, List.flatten_cons, ih, List.replicate_succ]; rfl
    exact this 4096
  have z2 : bytesOf zeroRow = some (List.replicate 4096 0) := bytesOf_rep 0 4096
  have z3 : zeroRow.length = 4096 := by unfold zeroRow; simp
  have z4 : zeroRow.all AV.isCell = true := by unfold zeroRow; rw [List.all_replicate]; simp [AV.isCell]
  have z5 : zeroRow.take 4096 = zeroRow := List.take_of_length_le (by rw [z3]; exact Nat.le_refl _)
  have z6 : (List.replicate 4096 (0 : UInt8)).map (fun b => AV.int .u8 (b.toNat : Int)) = zeroRow := by rw [List.map_replicate]; rfl
  have z7 : (List.replicate 4096 (0 : UInt8)).length = 4096 := by simp
  have p2 : bytesOf spaceRow = some spaces := bytesOf_rep 32 4096
  have p3 : spaceRow.length = 4096 := by unfold spaceRow; simp
  have p4 : spaceRow.all AV.isCell = true := by unfold spaceRow; rw [List.all_replicate]; simp [AV.isCell]
  have p5 : spaceRow.take 4096 = spaceRow := List.take_of_length_le (by rw [p3]; exact Nat.le_refl _)
  have p6 : spaces.length = 4096 := by unfold spaces; simp
  have loop := fun b0 b1 b2 c1 c3 c6 e => lim_loop (call := call) (draw := draw) (G := G) (fuel := fuel) b0 b1 b2 c1 c3 c6 e 4096 (by omega) 4096 0 [] zeroRow fuel rfl z3 rfl (by omega)
  simp only [List.nil_append, Int.ofNat_zero] at loop
  have loop' : ∀ b0 b1 b2 c1 c3 c6 e, iterA (evalCode call draw G fuel i7_L0 none) [1, 3, 5, 6, 8, 9] fuel [(1, c1), (3, c3), (5, .bp 1 0), (6, c6), (8, .bs 1 3 0 4096), (9, .int .i64 0)] [b0, b1, b2, .cells zeroRow e] =
      some (.exit 0, [(1, c1), (3, c3), (5, .bp 1 0), (6, c6), (8, .bs 1 3 0 4096), (9, .int .i64 4096), (33, .bool false)], [b0, b1, b2, .cells spaceRow e]) := loop
  clear loop
  have l1 := fun σ => hL [49, 56, 52, 52, 54, 55, 52, 52, 48, 55, 51, 55, 48, 57, 53, 53, 49, 54, 49, 53] σ
  have l2 := fun σ => hL [97, 32, 49, 56, 52, 52, 54, 55, 52, 52, 48, 55, 51, 55, 48, 57, 53, 53, 49, 54, 49, 54] σ
  have l3 := fun σ => hL spaces σ
  have l4 := fun σ => hL (spaces ++ [32]) σ
  rw [r1] at l1; rw [r2] at l2; rw [r3] at l3; rw [r4] at l4
  simp only [LexR.av, pieceA] at l1 l2 l3 l4
  clear r1 r2 r3 r4 hL
  generalize spaces = S at *
  generalize zeroRow = Z at *
  generalize spaceRow = T at *
  have q1 : ((4096 : Int).toNat * 1 ≤ 281474976710656) = True := by simp
  have q2 : ((4096 : Int) ≤ 9223372036854775807) = True := by simp
  have q3 : (S.length + 1 ≤ 9223372036854775807) = True := by rw [p6]; simp
  have key : Ends call draw G fuel i7.body [] [] fun e env _ => e = .ret ∧ look env 0 = some (.bool true) := by
    unfold i7
    refine Ends.seq (by simp only [evalFn, params, List.length_cons, List.length_nil, Nat.reduceAdd, evalCode, evalOps, guardOk, evalOp, AX.ev, look, putE, val, evs, optEv, binA, intBin, wrapI, unA, callM, keepE_cons, keepE_nil, Nat.reduceEqDiff, if_true, if_false, reduceIte, Int.toNat_natCast, List.append_nil, List.nil_append, List.cons_append, decide_true, decide_false, bft, btf, btt, bff, Bool.false_eq_true, resultsA, oneOrTup, Option.map_some, Option.map_none, Bool.not_true, Bool.not_false, loadAt, storeAt, storeOf, partOf, List.getElem?_cons_zero, List.getElem?_cons_succ, List.set_cons_zero, List.set_cons_succ, AV.cells, AV.isCell, List.all_cons, List.all_nil, Bool.and_true, Bool.and_false, Bool.false_and, Bool.true_and, Bool.and_self, and_true, true_and, and_self, putAt, hasLabel, Bool.or_false, Bool.false_or, Bool.or_true, Bool.true_or, fillA, pickParts, pickSl, strBin, eqA, eqCell, ne_eq, not_true_eq_false, not_false_eq_true, Nat.reduceLeDiff, Nat.reduceLT, Nat.reduceMul, Nat.reduceSub, Nat.zero_add, Nat.add_zero, Option.bind_some, asNat, bounds2, reduceCtorEq, List.take_succ_cons, List.take_zero, List.drop_succ_cons, List.drop_zero, Nat.reduceBEq, List.take_nil, List.drop_nil, Int.reduceLE, Int.reduceLT, Int.reduceToNat, Int.toNat_zero, Int.reduceBEq, Int.le_refl, Nat.le_refl, b2s, srcRow, binA]; rfl) ?_
    refine Ends.seq (by simp only [evalFn, params, List.length_cons, List.length_nil, Nat.reduceAdd, evalCode, evalOps, guardOk, evalOp, AX.ev, look, putE, val, evs, optEv, binA, intBin, wrapI, unA, callM, keepE_cons, keepE_nil, Nat.reduceEqDiff, if_true, if_false, reduceIte, Int.toNat_natCast, List.append_nil, List.nil_append, List.cons_append, decide_true, decide_false, bft, btf, btt, bff, Bool.false_eq_true, resultsA, oneOrTup, Option.map_some, Option.map_none, Bool.not_true, Bool.not_false, loadAt, storeAt, storeOf, partOf, List.getElem?_cons_zero, List.getElem?_cons_succ, List.set_cons_zero, List.set_cons_succ, AV.cells, AV.isCell, List.all_cons, List.all_nil, Bool.and_true, Bool.and_false, Bool.false_and, Bool.true_and, Bool.and_self, and_true, true_and, and_self, putAt, hasLabel, Bool.or_false, Bool.false_or, Bool.or_true, Bool.true_or, fillA, pickParts, pickSl, strBin, eqA, eqCell, ne_eq, not_true_eq_false, not_false_eq_true, Nat.reduceLeDiff, Nat.reduceLT, Nat.reduceMul, Nat.reduceSub, Nat.zero_add, Nat.add_zero, Option.bind_some, asNat, bounds2, reduceCtorEq, List.take_succ_cons, List.take_zero, List.drop_succ_cons, List.drop_zero, Nat.reduceBEq, List.take_nil, List.drop_nil, Int.reduceLE, Int.reduceLT, Int.reduceToNat, Int.toNat_zero, Int.reduceBEq, Int.le_refl, Nat.le_refl, b2s, srcRow, binA, l1]; rfl) ?_
    refine Ends.seq (by simp only [evalFn, params, List.length_cons, List.length_nil, Nat.reduceAdd, evalCode, evalOps, guardOk, evalOp, AX.ev, look, putE, val, evs, optEv, binA, intBin, wrapI, unA, callM, keepE_cons, keepE_nil, Nat.reduceEqDiff, if_true, if_false, reduceIte, Int.toNat_natCast, List.append_nil, List.nil_append, List.cons_append, decide_true, decide_false, bft, btf, btt, bff, Bool.false_eq_true, resultsA, oneOrTup, Option.map_some, Option.map_none, Bool.not_true, Bool.not_false, loadAt, storeAt, storeOf, partOf, List.getElem?_cons_zero, List.getElem?_cons_succ, List.set_cons_zero, List.set_cons_succ, AV.cells, AV.isCell, List.all_cons, List.all_nil, Bool.and_true, Bool.and_false, Bool.false_and, Bool.true_and, Bool.and_self, and_true, true_and, and_self, putAt, hasLabel, Bool.or_false, Bool.false_or, Bool.or_true, Bool.true_or, fillA, pickParts, pickSl, strBin, eqA, eqCell, ne_eq, not_true_eq_false, not_false_eq_true, Nat.reduceLeDiff, Nat.reduceLT, Nat.reduceMul, Nat.reduceSub, Nat.zero_add, Nat.add_zero, Option.bind_some, asNat, bounds2, reduceCtorEq, List.take_succ_cons, List.take_zero, List.drop_succ_cons, List.drop_zero, Nat.reduceBEq, List.take_nil, List.drop_nil, Int.reduceLE, Int.reduceLT, Int.reduceToNat, Int.toNat_zero, Int.reduceBEq, Int.le_refl, Nat.le_refl, b2s, srcRow, binA, l2]; rfl) ?_
    refine Ends.seq (by simp only [evalFn, params, List.length_cons, List.length_nil, Nat.reduceAdd, evalCode, evalOps, guardOk, evalOp, AX.ev, look, putE, val, evs, optEv, binA, intBin, wrapI, unA, callM, keepE_cons, keepE_nil, Nat.reduceEqDiff, if_true, if_false, reduceIte, Int.toNat_natCast, List.append_nil, List.nil_append, List.cons_append, decide_true, decide_false, bft, btf, btt, bff, Bool.false_eq_true, resultsA, oneOrTup, Option.map_some, Option.map_none, Bool.not_true, Bool.not_false, loadAt, storeAt, storeOf, partOf, List.getElem?_cons_zero, List.getElem?_cons_succ, List.set_cons_zero, List.set_cons_succ, AV.cells, AV.isCell, List.all_cons, List.all_nil, Bool.and_true, Bool.and_false, Bool.false_and, Bool.true_and, Bool.and_self, and_true, true_and, and_self, putAt, hasLabel, Bool.or_false, Bool.false_or, Bool.or_true, Bool.true_or, fillA, pickParts, pickSl, strBin, eqA, eqCell, ne_eq, not_true_eq_false, not_false_eq_true, Nat.reduceLeDiff, Nat.reduceLT, Nat.reduceMul, Nat.reduceSub, Nat.zero_add, Nat.add_zero, Option.bind_some, asNat, bounds2, reduceCtorEq, List.take_succ_cons, List.take_zero, List.drop_succ_cons, List.drop_zero, Nat.reduceBEq, List.take_nil, List.drop_nil, Int.reduceLE, Int.reduceLT, Int.reduceToNat, Int.toNat_zero, Int.reduceBEq, Int.le_refl, Nat.le_refl, b2s, srcRow, binA, z1, z2, z3, z4, z5, z6, z7, q1, q2]; rfl) ?_
    refine Ends.seq (by simp only [evalFn, params, List.length_cons, List.length_nil, Nat.reduceAdd, evalCode, evalOps, guardOk, evalOp, AX.ev, look, putE, val, evs, optEv, binA, intBin, wrapI, unA, callM, keepE_cons, keepE_nil, Nat.reduceEqDiff, if_true, if_false, reduceIte, Int.toNat_natCast, List.append_nil, List.nil_append, List.cons_append, decide_true, decide_false, bft, btf, btt, bff, Bool.false_eq_true, resultsA, oneOrTup, Option.map_some, Option.map_none, Bool.not_true, Bool.not_false, loadAt, storeAt, storeOf, partOf, List.getElem?_cons_zero, List.getElem?_cons_succ, List.set_cons_zero, List.set_cons_succ, AV.cells, AV.isCell, List.all_cons, List.all_nil, Bool.and_true, Bool.and_false, Bool.false_and, Bool.true_and, Bool.and_self, and_true, true_and, and_self, putAt, hasLabel, Bool.or_false, Bool.false_or, Bool.or_true, Bool.true_or, fillA, pickParts, pickSl, strBin, eqA, eqCell, ne_eq, not_true_eq_false, not_false_eq_true, Nat.reduceLeDiff, Nat.reduceLT, Nat.reduceMul, Nat.reduceSub, Nat.zero_add, Nat.add_zero, Option.bind_some, asNat, bounds2, reduceCtorEq, List.take_succ_cons, List.take_zero, List.drop_succ_cons, List.drop_zero, Nat.reduceBEq, List.take_nil, List.drop_nil, Int.reduceLE, Int.reduceLT, Int.reduceToNat, Int.toNat_zero, Int.reduceBEq, Int.le_refl, Nat.le_refl, b2s, srcRow, binA, z1, z2, z3, z4, z5, z6, z7, q1, q2]; rfl) ?_
    refine Ends.seq (by simp only [evalFn, params, List.length_cons, List.length_nil, Nat.reduceAdd, evalCode, evalOps, guardOk, evalOp, AX.ev, look, putE, val, evs, optEv, binA, intBin, wrapI, unA, callM, keepE_cons, keepE_nil, Nat.reduceEqDiff, if_true, if_false, reduceIte, Int.toNat_natCast, List.append_nil, List.nil_append, List.cons_append, decide_true, decide_false, bft, btf, btt, bff, Bool.false_eq_true, resultsA, oneOrTup, Option.map_some, Option.map_none, Bool.not_true, Bool.not_false, loadAt, storeAt, storeOf, partOf, List.getElem?_cons_zero, List.getElem?_cons_succ, List.set_cons_zero, List.set_cons_succ, AV.cells, AV.isCell, List.all_cons, List.all_nil, Bool.and_true, Bool.and_false, Bool.false_and, Bool.true_and, Bool.and_self, and_true, true_and, and_self, putAt, hasLabel, Bool.or_false, Bool.false_or, Bool.or_true, Bool.true_or, fillA, pickParts, pickSl, strBin, eqA, eqCell, ne_eq, not_true_eq_false, not_false_eq_true, Nat.reduceLeDiff, Nat.reduceLT, Nat.reduceMul, Nat.reduceSub, Nat.zero_add, Nat.add_zero, Option.bind_some, asNat, bounds2, reduceCtorEq, List.take_succ_cons, List.take_zero, List.drop_succ_cons, List.drop_zero, Nat.reduceBEq, List.take_nil, List.drop_nil, Int.reduceLE, Int.reduceLT, Int.reduceToNat, Int.toNat_zero, Int.reduceBEq, Int.le_refl, Nat.le_refl, b2s, srcRow, binA, loop']; rfl) ?_
    refine Ends.seq (by simp only [evalFn, params, List.length_cons, List.length_nil, Nat.reduceAdd, evalCode, evalOps, guardOk, evalOp, AX.ev, look, putE, val, evs, optEv, binA, intBin, wrapI, unA, callM, keepE_cons, keepE_nil, Nat.reduceEqDiff, if_true, if_false, reduceIte, Int.toNat_natCast, List.append_nil, List.nil_append, List.cons_append, decide_true, decide_false, bft, btf, btt, bff, Bool.false_eq_true, resultsA, oneOrTup, Option.map_some, Option.map_none, Bool.not_true, Bool.not_false, loadAt, storeAt, storeOf, partOf, List.getElem?_cons_zero, List.getElem?_cons_succ, List.set_cons_zero, List.set_cons_succ, AV.cells, AV.isCell, List.all_cons, List.all_nil, Bool.and_true, Bool.and_false, Bool.false_and, Bool.true_and, Bool.and_self, and_true, true_and, and_self, putAt, hasLabel, Bool.or_false, Bool.false_or, Bool.or_true, Bool.true_or, fillA, pickParts, pickSl, strBin, eqA, eqCell, ne_eq, not_true_eq_false, not_false_eq_true, Nat.reduceLeDiff, Nat.reduceLT, Nat.reduceMul, Nat.reduceSub, Nat.zero_add, Nat.add_zero, Option.bind_some, asNat, bounds2, reduceCtorEq, List.take_succ_cons, List.take_zero, List.drop_succ_cons, List.drop_zero, Nat.reduceBEq, List.take_nil, List.drop_nil, Int.reduceLE, Int.reduceLT, Int.reduceToNat, Int.toNat_zero, Int.reduceBEq, Int.le_refl, Nat.le_refl, b2s, srcRow, binA, p2, p3, p4, p5, p6, l3, Nat.mul_one]; rfl) ?_
    refine Ends.seq (by simp only [evalFn, params, List.length_cons, List.length_nil, Nat.reduceAdd, evalCode, evalOps, guardOk, evalOp, AX.ev, look, putE, val, evs, optEv, binA, intBin, wrapI, unA, callM, keepE_cons, keepE_nil, Nat.reduceEqDiff, if_true, if_false, reduceIte, Int.toNat_natCast, List.append_nil, List.nil_append, List.cons_append, decide_true, decide_false, bft, btf, btt, bff, Bool.false_eq_true, resultsA, oneOrTup, Option.map_some, Option.map_none, Bool.not_true, Bool.not_false, loadAt, storeAt, storeOf, partOf, List.getElem?_cons_zero, List.getElem?_cons_succ, List.set_cons_zero, List.set_cons_succ, AV.cells, AV.isCell, List.all_cons, List.all_nil, Bool.and_true, Bool.and_false, Bool.false_and, Bool.true_and, Bool.and_self, and_true, true_and, and_self, putAt, hasLabel, Bool.or_false, Bool.false_or, Bool.or_true, Bool.true_or, fillA, pickParts, pickSl, strBin, eqA, eqCell, ne_eq, not_true_eq_false, not_false_eq_true, Nat.reduceLeDiff, Nat.reduceLT, Nat.reduceMul, Nat.reduceSub, Nat.zero_add, Nat.add_zero, Option.bind_some, asNat, bounds2, reduceCtorEq, List.take_succ_cons, List.take_zero, List.drop_succ_cons, List.drop_zero, Nat.reduceBEq, List.take_nil, List.drop_nil, Int.reduceLE, Int.reduceLT, Int.reduceToNat, Int.toNat_zero, Int.reduceBEq, Int.le_refl, Nat.le_refl, b2s, srcRow, binA, p2, p3, p4, p5, p6, l4, q3, Nat.mul_one]; rfl) ?_
    refine Ends.seq (by simp only [evalFn, params, List.length_cons, List.length_nil, Nat.reduceAdd, evalCode, evalOps, guardOk, evalOp, AX.ev, look, putE, val, evs, optEv, binA, intBin, wrapI, unA, callM, keepE_cons, keepE_nil, Nat.reduceEqDiff, if_true, if_false, reduceIte, Int.toNat_natCast, List.append_nil, List.nil_append, List.cons_append, decide_true, decide_false, bft, btf, btt, bff, Bool.false_eq_true, resultsA, oneOrTup, Option.map_some, Option.map_none, Bool.not_true, Bool.not_false, loadAt, storeAt, storeOf, partOf, List.getElem?_cons_zero, List.getElem?_cons_succ, List.set_cons_zero, List.set_cons_succ, AV.cells, AV.isCell, List.all_cons, List.all_nil, Bool.and_true, Bool.and_false, Bool.false_and, Bool.true_and, Bool.and_self, and_true, true_and, and_self, putAt, hasLabel, Bool.or_false, Bool.false_or, Bool.or_true, Bool.true_or, fillA, pickParts, pickSl, strBin, eqA, eqCell, ne_eq, not_true_eq_false, not_false_eq_true, Nat.reduceLeDiff, Nat.reduceLT, Nat.reduceMul, Nat.reduceSub, Nat.zero_add, Nat.add_zero, Option.bind_some, asNat, bounds2, reduceCtorEq, List.take_succ_cons, List.take_zero, List.drop_succ_cons, List.drop_zero, Nat.reduceBEq, List.take_nil, List.drop_nil, Int.reduceLE, Int.reduceLT, Int.reduceToNat, Int.toNat_zero, Int.reduceBEq, Int.le_refl, Nat.le_refl, b2s, srcRow, binA, hw, eqFields, Int.cast_ofNat_Int, Int.natCast_one, Int.natCast_zero, Int.reduceLT, List.length_singleton, beq_self_eq_true, and_true, true_and]; rfl) ?_
    exact Ends.done (by simp only [evalFn, params, List.length_cons, List.length_nil, Nat.reduceAdd, evalCode, evalOps, guardOk, evalOp, AX.ev, look, putE, val, evs, optEv, binA, intBin, wrapI, unA, callM, keepE_cons, keepE_nil, Nat.reduceEqDiff, if_true, if_false, reduceIte, Int.toNat_natCast, List.append_nil, List.nil_append, List.cons_append, decide_true, decide_false, bft, btf, btt, bff, Bool.false_eq_true, resultsA, oneOrTup, Option.map_some, Option.map_none, Bool.not_true, Bool.not_false, loadAt, storeAt, storeOf, partOf, List.getElem?_cons_zero, List.getElem?_cons_succ, List.set_cons_zero, List.set_cons_succ, AV.cells, AV.isCell, List.all_cons, List.all_nil, Bool.and_true, Bool.and_false, Bool.false_and, Bool.true_and, Bool.and_self, and_true, true_and, and_self, putAt, hasLabel, Bool.or_false, Bool.false_or, Bool.or_true, Bool.true_or, fillA, pickParts, pickSl, strBin, eqA, eqCell, ne_eq, not_true_eq_false, not_false_eq_true, Nat.reduceLeDiff, Nat.reduceLT, Nat.reduceMul, Nat.reduceSub, Nat.zero_add, Nat.add_zero, Option.bind_some, asNat, bounds2, reduceCtorEq, List.take_succ_cons, List.take_zero, List.drop_succ_cons, List.drop_zero, Nat.reduceBEq, List.take_nil, List.drop_nil, Int.reduceLE, Int.reduceLT, Int.reduceToNat, Int.toNat_zero, Int.reduceBEq, Int.le_refl, Nat.le_refl, b2s, srcRow, binA]; rfl) ⟨rfl, rfl⟩
  obtain ⟨e, env, σ', k1, rfl, k2⟩ := key
  refine ⟨σ', ?_⟩
  simp only [evalFn, show i7.nparams = 0 from rfl, show i7.res = [.tmp 0] from rfl, params, List.length_nil, if_true, k1, resultsA, k2, oneOrTup, Option.map_some]
end
end Go.Pm
end

section
set_option linter.unusedSimpArgs false
set_option linter.unusedVariables false
set_option linter.unusedSectionVars false
/- The document's lexer tells what the program's does. -/
set_option maxRecDepth 100000
set_option linter.unusedSimpArgs false
set_option linter.unusedVariables false
namespace Go.Pm
section
variable {call : CallA} {G : Globals} {fuel : Nat}

/-- What the rounds come to. -/
def RefOut (s : List UInt8) (a0 b0 : AV) (r : LexR) (e : AExit) (env : Env) (σ : Store) : Prop :=
  match r with
  | .ok l => e = .exit 0 ∧ ∃ rows cap, keepE [0, 3, 5] env = [(0, .str s), (3, .bp 0 0), (5, .sl 5 rows cap)] ∧ OutOk2 rows cap σ ∧ σ[0]? = some (.cells [a0, b0] (some 53)) ∧ rows.length ≤ 4999 ∧ l = rows ++ [pieceA 0 [] 0 (placeF s 1 1).1 (placeF s 1 1).2]
  | .err line col code => e = .ret ∧ env = [(2, .sl 5 [] .exact), (3, .bp 0 0), (4, .int .i64 code)] ∧ σ[0]? = some (.cells [.int .i64 line, .int .i64 col] (some 53))

theorem placeF_span {p : UInt8 → Bool} (hp : ∀ c, p c = true → (c.toNat == 10) = false) : ∀ (s : List UInt8) (l c : Int), placeF (s.take (spanLen p s)) l c = (l, c + spanLen p s)
  | [], l, c => by simp [spanLen, placeF]
  | x :: s, l, c => by
    cases h : p x with
    | true =>
      have e : spanLen p (x :: s) = spanLen p s + 1 := by unfold spanLen; rw [List.takeWhile_cons, if_pos h, List.length_cons]
      rw [e, List.take_succ_cons, placeF, if_neg (by rw [hp x h]; simp), placeF_span hp s]
      congr 1
      omega
    | false =>
      have e : spanLen p (x :: s) = 0 := by unfold spanLen; rw [List.takeWhile_cons, if_neg (by simp [h])]; rfl
      rw [e]; simp [placeF]

theorem place_add (s : List UInt8) (i k : Nat) : placeF (s.take (i + k)) 1 1 = placeF ((s.drop i).take k) (placeF (s.take i) 1 1).1 (placeF (s.take i) 1 1).2 := by
  rw [List.take_add, placeF_append]

theorem place_span (s : List UInt8) (i : Nat) {p : UInt8 → Bool} (hp : ∀ c, p c = true → (c.toNat == 10) = false) : placeF (s.take (i + spanLen p (s.drop i))) 1 1 = ((placeF (s.take i) 1 1).1, (placeF (s.take i) 1 1).2 + spanLen p (s.drop i)) := by
  rw [place_add, placeF_span hp]

theorem sign_chars (a : UInt8) (t : List UInt8) : ∀ x ∈ (a :: t).take (signN (a :: t)), (x.toNat == 10) = true → (a.toNat == 10) = true := by
  intro x hx h10
  have hx10 : x = 10 := UInt8.toNat_inj.1 (by simpa using h10)
  subst hx10
  cases t with
  | nil =>
    simp only [signN] at hx
    split at hx
    · simp at hx; subst hx; rfl
    · simp at hx
  | cons b t =>
    simp only [signN] at hx
    split at hx
    · rename_i hb
      simp only [List.take_succ_cons, List.take_zero, List.mem_cons, List.not_mem_nil, or_false] at hx
      rcases hx with rfl | rfl
      · rfl
      · simp at hb
    · split at hx
      · simp at hx; subst hx; rfl
      · simp at hx

theorem placeF_none : ∀ (s : List UInt8) (l c : Int), (∀ x ∈ s, (x.toNat == 10) = false) → placeF s l c = (l, c + s.length)
  | [], l, c, _ => by simp [placeF]
  | x :: s, l, c, h => by
    rw [placeF, if_neg (by rw [h x (by simp)]; simp), placeF_none s _ _ (fun y hy => h y (by simp [hy]))]
    simp only [List.length_cons]
    congr 1
    omega

theorem ref_go (H : RefCalls call) (s : List UInt8) (a0 b0 : AV) (hs : s.length ≤ 4096) (hf : 5001 < fuel) : ∀ (n i m : Nat) (rows : List AV) (cap : Cap) (σ : Store) (env : Env),
    s.length - i < n → i ≤ s.length → s.length - i < m → rows.length + (s.length - i) ≤ 4999 → keepE [0, 3, 5, 6] env = rEnv s rows cap i → σ[0]? = some (.cells [a0, b0] (some 53)) → OutOk2 rows cap σ →
    ∃ e env' σ', iterA (evalCode call (drawA call G) G fuel i27_L4 none) [0, 3, 5, 6] m env σ = some (e, env', σ') ∧ RefOut s a0 b0 (lexF n (s.drop i) (placeF (s.take i) 1 1).1 (placeF (s.take i) 1 1).2 rows) e env' σ' := by
  intro n
  induction n with
  | zero => intro i m rows cap σ env h; omega
  | succ n ih =>
    intro i m rows cap σ env hn hi hm hr he h0 ho
    obtain ⟨m, rfl⟩ : ∃ m', m = m' + 1 := ⟨m - 1, by omega⟩
    by_cases hend : i = s.length
    · subst hend
      have h1 := ref_end (call := call) (draw := drawA call G) (G := G) (fuel := fuel) s rows cap σ
      rw [← he] at h1
      refine ⟨_, _, _, iterA_out h1 (by simp), ?_⟩
      rw [List.drop_length, List.take_length, lexF]
      exact ⟨rfl, rows, cap, by simp only [keepE_cons, keepE_nil, look, Nat.reduceEqDiff, if_true, if_false, reduceIte], ho, h0, by omega, rfl⟩
    · have hlt : i < s.length := by omega
      have hdrop : s.drop i = s[i] :: s.drop (i + 1) := List.drop_eq_getElem_cons hlt
      -- a round and the rest
      have goOn : ∀ (i' : Nat) (rows' : List AV) (cap' : Cap) (σ' : Store) (env' : Env), evalCode call (drawA call G) G fuel i27_L4 none (rEnv s rows cap i) σ = some (.normal, env', σ') → keepE [0, 3, 5, 6] env' = rEnv s rows' cap' i' →
          i < i' → i' ≤ s.length → rows'.length ≤ rows.length + 1 → σ'[0]? = some (.cells [a0, b0] (some 53)) → OutOk2 rows' cap' σ' →
          ∃ e env' σ', iterA (evalCode call (drawA call G) G fuel i27_L4 none) [0, 3, 5, 6] (m + 1) env σ = some (e, env', σ') ∧ RefOut s a0 b0 (lexF n (s.drop i') (placeF (s.take i') 1 1).1 (placeF (s.take i') 1 1).2 rows') e env' σ' := by
        intro i' rows' cap' σ' env' hst hk h1 h2 h3 h4 h5
        obtain ⟨e, env2, σ2, k1, k2⟩ := ih i' m rows' cap' σ' env' (by omega) h2 (by omega) (by omega) hk h4 h5
        rw [← he] at hst
        exact ⟨e, env2, σ2, by rw [iterA_normal hst]; exact k1, k2⟩
      have out : ∀ (σ' : Store) (line col code : Int), evalCode call (drawA call G) G fuel i27_L4 none (rEnv s rows cap i) σ = some (.ret, [(2, .sl 5 [] .exact), (3, .bp 0 0), (4, .int .i64 code)], σ') → σ'[0]? = some (.cells [.int .i64 line, .int .i64 col] (some 53)) →
          ∃ e env' σ', iterA (evalCode call (drawA call G) G fuel i27_L4 none) [0, 3, 5, 6] (m + 1) env σ = some (e, env', σ') ∧ RefOut s a0 b0 (.err line col code) e env' σ' := by
        intro σ' line col code hst h
        rw [← he] at hst
        exact ⟨_, _, _, iterA_out hst (by simp), rfl, rfl, h⟩
      have kr : ∀ rows cap i, keepE [0, 3, 5, 6] (rEnv s rows cap i) = rEnv s rows cap i := fun rows cap i => by simp only [rEnv, keepE_cons, keepE_nil, look, Nat.reduceEqDiff, if_true, if_false, reduceIte]
      rw [hdrop, lexF, ← hdrop]
      have hplace1 : placeF (s.take (i + 1)) 1 1 = placeF [s[i]] (placeF (s.take i) 1 1).1 (placeF (s.take i) 1 1).2 := by
        rw [List.take_succ_eq_append_getElem hlt, placeF_append]
      by_cases h10 : (s[i].toNat == 10) = true
      · rw [if_pos h10]
        have h1 := ref_blank (call := call) (draw := drawA call G) (G := G) (fuel := fuel) s rows cap i σ hs hlt (by rw [h10]; rfl)
        have := goOn (i + 1) rows cap σ _ h1 (kr _ _ _) (by omega) (by omega) (by omega) h0 ho
        rw [hplace1, placeF, if_pos h10, placeF] at this
        exact this
      · rw [if_neg h10]
        have h10' : (s[i].toNat == 10) = false := by simpa using h10
        by_cases hb : (s[i].toNat == 32 || s[i].toNat == 9) = true
        · rw [if_pos hb]
          have h1 := ref_blank (call := call) (draw := drawA call G) (G := G) (fuel := fuel) s rows cap i σ hs hlt (by rw [h10']; simpa [Bool.or_comm] using hb)
          have := goOn (i + 1) rows cap σ _ h1 (kr _ _ _) (by omega) (by omega) (by omega) h0 ho
          rw [hplace1, placeF, if_neg h10, placeF] at this
          exact this
        · rw [if_neg hb]
          have hb' : (s[i].toNat == 32 || s[i].toNat == 9) = false := by simpa using hb
          by_cases h35 : (s[i].toNat == 35) = true
          · rw [if_pos h35]
            have h1 := ref_hash (call := call) (draw := drawA call G) (G := G) (fuel := fuel) s rows cap i σ hs hlt (by simpa using h35) hf
            have s1 : 1 ≤ spanLen noLf (s.drop i) := by rw [hdrop]; exact spanLen_pos (by simp [noLf, h10'])
            have s2 := spanLen_le noLf (s.drop i)
            rw [List.length_drop] at s2
            have := goOn (i + spanLen noLf (s.drop i)) rows cap σ _ h1 (by simp only [rEnv, List.cons_append, List.nil_append, keepE_cons, keepE_nil, look, Nat.reduceEqDiff, if_true, if_false, reduceIte]) (by omega) (by omega) (by omega) h0 ho
            rw [place_span s i (p := noLf) (fun c hc => by simpa [noLf] using hc)] at this
            rw [List.drop_drop]
            exact this
          · rw [if_neg h35]
            have h35' : (s[i].toNat == 35) = false := by simpa using h35
            by_cases hd : digitB s[i] = true
            · rw [if_pos hd]
              have hl : letterB s[i] = false := by
                have := digit_lt hd
                simp [letterB]; omega
              have s1 : 1 ≤ spanLen digitB (s.drop i) := by rw [hdrop]; exact spanLen_pos hd
              have s2 := spanLen_le digitB (s.drop i)
              rw [List.length_drop] at s2
              have hpd := parse_digits s[i] (s.drop (i + 1)) hd
              rw [← hdrop] at hpd
              rcases hpd with ⟨u, hu⟩ | hu
              · rw [hu]
                obtain ⟨cap', σ', h1, h2, h3⟩ := ref_num H (draw := drawA call G) (G := G) s rows cap i σ a0 b0 h0 ho (by omega) hs hlt hf h10' hb' h35' hl hd u hu
                have := goOn (i + spanLen digitB (s.drop i)) _ cap' σ' _ h1 (kr _ _ _) (by omega) (by omega) (by simp) h3 h2
                rw [place_span s i (p := digitB) (fun c hc => by have := digit_lt hc; rw [beq_eq_false_iff_ne]; omega)] at this
                rw [List.drop_drop]
                exact this
              · rw [hu]
                obtain ⟨σ', h1, h2⟩ := ref_numErr H (G := G) s rows cap i σ a0 b0 h0 hs hlt hf h10' hb' h35' hl hd hu
                exact out σ' _ _ _ h1 h2
            · rw [if_neg hd]
              have hd' : digitB s[i] = false := by simpa using hd
              by_cases hw : letterB s[i] = true
              · rw [if_pos hw]
                have s1 : 1 ≤ spanLen wordB (s.drop i) := by rw [hdrop]; exact spanLen_pos (by simp [wordB, hw])
                have s2 := spanLen_le wordB (s.drop i)
                rw [List.length_drop] at s2
                obtain ⟨cap', σ', h1, h2, h3⟩ := ref_word H (draw := drawA call G) (G := G) s rows cap i σ a0 b0 h0 ho (by omega) hs hlt hf h10' hb' h35' hw
                have := goOn (i + spanLen wordB (s.drop i)) _ cap' σ' _ h1 (kr _ _ _) (by omega) (by omega) (by simp) h3 h2
                rw [place_span s i (p := wordB) (fun c hc => by
                  rw [beq_eq_false_iff_ne]
                  simp only [wordB, Bool.or_eq_true] at hc
                  rcases hc with hc | hc
                  · have := letter_lt hc; omega
                  · have := digit_lt hc; omega)] at this
                rw [List.drop_drop]
                exact this
              · rw [if_neg hw]
                have hw' : letterB s[i] = false := by simpa using hw
                by_cases hg : signN (s.drop i) = 0
                · rw [if_pos hg]
                  obtain ⟨σ', h1, h2⟩ := ref_signErr H (G := G) s rows cap i σ a0 b0 h0 hs hlt hf h10' hb' h35' hw' hd' hg
                  exact out σ' _ _ _ h1 h2
                · rw [if_neg hg]
                  obtain ⟨cap', σ', h1, h2, h3⟩ := ref_sign H (G := G) s rows cap i σ a0 b0 h0 ho (by omega) hs hlt hf h10' hb' h35' hw' hd' hg
                  have s2 : signN (s.drop i) ≤ (s.drop i).length := by rw [hdrop]; exact signN_le _ _
                  have hch : ∀ x ∈ (s.drop i).take (signN (s.drop i)), (x.toNat == 10) = false := by
                    intro x hx
                    rw [hdrop] at hx
                    by_cases hx10 : (x.toNat == 10) = true
                    · exact absurd (sign_chars _ _ x hx hx10) h10
                    · simpa using hx10
                  have hlen : ((s.drop i).take (signN (s.drop i))).length = signN (s.drop i) := by rw [List.length_take]; omega
                  rw [List.length_drop] at s2
                  have := goOn (i + signN (s.drop i)) _ cap' σ' _ h1 (kr _ _ _) (by omega) (by omega) (by simp) h3 h2
                  rw [place_add, placeF_none _ _ _ hch, hlen] at this
                  rw [List.drop_drop]
                  exact this

theorem ref_app0 (rows : List AV) (cap : Cap) (σ : Store) (a0 b0 : AV) (h0 : σ[0]? = some (.cells [a0, b0] (some 53))) (ho : OutOk2 rows cap σ) (hn : rows.length ≤ 5000) (k : Int) (t : List UInt8) (n line col : Int) :
    ∃ cap' σ', appendA σ 62 5 48 (.sl 5 rows cap) (.sl 5 [pieceA k t n line col] .exact) = some (.sl 5 (rows ++ [pieceA k t n line col]) cap', σ') ∧ σ'[0]? = some (.cells [a0, b0] (some 53)) := by
  have hb : 2 * (rows.length + 1) * 48 ≤ 281474976710656 := by omega
  have hlt : 0 < σ.length := (List.getElem?_eq_some_iff.1 h0).1
  rcases ho with ⟨rfl, rfl⟩ | ⟨j, rfl, hj⟩
  · refine ⟨.tok σ.length, σ ++ [.tok 62], ?_, ?_⟩
    · simp [appendA, srcRow, rowOk, pieceA, AV.cells, AV.isCell]
    · rw [List.getElem?_append_left hlt]; exact h0
  · have hj0 : j ≠ 0 := by rintro rfl; rw [h0] at hj; cases hj
    refine ⟨.tok σ.length, σ.set j .dead ++ [.tok 62], ?_, ?_⟩
    · simp only [appendA, srcRow, rowOk, pieceA, AV.cells, AV.isCell, hj, List.all_cons, List.all_nil, List.length_cons, List.length_nil, Bool.and_self, Bool.and_true, and_self, if_true, hb, Nat.reduceAdd, Nat.zero_add, beq_self_eq_true, reduceCtorEq, if_false]
    · rw [List.getElem?_append_left (by simpa using hlt), List.getElem?_set_ne hj0]; exact h0

theorem keep3 {env : Env} {a b c : AV} (h : keepE [0, 3, 5] env = [(0, a), (3, b), (5, c)]) : look env 0 = some a ∧ look env 3 = some b ∧ look env 5 = some c := by
  simp only [keepE_cons, keepE_nil] at h
  cases x0 : look env 0 <;> cases x3 : look env 3 <;> cases x5 : look env 5 <;> simp [x0, x3, x5] at h ⊢
  exact h

theorem ref_spec (H : RefCalls call) (text : List UInt8) (hf : 5001 < fuel) :
    ∃ v σ', evalFn call (drawA call G) G fuel i27 [.str text] [] = some (.ret v, σ') ∧ Seen [.str text] v σ' (lexR text).av := by
  by_cases ht : 4096 < text.length
  · have e1 : ((4096 : Int) < (text.length : Int)) = True := by simp; omega
    refine ⟨_, _, by simp only [evalFn, params, List.length_cons, List.length_nil, Nat.reduceAdd, evalCode, evalOps, guardOk, evalOp, AX.ev, look, putE, val, evs, optEv, binA, intBin, wrapI, unA, callM, keepE_cons, keepE_nil, Nat.reduceEqDiff, if_true, if_false, reduceIte, Int.toNat_natCast, List.append_nil, List.nil_append, List.cons_append, decide_true, decide_false, bft, btf, btt, bff, Bool.false_eq_true, resultsA, oneOrTup, Option.map_some, Option.map_none, Bool.not_true, Bool.not_false, loadAt, storeAt, storeOf, partOf, List.getElem?_cons_zero, List.getElem?_cons_succ, List.set_cons_zero, List.set_cons_succ, AV.cells, AV.isCell, List.all_cons, List.all_nil, Bool.and_true, Bool.and_false, Bool.false_and, Bool.true_and, Bool.and_self, and_true, true_and, and_self, putAt, hasLabel, Bool.or_false, Bool.false_or, Bool.or_true, Bool.true_or, fillA, pickParts, pickSl, strBin, eqA, eqCell, ne_eq, not_true_eq_false, not_false_eq_true, Nat.reduceLeDiff, Nat.reduceLT, Nat.reduceMul, Nat.reduceSub, Nat.zero_add, Nat.add_zero, Option.bind_some, asNat, bounds2, reduceCtorEq, List.take_succ_cons, List.take_zero, List.drop_succ_cons, List.drop_zero, Nat.reduceBEq, List.take_nil, List.drop_nil, Int.reduceLE, Int.reduceLT, Int.reduceToNat, Int.toNat_zero, Int.reduceBEq, Int.le_refl, Nat.le_refl, b2s, srcRow, binA, beq_self_eq_true, bne_self_eq_false, minI, maxI, foldI, Bool.not_not, Int.lt_irrefl, gt_iff_lt, ge_iff_le, List.length_map, AV.undef, i27, e1]; rfl, .inr ⟨rfl, rfl, ?_⟩⟩
    unfold lexR
    rw [if_pos ht]
    rfl
  · have e1 : ((4096 : Int) < (text.length : Int)) = False := by simp; omega
    obtain ⟨e, env, σ', k1, k2⟩ := ref_go (G := G) H text (.int .i64 0) (.int .i64 0) (by omega) hf 4097 0 fuel [] .exact [.cells [.int .i64 0, .int .i64 0] (some 53)] [(0, .str text), (3, .bp 0 0), (5, .sl 5 [] .exact), (6, .int .i64 (0 : Nat))] (by omega) (by omega) (by omega) (by simp; omega) rfl rfl (.inl ⟨rfl, rfl⟩)
    simp only [Int.natCast_zero, List.drop_zero, List.take_zero, placeF] at k1 k2
    unfold lexR
    rw [if_neg ht]
    cases hR : lexF 4097 text 1 1 [] with
    | ok l =>
      rw [hR] at k2
      obtain ⟨rfl, rows, cap, h1, h2, h3, h4, rfl⟩ := k2
      have hflat := lexF_flat _ _ _ _ _ rfl _ hR
      have hp := fun σ => H.place text text.length σ (by omega) (by omega)
      rw [List.take_length] at hp
      simp only [placeAV] at hp
      obtain ⟨cap', σ2, q1, q2⟩ := ref_app0 rows cap σ' _ _ h3 h2 (by omega) 0 [] 0 (placeF text 1 1).1 (placeF text 1 1).2
      simp only [pieceA] at q1
      obtain ⟨l0, l3, l5⟩ := keep3 h1
      have hset : (σ2.set 0 (.cells [.int .i64 0, .int .i64 0] (some 53)))[0]? = some (.cells [.int .i64 0, .int .i64 0] (some 53)) := List.getElem?_set_self (List.getElem?_eq_some_iff.1 q2).1
      refine ⟨.tup [.sl 5 (rows ++ [pieceA 0 [] 0 (placeF text 1 1).1 (placeF text 1 1).2]) cap', .agg [.int .i64 0, .int .i64 0], .int .i64 0], σ2.set 0 (.cells [.int .i64 0, .int .i64 0] (some 53)), ?_, .inr ⟨rfl, rfl, ?_⟩⟩
      · simp only [evalFn, params, List.length_cons, List.length_nil, Nat.reduceAdd, evalCode, evalOps, guardOk, evalOp, AX.ev, look, putE, val, evs, optEv, binA, intBin, wrapI, unA, callM, keepE_cons, keepE_nil, Nat.reduceEqDiff, if_true, if_false, reduceIte, Int.toNat_natCast, List.append_nil, List.nil_append, List.cons_append, decide_true, decide_false, bft, btf, btt, bff, Bool.false_eq_true, resultsA, oneOrTup, Option.map_some, Option.map_none, Bool.not_true, Bool.not_false, loadAt, storeAt, storeOf, partOf, List.getElem?_cons_zero, List.getElem?_cons_succ, List.set_cons_zero, List.set_cons_succ, AV.cells, AV.isCell, List.all_cons, List.all_nil, Bool.and_true, Bool.and_false, Bool.false_and, Bool.true_and, Bool.and_self, and_true, true_and, and_self, putAt, hasLabel, Bool.or_false, Bool.false_or, Bool.or_true, Bool.true_or, fillA, pickParts, pickSl, strBin, eqA, eqCell, ne_eq, not_true_eq_false, not_false_eq_true, Nat.reduceLeDiff, Nat.reduceLT, Nat.reduceMul, Nat.reduceSub, Nat.zero_add, Nat.add_zero, Option.bind_some, asNat, bounds2, reduceCtorEq, List.take_succ_cons, List.take_zero, List.drop_succ_cons, List.drop_zero, Nat.reduceBEq, List.take_nil, List.drop_nil, Int.reduceLE, Int.reduceLT, Int.reduceToNat, Int.toNat_zero, Int.reduceBEq, Int.le_refl, Nat.le_refl, b2s, srcRow, binA, beq_self_eq_true, bne_self_eq_false, minI, maxI, foldI, Bool.not_not, Int.lt_irrefl, gt_iff_lt, ge_iff_le, List.length_map, AV.undef, i27, e1, k1, l0, l3, l5, hp, q1, q2, hset, pieceA, List.replicate_succ, List.replicate_zero, List.flatten_cons, List.flatten_nil, rowOfCells, chunks, Nat.one_mul, Nat.mul_one, Nat.zero_mul]
      · simp only [strip, stripW, stripWs, stripWs_flat _ _ hflat, LexR.av]
    | err line col code =>
      rw [hR] at k2
      obtain ⟨rfl, rfl, h1⟩ := k2
      refine ⟨.tup [.sl 5 [] .exact, .agg [.int .i64 line, .int .i64 col], .int .i64 code], σ', ?_, .inr ⟨rfl, rfl, ?_⟩⟩
      · simp only [evalFn, params, List.length_cons, List.length_nil, Nat.reduceAdd, evalCode, evalOps, guardOk, evalOp, AX.ev, look, putE, val, evs, optEv, binA, intBin, wrapI, unA, callM, keepE_cons, keepE_nil, Nat.reduceEqDiff, if_true, if_false, reduceIte, Int.toNat_natCast, List.append_nil, List.nil_append, List.cons_append, decide_true, decide_false, bft, btf, btt, bff, Bool.false_eq_true, resultsA, oneOrTup, Option.map_some, Option.map_none, Bool.not_true, Bool.not_false, loadAt, storeAt, storeOf, partOf, List.getElem?_cons_zero, List.getElem?_cons_succ, List.set_cons_zero, List.set_cons_succ, AV.cells, AV.isCell, List.all_cons, List.all_nil, Bool.and_true, Bool.and_false, Bool.false_and, Bool.true_and, Bool.and_self, and_true, true_and, and_self, putAt, hasLabel, Bool.or_false, Bool.false_or, Bool.or_true, Bool.true_or, fillA, pickParts, pickSl, strBin, eqA, eqCell, ne_eq, not_true_eq_false, not_false_eq_true, Nat.reduceLeDiff, Nat.reduceLT, Nat.reduceMul, Nat.reduceSub, Nat.zero_add, Nat.add_zero, Option.bind_some, asNat, bounds2, reduceCtorEq, List.take_succ_cons, List.take_zero, List.drop_succ_cons, List.drop_zero, Nat.reduceBEq, List.take_nil, List.drop_nil, Int.reduceLE, Int.reduceLT, Int.reduceToNat, Int.toNat_zero, Int.reduceBEq, Int.le_refl, Nat.le_refl, b2s, srcRow, binA, beq_self_eq_true, bne_self_eq_false, minI, maxI, foldI, Bool.not_not, Int.lt_irrefl, gt_iff_lt, ge_iff_le, List.length_map, AV.undef, i27, e1, k1, h1]
      · rfl
end
end Go.Pm
end

section
set_option linter.unusedSimpArgs false
set_option linter.unusedVariables false
set_option linter.unusedSectionVars false
/- The lexer's functions, one upon the other. -/
set_option maxRecDepth 100000
set_option linter.unusedSimpArgs false
set_option linter.unusedVariables false
namespace Go.Pm

/-- A law of one byte. -/
def byteSpec (p : UInt8 → Bool) : Spec := fun args σ => match args with
  | [.int .u8 n] => if 0 ≤ n ∧ n < 256 then some (.ret (.bool (p (UInt8.ofNat n.toNat))), σ) else none
  | _ => none

theorem byteSpec_at (p : UInt8 → Bool) (c : UInt8) (σ : Store) : byteSpec p [.int .u8 c.toNat] σ = some (.ret (.bool (p c)), σ) := by
  have h1 : (0 ≤ ((c.toNat : Nat) : Int) ∧ ((c.toNat : Nat) : Int) < 256) := by have := c.toNat_lt; omega
  simp only [byteSpec, if_pos h1, Int.toNat_natCast, UInt8.ofNat_toNat]

theorem byteSpec_some {p : UInt8 → Bool} {args : List AV} {σ : Store} {r : AOut × Store} (h : byteSpec p args σ = some r) : ∃ c : UInt8, args = [.int .u8 c.toNat] ∧ r = (.ret (.bool (p c)), σ) := by
  unfold byteSpec at h
  split at h
  · rename_i n
    split at h
    · rename_i hn
      cases h
      have e : ((UInt8.ofNat n.toNat).toNat : Int) = n := by
        rw [UInt8.toNat_ofNat']
        rw [Nat.mod_eq_of_lt (by omega)]
        omega
      exact ⟨UInt8.ofNat n.toNat, by rw [e], rfl⟩
    · cases h
  · cases h

variable {P : Program} {G : Globals}

theorem byte_step {call : CallA} (hc : CallS P G call) (hm : P.follows .mixedOrders = true) (hG : GPure G) {f : FuncId} {af : AFunc} (hok : okAt P f af = true) {p : UInt8 → Bool}
    (h : ∀ (c : UInt8) σ, ∃ fuel, evalFn call (drawA call G) G fuel af [.int .u8 c.toNat] σ = some (.ret (.bool (p c)), σ)) : CallS P G (atF f (byteSpec p)) :=
  CallS.step hc hm hG hok fun args σ r hs => by
    obtain ⟨c, rfl, rfl⟩ := byteSpec_some hs
    exact h c σ
end Go.Pm
end

section
set_option linter.unusedSimpArgs false
set_option linter.unusedVariables false
set_option linter.unusedSectionVars false
/- The lexer's functions, one upon the other: all of them. -/
set_option maxRecDepth 100000
set_option linter.unusedSimpArgs false
set_option linter.unusedVariables false
namespace Go.Pm
open Go.Proofs

def runSpec : Spec := fun args σ => match args with
  | [.str s, .fn (.func f) [] []] =>
    if s.length ≤ 5000 then
      if f = 58 then some (.ret (.int .i64 (spanLen noLf s)), σ) else
      if f = 59 then some (.ret (.int .i64 (spanLen digitB s)), σ) else
      if f = 62 then some (.ret (.int .i64 (spanLen wordB s)), σ) else none
    else none
  | _ => none

def signSpec : Spec := fun args σ => match args with
  | [.str (a :: s)] => if s.length ≤ 5000 then some (.ret (.int .i64 (signN (a :: s))), σ) else none
  | _ => none

def takeSpec : Spec := fun args σ => match args, σ with
  | [.int .i64 n, .bp 0 0, .bp 2 0], .cells [.str text] (some 9) :: r :: .cells [.int .i64 line, .int .i64 col] (some 53) :: rest =>
    if 0 ≤ n ∧ n.toNat ≤ text.length ∧ text.length ≤ 5000 ∧ 0 ≤ col ∧ col ≤ 100000 then
      some (.ret (.str (text.take n.toNat)), lexS (text.drop n.toNat) r line (col + n.toNat) rest) else none
  | _, _ => none

section
variable {G : Globals}

/-- What is asked of the library's answers. -/
structure LibCalls (O : CallA) : Prop where
  contains : ∀ (s t : List UInt8) σ, s.length < 100 → t.length < 100 → O 101 [.str s, .str t] σ = some (.ret (.bool (containsB t s)), σ)
  parse : Parse O

def lexA (O : CallA) : CallA := orC (atF 59 (byteSpec digitB)) (orC (atF 61 (byteSpec letterB)) (orC (atF 58 (byteSpec noLf)) O))
def lexB (O : CallA) : CallA := orC (atF 62 (byteSpec wordB)) (lexA O)
def lexC (O : CallA) : CallA := orC (atF 57 runSpec) (orC (atF 63 signSpec) (orC (atF 56 takeSpec) (lexB O)))

theorem lexA_sound {O : CallA} (hO : CallS Tryd.prog G O) (hm : Tryd.prog.follows .mixedOrders = true) (hG : GPure G) : CallS Tryd.prog G (lexA O) :=
  (byte_step CallS.none hm hG ok59 fun c σ => ⟨0, digit_spec c σ⟩).or ((byte_step CallS.none hm hG ok61 fun c σ => ⟨0, letter_spec c σ⟩).or ((byte_step CallS.none hm hG ok58 fun c σ => ⟨0, noLf_spec c σ⟩).or hO))

theorem lexB_sound {O : CallA} (hO : CallS Tryd.prog G O) (hm : Tryd.prog.follows .mixedOrders = true) (hG : GPure G) : CallS Tryd.prog G (lexB O) := by
  have hA := lexA_sound hO hm hG
  refine (byte_step hA hm hG ok62 fun c σ => ⟨0, word_spec ?_ ?_ c σ⟩).or hA
  · intro c σ; simp only [lexA, orC, atF, if_true, byteSpec_at]
  · intro c σ; simp only [lexA, orC, atF, if_true, byteSpec_at, show ¬ (61 = 59) by decide, if_false]


theorem run_any {call : CallA} {f : FuncId} {p : UInt8 → Bool} (hp : ∀ (c : UInt8) σ, call f [.int .u8 c.toNat] σ = some (.ret (.bool (p c)), σ)) {s : List UInt8} (hs : s.length ≤ 5000) (σ : Store) :
    ∃ fuel, evalFn call (drawA call G) G fuel i57 [.str s, .fn (.func f) [] []] σ = some (.ret (.int .i64 (spanLen p s)), σ) :=
  ⟨s.length + 1, run_spec s f p σ (by omega) (by omega) (fun c => hp c σ)⟩

theorem lexC_sound {O : CallA} (hO : CallS Tryd.prog G O) (hL : LibCalls O) (hm : Tryd.prog.follows .mixedOrders = true) (hG : GPure G) : CallS Tryd.prog G (lexC O) := by
  have hB := lexB_sound hO hm hG
  have h59 : ∀ (c : UInt8) σ, lexB O 59 [.int .u8 c.toNat] σ = some (.ret (.bool (digitB c)), σ) := fun c σ => by
    simp only [lexB, lexA, orC, atF, if_true, byteSpec_at, show ¬ (59 = 62) by decide, if_false]
  have h58 : ∀ (c : UInt8) σ, lexB O 58 [.int .u8 c.toNat] σ = some (.ret (.bool (noLf c)), σ) := fun c σ => by
    simp only [lexB, lexA, orC, atF, if_true, byteSpec_at, show ¬ (58 = 62) by decide, show ¬ (58 = 59) by decide, show ¬ (58 = 61) by decide, if_false]
  have h62 : ∀ (c : UInt8) σ, lexB O 62 [.int .u8 c.toNat] σ = some (.ret (.bool (wordB c)), σ) := fun c σ => by
    simp only [lexB, orC, atF, if_true, byteSpec_at]
  have h101 : ∀ (s t : List UInt8) σ, s.length < 100 → t.length < 100 → lexB O 101 [.str s, .str t] σ = some (.ret (.bool (containsB t s)), σ) := fun s t σ a b => by
    simp only [lexB, lexA, orC, atF, show ¬ (101 = 62) by decide, show ¬ (101 = 59) by decide, show ¬ (101 = 58) by decide, show ¬ (101 = 61) by decide, if_false, hL.contains s t σ a b]
  refine (CallS.step hB hm hG ok57 fun args σ r hs => ?_).or ((CallS.step hB hm hG ok63 fun args σ r hs => ?_).or ((CallS.step hB hm hG ok56 fun args σ r hs => ?_).or hB))
  · unfold runSpec at hs
    split at hs
    · rename_i s f
      split at hs
      · rename_i hl
        split at hs
        · rename_i e; subst e; cases hs; exact run_any h58 hl σ
        · split at hs
          · rename_i e; subst e; cases hs; exact run_any h59 hl σ
          · split at hs
            · rename_i e; subst e; cases hs; exact run_any h62 hl σ
            · cases hs
      · cases hs
    · cases hs
  · unfold signSpec at hs
    split at hs
    · rename_i a s
      split at hs
      · rename_i hl
        cases hs
        exact ⟨0, sign_spec h101 a s σ (by omega)⟩
      · cases hs
    · cases hs
  · unfold takeSpec at hs
    split at hs
    · rename_i n text r' line col rest
      split at hs
      · rename_i hc
        cases hs
        obtain ⟨h1, h2, h3, h4, h5⟩ := hc
        refine ⟨0, ?_⟩
        have := take_spec (call := lexB O) (draw := drawA (lexB O) G) (G := G) (fuel := 0) text r' line col rest n.toNat h2 h3 h4 h5
        rw [Int.toNat_of_nonneg h1] at this
        rw [Int.toNat_of_nonneg h1]
        exact this
      · cases hs
    · cases hs
end
end Go.Pm
end

section
set_option linter.unusedSimpArgs false
set_option linter.unusedVariables false
set_option linter.unusedSectionVars false
/- The lexer, sound, as its callers see it. -/
set_option maxRecDepth 100000
set_option linter.unusedSimpArgs false
set_option linter.unusedVariables false
namespace Go.Pm
open Go.Proofs
section
variable {G : Globals}

theorem lexC_calls {O : CallA} (hL : LibCalls O) : LexCalls (lexC O) where
  take := fun text r line col rest n h1 h2 h3 h4 => by
    have e : (0 ≤ (n : Int) ∧ (n : Int).toNat ≤ text.length ∧ text.length ≤ 5000 ∧ 0 ≤ col ∧ col ≤ 100000) := by
      rw [Int.toNat_natCast]; exact ⟨by omega, h1, h2, h3, h4⟩
    simp only [lexC, orC, atF, show ¬ (56 = 57) by decide, show ¬ (56 = 63) by decide, if_true, if_false, takeSpec, lexS]
    rw [if_pos e, Int.toNat_natCast]
  lf := fun s σ h => by simp only [lexC, orC, atF, if_true, runSpec, if_pos h]
  digits := fun s σ h => by simp only [lexC, orC, atF, if_true, if_false, runSpec, if_pos h, show ¬ (59 = 58) by decide]
  word := fun s σ h => by simp only [lexC, orC, atF, if_true, if_false, runSpec, if_pos h, show ¬ (62 = 58) by decide, show ¬ (62 = 59) by decide]
  digit := fun c σ => by simp only [lexC, lexB, lexA, orC, atF, if_true, if_false, byteSpec_at, show ¬ (59 = 57) by decide, show ¬ (59 = 63) by decide, show ¬ (59 = 56) by decide, show ¬ (59 = 62) by decide]
  letter := fun c σ => by simp only [lexC, lexB, lexA, orC, atF, if_true, if_false, byteSpec_at, show ¬ (61 = 57) by decide, show ¬ (61 = 63) by decide, show ¬ (61 = 56) by decide, show ¬ (61 = 62) by decide, show ¬ (61 = 59) by decide]
  parse := fun s σ h => by
    have e : lexC O 60 [.str s, .int .i64 10, .int .i64 64] σ = O 60 [.str s, .int .i64 10, .int .i64 64] σ := by
      simp only [lexC, lexB, lexA, orC, atF, if_false, show ¬ (60 = 57) by decide, show ¬ (60 = 63) by decide, show ¬ (60 = 56) by decide, show ¬ (60 = 62) by decide, show ¬ (60 = 59) by decide, show ¬ (60 = 61) by decide, show ¬ (60 = 58) by decide]
    rw [e]
    exact hL.parse s σ h
  sign := fun a s σ h => by simp only [lexC, orC, atF, if_true, if_false, signSpec, if_pos h, show ¬ (63 = 57) by decide]

/-- The lexer's answer, with what it leaves in its store. -/
noncomputable def lexSpec (O : CallA) (G : Globals) : Spec := fun args σ => match args, σ with
  | [.str text], [] => evalFn (lexC O) (drawA (lexC O) G) G 20000 i26 [.str text] []
  | _, _ => none

noncomputable def lexD (O : CallA) (G : Globals) : CallA := orC (atF 26 (lexSpec O G)) (lexC O)

theorem lexD_sound {O : CallA} (hO : CallS Tryd.prog G O) (hL : LibCalls O) (hm : Tryd.prog.follows .mixedOrders = true) (hG : GPure G) : CallS Tryd.prog G (lexD O G) := by
  have hC := lexC_sound hO hL hm hG
  refine (CallS.step hC hm hG ok26 fun args σ r hs => ?_).or hC
  unfold lexSpec at hs
  split at hs
  · exact ⟨20000, hs⟩
  · cases hs

theorem lexD_lexes {O : CallA} (hL : LibCalls O) : Lexes (lexD O G) := by
  refine lexes_of fun text => ?_
  obtain ⟨v, σ', h1, h2⟩ := lex_spec (G := G) (fuel := 20000) (lexC_calls hL) text (Nat.le_refl _)
  refine ⟨v, σ', ?_, h2⟩
  simp only [lexD, orC, atF, if_true, lexSpec, h1]
end
end Go.Pm
end

section
set_option linter.unusedSimpArgs false
set_option linter.unusedVariables false
set_option linter.unusedSectionVars false
/- What strings.Contains answers. -/
set_option linter.unusedVariables false
namespace Go.Pm

theorem prefixB_eq : ∀ (t s : List UInt8), prefixB t s = t.isPrefixOf s
  | [], _ => by simp [prefixB]
  | _ :: _, [] => by simp [prefixB]
  | a :: asl, b :: bs => by simp [prefixB, List.isPrefixOf, prefixB_eq asl bs]

theorem containsB_eq (t : List UInt8) : ∀ s, containsB t s = Lib.contains s t
  | [] => by
    unfold Lib.contains Lib.index containsB
    rw [prefixB_eq]
    cases t <;> rfl
  | b :: s => by
    have ih := containsB_eq t s
    have hg := Lib.index_ge s t
    unfold Lib.contains at ih ⊢
    unfold Lib.index containsB
    rw [prefixB_eq, ih]
    cases hp : t.isPrefixOf (b :: s) with
    | true => simp
    | false =>
      simp only [Bool.false_or, Bool.false_eq_true, if_false]
      by_cases h : Lib.index s t = -1
      · simp [h]
      · have : (Lib.index s t == -1) = false := by simp [h]
        rw [this]
        simp only [Bool.false_eq_true, if_false]
        congr 1
        apply propext
        omega
end Go.Pm
end

section
set_option linter.unusedSimpArgs false
set_option linter.unusedVariables false
set_option linter.unusedSectionVars false
/- What strings.Contains and strconv.ParseUint answer: sound. -/
set_option linter.unusedVariables false
namespace Go.Pm
open Go.Proofs
open Go.RowKit (Below)

def containsSpec : Spec := fun args σ => match args with
  | [.str s, .str t] => if s.length < 4294967281 then some (.ret (.bool (containsB t s)), σ) else none
  | _ => none

theorem contains_sound {G : Globals} (m : Int) (hG : G 5 = some [.int .i64 m]) : CallS Tryd.prog G (atF 101 containsSpec) := by
  intro f args σ r σ' h
  unfold atF at h
  split at h
  case isFalse => cases h
  rename_i e
  subst e
  unfold containsSpec at h
  split at h
  case h_2 => cases h
  rename_i s t
  split at h
  case isFalse => cases h
  rename_i hs
  cases h
  refine ⟨⟨Tryd.f101, Tryd.func101, by kernel_rfl, by kernel_rfl⟩, ?_⟩
  intro B C w vs sr gr ha
  obtain ⟨v, us, rfl, h1, h2⟩ := ha.cons_inv
  obtain ⟨u, us', rfl, h3, h4⟩ := h2.cons_inv
  obtain rfl := h4.nil_inv
  cases h1
  cases h3
  obtain ⟨ms, k1, k2, k3⟩ := gr 5 _ hG
  cases ms with
  | nil => simp at k1
  | cons mv ms =>
    have hmv := k3 0 _ mv rfl rfl
    cases hmv
    obtain ⟨c, e, fr, q1, q2⟩ := sr.im 5 0 _ (k2 0 _ rfl)
    have hcell : w.cell? ⟨5, 0, none⟩ = some (.int .i64 m) := by rw [cell_of_row q1]; exact q2
    refine (Tryd.strings_Contains ⟨s.toArray⟩ ⟨t.toArray⟩ m w (by simpa [ByteArray.size] using hs) hcell).mono fun e w' ⟨he, hw⟩ => ?_
    subst he; subst hw
    refine ⟨C, .refl _ _, sr, .refl _ _, _, rfl, ?_⟩
    rw [containsB_eq]
    exact .bool

def parseSpec : Spec := fun args σ => match args with
  | [.str s, .int .i64 b, .int .i64 z] =>
    if b = 10 ∧ z = 64 ∧ s.length ≤ 5000 then
      match Lib.parseUintB 64 s with
      | .ok u => some (.ret (.tup [.int .u64 u, .nili]), σ)
      | .range => some (.ret (.tup [.int .u64 18446744073709551615, .iface 153 (.ip 1 [] 0 0)]), σ)
      | _ => none
    else none
  | _ => none

theorem VR.any_ptr {C : Ctx} (b : Nat) : VR C (.ip 1 [] 0 0) (.pointer (some ⟨b, 0, none⟩)) := by
  have := VR.ip (C := C) (sz := 1) (row := []) (i := 0) (off := 0) (b := b) (o := 0) (vs := []) (by simp) rfl (by simp) (by simp)
  simpa using this

theorem VR.two {C : Ctx} {a b : AV} {u v : Value} (h : VR C a u) (k : VR C b v) : VR C (.tup [a, b]) (.tuple #[u, v]) :=
  .tup rfl (VRs.cons h (.cons k (.nil _))).at_

theorem parse_sound {G : Globals} (T : TypeId) (x : AV) (hG : G 3 = some [.iface T x]) : CallS Tryd.prog G (atF 60 parseSpec) := by
  intro f args σ r σ' h
  unfold atF at h
  split at h
  case isFalse => cases h
  rename_i e
  subst e
  unfold parseSpec at h
  split at h
  case h_2 => cases h
  rename_i s b z
  split at h
  case isFalse => cases h
  rename_i hs
  obtain ⟨rfl, rfl, hs⟩ := hs
  refine ⟨⟨Tryd.f60, Tryd.func60, by kernel_rfl, by kernel_rfl⟩, ?_⟩
  intro B C w vs sr gr ha
  obtain ⟨v, us, rfl, h1, h2⟩ := ha.cons_inv
  obtain ⟨u, us', rfl, h3, h4⟩ := h2.cons_inv
  obtain ⟨u', us'', rfl, h5, h6⟩ := h4.cons_inv
  obtain rfl := h6.nil_inv
  cases h1
  cases h3
  cases h5
  have hsz : (⟨s.toArray⟩ : ByteArray).size = s.length := by simp [ByteArray.size]
  split at h
  · rename_i u hp
    cases h
    refine (Tryd.strconv_ParseUint_10_at64_ok ⟨s.toArray⟩ (by omega) u (by simpa using hp) w).mono fun e w' ⟨he, hw⟩ => ?_
    subst he
    have hb : Below w.heap.size w w' := by
      rcases hw with rfl | rfl
      · exact .refl _ _
      · exact Lib.bytesWorld_below _ _ _
    exact ⟨C, .refl _ _, sr.of_below hb, hb.mono sr.hB, _, rfl, .two .int .nili⟩
  · rename_i hp
    cases h
    obtain ⟨ms, k1, k2, k3⟩ := gr 3 _ hG
    cases ms with
    | nil => simp at k1
    | cons mv ms =>
      have hmv := k3 0 _ mv rfl rfl
      cases hmv
      rename_i pv hpv
      obtain ⟨c, e, fr, q1, q2⟩ := sr.im 3 0 _ (k2 0 _ rfl)
      have hcell : w.cell? ⟨3, 0, none⟩ = some (.iface T pv) := by rw [cell_of_row q1]; exact q2
      refine (Tryd.strconv_ParseUint_10_at64_range ⟨s.toArray⟩ (by omega) (by simpa using hp) _ w hcell (.inr ⟨_, _, rfl⟩)).mono fun e w' ⟨N, he, _, _, hb⟩ => ?_
      subst he
      exact ⟨C, .refl _ _, sr.of_below hb, hb.mono sr.hB, _, rfl, .two .int (.iface (VR.any_ptr N))⟩
  · cases h

def lexO : CallA := orC (atF 101 containsSpec) (atF 60 parseSpec)
theorem lexO_sound {G : Globals} (m : Int) (hG : G 5 = some [.int .i64 m]) (T : TypeId) (x : AV) (hG3 : G 3 = some [.iface T x]) : CallS Tryd.prog G lexO :=
  (contains_sound m hG).or (parse_sound T x hG3)
theorem lexO_calls : LibCalls lexO where
  contains := fun s t σ h _ => by
    have : s.length < 4294967281 := by omega
    simp only [lexO, orC, atF, if_true, containsSpec, if_pos this]
  parse := fun s σ h => by
    have e : lexO 60 [.str s, .int .i64 10, .int .i64 64] σ = parseSpec [.str s, .int .i64 10, .int .i64 64] σ := by
      simp only [lexO, orC, atF, if_true, show ¬ (60 = 101) by decide, if_false]
    rw [e]
    constructor
    · intro u hu; exact ⟨σ, by simp only [parseSpec, h, and_self, if_true, hu]⟩
    · intro hu; exact ⟨σ, by simp only [parseSpec, h, and_self, if_true, hu]⟩
end Go.Pm
end

section
set_option linter.unusedSimpArgs false
set_option linter.unusedVariables false
set_option linter.unusedSectionVars false
/- The lexer, as a pure function; what wakes it. -/
set_option maxRecDepth 100000
set_option linter.unusedSimpArgs false
set_option linter.unusedVariables false
namespace Go.Pm
open Go.Proofs

def lexV : List AV → Option AV
  | [.str t] => some (lexR t).av
  | _ => none

def lexP : CallA := atF 26 (pureS lexV)

theorem lexP_sound {G : Globals} (m : Int) (hG5 : G 5 = some [.int .i64 m]) (T : TypeId) (x : AV) (hG3 : G 3 = some [.iface T x]) (hG : GPure G) : CallS Tryd.prog G lexP := by
  have hm : Tryd.prog.follows .mixedOrders = true := by kernel_rfl
  have h := (lexD_sound (lexO_sound m hG5 T x hG3) lexO_calls hm hG).close hG
  intro f args σ r σ' h'
  unfold lexP atF at h'
  split at h'
  · rename_i e
    subst e
    unfold pureS lexV at h'
    split at h'
    · rename_i v hv
      split at hv
      · cases hv; cases h'
        exact h 26 _ σ _ _ (lexD_lexes (G := G) lexO_calls _ σ)
      · cases hv
    · cases h'
  · cases h'

theorem lexR_flat {text : List UInt8} {l : List AV} (h : lexR text = .ok l) : flatvs l = true := by
  unfold lexR at h
  split at h
  · cases h
  · exact lexF_flat _ _ _ _ _ rfl l h

theorem lexP_lexes : Lexes lexP := by
  intro text σ
  have h1 : lexP 26 [.str text] [] = some (.ret (lexR text).av, []) := by simp only [lexP, atF, if_true, pureS, lexV]
  cases hR : lexR text with
  | ok l =>
    rw [hR] at h1
    simp only [LexR.av] at h1
    simp only [callC, strips, stripWs, stripW, h1, AV.flatv, flatvs, Bool.false_and, puress, AV.pure, strip, stripWs_flat _ l (lexR_flat hR), LexR.av]
    rfl
  | err line col code =>
    rw [hR] at h1
    simp only [LexR.av] at h1
    simp only [callC, strips, stripWs, stripW, h1, AV.flatv, flatvs, Bool.false_and, puress, AV.pure, strip, LexR.av]
    rfl

theorem wakes25 {G : Globals} : ∃ σ', evalFn lexP (drawA lexP G) G 100 i25 [] [] = some (.ret (.bool true), σ') := by
  have h : (match evalFn lexP (drawA lexP G) G 100 i25 [] [] with | some (.ret (.bool true), _) => true | _ => false) = true := by kernel_rfl
  split at h
  · exact ⟨_, by assumption⟩
  · cases h

/-- The lexer, and what wakes it. -/
def lexW : CallA := orC (atF 25 (pureS fun a => match a with | [] => some (.bool true) | _ => none)) lexP

theorem lexW_sound {G : Globals} (m : Int) (hG5 : G 5 = some [.int .i64 m]) (T : TypeId) (x : AV) (hG3 : G 3 = some [.iface T x]) (hG : GPure G) : CallS Tryd.prog G lexW := by
  have hm : Tryd.prog.follows .mixedOrders = true := by kernel_rfl
  have hP := lexP_sound m hG5 T x hG3 hG
  refine (CallS.pure hP hm hG ok25 fun args v h => ?_).or hP
  cases args with
  | cons _ _ => cases h
  | nil =>
    cases h
    obtain ⟨σ', h⟩ := wakes25 (G := G)
    exact ⟨rfl, 100, _, σ', h, .inl ⟨rfl, rfl⟩⟩

theorem lexW_lexes : Lexes lexW := by
  intro text σ
  rw [← lexP_lexes text σ]
  have e : ∀ a σ, lexW 26 a σ = lexP 26 a σ := fun a σ => by
    simp only [lexW, orC, atF, show ¬ (26 = 25) by decide, if_false]
  simp only [callC, e]
end Go.Pm
end

section
set_option linter.unusedSimpArgs false
set_option linter.unusedVariables false
set_option linter.unusedSectionVars false
/- LexTells comes to true. -/
set_option maxRecDepth 100000
set_option linter.unusedSimpArgs false
set_option linter.unusedVariables false
namespace Go.Pm
open Go.Proofs

def placeV : List AV → Option AV
  | [.str s, .int .i64 n] => if 0 ≤ n ∧ n.toNat ≤ s.length ∧ s.length ≤ 4096 then some (placeAV (s.take n.toNat)) else none
  | _ => none
def wordV : List AV → Option AV
  | [.int .u8 n, .bool b] => if 0 ≤ n ∧ n < 256 then some (.bool (letterB (UInt8.ofNat n.toNat) || (!b && digitB (UInt8.ofNat n.toNat)))) else none
  | _ => none
def numV : List AV → Option AV
  | [.str (c :: t)] => if (c :: t).length ≤ 4096 ∧ (c :: t).all digitB = true then
      match Lib.parseUintB 64 (c :: t) with
      | .ok u => some (.tup [.int .u64 u, .bool true])
      | .range => some (.tup [.int .u64 0, .bool false])
      | _ => none
    else none
  | _ => none
def signsV : List AV → Option AV
  | [] => some (.sl 1 signsAV .no)
  | _ => none

def refB : CallA := orC (atF 64 (pureS placeV)) (orC (atF 65 (pureS wordV)) (orC (atF 66 (pureS numV)) (atF 67 (pureS signsV))))

theorem refB_sound {G : Globals} (hG : GPure G) : CallS Tryd.prog G refB := by
  have hm : Tryd.prog.follows .mixedOrders = true := by kernel_rfl
  refine (CallS.pure CallS.none hm hG ok64 fun args v h => ?_).or ((CallS.pure CallS.none hm hG ok65 fun args v h => ?_).or ((CallS.pure CallS.none hm hG ok66 fun args v h => ?_).or (CallS.pure CallS.none hm hG ok67 fun args v h => ?_)))
  · unfold placeV at h
    split at h
    · rename_i s n
      split at h
      · rename_i hc
        cases h
        obtain ⟨h1, h2, h3⟩ := hc
        obtain ⟨σ', he⟩ := place_spec (call := noCall) (draw := drawA noCall G) (G := G) (fuel := 6000) s n.toNat h2 (by omega) (by omega)
        rw [Int.toNat_of_nonneg h1] at he
        exact ⟨rfl, 6000, _, σ', he, .inl ⟨rfl, rfl⟩⟩
      · cases h
    · cases h
  · unfold wordV at h
    split at h
    · rename_i n b
      split at h
      · rename_i hn
        cases h
        have e : ((UInt8.ofNat n.toNat).toNat : Int) = n := by
          rw [UInt8.toNat_ofNat', Nat.mod_eq_of_lt (by omega)]; omega
        have he := rword_spec (call := noCall) (draw := drawA noCall G) (G := G) (fuel := 0) (UInt8.ofNat n.toNat) b []
        rw [e] at he
        exact ⟨rfl, 0, _, [], he, .inl ⟨rfl, rfl⟩⟩
      · cases h
    · cases h
  · unfold numV at h
    split at h
    · rename_i c t
      split at h
      · rename_i hc
        have hd : ∀ x ∈ c :: t, digitB x = true := fun x hx => List.all_eq_true.1 hc.2 x hx
        have he := number_spec (call := noCall) (draw := drawA noCall G) (G := G) (fuel := 6000) c t [] (by omega) hd (by omega)
        split at h
        · rename_i u hu; cases h; exact ⟨rfl, 6000, _, [], he.1 u hu, .inl ⟨rfl, rfl⟩⟩
        · rename_i hu; cases h; exact ⟨rfl, 6000, _, [], he.2 hu, .inl ⟨rfl, rfl⟩⟩
        · cases h
      · cases h
    · cases h
  · unfold signsV at h
    split at h
    · cases h; exact ⟨rfl, 0, _, [], signs_spec, .inr ⟨rfl, rfl, rfl⟩⟩
    · cases h

theorem refB_calls : RefCalls refB where
  place := fun s n σ h1 h2 => by
    refine callC_eq (r := placeAV (s.take n)) (σ' := []) rfl ?_ (.inl ⟨rfl, rfl⟩)
    have e : (0 ≤ (n : Int) ∧ (n : Int).toNat ≤ s.length ∧ s.length ≤ 4096) := by rw [Int.toNat_natCast]; omega
    simp only [refB, orC, atF, if_true, pureS, placeV]
    rw [if_pos e, Int.toNat_natCast]
  word := fun c b σ => by
    refine callC_eq (r := .bool (letterB c || (!b && digitB c))) (σ' := []) rfl ?_ (.inl ⟨rfl, rfl⟩)
    have e : (0 ≤ ((c.toNat : Nat) : Int) ∧ ((c.toNat : Nat) : Int) < 256) := by have := c.toNat_lt; omega
    simp only [refB, orC, atF, if_true, if_false, show ¬ (65 = 64) by decide, pureS, wordV, if_pos e, Int.toNat_natCast, UInt8.ofNat_toNat]
  num := fun c t σ h1 h2 => by
    have e : ((c :: t).length ≤ 4096 ∧ (c :: t).all digitB = true) := ⟨h1, List.all_eq_true.2 h2⟩
    constructor
    · intro u hu
      refine callC_eq (r := .tup [.int .u64 u, .bool true]) (σ' := []) rfl ?_ (.inl ⟨rfl, rfl⟩)
      simp only [refB, orC, atF, if_true, if_false, show ¬ (66 = 64) by decide, show ¬ (66 = 65) by decide, pureS, numV, if_pos e, hu]
    · intro hu
      refine callC_eq (r := .tup [.int .u64 0, .bool false]) (σ' := []) rfl ?_ (.inl ⟨rfl, rfl⟩)
      simp only [refB, orC, atF, if_true, if_false, show ¬ (66 = 64) by decide, show ¬ (66 = 65) by decide, pureS, numV, if_pos e, hu]
  signs := fun σ => callC_eq (r := .sl 1 signsAV .no) (σ' := []) rfl rfl (.inr ⟨rfl, rfl, rfl⟩)

/-- Both lexers, and what wakes them. -/
def lexX : CallA := orC (atF 27 (pureS lexV)) lexW

theorem lexX_sound {G : Globals} (m : Int) (hG5 : G 5 = some [.int .i64 m]) (T : TypeId) (x : AV) (hG3 : G 3 = some [.iface T x]) (hG : GPure G) : CallS Tryd.prog G lexX := by
  have hm : Tryd.prog.follows .mixedOrders = true := by kernel_rfl
  refine (CallS.pure (refB_sound hG) hm hG ok27 fun args v h => ?_).or (lexW_sound m hG5 T x hG3 hG)
  unfold lexV at h
  split at h
  · rename_i t
    cases h
    obtain ⟨v, σ', h1, h2⟩ := ref_spec (G := G) (fuel := 6000) refB_calls t (by omega)
    exact ⟨rfl, 6000, v, σ', h1, h2⟩
  · cases h

theorem lexR_av_seen (text args : List AV) (hp : puress text = true) (t : List UInt8) : Seen text (lexR t).av [] (lexR t).av := by
  cases hR : lexR t with
  | ok l => exact .inr ⟨rfl, hp, by simp only [strip, stripW, stripWs, stripWs_flat _ l (lexR_flat hR), LexR.av]⟩
  | err line col code => exact .inr ⟨rfl, hp, rfl⟩

theorem lexX_26 (text : List UInt8) (σ : Store) : callC lexX 26 [.str text] σ = some (.ret (lexR text).av, σ) :=
  callC_eq (r := (lexR text).av) (σ' := []) rfl (by simp only [lexX, lexW, lexP, orC, atF, if_true, if_false, show ¬ (26 = 27) by decide, show ¬ (26 = 25) by decide, pureS, lexV]) (lexR_av_seen _ [] rfl text)
theorem lexX_27 (text : List UInt8) (σ : Store) : callC lexX 27 [.str text] σ = some (.ret (lexR text).av, σ) :=
  callC_eq (r := (lexR text).av) (σ' := []) rfl (by simp only [lexX, orC, atF, if_true, pureS, lexV]) (lexR_av_seen _ [] rfl text)
theorem lexX_25 (σ : Store) : callC lexX 25 [] σ = some (.ret (.bool true), σ) := rfl

/-- The pieces' form. -/
def Pieces (l : List AV) : Prop := ∀ x ∈ l, ∃ k t n line col, x = pieceA k t n line col

theorem lexF_pieces : ∀ (n : Nat) (text : List UInt8) (line col : Int) (acc : List AV), Pieces acc → ∀ l, lexF n text line col acc = .ok l → Pieces l
  | 0, _, _, _, _, _, l, h => by simp [lexF] at h
  | n + 1, [], line, col, acc, ha, l, h => by
    simp only [lexF, LexR.ok.injEq] at h; subst h
    intro x hx
    rcases List.mem_append.1 hx with hx | hx
    · exact ha x hx
    · simp at hx; exact ⟨_, _, _, _, _, hx⟩
  | n + 1, c :: t, line, col, acc, ha, l, h => by
    have hp : ∀ k tx nn, Pieces (acc ++ [pieceA k tx nn line col]) := fun k tx nn x hx => by
      rcases List.mem_append.1 hx with hx | hx
      · exact ha x hx
      · simp at hx; exact ⟨_, _, _, _, _, hx⟩
    simp only [lexF] at h
    repeat' split at h
    all_goals first
      | (cases h; done)
      | exact lexF_pieces n _ _ _ _ ha l h
      | exact lexF_pieces n _ _ _ _ (hp _ _ _) l h

theorem lexR_pieces {text : List UInt8} {l : List AV} (h : lexR text = .ok l) : Pieces l := by
  unfold lexR at h
  split at h
  · cases h
  · exact lexF_pieces _ _ _ _ _ (by intro x hx; cases hx) l h

theorem lexF_len : ∀ (n : Nat) (text : List UInt8) (line col : Int) (acc : List AV) l, lexF n text line col acc = .ok l → acc.length < l.length ∧ l.length ≤ acc.length + text.length + 1
  | 0, _, _, _, _, l, h => by simp [lexF] at h
  | n + 1, [], line, col, acc, l, h => by
    simp only [lexF, LexR.ok.injEq] at h; subst h; simp
  | n + 1, c :: t, line, col, acc, l, h => by
    simp only [lexF] at h
    split at h
    · have := lexF_len n _ _ _ _ l h; simp only [List.length_cons]; omega
    · split at h
      · have := lexF_len n _ _ _ _ l h; simp only [List.length_cons]; omega
      · split at h
        · have := lexF_len n _ _ _ _ l h; simp only [List.length_drop, List.length_cons] at this ⊢; omega
        · split at h
          · rename_i hd
            split at h
            · have := lexF_len n _ _ _ _ l h
              have s1 : 1 ≤ spanLen digitB (c :: t) := spanLen_pos hd
              simp only [List.length_drop, List.length_append, List.length_cons, List.length_nil] at this ⊢; omega
            · cases h
          · split at h
            · rename_i hw
              have := lexF_len n _ _ _ _ l h
              have s1 : 1 ≤ spanLen wordB (c :: t) := spanLen_pos (by simp [wordB, hw])
              simp only [List.length_drop, List.length_append, List.length_cons, List.length_nil] at this ⊢; omega
            · split at h
              · cases h
              · have := lexF_len n _ _ _ _ l h
                have hs2 := signN_le c t
                simp only [List.length_drop, List.length_append, List.length_cons, List.length_nil] at this hs2 ⊢; omega

theorem lexR_len {text : List UInt8} {l : List AV} (h : lexR text = .ok l) : 0 < l.length ∧ l.length ≤ text.length + 1 := by
  unfold lexR at h
  split at h
  · cases h
  · have := lexF_len _ _ _ _ _ l h; simp at this; omega

section
variable {call : CallA} {G : Globals} {fuel : Nat}

theorem tells_on (l : List AV) (i : Nat) (σ : Store) (hl : l.length ≤ 5001) (hi : i < l.length) (k : Int) (t : List UInt8) (n line col : Int) (hp : l[i]? = some (pieceA k t n line col)) :
    evalCode call (drawA call G) G fuel i5_L0 none [(3, .sl 5 l .no), (6, .sl 5 l .no), (9, .int .i64 i)] σ = some (.normal, [(3, .sl 5 l .no), (6, .sl 5 l .no), (9, .int .i64 (i + 1 : Nat))], σ) := by
  have e1 : ((i : Int) < (l.length : Int)) = True := by simp; omega
  have e2 : (0 ≤ (i : Int)) = True := by simp
  have e4 : IntKind.i64.wrap ((i : Int) + 1) = ((i + 1 : Nat) : Int) := by rw [wrap_i64] <;> omega
  simp only [pieceA] at hp
  simp only [evalFn, params, List.length_cons, List.length_nil, Nat.reduceAdd, evalCode, evalOps, guardOk, evalOp, AX.ev, look, putE, val, evs, optEv, binA, intBin, wrapI, unA, callM, keepE_cons, keepE_nil, Nat.reduceEqDiff, if_true, if_false, reduceIte, Int.toNat_natCast, List.append_nil, List.nil_append, List.cons_append, decide_true, decide_false, bft, btf, btt, bff, Bool.false_eq_true, resultsA, oneOrTup, Option.map_some, Option.map_none, Bool.not_true, Bool.not_false, loadAt, storeAt, storeOf, partOf, List.getElem?_cons_zero, List.getElem?_cons_succ, List.set_cons_zero, List.set_cons_succ, AV.cells, AV.isCell, List.all_cons, List.all_nil, Bool.and_true, Bool.and_false, Bool.false_and, Bool.true_and, Bool.and_self, and_true, true_and, and_self, putAt, hasLabel, Bool.or_false, Bool.false_or, Bool.or_true, Bool.true_or, fillA, pickParts, pickSl, strBin, eqA, eqCell, ne_eq, not_true_eq_false, not_false_eq_true, Nat.reduceLeDiff, Nat.reduceLT, Nat.reduceMul, Nat.reduceSub, Nat.zero_add, Nat.add_zero, Option.bind_some, asNat, bounds2, reduceCtorEq, List.take_succ_cons, List.take_zero, List.drop_succ_cons, List.drop_zero, Nat.reduceBEq, List.take_nil, List.drop_nil, Int.reduceLE, Int.reduceLT, Int.reduceToNat, Int.toNat_zero, Int.reduceBEq, Int.le_refl, Nat.le_refl, b2s, srcRow, binA, beq_self_eq_true, bne_self_eq_false, minI, maxI, foldI, Bool.not_not, Int.lt_irrefl, gt_iff_lt, ge_iff_le, List.length_map, AV.undef, puress, AV.pure, strip, drawA, goD, stepG, stepD, bornD, readsD, births, AOp.births, Eff.app, pairsD, loudsD, loudD, conflict, apart, AOp.shares, List.getD_cons_succ, List.getD_cons_zero, List.contains_cons, List.contains_nil, Bool.not_or, Option.getD_some, Option.getD_none, Nat.reduceBNe, List.replicate_zero, List.append_nil, i5_L0, e1, e2, e4, hp, eqFields]

theorem tells_off (l : List AV) (σ : Store) {draw : DrawA} :
    evalCode call draw G fuel i5_L0 none [(3, .sl 5 l .no), (6, .sl 5 l .no), (9, .int .i64 l.length)] σ = some (.exit 0, [(3, .sl 5 l .no), (6, .sl 5 l .no), (9, .int .i64 l.length), (44, .bool false)], σ) := by
  have e1 : ((l.length : Int) < (l.length : Int)) = False := by simp
  simp only [evalFn, params, List.length_cons, List.length_nil, Nat.reduceAdd, evalCode, evalOps, guardOk, evalOp, AX.ev, look, putE, val, evs, optEv, binA, intBin, wrapI, unA, callM, keepE_cons, keepE_nil, callC, strips, stripWs, stripW, AV.flatv, flatvs, Nat.reduceEqDiff, if_true, if_false, reduceIte, Int.toNat_natCast, List.append_nil, List.nil_append, List.cons_append, decide_true, decide_false, bft, btf, btt, bff, Bool.false_eq_true, resultsA, oneOrTup, Option.map_some, Option.map_none, Bool.not_true, Bool.not_false, loadAt, storeAt, storeOf, partOf, List.getElem?_cons_zero, List.getElem?_cons_succ, List.set_cons_zero, List.set_cons_succ, AV.cells, AV.isCell, List.all_cons, List.all_nil, Bool.and_true, Bool.and_false, Bool.false_and, Bool.true_and, Bool.and_self, and_true, true_and, and_self, putAt, hasLabel, Bool.or_false, Bool.false_or, Bool.or_true, Bool.true_or, fillA, pickParts, pickSl, strBin, eqA, eqCell, ne_eq, not_true_eq_false, not_false_eq_true, Nat.reduceLeDiff, Nat.reduceLT, Nat.reduceMul, Nat.reduceSub, Nat.zero_add, Nat.add_zero, Option.bind_some, asNat, bounds2, reduceCtorEq, List.take_succ_cons, List.take_zero, List.drop_succ_cons, List.drop_zero, Nat.reduceBEq, List.take_nil, List.drop_nil, Int.reduceLE, Int.reduceLT, Int.reduceToNat, Int.toNat_zero, Int.reduceBEq, Int.le_refl, Nat.le_refl, AV.undef, beq_self_eq_true, bne_self_eq_false, Bool.not_not, Int.lt_irrefl, gt_iff_lt, ge_iff_le, i5_L0, e1]

theorem tells_loop (l : List AV) (σ : Store) (hl : l.length ≤ 5001) (hp : Pieces l) : ∀ (k i f : Nat), i + k = l.length → k < f →
    iterA (evalCode call (drawA call G) G fuel i5_L0 none) [3, 6, 9] f [(3, .sl 5 l .no), (6, .sl 5 l .no), (9, .int .i64 i)] σ = some (.exit 0, [(3, .sl 5 l .no), (6, .sl 5 l .no), (9, .int .i64 l.length), (44, .bool false)], σ) := by
  intro k
  induction k with
  | zero =>
    intro i f hi hf
    obtain ⟨f, rfl⟩ : ∃ f', f = f' + 1 := ⟨f - 1, by omega⟩
    obtain rfl : i = l.length := by omega
    exact iterA_out (by simpa only [keepE_cons, keepE_nil, look, Nat.reduceEqDiff, if_true, if_false, reduceIte] using tells_off l σ) (by simp)
  | succ k ih =>
    intro i f hi hf
    obtain ⟨f, rfl⟩ : ∃ f', f = f' + 1 := ⟨f - 1, by omega⟩
    have hlt : i < l.length := by omega
    obtain ⟨kk, t, n, line, col, hx⟩ := hp l[i] (List.getElem_mem hlt)
    have h1 := tells_on (call := call) (G := G) (fuel := fuel) l i σ hl hlt kk t n line col (by rw [List.getElem?_eq_getElem hlt, hx])
    rw [iterA_normal (by simpa only [keepE_cons, keepE_nil, look, Nat.reduceEqDiff, if_true, if_false, reduceIte] using h1)]
    exact ih (i + 1) f (by omega) (by omega)

theorem tells_spec (text : List UInt8) : ∃ σ', evalFn lexX (drawA lexX G) G 6000 i5 [.str text] [] = some (.ret (.bool true), σ') := by
  by_cases ht : 5000 < text.length
  · have e1 : ((5000 : Int) < (text.length : Int)) = True := by simp; omega
    exact ⟨_, by simp only [evalFn, params, List.length_cons, List.length_nil, Nat.reduceAdd, evalCode, evalOps, guardOk, evalOp, AX.ev, look, putE, val, evs, optEv, binA, intBin, wrapI, unA, callM, keepE_cons, keepE_nil, Nat.reduceEqDiff, if_true, if_false, reduceIte, Int.toNat_natCast, List.append_nil, List.nil_append, List.cons_append, decide_true, decide_false, bft, btf, btt, bff, Bool.false_eq_true, resultsA, oneOrTup, Option.map_some, Option.map_none, Bool.not_true, Bool.not_false, loadAt, storeAt, storeOf, partOf, List.getElem?_cons_zero, List.getElem?_cons_succ, List.set_cons_zero, List.set_cons_succ, AV.cells, AV.isCell, List.all_cons, List.all_nil, Bool.and_true, Bool.and_false, Bool.false_and, Bool.true_and, Bool.and_self, and_true, true_and, and_self, putAt, hasLabel, Bool.or_false, Bool.false_or, Bool.or_true, Bool.true_or, fillA, pickParts, pickSl, strBin, eqA, eqCell, ne_eq, not_true_eq_false, not_false_eq_true, Nat.reduceLeDiff, Nat.reduceLT, Nat.reduceMul, Nat.reduceSub, Nat.zero_add, Nat.add_zero, Option.bind_some, asNat, bounds2, reduceCtorEq, List.take_succ_cons, List.take_zero, List.drop_succ_cons, List.drop_zero, Nat.reduceBEq, List.take_nil, List.drop_nil, Int.reduceLE, Int.reduceLT, Int.reduceToNat, Int.toNat_zero, Int.reduceBEq, Int.le_refl, Nat.le_refl, b2s, srcRow, binA, beq_self_eq_true, bne_self_eq_false, minI, maxI, foldI, Bool.not_not, Int.lt_irrefl, gt_iff_lt, ge_iff_le, List.length_map, AV.undef, i5, e1, lexX_25]; rfl⟩
  · have e1 : ((5000 : Int) < (text.length : Int)) = False := by simp; omega
    have h26 := lexX_26 text
    have h27 := lexX_27 text
    cases hR : lexR text with
    | ok l =>
      rw [hR] at h26 h27
      simp only [LexR.av] at h26 h27
      obtain ⟨l1, l2⟩ := lexR_len hR
      have hl := fun σ => tells_loop (call := lexX) (G := G) (fuel := 6000) l σ (by omega) (lexR_pieces hR) l.length 0 6000 (by omega) (by omega)
      simp only [Int.natCast_zero] at hl
      exact ⟨_, by simp only [evalFn, params, List.length_cons, List.length_nil, Nat.reduceAdd, evalCode, evalOps, guardOk, evalOp, AX.ev, look, putE, val, evs, optEv, binA, intBin, wrapI, unA, callM, keepE_cons, keepE_nil, Nat.reduceEqDiff, if_true, if_false, reduceIte, Int.toNat_natCast, List.append_nil, List.nil_append, List.cons_append, decide_true, decide_false, bft, btf, btt, bff, Bool.false_eq_true, resultsA, oneOrTup, Option.map_some, Option.map_none, Bool.not_true, Bool.not_false, loadAt, storeAt, storeOf, partOf, List.getElem?_cons_zero, List.getElem?_cons_succ, List.set_cons_zero, List.set_cons_succ, AV.cells, AV.isCell, List.all_cons, List.all_nil, Bool.and_true, Bool.and_false, Bool.false_and, Bool.true_and, Bool.and_self, and_true, true_and, and_self, putAt, hasLabel, Bool.or_false, Bool.false_or, Bool.or_true, Bool.true_or, fillA, pickParts, pickSl, strBin, eqA, eqCell, ne_eq, not_true_eq_false, not_false_eq_true, Nat.reduceLeDiff, Nat.reduceLT, Nat.reduceMul, Nat.reduceSub, Nat.zero_add, Nat.add_zero, Option.bind_some, asNat, bounds2, reduceCtorEq, List.take_succ_cons, List.take_zero, List.drop_succ_cons, List.drop_zero, Nat.reduceBEq, List.take_nil, List.drop_nil, Int.reduceLE, Int.reduceLT, Int.reduceToNat, Int.toNat_zero, Int.reduceBEq, Int.le_refl, Nat.le_refl, b2s, srcRow, binA, beq_self_eq_true, bne_self_eq_false, minI, maxI, foldI, Bool.not_not, Int.lt_irrefl, gt_iff_lt, ge_iff_le, List.length_map, AV.undef, i5, e1, h26, h27, hl, lexX_25, eqFields]; rfl⟩
    | err line col code =>
      rw [hR] at h26 h27
      simp only [LexR.av] at h26 h27
      have hl := fun σ => tells_loop (call := lexX) (G := G) (fuel := 6000) [] σ (by simp) (by intro x hx; cases hx) 0 0 6000 rfl (by omega)
      simp only [Int.natCast_zero, List.length_nil] at hl
      exact ⟨_, by simp only [evalFn, params, List.length_cons, List.length_nil, Nat.reduceAdd, evalCode, evalOps, guardOk, evalOp, AX.ev, look, putE, val, evs, optEv, binA, intBin, wrapI, unA, callM, keepE_cons, keepE_nil, Nat.reduceEqDiff, if_true, if_false, reduceIte, Int.toNat_natCast, List.append_nil, List.nil_append, List.cons_append, decide_true, decide_false, bft, btf, btt, bff, Bool.false_eq_true, resultsA, oneOrTup, Option.map_some, Option.map_none, Bool.not_true, Bool.not_false, loadAt, storeAt, storeOf, partOf, List.getElem?_cons_zero, List.getElem?_cons_succ, List.set_cons_zero, List.set_cons_succ, AV.cells, AV.isCell, List.all_cons, List.all_nil, Bool.and_true, Bool.and_false, Bool.false_and, Bool.true_and, Bool.and_self, and_true, true_and, and_self, putAt, hasLabel, Bool.or_false, Bool.false_or, Bool.or_true, Bool.true_or, fillA, pickParts, pickSl, strBin, eqA, eqCell, ne_eq, not_true_eq_false, not_false_eq_true, Nat.reduceLeDiff, Nat.reduceLT, Nat.reduceMul, Nat.reduceSub, Nat.zero_add, Nat.add_zero, Option.bind_some, asNat, bounds2, reduceCtorEq, List.take_succ_cons, List.take_zero, List.drop_succ_cons, List.drop_zero, Nat.reduceBEq, List.take_nil, List.drop_nil, Int.reduceLE, Int.reduceLT, Int.reduceToNat, Int.toNat_zero, Int.reduceBEq, Int.le_refl, Nat.le_refl, b2s, srcRow, binA, beq_self_eq_true, bne_self_eq_false, minI, maxI, foldI, Bool.not_not, Int.lt_irrefl, gt_iff_lt, ge_iff_le, List.length_map, AV.undef, i5, e1, h26, h27, hl, lexX_25, eqFields]; rfl⟩
end
end Go.Pm
end
