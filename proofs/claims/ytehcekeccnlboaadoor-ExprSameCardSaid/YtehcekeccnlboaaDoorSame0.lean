/- ExprSame: the proof. Here: PmxEnc, DEx1, DEx2, DShelf3, DFmt, DNum, DTx1, DTx2, DTx3, DTx4, DTx5, DSame, DEx3, DDoc1, DDoc2, DDoc3, DDoc4 -/
import Derived.Test.YtehcekeccnlboaaDoorB3
import Derived.KernelRfl
import Derived.Shelf.Strconv.Itoa2
import Derived.Shelf.Strconv.Itoa1
import Derived.Test.YtehcekeccnlboaaDoorProg
import Derived.Lib.ItoaMem
import Derived.Lib.AppendIntMem
import Derived.Lib.Walk
import Derived.WalkKit
import Derived.BigCall
import Derived.BigGuard
import Derived.Lib.BitFns

section
set_option linter.unusedSimpArgs false
set_option linter.unusedVariables false
set_option linter.unusedSectionVars false
/- The pure machine: specifications over encoded plain data. -/
set_option linter.unusedVariables false
namespace Go.Pm
variable {P : Program} {G : Globals}

open Classical in
/-- What a function answers, told of the plain data that its arguments encode. -/
noncomputable def encS {X : Type} (enc : X → List AV) (dom : X → Prop) (out : X → AV) : List AV → Option AV := fun args =>
  if h : ∃ x, args = enc x ∧ dom x then some (out (Classical.choose h)) else Option.none

theorem encS_some {X : Type} {enc : X → List AV} {dom : X → Prop} {out : X → AV} {args : List AV} {v : AV} (h : encS enc dom out args = some v) : ∃ x, args = enc x ∧ dom x ∧ v = out x := by
  unfold encS at h
  split at h
  · rename_i hx
    cases h
    exact ⟨_, (Classical.choose_spec hx).1, (Classical.choose_spec hx).2, rfl⟩
  · cases h

theorem encS_eq {X : Type} {enc : X → List AV} {dom : X → Prop} {out : X → AV} (inj : ∀ x y, dom x → dom y → enc x = enc y → out x = out y) {x : X} (hx : dom x) : encS enc dom out (enc x) = some (out x) := by
  unfold encS
  have h : ∃ y, enc x = enc y ∧ dom y := ⟨x, rfl, hx⟩
  rw [dif_pos h]
  have := Classical.choose_spec h
  rw [inj _ _ hx this.2 this.1]

/-- A function over what its callees answer. -/
theorem CallS.enc {call : CallA} (hc : CallS P G call) (hm : P.follows .mixedOrders = true) (hG : GPure G) {f : FuncId} {af : AFunc} (hok : okAt P f af = true) {X : Type} (enc : X → List AV) (dom : X → Prop) (out : X → AV)
    (hs : ∀ x, dom x → Bare (enc x) ∧ ∃ fuel r σ', evalFn call (drawA call G) G fuel af (enc x) [] = some (.ret r, σ') ∧ Seen (enc x) r σ' (out x)) : CallS P G (atF f (pureS (encS enc dom out))) :=
  CallS.pure hc hm hG hok fun args v h => by
    obtain ⟨x, rfl, hx, rfl⟩ := encS_some h
    exact hs x hx

/-- A function that calls itself; 'dom n': where it goes no deeper than n. -/
theorem CallS.encRec {call : CallA} (hc : CallS P G call) (hm : P.follows .mixedOrders = true) (hG : GPure G) {f : FuncId} {af : AFunc} (hok : okAt P f af = true) {X : Type} (enc : X → List AV) (dom : Nat → X → Prop) (out : X → AV) (h0 : ∀ x, ¬ dom 0 x)
    (hs : ∀ n x, dom (n + 1) x → Bare (enc x) ∧ ∃ fuel r σ', evalFn (orC (atF f (pureS (encS enc (dom n) out))) call) (drawA (orC (atF f (pureS (encS enc (dom n) out))) call) G) G fuel af (enc x) [] = some (.ret r, σ') ∧ Seen (enc x) r σ' (out x)) : ∀ n, CallS P G (atF f (pureS (encS enc (dom n) out)))
  | 0 => by
    intro g args σ r σ' h
    unfold atF at h
    split at h
    · unfold pureS at h
      split at h
      · rename_i v hv
        obtain ⟨x, _, hx, _⟩ := encS_some hv
        exact absurd hx (h0 x)
      · cases h
    · cases h
  | n + 1 => CallS.enc ((CallS.encRec hc hm hG hok enc dom out h0 hs n).or hc) hm hG hok enc (dom (n + 1)) out (hs n)

/-- What a caller sees of it. -/
theorem callC_enc {call : CallA} {f : FuncId} {X : Type} {enc : X → List AV} {dom : X → Prop} {out : X → AV} (inj : ∀ x y, dom x → dom y → enc x = enc y → out x = out y) {x : X} (hx : dom x) (hb : Bare (enc x)) (hs : Seen (enc x) (out x) [] (out x)) (σ : Store) :
    callC (orC (atF f (pureS (encS enc dom out))) call) f (enc x) σ = some (.ret (out x), σ) :=
  callC_eq hb (by unfold orC atF pureS; rw [if_pos rfl, encS_eq inj hx]) hs

/-- .. and of what lies behind it. -/
theorem callC_or {call call' : CallA} {f : FuncId} {args : List AV} {σ : Store} (h : ∀ a τ, call f a τ = Option.none) : callC (orC call call') f args σ = callC call' f args σ := by
  have e : ∀ a τ, orC call call' f a τ = call' f a τ := fun a τ => by unfold orC; rw [h a τ]
  simp only [callC, e]
theorem callC_at {call' : CallA} {f g : FuncId} {s : Spec} {args : List AV} {σ : Store} (h : f ≠ g) : callC (orC (atF g s) call') f args σ = callC call' f args σ :=
  callC_or fun a τ => by unfold atF; rw [if_neg h]

theorem seen_flat {args : List AV} {r : AV} {σ : Store} (h : r.flatv = true) : Seen args r σ r := .inl ⟨h, rfl⟩

/-! ### Layers -/

/-- A call answers so, for whoever calls it from outside. -/
def Has (call : CallA) (f : FuncId) {X : Type} (enc : X → List AV) (dom : X → Prop) (out : X → AV) : Prop := ∀ x σ, dom x → callC call f (enc x) σ = some (.ret (out x), σ)

theorem Has.over {call : CallA} {f g : FuncId} {s : Spec} {X : Type} {enc : X → List AV} {dom : X → Prop} {out : X → AV} (h : Has call f enc dom out) (hne : f ≠ g) : Has (orC (atF g s) call) f enc dom out := fun x σ hx => by
  rw [callC_at hne]; exact h x σ hx
theorem Has.self {call : CallA} {f : FuncId} {X : Type} {enc : X → List AV} {dom : X → Prop} {out : X → AV} (inj : ∀ x y, dom x → dom y → enc x = enc y → out x = out y) (hb : ∀ x, dom x → Bare (enc x)) (hs : ∀ x, dom x → Seen (enc x) (out x) [] (out x)) :
    Has (orC (atF f (pureS (encS enc dom out))) call) f enc dom out := fun x σ hx => callC_enc inj hx (hb x hx) (hs x hx) σ
theorem Has.mono {call : CallA} {f : FuncId} {X : Type} {enc : X → List AV} {dom dom' : X → Prop} {out : X → AV} (h : Has call f enc dom out) (hd : ∀ x, dom' x → dom x) : Has call f enc dom' out := fun x σ hx => h x σ (hd x hx)

/-! ### Cells, constructor by constructor -/

theorem ic_bool (b : Bool) : AV.isCell (.bool b) = true := rfl
theorem ce_bool (b : Bool) : AV.cells (.bool b) = [.bool b] := rfl
theorem ic_int (k : IntKind) (n : Int) : AV.isCell (.int k n) = true := rfl
theorem ce_int (k : IntKind) (n : Int) : AV.cells (.int k n) = [.int k n] := rfl
theorem ic_str (s : List UInt8) : AV.isCell (.str s) = true := rfl
theorem ce_str (s : List UInt8) : AV.cells (.str s) = [.str s] := rfl
theorem ic_flt (k : FloatKind) (b : Nat) : AV.isCell (.flt k b) = true := rfl
theorem ce_flt (k : FloatKind) (b : Nat) : AV.cells (.flt k b) = [.flt k b] := rfl
theorem ic_cplx (k : FloatKind) (a b : Nat) : AV.isCell (.cplx k a b) = true := rfl
theorem ce_cplx (k : FloatKind) (a b : Nat) : AV.cells (.cplx k a b) = [.cplx k a b] := rfl
theorem ic_nilp  : AV.isCell (.nilp) = true := rfl
theorem ce_nilp  : AV.cells (.nilp) = [.nilp] := rfl
theorem ic_ip (s : Nat) (r : List AV) (i o : Nat) : AV.isCell (.ip s r i o) = true := rfl
theorem ce_ip (s : Nat) (r : List AV) (i o : Nat) : AV.cells (.ip s r i o) = [.ip s r i o] := rfl
theorem ic_bp (i o : Nat) : AV.isCell (.bp i o) = true := rfl
theorem ce_bp (i o : Nat) : AV.cells (.bp i o) = [.bp i o] := rfl
theorem ic_sl (s : Nat) (r : List AV) (c : Cap) : AV.isCell (.sl s r c) = true := rfl
theorem ce_sl (s : Nat) (r : List AV) (c : Cap) : AV.cells (.sl s r c) = [.sl s r c] := rfl
theorem ic_bs (s i o l : Nat) : AV.isCell (.bs s i o l) = true := rfl
theorem ce_bs (s i o l : Nat) : AV.cells (.bs s i o l) = [.bs s i o l] := rfl
theorem ic_nilm  : AV.isCell (.nilm) = true := rfl
theorem ce_nilm  : AV.cells (.nilm) = [.nilm] := rfl
theorem ic_map (i : Nat) : AV.isCell (.map i) = true := rfl
theorem ce_map (i : Nat) : AV.cells (.map i) = [.map i] := rfl
theorem ic_fn (f : Fn) (a b : List AV) : AV.isCell (.fn f a b) = true := rfl
theorem ce_fn (f : Fn) (a b : List AV) : AV.cells (.fn f a b) = [.fn f a b] := rfl
theorem ic_nilf  : AV.isCell (.nilf) = true := rfl
theorem ce_nilf  : AV.cells (.nilf) = [.nilf] := rfl
theorem ic_iface (t : TypeId) (v : AV) : AV.isCell (.iface t v) = true := rfl
theorem ce_iface (t : TypeId) (v : AV) : AV.cells (.iface t v) = [.iface t v] := rfl
theorem ic_nili  : AV.isCell (.nili) = true := rfl
theorem ce_nili  : AV.cells (.nili) = [.nili] := rfl
theorem ic_agg (c : List AV) : AV.isCell (.agg c) = false := rfl
theorem ce_agg (c : List AV) : AV.cells (.agg c) = c := rfl
end Go.Pm
end

section
set_option linter.unusedSimpArgs false
set_option linter.unusedVariables false
set_option linter.unusedSectionVars false
/- Expressions as plain data: trees; their depth, whether they may be. -/
set_option maxRecDepth 100000
set_option linter.unusedSimpArgs false
set_option linter.unusedVariables false
namespace Go.Pm
open Go.Proofs Go.Proofs.YtehcekeccnlboaaDoor

/-- A tree of expressions, whatever it is. -/
inductive T where
  | nil
  | node (k o n t i x : Int) (l r : T)

def T.av : T → AV
  | .nil => .nilp
  | .node k o n t i x l r => .ip 8 [.agg [.int .u8 k, .int .u8 o, .int .u64 n, .int .u8 t, .int .u8 i, .int .u8 x, l.av, r.av]] 0 0

theorem T.av_inj : ∀ {a b : T}, a.av = b.av → a = b
  | .nil, .nil, _ => rfl
  | .nil, .node .., h => by simp [T.av] at h
  | .node .., .nil, h => by simp [T.av] at h
  | .node k o n t i x l r, .node k' o' n' t' i' x' l' r', h => by
    simp only [T.av, AV.ip.injEq, List.cons.injEq, AV.agg.injEq, AV.int.injEq, true_and, and_true] at h
    obtain ⟨rfl, rfl, rfl, rfl, rfl, rfl, hl, hr⟩ := h
    rw [T.av_inj hl, T.av_inj hr]

theorem T.pure : ∀ t : T, t.av.pure = true
  | .nil => rfl
  | .node k o n t i x l r => by simp only [T.av, AV.pure, puress, T.pure l, T.pure r, Bool.and_true, Bool.and_self]
theorem T.bare (f : Nat → Option (List AV)) : ∀ t : T, stripW f t.av = some t.av
  | .nil => rfl
  | .node k o n t i x l r => by simp only [T.av, stripW, stripWs, T.bare f l, T.bare f r]
theorem T.isCell : ∀ t : T, t.av.isCell = true
  | .nil => rfl
  | .node .. => rfl
theorem T.cells : ∀ t : T, t.av.cells = [t.av]
  | .nil => rfl
  | .node .. => rfl

def T.height : T → Nat
  | .nil => 0
  | .node _ _ _ _ _ _ l r => max l.height r.height + 1

/-- A tree's depth, as far as it is looked at. -/
def depthT : Nat → T → Nat
  | 0, _ => 0
  | _ + 1, .nil => 0
  | n + 1, .node _ _ _ _ _ _ l r => max (depthT n l) (depthT n r) + 1

theorem depthT_le : ∀ (n : Nat) (t : T), depthT n t ≤ n
  | 0, _ => by simp [depthT]
  | n + 1, .nil => by simp [depthT]
  | n + 1, .node k o m t i x l r => by
    have := depthT_le n l
    have := depthT_le n r
    simp only [depthT]; omega

section
variable {call : CallA} {G : Globals} {fuel : Nat}

theorem max_int (a b : Nat) : (if (a : Int) < (b : Int) then (b : Int) else (a : Int)) = ((max a b : Nat) : Int) := by
  split <;> omega

theorem depth_nil {draw : DrawA} (m : Int) (σ : Store) : evalFn call draw G fuel i55 [.nilp, .int .i64 m] σ = some (.ret (.int .i64 0), σ) := by
  simp only [evalFn, params, List.length_cons, List.length_nil, Nat.reduceAdd, evalCode, evalOps, guardOk, evalOp, AX.ev, look, putE, val, evs, optEv, binA, intBin, wrapI, unA, callM, keepE_cons, keepE_nil, Nat.reduceEqDiff, if_true, if_false, reduceIte, Int.toNat_natCast, List.append_nil, List.nil_append, List.cons_append, decide_true, decide_false, bft, btf, btt, bff, Bool.false_eq_true, resultsA, oneOrTup, Option.map_some, Option.map_none, Bool.not_true, Bool.not_false, loadAt, storeAt, storeOf, partOf, List.getElem?_cons_zero, List.getElem?_cons_succ, List.set_cons_zero, List.set_cons_succ, AV.cells, AV.isCell, List.all_cons, List.all_nil, Bool.and_true, Bool.and_false, Bool.false_and, Bool.true_and, Bool.and_self, and_true, true_and, and_self, putAt, hasLabel, Bool.or_false, Bool.false_or, Bool.or_true, Bool.true_or, fillA, pickParts, pickSl, strBin, eqA, eqCell, ne_eq, not_true_eq_false, not_false_eq_true, Nat.reduceLeDiff, Nat.reduceLT, Nat.reduceMul, Nat.reduceSub, Nat.zero_add, Nat.add_zero, Option.bind_some, asNat, bounds2, reduceCtorEq, List.take_succ_cons, List.take_zero, List.drop_succ_cons, List.drop_zero, Nat.reduceBEq, List.take_nil, List.drop_nil, Int.reduceLE, Int.reduceLT, Int.reduceToNat, Int.toNat_zero, Int.reduceBEq, Int.le_refl, Nat.le_refl, b2s, srcRow, binA, beq_self_eq_true, bne_self_eq_false, minI, maxI, foldI, Bool.not_not, Int.lt_irrefl, gt_iff_lt, ge_iff_le, List.length_map, AV.undef, i55]
theorem depth_zero {draw : DrawA} (t : T) (σ : Store) : evalFn call draw G fuel i55 [t.av, .int .i64 0] σ = some (.ret (.int .i64 0), σ) := by
  cases t with
  | nil => exact depth_nil 0 σ
  | node => simp only [evalFn, params, List.length_cons, List.length_nil, Nat.reduceAdd, evalCode, evalOps, guardOk, evalOp, AX.ev, look, putE, val, evs, optEv, binA, intBin, wrapI, unA, callM, keepE_cons, keepE_nil, Nat.reduceEqDiff, if_true, if_false, reduceIte, Int.toNat_natCast, List.append_nil, List.nil_append, List.cons_append, decide_true, decide_false, bft, btf, btt, bff, Bool.false_eq_true, resultsA, oneOrTup, Option.map_some, Option.map_none, Bool.not_true, Bool.not_false, loadAt, storeAt, storeOf, partOf, List.getElem?_cons_zero, List.getElem?_cons_succ, List.set_cons_zero, List.set_cons_succ, AV.cells, AV.isCell, List.all_cons, List.all_nil, Bool.and_true, Bool.and_false, Bool.false_and, Bool.true_and, Bool.and_self, and_true, true_and, and_self, putAt, hasLabel, Bool.or_false, Bool.false_or, Bool.or_true, Bool.true_or, fillA, pickParts, pickSl, strBin, eqA, eqCell, ne_eq, not_true_eq_false, not_false_eq_true, Nat.reduceLeDiff, Nat.reduceLT, Nat.reduceMul, Nat.reduceSub, Nat.zero_add, Nat.add_zero, Option.bind_some, asNat, bounds2, reduceCtorEq, List.take_succ_cons, List.take_zero, List.drop_succ_cons, List.drop_zero, Nat.reduceBEq, List.take_nil, List.drop_nil, Int.reduceLE, Int.reduceLT, Int.reduceToNat, Int.toNat_zero, Int.reduceBEq, Int.le_refl, Nat.le_refl, b2s, srcRow, binA, beq_self_eq_true, bne_self_eq_false, minI, maxI, foldI, Bool.not_not, Int.lt_irrefl, gt_iff_lt, ge_iff_le, List.length_map, AV.undef, i55, T.av]

theorem depth_node (k o n t i x : Int) (l r : T) (m : Nat) (hm : m < 100) (h : ∀ (t : T) σ, callC call 55 [t.av, .int .i64 m] σ = some (.ret (.int .i64 (depthT m t)), σ)) :
    evalFn call (drawA call G) G fuel i55 [(T.node k o n t i x l r).av, .int .i64 (m + 1 : Nat)] [] = some (.ret (.int .i64 (depthT (m + 1) (.node k o n t i x l r))), []) := by
  have e1 : (((m + 1 : Nat) : Int) == 0) = false := by rw [beq_eq_false_iff_ne]; omega
  have e2 : IntKind.i64.wrap (((m + 1 : Nat) : Int) - 1) = (m : Int) := by rw [wrap_i64] <;> omega
  have b1 := depthT_le m l
  have b2 := depthT_le m r
  have e3 : IntKind.i64.wrap (1 + ((max (depthT m l) (depthT m r) : Nat) : Int)) = ((max (depthT m l) (depthT m r) + 1 : Nat) : Int) := by rw [wrap_i64] <;> omega
  have p1 := T.pure l
  have p2 := T.pure r
  have c1 := T.isCell l
  have c2 := T.isCell r
  simp only [evalFn, params, List.length_cons, List.length_nil, Nat.reduceAdd, evalCode, evalOps, guardOk, evalOp, AX.ev, look, putE, val, evs, optEv, binA, intBin, wrapI, unA, callM, keepE_cons, keepE_nil, Nat.reduceEqDiff, if_true, if_false, reduceIte, Int.toNat_natCast, List.append_nil, List.nil_append, List.cons_append, decide_true, decide_false, bft, btf, btt, bff, Bool.false_eq_true, resultsA, oneOrTup, Option.map_some, Option.map_none, Bool.not_true, Bool.not_false, loadAt, storeAt, storeOf, partOf, List.getElem?_cons_zero, List.getElem?_cons_succ, List.set_cons_zero, List.set_cons_succ, AV.cells, AV.isCell, List.all_cons, List.all_nil, Bool.and_true, Bool.and_false, Bool.false_and, Bool.true_and, Bool.and_self, and_true, true_and, and_self, putAt, hasLabel, Bool.or_false, Bool.false_or, Bool.or_true, Bool.true_or, fillA, pickParts, pickSl, strBin, eqA, eqCell, ne_eq, not_true_eq_false, not_false_eq_true, Nat.reduceLeDiff, Nat.reduceLT, Nat.reduceMul, Nat.reduceSub, Nat.zero_add, Nat.add_zero, Option.bind_some, asNat, bounds2, reduceCtorEq, List.take_succ_cons, List.take_zero, List.drop_succ_cons, List.drop_zero, Nat.reduceBEq, List.take_nil, List.drop_nil, Int.reduceLE, Int.reduceLT, Int.reduceToNat, Int.toNat_zero, Int.reduceBEq, Int.le_refl, Nat.le_refl, b2s, srcRow, binA, beq_self_eq_true, bne_self_eq_false, minI, maxI, foldI, Bool.not_not, Int.lt_irrefl, gt_iff_lt, ge_iff_le, List.length_map, AV.undef, puress, AV.pure, strip, drawA, goD, stepG, stepD, bornD, readsD, births, AOp.births, Eff.app, pairsD, loudsD, loudD, conflict, apart, AOp.shares, List.getD_cons_succ, List.getD_cons_zero, List.contains_cons, List.contains_nil, Bool.not_or, Option.getD_some, Option.getD_none, Nat.reduceBNe, List.replicate_zero, List.append_nil, i55, T.av, e1, e2, h l, h r, p1, p2, max_int, e3, depthT]

/-- The number of sides of an operation. -/
def sidesZ (o : Int) : Int := if o = 13 ∨ o = 14 then 1 else if 0 < o ∧ o < 13 then 2 else 0

def zeroB (a : Int) : Bool := a == 0
def T.isNil : T → Bool
  | .nil => true
  | _ => false

/-- Has a node nothing but what its kind has? -/
def plainOk (k o n t i x : Int) (l r : T) : Bool :=
  if k = 0 then zeroB o && zeroB t && zeroB i && zeroB x && l.isNil && r.isNil
  else if k = 1 then zeroB o && zeroB n && zeroB t && zeroB x && l.isNil && r.isNil
  else if k = 2 then zeroB o && zeroB n && zeroB x && l.isNil && r.isNil
  else if k = 3 then zeroB o && zeroB n && zeroB t && zeroB i && l.isNil && r.isNil
  else if k = 4 then zeroB n && zeroB t && zeroB i && zeroB x && r.isNil
  else if k = 5 then zeroB n && zeroB t && zeroB i && zeroB x
  else zeroB o && zeroB n && zeroB t && zeroB i && zeroB x && l.isNil && r.isNil

def goodT : T → Bool
  | .nil => false
  | .node k o n t i x l r => plainOk k o n t i x l r &&
    (if k = 0 then true
     else if k = 1 then decide (i < 8)
     else if k = 2 then decide (t < 4) && decide (i < 8)
     else if k = 3 then decide (97 ≤ x) && decide (x ≤ 122) && x != 114
     else if k = 4 then sidesZ o == 1 && goodT l
     else if k = 5 then sidesZ o == 2 && goodT l && goodT r
     else false)

def mayT (t : T) : Bool := decide (depthT 13 t ≤ 12) && goodT t

/-- What 'plain' leaves. -/
def plainC (k o n t i x : Int) (l r : T) : List AV :=
  if k = 0 then [.int .u8 0, .int .u8 o, .int .u64 0, .int .u8 t, .int .u8 i, .int .u8 x, l.av, r.av]
  else if k = 1 then [.int .u8 0, .int .u8 o, .int .u64 n, .int .u8 t, .int .u8 0, .int .u8 x, l.av, r.av]
  else if k = 2 then [.int .u8 0, .int .u8 o, .int .u64 n, .int .u8 0, .int .u8 0, .int .u8 x, l.av, r.av]
  else if k = 3 then [.int .u8 0, .int .u8 o, .int .u64 n, .int .u8 t, .int .u8 i, .int .u8 0, l.av, r.av]
  else if k = 4 then [.int .u8 0, .int .u8 0, .int .u64 n, .int .u8 t, .int .u8 i, .int .u8 x, .nilp, r.av]
  else if k = 5 then [.int .u8 0, .int .u8 0, .int .u64 n, .int .u8 t, .int .u8 i, .int .u8 x, .nilp, .nilp]
  else [.int .u8 0, .int .u8 o, .int .u64 n, .int .u8 t, .int .u8 i, .int .u8 x, l.av, r.av]

theorem ne_int {a b : Int} (h : ¬ a = b) : (a == b) = false := beq_eq_false_iff_ne.2 h

theorem plain_spec {draw : DrawA} (k o n t i x : Int) (l r : T) : ∃ σ', evalFn call draw G fuel i91 [(T.node k o n t i x l r).av] [] = some (.ret (.agg (plainC k o n t i x l r)), σ') := by
  have c1 := T.isCell l
  have c2 := T.isCell r
  unfold plainC
  by_cases h0 : k = 0
  · subst h0; rw [if_pos rfl]; exact ⟨_, by simp only [evalFn, params, List.length_cons, List.length_nil, Nat.reduceAdd, evalCode, evalOps, guardOk, evalOp, AX.ev, look, putE, val, evs, optEv, binA, intBin, wrapI, unA, callM, keepE_cons, keepE_nil, Nat.reduceEqDiff, if_true, if_false, reduceIte, Int.toNat_natCast, List.append_nil, List.nil_append, List.cons_append, decide_true, decide_false, bft, btf, btt, bff, Bool.false_eq_true, resultsA, oneOrTup, Option.map_some, Option.map_none, Bool.not_true, Bool.not_false, loadAt, storeAt, storeOf, partOf, List.getElem?_cons_zero, List.getElem?_cons_succ, List.set_cons_zero, List.set_cons_succ, ic_bool, ce_bool, ic_int, ce_int, ic_str, ce_str, ic_flt, ce_flt, ic_cplx, ce_cplx, ic_nilp, ce_nilp, ic_ip, ce_ip, ic_bp, ce_bp, ic_sl, ce_sl, ic_bs, ce_bs, ic_nilm, ce_nilm, ic_map, ce_map, ic_fn, ce_fn, ic_nilf, ce_nilf, ic_iface, ce_iface, ic_nili, ce_nili, ic_agg, ce_agg, List.all_cons, List.all_nil, Bool.and_true, Bool.and_false, Bool.false_and, Bool.true_and, Bool.and_self, and_true, true_and, and_self, putAt, hasLabel, Bool.or_false, Bool.false_or, Bool.or_true, Bool.true_or, fillA, pickParts, pickSl, strBin, eqA, eqCell, ne_eq, not_true_eq_false, not_false_eq_true, Nat.reduceLeDiff, Nat.reduceLT, Nat.reduceMul, Nat.reduceSub, Nat.zero_add, Nat.add_zero, Option.bind_some, asNat, bounds2, reduceCtorEq, List.take_succ_cons, List.take_zero, List.drop_succ_cons, List.drop_zero, Nat.reduceBEq, List.take_nil, List.drop_nil, Int.reduceLE, Int.reduceLT, Int.reduceToNat, Int.toNat_zero, Int.reduceBEq, Int.le_refl, Nat.le_refl, b2s, srcRow, binA, beq_self_eq_true, bne_self_eq_false, minI, maxI, foldI, Bool.not_not, Int.lt_irrefl, gt_iff_lt, ge_iff_le, List.length_map, AV.undef, i91, T.av, c1, c2]; rfl⟩
  rw [if_neg h0]
  by_cases h1 : k = 1
  · subst h1; rw [if_pos rfl]; exact ⟨_, by simp only [evalFn, params, List.length_cons, List.length_nil, Nat.reduceAdd, evalCode, evalOps, guardOk, evalOp, AX.ev, look, putE, val, evs, optEv, binA, intBin, wrapI, unA, callM, keepE_cons, keepE_nil, Nat.reduceEqDiff, if_true, if_false, reduceIte, Int.toNat_natCast, List.append_nil, List.nil_append, List.cons_append, decide_true, decide_false, bft, btf, btt, bff, Bool.false_eq_true, resultsA, oneOrTup, Option.map_some, Option.map_none, Bool.not_true, Bool.not_false, loadAt, storeAt, storeOf, partOf, List.getElem?_cons_zero, List.getElem?_cons_succ, List.set_cons_zero, List.set_cons_succ, ic_bool, ce_bool, ic_int, ce_int, ic_str, ce_str, ic_flt, ce_flt, ic_cplx, ce_cplx, ic_nilp, ce_nilp, ic_ip, ce_ip, ic_bp, ce_bp, ic_sl, ce_sl, ic_bs, ce_bs, ic_nilm, ce_nilm, ic_map, ce_map, ic_fn, ce_fn, ic_nilf, ce_nilf, ic_iface, ce_iface, ic_nili, ce_nili, ic_agg, ce_agg, List.all_cons, List.all_nil, Bool.and_true, Bool.and_false, Bool.false_and, Bool.true_and, Bool.and_self, and_true, true_and, and_self, putAt, hasLabel, Bool.or_false, Bool.false_or, Bool.or_true, Bool.true_or, fillA, pickParts, pickSl, strBin, eqA, eqCell, ne_eq, not_true_eq_false, not_false_eq_true, Nat.reduceLeDiff, Nat.reduceLT, Nat.reduceMul, Nat.reduceSub, Nat.zero_add, Nat.add_zero, Option.bind_some, asNat, bounds2, reduceCtorEq, List.take_succ_cons, List.take_zero, List.drop_succ_cons, List.drop_zero, Nat.reduceBEq, List.take_nil, List.drop_nil, Int.reduceLE, Int.reduceLT, Int.reduceToNat, Int.toNat_zero, Int.reduceBEq, Int.le_refl, Nat.le_refl, b2s, srcRow, binA, beq_self_eq_true, bne_self_eq_false, minI, maxI, foldI, Bool.not_not, Int.lt_irrefl, gt_iff_lt, ge_iff_le, List.length_map, AV.undef, i91, T.av, c1, c2]; rfl⟩
  rw [if_neg h1]
  by_cases h2 : k = 2
  · subst h2; rw [if_pos rfl]; exact ⟨_, by simp only [evalFn, params, List.length_cons, List.length_nil, Nat.reduceAdd, evalCode, evalOps, guardOk, evalOp, AX.ev, look, putE, val, evs, optEv, binA, intBin, wrapI, unA, callM, keepE_cons, keepE_nil, Nat.reduceEqDiff, if_true, if_false, reduceIte, Int.toNat_natCast, List.append_nil, List.nil_append, List.cons_append, decide_true, decide_false, bft, btf, btt, bff, Bool.false_eq_true, resultsA, oneOrTup, Option.map_some, Option.map_none, Bool.not_true, Bool.not_false, loadAt, storeAt, storeOf, partOf, List.getElem?_cons_zero, List.getElem?_cons_succ, List.set_cons_zero, List.set_cons_succ, ic_bool, ce_bool, ic_int, ce_int, ic_str, ce_str, ic_flt, ce_flt, ic_cplx, ce_cplx, ic_nilp, ce_nilp, ic_ip, ce_ip, ic_bp, ce_bp, ic_sl, ce_sl, ic_bs, ce_bs, ic_nilm, ce_nilm, ic_map, ce_map, ic_fn, ce_fn, ic_nilf, ce_nilf, ic_iface, ce_iface, ic_nili, ce_nili, ic_agg, ce_agg, List.all_cons, List.all_nil, Bool.and_true, Bool.and_false, Bool.false_and, Bool.true_and, Bool.and_self, and_true, true_and, and_self, putAt, hasLabel, Bool.or_false, Bool.false_or, Bool.or_true, Bool.true_or, fillA, pickParts, pickSl, strBin, eqA, eqCell, ne_eq, not_true_eq_false, not_false_eq_true, Nat.reduceLeDiff, Nat.reduceLT, Nat.reduceMul, Nat.reduceSub, Nat.zero_add, Nat.add_zero, Option.bind_some, asNat, bounds2, reduceCtorEq, List.take_succ_cons, List.take_zero, List.drop_succ_cons, List.drop_zero, Nat.reduceBEq, List.take_nil, List.drop_nil, Int.reduceLE, Int.reduceLT, Int.reduceToNat, Int.toNat_zero, Int.reduceBEq, Int.le_refl, Nat.le_refl, b2s, srcRow, binA, beq_self_eq_true, bne_self_eq_false, minI, maxI, foldI, Bool.not_not, Int.lt_irrefl, gt_iff_lt, ge_iff_le, List.length_map, AV.undef, i91, T.av, c1, c2]; rfl⟩
  rw [if_neg h2]
  by_cases h3 : k = 3
  · subst h3; rw [if_pos rfl]; exact ⟨_, by simp only [evalFn, params, List.length_cons, List.length_nil, Nat.reduceAdd, evalCode, evalOps, guardOk, evalOp, AX.ev, look, putE, val, evs, optEv, binA, intBin, wrapI, unA, callM, keepE_cons, keepE_nil, Nat.reduceEqDiff, if_true, if_false, reduceIte, Int.toNat_natCast, List.append_nil, List.nil_append, List.cons_append, decide_true, decide_false, bft, btf, btt, bff, Bool.false_eq_true, resultsA, oneOrTup, Option.map_some, Option.map_none, Bool.not_true, Bool.not_false, loadAt, storeAt, storeOf, partOf, List.getElem?_cons_zero, List.getElem?_cons_succ, List.set_cons_zero, List.set_cons_succ, ic_bool, ce_bool, ic_int, ce_int, ic_str, ce_str, ic_flt, ce_flt, ic_cplx, ce_cplx, ic_nilp, ce_nilp, ic_ip, ce_ip, ic_bp, ce_bp, ic_sl, ce_sl, ic_bs, ce_bs, ic_nilm, ce_nilm, ic_map, ce_map, ic_fn, ce_fn, ic_nilf, ce_nilf, ic_iface, ce_iface, ic_nili, ce_nili, ic_agg, ce_agg, List.all_cons, List.all_nil, Bool.and_true, Bool.and_false, Bool.false_and, Bool.true_and, Bool.and_self, and_true, true_and, and_self, putAt, hasLabel, Bool.or_false, Bool.false_or, Bool.or_true, Bool.true_or, fillA, pickParts, pickSl, strBin, eqA, eqCell, ne_eq, not_true_eq_false, not_false_eq_true, Nat.reduceLeDiff, Nat.reduceLT, Nat.reduceMul, Nat.reduceSub, Nat.zero_add, Nat.add_zero, Option.bind_some, asNat, bounds2, reduceCtorEq, List.take_succ_cons, List.take_zero, List.drop_succ_cons, List.drop_zero, Nat.reduceBEq, List.take_nil, List.drop_nil, Int.reduceLE, Int.reduceLT, Int.reduceToNat, Int.toNat_zero, Int.reduceBEq, Int.le_refl, Nat.le_refl, b2s, srcRow, binA, beq_self_eq_true, bne_self_eq_false, minI, maxI, foldI, Bool.not_not, Int.lt_irrefl, gt_iff_lt, ge_iff_le, List.length_map, AV.undef, i91, T.av, c1, c2]; rfl⟩
  rw [if_neg h3]
  by_cases h4 : k = 4
  · subst h4; rw [if_pos rfl]; exact ⟨_, by simp only [evalFn, params, List.length_cons, List.length_nil, Nat.reduceAdd, evalCode, evalOps, guardOk, evalOp, AX.ev, look, putE, val, evs, optEv, binA, intBin, wrapI, unA, callM, keepE_cons, keepE_nil, Nat.reduceEqDiff, if_true, if_false, reduceIte, Int.toNat_natCast, List.append_nil, List.nil_append, List.cons_append, decide_true, decide_false, bft, btf, btt, bff, Bool.false_eq_true, resultsA, oneOrTup, Option.map_some, Option.map_none, Bool.not_true, Bool.not_false, loadAt, storeAt, storeOf, partOf, List.getElem?_cons_zero, List.getElem?_cons_succ, List.set_cons_zero, List.set_cons_succ, ic_bool, ce_bool, ic_int, ce_int, ic_str, ce_str, ic_flt, ce_flt, ic_cplx, ce_cplx, ic_nilp, ce_nilp, ic_ip, ce_ip, ic_bp, ce_bp, ic_sl, ce_sl, ic_bs, ce_bs, ic_nilm, ce_nilm, ic_map, ce_map, ic_fn, ce_fn, ic_nilf, ce_nilf, ic_iface, ce_iface, ic_nili, ce_nili, ic_agg, ce_agg, List.all_cons, List.all_nil, Bool.and_true, Bool.and_false, Bool.false_and, Bool.true_and, Bool.and_self, and_true, true_and, and_self, putAt, hasLabel, Bool.or_false, Bool.false_or, Bool.or_true, Bool.true_or, fillA, pickParts, pickSl, strBin, eqA, eqCell, ne_eq, not_true_eq_false, not_false_eq_true, Nat.reduceLeDiff, Nat.reduceLT, Nat.reduceMul, Nat.reduceSub, Nat.zero_add, Nat.add_zero, Option.bind_some, asNat, bounds2, reduceCtorEq, List.take_succ_cons, List.take_zero, List.drop_succ_cons, List.drop_zero, Nat.reduceBEq, List.take_nil, List.drop_nil, Int.reduceLE, Int.reduceLT, Int.reduceToNat, Int.toNat_zero, Int.reduceBEq, Int.le_refl, Nat.le_refl, b2s, srcRow, binA, beq_self_eq_true, bne_self_eq_false, minI, maxI, foldI, Bool.not_not, Int.lt_irrefl, gt_iff_lt, ge_iff_le, List.length_map, AV.undef, i91, T.av, c1, c2]; rfl⟩
  rw [if_neg h4]
  by_cases h5 : k = 5
  · subst h5; rw [if_pos rfl]; exact ⟨_, by simp only [evalFn, params, List.length_cons, List.length_nil, Nat.reduceAdd, evalCode, evalOps, guardOk, evalOp, AX.ev, look, putE, val, evs, optEv, binA, intBin, wrapI, unA, callM, keepE_cons, keepE_nil, Nat.reduceEqDiff, if_true, if_false, reduceIte, Int.toNat_natCast, List.append_nil, List.nil_append, List.cons_append, decide_true, decide_false, bft, btf, btt, bff, Bool.false_eq_true, resultsA, oneOrTup, Option.map_some, Option.map_none, Bool.not_true, Bool.not_false, loadAt, storeAt, storeOf, partOf, List.getElem?_cons_zero, List.getElem?_cons_succ, List.set_cons_zero, List.set_cons_succ, ic_bool, ce_bool, ic_int, ce_int, ic_str, ce_str, ic_flt, ce_flt, ic_cplx, ce_cplx, ic_nilp, ce_nilp, ic_ip, ce_ip, ic_bp, ce_bp, ic_sl, ce_sl, ic_bs, ce_bs, ic_nilm, ce_nilm, ic_map, ce_map, ic_fn, ce_fn, ic_nilf, ce_nilf, ic_iface, ce_iface, ic_nili, ce_nili, ic_agg, ce_agg, List.all_cons, List.all_nil, Bool.and_true, Bool.and_false, Bool.false_and, Bool.true_and, Bool.and_self, and_true, true_and, and_self, putAt, hasLabel, Bool.or_false, Bool.false_or, Bool.or_true, Bool.true_or, fillA, pickParts, pickSl, strBin, eqA, eqCell, ne_eq, not_true_eq_false, not_false_eq_true, Nat.reduceLeDiff, Nat.reduceLT, Nat.reduceMul, Nat.reduceSub, Nat.zero_add, Nat.add_zero, Option.bind_some, asNat, bounds2, reduceCtorEq, List.take_succ_cons, List.take_zero, List.drop_succ_cons, List.drop_zero, Nat.reduceBEq, List.take_nil, List.drop_nil, Int.reduceLE, Int.reduceLT, Int.reduceToNat, Int.toNat_zero, Int.reduceBEq, Int.le_refl, Nat.le_refl, b2s, srcRow, binA, beq_self_eq_true, bne_self_eq_false, minI, maxI, foldI, Bool.not_not, Int.lt_irrefl, gt_iff_lt, ge_iff_le, List.length_map, AV.undef, i91, T.av, c1, c2]; rfl⟩
  rw [if_neg h5]
  exact ⟨_, by simp only [evalFn, params, List.length_cons, List.length_nil, Nat.reduceAdd, evalCode, evalOps, guardOk, evalOp, AX.ev, look, putE, val, evs, optEv, binA, intBin, wrapI, unA, callM, keepE_cons, keepE_nil, Nat.reduceEqDiff, if_true, if_false, reduceIte, Int.toNat_natCast, List.append_nil, List.nil_append, List.cons_append, decide_true, decide_false, bft, btf, btt, bff, Bool.false_eq_true, resultsA, oneOrTup, Option.map_some, Option.map_none, Bool.not_true, Bool.not_false, loadAt, storeAt, storeOf, partOf, List.getElem?_cons_zero, List.getElem?_cons_succ, List.set_cons_zero, List.set_cons_succ, ic_bool, ce_bool, ic_int, ce_int, ic_str, ce_str, ic_flt, ce_flt, ic_cplx, ce_cplx, ic_nilp, ce_nilp, ic_ip, ce_ip, ic_bp, ce_bp, ic_sl, ce_sl, ic_bs, ce_bs, ic_nilm, ce_nilm, ic_map, ce_map, ic_fn, ce_fn, ic_nilf, ce_nilf, ic_iface, ce_iface, ic_nili, ce_nili, ic_agg, ce_agg, List.all_cons, List.all_nil, Bool.and_true, Bool.and_false, Bool.false_and, Bool.true_and, Bool.and_self, and_true, true_and, and_self, putAt, hasLabel, Bool.or_false, Bool.false_or, Bool.or_true, Bool.true_or, fillA, pickParts, pickSl, strBin, eqA, eqCell, ne_eq, not_true_eq_false, not_false_eq_true, Nat.reduceLeDiff, Nat.reduceLT, Nat.reduceMul, Nat.reduceSub, Nat.zero_add, Nat.add_zero, Option.bind_some, asNat, bounds2, reduceCtorEq, List.take_succ_cons, List.take_zero, List.drop_succ_cons, List.drop_zero, Nat.reduceBEq, List.take_nil, List.drop_nil, Int.reduceLE, Int.reduceLT, Int.reduceToNat, Int.toNat_zero, Int.reduceBEq, Int.le_refl, Nat.le_refl, b2s, srcRow, binA, beq_self_eq_true, bne_self_eq_false, minI, maxI, foldI, Bool.not_not, Int.lt_irrefl, gt_iff_lt, ge_iff_le, List.length_map, AV.undef, i91, T.av, c1, c2, ne_int h0, ne_int h1, ne_int h2, ne_int h3, ne_int h4, ne_int h5]; rfl⟩

def plainD : EqD := .fields [(0, 1, false, (.scalar .i)), (1, 1, false, (.scalar .i)), (2, 1, false, (.scalar .i)), (3, 1, false, (.scalar .i)), (4, 1, false, (.scalar .i)), (5, 1, false, (.scalar .i)), (6, 1, false, (.scalar .p)), (7, 1, false, (.scalar .p))]
def zeroC : List AV := [.int .u8 0, .int .u8 0, .int .u64 0, .int .u8 0, .int .u8 0, .int .u8 0, .nilp, .nilp]

theorem eq_nil (t : T) : eqCell .p t.av .nilp = some t.isNil := by cases t <;> rfl

theorem zero_fields (a b c d e f : Int) (l r : T) : eqA plainD (.agg [.int .u8 a, .int .u8 b, .int .u64 c, .int .u8 d, .int .u8 e, .int .u8 f, l.av, r.av]) (.agg zeroC) =
    some (zeroB a && zeroB b && zeroB c && zeroB d && zeroB e && zeroB f && l.isNil && r.isNil) := by
  have e1 := eq_nil l
  have e2 := eq_nil r
  unfold plainD zeroC
  simp only [eqA, eqFields, partOf, Bool.false_eq_true, if_false, List.getElem?_cons_zero, List.getElem?_cons_succ, e1, e2]
  simp only [eqCell, if_true, zeroB]
  cases (a == 0) <;> cases (b == 0) <;> cases (c == 0) <;> cases (d == 0) <;> cases (e == 0) <;> cases (f == 0) <;> cases l.isNil <;> cases r.isNil <;> rfl

theorem plain_eq (k o n t i x : Int) (l r : T) : eqA plainD (.agg (plainC k o n t i x l r)) (.agg zeroC) = some (plainOk k o n t i x l r) := by
  have nn : AV.nilp = T.nil.av := rfl
  unfold plainC plainOk
  repeat' split
  all_goals first
    | (rw [zero_fields]; simp [zeroB, Bool.and_assoc]; done)
    | (rw [nn, zero_fields]; simp [zeroB, T.isNil, Bool.and_assoc]; done)
end
end Go.Pm
end

section
set_option linter.unusedSimpArgs false
set_option linter.unusedVariables false
set_option linter.unusedSectionVars false
/- Expressions: their depth, whether they may be: layers. -/
set_option maxRecDepth 100000
set_option linter.unusedSimpArgs false
set_option linter.unusedVariables false
namespace Go.Pm
open Go.Proofs Go.Proofs.YtehcekeccnlboaaDoor

def u8 (a : Int) : Prop := 0 ≤ a ∧ a < 256
def u64 (a : Int) : Prop := 0 ≤ a ∧ a < 18446744073709551616
def T.wf : T → Prop
  | .nil => True
  | .node k o n t i x l r => u8 k ∧ u8 o ∧ u64 n ∧ u8 t ∧ u8 i ∧ u8 x ∧ l.wf ∧ r.wf

/-! Encodings, domains, answers -/
def enc8 (o : Int) : List AV := [.int .u8 o]
def encT (t : T) : List AV := [t.av]
def encTN (x : T × Nat) : List AV := [x.1.av, .int .i64 x.2]

theorem encT_bare (t : T) : Bare (encT t) := by unfold Bare encT; simp only [stripWs, T.bare]
theorem encTN_bare (x : T × Nat) : Bare (encTN x) := by unfold Bare encTN; simp only [stripWs, stripW, T.bare]
theorem encT_inj {a b : T} (h : encT a = encT b) : a = b := by
  simp only [encT, List.cons.injEq, and_true] at h; exact T.av_inj h
theorem encTN_inj {a b : T × Nat} (h : encTN a = encTN b) : a = b := by
  simp only [encTN, List.cons.injEq, AV.int.injEq, and_true, true_and] at h
  obtain ⟨h1, h2⟩ := h
  exact Prod.ext (T.av_inj h1) (by omega)
theorem enc8_inj {a b : Int} (h : enc8 a = enc8 b) : a = b := by simpa [enc8] using h

noncomputable def sSides : Spec := pureS (encS enc8 u8 fun o => .int .i64 (sidesZ o))
noncomputable def sDepth (n : Nat) : Spec := pureS (encS encTN (fun x => x.2 < n ∧ x.2 ≤ 50) fun x => .int .i64 (depthT x.2 x.1))
noncomputable def sDepth1 : Spec := pureS (encS encT (fun _ => True) fun t => .int .i64 (depthT 13 t))
def T.isNode : T → Prop
  | .nil => False
  | _ => True
def plainV : T → AV
  | .nil => .nilp
  | .node k o n t i x l r => .agg (plainC k o n t i x l r)
noncomputable def sPlain : Spec := pureS (encS encT T.isNode plainV)
noncomputable def sGood (n : Nat) : Spec := pureS (encS encT (fun t => t.wf ∧ t.height < n) fun t => .bool (goodT t))
noncomputable def sMay (n : Nat) : Spec := pureS (encS encT (fun t => t.wf ∧ t.height < n) fun t => .bool (mayT t))

/-- The layers up to 'May'. -/
noncomputable def exA : CallA := orC (atF 92 sSides) noCall
noncomputable def exB : CallA := orC (atF 55 (sDepth 60)) exA
noncomputable def exC : CallA := orC (atF 24 sDepth1) exB
noncomputable def exD : CallA := orC (atF 91 sPlain) exC
noncomputable def exE : CallA := orC (atF 45 (sGood 60)) exD
noncomputable def exF : CallA := orC (atF 16 (sMay 60)) exE

section
variable {G : Globals}

theorem sides_spec {call : CallA} {draw : DrawA} {fuel : Nat} (o : Int) (h : u8 o) (σ : Store) : evalFn call draw G fuel i92 [.int .u8 o] σ = some (.ret (.int .i64 (sidesZ o)), σ) := by
  unfold sidesZ
  by_cases h1 : o < 1
  · rw [if_neg (by unfold u8 at h; omega), if_neg (by omega)]
    simp only [evalFn, params, List.length_cons, List.length_nil, Nat.reduceAdd, evalCode, evalOps, guardOk, evalOp, AX.ev, look, putE, val, evs, optEv, binA, intBin, wrapI, unA, callM, keepE_cons, keepE_nil, Nat.reduceEqDiff, if_true, if_false, reduceIte, Int.toNat_natCast, List.append_nil, List.nil_append, List.cons_append, decide_true, decide_false, bft, btf, btt, bff, Bool.false_eq_true, resultsA, oneOrTup, Option.map_some, Option.map_none, Bool.not_true, Bool.not_false, loadAt, storeAt, storeOf, partOf, List.getElem?_cons_zero, List.getElem?_cons_succ, List.set_cons_zero, List.set_cons_succ, AV.cells, AV.isCell, List.all_cons, List.all_nil, Bool.and_true, Bool.and_false, Bool.false_and, Bool.true_and, Bool.and_self, and_true, true_and, and_self, putAt, hasLabel, Bool.or_false, Bool.false_or, Bool.or_true, Bool.true_or, fillA, pickParts, pickSl, strBin, eqA, eqCell, ne_eq, not_true_eq_false, not_false_eq_true, Nat.reduceLeDiff, Nat.reduceLT, Nat.reduceMul, Nat.reduceSub, Nat.zero_add, Nat.add_zero, Option.bind_some, asNat, bounds2, reduceCtorEq, List.take_succ_cons, List.take_zero, List.drop_succ_cons, List.drop_zero, Nat.reduceBEq, List.take_nil, List.drop_nil, Int.reduceLE, Int.reduceLT, Int.reduceToNat, Int.toNat_zero, Int.reduceBEq, Int.le_refl, Nat.le_refl, b2s, srcRow, binA, beq_self_eq_true, bne_self_eq_false, minI, maxI, foldI, Bool.not_not, Int.lt_irrefl, gt_iff_lt, ge_iff_le, List.length_map, AV.undef, i92, h1]
  by_cases h2 : 14 < o
  · rw [if_neg (by omega), if_neg (by omega)]
    simp only [evalFn, params, List.length_cons, List.length_nil, Nat.reduceAdd, evalCode, evalOps, guardOk, evalOp, AX.ev, look, putE, val, evs, optEv, binA, intBin, wrapI, unA, callM, keepE_cons, keepE_nil, Nat.reduceEqDiff, if_true, if_false, reduceIte, Int.toNat_natCast, List.append_nil, List.nil_append, List.cons_append, decide_true, decide_false, bft, btf, btt, bff, Bool.false_eq_true, resultsA, oneOrTup, Option.map_some, Option.map_none, Bool.not_true, Bool.not_false, loadAt, storeAt, storeOf, partOf, List.getElem?_cons_zero, List.getElem?_cons_succ, List.set_cons_zero, List.set_cons_succ, AV.cells, AV.isCell, List.all_cons, List.all_nil, Bool.and_true, Bool.and_false, Bool.false_and, Bool.true_and, Bool.and_self, and_true, true_and, and_self, putAt, hasLabel, Bool.or_false, Bool.false_or, Bool.or_true, Bool.true_or, fillA, pickParts, pickSl, strBin, eqA, eqCell, ne_eq, not_true_eq_false, not_false_eq_true, Nat.reduceLeDiff, Nat.reduceLT, Nat.reduceMul, Nat.reduceSub, Nat.zero_add, Nat.add_zero, Option.bind_some, asNat, bounds2, reduceCtorEq, List.take_succ_cons, List.take_zero, List.drop_succ_cons, List.drop_zero, Nat.reduceBEq, List.take_nil, List.drop_nil, Int.reduceLE, Int.reduceLT, Int.reduceToNat, Int.toNat_zero, Int.reduceBEq, Int.le_refl, Nat.le_refl, b2s, srcRow, binA, beq_self_eq_true, bne_self_eq_false, minI, maxI, foldI, Bool.not_not, Int.lt_irrefl, gt_iff_lt, ge_iff_le, List.length_map, AV.undef, i92, h1, h2]
  by_cases h3 : 13 ≤ o
  · rw [if_pos (by omega)]
    simp only [evalFn, params, List.length_cons, List.length_nil, Nat.reduceAdd, evalCode, evalOps, guardOk, evalOp, AX.ev, look, putE, val, evs, optEv, binA, intBin, wrapI, unA, callM, keepE_cons, keepE_nil, Nat.reduceEqDiff, if_true, if_false, reduceIte, Int.toNat_natCast, List.append_nil, List.nil_append, List.cons_append, decide_true, decide_false, bft, btf, btt, bff, Bool.false_eq_true, resultsA, oneOrTup, Option.map_some, Option.map_none, Bool.not_true, Bool.not_false, loadAt, storeAt, storeOf, partOf, List.getElem?_cons_zero, List.getElem?_cons_succ, List.set_cons_zero, List.set_cons_succ, AV.cells, AV.isCell, List.all_cons, List.all_nil, Bool.and_true, Bool.and_false, Bool.false_and, Bool.true_and, Bool.and_self, and_true, true_and, and_self, putAt, hasLabel, Bool.or_false, Bool.false_or, Bool.or_true, Bool.true_or, fillA, pickParts, pickSl, strBin, eqA, eqCell, ne_eq, not_true_eq_false, not_false_eq_true, Nat.reduceLeDiff, Nat.reduceLT, Nat.reduceMul, Nat.reduceSub, Nat.zero_add, Nat.add_zero, Option.bind_some, asNat, bounds2, reduceCtorEq, List.take_succ_cons, List.take_zero, List.drop_succ_cons, List.drop_zero, Nat.reduceBEq, List.take_nil, List.drop_nil, Int.reduceLE, Int.reduceLT, Int.reduceToNat, Int.toNat_zero, Int.reduceBEq, Int.le_refl, Nat.le_refl, b2s, srcRow, binA, beq_self_eq_true, bne_self_eq_false, minI, maxI, foldI, Bool.not_not, Int.lt_irrefl, gt_iff_lt, ge_iff_le, List.length_map, AV.undef, i92, h1, h2, h3]
  · rw [if_neg (by omega), if_pos (by omega)]
    simp only [evalFn, params, List.length_cons, List.length_nil, Nat.reduceAdd, evalCode, evalOps, guardOk, evalOp, AX.ev, look, putE, val, evs, optEv, binA, intBin, wrapI, unA, callM, keepE_cons, keepE_nil, Nat.reduceEqDiff, if_true, if_false, reduceIte, Int.toNat_natCast, List.append_nil, List.nil_append, List.cons_append, decide_true, decide_false, bft, btf, btt, bff, Bool.false_eq_true, resultsA, oneOrTup, Option.map_some, Option.map_none, Bool.not_true, Bool.not_false, loadAt, storeAt, storeOf, partOf, List.getElem?_cons_zero, List.getElem?_cons_succ, List.set_cons_zero, List.set_cons_succ, AV.cells, AV.isCell, List.all_cons, List.all_nil, Bool.and_true, Bool.and_false, Bool.false_and, Bool.true_and, Bool.and_self, and_true, true_and, and_self, putAt, hasLabel, Bool.or_false, Bool.false_or, Bool.or_true, Bool.true_or, fillA, pickParts, pickSl, strBin, eqA, eqCell, ne_eq, not_true_eq_false, not_false_eq_true, Nat.reduceLeDiff, Nat.reduceLT, Nat.reduceMul, Nat.reduceSub, Nat.zero_add, Nat.add_zero, Option.bind_some, asNat, bounds2, reduceCtorEq, List.take_succ_cons, List.take_zero, List.drop_succ_cons, List.drop_zero, Nat.reduceBEq, List.take_nil, List.drop_nil, Int.reduceLE, Int.reduceLT, Int.reduceToNat, Int.toNat_zero, Int.reduceBEq, Int.le_refl, Nat.le_refl, b2s, srcRow, binA, beq_self_eq_true, bne_self_eq_false, minI, maxI, foldI, Bool.not_not, Int.lt_irrefl, gt_iff_lt, ge_iff_le, List.length_map, AV.undef, i92, h1, h2, h3]

theorem exA_sound (hG : GPure G) : CallS Tryd.prog G exA :=
  (CallS.enc CallS.none mixed hG ok92 enc8 u8 _ fun o ho => ⟨rfl, 0, _, [], sides_spec o ho [], seen_flat rfl⟩).or CallS.none
theorem exA_sides : Has exA 92 enc8 u8 fun o => .int .i64 (sidesZ o) :=
  Has.self (fun _ _ _ _ h => by rw [enc8_inj h]) (fun _ _ => rfl) (fun _ _ => seen_flat rfl)

theorem exB_sound (hG : GPure G) : CallS Tryd.prog G exB := by
  refine (CallS.encRec (exA_sound hG) mixed hG ok55 encTN (fun n x => x.2 < n ∧ x.2 ≤ 50) _ (fun x h => by omega) (fun n x hx => ?_) 60).or (exA_sound hG)
  obtain ⟨t, m⟩ := x
  obtain ⟨h1, h2⟩ := hx
  simp only at h1 h2
  refine ⟨encTN_bare _, 0, _, [], ?_, seen_flat rfl⟩
  cases t with
  | nil =>
    have := depth_nil (call := orC (atF 55 (sDepth n)) exA) (draw := drawA (orC (atF 55 (sDepth n)) exA) G) (G := G) (fuel := 0) m []
    cases m <;> exact this
  | node k o nn t i x l r =>
    cases m with
    | zero => exact depth_zero (call := orC (atF 55 (sDepth n)) exA) (draw := drawA (orC (atF 55 (sDepth n)) exA) G) (G := G) (fuel := 0) (.node k o nn t i x l r) []
    | succ m =>
      refine depth_node (call := orC (atF 55 (sDepth n)) exA) (G := G) (fuel := 0) k o nn t i x l r m (by omega) fun t' σ => ?_
      exact Has.self (call := exA) (enc := encTN) (dom := fun x => x.2 < n ∧ x.2 ≤ 50) (out := fun x => .int .i64 (depthT x.2 x.1)) (fun _ _ _ _ h => by rw [encTN_inj h]) (fun _ _ => encTN_bare _) (fun _ _ => seen_flat rfl) (t', m) σ ⟨by simp only; omega, by simp only; omega⟩
theorem exB_depth : Has exB 55 encTN (fun x => x.2 < 60 ∧ x.2 ≤ 50) fun x => .int .i64 (depthT x.2 x.1) :=
  Has.self (fun _ _ _ _ h => by rw [encTN_inj h]) (fun _ _ => encTN_bare _) (fun _ _ => seen_flat rfl)

theorem exC_sound (hG : GPure G) : CallS Tryd.prog G exC := by
  refine (CallS.enc (exB_sound hG) mixed hG ok24 encT (fun _ => True) _ fun t _ => ⟨encT_bare t, 0, _, [], ?_, seen_flat rfl⟩).or (exB_sound hG)
  have h : ∀ σ, callC exB 55 [t.av, .int .i64 13] σ = some (.ret (.int .i64 (depthT 13 t)), σ) := fun σ => exB_depth (t, 13) σ ⟨by simp, by simp⟩
  simp only [evalFn, params, List.length_cons, List.length_nil, Nat.reduceAdd, evalCode, evalOps, guardOk, evalOp, AX.ev, look, putE, val, evs, optEv, binA, intBin, wrapI, unA, callM, keepE_cons, keepE_nil, Nat.reduceEqDiff, if_true, if_false, reduceIte, Int.toNat_natCast, List.append_nil, List.nil_append, List.cons_append, decide_true, decide_false, bft, btf, btt, bff, Bool.false_eq_true, resultsA, oneOrTup, Option.map_some, Option.map_none, Bool.not_true, Bool.not_false, loadAt, storeAt, storeOf, partOf, List.getElem?_cons_zero, List.getElem?_cons_succ, List.set_cons_zero, List.set_cons_succ, AV.cells, AV.isCell, List.all_cons, List.all_nil, Bool.and_true, Bool.and_false, Bool.false_and, Bool.true_and, Bool.and_self, and_true, true_and, and_self, putAt, hasLabel, Bool.or_false, Bool.false_or, Bool.or_true, Bool.true_or, fillA, pickParts, pickSl, strBin, eqA, eqCell, ne_eq, not_true_eq_false, not_false_eq_true, Nat.reduceLeDiff, Nat.reduceLT, Nat.reduceMul, Nat.reduceSub, Nat.zero_add, Nat.add_zero, Option.bind_some, asNat, bounds2, reduceCtorEq, List.take_succ_cons, List.take_zero, List.drop_succ_cons, List.drop_zero, Nat.reduceBEq, List.take_nil, List.drop_nil, Int.reduceLE, Int.reduceLT, Int.reduceToNat, Int.toNat_zero, Int.reduceBEq, Int.le_refl, Nat.le_refl, b2s, srcRow, binA, beq_self_eq_true, bne_self_eq_false, minI, maxI, foldI, Bool.not_not, Int.lt_irrefl, gt_iff_lt, ge_iff_le, List.length_map, AV.undef, i24, encT, h]
theorem exC_depth1 : Has exC 24 encT (fun _ => True) fun t => .int .i64 (depthT 13 t) :=
  Has.self (fun _ _ _ _ h => by rw [encT_inj h]) (fun _ _ => encT_bare _) (fun _ _ => seen_flat rfl)

theorem plain_strip (σ : Store) (k o n t i x : Int) (l r : T) : strip σ (.agg (plainC k o n t i x l r)) = some (.agg (plainC k o n t i x l r)) := by
  unfold plainC
  repeat' split
  all_goals simp only [strip, stripW, stripWs, T.bare]

theorem exD_sound (hG : GPure G) : CallS Tryd.prog G exD := by
  refine (CallS.enc (exC_sound hG) mixed hG ok91 encT T.isNode plainV fun t ht => ?_).or (exC_sound hG)
  cases t with
  | nil => exact ht.elim
  | node k o n t i x l r =>
    obtain ⟨σ', h⟩ := plain_spec (call := exC) (draw := drawA exC G) (G := G) (fuel := 0) k o n t i x l r
    refine ⟨encT_bare _, 0, _, σ', h, ?_⟩
    by_cases hf : (AV.agg (plainC k o n t i x l r)).flatv = true
    · exact .inl ⟨hf, rfl⟩
    · exact .inr ⟨by simpa using hf, by simp only [encT, puress, T.pure, Bool.and_self], plain_strip σ' k o n t i x l r⟩
theorem exD_plain : Has exD 91 encT T.isNode plainV :=
  Has.self (fun _ _ _ _ h => by rw [encT_inj h]) (fun _ _ => encT_bare _) (fun t ht => by
    cases t with
    | nil => exact ht.elim
    | node k o n t i x l r =>
      by_cases hf : (plainV (.node k o n t i x l r)).flatv = true
      · exact .inl ⟨hf, rfl⟩
      · exact .inr ⟨by simpa using hf, by simp only [encT, puress, T.pure, Bool.and_self], plain_strip [] k o n t i x l r⟩)

/-! ### good -/

theorem good_node {call : CallA} {draw : DrawA} {fuel : Nat} (k o n t i x : Int) (l r : T) (hw : (T.node k o n t i x l r).wf) (h91 : ∀ σ, callC call 91 [(T.node k o n t i x l r).av] σ = some (.ret (.agg (plainC k o n t i x l r)), σ))
    (h92 : ∀ σ, callC call 92 [.int .u8 o] σ = some (.ret (.int .i64 (sidesZ o)), σ)) (hl : ∀ σ, callC call 45 [l.av] σ = some (.ret (.bool (goodT l)), σ)) (hr : ∀ σ, callC call 45 [r.av] σ = some (.ret (.bool (goodT r)), σ)) :
    evalFn call draw G fuel i45 [(T.node k o n t i x l r).av] [] = some (.ret (.bool (goodT (.node k o n t i x l r))), []) := by
  have hp := plain_eq k o n t i x l r
  unfold plainD zeroC at hp
  rw [eqA] at hp
  simp only [T.av] at h91
  cases hok : plainOk k o n t i x l r with
  | false =>
    rw [hok] at hp
    have hg : goodT (.node k o n t i x l r) = false := by simp only [goodT, hok, Bool.false_and]
    rw [hg]
    simp only [evalFn, params, List.length_cons, List.length_nil, Nat.reduceAdd, evalCode, evalOps, guardOk, evalOp, AX.ev, look, putE, val, evs, optEv, binA, intBin, wrapI, unA, callM, keepE_cons, keepE_nil, Nat.reduceEqDiff, if_true, if_false, reduceIte, Int.toNat_natCast, List.append_nil, List.nil_append, List.cons_append, decide_true, decide_false, bft, btf, btt, bff, Bool.false_eq_true, resultsA, oneOrTup, Option.map_some, Option.map_none, Bool.not_true, Bool.not_false, loadAt, storeAt, storeOf, partOf, List.getElem?_cons_zero, List.getElem?_cons_succ, List.set_cons_zero, List.set_cons_succ, ic_bool, ce_bool, ic_int, ce_int, ic_str, ce_str, ic_flt, ce_flt, ic_cplx, ce_cplx, ic_nilp, ce_nilp, ic_ip, ce_ip, ic_bp, ce_bp, ic_sl, ce_sl, ic_bs, ce_bs, ic_nilm, ce_nilm, ic_map, ce_map, ic_fn, ce_fn, ic_nilf, ce_nilf, ic_iface, ce_iface, ic_nili, ce_nili, ic_agg, ce_agg, List.all_cons, List.all_nil, Bool.and_true, Bool.and_false, Bool.false_and, Bool.true_and, Bool.and_self, and_true, true_and, and_self, putAt, hasLabel, Bool.or_false, Bool.false_or, Bool.or_true, Bool.true_or, fillA, pickParts, pickSl, strBin, eqA, eqCell, ne_eq, not_true_eq_false, not_false_eq_true, Nat.reduceLeDiff, Nat.reduceLT, Nat.reduceMul, Nat.reduceSub, Nat.zero_add, Nat.add_zero, Option.bind_some, asNat, bounds2, reduceCtorEq, List.take_succ_cons, List.take_zero, List.drop_succ_cons, List.drop_zero, Nat.reduceBEq, List.take_nil, List.drop_nil, Int.reduceLE, Int.reduceLT, Int.reduceToNat, Int.toNat_zero, Int.reduceBEq, Int.le_refl, Nat.le_refl, b2s, srcRow, binA, beq_self_eq_true, bne_self_eq_false, minI, maxI, foldI, Bool.not_not, Int.lt_irrefl, gt_iff_lt, ge_iff_le, List.length_map, AV.undef, i45, T.av, h91, hp]
  | true =>
    rw [hok] at hp
    by_cases h0 : k = 0
    · subst h0
      have hg : goodT (.node 0 o n t i x l r) = true := by simp only [goodT, hok, Bool.true_and, if_true]
      rw [hg]
      simp only [evalFn, params, List.length_cons, List.length_nil, Nat.reduceAdd, evalCode, evalOps, guardOk, evalOp, AX.ev, look, putE, val, evs, optEv, binA, intBin, wrapI, unA, callM, keepE_cons, keepE_nil, Nat.reduceEqDiff, if_true, if_false, reduceIte, Int.toNat_natCast, List.append_nil, List.nil_append, List.cons_append, decide_true, decide_false, bft, btf, btt, bff, Bool.false_eq_true, resultsA, oneOrTup, Option.map_some, Option.map_none, Bool.not_true, Bool.not_false, loadAt, storeAt, storeOf, partOf, List.getElem?_cons_zero, List.getElem?_cons_succ, List.set_cons_zero, List.set_cons_succ, ic_bool, ce_bool, ic_int, ce_int, ic_str, ce_str, ic_flt, ce_flt, ic_cplx, ce_cplx, ic_nilp, ce_nilp, ic_ip, ce_ip, ic_bp, ce_bp, ic_sl, ce_sl, ic_bs, ce_bs, ic_nilm, ce_nilm, ic_map, ce_map, ic_fn, ce_fn, ic_nilf, ce_nilf, ic_iface, ce_iface, ic_nili, ce_nili, ic_agg, ce_agg, List.all_cons, List.all_nil, Bool.and_true, Bool.and_false, Bool.false_and, Bool.true_and, Bool.and_self, and_true, true_and, and_self, putAt, hasLabel, Bool.or_false, Bool.false_or, Bool.or_true, Bool.true_or, fillA, pickParts, pickSl, strBin, eqA, eqCell, ne_eq, not_true_eq_false, not_false_eq_true, Nat.reduceLeDiff, Nat.reduceLT, Nat.reduceMul, Nat.reduceSub, Nat.zero_add, Nat.add_zero, Option.bind_some, asNat, bounds2, reduceCtorEq, List.take_succ_cons, List.take_zero, List.drop_succ_cons, List.drop_zero, Nat.reduceBEq, List.take_nil, List.drop_nil, Int.reduceLE, Int.reduceLT, Int.reduceToNat, Int.toNat_zero, Int.reduceBEq, Int.le_refl, Nat.le_refl, b2s, srcRow, binA, beq_self_eq_true, bne_self_eq_false, minI, maxI, foldI, Bool.not_not, Int.lt_irrefl, gt_iff_lt, ge_iff_le, List.length_map, AV.undef, i45, T.av, h91, hp]
    by_cases h1 : k = 1
    · subst h1
      have hg : goodT (.node 1 o n t i x l r) = decide (i < 8) := by simp only [goodT, hok, Bool.true_and, if_neg h0, if_true]
      rw [hg]
      simp only [evalFn, params, List.length_cons, List.length_nil, Nat.reduceAdd, evalCode, evalOps, guardOk, evalOp, AX.ev, look, putE, val, evs, optEv, binA, intBin, wrapI, unA, callM, keepE_cons, keepE_nil, Nat.reduceEqDiff, if_true, if_false, reduceIte, Int.toNat_natCast, List.append_nil, List.nil_append, List.cons_append, decide_true, decide_false, bft, btf, btt, bff, Bool.false_eq_true, resultsA, oneOrTup, Option.map_some, Option.map_none, Bool.not_true, Bool.not_false, loadAt, storeAt, storeOf, partOf, List.getElem?_cons_zero, List.getElem?_cons_succ, List.set_cons_zero, List.set_cons_succ, ic_bool, ce_bool, ic_int, ce_int, ic_str, ce_str, ic_flt, ce_flt, ic_cplx, ce_cplx, ic_nilp, ce_nilp, ic_ip, ce_ip, ic_bp, ce_bp, ic_sl, ce_sl, ic_bs, ce_bs, ic_nilm, ce_nilm, ic_map, ce_map, ic_fn, ce_fn, ic_nilf, ce_nilf, ic_iface, ce_iface, ic_nili, ce_nili, ic_agg, ce_agg, List.all_cons, List.all_nil, Bool.and_true, Bool.and_false, Bool.false_and, Bool.true_and, Bool.and_self, and_true, true_and, and_self, putAt, hasLabel, Bool.or_false, Bool.false_or, Bool.or_true, Bool.true_or, fillA, pickParts, pickSl, strBin, eqA, eqCell, ne_eq, not_true_eq_false, not_false_eq_true, Nat.reduceLeDiff, Nat.reduceLT, Nat.reduceMul, Nat.reduceSub, Nat.zero_add, Nat.add_zero, Option.bind_some, asNat, bounds2, reduceCtorEq, List.take_succ_cons, List.take_zero, List.drop_succ_cons, List.drop_zero, Nat.reduceBEq, List.take_nil, List.drop_nil, Int.reduceLE, Int.reduceLT, Int.reduceToNat, Int.toNat_zero, Int.reduceBEq, Int.le_refl, Nat.le_refl, b2s, srcRow, binA, beq_self_eq_true, bne_self_eq_false, minI, maxI, foldI, Bool.not_not, Int.lt_irrefl, gt_iff_lt, ge_iff_le, List.length_map, AV.undef, i45, T.av, h91, hp]
    by_cases h2 : k = 2
    · subst h2
      have hg : goodT (.node 2 o n t i x l r) = (decide (t < 4) && decide (i < 8)) := by simp only [goodT, hok, Bool.true_and, if_neg h0, if_neg h1, if_true]
      rw [hg]
      by_cases a : t < 4 <;> by_cases b : i < 8 <;> simp only [evalFn, params, List.length_cons, List.length_nil, Nat.reduceAdd, evalCode, evalOps, guardOk, evalOp, AX.ev, look, putE, val, evs, optEv, binA, intBin, wrapI, unA, callM, keepE_cons, keepE_nil, Nat.reduceEqDiff, if_true, if_false, reduceIte, Int.toNat_natCast, List.append_nil, List.nil_append, List.cons_append, decide_true, decide_false, bft, btf, btt, bff, Bool.false_eq_true, resultsA, oneOrTup, Option.map_some, Option.map_none, Bool.not_true, Bool.not_false, loadAt, storeAt, storeOf, partOf, List.getElem?_cons_zero, List.getElem?_cons_succ, List.set_cons_zero, List.set_cons_succ, ic_bool, ce_bool, ic_int, ce_int, ic_str, ce_str, ic_flt, ce_flt, ic_cplx, ce_cplx, ic_nilp, ce_nilp, ic_ip, ce_ip, ic_bp, ce_bp, ic_sl, ce_sl, ic_bs, ce_bs, ic_nilm, ce_nilm, ic_map, ce_map, ic_fn, ce_fn, ic_nilf, ce_nilf, ic_iface, ce_iface, ic_nili, ce_nili, ic_agg, ce_agg, List.all_cons, List.all_nil, Bool.and_true, Bool.and_false, Bool.false_and, Bool.true_and, Bool.and_self, and_true, true_and, and_self, putAt, hasLabel, Bool.or_false, Bool.false_or, Bool.or_true, Bool.true_or, fillA, pickParts, pickSl, strBin, eqA, eqCell, ne_eq, not_true_eq_false, not_false_eq_true, Nat.reduceLeDiff, Nat.reduceLT, Nat.reduceMul, Nat.reduceSub, Nat.zero_add, Nat.add_zero, Option.bind_some, asNat, bounds2, reduceCtorEq, List.take_succ_cons, List.take_zero, List.drop_succ_cons, List.drop_zero, Nat.reduceBEq, List.take_nil, List.drop_nil, Int.reduceLE, Int.reduceLT, Int.reduceToNat, Int.toNat_zero, Int.reduceBEq, Int.le_refl, Nat.le_refl, b2s, srcRow, binA, beq_self_eq_true, bne_self_eq_false, minI, maxI, foldI, Bool.not_not, Int.lt_irrefl, gt_iff_lt, ge_iff_le, List.length_map, AV.undef, i45, T.av, h91, hp, a, b]
    by_cases h3 : k = 3
    · subst h3
      have hg : goodT (.node 3 o n t i x l r) = (decide (97 ≤ x) && decide (x ≤ 122) && x != 114) := by simp only [goodT, hok, Bool.true_and, if_neg h0, if_neg h1, if_neg h2, if_true]
      rw [hg]
      by_cases a : 97 ≤ x <;> by_cases b : x ≤ 122 <;> simp only [evalFn, params, List.length_cons, List.length_nil, Nat.reduceAdd, evalCode, evalOps, guardOk, evalOp, AX.ev, look, putE, val, evs, optEv, binA, intBin, wrapI, unA, callM, keepE_cons, keepE_nil, Nat.reduceEqDiff, if_true, if_false, reduceIte, Int.toNat_natCast, List.append_nil, List.nil_append, List.cons_append, decide_true, decide_false, bft, btf, btt, bff, Bool.false_eq_true, resultsA, oneOrTup, Option.map_some, Option.map_none, Bool.not_true, Bool.not_false, loadAt, storeAt, storeOf, partOf, List.getElem?_cons_zero, List.getElem?_cons_succ, List.set_cons_zero, List.set_cons_succ, ic_bool, ce_bool, ic_int, ce_int, ic_str, ce_str, ic_flt, ce_flt, ic_cplx, ce_cplx, ic_nilp, ce_nilp, ic_ip, ce_ip, ic_bp, ce_bp, ic_sl, ce_sl, ic_bs, ce_bs, ic_nilm, ce_nilm, ic_map, ce_map, ic_fn, ce_fn, ic_nilf, ce_nilf, ic_iface, ce_iface, ic_nili, ce_nili, ic_agg, ce_agg, List.all_cons, List.all_nil, Bool.and_true, Bool.and_false, Bool.false_and, Bool.true_and, Bool.and_self, and_true, true_and, and_self, putAt, hasLabel, Bool.or_false, Bool.false_or, Bool.or_true, Bool.true_or, fillA, pickParts, pickSl, strBin, eqA, eqCell, ne_eq, not_true_eq_false, not_false_eq_true, Nat.reduceLeDiff, Nat.reduceLT, Nat.reduceMul, Nat.reduceSub, Nat.zero_add, Nat.add_zero, Option.bind_some, asNat, bounds2, reduceCtorEq, List.take_succ_cons, List.take_zero, List.drop_succ_cons, List.drop_zero, Nat.reduceBEq, List.take_nil, List.drop_nil, Int.reduceLE, Int.reduceLT, Int.reduceToNat, Int.toNat_zero, Int.reduceBEq, Int.le_refl, Nat.le_refl, b2s, srcRow, binA, beq_self_eq_true, bne_self_eq_false, minI, maxI, foldI, Bool.not_not, Int.lt_irrefl, gt_iff_lt, ge_iff_le, List.length_map, AV.undef, i45, T.av, h91, hp, a, b]
    by_cases h4 : k = 4
    · subst h4
      have hg : goodT (.node 4 o n t i x l r) = (sidesZ o == 1 && goodT l) := by simp only [goodT, hok, Bool.true_and, if_neg h0, if_neg h1, if_neg h2, if_neg h3, if_true]
      rw [hg]
      cases a : (sidesZ o == 1) <;> simp only [evalFn, params, List.length_cons, List.length_nil, Nat.reduceAdd, evalCode, evalOps, guardOk, evalOp, AX.ev, look, putE, val, evs, optEv, binA, intBin, wrapI, unA, callM, keepE_cons, keepE_nil, Nat.reduceEqDiff, if_true, if_false, reduceIte, Int.toNat_natCast, List.append_nil, List.nil_append, List.cons_append, decide_true, decide_false, bft, btf, btt, bff, Bool.false_eq_true, resultsA, oneOrTup, Option.map_some, Option.map_none, Bool.not_true, Bool.not_false, loadAt, storeAt, storeOf, partOf, List.getElem?_cons_zero, List.getElem?_cons_succ, List.set_cons_zero, List.set_cons_succ, ic_bool, ce_bool, ic_int, ce_int, ic_str, ce_str, ic_flt, ce_flt, ic_cplx, ce_cplx, ic_nilp, ce_nilp, ic_ip, ce_ip, ic_bp, ce_bp, ic_sl, ce_sl, ic_bs, ce_bs, ic_nilm, ce_nilm, ic_map, ce_map, ic_fn, ce_fn, ic_nilf, ce_nilf, ic_iface, ce_iface, ic_nili, ce_nili, ic_agg, ce_agg, List.all_cons, List.all_nil, Bool.and_true, Bool.and_false, Bool.false_and, Bool.true_and, Bool.and_self, and_true, true_and, and_self, putAt, hasLabel, Bool.or_false, Bool.false_or, Bool.or_true, Bool.true_or, fillA, pickParts, pickSl, strBin, eqA, eqCell, ne_eq, not_true_eq_false, not_false_eq_true, Nat.reduceLeDiff, Nat.reduceLT, Nat.reduceMul, Nat.reduceSub, Nat.zero_add, Nat.add_zero, Option.bind_some, asNat, bounds2, reduceCtorEq, List.take_succ_cons, List.take_zero, List.drop_succ_cons, List.drop_zero, Nat.reduceBEq, List.take_nil, List.drop_nil, Int.reduceLE, Int.reduceLT, Int.reduceToNat, Int.toNat_zero, Int.reduceBEq, Int.le_refl, Nat.le_refl, b2s, srcRow, binA, beq_self_eq_true, bne_self_eq_false, minI, maxI, foldI, Bool.not_not, Int.lt_irrefl, gt_iff_lt, ge_iff_le, List.length_map, AV.undef, i45, T.av, h91, hp, h92, hl, a]
    by_cases h5 : k = 5
    · subst h5
      have hg : goodT (.node 5 o n t i x l r) = (sidesZ o == 2 && goodT l && goodT r) := by simp only [goodT, hok, Bool.true_and, if_neg h0, if_neg h1, if_neg h2, if_neg h3, if_neg h4, if_true]
      rw [hg]
      cases a : (sidesZ o == 2) <;> cases b : goodT l <;> rw [b] at hl <;> simp only [evalFn, params, List.length_cons, List.length_nil, Nat.reduceAdd, evalCode, evalOps, guardOk, evalOp, AX.ev, look, putE, val, evs, optEv, binA, intBin, wrapI, unA, callM, keepE_cons, keepE_nil, Nat.reduceEqDiff, if_true, if_false, reduceIte, Int.toNat_natCast, List.append_nil, List.nil_append, List.cons_append, decide_true, decide_false, bft, btf, btt, bff, Bool.false_eq_true, resultsA, oneOrTup, Option.map_some, Option.map_none, Bool.not_true, Bool.not_false, loadAt, storeAt, storeOf, partOf, List.getElem?_cons_zero, List.getElem?_cons_succ, List.set_cons_zero, List.set_cons_succ, ic_bool, ce_bool, ic_int, ce_int, ic_str, ce_str, ic_flt, ce_flt, ic_cplx, ce_cplx, ic_nilp, ce_nilp, ic_ip, ce_ip, ic_bp, ce_bp, ic_sl, ce_sl, ic_bs, ce_bs, ic_nilm, ce_nilm, ic_map, ce_map, ic_fn, ce_fn, ic_nilf, ce_nilf, ic_iface, ce_iface, ic_nili, ce_nili, ic_agg, ce_agg, List.all_cons, List.all_nil, Bool.and_true, Bool.and_false, Bool.false_and, Bool.true_and, Bool.and_self, and_true, true_and, and_self, putAt, hasLabel, Bool.or_false, Bool.false_or, Bool.or_true, Bool.true_or, fillA, pickParts, pickSl, strBin, eqA, eqCell, ne_eq, not_true_eq_false, not_false_eq_true, Nat.reduceLeDiff, Nat.reduceLT, Nat.reduceMul, Nat.reduceSub, Nat.zero_add, Nat.add_zero, Option.bind_some, asNat, bounds2, reduceCtorEq, List.take_succ_cons, List.take_zero, List.drop_succ_cons, List.drop_zero, Nat.reduceBEq, List.take_nil, List.drop_nil, Int.reduceLE, Int.reduceLT, Int.reduceToNat, Int.toNat_zero, Int.reduceBEq, Int.le_refl, Nat.le_refl, b2s, srcRow, binA, beq_self_eq_true, bne_self_eq_false, minI, maxI, foldI, Bool.not_not, Int.lt_irrefl, gt_iff_lt, ge_iff_le, List.length_map, AV.undef, i45, T.av, h91, hp, h92, hl, hr, a]
    have hg : goodT (.node k o n t i x l r) = false := by simp only [goodT, if_neg h0, if_neg h1, if_neg h2, if_neg h3, if_neg h4, if_neg h5, Bool.and_false]
    rw [hg]
    simp only [evalFn, params, List.length_cons, List.length_nil, Nat.reduceAdd, evalCode, evalOps, guardOk, evalOp, AX.ev, look, putE, val, evs, optEv, binA, intBin, wrapI, unA, callM, keepE_cons, keepE_nil, Nat.reduceEqDiff, if_true, if_false, reduceIte, Int.toNat_natCast, List.append_nil, List.nil_append, List.cons_append, decide_true, decide_false, bft, btf, btt, bff, Bool.false_eq_true, resultsA, oneOrTup, Option.map_some, Option.map_none, Bool.not_true, Bool.not_false, loadAt, storeAt, storeOf, partOf, List.getElem?_cons_zero, List.getElem?_cons_succ, List.set_cons_zero, List.set_cons_succ, ic_bool, ce_bool, ic_int, ce_int, ic_str, ce_str, ic_flt, ce_flt, ic_cplx, ce_cplx, ic_nilp, ce_nilp, ic_ip, ce_ip, ic_bp, ce_bp, ic_sl, ce_sl, ic_bs, ce_bs, ic_nilm, ce_nilm, ic_map, ce_map, ic_fn, ce_fn, ic_nilf, ce_nilf, ic_iface, ce_iface, ic_nili, ce_nili, ic_agg, ce_agg, List.all_cons, List.all_nil, Bool.and_true, Bool.and_false, Bool.false_and, Bool.true_and, Bool.and_self, and_true, true_and, and_self, putAt, hasLabel, Bool.or_false, Bool.false_or, Bool.or_true, Bool.true_or, fillA, pickParts, pickSl, strBin, eqA, eqCell, ne_eq, not_true_eq_false, not_false_eq_true, Nat.reduceLeDiff, Nat.reduceLT, Nat.reduceMul, Nat.reduceSub, Nat.zero_add, Nat.add_zero, Option.bind_some, asNat, bounds2, reduceCtorEq, List.take_succ_cons, List.take_zero, List.drop_succ_cons, List.drop_zero, Nat.reduceBEq, List.take_nil, List.drop_nil, Int.reduceLE, Int.reduceLT, Int.reduceToNat, Int.toNat_zero, Int.reduceBEq, Int.le_refl, Nat.le_refl, b2s, srcRow, binA, beq_self_eq_true, bne_self_eq_false, minI, maxI, foldI, Bool.not_not, Int.lt_irrefl, gt_iff_lt, ge_iff_le, List.length_map, AV.undef, i45, T.av, h91, hp, ne_int h0, ne_int h1, ne_int h2, ne_int h3, ne_int h4, ne_int h5]

theorem exE_sound (hG : GPure G) : CallS Tryd.prog G exE := by
  refine (CallS.encRec (exD_sound hG) mixed hG ok45 encT (fun n t => t.wf ∧ t.height < n) _ (fun x h => by omega) (fun n t ht => ?_) 60).or (exD_sound hG)
  obtain ⟨hw, hh⟩ := ht
  refine ⟨encT_bare _, 0, _, [], ?_, seen_flat rfl⟩
  have self : Has (orC (atF 45 (sGood n)) exD) 45 encT (fun t => t.wf ∧ t.height < n) fun t => .bool (goodT t) := Has.self (fun _ _ _ _ h => by rw [encT_inj h]) (fun _ _ => encT_bare _) (fun _ _ => seen_flat rfl)
  cases t with
  | nil => simp only [evalFn, params, List.length_cons, List.length_nil, Nat.reduceAdd, evalCode, evalOps, guardOk, evalOp, AX.ev, look, putE, val, evs, optEv, binA, intBin, wrapI, unA, callM, keepE_cons, keepE_nil, Nat.reduceEqDiff, if_true, if_false, reduceIte, Int.toNat_natCast, List.append_nil, List.nil_append, List.cons_append, decide_true, decide_false, bft, btf, btt, bff, Bool.false_eq_true, resultsA, oneOrTup, Option.map_some, Option.map_none, Bool.not_true, Bool.not_false, loadAt, storeAt, storeOf, partOf, List.getElem?_cons_zero, List.getElem?_cons_succ, List.set_cons_zero, List.set_cons_succ, AV.cells, AV.isCell, List.all_cons, List.all_nil, Bool.and_true, Bool.and_false, Bool.false_and, Bool.true_and, Bool.and_self, and_true, true_and, and_self, putAt, hasLabel, Bool.or_false, Bool.false_or, Bool.or_true, Bool.true_or, fillA, pickParts, pickSl, strBin, eqA, eqCell, ne_eq, not_true_eq_false, not_false_eq_true, Nat.reduceLeDiff, Nat.reduceLT, Nat.reduceMul, Nat.reduceSub, Nat.zero_add, Nat.add_zero, Option.bind_some, asNat, bounds2, reduceCtorEq, List.take_succ_cons, List.take_zero, List.drop_succ_cons, List.drop_zero, Nat.reduceBEq, List.take_nil, List.drop_nil, Int.reduceLE, Int.reduceLT, Int.reduceToNat, Int.toNat_zero, Int.reduceBEq, Int.le_refl, Nat.le_refl, b2s, srcRow, binA, beq_self_eq_true, bne_self_eq_false, minI, maxI, foldI, Bool.not_not, Int.lt_irrefl, gt_iff_lt, ge_iff_le, List.length_map, AV.undef, i45, encT, T.av, goodT]
  | node k o nn t i x l r =>
    have hw2 := hw
    obtain ⟨_, ho, _, _, _, _, hl, hr⟩ := hw2
    simp only [T.height] at hh
    have s92 := ((((exA_sides.over (s := sDepth 60) (show 92 ≠ 55 by decide)).over (s := sDepth1) (show 92 ≠ 24 by decide)).over (s := sPlain) (show 92 ≠ 91 by decide)).over (s := sGood n) (show 92 ≠ 45 by decide))
    exact good_node k o nn t i x l r hw (fun σ => (exD_plain.over (s := sGood n) (show 91 ≠ 45 by decide)) (.node k o nn t i x l r) σ trivial) (fun σ => s92 o σ ho) (fun σ => self l σ ⟨hl, by omega⟩) (fun σ => self r σ ⟨hr, by omega⟩)
theorem exE_good : Has exE 45 encT (fun t => t.wf ∧ t.height < 60) fun t => .bool (goodT t) :=
  Has.self (fun _ _ _ _ h => by rw [encT_inj h]) (fun _ _ => encT_bare _) (fun _ _ => seen_flat rfl)

theorem exF_sound (hG : GPure G) : CallS Tryd.prog G exF := by
  refine (CallS.enc (exE_sound hG) mixed hG ok16 encT (fun t => t.wf ∧ t.height < 60) _ fun t ht => ⟨encT_bare t, 0, _, [], ?_, seen_flat rfl⟩).or (exE_sound hG)
  have h24 : ∀ σ, callC exE 24 [t.av] σ = some (.ret (.int .i64 (depthT 13 t)), σ) := fun σ => ((exC_depth1.over (s := sPlain) (show 24 ≠ 91 by decide)).over (s := sGood 60) (show 24 ≠ 45 by decide)) t σ trivial
  have h45 : ∀ σ, callC exE 45 [t.av] σ = some (.ret (.bool (goodT t)), σ) := fun σ => exE_good t σ ht
  by_cases h : depthT 13 t ≤ 12
  · have e : ((depthT 13 t : Int) ≤ 12) = True := by simp; omega
    have hm : mayT t = goodT t := by simp only [mayT, h, decide_true, Bool.true_and]
    rw [hm]
    simp only [evalFn, params, List.length_cons, List.length_nil, Nat.reduceAdd, evalCode, evalOps, guardOk, evalOp, AX.ev, look, putE, val, evs, optEv, binA, intBin, wrapI, unA, callM, keepE_cons, keepE_nil, Nat.reduceEqDiff, if_true, if_false, reduceIte, Int.toNat_natCast, List.append_nil, List.nil_append, List.cons_append, decide_true, decide_false, bft, btf, btt, bff, Bool.false_eq_true, resultsA, oneOrTup, Option.map_some, Option.map_none, Bool.not_true, Bool.not_false, loadAt, storeAt, storeOf, partOf, List.getElem?_cons_zero, List.getElem?_cons_succ, List.set_cons_zero, List.set_cons_succ, AV.cells, AV.isCell, List.all_cons, List.all_nil, Bool.and_true, Bool.and_false, Bool.false_and, Bool.true_and, Bool.and_self, and_true, true_and, and_self, putAt, hasLabel, Bool.or_false, Bool.false_or, Bool.or_true, Bool.true_or, fillA, pickParts, pickSl, strBin, eqA, eqCell, ne_eq, not_true_eq_false, not_false_eq_true, Nat.reduceLeDiff, Nat.reduceLT, Nat.reduceMul, Nat.reduceSub, Nat.zero_add, Nat.add_zero, Option.bind_some, asNat, bounds2, reduceCtorEq, List.take_succ_cons, List.take_zero, List.drop_succ_cons, List.drop_zero, Nat.reduceBEq, List.take_nil, List.drop_nil, Int.reduceLE, Int.reduceLT, Int.reduceToNat, Int.toNat_zero, Int.reduceBEq, Int.le_refl, Nat.le_refl, b2s, srcRow, binA, beq_self_eq_true, bne_self_eq_false, minI, maxI, foldI, Bool.not_not, Int.lt_irrefl, gt_iff_lt, ge_iff_le, List.length_map, AV.undef, i16, encT, h24, h45, e]
  · have e : ((depthT 13 t : Int) ≤ 12) = False := by simp; omega
    have hm : mayT t = false := by simp only [mayT, h, decide_false, Bool.false_and]
    rw [hm]
    simp only [evalFn, params, List.length_cons, List.length_nil, Nat.reduceAdd, evalCode, evalOps, guardOk, evalOp, AX.ev, look, putE, val, evs, optEv, binA, intBin, wrapI, unA, callM, keepE_cons, keepE_nil, Nat.reduceEqDiff, if_true, if_false, reduceIte, Int.toNat_natCast, List.append_nil, List.nil_append, List.cons_append, decide_true, decide_false, bft, btf, btt, bff, Bool.false_eq_true, resultsA, oneOrTup, Option.map_some, Option.map_none, Bool.not_true, Bool.not_false, loadAt, storeAt, storeOf, partOf, List.getElem?_cons_zero, List.getElem?_cons_succ, List.set_cons_zero, List.set_cons_succ, AV.cells, AV.isCell, List.all_cons, List.all_nil, Bool.and_true, Bool.and_false, Bool.false_and, Bool.true_and, Bool.and_self, and_true, true_and, and_self, putAt, hasLabel, Bool.or_false, Bool.false_or, Bool.or_true, Bool.true_or, fillA, pickParts, pickSl, strBin, eqA, eqCell, ne_eq, not_true_eq_false, not_false_eq_true, Nat.reduceLeDiff, Nat.reduceLT, Nat.reduceMul, Nat.reduceSub, Nat.zero_add, Nat.add_zero, Option.bind_some, asNat, bounds2, reduceCtorEq, List.take_succ_cons, List.take_zero, List.drop_succ_cons, List.drop_zero, Nat.reduceBEq, List.take_nil, List.drop_nil, Int.reduceLE, Int.reduceLT, Int.reduceToNat, Int.toNat_zero, Int.reduceBEq, Int.le_refl, Nat.le_refl, b2s, srcRow, binA, beq_self_eq_true, bne_self_eq_false, minI, maxI, foldI, Bool.not_not, Int.lt_irrefl, gt_iff_lt, ge_iff_le, List.length_map, AV.undef, i16, encT, h24, e]
theorem exF_may : Has exF 16 encT (fun t => t.wf ∧ t.height < 60) fun t => .bool (mayT t) :=
  Has.self (fun _ _ _ _ h => by rw [encT_inj h]) (fun _ _ => encT_bare _) (fun _ _ => seen_flat rfl)
end
end Go.Pm
end

section
set_option linter.unusedSimpArgs false
set_option linter.unusedVariables false
set_option linter.unusedSectionVars false
/- Contracts of the library, laid at this program by the kit's shelf (its plain mode), those that are needed. -/
namespace Go.Proofs
open Go.Shelf
def Tryd.lays283_ren : Go.Shelf.Ren := ⟨fun | 283 => 126 | n => n, fun | 3 => 3 | 9 => 9 | 4 => 4 | n => n, fun | n => n⟩
theorem Tryd.lays283 : Go.Proofs.Lays.n283 Tryd.prog Tryd.lays283_ren := {
  mixed := by kernel_rfl
  f283 := Tryd.func126.trans (congrArg some (by kernel_rfl))
  t3 := Tryd.underlying3
  a3 := Tryd.isAgg3
  z3 := Tryd.sizeOf3
  v3 := Tryd.zeroValue3
  t4 := Tryd.underlying4
  a4 := Tryd.isAgg4
  z4 := Tryd.sizeOf4
  v4 := Tryd.zeroValue4
  t9 := Tryd.underlying9
  a9 := Tryd.isAgg9
  z9 := Tryd.sizeOf9
  v9 := Tryd.zeroValue9 }
open Go.Lib in
/-- internal/strconv.small: "small returns the string for an i with 0 <= i < nSmalls.": i's decimal numeral. The world is as it was. (LAID: no walk: one application.) -/
theorem Tryd.internal_strconv_small (i : Nat) (h : i < 100) (w : World) :
    Calls Tryd.prog 126 #[.int .i64 i] w fun e w' => e = .returned (.string ⟨(Lib.decDigits i).toArray⟩) ∧ w' = w := Any.internal_strconv_small Tryd.lays283 i h w
def Tryd.lays285_ren : Go.Shelf.Ren := ⟨fun | 285 => 128 | n => n, fun | 37 => 67 | 53 => 30 | 3 => 3 | 4 => 4 | 51 => 159 | 9 => 9 | 5 => 5 | 0 => 0 | n => n, fun | n => n⟩
theorem Tryd.lays285 : Go.Proofs.Lays.n285 Tryd.prog Tryd.lays285_ren := {
  mixed := by kernel_rfl
  f285 := Tryd.func128.trans (congrArg some (by kernel_rfl))
  t0 := Tryd.underlying0
  a0 := Tryd.isAgg0
  z0 := Tryd.sizeOf0
  v0 := Tryd.zeroValue0
  t3 := Tryd.underlying3
  a3 := Tryd.isAgg3
  z3 := Tryd.sizeOf3
  v3 := Tryd.zeroValue3
  t4 := Tryd.underlying4
  a4 := Tryd.isAgg4
  z4 := Tryd.sizeOf4
  v4 := Tryd.zeroValue4
  t5 := Tryd.underlying5
  a5 := Tryd.isAgg5
  z5 := Tryd.sizeOf5
  v5 := Tryd.zeroValue5
  t9 := Tryd.underlying9
  a9 := Tryd.isAgg9
  z9 := Tryd.sizeOf9
  v9 := Tryd.zeroValue9
  t37 := Tryd.underlying67
  a37 := Tryd.isAgg67
  z37 := Tryd.sizeOf67
  v37 := Tryd.zeroValue67
  t51 := Tryd.underlying159
  a51 := Tryd.isAgg159
  z51 := Tryd.sizeOf159
  v51 := Tryd.zeroValue159
  t53 := Tryd.underlying30
  a53 := Tryd.isAgg30
  z53 := Tryd.sizeOf30
  v53 := Tryd.zeroValue30 }
open Go.RowKit Go.Sort Go.Lib in
/-- internal/strconv.formatBase10: "formatBase10 formats the decimal representation of u into a. The caller is responsible for ensuring that a is big enough to hold u. If a is too big, leading zeros will be filled in as needed.": THE ROW HOLDS u's DIGITS ('FmtInv .. 0 ..': every place t holds 'dg u (len - 1 - t)'); all else is as it was but for the count of draws. (LAID: no walk: one application.) -/
theorem Tryd.internal_strconv_formatBase10 (blk off cap : Nat) (u : Nat) (d : Array UInt8) (w : World) (hH : Holds (fun (b : UInt8) => Value.int .u8 (b.toNat : Int)) w blk off d) (hu : u < 10 ^ d.size) (hu64 : u < 18446744073709551616) (hsz : d.size < 4611686018427387904) :
    Calls Tryd.prog 128 #[.slice (some ⟨blk, off, none⟩) d.size cap, .int .u64 u] w fun e w' =>
      e = .returned (.tuple #[]) ∧ ∃ (n v' : Nat) (dk : Array UInt8), w' = (putRow (fun (b : UInt8) => Value.int .u8 (b.toNat : Int)) w blk off dk).drewN n ∧ FmtInv d.size u 0 v' dk := Any.internal_strconv_formatBase10 Tryd.lays285 blk off cap u d w hH hu hu64 hsz
end Go.Proofs
end

section
set_option linter.unusedSimpArgs false
set_option linter.unusedVariables false
set_option linter.unusedSectionVars false
/- FormatUint at base ten: the road of great numbers. -/
set_option linter.unusedVariables false
namespace Go.Proofs
open Go.Shelf Go.RowKit Go.Sort Go.Lib

set_option maxHeartbeats 6400000 in
set_option maxRecDepth 100000 in
theorem Tryd.formatUint_small (u : Nat) (h1 : u < 100) (w : World) :
    Calls Tryd.prog 109 #[.int .u64 u, .int .i64 10] w fun e w' => e = .returned (.string ⟨(Lib.decDigits u).toArray⟩) ∧ Below w.heap.size w w' := by
  have mixed : Tryd.prog.follows .mixedOrders = true := by kernel_rfl
  have t2 := Tryd.underlying2; have a2 := Tryd.isAgg2; have z2 := Tryd.sizeOf2; have v2 := Tryd.zeroValue2
  have t3 := Tryd.underlying3; have a3 := Tryd.isAgg3; have z3 := Tryd.sizeOf3; have v3 := Tryd.zeroValue3
  have t9 := Tryd.underlying9; have a9 := Tryd.isAgg9; have z9 := Tryd.sizeOf9; have v9 := Tryd.zeroValue9
  have t4 := Tryd.underlying4; have a4 := Tryd.isAgg4; have z4 := Tryd.sizeOf4; have v4 := Tryd.zeroValue4
  have t164 := Tryd.underlying164; have a164 := Tryd.isAgg164; have z164 := Tryd.sizeOf164; have v164 := Tryd.zeroValue164
  have t0 := Tryd.underlying0; have a0 := Tryd.isAgg0; have z0 := Tryd.sizeOf0; have v0 := Tryd.zeroValue0
  have t30 := Tryd.underlying30; have a30 := Tryd.isAgg30; have z30 := Tryd.sizeOf30; have v30 := Tryd.zeroValue30
  have t67 := Tryd.underlying67; have a67 := Tryd.isAgg67; have z67 := Tryd.sizeOf67; have v67 := Tryd.zeroValue67
  have t5 := Tryd.underlying5; have a5 := Tryd.isAgg5; have z5 := Tryd.sizeOf5; have v5 := Tryd.zeroValue5
  have t167 := Tryd.underlying167; have a167 := Tryd.isAgg167; have z167 := Tryd.sizeOf167; have v167 := Tryd.zeroValue167
  have e126 : ∀ args w, (callFunc 126 args).run Tryd.prog w = .ok (.enter 126 args) w := enters_of Tryd.func126 (by kernel_rfl) rfl
  go_enter Tryd.func109, Tryd.ntmps109
  go_wp2_with (first
    | (go_at_fn 126; refine (Tryd.internal_strconv_small u h1 _).mono ?_; rintro e w' ⟨rfl, rfl⟩))
  go_ret
  exact ⟨rfl, .refl _ _⟩

set_option maxHeartbeats 6400000 in
set_option maxRecDepth 100000 in
/-- The digits of a great number, if it is known how many there are. -/
theorem Tryd.formatUint_great (u : Nat) (h1 : 100 ≤ u) (h2 : u < 18446744073709551616) (w : World)
    (hnd : ∀ w1 : World, w.heap.size ≤ w1.heap.size → (∀ b, b < w.heap.size → w1.heap[b]? = w.heap[b]?) → Calls Tryd.prog 127 #[.int .u64 u] w1 fun e w2 => e = .returned (.int .i64 (Lib.nDigits u)) ∧ Below w1.heap.size w1 w2) :
    Calls Tryd.prog 109 #[.int .u64 u, .int .i64 10] w fun e w' => e = .returned (.string ⟨(Lib.decDigits u).toArray⟩) ∧ Below w.heap.size w w' := by
  have mixed : Tryd.prog.follows .mixedOrders = true := by kernel_rfl
  have hnd20 : Lib.nDigits u ≤ 20 := by have := Lib.numDigits_eq u (by omega) h2; split at this <;> omega
  have t2 := Tryd.underlying2; have a2 := Tryd.isAgg2; have z2 := Tryd.sizeOf2; have v2 := Tryd.zeroValue2
  have t3 := Tryd.underlying3; have a3 := Tryd.isAgg3; have z3 := Tryd.sizeOf3; have v3 := Tryd.zeroValue3
  have t9 := Tryd.underlying9; have a9 := Tryd.isAgg9; have z9 := Tryd.sizeOf9; have v9 := Tryd.zeroValue9
  have t4 := Tryd.underlying4; have a4 := Tryd.isAgg4; have z4 := Tryd.sizeOf4; have v4 := Tryd.zeroValue4
  have t164 := Tryd.underlying164; have a164 := Tryd.isAgg164; have z164 := Tryd.sizeOf164; have v164 := Tryd.zeroValue164
  have t0 := Tryd.underlying0; have a0 := Tryd.isAgg0; have z0 := Tryd.sizeOf0; have v0 := Tryd.zeroValue0
  have t30 := Tryd.underlying30; have a30 := Tryd.isAgg30; have z30 := Tryd.sizeOf30; have v30 := Tryd.zeroValue30
  have t67 := Tryd.underlying67; have a67 := Tryd.isAgg67; have z67 := Tryd.sizeOf67; have v67 := Tryd.zeroValue67
  have t5 := Tryd.underlying5; have a5 := Tryd.isAgg5; have z5 := Tryd.sizeOf5; have v5 := Tryd.zeroValue5
  have t167 := Tryd.underlying167; have a167 := Tryd.isAgg167; have z167 := Tryd.sizeOf167; have v167 := Tryd.zeroValue167
  have e127 : ∀ args w, (callFunc 127 args).run Tryd.prog w = .ok (.enter 127 args) w := enters_of Tryd.func127 (by kernel_rfl) rfl
  have e128 : ∀ args w, (callFunc 128 args).run Tryd.prog w = .ok (.enter 128 args) w := enters_of Tryd.func128 (by kernel_rfl) rfl
  go_enter Tryd.func109, Tryd.ntmps109
  have hal : Tryd.prog.arrayLen 164 = 24 := by simp [Program.arrayLen, t164]
  have hsl1 : ∀ W, (Instr.sliceAt 164 (.pointer (some ⟨w.heap.size, 0, none⟩)) none (some (.int .i64 (Lib.nDigits u : Int))) none).run Tryd.prog W = .ok (.slice (some ⟨w.heap.size, 0, none⟩) (Lib.nDigits u) 24) W := fun W => by
    rw [run_sliceAt_array_h W 164 ⟨w.heap.size, 0, none⟩ (by simp [Program.arrayLen, Program.elem, t164]) .i64 (Lib.nDigits u : Int) (by omega) (by rw [hal]; omega)]
    go_simp
    try omega
  clear hal
  have hH0 : ∀ w2 : World, Below (w.heap.size + 1) (w.alloc (.cells Lib.zeros24 164)) w2 → Holds (fun (b : UInt8) => Value.int .u8 (b.toNat : Int)) w2 w.heap.size 0 (Array.replicate (Lib.nDigits u) (0 : UInt8)) := by
    intro w2 hb j hj
    obtain ⟨k1, k2⟩ := Lib.holds_zero0 w 164 (Lib.nDigits u) (by omega) j hj
    have e := hb.block w.heap.size (by omega)
    constructor
    · rw [← k1]; unfold World.cell?; simp only [e]
    · rw [← k2]; unfold World.frozen?; simp only [e]
  have hsz1 : (w.alloc (.cells Lib.zeros24 164)).heap.size = w.heap.size + 1 := by unfold World.alloc; exact Array.size_push _
  have hold : ∀ b, b < w.heap.size → (w.alloc (.cells Lib.zeros24 164)).heap[b]? = w.heap[b]? := by
    intro b hb
    unfold World.alloc
    simp only [Array.getElem?_push]
    rw [if_neg (by omega)]
  have h127 := hnd (w.alloc (.cells Lib.zeros24 164)) (by omega) hold
  rw [hsz1] at h127
  go_wp2_with (first
    | (go_at_fn 127; refine h127.mono ?_; rintro e w2 ⟨rfl, hb2⟩))
  go_at_fn 128
  have hfmt := Tryd.internal_strconv_formatBase10 w.heap.size 0 24 u (Array.replicate (Lib.nDigits u) 0) w2 (hH0 w2 hb2) (by rw [Array.size_replicate]; exact Lib.lt_pow_nDigits u) h2 (by rw [Array.size_replicate]; omega)
  rw [Array.size_replicate] at hfmt
  refine hfmt.mono ?_
  rintro e w' ⟨rfl, k, v', dk, rfl, hF⟩
  have hcv : (convert 67 9 (.slice (some ⟨w.heap.size, 0, none⟩) (Lib.nDigits u) 24)).run Tryd.prog ((putRow (fun (b : UInt8) => Value.int .u8 (b.toNat : Int)) w2 w.heap.size 0 dk).drewN k) = .ok (.string ⟨(Lib.decDigits u).toArray⟩) ((putRow (fun (b : UInt8) => Value.int .u8 (b.toNat : Int)) w2 w.heap.size 0 dk).drewN k) := by
    have h := run_convert_bytes_back (P := Tryd.prog) ((putRow (fun (b : UInt8) => Value.int .u8 (b.toNat : Int)) w2 w.heap.size 0 dk).drewN k) 67 9 5 ⟨w.heap.size, 0, none⟩ 24 (Lib.decDigits u) Tryd.underlying67 Tryd.underlying5 Tryd.underlying9 (fun j hj => by
      rw [Lib.row_is_numeral hF j hj, Lib.add_plain, World.cell?_drewN]
      exact cell?_putRow (fun (b : UInt8) => Value.int .u8 (b.toNat : Int)) _ w.heap.size 0 _ dk (hH0 w2 hb2) (by rw [hF.size, Array.size_replicate]) j (by rw [hF.size]; rw [Lib.decDigits_length] at hj; exact hj))
    rw [Lib.decDigits_length] at h
    exact h
  go_wp2
  go_ret
  refine ⟨rfl, ?_⟩
  have hb0 : Below w.heap.size w w2 := ⟨hb2.os, hb2.tape, hb2.output, by have := hb2.size; omega, fun b hb => by rw [hb2.block b (by omega)]; exact hold b hb⟩
  have this : Below w.heap.size w (putRow (fun (b : UInt8) => Value.int .u8 (b.toNat : Int)) w2 w.heap.size 0 dk) := ⟨hb0.os, hb0.tape, hb0.output, by have := hb0.size; simp only [putRow, mapBlock, Array.size_modify]; exact this, fun b hb => by
    rw [← hb0.block b hb]
    simp only [putRow, mapBlock, Array.getElem?_modify, if_neg (show ¬ w.heap.size = b by omega)]⟩
  have e : ∀ (k : Nat) (w' : World), Below w.heap.size w w' → Below w.heap.size w (w'.drewN k) := fun k w' h => ⟨h.os, h.tape, h.output, h.size, h.block⟩
  exact e _ _ this
end Go.Proofs
end

section
set_option linter.unusedSimpArgs false
set_option linter.unusedVariables false
set_option linter.unusedSectionVars false
/- Numbers in digits: how many there are, FormatUint, Itoa of small ones. -/
set_option maxRecDepth 100000
set_option linter.unusedSimpArgs false
set_option linter.unusedVariables false
namespace Go.Pm
open Go.Proofs Go.Proofs.YtehcekeccnlboaaDoor

section
variable {G : Globals}

theorem len_tabA : ((List.range 256).map fun x => ([0, 1, 2, 2, 3, 3, 3, 3, 4, 4, 4, 4, 4, 4, 4, 4, 5, 5, 5, 5, 5, 5, 5, 5, 5, 5, 5, 5, 5, 5, 5, 5, 6, 6, 6, 6, 6, 6, 6, 6, 6, 6, 6, 6, 6, 6, 6, 6, 6, 6, 6, 6, 6, 6, 6, 6, 6, 6, 6, 6, 6, 6, 6, 6, 7, 7, 7, 7, 7, 7, 7, 7, 7, 7, 7, 7, 7, 7, 7, 7, 7, 7, 7, 7, 7, 7, 7, 7, 7, 7, 7, 7, 7, 7, 7, 7, 7, 7, 7, 7, 7, 7, 7, 7, 7, 7, 7, 7, 7, 7, 7, 7, 7, 7, 7, 7, 7, 7, 7, 7, 7, 7, 7, 7, 7, 7, 7, 7, 8, 8, 8, 8, 8, 8, 8, 8, 8, 8, 8, 8, 8, 8, 8, 8, 8, 8, 8, 8, 8, 8, 8, 8, 8, 8, 8, 8, 8, 8, 8, 8, 8, 8, 8, 8, 8, 8, 8, 8, 8, 8, 8, 8, 8, 8, 8, 8, 8, 8, 8, 8, 8, 8, 8, 8, 8, 8, 8, 8, 8, 8, 8, 8, 8, 8, 8, 8, 8, 8, 8, 8, 8, 8, 8, 8, 8, 8, 8, 8, 8, 8, 8, 8, 8, 8, 8, 8, 8, 8, 8, 8, 8, 8, 8, 8, 8, 8, 8, 8, 8, 8, 8, 8, 8, 8, 8, 8, 8, 8, 8, 8, 8, 8, 8, 8, 8, 8, 8, 8, 8, 8, 8, 8, 8, 8, 8, 8] : List UInt8)[x]?) = (List.range 256).map fun x => some (UInt8.ofNat (Lib.bitLen x)) := by kernel_rfl
theorem len_tab (x : Nat) (h : x < 256) : ([0, 1, 2, 2, 3, 3, 3, 3, 4, 4, 4, 4, 4, 4, 4, 4, 5, 5, 5, 5, 5, 5, 5, 5, 5, 5, 5, 5, 5, 5, 5, 5, 6, 6, 6, 6, 6, 6, 6, 6, 6, 6, 6, 6, 6, 6, 6, 6, 6, 6, 6, 6, 6, 6, 6, 6, 6, 6, 6, 6, 6, 6, 6, 6, 7, 7, 7, 7, 7, 7, 7, 7, 7, 7, 7, 7, 7, 7, 7, 7, 7, 7, 7, 7, 7, 7, 7, 7, 7, 7, 7, 7, 7, 7, 7, 7, 7, 7, 7, 7, 7, 7, 7, 7, 7, 7, 7, 7, 7, 7, 7, 7, 7, 7, 7, 7, 7, 7, 7, 7, 7, 7, 7, 7, 7, 7, 7, 7, 8, 8, 8, 8, 8, 8, 8, 8, 8, 8, 8, 8, 8, 8, 8, 8, 8, 8, 8, 8, 8, 8, 8, 8, 8, 8, 8, 8, 8, 8, 8, 8, 8, 8, 8, 8, 8, 8, 8, 8, 8, 8, 8, 8, 8, 8, 8, 8, 8, 8, 8, 8, 8, 8, 8, 8, 8, 8, 8, 8, 8, 8, 8, 8, 8, 8, 8, 8, 8, 8, 8, 8, 8, 8, 8, 8, 8, 8, 8, 8, 8, 8, 8, 8, 8, 8, 8, 8, 8, 8, 8, 8, 8, 8, 8, 8, 8, 8, 8, 8, 8, 8, 8, 8, 8, 8, 8, 8, 8, 8, 8, 8, 8, 8, 8, 8, 8, 8, 8, 8, 8, 8, 8, 8, 8, 8, 8, 8] : List UInt8)[x]? = some (UInt8.ofNat (Lib.bitLen x)) := by
  have := congrArg (fun l => l[x]?) len_tabA
  simp only [List.getElem?_map, List.getElem?_range h, Option.map_some, Option.some.injEq] at this
  exact this
theorem bitLen_small (x : Nat) (h : x < 256) : Lib.bitLen x ≤ 8 := by
  have := Lib.bitLen_le8' (x : Int) (by omega) (by omega)
  simpa using this

theorem shr_any (n m : Nat) (b : Int) (hb : 0 ≤ b) (hm : 2 ^ (Nat.min b.toNat 64) = m) : shiftBin .shr .u64 n b = some (.int .u64 (n / m : Nat)) := by
  unfold shiftBin
  rw [if_neg (by omega)]
  subst hm
  simp only [Option.some.injEq, AV.int.injEq, true_and]
  rw [Int.fdiv_eq_ediv_of_nonneg _ (Int.pow_nonneg (by omega))]
  rw [show IntKind.u64.bits = 64 from rfl]
  push_cast
  rfl
theorem shr32 (n : Nat) : shiftBin .shr .u64 n 32 = some (.int .u64 (n / 4294967296 : Nat)) := shr_any n _ 32 (by decide) (by decide)
theorem shr16 (n : Nat) : shiftBin .shr .u64 n 16 = some (.int .u64 (n / 65536 : Nat)) := shr_any n _ 16 (by decide) (by decide)
theorem shr8 (n : Nat) : shiftBin .shr .u64 n 8 = some (.int .u64 (n / 256 : Nat)) := shr_any n _ 8 (by decide) (by decide)
theorem wrap8n (n : Nat) (h : n < 256) : IntKind.u8.wrap (n : Int) = n := by rw [IntKind.wrap_u8]; omega
theorem wrap64n (n : Nat) (h : n < 256) : IntKind.i64.wrap (n : Int) = n := by rw [wrap_i64] <;> omega
theorem wrapsum (a n : Nat) (h : a < 256) (h : n < 256) : IntKind.i64.wrap ((a : Int) + (n : Int)) = ((a + n : Nat) : Int) := by rw [wrap_i64] <;> omega
theorem nonneg_true (n : Nat) : (0 ≤ (n : Int)) = True := by simp
theorem wrap_16 : IntKind.i64.wrap (0 + 16) = 16 := by decide
theorem wrap_24 : IntKind.i64.wrap (16 + 8) = 24 := by decide
theorem wrap_32 : IntKind.i64.wrap (0 + 8) = 8 := by decide
theorem wrap_40 : IntKind.i64.wrap (32 + 8) = 40 := by decide
theorem wrap_48 : IntKind.i64.wrap (32 + 16) = 48 := by decide
theorem wrap_56 : IntKind.i64.wrap (48 + 8) = 56 := by decide
theorem byte_len (n : Nat) (h : n < 256) : (UInt8.ofNat (Lib.bitLen n)).toNat = Lib.bitLen n := by
  have := bitLen_small n h
  rw [UInt8.toNat_ofNat']; omega

theorem len64_spec {call : CallA} {draw : DrawA} {fuel : Nat} (n : Nat) (h : n < 18446744073709551616) (σ : Store) : evalFn call draw G fuel i137 [.int .u64 n] σ = some (.ret (.int .i64 (Lib.bitLen n)), σ) := by
  by_cases g : 4294967296 ≤ n ∧ 65536 ≤ (n / 4294967296) ∧ 256 ≤ ((n / 4294967296) / 65536)
  · obtain ⟨g1, g2, g3⟩ := g
    have e1 : ((4294967296 : Int) ≤ ((n : Nat) : Int)) = True := by simp only [eq_iff_iff, iff_true]; omega
    have e2 : ((65536 : Int) ≤ (((n / 4294967296) : Nat) : Int)) = True := by simp only [eq_iff_iff, iff_true]; omega
    have e3 : ((256 : Int) ≤ ((((n / 4294967296) / 65536) : Nat) : Int)) = True := by simp only [eq_iff_iff, iff_true]; omega
    have hx : (((n / 4294967296) / 65536) / 256) < 256 := by omega
    have hl : Lib.bitLen n = 56 + Lib.bitLen (((n / 4294967296) / 65536) / 256) := by
      have e := Lib.bitLen_shift56 n (by omega) h
      rw [e]
      try (congr 2; omega)
    have b1 := bitLen_small (((n / 4294967296) / 65536) / 256) hx
    have b2 : IntKind.i64.wrap ((56 : Int) + (Lib.bitLen (((n / 4294967296) / 65536) / 256) : Nat)) = ((56 + Lib.bitLen (((n / 4294967296) / 65536) / 256) : Nat) : Int) := wrapsum 56 _ (by omega) (by omega)
    simp only [evalFn, params, List.length_cons, List.length_nil, Nat.reduceAdd, evalCode, evalOps, guardOk, evalOp, AX.ev, look, putE, val, evs, optEv, binA, intBin, wrapI, unA, callM, keepE_cons, keepE_nil, callC, strips, stripWs, stripW, AV.flatv, flatvs, Nat.reduceEqDiff, if_true, if_false, reduceIte, Int.toNat_natCast, List.append_nil, List.nil_append, List.cons_append, decide_true, decide_false, bft, btf, btt, bff, Bool.false_eq_true, resultsA, oneOrTup, Option.map_some, Option.map_none, Bool.not_true, Bool.not_false, loadAt, storeAt, storeOf, partOf, List.getElem?_cons_zero, List.getElem?_cons_succ, List.set_cons_zero, List.set_cons_succ, AV.cells, AV.isCell, List.all_cons, List.all_nil, Bool.and_true, Bool.and_false, Bool.false_and, Bool.true_and, Bool.and_self, and_true, true_and, and_self, putAt, hasLabel, Bool.or_false, Bool.false_or, Bool.or_true, Bool.true_or, fillA, pickParts, pickSl, strBin, eqA, eqCell, ne_eq, not_true_eq_false, not_false_eq_true, Nat.reduceLeDiff, Nat.reduceLT, Nat.reduceMul, Nat.reduceSub, Nat.zero_add, Nat.add_zero, Option.bind_some, asNat, bounds2, reduceCtorEq, List.take_succ_cons, List.take_zero, List.drop_succ_cons, List.drop_zero, Nat.reduceBEq, List.take_nil, List.drop_nil, Int.reduceLE, Int.reduceLT, Int.reduceToNat, Int.toNat_zero, Int.reduceBEq, Int.le_refl, Nat.le_refl, i137, e1, e2, e3, shr32, shr16, shr8, wrap8n _ hx, nonneg_true, len_tab _ hx, byte_len _ hx, wrap64n _ (show Lib.bitLen (((n / 4294967296) / 65536) / 256) < 256 by omega), wrap_16, wrap_24, wrap_32, wrap_40, wrap_48, wrap_56, b2, hl]
  by_cases g : 4294967296 ≤ n ∧ 65536 ≤ (n / 4294967296) ∧ ¬ 256 ≤ ((n / 4294967296) / 65536)
  · obtain ⟨g1, g2, g3⟩ := g
    have e1 : ((4294967296 : Int) ≤ ((n : Nat) : Int)) = True := by simp only [eq_iff_iff, iff_true]; omega
    have e2 : ((65536 : Int) ≤ (((n / 4294967296) : Nat) : Int)) = True := by simp only [eq_iff_iff, iff_true]; omega
    have e3 : ((256 : Int) ≤ ((((n / 4294967296) / 65536) : Nat) : Int)) = False := by simp only [eq_iff_iff, iff_false]; omega
    have hx : ((n / 4294967296) / 65536) < 256 := by omega
    have hl : Lib.bitLen n = 48 + Lib.bitLen ((n / 4294967296) / 65536) := by
      have e := Lib.bitLen_shift48 n (by omega) h
      rw [e]
      try (congr 2; omega)
    have b1 := bitLen_small ((n / 4294967296) / 65536) hx
    have b2 : IntKind.i64.wrap ((48 : Int) + (Lib.bitLen ((n / 4294967296) / 65536) : Nat)) = ((48 + Lib.bitLen ((n / 4294967296) / 65536) : Nat) : Int) := wrapsum 48 _ (by omega) (by omega)
    simp only [evalFn, params, List.length_cons, List.length_nil, Nat.reduceAdd, evalCode, evalOps, guardOk, evalOp, AX.ev, look, putE, val, evs, optEv, binA, intBin, wrapI, unA, callM, keepE_cons, keepE_nil, callC, strips, stripWs, stripW, AV.flatv, flatvs, Nat.reduceEqDiff, if_true, if_false, reduceIte, Int.toNat_natCast, List.append_nil, List.nil_append, List.cons_append, decide_true, decide_false, bft, btf, btt, bff, Bool.false_eq_true, resultsA, oneOrTup, Option.map_some, Option.map_none, Bool.not_true, Bool.not_false, loadAt, storeAt, storeOf, partOf, List.getElem?_cons_zero, List.getElem?_cons_succ, List.set_cons_zero, List.set_cons_succ, AV.cells, AV.isCell, List.all_cons, List.all_nil, Bool.and_true, Bool.and_false, Bool.false_and, Bool.true_and, Bool.and_self, and_true, true_and, and_self, putAt, hasLabel, Bool.or_false, Bool.false_or, Bool.or_true, Bool.true_or, fillA, pickParts, pickSl, strBin, eqA, eqCell, ne_eq, not_true_eq_false, not_false_eq_true, Nat.reduceLeDiff, Nat.reduceLT, Nat.reduceMul, Nat.reduceSub, Nat.zero_add, Nat.add_zero, Option.bind_some, asNat, bounds2, reduceCtorEq, List.take_succ_cons, List.take_zero, List.drop_succ_cons, List.drop_zero, Nat.reduceBEq, List.take_nil, List.drop_nil, Int.reduceLE, Int.reduceLT, Int.reduceToNat, Int.toNat_zero, Int.reduceBEq, Int.le_refl, Nat.le_refl, i137, e1, e2, e3, shr32, shr16, shr8, wrap8n _ hx, nonneg_true, len_tab _ hx, byte_len _ hx, wrap64n _ (show Lib.bitLen ((n / 4294967296) / 65536) < 256 by omega), wrap_16, wrap_24, wrap_32, wrap_40, wrap_48, wrap_56, b2, hl]
  by_cases g : 4294967296 ≤ n ∧ ¬ 65536 ≤ (n / 4294967296) ∧ 256 ≤ (n / 4294967296)
  · obtain ⟨g1, g2, g3⟩ := g
    have e1 : ((4294967296 : Int) ≤ ((n : Nat) : Int)) = True := by simp only [eq_iff_iff, iff_true]; omega
    have e2 : ((65536 : Int) ≤ (((n / 4294967296) : Nat) : Int)) = False := by simp only [eq_iff_iff, iff_false]; omega
    have e3 : ((256 : Int) ≤ (((n / 4294967296) : Nat) : Int)) = True := by simp only [eq_iff_iff, iff_true]; omega
    have hx : ((n / 4294967296) / 256) < 256 := by omega
    have hl : Lib.bitLen n = 40 + Lib.bitLen ((n / 4294967296) / 256) := by
      have e := Lib.bitLen_shift40 n (by omega) h
      rw [e]
      try (congr 2; omega)
    have b1 := bitLen_small ((n / 4294967296) / 256) hx
    have b2 : IntKind.i64.wrap ((40 : Int) + (Lib.bitLen ((n / 4294967296) / 256) : Nat)) = ((40 + Lib.bitLen ((n / 4294967296) / 256) : Nat) : Int) := wrapsum 40 _ (by omega) (by omega)
    simp only [evalFn, params, List.length_cons, List.length_nil, Nat.reduceAdd, evalCode, evalOps, guardOk, evalOp, AX.ev, look, putE, val, evs, optEv, binA, intBin, wrapI, unA, callM, keepE_cons, keepE_nil, callC, strips, stripWs, stripW, AV.flatv, flatvs, Nat.reduceEqDiff, if_true, if_false, reduceIte, Int.toNat_natCast, List.append_nil, List.nil_append, List.cons_append, decide_true, decide_false, bft, btf, btt, bff, Bool.false_eq_true, resultsA, oneOrTup, Option.map_some, Option.map_none, Bool.not_true, Bool.not_false, loadAt, storeAt, storeOf, partOf, List.getElem?_cons_zero, List.getElem?_cons_succ, List.set_cons_zero, List.set_cons_succ, AV.cells, AV.isCell, List.all_cons, List.all_nil, Bool.and_true, Bool.and_false, Bool.false_and, Bool.true_and, Bool.and_self, and_true, true_and, and_self, putAt, hasLabel, Bool.or_false, Bool.false_or, Bool.or_true, Bool.true_or, fillA, pickParts, pickSl, strBin, eqA, eqCell, ne_eq, not_true_eq_false, not_false_eq_true, Nat.reduceLeDiff, Nat.reduceLT, Nat.reduceMul, Nat.reduceSub, Nat.zero_add, Nat.add_zero, Option.bind_some, asNat, bounds2, reduceCtorEq, List.take_succ_cons, List.take_zero, List.drop_succ_cons, List.drop_zero, Nat.reduceBEq, List.take_nil, List.drop_nil, Int.reduceLE, Int.reduceLT, Int.reduceToNat, Int.toNat_zero, Int.reduceBEq, Int.le_refl, Nat.le_refl, i137, e1, e2, e3, shr32, shr16, shr8, wrap8n _ hx, nonneg_true, len_tab _ hx, byte_len _ hx, wrap64n _ (show Lib.bitLen ((n / 4294967296) / 256) < 256 by omega), wrap_16, wrap_24, wrap_32, wrap_40, wrap_48, wrap_56, b2, hl]
  by_cases g : 4294967296 ≤ n ∧ ¬ 65536 ≤ (n / 4294967296) ∧ ¬ 256 ≤ (n / 4294967296)
  · obtain ⟨g1, g2, g3⟩ := g
    have e1 : ((4294967296 : Int) ≤ ((n : Nat) : Int)) = True := by simp only [eq_iff_iff, iff_true]; omega
    have e2 : ((65536 : Int) ≤ (((n / 4294967296) : Nat) : Int)) = False := by simp only [eq_iff_iff, iff_false]; omega
    have e3 : ((256 : Int) ≤ (((n / 4294967296) : Nat) : Int)) = False := by simp only [eq_iff_iff, iff_false]; omega
    have hx : (n / 4294967296) < 256 := by omega
    have hl : Lib.bitLen n = 32 + Lib.bitLen (n / 4294967296) := by
      have e := Lib.bitLen_shift32 n (by omega) h
      rw [e]
      try (congr 2; omega)
    have b1 := bitLen_small (n / 4294967296) hx
    have b2 : IntKind.i64.wrap ((32 : Int) + (Lib.bitLen (n / 4294967296) : Nat)) = ((32 + Lib.bitLen (n / 4294967296) : Nat) : Int) := wrapsum 32 _ (by omega) (by omega)
    simp only [evalFn, params, List.length_cons, List.length_nil, Nat.reduceAdd, evalCode, evalOps, guardOk, evalOp, AX.ev, look, putE, val, evs, optEv, binA, intBin, wrapI, unA, callM, keepE_cons, keepE_nil, callC, strips, stripWs, stripW, AV.flatv, flatvs, Nat.reduceEqDiff, if_true, if_false, reduceIte, Int.toNat_natCast, List.append_nil, List.nil_append, List.cons_append, decide_true, decide_false, bft, btf, btt, bff, Bool.false_eq_true, resultsA, oneOrTup, Option.map_some, Option.map_none, Bool.not_true, Bool.not_false, loadAt, storeAt, storeOf, partOf, List.getElem?_cons_zero, List.getElem?_cons_succ, List.set_cons_zero, List.set_cons_succ, AV.cells, AV.isCell, List.all_cons, List.all_nil, Bool.and_true, Bool.and_false, Bool.false_and, Bool.true_and, Bool.and_self, and_true, true_and, and_self, putAt, hasLabel, Bool.or_false, Bool.false_or, Bool.or_true, Bool.true_or, fillA, pickParts, pickSl, strBin, eqA, eqCell, ne_eq, not_true_eq_false, not_false_eq_true, Nat.reduceLeDiff, Nat.reduceLT, Nat.reduceMul, Nat.reduceSub, Nat.zero_add, Nat.add_zero, Option.bind_some, asNat, bounds2, reduceCtorEq, List.take_succ_cons, List.take_zero, List.drop_succ_cons, List.drop_zero, Nat.reduceBEq, List.take_nil, List.drop_nil, Int.reduceLE, Int.reduceLT, Int.reduceToNat, Int.toNat_zero, Int.reduceBEq, Int.le_refl, Nat.le_refl, i137, e1, e2, e3, shr32, shr16, shr8, wrap8n _ hx, nonneg_true, len_tab _ hx, byte_len _ hx, wrap64n _ (show Lib.bitLen (n / 4294967296) < 256 by omega), wrap_16, wrap_24, wrap_32, wrap_40, wrap_48, wrap_56, b2, hl]
  by_cases g : ¬ 4294967296 ≤ n ∧ 65536 ≤ n ∧ 256 ≤ (n / 65536)
  · obtain ⟨g1, g2, g3⟩ := g
    have e1 : ((4294967296 : Int) ≤ ((n : Nat) : Int)) = False := by simp only [eq_iff_iff, iff_false]; omega
    have e2 : ((65536 : Int) ≤ ((n : Nat) : Int)) = True := by simp only [eq_iff_iff, iff_true]; omega
    have e3 : ((256 : Int) ≤ (((n / 65536) : Nat) : Int)) = True := by simp only [eq_iff_iff, iff_true]; omega
    have hx : ((n / 65536) / 256) < 256 := by omega
    have hl : Lib.bitLen n = 24 + Lib.bitLen ((n / 65536) / 256) := by
      have e := Lib.bitLen_shift24 n (by omega) h
      rw [e]
      try (congr 2; omega)
    have b1 := bitLen_small ((n / 65536) / 256) hx
    have b2 : IntKind.i64.wrap ((24 : Int) + (Lib.bitLen ((n / 65536) / 256) : Nat)) = ((24 + Lib.bitLen ((n / 65536) / 256) : Nat) : Int) := wrapsum 24 _ (by omega) (by omega)
    simp only [evalFn, params, List.length_cons, List.length_nil, Nat.reduceAdd, evalCode, evalOps, guardOk, evalOp, AX.ev, look, putE, val, evs, optEv, binA, intBin, wrapI, unA, callM, keepE_cons, keepE_nil, callC, strips, stripWs, stripW, AV.flatv, flatvs, Nat.reduceEqDiff, if_true, if_false, reduceIte, Int.toNat_natCast, List.append_nil, List.nil_append, List.cons_append, decide_true, decide_false, bft, btf, btt, bff, Bool.false_eq_true, resultsA, oneOrTup, Option.map_some, Option.map_none, Bool.not_true, Bool.not_false, loadAt, storeAt, storeOf, partOf, List.getElem?_cons_zero, List.getElem?_cons_succ, List.set_cons_zero, List.set_cons_succ, AV.cells, AV.isCell, List.all_cons, List.all_nil, Bool.and_true, Bool.and_false, Bool.false_and, Bool.true_and, Bool.and_self, and_true, true_and, and_self, putAt, hasLabel, Bool.or_false, Bool.false_or, Bool.or_true, Bool.true_or, fillA, pickParts, pickSl, strBin, eqA, eqCell, ne_eq, not_true_eq_false, not_false_eq_true, Nat.reduceLeDiff, Nat.reduceLT, Nat.reduceMul, Nat.reduceSub, Nat.zero_add, Nat.add_zero, Option.bind_some, asNat, bounds2, reduceCtorEq, List.take_succ_cons, List.take_zero, List.drop_succ_cons, List.drop_zero, Nat.reduceBEq, List.take_nil, List.drop_nil, Int.reduceLE, Int.reduceLT, Int.reduceToNat, Int.toNat_zero, Int.reduceBEq, Int.le_refl, Nat.le_refl, i137, e1, e2, e3, shr32, shr16, shr8, wrap8n _ hx, nonneg_true, len_tab _ hx, byte_len _ hx, wrap64n _ (show Lib.bitLen ((n / 65536) / 256) < 256 by omega), wrap_16, wrap_24, wrap_32, wrap_40, wrap_48, wrap_56, b2, hl]
  by_cases g : ¬ 4294967296 ≤ n ∧ 65536 ≤ n ∧ ¬ 256 ≤ (n / 65536)
  · obtain ⟨g1, g2, g3⟩ := g
    have e1 : ((4294967296 : Int) ≤ ((n : Nat) : Int)) = False := by simp only [eq_iff_iff, iff_false]; omega
    have e2 : ((65536 : Int) ≤ ((n : Nat) : Int)) = True := by simp only [eq_iff_iff, iff_true]; omega
    have e3 : ((256 : Int) ≤ (((n / 65536) : Nat) : Int)) = False := by simp only [eq_iff_iff, iff_false]; omega
    have hx : (n / 65536) < 256 := by omega
    have hl : Lib.bitLen n = 16 + Lib.bitLen (n / 65536) := by
      have e := Lib.bitLen_shift16 n (by omega) h
      rw [e]
      try (congr 2; omega)
    have b1 := bitLen_small (n / 65536) hx
    have b2 : IntKind.i64.wrap ((16 : Int) + (Lib.bitLen (n / 65536) : Nat)) = ((16 + Lib.bitLen (n / 65536) : Nat) : Int) := wrapsum 16 _ (by omega) (by omega)
    simp only [evalFn, params, List.length_cons, List.length_nil, Nat.reduceAdd, evalCode, evalOps, guardOk, evalOp, AX.ev, look, putE, val, evs, optEv, binA, intBin, wrapI, unA, callM, keepE_cons, keepE_nil, callC, strips, stripWs, stripW, AV.flatv, flatvs, Nat.reduceEqDiff, if_true, if_false, reduceIte, Int.toNat_natCast, List.append_nil, List.nil_append, List.cons_append, decide_true, decide_false, bft, btf, btt, bff, Bool.false_eq_true, resultsA, oneOrTup, Option.map_some, Option.map_none, Bool.not_true, Bool.not_false, loadAt, storeAt, storeOf, partOf, List.getElem?_cons_zero, List.getElem?_cons_succ, List.set_cons_zero, List.set_cons_succ, AV.cells, AV.isCell, List.all_cons, List.all_nil, Bool.and_true, Bool.and_false, Bool.false_and, Bool.true_and, Bool.and_self, and_true, true_and, and_self, putAt, hasLabel, Bool.or_false, Bool.false_or, Bool.or_true, Bool.true_or, fillA, pickParts, pickSl, strBin, eqA, eqCell, ne_eq, not_true_eq_false, not_false_eq_true, Nat.reduceLeDiff, Nat.reduceLT, Nat.reduceMul, Nat.reduceSub, Nat.zero_add, Nat.add_zero, Option.bind_some, asNat, bounds2, reduceCtorEq, List.take_succ_cons, List.take_zero, List.drop_succ_cons, List.drop_zero, Nat.reduceBEq, List.take_nil, List.drop_nil, Int.reduceLE, Int.reduceLT, Int.reduceToNat, Int.toNat_zero, Int.reduceBEq, Int.le_refl, Nat.le_refl, i137, e1, e2, e3, shr32, shr16, shr8, wrap8n _ hx, nonneg_true, len_tab _ hx, byte_len _ hx, wrap64n _ (show Lib.bitLen (n / 65536) < 256 by omega), wrap_16, wrap_24, wrap_32, wrap_40, wrap_48, wrap_56, b2, hl]
  by_cases g : ¬ 4294967296 ≤ n ∧ ¬ 65536 ≤ n ∧ 256 ≤ n
  · obtain ⟨g1, g2, g3⟩ := g
    have e1 : ((4294967296 : Int) ≤ ((n : Nat) : Int)) = False := by simp only [eq_iff_iff, iff_false]; omega
    have e2 : ((65536 : Int) ≤ ((n : Nat) : Int)) = False := by simp only [eq_iff_iff, iff_false]; omega
    have e3 : ((256 : Int) ≤ ((n : Nat) : Int)) = True := by simp only [eq_iff_iff, iff_true]; omega
    have hx : (n / 256) < 256 := by omega
    have hl : Lib.bitLen n = 8 + Lib.bitLen (n / 256) := by
      have e := Lib.bitLen_shift8 n (by omega) h
      rw [e]
      try (congr 2; omega)
    have b1 := bitLen_small (n / 256) hx
    have b2 : IntKind.i64.wrap ((8 : Int) + (Lib.bitLen (n / 256) : Nat)) = ((8 + Lib.bitLen (n / 256) : Nat) : Int) := wrapsum 8 _ (by omega) (by omega)
    simp only [evalFn, params, List.length_cons, List.length_nil, Nat.reduceAdd, evalCode, evalOps, guardOk, evalOp, AX.ev, look, putE, val, evs, optEv, binA, intBin, wrapI, unA, callM, keepE_cons, keepE_nil, callC, strips, stripWs, stripW, AV.flatv, flatvs, Nat.reduceEqDiff, if_true, if_false, reduceIte, Int.toNat_natCast, List.append_nil, List.nil_append, List.cons_append, decide_true, decide_false, bft, btf, btt, bff, Bool.false_eq_true, resultsA, oneOrTup, Option.map_some, Option.map_none, Bool.not_true, Bool.not_false, loadAt, storeAt, storeOf, partOf, List.getElem?_cons_zero, List.getElem?_cons_succ, List.set_cons_zero, List.set_cons_succ, AV.cells, AV.isCell, List.all_cons, List.all_nil, Bool.and_true, Bool.and_false, Bool.false_and, Bool.true_and, Bool.and_self, and_true, true_and, and_self, putAt, hasLabel, Bool.or_false, Bool.false_or, Bool.or_true, Bool.true_or, fillA, pickParts, pickSl, strBin, eqA, eqCell, ne_eq, not_true_eq_false, not_false_eq_true, Nat.reduceLeDiff, Nat.reduceLT, Nat.reduceMul, Nat.reduceSub, Nat.zero_add, Nat.add_zero, Option.bind_some, asNat, bounds2, reduceCtorEq, List.take_succ_cons, List.take_zero, List.drop_succ_cons, List.drop_zero, Nat.reduceBEq, List.take_nil, List.drop_nil, Int.reduceLE, Int.reduceLT, Int.reduceToNat, Int.toNat_zero, Int.reduceBEq, Int.le_refl, Nat.le_refl, i137, e1, e2, e3, shr32, shr16, shr8, wrap8n _ hx, nonneg_true, len_tab _ hx, byte_len _ hx, wrap64n _ (show Lib.bitLen (n / 256) < 256 by omega), wrap_16, wrap_24, wrap_32, wrap_40, wrap_48, wrap_56, b2, hl]
  by_cases g : ¬ 4294967296 ≤ n ∧ ¬ 65536 ≤ n ∧ ¬ 256 ≤ n
  · obtain ⟨g1, g2, g3⟩ := g
    have e1 : ((4294967296 : Int) ≤ ((n : Nat) : Int)) = False := by simp only [eq_iff_iff, iff_false]; omega
    have e2 : ((65536 : Int) ≤ ((n : Nat) : Int)) = False := by simp only [eq_iff_iff, iff_false]; omega
    have e3 : ((256 : Int) ≤ ((n : Nat) : Int)) = False := by simp only [eq_iff_iff, iff_false]; omega
    have hx : n < 256 := by omega
    have b1 := bitLen_small n hx
    have b2 : IntKind.i64.wrap ((0 : Int) + (Lib.bitLen n : Nat)) = (Lib.bitLen n : Int) := by rw [wrap_i64] <;> omega
    simp only [evalFn, params, List.length_cons, List.length_nil, Nat.reduceAdd, evalCode, evalOps, guardOk, evalOp, AX.ev, look, putE, val, evs, optEv, binA, intBin, wrapI, unA, callM, keepE_cons, keepE_nil, callC, strips, stripWs, stripW, AV.flatv, flatvs, Nat.reduceEqDiff, if_true, if_false, reduceIte, Int.toNat_natCast, List.append_nil, List.nil_append, List.cons_append, decide_true, decide_false, bft, btf, btt, bff, Bool.false_eq_true, resultsA, oneOrTup, Option.map_some, Option.map_none, Bool.not_true, Bool.not_false, loadAt, storeAt, storeOf, partOf, List.getElem?_cons_zero, List.getElem?_cons_succ, List.set_cons_zero, List.set_cons_succ, AV.cells, AV.isCell, List.all_cons, List.all_nil, Bool.and_true, Bool.and_false, Bool.false_and, Bool.true_and, Bool.and_self, and_true, true_and, and_self, putAt, hasLabel, Bool.or_false, Bool.false_or, Bool.or_true, Bool.true_or, fillA, pickParts, pickSl, strBin, eqA, eqCell, ne_eq, not_true_eq_false, not_false_eq_true, Nat.reduceLeDiff, Nat.reduceLT, Nat.reduceMul, Nat.reduceSub, Nat.zero_add, Nat.add_zero, Option.bind_some, asNat, bounds2, reduceCtorEq, List.take_succ_cons, List.take_zero, List.drop_succ_cons, List.drop_zero, Nat.reduceBEq, List.take_nil, List.drop_nil, Int.reduceLE, Int.reduceLT, Int.reduceToNat, Int.toNat_zero, Int.reduceBEq, Int.le_refl, Nat.le_refl, i137, e1, e2, e3, shr32, shr16, shr8, wrap8n _ hx, nonneg_true, len_tab _ hx, byte_len _ hx, wrap64n _ (show Lib.bitLen n < 256 by omega), wrap_16, wrap_24, wrap_32, wrap_40, wrap_48, wrap_56, b2]
  exfalso
  by_cases g1 : 4294967296 ≤ n
  · by_cases g2 : 65536 ≤ n / 4294967296
    · by_cases g3 : 256 ≤ n / 4294967296 / 65536
      · simp_all
      · simp_all
    · by_cases g3 : 256 ≤ n / 4294967296
      · simp_all
      · simp_all
  · by_cases g2 : 65536 ≤ n
    · by_cases g3 : 256 ≤ n / 65536
      · simp_all
      · simp_all
    · by_cases g3 : 256 ≤ n
      · simp_all
      · simp_all

/-! Layers -/
def enc64 (n : Nat) : List AV := [.int .u64 n]
def encI (n : Nat) : List AV := [.int .i64 n]
def encB (b : Bool) : List AV := [.bool b]
theorem enc64_inj {a b : Nat} (h : enc64 a = enc64 b) : a = b := by simp only [enc64, List.cons.injEq, AV.int.injEq, true_and, and_true] at h; omega
theorem encI_inj {a b : Nat} (h : encI a = encI b) : a = b := by simp only [encI, List.cons.injEq, AV.int.injEq, true_and, and_true] at h; omega
theorem encB_inj {a b : Bool} (h : encB a = encB b) : a = b := by simpa [encB] using h
def n64 (n : Nat) : Prop := n < 18446744073709551616
noncomputable def sLen : Spec := pureS (encS enc64 n64 fun n => .int .i64 (Lib.bitLen n))
noncomputable def sL10 : Spec := pureS (encS encI (fun n => n ≤ 64) fun n => .int .i64 (Lib.l10 n))
noncomputable def sBit : Spec := pureS (encS encB (fun _ => True) fun b => .int .i64 (if b then 1 else 0))
noncomputable def sDig : Spec := pureS (encS enc64 (fun n => 1 ≤ n ∧ n64 n) fun n => .int .i64 (Lib.nDigits n))
noncomputable def nuA : CallA := orC (atF 137 sLen) noCall
noncomputable def nuB : CallA := orC (atF 136 sL10) nuA
noncomputable def nuC : CallA := orC (atF 138 sBit) nuB
noncomputable def nuD : CallA := orC (atF 127 sDig) nuC

theorem nuA_sound (hG : GPure G) : CallS Tryd.prog G nuA :=
  (CallS.enc CallS.none mixed hG ok137 enc64 n64 _ fun n hn => ⟨rfl, 0, _, [], len64_spec n hn [], seen_flat rfl⟩).or CallS.none
theorem nuA_len : Has nuA 137 enc64 n64 fun n => .int .i64 (Lib.bitLen n) :=
  Has.self (fun _ _ _ _ h => by rw [enc64_inj h]) (fun _ _ => rfl) (fun _ _ => seen_flat rfl)

theorem shr18 (n : Nat) : shiftBin .shr .i64 n 18 = some (.int .i64 (n / 262144 : Nat)) := by
  unfold shiftBin
  rw [if_neg (by decide)]
  simp only [Option.some.injEq, AV.int.injEq, true_and]
  rw [show (2 : Int) ^ (Nat.min (18 : Int).toNat IntKind.i64.bits) = 262144 by decide, Int.fdiv_eq_ediv_of_nonneg _ (by decide)]
  rfl
theorem l10_spec {call : CallA} {draw : DrawA} {fuel : Nat} (n : Nat) (h : n ≤ 64) (σ : Store) : evalFn call draw G fuel i136 [.int .i64 n] σ = some (.ret (.int .i64 (Lib.l10 n)), σ) := by
  have e : IntKind.i64.wrap ((n : Int) * 78913) = ((n * 78913 : Nat) : Int) := by rw [wrap_i64] <;> omega
  simp only [evalFn, params, List.length_cons, List.length_nil, Nat.reduceAdd, evalCode, evalOps, guardOk, evalOp, AX.ev, look, putE, val, evs, optEv, binA, intBin, wrapI, unA, callM, keepE_cons, keepE_nil, callC, strips, stripWs, stripW, AV.flatv, flatvs, Nat.reduceEqDiff, if_true, if_false, reduceIte, Int.toNat_natCast, List.append_nil, List.nil_append, List.cons_append, decide_true, decide_false, bft, btf, btt, bff, Bool.false_eq_true, resultsA, oneOrTup, Option.map_some, Option.map_none, Bool.not_true, Bool.not_false, loadAt, storeAt, storeOf, partOf, List.getElem?_cons_zero, List.getElem?_cons_succ, List.set_cons_zero, List.set_cons_succ, AV.cells, AV.isCell, List.all_cons, List.all_nil, Bool.and_true, Bool.and_false, Bool.false_and, Bool.true_and, Bool.and_self, and_true, true_and, and_self, putAt, hasLabel, Bool.or_false, Bool.false_or, Bool.or_true, Bool.true_or, fillA, pickParts, pickSl, strBin, eqA, eqCell, ne_eq, not_true_eq_false, not_false_eq_true, Nat.reduceLeDiff, Nat.reduceLT, Nat.reduceMul, Nat.reduceSub, Nat.zero_add, Nat.add_zero, Option.bind_some, asNat, bounds2, reduceCtorEq, List.take_succ_cons, List.take_zero, List.drop_succ_cons, List.drop_zero, Nat.reduceBEq, List.take_nil, List.drop_nil, Int.reduceLE, Int.reduceLT, Int.reduceToNat, Int.toNat_zero, Int.reduceBEq, Int.le_refl, Nat.le_refl, i136, e, shr18, Lib.l10]
theorem bit_spec {call : CallA} {draw : DrawA} {fuel : Nat} (b : Bool) (σ : Store) : evalFn call draw G fuel i138 [.bool b] σ = some (.ret (.int .i64 (if b then 1 else 0)), σ) := by
  cases b <;> simp only [evalFn, params, List.length_cons, List.length_nil, Nat.reduceAdd, evalCode, evalOps, guardOk, evalOp, AX.ev, look, putE, val, evs, optEv, binA, intBin, wrapI, unA, callM, keepE_cons, keepE_nil, callC, strips, stripWs, stripW, AV.flatv, flatvs, Nat.reduceEqDiff, if_true, if_false, reduceIte, Int.toNat_natCast, List.append_nil, List.nil_append, List.cons_append, decide_true, decide_false, bft, btf, btt, bff, Bool.false_eq_true, resultsA, oneOrTup, Option.map_some, Option.map_none, Bool.not_true, Bool.not_false, loadAt, storeAt, storeOf, partOf, List.getElem?_cons_zero, List.getElem?_cons_succ, List.set_cons_zero, List.set_cons_succ, AV.cells, AV.isCell, List.all_cons, List.all_nil, Bool.and_true, Bool.and_false, Bool.false_and, Bool.true_and, Bool.and_self, and_true, true_and, and_self, putAt, hasLabel, Bool.or_false, Bool.false_or, Bool.or_true, Bool.true_or, fillA, pickParts, pickSl, strBin, eqA, eqCell, ne_eq, not_true_eq_false, not_false_eq_true, Nat.reduceLeDiff, Nat.reduceLT, Nat.reduceMul, Nat.reduceSub, Nat.zero_add, Nat.add_zero, Option.bind_some, asNat, bounds2, reduceCtorEq, List.take_succ_cons, List.take_zero, List.drop_succ_cons, List.drop_zero, Nat.reduceBEq, List.take_nil, List.drop_nil, Int.reduceLE, Int.reduceLT, Int.reduceToNat, Int.toNat_zero, Int.reduceBEq, Int.le_refl, Nat.le_refl, i138]
theorem nuB_sound (hG : GPure G) : CallS Tryd.prog G nuB :=
  (CallS.enc (nuA_sound hG) mixed hG ok136 encI (fun n => n ≤ 64) _ fun n hn => ⟨rfl, 0, _, [], l10_spec n hn [], seen_flat rfl⟩).or (nuA_sound hG)
theorem nuB_l10 : Has nuB 136 encI (fun n => n ≤ 64) fun n => .int .i64 (Lib.l10 n) :=
  Has.self (fun _ _ _ _ h => by rw [encI_inj h]) (fun _ _ => rfl) (fun _ _ => seen_flat rfl)
theorem nuC_sound (hG : GPure G) : CallS Tryd.prog G nuC :=
  (CallS.enc (nuB_sound hG) mixed hG ok138 encB (fun _ => True) _ fun n hn => ⟨rfl, 0, _, [], bit_spec n [], seen_flat rfl⟩).or (nuB_sound hG)
theorem nuC_bit : Has nuC 138 encB (fun _ => True) fun b => .int .i64 (if b then 1 else 0) :=
  Has.self (fun _ _ _ _ h => by rw [encB_inj h]) (fun _ _ => rfl) (fun _ _ => seen_flat rfl)

theorem pow_tab (k : Nat) (h : k < 20) : (glAt 4)[k]? = some (.int .u64 ((10 ^ k : Nat) : Int)) := by
  have e : glAt 4 = (List.range 20).map fun k => AV.int .u64 ((10 ^ k : Nat) : Int) := by kernel_rfl
  rw [e, List.getElem?_map, List.getElem?_range h]
  rfl
theorem pow_len : (glAt 4).length = 20 := by kernel_rfl

theorem dig_spec {call : CallA} {draw : DrawA} {fuel : Nat} (h4 : G 4 = some (glAt 4)) (n : Nat) (h1 : 1 ≤ n) (h2 : n64 n)
    (c1 : ∀ σ, callC call 137 [.int .u64 n] σ = some (.ret (.int .i64 (Lib.bitLen n)), σ)) (c2 : ∀ σ, callC call 136 [.int .i64 (Lib.bitLen n)] σ = some (.ret (.int .i64 (Lib.l10 (Lib.bitLen n))), σ))
    (c3 : ∀ b σ, callC call 138 [.bool b] σ = some (.ret (.int .i64 (if b then 1 else 0)), σ)) (σ : Store) :
    evalFn call draw G fuel i127 [.int .u64 n] σ = some (.ret (.int .i64 (Lib.nDigits n)), σ) := by
  obtain ⟨k1, k2⟩ := Lib.numDigits_eq n h1 h2
  generalize Lib.l10 (Lib.bitLen n) = k at c2 k1 k2
  have p := pow_tab k (by omega)
  have e1 : ((k : Int) < ((20 : Nat) : Int)) = True := by simp only [eq_iff_iff, iff_true]; omega
  have e0 : (0 ≤ (k : Int)) = True := by simp
  by_cases hc : 10 ^ k ≤ n
  · have e2 : (((10 ^ k : Nat) : Int) ≤ (n : Int)) = True := by simp only [eq_iff_iff, iff_true]; omega
    have e3 : IntKind.i64.wrap ((k : Int) + 1) = (Lib.nDigits n : Int) := by rw [if_pos hc] at k1; rw [wrap_i64] <;> omega
    simp only [evalFn, params, List.length_cons, List.length_nil, Nat.reduceAdd, evalCode, evalOps, guardOk, evalOp, AX.ev, look, putE, val, evs, optEv, binA, intBin, wrapI, unA, callM, keepE_cons, keepE_nil, Nat.reduceEqDiff, if_true, if_false, reduceIte, Int.toNat_natCast, List.append_nil, List.nil_append, List.cons_append, decide_true, decide_false, bft, btf, btt, bff, Bool.false_eq_true, resultsA, oneOrTup, Option.map_some, Option.map_none, Bool.not_true, Bool.not_false, loadAt, storeAt, storeOf, partOf, List.getElem?_cons_zero, List.getElem?_cons_succ, List.set_cons_zero, List.set_cons_succ, AV.cells, AV.isCell, List.all_cons, List.all_nil, Bool.and_true, Bool.and_false, Bool.false_and, Bool.true_and, Bool.and_self, and_true, true_and, and_self, putAt, hasLabel, Bool.or_false, Bool.false_or, Bool.or_true, Bool.true_or, fillA, pickParts, pickSl, strBin, eqA, eqCell, ne_eq, not_true_eq_false, not_false_eq_true, Nat.reduceLeDiff, Nat.reduceLT, Nat.reduceMul, Nat.reduceSub, Nat.zero_add, Nat.add_zero, Option.bind_some, asNat, bounds2, reduceCtorEq, List.take_succ_cons, List.take_zero, List.drop_succ_cons, List.drop_zero, Nat.reduceBEq, List.take_nil, List.drop_nil, Int.reduceLE, Int.reduceLT, Int.reduceToNat, Int.toNat_zero, Int.reduceBEq, Int.le_refl, Nat.le_refl, b2s, srcRow, binA, beq_self_eq_true, bne_self_eq_false, minI, maxI, foldI, Bool.not_not, Int.lt_irrefl, gt_iff_lt, ge_iff_le, List.length_map, AV.undef, i127, c1, c2, c3, h4, Option.map_some, pow_len, e0, e1, p, e2, e3, Nat.mul_one, Nat.zero_add]
  · have e2 : (((10 ^ k : Nat) : Int) ≤ (n : Int)) = False := by simp only [eq_iff_iff, iff_false]; omega
    have e3 : IntKind.i64.wrap ((k : Int) + 0) = (Lib.nDigits n : Int) := by rw [if_neg hc] at k1; rw [wrap_i64] <;> omega
    simp only [evalFn, params, List.length_cons, List.length_nil, Nat.reduceAdd, evalCode, evalOps, guardOk, evalOp, AX.ev, look, putE, val, evs, optEv, binA, intBin, wrapI, unA, callM, keepE_cons, keepE_nil, Nat.reduceEqDiff, if_true, if_false, reduceIte, Int.toNat_natCast, List.append_nil, List.nil_append, List.cons_append, decide_true, decide_false, bft, btf, btt, bff, Bool.false_eq_true, resultsA, oneOrTup, Option.map_some, Option.map_none, Bool.not_true, Bool.not_false, loadAt, storeAt, storeOf, partOf, List.getElem?_cons_zero, List.getElem?_cons_succ, List.set_cons_zero, List.set_cons_succ, AV.cells, AV.isCell, List.all_cons, List.all_nil, Bool.and_true, Bool.and_false, Bool.false_and, Bool.true_and, Bool.and_self, and_true, true_and, and_self, putAt, hasLabel, Bool.or_false, Bool.false_or, Bool.or_true, Bool.true_or, fillA, pickParts, pickSl, strBin, eqA, eqCell, ne_eq, not_true_eq_false, not_false_eq_true, Nat.reduceLeDiff, Nat.reduceLT, Nat.reduceMul, Nat.reduceSub, Nat.zero_add, Nat.add_zero, Option.bind_some, asNat, bounds2, reduceCtorEq, List.take_succ_cons, List.take_zero, List.drop_succ_cons, List.drop_zero, Nat.reduceBEq, List.take_nil, List.drop_nil, Int.reduceLE, Int.reduceLT, Int.reduceToNat, Int.toNat_zero, Int.reduceBEq, Int.le_refl, Nat.le_refl, b2s, srcRow, binA, beq_self_eq_true, bne_self_eq_false, minI, maxI, foldI, Bool.not_not, Int.lt_irrefl, gt_iff_lt, ge_iff_le, List.length_map, AV.undef, i127, c1, c2, c3, h4, Option.map_some, pow_len, e0, e1, p, e2, e3, Nat.mul_one, Nat.zero_add]
theorem nuD_sound (hG : GPure G) (h4 : G 4 = some (glAt 4)) : CallS Tryd.prog G nuD := by
  refine (CallS.enc (nuC_sound hG) mixed hG ok127 enc64 (fun n => 1 ≤ n ∧ n64 n) _ fun n hn => ⟨rfl, 0, _, [], ?_, seen_flat rfl⟩).or (nuC_sound hG)
  exact dig_spec h4 n hn.1 hn.2 (fun σ => ((nuA_len.over (s := sL10) (show 137 ≠ 136 by decide)).over (s := sBit) (show 137 ≠ 138 by decide)) n σ hn.2)
    (fun σ => (nuB_l10.over (s := sBit) (show 136 ≠ 138 by decide)) _ σ (Lib.bitLen_le n 64 (Nat.le_refl _) hn.2)) (fun b σ => nuC_bit b σ trivial) []

theorem nuD_dig : Has nuD 127 enc64 (fun n => 1 ≤ n ∧ n64 n) fun n => .int .i64 (Lib.nDigits n) :=
  Has.self (fun _ _ _ _ h => by rw [enc64_inj h]) (fun _ _ => rfl) (fun _ _ => seen_flat rfl)

/-! ### FormatUint at base ten -/
def strU (l : List UInt8) : AV := .str l
def fmtSpec : Spec := fun args σ => match args with
  | [.int .u64 u, .int .i64 b] => if b = 10 ∧ 0 ≤ u ∧ u < 18446744073709551616 then some (.ret (.str (Lib.decDigits u.toNat)), σ) else none
  | _ => none

theorem fmt_sound (hG : GPure G) (h4 : G 4 = some (glAt 4)) : CallS Tryd.prog G (atF 109 fmtSpec) := by
  intro f args σ r σ' h
  unfold atF at h
  split at h
  case isFalse => cases h
  rename_i e
  subst e
  unfold fmtSpec at h
  split at h
  case h_2 => cases h
  rename_i u b
  split at h
  case isFalse => cases h
  rename_i hn
  cases h
  obtain ⟨rfl, hn⟩ := hn
  refine ⟨⟨Tryd.f109, Tryd.func109, by kernel_rfl, by kernel_rfl⟩, ?_⟩
  intro B C w vs sr gr ha
  obtain ⟨v, us, rfl, h1, h2⟩ := ha.cons_inv
  obtain ⟨v2, us', rfl, h3, h4'⟩ := h2.cons_inv
  obtain rfl := h4'.nil_inv
  cases h1
  cases h3
  obtain ⟨m, rfl⟩ : ∃ m : Nat, u = m := ⟨u.toNat, by omega⟩
  rw [Int.toNat_natCast]
  have fin : Calls Tryd.prog 109 #[.int .u64 m, .int .i64 10] w fun e w' => e = .returned (.string ⟨(Lib.decDigits m).toArray⟩) ∧ RowKit.Below w.heap.size w w' := by
    by_cases hs : m < 100
    · exact Tryd.formatUint_small m hs w
    · refine Tryd.formatUint_great m (by omega) (by omega) w fun w1 hsz hold => ?_
      let D : Ctx := { im := C.im, bx := fun _ => none, tk := fun _ => none }
      have srD : SR w1.heap.size D [] w1 := by
        refine ⟨Nat.le_refl _, fun b o v hi => ?_, fun id _ => ⟨rfl, rfl⟩, ?_, ?_, ?_, ?_, ?_⟩
        · obtain ⟨c, e, fr, k1, k2⟩ := sr.im b o v hi
          exact ⟨c, e, fr, by rw [hold b (im_lt sr hi)]; exact k1, k2⟩
        · intro id cs e h; simp at h
        · intro id es h; simp at h
        · intro id t h; simp at h
        · intro id id' b h; simp [own] at h
        · intro id b h; simp [own] at h
      have grD : GR G D := gr.of_im (fun b o v h => h) hG
      have hv : VRs D (enc64 m) [Value.int .u64 m] := .cons .int (.nil _)
      have hc := callC_sound (nuD_sound hG h4) hG (f := 127) (nuD_dig m [] ⟨by omega, by unfold n64; omega⟩) srD grD hv
      refine hc.2.mono fun e w2 ⟨C', _, _, hb, ho⟩ => ⟨?_, hb⟩
      obtain ⟨v, rfl, hv⟩ := ho
      cases hv
      rfl
  refine fin.mono fun e w' ⟨he, hb⟩ => ?_
  subst he
  exact ⟨C, .refl _ _, sr.of_below hb, hb.mono sr.hB, _, rfl, .str⟩
end
end Go.Pm
end

section
set_option linter.unusedSimpArgs false
set_option linter.unusedVariables false
set_option linter.unusedSectionVars false
/- How an expression is written: numbers, operations, strengths. -/
set_option maxRecDepth 100000
set_option linter.unusedSimpArgs false
set_option linter.unusedVariables false
namespace Go.Pm
open Go.Proofs Go.Proofs.YtehcekeccnlboaaDoor

def isStr (l : List UInt8) : Option (AOut × Store) → Bool
  | some (.ret (.str s), _) => s == l
  | _ => false
def isNum (n : Int) : Option (AOut × Store) → Bool
  | some (.ret (.int .i64 m), _) => m == n
  | _ => false
theorem isStr_some {l : List UInt8} {x : Option (AOut × Store)} (h : isStr l x = true) : ∃ σ', x = some (.ret (.str l), σ') := by
  unfold isStr at h
  split at h
  · exact ⟨_, by rw [eq_of_beq h]⟩
  · cases h
theorem isNum_some {n : Int} {x : Option (AOut × Store)} (h : isNum n x = true) : ∃ σ', x = some (.ret (.int .i64 n), σ') := by
  unfold isNum at h
  split at h
  · exact ⟨_, by rw [eq_of_beq h]⟩
  · cases h

def exG : Globals := lookG exprGl
theorem exG_pure : GPure exG := exprGl_pure
theorem exG4 : exG 4 = some (glAt 4) := rfl

theorem run_tab {X : Type} {f : FuncId} {enc : X → List AV} {dom : X → Prop} {out : X → AV} (hb : ∀ x, Bare (enc x)) (hf : ∀ x, (out x).flatv = true) (h : ∀ x, dom x → ∃ σ', runA irOf libP exG 60 f (enc x) [] = some (.ret (out x), σ')) :
    CallS Tryd.prog exG (atF f (pureS (encS enc dom out))) := by
  intro g args σ r σ' hg
  unfold atF at hg
  split at hg
  case isFalse => cases hg
  rename_i e
  subst e
  unfold pureS at hg
  split at hg
  case h_2 => cases hg
  rename_i v hv
  cases hg
  obtain ⟨x, rfl, hx, rfl⟩ := encS_some hv
  obtain ⟨σ2, h⟩ := h x hx
  exact (runP_sound exG_pure 60).close exG_pure g (enc x) σ _ _ (callC_eq (hb x) h (.inl ⟨hf x, rfl⟩))

/-! The texts of operations. -/
def opN (o : Nat) : List UInt8 := match o with
  | 1 => [61, 61] | 2 => [33, 61] | 3 => [60] | 4 => [60, 61] | 5 => [43] | 6 => [45] | 7 => [124] | 8 => [94] | 9 => [42] | 10 => [47] | 11 => [37] | 12 => [38] | 13 => [33] | 14 => [45]
  | _ => []
def opS (o : Int) : List UInt8 := opN o.toNat
theorem op_tab : (List.range 256).all (fun o => isStr (opN o) (runA irOf libP exG 60 88 [.int .u8 o] [])) = true := by kernel_rfl
theorem u8_nat {o : Int} (h : u8 o) : ∃ n : Nat, n < 256 ∧ o = n := ⟨o.toNat, by unfold u8 at h; omega, by unfold u8 at h; omega⟩
noncomputable def sOp : Spec := pureS (encS enc8 u8 fun o => .str (opS o))
theorem op_sound : CallS Tryd.prog exG (atF 88 sOp) := run_tab (fun _ => rfl) (fun _ => rfl) fun o ho => by
  obtain ⟨n, hn, rfl⟩ := u8_nat ho
  exact isStr_some (List.all_eq_true.1 op_tab n (by simpa using hn))

def strN (o : Nat) : Nat := if o = 0 ∨ 15 ≤ o then 0 else if 13 ≤ o then 4 else if o ≤ 4 then 1 else if o ≤ 8 then 2 else 3
def strZ (o : Int) : Nat := strN o.toNat
theorem str_tab : (List.range 256).all (fun o => isNum (strN o) (runA irOf libP exG 60 112 [.int .u8 o] [])) = true := by kernel_rfl
noncomputable def sStr : Spec := pureS (encS enc8 u8 fun o => .int .i64 (strZ o))
theorem str_soundE : CallS Tryd.prog exG (atF 112 sStr) := run_tab (fun _ => rfl) (fun _ => rfl) fun o ho => by
  obtain ⟨n, hn, rfl⟩ := u8_nat ho
  exact isNum_some (List.all_eq_true.1 str_tab n (by simpa using hn))

noncomputable def sItoa : Spec := pureS (encS encI (fun n => n < 8) fun n => .str (Lib.decDigits n))
theorem itoa_tab : (List.range 8).all (fun n => isStr [UInt8.ofNat (48 + n)] (runA irOf libP exG 60 87 [.int .i64 n] [])) = true := by kernel_rfl
theorem itoa_sound : CallS Tryd.prog exG (atF 87 sItoa) := run_tab (fun _ => rfl) (fun _ => rfl) fun n hn => by
  rw [Lib.decDigits_one (by omega)]
  exact isStr_some (List.all_eq_true.1 itoa_tab n (by simpa using hn))

/-- The strength of a tree. -/
def strT : T → Nat
  | .nil => 0
  | .node k o .. => if k < 4 then 5 else strZ o
end Go.Pm
end

section
set_option linter.unusedSimpArgs false
set_option linter.unusedVariables false
set_option linter.unusedSectionVars false
/- How an expression is written: FormatUint, the strength of a tree. -/
set_option maxRecDepth 100000
set_option linter.unusedSimpArgs false
set_option linter.unusedVariables false
namespace Go.Pm
open Go.Proofs Go.Proofs.YtehcekeccnlboaaDoor

/-! The layers -/
def enc10 (n : Nat) : List AV := [.int .u64 n, .int .i64 10]
theorem enc10_inj {a b : Nat} (h : enc10 a = enc10 b) : a = b := by
  simp only [enc10, List.cons.injEq, AV.int.injEq, true_and, and_true] at h; omega
theorem fmt_has (n : Nat) (h : n64 n) (σ : Store) : callC (atF 109 fmtSpec) 109 [.int .u64 n, .int .i64 10] σ = some (.ret (.str (Lib.decDigits n)), σ) := by
  refine callC_eq (r := .str (Lib.decDigits n)) (σ' := []) rfl ?_ (seen_flat rfl)
  unfold atF
  rw [if_pos rfl]
  unfold fmtSpec
  unfold n64 at h
  simp only
  rw [if_pos ⟨trivial, by omega, by omega⟩, Int.toNat_natCast]
theorem fmtU_spec {call : CallA} {draw : DrawA} {G : Globals} (n : Nat) (l : List UInt8) (h : ∀ σ, callC call 109 [.int .u64 n, .int .i64 10] σ = some (.ret (.str l), σ)) : evalFn call draw G 0 i84 [.int .u64 n, .int .i64 10] [] = some (.ret (.str l), []) := by
  simp only [evalFn, params, List.length_cons, List.length_nil, Nat.reduceAdd, evalCode, evalOps, guardOk, evalOp, AX.ev, look, putE, val, evs, optEv, binA, intBin, wrapI, unA, callM, keepE_cons, keepE_nil, Nat.reduceEqDiff, if_true, if_false, reduceIte, Int.toNat_natCast, List.append_nil, List.nil_append, List.cons_append, decide_true, decide_false, bft, btf, btt, bff, Bool.false_eq_true, resultsA, oneOrTup, Option.map_some, Option.map_none, Bool.not_true, Bool.not_false, loadAt, storeAt, storeOf, partOf, List.getElem?_cons_zero, List.getElem?_cons_succ, List.set_cons_zero, List.set_cons_succ, AV.cells, AV.isCell, List.all_cons, List.all_nil, Bool.and_true, Bool.and_false, Bool.false_and, Bool.true_and, Bool.and_self, and_true, true_and, and_self, putAt, hasLabel, Bool.or_false, Bool.false_or, Bool.or_true, Bool.true_or, fillA, pickParts, pickSl, strBin, eqA, eqCell, ne_eq, not_true_eq_false, not_false_eq_true, Nat.reduceLeDiff, Nat.reduceLT, Nat.reduceMul, Nat.reduceSub, Nat.zero_add, Nat.add_zero, Option.bind_some, asNat, bounds2, reduceCtorEq, List.take_succ_cons, List.take_zero, List.drop_succ_cons, List.drop_zero, Nat.reduceBEq, List.take_nil, List.drop_nil, Int.reduceLE, Int.reduceLT, Int.reduceToNat, Int.toNat_zero, Int.reduceBEq, Int.le_refl, Nat.le_refl, b2s, srcRow, binA, beq_self_eq_true, bne_self_eq_false, minI, maxI, foldI, Bool.not_not, Int.lt_irrefl, gt_iff_lt, ge_iff_le, List.length_map, AV.undef, i84, h]
noncomputable def sFmt : Spec := pureS (encS enc10 n64 fun n => .str (Lib.decDigits n))
theorem fmtU_sound : CallS Tryd.prog exG (atF 84 sFmt) := by
  refine CallS.enc (fmt_sound exG_pure exG4) mixed exG_pure ok84 enc10 n64 _ fun n hn => ⟨?_, 0, .str (Lib.decDigits n), [], ?_, ?_⟩
  · rfl
  · exact fmtU_spec n _ (fmt_has n hn)
  · exact seen_flat rfl
noncomputable def sStrT : Spec := pureS (encS encT (fun t => t.wf ∧ t.isNode) fun t => .int .i64 (strT t))
theorem str_has (o : Int) (h : u8 o) (σ : Store) : callC (orC (atF 112 sStr) noCall) 112 [.int .u8 o] σ = some (.ret (.int .i64 (strZ o)), σ) :=
  callC_enc (call := noCall) (f := 112) (enc := enc8) (dom := u8) (out := fun o => .int .i64 (strZ o)) (fun _ _ _ _ h => by rw [enc8_inj h]) h rfl (seen_flat rfl) σ
theorem strT_sound : CallS Tryd.prog exG (atF 90 sStrT) := by
  refine CallS.enc (str_soundE.or CallS.none) mixed exG_pure ok90 encT _ _ fun t ht => ⟨encT_bare t, 0, .int .i64 (strT t), [], ?_, seen_flat rfl⟩
  cases t with
  | nil => exact ht.2.elim
  | node k o n t i x l r =>
    have hs := str_has o ht.1.2.1
    generalize orC (atF 112 sStr) noCall = call at hs ⊢
    by_cases hk : k < 4
    · have e : (k < 4) = True := by simp [hk]
      simp only [evalFn, params, List.length_cons, List.length_nil, Nat.reduceAdd, evalCode, evalOps, guardOk, evalOp, AX.ev, look, putE, val, evs, optEv, binA, intBin, wrapI, unA, callM, keepE_cons, keepE_nil, Nat.reduceEqDiff, if_true, if_false, reduceIte, Int.toNat_natCast, List.append_nil, List.nil_append, List.cons_append, decide_true, decide_false, bft, btf, btt, bff, Bool.false_eq_true, resultsA, oneOrTup, Option.map_some, Option.map_none, Bool.not_true, Bool.not_false, loadAt, storeAt, storeOf, partOf, List.getElem?_cons_zero, List.getElem?_cons_succ, List.set_cons_zero, List.set_cons_succ, AV.cells, AV.isCell, List.all_cons, List.all_nil, Bool.and_true, Bool.and_false, Bool.false_and, Bool.true_and, Bool.and_self, and_true, true_and, and_self, putAt, hasLabel, Bool.or_false, Bool.false_or, Bool.or_true, Bool.true_or, fillA, pickParts, pickSl, strBin, eqA, eqCell, ne_eq, not_true_eq_false, not_false_eq_true, Nat.reduceLeDiff, Nat.reduceLT, Nat.reduceMul, Nat.reduceSub, Nat.zero_add, Nat.add_zero, Option.bind_some, asNat, bounds2, reduceCtorEq, List.take_succ_cons, List.take_zero, List.drop_succ_cons, List.drop_zero, Nat.reduceBEq, List.take_nil, List.drop_nil, Int.reduceLE, Int.reduceLT, Int.reduceToNat, Int.toNat_zero, Int.reduceBEq, Int.le_refl, Nat.le_refl, b2s, srcRow, binA, beq_self_eq_true, bne_self_eq_false, minI, maxI, foldI, Bool.not_not, Int.lt_irrefl, gt_iff_lt, ge_iff_le, List.length_map, AV.undef, i90, encT, T.av, e, strT]
      rfl
    · have e : (k < 4) = False := by simp [hk]
      simp only [evalFn, params, List.length_cons, List.length_nil, Nat.reduceAdd, evalCode, evalOps, guardOk, evalOp, AX.ev, look, putE, val, evs, optEv, binA, intBin, wrapI, unA, callM, keepE_cons, keepE_nil, Nat.reduceEqDiff, if_true, if_false, reduceIte, Int.toNat_natCast, List.append_nil, List.nil_append, List.cons_append, decide_true, decide_false, bft, btf, btt, bff, Bool.false_eq_true, resultsA, oneOrTup, Option.map_some, Option.map_none, Bool.not_true, Bool.not_false, loadAt, storeAt, storeOf, partOf, List.getElem?_cons_zero, List.getElem?_cons_succ, List.set_cons_zero, List.set_cons_succ, AV.cells, AV.isCell, List.all_cons, List.all_nil, Bool.and_true, Bool.and_false, Bool.false_and, Bool.true_and, Bool.and_self, and_true, true_and, and_self, putAt, hasLabel, Bool.or_false, Bool.false_or, Bool.or_true, Bool.true_or, fillA, pickParts, pickSl, strBin, eqA, eqCell, ne_eq, not_true_eq_false, not_false_eq_true, Nat.reduceLeDiff, Nat.reduceLT, Nat.reduceMul, Nat.reduceSub, Nat.zero_add, Nat.add_zero, Option.bind_some, asNat, bounds2, reduceCtorEq, List.take_succ_cons, List.take_zero, List.drop_succ_cons, List.drop_zero, Nat.reduceBEq, List.take_nil, List.drop_nil, Int.reduceLE, Int.reduceLT, Int.reduceToNat, Int.toNat_zero, Int.reduceBEq, Int.le_refl, Nat.le_refl, b2s, srcRow, binA, beq_self_eq_true, bne_self_eq_false, minI, maxI, foldI, Bool.not_not, Int.lt_irrefl, gt_iff_lt, ge_iff_le, List.length_map, AV.undef, i90, encT, T.av, e, strT, hs]
end Go.Pm
end

section
set_option linter.unusedSimpArgs false
set_option linter.unusedVariables false
set_option linter.unusedSectionVars false
/- How an expression is written: the walk. -/
set_option maxRecDepth 100000
set_option linter.unusedSimpArgs false
set_option linter.unusedVariables false
namespace Go.Pm
open Go.Proofs Go.Proofs.YtehcekeccnlboaaDoor

def parB (m s : Nat) (b : List UInt8) : List UInt8 := if s < m then 40 :: (b ++ [41]) else b
def chB (x : Int) : List UInt8 := [UInt8.ofNat x.toNat]

/-- How a tree is written. -/
def textT : T → List UInt8
  | .nil => []
  | .node k o n t i x l r =>
    if k = 0 then Lib.decDigits n.toNat
    else if k = 1 then 114 :: Lib.decDigits i.toNat
    else if k = 2 then Lib.decDigits t.toNat ++ [58, 114] ++ Lib.decDigits i.toNat
    else if k = 3 then chB x
    else if k = 4 then opS o ++ parB 4 (strT l) (textT l)
    else parB (strZ o) (strT l) (textT l) ++ [32] ++ opS o ++ [32] ++ parB (strZ o + 1) (strT r) (textT r)

theorem opS_len (o : Int) : (opS o).length ≤ 2 := by
  unfold opS opN
  split <;> decide
theorem dec_len (n : Nat) (h : n64 n) : (Lib.decDigits n).length ≤ 20 := by
  rw [Lib.decDigits_length]
  by_cases h0 : n < 10
  · rw [Lib.nDigits_small h0]; omega
  · have := Lib.numDigits_eq n (by omega) h
    split at this <;> omega
theorem parB_len (m s : Nat) (b : List UInt8) : (parB m s b).length ≤ b.length + 2 := by
  unfold parB; split <;> simp

theorem text_len : ∀ t : T, t.wf → (textT t).length ≤ 50 * 4 ^ t.height
  | .nil, _ => by simp [textT]
  | .node k o n t i x l r, hw => by
    obtain ⟨_, _, hn, ht, hi, _, hl, hr⟩ := hw
    have h1 := text_len l hl
    have h2 := text_len r hr
    have p1 : 4 ^ l.height ≤ 4 ^ (max l.height r.height) := Nat.pow_le_pow_right (by omega) (by omega)
    have p2 : 4 ^ r.height ≤ 4 ^ (max l.height r.height) := Nat.pow_le_pow_right (by omega) (by omega)
    have p3 : 1 ≤ 4 ^ (max l.height r.height) := Nat.one_le_pow _ _ (by omega)
    have e : 4 ^ (T.node k o n t i x l r).height = 4 ^ (max l.height r.height) * 4 := by rw [T.height, Nat.pow_succ]
    have d1 := dec_len n.toNat (by unfold n64; unfold u64 at hn; omega)
    have d2 := dec_len t.toNat (by unfold n64; unfold u8 at ht; omega)
    have d3 := dec_len i.toNat (by unfold n64; unfold u8 at hi; omega)
    have o1 := opS_len o
    have b1 := parB_len 4 (strT l) (textT l)
    have b2 := parB_len (strZ o) (strT l) (textT l)
    have b3 := parB_len (strZ o + 1) (strT r) (textT r)
    rw [e]
    simp only [textT]
    repeat' split
    all_goals (try simp only [List.length_append, List.length_cons, List.length_nil, chB])
    all_goals omega

theorem strT_le (t : T) : strT t ≤ 5 := by
  cases t with
  | nil => simp [strT]
  | node k o n t i x l r =>
    simp only [strT, strZ, strN]
    repeat' split
    all_goals omega

/-! The parts of the walk -/
section
variable {call : CallA} {G : Globals}

theorem add_str {a b : List UInt8} (h : a.length + b.length ≤ 9223372036854775807) : strBin .add a b = some (.str (a ++ b)) := by
  unfold strBin; rw [if_pos h]

def encP (x : T × Nat) : List AV := [x.1.av, .int .i64 x.2]

theorem part_spec (t : T) (m : Nat) (ht : t.wf) (hh : t.height ≤ 20) (hs : ∀ σ, callC call 90 [t.av] σ = some (.ret (.int .i64 (strT t)), σ)) (hx : ∀ σ, callC call 44 [t.av] σ = some (.ret (.str (textT t)), σ)) :
    evalFn call (drawA call G) G 0 i89 (encP (t, m)) [] = some (.ret (.str (parB m (strT t) (textT t))), []) := by
  have hl := text_len t ht
  have hp : 4 ^ t.height ≤ 4 ^ 20 := Nat.pow_le_pow_right (by omega) hh
  have hp2 : 4 ^ 20 = 1099511627776 := by decide
  generalize textT t = A at hx hl ⊢
  have e1 : strBin .add [40] A = some (.str (40 :: A)) := add_str (by simp; omega)
  have e2 : strBin .add (40 :: A) [41] = some (.str (40 :: (A ++ [41]))) := add_str (by simp; omega)
  have c1 := T.isCell t
  have c2 := T.cells t
  by_cases h : strT t < m
  · have e : ((strT t : Int) < (m : Int)) = True := by simp; omega
    have e3 : parB m (strT t) A = 40 :: (A ++ [41]) := by unfold parB; rw [if_pos h]
    rw [e3]
    simp only [evalFn, params, List.length_cons, List.length_nil, Nat.reduceAdd, evalCode, evalOps, guardOk, evalOp, AX.ev, look, putE, val, evs, optEv, binA, intBin, wrapI, unA, callM, keepE_cons, keepE_nil, Nat.reduceEqDiff, if_true, if_false, reduceIte, Int.toNat_natCast, List.append_nil, List.nil_append, List.cons_append, decide_true, decide_false, bft, btf, btt, bff, Bool.false_eq_true, resultsA, oneOrTup, Option.map_some, Option.map_none, Bool.not_true, Bool.not_false, loadAt, storeAt, storeOf, partOf, List.getElem?_cons_zero, List.getElem?_cons_succ, List.set_cons_zero, List.set_cons_succ, ic_bool, ce_bool, ic_int, ce_int, ic_str, ce_str, ic_flt, ce_flt, ic_cplx, ce_cplx, ic_nilp, ce_nilp, ic_ip, ce_ip, ic_bp, ce_bp, ic_sl, ce_sl, ic_bs, ce_bs, ic_nilm, ce_nilm, ic_map, ce_map, ic_fn, ce_fn, ic_nilf, ce_nilf, ic_iface, ce_iface, ic_nili, ce_nili, ic_agg, ce_agg, List.all_cons, List.all_nil, Bool.and_true, Bool.and_false, Bool.false_and, Bool.true_and, Bool.and_self, and_true, true_and, and_self, putAt, hasLabel, Bool.or_false, Bool.false_or, Bool.or_true, Bool.true_or, fillA, pickParts, pickSl, eqA, eqCell, ne_eq, not_true_eq_false, not_false_eq_true, Nat.reduceLeDiff, Nat.reduceLT, Nat.reduceMul, Nat.reduceSub, Nat.zero_add, Nat.add_zero, Option.bind_some, asNat, bounds2, reduceCtorEq, List.take_succ_cons, List.take_zero, List.drop_succ_cons, List.drop_zero, Nat.reduceBEq, List.take_nil, List.drop_nil, Int.reduceLE, Int.reduceLT, Int.reduceToNat, Int.toNat_zero, Int.reduceBEq, Int.le_refl, Nat.le_refl, b2s, srcRow, binA, beq_self_eq_true, bne_self_eq_false, minI, maxI, foldI, Bool.not_not, Int.lt_irrefl, gt_iff_lt, ge_iff_le, List.length_map, AV.undef, i89, encP, hs, hx, e, e1, e2]
  · have e : ((strT t : Int) < (m : Int)) = False := by simp; omega
    have e3 : parB m (strT t) A = A := by unfold parB; rw [if_neg h]
    rw [e3]
    simp only [evalFn, params, List.length_cons, List.length_nil, Nat.reduceAdd, evalCode, evalOps, guardOk, evalOp, AX.ev, look, putE, val, evs, optEv, binA, intBin, wrapI, unA, callM, keepE_cons, keepE_nil, Nat.reduceEqDiff, if_true, if_false, reduceIte, Int.toNat_natCast, List.append_nil, List.nil_append, List.cons_append, decide_true, decide_false, bft, btf, btt, bff, Bool.false_eq_true, resultsA, oneOrTup, Option.map_some, Option.map_none, Bool.not_true, Bool.not_false, loadAt, storeAt, storeOf, partOf, List.getElem?_cons_zero, List.getElem?_cons_succ, List.set_cons_zero, List.set_cons_succ, ic_bool, ce_bool, ic_int, ce_int, ic_str, ce_str, ic_flt, ce_flt, ic_cplx, ce_cplx, ic_nilp, ce_nilp, ic_ip, ce_ip, ic_bp, ce_bp, ic_sl, ce_sl, ic_bs, ce_bs, ic_nilm, ce_nilm, ic_map, ce_map, ic_fn, ce_fn, ic_nilf, ce_nilf, ic_iface, ce_iface, ic_nili, ce_nili, ic_agg, ce_agg, List.all_cons, List.all_nil, Bool.and_true, Bool.and_false, Bool.false_and, Bool.true_and, Bool.and_self, and_true, true_and, and_self, putAt, hasLabel, Bool.or_false, Bool.false_or, Bool.or_true, Bool.true_or, fillA, pickParts, pickSl, eqA, eqCell, ne_eq, not_true_eq_false, not_false_eq_true, Nat.reduceLeDiff, Nat.reduceLT, Nat.reduceMul, Nat.reduceSub, Nat.zero_add, Nat.add_zero, Option.bind_some, asNat, bounds2, reduceCtorEq, List.take_succ_cons, List.take_zero, List.drop_succ_cons, List.drop_zero, Nat.reduceBEq, List.take_nil, List.drop_nil, Int.reduceLE, Int.reduceLT, Int.reduceToNat, Int.toNat_zero, Int.reduceBEq, Int.le_refl, Nat.le_refl, b2s, srcRow, binA, beq_self_eq_true, bne_self_eq_false, minI, maxI, foldI, Bool.not_not, Int.lt_irrefl, gt_iff_lt, ge_iff_le, List.length_map, AV.undef, i89, encP, hs, hx, e, e1, e2]

theorem ch_tab : (List.range 256).all (fun n => if 97 ≤ n ∧ n ≤ 122 then (Utf8.encode (n : Int)).data.toList == chB (n : Int) else true) = true := by kernel_rfl
theorem ch_enc (x : Int) (h1 : 97 ≤ x) (h2 : x ≤ 122) : (Utf8.encode x).data.toList = chB x := by
  obtain ⟨n, rfl⟩ : ∃ n : Nat, x = n := ⟨x.toNat, by omega⟩
  have := List.all_eq_true.1 ch_tab n (by simp; omega)
  rw [if_pos (by omega)] at this
  exact eq_of_beq this
end
end Go.Pm
end

section
set_option linter.unusedSimpArgs false
set_option linter.unusedVariables false
set_option linter.unusedSectionVars false
/- How an expression is written: the walk of a node. -/
set_option maxRecDepth 100000
set_option linter.unusedSimpArgs false
set_option linter.unusedVariables false
namespace Go.Pm
open Go.Proofs Go.Proofs.YtehcekeccnlboaaDoor

section
variable {call : CallA} {G : Globals}

theorem good_cases {k o n t i x : Int} {l r : T} (hg : goodT (.node k o n t i x l r) = true) :
    k = 0 ∨ (k = 1 ∧ i < 8) ∨ (k = 2 ∧ t < 4 ∧ i < 8) ∨ (k = 3 ∧ 97 ≤ x ∧ x ≤ 122 ∧ x ≠ 114) ∨ (k = 4 ∧ sidesZ o = 1 ∧ goodT l = true) ∨ (k = 5 ∧ sidesZ o = 2 ∧ goodT l = true ∧ goodT r = true) := by
  by_cases h0 : k = 0
  · exact .inl h0
  by_cases h1 : k = 1
  · simp [goodT, h1] at hg; exact .inr (.inl ⟨h1, hg.2⟩)
  by_cases h2 : k = 2
  · simp [goodT, h2] at hg; exact .inr (.inr (.inl ⟨h2, hg.2⟩))
  by_cases h3 : k = 3
  · simp [goodT, h3] at hg; exact .inr (.inr (.inr (.inl ⟨h3, hg.2.1.1, hg.2.1.2, hg.2.2⟩)))
  by_cases h4 : k = 4
  · simp [goodT, h4] at hg; exact .inr (.inr (.inr (.inr (.inl ⟨h4, hg.2⟩))))
  by_cases h5 : k = 5
  · simp [goodT, h5] at hg; exact .inr (.inr (.inr (.inr (.inr ⟨h5, hg.2.1.1, hg.2.1.2, hg.2.2⟩))))
  · simp [goodT, h0, h1, h2, h3, h4, h5] at hg

theorem text_node (k o n t i x : Int) (l r : T) (hw : (T.node k o n t i x l r).wf) (hg : goodT (.node k o n t i x l r) = true) (hh : (T.node k o n t i x l r).height ≤ 20)
    (h84 : ∀ n σ, n64 n → callC call 84 [.int .u64 n, .int .i64 10] σ = some (.ret (.str (Lib.decDigits n)), σ))
    (h87 : ∀ (n : Nat) σ, n < 8 → callC call 87 [.int .i64 n] σ = some (.ret (.str (Lib.decDigits n)), σ))
    (h88 : ∀ σ, callC call 88 [.int .u8 o] σ = some (.ret (.str (opS o)), σ))
    (h90 : ∀ σ, callC call 90 [(T.node k o n t i x l r).av] σ = some (.ret (.int .i64 (strT (T.node k o n t i x l r))), σ))
    (hp : ∀ s (m : Nat) σ, s = l ∨ s = r → goodT s = true → callC call 89 [s.av, .int .i64 m] σ = some (.ret (.str (parB m (strT s) (textT s))), σ)) :
    evalFn call (drawA call G) G 0 i44 [(T.node k o n t i x l r).av] [] = some (.ret (.str (textT (T.node k o n t i x l r))), []) := by
  have hl := text_len _ hw
  have hp0 : 4 ^ (T.node k o n t i x l r).height ≤ 4 ^ 20 := Nat.pow_le_pow_right (by omega) hh
  have hp2 : 4 ^ 20 = 1099511627776 := by decide
  have hw2 := hw
  obtain ⟨_, ho, hn, ht, hi, hx, _, _⟩ := hw2
  have p1 := T.pure l
  have p2 := T.pure r
  have c1 := T.isCell l
  have c2 := T.isCell r
  simp only [T.av] at h90
  unfold u8 at ho ht hi hx
  unfold u64 at hn
  rcases good_cases hg with rfl | ⟨rfl, hi8⟩ | ⟨rfl, ht4, hi8⟩ | ⟨rfl, hx1, hx2, _⟩ | ⟨rfl, _, hgl⟩ | ⟨rfl, hs, hgl, hgr⟩
  · obtain ⟨m, rfl⟩ : ∃ m : Nat, n = m := ⟨n.toNat, by omega⟩
    have h := h84 m
    have ha := fun σ => h σ (by unfold n64; omega)
    have e : textT (.node 0 o m t i x l r) = Lib.decDigits m := by simp only [textT, if_true, Int.toNat_natCast]
    rw [e]
    generalize Lib.decDigits m = D at ha ⊢
    simp only [evalFn, params, List.length_cons, List.length_nil, Nat.reduceAdd, evalCode, evalOps, guardOk, evalOp, AX.ev, look, putE, val, evs, optEv, binA, intBin, wrapI, unA, callM, keepE_cons, keepE_nil, Nat.reduceEqDiff, if_true, if_false, reduceIte, Int.toNat_natCast, List.append_nil, List.nil_append, List.cons_append, decide_true, decide_false, bft, btf, btt, bff, Bool.false_eq_true, resultsA, oneOrTup, Option.map_some, Option.map_none, Bool.not_true, Bool.not_false, loadAt, storeAt, storeOf, partOf, List.getElem?_cons_zero, List.getElem?_cons_succ, List.set_cons_zero, List.set_cons_succ, ic_bool, ce_bool, ic_int, ce_int, ic_str, ce_str, ic_flt, ce_flt, ic_cplx, ce_cplx, ic_nilp, ce_nilp, ic_ip, ce_ip, ic_bp, ce_bp, ic_sl, ce_sl, ic_bs, ce_bs, ic_nilm, ce_nilm, ic_map, ce_map, ic_fn, ce_fn, ic_nilf, ce_nilf, ic_iface, ce_iface, ic_nili, ce_nili, ic_agg, ce_agg, List.all_cons, List.all_nil, Bool.and_true, Bool.and_false, Bool.false_and, Bool.true_and, Bool.and_self, and_true, true_and, and_self, putAt, hasLabel, Bool.or_false, Bool.false_or, Bool.or_true, Bool.true_or, fillA, pickParts, pickSl, eqA, eqCell, ne_eq, not_true_eq_false, not_false_eq_true, Nat.reduceLeDiff, Nat.reduceLT, Nat.reduceMul, Nat.reduceSub, Nat.zero_add, Nat.add_zero, Option.bind_some, asNat, bounds2, reduceCtorEq, List.take_succ_cons, List.take_zero, List.drop_succ_cons, List.drop_zero, Nat.reduceBEq, List.take_nil, List.drop_nil, Int.reduceLE, Int.reduceLT, Int.reduceToNat, Int.toNat_zero, Int.reduceBEq, Int.le_refl, Nat.le_refl, b2s, srcRow, binA, beq_self_eq_true, bne_self_eq_false, minI, maxI, foldI, Bool.not_not, Int.lt_irrefl, gt_iff_lt, ge_iff_le, List.length_map, AV.undef, i44, T.av, ha]
  · obtain ⟨m, rfl⟩ : ∃ m : Nat, i = m := ⟨i.toNat, by omega⟩
    have ha := fun σ => h87 m σ (by omega)
    have e : textT (.node 1 o n t m x l r) = 114 :: Lib.decDigits m := by simp [textT]
    rw [e] at hl ⊢
    generalize Lib.decDigits m = D at ha hl ⊢
    have w1 : IntKind.i64.wrap (m : Int) = m := by rw [wrap_i64] <;> omega
    have e1 : strBin .add [114] D = some (.str (114 :: D)) := add_str (by simp at hl ⊢; omega)
    simp only [evalFn, params, List.length_cons, List.length_nil, Nat.reduceAdd, evalCode, evalOps, guardOk, evalOp, AX.ev, look, putE, val, evs, optEv, binA, intBin, wrapI, unA, callM, keepE_cons, keepE_nil, Nat.reduceEqDiff, if_true, if_false, reduceIte, Int.toNat_natCast, List.append_nil, List.nil_append, List.cons_append, decide_true, decide_false, bft, btf, btt, bff, Bool.false_eq_true, resultsA, oneOrTup, Option.map_some, Option.map_none, Bool.not_true, Bool.not_false, loadAt, storeAt, storeOf, partOf, List.getElem?_cons_zero, List.getElem?_cons_succ, List.set_cons_zero, List.set_cons_succ, ic_bool, ce_bool, ic_int, ce_int, ic_str, ce_str, ic_flt, ce_flt, ic_cplx, ce_cplx, ic_nilp, ce_nilp, ic_ip, ce_ip, ic_bp, ce_bp, ic_sl, ce_sl, ic_bs, ce_bs, ic_nilm, ce_nilm, ic_map, ce_map, ic_fn, ce_fn, ic_nilf, ce_nilf, ic_iface, ce_iface, ic_nili, ce_nili, ic_agg, ce_agg, List.all_cons, List.all_nil, Bool.and_true, Bool.and_false, Bool.false_and, Bool.true_and, Bool.and_self, and_true, true_and, and_self, putAt, hasLabel, Bool.or_false, Bool.false_or, Bool.or_true, Bool.true_or, fillA, pickParts, pickSl, eqA, eqCell, ne_eq, not_true_eq_false, not_false_eq_true, Nat.reduceLeDiff, Nat.reduceLT, Nat.reduceMul, Nat.reduceSub, Nat.zero_add, Nat.add_zero, Option.bind_some, asNat, bounds2, reduceCtorEq, List.take_succ_cons, List.take_zero, List.drop_succ_cons, List.drop_zero, Nat.reduceBEq, List.take_nil, List.drop_nil, Int.reduceLE, Int.reduceLT, Int.reduceToNat, Int.toNat_zero, Int.reduceBEq, Int.le_refl, Nat.le_refl, b2s, srcRow, binA, beq_self_eq_true, bne_self_eq_false, minI, maxI, foldI, Bool.not_not, Int.lt_irrefl, gt_iff_lt, ge_iff_le, List.length_map, AV.undef, i44, T.av, ha, w1, e1]
  · obtain ⟨m, rfl⟩ : ∃ m : Nat, i = m := ⟨i.toNat, by omega⟩
    obtain ⟨q, rfl⟩ : ∃ q : Nat, t = q := ⟨t.toNat, by omega⟩
    have ha := fun σ => h87 m σ (by omega)
    have hb := fun σ => h87 q σ (by omega)
    have e : textT (.node 2 o n q m x l r) = Lib.decDigits q ++ [58, 114] ++ Lib.decDigits m := by simp [textT]
    rw [e] at hl ⊢
    generalize Lib.decDigits m = D at ha hl ⊢
    generalize Lib.decDigits q = E at hb hl ⊢
    simp only [List.length_append, List.length_cons, List.length_nil] at hl
    have w1 : IntKind.i64.wrap (m : Int) = m := by rw [wrap_i64] <;> omega
    have w2 : IntKind.i64.wrap (q : Int) = q := by rw [wrap_i64] <;> omega
    have e1 : strBin .add E [58, 114] = some (.str (E ++ [58, 114])) := add_str (by simp; omega)
    have e2 : strBin .add (E ++ [58, 114]) D = some (.str (E ++ [58, 114] ++ D)) := add_str (by simp; omega)
    simp only [evalFn, params, List.length_cons, List.length_nil, Nat.reduceAdd, evalCode, evalOps, guardOk, evalOp, AX.ev, look, putE, val, evs, optEv, binA, intBin, wrapI, unA, callM, keepE_cons, keepE_nil, Nat.reduceEqDiff, if_true, if_false, reduceIte, Int.toNat_natCast, List.append_nil, List.nil_append, List.cons_append, decide_true, decide_false, bft, btf, btt, bff, Bool.false_eq_true, resultsA, oneOrTup, Option.map_some, Option.map_none, Bool.not_true, Bool.not_false, loadAt, storeAt, storeOf, partOf, List.getElem?_cons_zero, List.getElem?_cons_succ, List.set_cons_zero, List.set_cons_succ, ic_bool, ce_bool, ic_int, ce_int, ic_str, ce_str, ic_flt, ce_flt, ic_cplx, ce_cplx, ic_nilp, ce_nilp, ic_ip, ce_ip, ic_bp, ce_bp, ic_sl, ce_sl, ic_bs, ce_bs, ic_nilm, ce_nilm, ic_map, ce_map, ic_fn, ce_fn, ic_nilf, ce_nilf, ic_iface, ce_iface, ic_nili, ce_nili, ic_agg, ce_agg, List.all_cons, List.all_nil, Bool.and_true, Bool.and_false, Bool.false_and, Bool.true_and, Bool.and_self, and_true, true_and, and_self, putAt, hasLabel, Bool.or_false, Bool.false_or, Bool.or_true, Bool.true_or, fillA, pickParts, pickSl, eqA, eqCell, ne_eq, not_true_eq_false, not_false_eq_true, Nat.reduceLeDiff, Nat.reduceLT, Nat.reduceMul, Nat.reduceSub, Nat.zero_add, Nat.add_zero, Option.bind_some, asNat, bounds2, reduceCtorEq, List.take_succ_cons, List.take_zero, List.drop_succ_cons, List.drop_zero, Nat.reduceBEq, List.take_nil, List.drop_nil, Int.reduceLE, Int.reduceLT, Int.reduceToNat, Int.toNat_zero, Int.reduceBEq, Int.le_refl, Nat.le_refl, b2s, srcRow, binA, beq_self_eq_true, bne_self_eq_false, minI, maxI, foldI, Bool.not_not, Int.lt_irrefl, gt_iff_lt, ge_iff_le, List.length_map, AV.undef, puress, AV.pure, strip, drawA, goD, stepG, stepD, bornD, readsD, births, AOp.births, Eff.app, pairsD, loudsD, loudD, conflict, apart, AOp.shares, List.getD_cons_succ, List.getD_cons_zero, List.contains_cons, List.contains_nil, Bool.not_or, Option.getD_some, Option.getD_none, Nat.reduceBNe, List.replicate_zero, List.append_nil, i44, T.av, ha, hb, w1, w2, e1, e2, p1, p2, c1, c2]
  · have e : textT (.node 3 o n t i x l r) = chB x := by simp [textT]
    rw [e]
    have w1 : IntKind.i32.wrap x = x := by rw [IntKind.wrap_i32]; omega
    have e1 := ch_enc x hx1 hx2
    simp only [evalFn, params, List.length_cons, List.length_nil, Nat.reduceAdd, evalCode, evalOps, guardOk, evalOp, AX.ev, look, putE, val, evs, optEv, binA, intBin, wrapI, unA, callM, keepE_cons, keepE_nil, Nat.reduceEqDiff, if_true, if_false, reduceIte, Int.toNat_natCast, List.append_nil, List.nil_append, List.cons_append, decide_true, decide_false, bft, btf, btt, bff, Bool.false_eq_true, resultsA, oneOrTup, Option.map_some, Option.map_none, Bool.not_true, Bool.not_false, loadAt, storeAt, storeOf, partOf, List.getElem?_cons_zero, List.getElem?_cons_succ, List.set_cons_zero, List.set_cons_succ, ic_bool, ce_bool, ic_int, ce_int, ic_str, ce_str, ic_flt, ce_flt, ic_cplx, ce_cplx, ic_nilp, ce_nilp, ic_ip, ce_ip, ic_bp, ce_bp, ic_sl, ce_sl, ic_bs, ce_bs, ic_nilm, ce_nilm, ic_map, ce_map, ic_fn, ce_fn, ic_nilf, ce_nilf, ic_iface, ce_iface, ic_nili, ce_nili, ic_agg, ce_agg, List.all_cons, List.all_nil, Bool.and_true, Bool.and_false, Bool.false_and, Bool.true_and, Bool.and_self, and_true, true_and, and_self, putAt, hasLabel, Bool.or_false, Bool.false_or, Bool.or_true, Bool.true_or, fillA, pickParts, pickSl, eqA, eqCell, ne_eq, not_true_eq_false, not_false_eq_true, Nat.reduceLeDiff, Nat.reduceLT, Nat.reduceMul, Nat.reduceSub, Nat.zero_add, Nat.add_zero, Option.bind_some, asNat, bounds2, reduceCtorEq, List.take_succ_cons, List.take_zero, List.drop_succ_cons, List.drop_zero, Nat.reduceBEq, List.take_nil, List.drop_nil, Int.reduceLE, Int.reduceLT, Int.reduceToNat, Int.toNat_zero, Int.reduceBEq, Int.le_refl, Nat.le_refl, b2s, srcRow, binA, beq_self_eq_true, bne_self_eq_false, minI, maxI, foldI, Bool.not_not, Int.lt_irrefl, gt_iff_lt, ge_iff_le, List.length_map, AV.undef, i44, T.av, w1, e1]
  · have ha := fun σ => hp l 4 σ (.inl rfl) hgl
    have e : textT (.node 4 o n t i x l r) = opS o ++ parB 4 (strT l) (textT l) := by simp [textT]
    rw [e] at hl ⊢
    generalize parB 4 (strT l) (textT l) = A at ha hl ⊢
    generalize opS o = O at h88 hl ⊢
    simp only [List.length_append] at hl
    have e1 : strBin .add O A = some (.str (O ++ A)) := add_str (by omega)
    have ha : ∀ σ, callC call 89 [l.av, .int .i64 4] σ = some (.ret (.str A), σ) := ha
    simp only [evalFn, params, List.length_cons, List.length_nil, Nat.reduceAdd, evalCode, evalOps, guardOk, evalOp, AX.ev, look, putE, val, evs, optEv, binA, intBin, wrapI, unA, callM, keepE_cons, keepE_nil, Nat.reduceEqDiff, if_true, if_false, reduceIte, Int.toNat_natCast, List.append_nil, List.nil_append, List.cons_append, decide_true, decide_false, bft, btf, btt, bff, Bool.false_eq_true, resultsA, oneOrTup, Option.map_some, Option.map_none, Bool.not_true, Bool.not_false, loadAt, storeAt, storeOf, partOf, List.getElem?_cons_zero, List.getElem?_cons_succ, List.set_cons_zero, List.set_cons_succ, ic_bool, ce_bool, ic_int, ce_int, ic_str, ce_str, ic_flt, ce_flt, ic_cplx, ce_cplx, ic_nilp, ce_nilp, ic_ip, ce_ip, ic_bp, ce_bp, ic_sl, ce_sl, ic_bs, ce_bs, ic_nilm, ce_nilm, ic_map, ce_map, ic_fn, ce_fn, ic_nilf, ce_nilf, ic_iface, ce_iface, ic_nili, ce_nili, ic_agg, ce_agg, List.all_cons, List.all_nil, Bool.and_true, Bool.and_false, Bool.false_and, Bool.true_and, Bool.and_self, and_true, true_and, and_self, putAt, hasLabel, Bool.or_false, Bool.false_or, Bool.or_true, Bool.true_or, fillA, pickParts, pickSl, eqA, eqCell, ne_eq, not_true_eq_false, not_false_eq_true, Nat.reduceLeDiff, Nat.reduceLT, Nat.reduceMul, Nat.reduceSub, Nat.zero_add, Nat.add_zero, Option.bind_some, asNat, bounds2, reduceCtorEq, List.take_succ_cons, List.take_zero, List.drop_succ_cons, List.drop_zero, Nat.reduceBEq, List.take_nil, List.drop_nil, Int.reduceLE, Int.reduceLT, Int.reduceToNat, Int.toNat_zero, Int.reduceBEq, Int.le_refl, Nat.le_refl, b2s, srcRow, binA, beq_self_eq_true, bne_self_eq_false, minI, maxI, foldI, Bool.not_not, Int.lt_irrefl, gt_iff_lt, ge_iff_le, List.length_map, AV.undef, puress, AV.pure, strip, drawA, goD, stepG, stepD, bornD, readsD, births, AOp.births, Eff.app, pairsD, loudsD, loudD, conflict, apart, AOp.shares, List.getD_cons_succ, List.getD_cons_zero, List.contains_cons, List.contains_nil, Bool.not_or, Option.getD_some, Option.getD_none, Nat.reduceBNe, List.replicate_zero, List.append_nil, i44, T.av, ha, h88, e1, p1, p2, c1, c2]
  · have ha := fun σ => hp l (strZ o) σ (.inl rfl) hgl
    have hb := fun σ => hp r (strZ o + 1) σ (.inr rfl) hgr
    have e : textT (.node 5 o n t i x l r) = parB (strZ o) (strT l) (textT l) ++ [32] ++ opS o ++ [32] ++ parB (strZ o + 1) (strT r) (textT r) := by simp [textT]
    have e0 : strT (.node 5 o n t i x l r) = strZ o := by simp [strT]
    have e9 : strZ o ≤ 5 := by rw [← e0]; exact strT_le _
    rw [e0] at h90
    rw [e] at hl ⊢
    generalize parB (strZ o) (strT l) (textT l) = A at ha hl ⊢
    generalize parB (strZ o + 1) (strT r) (textT r) = B at hb hl ⊢
    generalize opS o = O at h88 hl ⊢
    generalize strZ o = s at *
    simp only [List.length_append, List.length_cons, List.length_nil] at hl
    have w1 : IntKind.i64.wrap ((s : Int) + 1) = ((s + 1 : Nat) : Int) := by rw [wrap_i64] <;> omega
    have e1 : strBin .add A [32] = some (.str (A ++ [32])) := add_str (by simp; omega)
    have e2 : strBin .add (A ++ [32]) O = some (.str (A ++ [32] ++ O)) := add_str (by simp; omega)
    have e3 : strBin .add (A ++ [32] ++ O) [32] = some (.str (A ++ [32] ++ O ++ [32])) := add_str (by simp; omega)
    have e4 : strBin .add (A ++ [32] ++ O ++ [32]) B = some (.str (A ++ [32] ++ O ++ [32] ++ B)) := add_str (by simp; omega)
    simp only [evalFn, params, List.length_cons, List.length_nil, Nat.reduceAdd, evalCode, evalOps, guardOk, evalOp, AX.ev, look, putE, val, evs, optEv, binA, intBin, wrapI, unA, callM, keepE_cons, keepE_nil, Nat.reduceEqDiff, if_true, if_false, reduceIte, Int.toNat_natCast, List.append_nil, List.nil_append, List.cons_append, decide_true, decide_false, bft, btf, btt, bff, Bool.false_eq_true, resultsA, oneOrTup, Option.map_some, Option.map_none, Bool.not_true, Bool.not_false, loadAt, storeAt, storeOf, partOf, List.getElem?_cons_zero, List.getElem?_cons_succ, List.set_cons_zero, List.set_cons_succ, ic_bool, ce_bool, ic_int, ce_int, ic_str, ce_str, ic_flt, ce_flt, ic_cplx, ce_cplx, ic_nilp, ce_nilp, ic_ip, ce_ip, ic_bp, ce_bp, ic_sl, ce_sl, ic_bs, ce_bs, ic_nilm, ce_nilm, ic_map, ce_map, ic_fn, ce_fn, ic_nilf, ce_nilf, ic_iface, ce_iface, ic_nili, ce_nili, ic_agg, ce_agg, List.all_cons, List.all_nil, Bool.and_true, Bool.and_false, Bool.false_and, Bool.true_and, Bool.and_self, and_true, true_and, and_self, putAt, hasLabel, Bool.or_false, Bool.false_or, Bool.or_true, Bool.true_or, fillA, pickParts, pickSl, eqA, eqCell, ne_eq, not_true_eq_false, not_false_eq_true, Nat.reduceLeDiff, Nat.reduceLT, Nat.reduceMul, Nat.reduceSub, Nat.zero_add, Nat.add_zero, Option.bind_some, asNat, bounds2, reduceCtorEq, List.take_succ_cons, List.take_zero, List.drop_succ_cons, List.drop_zero, Nat.reduceBEq, List.take_nil, List.drop_nil, Int.reduceLE, Int.reduceLT, Int.reduceToNat, Int.toNat_zero, Int.reduceBEq, Int.le_refl, Nat.le_refl, b2s, srcRow, binA, beq_self_eq_true, bne_self_eq_false, minI, maxI, foldI, Bool.not_not, Int.lt_irrefl, gt_iff_lt, ge_iff_le, List.length_map, AV.undef, puress, AV.pure, strip, drawA, goD, stepG, stepD, bornD, readsD, births, AOp.births, Eff.app, pairsD, loudsD, loudD, conflict, apart, AOp.shares, List.getD_cons_succ, List.getD_cons_zero, List.contains_cons, List.contains_nil, Bool.not_or, Option.getD_some, Option.getD_none, Nat.reduceBNe, List.replicate_zero, List.append_nil, i44, T.av, ha, hb, h88, h90, w1, e1, e2, e3, e4, p1, p2, c1, c2]
end
end Go.Pm
end

section
set_option linter.unusedSimpArgs false
set_option linter.unusedVariables false
set_option linter.unusedSectionVars false
/- How an expression is written: layers up to 'Text'. -/
set_option maxRecDepth 100000
set_option linter.unusedSimpArgs false
set_option linter.unusedVariables false
namespace Go.Pm
open Go.Proofs Go.Proofs.YtehcekeccnlboaaDoor

theorem CallS.empty {P : Program} {G : Globals} {f : FuncId} {X : Type} {enc : X → List AV} {dom : X → Prop} {out : X → AV} (h : ∀ x, ¬ dom x) : CallS P G (atF f (pureS (encS enc dom out))) := by
  intro g args σ r σ' hg
  unfold atF at hg
  split at hg
  case isFalse => cases hg
  unfold pureS at hg
  split at hg
  · rename_i v hv
    obtain ⟨x, _, hx, _⟩ := encS_some hv
    exact absurd hx (h x)
  · cases hg

def tDom (n : Nat) (t : T) : Prop := t.wf ∧ goodT t = true ∧ t.height < n ∧ t.height ≤ 20
noncomputable def sText (n : Nat) : Spec := pureS (encS encT (tDom n) fun t => .str (textT t))
noncomputable def sPart (n : Nat) : Spec := pureS (encS encTN (fun x => tDom n x.1) fun x => .str (parB x.2 (strT x.1) (textT x.1)))
noncomputable def tx0 : CallA := orC (atF 88 sOp) (orC (atF 87 sItoa) (orC (atF 84 sFmt) (orC (atF 90 sStrT) exF)))
noncomputable def txT (n : Nat) : CallA := orC (atF 44 (sText n)) tx0
noncomputable def txR (n : Nat) : CallA := orC (atF 89 (sPart n)) (txT n)

theorem tx0_sound : CallS Tryd.prog exG tx0 := op_sound.or (itoa_sound.or (fmtU_sound.or (strT_sound.or (exF_sound exG_pure))))
theorem tx0_op : Has tx0 88 enc8 u8 fun o => .str (opS o) := Has.self (fun _ _ _ _ h => by rw [enc8_inj h]) (fun _ _ => rfl) (fun _ _ => seen_flat rfl)
theorem tx0_itoa : Has tx0 87 encI (fun n => n < 8) fun n => .str (Lib.decDigits n) :=
  Has.over (Has.self (fun _ _ _ _ h => by rw [encI_inj h]) (fun _ _ => rfl) (fun _ _ => seen_flat rfl)) (by decide)
theorem tx0_fmt : Has tx0 84 enc10 n64 fun n => .str (Lib.decDigits n) :=
  Has.over (Has.over (Has.self (fun _ _ _ _ h => by rw [enc10_inj h]) (fun _ _ => rfl) (fun _ _ => seen_flat rfl)) (by decide)) (by decide)
theorem tx0_str : Has tx0 90 encT (fun t => t.wf ∧ t.isNode) fun t => .int .i64 (strT t) :=
  Has.over (Has.over (Has.over (Has.self (fun _ _ _ _ h => by rw [encT_inj h]) (fun _ _ => encT_bare _) (fun _ _ => seen_flat rfl)) (by decide)) (by decide)) (by decide)
theorem tx0_may : Has tx0 16 encT (fun t => t.wf ∧ t.height < 60) fun t => .bool (mayT t) :=
  Has.over (Has.over (Has.over (Has.over exF_may (by decide)) (by decide)) (by decide)) (by decide)
theorem txR_part (n : Nat) : Has (txR n) 89 encTN (fun x => tDom n x.1) fun x => .str (parB x.2 (strT x.1) (textT x.1)) :=
  Has.self (fun _ _ _ _ h => by rw [encTN_inj h]) (fun _ _ => encTN_bare _) (fun _ _ => seen_flat rfl)
theorem txT_text (n : Nat) : Has (txT n) 44 encT (tDom n) fun t => .str (textT t) :=
  Has.self (fun _ _ _ _ h => by rw [encT_inj h]) (fun _ _ => encT_bare _) (fun _ _ => seen_flat rfl)
theorem up {n : Nat} {f : FuncId} {X : Type} {enc : X → List AV} {dom : X → Prop} {out : X → AV} (h : Has tx0 f enc dom out) (h1 : f ≠ 44) (h2 : f ≠ 89) : Has (txR n) f enc dom out := (h.over h1).over h2
theorem node_of_good {t : T} (h : goodT t = true) : t.isNode := by
  cases t with
  | nil => simp [goodT] at h
  | node => trivial

theorem txR_sound : ∀ n, CallS Tryd.prog exG (txR n)
  | 0 => (CallS.empty fun x h => absurd h.2.2.1 (by omega)).or ((CallS.empty fun x h => absurd h.2.2.1 (by omega)).or tx0_sound)
  | n + 1 => by
    have ih := txR_sound n
    have hT : CallS Tryd.prog exG (atF 44 (sText (n + 1))) := by
      refine CallS.enc ih mixed exG_pure ok44 encT (tDom (n + 1)) _ fun t ht => ⟨encT_bare t, 0, _, [], ?_, seen_flat rfl⟩
      obtain ⟨hw, hg, hn, hh⟩ := ht
      cases t with
      | nil => simp [goodT] at hg
      | node k o m t i x l r =>
        obtain ⟨_, ho, _, _, _, _, hl, hr⟩ := id hw
        have hhl : l.height < n ∧ l.height ≤ 20 := by simp only [T.height] at hn hh; omega
        have hhr : r.height < n ∧ r.height ≤ 20 := by simp only [T.height] at hn hh; omega
        refine text_node k o m t i x l r hw hg hh (fun a σ ha => (up tx0_fmt (by decide) (by decide)) a σ ha) (fun a σ ha => (up tx0_itoa (by decide) (by decide)) a σ ha)
          (fun σ => (up tx0_op (by decide) (by decide)) o σ ho) (fun σ => (up tx0_str (by decide) (by decide)) _ σ ⟨hw, trivial⟩) fun s m σ hs hgs => ?_
        refine txR_part n (s, m) σ ?_
        rcases hs with rfl | rfl
        · exact ⟨hl, hgs, hhl.1, hhl.2⟩
        · exact ⟨hr, hgs, hhr.1, hhr.2⟩
    have hTo := hT.or tx0_sound
    refine (CallS.enc hTo mixed exG_pure ok89 encTN (fun x => tDom (n + 1) x.1) _ fun x hx => ⟨encTN_bare x, 0, _, [], ?_, seen_flat rfl⟩).or hTo
    obtain ⟨t, m⟩ := x
    obtain ⟨hw, hg, hn, hh⟩ := id hx
    exact part_spec t m hw hh (fun σ => (tx0_str.over (s := sText (n + 1)) (by decide)) t σ ⟨hw, node_of_good hg⟩) (fun σ => txT_text (n + 1) t σ hx)

/-! 'Text' -/
def textM (t : T) : List UInt8 := if mayT t then textT t else []
noncomputable def sTextM : Spec := pureS (encS encT (fun t => t.wf ∧ t.height ≤ 20) fun t => .str (textM t))
noncomputable def txZ : CallA := orC (atF 15 sTextM) (txR 21)
theorem may_good {t : T} (h : mayT t = true) : goodT t = true := by
  unfold mayT at h
  simp at h
  exact h.2
theorem txZ_sound : CallS Tryd.prog exG txZ := by
  refine (CallS.enc (txR_sound 21) mixed exG_pure ok15 encT (fun t => t.wf ∧ t.height ≤ 20) _ fun t ht => ⟨encT_bare t, 0, _, [], ?_, seen_flat rfl⟩).or (txR_sound 21)
  have h16 : ∀ σ, callC (txR 21) 16 [t.av] σ = some (.ret (.bool (mayT t)), σ) := fun σ => (up tx0_may (by decide) (by decide)) t σ ⟨ht.1, by omega⟩
  unfold textM
  cases hm : mayT t with
  | false =>
    rw [hm] at h16
    simp only [evalFn, params, List.length_cons, List.length_nil, Nat.reduceAdd, evalCode, evalOps, guardOk, evalOp, AX.ev, look, putE, val, evs, optEv, binA, intBin, wrapI, unA, callM, keepE_cons, keepE_nil, Nat.reduceEqDiff, if_true, if_false, reduceIte, Int.toNat_natCast, List.append_nil, List.nil_append, List.cons_append, decide_true, decide_false, bft, btf, btt, bff, Bool.false_eq_true, resultsA, oneOrTup, Option.map_some, Option.map_none, Bool.not_true, Bool.not_false, loadAt, storeAt, storeOf, partOf, List.getElem?_cons_zero, List.getElem?_cons_succ, List.set_cons_zero, List.set_cons_succ, AV.cells, AV.isCell, List.all_cons, List.all_nil, Bool.and_true, Bool.and_false, Bool.false_and, Bool.true_and, Bool.and_self, and_true, true_and, and_self, putAt, hasLabel, Bool.or_false, Bool.false_or, Bool.or_true, Bool.true_or, fillA, pickParts, pickSl, strBin, eqA, eqCell, ne_eq, not_true_eq_false, not_false_eq_true, Nat.reduceLeDiff, Nat.reduceLT, Nat.reduceMul, Nat.reduceSub, Nat.zero_add, Nat.add_zero, Option.bind_some, asNat, bounds2, reduceCtorEq, List.take_succ_cons, List.take_zero, List.drop_succ_cons, List.drop_zero, Nat.reduceBEq, List.take_nil, List.drop_nil, Int.reduceLE, Int.reduceLT, Int.reduceToNat, Int.toNat_zero, Int.reduceBEq, Int.le_refl, Nat.le_refl, b2s, srcRow, binA, beq_self_eq_true, bne_self_eq_false, minI, maxI, foldI, Bool.not_not, Int.lt_irrefl, gt_iff_lt, ge_iff_le, List.length_map, AV.undef, i15, encT, h16]
  | true =>
    rw [hm] at h16
    have h44 : ∀ σ, callC (txR 21) 44 [t.av] σ = some (.ret (.str (textT t)), σ) := fun σ => ((txT_text 21).over (s := sPart 21) (by decide)) t σ ⟨ht.1, may_good hm, by omega, ht.2⟩
    simp only [evalFn, params, List.length_cons, List.length_nil, Nat.reduceAdd, evalCode, evalOps, guardOk, evalOp, AX.ev, look, putE, val, evs, optEv, binA, intBin, wrapI, unA, callM, keepE_cons, keepE_nil, Nat.reduceEqDiff, if_true, if_false, reduceIte, Int.toNat_natCast, List.append_nil, List.nil_append, List.cons_append, decide_true, decide_false, bft, btf, btt, bff, Bool.false_eq_true, resultsA, oneOrTup, Option.map_some, Option.map_none, Bool.not_true, Bool.not_false, loadAt, storeAt, storeOf, partOf, List.getElem?_cons_zero, List.getElem?_cons_succ, List.set_cons_zero, List.set_cons_succ, AV.cells, AV.isCell, List.all_cons, List.all_nil, Bool.and_true, Bool.and_false, Bool.false_and, Bool.true_and, Bool.and_self, and_true, true_and, and_self, putAt, hasLabel, Bool.or_false, Bool.false_or, Bool.or_true, Bool.true_or, fillA, pickParts, pickSl, strBin, eqA, eqCell, ne_eq, not_true_eq_false, not_false_eq_true, Nat.reduceLeDiff, Nat.reduceLT, Nat.reduceMul, Nat.reduceSub, Nat.zero_add, Nat.add_zero, Option.bind_some, asNat, bounds2, reduceCtorEq, List.take_succ_cons, List.take_zero, List.drop_succ_cons, List.drop_zero, Nat.reduceBEq, List.take_nil, List.drop_nil, Int.reduceLE, Int.reduceLT, Int.reduceToNat, Int.toNat_zero, Int.reduceBEq, Int.le_refl, Nat.le_refl, b2s, srcRow, binA, beq_self_eq_true, bne_self_eq_false, minI, maxI, foldI, Bool.not_not, Int.lt_irrefl, gt_iff_lt, ge_iff_le, List.length_map, AV.undef, i15, encT, h16, h44]
theorem txZ_text : Has txZ 15 encT (fun t => t.wf ∧ t.height ≤ 20) fun t => .str (textM t) :=
  Has.self (fun _ _ _ _ h => by rw [encT_inj h]) (fun _ _ => encT_bare _) (fun _ _ => seen_flat rfl)
theorem txZ_may : Has txZ 16 encT (fun t => t.wf ∧ t.height < 60) fun t => .bool (mayT t) := (up tx0_may (by decide) (by decide)).over (by decide)
end Go.Pm
end

section
set_option linter.unusedSimpArgs false
set_option linter.unusedVariables false
set_option linter.unusedSectionVars false
/- Whether two expressions are alike. -/
set_option maxRecDepth 100000
set_option linter.unusedSimpArgs false
set_option linter.unusedVariables false
namespace Go.Pm
open Go.Proofs Go.Proofs.YtehcekeccnlboaaDoor

def sameT : T → T → Bool
  | .nil, .nil => true
  | .nil, .node .. => false
  | .node .., .nil => false
  | .node k o n t i x l r, .node k' o' n' t' i' x' l' r' => ((k == k') && (o == o') && (n == n') && (t == t') && (i == i') && (x == x')) && sameT l l' && sameT r r'

theorem sameT_iff : ∀ a b : T, sameT a b = true ↔ a = b
  | .nil, .nil => by simp [sameT]
  | .nil, .node .. => by simp [sameT]
  | .node .., .nil => by simp [sameT]
  | .node k o n t i x l r, .node k' o' n' t' i' x' l' r' => by
    simp only [sameT, Bool.and_eq_true, beq_iff_eq, sameT_iff l l', sameT_iff r r', T.node.injEq, and_assoc]

def encTT (x : T × T) : List AV := [x.1.av, x.2.av]
theorem encTT_bare (x : T × T) : Bare (encTT x) := by unfold Bare encTT; simp only [stripWs, T.bare]
theorem encTT_inj {a b : T × T} (h : encTT a = encTT b) : a = b := by
  simp only [encTT, List.cons.injEq, and_true] at h
  exact Prod.ext (T.av_inj h.1) (T.av_inj h.2)

theorem node_fields (a b c d e f a' b' c' d' e' f' : Int) : eqFields [(0, 1, false, (.scalar .i)), (1, 1, false, (.scalar .i)), (2, 1, false, (.scalar .i)), (3, 1, false, (.scalar .i)), (4, 1, false, (.scalar .i)), (5, 1, false, (.scalar .i)), (6, 1, false, (.scalar .p)), (7, 1, false, (.scalar .p))]
    [.int .u8 a, .int .u8 b, .int .u64 c, .int .u8 d, .int .u8 e, .int .u8 f, .nilp, .nilp] [.int .u8 a', .int .u8 b', .int .u64 c', .int .u8 d', .int .u8 e', .int .u8 f', .nilp, .nilp] =
    some ((a == a') && (b == b') && (c == c') && (d == d') && (e == e') && (f == f')) := by
  simp only [eqA, eqFields, partOf, Bool.false_eq_true, if_false, List.getElem?_cons_zero, List.getElem?_cons_succ]
  simp only [eqCell, if_true]
  cases (a == a') <;> cases (b == b') <;> cases (c == c') <;> cases (d == d') <;> cases (e == e') <;> cases (f == f') <;> rfl

theorem rep2 : List.replicate 2 AObj.hole = [.hole, .hole] := rfl
section
variable {call : CallA} {G : Globals}
theorem same_nil (a b : T) (h : a = .nil ∨ b = .nil) : ∃ σ', evalFn call (drawA call G) G 0 i43 [a.av, b.av] [] = some (.ret (.bool (sameT a b)), σ') := by
  cases a <;> cases b <;> simp at h <;> exact ⟨_, by simp only [evalFn, params, List.length_cons, List.length_nil, Nat.reduceAdd, evalCode, evalOps, guardOk, evalOp, AX.ev, look, putE, val, evs, optEv, binA, intBin, wrapI, unA, callM, keepE_cons, keepE_nil, Nat.reduceEqDiff, if_true, if_false, reduceIte, Int.toNat_natCast, List.append_nil, List.nil_append, List.cons_append, decide_true, decide_false, bft, btf, btt, bff, Bool.false_eq_true, resultsA, oneOrTup, Option.map_some, Option.map_none, Bool.not_true, Bool.not_false, loadAt, storeAt, storeOf, partOf, List.getElem?_cons_zero, List.getElem?_cons_succ, List.set_cons_zero, List.set_cons_succ, AV.cells, AV.isCell, List.all_cons, List.all_nil, Bool.and_true, Bool.and_false, Bool.false_and, Bool.true_and, Bool.and_self, and_true, true_and, and_self, putAt, hasLabel, Bool.or_false, Bool.false_or, Bool.or_true, Bool.true_or, fillA, pickParts, pickSl, strBin, eqA, eqCell, ne_eq, not_true_eq_false, not_false_eq_true, Nat.reduceLeDiff, Nat.reduceLT, Nat.reduceMul, Nat.reduceSub, Nat.zero_add, Nat.add_zero, Option.bind_some, asNat, bounds2, reduceCtorEq, List.take_succ_cons, List.take_zero, List.drop_succ_cons, List.drop_zero, Nat.reduceBEq, List.take_nil, List.drop_nil, Int.reduceLE, Int.reduceLT, Int.reduceToNat, Int.toNat_zero, Int.reduceBEq, Int.le_refl, Nat.le_refl, b2s, srcRow, binA, beq_self_eq_true, bne_self_eq_false, minI, maxI, foldI, Bool.not_not, Int.lt_irrefl, gt_iff_lt, ge_iff_le, List.length_map, AV.undef, i43, T.av, sameT]; rfl⟩
theorem same_node (k o n t i x k' o' n' t' i' x' : Int) (l r l' r' : T) (hl : ∀ σ, callC call 43 [l.av, l'.av] σ = some (.ret (.bool (sameT l l')), σ)) (hr : ∀ σ, callC call 43 [r.av, r'.av] σ = some (.ret (.bool (sameT r r')), σ)) :
    ∃ σ', evalFn call (drawA call G) G 0 i43 [(T.node k o n t i x l r).av, (T.node k' o' n' t' i' x' l' r').av] [] = some (.ret (.bool (sameT (.node k o n t i x l r) (.node k' o' n' t' i' x' l' r'))), σ') := by
  have p1 := T.pure l
  have p2 := T.pure r
  have p3 := T.pure l'
  have p4 := T.pure r'
  have c1 := T.isCell l
  have c2 := T.isCell r
  have c3 := T.isCell l'
  have c4 := T.isCell r'
  have e := node_fields k o n t i x k' o' n' t' i' x'
  have es : sameT (.node k o n t i x l r) (.node k' o' n' t' i' x' l' r') = (((k == k') && (o == o') && (n == n') && (t == t') && (i == i') && (x == x')) && sameT l l' && sameT r r') := rfl
  rw [es]
  generalize ((k == k') && (o == o') && (n == n') && (t == t') && (i == i') && (x == x')) = q at e ⊢
  generalize sameT l l' = u at hl ⊢
  generalize sameT r r' = v at hr ⊢
  cases q <;> cases u <;> exact ⟨_, by simp only [evalFn, params, List.length_cons, List.length_nil, Nat.reduceAdd, evalCode, evalOps, guardOk, evalOp, AX.ev, look, putE, val, evs, optEv, binA, intBin, wrapI, unA, callM, keepE_cons, keepE_nil, Nat.reduceEqDiff, if_true, if_false, reduceIte, Int.toNat_natCast, List.append_nil, List.nil_append, List.cons_append, decide_true, decide_false, bft, btf, btt, bff, Bool.false_eq_true, resultsA, oneOrTup, Option.map_some, Option.map_none, Bool.not_true, Bool.not_false, loadAt, storeAt, storeOf, partOf, List.getElem?_cons_zero, List.getElem?_cons_succ, List.set_cons_zero, List.set_cons_succ, ic_bool, ce_bool, ic_int, ce_int, ic_str, ce_str, ic_flt, ce_flt, ic_cplx, ce_cplx, ic_nilp, ce_nilp, ic_ip, ce_ip, ic_bp, ce_bp, ic_sl, ce_sl, ic_bs, ce_bs, ic_nilm, ce_nilm, ic_map, ce_map, ic_fn, ce_fn, ic_nilf, ce_nilf, ic_iface, ce_iface, ic_nili, ce_nili, ic_agg, ce_agg, List.all_cons, List.all_nil, Bool.and_true, Bool.and_false, Bool.false_and, Bool.true_and, Bool.and_self, and_true, true_and, and_self, putAt, hasLabel, Bool.or_false, Bool.false_or, Bool.or_true, Bool.true_or, fillA, pickParts, pickSl, strBin, eqA, eqCell, ne_eq, not_true_eq_false, not_false_eq_true, Nat.reduceLeDiff, Nat.reduceLT, Nat.reduceMul, Nat.reduceSub, Nat.zero_add, Nat.add_zero, Option.bind_some, asNat, bounds2, reduceCtorEq, List.take_succ_cons, List.take_zero, List.drop_succ_cons, List.drop_zero, Nat.reduceBEq, List.take_nil, List.drop_nil, Int.reduceLE, Int.reduceLT, Int.reduceToNat, Int.toNat_zero, Int.reduceBEq, Int.le_refl, Nat.le_refl, b2s, srcRow, binA, beq_self_eq_true, bne_self_eq_false, minI, maxI, foldI, Bool.not_not, Int.lt_irrefl, gt_iff_lt, ge_iff_le, List.length_map, AV.undef, puress, AV.pure, strip, drawA, goD, stepG, stepD, bornD, readsD, births, AOp.births, Eff.app, pairsD, loudsD, loudD, conflict, apart, AOp.shares, List.getD_cons_succ, List.getD_cons_zero, List.contains_cons, List.contains_nil, Bool.not_or, Option.getD_some, Option.getD_none, Nat.reduceBNe, List.replicate_zero, List.append_nil, i43, T.av, hl, hr, p1, p2, p3, p4, c1, c2, c3, c4, e, rep2]; rfl⟩
end

noncomputable def sSame (n : Nat) : Spec := pureS (encS encTT (fun x => x.1.height < n) fun x => .bool (sameT x.1 x.2))
noncomputable def smA : CallA := orC (atF 43 (sSame 60)) txZ
theorem smA_sound : CallS Tryd.prog exG smA := by
  refine (CallS.encRec txZ_sound mixed exG_pure ok43 encTT (fun n x => x.1.height < n) _ (fun x h => by omega) (fun n x hx => ?_) 60).or txZ_sound
  obtain ⟨a, b⟩ := x
  refine ⟨encTT_bare _, 0, .bool (sameT a b), ?_⟩
  have self : Has (orC (atF 43 (sSame n)) txZ) 43 encTT (fun x => x.1.height < n) fun x => .bool (sameT x.1 x.2) := Has.self (fun _ _ _ _ h => by rw [encTT_inj h]) (fun _ _ => encTT_bare _) (fun _ _ => seen_flat rfl)
  cases a with
  | nil => obtain ⟨σ', h⟩ := same_nil (call := orC (atF 43 (sSame n)) txZ) (G := exG) .nil b (.inl rfl); exact ⟨σ', h, seen_flat rfl⟩
  | node k o m t i x l r =>
    cases b with
    | nil => obtain ⟨σ', h⟩ := same_nil (call := orC (atF 43 (sSame n)) txZ) (G := exG) (.node k o m t i x l r) .nil (.inr rfl); exact ⟨σ', h, seen_flat rfl⟩
    | node k' o' m' t' i' x' l' r' =>
      simp only [T.height] at hx
      obtain ⟨σ', h⟩ := same_node (call := orC (atF 43 (sSame n)) txZ) (G := exG) k o m t i x k' o' m' t' i' x' l r l' r' (fun σ => self (l, l') σ (by simp only; omega)) (fun σ => self (r, r') σ (by simp only; omega))
      exact ⟨σ', h, seen_flat rfl⟩
theorem smA_same : Has smA 43 encTT (fun x => x.1.height < 60) fun x => .bool (sameT x.1 x.2) :=
  Has.self (fun _ _ _ _ h => by rw [encTT_inj h]) (fun _ _ => encTT_bare _) (fun _ _ => seen_flat rfl)
theorem smA_may : Has smA 16 encT (fun t => t.wf ∧ t.height < 60) fun t => .bool (mayT t) := txZ_may.over (by decide)

def sameM (a b : T) : Bool := mayT a && mayT b && sameT a b
def okT (t : T) : Prop := t.wf ∧ t.height ≤ 20
noncomputable def smZ : CallA := orC (atF 14 (pureS (encS encTT (fun x => okT x.1 ∧ okT x.2) fun x => .bool (sameM x.1 x.2)))) smA
theorem smZ_sound : CallS Tryd.prog exG smZ := by
  refine (CallS.enc smA_sound mixed exG_pure ok14 encTT _ _ fun x hx => ⟨encTT_bare x, 0, .bool (sameM x.1 x.2), [], ?_, seen_flat rfl⟩).or smA_sound
  obtain ⟨a, b⟩ := x
  obtain ⟨ha, hb⟩ := hx
  have h1 : ∀ σ, callC smA 16 [a.av] σ = some (.ret (.bool (mayT a)), σ) := fun σ => smA_may a σ ⟨ha.1, by have := ha.2; simp only at this; omega⟩
  have h2 : ∀ σ, callC smA 16 [b.av] σ = some (.ret (.bool (mayT b)), σ) := fun σ => smA_may b σ ⟨hb.1, by have := hb.2; simp only at this; omega⟩
  have h3 : ∀ σ, callC smA 43 [a.av, b.av] σ = some (.ret (.bool (sameT a b)), σ) := fun σ => smA_same (a, b) σ (by have := ha.2; simp only at this ⊢; omega)
  unfold sameM
  generalize mayT a = p at h1 ⊢
  generalize mayT b = q at h2 ⊢
  generalize sameT a b = u at h3 ⊢
  cases p <;> cases q <;> simp only [evalFn, params, List.length_cons, List.length_nil, Nat.reduceAdd, evalCode, evalOps, guardOk, evalOp, AX.ev, look, putE, val, evs, optEv, binA, intBin, wrapI, unA, callM, keepE_cons, keepE_nil, Nat.reduceEqDiff, if_true, if_false, reduceIte, Int.toNat_natCast, List.append_nil, List.nil_append, List.cons_append, decide_true, decide_false, bft, btf, btt, bff, Bool.false_eq_true, resultsA, oneOrTup, Option.map_some, Option.map_none, Bool.not_true, Bool.not_false, loadAt, storeAt, storeOf, partOf, List.getElem?_cons_zero, List.getElem?_cons_succ, List.set_cons_zero, List.set_cons_succ, AV.cells, AV.isCell, List.all_cons, List.all_nil, Bool.and_true, Bool.and_false, Bool.false_and, Bool.true_and, Bool.and_self, and_true, true_and, and_self, putAt, hasLabel, Bool.or_false, Bool.false_or, Bool.or_true, Bool.true_or, fillA, pickParts, pickSl, strBin, eqA, eqCell, ne_eq, not_true_eq_false, not_false_eq_true, Nat.reduceLeDiff, Nat.reduceLT, Nat.reduceMul, Nat.reduceSub, Nat.zero_add, Nat.add_zero, Option.bind_some, asNat, bounds2, reduceCtorEq, List.take_succ_cons, List.take_zero, List.drop_succ_cons, List.drop_zero, Nat.reduceBEq, List.take_nil, List.drop_nil, Int.reduceLE, Int.reduceLT, Int.reduceToNat, Int.toNat_zero, Int.reduceBEq, Int.le_refl, Nat.le_refl, b2s, srcRow, binA, beq_self_eq_true, bne_self_eq_false, minI, maxI, foldI, Bool.not_not, Int.lt_irrefl, gt_iff_lt, ge_iff_le, List.length_map, AV.undef, i14, encTT, h1, h2, h3]
theorem smZ_same : Has smZ 14 encTT (fun x => okT x.1 ∧ okT x.2) fun x => .bool (sameM x.1 x.2) :=
  Has.self (fun _ _ _ _ h => by rw [encTT_inj h]) (fun _ _ => encTT_bare _) (fun _ _ => seen_flat rfl)
theorem smZ_text : Has smZ 15 encT (fun t => t.wf ∧ t.height ≤ 20) fun t => .str (textM t) := (txZ_text.over (by decide)).over (by decide)
theorem smZ_may : Has smZ 16 encT (fun t => t.wf ∧ t.height < 60) fun t => .bool (mayT t) := smA_may.over (by decide)
end Go.Pm
end

section
set_option linter.unusedSimpArgs false
set_option linter.unusedVariables false
set_option linter.unusedSectionVars false
/- Expressions as rows: plain data, plain laws. -/
set_option maxRecDepth 100000
set_option linter.unusedSimpArgs false
set_option linter.unusedVariables false
namespace Go.Pm

structure It where
  k : Int
  o : Int
  n : Int
  t : Int
  i : Int
  x : Int

def It.av (x : It) : AV := .agg [.int .u8 x.k, .int .u8 x.o, .int .u64 x.n, .int .u8 x.t, .int .u8 x.i, .int .u8 x.x]
theorem It.av_inj {a b : It} (h : a.av = b.av) : a = b := by
  cases a; cases b
  simp only [It.av, AV.agg.injEq, List.cons.injEq, AV.int.injEq, true_and, and_true] at h
  obtain ⟨rfl, rfl, rfl, rfl, rfl, rfl⟩ := h
  rfl
def It.wf (x : It) : Prop := u8 x.k ∧ u8 x.o ∧ u64 x.n ∧ u8 x.t ∧ u8 x.i ∧ u8 x.x

def leafB (x : It) : Bool :=
  if x.k = 0 then true
  else if x.k = 1 then decide (x.i < 8)
  else if x.k = 2 then decide (x.t < 4) && decide (x.i < 8)
  else if x.k = 3 then decide (97 ≤ x.x) && decide (x.x ≤ 122) && x.x != 114
  else false

def partsZ (x : It) : Int :=
  if x.k = 4 ∧ sidesZ x.o = 1 then 1 else if x.k = 5 ∧ sidesZ x.o = 2 then 2 else if leafB x then 0 else -1

/-- An expression that is made as it should. -/
inductive E where
  | leaf (x : It)
  | one (x : It) (a : E)
  | two (x : It) (a b : E)

def E.depth : E → Nat
  | .leaf _ => 1
  | .one _ a => a.depth + 1
  | .two _ a b => max a.depth b.depth + 1

def E.head : E → It
  | .leaf x => x
  | .one x _ => x
  | .two x _ _ => x

def parse : Nat → List It → Nat → Option (E × Nat)
  | 0, _, _ => none
  | n + 1, l, p =>
    match l[p]? with
    | none => none
    | some x =>
      if partsZ x = 1 then
        match parse n l (p + 1) with
        | some (a, q) => some (.one x a, q)
        | none => none
      else if partsZ x = 2 then
        match parse n l (p + 1) with
        | some (a, q) => match parse n l q with
          | some (b, r) => some (.two x a b, r)
          | none => none
        | none => none
      else if partsZ x = 0 then some (.leaf x, p + 1)
      else none

theorem parse_le : ∀ (n : Nat) (l : List It) (p : Nat) (e : E) (q : Nat), parse n l p = some (e, q) → p < q ∧ q ≤ l.length
  | 0, _, _, _, _, h => by simp [parse] at h
  | n + 1, l, p, e, q, h => by
    simp only [parse] at h
    split at h
    · cases h
    · rename_i x hx
      have hlt := (List.getElem?_eq_some_iff.1 hx).1
      split at h
      · split at h
        · rename_i a q' ha
          cases h
          have := parse_le n l (p + 1) a q ha
          omega
        · cases h
      · split at h
        · split at h
          · rename_i a q' ha
            split at h
            · rename_i b r hb
              cases h
              have := parse_le n l (p + 1) a q' ha
              have := parse_le n l q' b q hb
              omega
            · cases h
          · cases h
        · split at h
          · cases h; omega
          · cases h

theorem parse_fuel : ∀ (n m : Nat) (l : List It) (p : Nat), l.length < p + n → l.length < p + m → parse n l p = parse m l p
  | 0, m, l, p, hn, hm => by
    have : l[p]? = none := List.getElem?_eq_none (by omega)
    cases m with
    | zero => rfl
    | succ m => simp only [parse, this]
  | n + 1, 0, l, p, hn, hm => by
    have : l[p]? = none := List.getElem?_eq_none (by omega)
    simp only [parse, this]
  | n + 1, m + 1, l, p, hn, hm => by
    have h1 := parse_fuel n m l (p + 1) (by omega) (by omega)
    simp only [parse, h1]
    split
    · rfl
    · split
      · rfl
      · split
        · split
          · rename_i a q ha
            have := parse_le m l (p + 1) a q ha
            rw [parse_fuel n m l q (by omega) (by omega)]
          · rfl
        · rfl

/-- The expression at a place. -/
def exprAt (l : List It) (p : Nat) : Option (E × Nat) := parse (l.length + 1) l p

theorem exprAt_eq {n : Nat} {l : List It} {p : Nat} (h : l.length < p + n) : parse n l p = exprAt l p := parse_fuel _ _ _ _ h (by omega)

theorem exprAt_none {l : List It} {p : Nat} (h : l[p]? = none) : exprAt l p = none := by
  unfold exprAt; simp only [parse, h]
theorem exprAt_some {l : List It} {p : Nat} {x : It} (h : l[p]? = some x) : exprAt l p =
    if partsZ x = 1 then
      match exprAt l (p + 1) with
      | some (a, q) => some (.one x a, q)
      | none => none
    else if partsZ x = 2 then
      match exprAt l (p + 1) with
      | some (a, q) => match exprAt l q with
        | some (b, r) => some (.two x a b, r)
        | none => none
      | none => none
    else if partsZ x = 0 then some (.leaf x, p + 1)
    else none := by
  have hlt := (List.getElem?_eq_some_iff.1 h).1
  have e1 : parse l.length l (p + 1) = exprAt l (p + 1) := exprAt_eq (by omega)
  conv => lhs; unfold exprAt
  simp only [parse, h, e1]
  split
  · rfl
  · split
    · split
      · rename_i a q ha
        have := parse_le _ _ _ _ _ ha
        rw [exprAt_eq (n := l.length) (by omega)]
      · rfl
    · rfl
theorem exprAt_le {l : List It} {p : Nat} {e : E} {q : Nat} (h : exprAt l p = some (e, q)) : p < q ∧ q ≤ l.length := parse_le _ _ _ _ _ h

/-- Where the expression at a place ends, and how deep it is. -/
def endZ (l : List It) (p : Nat) : Int × Nat :=
  match exprAt l p with
  | some (e, q) => (q, e.depth)
  | none => (-1, 0)

/-! ### Trees of rows -/

def ofT : Nat → List It → Nat → T × Nat
  | 0, _, p => (.nil, p)
  | n + 1, l, p =>
    match l[p]? with
    | none => (.nil, p)
    | some x =>
      if x.k = 0 then (.node 0 0 x.n 0 0 0 .nil .nil, p + 1)
      else if x.k = 1 then (.node 1 0 0 0 x.i 0 .nil .nil, p + 1)
      else if x.k = 2 then (.node 2 0 0 x.t x.i 0 .nil .nil, p + 1)
      else if x.k = 3 then (.node 3 0 0 0 0 x.x .nil .nil, p + 1)
      else if x.k = 4 then (.node 4 x.o 0 0 0 0 (ofT n l (p + 1)).1 .nil, (ofT n l (p + 1)).2)
      else if x.k = 5 then (.node 5 x.o 0 0 0 0 (ofT n l (p + 1)).1 (ofT n l (ofT n l (p + 1)).2).1, (ofT n l (ofT n l (p + 1)).2).2)
      else (.node x.k 0 0 0 0 0 .nil .nil, p + 1)

def leafT (x : It) : T :=
  if x.k = 0 then .node 0 0 x.n 0 0 0 .nil .nil
  else if x.k = 1 then .node 1 0 0 0 x.i 0 .nil .nil
  else if x.k = 2 then .node 2 0 0 x.t x.i 0 .nil .nil
  else .node 3 0 0 0 0 x.x .nil .nil
def E.tree : E → T
  | .leaf x => leafT x
  | .one x a => .node 4 x.o 0 0 0 0 a.tree .nil
  | .two x a b => .node 5 x.o 0 0 0 0 a.tree b.tree

theorem ofT_le : ∀ (n : Nat) (l : List It) (p : Nat), p ≤ l.length → p ≤ (ofT n l p).2 ∧ (ofT n l p).2 ≤ l.length
  | 0, l, p, h => by simp only [ofT]; omega
  | n + 1, l, p, h => by
    simp only [ofT]
    split
    · simp only; omega
    · rename_i x hx
      have hlt := (List.getElem?_eq_some_iff.1 hx).1
      have h1 := ofT_le n l (p + 1) (by omega)
      have h2 := ofT_le n l (ofT n l (p + 1)).2 (by omega)
      repeat' split
      all_goals (simp only; omega)

theorem depthT_leaf (n : Nat) (x : It) : depthT (n + 1) (leafT x) = 1 := by
  unfold leafT
  repeat' split
  all_goals (cases n <;> rfl)

theorem depthT_tree : ∀ (e : E) (n : Nat), depthT n e.tree = min n e.depth
  | .leaf x, 0 => by simp [depthT]
  | .leaf x, n + 1 => by rw [E.tree, depthT_leaf]; simp only [E.depth]; omega
  | .one x a, 0 => by simp [depthT]
  | .one x a, n + 1 => by
    have h0 : depthT n T.nil = 0 := by cases n <;> rfl
    simp only [E.tree, depthT, depthT_tree a n, E.depth, h0]; omega
  | .two x a b, 0 => by simp [depthT]
  | .two x a b, n + 1 => by
    simp only [E.tree, depthT, depthT_tree a n, depthT_tree b n, E.depth]; omega

theorem parts_one {x : It} (h : partsZ x = 1) : x.k = 4 ∧ sidesZ x.o = 1 := by
  unfold partsZ at h
  split at h
  · assumption
  · split at h
    · simp at h
    · split at h <;> simp at h
theorem parts_two {x : It} (h : partsZ x = 2) : x.k = 5 ∧ sidesZ x.o = 2 := by
  unfold partsZ at h
  split at h
  · simp at h
  · split at h
    · assumption
    · split at h <;> simp at h
theorem parts_zero {x : It} (h : partsZ x = 0) : leafB x = true ∧ (x.k = 0 ∨ x.k = 1 ∨ x.k = 2 ∨ x.k = 3) := by
  unfold partsZ at h
  split at h
  · simp at h
  · split at h
    · simp at h
    · split at h
      · rename_i hl
        refine ⟨hl, ?_⟩
        unfold leafB at hl
        by_cases h0 : x.k = 0
        · exact .inl h0
        by_cases h1 : x.k = 1
        · exact .inr (.inl h1)
        by_cases h2 : x.k = 2
        · exact .inr (.inr (.inl h2))
        by_cases h3 : x.k = 3
        · exact .inr (.inr (.inr h3))
        rw [if_neg h0, if_neg h1, if_neg h2, if_neg h3] at hl
        cases hl
      · simp at h

theorem good_leaf {x : It} (h : partsZ x = 0) : goodT (leafT x) = true := by
  obtain ⟨hl, hk⟩ := parts_zero h
  unfold leafB at hl
  unfold leafT
  rcases hk with hk | hk | hk | hk <;> simp [hk] at hl ⊢ <;> simp [goodT, plainOk, zeroB, T.isNil, hl]

/-- What is parsed is what its tree is made of, if it is not too deep. -/
theorem of_parse : ∀ (m : Nat) (l : List It) (p : Nat) (e : E) (q : Nat), exprAt l p = some (e, q) → e.depth ≤ m → ofT m l p = (e.tree, q)
  | 0, l, p, e, q, h, hd => by cases e <;> simp [E.depth] at hd
  | m + 1, l, p, e, q, h, hd => by
    cases hx : l[p]? with
    | none => rw [exprAt_none hx] at h; cases h
    | some x =>
      rw [exprAt_some hx] at h
      split at h
      · rename_i h1
        obtain ⟨hk, _⟩ := parts_one h1
        split at h
        · rename_i a q' ha
          cases h
          simp only [E.depth] at hd
          have := of_parse m l (p + 1) a q ha (by omega)
          simp only [ofT, hx, hk, this, E.tree]
          rfl
        · cases h
      · split at h
        · rename_i h2
          obtain ⟨hk, _⟩ := parts_two h2
          split at h
          · rename_i a q' ha
            split at h
            · rename_i b r hb
              cases h
              simp only [E.depth] at hd
              have t1 := of_parse m l (p + 1) a q' ha (by omega)
              have t2 := of_parse m l q' b q hb (by omega)
              simp only [ofT, hx, hk, t1, t2, E.tree]
              rfl
            · cases h
          · cases h
        · split at h
          · rename_i h0
            cases h
            obtain ⟨_, hk⟩ := parts_zero h0
            simp only [ofT, hx, E.tree, leafT]
            rcases hk with hk | hk | hk | hk <;> simp [hk]
          · cases h

theorem tree_good : ∀ (n : Nat) (l : List It) (p : Nat) (e : E) (q : Nat), parse n l p = some (e, q) → goodT e.tree = true
  | 0, _, _, _, _, h => by simp [parse] at h
  | n + 1, l, p, e, q, h => by
    simp only [parse] at h
    split at h
    · cases h
    · rename_i x hx
      split at h
      · rename_i h1
        obtain ⟨hk, hs⟩ := parts_one h1
        split at h
        · rename_i a q' ha
          cases h
          have := tree_good n l (p + 1) a q ha
          simp [E.tree, goodT, plainOk, zeroB, T.isNil, hs, this]
        · cases h
      · split at h
        · rename_i h2
          obtain ⟨hk, hs⟩ := parts_two h2
          split at h
          · rename_i a q' ha
            split at h
            · rename_i b r hb
              cases h
              have t1 := tree_good n l (p + 1) a q' ha
              have t2 := tree_good n l q' b q hb
              simp [E.tree, goodT, plainOk, zeroB, T.isNil, hs, t1, t2]
            · cases h
          · cases h
        · split at h
          · rename_i h0
            cases h
            exact good_leaf h0
          · cases h

/-- A tree that may be was made of an expression. -/
theorem of_good : ∀ (m : Nat) (l : List It) (p : Nat), goodT (ofT m l p).1 = true → ∃ e q, exprAt l p = some (e, q) ∧ ofT m l p = (e.tree, q) ∧ e.depth ≤ m
  | 0, l, p, h => by simp [ofT, goodT] at h
  | m + 1, l, p, h => by
    cases hx : l[p]? with
    | none => simp [ofT, hx, goodT] at h
    | some x =>
      have leaf : partsZ x = 0 → ofT (m + 1) l p = (leafT x, p + 1) → ∃ e q, exprAt l p = some (e, q) ∧ ofT (m + 1) l p = (e.tree, q) ∧ e.depth ≤ m + 1 := fun h0 h1 =>
        ⟨.leaf x, p + 1, by rw [exprAt_some hx, if_neg (by rw [h0]; decide), if_neg (by rw [h0]; decide), if_pos h0], h1, by simp [E.depth]⟩
      have np4 : ¬ x.k = 4 → ¬ partsZ x = 1 := fun h4 h => h4 (parts_one h).1
      have np5 : ¬ x.k = 5 → ¬ partsZ x = 2 := fun h5 h => h5 (parts_two h).1
      by_cases h0 : x.k = 0
      · refine leaf ?_ (by simp [ofT, hx, leafT, h0])
        simp [partsZ, leafB, h0]
      by_cases h1 : x.k = 1
      · refine leaf ?_ (by simp [ofT, hx, leafT, h1])
        simp [ofT, hx, h1, goodT, plainOk, zeroB, T.isNil] at h
        simp [partsZ, leafB, h1, h]
      by_cases h2 : x.k = 2
      · refine leaf ?_ (by simp [ofT, hx, leafT, h2])
        simp [ofT, hx, h2, goodT, plainOk, zeroB, T.isNil] at h
        simp [partsZ, leafB, h2, h]
      by_cases h3 : x.k = 3
      · refine leaf ?_ (by simp [ofT, hx, leafT, h3])
        simp [ofT, hx, h3, goodT, plainOk, zeroB, T.isNil] at h
        simp [partsZ, leafB, h3, h]
      by_cases h4 : x.k = 4
      · have e1 : ofT (m + 1) l p = (.node 4 x.o 0 0 0 0 (ofT m l (p + 1)).1 .nil, (ofT m l (p + 1)).2) := by simp [ofT, hx, h4]
        rw [e1] at h ⊢
        simp [goodT, plainOk, zeroB, T.isNil] at h
        obtain ⟨a, q, k1, k2, k3⟩ := of_good m l (p + 1) h.2
        refine ⟨.one x a, q, ?_, by rw [k2]; rfl, by simp only [E.depth]; omega⟩
        rw [exprAt_some hx, if_pos (by simp [partsZ, h4, h.1]), k1]
      by_cases h5 : x.k = 5
      · have e1 : ofT (m + 1) l p = (.node 5 x.o 0 0 0 0 (ofT m l (p + 1)).1 (ofT m l (ofT m l (p + 1)).2).1, (ofT m l (ofT m l (p + 1)).2).2) := by simp [ofT, hx, h5]
        rw [e1] at h ⊢
        simp [goodT, plainOk, zeroB, T.isNil] at h
        obtain ⟨⟨hs, ha⟩, hb⟩ := h
        obtain ⟨a, q, k1, k2, k3⟩ := of_good m l (p + 1) ha
        rw [k2] at hb ⊢
        obtain ⟨b, r, k4, k5, k6⟩ := of_good m l q hb
        refine ⟨.two x a b, r, ?_, by rw [k5]; rfl, by simp only [E.depth]; omega⟩
        rw [exprAt_some hx, if_neg (np4 h4), if_pos (by simp [partsZ, h5, hs]), k1]
        simp only [k4]
      · exfalso
        simp [ofT, hx, h0, h1, h2, h3, h4, h5, goodT] at h

/-- Whether the tree of a row may be. -/
theorem may_of (l : List It) : mayT (ofT 20 l 0).1 = (match exprAt l 0 with | some (e, _) => decide (e.depth ≤ 12) | none => false) := by
  cases h : exprAt l 0 with
  | none =>
    cases hg : goodT (ofT 20 l 0).1 with
    | false => simp [mayT, hg]
    | true =>
      obtain ⟨e, q, k, _⟩ := of_good 20 l 0 hg
      rw [h] at k; cases k
  | some r =>
    obtain ⟨e, q⟩ := r
    simp only
    by_cases hd : e.depth ≤ 12
    · have := of_parse 20 l 0 e q h (by omega)
      rw [this]
      have hg := tree_good _ l 0 e q h
      simp only [mayT, hg, depthT_tree, hd, decide_true, Bool.and_true]
      exact decide_eq_true (by omega)
    · rw [decide_eq_false hd]
      cases hg : goodT (ofT 20 l 0).1 with
      | false => simp [mayT, hg]
      | true =>
        obtain ⟨e', q', k, k2, _⟩ := of_good 20 l 0 hg
        rw [h] at k
        cases k
        rw [k2]
        simp only [mayT, depthT_tree]
        rw [decide_eq_false (by omega)]
        rfl
end Go.Pm
end

section
set_option linter.unusedSimpArgs false
set_option linter.unusedVariables false
set_option linter.unusedSectionVars false
/- The document's rows: what an item may be, how many parts it has, whether two are alike. -/
set_option maxRecDepth 100000
set_option linter.unusedSimpArgs false
set_option linter.unusedVariables false
namespace Go.Pm
open Go.Proofs Go.Proofs.YtehcekeccnlboaaDoor

def encIt (x : It) : List AV := [x.av]
theorem encIt_inj {a b : It} (h : encIt a = encIt b) : a = b := by
  simp only [encIt, List.cons.injEq, and_true] at h; exact It.av_inj h
def encII (x : It × It) : List AV := [x.1.av, x.2.av]
theorem encII_inj {a b : It × It} (h : encII a = encII b) : a = b := by
  simp only [encII, List.cons.injEq, and_true] at h; exact Prod.ext (It.av_inj h.1) (It.av_inj h.2)

/-- Two items, as far as their kinds say. -/
def alikeB (a b : It) : Bool :=
  if a.k = b.k then
    if a.k = 0 then a.n == b.n else if a.k = 1 then a.i == b.i else if a.k = 2 then (a.t == b.t) && (a.i == b.i) else if a.k = 3 then a.x == b.x else a.o == b.o
  else false

theorem side_tab : (List.range 256).all (fun o => isNum (sidesZ o) (runA irOf libP exG 60 95 [.int .u8 o] [])) = true := by kernel_rfl
theorem side_sound : CallS Tryd.prog exG (atF 95 sSides) := run_tab (fun _ => rfl) (fun _ => rfl) fun o ho => by
  obtain ⟨n, hn, rfl⟩ := u8_nat ho
  exact isNum_some (List.all_eq_true.1 side_tab n (by simpa using hn))

section
variable {call : CallA} {G : Globals}
theorem leaf_spec (x : It) : ∃ σ', evalFn call (drawA call G) G 0 i96 (encIt x) [] = some (.ret (.bool (leafB x)), σ') := by
  obtain ⟨k, o, n, t, i, x⟩ := x
  unfold leafB
  simp only
  by_cases h0 : k = 0
  · subst h0; rw [if_pos rfl]; exact ⟨_, by simp only [evalFn, params, List.length_cons, List.length_nil, Nat.reduceAdd, evalCode, evalOps, guardOk, evalOp, AX.ev, look, putE, val, evs, optEv, binA, intBin, wrapI, unA, callM, keepE_cons, keepE_nil, Nat.reduceEqDiff, if_true, if_false, reduceIte, Int.toNat_natCast, List.append_nil, List.nil_append, List.cons_append, decide_true, decide_false, bft, btf, btt, bff, Bool.false_eq_true, resultsA, oneOrTup, Option.map_some, Option.map_none, Bool.not_true, Bool.not_false, loadAt, storeAt, storeOf, partOf, List.getElem?_cons_zero, List.getElem?_cons_succ, List.set_cons_zero, List.set_cons_succ, AV.cells, AV.isCell, List.all_cons, List.all_nil, Bool.and_true, Bool.and_false, Bool.false_and, Bool.true_and, Bool.and_self, and_true, true_and, and_self, putAt, hasLabel, Bool.or_false, Bool.false_or, Bool.or_true, Bool.true_or, fillA, pickParts, pickSl, strBin, eqA, eqCell, ne_eq, not_true_eq_false, not_false_eq_true, Nat.reduceLeDiff, Nat.reduceLT, Nat.reduceMul, Nat.reduceSub, Nat.zero_add, Nat.add_zero, Option.bind_some, asNat, bounds2, reduceCtorEq, List.take_succ_cons, List.take_zero, List.drop_succ_cons, List.drop_zero, Nat.reduceBEq, List.take_nil, List.drop_nil, Int.reduceLE, Int.reduceLT, Int.reduceToNat, Int.toNat_zero, Int.reduceBEq, Int.le_refl, Nat.le_refl, b2s, srcRow, binA, beq_self_eq_true, bne_self_eq_false, minI, maxI, foldI, Bool.not_not, Int.lt_irrefl, gt_iff_lt, ge_iff_le, List.length_map, AV.undef, i96, encIt, It.av]; rfl⟩
  rw [if_neg h0]
  by_cases h1 : k = 1
  · subst h1; rw [if_pos rfl]; exact ⟨_, by simp only [evalFn, params, List.length_cons, List.length_nil, Nat.reduceAdd, evalCode, evalOps, guardOk, evalOp, AX.ev, look, putE, val, evs, optEv, binA, intBin, wrapI, unA, callM, keepE_cons, keepE_nil, Nat.reduceEqDiff, if_true, if_false, reduceIte, Int.toNat_natCast, List.append_nil, List.nil_append, List.cons_append, decide_true, decide_false, bft, btf, btt, bff, Bool.false_eq_true, resultsA, oneOrTup, Option.map_some, Option.map_none, Bool.not_true, Bool.not_false, loadAt, storeAt, storeOf, partOf, List.getElem?_cons_zero, List.getElem?_cons_succ, List.set_cons_zero, List.set_cons_succ, AV.cells, AV.isCell, List.all_cons, List.all_nil, Bool.and_true, Bool.and_false, Bool.false_and, Bool.true_and, Bool.and_self, and_true, true_and, and_self, putAt, hasLabel, Bool.or_false, Bool.false_or, Bool.or_true, Bool.true_or, fillA, pickParts, pickSl, strBin, eqA, eqCell, ne_eq, not_true_eq_false, not_false_eq_true, Nat.reduceLeDiff, Nat.reduceLT, Nat.reduceMul, Nat.reduceSub, Nat.zero_add, Nat.add_zero, Option.bind_some, asNat, bounds2, reduceCtorEq, List.take_succ_cons, List.take_zero, List.drop_succ_cons, List.drop_zero, Nat.reduceBEq, List.take_nil, List.drop_nil, Int.reduceLE, Int.reduceLT, Int.reduceToNat, Int.toNat_zero, Int.reduceBEq, Int.le_refl, Nat.le_refl, b2s, srcRow, binA, beq_self_eq_true, bne_self_eq_false, minI, maxI, foldI, Bool.not_not, Int.lt_irrefl, gt_iff_lt, ge_iff_le, List.length_map, AV.undef, i96, encIt, It.av]; rfl⟩
  rw [if_neg h1]
  by_cases h2 : k = 2
  · subst h2; rw [if_pos rfl]
    by_cases a : t < 4 <;> by_cases b : i < 8 <;> exact ⟨_, by simp only [evalFn, params, List.length_cons, List.length_nil, Nat.reduceAdd, evalCode, evalOps, guardOk, evalOp, AX.ev, look, putE, val, evs, optEv, binA, intBin, wrapI, unA, callM, keepE_cons, keepE_nil, Nat.reduceEqDiff, if_true, if_false, reduceIte, Int.toNat_natCast, List.append_nil, List.nil_append, List.cons_append, decide_true, decide_false, bft, btf, btt, bff, Bool.false_eq_true, resultsA, oneOrTup, Option.map_some, Option.map_none, Bool.not_true, Bool.not_false, loadAt, storeAt, storeOf, partOf, List.getElem?_cons_zero, List.getElem?_cons_succ, List.set_cons_zero, List.set_cons_succ, AV.cells, AV.isCell, List.all_cons, List.all_nil, Bool.and_true, Bool.and_false, Bool.false_and, Bool.true_and, Bool.and_self, and_true, true_and, and_self, putAt, hasLabel, Bool.or_false, Bool.false_or, Bool.or_true, Bool.true_or, fillA, pickParts, pickSl, strBin, eqA, eqCell, ne_eq, not_true_eq_false, not_false_eq_true, Nat.reduceLeDiff, Nat.reduceLT, Nat.reduceMul, Nat.reduceSub, Nat.zero_add, Nat.add_zero, Option.bind_some, asNat, bounds2, reduceCtorEq, List.take_succ_cons, List.take_zero, List.drop_succ_cons, List.drop_zero, Nat.reduceBEq, List.take_nil, List.drop_nil, Int.reduceLE, Int.reduceLT, Int.reduceToNat, Int.toNat_zero, Int.reduceBEq, Int.le_refl, Nat.le_refl, b2s, srcRow, binA, beq_self_eq_true, bne_self_eq_false, minI, maxI, foldI, Bool.not_not, Int.lt_irrefl, gt_iff_lt, ge_iff_le, List.length_map, AV.undef, i96, encIt, It.av, a, b]; rfl⟩
  rw [if_neg h2]
  by_cases h3 : k = 3
  · subst h3; rw [if_pos rfl]
    by_cases a : 97 ≤ x <;> by_cases b : x ≤ 122 <;> exact ⟨_, by simp only [evalFn, params, List.length_cons, List.length_nil, Nat.reduceAdd, evalCode, evalOps, guardOk, evalOp, AX.ev, look, putE, val, evs, optEv, binA, intBin, wrapI, unA, callM, keepE_cons, keepE_nil, Nat.reduceEqDiff, if_true, if_false, reduceIte, Int.toNat_natCast, List.append_nil, List.nil_append, List.cons_append, decide_true, decide_false, bft, btf, btt, bff, Bool.false_eq_true, resultsA, oneOrTup, Option.map_some, Option.map_none, Bool.not_true, Bool.not_false, loadAt, storeAt, storeOf, partOf, List.getElem?_cons_zero, List.getElem?_cons_succ, List.set_cons_zero, List.set_cons_succ, AV.cells, AV.isCell, List.all_cons, List.all_nil, Bool.and_true, Bool.and_false, Bool.false_and, Bool.true_and, Bool.and_self, and_true, true_and, and_self, putAt, hasLabel, Bool.or_false, Bool.false_or, Bool.or_true, Bool.true_or, fillA, pickParts, pickSl, strBin, eqA, eqCell, ne_eq, not_true_eq_false, not_false_eq_true, Nat.reduceLeDiff, Nat.reduceLT, Nat.reduceMul, Nat.reduceSub, Nat.zero_add, Nat.add_zero, Option.bind_some, asNat, bounds2, reduceCtorEq, List.take_succ_cons, List.take_zero, List.drop_succ_cons, List.drop_zero, Nat.reduceBEq, List.take_nil, List.drop_nil, Int.reduceLE, Int.reduceLT, Int.reduceToNat, Int.toNat_zero, Int.reduceBEq, Int.le_refl, Nat.le_refl, b2s, srcRow, binA, beq_self_eq_true, bne_self_eq_false, minI, maxI, foldI, Bool.not_not, Int.lt_irrefl, gt_iff_lt, ge_iff_le, List.length_map, AV.undef, i96, encIt, It.av, a, b]; rfl⟩
  rw [if_neg h3]
  exact ⟨_, by simp only [evalFn, params, List.length_cons, List.length_nil, Nat.reduceAdd, evalCode, evalOps, guardOk, evalOp, AX.ev, look, putE, val, evs, optEv, binA, intBin, wrapI, unA, callM, keepE_cons, keepE_nil, Nat.reduceEqDiff, if_true, if_false, reduceIte, Int.toNat_natCast, List.append_nil, List.nil_append, List.cons_append, decide_true, decide_false, bft, btf, btt, bff, Bool.false_eq_true, resultsA, oneOrTup, Option.map_some, Option.map_none, Bool.not_true, Bool.not_false, loadAt, storeAt, storeOf, partOf, List.getElem?_cons_zero, List.getElem?_cons_succ, List.set_cons_zero, List.set_cons_succ, AV.cells, AV.isCell, List.all_cons, List.all_nil, Bool.and_true, Bool.and_false, Bool.false_and, Bool.true_and, Bool.and_self, and_true, true_and, and_self, putAt, hasLabel, Bool.or_false, Bool.false_or, Bool.or_true, Bool.true_or, fillA, pickParts, pickSl, strBin, eqA, eqCell, ne_eq, not_true_eq_false, not_false_eq_true, Nat.reduceLeDiff, Nat.reduceLT, Nat.reduceMul, Nat.reduceSub, Nat.zero_add, Nat.add_zero, Option.bind_some, asNat, bounds2, reduceCtorEq, List.take_succ_cons, List.take_zero, List.drop_succ_cons, List.drop_zero, Nat.reduceBEq, List.take_nil, List.drop_nil, Int.reduceLE, Int.reduceLT, Int.reduceToNat, Int.toNat_zero, Int.reduceBEq, Int.le_refl, Nat.le_refl, b2s, srcRow, binA, beq_self_eq_true, bne_self_eq_false, minI, maxI, foldI, Bool.not_not, Int.lt_irrefl, gt_iff_lt, ge_iff_le, List.length_map, AV.undef, i96, encIt, It.av, ne_int h0, ne_int h1, ne_int h2, ne_int h3]; rfl⟩

theorem alike_spec (x : It × It) : ∃ σ', evalFn call (drawA call G) G 0 i13 (encII x) [] = some (.ret (.bool (alikeB x.1 x.2)), σ') := by
  obtain ⟨⟨k, o, n, t, i, x⟩, ⟨k', o', n', t', i', x'⟩⟩ := x
  unfold alikeB
  simp only
  by_cases hk : ¬ k = k'
  · rw [if_neg hk]
    have e : (k != k') = true := by simp [hk]
    exact ⟨_, by simp only [evalFn, params, List.length_cons, List.length_nil, Nat.reduceAdd, evalCode, evalOps, guardOk, evalOp, AX.ev, look, putE, val, evs, optEv, binA, intBin, wrapI, unA, callM, keepE_cons, keepE_nil, Nat.reduceEqDiff, if_true, if_false, reduceIte, Int.toNat_natCast, List.append_nil, List.nil_append, List.cons_append, decide_true, decide_false, bft, btf, btt, bff, Bool.false_eq_true, resultsA, oneOrTup, Option.map_some, Option.map_none, Bool.not_true, Bool.not_false, loadAt, storeAt, storeOf, partOf, List.getElem?_cons_zero, List.getElem?_cons_succ, List.set_cons_zero, List.set_cons_succ, AV.cells, AV.isCell, List.all_cons, List.all_nil, Bool.and_true, Bool.and_false, Bool.false_and, Bool.true_and, Bool.and_self, and_true, true_and, and_self, putAt, hasLabel, Bool.or_false, Bool.false_or, Bool.or_true, Bool.true_or, fillA, pickParts, pickSl, strBin, eqA, eqCell, ne_eq, not_true_eq_false, not_false_eq_true, Nat.reduceLeDiff, Nat.reduceLT, Nat.reduceMul, Nat.reduceSub, Nat.zero_add, Nat.add_zero, Option.bind_some, asNat, bounds2, reduceCtorEq, List.take_succ_cons, List.take_zero, List.drop_succ_cons, List.drop_zero, Nat.reduceBEq, List.take_nil, List.drop_nil, Int.reduceLE, Int.reduceLT, Int.reduceToNat, Int.toNat_zero, Int.reduceBEq, Int.le_refl, Nat.le_refl, b2s, srcRow, binA, beq_self_eq_true, bne_self_eq_false, minI, maxI, foldI, Bool.not_not, Int.lt_irrefl, gt_iff_lt, ge_iff_le, List.length_map, AV.undef, i13, encII, It.av, e]; rfl⟩
  have hk : k = k' := Decidable.not_not.1 hk
  rw [if_pos hk]
  subst hk
  by_cases h0 : k = 0
  · subst h0; rw [if_pos rfl]; exact ⟨_, by simp only [evalFn, params, List.length_cons, List.length_nil, Nat.reduceAdd, evalCode, evalOps, guardOk, evalOp, AX.ev, look, putE, val, evs, optEv, binA, intBin, wrapI, unA, callM, keepE_cons, keepE_nil, Nat.reduceEqDiff, if_true, if_false, reduceIte, Int.toNat_natCast, List.append_nil, List.nil_append, List.cons_append, decide_true, decide_false, bft, btf, btt, bff, Bool.false_eq_true, resultsA, oneOrTup, Option.map_some, Option.map_none, Bool.not_true, Bool.not_false, loadAt, storeAt, storeOf, partOf, List.getElem?_cons_zero, List.getElem?_cons_succ, List.set_cons_zero, List.set_cons_succ, AV.cells, AV.isCell, List.all_cons, List.all_nil, Bool.and_true, Bool.and_false, Bool.false_and, Bool.true_and, Bool.and_self, and_true, true_and, and_self, putAt, hasLabel, Bool.or_false, Bool.false_or, Bool.or_true, Bool.true_or, fillA, pickParts, pickSl, strBin, eqA, eqCell, ne_eq, not_true_eq_false, not_false_eq_true, Nat.reduceLeDiff, Nat.reduceLT, Nat.reduceMul, Nat.reduceSub, Nat.zero_add, Nat.add_zero, Option.bind_some, asNat, bounds2, reduceCtorEq, List.take_succ_cons, List.take_zero, List.drop_succ_cons, List.drop_zero, Nat.reduceBEq, List.take_nil, List.drop_nil, Int.reduceLE, Int.reduceLT, Int.reduceToNat, Int.toNat_zero, Int.reduceBEq, Int.le_refl, Nat.le_refl, b2s, srcRow, binA, beq_self_eq_true, bne_self_eq_false, minI, maxI, foldI, Bool.not_not, Int.lt_irrefl, gt_iff_lt, ge_iff_le, List.length_map, AV.undef, i13, encII, It.av]; rfl⟩
  rw [if_neg h0]
  by_cases h1 : k = 1
  · subst h1; rw [if_pos rfl]; exact ⟨_, by simp only [evalFn, params, List.length_cons, List.length_nil, Nat.reduceAdd, evalCode, evalOps, guardOk, evalOp, AX.ev, look, putE, val, evs, optEv, binA, intBin, wrapI, unA, callM, keepE_cons, keepE_nil, Nat.reduceEqDiff, if_true, if_false, reduceIte, Int.toNat_natCast, List.append_nil, List.nil_append, List.cons_append, decide_true, decide_false, bft, btf, btt, bff, Bool.false_eq_true, resultsA, oneOrTup, Option.map_some, Option.map_none, Bool.not_true, Bool.not_false, loadAt, storeAt, storeOf, partOf, List.getElem?_cons_zero, List.getElem?_cons_succ, List.set_cons_zero, List.set_cons_succ, AV.cells, AV.isCell, List.all_cons, List.all_nil, Bool.and_true, Bool.and_false, Bool.false_and, Bool.true_and, Bool.and_self, and_true, true_and, and_self, putAt, hasLabel, Bool.or_false, Bool.false_or, Bool.or_true, Bool.true_or, fillA, pickParts, pickSl, strBin, eqA, eqCell, ne_eq, not_true_eq_false, not_false_eq_true, Nat.reduceLeDiff, Nat.reduceLT, Nat.reduceMul, Nat.reduceSub, Nat.zero_add, Nat.add_zero, Option.bind_some, asNat, bounds2, reduceCtorEq, List.take_succ_cons, List.take_zero, List.drop_succ_cons, List.drop_zero, Nat.reduceBEq, List.take_nil, List.drop_nil, Int.reduceLE, Int.reduceLT, Int.reduceToNat, Int.toNat_zero, Int.reduceBEq, Int.le_refl, Nat.le_refl, b2s, srcRow, binA, beq_self_eq_true, bne_self_eq_false, minI, maxI, foldI, Bool.not_not, Int.lt_irrefl, gt_iff_lt, ge_iff_le, List.length_map, AV.undef, i13, encII, It.av]; rfl⟩
  rw [if_neg h1]
  by_cases h2 : k = 2
  · subst h2; rw [if_pos rfl]
    cases a : (t == t') <;> cases b : (i == i') <;> exact ⟨_, by simp only [evalFn, params, List.length_cons, List.length_nil, Nat.reduceAdd, evalCode, evalOps, guardOk, evalOp, AX.ev, look, putE, val, evs, optEv, binA, intBin, wrapI, unA, callM, keepE_cons, keepE_nil, Nat.reduceEqDiff, if_true, if_false, reduceIte, Int.toNat_natCast, List.append_nil, List.nil_append, List.cons_append, decide_true, decide_false, bft, btf, btt, bff, Bool.false_eq_true, resultsA, oneOrTup, Option.map_some, Option.map_none, Bool.not_true, Bool.not_false, loadAt, storeAt, storeOf, partOf, List.getElem?_cons_zero, List.getElem?_cons_succ, List.set_cons_zero, List.set_cons_succ, AV.cells, AV.isCell, List.all_cons, List.all_nil, Bool.and_true, Bool.and_false, Bool.false_and, Bool.true_and, Bool.and_self, and_true, true_and, and_self, putAt, hasLabel, Bool.or_false, Bool.false_or, Bool.or_true, Bool.true_or, fillA, pickParts, pickSl, strBin, eqA, eqCell, ne_eq, not_true_eq_false, not_false_eq_true, Nat.reduceLeDiff, Nat.reduceLT, Nat.reduceMul, Nat.reduceSub, Nat.zero_add, Nat.add_zero, Option.bind_some, asNat, bounds2, reduceCtorEq, List.take_succ_cons, List.take_zero, List.drop_succ_cons, List.drop_zero, Nat.reduceBEq, List.take_nil, List.drop_nil, Int.reduceLE, Int.reduceLT, Int.reduceToNat, Int.toNat_zero, Int.reduceBEq, Int.le_refl, Nat.le_refl, b2s, srcRow, binA, beq_self_eq_true, bne_self_eq_false, minI, maxI, foldI, Bool.not_not, Int.lt_irrefl, gt_iff_lt, ge_iff_le, List.length_map, AV.undef, i13, encII, It.av, a, b]; rfl⟩
  rw [if_neg h2]
  by_cases h3 : k = 3
  · subst h3; rw [if_pos rfl]; exact ⟨_, by simp only [evalFn, params, List.length_cons, List.length_nil, Nat.reduceAdd, evalCode, evalOps, guardOk, evalOp, AX.ev, look, putE, val, evs, optEv, binA, intBin, wrapI, unA, callM, keepE_cons, keepE_nil, Nat.reduceEqDiff, if_true, if_false, reduceIte, Int.toNat_natCast, List.append_nil, List.nil_append, List.cons_append, decide_true, decide_false, bft, btf, btt, bff, Bool.false_eq_true, resultsA, oneOrTup, Option.map_some, Option.map_none, Bool.not_true, Bool.not_false, loadAt, storeAt, storeOf, partOf, List.getElem?_cons_zero, List.getElem?_cons_succ, List.set_cons_zero, List.set_cons_succ, AV.cells, AV.isCell, List.all_cons, List.all_nil, Bool.and_true, Bool.and_false, Bool.false_and, Bool.true_and, Bool.and_self, and_true, true_and, and_self, putAt, hasLabel, Bool.or_false, Bool.false_or, Bool.or_true, Bool.true_or, fillA, pickParts, pickSl, strBin, eqA, eqCell, ne_eq, not_true_eq_false, not_false_eq_true, Nat.reduceLeDiff, Nat.reduceLT, Nat.reduceMul, Nat.reduceSub, Nat.zero_add, Nat.add_zero, Option.bind_some, asNat, bounds2, reduceCtorEq, List.take_succ_cons, List.take_zero, List.drop_succ_cons, List.drop_zero, Nat.reduceBEq, List.take_nil, List.drop_nil, Int.reduceLE, Int.reduceLT, Int.reduceToNat, Int.toNat_zero, Int.reduceBEq, Int.le_refl, Nat.le_refl, b2s, srcRow, binA, beq_self_eq_true, bne_self_eq_false, minI, maxI, foldI, Bool.not_not, Int.lt_irrefl, gt_iff_lt, ge_iff_le, List.length_map, AV.undef, i13, encII, It.av]; rfl⟩
  rw [if_neg h3]
  exact ⟨_, by simp only [evalFn, params, List.length_cons, List.length_nil, Nat.reduceAdd, evalCode, evalOps, guardOk, evalOp, AX.ev, look, putE, val, evs, optEv, binA, intBin, wrapI, unA, callM, keepE_cons, keepE_nil, Nat.reduceEqDiff, if_true, if_false, reduceIte, Int.toNat_natCast, List.append_nil, List.nil_append, List.cons_append, decide_true, decide_false, bft, btf, btt, bff, Bool.false_eq_true, resultsA, oneOrTup, Option.map_some, Option.map_none, Bool.not_true, Bool.not_false, loadAt, storeAt, storeOf, partOf, List.getElem?_cons_zero, List.getElem?_cons_succ, List.set_cons_zero, List.set_cons_succ, AV.cells, AV.isCell, List.all_cons, List.all_nil, Bool.and_true, Bool.and_false, Bool.false_and, Bool.true_and, Bool.and_self, and_true, true_and, and_self, putAt, hasLabel, Bool.or_false, Bool.false_or, Bool.or_true, Bool.true_or, fillA, pickParts, pickSl, strBin, eqA, eqCell, ne_eq, not_true_eq_false, not_false_eq_true, Nat.reduceLeDiff, Nat.reduceLT, Nat.reduceMul, Nat.reduceSub, Nat.zero_add, Nat.add_zero, Option.bind_some, asNat, bounds2, reduceCtorEq, List.take_succ_cons, List.take_zero, List.drop_succ_cons, List.drop_zero, Nat.reduceBEq, List.take_nil, List.drop_nil, Int.reduceLE, Int.reduceLT, Int.reduceToNat, Int.toNat_zero, Int.reduceBEq, Int.le_refl, Nat.le_refl, b2s, srcRow, binA, beq_self_eq_true, bne_self_eq_false, minI, maxI, foldI, Bool.not_not, Int.lt_irrefl, gt_iff_lt, ge_iff_le, List.length_map, AV.undef, i13, encII, It.av, ne_int h0, ne_int h1, ne_int h2, ne_int h3]; rfl⟩

theorem parts_spec (x : It) (h95 : ∀ σ, callC call 95 [.int .u8 x.o] σ = some (.ret (.int .i64 (sidesZ x.o)), σ)) (h96 : ∀ σ, callC call 96 [x.av] σ = some (.ret (.bool (leafB x)), σ)) :
    ∃ σ', evalFn call (drawA call G) G 0 i47 (encIt x) [] = some (.ret (.int .i64 (partsZ x)), σ') := by
  unfold partsZ
  generalize hL : leafB x = L at h96 ⊢
  obtain ⟨k, o, n, t, i, x⟩ := x
  simp only [It.av] at h95 h96 ⊢
  by_cases h4 : k = 4
  · subst h4
    by_cases h1 : sidesZ o = 1
    · rw [if_pos ⟨rfl, h1⟩]
      rw [h1] at h95
      exact ⟨_, by simp only [evalFn, params, List.length_cons, List.length_nil, Nat.reduceAdd, evalCode, evalOps, guardOk, evalOp, AX.ev, look, putE, val, evs, optEv, binA, intBin, wrapI, unA, callM, keepE_cons, keepE_nil, Nat.reduceEqDiff, if_true, if_false, reduceIte, Int.toNat_natCast, List.append_nil, List.nil_append, List.cons_append, decide_true, decide_false, bft, btf, btt, bff, Bool.false_eq_true, resultsA, oneOrTup, Option.map_some, Option.map_none, Bool.not_true, Bool.not_false, loadAt, storeAt, storeOf, partOf, List.getElem?_cons_zero, List.getElem?_cons_succ, List.set_cons_zero, List.set_cons_succ, AV.cells, AV.isCell, List.all_cons, List.all_nil, Bool.and_true, Bool.and_false, Bool.false_and, Bool.true_and, Bool.and_self, and_true, true_and, and_self, putAt, hasLabel, Bool.or_false, Bool.false_or, Bool.or_true, Bool.true_or, fillA, pickParts, pickSl, strBin, eqA, eqCell, ne_eq, not_true_eq_false, not_false_eq_true, Nat.reduceLeDiff, Nat.reduceLT, Nat.reduceMul, Nat.reduceSub, Nat.zero_add, Nat.add_zero, Option.bind_some, asNat, bounds2, reduceCtorEq, List.take_succ_cons, List.take_zero, List.drop_succ_cons, List.drop_zero, Nat.reduceBEq, List.take_nil, List.drop_nil, Int.reduceLE, Int.reduceLT, Int.reduceToNat, Int.toNat_zero, Int.reduceBEq, Int.le_refl, Nat.le_refl, b2s, srcRow, binA, beq_self_eq_true, bne_self_eq_false, minI, maxI, foldI, Bool.not_not, Int.lt_irrefl, gt_iff_lt, ge_iff_le, List.length_map, AV.undef, i47, encIt, It.av, h95]; rfl⟩
    · rw [if_neg (by simp [h1]), if_neg (by simp)]
      cases L <;> exact ⟨_, by simp only [evalFn, params, List.length_cons, List.length_nil, Nat.reduceAdd, evalCode, evalOps, guardOk, evalOp, AX.ev, look, putE, val, evs, optEv, binA, intBin, wrapI, unA, callM, keepE_cons, keepE_nil, Nat.reduceEqDiff, if_true, if_false, reduceIte, Int.toNat_natCast, List.append_nil, List.nil_append, List.cons_append, decide_true, decide_false, bft, btf, btt, bff, Bool.false_eq_true, resultsA, oneOrTup, Option.map_some, Option.map_none, Bool.not_true, Bool.not_false, loadAt, storeAt, storeOf, partOf, List.getElem?_cons_zero, List.getElem?_cons_succ, List.set_cons_zero, List.set_cons_succ, AV.cells, AV.isCell, List.all_cons, List.all_nil, Bool.and_true, Bool.and_false, Bool.false_and, Bool.true_and, Bool.and_self, and_true, true_and, and_self, putAt, hasLabel, Bool.or_false, Bool.false_or, Bool.or_true, Bool.true_or, fillA, pickParts, pickSl, strBin, eqA, eqCell, ne_eq, not_true_eq_false, not_false_eq_true, Nat.reduceLeDiff, Nat.reduceLT, Nat.reduceMul, Nat.reduceSub, Nat.zero_add, Nat.add_zero, Option.bind_some, asNat, bounds2, reduceCtorEq, List.take_succ_cons, List.take_zero, List.drop_succ_cons, List.drop_zero, Nat.reduceBEq, List.take_nil, List.drop_nil, Int.reduceLE, Int.reduceLT, Int.reduceToNat, Int.toNat_zero, Int.reduceBEq, Int.le_refl, Nat.le_refl, b2s, srcRow, binA, beq_self_eq_true, bne_self_eq_false, minI, maxI, foldI, Bool.not_not, Int.lt_irrefl, gt_iff_lt, ge_iff_le, List.length_map, AV.undef, i47, encIt, It.av, h95, h96, ne_int h1]; rfl⟩
  by_cases h5 : k = 5
  · subst h5
    rw [if_neg (by simp)]
    by_cases h1 : sidesZ o = 2
    · rw [if_pos ⟨rfl, h1⟩]
      rw [h1] at h95
      exact ⟨_, by simp only [evalFn, params, List.length_cons, List.length_nil, Nat.reduceAdd, evalCode, evalOps, guardOk, evalOp, AX.ev, look, putE, val, evs, optEv, binA, intBin, wrapI, unA, callM, keepE_cons, keepE_nil, Nat.reduceEqDiff, if_true, if_false, reduceIte, Int.toNat_natCast, List.append_nil, List.nil_append, List.cons_append, decide_true, decide_false, bft, btf, btt, bff, Bool.false_eq_true, resultsA, oneOrTup, Option.map_some, Option.map_none, Bool.not_true, Bool.not_false, loadAt, storeAt, storeOf, partOf, List.getElem?_cons_zero, List.getElem?_cons_succ, List.set_cons_zero, List.set_cons_succ, AV.cells, AV.isCell, List.all_cons, List.all_nil, Bool.and_true, Bool.and_false, Bool.false_and, Bool.true_and, Bool.and_self, and_true, true_and, and_self, putAt, hasLabel, Bool.or_false, Bool.false_or, Bool.or_true, Bool.true_or, fillA, pickParts, pickSl, strBin, eqA, eqCell, ne_eq, not_true_eq_false, not_false_eq_true, Nat.reduceLeDiff, Nat.reduceLT, Nat.reduceMul, Nat.reduceSub, Nat.zero_add, Nat.add_zero, Option.bind_some, asNat, bounds2, reduceCtorEq, List.take_succ_cons, List.take_zero, List.drop_succ_cons, List.drop_zero, Nat.reduceBEq, List.take_nil, List.drop_nil, Int.reduceLE, Int.reduceLT, Int.reduceToNat, Int.toNat_zero, Int.reduceBEq, Int.le_refl, Nat.le_refl, b2s, srcRow, binA, beq_self_eq_true, bne_self_eq_false, minI, maxI, foldI, Bool.not_not, Int.lt_irrefl, gt_iff_lt, ge_iff_le, List.length_map, AV.undef, i47, encIt, It.av, h95]; rfl⟩
    · rw [if_neg (by simp [h1])]
      cases L <;> exact ⟨_, by simp only [evalFn, params, List.length_cons, List.length_nil, Nat.reduceAdd, evalCode, evalOps, guardOk, evalOp, AX.ev, look, putE, val, evs, optEv, binA, intBin, wrapI, unA, callM, keepE_cons, keepE_nil, Nat.reduceEqDiff, if_true, if_false, reduceIte, Int.toNat_natCast, List.append_nil, List.nil_append, List.cons_append, decide_true, decide_false, bft, btf, btt, bff, Bool.false_eq_true, resultsA, oneOrTup, Option.map_some, Option.map_none, Bool.not_true, Bool.not_false, loadAt, storeAt, storeOf, partOf, List.getElem?_cons_zero, List.getElem?_cons_succ, List.set_cons_zero, List.set_cons_succ, AV.cells, AV.isCell, List.all_cons, List.all_nil, Bool.and_true, Bool.and_false, Bool.false_and, Bool.true_and, Bool.and_self, and_true, true_and, and_self, putAt, hasLabel, Bool.or_false, Bool.false_or, Bool.or_true, Bool.true_or, fillA, pickParts, pickSl, strBin, eqA, eqCell, ne_eq, not_true_eq_false, not_false_eq_true, Nat.reduceLeDiff, Nat.reduceLT, Nat.reduceMul, Nat.reduceSub, Nat.zero_add, Nat.add_zero, Option.bind_some, asNat, bounds2, reduceCtorEq, List.take_succ_cons, List.take_zero, List.drop_succ_cons, List.drop_zero, Nat.reduceBEq, List.take_nil, List.drop_nil, Int.reduceLE, Int.reduceLT, Int.reduceToNat, Int.toNat_zero, Int.reduceBEq, Int.le_refl, Nat.le_refl, b2s, srcRow, binA, beq_self_eq_true, bne_self_eq_false, minI, maxI, foldI, Bool.not_not, Int.lt_irrefl, gt_iff_lt, ge_iff_le, List.length_map, AV.undef, i47, encIt, It.av, h95, h96, ne_int h1]; rfl⟩
  rw [if_neg (by simp [h4]), if_neg (by simp [h5])]
  cases L <;> exact ⟨_, by simp only [evalFn, params, List.length_cons, List.length_nil, Nat.reduceAdd, evalCode, evalOps, guardOk, evalOp, AX.ev, look, putE, val, evs, optEv, binA, intBin, wrapI, unA, callM, keepE_cons, keepE_nil, Nat.reduceEqDiff, if_true, if_false, reduceIte, Int.toNat_natCast, List.append_nil, List.nil_append, List.cons_append, decide_true, decide_false, bft, btf, btt, bff, Bool.false_eq_true, resultsA, oneOrTup, Option.map_some, Option.map_none, Bool.not_true, Bool.not_false, loadAt, storeAt, storeOf, partOf, List.getElem?_cons_zero, List.getElem?_cons_succ, List.set_cons_zero, List.set_cons_succ, AV.cells, AV.isCell, List.all_cons, List.all_nil, Bool.and_true, Bool.and_false, Bool.false_and, Bool.true_and, Bool.and_self, and_true, true_and, and_self, putAt, hasLabel, Bool.or_false, Bool.false_or, Bool.or_true, Bool.true_or, fillA, pickParts, pickSl, strBin, eqA, eqCell, ne_eq, not_true_eq_false, not_false_eq_true, Nat.reduceLeDiff, Nat.reduceLT, Nat.reduceMul, Nat.reduceSub, Nat.zero_add, Nat.add_zero, Option.bind_some, asNat, bounds2, reduceCtorEq, List.take_succ_cons, List.take_zero, List.drop_succ_cons, List.drop_zero, Nat.reduceBEq, List.take_nil, List.drop_nil, Int.reduceLE, Int.reduceLT, Int.reduceToNat, Int.toNat_zero, Int.reduceBEq, Int.le_refl, Nat.le_refl, b2s, srcRow, binA, beq_self_eq_true, bne_self_eq_false, minI, maxI, foldI, Bool.not_not, Int.lt_irrefl, gt_iff_lt, ge_iff_le, List.length_map, AV.undef, i47, encIt, It.av, h96, ne_int h4, ne_int h5]; rfl⟩
end

noncomputable def rwA : CallA := orC (atF 95 sSides) smZ
noncomputable def rwB : CallA := orC (atF 96 (pureS (encS encIt (fun _ => True) fun x => .bool (leafB x)))) rwA
noncomputable def rwC : CallA := orC (atF 47 (pureS (encS encIt It.wf fun x => .int .i64 (partsZ x)))) rwB
noncomputable def rwD : CallA := orC (atF 13 (pureS (encS encII (fun _ => True) fun x => .bool (alikeB x.1 x.2)))) rwC
theorem rwA_sound : CallS Tryd.prog exG rwA := side_sound.or smZ_sound
theorem rwA_sides : Has rwA 95 enc8 u8 fun o => .int .i64 (sidesZ o) := Has.self (fun _ _ _ _ h => by rw [enc8_inj h]) (fun _ _ => rfl) (fun _ _ => seen_flat rfl)
theorem rwB_sound : CallS Tryd.prog exG rwB :=
  (CallS.enc rwA_sound mixed exG_pure ok96 encIt _ _ fun x _ => ⟨rfl, 0, .bool (leafB x), by obtain ⟨σ', h⟩ := leaf_spec (call := rwA) (G := exG) x; exact ⟨σ', h, seen_flat rfl⟩⟩).or rwA_sound
theorem rwB_leaf : Has rwB 96 encIt (fun _ => True) fun x => .bool (leafB x) := Has.self (fun _ _ _ _ h => by rw [encIt_inj h]) (fun _ _ => rfl) (fun _ _ => seen_flat rfl)
theorem rwC_sound : CallS Tryd.prog exG rwC :=
  (CallS.enc rwB_sound mixed exG_pure ok47 encIt It.wf _ fun x hx => ⟨rfl, 0, .int .i64 (partsZ x), by
    obtain ⟨σ', h⟩ := parts_spec (call := rwB) (G := exG) x (fun σ => (rwA_sides.over (by decide)) x.o σ hx.2.1) (fun σ => rwB_leaf x σ trivial)
    exact ⟨σ', h, seen_flat rfl⟩⟩).or rwB_sound
theorem rwC_parts : Has rwC 47 encIt It.wf fun x => .int .i64 (partsZ x) := Has.self (fun _ _ _ _ h => by rw [encIt_inj h]) (fun _ _ => rfl) (fun _ _ => seen_flat rfl)
theorem rwD_sound : CallS Tryd.prog exG rwD :=
  (CallS.enc rwC_sound mixed exG_pure ok13 encII _ _ fun x _ => ⟨rfl, 0, .bool (alikeB x.1 x.2), by obtain ⟨σ', h⟩ := alike_spec (call := rwC) (G := exG) x; exact ⟨σ', h, seen_flat rfl⟩⟩).or rwC_sound
theorem rwD_alike : Has rwD 13 encII (fun _ => True) fun x => .bool (alikeB x.1 x.2) := Has.self (fun _ _ _ _ h => by rw [encII_inj h]) (fun _ _ => rfl) (fun _ _ => seen_flat rfl)
end Go.Pm
end

section
set_option linter.unusedSimpArgs false
set_option linter.unusedVariables false
set_option linter.unusedSectionVars false
/- The document's rows: where an expression ends. -/
set_option maxRecDepth 100000
set_option linter.unusedSimpArgs false
set_option linter.unusedVariables false
namespace Go.Pm
open Go.Proofs Go.Proofs.YtehcekeccnlboaaDoor

theorem parts_range (x : It) : partsZ x = -1 ∨ partsZ x = 0 ∨ partsZ x = 1 ∨ partsZ x = 2 := by
  unfold partsZ
  repeat' split
  all_goals simp

theorem endZ_none {l : List It} {p : Nat} (h : l[p]? = none) : endZ l p = (-1, 0) := by unfold endZ; rw [exprAt_none h]
theorem endZ_bad {l : List It} {p : Nat} {x : It} (h : l[p]? = some x) (h1 : partsZ x = -1) : endZ l p = (-1, 0) := by
  unfold endZ; rw [exprAt_some h, if_neg (by omega), if_neg (by omega), if_neg (by omega)]
theorem endZ_leaf {l : List It} {p : Nat} {x : It} (h : l[p]? = some x) (h1 : partsZ x = 0) : endZ l p = (((p + 1 : Nat) : Int), 1) := by
  unfold endZ; rw [exprAt_some h, if_neg (by omega), if_neg (by omega), if_pos h1]; rfl
theorem endZ_one {l : List It} {p : Nat} {x : It} (h : l[p]? = some x) (h1 : partsZ x = 1) : endZ l p = if (endZ l (p + 1)).1 < 0 then (-1, 0) else ((endZ l (p + 1)).1, (endZ l (p + 1)).2 + 1) := by
  unfold endZ; rw [exprAt_some h, if_pos h1]
  cases exprAt l (p + 1) with
  | none => rfl
  | some r => obtain ⟨a, q⟩ := r; simp only; rw [if_neg (by omega)]; rfl
theorem endZ_two {l : List It} {p : Nat} {x : It} (h : l[p]? = some x) (h1 : partsZ x = 2) : endZ l p = if (endZ l (p + 1)).1 < 0 then (-1, 0) else
    if (endZ l (endZ l (p + 1)).1.toNat).1 < 0 then (-1, 0) else ((endZ l (endZ l (p + 1)).1.toNat).1, max (endZ l (p + 1)).2 (endZ l (endZ l (p + 1)).1.toNat).2 + 1) := by
  have e : endZ l p = (match exprAt l p with | some (e, q) => ((q : Int), e.depth) | none => (-1, 0)) := rfl
  rw [e, exprAt_some h, if_neg (by omega), if_pos h1]
  cases h2 : exprAt l (p + 1) with
  | none =>
    have e1 : endZ l (p + 1) = (-1, 0) := by unfold endZ; rw [h2]
    rw [e1]; rfl
  | some r =>
    obtain ⟨a, q⟩ := r
    have e1 : endZ l (p + 1) = ((q : Int), a.depth) := by unfold endZ; rw [h2]
    rw [e1]
    simp only [Int.toNat_natCast]
    rw [if_neg (by omega)]
    cases h3 : exprAt l q with
    | none =>
      have e2 : endZ l q = (-1, 0) := by unfold endZ; rw [h3]
      rw [e2]; rfl
    | some r2 =>
      obtain ⟨b, q2⟩ := r2
      have e2 : endZ l q = ((q2 : Int), b.depth) := by unfold endZ; rw [h3]
      rw [e2]
      simp only
      rw [if_neg (by omega)]
      rfl
theorem endZ_le (l : List It) (p : Nat) (h : 0 ≤ (endZ l p).1) : p < (endZ l p).1.toNat ∧ (endZ l p).1.toNat ≤ l.length := by
  unfold endZ at h ⊢
  cases h2 : exprAt l p with
  | none => rw [h2] at h; simp at h
  | some r =>
    obtain ⟨a, q⟩ := r
    have := exprAt_le h2
    simp only [Int.toNat_natCast]
    exact this
theorem parse_depth : ∀ (n : Nat) (l : List It) (p : Nat) (e : E) (q : Nat), parse n l p = some (e, q) → e.depth ≤ n
  | 0, _, _, _, _, h => by simp [parse] at h
  | n + 1, l, p, e, q, h => by
    simp only [parse] at h
    split at h
    · cases h
    · split at h
      · split at h
        · rename_i a q' ha
          cases h
          have := parse_depth n l (p + 1) a q ha
          simp only [E.depth]; omega
        · cases h
      · split at h
        · split at h
          · rename_i a q' ha
            split at h
            · rename_i b r hb
              cases h
              have := parse_depth n l (p + 1) a q' ha
              have := parse_depth n l q' b q hb
              simp only [E.depth]; omega
            · cases h
          · cases h
        · split at h
          · cases h; simp only [E.depth]; omega
          · cases h
theorem endZ_depth (l : List It) (p : Nat) : (endZ l p).2 ≤ l.length + 1 := by
  unfold endZ
  cases h : exprAt l p with
  | none => simp
  | some r => obtain ⟨a, q⟩ := r; exact parse_depth _ _ _ _ _ h

section
variable {call : CallA} {G : Globals}
theorem iterX_succ (f : Env → Store → Res) (keep : List Nat) (n : Nat) (env : Env) (σ : Store) : iterA f keep (n + 1) env σ = (match f (keepE keep env) σ with
    | some (.normal, env, σ) => iterA f keep n env σ
    | x => x) := by rw [iterA]; rfl
theorem iter3 (f : Env → Store → Res) (keep : List Nat) (env : Env) (σ : Store) : iterA f keep 3 env σ = (match f (keepE keep env) σ with | some (.normal, env, σ) => iterA f keep 2 env σ | x => x) := iterX_succ f keep 2 env σ
theorem iter2 (f : Env → Store → Res) (keep : List Nat) (env : Env) (σ : Store) : iterA f keep 2 env σ = (match f (keepE keep env) σ with | some (.normal, env, σ) => iterA f keep 1 env σ | x => x) := iterX_succ f keep 1 env σ
theorem iter1 (f : Env → Store → Res) (keep : List Nat) (env : Env) (σ : Store) : iterA f keep 1 env σ = (match f (keepE keep env) σ with | some (.normal, env, σ) => iterA f keep 0 env σ | x => x) := iterX_succ f keep 0 env σ

def rowA (l : List It) : AV := .sl 6 (l.map It.av) .no
def encL (x : List It × Nat) : List AV := [rowA x.1, .int .i64 x.2]
def outE (r : Int × Nat) : AV := .tup [.int .i64 r.1, .int .i64 r.2]

theorem end_out (l : List It) (p : Nat) (hp : l.length ≤ p) : ∃ σ', evalFn call (drawA call G) G 3 i19 (encL (l, p)) [] = some (.ret (outE (endZ l p)), σ') := by
  rw [endZ_none (List.getElem?_eq_none hp)]
  have e1 : ((l.length : Int) ≤ (p : Int)) = True := by simp only [eq_iff_iff, iff_true]; omega
  exact ⟨_, by simp only [evalFn, params, List.length_cons, List.length_nil, Nat.reduceAdd, evalCode, evalOps, guardOk, evalOp, AX.ev, look, putE, val, evs, optEv, binA, intBin, wrapI, unA, callM, keepE_cons, keepE_nil, Nat.reduceEqDiff, if_true, if_false, reduceIte, Int.toNat_natCast, List.append_nil, List.nil_append, List.cons_append, decide_true, decide_false, bft, btf, btt, bff, Bool.false_eq_true, resultsA, oneOrTup, Option.map_some, Option.map_none, Bool.not_true, Bool.not_false, loadAt, storeAt, storeOf, partOf, List.getElem?_cons_zero, List.getElem?_cons_succ, List.set_cons_zero, List.set_cons_succ, AV.cells, AV.isCell, List.all_cons, List.all_nil, Bool.and_true, Bool.and_false, Bool.false_and, Bool.true_and, Bool.and_self, and_true, true_and, and_self, putAt, hasLabel, Bool.or_false, Bool.false_or, Bool.or_true, Bool.true_or, fillA, pickParts, pickSl, strBin, eqA, eqCell, ne_eq, not_true_eq_false, not_false_eq_true, Nat.reduceLeDiff, Nat.reduceLT, Nat.reduceMul, Nat.reduceSub, Nat.zero_add, Nat.add_zero, Option.bind_some, asNat, bounds2, reduceCtorEq, List.take_succ_cons, List.take_zero, List.drop_succ_cons, List.drop_zero, Nat.reduceBEq, List.take_nil, List.drop_nil, Int.reduceLE, Int.reduceLT, Int.reduceToNat, Int.toNat_zero, Int.reduceBEq, Int.le_refl, Nat.le_refl, b2s, srcRow, binA, beq_self_eq_true, bne_self_eq_false, minI, maxI, foldI, Bool.not_not, Int.lt_irrefl, gt_iff_lt, ge_iff_le, List.length_map, AV.undef, i19, encL, rowA, outE, e1]; rfl⟩

theorem end_in (l : List It) (p : Nat) (x : It) (hx : l[p]? = some x) (hlen : l.length ≤ 1000) (h47 : ∀ σ, callC call 47 [x.av] σ = some (.ret (.int .i64 (partsZ x)), σ))
    (h19 : ∀ (q : Nat) σ, p < q → q ≤ l.length → callC call 19 [rowA l, .int .i64 q] σ = some (.ret (outE (endZ l q)), σ)) :
    ∃ σ', evalFn call (drawA call G) G 3 i19 (encL (l, p)) [] = some (.ret (outE (endZ l p)), σ') := by
  have hp := (List.getElem?_eq_some_iff.1 hx).1
  have hR : (l.map It.av)[p]? = some x.av := by rw [List.getElem?_map, hx]; rfl
  have e0 : (0 ≤ (p : Int)) = True := by simp
  have e1 : ((l.length : Int) ≤ (p : Int)) = False := by simp only [eq_iff_iff, iff_false]; omega
  have e2 : ((p : Int) < (l.length : Int)) = True := by simp only [eq_iff_iff, iff_true]; omega
  have w1 : IntKind.i64.wrap ((p : Int) + 1) = ((p + 1 : Nat) : Int) := by rw [wrap_i64] <;> omega
  have w2 : IntKind.i64.wrap (0 + 1) = 1 := by decide
  have w3 : IntKind.i64.wrap (1 + 1) = 2 := by decide
  have hA := fun σ => h19 (p + 1) σ (by omega) (by omega)
  simp only [rowA] at hA
  obtain ⟨k, o, n, t, i, xx⟩ := x
  simp only [It.av] at hR h47
  generalize hk : partsZ ⟨k, o, n, t, i, xx⟩ = z at h47
  rcases (hk ▸ parts_range ⟨k, o, n, t, i, xx⟩ : z = -1 ∨ z = 0 ∨ z = 1 ∨ z = 2) with rfl | rfl | rfl | rfl
  · rw [endZ_bad hx hk]
    exact ⟨_, by simp only [evalFn, params, List.length_cons, List.length_nil, Nat.reduceAdd, evalCode, evalOps, guardOk, evalOp, AX.ev, look, putE, val, evs, optEv, binA, intBin, wrapI, unA, callM, keepE_cons, keepE_nil, Nat.reduceEqDiff, if_true, if_false, reduceIte, Int.toNat_natCast, List.append_nil, List.nil_append, List.cons_append, decide_true, decide_false, bft, btf, btt, bff, Bool.false_eq_true, resultsA, oneOrTup, Option.map_some, Option.map_none, Bool.not_true, Bool.not_false, loadAt, storeAt, storeOf, partOf, List.getElem?_cons_zero, List.getElem?_cons_succ, List.set_cons_zero, List.set_cons_succ, AV.cells, AV.isCell, List.all_cons, List.all_nil, Bool.and_true, Bool.and_false, Bool.false_and, Bool.true_and, Bool.and_self, and_true, true_and, and_self, putAt, hasLabel, Bool.or_false, Bool.false_or, Bool.or_true, Bool.true_or, fillA, pickParts, pickSl, strBin, eqA, eqCell, ne_eq, not_true_eq_false, not_false_eq_true, Nat.reduceLeDiff, Nat.reduceLT, Nat.reduceMul, Nat.reduceSub, Nat.zero_add, Nat.add_zero, Option.bind_some, asNat, bounds2, reduceCtorEq, List.take_succ_cons, List.take_zero, List.drop_succ_cons, List.drop_zero, Nat.reduceBEq, List.take_nil, List.drop_nil, Int.reduceLE, Int.reduceLT, Int.reduceToNat, Int.toNat_zero, Int.reduceBEq, Int.le_refl, Nat.le_refl, b2s, srcRow, binA, beq_self_eq_true, bne_self_eq_false, minI, maxI, foldI, Bool.not_not, Int.lt_irrefl, gt_iff_lt, ge_iff_le, List.length_map, AV.undef, i19, encL, rowA, outE, e0, e1, e2, hR, h47]; rfl⟩
  · rw [endZ_leaf hx hk]
    exact ⟨_, by simp only [evalFn, params, List.length_cons, List.length_nil, Nat.reduceAdd, evalCode, evalOps, guardOk, evalOp, AX.ev, look, putE, val, evs, optEv, binA, intBin, wrapI, unA, callM, keepE_cons, keepE_nil, Nat.reduceEqDiff, if_true, if_false, reduceIte, Int.toNat_natCast, List.append_nil, List.nil_append, List.cons_append, decide_true, decide_false, bft, btf, btt, bff, Bool.false_eq_true, resultsA, oneOrTup, Option.map_some, Option.map_none, Bool.not_true, Bool.not_false, loadAt, storeAt, storeOf, partOf, List.getElem?_cons_zero, List.getElem?_cons_succ, List.set_cons_zero, List.set_cons_succ, AV.cells, AV.isCell, List.all_cons, List.all_nil, Bool.and_true, Bool.and_false, Bool.false_and, Bool.true_and, Bool.and_self, and_true, true_and, and_self, putAt, hasLabel, Bool.or_false, Bool.false_or, Bool.or_true, Bool.true_or, fillA, pickParts, pickSl, strBin, eqA, eqCell, ne_eq, not_true_eq_false, not_false_eq_true, Nat.reduceLeDiff, Nat.reduceLT, Nat.reduceMul, Nat.reduceSub, Nat.zero_add, Nat.add_zero, Option.bind_some, asNat, bounds2, reduceCtorEq, List.take_succ_cons, List.take_zero, List.drop_succ_cons, List.drop_zero, Nat.reduceBEq, List.take_nil, List.drop_nil, Int.reduceLE, Int.reduceLT, Int.reduceToNat, Int.toNat_zero, Int.reduceBEq, Int.le_refl, Nat.le_refl, b2s, srcRow, binA, beq_self_eq_true, bne_self_eq_false, minI, maxI, foldI, Bool.not_not, Int.lt_irrefl, gt_iff_lt, ge_iff_le, List.length_map, AV.undef, i19, i19_L0, encL, rowA, outE, e0, e1, e2, hR, h47, iter3, w1, w2]; rfl⟩
  · rw [endZ_one hx hk]
    generalize hE : endZ l (p + 1) = r at hA
    obtain ⟨q, d⟩ := r
    have hd := endZ_depth l (p + 1)
    rw [hE] at hd
    simp only at hd
    have wd : IntKind.i64.wrap ((d : Int) + 1) = ((d + 1 : Nat) : Int) := by rw [wrap_i64] <;> omega
    have m0 : (if (0 : Int) < (d : Int) then (d : Int) else 0) = d := by split <;> omega
    simp only [outE] at hA
    by_cases hq : q < 0
    · simp only [hq, if_true]
      exact ⟨_, by simp only [evalFn, params, List.length_cons, List.length_nil, Nat.reduceAdd, evalCode, evalOps, guardOk, evalOp, AX.ev, look, putE, val, evs, optEv, binA, intBin, wrapI, unA, callM, keepE_cons, keepE_nil, Nat.reduceEqDiff, if_true, if_false, reduceIte, Int.toNat_natCast, List.append_nil, List.nil_append, List.cons_append, decide_true, decide_false, bft, btf, btt, bff, Bool.false_eq_true, resultsA, oneOrTup, Option.map_some, Option.map_none, Bool.not_true, Bool.not_false, loadAt, storeAt, storeOf, partOf, List.getElem?_cons_zero, List.getElem?_cons_succ, List.set_cons_zero, List.set_cons_succ, AV.cells, AV.isCell, List.all_cons, List.all_nil, Bool.and_true, Bool.and_false, Bool.false_and, Bool.true_and, Bool.and_self, and_true, true_and, and_self, putAt, hasLabel, Bool.or_false, Bool.false_or, Bool.or_true, Bool.true_or, fillA, pickParts, pickSl, strBin, eqA, eqCell, ne_eq, not_true_eq_false, not_false_eq_true, Nat.reduceLeDiff, Nat.reduceLT, Nat.reduceMul, Nat.reduceSub, Nat.zero_add, Nat.add_zero, Option.bind_some, asNat, bounds2, reduceCtorEq, List.take_succ_cons, List.take_zero, List.drop_succ_cons, List.drop_zero, Nat.reduceBEq, List.take_nil, List.drop_nil, Int.reduceLE, Int.reduceLT, Int.reduceToNat, Int.toNat_zero, Int.reduceBEq, Int.le_refl, Nat.le_refl, b2s, srcRow, binA, beq_self_eq_true, bne_self_eq_false, minI, maxI, foldI, Bool.not_not, Int.lt_irrefl, gt_iff_lt, ge_iff_le, List.length_map, AV.undef, i19, i19_L0, encL, rowA, outE, e0, e1, e2, hR, h47, iter3, w1, w2, hA, hq]; rfl⟩
    · simp only [hq, if_false]
      exact ⟨_, by simp only [evalFn, params, List.length_cons, List.length_nil, Nat.reduceAdd, evalCode, evalOps, guardOk, evalOp, AX.ev, look, putE, val, evs, optEv, binA, intBin, wrapI, unA, callM, keepE_cons, keepE_nil, Nat.reduceEqDiff, if_true, if_false, reduceIte, Int.toNat_natCast, List.append_nil, List.nil_append, List.cons_append, decide_true, decide_false, bft, btf, btt, bff, Bool.false_eq_true, resultsA, oneOrTup, Option.map_some, Option.map_none, Bool.not_true, Bool.not_false, loadAt, storeAt, storeOf, partOf, List.getElem?_cons_zero, List.getElem?_cons_succ, List.set_cons_zero, List.set_cons_succ, AV.cells, AV.isCell, List.all_cons, List.all_nil, Bool.and_true, Bool.and_false, Bool.false_and, Bool.true_and, Bool.and_self, and_true, true_and, and_self, putAt, hasLabel, Bool.or_false, Bool.false_or, Bool.or_true, Bool.true_or, fillA, pickParts, pickSl, strBin, eqA, eqCell, ne_eq, not_true_eq_false, not_false_eq_true, Nat.reduceLeDiff, Nat.reduceLT, Nat.reduceMul, Nat.reduceSub, Nat.zero_add, Nat.add_zero, Option.bind_some, asNat, bounds2, reduceCtorEq, List.take_succ_cons, List.take_zero, List.drop_succ_cons, List.drop_zero, Nat.reduceBEq, List.take_nil, List.drop_nil, Int.reduceLE, Int.reduceLT, Int.reduceToNat, Int.toNat_zero, Int.reduceBEq, Int.le_refl, Nat.le_refl, b2s, srcRow, binA, beq_self_eq_true, bne_self_eq_false, minI, maxI, foldI, Bool.not_not, Int.lt_irrefl, gt_iff_lt, ge_iff_le, List.length_map, AV.undef, i19, i19_L0, encL, rowA, outE, e0, e1, e2, hR, h47, iter3, iter2, w1, w2, hA, hq, wd, m0]; rfl⟩
  · rw [endZ_two hx hk]
    have hle := endZ_le l (p + 1)
    generalize hE : endZ l (p + 1) = r at hA hle
    obtain ⟨q, d⟩ := r
    have hd := endZ_depth l (p + 1)
    rw [hE] at hd
    simp only at hd hle
    have m0 : (if (0 : Int) < (d : Int) then (d : Int) else 0) = d := by split <;> omega
    simp only [outE] at hA
    by_cases hq : q < 0
    · simp only [hq, if_true]
      exact ⟨_, by simp only [evalFn, params, List.length_cons, List.length_nil, Nat.reduceAdd, evalCode, evalOps, guardOk, evalOp, AX.ev, look, putE, val, evs, optEv, binA, intBin, wrapI, unA, callM, keepE_cons, keepE_nil, Nat.reduceEqDiff, if_true, if_false, reduceIte, Int.toNat_natCast, List.append_nil, List.nil_append, List.cons_append, decide_true, decide_false, bft, btf, btt, bff, Bool.false_eq_true, resultsA, oneOrTup, Option.map_some, Option.map_none, Bool.not_true, Bool.not_false, loadAt, storeAt, storeOf, partOf, List.getElem?_cons_zero, List.getElem?_cons_succ, List.set_cons_zero, List.set_cons_succ, AV.cells, AV.isCell, List.all_cons, List.all_nil, Bool.and_true, Bool.and_false, Bool.false_and, Bool.true_and, Bool.and_self, and_true, true_and, and_self, putAt, hasLabel, Bool.or_false, Bool.false_or, Bool.or_true, Bool.true_or, fillA, pickParts, pickSl, strBin, eqA, eqCell, ne_eq, not_true_eq_false, not_false_eq_true, Nat.reduceLeDiff, Nat.reduceLT, Nat.reduceMul, Nat.reduceSub, Nat.zero_add, Nat.add_zero, Option.bind_some, asNat, bounds2, reduceCtorEq, List.take_succ_cons, List.take_zero, List.drop_succ_cons, List.drop_zero, Nat.reduceBEq, List.take_nil, List.drop_nil, Int.reduceLE, Int.reduceLT, Int.reduceToNat, Int.toNat_zero, Int.reduceBEq, Int.le_refl, Nat.le_refl, b2s, srcRow, binA, beq_self_eq_true, bne_self_eq_false, minI, maxI, foldI, Bool.not_not, Int.lt_irrefl, gt_iff_lt, ge_iff_le, List.length_map, AV.undef, i19, i19_L0, encL, rowA, outE, e0, e1, e2, hR, h47, iter3, w1, w2, hA, hq]; rfl⟩
    · simp only [hq, if_false]
      obtain ⟨q, rfl⟩ : ∃ m : Nat, q = m := ⟨q.toNat, by omega⟩
      simp only [Int.toNat_natCast] at hle ⊢
      have hB := fun σ => h19 q σ (by omega) (by omega)
      simp only [rowA] at hB
      have hd2 := endZ_depth l q
      generalize endZ l q = r2 at hB hd2 ⊢
      obtain ⟨q2, d2⟩ := r2
      simp only at hd2
      have m1 := max_int d d2
      have wd : IntKind.i64.wrap (((max d d2 : Nat) : Int) + 1) = ((max d d2 + 1 : Nat) : Int) := by rw [wrap_i64] <;> omega
      simp only [outE] at hB
      by_cases hq2 : q2 < 0
      · simp only [hq2, if_true]
        exact ⟨_, by simp only [evalFn, params, List.length_cons, List.length_nil, Nat.reduceAdd, evalCode, evalOps, guardOk, evalOp, AX.ev, look, putE, val, evs, optEv, binA, intBin, wrapI, unA, callM, keepE_cons, keepE_nil, Nat.reduceEqDiff, if_true, if_false, reduceIte, Int.toNat_natCast, List.append_nil, List.nil_append, List.cons_append, decide_true, decide_false, bft, btf, btt, bff, Bool.false_eq_true, resultsA, oneOrTup, Option.map_some, Option.map_none, Bool.not_true, Bool.not_false, loadAt, storeAt, storeOf, partOf, List.getElem?_cons_zero, List.getElem?_cons_succ, List.set_cons_zero, List.set_cons_succ, AV.cells, AV.isCell, List.all_cons, List.all_nil, Bool.and_true, Bool.and_false, Bool.false_and, Bool.true_and, Bool.and_self, and_true, true_and, and_self, putAt, hasLabel, Bool.or_false, Bool.false_or, Bool.or_true, Bool.true_or, fillA, pickParts, pickSl, strBin, eqA, eqCell, ne_eq, not_true_eq_false, not_false_eq_true, Nat.reduceLeDiff, Nat.reduceLT, Nat.reduceMul, Nat.reduceSub, Nat.zero_add, Nat.add_zero, Option.bind_some, asNat, bounds2, reduceCtorEq, List.take_succ_cons, List.take_zero, List.drop_succ_cons, List.drop_zero, Nat.reduceBEq, List.take_nil, List.drop_nil, Int.reduceLE, Int.reduceLT, Int.reduceToNat, Int.toNat_zero, Int.reduceBEq, Int.le_refl, Nat.le_refl, b2s, srcRow, binA, beq_self_eq_true, bne_self_eq_false, minI, maxI, foldI, Bool.not_not, Int.lt_irrefl, gt_iff_lt, ge_iff_le, List.length_map, AV.undef, i19, i19_L0, encL, rowA, outE, e0, e1, e2, hR, h47, iter3, iter2, w1, w2, hA, hq, hB, hq2, m0]; rfl⟩
      · simp only [hq2, if_false]
        exact ⟨_, by simp only [evalFn, params, List.length_cons, List.length_nil, Nat.reduceAdd, evalCode, evalOps, guardOk, evalOp, AX.ev, look, putE, val, evs, optEv, binA, intBin, wrapI, unA, callM, keepE_cons, keepE_nil, Nat.reduceEqDiff, if_true, if_false, reduceIte, Int.toNat_natCast, List.append_nil, List.nil_append, List.cons_append, decide_true, decide_false, bft, btf, btt, bff, Bool.false_eq_true, resultsA, oneOrTup, Option.map_some, Option.map_none, Bool.not_true, Bool.not_false, loadAt, storeAt, storeOf, partOf, List.getElem?_cons_zero, List.getElem?_cons_succ, List.set_cons_zero, List.set_cons_succ, AV.cells, AV.isCell, List.all_cons, List.all_nil, Bool.and_true, Bool.and_false, Bool.false_and, Bool.true_and, Bool.and_self, and_true, true_and, and_self, putAt, hasLabel, Bool.or_false, Bool.false_or, Bool.or_true, Bool.true_or, fillA, pickParts, pickSl, strBin, eqA, eqCell, ne_eq, not_true_eq_false, not_false_eq_true, Nat.reduceLeDiff, Nat.reduceLT, Nat.reduceMul, Nat.reduceSub, Nat.zero_add, Nat.add_zero, Option.bind_some, asNat, bounds2, reduceCtorEq, List.take_succ_cons, List.take_zero, List.drop_succ_cons, List.drop_zero, Nat.reduceBEq, List.take_nil, List.drop_nil, Int.reduceLE, Int.reduceLT, Int.reduceToNat, Int.toNat_zero, Int.reduceBEq, Int.le_refl, Nat.le_refl, b2s, srcRow, binA, beq_self_eq_true, bne_self_eq_false, minI, maxI, foldI, Bool.not_not, Int.lt_irrefl, gt_iff_lt, ge_iff_le, List.length_map, AV.undef, i19, i19_L0, encL, rowA, outE, e0, e1, e2, hR, h47, iter3, iter2, iter1, w1, w2, w3, hA, hq, hB, hq2, m0, m1, wd]; rfl⟩
end
end Go.Pm
end

section
set_option linter.unusedSimpArgs false
set_option linter.unusedVariables false
set_option linter.unusedSectionVars false
/- The document's rows: the tree of a row. -/
set_option maxRecDepth 100000
set_option linter.unusedSimpArgs false
set_option linter.unusedVariables false
namespace Go.Pm
open Go.Proofs Go.Proofs.YtehcekeccnlboaaDoor

def encO (x : List It × Nat × Nat) : List AV := [rowA x.1, .int .i64 x.2.1, .int .i64 x.2.2]
def outO (r : T × Nat) : AV := .tup [r.1.av, .int .i64 r.2]

theorem row_pure : ∀ l : List It, puress (l.map It.av) = true
  | [] => rfl
  | x :: l => by simp only [List.map_cons, puress, row_pure l, It.av, AV.pure, Bool.and_self]
theorem row_bare (f : Nat → Option (List AV)) : ∀ l : List It, stripWs f (l.map It.av) = some (l.map It.av)
  | [] => rfl
  | x :: l => by simp only [List.map_cons, stripWs, row_bare f l, It.av, stripW]
theorem encO_bare (x : List It × Nat × Nat) : Bare (encO x) := by unfold Bare encO rowA; simp only [stripWs, stripW, row_bare]
theorem encO_pure (x : List It × Nat × Nat) : puress (encO x) = true := by unfold encO rowA; simp only [puress, AV.pure, row_pure, Bool.and_self]
theorem row_inj : ∀ {a b : List It}, a.map It.av = b.map It.av → a = b
  | [], [], _ => rfl
  | [], _ :: _, h => by simp at h
  | _ :: _, [], h => by simp at h
  | x :: a, y :: b, h => by
    simp only [List.map_cons, List.cons.injEq] at h
    rw [It.av_inj h.1, row_inj h.2]
theorem encO_inj {a b : List It × Nat × Nat} (h : encO a = encO b) : a = b := by
  obtain ⟨l, p, m⟩ := a
  obtain ⟨l', p', m'⟩ := b
  simp only [encO, rowA, List.cons.injEq, AV.sl.injEq, AV.int.injEq, true_and, and_true] at h
  obtain ⟨h1, h2, h3⟩ := h
  rw [row_inj h1, show p = p' by omega, show m = m' by omega]

theorem strip_node {c0 : AObj} {cs cs' : List AV} {e : Option TypeId} {q : Int} (h : stripWs (boxf 15 [c0, .cells cs e]) cs = some cs') :
    strip [c0, .cells cs e] (.tup [.bp 1 0, .int .i64 q]) = some (.tup [.ip cs'.length [.agg cs'] 0 0, .int .i64 q]) := by
  have e1 : boxf 16 [c0, .cells cs e] 1 = some cs' := by
    show (match storeOf [c0, .cells cs e] 1 with | some (c, _) => stripWs (boxf 15 [c0, .cells cs e]) c | none => none) = some cs'
    exact h
  simp only [strip, stripW, stripWs, e1]

theorem seen_node {args : List AV} (ha : puress args = true) {c0 : AObj} {e : Option TypeId} {q : Int} (k o n t i x : Int) (l r : T) :
    Seen args (.tup [.bp 1 0, .int .i64 q]) [c0, .cells [.int .u8 k, .int .u8 o, .int .u64 n, .int .u8 t, .int .u8 i, .int .u8 x, l.av, r.av] e] (.tup [(T.node k o n t i x l r).av, .int .i64 q]) :=
  .inr ⟨rfl, ha, by
    have h : stripWs (boxf 15 [c0, .cells [.int .u8 k, .int .u8 o, .int .u64 n, .int .u8 t, .int .u8 i, .int .u8 x, l.av, r.av] e]) [.int .u8 k, .int .u8 o, .int .u64 n, .int .u8 t, .int .u8 i, .int .u8 x, l.av, r.av] =
        some [.int .u8 k, .int .u8 o, .int .u64 n, .int .u8 t, .int .u8 i, .int .u8 x, l.av, r.av] := by simp only [stripWs, stripW, T.bare]
    exact strip_node h⟩

theorem ofT_some {l : List It} {p : Nat} {x : It} (hx : l[p]? = some x) (n : Nat) : ofT (n + 1) l p =
      if x.k = 0 then (.node 0 0 x.n 0 0 0 .nil .nil, p + 1)
      else if x.k = 1 then (.node 1 0 0 0 x.i 0 .nil .nil, p + 1)
      else if x.k = 2 then (.node 2 0 0 x.t x.i 0 .nil .nil, p + 1)
      else if x.k = 3 then (.node 3 0 0 0 0 x.x .nil .nil, p + 1)
      else if x.k = 4 then (.node 4 x.o 0 0 0 0 (ofT n l (p + 1)).1 .nil, (ofT n l (p + 1)).2)
      else if x.k = 5 then (.node 5 x.o 0 0 0 0 (ofT n l (p + 1)).1 (ofT n l (ofT n l (p + 1)).2).1, (ofT n l (ofT n l (p + 1)).2).2)
      else (.node x.k 0 0 0 0 0 .nil .nil, p + 1) := by simp only [ofT, hx]

section
variable {call : CallA} {G : Globals}
theorem of_nil (l : List It) (p m : Nat) (h : l.length ≤ p ∨ m = 0) : ∃ r σ', evalFn call (drawA call G) G 3 i12 (encO (l, p, m)) [] = some (.ret r, σ') ∧ Seen (encO (l, p, m)) r σ' (outO (.nil, p)) := by
  by_cases h1 : l.length ≤ p
  · have e1 : ((l.length : Int) ≤ (p : Int)) = True := by simp only [eq_iff_iff, iff_true]; omega
    exact ⟨.tup [.nilp, .int .i64 p], _, by simp only [evalFn, params, List.length_cons, List.length_nil, Nat.reduceAdd, evalCode, evalOps, guardOk, evalOp, AX.ev, look, putE, val, evs, optEv, binA, intBin, wrapI, unA, callM, keepE_cons, keepE_nil, Nat.reduceEqDiff, if_true, if_false, reduceIte, Int.toNat_natCast, List.append_nil, List.nil_append, List.cons_append, decide_true, decide_false, bft, btf, btt, bff, Bool.false_eq_true, resultsA, oneOrTup, Option.map_some, Option.map_none, Bool.not_true, Bool.not_false, loadAt, storeAt, storeOf, partOf, List.getElem?_cons_zero, List.getElem?_cons_succ, List.set_cons_zero, List.set_cons_succ, AV.cells, AV.isCell, List.all_cons, List.all_nil, Bool.and_true, Bool.and_false, Bool.false_and, Bool.true_and, Bool.and_self, and_true, true_and, and_self, putAt, hasLabel, Bool.or_false, Bool.false_or, Bool.or_true, Bool.true_or, fillA, pickParts, pickSl, strBin, eqA, eqCell, ne_eq, not_true_eq_false, not_false_eq_true, Nat.reduceLeDiff, Nat.reduceLT, Nat.reduceMul, Nat.reduceSub, Nat.zero_add, Nat.add_zero, Option.bind_some, asNat, bounds2, reduceCtorEq, List.take_succ_cons, List.take_zero, List.drop_succ_cons, List.drop_zero, Nat.reduceBEq, List.take_nil, List.drop_nil, Int.reduceLE, Int.reduceLT, Int.reduceToNat, Int.toNat_zero, Int.reduceBEq, Int.le_refl, Nat.le_refl, b2s, srcRow, binA, beq_self_eq_true, bne_self_eq_false, minI, maxI, foldI, Bool.not_not, Int.lt_irrefl, gt_iff_lt, ge_iff_le, List.length_map, AV.undef, i12, encO, rowA, e1]; rfl, seen_flat rfl⟩
  · have e1 : ((l.length : Int) ≤ (p : Int)) = False := by simp only [eq_iff_iff, iff_false]; omega
    have hm : m = 0 := by omega
    subst hm
    have z : (((0 : Nat) : Int) == 0) = true := rfl
    exact ⟨.tup [.nilp, .int .i64 p], _, by simp only [evalFn, params, List.length_cons, List.length_nil, Nat.reduceAdd, evalCode, evalOps, guardOk, evalOp, AX.ev, look, putE, val, evs, optEv, binA, intBin, wrapI, unA, callM, keepE_cons, keepE_nil, Nat.reduceEqDiff, if_true, if_false, reduceIte, Int.toNat_natCast, List.append_nil, List.nil_append, List.cons_append, decide_true, decide_false, bft, btf, btt, bff, Bool.false_eq_true, resultsA, oneOrTup, Option.map_some, Option.map_none, Bool.not_true, Bool.not_false, loadAt, storeAt, storeOf, partOf, List.getElem?_cons_zero, List.getElem?_cons_succ, List.set_cons_zero, List.set_cons_succ, AV.cells, AV.isCell, List.all_cons, List.all_nil, Bool.and_true, Bool.and_false, Bool.false_and, Bool.true_and, Bool.and_self, and_true, true_and, and_self, putAt, hasLabel, Bool.or_false, Bool.false_or, Bool.or_true, Bool.true_or, fillA, pickParts, pickSl, strBin, eqA, eqCell, ne_eq, not_true_eq_false, not_false_eq_true, Nat.reduceLeDiff, Nat.reduceLT, Nat.reduceMul, Nat.reduceSub, Nat.zero_add, Nat.add_zero, Option.bind_some, asNat, bounds2, reduceCtorEq, List.take_succ_cons, List.take_zero, List.drop_succ_cons, List.drop_zero, Nat.reduceBEq, List.take_nil, List.drop_nil, Int.reduceLE, Int.reduceLT, Int.reduceToNat, Int.toNat_zero, Int.reduceBEq, Int.le_refl, Nat.le_refl, b2s, srcRow, binA, beq_self_eq_true, bne_self_eq_false, minI, maxI, foldI, Bool.not_not, Int.lt_irrefl, gt_iff_lt, ge_iff_le, List.length_map, AV.undef, i12, encO, rowA, e1, z]; rfl, seen_flat rfl⟩

theorem of_node (l : List It) (p m : Nat) (x : It) (hx : l[p]? = some x) (hlen : l.length ≤ 1000) (hm : m < 1000)
    (h12 : ∀ (q : Nat) σ, q ≤ l.length → callC call 12 [rowA l, .int .i64 q, .int .i64 m] σ = some (.ret (outO (ofT m l q)), σ)) :
    ∃ r σ', evalFn call (drawA call G) G 3 i12 (encO (l, p, m + 1)) [] = some (.ret r, σ') ∧ Seen (encO (l, p, m + 1)) r σ' (outO (ofT (m + 1) l p)) := by
  have hp := (List.getElem?_eq_some_iff.1 hx).1
  have hR : (l.map It.av)[p]? = some x.av := by rw [List.getElem?_map, hx]; rfl
  have e0 : (0 ≤ (p : Int)) = True := by simp
  have e1 : ((l.length : Int) ≤ (p : Int)) = False := by simp only [eq_iff_iff, iff_false]; omega
  have e2 : ((p : Int) < (l.length : Int)) = True := by simp only [eq_iff_iff, iff_true]; omega
  have ez : (((m + 1 : Nat) : Int) == 0) = false := by rw [beq_eq_false_iff_ne]; omega
  have w1 : IntKind.i64.wrap ((p : Int) + 1) = ((p + 1 : Nat) : Int) := by rw [wrap_i64] <;> omega
  have w2 : IntKind.i64.wrap (((m + 1 : Nat) : Int) - 1) = (m : Int) := by rw [wrap_i64] <;> omega
  have hA := fun σ => h12 (p + 1) σ (by omega)
  have hle := ofT_le m l (p + 1) (by omega)
  have hB := fun σ => h12 (ofT m l (p + 1)).2 σ hle.2
  simp only [rowA, outO] at hA hB
  have pu := encO_pure (l, p, m + 1)
  have hof := ofT_some hx m
  obtain ⟨k, o, n, t, i, xx⟩ := x
  simp only at hof
  simp only [It.av] at hR
  rw [hof]
  by_cases h0 : k = 0
  · subst h0; rw [if_pos rfl]
    exact ⟨.tup [.bp 1 0, .int .i64 (p + 1 : Nat)], _, by simp only [evalFn, params, List.length_cons, List.length_nil, Nat.reduceAdd, evalCode, evalOps, guardOk, evalOp, AX.ev, look, putE, val, evs, optEv, binA, intBin, wrapI, unA, callM, keepE_cons, keepE_nil, Nat.reduceEqDiff, if_true, if_false, reduceIte, Int.toNat_natCast, List.append_nil, List.nil_append, List.cons_append, decide_true, decide_false, bft, btf, btt, bff, Bool.false_eq_true, resultsA, oneOrTup, Option.map_some, Option.map_none, Bool.not_true, Bool.not_false, loadAt, storeAt, storeOf, partOf, List.getElem?_cons_zero, List.getElem?_cons_succ, List.set_cons_zero, List.set_cons_succ, ic_bool, ce_bool, ic_int, ce_int, ic_str, ce_str, ic_flt, ce_flt, ic_cplx, ce_cplx, ic_nilp, ce_nilp, ic_ip, ce_ip, ic_bp, ce_bp, ic_sl, ce_sl, ic_bs, ce_bs, ic_nilm, ce_nilm, ic_map, ce_map, ic_fn, ce_fn, ic_nilf, ce_nilf, ic_iface, ce_iface, ic_nili, ce_nili, ic_agg, ce_agg, List.all_cons, List.all_nil, Bool.and_true, Bool.and_false, Bool.false_and, Bool.true_and, Bool.and_self, and_true, true_and, and_self, putAt, hasLabel, Bool.or_false, Bool.false_or, Bool.or_true, Bool.true_or, fillA, pickParts, pickSl, strBin, eqA, eqCell, ne_eq, not_true_eq_false, not_false_eq_true, Nat.reduceLeDiff, Nat.reduceLT, Nat.reduceMul, Nat.reduceSub, Nat.zero_add, Nat.add_zero, Option.bind_some, asNat, bounds2, reduceCtorEq, List.take_succ_cons, List.take_zero, List.drop_succ_cons, List.drop_zero, Nat.reduceBEq, List.take_nil, List.drop_nil, Int.reduceLE, Int.reduceLT, Int.reduceToNat, Int.toNat_zero, Int.reduceBEq, Int.le_refl, Nat.le_refl, b2s, srcRow, binA, beq_self_eq_true, bne_self_eq_false, minI, maxI, foldI, Bool.not_not, Int.lt_irrefl, gt_iff_lt, ge_iff_le, List.length_map, AV.undef, i12, encO, rowA, e0, e1, e2, ez, w1, hR]; rfl, seen_node pu _ _ _ _ _ _ .nil .nil⟩
  rw [if_neg h0]
  by_cases h1 : k = 1
  · subst h1; rw [if_pos rfl]
    exact ⟨.tup [.bp 1 0, .int .i64 (p + 1 : Nat)], _, by simp only [evalFn, params, List.length_cons, List.length_nil, Nat.reduceAdd, evalCode, evalOps, guardOk, evalOp, AX.ev, look, putE, val, evs, optEv, binA, intBin, wrapI, unA, callM, keepE_cons, keepE_nil, Nat.reduceEqDiff, if_true, if_false, reduceIte, Int.toNat_natCast, List.append_nil, List.nil_append, List.cons_append, decide_true, decide_false, bft, btf, btt, bff, Bool.false_eq_true, resultsA, oneOrTup, Option.map_some, Option.map_none, Bool.not_true, Bool.not_false, loadAt, storeAt, storeOf, partOf, List.getElem?_cons_zero, List.getElem?_cons_succ, List.set_cons_zero, List.set_cons_succ, ic_bool, ce_bool, ic_int, ce_int, ic_str, ce_str, ic_flt, ce_flt, ic_cplx, ce_cplx, ic_nilp, ce_nilp, ic_ip, ce_ip, ic_bp, ce_bp, ic_sl, ce_sl, ic_bs, ce_bs, ic_nilm, ce_nilm, ic_map, ce_map, ic_fn, ce_fn, ic_nilf, ce_nilf, ic_iface, ce_iface, ic_nili, ce_nili, ic_agg, ce_agg, List.all_cons, List.all_nil, Bool.and_true, Bool.and_false, Bool.false_and, Bool.true_and, Bool.and_self, and_true, true_and, and_self, putAt, hasLabel, Bool.or_false, Bool.false_or, Bool.or_true, Bool.true_or, fillA, pickParts, pickSl, strBin, eqA, eqCell, ne_eq, not_true_eq_false, not_false_eq_true, Nat.reduceLeDiff, Nat.reduceLT, Nat.reduceMul, Nat.reduceSub, Nat.zero_add, Nat.add_zero, Option.bind_some, asNat, bounds2, reduceCtorEq, List.take_succ_cons, List.take_zero, List.drop_succ_cons, List.drop_zero, Nat.reduceBEq, List.take_nil, List.drop_nil, Int.reduceLE, Int.reduceLT, Int.reduceToNat, Int.toNat_zero, Int.reduceBEq, Int.le_refl, Nat.le_refl, b2s, srcRow, binA, beq_self_eq_true, bne_self_eq_false, minI, maxI, foldI, Bool.not_not, Int.lt_irrefl, gt_iff_lt, ge_iff_le, List.length_map, AV.undef, i12, encO, rowA, e0, e1, e2, ez, w1, hR]; rfl, seen_node pu _ _ _ _ _ _ .nil .nil⟩
  rw [if_neg h1]
  by_cases h2 : k = 2
  · subst h2; rw [if_pos rfl]
    exact ⟨.tup [.bp 1 0, .int .i64 (p + 1 : Nat)], _, by simp only [evalFn, params, List.length_cons, List.length_nil, Nat.reduceAdd, evalCode, evalOps, guardOk, evalOp, AX.ev, look, putE, val, evs, optEv, binA, intBin, wrapI, unA, callM, keepE_cons, keepE_nil, Nat.reduceEqDiff, if_true, if_false, reduceIte, Int.toNat_natCast, List.append_nil, List.nil_append, List.cons_append, decide_true, decide_false, bft, btf, btt, bff, Bool.false_eq_true, resultsA, oneOrTup, Option.map_some, Option.map_none, Bool.not_true, Bool.not_false, loadAt, storeAt, storeOf, partOf, List.getElem?_cons_zero, List.getElem?_cons_succ, List.set_cons_zero, List.set_cons_succ, ic_bool, ce_bool, ic_int, ce_int, ic_str, ce_str, ic_flt, ce_flt, ic_cplx, ce_cplx, ic_nilp, ce_nilp, ic_ip, ce_ip, ic_bp, ce_bp, ic_sl, ce_sl, ic_bs, ce_bs, ic_nilm, ce_nilm, ic_map, ce_map, ic_fn, ce_fn, ic_nilf, ce_nilf, ic_iface, ce_iface, ic_nili, ce_nili, ic_agg, ce_agg, List.all_cons, List.all_nil, Bool.and_true, Bool.and_false, Bool.false_and, Bool.true_and, Bool.and_self, and_true, true_and, and_self, putAt, hasLabel, Bool.or_false, Bool.false_or, Bool.or_true, Bool.true_or, fillA, pickParts, pickSl, strBin, eqA, eqCell, ne_eq, not_true_eq_false, not_false_eq_true, Nat.reduceLeDiff, Nat.reduceLT, Nat.reduceMul, Nat.reduceSub, Nat.zero_add, Nat.add_zero, Option.bind_some, asNat, bounds2, reduceCtorEq, List.take_succ_cons, List.take_zero, List.drop_succ_cons, List.drop_zero, Nat.reduceBEq, List.take_nil, List.drop_nil, Int.reduceLE, Int.reduceLT, Int.reduceToNat, Int.toNat_zero, Int.reduceBEq, Int.le_refl, Nat.le_refl, b2s, srcRow, binA, beq_self_eq_true, bne_self_eq_false, minI, maxI, foldI, Bool.not_not, Int.lt_irrefl, gt_iff_lt, ge_iff_le, List.length_map, AV.undef, puress, AV.pure, strip, drawA, goD, stepG, stepD, bornD, readsD, births, AOp.births, Eff.app, pairsD, loudsD, loudD, conflict, apart, AOp.shares, List.getD_cons_succ, List.getD_cons_zero, List.contains_cons, List.contains_nil, Bool.not_or, Option.getD_some, Option.getD_none, Nat.reduceBNe, List.replicate_zero, List.append_nil, i12, encO, rowA, e0, e1, e2, ez, w1, hR]; rfl, seen_node pu _ _ _ _ _ _ .nil .nil⟩
  rw [if_neg h2]
  by_cases h3 : k = 3
  · subst h3; rw [if_pos rfl]
    exact ⟨.tup [.bp 1 0, .int .i64 (p + 1 : Nat)], _, by simp only [evalFn, params, List.length_cons, List.length_nil, Nat.reduceAdd, evalCode, evalOps, guardOk, evalOp, AX.ev, look, putE, val, evs, optEv, binA, intBin, wrapI, unA, callM, keepE_cons, keepE_nil, Nat.reduceEqDiff, if_true, if_false, reduceIte, Int.toNat_natCast, List.append_nil, List.nil_append, List.cons_append, decide_true, decide_false, bft, btf, btt, bff, Bool.false_eq_true, resultsA, oneOrTup, Option.map_some, Option.map_none, Bool.not_true, Bool.not_false, loadAt, storeAt, storeOf, partOf, List.getElem?_cons_zero, List.getElem?_cons_succ, List.set_cons_zero, List.set_cons_succ, ic_bool, ce_bool, ic_int, ce_int, ic_str, ce_str, ic_flt, ce_flt, ic_cplx, ce_cplx, ic_nilp, ce_nilp, ic_ip, ce_ip, ic_bp, ce_bp, ic_sl, ce_sl, ic_bs, ce_bs, ic_nilm, ce_nilm, ic_map, ce_map, ic_fn, ce_fn, ic_nilf, ce_nilf, ic_iface, ce_iface, ic_nili, ce_nili, ic_agg, ce_agg, List.all_cons, List.all_nil, Bool.and_true, Bool.and_false, Bool.false_and, Bool.true_and, Bool.and_self, and_true, true_and, and_self, putAt, hasLabel, Bool.or_false, Bool.false_or, Bool.or_true, Bool.true_or, fillA, pickParts, pickSl, strBin, eqA, eqCell, ne_eq, not_true_eq_false, not_false_eq_true, Nat.reduceLeDiff, Nat.reduceLT, Nat.reduceMul, Nat.reduceSub, Nat.zero_add, Nat.add_zero, Option.bind_some, asNat, bounds2, reduceCtorEq, List.take_succ_cons, List.take_zero, List.drop_succ_cons, List.drop_zero, Nat.reduceBEq, List.take_nil, List.drop_nil, Int.reduceLE, Int.reduceLT, Int.reduceToNat, Int.toNat_zero, Int.reduceBEq, Int.le_refl, Nat.le_refl, b2s, srcRow, binA, beq_self_eq_true, bne_self_eq_false, minI, maxI, foldI, Bool.not_not, Int.lt_irrefl, gt_iff_lt, ge_iff_le, List.length_map, AV.undef, i12, encO, rowA, e0, e1, e2, ez, w1, hR]; rfl, seen_node pu _ _ _ _ _ _ .nil .nil⟩
  rw [if_neg h3]
  have c1 := T.isCell (ofT m l (p + 1)).1
  have c2 := T.isCell (ofT m l (ofT m l (p + 1)).2).1
  have d1 := T.cells (ofT m l (p + 1)).1
  have d2 := T.cells (ofT m l (ofT m l (p + 1)).2).1
  by_cases h4 : k = 4
  · subst h4; rw [if_pos rfl]
    exact ⟨.tup [.bp 1 0, .int .i64 (ofT m l (p + 1)).2], _, by simp only [evalFn, params, List.length_cons, List.length_nil, Nat.reduceAdd, evalCode, evalOps, guardOk, evalOp, AX.ev, look, putE, val, evs, optEv, binA, intBin, wrapI, unA, callM, keepE_cons, keepE_nil, Nat.reduceEqDiff, if_true, if_false, reduceIte, Int.toNat_natCast, List.append_nil, List.nil_append, List.cons_append, decide_true, decide_false, bft, btf, btt, bff, Bool.false_eq_true, resultsA, oneOrTup, Option.map_some, Option.map_none, Bool.not_true, Bool.not_false, loadAt, storeAt, storeOf, partOf, List.getElem?_cons_zero, List.getElem?_cons_succ, List.set_cons_zero, List.set_cons_succ, ic_bool, ce_bool, ic_int, ce_int, ic_str, ce_str, ic_flt, ce_flt, ic_cplx, ce_cplx, ic_nilp, ce_nilp, ic_ip, ce_ip, ic_bp, ce_bp, ic_sl, ce_sl, ic_bs, ce_bs, ic_nilm, ce_nilm, ic_map, ce_map, ic_fn, ce_fn, ic_nilf, ce_nilf, ic_iface, ce_iface, ic_nili, ce_nili, ic_agg, ce_agg, List.all_cons, List.all_nil, Bool.and_true, Bool.and_false, Bool.false_and, Bool.true_and, Bool.and_self, and_true, true_and, and_self, putAt, hasLabel, Bool.or_false, Bool.false_or, Bool.or_true, Bool.true_or, fillA, pickParts, pickSl, strBin, eqA, eqCell, ne_eq, not_true_eq_false, not_false_eq_true, Nat.reduceLeDiff, Nat.reduceLT, Nat.reduceMul, Nat.reduceSub, Nat.zero_add, Nat.add_zero, Option.bind_some, asNat, bounds2, reduceCtorEq, List.take_succ_cons, List.take_zero, List.drop_succ_cons, List.drop_zero, Nat.reduceBEq, List.take_nil, List.drop_nil, Int.reduceLE, Int.reduceLT, Int.reduceToNat, Int.toNat_zero, Int.reduceBEq, Int.le_refl, Nat.le_refl, b2s, srcRow, binA, beq_self_eq_true, bne_self_eq_false, minI, maxI, foldI, Bool.not_not, Int.lt_irrefl, gt_iff_lt, ge_iff_le, List.length_map, AV.undef, i12, encO, rowA, e0, e1, e2, ez, w1, w2, hR, hA, c1, d1]; rfl, seen_node pu _ _ _ _ _ _ _ .nil⟩
  rw [if_neg h4]
  by_cases h5 : k = 5
  · subst h5; rw [if_pos rfl]
    exact ⟨.tup [.bp 1 0, .int .i64 (ofT m l (ofT m l (p + 1)).2).2], _, by simp only [evalFn, params, List.length_cons, List.length_nil, Nat.reduceAdd, evalCode, evalOps, guardOk, evalOp, AX.ev, look, putE, val, evs, optEv, binA, intBin, wrapI, unA, callM, keepE_cons, keepE_nil, Nat.reduceEqDiff, if_true, if_false, reduceIte, Int.toNat_natCast, List.append_nil, List.nil_append, List.cons_append, decide_true, decide_false, bft, btf, btt, bff, Bool.false_eq_true, resultsA, oneOrTup, Option.map_some, Option.map_none, Bool.not_true, Bool.not_false, loadAt, storeAt, storeOf, partOf, List.getElem?_cons_zero, List.getElem?_cons_succ, List.set_cons_zero, List.set_cons_succ, ic_bool, ce_bool, ic_int, ce_int, ic_str, ce_str, ic_flt, ce_flt, ic_cplx, ce_cplx, ic_nilp, ce_nilp, ic_ip, ce_ip, ic_bp, ce_bp, ic_sl, ce_sl, ic_bs, ce_bs, ic_nilm, ce_nilm, ic_map, ce_map, ic_fn, ce_fn, ic_nilf, ce_nilf, ic_iface, ce_iface, ic_nili, ce_nili, ic_agg, ce_agg, List.all_cons, List.all_nil, Bool.and_true, Bool.and_false, Bool.false_and, Bool.true_and, Bool.and_self, and_true, true_and, and_self, putAt, hasLabel, Bool.or_false, Bool.false_or, Bool.or_true, Bool.true_or, fillA, pickParts, pickSl, strBin, eqA, eqCell, ne_eq, not_true_eq_false, not_false_eq_true, Nat.reduceLeDiff, Nat.reduceLT, Nat.reduceMul, Nat.reduceSub, Nat.zero_add, Nat.add_zero, Option.bind_some, asNat, bounds2, reduceCtorEq, List.take_succ_cons, List.take_zero, List.drop_succ_cons, List.drop_zero, Nat.reduceBEq, List.take_nil, List.drop_nil, Int.reduceLE, Int.reduceLT, Int.reduceToNat, Int.toNat_zero, Int.reduceBEq, Int.le_refl, Nat.le_refl, b2s, srcRow, binA, beq_self_eq_true, bne_self_eq_false, minI, maxI, foldI, Bool.not_not, Int.lt_irrefl, gt_iff_lt, ge_iff_le, List.length_map, AV.undef, i12, encO, rowA, e0, e1, e2, ez, w1, w2, hR, hA, hB, c1, c2, d1, d2]; rfl, seen_node pu _ _ _ _ _ _ _ _⟩
  rw [if_neg h5]
  exact ⟨.tup [.bp 1 0, .int .i64 (p + 1 : Nat)], _, by simp only [evalFn, params, List.length_cons, List.length_nil, Nat.reduceAdd, evalCode, evalOps, guardOk, evalOp, AX.ev, look, putE, val, evs, optEv, binA, intBin, wrapI, unA, callM, keepE_cons, keepE_nil, Nat.reduceEqDiff, if_true, if_false, reduceIte, Int.toNat_natCast, List.append_nil, List.nil_append, List.cons_append, decide_true, decide_false, bft, btf, btt, bff, Bool.false_eq_true, resultsA, oneOrTup, Option.map_some, Option.map_none, Bool.not_true, Bool.not_false, loadAt, storeAt, storeOf, partOf, List.getElem?_cons_zero, List.getElem?_cons_succ, List.set_cons_zero, List.set_cons_succ, ic_bool, ce_bool, ic_int, ce_int, ic_str, ce_str, ic_flt, ce_flt, ic_cplx, ce_cplx, ic_nilp, ce_nilp, ic_ip, ce_ip, ic_bp, ce_bp, ic_sl, ce_sl, ic_bs, ce_bs, ic_nilm, ce_nilm, ic_map, ce_map, ic_fn, ce_fn, ic_nilf, ce_nilf, ic_iface, ce_iface, ic_nili, ce_nili, ic_agg, ce_agg, List.all_cons, List.all_nil, Bool.and_true, Bool.and_false, Bool.false_and, Bool.true_and, Bool.and_self, and_true, true_and, and_self, putAt, hasLabel, Bool.or_false, Bool.false_or, Bool.or_true, Bool.true_or, fillA, pickParts, pickSl, strBin, eqA, eqCell, ne_eq, not_true_eq_false, not_false_eq_true, Nat.reduceLeDiff, Nat.reduceLT, Nat.reduceMul, Nat.reduceSub, Nat.zero_add, Nat.add_zero, Option.bind_some, asNat, bounds2, reduceCtorEq, List.take_succ_cons, List.take_zero, List.drop_succ_cons, List.drop_zero, Nat.reduceBEq, List.take_nil, List.drop_nil, Int.reduceLE, Int.reduceLT, Int.reduceToNat, Int.toNat_zero, Int.reduceBEq, Int.le_refl, Nat.le_refl, b2s, srcRow, binA, beq_self_eq_true, bne_self_eq_false, minI, maxI, foldI, Bool.not_not, Int.lt_irrefl, gt_iff_lt, ge_iff_le, List.length_map, AV.undef, i12, encO, rowA, e0, e1, e2, ez, w1, hR, ne_int h0, ne_int h1, ne_int h2, ne_int h3, ne_int h4, ne_int h5]; rfl, seen_node pu _ _ _ _ _ _ .nil .nil⟩
end
end Go.Pm
end

section
set_option linter.unusedSimpArgs false
set_option linter.unusedVariables false
set_option linter.unusedSectionVars false
/- The document's rows: layers up to the laws. -/
set_option maxRecDepth 100000
set_option linter.unusedSimpArgs false
set_option linter.unusedVariables false
namespace Go.Pm
open Go.Proofs Go.Proofs.YtehcekeccnlboaaDoor

def wfL (l : List It) : Prop := ∀ x ∈ l, x.wf
theorem encL_bare (x : List It × Nat) : Bare (encL x) := by unfold Bare encL rowA; simp only [stripWs, stripW, row_bare]
theorem encL_inj {a b : List It × Nat} (h : encL a = encL b) : a = b := by
  obtain ⟨l, p⟩ := a
  obtain ⟨l', p'⟩ := b
  simp only [encL, rowA, List.cons.injEq, AV.sl.injEq, AV.int.injEq, true_and, and_true] at h
  rw [row_inj h.1, show p = p' by omega]
def encR (l : List It) : List AV := [rowA l]
theorem encR_bare (x : List It) : Bare (encR x) := by unfold Bare encR rowA; simp only [stripWs, stripW, row_bare]
theorem encR_inj {a b : List It} (h : encR a = encR b) : a = b := by
  simp only [encR, rowA, List.cons.injEq, AV.sl.injEq, true_and, and_true] at h
  exact row_inj h

def eDom (n : Nat) (x : List It × Nat) : Prop := wfL x.1 ∧ x.1.length ≤ 60 ∧ x.1.length < x.2 + n ∧ 0 < n
noncomputable def sEnd (n : Nat) : Spec := pureS (encS encL (eDom n) fun x => outE (endZ x.1 x.2))
def rDom (l : List It) : Prop := wfL l ∧ l.length ≤ 60
def goodB (l : List It) : Bool := decide (0 ≤ (endZ l 0).1) && decide ((endZ l 0).2 ≤ 12)
def oDom (n : Nat) (x : List It × Nat × Nat) : Prop := x.1.length ≤ 60 ∧ x.2.1 ≤ x.1.length ∧ x.2.2 < n ∧ x.2.2 ≤ 100
noncomputable def sOf (n : Nat) : Spec := pureS (encS encO (oDom n) fun x => outO (ofT x.2.2 x.1 x.2.1))
noncomputable def rwE : CallA := orC (atF 19 (sEnd 100)) rwD
noncomputable def rwF : CallA := orC (atF 11 (pureS (encS encR rDom fun l => .tup [.int .i64 (endZ l 0).1, .bool (goodB l)]))) rwE
noncomputable def rwG : CallA := orC (atF 12 (sOf 50)) rwF
noncomputable def rwW : CallA := orC (atF 10 (pureS trueS)) rwG

theorem rwE_sound : CallS Tryd.prog exG rwE := by
  refine (CallS.encRec rwD_sound mixed exG_pure ok19 encL eDom _ (fun x h => absurd h.2.2.2 (by omega)) (fun n x hx => ?_) 100).or rwD_sound
  · obtain ⟨l, p⟩ := x
    obtain ⟨hw, hl, hn, _⟩ := hx
    simp only at hw hl hn
    refine ⟨encL_bare _, 3, outE (endZ l p), ?_⟩
    have self : Has (orC (atF 19 (sEnd n)) rwD) 19 encL (eDom n) fun x => outE (endZ x.1 x.2) := Has.self (fun _ _ _ _ h => by rw [encL_inj h]) (fun _ _ => encL_bare _) (fun _ _ => seen_flat rfl)
    cases hx : l[p]? with
    | none =>
      obtain ⟨σ', h⟩ := end_out (call := orC (atF 19 (sEnd n)) rwD) (G := exG) l p (by simpa using hx)
      exact ⟨σ', h, seen_flat rfl⟩
    | some x =>
      have hp := (List.getElem?_eq_some_iff.1 hx).1
      have hxw := hw x (List.mem_of_getElem? hx)
      obtain ⟨σ', h⟩ := end_in (call := orC (atF 19 (sEnd n)) rwD) (G := exG) l p x hx (by omega) (fun σ => ((rwC_parts.over (by decide)).over (by decide)) x σ hxw) (fun q σ h1 h2 => self (l, q) σ ⟨hw, hl, by simp only; omega, by omega⟩)
      exact ⟨σ', h, seen_flat rfl⟩
theorem rwE_end : Has rwE 19 encL (eDom 100) fun x => outE (endZ x.1 x.2) := Has.self (fun _ _ _ _ h => by rw [encL_inj h]) (fun _ _ => encL_bare _) (fun _ _ => seen_flat rfl)

theorem good_spec {call : CallA} {draw : DrawA} {G : Globals} (l : List It) (h19 : ∀ σ, callC call 19 [rowA l, .int .i64 0] σ = some (.ret (outE (endZ l 0)), σ)) :
    evalFn call draw G 0 i11 [rowA l] [] = some (.ret (.tup [.int .i64 (endZ l 0).1, .bool (goodB l)]), []) := by
  unfold goodB
  generalize endZ l 0 = r at h19 ⊢
  obtain ⟨e, d⟩ := r
  simp only [outE] at h19
  by_cases h1 : 0 ≤ e
  · by_cases h2 : d ≤ 12
    · have e2 : ((d : Int) ≤ 12) = True := by simp only [eq_iff_iff, iff_true]; omega
      simp only [evalFn, params, List.length_cons, List.length_nil, Nat.reduceAdd, evalCode, evalOps, guardOk, evalOp, AX.ev, look, putE, val, evs, optEv, binA, intBin, wrapI, unA, callM, keepE_cons, keepE_nil, Nat.reduceEqDiff, if_true, if_false, reduceIte, Int.toNat_natCast, List.append_nil, List.nil_append, List.cons_append, decide_true, decide_false, bft, btf, btt, bff, Bool.false_eq_true, resultsA, oneOrTup, Option.map_some, Option.map_none, Bool.not_true, Bool.not_false, loadAt, storeAt, storeOf, partOf, List.getElem?_cons_zero, List.getElem?_cons_succ, List.set_cons_zero, List.set_cons_succ, AV.cells, AV.isCell, List.all_cons, List.all_nil, Bool.and_true, Bool.and_false, Bool.false_and, Bool.true_and, Bool.and_self, and_true, true_and, and_self, putAt, hasLabel, Bool.or_false, Bool.false_or, Bool.or_true, Bool.true_or, fillA, pickParts, pickSl, strBin, eqA, eqCell, ne_eq, not_true_eq_false, not_false_eq_true, Nat.reduceLeDiff, Nat.reduceLT, Nat.reduceMul, Nat.reduceSub, Nat.zero_add, Nat.add_zero, Option.bind_some, asNat, bounds2, reduceCtorEq, List.take_succ_cons, List.take_zero, List.drop_succ_cons, List.drop_zero, Nat.reduceBEq, List.take_nil, List.drop_nil, Int.reduceLE, Int.reduceLT, Int.reduceToNat, Int.toNat_zero, Int.reduceBEq, Int.le_refl, Nat.le_refl, b2s, srcRow, binA, beq_self_eq_true, bne_self_eq_false, minI, maxI, foldI, Bool.not_not, Int.lt_irrefl, gt_iff_lt, ge_iff_le, List.length_map, AV.undef, i11, h19, h1, h2, e2]
    · have e2 : ((d : Int) ≤ 12) = False := by simp only [eq_iff_iff, iff_false]; omega
      simp only [evalFn, params, List.length_cons, List.length_nil, Nat.reduceAdd, evalCode, evalOps, guardOk, evalOp, AX.ev, look, putE, val, evs, optEv, binA, intBin, wrapI, unA, callM, keepE_cons, keepE_nil, Nat.reduceEqDiff, if_true, if_false, reduceIte, Int.toNat_natCast, List.append_nil, List.nil_append, List.cons_append, decide_true, decide_false, bft, btf, btt, bff, Bool.false_eq_true, resultsA, oneOrTup, Option.map_some, Option.map_none, Bool.not_true, Bool.not_false, loadAt, storeAt, storeOf, partOf, List.getElem?_cons_zero, List.getElem?_cons_succ, List.set_cons_zero, List.set_cons_succ, AV.cells, AV.isCell, List.all_cons, List.all_nil, Bool.and_true, Bool.and_false, Bool.false_and, Bool.true_and, Bool.and_self, and_true, true_and, and_self, putAt, hasLabel, Bool.or_false, Bool.false_or, Bool.or_true, Bool.true_or, fillA, pickParts, pickSl, strBin, eqA, eqCell, ne_eq, not_true_eq_false, not_false_eq_true, Nat.reduceLeDiff, Nat.reduceLT, Nat.reduceMul, Nat.reduceSub, Nat.zero_add, Nat.add_zero, Option.bind_some, asNat, bounds2, reduceCtorEq, List.take_succ_cons, List.take_zero, List.drop_succ_cons, List.drop_zero, Nat.reduceBEq, List.take_nil, List.drop_nil, Int.reduceLE, Int.reduceLT, Int.reduceToNat, Int.toNat_zero, Int.reduceBEq, Int.le_refl, Nat.le_refl, b2s, srcRow, binA, beq_self_eq_true, bne_self_eq_false, minI, maxI, foldI, Bool.not_not, Int.lt_irrefl, gt_iff_lt, ge_iff_le, List.length_map, AV.undef, i11, h19, h1, h2, e2]
  · simp only [evalFn, params, List.length_cons, List.length_nil, Nat.reduceAdd, evalCode, evalOps, guardOk, evalOp, AX.ev, look, putE, val, evs, optEv, binA, intBin, wrapI, unA, callM, keepE_cons, keepE_nil, Nat.reduceEqDiff, if_true, if_false, reduceIte, Int.toNat_natCast, List.append_nil, List.nil_append, List.cons_append, decide_true, decide_false, bft, btf, btt, bff, Bool.false_eq_true, resultsA, oneOrTup, Option.map_some, Option.map_none, Bool.not_true, Bool.not_false, loadAt, storeAt, storeOf, partOf, List.getElem?_cons_zero, List.getElem?_cons_succ, List.set_cons_zero, List.set_cons_succ, AV.cells, AV.isCell, List.all_cons, List.all_nil, Bool.and_true, Bool.and_false, Bool.false_and, Bool.true_and, Bool.and_self, and_true, true_and, and_self, putAt, hasLabel, Bool.or_false, Bool.false_or, Bool.or_true, Bool.true_or, fillA, pickParts, pickSl, strBin, eqA, eqCell, ne_eq, not_true_eq_false, not_false_eq_true, Nat.reduceLeDiff, Nat.reduceLT, Nat.reduceMul, Nat.reduceSub, Nat.zero_add, Nat.add_zero, Option.bind_some, asNat, bounds2, reduceCtorEq, List.take_succ_cons, List.take_zero, List.drop_succ_cons, List.drop_zero, Nat.reduceBEq, List.take_nil, List.drop_nil, Int.reduceLE, Int.reduceLT, Int.reduceToNat, Int.toNat_zero, Int.reduceBEq, Int.le_refl, Nat.le_refl, b2s, srcRow, binA, beq_self_eq_true, bne_self_eq_false, minI, maxI, foldI, Bool.not_not, Int.lt_irrefl, gt_iff_lt, ge_iff_le, List.length_map, AV.undef, i11, h19, h1]
theorem rwF_sound : CallS Tryd.prog exG rwF :=
  (CallS.enc rwE_sound mixed exG_pure ok11 encR rDom _ fun l hl => ⟨encR_bare l, 0, .tup [.int .i64 (endZ l 0).1, .bool (goodB l)], [],
    good_spec l (fun σ => rwE_end (l, 0) σ ⟨hl.1, hl.2, by have := hl.2; simp only; omega, by omega⟩), seen_flat rfl⟩).or rwE_sound
theorem rwF_good : Has rwF 11 encR rDom fun l => .tup [.int .i64 (endZ l 0).1, .bool (goodB l)] := Has.self (fun _ _ _ _ h => by rw [encR_inj h]) (fun _ _ => encR_bare _) (fun _ _ => seen_flat rfl)

theorem strip_T (σ : Store) (t : T) (n : Nat) : strip σ (outO (t, n)) = some (outO (t, n)) := by
  unfold strip outO; simp only [stripW, stripWs, T.bare]
theorem seen_T {args : List AV} (ha : puress args = true) (t : T) (n : Nat) : Seen args (outO (t, n)) [] (outO (t, n)) := by
  by_cases h : (outO (t, n)).flatv = true
  · exact .inl ⟨h, rfl⟩
  · exact .inr ⟨by simpa using h, ha, strip_T [] t n⟩
theorem rwG_sound : CallS Tryd.prog exG rwG := by
  refine (CallS.encRec rwF_sound mixed exG_pure ok12 encO oDom _ (fun x h => absurd h.2.2.1 (by omega)) (fun n x hx => ?_) 50).or rwF_sound
  obtain ⟨l, p, m⟩ := x
  obtain ⟨hl, hp, hn, hm⟩ := hx
  simp only at hl hp hn hm
  refine ⟨encO_bare _, 3, ?_⟩
  have self : Has (orC (atF 12 (sOf n)) rwF) 12 encO (oDom n) fun x => outO (ofT x.2.2 x.1 x.2.1) := Has.self (fun _ _ _ _ h => by rw [encO_inj h]) (fun _ _ => encO_bare _) (fun x _ => seen_T (encO_pure x) _ _)
  cases m with
  | zero =>
    have h := of_nil (call := orC (atF 12 (sOf n)) rwF) (G := exG) l p 0 (.inr rfl)
    exact h
  | succ m =>
    cases hx : l[p]? with
    | none =>
      have h := of_nil (call := orC (atF 12 (sOf n)) rwF) (G := exG) l p (m + 1) (.inl (by simpa using hx))
      have e : ofT (m + 1) l p = (.nil, p) := by simp only [ofT, hx]
      rw [e]
      exact h
    | some x => exact of_node (call := orC (atF 12 (sOf n)) rwF) (G := exG) l p m x hx (by omega) (by omega) fun q σ hq => self (l, q, m) σ ⟨hl, hq, by simp only; omega, by simp only; omega⟩
theorem rwG_of : Has rwG 12 encO (oDom 50) fun x => outO (ofT x.2.2 x.1 x.2.1) := Has.self (fun _ _ _ _ h => by rw [encO_inj h]) (fun _ _ => encO_bare _) (fun x _ => seen_T (encO_pure x) _ _)

/-! All of them -/
theorem wake_sound : CallS Tryd.prog exG (atF 10 (pureS trueS)) := (runP_sound exG_pure 200).closed exG_pure (isTrue_some wakes10)
theorem rwW_sound : CallS Tryd.prog exG rwW := wake_sound.or rwG_sound
theorem rwW_wakes (σ : Store) : callC rwW 10 [] σ = some (.ret (.bool true), σ) := callC_eq rfl (by unfold rwW orC atF pureS trueS; rfl) (seen_flat rfl)
theorem rwW_of : Has rwW 12 encO (oDom 50) fun x => outO (ofT x.2.2 x.1 x.2.1) := rwG_of.over (by decide)
theorem rwW_good : Has rwW 11 encR rDom fun l => .tup [.int .i64 (endZ l 0).1, .bool (goodB l)] := (rwF_good.over (by decide)).over (by decide)
theorem rwW_end : Has rwW 19 encL (eDom 100) fun x => outE (endZ x.1 x.2) := ((rwE_end.over (by decide)).over (by decide)).over (by decide)
theorem rwW_alike : Has rwW 13 encII (fun _ => True) fun x => .bool (alikeB x.1 x.2) := (((rwD_alike.over (by decide)).over (by decide)).over (by decide)).over (by decide)
theorem upW {f : FuncId} {X : Type} {enc : X → List AV} {dom : X → Prop} {out : X → AV} (h : Has smZ f enc dom out) (h1 : f ≠ 95) (h2 : f ≠ 96) (h3 : f ≠ 47) (h4 : f ≠ 13) (h5 : f ≠ 19) (h6 : f ≠ 11) (h7 : f ≠ 12) (h8 : f ≠ 10) : Has rwW f enc dom out :=
  (((((((h.over h1).over h2).over h3).over h4).over h5).over h6).over h7).over h8
theorem rwW_same : Has rwW 14 encTT (fun x => okT x.1 ∧ okT x.2) fun x => .bool (sameM x.1 x.2) := upW smZ_same (by decide) (by decide) (by decide) (by decide) (by decide) (by decide) (by decide) (by decide)
theorem rwW_text : Has rwW 15 encT (fun t => t.wf ∧ t.height ≤ 20) fun t => .str (textM t) := upW smZ_text (by decide) (by decide) (by decide) (by decide) (by decide) (by decide) (by decide) (by decide)
theorem rwW_may : Has rwW 16 encT (fun t => t.wf ∧ t.height < 60) fun t => .bool (mayT t) := upW smZ_may (by decide) (by decide) (by decide) (by decide) (by decide) (by decide) (by decide) (by decide)

/-! Trees of rows are sound -/
theorem ofT_height : ∀ (n : Nat) (l : List It) (p : Nat), (ofT n l p).1.height ≤ n
  | 0, l, p => by simp [ofT, T.height]
  | n + 1, l, p => by
    simp only [ofT]
    split
    · simp [T.height]
    · have h1 := ofT_height n l (p + 1)
      have h2 := ofT_height n l (ofT n l (p + 1)).2
      repeat' split
      all_goals (simp only [T.height]; omega)
theorem ofT_wf : ∀ (n : Nat) (l : List It) (p : Nat), wfL l → (ofT n l p).1.wf
  | 0, l, p, _ => by simp [ofT, T.wf]
  | n + 1, l, p, hw => by
    simp only [ofT]
    split
    · simp [T.wf]
    · rename_i x hx
      obtain ⟨hk, ho, hn, ht, hi, hxx⟩ := hw x (List.mem_of_getElem? hx)
      have h1 := ofT_wf n l (p + 1) hw
      have h2 := ofT_wf n l (ofT n l (p + 1)).2 hw
      have z8 : u8 0 := by unfold u8; omega
      have z64 : u64 0 := by unfold u64; omega
      repeat' split
      all_goals simp only [T.wf]
      all_goals (refine ⟨?_, ?_, ?_, ?_, ?_, ?_, ?_, ?_⟩ <;> first | trivial | assumption | (unfold u8; omega))
theorem okT_of (l : List It) (p : Nat) (hw : wfL l) : okT (ofT 20 l p).1 := ⟨ofT_wf 20 l p hw, ofT_height 20 l p⟩
end Go.Pm
end
