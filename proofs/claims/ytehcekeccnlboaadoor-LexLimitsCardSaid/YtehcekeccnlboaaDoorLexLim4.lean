/- Proof that LexLimits (the greatest number and one more, a text as long as may be and one more) returns true, for the program as translated, under the conditions of its given row and card: over a machine on plain data that is proved sound for the model. Part 5 of 5: PmxPure, DLexC, DRowLim -/
import Derived.Test.YtehcekeccnlboaaDoorLexLim3
import Derived.KernelRfl
import Derived.SevenTiedAt
import Derived.LaidMore

section
set_option linter.unusedSimpArgs false
set_option linter.unusedVariables false
set_option linter.unusedSectionVars false
/- The pure machine: specifications that see nothing of the store. -/
set_option linter.unusedVariables false
namespace Go.Pm
variable {P : Program} {G : Globals}

theorem CallS.close {call : CallA} (hc : CallS P G call) (hG : GPure G) : CallS P G (callC call) := by
  intro f args σ r σ' h
  refine ⟨?_, fun B C w vs sr gr ha => (callC_sound hc hG h sr gr ha).2⟩
  unfold callC at h
  split at h
  · cases h
  · rename_i args' _
    split at h
    · rename_i v σ1 hr
      exact (hc f args' [] _ _ hr).1
    · rename_i v σ1 hr
      exact (hc f args' [] _ _ hr).1
    · cases h

mutual
theorem stripW_some (f g : Nat → Option (List AV)) (hf : ∀ i, f i = none) : ∀ v r : AV, stripW f v = some r → stripW g v = some r
  | .ip sz row i off, r, h => by
    simp only [stripW] at h ⊢
    split at h
    · rename_i r' hr; rw [stripWs_some f g hf _ _ hr]; exact h
    · cases h
  | .sl sz row cap, r, h => by
    simp only [stripW] at h ⊢
    split at h
    · rename_i r' hr; rw [stripWs_some f g hf _ _ hr]; exact h
    · cases h
  | .agg cs, r, h => by
    simp only [stripW] at h ⊢
    split at h
    · rename_i r' hr; rw [stripWs_some f g hf _ _ hr]; exact h
    · cases h
  | .tup cs, r, h => by
    simp only [stripW] at h ⊢
    split at h
    · rename_i r' hr; rw [stripWs_some f g hf _ _ hr]; exact h
    · cases h
  | .iface t v, r, h => by
    simp only [stripW] at h ⊢
    split at h
    · rename_i r' hr; rw [stripW_some f g hf _ _ hr]; exact h
    · cases h
  | .fn k a b, r, h => by
    simp only [stripW] at h ⊢
    split at h
    · rename_i r1 r2 hr1 hr2; rw [stripWs_some f g hf _ _ hr1, stripWs_some f g hf _ _ hr2]; exact h
    · cases h
  | .bp id off, r, h => by simp [stripW, hf] at h
  | .bs .., r, h => by simp [stripW, hf] at h
  | .map _, r, h => by simp [stripW] at h
  | .bool _, r, h | .int .., r, h | .str _, r, h | .flt .., r, h | .cplx .., r, h | .nilp, r, h | .nilm, r, h | .nilf, r, h | .nili, r, h => h
theorem stripWs_some (f g : Nat → Option (List AV)) (hf : ∀ i, f i = none) : ∀ v r : List AV, stripWs f v = some r → stripWs g v = some r
  | [], r, h => h
  | v :: l, r, h => by
    simp only [stripWs] at h ⊢
    split at h
    · rename_i r1 r2 h1 h2; rw [stripW_some f g hf _ _ h1, stripWs_some f g hf _ _ h2]; exact h
    · cases h
end

/-- Values that stripping leaves as they are. -/
def Bare (vs : List AV) : Prop := stripWs (fun _ => none) vs = some vs

theorem Bare.strips {vs : List AV} (h : Bare vs) (σ : Store) : Go.Pm.strips σ vs = some vs := stripWs_some _ _ (fun _ => rfl) _ _ h

/-- How a run's answer looks from outside. -/
def Seen (args : List AV) (r : AV) (σ' : Store) (v : AV) : Prop := (r.flatv = true ∧ v = r) ∨ (r.flatv = false ∧ puress args = true ∧ strip σ' r = some v)

theorem callC_eq {call : CallA} {f : FuncId} {args : List AV} {r v : AV} {σ σ' : Store} (hb : Bare args) (h : call f args [] = some (.ret r, σ')) (hs : Seen args r σ' v) : callC call f args σ = some (.ret v, σ) := by
  unfold callC
  rw [hb.strips]
  simp only [h]
  rcases hs with ⟨h1, rfl⟩ | ⟨h1, h2, h3⟩
  · rw [if_pos h1]
  · rw [if_neg (by simp [h1]), if_pos h2, h3]

/-- A function that sees nothing of the store, over what its callees answer. -/
theorem CallS.pure {call : CallA} (hc : CallS P G call) (hm : P.follows .mixedOrders = true) (hG : GPure G) {f : FuncId} {af : AFunc} (hok : okAt P f af = true) {s : List AV → Option AV}
    (hs : ∀ args v, s args = some v → Bare args ∧ ∃ fuel r σ', evalFn call (drawA call G) G fuel af args [] = some (.ret r, σ') ∧ Seen args r σ' v) : CallS P G (atF f (pureS s)) := by
  intro g args σ r σ' h
  unfold atF at h
  split at h
  · rename_i e
    subst e
    unfold pureS at h
    split at h
    · rename_i v hv
      cases h
      obtain ⟨hb, fuel, r, σ', he, hse⟩ := hs args v hv
      have hS2 : CallS P G (atF g fun a σ => match σ with | [] => evalFn call (drawA call G) G fuel af a [] | _ => Option.none) :=
        CallS.step hc hm hG hok fun a σ r h => by
          cases σ with
          | nil => exact ⟨fuel, h⟩
          | cons _ _ => cases h
      have h2 : callC (atF g fun a σ => match σ with | [] => evalFn call (drawA call G) G fuel af a [] | _ => Option.none) g args σ = some (.ret v, σ) :=
        callC_eq hb (by unfold atF; rw [if_pos rfl]; exact he) hse
      exact hS2.close hG g args σ _ _ h2
    · cases h
  · cases h
end Go.Pm
end

section
set_option linter.unusedSimpArgs false
set_option linter.unusedVariables false
set_option linter.unusedSectionVars false
/- The lexer, as a pure function; what wakes it. -/
set_option maxRecDepth 100000
set_option linter.unusedSimpArgs false
set_option linter.unusedVariables false
namespace Go.Pm
open Go.Proofs

def lexV : List AV → Option AV
  | [.str t] => some (lexR t).av
  | _ => none

def lexP : CallA := atF 26 (pureS lexV)

theorem lexP_sound {G : Globals} (m : Int) (hG5 : G 5 = some [.int .i64 m]) (T : TypeId) (x : AV) (hG3 : G 3 = some [.iface T x]) (hG : GPure G) : CallS Tryd.prog G lexP := by
  have hm : Tryd.prog.follows .mixedOrders = true := by kernel_rfl
  have h := (lexD_sound (lexO_sound m hG5 T x hG3) lexO_calls hm hG).close hG
  intro f args σ r σ' h'
  unfold lexP atF at h'
  split at h'
  · rename_i e
    subst e
    unfold pureS lexV at h'
    split at h'
    · rename_i v hv
      split at hv
      · cases hv; cases h'
        exact h 26 _ σ _ _ (lexD_lexes (G := G) lexO_calls _ σ)
      · cases hv
    · cases h'
  · cases h'

theorem lexR_flat {text : List UInt8} {l : List AV} (h : lexR text = .ok l) : flatvs l = true := by
  unfold lexR at h
  split at h
  · cases h
  · exact lexF_flat _ _ _ _ _ rfl l h

theorem lexP_lexes : Lexes lexP := by
  intro text σ
  have h1 : lexP 26 [.str text] [] = some (.ret (lexR text).av, []) := by simp only [lexP, atF, if_true, pureS, lexV]
  cases hR : lexR text with
  | ok l =>
    rw [hR] at h1
    simp only [LexR.av] at h1
    simp only [callC, strips, stripWs, stripW, h1, AV.flatv, flatvs, Bool.false_and, puress, AV.pure, strip, stripWs_flat _ l (lexR_flat hR), LexR.av]
    rfl
  | err line col code =>
    rw [hR] at h1
    simp only [LexR.av] at h1
    simp only [callC, strips, stripWs, stripW, h1, AV.flatv, flatvs, Bool.false_and, puress, AV.pure, strip, LexR.av]
    rfl

theorem wakes25 {G : Globals} : ∃ σ', evalFn lexP (drawA lexP G) G 100 i25 [] [] = some (.ret (.bool true), σ') := by
  have h : (match evalFn lexP (drawA lexP G) G 100 i25 [] [] with | some (.ret (.bool true), _) => true | _ => false) = true := by kernel_rfl
  split at h
  · exact ⟨_, by assumption⟩
  · cases h

/-- The lexer, and what wakes it. -/
def lexW : CallA := orC (atF 25 (pureS fun a => match a with | [] => some (.bool true) | _ => none)) lexP

theorem lexW_sound {G : Globals} (m : Int) (hG5 : G 5 = some [.int .i64 m]) (T : TypeId) (x : AV) (hG3 : G 3 = some [.iface T x]) (hG : GPure G) : CallS Tryd.prog G lexW := by
  have hm : Tryd.prog.follows .mixedOrders = true := by kernel_rfl
  have hP := lexP_sound m hG5 T x hG3 hG
  refine (CallS.pure hP hm hG ok25 fun args v h => ?_).or hP
  cases args with
  | cons _ _ => cases h
  | nil =>
    cases h
    obtain ⟨σ', h⟩ := wakes25 (G := G)
    exact ⟨rfl, 100, _, σ', h, .inl ⟨rfl, rfl⟩⟩

theorem lexW_lexes : Lexes lexW := by
  intro text σ
  rw [← lexP_lexes text σ]
  have e : ∀ a σ, lexW 26 a σ = lexP 26 a σ := fun a σ => by
    simp only [lexW, orC, atF, show ¬ (26 = 25) by decide, if_false]
  simp only [callC, e]
end Go.Pm
end

section
set_option linter.unusedSimpArgs false
set_option linter.unusedVariables false
set_option linter.unusedSectionVars false
/- LexLimits: the statement. -/
set_option maxRecDepth 100000
namespace Go.Proofs.YtehcekeccnlboaaDoor
open Go.Pm

theorem lexLimits_go (W : World) (hL : laidMetH Tryd.prog Rows.lexLimitsRow.laid W) (hs : W.ShapedOpen Tryd.prog) :
    ∃ G : Globals, GR G (wctx W) ∧ ∀ xs, ShapedAll [] xs → ∃ (call : CallA) (σ' : Store), CallS Tryd.prog G call ∧ call 7 xs [] = some (.ret (.bool true), σ') := by
  have hl : laidMet Tryd.prog Rows.lexLimitsRow.laid W := hL
  obtain ⟨m, hm⟩ := lexGl_met hl (.tail _ (.tail _ (.tail _ (.head _)))) hs
  refine ⟨lookG (lexGl m), hm, ?_⟩
  intro xs has
  obtain rfl : xs = [] := has
  have hG := lexGl_pure m
  have hw := lexW_sound (G := lookG (lexGl m)) m rfl _ _ rfl hG
  obtain ⟨σ', h⟩ := lim_spec (call := lexW) (draw := drawA lexW (lookG (lexGl m))) (G := lookG (lexGl m)) (fuel := 6000) lexW_lexes (fun σ => rfl) (by omega)
  exact law_call hw mixed hG ok7 h

theorem lexLimits_door (os : Os) (args : Array Value) : laidMetH Tryd.prog Rows.lexLimitsRow.laid ((World.doorLaid Tryd.prog 400 os).forCall (fun _ _ => 0) ⟨#[], args, []⟩).memory :=
  laidMetH_of_parts3 (fuel := 8) (laidMet_of_run' 8 (by kernel_rfl) (by kernel_rfl)) (by kernel_rfl) (by kernel_rfl)

theorem lexLimits_lifted (os : Os) (started : os.Started) (H : Type) (enc : TypeId × Value → H) :
    ReturnsInHanded {} Tryd.checked os 7 .any (fun w args => (Rows.lexLimitsSpec.pre enc Tryd.prog Tryd.f7 [] false w args ∧ laidMetH Tryd.prog Rows.lexLimitsRow.laid w) ∧ sizedMet enc Tryd.prog Tryd.f7 (OpenSpec.ofChange Rows.lexLimitsSpec) false w args)
      (Rows.lexLimitsSpec.post enc Tryd.prog Tryd.f7 false true false false) :=
  law_lifted (C := Tryd.checked) 8 [] own started (by kernel_rfl) Tryd.func7
    (ChangeSpec.witness_shaped (enc := enc) (C := Tryd.checked) (os := os) (X := fun w _ => laidMetH Tryd.prog Rows.lexLimitsRow.laid w) false (World.doorLaid Tryd.prog 400 os) #[] 8 rfl (World.shaped_of_RefB (by kernel_rfl) (by kernel_rfl)) (by kernel_rfl) (by kernel_rfl) (by kernel_rfl) (lexLimits_door os _))
    rfl (fun ds h => by
      have : ds = [] := List.eq_nil_of_length_eq_zero (by rw [h]; rfl)
      subst this; rfl) (tb := 4) (by kernel_rfl) (by kernel_rfl) laidOut (by kernel_rfl) (by kernel_rfl) lexLimits_go

theorem lexLimits_row : Rows.LexLimitsSaid :=
  OpenClaim.holds_of_wide 7 Tryd.f7 rfl rfl rfl rfl rfl rfl rfl ⟨rfl, rfl, rfl, rfl, rfl⟩ rfl rfl rfl rfl rfl (by kernel_rfl) Tryd.func7 (by kernel_rfl)
    (of_decide_eq_true (by kernel_rfl)) (by unfold Func.isWrapper; rw [if_neg (by decide +kernel)]; exact ⟨rfl, rfl⟩)
    (fun os started H enc _ => lexLimits_lifted os started H enc)

theorem lexLimits_holds : Rows.LexLimitsCardSaid :=
  Claim7.holds_tied_plain_at .later [] [.data, .data, .data, .sentinel, .sentinel] true (true, "fb664ba62042774bf3f3f7a5c558e3e76a079831b744c089e1a6d58fa548ceb2") true
    lexLimits_row (fun _ h => by cases h) (by kernel_rfl) (fun _ h => by cases h) lexLimits_row_tie rfl ⟨rfl, rfl⟩ (by kernel_rfl) rfl
    (fun f fn hf hfn => by
      obtain rfl : f = 7 := Option.some.inj ((show Tryd.prog.funcNamed "troth/trothlaw02.LexLimits" = some 7 by kernel_rfl).symm.trans hf) |>.symm
      obtain rfl : fn = Tryd.f7 := (Option.some.inj (Tryd.func7.symm.trans hfn)).symm
      exact ⟨by kernel_rfl, fun j t ht => by
        have hp : Tryd.f7.params = #[] := by kernel_rfl
        rw [hp] at ht
        simp at ht⟩)
    (by kernel_rfl)
#print axioms lexLimits_holds
end Go.Proofs.YtehcekeccnlboaaDoor
end
