/- A machine on plain data, proved sound for the model, for the proofs of this seat; its conditions stand at each theorem. Here: PmxSB, PmxSC, PmxSG, PmxSD, PmxSE, PmxSH, PmxSI, PmxSF, PmxSpec, PmxPure, PmxTop, PmxEv, PmxLaw, PmxLib -/
import Derived.Test.YtehcekeccnlboaaDoorB0
import Derived.Scope
import Derived.Orders
import Derived.ChangeArms
import Derived.Laws.BitsLemmas
import Derived.Laws.Bits64
import Derived.Carry
import Derived.Handed
import Derived.LaidLaws
import Derived.LaidHandle
import Derived.OpenShut
import Derived.ProofKit
import Derived.Shelf.Vars
import Derived.JoinedOf
import Derived.Stop.Joined
import Derived.Lib.ParseIntB

section
set_option linter.unusedSimpArgs false
set_option linter.unusedVariables false
set_option linter.unusedSectionVars false
/- The pure machine: calls. -/
set_option linter.unusedSimpArgs false
set_option linter.unusedVariables false
namespace Go.Pm
open Go.RowKit (Below)

/-- What a call comes to. -/
def OutR (C : Ctx) (r : AOut) (e : Ending) : Prop :=
  match r with
  | .ret a => ∃ v, e = .returned v ∧ VR C a v
  | .pan a => ∃ v, e = .panicked [{ v := v, recovered := false }] ∧ VR C a v

/-- Calls that are tied to the model's. -/
def CallS (P : Program) (G : Globals) (call : CallA) : Prop :=
  ∀ f args σ r σ', call f args σ = some (r, σ') → (∃ fn, P.funcs[f]? = some fn ∧ fn.body.isSome = true ∧ (fn.name == "runtime.NumGoroutine") = false) ∧
    ∀ B C w vs, SR B C σ w → GR G C → VRs C args vs → Calls P f vs.toArray w fun e w' => ∃ C', Ctx.le B C C' ∧ SR B C' σ' w' ∧ Below B w w' ∧ OutR C' r e

/-- What is taken out of the store lies where cells are not written. -/
theorem stripW_both {C D : Ctx} {f : Nat → Option (List AV)} (him : ∀ b o v, C.im b o = some v → D.im b o = some v)
    (hf : ∀ id cs b, f id = some cs → C.bx id = some b → ∃ vs : List Value, VRs D cs vs ∧ ∀ (j : Nat) v, vs[j]? = some v → D.im b j = some v) :
    ∀ {a : AV} {v : Value}, VR C a v → ∀ a', stripW f a = some a' → VR D a' v := by
  have list : ∀ {asl : List AV} {vs : List Value}, (∀ (j : Nat) x v, asl[j]? = some x → vs[j]? = some v → ∀ a', stripW f x = some a' → VR D a' v) → asl.length = vs.length →
      ∀ as', stripWs f asl = some as' → VRs D as' vs := by
    intro asl
    induction asl with
    | nil => intro vs _ hl as' h; simp only [stripWs, Option.some.injEq] at h; subst h; exact ⟨hl, fun j x v hx => by simp at hx⟩
    | cons x asl ih =>
      intro vs h hl as' hs
      cases vs with
      | nil => simp at hl
      | cons v vs =>
        simp only [stripWs] at hs
        split at hs
        · rename_i x' r' h1 h2
          cases hs
          exact .cons (h 0 x v rfl rfl x' h1) (ih (fun j y u hy hu => h (j + 1) y u (by simpa using hy) (by simpa using hu)) (by simpa using hl) r' h2)
        · cases hs
  -- rows: the cells of the elements
  have rows : ∀ {sz : Nat} {row : List AV} {vs : List Value}, (∀ e, e ∈ row → e.cells.length = sz) → (flat row).length = vs.length → (∀ (j : Nat) x v, (flat row)[j]? = some x → vs[j]? = some v → ∀ a', stripW f x = some a' → VR D a' v) →
      ∀ row', stripWs f row = some row' → row'.length = row.length ∧ (∀ e, e ∈ row' → e.cells.length = sz) ∧ VRs D (flat row') vs := by
    intro sz row
    induction row with
    | nil =>
      intro vs _ hl _ row' h
      simp only [stripWs, Option.some.injEq] at h; subst h
      exact ⟨rfl, by simp, by simpa [flat] using hl, by simp [flat]⟩
    | cons e row ih =>
      intro vs hsz hl h row' hs
      simp only [stripWs] at hs
      split at hs
      · rename_i e' r' h1 h2
        cases hs
        have he : e.cells.length = sz := hsz e (by simp)
        rw [flat_cons] at hl h
        have hsplit : vs = vs.take sz ++ vs.drop sz := (List.take_append_drop _ _).symm
        have hl1 : (vs.take sz).length = sz := by simp at hl ⊢; omega
        obtain ⟨q1, q2, q3⟩ := ih (vs := vs.drop sz) (fun x hx => hsz x (by simp [hx])) (by simp at hl ⊢; omega)
          (fun j x v hx hv => h (sz + j) x v (by rw [List.getElem?_append_right (by omega)]; rw [he, Nat.add_sub_cancel_left]; exact hx) (by rw [List.getElem?_drop] at hv; exact hv)) r' h2
        have hcells : VRs D e'.cells (vs.take sz) := by
          have hc : ∀ (j : Nat) x v, e.cells[j]? = some x → (vs.take sz)[j]? = some v → ∀ a', stripW f x = some a' → VR D a' v := fun j x v hx hv => by
            have hj : j < sz := by rw [← he]; exact (List.getElem?_eq_some_iff.1 hx).1
            refine h j x v (by rw [List.getElem?_append_left (by omega)]; exact hx) ?_
            rw [List.getElem?_take] at hv
            simpa [hj] using hv
          cases e with
          | agg cs =>
            simp only [stripW] at h1
            split at h1
            · rename_i r h3
              cases h1
              exact list hc (by rw [hl1]; exact he) r h3
            · cases h1
          | _ =>
            have hone : ∀ {x : AV}, x.cells = [x] → (∀ a', stripW f x = some a' → a'.cells = [a']) → x.cells.length = sz → (∀ (j : Nat) y v, x.cells[j]? = some y → (vs.take sz)[j]? = some v → ∀ a', stripW f y = some a' → VR D a' v) → ∀ a', stripW f x = some a' → VRs D a'.cells (vs.take sz) := by
              intro x hx hx' hs1 hc a' ha
              rw [hx' a' ha]
              rw [hx] at hs1 hc
              simp only [List.length_singleton] at hs1
              subst hs1
              cases hvs : vs.take 1 with
              | nil => rw [hvs] at hl1; simp at hl1
              | cons v us =>
                have : us = [] := by rw [hvs] at hl1; simpa using hl1
                subst this
                exact .cons (hc 0 x v rfl (by rw [hvs]; rfl) a' ha) (.nil _)
            refine hone rfl ?_ he hc e' h1
            intro a' ha
            simp only [stripW] at ha
            first
              | (cases ha; done)
              | (cases ha; rfl)
              | (split at ha <;> first | (cases ha; rfl) | (split at ha <;> first | (cases ha; rfl) | cases ha) | cases ha)
        refine ⟨by simp [q1], ?_, ?_⟩
        · intro x hx
          rcases List.mem_cons.1 hx with rfl | hx
          · rw [hcells.len, hl1]
          · exact q2 x hx
        · rw [flat_cons, hsplit]
          exact hcells.append q3
      · cases hs
  intro a v r
  induction r with
  | bool => intro a' h; simp only [stripW, Option.some.injEq] at h; subst h; exact .bool
  | int => intro a' h; simp only [stripW, Option.some.injEq] at h; subst h; exact .int
  | str => intro a' h; simp only [stripW, Option.some.injEq] at h; subst h; exact .str
  | flt => intro a' h; simp only [stripW, Option.some.injEq] at h; subst h; exact .flt
  | cplx => intro a' h; simp only [stripW, Option.some.injEq] at h; subst h; exact .cplx
  | nilp => intro a' h; simp only [stripW, Option.some.injEq] at h; subst h; exact .nilp
  | ip hsz hl hi hv ih =>
    intro a' h
    simp only [stripW] at h
    split at h
    · rename_i r' h1
      cases h
      obtain ⟨q1, q2, q3⟩ := rows hsz hl ih r' h1
      exact .ip q2 q3.len (fun j v hj => him _ _ _ (hi j v hj)) q3.at_
    · cases h
  | @bp id off b hb =>
    intro a' h
    simp only [stripW] at h
    split at h
    · rename_i c hc
      cases h
      obtain ⟨vs, k1, k2⟩ := hf id c b hc hb
      have := VR.ip (C := D) (sz := c.length) (row := [.agg c]) (i := 0) (off := off) (b := b) (o := 0) (vs := vs) (by simp [AV.cells]) (by simpa [flat, AV.cells] using k1.len) (by simpa using k2) (by simpa [flat, AV.cells] using k1.at_)
      simpa using this
    · cases h
  | sl0 =>
    intro a' h
    simp only [stripW, stripWs, Option.some.injEq] at h; subst h; exact .sl0
  | sl hsz hl hi hv hc ih =>
    intro a' h
    simp only [stripW] at h
    split at h
    · rename_i r' h1
      cases h
      obtain ⟨q1, q2, q3⟩ := rows hsz hl ih r' h1
      have := VR.sl (C := D) (cap := .no) q2 q3.len (fun j v hj => him _ _ _ (hi j v hj)) q3.at_ (show CapR D _ _ _ _ _ .no by rw [q1]; exact hc.le)
      rwa [q1] at this
    · cases h
  | @bs sz id off len b off' cc hb ho hc =>
    intro a' h
    simp only [stripW] at h
    split at h
    · rename_i c hcf
      split at h
      · rename_i hle
        cases h
        obtain ⟨hle, hcell⟩ := hle
        obtain ⟨vs, k1, k2⟩ := hf id c b hcf hb
        have hl : ((c.drop off).take (len * sz)).length = len * sz := by simp; omega
        have hca : ((c.drop off).take (len * sz)).all AV.isCell = true := by
          rw [List.all_eq_true] at hcell ⊢
          exact fun x hx => hcell x (List.mem_of_mem_drop (List.mem_of_mem_take hx))
        obtain ⟨f1, f2, f3⟩ := rowOf_flat (sz := sz) (len := len) hl hca
        have r1 : VRs D (flat (rowOfCells sz len ((c.drop off).take (len * sz)))) ((vs.drop off).take (len * sz)) := by rw [f1]; exact (k1.drop _).take _
        rcases Nat.eq_zero_or_pos len with h0 | h0
        · subst h0
          have hnil : rowOfCells sz 0 ((c.drop off).take (0 * sz)) = [] := List.eq_nil_of_length_eq_zero f2
          rw [hnil]
          exact VR.sl (C := D) (sz := sz) (row := []) (cap := .no) (vs := []) (by simp) (by simp [flat]) (by simp) (by simp [flat]) (Nat.zero_le _)
        · have ho' : off' = off := by omega
          subst ho'
          have := VR.sl (C := D) (cap := .no) (b := b) (o := off') (c := cc) f3 r1.len (fun j v hj => by
            rw [List.getElem?_take] at hj
            split at hj
            · rw [List.getElem?_drop] at hj; exact k2 _ v hj
            · cases hj) r1.at_ (show CapR D _ _ _ _ _ .no by rw [f2]; exact hc)
          rwa [f2] at this
      · cases h
    · cases h
  | nilm => intro a' h; simp only [stripW, Option.some.injEq] at h; subst h; exact .nilm
  | map hb => intro a' h; simp [stripW] at h
  | fn hla hlb ha hb iha ihb =>
    intro a' h
    simp only [stripW] at h
    split at h
    · rename_i x y h1 h2
      cases h
      have r1 := list iha hla x h1
      have r2 := list ihb hlb y h2
      exact .fn r1.len r2.len r1.at_ r2.at_
    · cases h
  | nilf => intro a' h; simp only [stripW, Option.some.injEq] at h; subst h; exact .nilf
  | iface _ ih =>
    intro a' h
    simp only [stripW] at h
    split at h
    · rename_i r' h1
      cases h
      exact .iface (ih r' h1)
    · cases h
  | nili => intro a' h; simp only [stripW, Option.some.injEq] at h; subst h; exact .nili
  | agg hl h0 ih =>
    intro a' h
    simp only [stripW] at h
    split at h
    · rename_i r' h1
      cases h
      have r1 := list ih hl r' h1
      exact .agg r1.len r1.at_
    · cases h
  | tup hl h0 ih =>
    intro a' h
    simp only [stripW] at h
    split at h
    · rename_i r' h1
      cases h
      have r1 := list ih hl r' h1
      exact .tup r1.len r1.at_
    · cases h

end Go.Pm
end

section
set_option linter.unusedSimpArgs false
set_option linter.unusedVariables false
set_option linter.unusedSectionVars false
/- The pure machine: calls that see nothing of the store. -/
set_option linter.unusedSimpArgs false
set_option linter.unusedVariables false
namespace Go.Pm
open Go.RowKit (Below)

theorem stripWs_sound {C D : Ctx} {f : Nat → Option (List AV)} (him : ∀ b o v, C.im b o = some v → D.im b o = some v)
    (hf : ∀ id cs b, f id = some cs → C.bx id = some b → ∃ vs : List Value, VRs D cs vs ∧ ∀ (j : Nat) v, vs[j]? = some v → D.im b j = some v) :
    ∀ {asl : List AV} {vs : List Value}, VRs C asl vs → ∀ as', stripWs f asl = some as' → VRs D as' vs := by
  intro asl
  induction asl with
  | nil => intro vs h as' hs; simp only [stripWs, Option.some.injEq] at hs; subst hs; obtain rfl := h.nil_inv; exact .nil _
  | cons a asl ih =>
    intro vs h as' hs
    obtain ⟨v, us, rfl, h1, h2⟩ := h.cons_inv
    simp only [stripWs] at hs
    split at hs
    · rename_i x r k1 k2
      cases hs
      exact .cons (stripW_both him hf h1 _ k1) (ih h2 _ k2)
    · cases hs

theorem boxf_sound {B : Nat} {C D : Ctx} {σ : Store} {w : World} (sr : SR B C σ w) (him : ∀ b o v, C.im b o = some v → D.im b o = some v)
    (hbx : ∀ id cs e b c e0 fr, σ[id]? = some (.cells cs e) → C.bx id = some b → w.heap[b]? = some (.cells c e0 fr) → ∀ (j : Nat) v, c[j]? = some v → D.im b j = some v) :
    ∀ n id cs b, boxf n σ id = some cs → C.bx id = some b → ∃ vs : List Value, VRs D cs vs ∧ ∀ (j : Nat) v, vs[j]? = some v → D.im b j = some v := by
  intro n
  induction n with
  | zero => intro id cs b h; simp [boxf] at h
  | succ n ih =>
    intro id cs b h hb
    simp only [boxf] at h
    split at h
    · rename_i c0 e0 hs
      unfold storeOf at hs
      split at hs
      · rename_i c1 e1 hg
        cases hs
        obtain ⟨b', c, fr, e0', k1, k2, k3, k4, k5, k6, k7⟩ := sr.cells id _ _ hg
        obtain rfl : b' = b := Option.some.inj (k1.symm.trans hb)
        have r := stripWs_sound him ih k4 _ h
        refine ⟨_, r, fun j v hj => ?_⟩
        rw [List.getElem?_take] at hj
        split at hj
        · exact hbx id _ _ b' c _ fr hg hb k2 j v (by simpa using hj)
        · cases hj
      · cases hs
    · cases h

mutual
theorem stripW_pure (f g : Nat → Option (List AV)) : ∀ v : AV, v.pure = true → stripW f v = stripW g v
  | .bool _, _ | .int .., _ | .str _, _ | .flt .., _ | .cplx .., _ | .nilp, _ | .nilm, _ | .nilf, _ | .nili, _ => rfl
  | .ip sz row i off, h => by simp only [stripW]; rw [stripWs_pure f g row (by simpa [AV.pure] using h)]
  | .sl sz row cap, h => by simp only [stripW]; rw [stripWs_pure f g row (by simpa [AV.pure] using h)]
  | .agg cs, h => by simp only [stripW]; rw [stripWs_pure f g cs (by simpa [AV.pure] using h)]
  | .tup cs, h => by simp only [stripW]; rw [stripWs_pure f g cs (by simpa [AV.pure] using h)]
  | .iface t v, h => by simp only [stripW]; rw [stripW_pure f g v (by simpa [AV.pure] using h)]
  | .fn k a b, h => by
    simp only [AV.pure, Bool.and_eq_true] at h
    simp only [stripW]; rw [stripWs_pure f g a h.1, stripWs_pure f g b h.2]
  | .bp .., h | .bs .., h | .map _, h => by simp [AV.pure] at h
theorem stripWs_pure (f g : Nat → Option (List AV)) : ∀ l : List AV, puress l = true → stripWs f l = stripWs g l
  | [], _ => rfl
  | v :: r, h => by
    simp only [puress, Bool.and_eq_true] at h
    simp only [stripWs]
    rw [stripW_pure f g v h.1, stripWs_pure f g r h.2]
end

theorem flatvs_mem : ∀ {l : List AV}, flatvs l = true → ∀ {x : AV}, x ∈ l → x.flatv = true := by
  intro l
  induction l with
  | nil => intro _ x hx; cases hx
  | cons v r ih =>
    intro h x hx
    simp only [flatvs, Bool.and_eq_true] at h
    rcases List.mem_cons.1 hx with rfl | hx
    · exact h.1
    · exact ih h.2 hx

theorem VR.flat_any {C : Ctx} (D : Ctx) {a : AV} {v : Value} (r : VR C a v) : a.flatv = true → VR D a v := by
  induction r with
  | bool => intro _; exact .bool
  | int => intro _; exact .int
  | str => intro _; exact .str
  | flt => intro _; exact .flt
  | cplx => intro _; exact .cplx
  | nilp => intro _; exact .nilp
  | nilm => intro _; exact .nilm
  | nilf => intro _; exact .nilf
  | nili => intro _; exact .nili
  | iface _ ih => intro h; exact .iface (ih (by simpa [AV.flatv] using h))
  | agg hl _ ih => intro h; exact .agg hl fun j x v hx hv => ih j x v hx hv (flatvs_mem (by simpa [AV.flatv] using h) (List.mem_of_getElem? hx))
  | tup hl _ ih => intro h; exact .tup hl fun j x v hx hv => ih j x v hx hv (flatvs_mem (by simpa [AV.flatv] using h) (List.mem_of_getElem? hx))
  | _ => intro h; simp [AV.flatv] at h

theorem im_lt {B : Nat} {C : Ctx} {σ : Store} {w : World} (sr : SR B C σ w) {b o : Nat} {v : Value} (h : C.im b o = some v) : b < w.heap.size := by
  obtain ⟨c, e, fr, k, _⟩ := sr.im b o v h
  exact lt_of_row k

theorem row_of_cell {w : World} {b o : Nat} {v : Value} (h : w.cell? ⟨b, o, none⟩ = some v) : ∃ c e fr, w.heap[b]? = some (.cells c e fr) ∧ c[o]? = some v := by
  unfold World.cell? at h
  split at h
  · rename_i c e fr hb
    simp at h
    exact ⟨c, e, fr, hb, h⟩
  · cases h

theorem GR.of_im {G : Globals} {C D : Ctx} (gr : GR G C) (him : ∀ b o v, C.im b o = some v → D.im b o = some v) (hv : ∀ g cs, G g = some cs → puress cs = true ∧ stripWs (fun _ => none) cs = some cs) : GR G D := by
  intro g cs hg
  obtain ⟨vs, k1, k2, k3⟩ := gr g cs hg
  have r := stripWs_sound (C := C) (D := D) (f := fun _ => none) him (fun id cs b h => by cases h) ⟨k1, k3⟩ cs (hv g cs hg).2
  exact ⟨vs, r.len, fun j v hj => him _ _ _ (k2 j v hj), r.at_⟩

/-- The globals bear no part of a store. -/
def GPure (G : Globals) : Prop := ∀ g cs, G g = some cs → puress cs = true ∧ stripWs (fun _ => none) cs = some cs

theorem callC_sound {P : Program} {G : Globals} {call : CallA} (hc : CallS P G call) (hG : GPure G) {f : FuncId} {args : List AV} {σ σ' : Store} {r : AOut} (h : callC call f args σ = some (r, σ')) {B : Nat} {C : Ctx} {w : World} {vs : List Value}
    (sr : SR B C σ w) (gr : GR G C) (hr : VRs C args vs) :
    (∃ fn, P.funcs[f]? = some fn ∧ fn.body.isSome = true ∧ (fn.name == "runtime.NumGoroutine") = false) ∧ Calls P f vs.toArray w fun e w' => ∃ C', Ctx.le B C C' ∧ SR B C' σ' w' ∧ Below B w w' ∧ OutR C' r e := by
  unfold callC at h
  split at h
  · cases h
  · rename_i args' hs
    -- all that is there is never written while the call runs
    have snap : ∀ res σ1, call f args' [] = some (res, σ1) → (∃ fn, P.funcs[f]? = some fn ∧ fn.body.isSome = true ∧ (fn.name == "runtime.NumGoroutine") = false) ∧ Calls P f vs.toArray w fun e w' => ∃ C1, Below w.heap.size w w' ∧ OutR C1 res e := by
      intro res σ1 hcall
      let D : Ctx := { im := fun b o => w.cell? ⟨b, o, none⟩, bx := fun _ => none, tk := fun _ => none }
      have him : ∀ b o v, C.im b o = some v → D.im b o = some v := fun b o v hi => sr.cell hi
      have srD : SR w.heap.size D [] w := by
        refine ⟨Nat.le_refl _, fun b o v hi => row_of_cell hi, fun id _ => ⟨rfl, rfl⟩, ?_, ?_, ?_, ?_, ?_⟩
        · intro id cs e h; simp at h
        · intro id es h; simp at h
        · intro id t h; simp at h
        · intro id id' b h; simp [own] at h
        · intro id b h; simp [own] at h
      have hbx : ∀ id cs e b c e0 fr, σ[id]? = some (.cells cs e) → C.bx id = some b → w.heap[b]? = some (.cells c e0 fr) → ∀ (j : Nat) v, c[j]? = some v → D.im b j = some v := by
        intro id cs e b c e0 fr _ _ hb j v hj
        show w.cell? ⟨b, j, none⟩ = some v
        rw [cell_of_row hb]; exact hj
      have ra : VRs D args' vs := stripWs_sound him (boxf_sound sr him hbx 16) hr args' hs
      obtain ⟨h1, h2⟩ := hc f args' [] res σ1 hcall
      exact ⟨h1, (h2 w.heap.size D w vs srD (gr.of_im him hG) ra).mono fun e w' ⟨C1, _, _, hb, ho⟩ => ⟨C1, hb, ho⟩⟩
    split at h
    · rename_i v σ1 hcall
      split at h
      · rename_i hflat
        cases h
        obtain ⟨h1, h2⟩ := snap _ _ hcall
        refine ⟨h1, h2.mono fun e w' ⟨C1, hb, ho⟩ => ?_⟩
        obtain ⟨u, he, hv⟩ := ho
        exact ⟨C, .refl _ _, sr.of_below hb, hb.mono sr.hB, u, he, hv.flat_any C hflat⟩
      · split at h
        · rename_i hpure
          split at h
          · rename_i r' hstrip
            cases h
            let D : Ctx := { im := C.im, bx := fun _ => none, tk := fun _ => none }
            have srD : SR w.heap.size D [] w := by
              refine ⟨Nat.le_refl _, sr.im, fun id _ => ⟨rfl, rfl⟩, ?_, ?_, ?_, ?_, ?_⟩
              · intro id cs e h; simp at h
              · intro id es h; simp at h
              · intro id t h; simp at h
              · intro id id' b h; simp [own] at h
              · intro id b h; simp [own] at h
            have hs' : stripWs (fun _ => none) args = some args' := by
              rw [← hs]; exact stripWs_pure _ _ args hpure
            have ra : VRs D args' vs := stripWs_sound (C := C) (D := D) (fun _ _ _ h => h) (fun id cs b h => by cases h) hr args' hs'
            obtain ⟨h1, h2⟩ := hc f args' [] _ σ1 hcall
            refine ⟨h1, (h2 w.heap.size D w vs srD (gr.of_im (fun _ _ _ h => h) hG) ra).mono fun e w' hq => ?_⟩
            obtain ⟨C1, l1, sr1, hb, u, he, hv⟩ := hq
            let E : Ctx := { im := fun b o => if b < w.heap.size then C.im b o else w'.cell? ⟨b, o, none⟩, bx := C.bx, tk := C.tk }
            have hE : ∀ b o v, C1.im b o = some v → E.im b o = some v := by
              intro b o v hi
              show (if b < w.heap.size then C.im b o else w'.cell? ⟨b, o, none⟩) = some v
              split
              · rename_i hlt
                have := l1.old b o hlt
                rw [hi] at this
                exact this.symm
              · exact sr1.cell hi
            have hEbx : ∀ id cs e b c e0 fr, σ1[id]? = some (.cells cs e) → C1.bx id = some b → w'.heap[b]? = some (.cells c e0 fr) → ∀ (j : Nat) v, c[j]? = some v → E.im b j = some v := by
              intro id cs e b c e0 fr hg hbx hb' j v hj
              have hlow := sr1.low id b (by simp [own, hg, hbx])
              show (if b < w.heap.size then C.im b j else w'.cell? ⟨b, j, none⟩) = some v
              rw [if_neg (by omega), cell_of_row hb']; exact hj
            have hvE : VR E r' u := stripW_both hE (boxf_sound sr1 hE hEbx 16) hv r' hstrip
            have hle : Ctx.le B C E := by
              refine ⟨fun b o v hi => ?_, fun _ _ h => h, fun _ _ h => h, fun b o hb' => ?_⟩
              · show (if b < w.heap.size then C.im b o else _) = some v
                rw [if_pos (im_lt sr hi)]; exact hi
              · show (if b < w.heap.size then C.im b o else _) = C.im b o
                rw [if_pos (Nat.lt_of_lt_of_le hb' sr.hB)]
            have sr' := sr.of_below hb
            refine ⟨E, hle, ⟨sr'.hB, ?_, sr'.fresh, ?_, sr'.map, ?_, sr'.uniq, sr'.low⟩, hb.mono sr.hB, u, he, hvE⟩
            · intro b o v hi
              have hi' : (if b < w.heap.size then C.im b o else w'.cell? ⟨b, o, none⟩) = some v := hi
              split at hi'
              · exact sr'.im b o v hi'
              · exact row_of_cell hi'
            · intro id cs e hg
              obtain ⟨b, c, fr, e0', k1, k2, k3, k4, k5, k6⟩ := sr'.cells id _ _ hg
              have hlt : b < w.heap.size := by
                obtain ⟨b2, c2, fr2, e2', q1, q2, _⟩ := sr.cells id _ _ hg
                rw [k1] at q1; cases q1
                exact lt_of_row q2
              refine ⟨b, c, fr, e0', k1, k2, k3, k4.mono hle, fun o => ?_, k6⟩
              show (if b < w.heap.size then C.im b o else _) = none
              rw [if_pos hlt]; exact k5 o
            · intro id t hg
              obtain ⟨b, s, e1, c, fr, k1, k2, k3, k4, k5⟩ := sr'.tok id t hg
              have hlt : b < w.heap.size := by
                obtain ⟨b2, s2, e2, c2, fr2, q1, q2, _⟩ := sr.tok id t hg
                rw [k1] at q1; cases q1
                exact lt_of_row q2
              refine ⟨b, s, e1, c, fr, k1, k2, k3, fun o h1 h2 => ?_, k5⟩
              show (if b < w.heap.size then C.im b o else _) = none
              rw [if_pos hlt]; exact k4 o h1 h2
          · cases h
        · cases h
    · rename_i v σ1 hcall
      split at h
      · rename_i hflat
        cases h
        obtain ⟨h1, h2⟩ := snap _ _ hcall
        refine ⟨h1, h2.mono fun e w' ⟨C1, hb, ho⟩ => ?_⟩
        obtain ⟨u, he, hv⟩ := ho
        exact ⟨C, .refl _ _, sr.of_below hb, hb.mono sr.hB, u, he, hv.flat_any C hflat⟩
      · cases h
    · cases h

theorem callM_sound {P : Program} {G : Globals} {call : CallA} (hc : CallS P G call) (hG : GPure G) {k : Bool} {f : FuncId} {args : List AV} {σ σ' : Store} {r : AOut} (h : callM k call f args σ = some (r, σ')) {B : Nat} {C : Ctx} {w : World} {vs : List Value}
    (sr : SR B C σ w) (gr : GR G C) (hr : VRs C args vs) :
    (∃ fn, P.funcs[f]? = some fn ∧ fn.body.isSome = true ∧ (fn.name == "runtime.NumGoroutine") = false) ∧ Calls P f vs.toArray w fun e w' => ∃ C', Ctx.le B C C' ∧ SR B C' σ' w' ∧ Below B w w' ∧ OutR C' r e := by
  unfold callM at h
  split at h
  · obtain ⟨h1, h2⟩ := hc f args σ r σ' h
    exact ⟨h1, h2 B C w vs sr gr hr⟩
  · exact callC_sound hc hG h sr gr hr

end Go.Pm
end

section
set_option linter.unusedSimpArgs false
set_option linter.unusedVariables false
set_option linter.unusedSectionVars false
/- The pure machine: operations that may change places. -/
set_option linter.unusedSimpArgs false
set_option linter.unusedVariables false
namespace Go.Pm

section
variable {G : Globals} {env env' : Env} {call : CallA}

def Same (env env' : Env) (l : List Nat) : Prop := ∀ s, s ∈ l → look env s = look env' s
theorem Same.left {l l' : List Nat} (h : Same env env' (l ++ l')) : Same env env' l := fun s k => h s (by simp [k])
theorem Same.right {l l' : List Nat} (h : Same env env' (l ++ l')) : Same env env' l' := fun s k => h s (by simp [k])

theorem ev_congr {x : AX} (h : Same env env' x.slots) : x.ev G env = x.ev G env' := by
  cases x with
  | t s => exact h s (by simp [AX.slots])
  | c v => rfl
  | g g => rfl

theorem evs_congr : ∀ {xs : List AX}, Same env env' (AX.slotss xs) → evs G env xs = evs G env' xs
  | [], _ => rfl
  | x :: r, h => by
    have h' : Same env env' (x.slots ++ AX.slotss r) := h
    simp only [evs]
    rw [ev_congr h'.left, evs_congr h'.right]

theorem optEv_congr {x : Option AX} (h : Same env env' (AX.slotso x)) : optEv G env x = optEv G env' x := by
  cases x with
  | none => rfl
  | some x => simp only [optEv]; rw [ev_congr h]

theorem pickParts_congr : ∀ {ps : List (Nat × Nat × AX)}, Same env env' (ps.flatMap fun p => p.2.2.slots) → pickParts G env ps = pickParts G env' ps
  | [], _ => rfl
  | (o, n, x) :: r, h => by
    have h' : Same env env' (x.slots ++ r.flatMap fun p => p.2.2.slots) := h
    simp only [pickParts]
    rw [ev_congr h'.left, pickParts_congr h'.right]

theorem pickSl_congr {sz : Nat} : ∀ {ps : List (Nat × AX)}, Same env env' (ps.flatMap fun p => p.2.slots) → pickSl G env sz ps = pickSl G env' sz ps
  | [], _ => rfl
  | (i, x) :: r, h => by
    have h' : Same env env' (x.slots ++ r.flatMap fun p => p.2.slots) := h
    simp only [pickSl]
    rw [ev_congr h'.left, pickSl_congr h'.right]

theorem evalOp_congr {σ : Store} : ∀ {ao : AOp}, Same env env' ao.slots → evalOp call G env σ ao = evalOp call G env' σ ao := by
  intro ao h
  cases ao <;> simp only [AOp.slots] at h <;> simp only [evalOp] <;>
    first
    | rfl
    | rw [ev_congr h]
    | rw [evs_congr h]
    | rw [pickParts_congr h]
    | rw [pickSl_congr h]
    | rw [ev_congr h.left, ev_congr h.right]
    | rw [ev_congr h.left, evs_congr h.right]
    | rw [evs_congr h.left, evs_congr h.right]
    | rw [ev_congr h.left.left, ev_congr h.left.right, ev_congr h.right]
    | rw [ev_congr h.left.left, optEv_congr h.left.right, optEv_congr h.right]
    | rw [ev_congr h.left.left.left, optEv_congr h.left.left.right, optEv_congr h.left.right, optEv_congr h.right]
    | rw [ev_congr h.left.left.left, optEv_congr h.left.left.right, optEv_congr h.left.right]

theorem stepD_congr {σ : Store} {k : Nat} {ao : AOp} (h : Same env env' ao.slots) : stepD call G env σ k ao = stepD call G env' σ k ao := by
  have ho := evalOp_congr (call := call) (G := G) (σ := σ) h
  unfold stepD
  split <;> simp only [AOp.slots] at h <;>
    first
    | rw [ev_congr h]
    | rw [evs_congr h]
    | rw [ev_congr h.left, ev_congr h.right]
    | rw [ev_congr h.left, evs_congr h.right]
    | rfl
    | skip
  rw [ho]

theorem stepG_congr {σ : Store} {k : Nat} {o : AOper} (h : Same env env' o.slots) : stepG call G env σ k o = stepG call G env' σ k o := by
  unfold AOper.slots at h
  unfold stepG
  have hg : guardOk env o.guard = guardOk env' o.guard := by
    cases hgo : o.guard with
    | none => rfl
    | some p =>
      obtain ⟨s, want⟩ := p
      rw [hgo] at h
      simp only [guardOk]
      rw [h.right s (by simp)]
  rw [hg, stepD_congr h.left]

/-! ### Stores -/

theorem storeOf_set_ne {σ : Store} {i j : Nat} {x : AObj} (h : i ≠ j) : storeOf (σ.set i x) j = storeOf σ j := by
  unfold storeOf; rw [List.getElem?_set_ne h]

theorem storeOf_lt {σ : Store} {i : Nat} {c e} (h : storeOf σ i = some (c, e)) : i < σ.length ∧ σ[i]? = some (.cells c e) := by
  unfold storeOf at h
  split at h
  · rename_i hg; cases h; exact ⟨(List.getElem?_eq_some_iff.1 hg).1, hg⟩
  · cases h

theorem storeOf_set {σ : Store} {i : Nat} {c e c' e'} (h : storeOf σ i = some (c, e)) : storeOf (σ.set i (.cells c' e')) i = some (c', e') := by
  unfold storeOf; rw [List.getElem?_set_self (storeOf_lt h).1]

theorem putAt_len' : ∀ (c : List AV) (o : Nat) (vs : List AV), (putAt c o vs).length = c.length
  | [], 0, [] => rfl
  | [], 0, _ :: _ => rfl
  | [], _ + 1, _ => rfl
  | _ :: _, 0, [] => rfl
  | _ :: cs, 0, v :: vs => by simp [putAt, putAt_len' cs 0 vs]
  | _ :: cs, o + 1, vs => by simp [putAt, putAt_len' cs o vs]

theorem putAt_at : ∀ (c : List AV) (o : Nat) (vs : List AV) (j : Nat), (putAt c o vs)[j]? = if o ≤ j ∧ j < o + vs.length ∧ j < c.length then vs[j - o]? else c[j]?
  | [], 0, [], j => by simp [putAt]
  | [], 0, _ :: _, j => by simp [putAt]
  | [], _ + 1, _, j => by simp [putAt]
  | c :: cs, 0, [], j => by simp [putAt]
  | c :: cs, 0, v :: vs, 0 => by simp [putAt]
  | c :: cs, 0, v :: vs, j + 1 => by
    simp only [putAt, List.getElem?_cons_succ, putAt_at cs 0 vs j, List.length_cons]
    simp only [Nat.zero_le, true_and, Nat.zero_add, Nat.sub_zero, List.getElem?_cons_succ, Nat.add_lt_add_iff_right]
  | c :: cs, o + 1, vs, 0 => by simp [putAt]
  | c :: cs, o + 1, vs, j + 1 => by
    simp only [putAt, List.getElem?_cons_succ, putAt_at cs o vs j, List.length_cons]
    rw [show j + 1 - (o + 1) = j - o by omega]
    by_cases h1 : o ≤ j ∧ j < o + vs.length ∧ j < cs.length
    · rw [if_pos h1, if_pos (by omega)]
    · rw [if_neg h1, if_neg (by omega)]

theorem putAt_comm {c : List AV} {o o' : Nat} {vs vs' : List AV} (h : apart o vs.length o' vs'.length = true) : putAt (putAt c o vs) o' vs' = putAt (putAt c o' vs') o vs := by
  simp only [apart, Bool.or_eq_true, decide_eq_true_eq] at h
  apply List.ext_getElem?
  intro j
  rw [putAt_at, putAt_at, putAt_at, putAt_at, putAt_len', putAt_len']
  by_cases h1 : o' ≤ j ∧ j < o' + vs'.length ∧ j < c.length
  · rw [if_pos h1, if_neg (by omega), if_pos h1]
  · rw [if_neg h1, if_neg h1]

theorem partOf_congr {c c' : List AV} {off : Nat} {n : Option Nat} (hl : c'.length = c.length) (h : ∀ j, off ≤ j → j < off + n.getD 1 → c'[j]? = c[j]?) : partOf c' off n = partOf c off n := by
  cases n with
  | none => exact h off (Nat.le_refl _) (by simp)
  | some n =>
    simp only [partOf, hl]
    split
    · congr 2
      apply List.ext_getElem?
      intro j
      rw [List.getElem?_take, List.getElem?_take, List.getElem?_drop, List.getElem?_drop]
      split
      · rw [h _ (by omega) (by simp; omega)]
      · rfl
    · rfl

/-- What of a store an operation leans on. -/
def Agree : Eff → Rd → Store → Store → Prop
  | .none, .no, _, _ => True
  | .none, .cell id off n, σ, σ' => ∀ c e, storeOf σ id = some (c, e) → ∃ c' e', storeOf σ' id = some (c', e') ∧ c'.length = c.length ∧ ∀ j, off ≤ j → j < off + n → c'[j]? = c[j]?
  | .write id _ _, .no, σ, σ' => ∀ c e, storeOf σ id = some (c, e) → ∃ c' e', storeOf σ' id = some (c', e') ∧ c'.length = c.length
  | .birth id _ _, .no, σ, σ' => σ[id]? = some .hole → σ'[id]? = some .hole
  | _, _, σ, σ' => σ' = σ

theorem callC_pure {f : FuncId} {args : List AV} (hp : puress args = true) {σ σ1 : Store} {r : AOut} (h : callC call f args σ = some (r, σ1)) (σ' : Store) : ∃ σ2, callC call f args σ' = some (r, σ2) := by
  have hs : strips σ' args = strips σ args := stripWs_pure _ _ args hp
  unfold callC at h ⊢
  rw [hs]
  split at h
  · cases h
  · rename_i args' ha
    split at h
    · rename_i v s1 hc
      split at h
      · rename_i hf; cases h; simp only [hf, if_true]; exact ⟨_, rfl⟩
      · rename_i hf
        simp only [hf, hp, if_true]
        split at h
        · rename_i r' hr; cases h; exact ⟨_, rfl⟩
        · cases h
    · rename_i v s1 hc
      split at h
      · rename_i hf; cases h; simp only [hf, if_true]; exact ⟨_, rfl⟩
      · cases h
    · cases h

theorem bornD_agree {σ σ' : Store} {k : Nat} {cs : List AV} {el : Option TypeId} {v : AV} {e : Eff} {rd : Rd} (h : bornD σ k cs el = some (v, e, rd)) (ha : Agree e rd σ σ') : bornD σ' k cs el = some (v, e, rd) := by
  unfold bornD at h
  split at h
  · rename_i hg; cases h; simp only [bornD, ha hg]
  · cases h

theorem readsD_agree {σ σ' : Store} {f : FuncId} {vs : List AV} {v : AV} {e : Eff} {rd : Rd} (h : readsD vs (callC call f vs σ) = some (v, e, rd)) (ha : Agree e rd σ σ') : readsD vs (callC call f vs σ') = some (v, e, rd) := by
  unfold readsD at h
  split at h
  · rename_i u s1 hc
    by_cases hp : puress vs = true
    · obtain ⟨σ2, h2⟩ := callC_pure hp hc σ'
      rw [h2]; exact h
    · simp only [hp] at h
      cases h
      obtain rfl : σ' = σ := ha
      rw [hc]; simp [readsD, hp]
  · cases h

theorem plain_op {σ σ1 : Store} {ao : AOp} {v : AV} (h : evalOp call G env σ ao = some (.ret v, σ1)) (hs : ao.shares = false)
    (h1 : ∀ n x, ao ≠ .load n x) (h2 : ∀ n a x, ao ≠ .store n a x) (h3 : ∀ z e, ao ≠ .alloc z e) (h4 : ∀ e n x, ao ≠ .box e n x) (h5 : ∀ f asl, ao ≠ .call false f asl) (h6 : ∀ f asl, ao ≠ .callv false f asl) (h7 : ∀ x, ao ≠ .cvb2s x) :
    σ1 = σ ∧ ∀ σ', evalOp call G env σ' ao = some (.ret v, σ') := by
  cases ao <;> try (simp [AOp.shares] at hs; done)
  all_goals try (exact absurd rfl (h1 _ _))
  all_goals try (exact absurd rfl (h2 _ _ _))
  all_goals try (exact absurd rfl (h3 _ _))
  all_goals try (exact absurd rfl (h4 _ _ _))
  all_goals try (exact absurd rfl (h7 _))
  all_goals first
    | (rename_i k f asl
       cases k with
       | false => first | exact absurd rfl (h5 _ _) | exact absurd rfl (h6 _ _)
       | true => simp [AOp.shares] at hs)
    | skip
  all_goals (simp only [evalOp, val] at h ⊢; repeat' split at h)
  all_goals first
    | (cases h; done)
    | (simp only [Option.some.injEq, Prod.mk.injEq, AOut.ret.injEq] at h; obtain ⟨rfl, rfl⟩ := h; exact ⟨rfl, fun σ' => by simp_all⟩)
    | skip

theorem stepD_agree {σ σ' : Store} {k : Nat} {ao : AOp} {v : AV} {e : Eff} {rd : Rd} (h : stepD call G env σ k ao = some (v, e, rd)) (ha : Agree e rd σ σ') : stepD call G env σ' k ao = some (v, e, rd) := by
  unfold stepD at h ⊢
  split at h
  · -- load
    split at h
    · rename_i a hx
      split at h
      · rename_i u hl
        try simp only [hx]
        cases a with
        | bp id off =>
          cases h
          simp only [loadAt] at hl ⊢
          split at hl
          · rename_i c e1 hs
            obtain ⟨c', e', h1, h2, h3⟩ := ha c e1 hs
            rw [h1]; simp only
            rw [partOf_congr h2 h3, hl]
          · cases hl
        | ip s r i o =>
          cases h
          simp only [loadAt] at hl ⊢
          rw [hl]
        | _ => simp [loadAt] at hl
      · cases h
    · cases h
  · -- store
    split at h
    · rename_i id off u hx hy
      split at h
      · rename_i σ2 hst
        cases h
        try simp only [hx, hy]
        simp only [storeAt] at hst ⊢
        split at hst
        · rename_i c e1 hs
          obtain ⟨c', e', h1, h2⟩ := ha c e1 hs
          rw [h1]; simp only [h2]
          split at hst
          · rename_i hc; simp only [hc, and_self, if_true]
          · cases hst
        · cases hst
      · cases h
    · cases h
  · exact bornD_agree h ha
  · split at h
    · rename_i u hx
      split at h
      · rename_i hc; try simp only [hx]
        rw [if_pos hc]; exact bornD_agree h ha
      · cases h
    · cases h
  · split at h
    · rename_i vs hx; try simp only [hx]
      exact readsD_agree h ha
    · cases h
  · split at h
    · rename_i f first captured vs hx hy; try simp only [hx, hy]
      exact readsD_agree h ha
    · cases h
  · split at h
    · rename_i a hx
      split at h
      · rename_i u hb
        cases h
        obtain rfl : σ' = σ := ha
        simp only [hx, hb]
      · cases h
    · cases h
  · rename_i h1 h2 h3 h4 h5 h6 h7
    split at h
    · rename_i u σ1 he
      split at h
      · rename_i hs
        cases h
        obtain rfl : σ' = σ := ha
        rw [he]; simp [hs]
      · rename_i hs
        cases h
        have := plain_op he (by simpa using hs) h1 h2 h3 h4 h5 h6 h7
        rw [this.2 σ']
        simp [hs]
    · cases h

theorem stepG_agree {σ σ' : Store} {k : Nat} {o : AOper} {v : AV} {e : Eff} {rd : Rd} (h : stepG call G env σ k o = some (v, e, rd)) (ha : Agree e rd σ σ') : stepG call G env σ' k o = some (v, e, rd) := by
  unfold stepG at h ⊢
  split at h
  · cases h
  · exact h
  · exact stepD_agree h ha

/-! ### Two that do not conflict -/

theorem app_get_ne {e : Eff} {σ : Store} {i : Nat} (h : match e with | .none => True | .write id _ _ => id ≠ i | .birth id _ _ => id ≠ i | .jump _ => False) : (e.app σ)[i]? = σ[i]? := by
  cases e with
  | none => rfl
  | write id off vals =>
    simp only [Eff.app]
    split
    · rw [List.getElem?_set_ne h]
    · rfl
  | birth id cs el => simp only [Eff.app]; rw [List.getElem?_set_ne h]
  | jump s => exact h.elim

theorem app_storeOf_ne {e : Eff} {σ : Store} {i : Nat} (h : match e with | .none => True | .write id _ _ => id ≠ i | .birth id _ _ => id ≠ i | .jump _ => False) : storeOf (e.app σ) i = storeOf σ i := by
  unfold storeOf; rw [app_get_ne h]

theorem app_write {σ : Store} {id off : Nat} {vals c : List AV} {el : Option TypeId} (h : storeOf σ id = some (c, el)) : storeOf ((Eff.write id off vals).app σ) id = some (putAt c off vals, el) := by
  simp only [Eff.app, h]; exact storeOf_set h

theorem app_some {σ : Store} {id off : Nat} {vals c : List AV} {el : Option TypeId} (h : storeOf σ id = some (c, el)) : (Eff.write id off vals).app σ = σ.set id (.cells (putAt c off vals) el) := by
  simp only [Eff.app, h]

theorem app_write_none {σ : Store} {id off : Nat} {vals : List AV} (h : storeOf σ id = none) : (Eff.write id off vals).app σ = σ := by
  simp only [Eff.app, h]

/-- The store from before serves as well, and the one behind the other. -/
theorem agree_of {e e' : Eff} {r r' : Rd} (h : conflict e r e' r' = false) (σ : Store) : Agree e' r' (e.app σ) σ ∧ Agree e r σ (e'.app σ) ∧ e'.app (e.app σ) = e.app (e'.app σ) := by
  have back : ∀ {id off n o' : Nat} {vs : List AV}, (id == o' && !apart off n 0 0) = false ∨ True → True := fun _ => trivial
  cases e with
  | none =>
    refine ⟨?_, ?_, rfl⟩
    · cases e' <;> cases r' <;> simp only [Agree, Eff.app] <;> first | trivial | exact fun c e h => ⟨c, e, h, rfl, fun _ _ _ => rfl⟩ | exact fun c e h => ⟨c, e, h, rfl⟩ | exact id
    · cases r with
      | no => trivial
      | cell id off n =>
        cases e' with
        | none => exact fun c e h => ⟨c, e, h, rfl, fun _ _ _ => rfl⟩
        | write id' o' vs =>
          cases r' <;> simp [conflict] at h
          intro c el hs
          by_cases hid : id = id'
          · subst hid
            refine ⟨_, _, app_write hs, putAt_len' _ _ _, fun j h1 h2 => ?_⟩
            have := h rfl
            simp only [apart, Bool.or_eq_true, decide_eq_true_eq] at this
            rw [putAt_at, if_neg (by omega)]
          · exact ⟨c, el, by rw [app_storeOf_ne (Ne.symm hid)]; exact hs, rfl, fun _ _ _ => rfl⟩
        | birth id' cs el' =>
          cases r' <;> simp [conflict] at h
          exact fun c el hs => ⟨c, el, by rw [app_storeOf_ne (Ne.symm h)]; exact hs, rfl, fun _ _ _ => rfl⟩
        | jump s => cases r' <;> simp [conflict] at h
      | all =>
        cases e' with
        | none => rfl
        | _ => cases r' <;> simp [conflict] at h
  | write id off vals =>
    cases e' with
    | none =>
      cases r' with
      | no => exact ⟨trivial, by cases r <;> simp only [Agree, Eff.app] <;> first | trivial | exact fun c e h => ⟨c, e, h, rfl⟩, rfl⟩
      | cell id' o' n =>
        cases r <;> simp [conflict] at h
        refine ⟨?_, fun c e h => ⟨c, e, h, rfl⟩, rfl⟩
        intro c el hs
        by_cases hid : id = id'
        · subst hid
          have := h rfl
          simp only [apart, Bool.or_eq_true, decide_eq_true_eq] at this
          cases hs0 : storeOf σ id with
          | none => rw [app_write_none hs0, hs0] at hs; cases hs
          | some p =>
            obtain ⟨c0, e0⟩ := p
            rw [app_write hs0] at hs
            cases hs
            refine ⟨c0, el, rfl, (putAt_len' _ _ _).symm, fun j h1 h2 => ?_⟩
            rw [putAt_at, if_neg (by omega)]
        · rw [app_storeOf_ne hid] at hs
          exact ⟨c, el, hs, rfl, fun _ _ _ => rfl⟩
      | all => cases r <;> simp [conflict] at h
    | write id' o' vs =>
      cases r <;> cases r' <;> simp [conflict] at h
      refine ⟨?_, ?_, ?_⟩
      · intro c el hs
        by_cases hid : id = id'
        · subst hid
          cases hs0 : storeOf σ id with
          | none => rw [app_write_none hs0, hs0] at hs; cases hs
          | some p =>
            obtain ⟨c0, e0⟩ := p
            rw [app_write hs0] at hs
            cases hs
            exact ⟨c0, el, rfl, (putAt_len' _ _ _).symm⟩
        · rw [app_storeOf_ne hid] at hs
          exact ⟨c, el, hs, rfl⟩
      · intro c el hs
        by_cases hid : id = id'
        · subst hid
          exact ⟨_, _, app_write hs, putAt_len' _ _ _⟩
        · exact ⟨c, el, by rw [app_storeOf_ne (Ne.symm hid)]; exact hs, rfl⟩
      · by_cases hid : id = id'
        · subst hid
          cases hs0 : storeOf σ id with
          | none => rw [app_write_none hs0, app_write_none hs0, app_write_none hs0]
          | some p =>
            obtain ⟨c0, e0⟩ := p
            have w1 := app_write (off := off) (vals := vals) hs0
            have w2 := app_write (off := o') (vals := vs) hs0
            rw [app_some w1, app_some w2, app_some hs0, app_some hs0, List.set_set, List.set_set, putAt_comm (h rfl)]
        · cases hs0 : storeOf σ id with
          | none => rw [app_write_none hs0, app_write_none (σ := (Eff.write id' o' vs).app σ) (by rw [app_storeOf_ne (Ne.symm hid)]; exact hs0)]
          | some p =>
            cases hs1 : storeOf σ id' with
            | none => rw [app_write_none hs1, app_write_none (σ := (Eff.write id off vals).app σ) (by rw [app_storeOf_ne hid]; exact hs1)]
            | some q =>
              obtain ⟨c0, e0⟩ := p
              obtain ⟨c1, e1⟩ := q
              have w1 : storeOf ((Eff.write id off vals).app σ) id' = some (c1, e1) := by rw [app_storeOf_ne hid]; exact hs1
              have w2 : storeOf ((Eff.write id' o' vs).app σ) id = some (c0, e0) := by rw [app_storeOf_ne (Ne.symm hid)]; exact hs0
              rw [app_some w1, app_some w2, app_some hs0, app_some hs1, List.set_comm _ _ hid]
    | birth id' cs el' =>
      cases r <;> cases r' <;> simp [conflict] at h
      refine ⟨fun hs => by rwa [app_get_ne h] at hs, fun c el hs => ⟨c, el, by rw [app_storeOf_ne (Ne.symm h)]; exact hs, rfl⟩, ?_⟩
      cases hs0 : storeOf σ id with
      | none => rw [app_write_none hs0, app_write_none (σ := (Eff.birth id' cs el').app σ) (by rw [app_storeOf_ne (Ne.symm h)]; exact hs0)]
      | some p =>
        obtain ⟨c0, e0⟩ := p
        have w2 : storeOf ((Eff.birth id' cs el').app σ) id = some (c0, e0) := by rw [app_storeOf_ne (Ne.symm h)]; exact hs0
        rw [app_some w2, app_some hs0]
        exact List.set_comm _ _ h
    | jump s => cases r <;> cases r' <;> simp [conflict] at h
  | birth id cs el =>
    cases e' with
    | none =>
      cases r' with
      | no => exact ⟨trivial, by cases r <;> simp only [Agree, Eff.app] <;> first | trivial | exact fun h => h, rfl⟩
      | cell id' o' n =>
        cases r <;> simp [conflict] at h
        refine ⟨fun c e' hs => ?_, fun h => h, rfl⟩
        rw [app_storeOf_ne (Ne.symm h)] at hs
        exact ⟨c, e', hs, rfl, fun _ _ _ => rfl⟩
      | all => cases r <;> simp [conflict] at h
    | write id' o' vs =>
      cases r <;> cases r' <;> simp [conflict] at h
      refine ⟨fun c e' hs => ?_, fun hs => by rw [app_get_ne (e := .write id' o' vs) h]; exact hs, ?_⟩
      · rw [app_storeOf_ne (e := .birth id cs el) (Ne.symm h)] at hs; exact ⟨c, e', hs, rfl⟩
      · cases hs0 : storeOf σ id' with
        | none => rw [app_write_none hs0, app_write_none (σ := (Eff.birth id cs el).app σ) (by rw [app_storeOf_ne (e := .birth id cs el) (Ne.symm h)]; exact hs0)]
        | some p =>
          obtain ⟨c0, e0⟩ := p
          have w2 : storeOf ((Eff.birth id cs el).app σ) id' = some (c0, e0) := by rw [app_storeOf_ne (e := .birth id cs el) (Ne.symm h)]; exact hs0
          rw [app_some w2, app_some hs0]
          exact List.set_comm _ _ (Ne.symm h)
    | birth id' cs' el' =>
      cases r <;> cases r' <;> simp [conflict] at h
      refine ⟨fun hs => by rwa [app_get_ne h] at hs, fun hs => by rw [app_get_ne (Ne.symm h)]; exact hs, ?_⟩
      simp only [Eff.app]
      rw [List.set_comm _ _ h]
    | jump s => cases r <;> cases r' <;> simp [conflict] at h
  | jump s =>
    cases e' with
    | none =>
      cases r' with
      | no => exact ⟨trivial, by cases r <;> rfl, rfl⟩
      | cell => cases r <;> simp [conflict] at h
      | all => cases r <;> simp [conflict] at h
    | _ => cases r <;> cases r' <;> simp [conflict] at h
end
end Go.Pm
end

section
set_option linter.unusedSimpArgs false
set_option linter.unusedVariables false
set_option linter.unusedSectionVars false
/- The pure machine: rows of operations in the text's order. -/
set_option linter.unusedSimpArgs false
set_option linter.unusedVariables false
namespace Go.Pm
open Go.RowKit (Below)

/-- How a piece of code is left. -/
def ExR (C : Ctx) : AExit → Exit → Prop
  | .normal, .normal => True
  | .exit i, .exit j => i = j
  | .goto l, .goto m => l = m
  | .ret, .ret => True
  | .panic a, .panic ch => ∃ v, ch = [{ v := v, recovered := false }] ∧ VR C a v
  | _, _ => False

/-- What holds behind a piece of code. -/
def Post (B : Nat) (C : Ctx) (N : Nat) (w : World) (ds : List Deferred) (ex : AExit) (env : Env) (σ : Store) (e : Exit) (a : Act) (w' : World) : Prop :=
  ∃ C', Ctx.le B C C' ∧ SR B C' σ w' ∧ Below B w w' ∧ ER C' N env a.tmps ∧ a.defers = ds ∧ ExR C' ex e

section
variable {P : Program} {G : Globals} {B : Nat} {C : Ctx} {N : Nat} {env : Env} {a : Act} {σ : Store} {w : World} {call : CallA}

theorem guard_sound {ops : Array Oper} (er : ER C N env a.tmps) {o : Oper} {g : Option (Nat × Bool)} (hok : okGuard ops o.guard g = true) {b : Bool} (h : guardOk env g = some b) : Region.wanted o (yielded ops a.tmps) = b := by
  unfold okGuard at hok
  split at hok
  · rename_i h1
    simp only [guardOk, Option.some.injEq] at h
    subst h
    simp [Region.wanted, h1]
  · rename_i j want s want' h1
    simp only [Bool.and_eq_true, beq_iff_eq] at hok
    obtain ⟨rfl, hd⟩ := hok
    simp only [guardOk] at h
    split at h
    · rename_i b' hl
      cases h
      obtain ⟨v, k1, k2⟩ := er.at_ s _ hl
      cases k2
      simp [Region.wanted, h1, yielded, hd, k1]
    · rename_i av hnb hl
      cases h
      obtain ⟨v, k1, k2⟩ := er.at_ s _ hl
      simp only [Region.wanted, h1, yielded, hd, Option.bind_some, k1]
      cases k2 <;> first | rfl | (exact absurd rfl (hnb _))
    · cases h
  · cases hok

theorem upon_goes {o : Oper} {σ' : Store} {av : AV} (h : Goes P B C σ' w o a av) {K : Act → World → Prop} {Q : Exit → Act → World → Prop}
    (hK : ∀ C' v w', Ctx.le B C C' → SR B C' σ' w' → Below B w w' → VR C' av v → K (a.put o.dst v) w') : o.wp P a w K Q := by
  obtain ⟨C', w', v, hrun, hle, sr', hb, hv⟩ := h
  unfold Oper.wp
  rcases hrun with hrun | ⟨hrun, rfl⟩
  · rw [hrun, Oper.upon_value]; exact hK C' v w' hle sr' hb hv
  · rw [hrun, Oper.upon_skip]; exact hK C' undef w' hle sr' hb hv

theorem run_enter {f : FuncId} {fn : Func} (hf : P.funcs[f]? = some fn) (hb : fn.body.isSome = true) (hn : (fn.name == "runtime.NumGoroutine") = false) (args : Array Value) (w : World) :
    (callFunc f args).run P w = .ok (.enter f args) w := by
  have hb' : ¬ (fn.body = none) := by intro h; simp [h] at hb
  have hn' : ¬ (fn.name = "runtime.NumGoroutine") := by simpa using hn
  simp [callFunc, hf, hn', hb']

theorem call_wp (hc : CallS P G call) (hG : GPure G) (sr : SR B C σ w) (er : ER C N env a.tmps) (gr : GR G C) {o : Oper} {ao : AOp} (hok : okOp P o ao = true) (hcall : ao.isCall = true)
    {r : AOut} {σ' : Store} (h : evalOp call G env σ ao = some (r, σ')) {K : Act → World → Prop} {Q : Exit → Act → World → Prop}
    (hK : ∀ C' av v w', r = .ret av → Ctx.le B C C' → SR B C' σ' w' → Below B w w' → VR C' av v → K (a.put o.dst v) w')
    (hP : ∀ C' av v w', r = .pan av → Ctx.le B C C' → SR B C' σ' w' → Below B w w' → VR C' av v → Q (.panic [{ v := v, recovered := false }]) a w') : o.wp P a w K Q := by
  obtain ⟨c, ho, hcok⟩ : ∃ c, o.op = .call c ∧ okCall P c o.type ao = true := by
    unfold okOp at hok
    split at hok <;> first | (simp [AOp.isCall] at hcall; done) | skip
    · rename_i c ho; exact ⟨c, ho, hok⟩
    · cases hok
  have fin : ∀ {f : FuncId} {vs : List Value}, (execOp a.eval o).run P w = .ok (.enter f vs.toArray) w → (Calls P f vs.toArray w fun e w' => ∃ C', Ctx.le B C C' ∧ SR B C' σ' w' ∧ Below B w w' ∧ OutR C' r e) → o.wp P a w K Q := by
    intro f vs hrun hcalls
    unfold Oper.wp
    rw [hrun, Oper.upon_enter]
    refine hcalls.mono fun e w' ⟨C', h1, h2, h3, h4⟩ => ?_
    cases r with
    | ret av =>
      obtain ⟨v, rfl, hv⟩ := h4
      exact hK C' av v w' rfl h1 h2 h3 hv
    | pan av =>
      obtain ⟨v, rfl, hv⟩ := h4
      exact hP C' av v w' rfl h1 h2 h3 hv
  unfold okCall at hcok
  split at hcok <;> first | (simp [AOp.isCall] at hcall; done) | skip
  · rename_i f k f' args hcl
    simp only [Bool.and_eq_true, beq_iff_eq] at hcok
    obtain ⟨⟨rfl, hargs⟩, hfn⟩ := hcok
    simp only [evalOp] at h
    split at h
    · rename_i vs hvs
      have ra := okXs_sound er gr hargs hvs
      obtain ⟨⟨fn, hf, hb, hn⟩, hcalls⟩ := callM_sound hc hG h sr gr ra
      refine fin ?_ hcalls
      have e1 : c.args.map a.eval = (c.args.toList.map a.eval).toArray := by apply Array.ext'; simp
      simp only [execOp, ho, resolve, hcl, Act.eval, Deferred.ofValue, Sem.run_bind, Sem.run_pure, Result.andThen_ok, invoke]
      rw [run_enter hf hb hn]
      simp only [Array.empty_append, Array.append_empty]
      exact congrArg (fun x => Result.ok (Next.enter f x) w) e1
    · cases h
  · rename_i fx k f' args hcl
    simp only [Bool.and_eq_true] at hcok
    obtain ⟨hfx, hargs⟩ := hcok
    simp only [evalOp] at h
    split at h
    · rename_i f first captured vs hf' hvs
      have ra := okXs_sound er gr hargs hvs
      have rf := okX_sound er gr hfx hf'
      generalize hfv : a.eval fx = fv at rf
      cases rf with
      | fn hla hlb ha hb =>
      rename_i va vb
      have rall : VRs C (first ++ vs ++ captured) (va ++ c.args.toList.map a.eval ++ vb) := ((⟨hla, ha⟩ : VRs C first va).append ra).append ⟨hlb, hb⟩
      obtain ⟨⟨fn, hf, hb, hn⟩, hcalls⟩ := callM_sound hc hG h sr gr rall
      refine fin ?_ hcalls
      have e1 : va.toArray ++ c.args.map a.eval ++ vb.toArray = (va ++ c.args.toList.map a.eval ++ vb).toArray := by apply Array.ext'; simp
      simp only [execOp, ho, resolve, hcl, hfv, Deferred.ofValue, Sem.run_bind, Sem.run_pure, Result.andThen_ok, invoke]
      rw [run_enter hf hb hn]
      exact congrArg (fun x => Result.ok (Next.enter f x) w) e1
    · cases h
  · split at hcok <;> first | (simp [AOp.isCall] at hcall; done) | cases hcok
  · cases hcok

theorem panic_wp (er : ER C N env a.tmps) (gr : GR G C) {o : Oper} {ao : AOp} (hok : okOp P o ao = true) (hp : ao.isPanic = true)
    {r : AOut} {σ' : Store} (h : evalOp call G env σ ao = some (r, σ')) {K : Act → World → Prop} {Q : Exit → Act → World → Prop}
    (hP : ∀ av v, r = .pan av → σ' = σ → VR C av v → Q (.panic [{ v := v, recovered := false }]) a w) : o.wp P a w K Q := by
  obtain ⟨x, ax, ho, rfl, hx⟩ : ∃ x ax, o.op = .panic x ∧ ao = .panic ax ∧ okX x ax = true := by
    unfold okOp at hok
    split at hok <;> first | (simp [AOp.isPanic] at hp; done) | skip
    · rename_i c ho
      unfold okCall at hok
      split at hok <;> first | (simp [AOp.isPanic] at hp; done) | skip
      · split at hok <;> first | (simp [AOp.isPanic] at hp; done) | cases hok
      · cases hok
    · rename_i x ax ho; exact ⟨x, ax, ho, rfl, hok⟩
    · cases hok
  simp only [evalOp] at h
  split at h
  · rename_i t v hv
    cases h
    have rv := okX_sound er gr hx hv
    generalize hxv : a.eval x = xv at rv
    unfold Oper.wp
    cases rv with
    | iface hr =>
    rename_i u
    have hrun : (execOp a.eval o).run P w = .halt (.panic (.iface t u)) w := by
      simp only [execOp, ho, hxv, Instr.panic, Sem.run_bind, run_goPanic, Result.andThen_halt]
    rw [hrun, Oper.upon_panic]
    exact hP _ _ rfl rfl (.iface hr)
  · cases h

theorem op_wp (hc : CallS P G call) (hG : GPure G) (sr : SR B C σ w) (er : ER C N env a.tmps) (gr : GR G C) {o : Oper} {ao : AOp} (hok : okOp P o ao = true)
    {r : AOut} {σ' : Store} (h : evalOp call G env σ ao = some (r, σ')) {K : Act → World → Prop} {Q : Exit → Act → World → Prop}
    (hK : ∀ C' av v w', r = .ret av → Ctx.le B C C' → SR B C' σ' w' → Below B w w' → VR C' av v → K (a.put o.dst v) w')
    (hP : ∀ C' av v w', r = .pan av → Ctx.le B C C' → SR B C' σ' w' → Below B w w' → VR C' av v → Q (.panic [{ v := v, recovered := false }]) a w') : o.wp P a w K Q := by
  by_cases h1 : ao.isCall = true
  · exact call_wp hc hG sr er gr hok h1 h hK hP
  · by_cases h2 : ao.isPanic = true
    · exact panic_wp er gr hok h2 h fun av v hr hs hv => by subst hs; exact hP C av v w hr (.refl _ _) sr (.refl _ _) hv
    · obtain ⟨av, rfl, hg⟩ := op_goes sr er gr hok (by simpa using h1) (by simpa using h2) h
      exact upon_goes hg fun C' v w' l s b hv => hK C' av v w' rfl l s b hv

theorem ops_sound (hc : CallS P G call) (hG : GPure G) {ops : Array Oper} {Q : Exit → Act → World → Prop} {ex : AExit} {env' : Env} {σ' : Store} : ∀ (l : List Oper) (asl : List AOper) (k : Nat), ops.toList.drop k = l → okOps P N ops l asl = true →
    ∀ {env : Env} {σ : Store} {C : Ctx} {a : Act} {w : World}, evalOps call G asl env σ = some (ex, env', σ') → SR B C σ w → ER C N env a.tmps → GR G C →
    (∀ e a' w', Post B C N w a.defers ex env' σ' e a' w' → Q e a' w') → wpOps P ops Q (List.range' k l.length) a w := by
  intro l
  induction l with
  | nil =>
    intro asl k hk hok env σ C a w h sr er gr hQ
    cases asl with
    | cons _ _ => simp [okOps] at hok
    | nil =>
      simp only [evalOps, Option.some.injEq, Prod.mk.injEq] at h
      obtain ⟨rfl, rfl, rfl⟩ := h
      exact hQ _ _ _ ⟨C, .refl _ _, sr, .refl _ _, er, rfl, trivial⟩
  | cons o l ih =>
    intro asl k hk hok env σ C a w h sr er gr hQ
    cases asl with
    | nil => simp [okOps] at hok
    | cons ao asl =>
      simp only [okOps, Bool.and_eq_true] at hok
      obtain ⟨⟨⟨hd, hg⟩, ho⟩, hrest⟩ := hok
      have hok_at : ops[k]? = some o := by
        have := congrArg (·[0]?) hk
        simp at this
        exact this
      have hk' : ops.toList.drop (k + 1) = l := by
        rw [← List.tail_drop, hk]; rfl
      rw [List.length_cons, List.range'_succ]
      simp only [evalOps] at h
      simp only [wpOps, hok_at]
      split at h
      · cases h
      · rename_i hgo
        rw [guard_sound er hg hgo]
        simp only [Bool.false_eq_true, if_false]
        have er' : ER C N (putE env ao.dst AV.undef) (a.put o.dst undef).tmps := er.put hd (.tup (vs := []) rfl (by simp))
        refine ih asl (k + 1) hk' hrest h sr er' gr fun e a' w' hp => hQ e a' w' ?_
        have : (a.put o.dst undef).defers = a.defers := by cases o.dst <;> rfl
        rwa [this] at hp
      · rename_i hgo
        rw [guard_sound er hg hgo]
        simp only [if_true]
        left
        split at h
        · rename_i v σ1 hev
          refine op_wp hc hG sr er gr ho hev (fun C' av u w' hr hle sr' hb hv => ?_) (fun C' av u w' hr hle sr' hb hv => by cases hr)
          cases hr
          have er' : ER C' N (putE env ao.dst v) (a.put o.dst u).tmps := (er.mono hle).put hd hv
          refine ih asl (k + 1) hk' hrest h sr' er' (gr.mono hle) fun e a' w'' hp => hQ e a' w'' ?_
          obtain ⟨C2, l2, s2, b2, e2, d2, x2⟩ := hp
          refine ⟨C2, hle.trans l2, s2, hb.trans b2, e2, ?_, x2⟩
          rw [d2]; cases o.dst <;> rfl
        · rename_i v σ1 hev
          simp only [Option.some.injEq, Prod.mk.injEq] at h
          obtain ⟨rfl, rfl, rfl⟩ := h
          refine op_wp hc hG sr er gr ho hev (fun C' av u w' hr hle sr' hb hv => by cases hr) (fun C' av u w' hr hle sr' hb hv => ?_)
          cases hr
          exact hQ _ _ _ ⟨C', hle, sr', hb, er.mono hle, rfl, u, rfl, hv⟩
        · cases h
end
end Go.Pm
end

section
set_option linter.unusedSimpArgs false
set_option linter.unusedVariables false
set_option linter.unusedSectionVars false
/- The pure machine: code. -/
set_option linter.unusedSimpArgs false
set_option linter.unusedVariables false
namespace Go.Pm
open Go.RowKit (Below)

def LoopWp (P : Program) (c : Code) (Q : Exit → Act → World → Prop) (a : Act) (w : World) : Prop :=
  ∀ (b : Frame) (k : List Item) (cs : List Frame), ∃ e a' w', Q e a' w' ∧ Arrives P (lone (b.at a (.code c :: .inLoop c :: k)) cs w) b k cs e a' w'

theorem wp_of_loop {P : Program} {c : Code} {Q : Exit → Act → World → Prop} {a : Act} {w : World} (h : LoopWp P c Q a w) : (Code.loop c).wp P Q a w :=
  fun b k cs => let ⟨e, a', w', q, r⟩ := h b k cs; ⟨e, a', w', q, .of_steps (.one step_loop) r⟩

theorem loop_round {P : Program} {c : Code} {Q : Exit → Act → World → Prop} {a : Act} {w : World} (h : c.wp P (Exit.then (LoopWp P c Q) Q) a w) : LoopWp P c Q a w := by
  intro b k cs
  obtain ⟨e, a₁, w₁, hq, harr⟩ := h b (.inLoop c :: k) cs
  cases e with
  | normal =>
    obtain ⟨e₂, a₂, w₂, hq₂, harr₂⟩ := hq b k cs
    exact ⟨e₂, a₂, w₂, hq₂, .of_steps (Steps.trans harr (.one step_inLoop)) harr₂⟩
  | exit id => exact ⟨_, a₁, w₁, hq, .pass (x := .inLoop c) rfl (fun _ _ => .inl (by simp)) harr⟩
  | goto l => exact ⟨_, a₁, w₁, hq, .pass (x := .inLoop c) rfl (fun _ _ => .inl (by simp)) harr⟩
  | ret => exact ⟨_, a₁, w₁, hq, .pass (x := .inLoop c) rfl (fun _ _ => .inl (by simp)) harr⟩
  | panic ch => exact ⟨_, a₁, w₁, hq, .pass (x := .inLoop c) rfl (fun _ _ => .inl (by simp)) harr⟩
  | outgrown => exact ⟨_, a₁, w₁, hq, .pass (x := .inLoop c) rfl (fun _ _ => .inl (by simp)) harr⟩

def ScopeWp (P : Program) (c rest : Code) (Q : Exit → Act → World → Prop) (a : Act) (w : World) : Prop :=
  ∀ (b : Frame) (k : List Item) (cs : List Frame), ∃ e a' w', Q e a' w' ∧ Arrives P (lone (b.at a (.code rest :: .inScope c :: k)) cs w) b k cs e a' w'

theorem wp_of_scope {P : Program} {c : Code} {Q : Exit → Act → World → Prop} {a : Act} {w : World} (h : ScopeWp P c c Q a w) : (Code.scope c).wp P Q a w :=
  fun b k cs => let ⟨e, a', w', q, r⟩ := h b k cs; ⟨e, a', w', q, .of_steps (.one step_scope) r⟩

def scopePost (P : Program) (c : Code) (Q : Exit → Act → World → Prop) : Exit → Act → World → Prop
  | .goto l, a, w => ∃ rest, findLabel c l = some rest ∧ ScopeWp P c rest Q a w
  | e, a, w => Q e a w

theorem scope_round {P : Program} {c rest : Code} {Q : Exit → Act → World → Prop} {a : Act} {w : World} (h : rest.wp P (scopePost P c Q) a w) : ScopeWp P c rest Q a w := by
  intro b k cs
  obtain ⟨e, a₁, w₁, hq, harr⟩ := h b (.inScope c :: k) cs
  cases e with
  | normal => exact ⟨.normal, a₁, w₁, hq, Steps.trans harr (.one step_inScope)⟩
  | exit id => exact ⟨.exit id, a₁, w₁, hq, fun k' hk => harr k' (by simp [exitTo, hk])⟩
  | goto l =>
    obtain ⟨rest', hf, hs⟩ := hq
    obtain ⟨e₂, a₂, w₂, hq₂, harr₂⟩ := hs b k cs
    have hg : gotoIn l (.inScope c :: k) = some (.code rest' :: .inScope c :: k) := by simp [gotoIn, hf]
    exact ⟨e₂, a₂, w₂, hq₂, .of_steps (harr _ hg) harr₂⟩
  | ret => exact ⟨_, a₁, w₁, hq, harr⟩
  | panic ch => exact ⟨_, a₁, w₁, hq, harr⟩
  | outgrown => exact ⟨_, a₁, w₁, hq, harr⟩

/-- Regions that draw their order: what is asked of the step that runs them. -/
def DrawS (P : Program) (G : Globals) (N : Nat) (draw : DrawA) : Prop :=
  ∀ (id : Nat) (ops : Array Oper) (asl : List AOper) (before : List (List Nat)) (env : Env) (σ : Store) (ex : AExit) (env' : Env) (σ' : Store), okOps P N ops ops.toList asl = true → okBefore ops.toList asl before = true →
    draw asl before env σ = some (ex, env', σ') → ∀ B C a w, SR B C σ w → ER C N env a.tmps → GR G C → (Code.region id ops true).wp P (Post B C N w a.defers ex env' σ') a w

theorem Post.trans {B : Nat} {C C' : Ctx} {N : Nat} {w w' : World} {ds : List Deferred} {ex : AExit} {env : Env} {σ : Store} {e : Exit} {a : Act} {w'' : World} (hle : Ctx.le B C C') (hb : Below B w w')
    (h : Post B C' N w' ds ex env σ e a w'') : Post B C N w ds ex env σ e a w'' :=
  let ⟨C2, l, s, b, er, d, x⟩ := h
  ⟨C2, hle.trans l, s, hb.trans b, er, d, x⟩

theorem Post.keep {B : Nat} {C : Ctx} {N : Nat} {w : World} {ds : List Deferred} {ex : AExit} {env : Env} {σ : Store} {e : Exit} {a : Act} {w' : World} (ks : List Nat)
    (h : Post B C N w ds ex env σ e a w') : Post B C N w ds ex (keepE ks env) σ e a w' :=
  let ⟨C2, l, s, b, er, d, x⟩ := h
  ⟨C2, l, s, b, er.keep ks, d, x⟩

theorem ExR.normal_inv {C : Ctx} {e : Exit} (h : ExR C .normal e) : e = .normal := by cases e <;> first | rfl | exact h.elim

/-- A label is found where the check finds it. -/
theorem hasLabel_sound {P : Program} {N : Nat} (l : Nat) : ∀ (c : Code) (ac : ACode), okCode P N c ac = true → (findLabel c l).isSome = hasLabel l ac := by
  intro c
  induction c with
  | seq x y ihx ihy =>
    intro ac h
    cases ac <;> simp [okCode] at h
    rename_i u v
    have h1 := ihx u h.1
    have h2 := ihy v h.2
    simp only [findLabel, hasLabel]
    cases hx : findLabel x l with
    | some r => simp [hx] at h1; simp [← h1]
    | none => simp [hx] at h1; rw [h1]; simp [h2]
  | label l' =>
    intro ac h
    cases ac <;> simp [okCode] at h
    subst h
    simp only [findLabel, hasLabel]
    split <;> simp_all
  | region id ops d => intro ac h; cases ac <;> cases d <;> simp [okCode] at h <;> rfl
  | skip => intro ac h; cases ac <;> simp [okCode] at h; rfl
  | cond => intro ac h; cases ac <;> simp [okCode] at h; rfl
  | block => intro ac h; cases ac <;> simp [okCode] at h; rfl
  | loop => intro ac h; cases ac <;> simp [okCode] at h; rfl
  | exit => intro ac h; cases ac <;> simp [okCode] at h; rfl
  | scope => intro ac h; cases ac <;> simp [okCode] at h; rfl
  | goto => intro ac h; cases ac <;> simp [okCode] at h; rfl
  | ret => intro ac h; cases ac <;> simp [okCode] at h; rfl
  | refuse => intro ac h; cases ac <;> simp [okCode] at h; rfl
  | rangeFunc => intro ac h; cases ac <;> simp [okCode] at h

def startsAt (b : Code) : Option Nat → Code → Prop
  | none, rest => rest = b
  | some l, rest => findLabel b l = some rest

section
variable {P : Program} {G : Globals} {N : Nat} {call : CallA} {draw : DrawA} {fuel : Nat}

theorem code_sound (hc : CallS P G call) (hG : GPure G) (hd : DrawS P G N draw) : ∀ (c : Code) (ac : ACode), okCode P N c ac = true → ∀ (start : Option Nat) {env : Env} {σ : Store} {ex : AExit} {env' : Env} {σ' : Store}, evalCode call draw G fuel ac start env σ = some (ex, env', σ') →
    ∀ {B : Nat} {C : Ctx} {a : Act} {w : World}, SR B C σ w → ER C N env a.tmps → GR G C →
      match start with
      | none => c.wp P (Post B C N w a.defers ex env' σ') a w
      | some l => ∃ rest, findLabel c l = some rest ∧ rest.wp P (Post B C N w a.defers ex env' σ') a w := by
  intro c
  induction c with
  | skip =>
    intro ac hok start env σ ex env' σ' h B C a w sr er gr
    cases ac <;> simp [okCode] at hok
    cases start with
    | some l => simp [evalCode] at h
    | none =>
      simp only [evalCode, Option.some.injEq, Prod.mk.injEq] at h
      obtain ⟨rfl, rfl, rfl⟩ := h
      exact wp_skip ⟨C, .refl _ _, sr, .refl _ _, er, rfl, trivial⟩
  | label l' =>
    intro ac hok start env σ ex env' σ' h B C a w sr er gr
    cases ac <;> simp [okCode] at hok
    subst hok
    cases start with
    | some l =>
      simp only [evalCode] at h
      split at h
      · rename_i e
        subst e
        simp only [Option.some.injEq, Prod.mk.injEq] at h
        obtain ⟨rfl, rfl, rfl⟩ := h
        exact ⟨.skip, by simp [findLabel], wp_skip ⟨C, .refl _ _, sr, .refl _ _, er, rfl, trivial⟩⟩
      · cases h
    | none =>
      simp only [evalCode, Option.some.injEq, Prod.mk.injEq] at h
      obtain ⟨rfl, rfl, rfl⟩ := h
      exact wp_label ⟨C, .refl _ _, sr, .refl _ _, er, rfl, trivial⟩
  | region id ops dr =>
    intro ac hok start env σ ex env' σ' h B C a w sr er gr
    cases dr with
    | false =>
      cases ac <;> simp [okCode] at hok
      rename_i asl keep
      cases start with
      | some l => simp [evalCode] at h
      | none =>
        simp only [evalCode] at h
        have fin : ∀ {ex0 : AExit} {env0 : Env} {σ0 : Store} {Q : Exit → Act → World → Prop}, evalOps call G asl env σ = some (ex0, env0, σ0) → (∀ e a' w', Post B C N w a.defers ex0 env0 σ0 e a' w' → Q e a' w') → (Code.region id ops false).wp P Q a w := by
          intro ex0 env0 σ0 Q hev hQ
          refine wp_region ?_
          have := ops_sound (P := P) (G := G) (N := N) hc hG (ops := ops) (Q := Q) ops.toList asl 0 (by simp) hok hev sr er gr hQ
          rwa [Array.length_toList, ← List.range_eq_range'] at this
        split at h
        · rename_i env0 σ0 hev
          simp only [Option.some.injEq, Prod.mk.injEq] at h
          obtain ⟨rfl, rfl, rfl⟩ := h
          exact fin hev fun e a' w' hp => hp.keep keep
        · exact fin h fun e a' w' hp => hp
    | true =>
      cases ac <;> simp [okCode] at hok
      rename_i asl before keep
      cases start with
      | some l => simp [evalCode] at h
      | none =>
        simp only [evalCode] at h
        split at h
        · rename_i env0 σ0 hev
          simp only [Option.some.injEq, Prod.mk.injEq] at h
          obtain ⟨rfl, rfl, rfl⟩ := h
          exact wp_mono (hd id ops asl before env σ _ _ _ hok.1 hok.2 hev B C a w sr er gr) fun e a' w' hp => hp.keep keep
        · exact hd id ops asl before env σ _ _ _ hok.1 hok.2 h B C a w sr er gr
  | seq x y ihx ihy =>
    intro ac hok start env σ ex env' σ' h B C a w sr er gr
    cases ac <;> simp [okCode] at hok
    rename_i u v
    have next : ∀ (x' : Code) (r : Res), (∀ {ex0 env0 σ0}, r = some (ex0, env0, σ0) → x'.wp P (Post B C N w a.defers ex0 env0 σ0) a w) →
        (match r with | some (.normal, env, σ) => evalCode call draw G fuel v none env σ | z => z) = some (ex, env', σ') → (Code.seq x' y).wp P (Post B C N w a.defers ex env' σ') a w := by
      intro x' r hx hr
      refine wp_seq ?_
      cases r with
      | none => cases hr
      | some t =>
        obtain ⟨ex0, env0, σ0⟩ := t
        refine wp_mono (hx rfl) fun e a1 w1 hp => ?_
        cases ex0 with
        | normal =>
          simp only at hr
          obtain ⟨C1, l1, s1, b1, e1, d1, x1⟩ := hp
          obtain rfl := x1.normal_inv
          have := ihy v hok.2 none hr s1 e1 (gr.mono l1)
          simp only at this
          rw [d1] at this
          exact wp_mono this fun e a2 w2 hp2 => hp2.trans l1 b1
        | _ =>
          simp only [Option.some.injEq, Prod.mk.injEq] at hr
          obtain ⟨rfl, rfl, rfl⟩ := hr
          cases e with
          | normal => obtain ⟨_, _, _, _, _, _, x1⟩ := hp; exact x1.elim
          | _ => exact hp
    cases start with
    | none =>
      simp only [evalCode] at h
      exact next x (evalCode call draw G fuel u none env σ) (fun hev => ihx u hok.1 none hev sr er gr) h
    | some l =>
      simp only [evalCode] at h
      have hl := hasLabel_sound (P := P) (N := N) l x u hok.1
      split at h
      · rename_i hhas
        rw [hhas] at hl
        obtain ⟨rest, hrest⟩ := Option.isSome_iff_exists.1 hl
        refine ⟨.seq rest y, by simp [findLabel, hrest], ?_⟩
        refine next rest (evalCode call draw G fuel u (some l) env σ) (fun hev => ?_) h
        obtain ⟨rest', h1, h2⟩ := ihx u hok.1 (some l) hev sr er gr
        rw [hrest] at h1; cases h1
        exact h2
      · rename_i hhas
        have hnone : findLabel x l = none := by
          cases hx : findLabel x l with
          | none => rfl
          | some _ => simp [hx] at hl; exact absurd hl.symm (by simpa using hhas)
        obtain ⟨rest, h1, h2⟩ := ihy v hok.2 (some l) h sr er gr
        exact ⟨rest, by simp [findLabel, hnone, h1], h2⟩
  | cond cx x y ihx ihy =>
    intro ac hok start env σ ex env' σ' h B C a w sr er gr
    cases ac <;> simp [okCode] at hok
    rename_i cx' u v
    cases start with
    | some l => simp [evalCode] at h
    | none =>
      simp only [evalCode] at h
      split at h
      · rename_i hcx
        have rc := okX_sound er gr hok.1.1 hcx
        generalize hv : a.eval cx = cv at rc
        cases rc
        exact wp_cond_true hv (ihx u hok.1.2 none h sr er gr)
      · rename_i hcx
        have rc := okX_sound er gr hok.1.1 hcx
        generalize hv : a.eval cx = cv at rc
        cases rc
        exact wp_cond_false hv (ihy v hok.2 none h sr er gr)
      · cases h
  | block id b ih =>
    intro ac hok start env σ ex env' σ' h B C a w sr er gr
    cases ac <;> simp [okCode] at hok
    rename_i j u
    obtain ⟨rfl, hok⟩ := hok
    cases start with
    | some l => simp [evalCode] at h
    | none =>
      simp only [evalCode] at h
      refine wp_block ?_
      split at h
      · rename_i i env0 σ0 hev
        have := ih u hok none hev sr er gr
        refine wp_mono this fun e a' w' hp => ?_
        obtain ⟨C1, l1, s1, b1, e1, d1, x1⟩ := hp
        cases e with
        | exit i' =>
          have : i = i' := x1
          subst this
          simp only [Exit.inBlock]
          split at h
          · rename_i e2
            simp only [Option.some.injEq, Prod.mk.injEq] at h
            obtain ⟨rfl, rfl, rfl⟩ := h
            rw [if_pos e2]
            exact ⟨C1, l1, s1, b1, e1, d1, trivial⟩
          · rename_i e2
            simp only [Option.some.injEq, Prod.mk.injEq] at h
            obtain ⟨rfl, rfl, rfl⟩ := h
            rw [if_neg e2]
            exact ⟨C1, l1, s1, b1, e1, d1, rfl⟩
        | _ => exact x1.elim
      · rename_i hne
        have := ih u hok none h sr er gr
        refine wp_mono this fun e a' w' hp => ?_
        cases e with
        | exit i' =>
          obtain ⟨C1, l1, s1, b1, e1, d1, x1⟩ := hp
          cases ex with
          | exit i => exact absurd h (fun h => hne _ _ _ h)
          | _ => exact x1.elim
        | _ => exact hp
  | loop b ih =>
    intro ac hok start env σ ex env' σ' h B C a w sr er gr
    cases ac <;> simp [okCode] at hok
    rename_i keep u
    cases start with
    | some l => simp [evalCode] at h
    | none =>
      simp only [evalCode] at h
      refine wp_of_loop ?_
      have key : ∀ (n : Nat) {env : Env} {σ : Store} {C1 : Ctx} {a1 : Act} {w1 : World}, iterA (evalCode call draw G fuel u none) keep n env σ = some (ex, env', σ') → Ctx.le B C C1 → SR B C1 σ w1 → Below B w w1 → ER C1 N env a1.tmps → a1.defers = a.defers →
          LoopWp P b (Post B C N w a.defers ex env' σ') a1 w1 := by
        intro n
        induction n with
        | zero => intro env σ C1 a1 w1 h; simp [iterA] at h
        | succ n ihn =>
          intro env σ C1 a1 w1 h l1 s1 b1 e1 d1
          simp only [iterA] at h
          refine loop_round ?_
          split at h
          · rename_i env0 σ0 hev
            have := ih u hok none hev s1 (e1.keep keep) (gr.mono l1)
            refine wp_mono this fun e a2 w2 hp => ?_
            obtain ⟨C2, l2, s2, b2, e2, d2, x2⟩ := hp
            obtain rfl := x2.normal_inv
            exact ihn h (l1.trans l2) s2 (b1.trans b2) e2 (d2.trans d1)
          · rename_i hne
            have := ih u hok none h s1 (e1.keep keep) (gr.mono l1)
            refine wp_mono this fun e a2 w2 hp => ?_
            rw [d1] at hp
            have hp' := hp.trans l1 b1
            cases e with
            | normal =>
              obtain ⟨C2, l2, s2, b2, e2, d2, x2⟩ := hp
              cases ex with
              | normal => exact absurd h (fun h => hne _ _ h)
              | _ => exact x2.elim
            | _ => exact hp'
      exact key fuel h (.refl _ _) sr (.refl _ _) er rfl
  | rangeFunc f ps x y ihx ihy =>
    intro ac hok
    cases ac <;> simp [okCode] at hok
  | exit id =>
    intro ac hok start env σ ex env' σ' h B C a w sr er gr
    cases ac <;> simp [okCode] at hok
    subst hok
    cases start with
    | some l => simp [evalCode] at h
    | none =>
      simp only [evalCode, Option.some.injEq, Prod.mk.injEq] at h
      obtain ⟨rfl, rfl, rfl⟩ := h
      exact wp_exit ⟨C, .refl _ _, sr, .refl _ _, er, rfl, rfl⟩
  | scope b ih =>
    intro ac hok start env σ ex env' σ' h B C a w sr er gr
    cases ac <;> simp [okCode] at hok
    rename_i u
    cases start with
    | some l => simp [evalCode] at h
    | none =>
      simp only [evalCode] at h
      refine wp_of_scope ?_
      have key : ∀ (n : Nat) (start : Option Nat) {env : Env} {σ : Store} {C1 : Ctx} {a1 : Act} {w1 : World}, jumpsA (evalCode call draw G fuel u) n start env σ = some (ex, env', σ') → Ctx.le B C C1 → SR B C1 σ w1 → Below B w w1 → ER C1 N env a1.tmps → a1.defers = a.defers →
          ∃ rest, startsAt b start rest ∧ ScopeWp P b rest (Post B C N w a.defers ex env' σ') a1 w1 := by
        intro n
        induction n with
        | zero => intro start env σ C1 a1 w1 h; simp [jumpsA] at h
        | succ n ihn =>
          intro start env σ C1 a1 w1 h l1 s1 b1 e1 d1
          simp only [jumpsA] at h
          have body : ∀ {ex0 env0 σ0}, evalCode call draw G fuel u start env σ = some (ex0, env0, σ0) → ∃ rest, startsAt b start rest ∧ rest.wp P (Post B C1 N w1 a1.defers ex0 env0 σ0) a1 w1 := by
            intro ex0 env0 σ0 hev
            have := ih u hok start hev s1 e1 (gr.mono l1)
            cases start with
            | none => exact ⟨b, rfl, this⟩
            | some l => exact this
          split at h
          · rename_i l env0 σ0 hev
            obtain ⟨rest, hr, hw⟩ := body hev
            refine ⟨rest, hr, scope_round (wp_mono hw fun e a2 w2 hp => ?_)⟩
            obtain ⟨C2, l2, s2, b2, e2, d2, x2⟩ := hp
            cases e with
            | goto l' =>
              have : l = l' := x2
              subst this
              obtain ⟨rest', h1, h2⟩ := ihn (some l) h (l1.trans l2) s2 (b1.trans b2) e2 (d2.trans d1)
              exact ⟨rest', h1, h2⟩
            | _ => exact x2.elim
          · rename_i hne
            obtain ⟨rest, hr, hw⟩ := body h
            refine ⟨rest, hr, scope_round (wp_mono hw fun e a2 w2 hp => ?_)⟩
            rw [d1] at hp
            have hp' := hp.trans l1 b1
            cases e with
            | goto l' =>
              obtain ⟨C2, l2, s2, b2, e2, d2, x2⟩ := hp
              cases ex with
              | goto l => exact absurd h (fun h => hne _ _ _ h)
              | _ => exact x2.elim
            | _ => exact hp'
      obtain ⟨rest, hr, hs⟩ := key fuel none h (.refl _ _) sr (.refl _ _) er rfl
      subst hr
      exact hs
  | goto l0 =>
    intro ac hok start env σ ex env' σ' h B C a w sr er gr
    cases ac <;> simp [okCode] at hok
    subst hok
    cases start with
    | some l => simp [evalCode] at h
    | none =>
      simp only [evalCode, Option.some.injEq, Prod.mk.injEq] at h
      obtain ⟨rfl, rfl, rfl⟩ := h
      exact wp_goto ⟨C, .refl _ _, sr, .refl _ _, er, rfl, rfl⟩
  | ret =>
    intro ac hok start env σ ex env' σ' h B C a w sr er gr
    cases ac <;> simp [okCode] at hok
    cases start with
    | some l => simp [evalCode] at h
    | none =>
      simp only [evalCode, Option.some.injEq, Prod.mk.injEq] at h
      obtain ⟨rfl, rfl, rfl⟩ := h
      exact wp_ret ⟨C, .refl _ _, sr, .refl _ _, er, rfl, trivial⟩
  | refuse why =>
    intro ac hok start env σ ex env' σ' h B C a w sr er gr
    cases ac <;> simp [okCode] at hok
    cases start <;> simp [evalCode] at h
end
end Go.Pm
end

section
set_option linter.unusedSimpArgs false
set_option linter.unusedVariables false
set_option linter.unusedSectionVars false
/- The pure machine: regions whose order is open. -/
set_option linter.unusedSimpArgs false
set_option linter.unusedVariables false
namespace Go.Pm
open Go.RowKit (Below)

theorem look_putE (env : Env) (d : Option Nat) (v : AV) (s : Nat) : look (putE env d v) s = if d = some s then some v else look env s := by
  cases d with
  | none => simp [putE]
  | some d =>
    simp only [putE, look, Option.some.injEq]

def Eqv (env env' : Env) : Prop := ∀ s, look env s = look env' s
theorem Eqv.same {env env' : Env} (h : Eqv env env') (l : List Nat) : Same env env' l := fun s _ => h s
theorem Eqv.put {env env' : Env} (h : Eqv env env') (d : Option Nat) (v : AV) : Eqv (putE env d v) (putE env' d v) := fun s => by rw [look_putE, look_putE, h s]
theorem Eqv.symm {env env' : Env} (h : Eqv env env') : Eqv env' env := fun s => (h s).symm

theorem ER.eqv {C : Ctx} {N : Nat} {env env' : Env} {tmps : Array Value} (er : ER C N env tmps) (h : Eqv env env') : ER C N env' tmps :=
  ⟨er.size, fun s a k => er.at_ s a (by rw [h s]; exact k)⟩

/-- An operation of a region, with what it does. -/
structure Item where
  i : Nat
  o : AOper
  k : Nat
  v : AV
  e : Eff
  r : Rd

section
variable {call : CallA} {G : Globals}

def Runs (call : CallA) (G : Globals) : List Item → Env → Store → Env → Store → Prop
  | [], env, σ, env', σ' => Eqv env env' ∧ σ = σ'
  | x :: l, env, σ, env', σ' => stepG call G env σ x.k x.o = some (x.v, x.e, x.r) ∧ Runs call G l (putE env x.o.dst x.v) (x.e.app σ) env' σ'

theorem Runs.congr : ∀ {l : List Item} {env env1 env' : Env} {σ σ' : Store}, Runs call G l env σ env' σ' → Eqv env env1 → Runs call G l env1 σ env' σ'
  | [], _, _, _, _, _, h, he => ⟨fun s => (he s).symm.trans (h.1 s), h.2⟩
  | x :: l, _, _, _, _, _, h, he => ⟨by rw [← stepG_congr (he.same _)]; exact h.1, Runs.congr h.2 (he.put _ _)⟩

def Indep (x y : Item) : Prop := apartS x.o y.o = true ∧ conflict x.e x.r y.e y.r = false

theorem apartS_spec {x y : AOper} (h : apartS x y = true) : (∀ d, x.dst = some d → d ∉ y.slots ∧ y.dst ≠ some d) ∧ (∀ d, y.dst = some d → d ∉ x.slots) := by
  unfold apartS at h
  simp only [Bool.and_eq_true] at h
  obtain ⟨h1, h2⟩ := h
  constructor
  · intro d hd
    rw [hd] at h1
    simpa using h1
  · intro d hd
    rw [hd] at h2
    simpa using h2

theorem Runs.swap {x y : Item} {l : List Item} {env env' : Env} {σ σ' : Store} (hi : Indep x y) (h : Runs call G (x :: y :: l) env σ env' σ') : Runs call G (y :: x :: l) env σ env' σ' := by
  obtain ⟨hx, hy, hl⟩ := h
  obtain ⟨hs, hc⟩ := hi
  obtain ⟨s1, s2⟩ := apartS_spec hs
  obtain ⟨c1, c2, c3⟩ := agree_of hc σ
  have hy' : stepG call G env σ y.k y.o = some (y.v, y.e, y.r) := by
    refine stepG_agree ?_ c1
    rw [← hy]
    refine stepG_congr fun s hsl => ?_
    rw [look_putE, if_neg]
    intro hd
    exact (s1 s hd).1 hsl
  have hx' : stepG call G (putE env y.o.dst y.v) (y.e.app σ) x.k x.o = some (x.v, x.e, x.r) := by
    refine stepG_agree ?_ c2
    rw [← hx]
    refine stepG_congr fun s hsl => ?_
    rw [look_putE, if_neg]
    intro hd
    exact s2 s hd hsl
  refine ⟨hy', hx', ?_⟩
  rw [← c3]
  refine hl.congr fun s => ?_
  rw [look_putE, look_putE, look_putE, look_putE]
  by_cases h1 : y.o.dst = some s
  · rw [if_pos h1, if_neg, if_pos h1]
    intro h2
    exact (s1 s h2).2 h1
  · rw [if_neg h1, if_neg h1]

theorem Runs.front : ∀ {l1 : List Item} {y : Item} {l2 : List Item} {env env' : Env} {σ σ' : Store}, (∀ x, x ∈ l1 → Indep x y) → Runs call G (l1 ++ y :: l2) env σ env' σ' → Runs call G (y :: (l1 ++ l2)) env σ env' σ'
  | [], _, _, _, _, _, _, _, h => h
  | x :: l1, y, l2, _, _, _, _, hi, h => by
    obtain ⟨h1, h2⟩ := h
    have h3 := Runs.front (l1 := l1) (fun z hz => hi z (by simp [hz])) h2
    exact Runs.swap (hi x (by simp)) ⟨h1, h3⟩
end

/-! ### One step -/

section
variable {P : Program} {G : Globals} {B : Nat} {C : Ctx} {N : Nat} {env : Env} {a : Act} {σ : Store} {w : World} {call : CallA}

theorem callC_store {f : FuncId} {args : List AV} {σ1 : Store} {r : AOut} (h : callC call f args σ = some (r, σ1)) : σ1 = σ := by
  unfold callC at h
  repeat' split at h
  all_goals first | (cases h; done) | (cases h; rfl)

theorem readsD_some {vs : List AV} {x : Option (AOut × Store)} {v : AV} {e : Eff} {rd : Rd} (h : readsD vs x = some (v, e, rd)) : e = .none ∧ ∃ σ1, x = some (.ret v, σ1) := by
  unfold readsD at h
  split at h
  · cases h; exact ⟨rfl, _, rfl⟩
  · cases h

theorem bornD_some {k : Nat} {cs : List AV} {el : Option TypeId} {v : AV} {e : Eff} {rd : Rd} (h : bornD σ k cs el = some (v, e, rd)) : σ[k]? = some .hole ∧ v = .bp k 0 ∧ e = .birth k cs el := by
  unfold bornD at h
  split at h
  · rename_i hg; cases h; exact ⟨hg, rfl, rfl⟩
  · cases h

theorem born_at {k : Nat} {cs : List AV} {c : Array Value} {el : TypeId} (sr : SR B C σ w) (hg : σ[k]? = some .hole) (hc : VRs C cs c.toList) :
    ∃ C', Ctx.le B C C' ∧ SR B C' (σ.set k (.cells cs (some el))) (w.alloc (.cells c el)) ∧ C'.bx k = some w.heap.size := by
  have hk : k < σ.length := (List.getElem?_eq_some_iff.1 hg).1
  obtain ⟨C', l, sr', hb, _⟩ := sr.newBoxAt (σ' := σ.set k (.cells cs (some el))) (n := k) (cs := cs) (c := c) (e := some el) (e0 := el) (fr := (0, 0)) (by have := hc.len; rw [Array.length_toList] at this; rintro t ⟨⟩; exact ⟨rfl, this.symm⟩) (.inr hg) (by rw [List.getElem?_set_self hk]) (fun j hj => by rw [List.getElem?_set_ne (Ne.symm hj)])
    (by rw [List.take_of_length_le (by rw [hc.len]; exact Nat.le_refl _)]; exact hc) (by have := hc.len; simp at this; omega) (by simp)
  exact ⟨C', l, sr', hb⟩

theorem okOp_alloc {o : Oper} {zero : List AV} {elem : TypeId} (h : okOp P o (.alloc zero elem) = true) : o.op = .alloc elem ∧ zeroIs P elem zero = true := by
  cases hop : o.op <;> simp [okOp, hop] at h
  · obtain ⟨rfl, hz⟩ := h; exact ⟨rfl, hz⟩
  · unfold okCall at h
    repeat' split at h
    all_goals simp_all

theorem okOp_box {o : Oper} {elem : TypeId} {n : Nat} {x : AX} (h : okOp P o (.box elem n x) = true) : ∃ y, o.op = .box elem y ∧ okX y x = true := by
  cases hop : o.op <;> simp [okOp, hop] at h
  · obtain ⟨rfl, hz⟩ := h; exact ⟨_, rfl, hz⟩
  · unfold okCall at h
    repeat' split at h
    all_goals simp_all

theorem step_wp (hc : CallS P G call) (hG : GPure G) (sr : SR B C σ w) (er : ER C N env a.tmps) (gr : GR G C) {o : Oper} {ao : AOp} (hok : okOp P o ao = true)
    {k : Nat} {av : AV} {e : Eff} {rd : Rd} (h : stepD call G env σ k ao = some (av, e, rd)) {K : Act → World → Prop} {Q : Exit → Act → World → Prop}
    (hK : ∀ C' v w', Ctx.le B C C' → SR B C' (e.app σ) w' → Below B w w' → VR C' av v → K (a.put o.dst v) w') : o.wp P a w K Q := by
  have plain : ∀ {σ1 : Store}, evalOp call G env σ ao = some (.ret av, σ1) → e.app σ = σ1 → o.wp P a w K Q := by
    intro σ1 he hs
    subst hs
    exact op_wp hc hG sr er gr hok he (fun C' av' v w' hr l s b hv => by cases hr; exact hK C' v w' l s b hv) (fun C' av' v w' hr => by cases hr)
  unfold stepD at h
  split at h
  · -- load
    rename_i n x
    split at h
    · rename_i y hx
      split at h
      · rename_i u hl
        have he : evalOp call G env σ (.load n x) = some (.ret u, σ) := by simp [evalOp, hx, val, hl]
        split at h <;> cases h <;> exact plain he rfl
      · cases h
    · cases h
  · -- store
    rename_i n x y
    split at h
    · rename_i id off u hx hy
      split at h
      · rename_i σ2 hst
        cases h
        have he : evalOp call G env σ (.store n x y) = some (.ret AV.undef, σ2) := by simp [evalOp, hx, hy, hst]
        refine plain he ?_
        simp only [storeAt] at hst
        split at hst
        · rename_i c e1 hs
          split at hst
          · cases hst; rw [app_some hs]
          · cases hst
        · cases hst
      · cases h
    · cases h
  · -- alloc
    rename_i zero elem
    obtain ⟨hg, rfl, rfl⟩ := bornD_some h
    obtain ⟨ho, hz⟩ := okOp_alloc hok
    obtain ⟨z, hz1, hz2⟩ := zeroIs_parts hz C
    obtain ⟨C', l, sr', hb⟩ := born_at (el := elem) sr hg hz2
    exact upon_goes (av := .bp k 0) (σ' := σ.set k (.cells zero (some elem))) ⟨C', _, .pointer (some ⟨w.heap.size, 0, none⟩), .inl (by simp [execOp, ho, Instr.alloc, hz1, newVar, newRow]), l, sr', Below.newBlock sr.hB _, .bp hb⟩ hK
  · -- box
    rename_i elem n x
    obtain ⟨y, ho, hx⟩ := okOp_box hok
    split at h
    · rename_i v hv
      split at h
      · obtain ⟨hg, rfl, rfl⟩ := bornD_some h
        have rv := (okX_sound er gr hx hv).cells
        obtain ⟨C', l, sr', hb⟩ := born_at (el := elem) sr hg rv
        exact upon_goes (av := .bp k 0) (σ' := σ.set k (.cells v.cells (some elem))) ⟨C', _, .pointer (some ⟨w.heap.size, 0, none⟩), .inl (by simp [execOp, ho, Instr.box, newVar, newRow]), l, sr', Below.newBlock sr.hB _, .bp hb⟩ hK
      · cases h
    · cases h
  · -- call
    rename_i f args
    split at h
    · rename_i vs hvs
      obtain ⟨rfl, σ1, hcall⟩ := readsD_some h
      obtain rfl := callC_store hcall
      exact plain (σ1 := σ1) (by simp [evalOp, hvs, callM, hcall]) rfl
    · cases h
  · rename_i fx args
    split at h
    · rename_i f first captured vs hf hvs
      obtain ⟨rfl, σ1, hcall⟩ := readsD_some h
      obtain rfl := callC_store hcall
      refine plain (σ1 := σ1) ?_ rfl
      simp only [evalOp, hf, hvs, callM]
      simpa using hcall
    · cases h
  · rename_i x
    split at h
    · rename_i y hx
      split at h
      · rename_i u hb
        cases h
        exact plain (σ1 := σ) (by simp [evalOp, hx, val, hb]) rfl
      · cases h
    · cases h
  · rename_i h1 h2 h3 h4 h5 h6 h7
    split at h
    · rename_i u σ1 he
      split at h
      · cases h
        exact plain he rfl
      · rename_i hs
        cases h
        have := plain_op he (by simpa using hs) h1 h2 h3 h4 h5 h6 h7
        obtain rfl := this.1
        exact plain he rfl
    · cases h
end
end Go.Pm
end

section
set_option linter.unusedSimpArgs false
set_option linter.unusedVariables false
set_option linter.unusedSectionVars false
/- The pure machine: regions whose order is open, all their orders. -/
set_option linter.unusedSimpArgs false
set_option linter.unusedVariables false
namespace Go.Pm
open Go.RowKit (Below)

section
variable {P : Program} {G : Globals} {B : Nat} {N : Nat} {call : CallA}

def Ord (before : List (List Nat)) (x y : Item) : Prop := (before.getD y.i []).contains x.i = true ∨ Indep x y

/-- An item is an operation of the region. -/
structure OfRegion (P : Program) (N : Nat) (ops : Array Oper) (before : List (List Nat)) (x : Item) : Prop where
  ex : ∃ o, ops[x.i]? = some o ∧ okDst N o.dst x.o.dst = true ∧ okGuard ops o.guard x.o.guard = true ∧ okOp P o x.o.op = true ∧
    (∀ j, (before.getD x.i []).contains j = true → ∃ e, e ∈ o.after ∧ Region.binds .any e = true ∧ (e.on = j ∨ (before.getD e.on []).contains j = true)) ∧ (∀ e, e ∈ o.after → Region.binds .any e = true → e.on < x.i)

theorem any_sound (hc : CallS P G call) (hG : GPure G) {ops : Array Oper} {before : List (List Nat)} {Q : Exit → Act → World → Prop} {env' : Env} {σ' : Store} : ∀ (n : Nat) (R : List Item) (listed : Array Bool), R.length = n → listed.size = ops.size →
    R.Pairwise (Ord before) → R.Pairwise (fun x y => x.i < y.i) → (∀ x, x ∈ R → OfRegion P N ops before x) → (∀ j, listed.getD j true = false ↔ ∃ x, x ∈ R ∧ x.i = j) → (∀ j, listed.getD j false = true → ∀ k, (before.getD j []).contains k = true → listed.getD k false = true) →
    ∀ (env : Env) (σ : Store) (C : Ctx) (a : Act) (w : World), Runs call G R env σ env' σ' → SR B C σ w → ER C N env a.tmps → GR G C →
    (∀ e a' w', Post B C N w a.defers .normal env' σ' e a' w' → Q e a' w') → wpAny P .any ops Q n listed a w := by
  intro n
  induction n with
  | zero =>
    intro R listed hlen hsz hord hasc hof hlist hdown env σ C a w hr sr er gr hQ
    obtain rfl : R = [] := List.eq_nil_of_length_eq_zero hlen
    obtain ⟨he, rfl⟩ := hr
    refine ⟨?_, hQ _ _ _ ⟨C, .refl _ _, sr, .refl _ _, er.eqv he, rfl, trivial⟩⟩
    apply List.eq_nil_iff_forall_not_mem.2
    intro j hj
    obtain ⟨h0, _⟩ := mem_ready.1 hj
    obtain ⟨x, hx, _⟩ := (hlist j).1 h0
    cases hx
  | succ n ih =>
    intro R listed hlen hsz hord hasc hof hlist hdown env σ C a w hr sr er gr hQ
    constructor
    · intro hnil
      exfalso
      cases R with
      | nil => simp at hlen
      | cons x R' =>
        obtain ⟨o, ho, _, _, _, _, haft⟩ := (hof x (by simp)).ex
        have : x.i ∈ Region.ready .any ops listed := by
          refine mem_ready.2 ⟨(hlist x.i).2 ⟨x, by simp, rfl⟩, o, ho, fun e he hb => ?_⟩
          have hlt := haft e he hb
          have hxs := (Array.getElem?_eq_some_iff.1 ho).1
          have hin : e.on < listed.size := by omega
          cases hv : listed.getD e.on true with
          | false =>
            obtain ⟨y, hy, hyi⟩ := (hlist e.on).1 hv
            rw [List.mem_cons] at hy
            rcases hy with rfl | hy
            · omega
            · have := (List.pairwise_cons.1 hasc).1 y hy
              omega
          | true =>
            simp only [Array.getD_eq_getD_getElem?, Array.getElem?_eq_getElem hin, Option.getD_some] at hv ⊢
            exact hv
        rw [hnil] at this
        cases this
    · intro i hi
      obtain ⟨h0, o, ho, haft⟩ := mem_ready.1 hi
      obtain ⟨y, hy, rfl⟩ := (hlist i).1 h0
      obtain ⟨R1, R2, rfl⟩ := List.append_of_mem hy
      obtain ⟨o', ho', hdst, hguard, hop, hbef, _⟩ := (hof y hy).ex
      obtain rfl : o = o' := Option.some.inj (ho.symm.trans ho')
      have hall : ∀ j, (before.getD y.i []).contains j = true → listed.getD j false = true := by
        intro j hj
        obtain ⟨e, he, hb, hon⟩ := hbef _ hj
        have h1 := haft e he hb
        rcases hon with rfl | hon
        · exact h1
        · exact hdown _ h1 _ hon
      have hind : ∀ x, x ∈ R1 → Indep x y := by
        intro x hx
        have hxy : Ord before x y := (List.pairwise_append.1 hord).2.2 x hx y (by simp)
        rcases hxy with hxy | hxy
        · have h1 := hall _ hxy
          have h2 := (hlist x.i).2 ⟨x, by simp [hx], rfl⟩
          rw [Array.getD_eq_getD_getElem?] at h1 h2
          cases hg : listed[x.i]? with
          | none => rw [hg] at h1; cases h1
          | some b => rw [hg] at h1 h2; simp at h1 h2; rw [h1] at h2; cases h2
        · exact hxy
      obtain ⟨hstep, hrest⟩ := hr.front hind
      have sub : (R1 ++ R2).Sublist (R1 ++ y :: R2) := List.Sublist.append_left (List.sublist_cons_self _ _) _
      have hne : ∀ x, x ∈ R1 ++ R2 → x.i ≠ y.i := by
        intro x hx
        rw [List.mem_append] at hx
        have hp := List.pairwise_append.1 hasc
        rcases hx with hx | hx
        · have := hp.2.2 x hx y (by simp); omega
        · have := (List.pairwise_cons.1 hp.2.1).1 x hx; omega
      have next := ih (R1 ++ R2) (listed.setIfInBounds y.i true) (by simp at hlen ⊢; omega) (by simpa using hsz) (hord.sublist sub) (hasc.sublist sub) (fun x hx => hof x (sub.subset hx)) (by
        intro j
        by_cases hj : j = y.i
        · subst hj
          constructor
          · intro h
            have hlt : y.i < listed.size := by rw [hsz]; exact (Array.getElem?_eq_some_iff.1 ho).1
            rw [Array.getD_eq_getD_getElem?] at h
            simp [hlt] at h
          · rintro ⟨x, hx, hxi⟩
            exact absurd hxi (hne x hx)
        · rw [getD_set_ne true (Ne.symm hj), hlist j]
          constructor
          · rintro ⟨x, hx, hxi⟩
            refine ⟨x, ?_, hxi⟩
            rw [List.mem_append, List.mem_cons] at hx
            rw [List.mem_append]
            rcases hx with hx | rfl | hx
            · exact .inl hx
            · exact absurd hxi.symm hj
            · exact .inr hx
          · rintro ⟨x, hx, hxi⟩
            exact ⟨x, sub.subset hx, hxi⟩) (by
        intro j hj k hk
        by_cases hji : j = y.i
        · subst hji
          exact getD_set_true (hall _ hk)
        · rw [getD_set_ne false (Ne.symm hji)] at hj
          exact getD_set_true (hdown _ hj _ hk))
      have hput : ∀ u, (a.put o.dst u).defers = a.defers := fun u => by cases o.dst <;> rfl
      unfold wpOp
      simp only [ho]
      unfold stepG at hstep
      split at hstep
      · cases hstep
      · rename_i hgo
        rw [guard_sound er hguard hgo]
        simp only [Bool.false_eq_true, if_false]
        simp only [Option.some.injEq, Prod.mk.injEq] at hstep
        obtain ⟨h1, h2, h3⟩ := hstep
        rw [← h1, ← h2] at hrest
        refine next _ _ _ _ _ hrest sr (er.put hdst (.tup (vs := []) rfl (by simp))) gr fun e a' w' hp => hQ e a' w' ?_
        rwa [hput] at hp
      · rename_i hgo
        rw [guard_sound er hguard hgo]
        simp only [if_true]
        left
        refine step_wp hc hG sr er gr hop hstep fun C' v w' l s b hv => ?_
        refine next _ _ _ _ _ hrest s ((er.mono l).put hdst hv) (gr.mono l) fun e a' w'' hp => hQ e a' w'' ?_
        rw [hput] at hp
        exact hp.trans l b

/-! ### From the check -/

def items : Nat → Nat → List AOper → List (AV × Eff × Rd) → List Item
  | i, k, o :: r, (v, e, rd) :: tr => ⟨i, o, k, v, e, rd⟩ :: items (i + 1) (k + o.op.births) r tr
  | _, _, _, _ => []

theorem goD_runs : ∀ (l : List AOper) (i k : Nat) {env env' : Env} {σ σ' : Store} {tr}, goD call G l env σ k = some (tr, env', σ') → Runs call G (items i k l tr) env σ env' σ' ∧ tr.length = l.length
  | [], i, k, env, env', σ, σ', tr, h => by
    simp only [goD, Option.some.injEq, Prod.mk.injEq] at h
    obtain ⟨rfl, rfl, rfl⟩ := h
    exact ⟨⟨fun _ => rfl, rfl⟩, rfl⟩
  | o :: r, i, k, env, env', σ, σ', tr, h => by
    simp only [goD] at h
    split at h
    · cases h
    · rename_i v e rd hs
      split at h
      · rename_i tr' env1 σ1 hg
        simp only [Option.some.injEq, Prod.mk.injEq] at h
        obtain ⟨rfl, rfl, rfl⟩ := h
        obtain ⟨h1, h2⟩ := goD_runs r (i + 1) _ hg
        exact ⟨⟨hs, h1⟩, by simp [h2]⟩
      · cases h

theorem items_ge : ∀ (l : List AOper) (i k : Nat) (tr : List (AV × Eff × Rd)) (x : Item), x ∈ items i k l tr → i ≤ x.i
  | [], i, k, tr, x, h => by simp [items] at h
  | _ :: _, i, k, [], x, h => by simp [items] at h
  | o :: r, i, k, (v, e, rd) :: tr, x, h => by
    simp only [items, List.mem_cons] at h
    rcases h with rfl | h
    · exact Nat.le_refl _
    · exact Nat.le_of_succ_le (items_ge r _ _ tr x h)

theorem items_asc : ∀ (l : List AOper) (i k : Nat) (tr : List (AV × Eff × Rd)), (items i k l tr).Pairwise (fun x y => x.i < y.i)
  | [], i, k, tr => by simp [items]
  | _ :: _, i, k, [] => by simp [items]
  | o :: r, i, k, (v, e, rd) :: tr => by
    simp only [items, List.pairwise_cons]
    exact ⟨fun x hx => items_ge r _ _ tr x hx, items_asc r _ _ tr⟩

theorem items_index : ∀ (l : List AOper) (i k : Nat) (tr : List (AV × Eff × Rd)), tr.length = l.length → ∀ j, (∃ x, x ∈ items i k l tr ∧ x.i = j) ↔ i ≤ j ∧ j < i + l.length
  | [], i, k, tr, h, j => by simp [items]
  | _ :: _, i, k, [], h, j => by simp at h
  | o :: r, i, k, (v, e, rd) :: tr, h, j => by
    have ih := items_index r (i + 1) (k + o.op.births) tr (by simpa using h) j
    simp only [items, List.mem_cons, exists_eq_or_imp, List.length_cons]
    rw [ih]
    omega

theorem items_op : ∀ (l : List AOper) (i k : Nat) (tr : List (AV × Eff × Rd)) (x : Item), x ∈ items i k l tr → l[x.i - i]? = some x.o ∧ i ≤ x.i
  | [], i, k, tr, x, h => by simp [items] at h
  | _ :: _, i, k, [], x, h => by simp [items] at h
  | o :: r, i, k, (v, e, rd) :: tr, x, h => by
    simp only [items, List.mem_cons] at h
    rcases h with rfl | h
    · simp
    · obtain ⟨h1, h2⟩ := items_op r _ _ tr x h
      refine ⟨?_, by omega⟩
      rw [show x.i - i = (x.i - (i + 1)) + 1 by omega, List.getElem?_cons_succ]
      exact h1

def Calm (before : List (List Nat)) (x y : Item) : Prop := conflict x.e x.r y.e y.r = false ∨ (before.getD y.i []).contains x.i = true

theorem quiet_conflict {e : Eff} {r : Rd} (h : loudD e r = false) (e' : Eff) (r' : Rd) : conflict e r e' r' = false ∧ conflict e' r' e r = false := by
  cases e <;> cases r <;> simp [loudD] at h
  constructor
  · rfl
  · cases e' <;> cases r' <;> rfl

theorem louds_mem : ∀ (l : List AOper) (i k : Nat) (tr : List (AV × Eff × Rd)), tr.length = l.length → ∀ x, x ∈ items i k l tr → loudD x.e x.r = true → (x.i, x.e, x.r) ∈ loudsD i tr
  | [], i, k, tr, h, x, hx, hl => by simp [items] at hx
  | _ :: _, i, k, [], h, x, hx, hl => by simp at h
  | o :: r, i, k, (v, e, rd) :: tr, h, x, hx, hl => by
    simp only [items, List.mem_cons] at hx
    simp only [loudsD]
    rcases hx with rfl | hx
    · have hl' : loudD e rd = true := hl
      simp [hl']
    · have := louds_mem r (i + 1) _ tr (by simpa using h) x hx hl
      split
      · simp [this]
      · exact this

theorem pairs_calm {before : List (List Nat)} : ∀ (l : List AOper) (i k : Nat) (tr : List (AV × Eff × Rd)), tr.length = l.length → pairsD before (loudsD i tr) = true → (items i k l tr).Pairwise (Calm before)
  | [], i, k, tr, h, hp => by simp [items]
  | _ :: _, i, k, [], h, hp => by simp [items]
  | o :: r, i, k, (v, e, rd) :: tr, h, hp => by
    simp only [items, List.pairwise_cons]
    simp only [loudsD] at hp
    by_cases hl : loudD e rd = true
    · rw [if_pos hl] at hp
      simp only [pairsD, Bool.and_eq_true, List.all_eq_true] at hp
      refine ⟨fun x hx => ?_, pairs_calm r _ _ tr (by simpa using h) hp.2⟩
      by_cases hx2 : loudD x.e x.r = true
      · have := hp.1 _ (louds_mem r _ _ tr (by simpa using h) x hx hx2)
        simp only [Bool.or_eq_true, Bool.not_eq_true'] at this
        exact this
      · exact .inl (quiet_conflict (by simpa using hx2) _ _).2
    · rw [if_neg hl] at hp
      exact ⟨fun x hx => .inl (quiet_conflict (by simpa using hl) _ _).1, pairs_calm r _ _ tr (by simpa using h) hp⟩

theorem haz_spec {before : List (List Nat)} : ∀ (l : List AOper) (bs : List (List Nat)) (past : List (Nat × AOper)) (i k : Nat) (tr : List (AV × Eff × Rd)), bs = before.drop i → bs.length = l.length → hazA past (l.zip bs) i = true →
    (∀ p, p ∈ past → ∀ y, y ∈ items i k l tr → (before.getD y.i []).contains p.1 = true ∨ apartS p.2 y.o = true) ∧ (items i k l tr).Pairwise (fun x y => (before.getD y.i []).contains x.i = true ∨ apartS x.o y.o = true)
  | [], bs, past, i, k, tr, hb, hl, h => by simp [items]
  | _ :: _, bs, past, i, k, [], hb, hl, h => by simp [items]
  | o :: r, [], past, i, k, (v, e, rd) :: tr, hb, hl, h => by simp at hl
  | o :: r, b :: bs, past, i, k, (v, e, rd) :: tr, hb, hl, h => by
    simp only [List.zip_cons_cons, hazA, Bool.and_eq_true, List.all_eq_true] at h
    have hb0 : before.getD i [] = b := by
      have := congrArg (·[0]?) hb
      simp at this
      simp [← this]
    have hb1 : bs = before.drop (i + 1) := by
      rw [← List.tail_drop, ← hb]; rfl
    obtain ⟨h1, h2⟩ := haz_spec r bs (past ++ [(i, o)]) (i + 1) (k + o.op.births) tr hb1 (by simpa using hl) h.2
    simp only [items, List.pairwise_cons, List.mem_cons]
    refine ⟨fun p hp y hy => ?_, fun y hy => h1 (i, o) (by simp) y hy, h2⟩
    rcases hy with rfl | hy
    · have := h.1 p hp
      simp only [Bool.or_eq_true] at this
      simpa only [hb0] using this
    · exact h1 p (by simp [hp]) y hy

theorem okOps_len {ops : Array Oper} : ∀ {l : List Oper} {asl : List AOper}, okOps P N ops l asl = true → asl.length = l.length
  | [], [], _ => rfl
  | [], _ :: _, h => by simp [okOps] at h
  | _ :: _, [], h => by simp [okOps] at h
  | o :: l, a :: asl, h => by
    simp only [okOps, Bool.and_eq_true] at h
    simp [okOps_len h.2]

theorem okOps_at {ops : Array Oper} : ∀ {l : List Oper} {asl : List AOper}, okOps P N ops l asl = true → ∀ {j : Nat} {ao : AOper}, asl[j]? = some ao → ∃ o, l[j]? = some o ∧ okDst N o.dst ao.dst = true ∧ okGuard ops o.guard ao.guard = true ∧ okOp P o ao.op = true
  | [], [], _, j, ao, hj => by simp at hj
  | [], _ :: _, h, j, ao, hj => by simp [okOps] at h
  | _ :: _, [], h, j, ao, hj => by simp [okOps] at h
  | o :: l, a :: asl, h, j, ao, hj => by
    simp only [okOps, Bool.and_eq_true] at h
    cases j with
    | zero => simp at hj; subst hj; exact ⟨o, rfl, h.1.1.1, h.1.1.2, h.1.2⟩
    | succ j => exact okOps_at (l := l) (asl := asl) h.2 (j := j) (by simpa using hj)

theorem items_length : ∀ (l : List AOper) (i k : Nat) (tr : List (AV × Eff × Rd)), tr.length = l.length → (items i k l tr).length = l.length
  | [], i, k, tr, h => by simp [items]
  | _ :: _, i, k, [], h => by simp at h
  | o :: r, i, k, (v, e, rd) :: tr, h => by
    simp [items, items_length r (i + 1) _ tr (by simpa using h)]

theorem hole_at (σ : Store) (n id : Nat) : (σ ++ List.replicate n AObj.hole)[id]? = σ[id]? ∨ ((σ ++ List.replicate n AObj.hole)[id]? = some .hole ∧ σ[id]? = none) := by
  by_cases h : id < σ.length
  · exact .inl (List.getElem?_append_left h)
  · rw [List.getElem?_append_right (by omega), List.getElem?_replicate]
    split
    · exact .inr ⟨rfl, List.getElem?_eq_none (by omega)⟩
    · exact .inl (List.getElem?_eq_none (by omega)).symm

theorem SR.holes {C : Ctx} {σ : Store} {w : World} (h : SR B C σ w) (n : Nat) : SR B C (σ ++ List.replicate n .hole) w := by
  have get : ∀ {id : Nat} {x : AObj}, x ≠ .hole → (σ ++ List.replicate n AObj.hole)[id]? = some x → σ[id]? = some x := by
    intro id x hx hg
    rcases hole_at σ n id with h | ⟨h, _⟩
    · rw [← h]; exact hg
    · rw [h] at hg; cases hg; exact absurd rfl hx
  have own : ∀ {id b : Nat}, own C (σ ++ List.replicate n .hole) id = some b → own C σ id = some b := by
    intro id b hb
    unfold Pm.own at hb ⊢
    rcases hole_at σ n id with h | ⟨h, _⟩
    · rw [h] at hb; exact hb
    · rw [h] at hb; cases hb
  refine ⟨h.hB, h.im, fun id hid => h.fresh id ?_, fun id cs e hg => h.cells id cs e (get (by simp) hg), fun id es hg => h.map id es (get (by simp) hg), fun id t hg => h.tok id t (get (by simp) hg), fun id id' b h1 h2 => h.uniq _ _ _ (own h1) (own h2), fun id b h1 => h.low _ _ (own h1)⟩
  unfold free at hid ⊢
  rcases hole_at σ n id with h | ⟨h, h'⟩
  · rw [← h]; exact hid
  · exact .inl h'

theorem Below.of_drew {w w' : World} (h : Below B w.drew w') : Below B w w' :=
  ⟨h.os, h.tape, h.output, h.size, h.block⟩

theorem Post.drew {C : Ctx} {N : Nat} {w : World} {ds : List Deferred} {ex : AExit} {env : Env} {σ : Store} {e : Exit} {a : Act} {w' : World} (h : Post B C N w.drew ds ex env σ e a w') : Post B C N w ds ex env σ e a w' :=
  let ⟨C2, l, s, b, er, d, x⟩ := h
  ⟨C2, l, s, Below.of_drew b, er, d, x⟩

theorem draw_sound (hm : P.follows .mixedOrders = true) (hc : CallS P G call) (hG : GPure G) : DrawS P G N (drawA call G) := by
  intro id ops asl before env σ ex env' σ' hok hbef h B C a w sr er gr
  unfold drawA at h
  split at h
  · rename_i tr env1 σ1 hg
    split at h
    · rename_i hp
      cases h
      obtain ⟨hruns, hlen⟩ := goD_runs asl 0 _ hg
      simp only [okBefore, Bool.and_eq_true, beq_iff_eq, List.all_eq_true] at hbef
      obtain ⟨⟨⟨hl, hedges⟩, hback⟩, hhaz⟩ := hbef
      have hdrop : before = before.drop 0 := rfl
      have haz := (haz_spec asl before [] 0 σ.length tr rfl (by have := okOps_len hok; omega) hhaz).2
      have calm := pairs_calm asl 0 σ.length tr hlen hp
      have hord : (items 0 σ.length asl tr).Pairwise (Ord before) := by
        refine (haz.and calm).imp fun {x y} ⟨h1, h2⟩ => ?_
        rcases h1 with h1 | h1
        · exact .inl h1
        · rcases h2 with h2 | h2
          · exact .inr ⟨h1, h2⟩
          · exact .inl h2
      have hsz : asl.length = ops.size := by have := okOps_len hok; simpa using this
      refine wp_region_any hm ?_
      refine any_sound (B := B) hc hG ops.size (items 0 σ.length asl tr) _ (by rw [items_length _ _ _ _ hlen, hsz]) (by simp) hord (items_asc _ _ _ _) (fun x hx => ?_) (fun j => ?_) (fun j hj => ?_) env (σ ++ List.replicate (births asl) .hole) C a w.drew hruns ?_ er gr (fun e a' w' hp => ?_)
      · obtain ⟨hx1, _⟩ := items_op _ _ _ _ x hx
        rw [Nat.sub_zero] at hx1
        obtain ⟨o, ho, k1, k2, k3⟩ := okOps_at hok hx1
        have ho' : ops[x.i]? = some o := by simpa using ho
        refine ⟨o, ho', k1, k2, k3, fun j hj => ?_, fun e he hb => ?_⟩
        · have hbl : x.i < before.length := by
            have := (List.getElem?_eq_some_iff.1 ho).1
            omega
          have hmem : (o, before[x.i]) ∈ ops.toList.zip before := by
            rw [List.mem_iff_getElem?]
            exact ⟨x.i, by rw [List.getElem?_zip_eq_some]; exact ⟨ho, List.getElem?_eq_getElem hbl⟩⟩
          have := hedges _ hmem
          simp only [List.all_eq_true] at this
          rw [List.getD_eq_getElem?_getD, List.getElem?_eq_getElem hbl, Option.getD_some] at hj
          have := this j (by simpa using hj)
          obtain ⟨e, he, h2⟩ := Array.any_eq_true'.1 this
          simp only [Bool.and_eq_true, Bool.or_eq_true, beq_iff_eq] at h2
          exact ⟨e, he, h2.1, h2.2⟩
        · have hmem : (o, x.i) ∈ ops.toList.zipIdx := by
            rw [List.mem_zipIdx_iff_getElem?]
            exact ho
          have := hback _ hmem
          have := Array.all_eq_true_iff_forall_mem.1 this e he
          simpa [hb] using this
      · rw [items_index _ _ _ _ hlen]
        simp only [Nat.zero_le, true_and, Nat.zero_add]
        rw [hsz]
        constructor
        · intro h
          by_cases hj : j < ops.size
          · exact hj
          · rw [Array.getD_eq_getD_getElem?, Array.getElem?_eq_none (by simpa using hj)] at h; cases h
        · intro hj
          simp [hj]
      · exfalso
        rw [Array.getD_eq_getD_getElem?] at hj
        by_cases hlt : j < ops.size
        · simp [hlt] at hj
        · rw [Array.getElem?_eq_none (by simpa using hlt)] at hj; cases hj
      · exact sr.drew.holes _
      · exact hp.drew
    · cases h
  · cases h
end
end Go.Pm
end

section
set_option linter.unusedSimpArgs false
set_option linter.unusedVariables false
set_option linter.unusedSectionVars false
/- The pure machine: functions. -/
set_option linter.unusedSimpArgs false
set_option linter.unusedVariables false
namespace Go.Pm
open Go.RowKit (Below)

section
variable {P : Program} {G : Globals} {B : Nat} {C : Ctx} {N : Nat} {env : Env} {σ : Store} {w : World}

def resultM (tmps : Array Value) : ResultVar → Sem Value
  | .tmp t => pure (tmps.getD t undef)
  | .cell a t => do loadVar t (← asAddr (tmps.getD a undef))

theorem results_list (sr : SR B C σ w) {tmps : Array Value} (er : ER C N env tmps) : ∀ {rs : List ResultVar} {ars : List ARes}, okRes P rs ars = true → ∀ {avs}, resultsA env σ ars = some avs →
    ∃ vs, (rs.mapM (resultM tmps)).run P w = .ok vs w ∧ VRs C avs vs := by
  intro rs
  induction rs with
  | nil =>
    intro ars hok avs h
    cases ars with
    | nil => simp only [resultsA, Option.some.injEq] at h; subst h; exact ⟨[], by simp, .nil _⟩
    | cons _ _ => simp [okRes] at hok
  | cons r rs ih =>
    intro ars hok avs h
    cases r with
    | tmp t =>
      cases ars with
      | nil => simp [okRes] at hok
      | cons ar ars =>
        cases ar with
        | cell _ _ => simp [okRes] at hok
        | tmp s =>
          simp only [okRes, Bool.and_eq_true, beq_iff_eq] at hok
          obtain ⟨rfl, hok⟩ := hok
          simp only [resultsA] at h
          split at h
          · rename_i v vs h1 h2
            cases h
            obtain ⟨us, k1, k2⟩ := ih hok h2
            obtain ⟨u, q1, q2⟩ := er.at_ _ _ h1
            refine ⟨u :: us, ?_, .cons q2 k2⟩
            simp [List.mapM_cons, resultM, k1, q1]
          · cases h
    | cell t ty =>
      cases ars with
      | nil => simp [okRes] at hok
      | cons ar ars =>
        cases ar with
        | tmp _ => simp [okRes] at hok
        | cell s n =>
          simp only [okRes, Bool.and_eq_true, beq_iff_eq] at hok
          obtain ⟨⟨rfl, hrd⟩, hok⟩ := hok
          simp only [resultsA] at h
          split at h
          · rename_i x hx
            split at h
            · rename_i v vs h1 h2
              cases h
              obtain ⟨us, k1, k2⟩ := ih hok h2
              obtain ⟨u, q1, q2⟩ := er.at_ _ _ hx
              obtain ⟨z, p1, p2⟩ := loadAt_sound (P := P) sr q2 h1 hrd
              refine ⟨z :: us, ?_, .cons p2 k2⟩
              have hload : (resultM tmps (.cell t ty)).run P w = .ok z w := by
                simp only [resultM, Array.getD_eq_getD_getElem?, q1, Option.getD_some]
                simp only [Instr.loadAt] at p1
                cases q2 <;> first
                  | (simp only [Instr.sureAddr, asAddr, pure_bind] at p1 ⊢; exact p1)
                  | (simp [Instr.sureAddr] at p1)
              simp [List.mapM_cons, hload, k1]
            · cases h
          · cases h

theorem results_sound (sr : SR B C σ w) {tmps : Array Value} (er : ER C N env tmps) {fn : Func} {ars : List ARes} (hok : okRes P fn.results.toList ars = true) {avs : List AV} (h : resultsA env σ ars = some avs) :
    ∃ v, (results fn tmps).run P w = .ok v w ∧ VR C (oneOrTup avs) v := by
  obtain ⟨vs, k1, k2⟩ := results_list (P := P) sr er hok h
  have hm : (fn.results.mapM (resultM tmps) : Sem (Array Value)).run P w = .ok vs.toArray w := by
    rw [Array.mapM_eq_mapM_toList]
    simp [k1]
  have hr : (results fn tmps).run P w = ((fn.results.mapM (resultM tmps) : Sem (Array Value)).run P w).andThen fun vs w' => .ok (if h : vs.size = 1 then vs[0] else .tuple vs) w' := by
    unfold results
    rw [Sem.run_bind]
    congr 2
  rw [hr, hm]
  simp only [Result.andThen_ok]
  cases avs with
  | nil =>
    obtain rfl := k2.nil_inv
    exact ⟨_, rfl, .tup rfl (by simp)⟩
  | cons a asl =>
    obtain ⟨v, us, rfl, hv, hr⟩ := k2.cons_inv
    cases asl with
    | nil =>
      obtain rfl := hr.nil_inv
      exact ⟨v, by simp, hv⟩
    | cons a' as' =>
      obtain ⟨v', us', rfl, hv', hr'⟩ := hr.cons_inv
      refine ⟨.tuple (v :: v' :: us').toArray, by simp, ?_⟩
      exact .tup k2.len k2.at_

theorem fn_sound {call : CallA} {draw : DrawA} {fuel : Nat} (hc : CallS P G call) (hG : GPure G) (hd : ∀ N, DrawS P G N draw) {f : FuncId} {af : AFunc} (hok : okAt P f af = true) {args : List AV} {r : AOut} {σ' : Store}
    (h : evalFn call draw G fuel af args σ = some (r, σ')) : (∃ fn, P.funcs[f]? = some fn ∧ fn.body.isSome = true ∧ (fn.name == "runtime.NumGoroutine") = false) ∧
    ∀ B C w vs, SR B C σ w → GR G C → VRs C args vs → Calls P f vs.toArray w fun e w' => ∃ C', Ctx.le B C C' ∧ SR B C' σ' w' ∧ Below B w w' ∧ OutR C' r e := by
  unfold okAt at hok
  split at hok
  · rename_i fn hf
    unfold okFunc at hok
    simp only [Bool.and_eq_true, decide_eq_true_eq, bne_iff_ne] at hok
    obtain ⟨⟨⟨⟨hbody, hnt⟩, hnp⟩, hres⟩, hname⟩ := hok
    split at hbody
    · rename_i c hb
      refine ⟨⟨fn, hf, by simp [hb], by simpa using hname⟩, ?_⟩
      intro B C w vs sr gr hr
      unfold evalFn at h
      split at h
      · rename_i hlen
        have hvl : vs.length ≤ fn.ntmps := by rw [← hr.len]; omega
        refine calls_of_wp hf hb ?_
        have er : ER C fn.ntmps (params 0 args) ({ tmps := vs.toArray ++ Array.replicate (fn.ntmps - vs.toArray.size) undef, defers := [] } : Act).tmps := by
          have := ER.params (N := fn.ntmps) hr hvl
          simpa using this
        have body : ∀ {ex env σ1}, evalCode call draw G fuel af.body none (params 0 args) σ = some (ex, env, σ1) → c.wp P (Post B C fn.ntmps w [] ex env σ1) { tmps := vs.toArray ++ Array.replicate (fn.ntmps - vs.toArray.size) undef, defers := [] } w :=
          fun hev => code_sound hc hG (hd _) c af.body hbody none hev sr er gr
        have ret : ∀ {ex env σ1 avs}, evalCode call draw G fuel af.body none (params 0 args) σ = some (ex, env, σ1) → (ex = .normal ∨ ex = .ret) → resultsA env σ1 af.res = some avs → r = .ret (oneOrTup avs) → σ' = σ1 →
            c.wp P (bodyPost P fn fun e w' => ∃ C', Ctx.le B C C' ∧ SR B C' σ' w' ∧ Below B w w' ∧ OutR C' r e) { tmps := vs.toArray ++ Array.replicate (fn.ntmps - vs.toArray.size) undef, defers := [] } w := by
          intro ex env σ1 avs hev hex hrs hr' hs'
          subst hr' hs'
          refine wp_mono (body hev) fun e a' w' hp => ?_
          obtain ⟨C1, l1, s1, b1, e1, d1, x1⟩ := hp
          obtain ⟨v, k1, k2⟩ := results_sound (P := P) s1 e1 hres hrs
          have key : a'.defers = [] ∧ ∃ v, (results fn a'.tmps).run P w' = .ok v w' ∧ ∃ C', Ctx.le B C C' ∧ SR B C' σ' w' ∧ Below B w w' ∧ OutR C' (.ret (oneOrTup avs)) (.returned v) := ⟨d1, v, k1, C1, l1, s1, b1, v, rfl, k2⟩
          rcases hex with rfl | rfl
          · cases e <;> first | exact key | exact x1.elim
          · cases e <;> first | exact key | exact x1.elim
        split at h
        · rename_i env σ1 hev
          simp only [Option.map_eq_some_iff, Prod.mk.injEq] at h
          obtain ⟨avs, hrs, h1, h2⟩ := h
          exact ret hev (.inl rfl) hrs h1.symm h2.symm
        · rename_i env σ1 hev
          simp only [Option.map_eq_some_iff, Prod.mk.injEq] at h
          obtain ⟨avs, hrs, h1, h2⟩ := h
          exact ret hev (.inr rfl) hrs h1.symm h2.symm
        · rename_i v env σ1 hev
          simp only [Option.some.injEq, Prod.mk.injEq] at h
          obtain ⟨rfl, rfl⟩ := h
          refine wp_mono (body hev) fun e a' w' hp => ?_
          obtain ⟨C1, l1, s1, b1, e1, d1, x1⟩ := hp
          cases e with
          | panic ch =>
            obtain ⟨u, rfl, hv⟩ := x1
            exact ⟨d1, C1, l1, s1, b1, u, rfl, hv⟩
          | _ => exact x1.elim
        · cases h
      · cases h
    · cases hbody
  · cases hok

theorem run_sound {I : FuncId → Option AFunc} {O : CallA} (hm : P.follows .mixedOrders = true) (hI : ∀ f af, I f = some af → okAt P f af = true) (hO : CallS P G O) (hG : GPure G) :
    ∀ n, CallS P G (runA I O G n) := by
  intro n
  induction n with
  | zero => intro f args σ r σ' h; simp [runA] at h
  | succ n ih =>
    intro f args σ r σ' h
    simp only [runA] at h
    split at h
    · rename_i res hres
      cases h
      exact hO f args σ r σ' hres
    · split at h
      · rename_i af haf
        exact fn_sound ih hG (fun N => draw_sound hm ih hG) (hI f af haf) h
      · cases h
end
end Go.Pm
end

section
set_option linter.unusedSimpArgs false
set_option linter.unusedVariables false
set_option linter.unusedSectionVars false
/- The pure machine: specifications of functions, one upon the other. -/
set_option linter.unusedVariables false
namespace Go.Pm

abbrev Spec := List AV → Store → Option (AOut × Store)

/-- One function's. -/
def atF (f : FuncId) (s : Spec) : CallA := fun g args σ => if g = f then s args σ else none
/-- The first that answers. -/
def orC (a b : CallA) : CallA := fun f args σ => match a f args σ with
  | some r => some r
  | none => b f args σ
/-- What sees nothing of the store. -/
def pureS (s : List AV → Option AV) : Spec := fun args σ => match s args with
  | some v => some (.ret v, σ)
  | none => none

def noCall : CallA := fun _ _ _ => none

variable {P : Program} {G : Globals}

theorem CallS.none : CallS P G noCall := fun f args σ r σ' h => by cases h

theorem CallS.or {a b : CallA} (ha : CallS P G a) (hb : CallS P G b) : CallS P G (orC a b) := by
  intro f args σ r σ' h
  unfold orC at h
  split at h
  · rename_i r' hr
    cases h
    exact ha f args σ r σ' hr
  · exact hb f args σ r σ' h

/-- A function by its code, over what its callees answer. -/
theorem CallS.step {call : CallA} (hc : CallS P G call) (hm : P.follows .mixedOrders = true) (hG : GPure G) {f : FuncId} {af : AFunc} (hok : okAt P f af = true) {s : Spec}
    (hs : ∀ args σ r, s args σ = some r → ∃ fuel, evalFn call (drawA call G) G fuel af args σ = some r) : CallS P G (atF f s) := by
  intro g args σ r σ' h
  unfold atF at h
  split at h
  · rename_i e
    subst e
    obtain ⟨fuel, hf⟩ := hs args σ (r, σ') h
    exact fn_sound hc hG (fun N => draw_sound hm hc hG) hok hf
  · cases h

/-- A function that calls itself: 's n' is what it answers where it goes no deeper than n. -/
theorem CallS.recur {call : CallA} (hc : CallS P G call) (hm : P.follows .mixedOrders = true) (hG : GPure G) {f : FuncId} {af : AFunc} (hok : okAt P f af = true) {s : Nat → Spec} (h0 : ∀ args σ, s 0 args σ = Option.none)
    (hs : ∀ n args σ r, s (n + 1) args σ = some r → ∃ fuel, evalFn (orC (atF f (s n)) call) (drawA (orC (atF f (s n)) call) G) G fuel af args σ = some r) : ∀ n, CallS P G (atF f (s n)) := by
  intro n
  induction n with
  | zero =>
    intro g args σ r σ' h
    unfold atF at h
    split at h
    · rw [h0] at h; cases h
    · cases h
  | succ n ih => exact CallS.step (ih.or hc) hm hG hok (hs n)

/-- Of many depths: any. -/
theorem CallS.any {f : FuncId} {s : Nat → Spec} {t : Spec} (h : ∀ n, CallS P G (atF f (s n))) (ht : ∀ args σ r, t args σ = some r → ∃ n, s n args σ = some r) : CallS P G (atF f t) := by
  intro g args σ r σ' hg
  unfold atF at hg
  split at hg
  · rename_i e
    subst e
    obtain ⟨n, hn⟩ := ht args σ (r, σ') hg
    exact h n g args σ r σ' (by unfold atF; rw [if_pos rfl]; exact hn)
  · cases hg
end Go.Pm
end

section
set_option linter.unusedSimpArgs false
set_option linter.unusedVariables false
set_option linter.unusedSectionVars false
/- The pure machine: specifications that see nothing of the store. -/
set_option linter.unusedVariables false
namespace Go.Pm
variable {P : Program} {G : Globals}

theorem CallS.close {call : CallA} (hc : CallS P G call) (hG : GPure G) : CallS P G (callC call) := by
  intro f args σ r σ' h
  refine ⟨?_, fun B C w vs sr gr ha => (callC_sound hc hG h sr gr ha).2⟩
  unfold callC at h
  split at h
  · cases h
  · rename_i args' _
    split at h
    · rename_i v σ1 hr
      exact (hc f args' [] _ _ hr).1
    · rename_i v σ1 hr
      exact (hc f args' [] _ _ hr).1
    · cases h

mutual
theorem stripW_some (f g : Nat → Option (List AV)) (hf : ∀ i, f i = none) : ∀ v r : AV, stripW f v = some r → stripW g v = some r
  | .ip sz row i off, r, h => by
    simp only [stripW] at h ⊢
    split at h
    · rename_i r' hr; rw [stripWs_some f g hf _ _ hr]; exact h
    · cases h
  | .sl sz row cap, r, h => by
    simp only [stripW] at h ⊢
    split at h
    · rename_i r' hr; rw [stripWs_some f g hf _ _ hr]; exact h
    · cases h
  | .agg cs, r, h => by
    simp only [stripW] at h ⊢
    split at h
    · rename_i r' hr; rw [stripWs_some f g hf _ _ hr]; exact h
    · cases h
  | .tup cs, r, h => by
    simp only [stripW] at h ⊢
    split at h
    · rename_i r' hr; rw [stripWs_some f g hf _ _ hr]; exact h
    · cases h
  | .iface t v, r, h => by
    simp only [stripW] at h ⊢
    split at h
    · rename_i r' hr; rw [stripW_some f g hf _ _ hr]; exact h
    · cases h
  | .fn k a b, r, h => by
    simp only [stripW] at h ⊢
    split at h
    · rename_i r1 r2 hr1 hr2; rw [stripWs_some f g hf _ _ hr1, stripWs_some f g hf _ _ hr2]; exact h
    · cases h
  | .bp id off, r, h => by simp [stripW, hf] at h
  | .bs .., r, h => by simp [stripW, hf] at h
  | .map _, r, h => by simp [stripW] at h
  | .bool _, r, h | .int .., r, h | .str _, r, h | .flt .., r, h | .cplx .., r, h | .nilp, r, h | .nilm, r, h | .nilf, r, h | .nili, r, h => h
theorem stripWs_some (f g : Nat → Option (List AV)) (hf : ∀ i, f i = none) : ∀ v r : List AV, stripWs f v = some r → stripWs g v = some r
  | [], r, h => h
  | v :: l, r, h => by
    simp only [stripWs] at h ⊢
    split at h
    · rename_i r1 r2 h1 h2; rw [stripW_some f g hf _ _ h1, stripWs_some f g hf _ _ h2]; exact h
    · cases h
end

/-- Values that stripping leaves as they are. -/
def Bare (vs : List AV) : Prop := stripWs (fun _ => none) vs = some vs

theorem Bare.strips {vs : List AV} (h : Bare vs) (σ : Store) : Go.Pm.strips σ vs = some vs := stripWs_some _ _ (fun _ => rfl) _ _ h

/-- How a run's answer looks from outside. -/
def Seen (args : List AV) (r : AV) (σ' : Store) (v : AV) : Prop := (r.flatv = true ∧ v = r) ∨ (r.flatv = false ∧ puress args = true ∧ strip σ' r = some v)

theorem callC_eq {call : CallA} {f : FuncId} {args : List AV} {r v : AV} {σ σ' : Store} (hb : Bare args) (h : call f args [] = some (.ret r, σ')) (hs : Seen args r σ' v) : callC call f args σ = some (.ret v, σ) := by
  unfold callC
  rw [hb.strips]
  simp only [h]
  rcases hs with ⟨h1, rfl⟩ | ⟨h1, h2, h3⟩
  · rw [if_pos h1]
  · rw [if_neg (by simp [h1]), if_pos h2, h3]

/-- A function that sees nothing of the store, over what its callees answer. -/
theorem CallS.pure {call : CallA} (hc : CallS P G call) (hm : P.follows .mixedOrders = true) (hG : GPure G) {f : FuncId} {af : AFunc} (hok : okAt P f af = true) {s : List AV → Option AV}
    (hs : ∀ args v, s args = some v → Bare args ∧ ∃ fuel r σ', evalFn call (drawA call G) G fuel af args [] = some (.ret r, σ') ∧ Seen args r σ' v) : CallS P G (atF f (pureS s)) := by
  intro g args σ r σ' h
  unfold atF at h
  split at h
  · rename_i e
    subst e
    unfold pureS at h
    split at h
    · rename_i v hv
      cases h
      obtain ⟨hb, fuel, r, σ', he, hse⟩ := hs args v hv
      have hS2 : CallS P G (atF g fun a σ => match σ with | [] => evalFn call (drawA call G) G fuel af a [] | _ => Option.none) :=
        CallS.step hc hm hG hok fun a σ r h => by
          cases σ with
          | nil => exact ⟨fuel, h⟩
          | cons _ _ => cases h
      have h2 : callC (atF g fun a σ => match σ with | [] => evalFn call (drawA call G) G fuel af a [] | _ => Option.none) g args σ = some (.ret v, σ) :=
        callC_eq hb (by unfold atF; rw [if_pos rfl]; exact he) hse
      exact hS2.close hG g args σ _ _ h2
    · cases h
  · cases h

/-- A call without arguments that comes to true, as an answer. -/
def trueS : List AV → Option AV := fun a => match a with | [] => some (.bool true) | _ => Option.none

theorem CallS.closed {call : CallA} (hc : CallS P G call) (hG : GPure G) {f : FuncId} (h : ∃ σ', call f [] [] = some (.ret (.bool true), σ')) : CallS P G (atF f (pureS trueS)) := by
  intro g args σ r σ' hg
  unfold atF at hg
  split at hg
  · rename_i e
    subst e
    unfold pureS trueS at hg
    cases args with
    | cons _ _ => simp at hg
    | nil =>
      simp only [Option.some.injEq, Prod.mk.injEq] at hg
      obtain ⟨rfl, rfl⟩ := hg
      obtain ⟨σ2, h⟩ := h
      exact hc.close hG g [] σ _ _ (callC_eq rfl h (.inl ⟨rfl, rfl⟩))
  · cases hg
end Go.Pm
end

section
set_option linter.unusedSimpArgs false
set_option linter.unusedVariables false
set_option linter.unusedSectionVars false
/- The pure machine: what comes in: arguments and package-level variables as its values. -/
set_option linter.unusedSimpArgs false
set_option linter.unusedVariables false
namespace Go.Pm
open Go.RowKit (Below)

/-- The outer form of a type of plain data. -/
inductive Sh where
  | bool
  | int (k : IntKind)
  | flt (k : FloatKind)
  | str
  | sl (e : Sh)
  | st (fs : List Sh)

mutual
def Sh.size : Sh → Nat
  | .st fs => Sh.sizes fs
  | _ => 1
def Sh.sizes : List Sh → Nat
  | [] => 0
  | s :: r => s.size + Sh.sizes r
end

/-- An element of a row from its cells. -/
def mkEl (sz : Nat) (r : List AV) : AV :=
  if sz = 1 then
    match r with
    | [v] => v
    | r => .agg r
  else .agg r

mutual
def Shaped : Sh → List AV → Prop
  | .bool, avs => ∃ b, avs = [.bool b]
  | .int k, avs => ∃ n, avs = [.int k n] ∧ k.min ≤ n ∧ n ≤ k.max
  | .flt k, avs => ∃ n, avs = [.flt k n]
  | .str, avs => ∃ s, avs = [.str s] ∧ s.length ≤ 9223372036854775807
  | .sl e, avs => ∃ rows : List (List AV), avs = [.sl e.size (rows.map (mkEl e.size)) .no] ∧ rows.length ≤ 9223372036854775807 ∧ ∀ r ∈ rows, Shaped e r
  | .st fs, avs => ShapedS fs avs
def ShapedS : List Sh → List AV → Prop
  | [], avs => avs = []
  | s :: r, avs => ∃ a b, avs = a ++ b ∧ Shaped s a ∧ ShapedS r b
end

mutual
theorem Shaped.cells : ∀ (s : Sh) (avs : List AV), Shaped s avs → avs.length = s.size ∧ avs.all AV.isCell = true
  | .bool, avs, h => by obtain ⟨b, rfl⟩ := h; simp [Sh.size, AV.isCell]
  | .int k, avs, h => by obtain ⟨b, rfl, _⟩ := h; simp [Sh.size, AV.isCell]
  | .flt k, avs, h => by obtain ⟨b, rfl⟩ := h; simp [Sh.size, AV.isCell]
  | .str, avs, h => by obtain ⟨b, rfl, _⟩ := h; simp [Sh.size, AV.isCell]
  | .sl e, avs, h => by obtain ⟨b, rfl, _⟩ := h; simp [Sh.size, AV.isCell]
  | .st fs, avs, h => by simpa [Sh.size] using ShapedS.cells fs avs h
theorem ShapedS.cells : ∀ (s : List Sh) (avs : List AV), ShapedS s avs → avs.length = Sh.sizes s ∧ avs.all AV.isCell = true
  | [], avs, h => by obtain rfl : avs = [] := h; simp [Sh.sizes]
  | s :: r, avs, h => by
    obtain ⟨a, b, rfl, h1, h2⟩ := h
    have k1 := Shaped.cells s a h1
    have k2 := ShapedS.cells r b h2
    simp only [List.length_append, Sh.sizes, k1.1, k2.1, List.all_append, k1.2, k2.2, Bool.and_self, and_self]
end

theorem isCell_cells {v : AV} (h : v.isCell = true) : v.cells = [v] := by cases v <;> simp_all [AV.isCell, AV.cells]

theorem mkEl_cells {sz : Nat} {r : List AV} (h : r.length = sz) (hc : r.all AV.isCell = true) : (mkEl sz r).cells = r := by
  unfold mkEl
  split
  · rename_i h1
    split
    · rename_i v
      simp at hc
      exact isCell_cells hc
    · rfl
  · rfl

mutual
/-- Is a type of that form? -/
def shIs (P : Program) : Nat → TypeId → Sh → Bool
  | 0, _, _ => false
  | n + 1, t, s => P.cellsOf t == s.size && match P.underlying t, s with
    | some .bool, .bool => true
    | some (.int k), .int k' => k == k'
    | some (.float k), .flt k' => k == k'
    | some .string, .str => true
    | some (.slice e), .sl s => s.size != 0 && shIs P n e s
    | some (.struct fs), .st ss => shIsS P n fs.toList ss 0
    | _, _ => false
def shIsS (P : Program) : Nat → List Field → List Sh → Nat → Bool
  | 0, _, _, _ => false
  | _ + 1, [], [], _ => true
  | n + 1, f :: fs, s :: ss, off => f.offset == off && shIs P n f.type s && shIsS P n fs ss (off + s.size)
  | _ + 1, _, _, _ => false
end

def wctx (W : World) : Ctx := { im := fun b o => W.cell? ⟨b, o, none⟩, bx := fun _ => none, tk := fun _ => none }

theorem wctx_SR (W : World) : SR W.heap.size (wctx W) [] W := by
  refine ⟨Nat.le_refl _, fun b o v hi => row_of_cell hi, fun id _ => ⟨rfl, rfl⟩, ?_, ?_, ?_, ?_, ?_⟩
  · intro id cs e h; simp at h
  · intro id es h; simp at h
  · intro id t h; simp at h
  · intro id id' b h; simp [own] at h
  · intro id b h; simp [own] at h

theorem shIs_size {P : Program} {n : Nat} {t : TypeId} {s : Sh} (h : shIs P n t s = true) : P.cellsOf t = s.size := by
  cases n with
  | zero => simp [shIs] at h
  | succ n => simp only [shIs, Bool.and_eq_true, beq_iff_eq] at h; exact h.1

theorem spot_none {W : World} {a : Addr} {v : Value} (h : W.cell? a = some v) : a.spot = none := by
  unfold World.cell? at h
  split at h
  · split at h
    · cases h
    · rename_i hs; simpa using hs
  · cases h

theorem flat_mkEl {sz : Nat} : ∀ (rows : List (List AV)), (∀ r ∈ rows, r.length = sz ∧ r.all AV.isCell = true) → flat (rows.map (mkEl sz)) = rows.flatten
  | [], _ => rfl
  | r :: rs, h => by
    rw [List.map_cons, flat_cons, flat_mkEl rs (fun x hx => h x (by simp [hx])), mkEl_cells (h r (by simp)).1 (h r (by simp)).2, List.flatten_cons]

section
variable {H : Type} {enc : TypeId × Value → H} {P : Program} {W : World} {held : Bool}

theorem trod_shaped : ∀ m, (∀ t sh, shIs P m t sh = true → ∀ fuel (cs : List Value) x, DataW.trod enc P W 0 (fun _ => true) held fuel t cs = some x → ∃ avs, Shaped sh avs ∧ VRs (wctx W) avs cs) ∧
    (∀ fs shs off, shIsS P m fs shs off = true → ∀ (cs : List Value), (∀ (i : Nat) f, fs[i]? = some f → ∃ fuel x, DataW.trod enc P W 0 (fun _ => true) held fuel f.type ((cs.drop f.offset).take (P.cellsOf f.type)) = some x) → cs.length = off + Sh.sizes shs →
      ∃ avs, ShapedS shs avs ∧ VRs (wctx W) avs (cs.drop off)) := by
  intro m
  induction m with
  | zero => exact ⟨fun t sh h => by simp [shIs] at h, fun fs shs off h => by simp [shIsS] at h⟩
  | succ m ih =>
    constructor
    · intro t sh h fuel cs x hx
      simp only [shIs, Bool.and_eq_true, beq_iff_eq] at h
      obtain ⟨hsz, h⟩ := h
      split at h
      · rename_i ht
        obtain ⟨b, rfl, rfl⟩ := DataW.trod_bool ht hx
        exact ⟨[.bool b], ⟨b, rfl⟩, .cons .bool (.nil _)⟩
      · rename_i k k' ht
        simp only [beq_iff_eq] at h; subst h
        obtain ⟨n, rfl, rfl, hw⟩ := DataW.trod_int ht hx
        simp only [Lit.wf, Bool.and_eq_true, decide_eq_true_eq] at hw
        exact ⟨[.int k n], ⟨n, rfl, hw⟩, .cons .int (.nil _)⟩
      · rename_i k k' ht
        simp only [beq_iff_eq] at h; subst h
        cases fuel with
        | zero => simp [DataW.trod] at hx
        | succ n =>
          unfold DataW.trod at hx
          rw [ht] at hx
          split at hx <;> first | (rename_i hh; cases hh; done) | skip
          all_goals first | (cases hx; done) | skip
          all_goals simp_all
          obtain ⟨⟨rfl, _⟩, _⟩ := hx
          exact ⟨_, ⟨_, rfl⟩, .cons .flt (.nil _)⟩
      · rename_i ht
        obtain ⟨s, rfl, rfl, hw⟩ := DataW.trod_string ht hx
        refine ⟨[.str s.data.toList], ⟨_, rfl, ?_⟩, .cons ?_ (.nil _)⟩
        · rw [Array.length_toList]; exact hw
        · have := VR.str (C := wctx W) (s := s.data.toList)
          simpa using this
      · rename_i e sh' ht
        simp only [Bool.and_eq_true, bne_iff_ne] at h
        obtain ⟨h0, h⟩ := h
        have hes := shIs_size h
        rcases DataW.trod_slice ht hx with ⟨rfl, rfl⟩ | ⟨a, len, cap, elems, rest, n, rfl, rfl, rfl, _, hlc, hcm, hel, hget, hsp, _⟩
        · exact ⟨[.sl sh'.size [] .no], ⟨[], rfl, by simp, by simp⟩, .cons .sl0 (.nil _)⟩
        · obtain ⟨hrl, hrest⟩ := hsp rfl
          by_cases hcap : cap = 0
          · subst hcap
            obtain rfl : len = 0 := by omega
            exact ⟨[.sl sh'.size [] .no], ⟨[], rfl, by simp, by simp⟩, .cons .sl0 (.nil _)⟩
          · have hnone : a.spot = none := by
              have : ∃ cs', W.cells? 0 (a.add (0 * P.cellsOf e)) (P.cellsOf e) = some cs' := by
                by_cases hlen : 0 < len
                · have := hget 0 hlen
                  cases hc : W.cells? 0 (a.add (0 * P.cellsOf e)) (P.cellsOf e) with
                  | some cs' => exact ⟨cs', rfl⟩
                  | none => rw [hc] at this; simp at this; simp [this] at hel; omega
                · obtain rfl : len = 0 := by omega
                  have := hrest 0 (by omega)
                  cases hc : W.cells? 0 (a.add (0 * P.cellsOf e)) (P.cellsOf e) with
                  | some cs' => exact ⟨cs', rfl⟩
                  | none => rw [Nat.zero_add, hc] at this; simp at this; simp [this] at hrl; omega
              obtain ⟨cs', hc⟩ := this
              obtain ⟨_, hl, hcell⟩ := World.cells?_some hc
              have h1 := hcell 0 (by rw [hes]; omega)
              rw [Nat.zero_mul] at h1
              have h2 : (a.add 0).add 0 = a := by simp [Addr.add]
              rw [h2] at h1
              cases hv : cs'[0]? with
              | none => rw [List.getElem?_eq_none_iff] at hv; omega
              | some v => rw [hv] at h1; exact spot_none h1
            obtain ⟨b, o, sp⟩ := a
            simp only at hnone
            subst hnone
            have key : ∀ n, n ≤ len → ∃ rows : List (List AV), rows.length = n ∧ (∀ r ∈ rows, Shaped sh' r) ∧ ∃ vs : List Value, vs.length = n * sh'.size ∧ (∀ j v, vs[j]? = some v → W.cell? ⟨b, o + j, none⟩ = some v) ∧ VRs (wctx W) rows.flatten vs := by
              intro n
              induction n with
              | zero => intro _; exact ⟨[], rfl, by simp, [], by simp, by simp, .nil _⟩
              | succ n ihn =>
                intro hn
                obtain ⟨rows, k1, k2, vs, k3, k4, k5⟩ := ihn (by omega)
                have hg := hget n (by omega)
                have hsome : ∃ y, elems[n]? = some y := ⟨elems[n], List.getElem?_eq_getElem (by omega)⟩
                obtain ⟨y, hy⟩ := hsome
                rw [hy, Option.bind_eq_some_iff] at hg
                obtain ⟨cs', hc1, hc2⟩ := hg
                obtain ⟨avs, q1, q2⟩ := ih.1 e sh' h _ cs' y hc2
                obtain ⟨_, hl, hcell⟩ := World.cells?_some hc1
                refine ⟨rows ++ [avs], by simp [k1], ?_, vs ++ cs', by simp [k3, hl, hes, Nat.add_mul], ?_, ?_⟩
                · intro r hr
                  rw [List.mem_append] at hr
                  rcases hr with hr | hr
                  · exact k2 r hr
                  · simp at hr; subst hr; exact q1
                · intro j v hj
                  rw [List.getElem?_append] at hj
                  split at hj
                  · exact k4 j v hj
                  · rename_i hjn
                    have hlt := (List.getElem?_eq_some_iff.1 hj).1
                    have h1 := hcell (j - vs.length) (by omega)
                    rw [hj, add_plain, add_plain] at h1
                    rw [← h1]
                    congr 2
                    rw [hes, k3]
                    omega
                · rw [List.flatten_append, List.flatten_singleton]
                  exact k5.append q2
            obtain ⟨rows, k1, k2, vs, k3, k4, k5⟩ := key len (Nat.le_refl _)
            have hcells : ∀ r ∈ rows, r.length = sh'.size ∧ r.all AV.isCell = true := fun r hr => Shaped.cells sh' r (k2 r hr)
            refine ⟨[.sl sh'.size (rows.map (mkEl sh'.size)) .no], ⟨rows, rfl, by rw [k1]; exact Nat.le_trans hlc hcm, k2⟩, .cons ?_ (.nil _)⟩
            have hlen2 : (rows.map (mkEl sh'.size)).length = len := by simp [k1]
            rw [← hlen2]
            have hflat := flat_mkEl rows hcells
            refine .sl (vs := vs) ?_ ?_ k4 ?_ ?_
            · intro el hel'
              rw [List.mem_map] at hel'
              obtain ⟨r, hr, rfl⟩ := hel'
              rw [mkEl_cells (hcells r hr).1 (hcells r hr).2]; exact (hcells r hr).1
            · rw [hflat]; exact k5.len
            · rw [hflat]; exact k5.at_
            · show _ ≤ _; rw [hlen2]; exact hlc
      · rename_i fs ss ht
        obtain ⟨xs, n, rfl, rfl, hl, hxl, hf⟩ := DataW.trod_struct ht hx
        have hst : P.cellsOf t = Sh.sizes ss := by rw [hsz]; rfl
        obtain ⟨avs, k1, k2⟩ := ih.2 fs.toList ss 0 h cs (fun i f hi => by
          have hi' : fs[i]? = some f := by simpa using hi
          have hlt : i < xs.length := by rw [hxl]; exact (Array.getElem?_eq_some_iff.1 hi').1
          exact ⟨n, xs[i], by rw [hf i f hi', List.getElem?_eq_getElem hlt]⟩) (by rw [hl, hst]; omega)
        exact ⟨avs, k1, by simpa using k2⟩
      · cases h
    · intro fs shs off h cs hf hl
      cases fs with
      | nil =>
        cases shs with
        | nil =>
          refine ⟨[], rfl, ?_⟩
          have : cs.drop off = [] := List.drop_of_length_le (by simp [Sh.sizes] at hl; omega)
          rw [this]; exact .nil _
        | cons s ss => simp [shIsS] at h
      | cons f fs =>
        cases shs with
        | nil => simp [shIsS] at h
        | cons s ss =>
          simp only [shIsS, Bool.and_eq_true, beq_iff_eq] at h
          obtain ⟨⟨ho, h1⟩, h2⟩ := h
          obtain ⟨fuel, x, hx⟩ := hf 0 f rfl
          have hfs := shIs_size h1
          rw [ho, hfs] at hx
          obtain ⟨a, p1, p2⟩ := ih.1 f.type s h1 fuel _ x hx
          simp only [Sh.sizes] at hl
          obtain ⟨b, p3, p4⟩ := ih.2 fs ss (off + s.size) h2 cs (fun i g hi => hf (i + 1) g (by simpa using hi)) (by omega)
          refine ⟨a ++ b, ⟨a, b, rfl, p1, p3⟩, ?_⟩
          have : cs.drop off = (cs.drop off).take s.size ++ cs.drop (off + s.size) := by
            rw [← List.drop_drop, List.take_append_drop]
          rw [this]
          exact p2.append p4
end

end Go.Pm
end

section
set_option linter.unusedSimpArgs false
set_option linter.unusedVariables false
set_option linter.unusedSectionVars false
/- The pure machine: laws for stepping through code by rewriting. -/
namespace Go.Pm

theorem keepE_nil (env : Env) : keepE [] env = [] := rfl
theorem keepE_cons (k : Nat) (ks : List Nat) (env : Env) : keepE (k :: ks) env = match look env k with | some v => (k, v) :: keepE ks env | none => keepE ks env := by
  simp only [keepE, List.filterMap_cons]; cases look env k <;> rfl

theorem iterA_succ (f : Env → Store → Res) (keep : List Nat) (n : Nat) (env : Env) (σ : Store) :
    iterA f keep (n + 1) env σ = match f (keepE keep env) σ with | some (.normal, env, σ) => iterA f keep n env σ | x => x := rfl

theorem iterA_normal {f : Env → Store → Res} {keep : List Nat} {n : Nat} {env env' : Env} {σ σ' : Store} (h : f (keepE keep env) σ = some (.normal, env', σ')) :
    iterA f keep (n + 1) env σ = iterA f keep n env' σ' := by rw [iterA_succ, h]

theorem iterA_out {f : Env → Store → Res} {keep : List Nat} {n : Nat} {env env' : Env} {σ σ' : Store} {e : AExit} (h : f (keepE keep env) σ = some (e, env', σ')) (he : e ≠ .normal) :
    iterA f keep (n + 1) env σ = some (e, env', σ') := by rw [iterA_succ, h]; cases e <;> first | rfl | exact absurd rfl he

theorem jumpsA_succ (f : Option Nat → Env → Store → Res) (n : Nat) (start : Option Nat) (env : Env) (σ : Store) :
    jumpsA f (n + 1) start env σ = match f start env σ with | some (.goto l, env, σ) => jumpsA f n (some l) env σ | x => x := rfl

theorem seq_eq {call : CallA} {draw : DrawA} {G : Globals} {fuel : Nat} {a b : ACode} {env env' : Env} {σ σ' : Store} {r : Res} (h : evalCode call draw G fuel a none env σ = some (.normal, env', σ'))
    (h2 : evalCode call draw G fuel b none env' σ' = r) : evalCode call draw G fuel (.seq a b) none env σ = r := by
  simp only [evalCode, h, h2]

/-- A piece of code ends so. -/
def Ends (call : CallA) (draw : DrawA) (G : Globals) (fuel : Nat) (c : ACode) (env : Env) (σ : Store) (Q : AExit → Env → Store → Prop) : Prop :=
  ∃ e env' σ', evalCode call draw G fuel c none env σ = some (e, env', σ') ∧ Q e env' σ'

theorem Ends.seq {call : CallA} {draw : DrawA} {G : Globals} {fuel : Nat} {a b : ACode} {env env' : Env} {σ σ' : Store} {Q : AExit → Env → Store → Prop} (h : evalCode call draw G fuel a none env σ = some (.normal, env', σ'))
    (h2 : Ends call draw G fuel b env' σ' Q) : Ends call draw G fuel (.seq a b) env σ Q := by
  obtain ⟨e, env2, σ2, k1, k2⟩ := h2
  exact ⟨e, env2, σ2, seq_eq h k1, k2⟩

theorem Ends.done {call : CallA} {draw : DrawA} {G : Globals} {fuel : Nat} {c : ACode} {env env' : Env} {σ σ' : Store} {e : AExit} {Q : AExit → Env → Store → Prop} (h : evalCode call draw G fuel c none env σ = some (e, env', σ')) (q : Q e env' σ') : Ends call draw G fuel c env σ Q :=
  ⟨e, env', σ', h, q⟩

theorem bft : (false == true) = false := rfl
theorem btf : (true == false) = false := rfl
theorem btt : (true == true) = true := rfl
theorem bff : (false == false) = true := rfl

theorem wrap_i64 {n : Int} (h1 : -9223372036854775808 ≤ n) (h2 : n ≤ 9223372036854775807) : IntKind.i64.wrap n = n := by
  rw [IntKind.wrap_i64]; omega
theorem wrap_u8 {n : Int} (h1 : 0 ≤ n) (h2 : n < 256) : IntKind.u8.wrap n = n := by
  rw [IntKind.wrap_u8]; omega
theorem wrap_u64 {n : Int} (h1 : 0 ≤ n) (h2 : n < 18446744073709551616) : IntKind.u64.wrap n = n := by
  rw [IntKind.wrap_u64]; omega
end Go.Pm
end

section
set_option linter.unusedSimpArgs false
set_option linter.unusedVariables false
set_option linter.unusedSectionVars false
/- The pure machine: from what it answers to a row's statement. -/
set_option linter.unusedSimpArgs false
set_option linter.unusedVariables false
namespace Go.Pm
open Go.RowKit (Below)

/-- The wrap that keeps what is listed, and the world's shape. -/
theorem returnsInHanded_and_shaped {H : Type} {enc : TypeId × Value → H} {a : Assume} {C : Checked} {os : Os} {f : FuncId} {fn : Func} {s : ChangeSpec} {conds : List PathCond} {apart fresh handsOn again : Bool} {X : World → Array Value → Prop}
    (hX : ∀ (w w' : World) (args : Array Value), w.heap = w'.heap → X w args → X w' args)
    (own : ownKnob C.prog.godebug = none) (started : os.Started) (noInit : C.prog.inits.idxOf? f = none) (hfn : C.prog.funcs[f]? = some fn)
    (witness : ∃ (w : World) (tape : Tape) (i : Input), w.os = os ∧ (w.forCall tape i).Shaped C.prog ∧ i.vars = [] ∧ Input.okWide C.prog (w.forCall tape i) .any w.heap.size f i ∧
      ((s.pre enc C.prog fn conds apart (w.forCall tape i).memory i.args ∧ X (w.forCall tape i).memory i.args) ∧ sizedMet enc C.prog fn (OpenSpec.ofChange s) apart (w.forCall tape i).memory i.args) ∧ a.holds C.prog (lone (Frame.enter C.prog f i.args .normal) [] (w.forCall tape i)))
    (contract : ∀ (W : World) (base : Nat) (args : Array Value) (ds gs : List (DataW H)) (before : List MemPlace),
      args.size = fn.params.size → (∀ (j : Nat) t v, fn.params[j]? = some t → args[j]? = some v → Value.okWide C.prog W .any base t v) →
      DataW.Whole enc C.prog fn.params.toList s.vars apart W args.toList ds gs before →
      (DataW.weightsEach C.prog (fn.params.toList ++ s.plain.varTypes C.prog) (ds ++ gs)).all (· ≤ reachBytes) = true → X W args → W.ShapedOpen C.prog →
      Calls C.prog f args W fun e W' => ∃ v, e = .returned v ∧ s.post enc C.prog fn apart fresh handsOn again W args v W') :
    ReturnsInHanded a C os f .any (fun w args => (s.pre enc C.prog fn conds apart w args ∧ X w args) ∧ sizedMet enc C.prog fn (OpenSpec.ofChange s) apart w args) (s.post enc C.prog fn apart fresh handsOn again) := by
  refine returnsInHanded_of_calls own started noInit witness ?_
  intro w tape i _ hsh _ hok hpre _
  obtain ⟨_, _, _, fn', hfn', _, _, _, hsize, hval⟩ := hok
  have e : fn' = fn := Option.some.inj (hfn'.symm.trans hfn)
  subst e
  obtain ⟨⟨⟨ds, gs, before, hw, hc⟩, hx⟩, hz⟩ := hpre
  have hw' := DataW.Whole.of_heap (w' := w.forCall tape i) (by rfl) hw
  refine (contract (w.forCall tape i) w.heap.size i.args ds gs before hsize hval hw' (hz.weights hw) (hX _ _ _ (by rfl) hx) hsh).mono fun e W' ⟨v, he, hp⟩ => ?_
  subst he
  exact ChangeSpec.post_blind hp

theorem keptBut_below {W W' : World} {may : MemPlace → Prop} (h : Below W.heap.size W W') : W.keptBut W' may := by
  refine ⟨h.os, h.output, fun i hi => ?_⟩
  rw [h.block i hi]
  cases W.heap[i]? with
  | none => rfl
  | some o =>
    cases o <;> first
      | exact ⟨rfl, rfl, rfl, fun _ _ => rfl⟩
      | exact .inr ⟨rfl, rfl⟩
      | rfl

section
variable {H : Type} {enc : TypeId × Value → H} {P : Program} {W W' : World}

theorem below_trodAll (hl : laidOutB P = true) : ∀ {ts : List TypeId} {vs : List Value} {ds : List (DataW H)} {ps : List MemPlace}, (∀ t ∈ ts, P.readableRec t = true ∧ t < P.types.size) →
    DataW.TrodAll enc P W 0 (fun _ => true) true ts vs ds ps → Below W.heap.size W W' → (∀ x ∈ ps, x.block < W.heap.size) → DataW.TrodAll enc P W' 0 (fun b => decide (b < W.heap.size)) true ts vs ds ps
  | [], [], [], _, _, h, _, _ => h
  | t :: ts, v :: vs, d :: ds, ps, hr, h, hb, hlt => by
    obtain ⟨p, q, h1, h2, rfl⟩ := h
    exact ⟨p, q, Below.trod hl (hr t (by simp)).1 (hr t (by simp)).2 h1 hb (fun x hx => hlt x (by simp [hx])), below_trodAll hl (fun u hu => hr u (by simp [hu])) h2 hb (fun x hx => hlt x (by simp [hx])), rfl⟩
  | [], _ :: _, _, _, _, h, _, _ => h.elim
  | [], [], _ :: _, _, _, h, _, _ => h.elim
  | _ :: _, [], _, _, _, h, _, _ => h.elim
  | _ :: _, _ :: _, [], _, _, h, _, _ => h.elim

/-- An argument from its cells. -/
def argAV : Sh → List AV → AV
  | .st _, avs => .agg avs
  | _, [v] => v
  | _, avs => .agg avs

def ShapedAll : List Sh → List AV → Prop
  | [], asl => asl = []
  | s :: r, asl => ∃ a b, asl = argAV s a :: b ∧ Shaped s a ∧ ShapedAll r b

theorem okWide_cells {t : TypeId} {d : TypeDesc} {v : Value} {base : Nat} (ht : P.underlying t = some d) (h : Value.okWide P W .any base t v) (hd : match d with | .bool | .int _ | .float _ | .string | .slice _ => True | _ => False) : v.cells = #[v] := by
  unfold Value.okWide at h
  rw [ht] at h
  cases v with
  | agg cs =>
    cases d <;> first
      | exact hd.elim
      | (simp [Cell.okWide, Cell.ok, ht] at h)
  | _ => rfl

theorem okWide_struct {t : TypeId} {fs : Array Field} {v : Value} {base : Nat} (ht : P.underlying t = some (.struct fs)) (h : Value.okWide P W .any base t v) : ∃ cs, v = .agg cs := by
  unfold Value.okWide at h
  rw [ht] at h
  obtain ⟨cs, k, _⟩ := h
  exact ⟨cs, k⟩

theorem arg_shaped {m : Nat} {t : TypeId} {sh : Sh} (h : shIs P m t sh = true) {v : Value} {base : Nat} (hv : Value.okWide P W .any base t v) {d : DataW H} {ps : List MemPlace} (hd : DataW.Trod enc P W 0 (fun _ => true) true t v d ps) :
    ∃ avs, Shaped sh avs ∧ VR (wctx W) (argAV sh avs) v := by
  obtain ⟨fuel, hf⟩ := hd
  obtain ⟨avs, k1, k2⟩ := (trod_shaped (enc := enc) m).1 t sh h fuel _ _ hf
  refine ⟨avs, k1, ?_⟩
  have one : v.cells = #[v] → ∀ a, avs = [a] → VR (wctx W) a v := fun e a ea => by
    rw [e] at k2; subst ea
    obtain ⟨u, us, e1, e2, e3⟩ := k2.cons_inv
    simp at e1
    rw [e1.1]; exact e2
  cases m with
  | zero => simp [shIs] at h
  | succ m =>
    simp only [shIs, Bool.and_eq_true, beq_iff_eq] at h
    obtain ⟨hsz, h⟩ := h
    split at h
    · rename_i ht
      obtain ⟨b, rfl⟩ := k1
      exact one (okWide_cells ht hv trivial) _ rfl
    · rename_i ht
      obtain ⟨b, rfl, _⟩ := k1
      exact one (okWide_cells ht hv trivial) _ rfl
    · rename_i ht
      obtain ⟨b, rfl⟩ := k1
      exact one (okWide_cells ht hv trivial) _ rfl
    · rename_i ht
      obtain ⟨b, rfl, _⟩ := k1
      exact one (okWide_cells ht hv trivial) _ rfl
    · rename_i ht
      obtain ⟨b, rfl, _⟩ := k1
      exact one (okWide_cells ht hv trivial) _ rfl
    · rename_i ht
      obtain ⟨cs, rfl⟩ := okWide_struct ht hv
      exact .agg (by simpa [Value.cells] using k2.len) (by simpa [Value.cells] using k2.at_)
    · cases h

def shAll (P : Program) (m : Nat) : List TypeId → List Sh → Bool
  | [], [] => true
  | t :: ts, s :: ss => shIs P m t s && shAll P m ts ss
  | _, _ => false

theorem args_shaped {m : Nat} {base : Nat} : ∀ {ts : List TypeId} {shs : List Sh} {vs : List Value} {ds : List (DataW H)} {ps : List MemPlace}, shAll P m ts shs = true →
    (∀ (j : Nat) t v, ts[j]? = some t → vs[j]? = some v → Value.okWide P W .any base t v) → DataW.TrodAll enc P W 0 (fun _ => true) true ts vs ds ps → ∃ asl, ShapedAll shs asl ∧ VRs (wctx W) asl vs
  | [], [], [], [], _, _, _, _ => ⟨[], rfl, .nil _⟩
  | t :: ts, s :: shs, v :: vs, d :: ds, ps, h, hv, ht => by
    simp only [shAll, Bool.and_eq_true] at h
    obtain ⟨p, q, h1, h2, rfl⟩ := ht
    obtain ⟨a, k1, k2⟩ := arg_shaped h.1 (hv 0 t v rfl rfl) h1
    obtain ⟨b, k3, k4⟩ := args_shaped h.2 (fun j u x hu hx => hv (j + 1) u x (by simpa using hu) (by simpa using hx)) h2
    exact ⟨_, ⟨a, b, rfl, k1, k3⟩, .cons k2 k4⟩
  | [], _ :: _, _, _, _, h, _, _ => by simp [shAll] at h
  | _ :: _, [], _, _, _, h, _, _ => by simp [shAll] at h
  | [], [], _ :: _, _, _, _, _, h => h.elim
  | [], [], [], _ :: _, _, _, _, h => h.elim
  | _ :: _, _ :: _, [], _, _, _, _, h => h.elim
  | _ :: _, _ :: _, _ :: _, [], _, _, _, h => h.elim
end

theorem trodAll_length {H : Type} {enc : TypeId × Value → H} {P : Program} {W : World} {b : Nat} {sp : Nat → Bool} {held : Bool} : ∀ {ts : List TypeId} {vs : List Value} {ds : List (DataW H)} {ps : List MemPlace}, DataW.TrodAll enc P W b sp held ts vs ds ps → ds.length = ts.length
  | [], [], [], _, _ => rfl
  | t :: ts, v :: vs, d :: ds, ps, h => by
    obtain ⟨p, q, h1, h2, rfl⟩ := h
    simp [trodAll_length h2]
  | [], _ :: _, _, _, h => h.elim
  | [], [], _ :: _, _, h => h.elim
  | _ :: _, [], _, _, h => h.elim
  | _ :: _, _ :: _, [], _, h => h.elim

/-- A law that comes to true: its row's lifted statement. -/
theorem law_lifted {H : Type} {enc : TypeId × Value → H} {a : Assume} {C : Checked} {os : Os} {f : FuncId} {fn : Func} {s : ChangeSpec} {conds : List PathCond} {apart handsOn : Bool} {laid : List (String × DataW Unit)} {tb : TypeId} (m : Nat) (shs : List Sh)
    (own : ownKnob C.prog.godebug = none) (started : os.Started) (noInit : C.prog.inits.idxOf? f = none) (hfn : C.prog.funcs[f]? = some fn)
    (witness : ∃ (w : World) (tape : Tape) (i : Input), w.os = os ∧ (w.forCall tape i).Shaped C.prog ∧ i.vars = [] ∧ Input.okWide C.prog (w.forCall tape i) .any w.heap.size f i ∧
      ((s.pre enc C.prog fn conds apart (w.forCall tape i).memory i.args ∧ laidMetH C.prog laid (w.forCall tape i).memory) ∧ sizedMet enc C.prog fn (OpenSpec.ofChange s) apart (w.forCall tape i).memory i.args) ∧ a.holds C.prog (lone (Frame.enter C.prog f i.args .normal) [] (w.forCall tape i)))
    (hvars : s.vars = []) (hspec : ∀ ds : List (DataW H), ds.length = fn.params.toList.length → s.fn H ds = { results := [.lit (.bool true)], args := ds })
    (hres : fn.resultTypes = #[tb]) (hb : C.prog.underlying tb = some .bool) (hlay : laidOutB C.prog = true)
    (hps : (fn.params.toList.all fun t => C.prog.readableRec t && decide (t < C.prog.types.size)) = true) (hsh : shAll C.prog m fn.params.toList shs = true)
    (go : ∀ W : World, laidMetH C.prog laid W → W.ShapedOpen C.prog → ∃ G : Globals, GR G (wctx W) ∧ ∀ asl, ShapedAll shs asl → ∃ (call : CallA) (σ' : Store), CallS C.prog G call ∧ call f asl [] = some (.ret (.bool true), σ')) :
    ReturnsInHanded a C os f .any (fun w args => (s.pre enc C.prog fn conds apart w args ∧ laidMetH C.prog laid w) ∧ sizedMet enc C.prog fn (OpenSpec.ofChange s) apart w args) (s.post enc C.prog fn apart true handsOn false) := by
  refine returnsInHanded_and_shaped (X := fun w _ => laidMetH C.prog laid w) (fun _ _ _ hh h => h.of_heap hh) own started noInit hfn witness ?_
  intro W base args ds gs before hsize hval hW _ hL hshape
  have hlt := hW.lt
  have hW' := hW
  obtain ⟨p, q, hA, hV, rfl, hfz, hnd⟩ := hW
  rw [hvars] at hV
  obtain ⟨rfl, rfl⟩ : gs = [] ∧ q = [] := by
    cases gs with
    | nil => exact ⟨rfl, hV⟩
    | cons g r => exact absurd hV (by intro h; cases h)
  have hlen : ds.length = fn.params.toList.length := by
    exact trodAll_length hA
  obtain ⟨G, gr, hgo⟩ := go W hL hshape
  obtain ⟨asl, k1, k2⟩ := args_shaped (base := base) hsh (fun j t v ht hv => hval j t v (by simpa using ht) (by simpa using hv)) hA
  obtain ⟨call, σ', hS, hcall⟩ := hgo asl k1
  have hcalls := (hS f asl [] _ σ' hcall).2 W.heap.size (wctx W) W args.toList (wctx_SR W) gr k2
  have e2 : args.toList.toArray = args := by simp
  rw [e2] at hcalls
  refine hcalls.mono fun e W' ⟨C', _, _, hbel, hout⟩ => ?_
  obtain ⟨v, rfl, hv⟩ := hout
  cases hv
  refine ⟨_, rfl, _, _, _, [], p, [], hW', ?_, ?_, ?_, keptBut_below hbel, fun h => by cases h⟩
  · rw [hres, List.append_nil, hspec ds hlen]
    exact ChangeShapes.trodAll_mk1 (RowKit.shut_bool hb true)
  · rw [List.append_nil, hspec ds hlen]
    refine below_trodAll hlay (fun t ht => ?_) hA hbel (fun x hx => hlt x (by simp [hx]))
    have := List.all_eq_true.1 hps t ht
    simpa using this
  · rw [List.append_nil, hspec ds hlen, hvars]
    rfl

/-! ### What is listed -/

def litAV {H : Type} : DataW H → Option AV
  | .lit (.int k n) => some (.int k n)
  | .lit (.string s) => some (.str s)
  | .lit (.bool b) => some (.bool b)
  | _ => none
def litsAV {H : Type} : List (DataW H) → Option (List AV)
  | [] => some []
  | d :: r => match litAV d, litsAV r with
    | some a, some asl => some (a :: asl)
    | _, _ => none

section
variable {H : Type} {enc : TypeId × Value → H} {P : Program} {W : World} {base : Nat} {sp : Nat → Bool} {held : Bool} {C : Ctx}

theorem lit_of_trod {fuel : Nat} {t : TypeId} {cs : List Value} {d : DataW H} {p : List MemPlace} (ht : P.underlying t = some .string ∨ ∃ k, P.underlying t = some (.int k))
    (h : DataW.trod enc P W base sp held fuel t cs = some (d, p)) : ∃ a v, litAV d = some a ∧ cs = [v] ∧ VR C a v := by
  rcases ht with ht | ⟨k, ht⟩
  · obtain ⟨s, rfl, hx, _⟩ := DataW.trod_string ht h
    cases hx
    obtain ⟨⟨l⟩⟩ := s
    exact ⟨_, _, rfl, rfl, .str⟩
  · obtain ⟨n, rfl, hx, _⟩ := DataW.trod_int ht h
    cases hx
    exact ⟨_, _, rfl, rfl, .int⟩

theorem tab_of_trod {fuel : Nat} {t e : TypeId} {n : Nat} {cs : List Value} {ds : List (DataW H)} {p : List MemPlace} (ht : P.underlying t = some (.array n e)) (he : P.underlying e = some .string ∨ ∃ k, P.underlying e = some (.int k)) (hc : P.cellsOf e = 1) (hct : P.cellsOf t = n)
    (h : DataW.trod enc P W base sp held fuel t cs = some (.agg ds, p)) : ∃ asl, litsAV ds = some asl ∧ VRs C asl cs := by
  obtain ⟨xs, m, rfl, hx, hlen, hxl, hel⟩ := DataW.trod_array ht h
  simp only [Prod.mk.injEq, DataW.agg.injEq] at hx
  obtain ⟨hx1, hx2⟩ := hx
  subst hx1
  clear hx2 h ht
  rw [hct] at hlen
  clear hct
  induction xs generalizing cs n with
  | nil =>
    simp at hxl; subst hxl
    have : cs = [] := List.eq_nil_of_length_eq_zero hlen
    subst this
    exact ⟨[], rfl, .nil _⟩
  | cons x xs ih =>
    simp only [List.length_cons] at hxl
    obtain ⟨n, rfl⟩ : ∃ k, n = k + 1 := ⟨n - 1, by omega⟩
    cases cs with
    | nil => simp at hlen
    | cons c cs =>
      have h0 := hel 0 (by omega)
      rw [hc] at h0
      simp only [Nat.zero_mul, List.drop_zero, List.take_succ_cons, List.take_zero, List.getElem?_cons_zero] at h0
      obtain ⟨d, q⟩ := x
      obtain ⟨a, v, k1, k2, k3⟩ := lit_of_trod (C := C) he h0
      simp only [List.cons.injEq, and_true] at k2
      subst k2
      obtain ⟨asl, k4, k5⟩ := ih (n := n) (cs := cs) (by simpa using hlen) (by omega) (fun i hi => by
        have := hel (i + 1) (by omega)
        rw [hc] at this ⊢
        simpa using this)
      exact ⟨a :: asl, by simp only [List.map_cons, litsAV, k1, k4], .cons k3 k5⟩
end

/-- A listed table, as a package-level variable of the machine. -/
theorem gr_tab {P : Program} {W : World} {nm : String} {g : Nat} {t e : TypeId} {n fuel : Nat} {cs : Array Value} {ds : List (DataW Unit)} {p : List MemPlace} {asl : List AV} (hg : P.globalNamed nm = some g) (hv : W.var? P nm = some cs)
    (ht : P.underlying t = some (.array n e)) (he : P.underlying e = some .string ∨ ∃ k, P.underlying e = some (.int k)) (hc : P.cellsOf e = 1) (hct : P.cellsOf t = n)
    (h : DataW.trod (fun _ => ()) P W 0 (fun _ => true) false fuel t cs.toList = some (.agg ds, p)) (has : litsAV ds = some asl) :
    ∃ vs : List Value, asl.length = vs.length ∧ (∀ j v, vs[j]? = some v → (wctx W).im g j = some v) ∧ (∀ (j : Nat) a v, asl[j]? = some a → vs[j]? = some v → VR (wctx W) a v) := by
  obtain ⟨as', k1, k2⟩ := tab_of_trod (C := wctx W) ht he hc hct h
  obtain rfl := Option.some.inj (k1.symm.trans has)
  refine ⟨cs.toList, k2.len, fun j v hj => ?_, k2.at_⟩
  show W.cell? ⟨g, j, none⟩ = some v
  rw [World.var?_cell hg hv j]
  simpa using hj

/-- A listed error. -/
theorem gr_err {P : Program} {W : World} {nm tn : String} {g : Nat} {ti tp te ts : TypeId} {ms : Array (String × TypeId)} {f : Field} {fuel : Nat} {cs : Array Value} {text : List UInt8} {p : List MemPlace} (hg : P.globalNamed nm = some g) (hv : W.var? P nm = some cs)
    (hi : P.underlying ti = some (.interface ms)) (hrow : ∀ u, P.typeName? 3 u = some tn → u = tp)
    (hp : P.underlying tp = some (.pointer te)) (he : P.underlying te = some (.struct #[f])) (hft : f.type = ts) (hfo : f.offset = 0) (hs : P.underlying ts = some .string) (hc : P.cellsOf te = 1) (hcs : P.cellsOf ts = 1)
    (h : DataW.trod (fun _ => ()) P W 0 (fun _ => true) false fuel ti cs.toList = some (.iface tn (.ptr (.agg [.lit (.string text)])), p))
    (hok : ∀ u v, cs.toList = [.iface u v] → Value.okWide P W .any 0 u v) :
    ∃ vs : List Value, [AV.iface tp (.ip 1 [.agg [.str text]] 0 0)].length = vs.length ∧ (∀ j v, vs[j]? = some v → (wctx W).im g j = some v) ∧
      (∀ (j : Nat) a v, [AV.iface tp (.ip 1 [.agg [.str text]] 0 0)][j]? = some a → vs[j]? = some v → VR (wctx W) a v) := by
  obtain ⟨a, s, e1, e2, e3, _, _⟩ := errorString_of_trod hi hrow hp he hft hfo hs hc hcs h hok
  have hsp := spot_none e2
  obtain ⟨b, o, spot⟩ := a
  simp only at hsp
  subst hsp
  refine ⟨[.iface tp (.pointer (some ⟨b, o, none⟩))], rfl, fun j v hj => ?_, ?_⟩
  · show W.cell? ⟨g, j, none⟩ = some v
    rw [World.var?_cell hg hv j, ← hj, ← e1]
    simp
  · intro j a v ha hv
    cases j with
    | zero =>
      simp at ha hv
      subst ha; subst hv
      obtain ⟨⟨l⟩⟩ := s
      subst e3
      refine .iface ?_
      have := VR.ip (C := wctx W) (sz := 1) (row := [.agg [.str l]]) (i := 0) (off := 0) (b := b) (o := o) (vs := [.string ⟨l.toArray⟩]) (by simp [AV.cells]) rfl (fun j v hj => by
        cases j with
        | zero => simp at hj; subst hj; exact e2
        | succ j => simp at hj) (fun j a v ha hv => by
        cases j with
        | zero => simp [flat, AV.cells] at ha hv; subst ha; subst hv; exact .str
        | succ j => simp at hv)
      simpa using this
    | succ j => simp at ha

theorem laidVars_at {P : Program} {W : World} : ∀ {l : List (String × DataW Unit)} {ps : List MemPlace}, DataW.LaidVars P W l ps → ∀ {n : String} {d : DataW Unit}, (n, d) ∈ l →
    ∃ g t cs fuel p, P.globalNamed n = some g ∧ (P.globals[g]?).map (·.type) = some t ∧ W.var? P n = some cs ∧ DataW.trod (fun _ => ()) P W 0 (fun _ => true) false fuel t cs.toList = some (d, p) ∧ ∀ x ∈ MemPlace.row ⟨g, 0, none⟩ cs.size, x ∈ ps
  | [], _, _, n, d, hm => by cases hm
  | (n', d') :: r, ps, h, n, d, hm => by
    obtain ⟨g, t, cs, fuel, p, q, h1, h2, h3, h4, h5, rfl⟩ := h
    rcases List.mem_cons.1 hm with e | hm
    · cases e
      exact ⟨g, t, cs, fuel, p, h1, h2, h3, h4, fun x hx => by simp [hx]⟩
    · obtain ⟨g', t', cs', fuel', p', k1, k2, k3, k4, k5⟩ := laidVars_at h5 hm
      exact ⟨g', t', cs', fuel', p', k1, k2, k3, k4, fun x hx => by simp [k5 x hx]⟩

/-- What a package-level variable holds, tied to a world's. -/
def GRAt (C : Ctx) (g : Nat) (cs : List AV) : Prop :=
  ∃ vs : List Value, cs.length = vs.length ∧ (∀ j v, vs[j]? = some v → C.im g j = some v) ∧ (∀ (j : Nat) a v, cs[j]? = some a → vs[j]? = some v → VR C a v)

def lookG : List (Nat × List AV) → Globals
  | [], _ => none
  | (n, c) :: r, g => if n = g then some c else lookG r g

theorem lookG_mem : ∀ {l : List (Nat × List AV)} {g : Nat} {cs : List AV}, lookG l g = some cs → (g, cs) ∈ l
  | [], g, cs, h => by cases h
  | (n, c) :: r, g, cs, h => by
    unfold lookG at h
    split at h
    · rename_i e; subst e; cases h; simp
    · exact List.mem_cons_of_mem _ (lookG_mem h)

theorem GR_of {l : List (Nat × List AV)} {C : Ctx} (h : ∀ p ∈ l, GRAt C p.1 p.2) : GR (lookG l) C := fun g cs hg => h (g, cs) (lookG_mem hg)

theorem GPure_of {l : List (Nat × List AV)} (h : ∀ p ∈ l, puress p.2 = true ∧ stripWs (fun _ => none) p.2 = some p.2) : GPure (lookG l) := fun g cs hg => h (g, cs) (lookG_mem hg)

theorem laid_tab {P : Program} {W : World} {laid : List (String × DataW Unit)} (h : laidMet P laid W) {nm : String} {ds : List (DataW Unit)} (hmem : (nm, DataW.agg ds) ∈ laid) (g t e n : Nat) (asl : List AV)
    (hg : P.globalNamed nm = some g) (hgt : (P.globals[g]?).map (·.type) = some t)
    (ht : P.underlying t = some (.array n e)) (he : P.underlying e = some .string ∨ ∃ k, P.underlying e = some (.int k)) (hc : P.cellsOf e = 1) (hct : P.cellsOf t = n) (has : litsAV ds = some asl) : GRAt (wctx W) g asl := by
  obtain ⟨ps, hl, _, _⟩ := h
  obtain ⟨g', t', cs, fuel, p, k1, k2, k3, k4, _⟩ := laidVars_at hl hmem
  obtain rfl := Option.some.inj (k1.symm.trans hg)
  obtain rfl := Option.some.inj (k2.symm.trans hgt)
  exact gr_tab hg k3 ht he hc hct k4 has

theorem laid_err {P : Program} {W : World} {laid : List (String × DataW Unit)} (h : laidMet P laid W) {nm tn : String} {text : List UInt8} (hmem : (nm, DataW.iface tn (.ptr (.agg [.lit (.string text)]))) ∈ laid) (g ti tp te ts : Nat) (ms : Array (String × TypeId)) (f : Field)
    (hg : P.globalNamed nm = some g) (hgt : (P.globals[g]?).map (·.type) = some ti) (hi : P.underlying ti = some (.interface ms)) (hrow : ∀ u, P.typeName? 3 u = some tn → u = tp)
    (hp : P.underlying tp = some (.pointer te)) (he : P.underlying te = some (.struct #[f])) (hft : f.type = ts) (hfo : f.offset = 0) (hs : P.underlying ts = some .string) (hc : P.cellsOf te = 1) (hcs : P.cellsOf ts = 1) :
    GRAt (wctx W) g [.iface tp (.ip 1 [.agg [.str text]] 0 0)] := by
  obtain ⟨ps, hl, _, hok⟩ := h
  obtain ⟨g', t', cs, fuel, p, k1, k2, k3, k4, k5⟩ := laidVars_at hl hmem
  obtain rfl := Option.some.inj (k1.symm.trans hg)
  obtain rfl := Option.some.inj (k2.symm.trans hgt)
  refine gr_err hg k3 hi hrow hp he hft hfo hs hc hcs k4 fun u v hcs => ?_
  have e0 : cs[0]? = some (.iface u v) := by
    have : cs.toList[0]? = some (Value.iface u v) := by rw [hcs]; rfl
    simpa using this
  have hsz : cs.size = 1 := by
    have := congrArg List.length hcs
    simpa using this
  refine (hok g' 0 (k5 _ ?_)).2 u v ?_
  · rw [hsz]; simp [MemPlace.row, Addr.add]
  · rw [World.var?_cell hg k3 0]; exact e0

/-- A variable of a kind of whole numbers that is not listed. -/
theorem shaped_int {P : Program} {W : World} (h : W.ShapedOpen P) (g t : Nat) (k : IntKind) (zero : Array Value) (hg : g < P.globals.size)
    (h0 : ((begin P (fun _ _ => 0) default).world.heap[g]?).bind Obj.row? = some (zero, t)) (hz : zero.size = 1)
    (hb : P.buildable t = true) (hc : P.cellTypes P.depth t = some [t]) (hu : P.underlying t = some (.int k)) : ∃ m, GRAt (wctx W) g [.int k m] := by
  obtain ⟨m, hm⟩ := Go.Proofs.cell_of_shapedOpen_int h hg h0 hz hb hc hu
  refine ⟨m, [.int k m], rfl, fun j v hj => ?_, fun j a v ha hv => ?_⟩
  · cases j with
    | zero => simp at hj; subst hj; exact hm
    | succ j => simp at hj
  · cases j with
    | zero => simp at ha hv; subst ha; subst hv; exact .int
    | succ j => simp at ha

theorem law_call {P : Program} {G : Globals} {call : CallA} (hc : CallS P G call) (hm : P.follows .mixedOrders = true) (hG : GPure G) {f : FuncId} {af : AFunc} (hok : okAt P f af = true) {asl : List AV} {σ' : Store} {fuel : Nat}
    (h : evalFn call (drawA call G) G fuel af asl [] = some (.ret (.bool true), σ')) : ∃ (call' : CallA) (σ' : Store), CallS P G call' ∧ call' f asl [] = some (.ret (.bool true), σ') := by
  refine ⟨atF f fun a σ => match σ with | [] => evalFn call (drawA call G) G fuel af a [] | _ => Option.none, σ', CallS.step hc hm hG hok fun a σ r h => ?_, ?_⟩
  · cases σ with
    | nil => exact ⟨fuel, h⟩
    | cons _ _ => cases h
  · unfold atF; rw [if_pos rfl]; exact h
end Go.Pm
end

section
set_option linter.unusedSimpArgs false
set_option linter.unusedVariables false
set_option linter.unusedSectionVars false
/- The pure machine: functions of the library that it does not run: what they answer. Definitions alone. -/
namespace Go.Pm

/-- The numbers of functions and types in a translation. -/
structure LibNums where
  contains : Nat
  join : Nat
  repeat_ : Nat
  parseUint : Nat
  copyCheck : Nat
  bString : Nat
  numErr : TypeId
  builder : TypeId
  byte : TypeId

def prefixB : List UInt8 → List UInt8 → Bool
  | [], _ => true
  | _ :: _, [] => false
  | a :: asl, b :: bs => a == b && prefixB asl bs

def containsB (t : List UInt8) : List UInt8 → Bool
  | [] => prefixB t []
  | b :: s => prefixB t (b :: s) || containsB t s

def joinB (sep : List UInt8) : List (List UInt8) → List UInt8
  | [] => []
  | [x] => x
  | x :: r => x ++ sep ++ joinB sep r

def strsOf : List AV → Option (List (List UInt8))
  | [] => some []
  | .str s :: r => match strsOf r with
    | some l => some (s :: l)
    | none => none
  | _ => none

def repB (s : List UInt8) : Nat → List UInt8
  | 0 => []
  | n + 1 => s ++ repB s n

def libO (L : LibNums) : CallA := fun f args σ =>
  if f = L.contains then
    match args with
    | [.str s, .str t] => if s.length < 4294967281 ∧ t.length < 4294967281 then some (.ret (.bool (containsB t s)), σ) else none
    | _ => none
  else if f = L.join then
    match args with
    | [.sl 1 row _, .str sep] => match strsOf row with
      | some l => if row.length ≤ 140737488355328 ∧ (joinB sep l).length ≤ 140737488355328 then some (.ret (.str (joinB sep l)), σ) else none
      | none => none
    | _ => none
  else if f = L.repeat_ then
    match args with
    | [.str s, .int .i64 n] => if 0 ≤ n ∧ n ≤ 9223372036854775807 ∧ s.length * n.toNat ≤ 140737488355328 then some (.ret (.str (repB s n.toNat)), σ) else none
    | _ => none
  else if f = L.parseUint then
    match args with
    | [.str s, .int .i64 10, .int .i64 64] =>
      if s.length ≤ 281474976710656 then
        match Lib.parseUintB 64 s with
        | .ok u => some (.ret (.tup [.int .u64 u, .nili]), σ)
        | .range => some (.ret (.tup [.int .u64 18446744073709551615, .iface L.numErr (.ip 1 [] 0 0)]), σ)
        | _ => some (.ret (.tup [.int .u64 0, .iface L.numErr (.ip 1 [] 0 0)]), σ)
      else none
    | _ => none
  else if f = L.copyCheck then
    match args with
    | [.bp id 0] => match storeOf σ id with
      | some ([c0, c1], some T) =>
        if T = L.builder then
          match c0 with
          | .nilp => some (.ret (.tup []), σ.set id (.cells [.bp id 0, c1] (some T)))
          | .bp id' 0 => if id' = id then some (.ret (.tup []), σ) else none
          | _ => none
        else none
      | _ => none
    | _ => none
  else if f = L.bString then
    match args with
    | [.bp id 0] => match storeOf σ id with
      | some ([_, .sl 1 row (.tok k)], some T) =>
        if T = L.builder ∧ row.length ≤ 140737488355328 ∧ row ≠ [] then
          match σ[k]?, bytesOf row with
          | some (.tok B), some l => if B = L.byte then some (.ret (.str l), σ) else none
          | _, _ => none
        else none
      | _ => none
    | _ => none
  else none

end Go.Pm
end
