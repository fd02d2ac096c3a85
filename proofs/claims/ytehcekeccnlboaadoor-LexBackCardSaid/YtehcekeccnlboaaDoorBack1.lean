/- Proof that LexBack (pieces that are written one behind the other, with blanks between, are told as themselves; each stands at its place) returns true, for the program as translated, under the conditions of its given row and card: over a machine on plain data that is proved sound for the model. Here: DBackA, DBackB, DBackC, DBackD, DGoBack, DRowBack -/
import Derived.Test.YtehcekeccnlboaaDoorBack0
import Derived.SevenTiedAt
import Derived.LaidMore

section
set_option linter.unusedSimpArgs false
set_option linter.unusedVariables false
set_option linter.unusedSectionVars false
/- Pieces, written one behind the other with blanks between, are told as themselves: the plain law. -/
set_option maxRecDepth 100000
set_option linter.unusedSimpArgs false
set_option linter.unusedVariables false
namespace Go.Pm

/-! ### Fuel -/

theorem lexF_fuel : ∀ (n m : Nat) (s : List UInt8) (l c : Int) (acc : List AV), s.length < n → s.length < m → lexF n s l c acc = lexF m s l c acc
  | 0, _, s, _, _, _, h, _ => by omega
  | _, 0, s, _, _, _, _, h => by omega
  | n + 1, m + 1, [], l, c, acc, _, _ => rfl
  | n + 1, m + 1, x :: t, l, c, acc, hn, hm => by
    simp only [List.length_cons] at hn hm
    have go : ∀ (k : Nat) (l' c' : Int) (acc' : List AV), 1 ≤ k → lexF n ((x :: t).drop k) l' c' acc' = lexF m ((x :: t).drop k) l' c' acc' := fun k l' c' acc' hk =>
      lexF_fuel n m _ _ _ _ (by simp only [List.length_drop, List.length_cons]; omega) (by simp only [List.length_drop, List.length_cons]; omega)
    have g1 := fun l' c' acc' => go 1 l' c' acc' (Nat.le_refl _)
    simp only [List.drop_succ_cons, List.drop_zero] at g1
    rw [lexF, lexF]
    by_cases h10 : (x.toNat == 10) = true
    · rw [if_pos h10, if_pos h10]; exact g1 _ _ _
    · rw [if_neg h10, if_neg h10]
      by_cases hb : (x.toNat == 32 || x.toNat == 9) = true
      · rw [if_pos hb, if_pos hb]; exact g1 _ _ _
      · rw [if_neg hb, if_neg hb]
        by_cases h35 : (x.toNat == 35) = true
        · rw [if_pos h35, if_pos h35]
          exact go _ _ _ _ (spanLen_pos (by simp [noLf, h10]))
        · rw [if_neg h35, if_neg h35]
          by_cases hd : digitB x = true
          · rw [if_pos hd, if_pos hd]
            split
            · exact go _ _ _ _ (spanLen_pos hd)
            · rfl
          · rw [if_neg hd, if_neg hd]
            by_cases hw : letterB x = true
            · rw [if_pos hw, if_pos hw]
              exact go _ _ _ _ (spanLen_pos (by simp [wordB, hw]))
            · rw [if_neg hw, if_neg hw]
              by_cases hs : signN (x :: t) = 0
              · rw [if_pos hs, if_pos hs]
              · rw [if_neg hs, if_neg hs]
                exact go _ _ _ _ (by omega)

/-! ### Places -/

theorem placeF_gt : ∀ (b : List UInt8) (l c : Int), 1 ≤ c → b ≠ [] → l < (placeF b l c).1 ∨ ((placeF b l c).1 = l ∧ c < (placeF b l c).2)
  | [], _, _, _, h => absurd rfl h
  | [x], l, c, hc, _ => by
    simp only [placeF]; split
    · left; simp only; omega
    · right; exact ⟨rfl, by simp only; omega⟩
  | x :: y :: r, l, c, hc, _ => by
    rw [placeF]
    split
    · have := placeF_gt (y :: r) (l + 1) 1 (by omega) (by simp)
      left; omega
    · have := placeF_gt (y :: r) l (c + 1) (by omega) (by simp)
      omega

theorem placeF_pos : ∀ (b : List UInt8) (l c : Int), 1 ≤ l → 1 ≤ c → 1 ≤ (placeF b l c).1 ∧ 1 ≤ (placeF b l c).2
  | [], l, c, hl, hc => ⟨hl, hc⟩
  | x :: r, l, c, hl, hc => by
    rw [placeF]
    split
    · exact placeF_pos r _ _ (by omega) (by omega)
    · exact placeF_pos r _ _ hl (by omega)

theorem place_ne (s : List UInt8) (i j : Nat) (h : i < j) (hj : j ≤ s.length) : placeF (s.take i) 1 1 ≠ placeF (s.take j) 1 1 := by
  intro e
  have e2 : s.take j = s.take i ++ (s.drop i).take (j - i) := by
    rw [show j = i + (j - i) by omega, List.take_add]; congr 2; omega
  rw [e2, placeF_append] at e
  have hb : (s.drop i).take (j - i) ≠ [] := by
    intro h0
    have := congrArg List.length h0
    simp only [List.length_take, List.length_drop, List.length_nil] at this
    omega
  have hp := placeF_pos (s.take i) 1 1 (by omega) (by omega)
  have := placeF_gt _ (placeF (s.take i) 1 1).1 (placeF (s.take i) 1 1).2 hp.2 hb
  rw [← e] at this
  omega

/-! ### Good pieces -/

/-- Does a piece stand there? -/
def StandsAt (s : List UInt8) (j : Nat) (t : List UInt8) (line col : Int) : Prop :=
  t ≠ [] ∧ j + t.length ≤ s.length ∧ (s.drop j).take t.length = t ∧ placeF (s.take j) 1 1 = (line, col)

def otherB (a : UInt8) : Prop := (a.toNat == 10) = false ∧ (a.toNat == 32 || a.toNat == 9) = false ∧ (a.toNat == 35) = false ∧ digitB a = false ∧ letterB a = false

/-- A piece's parts. -/
def GoodP (k : Int) (t : List UInt8) (n : Int) : Prop :=
  (k = 1 ∧ (∃ a r, t = a :: r) ∧ (∀ x ∈ t, digitB x = true) ∧ ∃ u : Nat, n = u ∧ Lib.parseUintB 64 t = .ok u) ∨
  (k = 2 ∧ n = 0 ∧ ∃ a r, t = a :: r ∧ letterB a = true ∧ ∀ x ∈ r, wordB x = true) ∨
  (k = 3 ∧ n = 0 ∧ ∃ a r, t = a :: r ∧ otherB a ∧ signN t = t.length)

def GoodAt (s : List UInt8) (x : AV) : Prop := ∃ k t n line col j, x = pieceA k t n line col ∧ GoodP k t n ∧ StandsAt s j t line col

theorem sign_self (a : UInt8) (t : List UInt8) (h : signN (a :: t) ≠ 0) : signN ((a :: t).take (signN (a :: t))) = ((a :: t).take (signN (a :: t))).length ∧ ∃ r, (a :: t).take (signN (a :: t)) = a :: r := by
  cases t with
  | nil =>
    by_cases hc : containsB [a] shortS = true
    · have e : signN [a] = 1 := by simp only [signN, hc, if_true]
      rw [e, List.take_succ_cons, List.take_zero, e]; exact ⟨rfl, [], rfl⟩
    · exact absurd (by simp only [signN]; rw [if_neg hc]) h
  | cons b t =>
    by_cases hb : (b.toNat == 61 && containsB [a, b] longS) = true
    · have e : ∀ r, signN (a :: b :: r) = 2 := fun r => by simp only [signN]; rw [if_pos hb]
      rw [e, List.take_succ_cons, List.take_succ_cons, List.take_zero, e]; exact ⟨rfl, [b], rfl⟩
    · by_cases hc : containsB [a] shortS = true
      · have e : signN (a :: b :: t) = 1 := by simp only [signN]; rw [if_neg hb, if_pos hc]
        have e2 : signN [a] = 1 := by simp only [signN, hc, if_true]
        rw [e, List.take_succ_cons, List.take_zero, e2]; exact ⟨rfl, [], rfl⟩
      · exact absurd (by simp only [signN]; rw [if_neg hb, if_neg hc]) h

theorem lexF_good : ∀ (n : Nat) (pre suf : List UInt8) (line col : Int) (acc l : List AV), placeF pre 1 1 = (line, col) → (∀ x ∈ acc, GoodAt (pre ++ suf) x) → lexF n suf line col acc = .ok l →
    ∃ init, l = init ++ [pieceA 0 [] 0 (placeF (pre ++ suf) 1 1).1 (placeF (pre ++ suf) 1 1).2] ∧ ∀ x ∈ init, GoodAt (pre ++ suf) x
  | 0, _, _, _, _, _, l, _, _, h => by simp [lexF] at h
  | n + 1, pre, [], line, col, acc, l, hp, ha, h => by
    simp only [lexF, LexR.ok.injEq] at h
    rw [List.append_nil] at ha ⊢
    rw [hp]
    exact ⟨acc, h.symm, ha⟩
  | n + 1, pre, c :: t, line, col, acc, l, hp, ha, h => by
    -- the rest, behind k bytes
    have go : ∀ (k : Nat) (line' col' : Int) (acc' : List AV), placeF (pre ++ (c :: t).take k) 1 1 = (line', col') → (∀ x ∈ acc', GoodAt (pre ++ c :: t) x) → lexF n ((c :: t).drop k) line' col' acc' = .ok l →
        ∃ init, l = init ++ [pieceA 0 [] 0 (placeF (pre ++ c :: t) 1 1).1 (placeF (pre ++ c :: t) 1 1).2] ∧ ∀ x ∈ init, GoodAt (pre ++ c :: t) x := by
      intro k line' col' acc' h1 h2 h3
      have e : pre ++ c :: t = (pre ++ (c :: t).take k) ++ (c :: t).drop k := by rw [List.append_assoc, List.take_append_drop]
      rw [e] at h2 ⊢
      exact lexF_good n _ _ _ _ _ l h1 h2 h3
    have pl : ∀ (k : Nat), (∀ x ∈ (c :: t).take k, (x.toNat == 10) = false) → k ≤ (c :: t).length → placeF (pre ++ (c :: t).take k) 1 1 = (line, col + k) := by
      intro k hk hkl
      rw [placeF_append, hp, placeF_none _ _ _ hk, List.length_take, Nat.min_eq_left hkl]
    -- a piece of k bytes
    have piece : ∀ (k : Nat) (kind n' : Int), 1 ≤ k → k ≤ (c :: t).length → (∀ x ∈ (c :: t).take k, (x.toNat == 10) = false) → GoodP kind ((c :: t).take k) n' → lexF n ((c :: t).drop k) line (col + k) (acc ++ [pieceA kind ((c :: t).take k) n' line col]) = .ok l →
        ∃ init, l = init ++ [pieceA 0 [] 0 (placeF (pre ++ c :: t) 1 1).1 (placeF (pre ++ c :: t) 1 1).2] ∧ ∀ x ∈ init, GoodAt (pre ++ c :: t) x := by
      intro k kind n' hk1 hk2 hk3 hg h3
      refine go k line (col + k) _ (pl k hk3 hk2) (fun x hx => ?_) h3
      rcases List.mem_append.1 hx with hx | hx
      · exact ha x hx
      · simp at hx
        refine ⟨kind, (c :: t).take k, n', line, col, pre.length, hx, hg, ?_, ?_, ?_, ?_⟩
        · intro h0
          have := congrArg List.length h0
          simp only [List.length_take, List.length_cons, List.length_nil] at this
          simp only [List.length_cons] at hk2
          omega
        · rw [List.length_take, List.length_append]; omega
        · rw [List.drop_append_of_le_length (Nat.le_refl _), List.drop_length, List.nil_append, List.length_take, Nat.min_eq_left hk2]
        · rw [List.take_append_of_le_length (Nat.le_refl _), List.take_length]; exact hp
    rw [lexF] at h
    by_cases h10 : (c.toNat == 10) = true
    · rw [if_pos h10] at h
      refine go 1 (line + 1) 1 acc ?_ ha h
      rw [placeF_append, hp, List.take_succ_cons, List.take_zero, placeF, if_pos h10, placeF]
    · rw [if_neg h10] at h
      have h10' : (c.toNat == 10) = false := by simpa using h10
      by_cases hb : (c.toNat == 32 || c.toNat == 9) = true
      · rw [if_pos hb] at h
        exact go 1 line (col + 1) acc (pl 1 (by intro x hx; simp at hx; subst hx; exact h10') (by simp)) ha h
      · rw [if_neg hb] at h
        have hb' : (c.toNat == 32 || c.toNat == 9) = false := by simpa using hb
        by_cases h35 : (c.toNat == 35) = true
        · rw [if_pos h35] at h
          refine go _ _ _ acc (pl _ (fun x hx => ?_) (spanLen_le _ _)) ha h
          rw [take_span] at hx
          simpa [noLf] using takeWhile_all _ _ x hx
        · rw [if_neg h35] at h
          have h35' : (c.toNat == 35) = false := by simpa using h35
          by_cases hd : digitB c = true
          · rw [if_pos hd] at h
            have hall : ∀ x ∈ (c :: t).take (spanLen digitB (c :: t)), digitB x = true := by rw [take_span]; exact fun x hx => takeWhile_all _ _ x hx
            have s1 : 1 ≤ spanLen digitB (c :: t) := spanLen_pos hd
            split at h
            · rename_i u hu
              refine piece _ 1 u s1 (spanLen_le _ _) (fun x hx => ?_) (.inl ⟨rfl, ⟨c, t.take (spanLen digitB (c :: t) - 1), ?_⟩, hall, u, rfl, hu⟩) h
              · have := digit_lt (hall x hx); rw [beq_eq_false_iff_ne]; omega
              · obtain ⟨k, hk⟩ : ∃ k, spanLen digitB (c :: t) = k + 1 := ⟨_, (Nat.succ_pred_eq_of_pos s1).symm⟩
                rw [hk, List.take_succ_cons]; rfl
            · cases h
          · rw [if_neg hd] at h
            have hd' : digitB c = false := by simpa using hd
            by_cases hw : letterB c = true
            · rw [if_pos hw] at h
              have hall : ∀ x ∈ (c :: t).take (spanLen wordB (c :: t)), wordB x = true := by rw [take_span]; exact fun x hx => takeWhile_all _ _ x hx
              have s1 : 1 ≤ spanLen wordB (c :: t) := spanLen_pos (by simp [wordB, hw])
              obtain ⟨k, hk⟩ : ∃ k, spanLen wordB (c :: t) = k + 1 := ⟨_, (Nat.succ_pred_eq_of_pos s1).symm⟩
              refine piece _ 2 0 s1 (spanLen_le _ _) (fun x hx => ?_) (.inr (.inl ⟨rfl, rfl, c, t.take k, by rw [hk, List.take_succ_cons], hw, fun x hx => hall x (by rw [hk, List.take_succ_cons]; simp [hx])⟩)) h
              have := hall x hx
              simp only [wordB, Bool.or_eq_true] at this
              rw [beq_eq_false_iff_ne]
              rcases this with hc | hc
              · have := letter_lt hc; omega
              · have := digit_lt hc; omega
            · rw [if_neg hw] at h
              have hw' : letterB c = false := by simpa using hw
              by_cases hs : signN (c :: t) = 0
              · rw [if_pos hs] at h; cases h
              · rw [if_neg hs] at h
                obtain ⟨g1, r, g2⟩ := sign_self c t hs
                refine piece _ 3 0 (by omega) (signN_le c t) (fun x hx => ?_) (.inr (.inr ⟨rfl, rfl, c, r, g2, ⟨h10', hb', h35', hd', hw'⟩, g1⟩)) h
                by_cases hx10 : (x.toNat == 10) = true
                · exact absurd (sign_chars _ _ x hx hx10) h10
                · simpa using hx10

theorem lexF_errpos : ∀ (n : Nat) (s : List UInt8) (l c : Int) (acc : List AV) (a b k : Int), 1 ≤ l → 1 ≤ c → s.length < n → lexF n s l c acc = .err a b k → 1 ≤ a ∧ 1 ≤ b ∧ k ≠ 0
  | 0, s, _, _, _, _, _, _, _, _, h, _ => by omega
  | n + 1, [], l, c, acc, a, b, k, _, _, _, h => by simp [lexF] at h
  | n + 1, x :: t, l, c, acc, a, b, k, hl, hc, hn, h => by
    simp only [List.length_cons] at hn
    have go : ∀ (j : Nat) (l' c' : Int) (acc' : List AV), 1 ≤ j → 1 ≤ l' → 1 ≤ c' → lexF n ((x :: t).drop j) l' c' acc' = .err a b k → 1 ≤ a ∧ 1 ≤ b ∧ k ≠ 0 := fun j l' c' acc' hj h1 h2 h3 =>
      lexF_errpos n _ l' c' acc' a b k h1 h2 (by simp only [List.length_drop, List.length_cons]; omega) h3
    rw [lexF] at h
    split at h
    · exact go 1 _ _ _ (Nat.le_refl _) (by omega) (by omega) h
    · rename_i h10
      split at h
      · exact go 1 _ _ _ (Nat.le_refl _) (by omega) (by omega) h
      · split at h
        · exact go _ _ _ _ (spanLen_pos (by simp [noLf, h10])) hl (by omega) h
        · split at h
          · rename_i hd
            split at h
            · exact go _ _ _ _ (spanLen_pos hd) hl (by omega) h
            · cases h; exact ⟨hl, hc, by decide⟩
          · split at h
            · rename_i hw
              exact go _ _ _ _ (spanLen_pos (by simp [wordB, hw])) hl (by omega) h
            · split at h
              · cases h; exact ⟨hl, hc, by decide⟩
              · exact go _ _ _ _ (by omega) hl (by omega) h

theorem lexR_errpos {s : List UInt8} {a b k : Int} (h : lexR s = .err a b k) : 1 ≤ a ∧ 1 ≤ b ∧ k ≠ 0 := by
  unfold lexR at h
  split at h
  · cases h; decide
  · exact lexF_errpos 4097 s 1 1 [] a b k (by omega) (by omega) (by omega) h
end Go.Pm
end

section
set_option linter.unusedSimpArgs false
set_option linter.unusedVariables false
set_option linter.unusedSectionVars false
/- Pieces, written one behind the other with blanks between, are told as themselves. -/
set_option maxRecDepth 100000
set_option linter.unusedSimpArgs false
set_option linter.unusedVariables false
namespace Go.Pm

def lexZ (s : List UInt8) (l c : Int) (acc : List AV) : LexR := lexF (s.length + 1) s l c acc

def sepOk (s : List UInt8) : Prop := s = [32] ∨ s = [10] ∨ s = [9, 32] ∨ s = [32, 35, 59, 10]
def blankC (x : UInt8) : Prop := x = 32 ∨ x = 10 ∨ x = 9

theorem sepOk.head {s : List UInt8} (h : sepOk s) (r : List UInt8) : ∃ x y, s ++ r = x :: y ∧ blankC x := by
  rcases h with rfl | rfl | rfl | rfl
  · exact ⟨32, _, rfl, .inl rfl⟩
  · exact ⟨10, _, rfl, .inr (.inl rfl)⟩
  · exact ⟨9, _, rfl, .inr (.inr rfl)⟩
  · exact ⟨32, _, rfl, .inl rfl⟩

theorem lexZ_32 (r : List UInt8) (l c : Int) (acc : List AV) : lexZ (32 :: r) l c acc = lexZ r l (c + 1) acc := by
  unfold lexZ
  rw [List.length_cons, lexF, if_neg (by decide), if_pos (by decide)]
theorem lexZ_9 (r : List UInt8) (l c : Int) (acc : List AV) : lexZ (9 :: r) l c acc = lexZ r l (c + 1) acc := by
  unfold lexZ
  rw [List.length_cons, lexF, if_neg (by decide), if_pos (by decide)]
theorem lexZ_10 (r : List UInt8) (l c : Int) (acc : List AV) : lexZ (10 :: r) l c acc = lexZ r (l + 1) 1 acc := by
  unfold lexZ
  rw [List.length_cons, lexF, if_pos (by decide)]
theorem lexZ_hash (r : List UInt8) (l c : Int) (acc : List AV) : lexZ (35 :: 59 :: 10 :: r) l c acc = lexZ (10 :: r) l (c + 2) acc := by
  have e : spanLen noLf (35 :: 59 :: 10 :: r) = 2 := rfl
  unfold lexZ
  rw [List.length_cons, lexF, if_neg (by decide), if_neg (by decide), if_pos (by decide), e]
  simp only [List.drop_succ_cons, List.drop_zero]
  exact lexF_fuel _ _ _ _ _ _ (by simp) (by simp)

theorem lexZ_sep {s : List UInt8} (h : sepOk s) (l c : Int) : ∃ l' c', ∀ (r : List UInt8) (acc : List AV), lexZ (s ++ r) l c acc = lexZ r l' c' acc := by
  rcases h with rfl | rfl | rfl | rfl
  · exact ⟨l, c + 1, fun r acc => lexZ_32 r l c acc⟩
  · exact ⟨l + 1, 1, fun r acc => lexZ_10 r l c acc⟩
  · exact ⟨l, c + 1 + 1, fun r acc => by
      show lexZ (9 :: 32 :: r) l c acc = _
      rw [lexZ_9, lexZ_32]⟩
  · exact ⟨l + 1, 1, fun r acc => by
      show lexZ (32 :: 35 :: 59 :: 10 :: r) l c acc = _
      rw [lexZ_32, lexZ_hash, lexZ_10]⟩

theorem spanLen_app {p : UInt8 → Bool} : ∀ (t : List UInt8) (x : UInt8) (r : List UInt8), (∀ y ∈ t, p y = true) → p x = false → spanLen p (t ++ x :: r) = t.length
  | [], x, r, _, hx => by unfold spanLen; rw [List.nil_append, List.takeWhile_cons, if_neg (by simp [hx])]
  | y :: t, x, r, h, hx => by
    have := spanLen_app t x r (fun z hz => h z (by simp [hz])) hx
    unfold spanLen at this ⊢
    rw [List.cons_append, List.takeWhile_cons, if_pos (h y (by simp)), List.length_cons, this, List.length_cons]

theorem blank_facts {x : UInt8} (h : blankC x) : digitB x = false ∧ wordB x = false ∧ (x.toNat == 61) = false := by
  rcases h with rfl | rfl | rfl <;> decide

theorem letter_other {a : UInt8} (h : letterB a = true) : (a.toNat == 10) = false ∧ (a.toNat == 32 || a.toNat == 9) = false ∧ (a.toNat == 35) = false ∧ digitB a = false := by
  have := letter_lt h
  refine ⟨?_, ?_, ?_, ?_⟩
  · rw [beq_eq_false_iff_ne]; omega
  · rw [Bool.or_eq_false_iff, beq_eq_false_iff_ne, beq_eq_false_iff_ne]; omega
  · rw [beq_eq_false_iff_ne]; omega
  · simp [digitB]; omega
theorem digit_other {a : UInt8} (h : digitB a = true) : (a.toNat == 10) = false ∧ (a.toNat == 32 || a.toNat == 9) = false ∧ (a.toNat == 35) = false := by
  have := digit_lt h
  refine ⟨?_, ?_, ?_⟩
  · rw [beq_eq_false_iff_ne]; omega
  · rw [Bool.or_eq_false_iff, beq_eq_false_iff_ne, beq_eq_false_iff_ne]; omega
  · rw [beq_eq_false_iff_ne]; omega

theorem lexZ_piece {k n : Int} {t : List UInt8} (h : GoodP k t n) {x : UInt8} (hx : blankC x) (r : List UInt8) (l c : Int) (acc : List AV) :
    lexZ (t ++ x :: r) l c acc = lexZ (x :: r) l (c + t.length) (acc ++ [pieceA k t n l c]) := by
  obtain ⟨b1, b2, b3⟩ := blank_facts hx
  have fin : ∀ (a : UInt8) (q : List UInt8) (m : Nat) (acc' : List AV) (c' : Int), m = (a :: q).length → lexF (q ++ x :: r).length.succ ((a :: q ++ x :: r).drop m) l c' acc' = lexZ (x :: r) l c' acc' := by
    intro a q m acc' c' hm
    subst hm
    rw [List.drop_append_of_le_length (Nat.le_refl _), List.drop_length, List.nil_append]
    unfold lexZ
    exact lexF_fuel _ _ _ _ _ _ (by simp; omega) (by simp)
  rcases h with ⟨rfl, ⟨a, q, rfl⟩, hd, u, rfl, hu⟩ | ⟨rfl, rfl, a, q, rfl, ha, hq⟩ | ⟨rfl, rfl, a, q, rfl, ho, hs⟩
  · have hsp := spanLen_app (p := digitB) (a :: q) x r hd b1
    obtain ⟨o1, o2, o3⟩ := digit_other (hd a (by simp))
    rw [List.cons_append] at hsp ⊢
    rw [lexZ, List.length_cons, lexF, if_neg (by simp [o1]), if_neg (by simp [o2]), if_neg (by simp [o3]), if_pos (hd a (by simp)), hsp]
    have htk : (a :: (q ++ x :: r)).take (a :: q).length = a :: q := by rw [← List.cons_append, List.take_append_of_le_length (Nat.le_refl _), List.take_length]
    rw [htk, hu]
    exact fin a q _ _ _ rfl
  · have hall : ∀ y ∈ a :: q, wordB y = true := by
      intro y hy
      rcases List.mem_cons.1 hy with rfl | hy
      · simp [wordB, ha]
      · exact hq y hy
    have hsp := spanLen_app (p := wordB) (a :: q) x r hall b2
    obtain ⟨o1, o2, o3, o4⟩ := letter_other ha
    rw [List.cons_append] at hsp ⊢
    rw [lexZ, List.length_cons, lexF, if_neg (by simp [o1]), if_neg (by simp [o2]), if_neg (by simp [o3]), if_neg (by simp [o4]), if_pos ha, hsp]
    have htk : (a :: (q ++ x :: r)).take (a :: q).length = a :: q := by rw [← List.cons_append, List.take_append_of_le_length (Nat.le_refl _), List.take_length]
    rw [htk]
    exact fin a q _ _ _ rfl
  · obtain ⟨o1, o2, o3, o4, o5⟩ := ho
    have hsg : signN (a :: (q ++ x :: r)) = (a :: q).length := by
      cases q with
      | nil =>
        simp only [signN, List.length_cons, List.length_nil] at hs
        split at hs
        · rename_i hc
          simp [signN, b3, hc]
        · simp at hs
      | cons b q =>
        cases q with
        | nil =>
          rw [← hs]; rfl
        | cons d q =>
          exfalso
          simp only [signN, List.length_cons] at hs
          split at hs
          · omega
          · split at hs <;> omega
    rw [List.cons_append]
    rw [lexZ, List.length_cons, lexF, if_neg (by simp [o1]), if_neg (by simp [o2]), if_neg (by simp [o3]), if_neg (by simp [o4]), if_neg (by simp [o5]), hsg, if_neg (by simp)]
    have htk : (a :: (q ++ x :: r)).take (a :: q).length = a :: q := by rw [← List.cons_append, List.take_append_of_le_length (Nat.le_refl _), List.take_length]
    rw [htk]
    exact fin a q _ _ _ rfl

def pieceT : AV → List UInt8
  | .agg [_, .str t, _, _, _] => t
  | _ => []
def lineOf (s : List UInt8) : List AV → List UInt8
  | [] => s
  | p :: r => s ++ (pieceT p ++ lineOf s r)

/-- Alike but for their places. -/
def SameP (x y : AV) : Prop := ∃ k t n a b a' b', x = pieceA k t n a b ∧ y = pieceA k t n a' b'
def Sim : List AV → List AV → Prop
  | [], [] => True
  | x :: r, y :: q => SameP x y ∧ Sim r q
  | _, _ => False

theorem Sim.get : ∀ {a b : List AV}, Sim a b → a.length = b.length ∧ ∀ (i : Nat) x, a[i]? = some x → ∃ y, b[i]? = some y ∧ SameP x y
  | [], [], _ => ⟨rfl, by simp⟩
  | x :: r, y :: q, h => by
    obtain ⟨h1, h2⟩ := h
    obtain ⟨k1, k2⟩ := Sim.get h2
    refine ⟨by simp [k1], fun i z hz => ?_⟩
    cases i with
    | zero => simp at hz; subst hz; exact ⟨y, rfl, h1⟩
    | succ i => simpa using k2 i z (by simpa using hz)
  | [], _ :: _, h => h.elim
  | _ :: _, [], h => h.elim

theorem relex {s : List UInt8} (hs : sepOk s) : ∀ (init : List AV) (l c : Int) (acc : List AV), (∀ x ∈ init, ∃ k t n a b, x = pieceA k t n a b ∧ GoodP k t n) →
    ∃ out l' c', lexZ (lineOf s init) l c acc = .ok (acc ++ out ++ [pieceA 0 [] 0 l' c']) ∧ Sim out init
  | [], l, c, acc, _ => by
    obtain ⟨l', c', h⟩ := lexZ_sep hs l c
    have := h [] acc
    rw [List.append_nil] at this
    refine ⟨[], l', c', ?_, trivial⟩
    rw [lineOf, this, List.append_nil]
    rfl
  | p :: r, l, c, acc, hg => by
    obtain ⟨k, t, n, a, b, rfl, hp⟩ := hg p (by simp)
    obtain ⟨l1, c1, h1⟩ := lexZ_sep hs l c
    obtain ⟨x, y, hxy, hx⟩ : ∃ x y, lineOf s r = x :: y ∧ blankC x := by
      cases r with
      | nil => have := hs.head []; rw [List.append_nil] at this; exact this
      | cons q r => exact hs.head _
    obtain ⟨out, l', c', k1, k2⟩ := relex hs r l1 (c1 + t.length) (acc ++ [pieceA k t n l1 c1]) (fun z hz => hg z (by simp [hz]))
    refine ⟨pieceA k t n l1 c1 :: out, l', c', ?_, ⟨k, t, n, l1, c1, a, b, rfl, rfl⟩, k2⟩
    rw [lineOf, h1]
    show lexZ (t ++ lineOf s r) l1 c1 acc = _
    rw [hxy, lexZ_piece hp hx, ← hxy, k1]
    simp

/-- What is told of the line that a text's pieces make. -/
theorem lexR_line {s : List UInt8} (hs : sepOk s) {text : List UInt8} {l : List AV} (h : lexR text = .ok l) (hlen : (lineOf s (l.take (l.length - 1))).length ≤ 4096) :
    ∃ m, lexR (lineOf s (l.take (l.length - 1))) = .ok m ∧ Sim m l := by
  unfold lexR at h
  split at h
  · cases h
  · obtain ⟨init, rfl, hg⟩ := lexF_good 4097 [] text 1 1 [] l rfl (by intro x hx; cases hx) h
    rw [List.length_append, List.length_singleton, Nat.add_sub_cancel, List.take_append_of_le_length (Nat.le_refl _), List.take_length] at hlen ⊢
    obtain ⟨out, l', c', k1, k2⟩ := relex hs init 1 1 [] (fun x hx => by
      obtain ⟨k, t, n, a, b, j, rfl, hp, _⟩ := hg x hx
      exact ⟨k, t, n, a, b, rfl, hp⟩)
    refine ⟨out ++ [pieceA 0 [] 0 l' c'], ?_, ?_⟩
    · unfold lexR
      rw [if_neg (by omega), ← List.nil_append out, ← k1]
      exact lexF_fuel _ _ _ _ _ _ (by omega) (by omega)
    · clear k1 hlen hg h
      induction out generalizing init with
      | nil =>
        cases init with
        | nil => exact ⟨⟨0, [], 0, l', c', _, _, rfl, rfl⟩, trivial⟩
        | cons _ _ => exact k2.elim
      | cons x out ih =>
        cases init with
        | nil => exact k2.elim
        | cons y init => exact ⟨k2.1, ih init k2.2⟩
end Go.Pm
end

section
set_option linter.unusedSimpArgs false
set_option linter.unusedVariables false
set_option linter.unusedSectionVars false
/- LexBack: does a piece stand at its place? -/
set_option maxRecDepth 100000
set_option linter.unusedSimpArgs false
set_option linter.unusedVariables false
namespace Go.Pm
section
variable {call : CallA} {G : Globals} {fuel : Nat}

theorem stands_on {draw : DrawA} (s : List UInt8) (k : Int) (t : List UInt8) (n line col li ci : Int) (i : Nat) (σ : Store) (hs : s.length ≤ 1500) (hi : i < s.length) (hne : (li, ci) ≠ (line, col)) (h1 : 0 ≤ li) (h2 : li ≤ 5000) (h3 : 0 ≤ ci) (h4 : ci ≤ 5000) :
    evalCode call draw G fuel i28_L0 none [(0, .str s), (3, .ip 5 [pieceA k t n line col] 0 0), (5, .int .i64 li), (6, .int .i64 ci), (7, .int .i64 i)] σ =
      some (.normal, [(0, .str s), (3, .ip 5 [pieceA k t n line col] 0 0), (5, .int .i64 (placeF [s[i]] li ci).1), (6, .int .i64 (placeF [s[i]] li ci).2), (7, .int .i64 (i + 1 : Nat))], σ) := by
  have e1 : ((i : Int) ≤ (s.length : Int)) = True := by simp; omega
  have e2 : (0 ≤ (i : Int)) = True := by simp
  have e3 : s[i]? = some s[i] := List.getElem?_eq_getElem hi
  have e4 : IntKind.i64.wrap ((i : Int) + 1) = ((i + 1 : Nat) : Int) := by rw [wrap_i64] <;> omega
  have e5 : IntKind.i64.wrap (ci + 1) = ci + 1 := wrap_i64 (by omega) (by omega)
  have e6 : IntKind.i64.wrap (li + 1) = li + 1 := wrap_i64 (by omega) (by omega)
  have e7 : ((i : Int) == (s.length : Int)) = false := by rw [beq_eq_false_iff_ne]; omega
  have e10 := u8eq s[i] 10
  simp only [Int.cast_ofNat_Int] at e10
  cases hb : (s[i].toNat == 10) <;> by_cases hl : li = line
  · have e8 : (ci == col) = false := by rw [beq_eq_false_iff_ne]; intro h; exact hne (by rw [hl, h])
    subst hl
    simp only [evalFn, params, List.length_cons, List.length_nil, Nat.reduceAdd, evalCode, evalOps, guardOk, evalOp, AX.ev, look, putE, val, evs, optEv, binA, intBin, wrapI, unA, callM, keepE_cons, keepE_nil, callC, strips, stripWs, stripW, AV.flatv, flatvs, Nat.reduceEqDiff, if_true, if_false, reduceIte, Int.toNat_natCast, List.append_nil, List.nil_append, List.cons_append, decide_true, decide_false, bft, btf, btt, bff, Bool.false_eq_true, resultsA, oneOrTup, Option.map_some, Option.map_none, Bool.not_true, Bool.not_false, loadAt, storeAt, storeOf, partOf, List.getElem?_cons_zero, List.getElem?_cons_succ, List.set_cons_zero, List.set_cons_succ, AV.cells, AV.isCell, List.all_cons, List.all_nil, Bool.and_true, Bool.and_false, Bool.false_and, Bool.true_and, Bool.and_self, and_true, true_and, and_self, putAt, hasLabel, Bool.or_false, Bool.false_or, Bool.or_true, Bool.true_or, fillA, pickParts, pickSl, strBin, eqA, eqCell, ne_eq, not_true_eq_false, not_false_eq_true, Nat.reduceLeDiff, Nat.reduceLT, Nat.reduceMul, Nat.reduceSub, Nat.zero_add, Nat.add_zero, Option.bind_some, asNat, bounds2, reduceCtorEq, List.take_succ_cons, List.take_zero, List.drop_succ_cons, List.drop_zero, Nat.reduceBEq, List.take_nil, List.drop_nil, Int.reduceLE, Int.reduceLT, Int.reduceToNat, Int.toNat_zero, Int.reduceBEq, Int.le_refl, Nat.le_refl, AV.undef, beq_self_eq_true, bne_self_eq_false, Bool.not_not, Int.lt_irrefl, gt_iff_lt, ge_iff_le, i28_L0, pieceA, e1, e2, e3, e4, e5, e6, e7, e8, e10, hb, placeF]
  · have e8 : (li == line) = false := by rw [beq_eq_false_iff_ne]; exact hl
    simp only [evalFn, params, List.length_cons, List.length_nil, Nat.reduceAdd, evalCode, evalOps, guardOk, evalOp, AX.ev, look, putE, val, evs, optEv, binA, intBin, wrapI, unA, callM, keepE_cons, keepE_nil, callC, strips, stripWs, stripW, AV.flatv, flatvs, Nat.reduceEqDiff, if_true, if_false, reduceIte, Int.toNat_natCast, List.append_nil, List.nil_append, List.cons_append, decide_true, decide_false, bft, btf, btt, bff, Bool.false_eq_true, resultsA, oneOrTup, Option.map_some, Option.map_none, Bool.not_true, Bool.not_false, loadAt, storeAt, storeOf, partOf, List.getElem?_cons_zero, List.getElem?_cons_succ, List.set_cons_zero, List.set_cons_succ, AV.cells, AV.isCell, List.all_cons, List.all_nil, Bool.and_true, Bool.and_false, Bool.false_and, Bool.true_and, Bool.and_self, and_true, true_and, and_self, putAt, hasLabel, Bool.or_false, Bool.false_or, Bool.or_true, Bool.true_or, fillA, pickParts, pickSl, strBin, eqA, eqCell, ne_eq, not_true_eq_false, not_false_eq_true, Nat.reduceLeDiff, Nat.reduceLT, Nat.reduceMul, Nat.reduceSub, Nat.zero_add, Nat.add_zero, Option.bind_some, asNat, bounds2, reduceCtorEq, List.take_succ_cons, List.take_zero, List.drop_succ_cons, List.drop_zero, Nat.reduceBEq, List.take_nil, List.drop_nil, Int.reduceLE, Int.reduceLT, Int.reduceToNat, Int.toNat_zero, Int.reduceBEq, Int.le_refl, Nat.le_refl, AV.undef, beq_self_eq_true, bne_self_eq_false, Bool.not_not, Int.lt_irrefl, gt_iff_lt, ge_iff_le, i28_L0, pieceA, e1, e2, e3, e4, e5, e6, e7, e8, e10, hb, placeF]
  · have e8 : (ci == col) = false := by rw [beq_eq_false_iff_ne]; intro h; exact hne (by rw [hl, h])
    subst hl
    simp only [evalFn, params, List.length_cons, List.length_nil, Nat.reduceAdd, evalCode, evalOps, guardOk, evalOp, AX.ev, look, putE, val, evs, optEv, binA, intBin, wrapI, unA, callM, keepE_cons, keepE_nil, callC, strips, stripWs, stripW, AV.flatv, flatvs, Nat.reduceEqDiff, if_true, if_false, reduceIte, Int.toNat_natCast, List.append_nil, List.nil_append, List.cons_append, decide_true, decide_false, bft, btf, btt, bff, Bool.false_eq_true, resultsA, oneOrTup, Option.map_some, Option.map_none, Bool.not_true, Bool.not_false, loadAt, storeAt, storeOf, partOf, List.getElem?_cons_zero, List.getElem?_cons_succ, List.set_cons_zero, List.set_cons_succ, AV.cells, AV.isCell, List.all_cons, List.all_nil, Bool.and_true, Bool.and_false, Bool.false_and, Bool.true_and, Bool.and_self, and_true, true_and, and_self, putAt, hasLabel, Bool.or_false, Bool.false_or, Bool.or_true, Bool.true_or, fillA, pickParts, pickSl, strBin, eqA, eqCell, ne_eq, not_true_eq_false, not_false_eq_true, Nat.reduceLeDiff, Nat.reduceLT, Nat.reduceMul, Nat.reduceSub, Nat.zero_add, Nat.add_zero, Option.bind_some, asNat, bounds2, reduceCtorEq, List.take_succ_cons, List.take_zero, List.drop_succ_cons, List.drop_zero, Nat.reduceBEq, List.take_nil, List.drop_nil, Int.reduceLE, Int.reduceLT, Int.reduceToNat, Int.toNat_zero, Int.reduceBEq, Int.le_refl, Nat.le_refl, AV.undef, beq_self_eq_true, bne_self_eq_false, Bool.not_not, Int.lt_irrefl, gt_iff_lt, ge_iff_le, i28_L0, pieceA, e1, e2, e3, e4, e5, e6, e7, e8, e10, hb, placeF]
  · have e8 : (li == line) = false := by rw [beq_eq_false_iff_ne]; exact hl
    simp only [evalFn, params, List.length_cons, List.length_nil, Nat.reduceAdd, evalCode, evalOps, guardOk, evalOp, AX.ev, look, putE, val, evs, optEv, binA, intBin, wrapI, unA, callM, keepE_cons, keepE_nil, callC, strips, stripWs, stripW, AV.flatv, flatvs, Nat.reduceEqDiff, if_true, if_false, reduceIte, Int.toNat_natCast, List.append_nil, List.nil_append, List.cons_append, decide_true, decide_false, bft, btf, btt, bff, Bool.false_eq_true, resultsA, oneOrTup, Option.map_some, Option.map_none, Bool.not_true, Bool.not_false, loadAt, storeAt, storeOf, partOf, List.getElem?_cons_zero, List.getElem?_cons_succ, List.set_cons_zero, List.set_cons_succ, AV.cells, AV.isCell, List.all_cons, List.all_nil, Bool.and_true, Bool.and_false, Bool.false_and, Bool.true_and, Bool.and_self, and_true, true_and, and_self, putAt, hasLabel, Bool.or_false, Bool.false_or, Bool.or_true, Bool.true_or, fillA, pickParts, pickSl, strBin, eqA, eqCell, ne_eq, not_true_eq_false, not_false_eq_true, Nat.reduceLeDiff, Nat.reduceLT, Nat.reduceMul, Nat.reduceSub, Nat.zero_add, Nat.add_zero, Option.bind_some, asNat, bounds2, reduceCtorEq, List.take_succ_cons, List.take_zero, List.drop_succ_cons, List.drop_zero, Nat.reduceBEq, List.take_nil, List.drop_nil, Int.reduceLE, Int.reduceLT, Int.reduceToNat, Int.toNat_zero, Int.reduceBEq, Int.le_refl, Nat.le_refl, AV.undef, beq_self_eq_true, bne_self_eq_false, Bool.not_not, Int.lt_irrefl, gt_iff_lt, ge_iff_le, i28_L0, pieceA, e1, e2, e3, e4, e5, e6, e7, e8, e10, hb, placeF]

theorem stands_end {draw : DrawA} (s : List UInt8) (t : List UInt8) (n line col : Int) (σ : Store) :
    evalCode call draw G fuel i28_L0 none [(0, .str s), (3, .ip 5 [pieceA 0 t n line col] 0 0), (5, .int .i64 line), (6, .int .i64 col), (7, .int .i64 s.length)] σ = some (.ret, [(4, .bool true)], σ) := by
  have e1 : ((s.length : Int) ≤ (s.length : Int)) = True := by simp
  simp only [evalFn, params, List.length_cons, List.length_nil, Nat.reduceAdd, evalCode, evalOps, guardOk, evalOp, AX.ev, look, putE, val, evs, optEv, binA, intBin, wrapI, unA, callM, keepE_cons, keepE_nil, callC, strips, stripWs, stripW, AV.flatv, flatvs, Nat.reduceEqDiff, if_true, if_false, reduceIte, Int.toNat_natCast, List.append_nil, List.nil_append, List.cons_append, decide_true, decide_false, bft, btf, btt, bff, Bool.false_eq_true, resultsA, oneOrTup, Option.map_some, Option.map_none, Bool.not_true, Bool.not_false, loadAt, storeAt, storeOf, partOf, List.getElem?_cons_zero, List.getElem?_cons_succ, List.set_cons_zero, List.set_cons_succ, AV.cells, AV.isCell, List.all_cons, List.all_nil, Bool.and_true, Bool.and_false, Bool.false_and, Bool.true_and, Bool.and_self, and_true, true_and, and_self, putAt, hasLabel, Bool.or_false, Bool.false_or, Bool.or_true, Bool.true_or, fillA, pickParts, pickSl, strBin, eqA, eqCell, ne_eq, not_true_eq_false, not_false_eq_true, Nat.reduceLeDiff, Nat.reduceLT, Nat.reduceMul, Nat.reduceSub, Nat.zero_add, Nat.add_zero, Option.bind_some, asNat, bounds2, reduceCtorEq, List.take_succ_cons, List.take_zero, List.drop_succ_cons, List.drop_zero, Nat.reduceBEq, List.take_nil, List.drop_nil, Int.reduceLE, Int.reduceLT, Int.reduceToNat, Int.toNat_zero, Int.reduceBEq, Int.le_refl, Nat.le_refl, AV.undef, beq_self_eq_true, bne_self_eq_false, Bool.not_not, Int.lt_irrefl, gt_iff_lt, ge_iff_le, i28_L0, pieceA, e1]

theorem stands_hit (s : List UInt8) (k : Int) (t : List UInt8) (n line col : Int) (i : Nat) (σ : Store) (hs : s.length ≤ 1500) (hk : (k == 0) = false) (hi : i + t.length ≤ s.length) (ht : (s.drop i).take t.length = t) (h0 : t ≠ []) :
    evalCode call (drawA call G) G fuel i28_L0 none [(0, .str s), (3, .ip 5 [pieceA k t n line col] 0 0), (5, .int .i64 line), (6, .int .i64 col), (7, .int .i64 i)] σ = some (.ret, [(4, .bool true)], σ) := by
  have e1 : ((i : Int) ≤ (s.length : Int)) = True := by simp; omega
  have e2 : (0 ≤ (i : Int)) = True := by simp
  have e3 : IntKind.i64.wrap ((s.length : Int) - (i : Int)) = ((s.length - i : Nat) : Int) := by rw [wrap_i64] <;> omega
  have e4 : ((t.length : Int) ≤ ((s.length - i : Nat) : Int)) = True := by simp; omega
  have e5 : IntKind.i64.wrap ((i : Int) + (t.length : Int)) = ((i + t.length : Nat) : Int) := by rw [wrap_i64] <;> omega
  have e6 : (0 ≤ ((i + t.length : Nat) : Int)) = True := by simp; omega
  have e7 : (((i + t.length : Nat) : Int) ≤ (s.length : Int)) = True := by simp; omega
  have e8 : ((i : Int) ≤ ((i + t.length : Nat) : Int)) = True := by simp; omega
  have e9 : (s.take (i + t.length)).drop i = t := by rw [List.drop_take, Nat.add_sub_cancel_left]; exact ht
  have e10 : (t == ([] : List UInt8)) = false := beq_eq_false_iff_ne.2 h0
  simp only [evalFn, params, List.length_cons, List.length_nil, Nat.reduceAdd, evalCode, evalOps, guardOk, evalOp, AX.ev, look, putE, val, evs, optEv, binA, intBin, wrapI, unA, callM, keepE_cons, keepE_nil, Nat.reduceEqDiff, if_true, if_false, reduceIte, Int.toNat_natCast, List.append_nil, List.nil_append, List.cons_append, decide_true, decide_false, bft, btf, btt, bff, Bool.false_eq_true, resultsA, oneOrTup, Option.map_some, Option.map_none, Bool.not_true, Bool.not_false, loadAt, storeAt, storeOf, partOf, List.getElem?_cons_zero, List.getElem?_cons_succ, List.set_cons_zero, List.set_cons_succ, AV.cells, AV.isCell, List.all_cons, List.all_nil, Bool.and_true, Bool.and_false, Bool.false_and, Bool.true_and, Bool.and_self, and_true, true_and, and_self, putAt, hasLabel, Bool.or_false, Bool.false_or, Bool.or_true, Bool.true_or, fillA, pickParts, pickSl, strBin, eqA, eqCell, ne_eq, not_true_eq_false, not_false_eq_true, Nat.reduceLeDiff, Nat.reduceLT, Nat.reduceMul, Nat.reduceSub, Nat.zero_add, Nat.add_zero, Option.bind_some, asNat, bounds2, reduceCtorEq, List.take_succ_cons, List.take_zero, List.drop_succ_cons, List.drop_zero, Nat.reduceBEq, List.take_nil, List.drop_nil, Int.reduceLE, Int.reduceLT, Int.reduceToNat, Int.toNat_zero, Int.reduceBEq, Int.le_refl, Nat.le_refl, b2s, srcRow, binA, beq_self_eq_true, bne_self_eq_false, minI, maxI, foldI, Bool.not_not, Int.lt_irrefl, gt_iff_lt, ge_iff_le, List.length_map, AV.undef, puress, AV.pure, strip, drawA, goD, stepG, stepD, bornD, readsD, births, AOp.births, Eff.app, pairsD, loudsD, loudD, conflict, apart, AOp.shares, List.getD_cons_succ, List.getD_cons_zero, List.contains_cons, List.contains_nil, Bool.not_or, Option.getD_some, Option.getD_none, Nat.reduceBNe, List.replicate_zero, List.append_nil, i28_L0, pieceA, hk, e1, e2, e3, e4, e5, e6, e7, e8, e9, e10]

theorem stands_loop (s : List UInt8) (k : Int) (t : List UInt8) (n line col : Int) (j : Nat) (σ : Store) (hs : s.length ≤ 1500) (hj : j ≤ s.length) (hp : placeF (s.take j) 1 1 = (line, col))
    (hit : evalCode call (drawA call G) G fuel i28_L0 none [(0, .str s), (3, .ip 5 [pieceA k t n line col] 0 0), (5, .int .i64 line), (6, .int .i64 col), (7, .int .i64 j)] σ = some (.ret, [(4, .bool true)], σ)) : ∀ (d i f : Nat), i + d = j → d < f →
    iterA (evalCode call (drawA call G) G fuel i28_L0 none) [0, 3, 5, 6, 7] f [(0, .str s), (3, .ip 5 [pieceA k t n line col] 0 0), (5, .int .i64 (placeF (s.take i) 1 1).1), (6, .int .i64 (placeF (s.take i) 1 1).2), (7, .int .i64 i)] σ = some (.ret, [(4, .bool true)], σ) := by
  intro d
  induction d with
  | zero =>
    intro i f hi hf
    obtain ⟨f, rfl⟩ : ∃ f', f = f' + 1 := ⟨f - 1, by omega⟩
    obtain rfl : i = j := by omega
    rw [hp]
    exact iterA_out (by simpa only [keepE_cons, keepE_nil, look, Nat.reduceEqDiff, if_true, if_false, reduceIte] using hit) (by simp)
  | succ d ih =>
    intro i f hi hf
    obtain ⟨f, rfl⟩ : ∃ f', f = f' + 1 := ⟨f - 1, by omega⟩
    have hlt : i < s.length := by omega
    have hne := place_ne s i j (by omega) hj
    rw [hp] at hne
    have hb := placeF_start (s.take i)
    rw [List.length_take] at hb
    have h1 := stands_on (call := call) (draw := drawA call G) (G := G) (fuel := fuel) s k t n line col (placeF (s.take i) 1 1).1 (placeF (s.take i) 1 1).2 i σ hs hlt hne (by omega) (by omega) (by omega) (by omega)
    have e : placeF (s.take (i + 1)) 1 1 = placeF [s[i]] (placeF (s.take i) 1 1).1 (placeF (s.take i) 1 1).2 := by
      rw [List.take_succ_eq_append_getElem hlt, placeF_append]
    rw [iterA_normal (by simpa only [keepE_cons, keepE_nil, look, Nat.reduceEqDiff, if_true, if_false, reduceIte] using h1), ← e]
    exact ih (i + 1) f (by omega) (by omega)

/-- A piece that stands. -/
def Stands (s : List UInt8) (x : AV) : Prop := ∃ k t n line col j, x = pieceA k t n line col ∧ j ≤ s.length ∧ placeF (s.take j) 1 1 = (line, col) ∧
  ((k = 0 ∧ j = s.length) ∨ ((k == 0) = false ∧ j + t.length ≤ s.length ∧ (s.drop j).take t.length = t ∧ t ≠ []))

theorem stands_spec (s : List UInt8) (x : AV) (hs : s.length ≤ 1500) (h : Stands s x) (hf : 2000 < fuel) : evalFn call (drawA call G) G fuel i28 [.str s, x] [] = some (.ret (.bool true), []) := by
  obtain ⟨k, t, n, line, col, j, rfl, hj, hp, hk⟩ := h
  have hit : evalCode call (drawA call G) G fuel i28_L0 none [(0, .str s), (3, .ip 5 [pieceA k t n line col] 0 0), (5, .int .i64 line), (6, .int .i64 col), (7, .int .i64 j)] [] = some (.ret, [(4, .bool true)], []) := by
    rcases hk with ⟨rfl, rfl⟩ | ⟨h1, h2, h3, h4⟩
    · exact stands_end s t n line col []
    · exact stands_hit s k t n line col j [] hs h1 h2 h3 h4
  have hl := stands_loop s k t n line col j [] hs hj hp hit j 0 fuel (by omega) (by omega)
  simp only [List.take_zero, placeF, Int.natCast_zero, pieceA] at hl
  simp only [evalFn, params, List.length_cons, List.length_nil, Nat.reduceAdd, evalCode, evalOps, guardOk, evalOp, AX.ev, look, putE, val, evs, optEv, binA, intBin, wrapI, unA, callM, keepE_cons, keepE_nil, callC, strips, stripWs, stripW, AV.flatv, flatvs, Nat.reduceEqDiff, if_true, if_false, reduceIte, Int.toNat_natCast, List.append_nil, List.nil_append, List.cons_append, decide_true, decide_false, bft, btf, btt, bff, Bool.false_eq_true, resultsA, oneOrTup, Option.map_some, Option.map_none, Bool.not_true, Bool.not_false, loadAt, storeAt, storeOf, partOf, List.getElem?_cons_zero, List.getElem?_cons_succ, List.set_cons_zero, List.set_cons_succ, AV.cells, AV.isCell, List.all_cons, List.all_nil, Bool.and_true, Bool.and_false, Bool.false_and, Bool.true_and, Bool.and_self, and_true, true_and, and_self, putAt, hasLabel, Bool.or_false, Bool.false_or, Bool.or_true, Bool.true_or, fillA, pickParts, pickSl, strBin, eqA, eqCell, ne_eq, not_true_eq_false, not_false_eq_true, Nat.reduceLeDiff, Nat.reduceLT, Nat.reduceMul, Nat.reduceSub, Nat.zero_add, Nat.add_zero, Option.bind_some, asNat, bounds2, reduceCtorEq, List.take_succ_cons, List.take_zero, List.drop_succ_cons, List.drop_zero, Nat.reduceBEq, List.take_nil, List.drop_nil, Int.reduceLE, Int.reduceLT, Int.reduceToNat, Int.toNat_zero, Int.reduceBEq, Int.le_refl, Nat.le_refl, AV.undef, beq_self_eq_true, bne_self_eq_false, Bool.not_not, Int.lt_irrefl, gt_iff_lt, ge_iff_le, i28, pieceA, hl]
end
end Go.Pm
end

section
set_option linter.unusedSimpArgs false
set_option linter.unusedVariables false
set_option linter.unusedSectionVars false
/- LexBack comes to true. -/
set_option maxRecDepth 100000
set_option linter.unusedSimpArgs false
set_option linter.unusedVariables false
namespace Go.Pm
open Go.Proofs

open Classical in
noncomputable def standsV : List AV → Option AV
  | [.str s, x] => if s.length ≤ 1500 ∧ Stands s x then some (.bool true) else none
  | _ => none

/-- The lexer, 'stands', and what wakes them. -/
noncomputable def lexY : CallA := orC (atF 28 (pureS standsV)) lexW

theorem stands_bare {s : List UInt8} {x : AV} (h : Stands s x) : Bare [.str s, x] := by
  obtain ⟨k, t, n, line, col, j, rfl, _⟩ := h
  rfl

theorem lexY_sound {G : Globals} (m : Int) (hG5 : G 5 = some [.int .i64 m]) (T : TypeId) (x : AV) (hG3 : G 3 = some [.iface T x]) (hG : GPure G) : CallS Tryd.prog G lexY := by
  have hm : Tryd.prog.follows .mixedOrders = true := by kernel_rfl
  refine (CallS.pure CallS.none hm hG ok28 fun args v h => ?_).or (lexW_sound m hG5 T x hG3 hG)
  unfold standsV at h
  split at h
  · rename_i s y
    split at h
    · rename_i hc
      cases h
      exact ⟨stands_bare hc.2, 3000, _, [], stands_spec (G := G) s y hc.1 hc.2 (by omega), .inl ⟨rfl, rfl⟩⟩
    · cases h
  · cases h

theorem lexY_28 {s : List UInt8} {x : AV} (hs : s.length ≤ 1500) (h : Stands s x) (σ : Store) : callC lexY 28 [.str s, x] σ = some (.ret (.bool true), σ) :=
  callC_eq (r := .bool true) (σ' := []) (stands_bare h) (by simp only [lexY, orC, atF, if_true, pureS, standsV]; rw [if_pos ⟨hs, h⟩]) (.inl ⟨rfl, rfl⟩)
theorem lexY_26 (text : List UInt8) (σ : Store) : callC lexY 26 [.str text] σ = some (.ret (lexR text).av, σ) :=
  callC_eq (r := (lexR text).av) (σ' := []) rfl (by simp only [lexY, lexW, lexP, orC, atF, if_true, if_false, show ¬ (26 = 28) by decide, show ¬ (26 = 25) by decide, pureS, lexV]) (lexR_av_seen _ [] rfl text)
theorem lexY_25 (σ : Store) : callC lexY 25 [] σ = some (.ret (.bool true), σ) :=
  callC_eq (r := .bool true) (σ' := []) rfl (by simp only [lexY, lexW, orC, atF, if_true, if_false, show ¬ (25 = 28) by decide, pureS]) (.inl ⟨rfl, rfl⟩)

/-- Every piece of a text stands. -/
theorem lexR_stands {text : List UInt8} {l : List AV} (h : lexR text = .ok l) : ∀ x ∈ l, Stands text x := by
  unfold lexR at h
  split at h
  · cases h
  · obtain ⟨init, rfl, hg⟩ := lexF_good 4097 [] text 1 1 [] l rfl (by intro x hx; cases hx) h
    intro x hx
    rcases List.mem_append.1 hx with hx | hx
    · obtain ⟨k, t, n, line, col, j, rfl, hp, h1, h2, h3, h4⟩ := hg x hx
      refine ⟨k, t, n, line, col, j, rfl, by simp only [List.nil_append] at h2; omega, by simpa using h4, .inr ⟨?_, by simpa using h2, by simpa using h3, h1⟩⟩
      rcases hp with ⟨rfl, _⟩ | ⟨rfl, _⟩ | ⟨rfl, _⟩ <;> rfl
    · simp at hx
      exact ⟨0, [], 0, _, _, text.length, hx, Nat.le_refl _, by rw [List.take_length], .inl ⟨rfl, rfl⟩⟩

theorem stands_len {s : List UInt8} {x : AV} (h : Stands s x) (hk : ∀ k t n a b, x = pieceA k t n a b → (k == 0) = true → t = []) : (pieceT x).length ≤ s.length := by
  obtain ⟨k, t, n, line, col, j, rfl, _, _, h⟩ := h
  rcases h with ⟨rfl, _⟩ | ⟨_, h, _⟩
  · rw [show pieceT (pieceA 0 t n line col) = t from rfl, hk _ _ _ _ _ rfl rfl]; simp
  · show t.length ≤ _; omega

section
variable {call : CallA} {G : Globals} {fuel : Nat}

def upTo (s : List UInt8) (l : List AV) : List UInt8 := l.flatMap fun p => s ++ pieceT p
theorem lineOf_eq (s : List UInt8) : ∀ l, lineOf s l = upTo s l ++ s
  | [] => rfl
  | p :: r => by
    have e : upTo s (p :: r) = s ++ pieceT p ++ upTo s r := by unfold upTo; rw [List.flatMap_cons]
    rw [lineOf, lineOf_eq s r, e]; simp
theorem upTo_len (s : List UInt8) (M : Nat) (hs : s.length ≤ 4) : ∀ l : List AV, (∀ x ∈ l, (pieceT x).length ≤ M) → (upTo s l).length ≤ l.length * (4 + M)
  | [], _ => by simp [upTo]
  | p :: r, h => by
    have := upTo_len s M hs r (fun x hx => h x (by simp [hx]))
    have h1 := h p (by simp)
    rw [upTo, List.flatMap_cons, ← upTo, List.length_append, List.length_append, List.length_cons, Nat.add_mul]
    omega

theorem back_on {draw : DrawA} (text : List UInt8) (l : List AV) (s line : List UInt8) (i : Nat) (σ : Store) (hl : l.length ≤ 1501) (hi : i + 1 < l.length) (k : Int) (t : List UInt8) (n a b : Int) (hp : l[i]? = some (pieceA k t n a b)) (h1 : line.length ≤ 100000000) (h2 : s.length ≤ 4) (h3 : t.length ≤ 1500) :
    evalCode call draw G fuel i6_L0 none [(0, .str text), (5, .sl 5 l .no), (9, .str s), (10, .str line), (11, .int .i64 i)] σ = some (.normal, [(0, .str text), (5, .sl 5 l .no), (9, .str s), (10, .str (line ++ s ++ t)), (11, .int .i64 (i + 1 : Nat))], σ) := by
  have e1 : (((i + 1 : Nat) : Int) < (l.length : Int)) = True := by simp; omega
  have e2 : (0 ≤ (i : Int)) = True := by simp
  have e3 : ((i : Int) < (l.length : Int)) = True := by simp; omega
  have e4 : IntKind.i64.wrap ((i : Int) + 1) = ((i + 1 : Nat) : Int) := by rw [wrap_i64] <;> omega
  have e5 : (line.length + s.length ≤ 9223372036854775807) = True := by simp; omega
  have e6 : ((line ++ s).length + t.length ≤ 9223372036854775807) = True := by rw [List.length_append]; simp; omega
  simp only [pieceA] at hp
  simp only [evalFn, params, List.length_cons, List.length_nil, Nat.reduceAdd, evalCode, evalOps, guardOk, evalOp, AX.ev, look, putE, val, evs, optEv, binA, intBin, wrapI, unA, callM, keepE_cons, keepE_nil, callC, strips, stripWs, stripW, AV.flatv, flatvs, Nat.reduceEqDiff, if_true, if_false, reduceIte, Int.toNat_natCast, List.append_nil, List.nil_append, List.cons_append, decide_true, decide_false, bft, btf, btt, bff, Bool.false_eq_true, resultsA, oneOrTup, Option.map_some, Option.map_none, Bool.not_true, Bool.not_false, loadAt, storeAt, storeOf, partOf, List.getElem?_cons_zero, List.getElem?_cons_succ, List.set_cons_zero, List.set_cons_succ, AV.cells, AV.isCell, List.all_cons, List.all_nil, Bool.and_true, Bool.and_false, Bool.false_and, Bool.true_and, Bool.and_self, and_true, true_and, and_self, putAt, hasLabel, Bool.or_false, Bool.false_or, Bool.or_true, Bool.true_or, fillA, pickParts, pickSl, strBin, eqA, eqCell, ne_eq, not_true_eq_false, not_false_eq_true, Nat.reduceLeDiff, Nat.reduceLT, Nat.reduceMul, Nat.reduceSub, Nat.zero_add, Nat.add_zero, Option.bind_some, asNat, bounds2, reduceCtorEq, List.take_succ_cons, List.take_zero, List.drop_succ_cons, List.drop_zero, Nat.reduceBEq, List.take_nil, List.drop_nil, Int.reduceLE, Int.reduceLT, Int.reduceToNat, Int.toNat_zero, Int.reduceBEq, Int.le_refl, Nat.le_refl, AV.undef, beq_self_eq_true, bne_self_eq_false, Bool.not_not, Int.lt_irrefl, gt_iff_lt, ge_iff_le, i6_L0, e1, e2, e3, e4, e5, e6, hp]

theorem back_off {draw : DrawA} (text : List UInt8) (l : List AV) (x9 x10 : AV) (i : Nat) (σ : Store) (hl : l.length ≤ 1501) (hi : i + 1 = l.length) :
    evalCode call draw G fuel i6_L0 none [(0, .str text), (5, .sl 5 l .no), (9, x9), (10, x10), (11, .int .i64 i)] σ = some (.exit 0, [(0, .str text), (5, .sl 5 l .no), (9, x9), (10, x10), (11, .int .i64 i), (65, .bool false)], σ) := by
  have e1 : (((i + 1 : Nat) : Int) < (l.length : Int)) = False := by simp; omega
  have e4 : IntKind.i64.wrap ((i : Int) + 1) = ((i + 1 : Nat) : Int) := by rw [wrap_i64] <;> omega
  simp only [evalFn, params, List.length_cons, List.length_nil, Nat.reduceAdd, evalCode, evalOps, guardOk, evalOp, AX.ev, look, putE, val, evs, optEv, binA, intBin, wrapI, unA, callM, keepE_cons, keepE_nil, callC, strips, stripWs, stripW, AV.flatv, flatvs, Nat.reduceEqDiff, if_true, if_false, reduceIte, Int.toNat_natCast, List.append_nil, List.nil_append, List.cons_append, decide_true, decide_false, bft, btf, btt, bff, Bool.false_eq_true, resultsA, oneOrTup, Option.map_some, Option.map_none, Bool.not_true, Bool.not_false, loadAt, storeAt, storeOf, partOf, List.getElem?_cons_zero, List.getElem?_cons_succ, List.set_cons_zero, List.set_cons_succ, AV.cells, AV.isCell, List.all_cons, List.all_nil, Bool.and_true, Bool.and_false, Bool.false_and, Bool.true_and, Bool.and_self, and_true, true_and, and_self, putAt, hasLabel, Bool.or_false, Bool.false_or, Bool.or_true, Bool.true_or, fillA, pickParts, pickSl, strBin, eqA, eqCell, ne_eq, not_true_eq_false, not_false_eq_true, Nat.reduceLeDiff, Nat.reduceLT, Nat.reduceMul, Nat.reduceSub, Nat.zero_add, Nat.add_zero, Option.bind_some, asNat, bounds2, reduceCtorEq, List.take_succ_cons, List.take_zero, List.drop_succ_cons, List.drop_zero, Nat.reduceBEq, List.take_nil, List.drop_nil, Int.reduceLE, Int.reduceLT, Int.reduceToNat, Int.toNat_zero, Int.reduceBEq, Int.le_refl, Nat.le_refl, AV.undef, beq_self_eq_true, bne_self_eq_false, Bool.not_not, Int.lt_irrefl, gt_iff_lt, ge_iff_le, i6_L0, e1, e4]

theorem back_loop {draw : DrawA} (text : List UInt8) (l : List AV) (s : List UInt8) (σ : Store) (hl : l.length ≤ 1501) (hs : s.length ≤ 4) (hp : Pieces l) (hM : ∀ x ∈ l, (pieceT x).length ≤ 1500) : ∀ (k i f : Nat), i + 1 + k = l.length → k < f →
    iterA (evalCode call draw G fuel i6_L0 none) [0, 5, 9, 10, 11] f [(0, .str text), (5, .sl 5 l .no), (9, .str s), (10, .str (upTo s (l.take i))), (11, .int .i64 i)] σ =
      some (.exit 0, [(0, .str text), (5, .sl 5 l .no), (9, .str s), (10, .str (upTo s (l.take (l.length - 1)))), (11, .int .i64 (l.length - 1 : Nat)), (65, .bool false)], σ) := by
  intro k
  induction k with
  | zero =>
    intro i f hi hf
    obtain ⟨f, rfl⟩ : ∃ f', f = f' + 1 := ⟨f - 1, by omega⟩
    have h1 := back_off (call := call) (draw := draw) (G := G) (fuel := fuel) text l (.str s) (.str (upTo s (l.take i))) i σ hl (by omega)
    obtain rfl : i = l.length - 1 := by omega
    exact iterA_out (by simpa only [keepE_cons, keepE_nil, look, Nat.reduceEqDiff, if_true, if_false, reduceIte] using h1) (by simp)
  | succ k ih =>
    intro i f hi hf
    obtain ⟨f, rfl⟩ : ∃ f', f = f' + 1 := ⟨f - 1, by omega⟩
    have hlt : i < l.length := by omega
    obtain ⟨kk, t, n, a, b, hx⟩ := hp l[i] (List.getElem_mem hlt)
    have hb := upTo_len s 1500 hs (l.take i) (fun x hx => hM x (List.mem_of_mem_take hx))
    have ht : t.length ≤ 1500 := by
      have := hM l[i] (List.getElem_mem hlt)
      rw [hx] at this; exact this
    have hle : (upTo s (l.take i)).length ≤ 100000000 := by
      have : (l.take i).length * (4 + 1500) ≤ 1501 * 1504 := Nat.mul_le_mul (by rw [List.length_take]; omega) (Nat.le_refl _)
      omega
    have h1 := back_on (call := call) (draw := draw) (G := G) (fuel := fuel) text l s (upTo s (l.take i)) i σ hl (by omega) kk t n a b (by rw [List.getElem?_eq_getElem hlt, hx]) hle hs ht
    have e : upTo s (l.take (i + 1)) = upTo s (l.take i) ++ s ++ t := by
      rw [List.take_succ_eq_append_getElem hlt, upTo, List.flatMap_append, ← upTo, hx]
      simp [pieceT, pieceA]
    rw [iterA_normal (by simpa only [keepE_cons, keepE_nil, look, Nat.reduceEqDiff, if_true, if_false, reduceIte] using h1), ← e]
    exact ih (i + 1) f (by omega) (by omega)

theorem same_on (text : List UInt8) (l m : List AV) (i : Nat) (σ : Store) (hl : l.length ≤ 1501) (hml : m.length = l.length) (hi : i < l.length) (k : Int) (t : List UInt8) (n a b a' b' : Int) (hp : l[i]? = some (pieceA k t n a b)) (hq : m[i]? = some (pieceA k t n a' b'))
    (h28 : ∀ σ, callC call 28 [.str text, pieceA k t n a b] σ = some (.ret (.bool true), σ)) :
    evalCode call (drawA call G) G fuel i6_L1 none [(0, .str text), (5, .sl 5 l .no), (12, .sl 5 m .no), (15, .int .i64 i)] σ = some (.normal, [(0, .str text), (5, .sl 5 l .no), (12, .sl 5 m .no), (15, .int .i64 (i + 1 : Nat))], σ) := by
  have e1 : ((i : Int) < (l.length : Int)) = True := by simp; omega
  have e2 : (0 ≤ (i : Int)) = True := by simp
  have e3 : ((i : Int) < (m.length : Int)) = True := by simp; omega
  have e4 : IntKind.i64.wrap ((i : Int) + 1) = ((i + 1 : Nat) : Int) := by rw [wrap_i64] <;> omega
  simp only [pieceA] at hp hq h28
  simp only [evalFn, params, List.length_cons, List.length_nil, Nat.reduceAdd, evalCode, evalOps, guardOk, evalOp, AX.ev, look, putE, val, evs, optEv, binA, intBin, wrapI, unA, callM, keepE_cons, keepE_nil, Nat.reduceEqDiff, if_true, if_false, reduceIte, Int.toNat_natCast, List.append_nil, List.nil_append, List.cons_append, decide_true, decide_false, bft, btf, btt, bff, Bool.false_eq_true, resultsA, oneOrTup, Option.map_some, Option.map_none, Bool.not_true, Bool.not_false, loadAt, storeAt, storeOf, partOf, List.getElem?_cons_zero, List.getElem?_cons_succ, List.set_cons_zero, List.set_cons_succ, AV.cells, AV.isCell, List.all_cons, List.all_nil, Bool.and_true, Bool.and_false, Bool.false_and, Bool.true_and, Bool.and_self, and_true, true_and, and_self, putAt, hasLabel, Bool.or_false, Bool.false_or, Bool.or_true, Bool.true_or, fillA, pickParts, pickSl, strBin, eqA, eqCell, ne_eq, not_true_eq_false, not_false_eq_true, Nat.reduceLeDiff, Nat.reduceLT, Nat.reduceMul, Nat.reduceSub, Nat.zero_add, Nat.add_zero, Option.bind_some, asNat, bounds2, reduceCtorEq, List.take_succ_cons, List.take_zero, List.drop_succ_cons, List.drop_zero, Nat.reduceBEq, List.take_nil, List.drop_nil, Int.reduceLE, Int.reduceLT, Int.reduceToNat, Int.toNat_zero, Int.reduceBEq, Int.le_refl, Nat.le_refl, b2s, srcRow, binA, beq_self_eq_true, bne_self_eq_false, minI, maxI, foldI, Bool.not_not, Int.lt_irrefl, gt_iff_lt, ge_iff_le, List.length_map, AV.undef, puress, AV.pure, strip, drawA, goD, stepG, stepD, bornD, readsD, births, AOp.births, Eff.app, pairsD, loudsD, loudD, conflict, apart, AOp.shares, List.getD_cons_succ, List.getD_cons_zero, List.contains_cons, List.contains_nil, Bool.not_or, Option.getD_some, Option.getD_none, Nat.reduceBNe, List.replicate_zero, List.append_nil, i6_L1, e1, e2, e3, e4, hp, hq, h28]

theorem same_off {draw : DrawA} (text : List UInt8) (l : List AV) (x12 : AV) (σ : Store) :
    evalCode call draw G fuel i6_L1 none [(0, .str text), (5, .sl 5 l .no), (12, x12), (15, .int .i64 l.length)] σ = some (.exit 2, [(0, .str text), (5, .sl 5 l .no), (12, x12), (15, .int .i64 l.length), (102, .bool false)], σ) := by
  have e1 : ((l.length : Int) < (l.length : Int)) = False := by simp
  simp only [evalFn, params, List.length_cons, List.length_nil, Nat.reduceAdd, evalCode, evalOps, guardOk, evalOp, AX.ev, look, putE, val, evs, optEv, binA, intBin, wrapI, unA, callM, keepE_cons, keepE_nil, callC, strips, stripWs, stripW, AV.flatv, flatvs, Nat.reduceEqDiff, if_true, if_false, reduceIte, Int.toNat_natCast, List.append_nil, List.nil_append, List.cons_append, decide_true, decide_false, bft, btf, btt, bff, Bool.false_eq_true, resultsA, oneOrTup, Option.map_some, Option.map_none, Bool.not_true, Bool.not_false, loadAt, storeAt, storeOf, partOf, List.getElem?_cons_zero, List.getElem?_cons_succ, List.set_cons_zero, List.set_cons_succ, AV.cells, AV.isCell, List.all_cons, List.all_nil, Bool.and_true, Bool.and_false, Bool.false_and, Bool.true_and, Bool.and_self, and_true, true_and, and_self, putAt, hasLabel, Bool.or_false, Bool.false_or, Bool.or_true, Bool.true_or, fillA, pickParts, pickSl, strBin, eqA, eqCell, ne_eq, not_true_eq_false, not_false_eq_true, Nat.reduceLeDiff, Nat.reduceLT, Nat.reduceMul, Nat.reduceSub, Nat.zero_add, Nat.add_zero, Option.bind_some, asNat, bounds2, reduceCtorEq, List.take_succ_cons, List.take_zero, List.drop_succ_cons, List.drop_zero, Nat.reduceBEq, List.take_nil, List.drop_nil, Int.reduceLE, Int.reduceLT, Int.reduceToNat, Int.toNat_zero, Int.reduceBEq, Int.le_refl, Nat.le_refl, AV.undef, beq_self_eq_true, bne_self_eq_false, Bool.not_not, Int.lt_irrefl, gt_iff_lt, ge_iff_le, i6_L1, e1]

theorem same_loop (text : List UInt8) (l m : List AV) (σ : Store) (hl : l.length ≤ 1501) (hs : Sim m l) (h28 : ∀ x ∈ l, ∀ σ, callC call 28 [.str text, x] σ = some (.ret (.bool true), σ)) : ∀ (k i f : Nat), i + k = l.length → k < f →
    iterA (evalCode call (drawA call G) G fuel i6_L1 none) [0, 5, 12, 15] f [(0, .str text), (5, .sl 5 l .no), (12, .sl 5 m .no), (15, .int .i64 i)] σ = some (.exit 2, [(0, .str text), (5, .sl 5 l .no), (12, .sl 5 m .no), (15, .int .i64 l.length), (102, .bool false)], σ) := by
  obtain ⟨s1, s2⟩ := hs.get
  intro k
  induction k with
  | zero =>
    intro i f hi hf
    obtain ⟨f, rfl⟩ : ∃ f', f = f' + 1 := ⟨f - 1, by omega⟩
    obtain rfl : i = l.length := by omega
    exact iterA_out (by simpa only [keepE_cons, keepE_nil, look, Nat.reduceEqDiff, if_true, if_false, reduceIte] using same_off text l (.sl 5 m .no) σ) (by simp)
  | succ k ih =>
    intro i f hi hf
    obtain ⟨f, rfl⟩ : ∃ f', f = f' + 1 := ⟨f - 1, by omega⟩
    have hlt : i < l.length := by omega
    obtain ⟨x, hx⟩ : ∃ x, m[i]? = some x := ⟨_, List.getElem?_eq_getElem (by omega)⟩
    obtain ⟨y, hy, kk, t, n, a, b, a', b', rfl, rfl⟩ := s2 i x hx
    have h1 := same_on (call := call) (G := G) (fuel := fuel) text l m i σ hl s1 hlt kk t n a' b' a b hy hx (h28 _ (List.mem_of_getElem? hy))
    rw [iterA_normal (by simpa only [keepE_cons, keepE_nil, look, Nat.reduceEqDiff, if_true, if_false, reduceIte] using h1)]
    exact ih (i + 1) f (by omega) (by omega)

/-- What is written between. -/
def sepOf (b : Nat) : List UInt8 := if b % 4 = 0 then [32] else if b % 4 = 1 then [10] else if b % 4 = 2 then [9, 32] else [32, 35, 59, 10]
theorem sepOf_ok (b : Nat) : sepOk (sepOf b) := by
  unfold sepOf
  split
  · exact .inl rfl
  · split
    · exact .inr (.inl rfl)
    · split
      · exact .inr (.inr (.inl rfl))
      · exact .inr (.inr (.inr rfl))
theorem sepOk.len {s : List UInt8} (h : sepOk s) : s.length ≤ 4 := by
  rcases h with rfl | rfl | rfl | rfl <;> decide
theorem sepOf_get (b : Nat) : [AV.str [32], .str [10], .str [9, 32], .str [32, 35, 59, 10]][b % 4]? = some (.str (sepOf b)) := by
  have : b % 4 < 4 := Nat.mod_lt _ (by decide)
  unfold sepOf
  generalize b % 4 = k at *
  match k, this with
  | 0, _ => rfl
  | 1, _ => rfl
  | 2, _ => rfl
  | 3, _ => rfl

theorem back_ends (text : List UInt8) (b : Nat) (hb : b < 256) : Ends lexY (drawA lexY G) G 6000 i6.body [(0, .str text), (1, .int .u8 b)] [] fun e env _ => e = .ret ∧ look env 4 = some (.bool true) := by
  unfold i6
  refine Ends.seq (by simp only [evalFn, params, List.length_cons, List.length_nil, Nat.reduceAdd, evalCode, evalOps, guardOk, evalOp, AX.ev, look, putE, val, evs, optEv, binA, intBin, wrapI, unA, callM, keepE_cons, keepE_nil, Nat.reduceEqDiff, if_true, if_false, reduceIte, Int.toNat_natCast, List.append_nil, List.nil_append, List.cons_append, decide_true, decide_false, bft, btf, btt, bff, Bool.false_eq_true, resultsA, oneOrTup, Option.map_some, Option.map_none, Bool.not_true, Bool.not_false, loadAt, storeAt, storeOf, partOf, List.getElem?_cons_zero, List.getElem?_cons_succ, List.set_cons_zero, List.set_cons_succ, AV.cells, AV.isCell, List.all_cons, List.all_nil, Bool.and_true, Bool.and_false, Bool.false_and, Bool.true_and, Bool.and_self, and_true, true_and, and_self, putAt, hasLabel, Bool.or_false, Bool.false_or, Bool.or_true, Bool.true_or, fillA, pickParts, pickSl, strBin, eqA, eqCell, ne_eq, not_true_eq_false, not_false_eq_true, Nat.reduceLeDiff, Nat.reduceLT, Nat.reduceMul, Nat.reduceSub, Nat.zero_add, Nat.add_zero, Option.bind_some, asNat, bounds2, reduceCtorEq, List.take_succ_cons, List.take_zero, List.drop_succ_cons, List.drop_zero, Nat.reduceBEq, List.take_nil, List.drop_nil, Int.reduceLE, Int.reduceLT, Int.reduceToNat, Int.toNat_zero, Int.reduceBEq, Int.le_refl, Nat.le_refl, b2s, srcRow, binA, beq_self_eq_true, bne_self_eq_false, minI, maxI, foldI, Bool.not_not, Int.lt_irrefl, gt_iff_lt, ge_iff_le, List.length_map, AV.undef]; rfl) ?_
  by_cases ht : 1500 < text.length
  · have e1 : ((1500 : Int) < (text.length : Int)) = True := by simp; omega
    exact Ends.done (by simp only [evalFn, params, List.length_cons, List.length_nil, Nat.reduceAdd, evalCode, evalOps, guardOk, evalOp, AX.ev, look, putE, val, evs, optEv, binA, intBin, wrapI, unA, callM, keepE_cons, keepE_nil, Nat.reduceEqDiff, if_true, if_false, reduceIte, Int.toNat_natCast, List.append_nil, List.nil_append, List.cons_append, decide_true, decide_false, bft, btf, btt, bff, Bool.false_eq_true, resultsA, oneOrTup, Option.map_some, Option.map_none, Bool.not_true, Bool.not_false, loadAt, storeAt, storeOf, partOf, List.getElem?_cons_zero, List.getElem?_cons_succ, List.set_cons_zero, List.set_cons_succ, AV.cells, AV.isCell, List.all_cons, List.all_nil, Bool.and_true, Bool.and_false, Bool.false_and, Bool.true_and, Bool.and_self, and_true, true_and, and_self, putAt, hasLabel, Bool.or_false, Bool.false_or, Bool.or_true, Bool.true_or, fillA, pickParts, pickSl, strBin, eqA, eqCell, ne_eq, not_true_eq_false, not_false_eq_true, Nat.reduceLeDiff, Nat.reduceLT, Nat.reduceMul, Nat.reduceSub, Nat.zero_add, Nat.add_zero, Option.bind_some, asNat, bounds2, reduceCtorEq, List.take_succ_cons, List.take_zero, List.drop_succ_cons, List.drop_zero, Nat.reduceBEq, List.take_nil, List.drop_nil, Int.reduceLE, Int.reduceLT, Int.reduceToNat, Int.toNat_zero, Int.reduceBEq, Int.le_refl, Nat.le_refl, b2s, srcRow, binA, beq_self_eq_true, bne_self_eq_false, minI, maxI, foldI, Bool.not_not, Int.lt_irrefl, gt_iff_lt, ge_iff_le, List.length_map, AV.undef, e1, lexY_25]; rfl) ⟨rfl, rfl⟩
  have e1 : ((1500 : Int) < (text.length : Int)) = False := by simp; omega
  have h26 := lexY_26 text
  refine Ends.seq (by simp only [evalFn, params, List.length_cons, List.length_nil, Nat.reduceAdd, evalCode, evalOps, guardOk, evalOp, AX.ev, look, putE, val, evs, optEv, binA, intBin, wrapI, unA, callM, keepE_cons, keepE_nil, Nat.reduceEqDiff, if_true, if_false, reduceIte, Int.toNat_natCast, List.append_nil, List.nil_append, List.cons_append, decide_true, decide_false, bft, btf, btt, bff, Bool.false_eq_true, resultsA, oneOrTup, Option.map_some, Option.map_none, Bool.not_true, Bool.not_false, loadAt, storeAt, storeOf, partOf, List.getElem?_cons_zero, List.getElem?_cons_succ, List.set_cons_zero, List.set_cons_succ, AV.cells, AV.isCell, List.all_cons, List.all_nil, Bool.and_true, Bool.and_false, Bool.false_and, Bool.true_and, Bool.and_self, and_true, true_and, and_self, putAt, hasLabel, Bool.or_false, Bool.false_or, Bool.or_true, Bool.true_or, fillA, pickParts, pickSl, strBin, eqA, eqCell, ne_eq, not_true_eq_false, not_false_eq_true, Nat.reduceLeDiff, Nat.reduceLT, Nat.reduceMul, Nat.reduceSub, Nat.zero_add, Nat.add_zero, Option.bind_some, asNat, bounds2, reduceCtorEq, List.take_succ_cons, List.take_zero, List.drop_succ_cons, List.drop_zero, Nat.reduceBEq, List.take_nil, List.drop_nil, Int.reduceLE, Int.reduceLT, Int.reduceToNat, Int.toNat_zero, Int.reduceBEq, Int.le_refl, Nat.le_refl, b2s, srcRow, binA, beq_self_eq_true, bne_self_eq_false, minI, maxI, foldI, Bool.not_not, Int.lt_irrefl, gt_iff_lt, ge_iff_le, List.length_map, AV.undef, e1]; rfl) ?_
  cases hR : lexR text with
  | err line col code =>
    rw [hR] at h26
    simp only [LexR.av] at h26
    obtain ⟨p1, p2, p3⟩ := lexR_errpos hR
    have q1 : ((0 : Int) < line) = True := by simp; omega
    have q2 : ((0 : Int) < col) = True := by simp; omega
    have q3 : (code != 0) = true := by simp [p3]
    refine Ends.seq (by simp only [evalFn, params, List.length_cons, List.length_nil, Nat.reduceAdd, evalCode, evalOps, guardOk, evalOp, AX.ev, look, putE, val, evs, optEv, binA, intBin, wrapI, unA, callM, keepE_cons, keepE_nil, Nat.reduceEqDiff, if_true, if_false, reduceIte, Int.toNat_natCast, List.append_nil, List.nil_append, List.cons_append, decide_true, decide_false, bft, btf, btt, bff, Bool.false_eq_true, resultsA, oneOrTup, Option.map_some, Option.map_none, Bool.not_true, Bool.not_false, loadAt, storeAt, storeOf, partOf, List.getElem?_cons_zero, List.getElem?_cons_succ, List.set_cons_zero, List.set_cons_succ, AV.cells, AV.isCell, List.all_cons, List.all_nil, Bool.and_true, Bool.and_false, Bool.false_and, Bool.true_and, Bool.and_self, and_true, true_and, and_self, putAt, hasLabel, Bool.or_false, Bool.false_or, Bool.or_true, Bool.true_or, fillA, pickParts, pickSl, strBin, eqA, eqCell, ne_eq, not_true_eq_false, not_false_eq_true, Nat.reduceLeDiff, Nat.reduceLT, Nat.reduceMul, Nat.reduceSub, Nat.zero_add, Nat.add_zero, Option.bind_some, asNat, bounds2, reduceCtorEq, List.take_succ_cons, List.take_zero, List.drop_succ_cons, List.drop_zero, Nat.reduceBEq, List.take_nil, List.drop_nil, Int.reduceLE, Int.reduceLT, Int.reduceToNat, Int.toNat_zero, Int.reduceBEq, Int.le_refl, Nat.le_refl, b2s, srcRow, binA, beq_self_eq_true, bne_self_eq_false, minI, maxI, foldI, Bool.not_not, Int.lt_irrefl, gt_iff_lt, ge_iff_le, List.length_map, AV.undef, h26]; rfl) ?_
    exact Ends.done (by simp only [evalFn, params, List.length_cons, List.length_nil, Nat.reduceAdd, evalCode, evalOps, guardOk, evalOp, AX.ev, look, putE, val, evs, optEv, binA, intBin, wrapI, unA, callM, keepE_cons, keepE_nil, Nat.reduceEqDiff, if_true, if_false, reduceIte, Int.toNat_natCast, List.append_nil, List.nil_append, List.cons_append, decide_true, decide_false, bft, btf, btt, bff, Bool.false_eq_true, resultsA, oneOrTup, Option.map_some, Option.map_none, Bool.not_true, Bool.not_false, loadAt, storeAt, storeOf, partOf, List.getElem?_cons_zero, List.getElem?_cons_succ, List.set_cons_zero, List.set_cons_succ, AV.cells, AV.isCell, List.all_cons, List.all_nil, Bool.and_true, Bool.and_false, Bool.false_and, Bool.true_and, Bool.and_self, and_true, true_and, and_self, putAt, hasLabel, Bool.or_false, Bool.false_or, Bool.or_true, Bool.true_or, fillA, pickParts, pickSl, strBin, eqA, eqCell, ne_eq, not_true_eq_false, not_false_eq_true, Nat.reduceLeDiff, Nat.reduceLT, Nat.reduceMul, Nat.reduceSub, Nat.zero_add, Nat.add_zero, Option.bind_some, asNat, bounds2, reduceCtorEq, List.take_succ_cons, List.take_zero, List.drop_succ_cons, List.drop_zero, Nat.reduceBEq, List.take_nil, List.drop_nil, Int.reduceLE, Int.reduceLT, Int.reduceToNat, Int.toNat_zero, Int.reduceBEq, Int.le_refl, Nat.le_refl, b2s, srcRow, binA, beq_self_eq_true, bne_self_eq_false, minI, maxI, foldI, Bool.not_not, Int.lt_irrefl, gt_iff_lt, ge_iff_le, List.length_map, AV.undef, q1, q2, q3, lexY_25, Int.natCast_zero]; rfl) ⟨rfl, rfl⟩
  | ok l =>
    rw [hR] at h26
    simp only [LexR.av] at h26
    obtain ⟨l1, l2⟩ := lexR_len hR
    have l3 : ((l.length : Int) == 0) = false := by rw [beq_eq_false_iff_ne]; omega
    have hst := lexR_stands hR
    have hM : ∀ x ∈ l, (pieceT x).length ≤ 1500 := fun x hx => by
      have hkt : ∀ k t n a b, x = pieceA k t n a b → (k == 0) = true → t = [] := by
        intro k t n a b hxe hk
        have hR2 := hR
        unfold lexR at hR2
        split at hR2
        · cases hR2
        · obtain ⟨init, rfl, hg⟩ := lexF_good 4097 [] text 1 1 [] l rfl (by intro x hx; cases hx) hR2
          rcases List.mem_append.1 hx with hx | hx
          · obtain ⟨k', t', n', line, col, j, e, hp, _⟩ := hg x hx
            rw [hxe] at e
            simp only [pieceA, AV.agg.injEq, List.cons.injEq, AV.int.injEq, true_and] at e
            obtain ⟨rfl, _⟩ := e
            rcases hp with ⟨rfl, _⟩ | ⟨rfl, _⟩ | ⟨rfl, _⟩ <;> cases hk
          · simp only [List.mem_singleton] at hx
            rw [hxe] at hx
            simp only [pieceA, AV.agg.injEq, List.cons.injEq, AV.str.injEq] at hx
            exact hx.2.1
      have := stands_len (hst x hx) hkt
      omega
    refine Ends.seq (by simp only [evalFn, params, List.length_cons, List.length_nil, Nat.reduceAdd, evalCode, evalOps, guardOk, evalOp, AX.ev, look, putE, val, evs, optEv, binA, intBin, wrapI, unA, callM, keepE_cons, keepE_nil, Nat.reduceEqDiff, if_true, if_false, reduceIte, Int.toNat_natCast, List.append_nil, List.nil_append, List.cons_append, decide_true, decide_false, bft, btf, btt, bff, Bool.false_eq_true, resultsA, oneOrTup, Option.map_some, Option.map_none, Bool.not_true, Bool.not_false, loadAt, storeAt, storeOf, partOf, List.getElem?_cons_zero, List.getElem?_cons_succ, List.set_cons_zero, List.set_cons_succ, AV.cells, AV.isCell, List.all_cons, List.all_nil, Bool.and_true, Bool.and_false, Bool.false_and, Bool.true_and, Bool.and_self, and_true, true_and, and_self, putAt, hasLabel, Bool.or_false, Bool.false_or, Bool.or_true, Bool.true_or, fillA, pickParts, pickSl, strBin, eqA, eqCell, ne_eq, not_true_eq_false, not_false_eq_true, Nat.reduceLeDiff, Nat.reduceLT, Nat.reduceMul, Nat.reduceSub, Nat.zero_add, Nat.add_zero, Option.bind_some, asNat, bounds2, reduceCtorEq, List.take_succ_cons, List.take_zero, List.drop_succ_cons, List.drop_zero, Nat.reduceBEq, List.take_nil, List.drop_nil, Int.reduceLE, Int.reduceLT, Int.reduceToNat, Int.toNat_zero, Int.reduceBEq, Int.le_refl, Nat.le_refl, b2s, srcRow, binA, beq_self_eq_true, bne_self_eq_false, minI, maxI, foldI, Bool.not_not, Int.lt_irrefl, gt_iff_lt, ge_iff_le, List.length_map, AV.undef, h26]; rfl) ?_
    refine Ends.seq (by simp only [evalFn, params, List.length_cons, List.length_nil, Nat.reduceAdd, evalCode, evalOps, guardOk, evalOp, AX.ev, look, putE, val, evs, optEv, binA, intBin, wrapI, unA, callM, keepE_cons, keepE_nil, Nat.reduceEqDiff, if_true, if_false, reduceIte, Int.toNat_natCast, List.append_nil, List.nil_append, List.cons_append, decide_true, decide_false, bft, btf, btt, bff, Bool.false_eq_true, resultsA, oneOrTup, Option.map_some, Option.map_none, Bool.not_true, Bool.not_false, loadAt, storeAt, storeOf, partOf, List.getElem?_cons_zero, List.getElem?_cons_succ, List.set_cons_zero, List.set_cons_succ, AV.cells, AV.isCell, List.all_cons, List.all_nil, Bool.and_true, Bool.and_false, Bool.false_and, Bool.true_and, Bool.and_self, and_true, true_and, and_self, putAt, hasLabel, Bool.or_false, Bool.false_or, Bool.or_true, Bool.true_or, fillA, pickParts, pickSl, strBin, eqA, eqCell, ne_eq, not_true_eq_false, not_false_eq_true, Nat.reduceLeDiff, Nat.reduceLT, Nat.reduceMul, Nat.reduceSub, Nat.zero_add, Nat.add_zero, Option.bind_some, asNat, bounds2, reduceCtorEq, List.take_succ_cons, List.take_zero, List.drop_succ_cons, List.drop_zero, Nat.reduceBEq, List.take_nil, List.drop_nil, Int.reduceLE, Int.reduceLT, Int.reduceToNat, Int.toNat_zero, Int.reduceBEq, Int.le_refl, Nat.le_refl, b2s, srcRow, binA, beq_self_eq_true, bne_self_eq_false, minI, maxI, foldI, Bool.not_not, Int.lt_irrefl, gt_iff_lt, ge_iff_le, List.length_map, AV.undef]; rfl) ?_
    refine Ends.seq (by simp only [evalFn, params, List.length_cons, List.length_nil, Nat.reduceAdd, evalCode, evalOps, guardOk, evalOp, AX.ev, look, putE, val, evs, optEv, binA, intBin, wrapI, unA, callM, keepE_cons, keepE_nil, Nat.reduceEqDiff, if_true, if_false, reduceIte, Int.toNat_natCast, List.append_nil, List.nil_append, List.cons_append, decide_true, decide_false, bft, btf, btt, bff, Bool.false_eq_true, resultsA, oneOrTup, Option.map_some, Option.map_none, Bool.not_true, Bool.not_false, loadAt, storeAt, storeOf, partOf, List.getElem?_cons_zero, List.getElem?_cons_succ, List.set_cons_zero, List.set_cons_succ, AV.cells, AV.isCell, List.all_cons, List.all_nil, Bool.and_true, Bool.and_false, Bool.false_and, Bool.true_and, Bool.and_self, and_true, true_and, and_self, putAt, hasLabel, Bool.or_false, Bool.false_or, Bool.or_true, Bool.true_or, fillA, pickParts, pickSl, strBin, eqA, eqCell, ne_eq, not_true_eq_false, not_false_eq_true, Nat.reduceLeDiff, Nat.reduceLT, Nat.reduceMul, Nat.reduceSub, Nat.zero_add, Nat.add_zero, Option.bind_some, asNat, bounds2, reduceCtorEq, List.take_succ_cons, List.take_zero, List.drop_succ_cons, List.drop_zero, Nat.reduceBEq, List.take_nil, List.drop_nil, Int.reduceLE, Int.reduceLT, Int.reduceToNat, Int.toNat_zero, Int.reduceBEq, Int.le_refl, Nat.le_refl, b2s, srcRow, binA, beq_self_eq_true, bne_self_eq_false, minI, maxI, foldI, Bool.not_not, Int.lt_irrefl, gt_iff_lt, ge_iff_le, List.length_map, AV.undef, l3, eqFields]; rfl) ?_
    refine Ends.seq (by simp only [evalFn, params, List.length_cons, List.length_nil, Nat.reduceAdd, evalCode, evalOps, guardOk, evalOp, AX.ev, look, putE, val, evs, optEv, binA, intBin, wrapI, unA, callM, keepE_cons, keepE_nil, Nat.reduceEqDiff, if_true, if_false, reduceIte, Int.toNat_natCast, List.append_nil, List.nil_append, List.cons_append, decide_true, decide_false, bft, btf, btt, bff, Bool.false_eq_true, resultsA, oneOrTup, Option.map_some, Option.map_none, Bool.not_true, Bool.not_false, loadAt, storeAt, storeOf, partOf, List.getElem?_cons_zero, List.getElem?_cons_succ, List.set_cons_zero, List.set_cons_succ, AV.cells, AV.isCell, List.all_cons, List.all_nil, Bool.and_true, Bool.and_false, Bool.false_and, Bool.true_and, Bool.and_self, and_true, true_and, and_self, putAt, hasLabel, Bool.or_false, Bool.false_or, Bool.or_true, Bool.true_or, fillA, pickParts, pickSl, strBin, eqA, eqCell, ne_eq, not_true_eq_false, not_false_eq_true, Nat.reduceLeDiff, Nat.reduceLT, Nat.reduceMul, Nat.reduceSub, Nat.zero_add, Nat.add_zero, Option.bind_some, asNat, bounds2, reduceCtorEq, List.take_succ_cons, List.take_zero, List.drop_succ_cons, List.drop_zero, Nat.reduceBEq, List.take_nil, List.drop_nil, Int.reduceLE, Int.reduceLT, Int.reduceToNat, Int.toNat_zero, Int.reduceBEq, Int.le_refl, Nat.le_refl, b2s, srcRow, binA, beq_self_eq_true, bne_self_eq_false, minI, maxI, foldI, Bool.not_not, Int.lt_irrefl, gt_iff_lt, ge_iff_le, List.length_map, AV.undef, List.replicate_succ, List.replicate_zero, List.flatten_cons, List.flatten_nil, rowOfCells, chunks]; rfl) ?_
    have w1 : IntKind.i64.wrap (b : Int) = b := by rw [wrap_i64] <;> omega
    have w2 : (b : Int).tmod 4 = ((b % 4 : Nat) : Int) := (Int.ofNat_tmod b 4).symm
    have w3 : ((4 : Int) = 0) = False := by simp
    have w4 : (0 ≤ ((b % 4 : Nat) : Int)) = True := by simp; omega
    have w5 : (((b % 4 : Nat) : Int) < 4) = True := by simp; omega
    have w6 := sepOf_get b
    refine Ends.seq (by simp only [evalFn, params, List.length_cons, List.length_nil, Nat.reduceAdd, evalCode, evalOps, guardOk, evalOp, AX.ev, look, putE, val, evs, optEv, binA, intBin, wrapI, unA, callM, keepE_cons, keepE_nil, Nat.reduceEqDiff, if_true, if_false, reduceIte, Int.toNat_natCast, List.append_nil, List.nil_append, List.cons_append, decide_true, decide_false, bft, btf, btt, bff, Bool.false_eq_true, resultsA, oneOrTup, Option.map_some, Option.map_none, Bool.not_true, Bool.not_false, loadAt, storeAt, storeOf, partOf, List.getElem?_cons_zero, List.getElem?_cons_succ, List.set_cons_zero, List.set_cons_succ, AV.cells, AV.isCell, List.all_cons, List.all_nil, Bool.and_true, Bool.and_false, Bool.false_and, Bool.true_and, Bool.and_self, and_true, true_and, and_self, putAt, hasLabel, Bool.or_false, Bool.false_or, Bool.or_true, Bool.true_or, fillA, pickParts, pickSl, strBin, eqA, eqCell, ne_eq, not_true_eq_false, not_false_eq_true, Nat.reduceLeDiff, Nat.reduceLT, Nat.reduceMul, Nat.reduceSub, Nat.zero_add, Nat.add_zero, Option.bind_some, asNat, bounds2, reduceCtorEq, List.take_succ_cons, List.take_zero, List.drop_succ_cons, List.drop_zero, Nat.reduceBEq, List.take_nil, List.drop_nil, Int.reduceLE, Int.reduceLT, Int.reduceToNat, Int.toNat_zero, Int.reduceBEq, Int.le_refl, Nat.le_refl, b2s, srcRow, binA, beq_self_eq_true, bne_self_eq_false, minI, maxI, foldI, Bool.not_not, Int.lt_irrefl, gt_iff_lt, ge_iff_le, List.length_map, AV.undef, List.length_cons, List.length_nil, Int.cast_ofNat_Int, w1, w2, w3, w4, w5, w6]; rfl) ?_
    refine Ends.seq (by simp only [evalFn, params, List.length_cons, List.length_nil, Nat.reduceAdd, evalCode, evalOps, guardOk, evalOp, AX.ev, look, putE, val, evs, optEv, binA, intBin, wrapI, unA, callM, keepE_cons, keepE_nil, Nat.reduceEqDiff, if_true, if_false, reduceIte, Int.toNat_natCast, List.append_nil, List.nil_append, List.cons_append, decide_true, decide_false, bft, btf, btt, bff, Bool.false_eq_true, resultsA, oneOrTup, Option.map_some, Option.map_none, Bool.not_true, Bool.not_false, loadAt, storeAt, storeOf, partOf, List.getElem?_cons_zero, List.getElem?_cons_succ, List.set_cons_zero, List.set_cons_succ, AV.cells, AV.isCell, List.all_cons, List.all_nil, Bool.and_true, Bool.and_false, Bool.false_and, Bool.true_and, Bool.and_self, and_true, true_and, and_self, putAt, hasLabel, Bool.or_false, Bool.false_or, Bool.or_true, Bool.true_or, fillA, pickParts, pickSl, strBin, eqA, eqCell, ne_eq, not_true_eq_false, not_false_eq_true, Nat.reduceLeDiff, Nat.reduceLT, Nat.reduceMul, Nat.reduceSub, Nat.zero_add, Nat.add_zero, Option.bind_some, asNat, bounds2, reduceCtorEq, List.take_succ_cons, List.take_zero, List.drop_succ_cons, List.drop_zero, Nat.reduceBEq, List.take_nil, List.drop_nil, Int.reduceLE, Int.reduceLT, Int.reduceToNat, Int.toNat_zero, Int.reduceBEq, Int.le_refl, Nat.le_refl, b2s, srcRow, binA, beq_self_eq_true, bne_self_eq_false, minI, maxI, foldI, Bool.not_not, Int.lt_irrefl, gt_iff_lt, ge_iff_le, List.length_map, AV.undef]; rfl) ?_
    have hs := sepOf_ok b
    generalize sepOf b = s at hs
    have hloop := fun σ => back_loop (call := lexY) (draw := drawA lexY G) (G := G) (fuel := 6000) text l s σ (by omega) hs.len (lexR_pieces hR) hM (l.length - 1) 0 6000 (by omega) (by omega)
    simp only [List.take_zero, upTo, List.flatMap_nil, Int.natCast_zero] at hloop
    refine Ends.seq (by simp only [evalFn, params, List.length_cons, List.length_nil, Nat.reduceAdd, evalCode, evalOps, guardOk, evalOp, AX.ev, look, putE, val, evs, optEv, binA, intBin, wrapI, unA, callM, keepE_cons, keepE_nil, Nat.reduceEqDiff, if_true, if_false, reduceIte, Int.toNat_natCast, List.append_nil, List.nil_append, List.cons_append, decide_true, decide_false, bft, btf, btt, bff, Bool.false_eq_true, resultsA, oneOrTup, Option.map_some, Option.map_none, Bool.not_true, Bool.not_false, loadAt, storeAt, storeOf, partOf, List.getElem?_cons_zero, List.getElem?_cons_succ, List.set_cons_zero, List.set_cons_succ, AV.cells, AV.isCell, List.all_cons, List.all_nil, Bool.and_true, Bool.and_false, Bool.false_and, Bool.true_and, Bool.and_self, and_true, true_and, and_self, putAt, hasLabel, Bool.or_false, Bool.false_or, Bool.or_true, Bool.true_or, fillA, pickParts, pickSl, strBin, eqA, eqCell, ne_eq, not_true_eq_false, not_false_eq_true, Nat.reduceLeDiff, Nat.reduceLT, Nat.reduceMul, Nat.reduceSub, Nat.zero_add, Nat.add_zero, Option.bind_some, asNat, bounds2, reduceCtorEq, List.take_succ_cons, List.take_zero, List.drop_succ_cons, List.drop_zero, Nat.reduceBEq, List.take_nil, List.drop_nil, Int.reduceLE, Int.reduceLT, Int.reduceToNat, Int.toNat_zero, Int.reduceBEq, Int.le_refl, Nat.le_refl, b2s, srcRow, binA, beq_self_eq_true, bne_self_eq_false, minI, maxI, foldI, Bool.not_not, Int.lt_irrefl, gt_iff_lt, ge_iff_le, List.length_map, AV.undef, hloop]; rfl) ?_
    have hul := upTo_len s 1500 hs.len (l.take (l.length - 1)) (fun x hx => hM x (List.mem_of_mem_take hx))
    have hul2 : (l.take (l.length - 1)).length * (4 + 1500) ≤ 1501 * 1504 := Nat.mul_le_mul (by rw [List.length_take]; omega) (Nat.le_refl _)
    have hlen2 := hs.len
    have q5 : ((List.flatMap (fun p => s ++ pieceT p) (l.take (l.length - 1))).length + s.length ≤ 9223372036854775807) = True := by
      have : (List.flatMap (fun p => s ++ pieceT p) (l.take (l.length - 1))).length ≤ 1501 * 1504 := Nat.le_trans hul hul2
      simp only [eq_iff_iff, iff_true]
      omega
    refine Ends.seq (by simp only [evalFn, params, List.length_cons, List.length_nil, Nat.reduceAdd, evalCode, evalOps, guardOk, evalOp, AX.ev, look, putE, val, evs, optEv, binA, intBin, wrapI, unA, callM, keepE_cons, keepE_nil, Nat.reduceEqDiff, if_true, if_false, reduceIte, Int.toNat_natCast, List.append_nil, List.nil_append, List.cons_append, decide_true, decide_false, bft, btf, btt, bff, Bool.false_eq_true, resultsA, oneOrTup, Option.map_some, Option.map_none, Bool.not_true, Bool.not_false, loadAt, storeAt, storeOf, partOf, List.getElem?_cons_zero, List.getElem?_cons_succ, List.set_cons_zero, List.set_cons_succ, AV.cells, AV.isCell, List.all_cons, List.all_nil, Bool.and_true, Bool.and_false, Bool.false_and, Bool.true_and, Bool.and_self, and_true, true_and, and_self, putAt, hasLabel, Bool.or_false, Bool.false_or, Bool.or_true, Bool.true_or, fillA, pickParts, pickSl, strBin, eqA, eqCell, ne_eq, not_true_eq_false, not_false_eq_true, Nat.reduceLeDiff, Nat.reduceLT, Nat.reduceMul, Nat.reduceSub, Nat.zero_add, Nat.add_zero, Option.bind_some, asNat, bounds2, reduceCtorEq, List.take_succ_cons, List.take_zero, List.drop_succ_cons, List.drop_zero, Nat.reduceBEq, List.take_nil, List.drop_nil, Int.reduceLE, Int.reduceLT, Int.reduceToNat, Int.toNat_zero, Int.reduceBEq, Int.le_refl, Nat.le_refl, b2s, srcRow, binA, beq_self_eq_true, bne_self_eq_false, minI, maxI, foldI, Bool.not_not, Int.lt_irrefl, gt_iff_lt, ge_iff_le, List.length_map, AV.undef, q5]; rfl) ?_
    have hline : List.flatMap (fun p => s ++ pieceT p) (l.take (l.length - 1)) ++ s = lineOf s (l.take (l.length - 1)) := (lineOf_eq s _).symm
    rw [hline]
    by_cases hbig : 4096 < (lineOf s (l.take (l.length - 1))).length
    · have q6 : ((4096 : Int) < ((lineOf s (l.take (l.length - 1))).length : Int)) = True := by simp; omega
      exact Ends.done (by simp only [evalFn, params, List.length_cons, List.length_nil, Nat.reduceAdd, evalCode, evalOps, guardOk, evalOp, AX.ev, look, putE, val, evs, optEv, binA, intBin, wrapI, unA, callM, keepE_cons, keepE_nil, Nat.reduceEqDiff, if_true, if_false, reduceIte, Int.toNat_natCast, List.append_nil, List.nil_append, List.cons_append, decide_true, decide_false, bft, btf, btt, bff, Bool.false_eq_true, resultsA, oneOrTup, Option.map_some, Option.map_none, Bool.not_true, Bool.not_false, loadAt, storeAt, storeOf, partOf, List.getElem?_cons_zero, List.getElem?_cons_succ, List.set_cons_zero, List.set_cons_succ, AV.cells, AV.isCell, List.all_cons, List.all_nil, Bool.and_true, Bool.and_false, Bool.false_and, Bool.true_and, Bool.and_self, and_true, true_and, and_self, putAt, hasLabel, Bool.or_false, Bool.false_or, Bool.or_true, Bool.true_or, fillA, pickParts, pickSl, strBin, eqA, eqCell, ne_eq, not_true_eq_false, not_false_eq_true, Nat.reduceLeDiff, Nat.reduceLT, Nat.reduceMul, Nat.reduceSub, Nat.zero_add, Nat.add_zero, Option.bind_some, asNat, bounds2, reduceCtorEq, List.take_succ_cons, List.take_zero, List.drop_succ_cons, List.drop_zero, Nat.reduceBEq, List.take_nil, List.drop_nil, Int.reduceLE, Int.reduceLT, Int.reduceToNat, Int.toNat_zero, Int.reduceBEq, Int.le_refl, Nat.le_refl, b2s, srcRow, binA, beq_self_eq_true, bne_self_eq_false, minI, maxI, foldI, Bool.not_not, Int.lt_irrefl, gt_iff_lt, ge_iff_le, List.length_map, AV.undef, q6, lexY_25]; rfl) ⟨rfl, rfl⟩
    have q6 : ((4096 : Int) < ((lineOf s (l.take (l.length - 1))).length : Int)) = False := by simp; omega
    refine Ends.seq (by simp only [evalFn, params, List.length_cons, List.length_nil, Nat.reduceAdd, evalCode, evalOps, guardOk, evalOp, AX.ev, look, putE, val, evs, optEv, binA, intBin, wrapI, unA, callM, keepE_cons, keepE_nil, Nat.reduceEqDiff, if_true, if_false, reduceIte, Int.toNat_natCast, List.append_nil, List.nil_append, List.cons_append, decide_true, decide_false, bft, btf, btt, bff, Bool.false_eq_true, resultsA, oneOrTup, Option.map_some, Option.map_none, Bool.not_true, Bool.not_false, loadAt, storeAt, storeOf, partOf, List.getElem?_cons_zero, List.getElem?_cons_succ, List.set_cons_zero, List.set_cons_succ, AV.cells, AV.isCell, List.all_cons, List.all_nil, Bool.and_true, Bool.and_false, Bool.false_and, Bool.true_and, Bool.and_self, and_true, true_and, and_self, putAt, hasLabel, Bool.or_false, Bool.false_or, Bool.or_true, Bool.true_or, fillA, pickParts, pickSl, strBin, eqA, eqCell, ne_eq, not_true_eq_false, not_false_eq_true, Nat.reduceLeDiff, Nat.reduceLT, Nat.reduceMul, Nat.reduceSub, Nat.zero_add, Nat.add_zero, Option.bind_some, asNat, bounds2, reduceCtorEq, List.take_succ_cons, List.take_zero, List.drop_succ_cons, List.drop_zero, Nat.reduceBEq, List.take_nil, List.drop_nil, Int.reduceLE, Int.reduceLT, Int.reduceToNat, Int.toNat_zero, Int.reduceBEq, Int.le_refl, Nat.le_refl, b2s, srcRow, binA, beq_self_eq_true, bne_self_eq_false, minI, maxI, foldI, Bool.not_not, Int.lt_irrefl, gt_iff_lt, ge_iff_le, List.length_map, AV.undef, q6]; rfl) ?_
    obtain ⟨m, hm, hsim⟩ := lexR_line hs hR (by omega)
    have h26m := lexY_26 (lineOf s (l.take (l.length - 1)))
    rw [hm] at h26m
    simp only [LexR.av] at h26m
    refine Ends.seq (by simp only [evalFn, params, List.length_cons, List.length_nil, Nat.reduceAdd, evalCode, evalOps, guardOk, evalOp, AX.ev, look, putE, val, evs, optEv, binA, intBin, wrapI, unA, callM, keepE_cons, keepE_nil, Nat.reduceEqDiff, if_true, if_false, reduceIte, Int.toNat_natCast, List.append_nil, List.nil_append, List.cons_append, decide_true, decide_false, bft, btf, btt, bff, Bool.false_eq_true, resultsA, oneOrTup, Option.map_some, Option.map_none, Bool.not_true, Bool.not_false, loadAt, storeAt, storeOf, partOf, List.getElem?_cons_zero, List.getElem?_cons_succ, List.set_cons_zero, List.set_cons_succ, AV.cells, AV.isCell, List.all_cons, List.all_nil, Bool.and_true, Bool.and_false, Bool.false_and, Bool.true_and, Bool.and_self, and_true, true_and, and_self, putAt, hasLabel, Bool.or_false, Bool.false_or, Bool.or_true, Bool.true_or, fillA, pickParts, pickSl, strBin, eqA, eqCell, ne_eq, not_true_eq_false, not_false_eq_true, Nat.reduceLeDiff, Nat.reduceLT, Nat.reduceMul, Nat.reduceSub, Nat.zero_add, Nat.add_zero, Option.bind_some, asNat, bounds2, reduceCtorEq, List.take_succ_cons, List.take_zero, List.drop_succ_cons, List.drop_zero, Nat.reduceBEq, List.take_nil, List.drop_nil, Int.reduceLE, Int.reduceLT, Int.reduceToNat, Int.toNat_zero, Int.reduceBEq, Int.le_refl, Nat.le_refl, b2s, srcRow, binA, beq_self_eq_true, bne_self_eq_false, minI, maxI, foldI, Bool.not_not, Int.lt_irrefl, gt_iff_lt, ge_iff_le, List.length_map, AV.undef, h26m]; rfl) ?_
    have hml := hsim.get.1
    refine Ends.seq (by simp only [evalFn, params, List.length_cons, List.length_nil, Nat.reduceAdd, evalCode, evalOps, guardOk, evalOp, AX.ev, look, putE, val, evs, optEv, binA, intBin, wrapI, unA, callM, keepE_cons, keepE_nil, Nat.reduceEqDiff, if_true, if_false, reduceIte, Int.toNat_natCast, List.append_nil, List.nil_append, List.cons_append, decide_true, decide_false, bft, btf, btt, bff, Bool.false_eq_true, resultsA, oneOrTup, Option.map_some, Option.map_none, Bool.not_true, Bool.not_false, loadAt, storeAt, storeOf, partOf, List.getElem?_cons_zero, List.getElem?_cons_succ, List.set_cons_zero, List.set_cons_succ, AV.cells, AV.isCell, List.all_cons, List.all_nil, Bool.and_true, Bool.and_false, Bool.false_and, Bool.true_and, Bool.and_self, and_true, true_and, and_self, putAt, hasLabel, Bool.or_false, Bool.false_or, Bool.or_true, Bool.true_or, fillA, pickParts, pickSl, strBin, eqA, eqCell, ne_eq, not_true_eq_false, not_false_eq_true, Nat.reduceLeDiff, Nat.reduceLT, Nat.reduceMul, Nat.reduceSub, Nat.zero_add, Nat.add_zero, Option.bind_some, asNat, bounds2, reduceCtorEq, List.take_succ_cons, List.take_zero, List.drop_succ_cons, List.drop_zero, Nat.reduceBEq, List.take_nil, List.drop_nil, Int.reduceLE, Int.reduceLT, Int.reduceToNat, Int.toNat_zero, Int.reduceBEq, Int.le_refl, Nat.le_refl, b2s, srcRow, binA, beq_self_eq_true, bne_self_eq_false, minI, maxI, foldI, Bool.not_not, Int.lt_irrefl, gt_iff_lt, ge_iff_le, List.length_map, AV.undef, hml, bne_self_eq_false]; rfl) ?_
    have h28 : ∀ x ∈ l, ∀ σ, callC lexY 28 [.str text, x] σ = some (.ret (.bool true), σ) := fun x hx σ => lexY_28 (by omega) (hst x hx) σ
    have hsame := fun σ => same_loop (call := lexY) (G := G) (fuel := 6000) text l m σ (by omega) hsim h28 l.length 0 6000 (by omega) (by omega)
    simp only [Int.natCast_zero] at hsame
    refine Ends.seq (by simp only [evalFn, params, List.length_cons, List.length_nil, Nat.reduceAdd, evalCode, evalOps, guardOk, evalOp, AX.ev, look, putE, val, evs, optEv, binA, intBin, wrapI, unA, callM, keepE_cons, keepE_nil, Nat.reduceEqDiff, if_true, if_false, reduceIte, Int.toNat_natCast, List.append_nil, List.nil_append, List.cons_append, decide_true, decide_false, bft, btf, btt, bff, Bool.false_eq_true, resultsA, oneOrTup, Option.map_some, Option.map_none, Bool.not_true, Bool.not_false, loadAt, storeAt, storeOf, partOf, List.getElem?_cons_zero, List.getElem?_cons_succ, List.set_cons_zero, List.set_cons_succ, AV.cells, AV.isCell, List.all_cons, List.all_nil, Bool.and_true, Bool.and_false, Bool.false_and, Bool.true_and, Bool.and_self, and_true, true_and, and_self, putAt, hasLabel, Bool.or_false, Bool.false_or, Bool.or_true, Bool.true_or, fillA, pickParts, pickSl, strBin, eqA, eqCell, ne_eq, not_true_eq_false, not_false_eq_true, Nat.reduceLeDiff, Nat.reduceLT, Nat.reduceMul, Nat.reduceSub, Nat.zero_add, Nat.add_zero, Option.bind_some, asNat, bounds2, reduceCtorEq, List.take_succ_cons, List.take_zero, List.drop_succ_cons, List.drop_zero, Nat.reduceBEq, List.take_nil, List.drop_nil, Int.reduceLE, Int.reduceLT, Int.reduceToNat, Int.toNat_zero, Int.reduceBEq, Int.le_refl, Nat.le_refl, b2s, srcRow, binA, beq_self_eq_true, bne_self_eq_false, minI, maxI, foldI, Bool.not_not, Int.lt_irrefl, gt_iff_lt, ge_iff_le, List.length_map, AV.undef, hsame]; rfl) ?_
    exact Ends.done (by simp only [evalFn, params, List.length_cons, List.length_nil, Nat.reduceAdd, evalCode, evalOps, guardOk, evalOp, AX.ev, look, putE, val, evs, optEv, binA, intBin, wrapI, unA, callM, keepE_cons, keepE_nil, Nat.reduceEqDiff, if_true, if_false, reduceIte, Int.toNat_natCast, List.append_nil, List.nil_append, List.cons_append, decide_true, decide_false, bft, btf, btt, bff, Bool.false_eq_true, resultsA, oneOrTup, Option.map_some, Option.map_none, Bool.not_true, Bool.not_false, loadAt, storeAt, storeOf, partOf, List.getElem?_cons_zero, List.getElem?_cons_succ, List.set_cons_zero, List.set_cons_succ, AV.cells, AV.isCell, List.all_cons, List.all_nil, Bool.and_true, Bool.and_false, Bool.false_and, Bool.true_and, Bool.and_self, and_true, true_and, and_self, putAt, hasLabel, Bool.or_false, Bool.false_or, Bool.or_true, Bool.true_or, fillA, pickParts, pickSl, strBin, eqA, eqCell, ne_eq, not_true_eq_false, not_false_eq_true, Nat.reduceLeDiff, Nat.reduceLT, Nat.reduceMul, Nat.reduceSub, Nat.zero_add, Nat.add_zero, Option.bind_some, asNat, bounds2, reduceCtorEq, List.take_succ_cons, List.take_zero, List.drop_succ_cons, List.drop_zero, Nat.reduceBEq, List.take_nil, List.drop_nil, Int.reduceLE, Int.reduceLT, Int.reduceToNat, Int.toNat_zero, Int.reduceBEq, Int.le_refl, Nat.le_refl, b2s, srcRow, binA, beq_self_eq_true, bne_self_eq_false, minI, maxI, foldI, Bool.not_not, Int.lt_irrefl, gt_iff_lt, ge_iff_le, List.length_map, AV.undef, lexY_25]; rfl) ⟨rfl, rfl⟩
end
end Go.Pm
end

section
set_option linter.unusedSimpArgs false
set_option linter.unusedVariables false
set_option linter.unusedSectionVars false
/- LexBack: what the machine answers. -/
set_option maxRecDepth 100000
namespace Go.Proofs.YtehcekeccnlboaaDoor
open Go.Pm

theorem lexBack_go (W : World) (hL : laidMetH Tryd.prog Rows.lexBackRow.laid W) (hs : W.ShapedOpen Tryd.prog) :
    ∃ G : Globals, GR G (wctx W) ∧ ∀ xs, ShapedAll [.str, .int .u8] xs → ∃ (call : CallA) (σ' : Store), CallS Tryd.prog G call ∧ call 6 xs [] = some (.ret (.bool true), σ') := by
  have hl : laidMet Tryd.prog Rows.lexBackRow.laid W := hL
  obtain ⟨m, hm⟩ := lexGl_met hl (.tail _ (.tail _ (.tail _ (.head _)))) hs
  refine ⟨lookG (lexGl m), hm, ?_⟩
  intro xs has
  obtain ⟨a, b, rfl, ⟨s, rfl, _⟩, has⟩ := has
  obtain ⟨a, b, rfl, ⟨d, rfl, d1, d2⟩, has⟩ := has
  obtain rfl : b = [] := has
  simp only [show IntKind.u8.min = 0 from rfl, show IntKind.u8.max = 255 from rfl] at d1 d2
  obtain ⟨e, env, σ', h1, rfl, h2⟩ := back_ends (G := lookG (lexGl m)) s d.toNat (by omega)
  rw [Int.toNat_of_nonneg d1] at h1
  refine law_call (fuel := 6000) (σ' := σ') (lexY_sound (G := lookG (lexGl m)) m rfl _ _ rfl (lexGl_pure m)) mixed (lexGl_pure m) ok6 ?_
  simp only [evalFn, show i6.nparams = 2 from rfl, show i6.res = [.tmp 4] from rfl, params, argAV, List.length_cons, List.length_nil, Nat.reduceAdd, if_true, h1, resultsA, h2, oneOrTup, Option.map_some]
end Go.Proofs.YtehcekeccnlboaaDoor
end

section
set_option linter.unusedSimpArgs false
set_option linter.unusedVariables false
set_option linter.unusedSectionVars false
/- LexBack: the statement. -/
set_option maxRecDepth 100000
namespace Go.Proofs.YtehcekeccnlboaaDoor
open Go.Pm

theorem lexBack_door (os : Os) (args : Array Value) : laidMetH Tryd.prog Rows.lexBackRow.laid ((World.doorLaid Tryd.prog 400 os).forCall (fun _ _ => 0) ⟨#[], args, []⟩).memory :=
  laidMetH_of_parts3 (fuel := 8) (laidMet_of_run' 8 (by kernel_rfl) (by kernel_rfl)) (by kernel_rfl) (by kernel_rfl)

theorem lexBack_lifted (os : Os) (started : os.Started) (H : Type) (enc : TypeId × Value → H) :
    ReturnsInHanded {} Tryd.checked os 6 .any (fun w args => (Rows.lexBackSpec.pre enc Tryd.prog Tryd.f6 [] false w args ∧ laidMetH Tryd.prog Rows.lexBackRow.laid w) ∧ sizedMet enc Tryd.prog Tryd.f6 (OpenSpec.ofChange Rows.lexBackSpec) false w args)
      (Rows.lexBackSpec.post enc Tryd.prog Tryd.f6 false true false false) :=
  law_lifted (C := Tryd.checked) 20 [.str, .int .u8] own started (by kernel_rfl) Tryd.func6
    (ChangeSpec.witness_shaped (enc := enc) (C := Tryd.checked) (os := os) (X := fun w _ => laidMetH Tryd.prog Rows.lexBackRow.laid w) false (World.doorLaid Tryd.prog 400 os) #[.string ⟨#[]⟩, .int .u8 0] 20 rfl (World.shaped_of_RefB (by kernel_rfl) (by kernel_rfl)) (by kernel_rfl) (by kernel_rfl) (by kernel_rfl) (lexBack_door os _))
    rfl (fun ds h => by
      have hp : Tryd.f6.params.toList.length = 2 := by kernel_rfl
      rw [hp] at h
      match ds, h with
      | [_, _], _ => rfl) (tb := 4) (by kernel_rfl) (by kernel_rfl) laidOut (by kernel_rfl) (by kernel_rfl) lexBack_go

theorem lexBack_row : Rows.LexBackSaid :=
  OpenClaim.holds_of_wide 6 Tryd.f6 rfl rfl rfl rfl rfl rfl rfl ⟨rfl, rfl, rfl, rfl, rfl⟩ rfl rfl rfl rfl rfl (by kernel_rfl) Tryd.func6 (by kernel_rfl)
    (of_decide_eq_true (by kernel_rfl)) (by unfold Func.isWrapper; rw [if_neg (by decide +kernel)]; exact ⟨rfl, rfl⟩)
    (fun os started H enc _ => lexBack_lifted os started H enc)

theorem lexBack_holds : Rows.LexBackCardSaid :=
  Claim7.holds_tied_plain_at .later [] [.data, .data, .data, .sentinel, .sentinel] true (true, "fb664ba62042774bf3f3f7a5c558e3e76a079831b744c089e1a6d58fa548ceb2") true
    lexBack_row (fun _ h => by cases h) (by kernel_rfl) (fun _ h => by cases h) lexBack_row_tie rfl ⟨rfl, rfl⟩ (by kernel_rfl) rfl
    (fun f fn hf hfn => by
      obtain rfl : f = 6 := Option.some.inj ((show Tryd.prog.funcNamed "troth/trothlaw02.LexBack" = some 6 by kernel_rfl).symm.trans hf) |>.symm
      obtain rfl : fn = Tryd.f6 := (Option.some.inj (Tryd.func6.symm.trans hfn)).symm
      exact ⟨by kernel_rfl, fun j t ht => by
        have hall : (Tryd.f6.params.toList.all fun u => !Tryd.prog.wantsStandIn u) = true := by kernel_rfl
        have hm : t ∈ Tryd.f6.params.toList := by simpa using Array.mem_of_getElem? ht
        exact (show Tryd.prog.wantsStandIn t = false by simpa using List.all_eq_true.1 hall t hm)⟩)
    (by kernel_rfl)
#print axioms lexBack_holds
end Go.Proofs.YtehcekeccnlboaaDoor
end
