-- Written for this claim by this session's own wip/hook.py (it runs the kit's print and takes some functions' contracts as given texts of this session's).
import Derived.Test.YtjdlochffpikbaaKx0
namespace Go.Proofs.Ytjdlochffpikbaa.K
open Go.RowKit Go.Proofs.YtjdlochffpikbaaW.PrintWords Go.Proofs.YtjdlochffpikbaaW.PrintLast Go.Proofs.YtjdlochffpikbaaW.PrintMore
attribute [local go_sem] max2_int min2_int max_two min_two max_three min_three max_four min_four   -- for this text's walks alone
set_option linter.unusedVariables false
set_option linter.unusedSimpArgs false

/-! ### band_Offsets: function 45: GIVEN BY HAND -/
def bandNext (kk lines by_ at_ : Int) : Int := mn lines (at_ + 4 + 4 * (at_ * kk / by_))
def bandFrom (kk lines by_ : Int) : Nat → Int → List Int
  | 0, a => [a]
  | n + 1, a => a :: (if a < lines then bandFrom kk lines by_ n (bandNext kk lines by_ a) else [])
theorem band_next (kk lines by_ a : Int) (hk : 0 ≤ kk) (hb : 0 < by_) (h0 : 0 ≤ a) (hl : a < lines) : a < bandNext kk lines by_ a ∧ bandNext kk lines by_ a ≤ lines ∧ (bandNext kk lines by_ a = lines ∨ a + 4 ≤ bandNext kk lines by_ a) := by
  have h1 : 0 ≤ a * kk / by_ := Int.ediv_nonneg (Int.mul_nonneg h0 hk) (by omega)
  unfold bandNext mn
  split <;> omega
set_option maxHeartbeats 4000000 in
set_option maxRecDepth 100000 in
theorem band_Offsets.walkL (a0 : Int) (w : World) (h0 : 0 ≤ a0) (h1 : a0 ≤ 11) :
    Calls Try.prog 45 #[.int .i64 a0, .bool false] w fun e w' => ∃ v, e = .returned (.tuple #[v, .int .i64 0]) ∧ Kd.R (Kd.int .i64) 3 w' w.heap.size (fun _ => True) v (bandFrom (3 + (11 - a0) / 2) 256 256 64 0) ∧ Below w.heap.size w w' := by
  have c0 : decide (a0 < 0) = false := decide_eq_false (by omega)
  have d0 : decide (a0 > 11) = false := decide_eq_false (by omega)
  obtain ⟨L, hL⟩ : ∃ L, L = bandFrom (3 + (11 - a0) / 2) 256 256 64 0 := ⟨_, rfl⟩
  have HL := Aside0.mk hL
  rw [← hL]
  clear hL
  have hk : 3 ≤ 3 + (11 - a0) / 2 ∧ 3 + (11 - a0) / 2 ≤ 8 := by omega
  go_enter Try.func45, Try.ntmps45
  go_wp2
  refine wp_scope_jumps 0 (fun a' w' => ∃ (n : Nat) (p : Int) (xs : List Int) (v u22 u23 u24 u25 u26 u27 u28 u29 u30 u31 u32 u33 u34 u35 u36 u37 u38 u39 : Value), a' = { tmps := #[.int .i64 a0, .bool false, undef, undef, .slice none 0 0, .int .i64 0, .int .i64 (3 + (11 - a0) / 2), .int .i64 256, .int .i64 256, v, .int .i64 p, .int .i64 a0, .bool false, .bool false, .int .i64 a0, .bool false, .bool false, .int .i64 a0, .int .i64 (11 - a0), .int .i64 ((11 - a0) / 2), .int .i64 (3 + (11 - a0) / 2), .bool false, u22, u23, u24, u25, u26, u27, u28, u29, u30, u31, u32, u33, u34, u35, u36, u37, u38, u39, undef], defers := [] } ∧ Aside0 (Kd.R (Kd.int .i64) 3 w' w.heap.size (fun _ => True) v xs) ∧ Aside0 (Below w.heap.size w w') ∧ Aside0 (xs ++ bandFrom (3 + (11 - a0) / 2) 256 256 n p = L ∧ xs.length + n ≤ 64 ∧ 256 - p ≤ 4 * n) ∧ Aside0 (0 ≤ p ∧ p ≤ 256)) (fun a' _ => 256 - (intOf (a'.tmps.getD 10 undef)).toNat) rfl ?_ ?_
  · go_wp2
    go_step3
    go_wp2_with (first | ((with_reducible refine gate_builtin (b := .append) (xs := #[.tmp 22, .tmp 24]) rfl ?_); at_builtin; refine Kd.R_append (Kd.int .i64) (w0 := w) w.heap.size rfl (.tmp 22) (.tmp 24) 22 3 (.int .i64 0) 8 rfl Try.underlying22 info3 rfl (by decide) (by omega) (.slice none 0 0) (([] : List Int)) (0) [.int .i64 (0)] (fun _ => True) (fun _ => False) rfl rfl ?aP (fun _ hk => hk.elim) ?aF ?aO ?aB ?aS ?aL ?_; (case aP => exact rfl); (case aB => exact Below.refl _ _); (case aF => exact (fun _ _ => trivial)); (case aO => exact Kd.R_nil _ _ _ _ _); (case aS => exact Nat.le_refl _); (case aL => simp); intro v1 w1 ho hb hg hat; clear hg hat; have HO1 := Aside0.mk ho; have HB1 := Aside0.mk hb; clear ho hb))
    go_step3
    refine ⟨rfl, 63, _, [0], _, _, _, _, _, _, _, _, _, _, _, _, _, _, _, _, _, _, _, rfl, HO1, HB1, ⟨?_, ?_, ?_⟩, ⟨?_⟩⟩
    · rw [HL.out]
      simp [bandFrom, bandNext, mn]
    · simp
    · omega
    · omega
  · rintro a' w' ⟨n, p, xs, v, u22, u23, u24, u25, u26, u27, u28, u29, u30, u31, u32, u33, u34, u35, u36, u37, u38, u39, rfl, HO, HB, HF, HP⟩
    obtain ⟨hp0, hp1⟩ := HP.out
    have hq : 0 ≤ p * (3 + (11 - a0) / 2) ∧ p * (3 + (11 - a0) / 2) ≤ 2048 := by
      refine ⟨Int.mul_nonneg hp0 (by omega), ?_⟩
      have := Int.mul_le_mul hp1 hk.2 (by omega) (by omega)
      omega
    have hr : 0 ≤ p * (3 + (11 - a0) / 2) / 256 ∧ p * (3 + (11 - a0) / 2) / 256 ≤ 8 := by omega
    by_cases hlt : p < 256
    · have hnx := band_next (3 + (11 - a0) / 2) 256 256 p (by omega) (by omega) hp0 hlt
      obtain ⟨m, rfl⟩ : ∃ m, n = m + 1 := ⟨n - 1, by have := HF.out.2.2; omega⟩
      have hun : bandFrom (3 + (11 - a0) / 2) 256 256 (m + 1) p = p :: bandFrom (3 + (11 - a0) / 2) 256 256 m (bandNext (3 + (11 - a0) / 2) 256 256 p) := by
        rw [bandFrom, if_pos hlt]
      have HF1 : Aside0 ((xs ++ [p]) ++ bandFrom (3 + (11 - a0) / 2) 256 256 m (bandNext (3 + (11 - a0) / 2) 256 256 p) = L) := ⟨by rw [← HF.out.1, hun]; simp⟩
      have hnd : bandNext (3 + (11 - a0) / 2) 256 256 p = mn 256 (p + 4 + 4 * (p * (3 + (11 - a0) / 2) / 256)) := rfl
      have HN := Aside0.mk hnx
      have HND := Aside0.mk hnd
      clear hnx hun hnd
      have b0 : decide (p < 256) = true := decide_eq_true hlt
      go_wp2_with (first | ((with_reducible refine gate_builtin (b := .append) (xs := #[.tmp 22, .tmp 24]) rfl ?_); at_builtin; refine Kd.R_append (Kd.int .i64) (w0 := w) w.heap.size rfl (.tmp 22) (.tmp 24) 22 3 (.int .i64 0) 8 rfl Try.underlying22 info3 rfl (by decide) (by omega) (v) (xs) (p) [.int .i64 (p)] (fun _ => True) (fun _ => False) rfl rfl ?aP (fun _ hk => hk.elim) ?aF ?aO ?aB ?aS ?aL ?_; (case aP => exact rfl); (case aB => exact HB.out); (case aF => exact (fun _ _ => trivial)); (case aO => exact HO.out); (case aS => exact HB.out.size); (case aL => have := HF.out.2.1; omega); intro v1 w1 ho hb hg hat; clear hg hat; have HO1 := Aside0.mk ho; have HB1 := Aside0.mk hb; clear ho hb))
      all_goals
        have hnd := HND.out
        have hnx := HN.out
        go_step3
        refine ⟨rfl, ⟨m, _, xs ++ [p], _, _, _, _, _, _, _, _, _, _, _, _, _, _, _, _, _, _, _, rfl, HO1, HB1, ⟨?_, ?_, ?_⟩, ⟨?_⟩⟩, ?_⟩
        · have e := HF1.out
          rw [hnd] at e
          unfold mn at e
          first | (rw [if_pos (by omega)] at e; exact e) | (rw [if_neg (by omega)] at e; exact e)
        · have := HF.out.2.1
          simp
          omega
        · have := HF.out.2.2
          unfold mn at hnd
          split at hnd <;> omega
        · unfold mn at hnd
          split at hnd <;> omega
        · simp [intOf]
          unfold mn at hnd
          split at hnd <;> omega
    · have b0 : decide (p < 256) = false := decide_eq_false hlt
      have HF1 : Aside0 (L = xs ++ [p]) := ⟨by
        rw [← HF.out.1]
        cases n <;> simp [bandFrom, hlt]⟩
      go_wp2_with (first | ((with_reducible refine gate_builtin (b := .append) (xs := #[.tmp 22, .tmp 24]) rfl ?_); at_builtin; refine Kd.R_append (Kd.int .i64) (w0 := w) w.heap.size rfl (.tmp 22) (.tmp 24) 22 3 (.int .i64 0) 8 rfl Try.underlying22 info3 rfl (by decide) (by omega) (v) (xs) (p) [.int .i64 (p)] (fun _ => True) (fun _ => False) rfl rfl ?aP (fun _ hk => hk.elim) ?aF ?aO ?aB ?aS ?aL ?_; (case aP => exact rfl); (case aB => exact HB.out); (case aF => exact (fun _ _ => trivial)); (case aO => exact HO.out); (case aS => exact HB.out.size); (case aL => have := HF.out.2.1; omega); intro v1 w1 ho hb hg hat; clear hg hat; have HO1 := Aside0.mk ho; have HB1 := Aside0.mk hb; clear ho hb))
      simp only [Exit.jump]
      go_ret2
      rw [HF1.out]
      exact ⟨_, rfl, HO1.out, HB1.out⟩
set_option maxHeartbeats 4000000 in
set_option maxRecDepth 100000 in
theorem band_Offsets.walkS (a0 : Int) (w : World) (h0 : 0 ≤ a0) (h1 : a0 ≤ 11) :
    Calls Try.prog 45 #[.int .i64 a0, .bool true] w fun e w' => ∃ v, e = .returned (.tuple #[v, .int .i64 0]) ∧ Kd.R (Kd.int .i64) 3 w' w.heap.size (fun _ => True) v (bandFrom (3 + (11 - a0) / 2) 32 64 64 0) ∧ Below w.heap.size w w' := by
  have c0 : decide (a0 < 0) = false := decide_eq_false (by omega)
  have d0 : decide (a0 > 11) = false := decide_eq_false (by omega)
  obtain ⟨L, hL⟩ : ∃ L, L = bandFrom (3 + (11 - a0) / 2) 32 64 64 0 := ⟨_, rfl⟩
  have HL := Aside0.mk hL
  rw [← hL]
  clear hL
  have hk : 3 ≤ 3 + (11 - a0) / 2 ∧ 3 + (11 - a0) / 2 ≤ 8 := by omega
  go_enter Try.func45, Try.ntmps45
  go_wp2
  refine wp_scope_jumps 0 (fun a' w' => ∃ (n : Nat) (p : Int) (xs : List Int) (v u22 u23 u24 u25 u26 u27 u28 u29 u30 u31 u32 u33 u34 u35 u36 u37 u38 u39 : Value), a' = { tmps := #[.int .i64 a0, .bool true, undef, undef, .slice none 0 0, .int .i64 0, .int .i64 (3 + (11 - a0) / 2), .int .i64 32, .int .i64 64, v, .int .i64 p, .int .i64 a0, .bool false, .bool false, .int .i64 a0, .bool false, .bool false, .int .i64 a0, .int .i64 (11 - a0), .int .i64 ((11 - a0) / 2), .int .i64 (3 + (11 - a0) / 2), .bool true, u22, u23, u24, u25, u26, u27, u28, u29, u30, u31, u32, u33, u34, u35, u36, u37, u38, u39, undef], defers := [] } ∧ Aside0 (Kd.R (Kd.int .i64) 3 w' w.heap.size (fun _ => True) v xs) ∧ Aside0 (Below w.heap.size w w') ∧ Aside0 (xs ++ bandFrom (3 + (11 - a0) / 2) 32 64 n p = L ∧ xs.length + n ≤ 64 ∧ 32 - p ≤ 4 * n) ∧ Aside0 (0 ≤ p ∧ p ≤ 32)) (fun a' _ => 32 - (intOf (a'.tmps.getD 10 undef)).toNat) rfl ?_ ?_
  · go_wp2
    go_step3
    go_wp2_with (first | ((with_reducible refine gate_builtin (b := .append) (xs := #[.tmp 22, .tmp 24]) rfl ?_); at_builtin; refine Kd.R_append (Kd.int .i64) (w0 := w) w.heap.size rfl (.tmp 22) (.tmp 24) 22 3 (.int .i64 0) 8 rfl Try.underlying22 info3 rfl (by decide) (by omega) (.slice none 0 0) (([] : List Int)) (0) [.int .i64 (0)] (fun _ => True) (fun _ => False) rfl rfl ?aP (fun _ hk => hk.elim) ?aF ?aO ?aB ?aS ?aL ?_; (case aP => exact rfl); (case aB => exact Below.refl _ _); (case aF => exact (fun _ _ => trivial)); (case aO => exact Kd.R_nil _ _ _ _ _); (case aS => exact Nat.le_refl _); (case aL => simp); intro v1 w1 ho hb hg hat; clear hg hat; have HO1 := Aside0.mk ho; have HB1 := Aside0.mk hb; clear ho hb))
    go_step3
    refine ⟨rfl, 63, _, [0], _, _, _, _, _, _, _, _, _, _, _, _, _, _, _, _, _, _, _, rfl, HO1, HB1, ⟨?_, ?_, ?_⟩, ⟨?_⟩⟩
    · rw [HL.out]
      simp [bandFrom, bandNext, mn]
    · simp
    · omega
    · omega
  · rintro a' w' ⟨n, p, xs, v, u22, u23, u24, u25, u26, u27, u28, u29, u30, u31, u32, u33, u34, u35, u36, u37, u38, u39, rfl, HO, HB, HF, HP⟩
    obtain ⟨hp0, hp1⟩ := HP.out
    have hq : 0 ≤ p * (3 + (11 - a0) / 2) ∧ p * (3 + (11 - a0) / 2) ≤ 256 := by
      refine ⟨Int.mul_nonneg hp0 (by omega), ?_⟩
      have := Int.mul_le_mul hp1 hk.2 (by omega) (by omega)
      omega
    have hr : 0 ≤ p * (3 + (11 - a0) / 2) / 64 ∧ p * (3 + (11 - a0) / 2) / 64 ≤ 4 := by omega
    by_cases hlt : p < 32
    · have hnx := band_next (3 + (11 - a0) / 2) 32 64 p (by omega) (by omega) hp0 hlt
      obtain ⟨m, rfl⟩ : ∃ m, n = m + 1 := ⟨n - 1, by have := HF.out.2.2; omega⟩
      have hun : bandFrom (3 + (11 - a0) / 2) 32 64 (m + 1) p = p :: bandFrom (3 + (11 - a0) / 2) 32 64 m (bandNext (3 + (11 - a0) / 2) 32 64 p) := by
        rw [bandFrom, if_pos hlt]
      have HF1 : Aside0 ((xs ++ [p]) ++ bandFrom (3 + (11 - a0) / 2) 32 64 m (bandNext (3 + (11 - a0) / 2) 32 64 p) = L) := ⟨by rw [← HF.out.1, hun]; simp⟩
      have hnd : bandNext (3 + (11 - a0) / 2) 32 64 p = mn 32 (p + 4 + 4 * (p * (3 + (11 - a0) / 2) / 64)) := rfl
      have HN := Aside0.mk hnx
      have HND := Aside0.mk hnd
      clear hnx hun hnd
      have b0 : decide (p < 32) = true := decide_eq_true hlt
      go_wp2_with (first | ((with_reducible refine gate_builtin (b := .append) (xs := #[.tmp 22, .tmp 24]) rfl ?_); at_builtin; refine Kd.R_append (Kd.int .i64) (w0 := w) w.heap.size rfl (.tmp 22) (.tmp 24) 22 3 (.int .i64 0) 8 rfl Try.underlying22 info3 rfl (by decide) (by omega) (v) (xs) (p) [.int .i64 (p)] (fun _ => True) (fun _ => False) rfl rfl ?aP (fun _ hk => hk.elim) ?aF ?aO ?aB ?aS ?aL ?_; (case aP => exact rfl); (case aB => exact HB.out); (case aF => exact (fun _ _ => trivial)); (case aO => exact HO.out); (case aS => exact HB.out.size); (case aL => have := HF.out.2.1; omega); intro v1 w1 ho hb hg hat; clear hg hat; have HO1 := Aside0.mk ho; have HB1 := Aside0.mk hb; clear ho hb))
      all_goals
        have hnd := HND.out
        have hnx := HN.out
        go_step3
        refine ⟨rfl, ⟨m, _, xs ++ [p], _, _, _, _, _, _, _, _, _, _, _, _, _, _, _, _, _, _, _, rfl, HO1, HB1, ⟨?_, ?_, ?_⟩, ⟨?_⟩⟩, ?_⟩
        · have e := HF1.out
          rw [hnd] at e
          unfold mn at e
          first | (rw [if_pos (by omega)] at e; exact e) | (rw [if_neg (by omega)] at e; exact e)
        · have := HF.out.2.1
          simp
          omega
        · have := HF.out.2.2
          unfold mn at hnd
          split at hnd <;> omega
        · unfold mn at hnd
          split at hnd <;> omega
        · simp [intOf]
          unfold mn at hnd
          split at hnd <;> omega
    · have b0 : decide (p < 32) = false := decide_eq_false hlt
      have HF1 : Aside0 (L = xs ++ [p]) := ⟨by
        rw [← HF.out.1]
        cases n <;> simp [bandFrom, hlt]⟩
      go_wp2_with (first | ((with_reducible refine gate_builtin (b := .append) (xs := #[.tmp 22, .tmp 24]) rfl ?_); at_builtin; refine Kd.R_append (Kd.int .i64) (w0 := w) w.heap.size rfl (.tmp 22) (.tmp 24) 22 3 (.int .i64 0) 8 rfl Try.underlying22 info3 rfl (by decide) (by omega) (v) (xs) (p) [.int .i64 (p)] (fun _ => True) (fun _ => False) rfl rfl ?aP (fun _ hk => hk.elim) ?aF ?aO ?aB ?aS ?aL ?_; (case aP => exact rfl); (case aB => exact HB.out); (case aF => exact (fun _ _ => trivial)); (case aO => exact HO.out); (case aS => exact HB.out.size); (case aL => have := HF.out.2.1; omega); intro v1 w1 ho hb hg hat; clear hg hat; have HO1 := Aside0.mk ho; have HB1 := Aside0.mk hb; clear ho hb))
      simp only [Exit.jump]
      go_ret2
      rw [HF1.out]
      exact ⟨_, rfl, HO1.out, HB1.out⟩
def bandOffsets (rate : Int) (short : Bool) : List Int := if short = true then bandFrom (3 + (11 - rate) / 2) 32 64 64 0 else bandFrom (3 + (11 - rate) / 2) 256 256 64 0


def band_Offsets.f (a0 : Int) (a1 : Bool) : Option (List Int × Int) := some (if a0 < 0 ∨ a0 > 11 then ([], 2) else (bandOffsets a0 a1, 0))
set_option maxHeartbeats 8000000 in
set_option maxRecDepth 100000 in
theorem band_Offsets.calls (a0 : Int) (a1 : Bool) (r1 : List Int) (r2 : Int) (w : World) (h : band_Offsets.f a0 a1 = some (r1, r2)) :
    Calls Try.prog 45 #[.int .i64 a0, .bool a1] w fun e w' => ∃ v0_ : Value, e = .returned (.tuple #[v0_, .int .i64 r2]) ∧ Kd.R (Kd.int .i64) 3 w' w.heap.size (fun _ => True) v0_ r1 ∧ Below w.heap.size w w' := by
  unfold band_Offsets.f at h
  by_cases h0 : a0 < 0
  · rw [if_pos (Or.inl h0)] at h
    obtain ⟨rfl, rfl⟩ : [] = r1 ∧ 2 = r2 := by simpa using h
    have c0 : decide (a0 < 0) = true := decide_eq_true h0
    go_enter Try.func45, Try.ntmps45
    go_wp2
    go_step3
    go_wp2
    try rw [Exit.noGoto_ret]
    go_ret2
    exact ⟨_, rfl, Kd.R_nil _ _ _ _ _, Below.refl _ _⟩
  · by_cases h1 : a0 > 11
    · rw [if_pos (Or.inr h1)] at h
      obtain ⟨rfl, rfl⟩ : [] = r1 ∧ 2 = r2 := by simpa using h
      have c0 : decide (a0 < 0) = false := decide_eq_false h0
      have c1 : decide (a0 > 11) = true := decide_eq_true h1
      go_enter Try.func45, Try.ntmps45
      go_wp2
      go_step3
      go_wp2
      try rw [Exit.noGoto_ret]
      go_ret2
      exact ⟨_, rfl, Kd.R_nil _ _ _ _ _, Below.refl _ _⟩
    · rw [if_neg (by omega)] at h
      obtain ⟨rfl, rfl⟩ : bandOffsets a0 a1 = r1 ∧ 0 = r2 := by simpa using h
      cases a1
      · exact band_Offsets.walkL a0 w (by omega) (by omega)
      · exact band_Offsets.walkS a0 w (by omega) (by omega)

end Go.Proofs.Ytjdlochffpikbaa.K
