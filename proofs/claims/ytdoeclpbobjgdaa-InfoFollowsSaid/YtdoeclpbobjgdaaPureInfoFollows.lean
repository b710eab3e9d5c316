/- The law InfoFollows of the windows' chapter: what may follow what; for every two numbers of eight bits. -/
import Derived.Test.YtdoeclpbobjgdaaKx7
namespace Go.Proofs.Ytdoeclpbobjgdaa.Pure
open Go.RowKit Go.Proofs.Ytdoeclpbobjgdaa.K Go.Proofs.YtdoeclpbobjgdaaW.PrintWords Go.Proofs.YtdoeclpbobjgdaaW.PrintLast

theorem follows_alive : reedpipelaw10_alive.f = some true := by decide +kernel
theorem after_far (a0 i : Int) (h0 : 0 ≤ a0) (h : 4 ≤ i) : info_After.f a0 i = some false := by
  unfold info_After.f
  rw [if_pos ⟨h0, by omega⟩]
  unfold afterB
  congr 1
  split
  · exact decide_eq_false (by omega)
  · split
    · exact decide_eq_false (by omega)
    · rfl
theorem follows_tail (a0 a1 c : Int) (h0 : 0 ≤ a0) : ∀ (d : Nat) (i : Int), i + d = 256 → 4 ≤ i → reedpipelaw10_InfoFollows.l0 (d + 1) a0 a1 c i = reedpipelaw10_InfoFollows.l0 1 a0 a1 c 256
  | 0, i, h, h4 => by
    obtain rfl : i = 256 := by omega
    rfl
  | d + 1, i, h, h4 => by
    rw [reedpipelaw10_InfoFollows.l0]
    rw [if_pos (by omega), show i % 256 = i from by omega, after_far a0 i h0 h4]
    simp only [Option.bind_some]
    rw [if_neg (by simp), show wrap64 (i + 1) = i + 1 from by unfold wrap64; omega]
    exact follows_tail a0 a1 c h0 d (i + 1) (by omega) (by omega)
theorem follows_step (k : Nat) (a0 a1 c i : Int) (hi : i < 256) (b : Bool) (hb : info_After.f a0 (i % 256) = some b) : reedpipelaw10_InfoFollows.l0 (k + 1) a0 a1 c i = reedpipelaw10_InfoFollows.l0 k a0 a1 (if b = true then wrap64 (c + 1) else c) (wrap64 (i + 1)) := by
  rw [reedpipelaw10_InfoFollows.l0, if_pos hi, hb]
  simp only [Option.bind_some]
  split <;> rfl
theorem follows_head (a0 a1 : Int) (h0 : 0 ≤ a0) : reedpipelaw10_InfoFollows.l0 257 a0 a1 0 0 = reedpipelaw10_InfoFollows.l0 253 a0 a1 (if a0 ≤ 3 then 2 else 0) 4 := by
  have hb : ∀ i : Int, 0 ≤ i → info_After.f a0 i = some (afterB a0 i) := by
    intro i hi
    unfold info_After.f
    rw [if_pos ⟨h0, hi⟩]
  rw [show (257 : Nat) = 253 + 1 + 1 + 1 + 1 from rfl, follows_step _ _ _ _ _ (by omega) _ (hb _ (by omega)), show wrap64 (0 + 1) = 1 from by decide +kernel, follows_step _ _ _ _ _ (by omega) _ (hb _ (by omega)), show wrap64 (1 + 1) = 2 from by decide +kernel,
    follows_step _ _ _ _ _ (by omega) _ (hb _ (by omega)), show wrap64 (2 + 1) = 3 from by decide +kernel, follows_step _ _ _ _ _ (by omega) _ (hb _ (by omega)), show wrap64 (3 + 1) = 4 from by decide +kernel]
  congr 1
  by_cases h : a0 ≤ 3
  · rw [if_pos h]
    obtain rfl | rfl | rfl | rfl : a0 = 0 ∨ a0 = 1 ∨ a0 = 2 ∨ a0 = 3 := by omega
    all_goals decide +kernel
  · rw [if_neg h]
    have hf : ∀ i : Int, afterB a0 i = false := by
      intro i
      unfold afterB
      rw [if_neg (by omega), if_neg (by omega)]
    simp only [hf, Bool.false_eq_true, if_false]
theorem InfoFollows : reedpipelaw10_InfoFollows.Pure := by
  intro a0 a1 w0 w1
  have h0 : 0 ≤ a0 ∧ a0 ≤ 255 := by
    have h := w0
    simp only [Lit.wf, Bool.and_eq_true, decide_eq_true_eq] at h
    exact h
  have h1 : 0 ≤ a1 ∧ a1 ≤ 255 := by
    have h := w1
    simp only [Lit.wf, Bool.and_eq_true, decide_eq_true_eq] at h
    exact h
  refine ⟨257, ?_⟩
  unfold reedpipelaw10_InfoFollows.f
  rw [follows_head a0 a1 h0.1, follows_tail a0 a1 _ h0.1 252 4 (by omega) (by omega), reedpipelaw10_InfoFollows.l0, if_neg (by omega)]
  by_cases h : a0 ≤ 3
  · rw [if_neg (by omega), if_pos h]
    have ha : info_After.f a0 a1 = some (afterB a0 a1) := by
      unfold info_After.f
      rw [if_pos ⟨h0.1, h1.1⟩]
    rw [ha, follows_alive]
    simp only [Option.bind_some, if_true]
    have h4 : a1 = 0 ∨ a1 = 1 ∨ a1 = 2 ∨ a1 = 3 ∨ 4 ≤ a1 := by omega
    obtain rfl | rfl | rfl | rfl : a0 = 0 ∨ a0 = 1 ∨ a0 = 2 ∨ a0 = 3 := by omega
    all_goals
      rcases h4 with rfl | rfl | rfl | rfl | h4
      · rfl
      · rfl
      · rfl
      · rfl
      · have e2 : ¬ a1 = 2 := by omega
        have e3 : ¬ a1 ≤ 3 := by omega
        have e5 : ¬ a1 = 3 := by omega
        have e6 : ¬ a1 = 0 := by omega
        have e7 : ¬ a1 = 1 := by omega
        simp [e2, e3, e5, e6, e7, afterB]
  · rw [if_pos (by omega), if_neg h, follows_alive]
    rfl

end Go.Proofs.Ytdoeclpbobjgdaa.Pure
