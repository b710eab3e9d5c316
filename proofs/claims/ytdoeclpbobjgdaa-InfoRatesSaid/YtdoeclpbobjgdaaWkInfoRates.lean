/- The law InfoRates of the windows' chapter: windows that may be at a rate may be at each greater one; a rate's own bands all may be sent, and one more may not; for every two rates and windows. -/
import Derived.Test.YtdoeclpbobjgdaaKx5
import Derived.Test.YtdoeclpbobjgdaaSPA
namespace Go.Proofs.Ytdoeclpbobjgdaa.Wk
open Go.RowKit Go.Proofs.Ytdoeclpbobjgdaa.K Go.Proofs.Ytdoeclpbobjgdaa.SP Go.Proofs.Ytdoeclpbobjgdaa.HP Go.Proofs.YtdoeclpbobjgdaaW.PrintWords Go.Proofs.YtdoeclpbobjgdaaW.PrintLast Go.Proofs.YtdoeclpbobjgdaaW.PrintMore

set_option linter.unusedVariables false

theorem rates_alive : reedpipelaw10_alive.f = some true := by decide +kernel
theorem bands_rise : ∀ a b : Fin 12, a ≤ b → bandMany (a.val : Int) true ≤ bandMany (b.val : Int) true ∧ bandMany (a.val : Int) false ≤ bandMany (b.val : Int) false := by decide +kernel
theorem bandMany_rise (a b : Int) (s : Bool) (h0 : 0 ≤ a) (h1 : a ≤ b) (h2 : b ≤ 11) : bandMany a s ≤ bandMany b s := by
  have := bands_rise ⟨a.toNat, by omega⟩ ⟨b.toNat, by omega⟩ (by show a.toNat ≤ b.toNat; omega)
  simp only [Int.toNat_of_nonneg h0, Int.toNat_of_nonneg (show 0 ≤ b by omega)] at this
  cases s
  · exact this.2
  · exact this.1
theorem bandMany_pos (a : Int) (s : Bool) : 0 ≤ bandMany a s := by
  have := (bandOffsets_length a s).1
  unfold bandMany
  omega
theorem infoOk_max {many many' seq shape max max' : Int} {gs : List Int} (h : infoOk many seq shape max gs = true) (h0 : 0 ≤ max') (h1 : max' ≤ many') : infoOk many' seq shape max' gs = true := by
  unfold infoOk at h ⊢
  simp only [Bool.and_eq_true, decide_eq_true_eq] at h ⊢
  exact ⟨⟨⟨⟨h.1.1.1.1, h.1.1.1.2⟩, h0⟩, h1⟩, h.2⟩
theorem mn_le (a b : Int) : mn a b ≤ mx a b := by
  unfold mn mx
  split <;> split <;> omega
theorem rates_true (a b s sh m : Int) (l : List Int) : reedpipelaw10_InfoRates.f 1010 a b s sh m l = some true := by
  unfold reedpipelaw10_InfoRates.f
  rw [rates_alive]
  simp only [Option.bind_some]
  by_cases hl : (l.length : Int) > 1000
  · rw [if_pos hl]
    simp only [reedpipelaw10_InfoRates.j0, if_true]
  · rw [if_neg hl]
    have ck : ∀ r m', info_Check.f 1009 r s sh m' l = some (checkS r s sh m' l) := fun r m' => check_f r s sh m' l (by omega) 1009 (by omega)
    simp only [reedpipelaw10_InfoRates.j0, Bool.not_true, Bool.false_eq_true, if_false, many_f, ck, Option.bind_some]
    have hlo := mn_le a b
    generalize mn a b = lo at *
    generalize mx a b = hi at *
    by_cases h1 : checkS lo s sh m l = 0
    · obtain ⟨g0, g1, hs, hsh, hm0, hm40, hm15, hio⟩ := checkS_ok h1
      have hman : manyS lo (s == 2) = (bandMany lo (s == 2), 0) := by unfold manyS; rw [if_neg (by omega)]
      have hbp := bandMany_pos lo (s == 2)
      have hbl := (bandOffsets_length lo (s == 2)).2
      have c2 : checkS lo s sh (bandMany lo (s == 2)) l = 0 := by
        unfold checkS
        rw [if_neg (by omega), if_pos (infoOk_max hio hbp (Int.le_refl _))]
      have c3 : checkS lo s sh (wrap64 (bandMany lo (s == 2) + 1)) l = 8 := by
        unfold checkS
        rw [wrap_id _ (by unfold bandMany; omega) (by unfold bandMany; omega), if_neg (by omega), if_neg]
        unfold infoOk
        rw [decide_eq_false (show ¬ bandMany lo (s == 2) + 1 ≤ bandMany lo (s == 2) by omega)]
        simp
      rw [if_pos h1, hman]
      simp only [c2, c3, if_true]
      by_cases h2 : hi ≤ 11
      · have c4 : checkS hi s sh m l = 0 := by
          unfold checkS
          rw [if_neg (by omega), if_pos]
          have h5 := hio
          unfold infoOk at h5
          simp only [Bool.and_eq_true, decide_eq_true_eq] at h5
          exact infoOk_max hio hm0 (Int.le_trans h5.1.2 (bandMany_rise lo hi (s == 2) g0 hlo h2))
        rw [if_pos c4]
        rfl
      · have c4 : ¬ checkS hi s sh m l = 0 := by
          unfold checkS
          rw [if_pos (by omega)]
          omega
        rw [if_neg c4, if_pos (by omega)]
        rfl
    · rw [if_neg h1]
      by_cases hr : lo < 0 ∨ lo > 11
      · have hman : manyS lo (s == 2) = (0, 2) := by unfold manyS; rw [if_pos hr]
        have c1 : checkS lo s sh m l = 2 := by unfold checkS; rw [if_pos hr]
        rw [hman, c1]
        rfl
      · have hman : manyS lo (s == 2) = (bandMany lo (s == 2), 0) := by unfold manyS; rw [if_neg hr]
        rw [hman]
        rfl
theorem InfoRates (W : World) (a0 a1 s_2 sh_2 m_2 : Int) (A_2 : Option Addr) (c_2 : Nat) (l_2 : List Int) (w0 : (Lit.int .i64 a0).wf = true) (w1 : (Lit.int .i64 a1).wf = true) (hc_2 : l_2.length ≤ c_2) (hr_2 : Kd.C (Kd.int .i64) W A_2 l_2.length l_2)
    (ws_2 : 0 ≤ s_2 ∧ s_2 ≤ 255) (wsh_2 : 0 ≤ sh_2 ∧ sh_2 ≤ 255) (wm_2 : -9223372036854775808 ≤ m_2 ∧ m_2 ≤ 9223372036854775807) (wl_2 : ∀ y ∈ l_2, -9223372036854775808 ≤ y ∧ y ≤ 9223372036854775807) :
    Calls Try.prog 5 #[.int .i64 a0, .int .i64 a1, .agg #[.int .u8 s_2, .int .u8 sh_2, .int .i64 m_2, .slice A_2 l_2.length c_2]] W fun e w' => e = .returned (.bool true) ∧ Below W.heap.size W w' :=
  reedpipelaw10_InfoRates.calls 1010 a0 a1 s_2 sh_2 m_2 A_2 c_2 l_2 true W hr_2 hc_2 (rates_true a0 a1 s_2 sh_2 m_2 l_2)
end Go.Proofs.Ytdoeclpbobjgdaa.Wk
