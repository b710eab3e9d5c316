/- The law InfoGroups of the windows' chapter: each window is in one group, groups rise by at most one, and have as many windows as they tell; for every windows that may be. -/
import Derived.Test.YtdoeclpbobjgdaaKx4
import Derived.Test.YtdoeclpbobjgdaaSPA
namespace Go.Proofs.Ytdoeclpbobjgdaa.Wk
open Go.RowKit Go.Proofs.Ytdoeclpbobjgdaa.K Go.Proofs.Ytdoeclpbobjgdaa.SP Go.Proofs.Ytdoeclpbobjgdaa.HP Go.Proofs.YtdoeclpbobjgdaaW.PrintWords Go.Proofs.YtdoeclpbobjgdaaW.PrintLast Go.Proofs.YtdoeclpbobjgdaaW.PrintMore
set_option linter.unusedVariables false

theorem groups_alive : reedpipelaw10_alive.f = some true := by decide +kernel
/-- How many of the windows ahead of w each group has. -/
def hd (g w : Int) : Int := if w ≤ 0 then 0 else if w ≤ g then w else g
def counts : List Int → Int → List Int
  | [], _ => []
  | g :: gs, w => hd g w :: counts gs (w - g)
def allPos (gs : List Int) : Prop := ∀ g ∈ gs, 1 ≤ g
theorem counts_length : ∀ (gs : List Int) (w : Int), (counts gs w).length = gs.length
  | [], _ => rfl
  | g :: gs, w => by simp [counts, counts_length gs]
theorem counts_none : ∀ (gs : List Int) (w : Int), allPos gs → w ≤ 0 → counts gs w = List.replicate gs.length 0
  | [], _, _, _ => rfl
  | g :: gs, w, h, h0 => by
    have hg := h g List.mem_cons_self
    have ih := counts_none gs (w - g) (fun x hx => h x (List.mem_cons_of_mem _ hx)) (by omega)
    simp only [counts, ih, hd, if_pos h0, List.length_cons, List.replicate_succ]
theorem counts_all : ∀ (gs : List Int) (w : Int), allPos gs → w = gs.sum → counts gs w = gs
  | [], _, _, _ => rfl
  | g :: gs, w, h, h0 => by
    have hg := h g List.mem_cons_self
    have hp : allPos gs := fun x hx => h x (List.mem_cons_of_mem _ hx)
    simp only [List.sum_cons] at h0
    have hs : 0 ≤ gs.sum := by
      clear h h0 hg
      induction gs with
      | nil => simp
      | cons x xs ih =>
        have := hp x List.mem_cons_self
        have := ih (fun y hy => hp y (List.mem_cons_of_mem _ hy))
        simp only [List.sum_cons]
        omega
    have ih := counts_all gs (w - g) hp (by omega)
    simp only [counts, ih, hd]
    rw [if_neg (by omega)]
    split
    · congr 1; omega
    · rfl
theorem counts_step : ∀ (gs : List Int) (w : Int), allPos gs → 0 ≤ w → w < gs.sum → ∃ c, (counts gs w)[groupOf gs w]? = some c ∧ 0 ≤ c ∧ c ≤ w ∧ counts gs (w + 1) = (counts gs w).set (groupOf gs w) (c + 1)
  | [], w, _, h0, h1 => by simp at h1; omega
  | g :: gs, w, h, h0, h1 => by
    have hg := h g List.mem_cons_self
    have hp : allPos gs := fun x hx => h x (List.mem_cons_of_mem _ hx)
    simp only [List.sum_cons] at h1
    unfold groupOf
    by_cases hw : w < g
    · rw [if_pos hw]
      refine ⟨w, ?_, h0, Int.le_refl _, ?_⟩
      · simp only [counts, List.getElem?_cons_zero, hd]
        congr 1
        split
        · omega
        · split <;> omega
      · simp only [counts, List.set_cons_zero]
        rw [counts_none gs (w - g) hp (by omega), counts_none gs (w + 1 - g) hp (by omega)]
        congr 1
        unfold hd
        rw [if_neg (by omega), if_pos (by omega)]
    · rw [if_neg hw]
      obtain ⟨c, h2, h3, h4, h5⟩ := counts_step gs (w - g) hp (by omega) (by omega)
      refine ⟨c, ?_, h3, by omega, ?_⟩
      · simp only [counts, List.getElem?_cons_succ]
        exact h2
      · simp only [counts, List.set_cons_succ]
        rw [show w + 1 - g = w - g + 1 by omega, h5]
        congr 1
        unfold hd
        rw [if_neg (by omega), if_neg (by omega)]
        repeat' split
        all_goals omega
theorem groupOf_zero (gs : List Int) (h : allPos gs) : groupOf gs 0 = 0 := by
  cases gs with
  | nil => rfl
  | cons g gs =>
    have := h g List.mem_cons_self
    unfold groupOf
    rw [if_pos (by omega)]
theorem groupOf_next : ∀ (gs : List Int) (w : Int), allPos gs → 0 ≤ w → groupOf gs w ≤ groupOf gs (w + 1) ∧ groupOf gs (w + 1) ≤ groupOf gs w + 1
  | [], _, _, _ => by simp [groupOf]
  | g :: gs, w, h, h0 => by
    have hg := h g List.mem_cons_self
    have hp : allPos gs := fun x hx => h x (List.mem_cons_of_mem _ hx)
    unfold groupOf
    by_cases h1 : w + 1 < g
    · rw [if_pos h1, if_pos (by omega)]
      omega
    · rw [if_neg h1]
      by_cases h2 : w < g
      · rw [if_pos h2, show w + 1 - g = 0 by omega, groupOf_zero gs hp]
        omega
      · rw [if_neg h2, show w + 1 - g = w - g + 1 by omega]
        have := groupOf_next gs (w - g) hp (by omega)
        omega
theorem allPos_of {gs : List Int} (h : gs.all (fun g => decide (1 ≤ g) && decide (g ≤ 8)) = true) : allPos gs := fun g hg => by
  have := List.all_eq_true.1 h g hg
  simp only [Bool.and_eq_true, decide_eq_true_eq] at this
  exact this.1
theorem same_l1 (gs : List Int) (s sh m : Int) (hb : gs.length ≤ 1000) : ∀ (d k i : Nat), gs.length - i = d → i ≤ gs.length → d < k → reedpipelaw10_InfoGroups.l1 k gs 2 (i : Int) s sh m gs = some true := by
  intro d
  induction d with
  | zero =>
    intro k i hd hi hk
    obtain ⟨k, rfl⟩ : ∃ m, k = m + 1 := ⟨k - 1, by omega⟩
    simp only [reedpipelaw10_InfoGroups.l1]
    rw [if_neg (by omega)]
    rfl
  | succ d ih =>
    intro k i hd hi hk
    obtain ⟨k, rfl⟩ : ∃ m, k = m + 1 := ⟨k - 1, by omega⟩
    simp only [reedpipelaw10_InfoGroups.l1, if_true]
    rw [if_pos (by omega), if_pos (by omega), wrap_succ i (by omega), ih k (i + 1) (by omega) (by omega) (by omega), if_pos (by omega)]
/-- The walk over the windows, from one on. -/
theorem walk_l0 (gs : List Int) (s sh m : Int) (hs : someS s sh m gs = true) (n : Int) (hn : n = (if s = 2 then 8 else 1)) : ∀ (d k : Nat) (w last : Int), n - w = d → 0 ≤ w → 1020 + d < k → (w = 0 → last = 0) → (0 < w → last = (groupOf gs (w - 1) : Int)) →
    reedpipelaw10_InfoGroups.l0 k n (counts gs w) last w s sh m gs = some true := by
  obtain ⟨ha, hsum, hl8, hlp⟩ := someS_all hs
  have hp := allPos_of ha
  rw [← hn] at hsum
  have hn8 : 1 ≤ n ∧ n ≤ 8 := by rw [hn]; split <;> omega
  have gr : ∀ (k : Nat) (w : Int), 1010 < k → info_Group.f k s sh m gs w = some (groupS s sh m gs w) := fun k w hk => group_f s sh m gs (by omega) w k (by omega)
  intro d
  induction d with
  | zero =>
    intro k w last hd h0 hk _ _
    obtain rfl : w = n := by omega
    obtain ⟨k, rfl⟩ : ∃ m, k = m + 1 := ⟨k - 1, by omega⟩
    simp only [reedpipelaw10_InfoGroups.l0]
    rw [if_neg (by omega), gr k w (by omega)]
    have hg : groupS s sh m gs w = (0, 2) := by
      unfold groupS
      rw [if_pos hs, if_pos (Or.inr (by rw [hn]; exact Int.le_refl _))]
    rw [hg, counts_all gs w hp hsum.symm]
    simp only [Option.bind_some]
    exact same_l1 gs s sh m (by omega) gs.length k 0 (by omega) (by omega) (by omega)
  | succ d ih =>
    intro k w last hd h0 hk hl0 hl1
    obtain ⟨k, rfl⟩ : ∃ m, k = m + 1 := ⟨k - 1, by omega⟩
    simp only [reedpipelaw10_InfoGroups.l0]
    rw [if_pos (by omega), gr k w (by omega)]
    have hg : groupS s sh m gs w = ((groupOf gs w : Int), 0) := by
      unfold groupS
      rw [if_pos hs, if_neg]
      rw [← hn]
      omega
    have hlt : groupOf gs w < gs.length := groupOf_lt gs w h0 (by omega)
    have hcl := counts_length gs w
    obtain ⟨c, hc1, hc2, hc3, hc4⟩ := counts_step gs w hp h0 (by omega)
    have hlast : last ≤ (groupOf gs w : Int) ∧ (groupOf gs w : Int) ≤ last + 1 ∧ 0 ≤ last ∧ (w = 0 → groupOf gs w = 0) := by
      rcases Int.lt_or_eq_of_le h0 with hw | hw
      · have hln := hl1 hw
        have := groupOf_next gs (w - 1) hp (by omega)
        rw [show w - 1 + 1 = w by omega] at this
        rw [hln]
        omega
      · have := hl0 hw.symm
        have hz := groupOf_zero gs hp
        rw [← hw, hz]
        omega
    rw [hg]
    simp only [Option.bind_some, if_true]
    rw [if_neg (by omega), wrap_id (last + 1) (by omega) (by omega), if_neg (by omega), if_neg (by omega)]
    have hrd : rd (counts gs w) (groupOf gs w : Int) = c := by
      unfold rd
      rw [Int.toNat_natCast, List.getD_eq_getElem?_getD, hc1, Option.getD_some]
    have hnext : reedpipelaw10_InfoGroups.l0 k n ((counts gs w).set (groupOf gs w : Int).toNat (wrap64 (rd (counts gs w) (groupOf gs w : Int) + 1))) (groupOf gs w : Int) (wrap64 (w + 1)) s sh m gs = some true := by
      rw [hrd, wrap_id (c + 1) (by omega) (by omega), wrap_id (w + 1) (by omega) (by omega), Int.toNat_natCast, ← hc4]
      exact ih k (w + 1) _ (by omega) (by omega) (by omega) (fun h => by omega) (fun _ => by rw [show w + 1 - 1 = w by omega])
    have hge : (0 : Int) ≤ (groupOf gs w : Int) := by omega
    have hlt2 : (groupOf gs w : Int) < ((counts gs w).length : Int) := by omega
    by_cases hw : w = 0
    · rw [if_pos hw, if_pos (by have := hlast.2.2.2 hw; omega), if_pos hge, if_pos hlt2]
      exact hnext
    · rw [if_neg hw, if_pos hge, if_pos hlt2]
      exact hnext
theorem groups_true (s sh m : Int) (l : List Int) : reedpipelaw10_InfoGroups.f 1050 s sh m l = some true := by
  unfold reedpipelaw10_InfoGroups.f
  rw [groups_alive]
  simp only [Option.bind_some]
  by_cases hl : (l.length : Int) > 1000
  · rw [if_pos hl]
    simp only [reedpipelaw10_InfoGroups.j0, if_true]
  · rw [if_neg hl]
    simp only [reedpipelaw10_InfoGroups.j0, Bool.not_true, Bool.false_eq_true, if_false]
    rw [windows_f s sh m l (by omega) 1049 (by omega), group_f s sh m l (by omega) 0 1049 (by omega)]
    simp only [Option.bind_some]
    by_cases hs : someS s sh m l = true
    · have hw : windowsS s sh m l = (if s = 2 then 8 else 1, 0) := by unfold windowsS; rw [if_pos hs]
      rw [hw]
      obtain ⟨ha, hsum, hl8, hlp⟩ := someS_all hs
      simp only [if_true]
      rw [if_pos (by omega), if_pos (by simp; omega)]
      have h0 := counts_none l 0 (allPos_of ha) (Int.le_refl _)
      rw [show (l.length : Int).toNat = l.length from Int.toNat_natCast _, ← h0]
      have hn8 : (1 : Int) ≤ (if s = 2 then 8 else 1) ∧ (if s = 2 then 8 else 1 : Int) ≤ 8 := by split <;> omega
      exact walk_l0 l s sh m hs _ rfl (if s = 2 then 8 else 1 : Int).toNat 1049 0 0 (by omega) (Int.le_refl _) (by omega) (fun _ => rfl) (fun h => by omega)
    · have hw : windowsS s sh m l = (0, 8) := by unfold windowsS; rw [if_neg hs]
      have hg : groupS s sh m l 0 = (0, 8) := by unfold groupS; rw [if_neg hs]
      rw [hw, hg]
      rfl
theorem InfoGroups (W : World) (s_0 sh_0 m_0 : Int) (A_0 : Option Addr) (c_0 : Nat) (l_0 : List Int) (hc_0 : l_0.length ≤ c_0) (hr_0 : Kd.C (Kd.int .i64) W A_0 l_0.length l_0)
    (ws_0 : 0 ≤ s_0 ∧ s_0 ≤ 255) (wsh_0 : 0 ≤ sh_0 ∧ sh_0 ≤ 255) (wm_0 : -9223372036854775808 ≤ m_0 ∧ m_0 ≤ 9223372036854775807) (wl_0 : ∀ y ∈ l_0, -9223372036854775808 ≤ y ∧ y ≤ 9223372036854775807) :
    Calls Try.prog 4 #[.agg #[.int .u8 s_0, .int .u8 sh_0, .int .i64 m_0, .slice A_0 l_0.length c_0]] W fun e w' => e = .returned (.bool true) ∧ Below W.heap.size W w' :=
  reedpipelaw10_InfoGroups.calls 1050 s_0 sh_0 m_0 A_0 c_0 l_0 true W hr_0 hc_0 (groups_true s_0 sh_0 m_0 l_0)
end Go.Proofs.Ytdoeclpbobjgdaa.Wk
