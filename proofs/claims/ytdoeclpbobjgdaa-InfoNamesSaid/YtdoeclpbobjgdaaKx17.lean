-- Written for this claim by this session's own wip/hook.py (it runs the kit's print and takes some functions' contracts as given texts of this session's).
import Derived.Test.YtdoeclpbobjgdaaKx0
namespace Go.Proofs.Ytdoeclpbobjgdaa.K
open Go.RowKit Go.Proofs.YtdoeclpbobjgdaaW.PrintWords Go.Proofs.YtdoeclpbobjgdaaW.PrintLast Go.Proofs.YtdoeclpbobjgdaaW.PrintMore
attribute [local go_sem] max2_int min2_int max_two min_two max_three min_three max_four min_four   -- for this text's walks alone
set_option linter.unusedVariables false
set_option linter.unusedSimpArgs false

/-! ### info_After: function 17: GIVEN BY HAND -/
set_option maxHeartbeats 4000000 in
set_option maxRecDepth 100000 in
theorem info_After.follow (w : World) : Calls Try.prog 32 #[] w fun e w' => e = .returned (.agg #[.bool true, .bool true, .bool false, .bool false, .bool false, .bool false, .bool true, .bool true, .bool false, .bool false, .bool true, .bool true, .bool true, .bool true, .bool false, .bool false]) ∧ Below w.heap.size w w' := by
  go_enter Try.func32, Try.ntmps32
  go_wp2
  refine bodyPost_ret (v := .agg #[.bool true, .bool true, .bool false, .bool false, .bool false, .bool false, .bool true, .bool true, .bool false, .bool false, .bool true, .bool true, .bool true, .bool true, .bool false, .bool false]) (by simp [results, Try.results32, go_sem]) rfl ⟨rfl, below_alloc (Below.refl _ _) _⟩
theorem info_After.r0 (w : World) : (Instr.index 53 (.agg #[.bool true, .bool true, .bool false, .bool false, .bool false, .bool false, .bool true, .bool true, .bool false, .bool false, .bool true, .bool true, .bool true, .bool true, .bool false, .bool false]) (.int .u8 0)).run Try.prog w = .ok (.agg #[.bool true, .bool true, .bool false, .bool false]) w := by kernel_rfl
theorem info_After.r1 (w : World) : (Instr.index 53 (.agg #[.bool true, .bool true, .bool false, .bool false, .bool false, .bool false, .bool true, .bool true, .bool false, .bool false, .bool true, .bool true, .bool true, .bool true, .bool false, .bool false]) (.int .u8 1)).run Try.prog w = .ok (.agg #[.bool false, .bool false, .bool true, .bool true]) w := by kernel_rfl
theorem info_After.r2 (w : World) : (Instr.index 53 (.agg #[.bool true, .bool true, .bool false, .bool false, .bool false, .bool false, .bool true, .bool true, .bool false, .bool false, .bool true, .bool true, .bool true, .bool true, .bool false, .bool false]) (.int .u8 2)).run Try.prog w = .ok (.agg #[.bool false, .bool false, .bool true, .bool true]) w := by kernel_rfl
theorem info_After.r3 (w : World) : (Instr.index 53 (.agg #[.bool true, .bool true, .bool false, .bool false, .bool false, .bool false, .bool true, .bool true, .bool false, .bool false, .bool true, .bool true, .bool true, .bool true, .bool false, .bool false]) (.int .u8 3)).run Try.prog w = .ok (.agg #[.bool true, .bool true, .bool false, .bool false]) w := by kernel_rfl
theorem info_After.o0 (w : World) : (Instr.index 52 (.agg #[.bool true, .bool true, .bool false, .bool false]) (.int .u8 0)).run Try.prog w = .ok (.bool true) w := by kernel_rfl
theorem info_After.o1 (w : World) : (Instr.index 52 (.agg #[.bool true, .bool true, .bool false, .bool false]) (.int .u8 1)).run Try.prog w = .ok (.bool true) w := by kernel_rfl
theorem info_After.o2 (w : World) : (Instr.index 52 (.agg #[.bool true, .bool true, .bool false, .bool false]) (.int .u8 2)).run Try.prog w = .ok (.bool false) w := by kernel_rfl
theorem info_After.o3 (w : World) : (Instr.index 52 (.agg #[.bool true, .bool true, .bool false, .bool false]) (.int .u8 3)).run Try.prog w = .ok (.bool false) w := by kernel_rfl
theorem info_After.c0 (w : World) : (Instr.index 52 (.agg #[.bool false, .bool false, .bool true, .bool true]) (.int .u8 0)).run Try.prog w = .ok (.bool false) w := by kernel_rfl
theorem info_After.c1 (w : World) : (Instr.index 52 (.agg #[.bool false, .bool false, .bool true, .bool true]) (.int .u8 1)).run Try.prog w = .ok (.bool false) w := by kernel_rfl
theorem info_After.c2 (w : World) : (Instr.index 52 (.agg #[.bool false, .bool false, .bool true, .bool true]) (.int .u8 2)).run Try.prog w = .ok (.bool true) w := by kernel_rfl
theorem info_After.c3 (w : World) : (Instr.index 52 (.agg #[.bool false, .bool false, .bool true, .bool true]) (.int .u8 3)).run Try.prog w = .ok (.bool true) w := by kernel_rfl
def afterB (was now : Int) : Bool := if was = 0 ∨ was = 3 then decide (now = 0 ∨ now = 1) else if was = 1 ∨ was = 2 then decide (now = 2 ∨ now = 3) else false

def info_After.f (a0 : Int) (a1 : Int) : Option (Bool) := if 0 ≤ a0 ∧ 0 ≤ a1 then some (afterB a0 a1) else none
set_option maxHeartbeats 8000000 in
set_option maxRecDepth 100000 in
theorem info_After.calls (a0 : Int) (a1 : Int) (r : Bool) (w : World) (h : info_After.f a0 a1 = some r) :
    Calls Try.prog 17 #[.int .u8 a0, .int .u8 a1] w fun e w' => e = .returned (.bool r) ∧ Below w.heap.size w w' := by
  unfold info_After.f at h
  by_cases hb : 0 ≤ a0 ∧ 0 ≤ a1
  · rw [if_pos hb] at h
    obtain rfl := Option.some.inj h
    obtain ⟨h0, h1⟩ := hb
    by_cases c0 : a0 < 4
    · by_cases c1 : a1 < 4
      · obtain rfl | rfl | rfl | rfl : a0 = 0 ∨ a0 = 1 ∨ a0 = 2 ∨ a0 = 3 := by omega
        all_goals
          obtain rfl | rfl | rfl | rfl : a1 = 0 ∨ a1 = 1 ∨ a1 = 2 ∨ a1 = 3 := by omega
          all_goals
            clear h0 h1 c0 c1
            have g0 := info_After.r0
            have g1 := info_After.r1
            have g2 := info_After.r2
            have g3 := info_After.r3
            have g4 := info_After.o0
            have g5 := info_After.o1
            have g6 := info_After.o2
            have g7 := info_After.o3
            have g8 := info_After.c0
            have g9 := info_After.c1
            have g10 := info_After.c2
            have g11 := info_After.c3
            go_enter Try.func17, Try.ntmps17
            go_wp2_with (go_at_call 32; (with_reducible refine (info_After.follow _).mono ?_); rintro e w' ⟨rfl, hb⟩; have HB := Aside0.mk hb; clear hb)
            go_ret
            exact ⟨rfl, HB.out⟩
      · have b0 : decide (a0 < 4) = true := decide_eq_true c0
        have b1 : decide (a1 < 4) = false := decide_eq_false c1
        have hv : Aside0 (afterB a0 a1 = false) := ⟨by
          unfold afterB
          split
          · exact decide_eq_false (by omega)
          · split
            · exact decide_eq_false (by omega)
            · rfl⟩
        go_enter Try.func17, Try.ntmps17
        go_wp2
        go_ret
        exact ⟨by rw [hv.out]; rfl, Below.refl _ _⟩
    · have b0 : decide (a0 < 4) = false := decide_eq_false c0
      have hv : Aside0 (afterB a0 a1 = false) := ⟨by
          unfold afterB
          split
          · exact decide_eq_false (by omega)
          · split
            · exact decide_eq_false (by omega)
            · rfl⟩
      go_enter Try.func17, Try.ntmps17
      go_wp2
      go_ret
      exact ⟨by rw [hv.out]; rfl, Below.refl _ _⟩
  · rw [if_neg hb] at h
    cases h

end Go.Proofs.Ytdoeclpbobjgdaa.K
