-- Written for this claim by this session's own wip/hook.py (it runs the kit's print and takes some functions' contracts as given texts of this session's).
import Derived.Test.YtapaahhegjlbgaaKx0
import Derived.Test.YtapaahhegjlbgaaKx33
import Derived.Test.YtapaahhegjlbgaaKx76
namespace Go.Proofs.Ytapaahhegjlbgaa.K
open Go.RowKit Go.Proofs.YtapaahhegjlbgaaW.PrintWords Go.Proofs.YtapaahhegjlbgaaW.PrintLast Go.Proofs.YtapaahhegjlbgaaW.PrintMore
attribute [local go_sem] max2_int min2_int max_two min_two max_three min_three max_four min_four   -- for this text's walks alone
set_option linter.unusedVariables false
set_option linter.unusedSimpArgs false

/-! ### reedpiperef04_sine: function 72 -/
def reedpiperef04_sine.l0 : Nat → Int → Int → Int → Int → Option (Int)
  | 0, _, _, _, _ => none
  | k + 1, x4, x5, x6, x7 => if x7 ≤ 7 then ((reedpiperef03_Down.f (wrap64 (x5 * x4)) 30).bind fun t140 => (if (wrap64 ((wrap64 (2 * x7)) * (wrap64 ((wrap64 (2 * x7)) + 1)))) = 0 then (none) else (if (Int.tmod x7 2) = 1 then (reedpiperef04_sine.l0 k x4 (wrap64 (Int.tdiv t140 (wrap64 ((wrap64 (2 * x7)) * (wrap64 ((wrap64 (2 * x7)) + 1)))))) (wrap64 (x6 - (wrap64 (Int.tdiv t140 (wrap64 ((wrap64 (2 * x7)) * (wrap64 ((wrap64 (2 * x7)) + 1)))))))) (wrap64 (x7 + 1))) else (reedpiperef04_sine.l0 k x4 (wrap64 (Int.tdiv t140 (wrap64 ((wrap64 (2 * x7)) * (wrap64 ((wrap64 (2 * x7)) + 1)))))) (wrap64 (x6 + (wrap64 (Int.tdiv t140 (wrap64 ((wrap64 (2 * x7)) * (wrap64 ((wrap64 (2 * x7)) + 1)))))))) (wrap64 (x7 + 1)))))) else (some x6)
def reedpiperef04_sine.f (k : Nat) (a0 : Int) : Option (Int) := (reedpiperef04_arc.f a0).bind fun t138 => ((reedpiperef03_Down.f (wrap64 (t138 * t138)) 30).bind fun t139 => (reedpiperef04_sine.l0 k t139 t138 t138 1))
theorem reedpiperef04_sine.mono_l : ∀ k, (∀ y0 y1 y2 y3, LeO (reedpiperef04_sine.l0 k y0 y1 y2 y3) (reedpiperef04_sine.l0 (k + 1) y0 y1 y2 y3))
  | 0 => fun _ _ _ _ r h => by simp [reedpiperef04_sine.l0] at h
  | k + 1 => by
    have ih0 := reedpiperef04_sine.mono_l k
    · intro y0 y1 y2 y3
      unfold reedpiperef04_sine.l0
      repeat' first
      | (with_reducible exact ih0 _ _ _ _)
      | (with_reducible exact LeO.refl _)
      | (with_reducible exact LeO.none _)
      | (with_reducible refine LeO.ite ?_ ?_)
      | (with_reducible refine LeO.bind ?_ (fun _ => ?_))
      | exact ih0 _ _ _ _
      | exact LeO.none _
      | refine LeO.ite ?_ ?_
      | refine LeO.bind ?_ (fun _ => ?_)
theorem reedpiperef04_sine.mono : ∀ a0 k, LeO (reedpiperef04_sine.f k a0) (reedpiperef04_sine.f (k + 1) a0) := by
  intro a0 k
  have ih0 := reedpiperef04_sine.mono_l k
  unfold reedpiperef04_sine.f
  repeat' first
      | (with_reducible exact ih0 _ _ _ _)
      | (with_reducible exact LeO.refl _)
      | (with_reducible exact LeO.none _)
      | (with_reducible refine LeO.ite ?_ ?_)
      | (with_reducible refine LeO.bind ?_ (fun _ => ?_))
      | exact ih0 _ _ _ _
      | exact LeO.none _
      | refine LeO.ite ?_ ?_
      | refine LeO.bind ?_ (fun _ => ?_)
set_option maxHeartbeats 8000000 in
set_option maxRecDepth 100000 in
theorem reedpiperef04_sine.calls (k : Nat) (a0 : Int) (r : Int) (w : World) (h : reedpiperef04_sine.f k a0 = some r) :
    Calls Try.prog 72 #[.int .i64 a0] w fun e w' => e = .returned (.int .i64 r) ∧ Drawn0 w w' := by
  have H : ((reedpiperef04_arc.f a0).bind fun t138 => ((reedpiperef03_Down.f (wrap64 (t138 * t138)) 30).bind fun t139 => (reedpiperef04_sine.l0 k t139 t138 t138 1))) = some r := h
  clear h
  replace H := Option.bind_eq_some_iff.mp H
  obtain ⟨t138, A20, H⟩ := H
  replace H : ((reedpiperef03_Down.f (wrap64 (t138 * t138)) 30).bind fun t139 => (reedpiperef04_sine.l0 k t139 t138 t138 1)) = some r := H
  have A2 := Aside0.mk A20
  clear A20
  replace H := Option.bind_eq_some_iff.mp H
  obtain ⟨t139, A30, H⟩ := H
  replace H : (reedpiperef04_sine.l0 k t139 t138 t138 1) = some r := H
  have A3 := Aside0.mk A30
  clear A30
  have H' := Aside0.mk H
  clear H
  go_enter Try.func72, Try.ntmps72
  go_wp2_with (first | ((with_reducible refine gate_callee (f := 76) rfl ?_); refine goesL_ (some 9) rfl rfl Try.func76 (by kernel_rfl) rfl #[.int .i64 a0] rfl (by (try simp only [List.map_toArray, List.map_cons, List.map_nil]); first | done | rfl | (simp only [List.length_drop, List.length_take]; rfl)) ?_; (with_reducible refine (reedpiperef04_arc.calls a0 t138 _ A2.out).mono ?_); rintro e w' ⟨rfl, ⟨nd, rfl⟩⟩; refine ⟨_, rfl, ?_⟩) | ((with_reducible refine gate_callee (f := 33) rfl ?_); refine goesL_ (some 13) rfl rfl Try.func33 (by kernel_rfl) rfl #[.int .i64 (wrap64 (t138 * t138)), .int .i64 30] rfl (by (try simp only [List.map_toArray, List.map_cons, List.map_nil]); first | done | rfl | (simp only [List.length_drop, List.length_take]; rfl)) ?_; (with_reducible refine (reedpiperef03_Down.calls (wrap64 (t138 * t138)) 30 t139 _ A3.out).mono ?_); rintro e w' ⟨rfl, ⟨nd, rfl⟩⟩; refine ⟨_, rfl, ?_⟩))
  go_loopg [5, 6, 7] k (fun kq v5 v6 v7 w' => ∃ (x5_1 : Int) (x6_1 : Int) (x7_1 : Int), v5 = .int .i64 x5_1 ∧ v6 = .int .i64 x6_1 ∧ v7 = .int .i64 x7_1 ∧ Aside0 (reedpiperef04_sine.l0 kq t139 x5_1 x6_1 x7_1 = some r) ∧ Aside0 (kq ≤ k) ∧ Drawn0 w w')
  case atStart => exact ⟨(t138), (t138), (1), (by first | rfl | (simp; done) | (simp [*]; done)), (by first | rfl | (simp; done) | (simp [*]; done)), (by first | rfl | (simp; done) | (simp [*]; done)), H', ⟨Nat.le_refl _⟩, by repeat (first | exact Drawn0.refl _ | apply Drawn0.step)⟩
  case round =>
    clear H'
    try clear p2
    try clear c3
    obtain ⟨x5_1, x6_1, x7_1, rfl, rfl, rfl, HA, HK1, ⟨m1, rfl⟩⟩ := hrel
    cases gk with
    | zero => exact absurd HA.out (by simp [reedpiperef04_sine.l0])
    | succ k1 =>
      have H := HA.out
      clear HA
      simp only [reedpiperef04_sine.l0] at H
      by_cases c4 : x7_1 ≤ 7
      · rw [if_pos c4] at H
        have c4b0 : decide (x7_1 ≤ 7) = true := decide_eq_true c4
        clear c4
        replace H := Option.bind_eq_some_iff.mp H
        obtain ⟨t140, A50, H⟩ := H
        replace H : (if (wrap64 ((wrap64 (2 * x7_1)) * (wrap64 ((wrap64 (2 * x7_1)) + 1)))) = 0 then (none) else (if (Int.tmod x7_1 2) = 1 then (reedpiperef04_sine.l0 k1 t139 (wrap64 (Int.tdiv t140 (wrap64 ((wrap64 (2 * x7_1)) * (wrap64 ((wrap64 (2 * x7_1)) + 1)))))) (wrap64 (x6_1 - (wrap64 (Int.tdiv t140 (wrap64 ((wrap64 (2 * x7_1)) * (wrap64 ((wrap64 (2 * x7_1)) + 1)))))))) (wrap64 (x7_1 + 1))) else (reedpiperef04_sine.l0 k1 t139 (wrap64 (Int.tdiv t140 (wrap64 ((wrap64 (2 * x7_1)) * (wrap64 ((wrap64 (2 * x7_1)) + 1)))))) (wrap64 (x6_1 + (wrap64 (Int.tdiv t140 (wrap64 ((wrap64 (2 * x7_1)) * (wrap64 ((wrap64 (2 * x7_1)) + 1)))))))) (wrap64 (x7_1 + 1))))) = some r := H
        have A5 := Aside0.mk A50
        clear A50
        by_cases c6 : (wrap64 ((wrap64 (2 * x7_1)) * (wrap64 ((wrap64 (2 * x7_1)) + 1)))) = 0
        · rw [if_pos c6] at H
          exact absurd H (by simp)
        · rw [if_neg c6] at H
          have c6b0 : ((wrap64 ((wrap64 (2 * x7_1)) * (wrap64 ((wrap64 (2 * x7_1)) + 1)))) == 0) = false := beq_eq_false_iff_ne.mpr c6
          have c6b1 : ((wrap64 ((wrap64 (2 * x7_1)) * (wrap64 ((wrap64 (2 * x7_1)) + 1)))) != 0) = true := bne_iff_ne.mpr c6
          by_cases c7 : (Int.tmod x7_1 2) = 1
          · rw [if_pos c7] at H
            have c7b0 : ((Int.tmod x7_1 2) == 1) = true := beq_iff_eq.mpr c7
            have c7b1 : ((Int.tmod x7_1 2) != 1) = false := bne_eq_false_iff_eq.mpr c7
            clear c7
            have H' := Aside0.mk H
            clear H
            go_wp2_with (first | ((with_reducible refine gate_callee (f := 33) rfl ?_); refine goesL_ (some 23) rfl rfl Try.func33 (by kernel_rfl) rfl #[.int .i64 (wrap64 (x5_1 * t139)), .int .i64 30] rfl (by (try simp only [List.map_toArray, List.map_cons, List.map_nil]); first | done | rfl | (simp only [List.length_drop, List.length_take]; rfl)) ?_; (with_reducible refine (reedpiperef03_Down.calls (wrap64 (x5_1 * t139)) 30 t140 _ A5.out).mono ?_); rintro e w' ⟨rfl, ⟨nd, rfl⟩⟩; refine ⟨_, rfl, ?_⟩))
            go_roundg k1
            case measure => have := HK1.out; omega
            case rel => exact ⟨(wrap64 (Int.tdiv t140 (wrap64 ((wrap64 (2 * x7_1)) * (wrap64 ((wrap64 (2 * x7_1)) + 1)))))), (wrap64 (x6_1 - (wrap64 (Int.tdiv t140 (wrap64 ((wrap64 (2 * x7_1)) * (wrap64 ((wrap64 (2 * x7_1)) + 1)))))))), (wrap64 (x7_1 + 1)), (by first | rfl | (simp; done) | (simp [*]; done)), (by first | rfl | (simp; done) | (simp [*]; done)), (by first | rfl | (simp; done) | (simp [*]; done)), H', ⟨by have := HK1.out; omega⟩, by repeat (first | exact Drawn0.refl _ | apply Drawn0.step)⟩
          · rw [if_neg c7] at H
            have c7b0 : ((Int.tmod x7_1 2) == 1) = false := beq_eq_false_iff_ne.mpr c7
            have c7b1 : ((Int.tmod x7_1 2) != 1) = true := bne_iff_ne.mpr c7
            have H' := Aside0.mk H
            clear H
            go_wp2_with (first | ((with_reducible refine gate_callee (f := 33) rfl ?_); refine goesL_ (some 23) rfl rfl Try.func33 (by kernel_rfl) rfl #[.int .i64 (wrap64 (x5_1 * t139)), .int .i64 30] rfl (by (try simp only [List.map_toArray, List.map_cons, List.map_nil]); first | done | rfl | (simp only [List.length_drop, List.length_take]; rfl)) ?_; (with_reducible refine (reedpiperef03_Down.calls (wrap64 (x5_1 * t139)) 30 t140 _ A5.out).mono ?_); rintro e w' ⟨rfl, ⟨nd, rfl⟩⟩; refine ⟨_, rfl, ?_⟩))
            go_roundg k1
            case measure => have := HK1.out; omega
            case rel => exact ⟨(wrap64 (Int.tdiv t140 (wrap64 ((wrap64 (2 * x7_1)) * (wrap64 ((wrap64 (2 * x7_1)) + 1)))))), (wrap64 (x6_1 + (wrap64 (Int.tdiv t140 (wrap64 ((wrap64 (2 * x7_1)) * (wrap64 ((wrap64 (2 * x7_1)) + 1)))))))), (wrap64 (x7_1 + 1)), (by first | rfl | (simp; done) | (simp [*]; done)), (by first | rfl | (simp; done) | (simp [*]; done)), (by first | rfl | (simp; done) | (simp [*]; done)), H', ⟨by have := HK1.out; omega⟩, by repeat (first | exact Drawn0.refl _ | apply Drawn0.step)⟩
      · rw [if_neg c4] at H
        have c4b0 : decide (x7_1 ≤ 7) = false := decide_eq_false c4
        clear c4
        obtain rfl := Option.some.inj H
        go_wp2
        go_ret
        exact ⟨by first | rfl | (simp; done) | (simp [*]; done), by repeat (first | exact Drawn0.refl _ | apply Drawn0.step)⟩

end Go.Proofs.Ytapaahhegjlbgaa.K
