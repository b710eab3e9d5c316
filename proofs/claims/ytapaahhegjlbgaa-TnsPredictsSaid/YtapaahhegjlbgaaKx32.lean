-- Written for this claim by this session's own wip/hook.py (it runs the kit's print and takes some functions' contracts as given texts of this session's).
import Derived.Test.YtapaahhegjlbgaaKx0
import Derived.Test.YtapaahhegjlbgaaKx33
import Derived.Test.YtapaahhegjlbgaaKx48
namespace Go.Proofs.Ytapaahhegjlbgaa.K
open Go.RowKit Go.Proofs.YtapaahhegjlbgaaW.PrintWords Go.Proofs.YtapaahhegjlbgaaW.PrintLast Go.Proofs.YtapaahhegjlbgaaW.PrintMore
attribute [local go_sem] max2_int min2_int max_two min_two max_three min_three max_four min_four   -- for this text's walks alone
set_option linter.unusedVariables false
set_option linter.unusedSimpArgs false

/-! ### reedpiperef15_mirror: function 32 -/
mutual
def reedpiperef15_mirror.j0 : Nat → Int → Int → Option (Int)
  | 0, _, _ => none
  | k + 1, x0, x5 => if x0 < 0 then (reedpiperef15_mirror.j1 k x0 (wrap64 (x5 + 2))) else (reedpiperef15_mirror.j1 k x0 x5)
def reedpiperef15_mirror.j1 : Nat → Int → Int → Option (Int)
  | 0, _, _ => none
  | k + 1, x0, x5 => if (wrap64 (2 * x5)) = 0 then (none) else (if (wrap64 ((wrap64 ((wrap64 (Int.tdiv (wrap64 ((wrap64 (2048 * x0)) + x5)) (wrap64 (2 * x5)))) * 2)) * x5)) > (wrap64 ((wrap64 (2048 * x0)) + x5)) then ((reedpiperef04_Sin.f k (wrap64 ((wrap64 (Int.tdiv (wrap64 ((wrap64 (2048 * x0)) + x5)) (wrap64 (2 * x5)))) - 1))).bind fun t147 => ((reedpiperef03_Down.f t147 6).bind fun t148 => (some t148))) else ((reedpiperef04_Sin.f k (wrap64 (Int.tdiv (wrap64 ((wrap64 (2048 * x0)) + x5)) (wrap64 (2 * x5))))).bind fun t149 => ((reedpiperef03_Down.f t149 6).bind fun t150 => (some t150))))
end
def reedpiperef15_mirror.f (k : Nat) (a0 : Int) (a1 : Bool) : Option (Int) := if a1 = true then (reedpiperef15_mirror.j0 k a0 15) else (reedpiperef15_mirror.j0 k a0 7)
theorem reedpiperef15_mirror.mono_l : ∀ k, (∀ y0 y1, LeO (reedpiperef15_mirror.j0 k y0 y1) (reedpiperef15_mirror.j0 (k + 1) y0 y1)) ∧ (∀ y0 y1, LeO (reedpiperef15_mirror.j1 k y0 y1) (reedpiperef15_mirror.j1 (k + 1) y0 y1))
  | 0 => ⟨fun _ _ r h => by simp [reedpiperef15_mirror.j0] at h, fun _ _ r h => by simp [reedpiperef15_mirror.j1] at h⟩
  | k + 1 => by
    obtain ⟨ih0, ih1⟩ := reedpiperef15_mirror.mono_l k
    refine ⟨?_, ?_⟩
    · intro y0 y1
      unfold reedpiperef15_mirror.j0
      repeat' first
      | (with_reducible exact ih0 _ _)
      | (with_reducible exact ih1 _ _)
      | (with_reducible exact reedpiperef04_Sin.mono _ _)
      | (with_reducible exact LeO.refl _)
      | (with_reducible exact LeO.none _)
      | (with_reducible refine LeO.ite ?_ ?_)
      | (with_reducible refine LeO.bind ?_ (fun _ => ?_))
      | exact ih0 _ _
      | exact ih1 _ _
      | exact reedpiperef04_Sin.mono _ _
      | exact LeO.none _
      | refine LeO.ite ?_ ?_
      | refine LeO.bind ?_ (fun _ => ?_)
    · intro y0 y1
      unfold reedpiperef15_mirror.j1
      repeat' first
      | (with_reducible exact ih0 _ _)
      | (with_reducible exact ih1 _ _)
      | (with_reducible exact reedpiperef04_Sin.mono _ _)
      | (with_reducible exact LeO.refl _)
      | (with_reducible exact LeO.none _)
      | (with_reducible refine LeO.ite ?_ ?_)
      | (with_reducible refine LeO.bind ?_ (fun _ => ?_))
      | exact ih0 _ _
      | exact ih1 _ _
      | exact reedpiperef04_Sin.mono _ _
      | exact LeO.none _
      | refine LeO.ite ?_ ?_
      | refine LeO.bind ?_ (fun _ => ?_)
theorem reedpiperef15_mirror.mono : ∀ a0 a1 k, LeO (reedpiperef15_mirror.f k a0 a1) (reedpiperef15_mirror.f (k + 1) a0 a1) := by
  intro a0 a1 k
  obtain ⟨ih0, ih1⟩ := reedpiperef15_mirror.mono_l k
  unfold reedpiperef15_mirror.f
  repeat' first
      | (with_reducible exact ih0 _ _)
      | (with_reducible exact ih1 _ _)
      | (with_reducible exact reedpiperef04_Sin.mono _ _)
      | (with_reducible exact LeO.refl _)
      | (with_reducible exact LeO.none _)
      | (with_reducible refine LeO.ite ?_ ?_)
      | (with_reducible refine LeO.bind ?_ (fun _ => ?_))
      | exact ih0 _ _
      | exact ih1 _ _
      | exact reedpiperef04_Sin.mono _ _
      | exact LeO.none _
      | refine LeO.ite ?_ ?_
      | refine LeO.bind ?_ (fun _ => ?_)
set_option maxHeartbeats 8000000 in
set_option maxRecDepth 100000 in
theorem reedpiperef15_mirror.calls (k : Nat) (a0 : Int) (a1 : Bool) (r : Int) (w : World) (h : reedpiperef15_mirror.f k a0 a1 = some r) :
    Calls Try.prog 32 #[.int .i64 a0, .bool a1] w fun e w' => e = .returned (.int .i64 r) ∧ Drawn0 w w' := by
  have H : (if a1 = true then (reedpiperef15_mirror.j0 k a0 15) else (reedpiperef15_mirror.j0 k a0 7)) = some r := h
  clear h
  have HC3 := Aside0.mk H
  clear H
  go_enter Try.func32, Try.ntmps32
  go_upto_if 8 with (fail)
  go_cut [5] (fun v5 wc => ∃ (kq : Nat) (x5_2 : Int), v5 = .int .i64 x5_2 ∧ Aside0 (reedpiperef15_mirror.j0 kq a0 x5_2 = some r) ∧ Aside0 (kq ≤ k) ∧ Drawn0 w wc)
  case first =>
    have H := HC3.out
    clear HC3
    by_cases c4 : a1 = true
    · subst c4
      have H1 : (reedpiperef15_mirror.j0 k a0 15) = some r := by rw [if_pos rfl] at H; exact H
      clear H
      have H := H1
      clear H1
      have H' := Aside0.mk H
      clear H
      go_wp2
      go_meet
      case rel => exact ⟨_, (15), (by first | rfl | (simp; done) | (simp [*]; done)), H', ⟨by first | omega | exact Nat.le_refl _⟩, by repeat (first | exact Drawn0.refl _ | apply Drawn0.step)⟩
    · replace c4 := Bool.eq_false_iff.mpr c4
      subst c4
      have H1 : (reedpiperef15_mirror.j0 k a0 7) = some r := by rw [if_neg (show ¬ (false = true) by decide)] at H; exact H
      clear H
      have H := H1
      clear H1
      have H' := Aside0.mk H
      clear H
      go_wp2
      go_meet
      case rel => exact ⟨_, (7), (by first | rfl | (simp; done) | (simp [*]; done)), H', ⟨by first | omega | exact Nat.le_refl _⟩, by repeat (first | exact Drawn0.refl _ | apply Drawn0.step)⟩
  case rest =>
    clear HC3
    try clear p2
    try clear c3
    try clear c4
    obtain ⟨kq, x5_2, rfl, HA, HJ2, ⟨mc2, rfl⟩⟩ := hcut
    cases kq with
    | zero => exact absurd HA.out (by simp [reedpiperef15_mirror.j0])
    | succ kj2 =>
      have H := HA.out
      clear HA
      simp only [reedpiperef15_mirror.j0] at H
      have HC5 := Aside0.mk H
      clear H
      go_upto_if 10 with (fail)
      go_cut [5] (fun v5 wc => ∃ (kq : Nat) (x5_4 : Int), v5 = .int .i64 x5_4 ∧ Aside0 (reedpiperef15_mirror.j1 kq a0 x5_4 = some r) ∧ Aside0 (kq ≤ kj2) ∧ Drawn0 w wc)
      case first =>
        have H := HC5.out
        clear HC5
        by_cases c6 : a0 < 0
        · rw [if_pos c6] at H
          have c6b0 : decide (a0 < 0) = true := decide_eq_true c6
          clear c6
          (first | rw [c6b0] | (simp only [i64_w, i32_w]; rw [c6b0]) | skip)
          have H' := Aside0.mk H
          clear H
          go_wp2
          go_meet
          case rel => exact ⟨_, (wrap64 (x5_2 + 2)), (by first | rfl | (simp; done) | (simp [*]; done)), H', ⟨by have := HJ2.out; first | omega | exact Nat.le_refl _⟩, by repeat (first | exact Drawn0.refl _ | apply Drawn0.step)⟩
        · rw [if_neg c6] at H
          have c6b0 : decide (a0 < 0) = false := decide_eq_false c6
          clear c6
          (first | rw [c6b0] | (simp only [i64_w, i32_w]; rw [c6b0]) | skip)
          have H' := Aside0.mk H
          clear H
          go_wp2
          go_meet
          case rel => exact ⟨_, (x5_2), (by first | rfl | (simp; done) | (simp [*]; done)), H', ⟨by have := HJ2.out; first | omega | exact Nat.le_refl _⟩, by repeat (first | exact Drawn0.refl _ | apply Drawn0.step)⟩
      case rest =>
        clear HC5
        try clear c2
        try clear p2
        try clear c3
        try clear c4
        try clear c6
        try clear c6b0
        try clear p6
        try clear p2
        obtain ⟨kq, x5_4, rfl, HA, HJ4, ⟨mc4, rfl⟩⟩ := hcut
        cases kq with
        | zero => exact absurd HA.out (by simp [reedpiperef15_mirror.j1])
        | succ kj4 =>
          have H := HA.out
          clear HA
          simp only [reedpiperef15_mirror.j1] at H
          by_cases c7 : (wrap64 (2 * x5_4)) = 0
          · rw [if_pos c7] at H
            exact absurd H (by simp)
          · rw [if_neg c7] at H
            have c7b0 : ((wrap64 (2 * x5_4)) == 0) = false := beq_eq_false_iff_ne.mpr c7
            have c7b1 : ((wrap64 (2 * x5_4)) != 0) = true := bne_iff_ne.mpr c7
            by_cases c8 : (wrap64 ((wrap64 ((wrap64 (Int.tdiv (wrap64 ((wrap64 (2048 * a0)) + x5_4)) (wrap64 (2 * x5_4)))) * 2)) * x5_4)) > (wrap64 ((wrap64 (2048 * a0)) + x5_4))
            · rw [if_pos c8] at H
              have c8b0 : decide ((wrap64 ((wrap64 (2048 * a0)) + x5_4)) < (wrap64 ((wrap64 ((wrap64 (Int.tdiv (wrap64 ((wrap64 (2048 * a0)) + x5_4)) (wrap64 (2 * x5_4)))) * 2)) * x5_4))) = true := decide_eq_true c8
              clear c8
              replace H := Option.bind_eq_some_iff.mp H
              obtain ⟨t147, A90, H⟩ := H
              replace H : ((reedpiperef03_Down.f t147 6).bind fun t148 => (some t148)) = some r := H
              have A9 := Aside0.mk A90
              clear A90
              replace H := Option.bind_eq_some_iff.mp H
              obtain ⟨t148, A100, H⟩ := H
              replace H : (some t148) = some r := H
              have A10 := Aside0.mk A100
              clear A100
              obtain rfl := Option.some.inj H
              go_wp2_with (first | ((with_reducible refine gate_callee (f := 48) rfl ?_); refine goesL_ (some 30) rfl rfl Try.func48 (by kernel_rfl) rfl #[.int .i64 (wrap64 ((wrap64 (Int.tdiv (wrap64 ((wrap64 (2048 * a0)) + x5_4)) (wrap64 (2 * x5_4)))) - 1))] rfl (by (try simp only [List.map_toArray, List.map_cons, List.map_nil]); first | done | rfl | (simp only [List.length_drop, List.length_take]; rfl)) ?_; (with_reducible refine (reedpiperef04_Sin.calls kj4 (wrap64 ((wrap64 (Int.tdiv (wrap64 ((wrap64 (2048 * a0)) + x5_4)) (wrap64 (2 * x5_4)))) - 1)) t147 _ A9.out).mono ?_); rintro e w' ⟨rfl, ⟨nd, rfl⟩⟩; refine ⟨_, rfl, ?_⟩) | ((with_reducible refine gate_callee (f := 33) rfl ?_); refine goesL_ (some 31) rfl rfl Try.func33 (by kernel_rfl) rfl #[.int .i64 t147, .int .i64 6] rfl (by (try simp only [List.map_toArray, List.map_cons, List.map_nil]); first | done | rfl | (simp only [List.length_drop, List.length_take]; rfl)) ?_; (with_reducible refine (reedpiperef03_Down.calls t147 6 t148 _ A10.out).mono ?_); rintro e w' ⟨rfl, ⟨nd, rfl⟩⟩; refine ⟨_, rfl, ?_⟩))
              go_ret
              exact ⟨by first | rfl | (simp; done) | (simp [*]; done), by repeat (first | exact Drawn0.refl _ | apply Drawn0.step)⟩
            · rw [if_neg c8] at H
              have c8b0 : decide ((wrap64 ((wrap64 (2048 * a0)) + x5_4)) < (wrap64 ((wrap64 ((wrap64 (Int.tdiv (wrap64 ((wrap64 (2048 * a0)) + x5_4)) (wrap64 (2 * x5_4)))) * 2)) * x5_4))) = false := decide_eq_false c8
              clear c8
              replace H := Option.bind_eq_some_iff.mp H
              obtain ⟨t149, A110, H⟩ := H
              replace H : ((reedpiperef03_Down.f t149 6).bind fun t150 => (some t150)) = some r := H
              have A11 := Aside0.mk A110
              clear A110
              replace H := Option.bind_eq_some_iff.mp H
              obtain ⟨t150, A120, H⟩ := H
              replace H : (some t150) = some r := H
              have A12 := Aside0.mk A120
              clear A120
              obtain rfl := Option.some.inj H
              go_wp2_with (first | ((with_reducible refine gate_callee (f := 48) rfl ?_); refine goesL_ (some 30) rfl rfl Try.func48 (by kernel_rfl) rfl #[.int .i64 (wrap64 (Int.tdiv (wrap64 ((wrap64 (2048 * a0)) + x5_4)) (wrap64 (2 * x5_4))))] rfl (by (try simp only [List.map_toArray, List.map_cons, List.map_nil]); first | done | rfl | (simp only [List.length_drop, List.length_take]; rfl)) ?_; (with_reducible refine (reedpiperef04_Sin.calls kj4 (wrap64 (Int.tdiv (wrap64 ((wrap64 (2048 * a0)) + x5_4)) (wrap64 (2 * x5_4)))) t149 _ A11.out).mono ?_); rintro e w' ⟨rfl, ⟨nd, rfl⟩⟩; refine ⟨_, rfl, ?_⟩) | ((with_reducible refine gate_callee (f := 33) rfl ?_); refine goesL_ (some 31) rfl rfl Try.func33 (by kernel_rfl) rfl #[.int .i64 t149, .int .i64 6] rfl (by (try simp only [List.map_toArray, List.map_cons, List.map_nil]); first | done | rfl | (simp only [List.length_drop, List.length_take]; rfl)) ?_; (with_reducible refine (reedpiperef03_Down.calls t149 6 t150 _ A12.out).mono ?_); rintro e w' ⟨rfl, ⟨nd, rfl⟩⟩; refine ⟨_, rfl, ?_⟩))
              go_ret
              exact ⟨by first | rfl | (simp; done) | (simp [*]; done), by repeat (first | exact Drawn0.refl _ | apply Drawn0.step)⟩

end Go.Proofs.Ytapaahhegjlbgaa.K
