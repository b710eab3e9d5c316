-- Written for this claim by this session's own wip/hook.py (it runs the kit's print and takes some functions' contracts as given texts of this session's).
import Derived.Test.YtapaahhegjlbgaaKx0
import Derived.Test.YtapaahhegjlbgaaKx63
namespace Go.Proofs.Ytapaahhegjlbgaa.K
open Go.RowKit Go.Proofs.YtapaahhegjlbgaaW.PrintWords Go.Proofs.YtapaahhegjlbgaaW.PrintLast Go.Proofs.YtapaahhegjlbgaaW.PrintMore
attribute [local go_sem] max2_int min2_int max_two min_two max_three min_three max_four min_four   -- for this text's walks alone
set_option linter.unusedVariables false
set_option linter.unusedSimpArgs false

/-! ### reedpiperef04_Sin: function 48 -/
def reedpiperef04_Sin.f (k : Nat) (a0 : Int) : Option (Int) := (reedpiperef04_Cos.f k (wrap64 ((Int.tmod a0 2048) - 512))).bind fun t146 => (some t146)
theorem reedpiperef04_Sin.mono : ∀ a0 k, LeO (reedpiperef04_Sin.f k a0) (reedpiperef04_Sin.f (k + 1) a0) := by
  intro a0 k
  unfold reedpiperef04_Sin.f
  repeat' first
      | (with_reducible exact reedpiperef04_Cos.mono _ _)
      | (with_reducible exact LeO.refl _)
      | (with_reducible exact LeO.none _)
      | (with_reducible refine LeO.ite ?_ ?_)
      | (with_reducible refine LeO.bind ?_ (fun _ => ?_))
      | exact reedpiperef04_Cos.mono _ _
      | exact LeO.none _
      | refine LeO.ite ?_ ?_
      | refine LeO.bind ?_ (fun _ => ?_)
set_option maxHeartbeats 8000000 in
set_option maxRecDepth 100000 in
theorem reedpiperef04_Sin.calls (k : Nat) (a0 : Int) (r : Int) (w : World) (h : reedpiperef04_Sin.f k a0 = some r) :
    Calls Try.prog 48 #[.int .i64 a0] w fun e w' => e = .returned (.int .i64 r) ∧ Drawn0 w w' := by
  have H : ((reedpiperef04_Cos.f k (wrap64 ((Int.tmod a0 2048) - 512))).bind fun t146 => (some t146)) = some r := h
  clear h
  replace H := Option.bind_eq_some_iff.mp H
  obtain ⟨t146, A20, H⟩ := H
  replace H : (some t146) = some r := H
  have A2 := Aside0.mk A20
  clear A20
  obtain rfl := Option.some.inj H
  go_enter Try.func48, Try.ntmps48
  go_wp2_with (first | ((with_reducible refine gate_callee (f := 63) rfl ?_); refine goesL_ (some 6) rfl rfl Try.func63 (by kernel_rfl) rfl #[.int .i64 (wrap64 ((Int.tmod a0 2048) - 512))] rfl (by (try simp only [List.map_toArray, List.map_cons, List.map_nil]); first | done | rfl | (simp only [List.length_drop, List.length_take]; rfl)) ?_; (with_reducible refine (reedpiperef04_Cos.calls k (wrap64 ((Int.tmod a0 2048) - 512)) t146 _ A2.out).mono ?_); rintro e w' ⟨rfl, ⟨nd, rfl⟩⟩; refine ⟨_, rfl, ?_⟩))
  go_ret
  exact ⟨by first | rfl | (simp; done) | (simp [*]; done), by repeat (first | exact Drawn0.refl _ | apply Drawn0.step)⟩

end Go.Proofs.Ytapaahhegjlbgaa.K
