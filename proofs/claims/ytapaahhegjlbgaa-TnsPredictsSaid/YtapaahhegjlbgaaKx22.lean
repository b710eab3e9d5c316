-- Written for this claim by this session's own wip/hook.py (it runs the kit's print and takes some functions' contracts as given texts of this session's).
import Derived.Test.YtapaahhegjlbgaaHE
import Derived.Test.YtapaahhegjlbgaaKx0
namespace Go.Proofs.Ytapaahhegjlbgaa.K
open Go.RowKit Go.Proofs.YtapaahhegjlbgaaW.PrintWords Go.Proofs.YtapaahhegjlbgaaW.PrintLast Go.Proofs.YtapaahhegjlbgaaW.PrintMore
attribute [local go_sem] max2_int min2_int max_two min_two max_three min_three max_four min_four   -- for this text's walks alone
set_option linter.unusedVariables false
set_option linter.unusedSimpArgs false

/-! ### tns_predict: function 22: GIVEN BY HAND -/
-- IMPORT Derived.Test.YtapaahhegjlbgaaHE
-- TAG 52

def tns_predict.f (a0_0 : Int) (a0_1 : Int) (a0_2 : Bool) (a0_3 : Bool) (l0_4 : List Int) : Option (List Int) := if (l0_4.length : Int) = a0_1 ∧ l0_4.length ≤ 12 then HE.predictS a0_3 l0_4 else none
set_option maxHeartbeats 8000000 in
set_option maxRecDepth 100000 in
theorem tns_predict.calls (a0_0 : Int) (a0_1 : Int) (a0_2 : Bool) (a0_3 : Bool) (A0_4 : Option Addr) (c0_4 : Nat) (l0_4 : List Int) (r : List Int) (w : World) (hr0_4 : Kd.C (Kd.int .i64) w A0_4 l0_4.length l0_4) (hc0_4 : l0_4.length ≤ c0_4) (h : tns_predict.f a0_0 a0_1 a0_2 a0_3 l0_4 = some r) :
    Calls Try.prog 22 #[.agg #[.int .i64 a0_0, .int .i64 a0_1, .bool a0_2, .bool a0_3, .slice A0_4 l0_4.length c0_4]] w fun e w' => ∃ v0_ : Value, e = .returned (v0_) ∧ Kd.R (Kd.int .i64) 52 w' w.heap.size (fun _ => True) v0_ r ∧ Below w.heap.size w w' := by
  unfold tns_predict.f at h
  by_cases hq : (l0_4.length : Int) = a0_1 ∧ l0_4.length ≤ 12
  · rw [if_pos hq] at h
    obtain ⟨rfl, h12⟩ := hq
    exact HE.predict_calls a0_0 a0_2 a0_3 A0_4 c0_4 l0_4 r w hr0_4 hc0_4 h12 h
  · rw [if_neg hq] at h
    cases h

end Go.Proofs.Ytapaahhegjlbgaa.K
