/- The law TnsPredicts of the filters' chapter: coefficients of prediction are as the document says, and new memory; for every filter. -/
import Derived.Test.YtapaahhegjlbgaaKx3
import Derived.Test.YtapaahhegjlbgaaSQA
namespace Go.Proofs.Ytapaahhegjlbgaa.Wk
open Go.RowKit Go.Proofs.Ytapaahhegjlbgaa.K Go.Proofs.Ytapaahhegjlbgaa.SQ Go.Proofs.YtapaahhegjlbgaaW.PrintWords Go.Proofs.YtapaahhegjlbgaaW.PrintLast Go.Proofs.YtapaahhegjlbgaaW.PrintMore
set_option linter.unusedVariables false

theorem predicts_l0 (n o : Int) (d f : Bool) (l : List Int) (hb : l.length ≤ 1000) : ∀ (e k i : Nat) (x : List Int), x.length - i = e → i ≤ x.length → e + 1001 < k → x.length ≤ 1000 →
    reedpipelaw15_TnsPredicts.l0 k x (i : Int) n o d f l n o d f l = some true := by
  intro e
  induction e with
  | zero =>
    intro k i x he hi hk hx
    obtain ⟨k, rfl⟩ : ∃ m, k = m + 1 := ⟨k - 1, by omega⟩
    simp only [reedpipelaw15_TnsPredicts.l0]
    rw [if_neg (by omega), same11_f l l (by omega) k (by omega)]
    simp
  | succ e ih =>
    intro k i x he hi hk hx
    obtain ⟨k, rfl⟩ : ∃ m, k = m + 1 := ⟨k - 1, by omega⟩
    simp only [reedpipelaw15_TnsPredicts.l0]
    rw [if_pos (by omega), if_pos (by omega), wrap_succ i (by omega)]
    exact ih k (i + 1) _ (by simp; omega) (by simp; omega) (by omega) (by simpa using hx)
/-- Both answers. -/
theorem predict_f (n o : Int) (d f : Bool) (l : List Int) : tns_Predict.f n o d f l = some (if checkF n o f l = 0 then (coefs f l l.length, 0) else ([], checkF n o f l)) := by
  unfold tns_Predict.f
  rw [check_f]
  simp only [Option.bind_some]
  by_cases h : checkF n o f l = 0
  · obtain ⟨h1, h2, h3, _, _⟩ := checkF_ok h
    rw [if_pos h, if_pos h]
    unfold tns_predict.f
    rw [if_pos ⟨h1, h2⟩, predictS_f f l h3 h2]
    rfl
  · rw [if_neg h, if_neg h]
theorem refPredict_f (n o : Int) (d f : Bool) (l : List Int) (hb : l.length ≤ 1000) (k : Nat) (hk : 2000 < k) : reedpiperef15_Predict.f k n o d f l = some (if checkF n o f l = 0 then (coefs f l l.length, 0) else ([], checkF n o f l)) := by
  unfold reedpiperef15_Predict.f
  rw [refCheck_f n o d f l (by omega) k (by omega)]
  simp only [Option.bind_some]
  by_cases h : checkF n o f l = 0
  · obtain ⟨h1, h2, h3, _, _⟩ := checkF_ok h
    rw [if_pos h, if_pos h, refCoefs_f f l h3 h2 n o d k (by omega)]
    rfl
  · rw [if_neg h, if_neg h]
theorem predicts_true (n o : Int) (d f : Bool) (l : List Int) : reedpipelaw15_TnsPredicts.f 3010 n o d f l = some true := by
  unfold reedpipelaw15_TnsPredicts.f
  by_cases h1 : (l.length : Int) > 1000
  · rw [if_pos h1]
  · rw [if_neg h1, if_pos (by simp; omega)]
    simp only [Option.bind_some, List.nil_append]
    rw [predict_f, refPredict_f n o d f l (by omega) 3010 (by omega)]
    simp only [Option.bind_some]
    have hl : (if checkF n o f l = 0 then (coefs f l l.length, (0 : Int)) else ([], checkF n o f l)).1.length ≤ 1000 := by
      split
      · rw [coefs_length]; omega
      · simp
    generalize (if checkF n o f l = 0 then (coefs f l l.length, (0 : Int)) else ([], checkF n o f l)) = p at hl
    rw [same11_f p.1 p.1 (by omega) 3010 (by omega)]
    simp only [Option.bind_some, decide_true, if_true, bne_self_eq_false, reedpipelaw15_TnsPredicts.j0, Bool.false_eq_true, if_false]
    exact predicts_l0 n o d f l (by omega) p.1.length 3009 0 p.1 (by omega) (by omega) (by omega) hl
theorem TnsPredicts (W : World) (fl_0 fo_0 : Int) (fd_0 ff_0 : Bool) (A_0 : Option Addr) (c_0 : Nat) (l_0 : List Int) (hc_0 : l_0.length ≤ c_0) (hr_0 : Kd.C (Kd.int .i64) W A_0 l_0.length l_0)
    (wfl_0 : -9223372036854775808 ≤ fl_0 ∧ fl_0 ≤ 9223372036854775807) (wfo_0 : -9223372036854775808 ≤ fo_0 ∧ fo_0 ≤ 9223372036854775807) (wl_0 : ∀ y ∈ l_0, -9223372036854775808 ≤ y ∧ y ≤ 9223372036854775807) :
    Calls Try.prog 3 #[.agg #[.int .i64 fl_0, .int .i64 fo_0, .bool fd_0, .bool ff_0, .slice A_0 l_0.length c_0]] W fun e w' => e = .returned (.bool true) ∧ Below W.heap.size W w' :=
  reedpipelaw15_TnsPredicts.calls 3010 fl_0 fo_0 fd_0 ff_0 A_0 c_0 l_0 true W hr_0 hc_0 (predicts_true fl_0 fo_0 fd_0 ff_0 l_0)
end Go.Proofs.Ytapaahhegjlbgaa.Wk
