/- How windows' infos are read. -/
import Derived.Test.YtapaahhegjlbgaaHR
import Derived.Test.YtapaahhegjlbgaaProg
import Derived.KernelRfl
namespace Go.Proofs.Ytapaahhegjlbgaa.HI
open Go.RowKit Go.ChangeShapes Go.WideShapes Go.Proofs.YtapaahhegjlbgaaW.PrintWords Go.Proofs.Ytapaahhegjlbgaa.HR

def kInfo : Kd (Int × Int × Int × List Int) := Kd.pair (Kd.int .u8) (Kd.pair (Kd.int .u8) (Kd.pair (Kd.int .i64) (Kd.slice 3 (Kd.int .i64))))
theorem opens_ints : Opens Try.prog 22 (Kd.slice 3 (Kd.int .i64)) (fun xs => ∀ x ∈ xs, (Lit.int .i64 x).wf = true) := opens_slice Try.underlying22 (by kernel_rfl) (opens_int Try.underlying3)
theorem opens_info : Opens Try.prog 34 kInfo (fun x => (Lit.int .u8 x.1).wf = true ∧ (Lit.int .u8 x.2.1).wf = true ∧ (Lit.int .i64 x.2.2.1).wf = true ∧ ∀ y ∈ x.2.2.2, (Lit.int .i64 y).wf = true) := by
  exact opens_struct Try.underlying34 (l := [(5, 0), (5, 1), (3, 2), (22, 3)]) rfl (by kernel_rfl)
    (opensFs_cons 1 (by kernel_rfl) rfl (opens_int Try.underlying5) (opensFs_cons 2 (by kernel_rfl) rfl (opens_int Try.underlying5) (opensFs_cons 3 (by kernel_rfl) rfl (opens_int Try.underlying3) (opensFs_one (by kernel_rfl) opens_ints))))
theorem wf_u8 {x : Int} (h : (Lit.int .u8 x).wf = true) : 0 ≤ x ∧ x ≤ 255 := by
  simp only [Lit.wf, Bool.and_eq_true, decide_eq_true_eq] at h
  exact h
theorem wf_i64 {x : Int} (h : (Lit.int .i64 x).wf = true) : -9223372036854775808 ≤ x ∧ x ≤ 9223372036854775807 := by
  simp only [Lit.wf, Bool.and_eq_true, decide_eq_true_eq] at h
  exact h
theorem open_info {H : Type} {enc : TypeId × Value → H} {W : World} {v : Value} {x : DataW H} {ps : List MemPlace} {r : Reach} {b0 : Nat} (hv : Value.okWide Try.prog W r b0 34 v) (h : DataW.Trod enc Try.prog W 0 (fun _ => true) true 34 v x ps) :
    ∃ (s sh m : Int) (A : Option Addr) (c : Nat) (l : List Int), v = .agg #[.int .u8 s, .int .u8 sh, .int .i64 m, .slice A l.length c] ∧ l.length ≤ c ∧ Kd.C (Kd.int .i64) W A l.length l ∧ (0 ≤ s ∧ s ≤ 255) ∧ (0 ≤ sh ∧ sh ≤ 255) ∧ (-9223372036854775808 ≤ m ∧ m ≤ 9223372036854775807) ∧ ∀ y ∈ l, -9223372036854775808 ≤ y ∧ y ≤ 9223372036854775807 := by
  unfold Value.okWide at hv
  rw [Try.underlying34] at hv
  obtain ⟨cs, rfl, _, _⟩ := hv
  obtain ⟨⟨s, sh, m, l⟩, ⟨w1, w2, w3, w4⟩, hK⟩ := opens_info.arg h
  obtain ⟨_, _, he, rfl, ⟨_, _, rfl, rfl, ⟨_, _, rfl, rfl, ⟨A, c, rfl, hl, hC⟩⟩⟩⟩ := hK
  refine ⟨s, sh, m, A, c, l, ?_, hl, hC, wf_u8 w1, wf_u8 w2, wf_i64 w3, fun y hy => wf_i64 (w4 y hy)⟩
  congr 1
  apply Array.toList_inj.1
  exact he
end Go.Proofs.Ytapaahhegjlbgaa.HI
