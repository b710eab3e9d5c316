/- How filters are read. -/
import Derived.Test.YtapaahhegjlbgaaHI
namespace Go.Proofs.Ytapaahhegjlbgaa.HI
open Go.RowKit Go.ChangeShapes Go.WideShapes Go.Proofs.YtapaahhegjlbgaaW.PrintWords Go.Proofs.Ytapaahhegjlbgaa.HR

def kFilter : Kd (Int × Int × Bool × Bool × List Int) := Kd.pair (Kd.int .i64) (Kd.pair (Kd.int .i64) (Kd.pair Kd.bool (Kd.pair Kd.bool (Kd.slice 3 (Kd.int .i64)))))
theorem opens_filter : Opens Try.prog 24 kFilter (fun x => (Lit.int .i64 x.1).wf = true ∧ (Lit.int .i64 x.2.1).wf = true ∧ True ∧ True ∧ ∀ y ∈ x.2.2.2.2, (Lit.int .i64 y).wf = true) := by
  exact opens_struct Try.underlying24 (l := [(3, 0), (3, 1), (4, 2), (4, 3), (22, 4)]) rfl (by kernel_rfl)
    (opensFs_cons 1 (by kernel_rfl) rfl (opens_int Try.underlying3) (opensFs_cons 2 (by kernel_rfl) rfl (opens_int Try.underlying3) (opensFs_cons 3 (by kernel_rfl) rfl (opens_bool Try.underlying4) (opensFs_cons 4 (by kernel_rfl) rfl (opens_bool Try.underlying4) (opensFs_one (by kernel_rfl) opens_ints)))))
theorem open_filter {H : Type} {enc : TypeId × Value → H} {W : World} {v : Value} {x : DataW H} {ps : List MemPlace} {r : Reach} {b0 : Nat} (hv : Value.okWide Try.prog W r b0 24 v) (h : DataW.Trod enc Try.prog W 0 (fun _ => true) true 24 v x ps) :
    ∃ (n o : Int) (d f : Bool) (A : Option Addr) (c : Nat) (l : List Int), v = .agg #[.int .i64 n, .int .i64 o, .bool d, .bool f, .slice A l.length c] ∧ l.length ≤ c ∧ Kd.C (Kd.int .i64) W A l.length l ∧ (-9223372036854775808 ≤ n ∧ n ≤ 9223372036854775807) ∧ (-9223372036854775808 ≤ o ∧ o ≤ 9223372036854775807) ∧ ∀ y ∈ l, -9223372036854775808 ≤ y ∧ y ≤ 9223372036854775807 := by
  unfold Value.okWide at hv
  rw [Try.underlying24] at hv
  obtain ⟨cs, rfl, _, _⟩ := hv
  obtain ⟨⟨n, o, d, f, l⟩, ⟨w1, w2, _, _, w4⟩, hK⟩ := opens_filter.arg h
  obtain ⟨_, _, he, rfl, ⟨_, _, rfl, rfl, ⟨_, _, rfl, rfl, ⟨_, _, rfl, rfl, ⟨A, c, rfl, hl, hC⟩⟩⟩⟩⟩ := hK
  refine ⟨n, o, d, f, A, c, l, ?_, hl, hC, wf_i64 w1, wf_i64 w2, fun y hy => wf_i64 (w4 y hy)⟩
  congr 1
  apply Array.toList_inj.1
  exact he
end Go.Proofs.Ytapaahhegjlbgaa.HI
