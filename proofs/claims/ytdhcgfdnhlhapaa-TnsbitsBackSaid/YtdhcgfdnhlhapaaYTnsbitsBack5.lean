/- Texts of this session for the law TnsbitsBack, packed by wip/merge.py: part 5 of 5. Each section is one text; the law's own sentence stands over its section. -/
import Derived.Test.YtdhcgfdnhlhapaaRows
import Derived.WalkKit
import Derived.ProofKit
import Derived.OpenShut
import Derived.ShutString
import Derived.ChangeOld
import Derived.Below
import Derived.SizedLaws
import Derived.Test.YtdhcgfdnhlhapaaYTnsbitsBack1
import Derived.Test.YtdhcgfdnhlhapaaYTnsbitsBack4
section
/- How filters are read. -/
namespace Go.Proofs.Ytdhcgfdnhlhapaa.HI
open Go.RowKit Go.ChangeShapes Go.WideShapes Go.Proofs.YtdhcgfdnhlhapaaW.PrintWords Go.Proofs.Ytdhcgfdnhlhapaa.HR

def kFilter : Kd (Int × Int × Bool × Bool × List Int) := Kd.pair (Kd.int .i64) (Kd.pair (Kd.int .i64) (Kd.pair Kd.bool (Kd.pair Kd.bool (Kd.slice 3 (Kd.int .i64)))))
theorem opens_filter : Opens Try.prog 38 kFilter (fun x => (Lit.int .i64 x.1).wf = true ∧ (Lit.int .i64 x.2.1).wf = true ∧ True ∧ True ∧ ∀ y ∈ x.2.2.2.2, (Lit.int .i64 y).wf = true) := by
  exact opens_struct Try.underlying38 (l := [(3, 0), (3, 1), (4, 2), (4, 3), (22, 4)]) rfl (by kernel_rfl)
    (opensFs_cons 1 (by kernel_rfl) rfl (opens_int Try.underlying3) (opensFs_cons 2 (by kernel_rfl) rfl (opens_int Try.underlying3) (opensFs_cons 3 (by kernel_rfl) rfl (opens_bool Try.underlying4) (opensFs_cons 4 (by kernel_rfl) rfl (opens_bool Try.underlying4) (opensFs_one (by kernel_rfl) opens_ints)))))
theorem open_filter {H : Type} {enc : TypeId × Value → H} {W : World} {v : Value} {x : DataW H} {ps : List MemPlace} {r : Reach} {b0 : Nat} (hv : Value.okWide Try.prog W r b0 38 v) (h : DataW.Trod enc Try.prog W 0 (fun _ => true) true 38 v x ps) :
    ∃ (n o : Int) (d f : Bool) (A : Option Addr) (c : Nat) (l : List Int), v = .agg #[.int .i64 n, .int .i64 o, .bool d, .bool f, .slice A l.length c] ∧ l.length ≤ c ∧ Kd.C (Kd.int .i64) W A l.length l ∧ (-9223372036854775808 ≤ n ∧ n ≤ 9223372036854775807) ∧ (-9223372036854775808 ≤ o ∧ o ≤ 9223372036854775807) ∧ ∀ y ∈ l, -9223372036854775808 ≤ y ∧ y ≤ 9223372036854775807 := by
  unfold Value.okWide at hv
  rw [Try.underlying38] at hv
  obtain ⟨cs, rfl, _, _⟩ := hv
  obtain ⟨⟨n, o, d, f, l⟩, ⟨w1, w2, _, _, w4⟩, hK⟩ := opens_filter.arg h
  obtain ⟨_, _, he, rfl, ⟨_, _, rfl, rfl, ⟨_, _, rfl, rfl, ⟨_, _, rfl, rfl, ⟨A, c, rfl, hl, hC⟩⟩⟩⟩⟩ := hK
  refine ⟨n, o, d, f, A, c, l, ?_, hl, hC, wf_i64 w1, wf_i64 w2, fun y hy => wf_i64 (w4 y hy)⟩
  congr 1
  apply Array.toList_inj.1
  exact he
end Go.Proofs.Ytdhcgfdnhlhapaa.HI
end
section
/- How lists of filters are read. -/
namespace Go.Proofs.Ytdhcgfdnhlhapaa.HI
open Go.RowKit Go.ChangeShapes Go.WideShapes Go.Proofs.YtdhcgfdnhlhapaaW.PrintWords Go.Proofs.Ytdhcgfdnhlhapaa.HR Go.Proofs.Ytdhcgfdnhlhapaa.K

theorem opens_filt : Opens Try.prog 38 k38 (fun x => (Lit.int .i64 x.f0).wf = true ∧ (Lit.int .i64 x.f1).wf = true ∧ True ∧ True ∧ ∀ y ∈ x.f4, (Lit.int .i64 y).wf = true) := by
  refine opens_iso (fun x : S38 => (x.f0, x.f1, x.f2, x.f3, x.f4)) (fun p => ⟨p.1, p.2.1, p.2.2.1, p.2.2.2.1, p.2.2.2.2⟩) (fun _ => rfl) (ok := fun x => (Lit.int .i64 x.1).wf = true ∧ (Lit.int .i64 x.2.1).wf = true ∧ True ∧ True ∧ ∀ y ∈ x.2.2.2.2, (Lit.int .i64 y).wf = true) opens_filter
theorem opens_filters : Opens Try.prog 25 (Kd.slice 35 (Kd.slice 38 k38)) (fun l => ∀ g ∈ l, ∀ x ∈ g, (Lit.int .i64 x.f0).wf = true ∧ (Lit.int .i64 x.f1).wf = true ∧ True ∧ True ∧ ∀ y ∈ x.f4, (Lit.int .i64 y).wf = true) :=
  opens_slice Try.underlying25 (by kernel_rfl) (opens_slice Try.underlying35 (by kernel_rfl) opens_filt)
theorem open_filters {H : Type} {enc : TypeId × Value → H} {W : World} {v : Value} {x : DataW H} {ps : List MemPlace} {r : Reach} {b0 : Nat} (hv : Value.okWide Try.prog W r b0 25 v) (h : DataW.Trod enc Try.prog W 0 (fun _ => true) true 25 v x ps) :
    ∃ (A : Option Addr) (c : Nat) (l : List (List S38)), v = .slice A l.length c ∧ l.length ≤ c ∧ Kd.C (Kd.slice 38 k38) W A l.length l ∧ ∀ g ∈ l, ∀ x ∈ g, (-9223372036854775808 ≤ x.f0 ∧ x.f0 ≤ 9223372036854775807) ∧ (-9223372036854775808 ≤ x.f1 ∧ x.f1 ≤ 9223372036854775807) ∧ ∀ y ∈ x.f4, -9223372036854775808 ≤ y ∧ y ≤ 9223372036854775807 := by
  obtain ⟨A0, n0, c0, rfl⟩ := slice_value Try.underlying25 hv
  obtain ⟨l, wl, A, c, he, hl, hC⟩ := opens_filters.arg h
  have he' : Value.slice A0 n0 c0 = .slice A l.length c := by simpa [Value.cells] using he
  exact ⟨A, c, l, he', hl, hC, fun g hg y hy => ⟨wf_i64 (wl g hg y hy).1, wf_i64 (wl g hg y hy).2.1, fun z hz => wf_i64 ((wl g hg y hy).2.2.2.2 z hz)⟩⟩
end Go.Proofs.Ytdhcgfdnhlhapaa.HI
end
section
/- The row of the law TnsbitsBack: out of its walk. -/
namespace Go.Proofs.Ytdhcgfdnhlhapaa.tnsbitsBack
open Go.ChangeShapes Go.WideShapes Go.ChangeAt Go.RowKit
open Go.ChangeMaps (open_string shut_string)
set_option linter.unusedVariables false
theorem own : ownKnob Try.prog.godebug = none := by kernel_rfl
theorem laidOut : laidOutB Try.prog = true := by kernel_rfl
set_option maxRecDepth 100000 in
theorem lifted (os : Os) (started : os.Started) (H : Type) (enc : TypeId × Value → H) :
    ReturnsInHanded {} Try.checked os 6 .any (Rows.tnsbitsBackSpec.pre6 enc Try.prog Try.f6 Rows.tnsbitsBackRow.domain false) (Rows.tnsbitsBackSpec.post enc Try.prog Try.f6 false true false false) := by
  refine returnsInHanded_of_change_sized (C := Try.checked) own started (by kernel_rfl) Try.func6
    (ChangeSpec.witness6 (enc := enc) (C := Try.checked) false ⟨#[], #[.agg #[.int .u8 0, .int .u8 0, .int .i64 0, .slice none 0 0], .slice none 0 0, .slice none 0 0, .slice none 0 0, .int .i64 0], []⟩ 8 (by kernel_rfl) (by kernel_rfl) (by kernel_rfl) (by kernel_rfl)) ?_
  intro W base args ds gs before hval0 hW hcnd hsz0 _
  have hval : ∀ (j : Nat) t v, Try.f6.params[j]? = some t → args[j]? = some v → Value.okWide Try.prog W .any base t v := hval0
  have hW' := hW
  obtain ⟨p, q, hA0, hV, rfl, hfz, hnd⟩ := hW
  have hA : DataW.TrodAll enc Try.prog W 0 (fun _ => true) true Try.f6.params.toList args.toList ds p := hA0
  rw [Try.params6] at hA hval
  obtain ⟨v0, vs0, d0, ds0, p0, q0, hargs, rfl, rfl, h0, r0⟩ := trodAll_cons hA
  obtain ⟨v1, vs1, d1, ds1, p1, q1, rfl, rfl, rfl, h1, r1⟩ := trodAll_cons r0
  obtain ⟨v2, vs2, d2, ds2, p2, q2, rfl, rfl, rfl, h2, r2⟩ := trodAll_cons r1
  obtain ⟨v3, vs3, d3, ds3, p3, q3, rfl, rfl, rfl, h3, r3⟩ := trodAll_cons r2
  obtain ⟨v4, vs4, d4, ds4, p4, q4, rfl, rfl, rfl, h4, r4⟩ := trodAll_cons r3
  obtain ⟨rfl, rfl, rfl⟩ := trodAll_nil r4
  obtain rfl : args = #[v0, v1, v2, v3, v4] := by cases args; simp_all
  obtain ⟨rfl, rfl⟩ := trodVars_none hV
  have k0 := h0
  have lt0 : ∀ x ∈ p0, x.block < W.heap.size := by obtain ⟨m, hm⟩ := k0; exact DataW.trod_lt m _ _ _ hm
  obtain ⟨s_0, sh_0, m_0, A_0, c_0, l_0, rfl, hc_0, hr_0, ws_0, wsh_0, wm_0, wl_0⟩ := HI.open_info (hval 0 24 v0 rfl rfl) h0
  have k1 := h1
  have lt1 : ∀ x ∈ p1, x.block < W.heap.size := by obtain ⟨m, hm⟩ := k1; exact DataW.trod_lt m _ _ _ hm
  obtain ⟨A_1, c_1, l_1, rfl, hc_1, hr_1, wl_1⟩ := HI.open_filters (hval 1 25 v1 rfl rfl) h1
  have k2 := h2
  have lt2 : ∀ x ∈ p2, x.block < W.heap.size := by obtain ⟨m, hm⟩ := k2; exact DataW.trod_lt m _ _ _ hm
  obtain ⟨A_2, c_2, l_2, rfl, hc_2, hr_2, wl_2⟩ := HI.open_bytes (hval 2 32 v2 rfl rfl) h2
  have k3 := h3
  have lt3 : ∀ x ∈ p3, x.block < W.heap.size := by obtain ⟨m, hm⟩ := k3; exact DataW.trod_lt m _ _ _ hm
  obtain ⟨A_3, c_3, l_3, rfl, hc_3, hr_3, wl_3⟩ := HI.open_bytes (hval 3 32 v3 rfl rfl) h3
  obtain ⟨a4, rfl, rfl, rfl, w4⟩ := open_int Try.underlying3 (hval 4 3 v4 rfl rfl) h4
  refine (Wk.TnsbitsBack W s_0 sh_0 m_0 A_0 c_0 l_0 A_1 c_1 l_1 A_2 c_2 l_2 A_3 c_3 l_3 a4 hc_0 hr_0 ws_0 wsh_0 wm_0 wl_0 hc_1 hr_1 wl_1 hc_2 hr_2 wl_2 hc_3 hr_3 wl_3 w4).mono fun e W' ⟨he, bel⟩ => ?_
  subst he
  exact ⟨_, rfl, _, _, _, [], _, [], hW', trodAll_mk1 (shut_bool Try.underlying4 _), (trodAll_cons_mk (Below.trod laidOut (by kernel_rfl) (of_decide_eq_true (by kernel_rfl)) k0 bel lt0) (trodAll_cons_mk (Below.trod laidOut (by kernel_rfl) (of_decide_eq_true (by kernel_rfl)) k1 bel lt1) (trodAll_cons_mk (Below.trod laidOut (by kernel_rfl) (of_decide_eq_true (by kernel_rfl)) k2 bel lt2) (trodAll_cons_mk (Below.trod laidOut (by kernel_rfl) (of_decide_eq_true (by kernel_rfl)) k3 bel lt3) (trodAll_cons_mk (shut_int Try.underlying3 w4) trodAll_mk0))))), rfl, bel.frame _, fun h => by cases h⟩
theorem over : Rows.tnsbitsBackRow.holds Try.pinned (OpenSpec.ofChange Rows.tnsbitsBackSpec) :=
  OpenClaim.holds_of_wide 6 Try.f6 rfl rfl rfl rfl rfl rfl rfl ⟨rfl, rfl, rfl, rfl, rfl⟩ rfl rfl rfl rfl rfl (by kernel_rfl) Try.func6 (by kernel_rfl)
    (of_decide_eq_true (by kernel_rfl)) (by unfold Func.isWrapper; first | (rw [if_pos (by decide +kernel)]; kernel_rfl) | (rw [if_neg (by decide +kernel)]; exact ⟨rfl, rfl⟩))
    (fun os started H enc _ => lifted os started H enc)
theorem proved : Rows.TnsbitsBackSaid := over
#print axioms proved
end Go.Proofs.Ytdhcgfdnhlhapaa.tnsbitsBack
namespace Go.Proofs.Ytdhcgfdnhlhapaa
/-- The row, under a short name, for the claim. -/
theorem tnsbitsBack_holds : Rows.TnsbitsBackSaid := tnsbitsBack.proved
end Go.Proofs.Ytdhcgfdnhlhapaa
end
