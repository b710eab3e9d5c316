/- Texts of this session for the law InfoBack, packed by wip/merge.py: part 4 of 4. Each section is one text; the law's own sentence stands over its section. -/
import Derived.Test.YtdoeclpbobjgdaaWWords
import Derived.Deep.Slices
import Derived.ChangeArms
import Derived.ChangeOld
import Derived.Carry
import Derived.ChangeSlices
import Derived.WideShapes
import Derived.Test.YtdoeclpbobjgdaaProg
import Derived.KernelRfl
import Derived.Test.YtdoeclpbobjgdaaRows
import Derived.WalkKit
import Derived.ProofKit
import Derived.OpenShut
import Derived.ShutString
import Derived.Below
import Derived.SizedLaws
import Derived.Test.YtdoeclpbobjgdaaYInfoBack1
import Derived.Test.YtdoeclpbobjgdaaYInfoBack2
import Derived.Test.YtdoeclpbobjgdaaYInfoBack3
section
-- Written for this claim by this session's own wip/hook.py (it runs the kit's print and takes some functions' contracts as given texts of this session's).
namespace Go.Proofs.Ytdoeclpbobjgdaa.K
open Go.RowKit Go.Proofs.YtdoeclpbobjgdaaW.PrintWords Go.Proofs.YtdoeclpbobjgdaaW.PrintLast Go.Proofs.YtdoeclpbobjgdaaW.PrintMore
attribute [local go_sem] max2_int min2_int max_two min_two max_three min_three max_four min_four   -- for this text's walks alone
set_option linter.unusedVariables false
set_option linter.unusedSimpArgs false

/-! ### reedpiperef10_Many: function 27 -/
def reedpiperef10_Many.f (a0_0 : Int) (a0_1 : Int) (a0_2 : Int) (l0_3 : List Int) : Option (Int) := if a0_0 = 2 then (some 8) else (some 1)
set_option maxHeartbeats 8000000 in
set_option maxRecDepth 100000 in
theorem reedpiperef10_Many.calls (a0_0 : Int) (a0_1 : Int) (a0_2 : Int) (A0_3 : Option Addr) (c0_3 : Nat) (l0_3 : List Int) (r : Int) (w : World) (hr0_3 : Kd.C (Kd.int .i64) w A0_3 l0_3.length l0_3) (hc0_3 : l0_3.length ≤ c0_3) (h : reedpiperef10_Many.f a0_0 a0_1 a0_2 l0_3 = some r) :
    Calls Try.prog 27 #[.agg #[.int .u8 a0_0, .int .u8 a0_1, .int .i64 a0_2, .slice A0_3 l0_3.length c0_3]] w fun e w' => e = .returned (.int .i64 r) ∧ Below w.heap.size w w' := by
  have hu24 := Try.underlying24
  have HR0_3 := Aside0.mk hr0_3
  have HC0_3 := Aside0.mk hc0_3
  clear hr0_3 hc0_3
  have HB := Aside0.mk (Below.refl w.heap.size w)
  have H : (if a0_0 = 2 then (some 8) else (some 1)) = some r := h
  clear h
  by_cases c2 : a0_0 = 2
  · rw [if_pos c2] at H
    have c2b0 : (a0_0 == 2) = true := beq_iff_eq.mpr c2
    have c2b1 : (a0_0 != 2) = false := bne_eq_false_iff_eq.mpr c2
    clear c2
    obtain rfl := Option.some.inj H
    go_enter Try.func27, Try.ntmps27
    go_wp2_with (first | ((with_reducible refine gate_dst (N := 1) rfl ?_); refine box_event ?hg (N := 1) ?hd (cs := #[.int .u8 a0_0, .int .u8 a0_1, .int .i64 a0_2, .slice A0_3 l0_3.length c0_3]) (t := 24) ?hr ?_; (case hd => rfl); (case hg => rfl); (case hr => first | (go_simp; done) | (go_simp; rfl)); intro gb155 hg w3 hbox hb; have n0_ := Aside0.mk (below_step (by repeat (first | (with_reducible first | exact HB.out | apply below_alloc | apply pw_below_drewN | apply below_drew1) | exact HB.out)) hb); have n1_ := Aside0.mk (hbox); have n2_ := Aside0.mk ((by rw [hg]; exact (below_size (by repeat (first | (with_reducible first | exact HB.out | apply below_alloc | apply pw_below_drewN | apply below_drew1) | exact HB.out))) : w.heap.size ≤ gb155)); have n3_ := Aside0.mk ((by rw [hg]; exact (below_size (by repeat (first | (with_reducible first | exact HB.out | apply below_alloc | apply pw_below_drewN | apply below_drew1) | exact HB.out))) : w.heap.size ≤ gb155)); clear HB; have HB := n0_; have BK155 := n1_; have GW155 := n2_; have GE155 := n3_; clear n0_ n1_ n2_ n3_; clear hb hbox hg; have hcz4_0 : w3.cell? ⟨gb155, 0, none⟩ = some (.int .u8 a0_0) := (blk_cell BK155.out 0).trans rfl; have hcz4_1 : w3.cell? ⟨gb155, 1, none⟩ = some (.int .u8 a0_1) := (blk_cell BK155.out 1).trans rfl; have hcz4_2 : w3.cell? ⟨gb155, 2, none⟩ = some (.int .i64 a0_2) := (blk_cell BK155.out 2).trans rfl; have hcz4_3 : w3.cell? ⟨gb155, 3, none⟩ = some (.slice A0_3 l0_3.length c0_3) := (blk_cell BK155.out 3).trans rfl; have hfz4_0 := blk_frozen BK155.out 0; have hfz4_1 := blk_frozen BK155.out 1; have hfz4_2 := blk_frozen BK155.out 2; have hfz4_3 := blk_frozen BK155.out 3))
    go_ret
    exact ⟨by first | rfl | (simp [errW_none, errW_some] <;> rfl) | (simp [*, errW_none, errW_some] <;> rfl), by repeat (first | (with_reducible first | exact HB.out | apply below_alloc | apply pw_below_drewN | apply below_drew1 | refine below_set ?_ GE155.out) | exact HB.out)⟩
  · rw [if_neg c2] at H
    have c2b0 : (a0_0 == 2) = false := beq_eq_false_iff_ne.mpr c2
    have c2b1 : (a0_0 != 2) = true := bne_iff_ne.mpr c2
    obtain rfl := Option.some.inj H
    go_enter Try.func27, Try.ntmps27
    go_wp2_with (first | ((with_reducible refine gate_dst (N := 1) rfl ?_); refine box_event ?hg (N := 1) ?hd (cs := #[.int .u8 a0_0, .int .u8 a0_1, .int .i64 a0_2, .slice A0_3 l0_3.length c0_3]) (t := 24) ?hr ?_; (case hd => rfl); (case hg => rfl); (case hr => first | (go_simp; done) | (go_simp; rfl)); intro gb155 hg w5 hbox hb; have n0_ := Aside0.mk (below_step (by repeat (first | (with_reducible first | exact HB.out | apply below_alloc | apply pw_below_drewN | apply below_drew1) | exact HB.out)) hb); have n1_ := Aside0.mk (hbox); have n2_ := Aside0.mk ((by rw [hg]; exact (below_size (by repeat (first | (with_reducible first | exact HB.out | apply below_alloc | apply pw_below_drewN | apply below_drew1) | exact HB.out))) : w.heap.size ≤ gb155)); have n3_ := Aside0.mk ((by rw [hg]; exact (below_size (by repeat (first | (with_reducible first | exact HB.out | apply below_alloc | apply pw_below_drewN | apply below_drew1) | exact HB.out))) : w.heap.size ≤ gb155)); clear HB; have HB := n0_; have BK155 := n1_; have GW155 := n2_; have GE155 := n3_; clear n0_ n1_ n2_ n3_; clear hb hbox hg; have hcz6_0 : w5.cell? ⟨gb155, 0, none⟩ = some (.int .u8 a0_0) := (blk_cell BK155.out 0).trans rfl; have hcz6_1 : w5.cell? ⟨gb155, 1, none⟩ = some (.int .u8 a0_1) := (blk_cell BK155.out 1).trans rfl; have hcz6_2 : w5.cell? ⟨gb155, 2, none⟩ = some (.int .i64 a0_2) := (blk_cell BK155.out 2).trans rfl; have hcz6_3 : w5.cell? ⟨gb155, 3, none⟩ = some (.slice A0_3 l0_3.length c0_3) := (blk_cell BK155.out 3).trans rfl; have hfz6_0 := blk_frozen BK155.out 0; have hfz6_1 := blk_frozen BK155.out 1; have hfz6_2 := blk_frozen BK155.out 2; have hfz6_3 := blk_frozen BK155.out 3))
    go_ret
    exact ⟨by first | rfl | (simp [errW_none, errW_some] <;> rfl) | (simp [*, errW_none, errW_some] <;> rfl), by repeat (first | (with_reducible first | exact HB.out | apply below_alloc | apply pw_below_drewN | apply below_drew1 | refine below_set ?_ GE155.out) | exact HB.out)⟩

end Go.Proofs.Ytdoeclpbobjgdaa.K
end
section
-- Written for this claim by this session's own wip/hook.py (it runs the kit's print and takes some functions' contracts as given texts of this session's).
namespace Go.Proofs.Ytdoeclpbobjgdaa.K
open Go.RowKit Go.Proofs.YtdoeclpbobjgdaaW.PrintWords Go.Proofs.YtdoeclpbobjgdaaW.PrintLast Go.Proofs.YtdoeclpbobjgdaaW.PrintMore
attribute [local go_sem] max2_int min2_int max_two min_two max_three min_three max_four min_four   -- for this text's walks alone
set_option linter.unusedVariables false
set_option linter.unusedSimpArgs false

/-! ### reedpiperef10_Windows: function 11 -/
def reedpiperef10_Windows.f (k : Nat) (a0_0 : Int) (a0_1 : Int) (a0_2 : Int) (l0_3 : List Int) : Option (Int × Int) := (reedpiperef10_Some.f k a0_0 a0_1 a0_2 l0_3).bind fun t157 => (if t157 = true then ((reedpiperef10_Many.f a0_0 a0_1 a0_2 l0_3).bind fun t158 => (some (t158, 0))) else (some (0, 8)))
theorem reedpiperef10_Windows.mono : ∀ a0 a1 a2 a3 k, LeO (reedpiperef10_Windows.f k a0 a1 a2 a3) (reedpiperef10_Windows.f (k + 1) a0 a1 a2 a3) := by
  intro a0 a1 a2 a3 k
  unfold reedpiperef10_Windows.f
  repeat' first
      | (with_reducible exact reedpiperef10_Some.mono _ _ _ _ _)
      | (with_reducible exact LeO.refl _)
      | (with_reducible exact LeO.none _)
      | (with_reducible refine LeO.ite ?_ ?_)
      | (with_reducible refine LeO.bind ?_ (fun _ => ?_))
      | exact reedpiperef10_Some.mono _ _ _ _ _
      | exact LeO.none _
      | refine LeO.ite ?_ ?_
      | refine LeO.bind ?_ (fun _ => ?_)
set_option maxHeartbeats 8000000 in
set_option maxRecDepth 100000 in
theorem reedpiperef10_Windows.calls (k : Nat) (a0_0 : Int) (a0_1 : Int) (a0_2 : Int) (A0_3 : Option Addr) (c0_3 : Nat) (l0_3 : List Int) (r1 : Int) (r2 : Int) (w : World) (hr0_3 : Kd.C (Kd.int .i64) w A0_3 l0_3.length l0_3) (hc0_3 : l0_3.length ≤ c0_3) (h : reedpiperef10_Windows.f k a0_0 a0_1 a0_2 l0_3 = some (r1, r2)) :
    Calls Try.prog 11 #[.agg #[.int .u8 a0_0, .int .u8 a0_1, .int .i64 a0_2, .slice A0_3 l0_3.length c0_3]] w fun e w' => e = .returned (.tuple #[.int .i64 r1, .int .i64 r2]) ∧ Below w.heap.size w w' := by
  have hu24 := Try.underlying24
  have HR0_3 := Aside0.mk hr0_3
  have HC0_3 := Aside0.mk hc0_3
  clear hr0_3 hc0_3
  have HB := Aside0.mk (Below.refl w.heap.size w)
  have H : ((reedpiperef10_Some.f k a0_0 a0_1 a0_2 l0_3).bind fun t157 => (if t157 = true then ((reedpiperef10_Many.f a0_0 a0_1 a0_2 l0_3).bind fun t158 => (some (t158, 0))) else (some (0, 8)))) = some (r1, r2) := h
  clear h
  replace H := Option.bind_eq_some_iff.mp H
  obtain ⟨t157, A20, H⟩ := H
  replace H : (if t157 = true then ((reedpiperef10_Many.f a0_0 a0_1 a0_2 l0_3).bind fun t158 => (some (t158, 0))) else (some (0, 8))) = some (r1, r2) := H
  have A2 := Aside0.mk A20
  clear A20
  by_cases c3 : t157 = true
  · subst c3
    have H1 : ((reedpiperef10_Many.f a0_0 a0_1 a0_2 l0_3).bind fun t158 => (some (t158, 0))) = some (r1, r2) := by rw [if_pos rfl] at H; exact H
    clear H
    have H := H1
    clear H1
    replace H := Option.bind_eq_some_iff.mp H
    obtain ⟨t158, A40, H⟩ := H
    replace H : (some (t158, 0)) = some (r1, r2) := H
    have A4 := Aside0.mk A40
    clear A40
    simp only [Option.some.injEq, Prod.mk.injEq] at H
    obtain ⟨rfl, rfl⟩ := H
    go_enter Try.func11, Try.ntmps11
    go_wp2_with (first | ((with_reducible refine gate_dst (N := 1) rfl ?_); refine box_event ?hg (N := 1) ?hd (cs := #[.int .u8 a0_0, .int .u8 a0_1, .int .i64 a0_2, .slice A0_3 l0_3.length c0_3]) (t := 24) ?hr ?_; (case hd => rfl); (case hg => rfl); (case hr => first | (go_simp; done) | (go_simp; rfl)); intro gb156 hg w5 hbox hb; have n0_ := Aside0.mk (below_step (by repeat (first | (with_reducible first | exact HB.out | apply below_alloc | apply pw_below_drewN | apply below_drew1) | exact HB.out)) hb); have n1_ := Aside0.mk (hbox); have n2_ := Aside0.mk ((by rw [hg]; exact (below_size (by repeat (first | (with_reducible first | exact HB.out | apply below_alloc | apply pw_below_drewN | apply below_drew1) | exact HB.out))) : w.heap.size ≤ gb156)); have n3_ := Aside0.mk ((by rw [hg]; exact (below_size (by repeat (first | (with_reducible first | exact HB.out | apply below_alloc | apply pw_below_drewN | apply below_drew1) | exact HB.out))) : w.heap.size ≤ gb156)); clear HB; have HB := n0_; have BK156 := n1_; have GW156 := n2_; have GE156 := n3_; clear n0_ n1_ n2_ n3_; clear hb hbox hg; have hcz6_0 : w5.cell? ⟨gb156, 0, none⟩ = some (.int .u8 a0_0) := (blk_cell BK156.out 0).trans rfl; have hcz6_1 : w5.cell? ⟨gb156, 1, none⟩ = some (.int .u8 a0_1) := (blk_cell BK156.out 1).trans rfl; have hcz6_2 : w5.cell? ⟨gb156, 2, none⟩ = some (.int .i64 a0_2) := (blk_cell BK156.out 2).trans rfl; have hcz6_3 : w5.cell? ⟨gb156, 3, none⟩ = some (.slice A0_3 l0_3.length c0_3) := (blk_cell BK156.out 3).trans rfl; have hfz6_0 := blk_frozen BK156.out 0; have hfz6_1 := blk_frozen BK156.out 1; have hfz6_2 := blk_frozen BK156.out 2; have hfz6_3 := blk_frozen BK156.out 3) | ((with_reducible refine gate_callee (f := 26) rfl ?_); refine goesL_ (some 5) rfl rfl Try.func26 (by kernel_rfl) rfl #[.agg #[.int .u8 a0_0, .int .u8 a0_1, .int .i64 a0_2, .slice A0_3 l0_3.length c0_3]] rfl (by (try simp only [List.map_toArray, List.map_cons, List.map_nil]); first | done | rfl | (simp only [List.length_drop, List.length_take]; rfl)) ?_; (with_reducible refine (reedpiperef10_Some.calls k a0_0 a0_1 a0_2 _ _ l0_3 true _ ?side1 ?side2 A2.out).mono ?_); (case side1 => repeat (first | exact (Kd.C_below HR0_3.out HB.out) | (with_reducible refine Kd.C_alloc ?_ _) | (with_reducible refine Kd.C_drewN ?_ _) | (with_reducible refine Kd.C_drew ?_))); (case side2 => exact HC0_3.out); rintro e w7 ⟨rfl, hb⟩; refine ⟨_, rfl, ?_⟩; have n0_ := Aside0.mk (blk_below (g := gb156) (o := .cells #[.int .u8 a0_0, .int .u8 a0_1, .int .i64 a0_2, .slice A0_3 l0_3.length c0_3] 24 (0, 0)) (by (with_reducible repeat (first | refine blk_drewN ?_ _ | refine blk_drew ?_ | refine blk_alloc ?_ _)); exact BK156.out) hb); have n1_ := Aside0.mk (below_step (by repeat (first | (with_reducible first | exact HB.out | apply below_alloc | apply pw_below_drewN | apply below_drew1 | refine below_set ?_ GE156.out) | exact HB.out)) hb); clear BK156; clear HB; have BK156 := n0_; have HB := n1_; clear n0_ n1_; (try clear hb); (try clear hb2); (try clear hk); (try clear hi); have hcz8_0 : w7.cell? ⟨gb156, 0, none⟩ = some (.int .u8 a0_0) := (blk_cell BK156.out 0).trans rfl; have hcz8_1 : w7.cell? ⟨gb156, 1, none⟩ = some (.int .u8 a0_1) := (blk_cell BK156.out 1).trans rfl; have hcz8_2 : w7.cell? ⟨gb156, 2, none⟩ = some (.int .i64 a0_2) := (blk_cell BK156.out 2).trans rfl; have hcz8_3 : w7.cell? ⟨gb156, 3, none⟩ = some (.slice A0_3 l0_3.length c0_3) := (blk_cell BK156.out 3).trans rfl; have hfz8_0 := blk_frozen BK156.out 0; have hfz8_1 := blk_frozen BK156.out 1; have hfz8_2 := blk_frozen BK156.out 2; have hfz8_3 := blk_frozen BK156.out 3) | ((with_reducible refine gate_callee (f := 27) rfl ?_); refine goesL_ (some 8) rfl rfl Try.func27 (by kernel_rfl) rfl #[.agg #[.int .u8 a0_0, .int .u8 a0_1, .int .i64 a0_2, .slice A0_3 l0_3.length c0_3]] rfl (by (try simp only [List.map_toArray, List.map_cons, List.map_nil]); first | done | rfl | (simp only [List.length_drop, List.length_take]; rfl)) ?_; (with_reducible refine (reedpiperef10_Many.calls a0_0 a0_1 a0_2 _ _ l0_3 t158 _ ?side1 ?side2 A4.out).mono ?_); (case side1 => repeat (first | exact (Kd.C_below HR0_3.out HB.out) | (with_reducible refine Kd.C_alloc ?_ _) | (with_reducible refine Kd.C_drewN ?_ _) | (with_reducible refine Kd.C_drew ?_))); (case side2 => exact HC0_3.out); rintro e w9 ⟨rfl, hb⟩; refine ⟨_, rfl, ?_⟩; have n0_ := Aside0.mk (blk_below (g := gb156) (o := .cells #[.int .u8 a0_0, .int .u8 a0_1, .int .i64 a0_2, .slice A0_3 l0_3.length c0_3] 24 (0, 0)) (by (with_reducible repeat (first | refine blk_drewN ?_ _ | refine blk_drew ?_ | refine blk_alloc ?_ _)); exact BK156.out) hb); have n1_ := Aside0.mk (below_step (by repeat (first | (with_reducible first | exact HB.out | apply below_alloc | apply pw_below_drewN | apply below_drew1 | refine below_set ?_ GE156.out) | exact HB.out)) hb); clear BK156; clear HB; have BK156 := n0_; have HB := n1_; clear n0_ n1_; (try clear hb); (try clear hb2); (try clear hk); (try clear hi)))
    go_ret2
    exact ⟨by first | rfl | (simp [errW_none, errW_some] <;> rfl) | (simp [*, errW_none, errW_some] <;> rfl), by repeat (first | (with_reducible first | exact HB.out | apply below_alloc | apply pw_below_drewN | apply below_drew1 | refine below_set ?_ GE156.out) | exact HB.out)⟩
  · replace c3 := Bool.eq_false_iff.mpr c3
    subst c3
    have H1 : (some (0, 8)) = some (r1, r2) := by rw [if_neg (show ¬ (false = true) by decide)] at H; exact H
    clear H
    have H := H1
    clear H1
    simp only [Option.some.injEq, Prod.mk.injEq] at H
    obtain ⟨rfl, rfl⟩ := H
    go_enter Try.func11, Try.ntmps11
    go_wp2_with (first | ((with_reducible refine gate_dst (N := 1) rfl ?_); refine box_event ?hg (N := 1) ?hd (cs := #[.int .u8 a0_0, .int .u8 a0_1, .int .i64 a0_2, .slice A0_3 l0_3.length c0_3]) (t := 24) ?hr ?_; (case hd => rfl); (case hg => rfl); (case hr => first | (go_simp; done) | (go_simp; rfl)); intro gb156 hg w10 hbox hb; have n0_ := Aside0.mk (below_step (by repeat (first | (with_reducible first | exact HB.out | apply below_alloc | apply pw_below_drewN | apply below_drew1) | exact HB.out)) hb); have n1_ := Aside0.mk (hbox); have n2_ := Aside0.mk ((by rw [hg]; exact (below_size (by repeat (first | (with_reducible first | exact HB.out | apply below_alloc | apply pw_below_drewN | apply below_drew1) | exact HB.out))) : w.heap.size ≤ gb156)); have n3_ := Aside0.mk ((by rw [hg]; exact (below_size (by repeat (first | (with_reducible first | exact HB.out | apply below_alloc | apply pw_below_drewN | apply below_drew1) | exact HB.out))) : w.heap.size ≤ gb156)); clear HB; have HB := n0_; have BK156 := n1_; have GW156 := n2_; have GE156 := n3_; clear n0_ n1_ n2_ n3_; clear hb hbox hg; have hcz11_0 : w10.cell? ⟨gb156, 0, none⟩ = some (.int .u8 a0_0) := (blk_cell BK156.out 0).trans rfl; have hcz11_1 : w10.cell? ⟨gb156, 1, none⟩ = some (.int .u8 a0_1) := (blk_cell BK156.out 1).trans rfl; have hcz11_2 : w10.cell? ⟨gb156, 2, none⟩ = some (.int .i64 a0_2) := (blk_cell BK156.out 2).trans rfl; have hcz11_3 : w10.cell? ⟨gb156, 3, none⟩ = some (.slice A0_3 l0_3.length c0_3) := (blk_cell BK156.out 3).trans rfl; have hfz11_0 := blk_frozen BK156.out 0; have hfz11_1 := blk_frozen BK156.out 1; have hfz11_2 := blk_frozen BK156.out 2; have hfz11_3 := blk_frozen BK156.out 3) | ((with_reducible refine gate_callee (f := 26) rfl ?_); refine goesL_ (some 5) rfl rfl Try.func26 (by kernel_rfl) rfl #[.agg #[.int .u8 a0_0, .int .u8 a0_1, .int .i64 a0_2, .slice A0_3 l0_3.length c0_3]] rfl (by (try simp only [List.map_toArray, List.map_cons, List.map_nil]); first | done | rfl | (simp only [List.length_drop, List.length_take]; rfl)) ?_; (with_reducible refine (reedpiperef10_Some.calls k a0_0 a0_1 a0_2 _ _ l0_3 false _ ?side1 ?side2 A2.out).mono ?_); (case side1 => repeat (first | exact (Kd.C_below HR0_3.out HB.out) | (with_reducible refine Kd.C_alloc ?_ _) | (with_reducible refine Kd.C_drewN ?_ _) | (with_reducible refine Kd.C_drew ?_))); (case side2 => exact HC0_3.out); rintro e w12 ⟨rfl, hb⟩; refine ⟨_, rfl, ?_⟩; have n0_ := Aside0.mk (blk_below (g := gb156) (o := .cells #[.int .u8 a0_0, .int .u8 a0_1, .int .i64 a0_2, .slice A0_3 l0_3.length c0_3] 24 (0, 0)) (by (with_reducible repeat (first | refine blk_drewN ?_ _ | refine blk_drew ?_ | refine blk_alloc ?_ _)); exact BK156.out) hb); have n1_ := Aside0.mk (below_step (by repeat (first | (with_reducible first | exact HB.out | apply below_alloc | apply pw_below_drewN | apply below_drew1 | refine below_set ?_ GE156.out) | exact HB.out)) hb); clear BK156; clear HB; have BK156 := n0_; have HB := n1_; clear n0_ n1_; (try clear hb); (try clear hb2); (try clear hk); (try clear hi)))
    go_ret2
    exact ⟨by first | rfl | (simp [errW_none, errW_some] <;> rfl) | (simp [*, errW_none, errW_some] <;> rfl), by repeat (first | (with_reducible first | exact HB.out | apply below_alloc | apply pw_below_drewN | apply below_drew1 | refine below_set ?_ GE156.out) | exact HB.out)⟩

end Go.Proofs.Ytdoeclpbobjgdaa.K
end
section
-- Written for this claim by this session's own wip/hook.py (it runs the kit's print and takes some functions' contracts as given texts of this session's).
namespace Go.Proofs.Ytdoeclpbobjgdaa.K
open Go.RowKit Go.Proofs.YtdoeclpbobjgdaaW.PrintWords Go.Proofs.YtdoeclpbobjgdaaW.PrintLast Go.Proofs.YtdoeclpbobjgdaaW.PrintMore
attribute [local go_sem] max2_int min2_int max_two min_two max_three min_three max_four min_four   -- for this text's walks alone
set_option linter.unusedVariables false
set_option linter.unusedSimpArgs false

/-! ### reedpiperef10_In: function 28 -/
mutual
def reedpiperef10_In.l0 : Nat → List Int → Int → Int → Int → Int → List Int → Option (List Int)
  | 0, _, _, _, _, _, _ => none
  | k + 1, x3, x4, x165000, x165001, x165002, x165003 => if x4 < (x165003.length : Int) then (reedpiperef10_In.l1 k x3 x4 0 x165000 x165001 x165002 x165003) else (some x3)
def reedpiperef10_In.l1 : Nat → List Int → Int → Int → Int → Int → Int → List Int → Option (List Int)
  | 0, _, _, _, _, _, _, _ => none
  | k + 1, x3, x4, x5, x165000, x165001, x165002, x165003 => if 0 ≤ x4 then (if x4 < (x165003.length : Int) then (if x5 < (rd x165003 x4) then (if x3.length < 17592186044416 then (reedpiperef10_In.l1 k (x3 ++ [x4]) x4 (wrap64 (x5 + 1)) x165000 x165001 x165002 x165003) else (none)) else (reedpiperef10_In.l0 k x3 (wrap64 (x4 + 1)) x165000 x165001 x165002 x165003)) else (none)) else (none)
end
def reedpiperef10_In.f (k : Nat) (a0_0 : Int) (a0_1 : Int) (a0_2 : Int) (l0_3 : List Int) : Option (List Int) := reedpiperef10_In.l0 k ([] : List Int) 0 a0_0 a0_1 a0_2 l0_3
theorem reedpiperef10_In.mono_l : ∀ k, (∀ y0 y1 y2 y3 y4 y5, LeO (reedpiperef10_In.l0 k y0 y1 y2 y3 y4 y5) (reedpiperef10_In.l0 (k + 1) y0 y1 y2 y3 y4 y5)) ∧ (∀ y0 y1 y2 y3 y4 y5 y6, LeO (reedpiperef10_In.l1 k y0 y1 y2 y3 y4 y5 y6) (reedpiperef10_In.l1 (k + 1) y0 y1 y2 y3 y4 y5 y6))
  | 0 => ⟨fun _ _ _ _ _ _ r h => by simp [reedpiperef10_In.l0] at h, fun _ _ _ _ _ _ _ r h => by simp [reedpiperef10_In.l1] at h⟩
  | k + 1 => by
    obtain ⟨ih0, ih1⟩ := reedpiperef10_In.mono_l k
    refine ⟨?_, ?_⟩
    · intro y0 y1 y2 y3 y4 y5
      unfold reedpiperef10_In.l0
      repeat' first
      | (with_reducible exact ih0 _ _ _ _ _ _)
      | (with_reducible exact ih1 _ _ _ _ _ _ _)
      | (with_reducible exact LeO.refl _)
      | (with_reducible exact LeO.none _)
      | (with_reducible refine LeO.ite ?_ ?_)
      | (with_reducible refine LeO.bind ?_ (fun _ => ?_))
      | exact ih0 _ _ _ _ _ _
      | exact ih1 _ _ _ _ _ _ _
      | exact LeO.none _
      | refine LeO.ite ?_ ?_
      | refine LeO.bind ?_ (fun _ => ?_)
    · intro y0 y1 y2 y3 y4 y5 y6
      unfold reedpiperef10_In.l1
      repeat' first
      | (with_reducible exact ih0 _ _ _ _ _ _)
      | (with_reducible exact ih1 _ _ _ _ _ _ _)
      | (with_reducible exact LeO.refl _)
      | (with_reducible exact LeO.none _)
      | (with_reducible refine LeO.ite ?_ ?_)
      | (with_reducible refine LeO.bind ?_ (fun _ => ?_))
      | exact ih0 _ _ _ _ _ _
      | exact ih1 _ _ _ _ _ _ _
      | exact LeO.none _
      | refine LeO.ite ?_ ?_
      | refine LeO.bind ?_ (fun _ => ?_)
theorem reedpiperef10_In.mono : ∀ a0 a1 a2 a3 k, LeO (reedpiperef10_In.f k a0 a1 a2 a3) (reedpiperef10_In.f (k + 1) a0 a1 a2 a3) := by
  intro a0 a1 a2 a3 k
  obtain ⟨ih0, ih1⟩ := reedpiperef10_In.mono_l k
  unfold reedpiperef10_In.f
  repeat' first
      | (with_reducible exact ih0 _ _ _ _ _ _)
      | (with_reducible exact ih1 _ _ _ _ _ _ _)
      | (with_reducible exact LeO.refl _)
      | (with_reducible exact LeO.none _)
      | (with_reducible refine LeO.ite ?_ ?_)
      | (with_reducible refine LeO.bind ?_ (fun _ => ?_))
      | exact ih0 _ _ _ _ _ _
      | exact ih1 _ _ _ _ _ _ _
      | exact LeO.none _
      | refine LeO.ite ?_ ?_
      | refine LeO.bind ?_ (fun _ => ?_)
set_option maxHeartbeats 8000000 in
set_option maxRecDepth 100000 in
theorem reedpiperef10_In.calls (k : Nat) (a0_0 : Int) (a0_1 : Int) (a0_2 : Int) (A0_3 : Option Addr) (c0_3 : Nat) (l0_3 : List Int) (r : List Int) (w : World) (hr0_3 : Kd.C (Kd.int .i64) w A0_3 l0_3.length l0_3) (hc0_3 : l0_3.length ≤ c0_3) (h : reedpiperef10_In.f k a0_0 a0_1 a0_2 l0_3 = some r) :
    Calls Try.prog 28 #[.agg #[.int .u8 a0_0, .int .u8 a0_1, .int .i64 a0_2, .slice A0_3 l0_3.length c0_3]] w fun e w' => ∃ v0_ : Value, e = .returned (v0_) ∧ Kd.R (Kd.int .i64) 3 w' w.heap.size (fun _ => True) v0_ r ∧ Below w.heap.size w w' := by
  have hu24 := Try.underlying24
  have HR0_3 := Aside0.mk hr0_3
  have HC0_3 := Aside0.mk hc0_3
  clear hr0_3 hc0_3
  have HB := Aside0.mk (Below.refl w.heap.size w)
  have H : (reedpiperef10_In.l0 k ([] : List Int) 0 a0_0 a0_1 a0_2 l0_3) = some r := h
  clear h
  have H' := Aside0.mk H
  clear H
  go_enter Try.func28, Try.ntmps28
  go_wp2_with (first | ((with_reducible refine gate_dst (N := 1) rfl ?_); refine box_event ?hg (N := 1) ?hd (cs := #[.int .u8 a0_0, .int .u8 a0_1, .int .i64 a0_2, .slice A0_3 l0_3.length c0_3]) (t := 24) ?hr ?_; (case hd => rfl); (case hg => rfl); (case hr => first | (go_simp; done) | (go_simp; rfl)); intro gb164 hg w2 hbox hb; have n0_ := Aside0.mk (below_step (by repeat (first | (with_reducible first | exact HB.out | apply below_alloc | apply pw_below_drewN | apply below_drew1) | exact HB.out)) hb); have n1_ := Aside0.mk (hbox); have n2_ := Aside0.mk ((by rw [hg]; exact (below_size (by repeat (first | (with_reducible first | exact HB.out | apply below_alloc | apply pw_below_drewN | apply below_drew1) | exact HB.out))) : w.heap.size ≤ gb164)); have n3_ := Aside0.mk ((by rw [hg]; exact (below_size (by repeat (first | (with_reducible first | exact HB.out | apply below_alloc | apply pw_below_drewN | apply below_drew1) | exact HB.out))) : w.heap.size ≤ gb164)); clear HB; have HB := n0_; have BK164 := n1_; have GW164 := n2_; have GE164 := n3_; clear n0_ n1_ n2_ n3_; clear hb hbox hg))
  go_loopg [3, 4] k (fun kq v3 v4 w' => ∃ (x3_1 : List Int) (x4_1 : Int), v4 = .int .i64 x4_1 ∧ Aside0 (reedpiperef10_In.l0 kq x3_1 x4_1 a0_0 a0_1 a0_2 l0_3 = some r) ∧ Aside0 (kq ≤ k) ∧ Aside0 (Kd.R (Kd.int .i64) 3 w' w.heap.size (fun _ => True) v3 x3_1) ∧ Aside0 (w'.heap[gb164]? = some (.cells #[.int .u8 a0_0, .int .u8 a0_1, .int .i64 a0_2, (.slice A0_3 l0_3.length c0_3)] 24 (0, 0))) ∧ Aside0 (Below w.heap.size w w'))
  case atStart => exact ⟨(([] : List Int)), (0), (by first | rfl | (simp; done) | (simp [*]; done)), H', ⟨Nat.le_refl _⟩, ⟨by first | exact Kd.R_nil _ _ _ _ _ | exact Kd.N_nil _ _ _ _ _ | exact Kd.V_nil _ _ _ _ _ | exact Kd.Q_nil _ _ _ _ _ | exact Kd.S_nil _ _ _ _ _⟩, ⟨by (with_reducible repeat (first | refine blk_drewN ?_ _ | refine blk_drew ?_ | refine blk_alloc ?_ _)); exact BK164.out⟩, ⟨by repeat (first | (with_reducible first | exact HB.out | apply below_alloc | apply pw_below_drewN | apply below_drew1 | refine below_set ?_ GE164.out) | exact HB.out)⟩⟩
  case round =>
    clear H'
    try clear c2
    try clear p2
    obtain ⟨x3_1, x4_1, rfl, HA, HK1, HO_3, BK164, HB⟩ := hrel
    cases gk with
    | zero => exact absurd HA.out (by simp [reedpiperef10_In.l0])
    | succ k1 =>
      have H := HA.out
      clear HA
      simp only [reedpiperef10_In.l0] at H
      by_cases c3 : x4_1 < (l0_3.length : Int)
      · rw [if_pos c3] at H
        have c3b0 : decide (x4_1 < (l0_3.length : Int)) = true := decide_eq_true c3
        clear c3
        have H' := Aside0.mk H
        clear H
        have hcz4_0 : wr.cell? ⟨gb164, 0, none⟩ = some (.int .u8 a0_0) := (blk_cell BK164.out 0).trans rfl
        have hcz4_1 : wr.cell? ⟨gb164, 1, none⟩ = some (.int .u8 a0_1) := (blk_cell BK164.out 1).trans rfl
        have hcz4_2 : wr.cell? ⟨gb164, 2, none⟩ = some (.int .i64 a0_2) := (blk_cell BK164.out 2).trans rfl
        have hcz4_3 : wr.cell? ⟨gb164, 3, none⟩ = some (.slice A0_3 l0_3.length c0_3) := (blk_cell BK164.out 3).trans rfl
        have hfz4_0 := blk_frozen BK164.out 0
        have hfz4_1 := blk_frozen BK164.out 1
        have hfz4_2 := blk_frozen BK164.out 2
        have hfz4_3 := blk_frozen BK164.out 3
        go_wp2
        go_loopg [3, 5] k1 (fun kq v3 v5 w' => ∃ (x3_2 : List Int) (x5_2 : Int), v5 = .int .i64 x5_2 ∧ Aside0 (reedpiperef10_In.l1 kq x3_2 x4_1 x5_2 a0_0 a0_1 a0_2 l0_3 = some r) ∧ Aside0 (kq ≤ k1) ∧ Aside0 (Kd.R (Kd.int .i64) 3 w' w.heap.size (fun _ => True) v3 x3_2) ∧ Aside0 (w'.heap[gb164]? = some (.cells #[.int .u8 a0_0, .int .u8 a0_1, .int .i64 a0_2, (.slice A0_3 l0_3.length c0_3)] 24 (0, 0))) ∧ Aside0 (Below w.heap.size w w'))
        case atStart => exact ⟨(x3_1), (0), (by first | rfl | (simp; done) | (simp [*]; done)), H', ⟨Nat.le_refl _⟩, ⟨by (with_reducible repeat (first | apply Kd.R_alloc | apply Kd.R_drewN | apply Kd.R_drew)); exact HO_3.out⟩, ⟨by (with_reducible repeat (first | refine blk_drewN ?_ _ | refine blk_drew ?_ | refine blk_alloc ?_ _)); exact BK164.out⟩, ⟨by repeat (first | (with_reducible first | exact HB.out | apply below_alloc | apply pw_below_drewN | apply below_drew1 | refine below_set ?_ GE164.out) | exact HB.out)⟩⟩
        case round =>
          clear H'
          try clear c2
          try clear p2
          try clear c3
          try clear c3b0
          try clear hcz4_0
          try clear hcz4_1
          try clear hcz4_2
          try clear hcz4_3
          try clear hfz4_0
          try clear hfz4_1
          try clear hfz4_2
          try clear hfz4_3
          try clear p2
          obtain ⟨x3_2, x5_2, rfl, HA, HK2, HO_3, BK164, HB⟩ := hrel
          cases gk with
          | zero => exact absurd HA.out (by simp [reedpiperef10_In.l1])
          | succ k2 =>
            have H := HA.out
            clear HA
            simp only [reedpiperef10_In.l1] at H
            by_cases c5 : 0 ≤ x4_1
            · rw [if_pos c5] at H
              have c5b0 : decide (0 ≤ x4_1) = true := decide_eq_true c5
              clear c5
              by_cases c6 : x4_1 < (l0_3.length : Int)
              · rw [if_pos c6] at H
                have c6b0 : decide (x4_1 < (l0_3.length : Int)) = true := decide_eq_true c6
                clear c6
                by_cases c7 : x5_2 < (rd l0_3 x4_1)
                · rw [if_pos c7] at H
                  have c7b0 : decide (x5_2 < (rd l0_3 x4_1)) = true := decide_eq_true c7
                  clear c7
                  by_cases c8 : x3_2.length < 17592186044416
                  · rw [if_pos c8] at H
                    have LMc8 := Aside0.mk c8
                    clear c8
                    obtain ⟨y166, hy166⟩ : ∃ y_ : List Int, y_ = (x3_2 ++ [x4_1]) := ⟨_, rfl⟩
                    replace H : (reedpiperef10_In.l1 k2 y166 x4_1 (wrap64 (x5_2 + 1)) a0_0 a0_1 a0_2 l0_3) = some r := by first | (rw [hy166]; with_reducible exact H) | (have H2_ := (Option.bind_some _ _).symm.trans H; rw [hy166]; with_reducible exact H2_) | (have H2_ := (Option.bind_some _ _).symm.trans H; with_reducible exact H2_) | with_reducible exact H | (rw [hy166]; exact H) | exact H
                    have Ny166 := Aside0.mk hy166
                    clear hy166
                    have H' := Aside0.mk H
                    clear H
                    have hcz9_0 : wr.cell? ⟨gb164, 0, none⟩ = some (.int .u8 a0_0) := (blk_cell BK164.out 0).trans rfl
                    have hcz9_1 : wr.cell? ⟨gb164, 1, none⟩ = some (.int .u8 a0_1) := (blk_cell BK164.out 1).trans rfl
                    have hcz9_2 : wr.cell? ⟨gb164, 2, none⟩ = some (.int .i64 a0_2) := (blk_cell BK164.out 2).trans rfl
                    have hcz9_3 : wr.cell? ⟨gb164, 3, none⟩ = some (.slice A0_3 l0_3.length c0_3) := (blk_cell BK164.out 3).trans rfl
                    have hfz9_0 := blk_frozen BK164.out 0
                    have hfz9_1 := blk_frozen BK164.out 1
                    have hfz9_2 := blk_frozen BK164.out 2
                    have hfz9_3 := blk_frozen BK164.out 3
                    have p165 : 0 ≤ (x4_1 : Int) := of_decide_eq_true (by first | (with_reducible assumption) | assumption)
                    have q165 : x4_1 < (l0_3.length : Int) := of_decide_eq_true (by first | (with_reducible assumption) | assumption)
                    obtain ⟨ad165, e165, hx165_0⟩ := Kd.at_int HR0_3.out x4_1 p165 q165
                    cases e165
                    replace hx165_0 := (HB.out.cell (World.block_lt_of_cell? w _ hx165_0)).trans hx165_0
                    replace p165 := eq_true p165
                    replace q165 := eq_true q165
                    go_wp2_with (first | ((with_reducible refine gate_builtin (b := .append) (xs := #[.tmp 22, .tmp 24]) rfl ?_); at_builtin; refine Kd.R_append (Kd.int .i64) (w0 := w) w.heap.size rfl (.tmp 22) (.tmp 24) 22 3 (.int .i64 0) 8 rfl Try.underlying22 info3 rfl (by decide) (by omega) u3 x3_2 x4_1 [.int .i64 x4_1] (fun _ => True) (fun _ => False) rfl rfl ?aP (fun _ hk => hk.elim) ?aF ?aO ?aB ?aS ?aL ?_; (case aP => exact rfl); (case aB => exact (by repeat (first | (with_reducible first | exact HB.out | apply below_alloc | apply pw_below_drewN | apply below_drew1 | refine below_set ?_ GE164.out) | exact HB.out))); (case aF => exact (fun _ _ => trivial)); (case aO => exact (by (with_reducible repeat (first | apply Kd.R_alloc | apply Kd.R_drewN | apply Kd.R_drew)); exact HO_3.out)); (case aS => exact (below_size (by repeat (first | (with_reducible first | exact HB.out | apply below_alloc | apply pw_below_drewN | apply below_drew1 | refine below_set ?_ GE164.out) | exact HB.out)))); (case aL => have := LMc8.out; omega); intro v167 w10 ho hb hg hat; rw [← Ny166.out] at ho; have n0_ := Aside0.mk (blk_grown (g := gb164) (o := .cells #[.int .u8 a0_0, .int .u8 a0_1, .int .i64 a0_2, .slice (some ad165) l0_3.length c0_3] 24 (0, 0)) (by (with_reducible repeat (first | refine blk_drewN ?_ _ | refine blk_drew ?_ | refine blk_alloc ?_ _)); exact BK164.out) hg (Kd.R_ne HO_3.out BK164.out (by decide))); have n1_ := Aside0.mk (hb); have n2_ := Aside0.mk (ho); clear BK164; clear HB; clear HO_3; have BK164 := n0_; have HB := n1_; have HO168 := n2_; clear n0_ n1_ n2_; clear ho hb hg hat))
                    go_roundg k2
                    case measure => have := HK1.out; have := HK2.out; omega
                    case rel => exact ⟨(y166), (wrap64 (x5_2 + 1)), (by first | rfl | (simp; done) | (simp [*]; done)), H', ⟨by have := HK1.out; have := HK2.out; omega⟩, ⟨by (with_reducible repeat (first | apply Kd.R_alloc | apply Kd.R_drewN | apply Kd.R_drew)); exact HO168.out⟩, ⟨by (with_reducible repeat (first | refine blk_drewN ?_ _ | refine blk_drew ?_ | refine blk_alloc ?_ _)); exact BK164.out⟩, ⟨by repeat (first | (with_reducible first | exact HB.out | apply below_alloc | apply pw_below_drewN | apply below_drew1 | refine below_set ?_ GE164.out) | exact HB.out)⟩⟩
                  · rw [if_neg c8] at H
                    exact absurd H (by simp)
                · rw [if_neg c7] at H
                  have c7b0 : decide (x5_2 < (rd l0_3 x4_1)) = false := decide_eq_false c7
                  clear c7
                  have H' := Aside0.mk H
                  clear H
                  have hcz11_0 : wr.cell? ⟨gb164, 0, none⟩ = some (.int .u8 a0_0) := (blk_cell BK164.out 0).trans rfl
                  have hcz11_1 : wr.cell? ⟨gb164, 1, none⟩ = some (.int .u8 a0_1) := (blk_cell BK164.out 1).trans rfl
                  have hcz11_2 : wr.cell? ⟨gb164, 2, none⟩ = some (.int .i64 a0_2) := (blk_cell BK164.out 2).trans rfl
                  have hcz11_3 : wr.cell? ⟨gb164, 3, none⟩ = some (.slice A0_3 l0_3.length c0_3) := (blk_cell BK164.out 3).trans rfl
                  have hfz11_0 := blk_frozen BK164.out 0
                  have hfz11_1 := blk_frozen BK164.out 1
                  have hfz11_2 := blk_frozen BK164.out 2
                  have hfz11_3 := blk_frozen BK164.out 3
                  have p165 : 0 ≤ (x4_1 : Int) := of_decide_eq_true (by first | (with_reducible assumption) | assumption)
                  have q165 : x4_1 < (l0_3.length : Int) := of_decide_eq_true (by first | (with_reducible assumption) | assumption)
                  obtain ⟨ad165, e165, hx165_0⟩ := Kd.at_int HR0_3.out x4_1 p165 q165
                  cases e165
                  replace hx165_0 := (HB.out.cell (World.block_lt_of_cell? w _ hx165_0)).trans hx165_0
                  replace p165 := eq_true p165
                  replace q165 := eq_true q165
                  go_wp2
                  go_roundg k2
                  case measure => have := HK1.out; have := HK2.out; omega
                  case rel => exact ⟨(x3_2), (wrap64 (x4_1 + 1)), (by first | rfl | (simp; done) | (simp [*]; done)), H', ⟨by have := HK1.out; have := HK2.out; omega⟩, ⟨by (with_reducible repeat (first | apply Kd.R_alloc | apply Kd.R_drewN | apply Kd.R_drew)); exact HO_3.out⟩, ⟨by (with_reducible repeat (first | refine blk_drewN ?_ _ | refine blk_drew ?_ | refine blk_alloc ?_ _)); exact BK164.out⟩, ⟨by repeat (first | (with_reducible first | exact HB.out | apply below_alloc | apply pw_below_drewN | apply below_drew1 | refine below_set ?_ GE164.out) | exact HB.out)⟩⟩
              · rw [if_neg c6] at H
                exact absurd H (by simp)
            · rw [if_neg c5] at H
              exact absurd H (by simp)
      · rw [if_neg c3] at H
        have c3b0 : decide (x4_1 < (l0_3.length : Int)) = false := decide_eq_false c3
        clear c3
        obtain rfl := Option.some.inj H
        have hcz12_0 : wr.cell? ⟨gb164, 0, none⟩ = some (.int .u8 a0_0) := (blk_cell BK164.out 0).trans rfl
        have hcz12_1 : wr.cell? ⟨gb164, 1, none⟩ = some (.int .u8 a0_1) := (blk_cell BK164.out 1).trans rfl
        have hcz12_2 : wr.cell? ⟨gb164, 2, none⟩ = some (.int .i64 a0_2) := (blk_cell BK164.out 2).trans rfl
        have hcz12_3 : wr.cell? ⟨gb164, 3, none⟩ = some (.slice A0_3 l0_3.length c0_3) := (blk_cell BK164.out 3).trans rfl
        have hfz12_0 := blk_frozen BK164.out 0
        have hfz12_1 := blk_frozen BK164.out 1
        have hfz12_2 := blk_frozen BK164.out 2
        have hfz12_3 := blk_frozen BK164.out 3
        go_wp2
        go_ret
        exact ⟨_, by first | rfl | (simp [errW_none, errW_some] <;> rfl) | (simp [*, errW_none, errW_some] <;> rfl), by (with_reducible repeat (first | apply Kd.R_alloc | apply Kd.R_drewN | apply Kd.R_drew)); exact HO_3.out, by repeat (first | (with_reducible first | exact HB.out | apply below_alloc | apply pw_below_drewN | apply below_drew1 | refine below_set ?_ GE164.out) | exact HB.out)⟩

end Go.Proofs.Ytdoeclpbobjgdaa.K
end
section
-- Written for this claim by this session's own wip/hook.py (it runs the kit's print and takes some functions' contracts as given texts of this session's).
namespace Go.Proofs.Ytdoeclpbobjgdaa.K
open Go.RowKit Go.Proofs.YtdoeclpbobjgdaaW.PrintWords Go.Proofs.YtdoeclpbobjgdaaW.PrintLast Go.Proofs.YtdoeclpbobjgdaaW.PrintMore
attribute [local go_sem] max2_int min2_int max_two min_two max_three min_three max_four min_four   -- for this text's walks alone
set_option linter.unusedVariables false
set_option linter.unusedSimpArgs false

/-! ### reedpiperef10_Group: function 13 -/
def reedpiperef10_Group.f (k : Nat) (a0_0 : Int) (a0_1 : Int) (a0_2 : Int) (l0_3 : List Int) (a1 : Int) : Option (Int × Int) := (reedpiperef10_Some.f k a0_0 a0_1 a0_2 l0_3).bind fun t170 => (if t170 = true then (if a1 < 0 then (some (0, 2)) else ((reedpiperef10_Many.f a0_0 a0_1 a0_2 l0_3).bind fun t171 => (if a1 ≥ t171 then (some (0, 2)) else ((reedpiperef10_In.f k a0_0 a0_1 a0_2 l0_3).bind fun t172 => (if 0 ≤ a1 then (if a1 < (t172.length : Int) then (some (rd t172 a1, 0)) else (none)) else (none)))))) else (some (0, 8)))
theorem reedpiperef10_Group.mono : ∀ a0 a1 a2 a3 a4 k, LeO (reedpiperef10_Group.f k a0 a1 a2 a3 a4) (reedpiperef10_Group.f (k + 1) a0 a1 a2 a3 a4) := by
  intro a0 a1 a2 a3 a4 k
  unfold reedpiperef10_Group.f
  repeat' first
      | (with_reducible exact reedpiperef10_In.mono _ _ _ _ _)
      | (with_reducible exact reedpiperef10_Some.mono _ _ _ _ _)
      | (with_reducible exact LeO.refl _)
      | (with_reducible exact LeO.none _)
      | (with_reducible refine LeO.ite ?_ ?_)
      | (with_reducible refine LeO.bind ?_ (fun _ => ?_))
      | exact reedpiperef10_In.mono _ _ _ _ _
      | exact reedpiperef10_Some.mono _ _ _ _ _
      | exact LeO.none _
      | refine LeO.ite ?_ ?_
      | refine LeO.bind ?_ (fun _ => ?_)
set_option maxHeartbeats 8000000 in
set_option maxRecDepth 100000 in
theorem reedpiperef10_Group.calls (k : Nat) (a0_0 : Int) (a0_1 : Int) (a0_2 : Int) (A0_3 : Option Addr) (c0_3 : Nat) (l0_3 : List Int) (a1 : Int) (r1 : Int) (r2 : Int) (w : World) (hr0_3 : Kd.C (Kd.int .i64) w A0_3 l0_3.length l0_3) (hc0_3 : l0_3.length ≤ c0_3) (h : reedpiperef10_Group.f k a0_0 a0_1 a0_2 l0_3 a1 = some (r1, r2)) :
    Calls Try.prog 13 #[.agg #[.int .u8 a0_0, .int .u8 a0_1, .int .i64 a0_2, .slice A0_3 l0_3.length c0_3], .int .i64 a1] w fun e w' => e = .returned (.tuple #[.int .i64 r1, .int .i64 r2]) ∧ Below w.heap.size w w' := by
  have hu24 := Try.underlying24
  have HR0_3 := Aside0.mk hr0_3
  have HC0_3 := Aside0.mk hc0_3
  clear hr0_3 hc0_3
  have HB := Aside0.mk (Below.refl w.heap.size w)
  have H : ((reedpiperef10_Some.f k a0_0 a0_1 a0_2 l0_3).bind fun t170 => (if t170 = true then (if a1 < 0 then (some (0, 2)) else ((reedpiperef10_Many.f a0_0 a0_1 a0_2 l0_3).bind fun t171 => (if a1 ≥ t171 then (some (0, 2)) else ((reedpiperef10_In.f k a0_0 a0_1 a0_2 l0_3).bind fun t172 => (if 0 ≤ a1 then (if a1 < (t172.length : Int) then (some (rd t172 a1, 0)) else (none)) else (none)))))) else (some (0, 8)))) = some (r1, r2) := h
  clear h
  replace H := Option.bind_eq_some_iff.mp H
  obtain ⟨t170, A30, H⟩ := H
  replace H : (if t170 = true then (if a1 < 0 then (some (0, 2)) else ((reedpiperef10_Many.f a0_0 a0_1 a0_2 l0_3).bind fun t171 => (if a1 ≥ t171 then (some (0, 2)) else ((reedpiperef10_In.f k a0_0 a0_1 a0_2 l0_3).bind fun t172 => (if 0 ≤ a1 then (if a1 < (t172.length : Int) then (some (rd t172 a1, 0)) else (none)) else (none)))))) else (some (0, 8))) = some (r1, r2) := H
  have A3 := Aside0.mk A30
  clear A30
  by_cases c4 : t170 = true
  · subst c4
    have H1 : (if a1 < 0 then (some (0, 2)) else ((reedpiperef10_Many.f a0_0 a0_1 a0_2 l0_3).bind fun t171 => (if a1 ≥ t171 then (some (0, 2)) else ((reedpiperef10_In.f k a0_0 a0_1 a0_2 l0_3).bind fun t172 => (if 0 ≤ a1 then (if a1 < (t172.length : Int) then (some (rd t172 a1, 0)) else (none)) else (none)))))) = some (r1, r2) := by rw [if_pos rfl] at H; exact H
    clear H
    have H := H1
    clear H1
    by_cases c5 : a1 < 0
    · rw [if_pos c5] at H
      have c5b0 : decide (a1 < 0) = true := decide_eq_true c5
      clear c5
      simp only [Option.some.injEq, Prod.mk.injEq] at H
      obtain ⟨rfl, rfl⟩ := H
      go_enter Try.func13, Try.ntmps13
      go_wp2_with (first | ((with_reducible refine gate_dst (N := 2) rfl ?_); refine box_event ?hg (N := 2) ?hd (cs := #[.int .u8 a0_0, .int .u8 a0_1, .int .i64 a0_2, .slice A0_3 l0_3.length c0_3]) (t := 24) ?hr ?_; (case hd => rfl); (case hg => rfl); (case hr => first | (go_simp; done) | (go_simp; rfl)); intro gb169 hg w6 hbox hb; have n0_ := Aside0.mk (below_step (by repeat (first | (with_reducible first | exact HB.out | apply below_alloc | apply pw_below_drewN | apply below_drew1) | exact HB.out)) hb); have n1_ := Aside0.mk (hbox); have n2_ := Aside0.mk ((by rw [hg]; exact (below_size (by repeat (first | (with_reducible first | exact HB.out | apply below_alloc | apply pw_below_drewN | apply below_drew1) | exact HB.out))) : w.heap.size ≤ gb169)); have n3_ := Aside0.mk ((by rw [hg]; exact (below_size (by repeat (first | (with_reducible first | exact HB.out | apply below_alloc | apply pw_below_drewN | apply below_drew1) | exact HB.out))) : w.heap.size ≤ gb169)); clear HB; have HB := n0_; have BK169 := n1_; have GW169 := n2_; have GE169 := n3_; clear n0_ n1_ n2_ n3_; clear hb hbox hg; have hcz7_0 : w6.cell? ⟨gb169, 0, none⟩ = some (.int .u8 a0_0) := (blk_cell BK169.out 0).trans rfl; have hcz7_1 : w6.cell? ⟨gb169, 1, none⟩ = some (.int .u8 a0_1) := (blk_cell BK169.out 1).trans rfl; have hcz7_2 : w6.cell? ⟨gb169, 2, none⟩ = some (.int .i64 a0_2) := (blk_cell BK169.out 2).trans rfl; have hcz7_3 : w6.cell? ⟨gb169, 3, none⟩ = some (.slice A0_3 l0_3.length c0_3) := (blk_cell BK169.out 3).trans rfl; have hfz7_0 := blk_frozen BK169.out 0; have hfz7_1 := blk_frozen BK169.out 1; have hfz7_2 := blk_frozen BK169.out 2; have hfz7_3 := blk_frozen BK169.out 3) | ((with_reducible refine gate_callee (f := 26) rfl ?_); refine goesL_ (some 7) rfl rfl Try.func26 (by kernel_rfl) rfl #[.agg #[.int .u8 a0_0, .int .u8 a0_1, .int .i64 a0_2, .slice A0_3 l0_3.length c0_3]] rfl (by (try simp only [List.map_toArray, List.map_cons, List.map_nil]); first | done | rfl | (simp only [List.length_drop, List.length_take]; rfl)) ?_; (with_reducible refine (reedpiperef10_Some.calls k a0_0 a0_1 a0_2 _ _ l0_3 true _ ?side1 ?side2 A3.out).mono ?_); (case side1 => repeat (first | exact (Kd.C_below HR0_3.out HB.out) | (with_reducible refine Kd.C_alloc ?_ _) | (with_reducible refine Kd.C_drewN ?_ _) | (with_reducible refine Kd.C_drew ?_))); (case side2 => exact HC0_3.out); rintro e w8 ⟨rfl, hb⟩; refine ⟨_, rfl, ?_⟩; have n0_ := Aside0.mk (blk_below (g := gb169) (o := .cells #[.int .u8 a0_0, .int .u8 a0_1, .int .i64 a0_2, .slice A0_3 l0_3.length c0_3] 24 (0, 0)) (by (with_reducible repeat (first | refine blk_drewN ?_ _ | refine blk_drew ?_ | refine blk_alloc ?_ _)); exact BK169.out) hb); have n1_ := Aside0.mk (below_step (by repeat (first | (with_reducible first | exact HB.out | apply below_alloc | apply pw_below_drewN | apply below_drew1 | refine below_set ?_ GE169.out) | exact HB.out)) hb); clear BK169; clear HB; have BK169 := n0_; have HB := n1_; clear n0_ n1_; (try clear hb); (try clear hb2); (try clear hk); (try clear hi)))
      go_ret2
      exact ⟨by first | rfl | (simp [errW_none, errW_some] <;> rfl) | (simp [*, errW_none, errW_some] <;> rfl), by repeat (first | (with_reducible first | exact HB.out | apply below_alloc | apply pw_below_drewN | apply below_drew1 | refine below_set ?_ GE169.out) | exact HB.out)⟩
    · rw [if_neg c5] at H
      have c5b0 : decide (a1 < 0) = false := decide_eq_false c5
      clear c5
      replace H := Option.bind_eq_some_iff.mp H
      obtain ⟨t171, A90, H⟩ := H
      replace H : (if a1 ≥ t171 then (some (0, 2)) else ((reedpiperef10_In.f k a0_0 a0_1 a0_2 l0_3).bind fun t172 => (if 0 ≤ a1 then (if a1 < (t172.length : Int) then (some (rd t172 a1, 0)) else (none)) else (none)))) = some (r1, r2) := H
      have A9 := Aside0.mk A90
      clear A90
      by_cases c10 : a1 ≥ t171
      · rw [if_pos c10] at H
        have c10b0 : decide (t171 ≤ a1) = true := decide_eq_true c10
        clear c10
        simp only [Option.some.injEq, Prod.mk.injEq] at H
        obtain ⟨rfl, rfl⟩ := H
        go_enter Try.func13, Try.ntmps13
        go_wp2_with (first | ((with_reducible refine gate_dst (N := 2) rfl ?_); refine box_event ?hg (N := 2) ?hd (cs := #[.int .u8 a0_0, .int .u8 a0_1, .int .i64 a0_2, .slice A0_3 l0_3.length c0_3]) (t := 24) ?hr ?_; (case hd => rfl); (case hg => rfl); (case hr => first | (go_simp; done) | (go_simp; rfl)); intro gb169 hg w11 hbox hb; have n0_ := Aside0.mk (below_step (by repeat (first | (with_reducible first | exact HB.out | apply below_alloc | apply pw_below_drewN | apply below_drew1) | exact HB.out)) hb); have n1_ := Aside0.mk (hbox); have n2_ := Aside0.mk ((by rw [hg]; exact (below_size (by repeat (first | (with_reducible first | exact HB.out | apply below_alloc | apply pw_below_drewN | apply below_drew1) | exact HB.out))) : w.heap.size ≤ gb169)); have n3_ := Aside0.mk ((by rw [hg]; exact (below_size (by repeat (first | (with_reducible first | exact HB.out | apply below_alloc | apply pw_below_drewN | apply below_drew1) | exact HB.out))) : w.heap.size ≤ gb169)); clear HB; have HB := n0_; have BK169 := n1_; have GW169 := n2_; have GE169 := n3_; clear n0_ n1_ n2_ n3_; clear hb hbox hg; have hcz12_0 : w11.cell? ⟨gb169, 0, none⟩ = some (.int .u8 a0_0) := (blk_cell BK169.out 0).trans rfl; have hcz12_1 : w11.cell? ⟨gb169, 1, none⟩ = some (.int .u8 a0_1) := (blk_cell BK169.out 1).trans rfl; have hcz12_2 : w11.cell? ⟨gb169, 2, none⟩ = some (.int .i64 a0_2) := (blk_cell BK169.out 2).trans rfl; have hcz12_3 : w11.cell? ⟨gb169, 3, none⟩ = some (.slice A0_3 l0_3.length c0_3) := (blk_cell BK169.out 3).trans rfl; have hfz12_0 := blk_frozen BK169.out 0; have hfz12_1 := blk_frozen BK169.out 1; have hfz12_2 := blk_frozen BK169.out 2; have hfz12_3 := blk_frozen BK169.out 3) | ((with_reducible refine gate_callee (f := 26) rfl ?_); refine goesL_ (some 7) rfl rfl Try.func26 (by kernel_rfl) rfl #[.agg #[.int .u8 a0_0, .int .u8 a0_1, .int .i64 a0_2, .slice A0_3 l0_3.length c0_3]] rfl (by (try simp only [List.map_toArray, List.map_cons, List.map_nil]); first | done | rfl | (simp only [List.length_drop, List.length_take]; rfl)) ?_; (with_reducible refine (reedpiperef10_Some.calls k a0_0 a0_1 a0_2 _ _ l0_3 true _ ?side1 ?side2 A3.out).mono ?_); (case side1 => repeat (first | exact (Kd.C_below HR0_3.out HB.out) | (with_reducible refine Kd.C_alloc ?_ _) | (with_reducible refine Kd.C_drewN ?_ _) | (with_reducible refine Kd.C_drew ?_))); (case side2 => exact HC0_3.out); rintro e w13 ⟨rfl, hb⟩; refine ⟨_, rfl, ?_⟩; have n0_ := Aside0.mk (blk_below (g := gb169) (o := .cells #[.int .u8 a0_0, .int .u8 a0_1, .int .i64 a0_2, .slice A0_3 l0_3.length c0_3] 24 (0, 0)) (by (with_reducible repeat (first | refine blk_drewN ?_ _ | refine blk_drew ?_ | refine blk_alloc ?_ _)); exact BK169.out) hb); have n1_ := Aside0.mk (below_step (by repeat (first | (with_reducible first | exact HB.out | apply below_alloc | apply pw_below_drewN | apply below_drew1 | refine below_set ?_ GE169.out) | exact HB.out)) hb); clear BK169; clear HB; have BK169 := n0_; have HB := n1_; clear n0_ n1_; (try clear hb); (try clear hb2); (try clear hk); (try clear hi); have hcz14_0 : w13.cell? ⟨gb169, 0, none⟩ = some (.int .u8 a0_0) := (blk_cell BK169.out 0).trans rfl; have hcz14_1 : w13.cell? ⟨gb169, 1, none⟩ = some (.int .u8 a0_1) := (blk_cell BK169.out 1).trans rfl; have hcz14_2 : w13.cell? ⟨gb169, 2, none⟩ = some (.int .i64 a0_2) := (blk_cell BK169.out 2).trans rfl; have hcz14_3 : w13.cell? ⟨gb169, 3, none⟩ = some (.slice A0_3 l0_3.length c0_3) := (blk_cell BK169.out 3).trans rfl; have hfz14_0 := blk_frozen BK169.out 0; have hfz14_1 := blk_frozen BK169.out 1; have hfz14_2 := blk_frozen BK169.out 2; have hfz14_3 := blk_frozen BK169.out 3) | (go_at_call 27; (with_reducible refine (reedpiperef10_Many.calls a0_0 a0_1 a0_2 _ _ l0_3 t171 _ ?side1 ?side2 A9.out).mono ?_); (case side1 => repeat (first | exact (Kd.C_below HR0_3.out HB.out) | (with_reducible refine Kd.C_alloc ?_ _) | (with_reducible refine Kd.C_drewN ?_ _) | (with_reducible refine Kd.C_drew ?_))); (case side2 => exact HC0_3.out); rintro e w15 ⟨rfl, hb⟩; have n0_ := Aside0.mk (blk_below (g := gb169) (o := .cells #[.int .u8 a0_0, .int .u8 a0_1, .int .i64 a0_2, .slice A0_3 l0_3.length c0_3] 24 (0, 0)) (by (with_reducible repeat (first | refine blk_drewN ?_ _ | refine blk_drew ?_ | refine blk_alloc ?_ _)); exact BK169.out) hb); have n1_ := Aside0.mk (below_step (by repeat (first | (with_reducible first | exact HB.out | apply below_alloc | apply pw_below_drewN | apply below_drew1 | refine below_set ?_ GE169.out) | exact HB.out)) hb); clear BK169; clear HB; have BK169 := n0_; have HB := n1_; clear n0_ n1_; (try clear hb); (try clear hb2); (try clear hk); (try clear hi)))
        go_ret2
        exact ⟨by first | rfl | (simp [errW_none, errW_some] <;> rfl) | (simp [*, errW_none, errW_some] <;> rfl), by repeat (first | (with_reducible first | exact HB.out | apply below_alloc | apply pw_below_drewN | apply below_drew1 | refine below_set ?_ GE169.out) | exact HB.out)⟩
      · rw [if_neg c10] at H
        have c10b0 : decide (t171 ≤ a1) = false := decide_eq_false c10
        clear c10
        replace H := Option.bind_eq_some_iff.mp H
        obtain ⟨t172, A160, H⟩ := H
        replace H : (if 0 ≤ a1 then (if a1 < (t172.length : Int) then (some (rd t172 a1, 0)) else (none)) else (none)) = some (r1, r2) := H
        have A16 := Aside0.mk A160
        clear A160
        by_cases c17 : 0 ≤ a1
        · rw [if_pos c17] at H
          have c17b0 : decide (0 ≤ a1) = true := decide_eq_true c17
          clear c17
          by_cases c18 : a1 < (t172.length : Int)
          · rw [if_pos c18] at H
            have c18b0 : decide (a1 < (t172.length : Int)) = true := decide_eq_true c18
            clear c18
            simp only [Option.some.injEq, Prod.mk.injEq] at H
            obtain ⟨rfl, rfl⟩ := H
            go_enter Try.func13, Try.ntmps13
            go_wp2_with (first | ((with_reducible refine gate_dst (N := 2) rfl ?_); refine box_event ?hg (N := 2) ?hd (cs := #[.int .u8 a0_0, .int .u8 a0_1, .int .i64 a0_2, .slice A0_3 l0_3.length c0_3]) (t := 24) ?hr ?_; (case hd => rfl); (case hg => rfl); (case hr => first | (go_simp; done) | (go_simp; rfl)); intro gb169 hg w19 hbox hb; have n0_ := Aside0.mk (below_step (by repeat (first | (with_reducible first | exact HB.out | apply below_alloc | apply pw_below_drewN | apply below_drew1) | exact HB.out)) hb); have n1_ := Aside0.mk (hbox); have n2_ := Aside0.mk ((by rw [hg]; exact (below_size (by repeat (first | (with_reducible first | exact HB.out | apply below_alloc | apply pw_below_drewN | apply below_drew1) | exact HB.out))) : w.heap.size ≤ gb169)); have n3_ := Aside0.mk ((by rw [hg]; exact (below_size (by repeat (first | (with_reducible first | exact HB.out | apply below_alloc | apply pw_below_drewN | apply below_drew1) | exact HB.out))) : w.heap.size ≤ gb169)); clear HB; have HB := n0_; have BK169 := n1_; have GW169 := n2_; have GE169 := n3_; clear n0_ n1_ n2_ n3_; clear hb hbox hg; have hcz20_0 : w19.cell? ⟨gb169, 0, none⟩ = some (.int .u8 a0_0) := (blk_cell BK169.out 0).trans rfl; have hcz20_1 : w19.cell? ⟨gb169, 1, none⟩ = some (.int .u8 a0_1) := (blk_cell BK169.out 1).trans rfl; have hcz20_2 : w19.cell? ⟨gb169, 2, none⟩ = some (.int .i64 a0_2) := (blk_cell BK169.out 2).trans rfl; have hcz20_3 : w19.cell? ⟨gb169, 3, none⟩ = some (.slice A0_3 l0_3.length c0_3) := (blk_cell BK169.out 3).trans rfl; have hfz20_0 := blk_frozen BK169.out 0; have hfz20_1 := blk_frozen BK169.out 1; have hfz20_2 := blk_frozen BK169.out 2; have hfz20_3 := blk_frozen BK169.out 3) | ((with_reducible refine gate_callee (f := 26) rfl ?_); refine goesL_ (some 7) rfl rfl Try.func26 (by kernel_rfl) rfl #[.agg #[.int .u8 a0_0, .int .u8 a0_1, .int .i64 a0_2, .slice A0_3 l0_3.length c0_3]] rfl (by (try simp only [List.map_toArray, List.map_cons, List.map_nil]); first | done | rfl | (simp only [List.length_drop, List.length_take]; rfl)) ?_; (with_reducible refine (reedpiperef10_Some.calls k a0_0 a0_1 a0_2 _ _ l0_3 true _ ?side1 ?side2 A3.out).mono ?_); (case side1 => repeat (first | exact (Kd.C_below HR0_3.out HB.out) | (with_reducible refine Kd.C_alloc ?_ _) | (with_reducible refine Kd.C_drewN ?_ _) | (with_reducible refine Kd.C_drew ?_))); (case side2 => exact HC0_3.out); rintro e w21 ⟨rfl, hb⟩; refine ⟨_, rfl, ?_⟩; have n0_ := Aside0.mk (blk_below (g := gb169) (o := .cells #[.int .u8 a0_0, .int .u8 a0_1, .int .i64 a0_2, .slice A0_3 l0_3.length c0_3] 24 (0, 0)) (by (with_reducible repeat (first | refine blk_drewN ?_ _ | refine blk_drew ?_ | refine blk_alloc ?_ _)); exact BK169.out) hb); have n1_ := Aside0.mk (below_step (by repeat (first | (with_reducible first | exact HB.out | apply below_alloc | apply pw_below_drewN | apply below_drew1 | refine below_set ?_ GE169.out) | exact HB.out)) hb); clear BK169; clear HB; have BK169 := n0_; have HB := n1_; clear n0_ n1_; (try clear hb); (try clear hb2); (try clear hk); (try clear hi); have hcz22_0 : w21.cell? ⟨gb169, 0, none⟩ = some (.int .u8 a0_0) := (blk_cell BK169.out 0).trans rfl; have hcz22_1 : w21.cell? ⟨gb169, 1, none⟩ = some (.int .u8 a0_1) := (blk_cell BK169.out 1).trans rfl; have hcz22_2 : w21.cell? ⟨gb169, 2, none⟩ = some (.int .i64 a0_2) := (blk_cell BK169.out 2).trans rfl; have hcz22_3 : w21.cell? ⟨gb169, 3, none⟩ = some (.slice A0_3 l0_3.length c0_3) := (blk_cell BK169.out 3).trans rfl; have hfz22_0 := blk_frozen BK169.out 0; have hfz22_1 := blk_frozen BK169.out 1; have hfz22_2 := blk_frozen BK169.out 2; have hfz22_3 := blk_frozen BK169.out 3) | (go_at_call 27; (with_reducible refine (reedpiperef10_Many.calls a0_0 a0_1 a0_2 _ _ l0_3 t171 _ ?side1 ?side2 A9.out).mono ?_); (case side1 => repeat (first | exact (Kd.C_below HR0_3.out HB.out) | (with_reducible refine Kd.C_alloc ?_ _) | (with_reducible refine Kd.C_drewN ?_ _) | (with_reducible refine Kd.C_drew ?_))); (case side2 => exact HC0_3.out); rintro e w23 ⟨rfl, hb⟩; have n0_ := Aside0.mk (blk_below (g := gb169) (o := .cells #[.int .u8 a0_0, .int .u8 a0_1, .int .i64 a0_2, .slice A0_3 l0_3.length c0_3] 24 (0, 0)) (by (with_reducible repeat (first | refine blk_drewN ?_ _ | refine blk_drew ?_ | refine blk_alloc ?_ _)); exact BK169.out) hb); have n1_ := Aside0.mk (below_step (by repeat (first | (with_reducible first | exact HB.out | apply below_alloc | apply pw_below_drewN | apply below_drew1 | refine below_set ?_ GE169.out) | exact HB.out)) hb); clear BK169; clear HB; have BK169 := n0_; have HB := n1_; clear n0_ n1_; (try clear hb); (try clear hb2); (try clear hk); (try clear hi); have hcz24_0 : w23.cell? ⟨gb169, 0, none⟩ = some (.int .u8 a0_0) := (blk_cell BK169.out 0).trans rfl; have hcz24_1 : w23.cell? ⟨gb169, 1, none⟩ = some (.int .u8 a0_1) := (blk_cell BK169.out 1).trans rfl; have hcz24_2 : w23.cell? ⟨gb169, 2, none⟩ = some (.int .i64 a0_2) := (blk_cell BK169.out 2).trans rfl; have hcz24_3 : w23.cell? ⟨gb169, 3, none⟩ = some (.slice A0_3 l0_3.length c0_3) := (blk_cell BK169.out 3).trans rfl; have hfz24_0 := blk_frozen BK169.out 0; have hfz24_1 := blk_frozen BK169.out 1; have hfz24_2 := blk_frozen BK169.out 2; have hfz24_3 := blk_frozen BK169.out 3) | ((with_reducible refine gate_callee (f := 28) rfl ?_); refine goesL_ (some 18) rfl rfl Try.func28 (by kernel_rfl) rfl #[.agg #[.int .u8 a0_0, .int .u8 a0_1, .int .i64 a0_2, .slice A0_3 l0_3.length c0_3]] rfl (by (try simp only [List.map_toArray, List.map_cons, List.map_nil]); first | done | rfl | (simp only [List.length_drop, List.length_take]; rfl)) ?_; (with_reducible refine (reedpiperef10_In.calls k a0_0 a0_1 a0_2 _ _ l0_3 t172 _ ?side1 ?side2 A16.out).mono ?_); (case side1 => repeat (first | exact (Kd.C_below HR0_3.out HB.out) | (with_reducible refine Kd.C_alloc ?_ _) | (with_reducible refine Kd.C_drewN ?_ _) | (with_reducible refine Kd.C_drew ?_))); (case side2 => exact HC0_3.out); rintro e w25 ⟨v173, rfl, ho0, hb⟩; refine ⟨_, rfl, ?_⟩; have n0_ := Aside0.mk (Kd.R_lower ho0 (below_size (by repeat (first | (with_reducible first | exact HB.out | apply below_alloc | apply pw_below_drewN | apply below_drew1 | refine below_set ?_ GE169.out) | exact HB.out)))); have n1_ := Aside0.mk (blk_below (g := gb169) (o := .cells #[.int .u8 a0_0, .int .u8 a0_1, .int .i64 a0_2, .slice A0_3 l0_3.length c0_3] 24 (0, 0)) (by (with_reducible repeat (first | refine blk_drewN ?_ _ | refine blk_drew ?_ | refine blk_alloc ?_ _)); exact BK169.out) hb); have n2_ := Aside0.mk (below_step (by repeat (first | (with_reducible first | exact HB.out | apply below_alloc | apply pw_below_drewN | apply below_drew1 | refine below_set ?_ GE169.out) | exact HB.out)) hb); clear BK169; clear HB; have HO174 := n0_; have BK169 := n1_; have HB := n2_; clear n0_ n1_ n2_; (try clear hb); (try clear hb2); (try clear hk); (try clear hi); (try clear ho0); obtain ⟨Ao26, co26, eo26⟩ := Kd.R_slice HO174.out; subst eo26; have p175 : 0 ≤ (a1 : Int) := of_decide_eq_true (by first | (with_reducible assumption) | assumption); have q175 : a1 < (t172.length : Int) := of_decide_eq_true (by first | (with_reducible assumption) | assumption); obtain ⟨ad175, e175, hx175_0⟩ := Kd.at_int (Kd.R_reads' HO174.out).2.2 a1 p175 q175; cases e175; replace p175 := eq_true p175; replace q175 := eq_true q175))
            go_ret2
            exact ⟨by first | rfl | (simp [errW_none, errW_some] <;> rfl) | (simp [*, errW_none, errW_some] <;> rfl), by repeat (first | (with_reducible first | exact HB.out | apply below_alloc | apply pw_below_drewN | apply below_drew1 | refine below_set ?_ GE169.out) | exact HB.out)⟩
          · rw [if_neg c18] at H
            exact absurd H (by simp)
        · rw [if_neg c17] at H
          exact absurd H (by simp)
  · replace c4 := Bool.eq_false_iff.mpr c4
    subst c4
    have H1 : (some (0, 8)) = some (r1, r2) := by rw [if_neg (show ¬ (false = true) by decide)] at H; exact H
    clear H
    have H := H1
    clear H1
    simp only [Option.some.injEq, Prod.mk.injEq] at H
    obtain ⟨rfl, rfl⟩ := H
    go_enter Try.func13, Try.ntmps13
    go_wp2_with (first | ((with_reducible refine gate_dst (N := 2) rfl ?_); refine box_event ?hg (N := 2) ?hd (cs := #[.int .u8 a0_0, .int .u8 a0_1, .int .i64 a0_2, .slice A0_3 l0_3.length c0_3]) (t := 24) ?hr ?_; (case hd => rfl); (case hg => rfl); (case hr => first | (go_simp; done) | (go_simp; rfl)); intro gb169 hg w27 hbox hb; have n0_ := Aside0.mk (below_step (by repeat (first | (with_reducible first | exact HB.out | apply below_alloc | apply pw_below_drewN | apply below_drew1) | exact HB.out)) hb); have n1_ := Aside0.mk (hbox); have n2_ := Aside0.mk ((by rw [hg]; exact (below_size (by repeat (first | (with_reducible first | exact HB.out | apply below_alloc | apply pw_below_drewN | apply below_drew1) | exact HB.out))) : w.heap.size ≤ gb169)); have n3_ := Aside0.mk ((by rw [hg]; exact (below_size (by repeat (first | (with_reducible first | exact HB.out | apply below_alloc | apply pw_below_drewN | apply below_drew1) | exact HB.out))) : w.heap.size ≤ gb169)); clear HB; have HB := n0_; have BK169 := n1_; have GW169 := n2_; have GE169 := n3_; clear n0_ n1_ n2_ n3_; clear hb hbox hg; have hcz28_0 : w27.cell? ⟨gb169, 0, none⟩ = some (.int .u8 a0_0) := (blk_cell BK169.out 0).trans rfl; have hcz28_1 : w27.cell? ⟨gb169, 1, none⟩ = some (.int .u8 a0_1) := (blk_cell BK169.out 1).trans rfl; have hcz28_2 : w27.cell? ⟨gb169, 2, none⟩ = some (.int .i64 a0_2) := (blk_cell BK169.out 2).trans rfl; have hcz28_3 : w27.cell? ⟨gb169, 3, none⟩ = some (.slice A0_3 l0_3.length c0_3) := (blk_cell BK169.out 3).trans rfl; have hfz28_0 := blk_frozen BK169.out 0; have hfz28_1 := blk_frozen BK169.out 1; have hfz28_2 := blk_frozen BK169.out 2; have hfz28_3 := blk_frozen BK169.out 3) | ((with_reducible refine gate_callee (f := 26) rfl ?_); refine goesL_ (some 7) rfl rfl Try.func26 (by kernel_rfl) rfl #[.agg #[.int .u8 a0_0, .int .u8 a0_1, .int .i64 a0_2, .slice A0_3 l0_3.length c0_3]] rfl (by (try simp only [List.map_toArray, List.map_cons, List.map_nil]); first | done | rfl | (simp only [List.length_drop, List.length_take]; rfl)) ?_; (with_reducible refine (reedpiperef10_Some.calls k a0_0 a0_1 a0_2 _ _ l0_3 false _ ?side1 ?side2 A3.out).mono ?_); (case side1 => repeat (first | exact (Kd.C_below HR0_3.out HB.out) | (with_reducible refine Kd.C_alloc ?_ _) | (with_reducible refine Kd.C_drewN ?_ _) | (with_reducible refine Kd.C_drew ?_))); (case side2 => exact HC0_3.out); rintro e w29 ⟨rfl, hb⟩; refine ⟨_, rfl, ?_⟩; have n0_ := Aside0.mk (blk_below (g := gb169) (o := .cells #[.int .u8 a0_0, .int .u8 a0_1, .int .i64 a0_2, .slice A0_3 l0_3.length c0_3] 24 (0, 0)) (by (with_reducible repeat (first | refine blk_drewN ?_ _ | refine blk_drew ?_ | refine blk_alloc ?_ _)); exact BK169.out) hb); have n1_ := Aside0.mk (below_step (by repeat (first | (with_reducible first | exact HB.out | apply below_alloc | apply pw_below_drewN | apply below_drew1 | refine below_set ?_ GE169.out) | exact HB.out)) hb); clear BK169; clear HB; have BK169 := n0_; have HB := n1_; clear n0_ n1_; (try clear hb); (try clear hb2); (try clear hk); (try clear hi)))
    go_ret2
    exact ⟨by first | rfl | (simp [errW_none, errW_some] <;> rfl) | (simp [*, errW_none, errW_some] <;> rfl), by repeat (first | (with_reducible first | exact HB.out | apply below_alloc | apply pw_below_drewN | apply below_drew1 | refine below_set ?_ GE169.out) | exact HB.out)⟩

end Go.Proofs.Ytdoeclpbobjgdaa.K
end
section
-- Written for this claim by this session's own wip/hook.py (it runs the kit's print and takes some functions' contracts as given texts of this session's).
namespace Go.Proofs.Ytdoeclpbobjgdaa.K
open Go.RowKit Go.Proofs.YtdoeclpbobjgdaaW.PrintWords Go.Proofs.YtdoeclpbobjgdaaW.PrintLast Go.Proofs.YtdoeclpbobjgdaaW.PrintMore
attribute [local go_sem] max2_int min2_int max_two min_two max_three min_three max_four min_four   -- for this text's walks alone
set_option linter.unusedVariables false
set_option linter.unusedSimpArgs false

/-! ### slices_Clone_int_int: function 29: GIVEN BY HAND -/
def slices_Clone_int_int.f (l0 : List Int) : Option (List Int) := if l0.length < 17592186044416 then some l0 else none
set_option maxHeartbeats 8000000 in
set_option maxRecDepth 100000 in
theorem slices_Clone_int_int.calls (A0 : Option Addr) (c0 : Nat) (l0 : List Int) (r : List Int) (w : World) (hr0 : Kd.C (Kd.int .i64) w A0 l0.length l0) (hc0 : l0.length ≤ c0) (h : slices_Clone_int_int.f l0 = some r) :
    Calls Try.prog 29 #[.slice A0 l0.length c0] w fun e w' => ∃ v0_ : Value, e = .returned (v0_) ∧ Kd.R (Kd.int .i64) 3 w' w.heap.size (fun _ => True) v0_ r ∧ Below w.heap.size w w' := by
  unfold slices_Clone_int_int.f at h
  by_cases hl : l0.length < 17592186044416
  · rw [if_pos hl] at h
    obtain rfl := Option.some.inj h
    have qT : ∀ (w : World) (a : Option Addr) (n c n' c' : Nat), (binOp .eql 22 (.slice a n c) (.slice none n' c')).run Try.prog w = .ok (.bool a.isNone) w := fun w a n c n' c' => Lib.run_eql_slice_nil w _ _ a n c n' c' Try.underlying22
    cases A0 with
    | none =>
      have hn : l0 = [] := by
        rcases Nat.eq_zero_or_pos l0.length with h0 | h0
        · exact List.eq_nil_of_length_eq_zero h0
        · obtain ⟨ad, he, _⟩ := hr0.2.2 h0
          cases he
      subst hn
      go_enter Try.func29, Try.ntmps29
      go_wp2
      go_ret
      exact ⟨_, rfl, Kd.R_nil _ _ _ _ _, Below.refl _ _⟩
    | some ad =>
      have HR := Aside0.mk hr0
      clear hr0
      go_enter Try.func29, Try.ntmps29
      go_wp2_with (first | ((with_reducible refine gate_builtin (b := .append) (xs := #[.tmp 5, .tmp 6]) rfl ?_); at_builtin; refine Kd.R_append_row (Value.int .i64) (0 : Int) (h1 := fun _ => rfl) (w0 := w) w.heap.size rfl (.tmp 5) (.tmp 6) 22 3 (.int .i64 0) 8 rfl Try.underlying22 info3 rfl (by decide) (.slice (some ⟨w.heap.size, 0, none⟩) 0 0) ([] : List Int) l0 (some ad) _ _ (fun _ => True) rfl rfl ?aF ?aO ?aR ?aB ?aS ?aL ?_; (case aF => exact (fun _ _ => trivial)); (case aO => exact Kd.R_of_own (own_lit_of w w.heap.size 3 ([] : List Int) (Nat.le_refl _) (by simp)) (fun _ _ => trivial)); (case aR => exact Kd.C_alloc HR.out _); (case aB => exact below_alloc (Below.refl _ _) _); (case aS => simp); (case aL => simp; omega); intro v1 w1 ho hb hg hat; clear hg hat; have HO1 := Aside0.mk ho; have HB1 := Aside0.mk hb; clear ho hb))
      go_ret
      exact ⟨_, rfl, HO1.out, HB1.out⟩
  · rw [if_neg hl] at h
    cases h

end Go.Proofs.Ytdoeclpbobjgdaa.K
end
section
-- Written for this claim by this session's own wip/hook.py (it runs the kit's print and takes some functions' contracts as given texts of this session's).
namespace Go.Proofs.Ytdoeclpbobjgdaa.K
open Go.RowKit Go.Proofs.YtdoeclpbobjgdaaW.PrintWords Go.Proofs.YtdoeclpbobjgdaaW.PrintLast Go.Proofs.YtdoeclpbobjgdaaW.PrintMore
attribute [local go_sem] max2_int min2_int max_two min_two max_three min_three max_four min_four   -- for this text's walks alone
set_option linter.unusedVariables false
set_option linter.unusedSimpArgs false

/-! ### info_Twin: function 14 -/
def info_Twin.f (a0_0 : Int) (a0_1 : Int) (a0_2 : Int) (l0_3 : List Int) : Option (Int × Int × Int × List Int) := (slices_Clone_int_int.f l0_3).bind fun t178 => (some (a0_0, a0_1, a0_2, t178))
set_option maxHeartbeats 8000000 in
set_option maxRecDepth 100000 in
theorem info_Twin.calls (a0_0 : Int) (a0_1 : Int) (a0_2 : Int) (A0_3 : Option Addr) (c0_3 : Nat) (l0_3 : List Int) (r1 : Int) (r2 : Int) (r3 : Int) (r4 : List Int) (w : World) (hr0_3 : Kd.C (Kd.int .i64) w A0_3 l0_3.length l0_3) (hc0_3 : l0_3.length ≤ c0_3) (h : info_Twin.f a0_0 a0_1 a0_2 l0_3 = some (r1, r2, r3, r4)) :
    Calls Try.prog 14 #[.agg #[.int .u8 a0_0, .int .u8 a0_1, .int .i64 a0_2, .slice A0_3 l0_3.length c0_3]] w fun e w' => ∃ v3_ : Value, e = .returned (.agg #[.int .u8 r1, .int .u8 r2, .int .i64 r3, v3_]) ∧ Kd.R (Kd.int .i64) 3 w' w.heap.size (fun _ => True) v3_ r4 ∧ Below w.heap.size w w' := by
  have hu24 := Try.underlying24
  have HR0_3 := Aside0.mk hr0_3
  have HC0_3 := Aside0.mk hc0_3
  clear hr0_3 hc0_3
  have HB := Aside0.mk (Below.refl w.heap.size w)
  have H : ((slices_Clone_int_int.f l0_3).bind fun t178 => (some (a0_0, a0_1, a0_2, t178))) = some (r1, r2, r3, r4) := h
  clear h
  replace H := Option.bind_eq_some_iff.mp H
  obtain ⟨t178, A20, H⟩ := H
  replace H : (some (a0_0, a0_1, a0_2, t178)) = some (r1, r2, r3, r4) := H
  have A2 := Aside0.mk A20
  clear A20
  simp only [Option.some.injEq, Prod.mk.injEq] at H
  obtain ⟨rfl, rfl, rfl, rfl⟩ := H
  go_enter Try.func14, Try.ntmps14
  go_wp2_with (first | ((with_reducible refine gate_dst (N := 1) rfl ?_); refine box_event ?hg (N := 1) ?hd (cs := #[.int .u8 a0_0, .int .u8 a0_1, .int .i64 a0_2, .slice A0_3 l0_3.length c0_3]) (t := 24) ?hr ?_; (case hd => rfl); (case hg => rfl); (case hr => first | (go_simp; done) | (go_simp; rfl)); intro gb176 hg w3 hbox hb; have n0_ := Aside0.mk (below_step (by repeat (first | (with_reducible first | exact HB.out | apply below_alloc | apply pw_below_drewN | apply below_drew1) | exact HB.out)) hb); have n1_ := Aside0.mk (hbox); have n2_ := Aside0.mk ((by rw [hg]; exact (below_size (by repeat (first | (with_reducible first | exact HB.out | apply below_alloc | apply pw_below_drewN | apply below_drew1) | exact HB.out))) : w.heap.size ≤ gb176)); have n3_ := Aside0.mk ((by rw [hg]; exact (below_size (by repeat (first | (with_reducible first | exact HB.out | apply below_alloc | apply pw_below_drewN | apply below_drew1) | exact HB.out))) : w.heap.size ≤ gb176)); clear HB; have HB := n0_; have BK176 := n1_; have GW176 := n2_; have GE176 := n3_; clear n0_ n1_ n2_ n3_; clear hb hbox hg) | ((with_reducible refine gate_dst (N := 2) rfl ?_); refine box_event ?hg (N := 2) ?hd (cs := #[.int .u8 0, .int .u8 0, .int .i64 0, .slice none 0 0]) (t := 24) ?hr ?_; (case hd => rfl); (case hg => rfl); (case hr => first | (go_simp; done) | (go_simp; rfl)); intro gb177 hg w4 hbox hb; have n0_ := Aside0.mk (blk_below (g := gb176) (o := .cells #[.int .u8 a0_0, .int .u8 a0_1, .int .i64 a0_2, .slice A0_3 l0_3.length c0_3] 24 (0, 0)) (by (with_reducible repeat (first | refine blk_drewN ?_ _ | refine blk_drew ?_ | refine blk_alloc ?_ _)); exact BK176.out) hb); have n1_ := Aside0.mk (below_step (by repeat (first | (with_reducible first | exact HB.out | apply below_alloc | apply pw_below_drewN | apply below_drew1 | refine below_set ?_ GE176.out) | exact HB.out)) hb); have n2_ := Aside0.mk (hbox); have n3_ := Aside0.mk ((by rw [hg]; exact (below_size (by repeat (first | (with_reducible first | exact HB.out | apply below_alloc | apply pw_below_drewN | apply below_drew1 | refine below_set ?_ GE176.out) | exact HB.out))) : w.heap.size ≤ gb177)); have n4_ := Aside0.mk ((by rw [hg]; exact (below_size (by repeat (first | (with_reducible first | exact HB.out | apply below_alloc | apply pw_below_drewN | apply below_drew1 | refine below_set ?_ GE176.out) | exact HB.out))) : w.heap.size ≤ gb177)); have n5_ := Aside0.mk ((by rw [hg]; exact Nat.ne_of_lt (blk_lt (g := gb176) (o := .cells #[.int .u8 a0_0, .int .u8 a0_1, .int .i64 a0_2, .slice A0_3 l0_3.length c0_3] 24 (0, 0)) (by (with_reducible repeat (first | refine blk_drewN ?_ _ | refine blk_drew ?_ | refine blk_alloc ?_ _)); exact BK176.out)) : gb176 ≠ gb177)); have n6_ := Aside0.mk ((by rw [hg]; exact Nat.ne_of_gt (blk_lt (g := gb176) (o := .cells #[.int .u8 a0_0, .int .u8 a0_1, .int .i64 a0_2, .slice A0_3 l0_3.length c0_3] 24 (0, 0)) (by (with_reducible repeat (first | refine blk_drewN ?_ _ | refine blk_drew ?_ | refine blk_alloc ?_ _)); exact BK176.out)) : gb177 ≠ gb176)); clear BK176; clear HB; have BK176 := n0_; have HB := n1_; have BK177 := n2_; have GW177 := n3_; have GE177 := n4_; have NB176_177 := n5_; have NB177_176 := n6_; clear n0_ n1_ n2_ n3_ n4_ n5_ n6_; clear hb hbox hg; have hnb5 := NB176_177.out; have hnc5 := NB177_176.out; have hcz6_0 : w4.cell? ⟨gb176, 0, none⟩ = some (.int .u8 a0_0) := (blk_cell BK176.out 0).trans rfl; have hcz6_1 : w4.cell? ⟨gb176, 1, none⟩ = some (.int .u8 a0_1) := (blk_cell BK176.out 1).trans rfl; have hcz6_2 : w4.cell? ⟨gb176, 2, none⟩ = some (.int .i64 a0_2) := (blk_cell BK176.out 2).trans rfl; have hcz6_3 : w4.cell? ⟨gb176, 3, none⟩ = some (.slice A0_3 l0_3.length c0_3) := (blk_cell BK176.out 3).trans rfl; have hfz6_0 := blk_frozen BK176.out 0; have hfz6_1 := blk_frozen BK176.out 1; have hfz6_2 := blk_frozen BK176.out 2; have hfz6_3 := blk_frozen BK176.out 3) | ((with_reducible refine gate_callee (f := 29) rfl ?_); refine goesL_ (some 5) rfl rfl Try.func29 (by kernel_rfl) rfl #[.slice A0_3 l0_3.length c0_3] rfl (by (try simp only [List.map_toArray, List.map_cons, List.map_nil]); first | done | rfl | (simp only [List.length_drop, List.length_take]; rfl)) ?_; (with_reducible refine (slices_Clone_int_int.calls _ _ l0_3 t178 _ ?side1 ?side2 A2.out).mono ?_); (case side1 => repeat (first | exact (Kd.C_below HR0_3.out HB.out) | (with_reducible refine Kd.C_alloc ?_ _) | (with_reducible refine Kd.C_drewN ?_ _) | (with_reducible refine Kd.C_drew ?_))); (case side2 => exact HC0_3.out); rintro e w7 ⟨v179, rfl, ho0, hb⟩; refine ⟨_, rfl, ?_⟩; have n0_ := Aside0.mk (Kd.R_lower ho0 (below_size (by repeat (first | (with_reducible first | exact HB.out | apply below_alloc | apply pw_below_drewN | apply below_drew1 | refine below_set ?_ GE176.out | refine below_set ?_ GE177.out) | exact HB.out)))); have n1_ := Aside0.mk (blk_below (g := gb176) (o := .cells #[.int .u8 a0_0, .int .u8 a0_1, .int .i64 a0_2, .slice A0_3 l0_3.length c0_3] 24 (0, 0)) (by (with_reducible repeat (first | refine blk_drewN ?_ _ | refine blk_drew ?_ | refine blk_alloc ?_ _)); exact BK176.out) hb); have n2_ := Aside0.mk (blk_below (g := gb177) (o := .cells #[.int .u8 0, .int .u8 0, .int .i64 0, .slice none 0 0] 24 (0, 0)) (by (with_reducible repeat (first | refine blk_drewN ?_ _ | refine blk_drew ?_ | refine blk_alloc ?_ _)); exact BK177.out) hb); have n3_ := Aside0.mk (below_step (by repeat (first | (with_reducible first | exact HB.out | apply below_alloc | apply pw_below_drewN | apply below_drew1 | refine below_set ?_ GE176.out | refine below_set ?_ GE177.out) | exact HB.out)) hb); clear BK176; clear BK177; clear HB; have HO180 := n0_; have BK176 := n1_; have BK177 := n2_; have HB := n3_; clear n0_ n1_ n2_ n3_; (try clear hb); (try clear hb2); (try clear hk); (try clear hi); (try clear ho0); obtain ⟨Ao8, co8, eo8⟩ := Kd.R_slice HO180.out; subst eo8; have hcz9_0 : w7.cell? ⟨gb176, 0, none⟩ = some (.int .u8 a0_0) := (blk_cell BK176.out 0).trans rfl; have hcz9_1 : w7.cell? ⟨gb176, 1, none⟩ = some (.int .u8 a0_1) := (blk_cell BK176.out 1).trans rfl; have hcz9_2 : w7.cell? ⟨gb176, 2, none⟩ = some (.int .i64 a0_2) := (blk_cell BK176.out 2).trans rfl; have hcz9_3 : w7.cell? ⟨gb176, 3, none⟩ = some (.slice A0_3 l0_3.length c0_3) := (blk_cell BK176.out 3).trans rfl; have hfz9_0 := blk_frozen BK176.out 0; have hfz9_1 := blk_frozen BK176.out 1; have hfz9_2 := blk_frozen BK176.out 2; have hfz9_3 := blk_frozen BK176.out 3; have hcz10_0 : w7.cell? ⟨gb177, 0, none⟩ = some (.int .u8 0) := (blk_cell BK177.out 0).trans rfl; have hcz10_1 : w7.cell? ⟨gb177, 1, none⟩ = some (.int .u8 0) := (blk_cell BK177.out 1).trans rfl; have hcz10_2 : w7.cell? ⟨gb177, 2, none⟩ = some (.int .i64 0) := (blk_cell BK177.out 2).trans rfl; have hcz10_3 : w7.cell? ⟨gb177, 3, none⟩ = some (.slice none 0 0) := (blk_cell BK177.out 3).trans rfl; have hfz10_0 := blk_frozen BK177.out 0; have hfz10_1 := blk_frozen BK177.out 1; have hfz10_2 := blk_frozen BK177.out 2; have hfz10_3 := blk_frozen BK177.out 3))
  refine bodyPost_ret (results_cell_row rfl _ _ gb177 24 #[.int .u8 a0_0, .int .u8 a0_1, .int .i64 a0_2, .slice Ao8 t178.length co8] (0, 0) _ rfl (by (with_reducible repeat (first | refine blk_drewN ?_ _ | refine blk_drew ?_ | refine blk_alloc ?_ _)); refine blk_put (cs := #[.int .u8 a0_0, .int .u8 a0_1, .int .i64 a0_2, .slice none 0 0]) ?_ 3 _ rfl; (with_reducible repeat (first | refine blk_drewN ?_ _ | refine blk_drew ?_ | refine blk_alloc ?_ _)); refine blk_put (cs := #[.int .u8 a0_0, .int .u8 a0_1, .int .i64 0, .slice none 0 0]) ?_ 2 _ rfl; (with_reducible repeat (first | refine blk_drewN ?_ _ | refine blk_drew ?_ | refine blk_alloc ?_ _)); refine blk_put (cs := #[.int .u8 a0_0, .int .u8 0, .int .i64 0, .slice none 0 0]) ?_ 1 _ rfl; (with_reducible repeat (first | refine blk_drewN ?_ _ | refine blk_drew ?_ | refine blk_alloc ?_ _)); refine blk_put (cs := #[.int .u8 0, .int .u8 0, .int .i64 0, .slice none 0 0]) ?_ 0 _ rfl; (with_reducible repeat (first | refine blk_drewN ?_ _ | refine blk_drew ?_ | refine blk_alloc ?_ _)); refine blk_far ?_ NB177_176.out _; (with_reducible repeat (first | refine blk_drewN ?_ _ | refine blk_drew ?_ | refine blk_alloc ?_ _)); exact BK177.out) Try.underlying24 rfl (by kernel_rfl)) rfl ?_
  exact ⟨_, by first | rfl | (simp [errW_none, errW_some] <;> rfl) | (simp [*, errW_none, errW_some] <;> rfl), by (with_reducible repeat (first | apply Kd.R_alloc | apply Kd.R_drewN | apply Kd.R_drew)); exact Kd.R_mono (Kd.R_far (p := ⟨gb177, 3, none⟩) (Kd.R_far (p := ⟨gb177, 2, none⟩) (Kd.R_far (p := ⟨gb177, 1, none⟩) (Kd.R_far (p := ⟨gb177, 0, none⟩) (Kd.R_far (p := ⟨gb176, 3, none⟩) (Kd.R_types (Kd.R_types HO180.out BK176.out (by decide)) BK177.out (by decide)) (fun _ hk => hk.1.2) (.slice Ao8 t178.length co8)) (fun _ hk => hk.2) (.int .u8 a0_0)) (fun _ hk => hk.2) (.int .u8 a0_1)) (fun _ hk => hk.2) (.int .i64 a0_2)) (fun _ hk => hk.2) (.slice Ao8 t178.length co8)) (fun _ hk => trivial), by repeat (first | (with_reducible first | exact HB.out | apply below_alloc | apply pw_below_drewN | apply below_drew1 | refine below_set ?_ GE176.out | refine below_set ?_ GE177.out) | exact HB.out)⟩

end Go.Proofs.Ytdoeclpbobjgdaa.K
end
section
-- Written for this claim by this session's own wip/hook.py (it runs the kit's print and takes some functions' contracts as given texts of this session's).
namespace Go.Proofs.Ytdoeclpbobjgdaa.K
open Go.RowKit Go.Proofs.YtdoeclpbobjgdaaW.PrintWords Go.Proofs.YtdoeclpbobjgdaaW.PrintLast Go.Proofs.YtdoeclpbobjgdaaW.PrintMore
attribute [local go_sem] max2_int min2_int max_two min_two max_three min_three max_four min_four   -- for this text's walks alone
set_option linter.unusedVariables false
set_option linter.unusedSimpArgs false

/-! ### reedpiperef10_Check: function 16 -/
def reedpiperef10_Check.j0 : Nat → Int → Bool → Int → Int → Int → List Int → Option (Int)
  | 0, _, _, _, _, _, _ => none
  | k + 1, x0, x10, x182000, x182001, x182002, x182003 => if x10 = true then (some 2) else ((reedpiperef10_May.f k x0 x182000 x182001 x182002 x182003).bind fun t182 => (if t182 = true then (some 0) else (some 8)))
def reedpiperef10_Check.f (k : Nat) (a0 : Int) (a1_0 : Int) (a1_1 : Int) (a1_2 : Int) (l1_3 : List Int) : Option (Int) := if a0 < 0 then (reedpiperef10_Check.j0 k a0 true a1_0 a1_1 a1_2 l1_3) else (reedpiperef10_Check.j0 k a0 (decide (a0 > 11)) a1_0 a1_1 a1_2 l1_3)
theorem reedpiperef10_Check.mono_l : ∀ k, (∀ y0 y1 y2 y3 y4 y5, LeO (reedpiperef10_Check.j0 k y0 y1 y2 y3 y4 y5) (reedpiperef10_Check.j0 (k + 1) y0 y1 y2 y3 y4 y5))
  | 0 => fun _ _ _ _ _ _ r h => by simp [reedpiperef10_Check.j0] at h
  | k + 1 => by
    have ih0 := reedpiperef10_Check.mono_l k
    · intro y0 y1 y2 y3 y4 y5
      unfold reedpiperef10_Check.j0
      repeat' first
      | (with_reducible exact ih0 _ _ _ _ _ _)
      | (with_reducible exact reedpiperef10_May.mono _ _ _ _ _ _)
      | (with_reducible exact LeO.refl _)
      | (with_reducible exact LeO.none _)
      | (with_reducible refine LeO.ite ?_ ?_)
      | (with_reducible refine LeO.bind ?_ (fun _ => ?_))
      | exact ih0 _ _ _ _ _ _
      | exact reedpiperef10_May.mono _ _ _ _ _ _
      | exact LeO.none _
      | refine LeO.ite ?_ ?_
      | refine LeO.bind ?_ (fun _ => ?_)
theorem reedpiperef10_Check.mono : ∀ a0 a1 a2 a3 a4 k, LeO (reedpiperef10_Check.f k a0 a1 a2 a3 a4) (reedpiperef10_Check.f (k + 1) a0 a1 a2 a3 a4) := by
  intro a0 a1 a2 a3 a4 k
  have ih0 := reedpiperef10_Check.mono_l k
  unfold reedpiperef10_Check.f
  repeat' first
      | (with_reducible exact ih0 _ _ _ _ _ _)
      | (with_reducible exact reedpiperef10_May.mono _ _ _ _ _ _)
      | (with_reducible exact LeO.refl _)
      | (with_reducible exact LeO.none _)
      | (with_reducible refine LeO.ite ?_ ?_)
      | (with_reducible refine LeO.bind ?_ (fun _ => ?_))
      | exact ih0 _ _ _ _ _ _
      | exact reedpiperef10_May.mono _ _ _ _ _ _
      | exact LeO.none _
      | refine LeO.ite ?_ ?_
      | refine LeO.bind ?_ (fun _ => ?_)
set_option maxHeartbeats 8000000 in
set_option maxRecDepth 100000 in
theorem reedpiperef10_Check.calls (k : Nat) (a0 : Int) (a1_0 : Int) (a1_1 : Int) (a1_2 : Int) (A1_3 : Option Addr) (c1_3 : Nat) (l1_3 : List Int) (r : Int) (w : World) (hr1_3 : Kd.C (Kd.int .i64) w A1_3 l1_3.length l1_3) (hc1_3 : l1_3.length ≤ c1_3) (h : reedpiperef10_Check.f k a0 a1_0 a1_1 a1_2 l1_3 = some r) :
    Calls Try.prog 16 #[.int .i64 a0, .agg #[.int .u8 a1_0, .int .u8 a1_1, .int .i64 a1_2, .slice A1_3 l1_3.length c1_3]] w fun e w' => e = .returned (.int .i64 r) ∧ Below w.heap.size w w' := by
  have hu24 := Try.underlying24
  have HR1_3 := Aside0.mk hr1_3
  have HC1_3 := Aside0.mk hc1_3
  clear hr1_3 hc1_3
  have HB := Aside0.mk (Below.refl w.heap.size w)
  have H : (if a0 < 0 then (reedpiperef10_Check.j0 k a0 true a1_0 a1_1 a1_2 l1_3) else (reedpiperef10_Check.j0 k a0 (decide (a0 > 11)) a1_0 a1_1 a1_2 l1_3)) = some r := h
  clear h
  have HC3 := Aside0.mk H
  clear H
  go_enter Try.func16, Try.ntmps16
  go_upto_region 1 with (first | ((with_reducible refine gate_dst (N := 3) rfl ?_); refine box_event ?hg (N := 3) ?hd (cs := #[.int .u8 a1_0, .int .u8 a1_1, .int .i64 a1_2, .slice A1_3 l1_3.length c1_3]) (t := 24) ?hr ?_; (case hd => rfl); (case hg => rfl); (case hr => first | (go_simp; done) | (go_simp; rfl)); intro gb181 hg w4 hbox hb; have n0_ := Aside0.mk (below_step (by repeat (first | (with_reducible first | exact HB.out | apply below_alloc | apply pw_below_drewN | apply below_drew1) | exact HB.out)) hb); have n1_ := Aside0.mk (hbox); have n2_ := Aside0.mk ((by rw [hg]; exact (below_size (by repeat (first | (with_reducible first | exact HB.out | apply below_alloc | apply pw_below_drewN | apply below_drew1) | exact HB.out))) : w.heap.size ≤ gb181)); have n3_ := Aside0.mk ((by rw [hg]; exact (below_size (by repeat (first | (with_reducible first | exact HB.out | apply below_alloc | apply pw_below_drewN | apply below_drew1) | exact HB.out))) : w.heap.size ≤ gb181)); clear HB; have HB := n0_; have BK181 := n1_; have GW181 := n2_; have GE181 := n3_; clear n0_ n1_ n2_ n3_; clear hb hbox hg))
  (try simp only [Act.put, List.setIfInBounds_toArray, List.set_cons_zero, List.set_cons_succ])
  go_cut [10] (fun v10 wc => ∃ (kq : Nat) (x10_2 : Bool), v10 = .bool x10_2 ∧ Aside0 (reedpiperef10_Check.j0 kq a0 x10_2 a1_0 a1_1 a1_2 l1_3 = some r) ∧ Aside0 (kq ≤ k) ∧ Aside0 (wc.heap[gb181]? = some (.cells #[.int .u8 a1_0, .int .u8 a1_1, .int .i64 a1_2, (.slice A1_3 l1_3.length c1_3)] 24 (0, 0))) ∧ Aside0 (Below w.heap.size w wc))
  case first =>
    have H := HC3.out
    clear HC3
    by_cases c5 : a0 < 0
    · rw [if_pos c5] at H
      have c5b0 : decide (a0 < 0) = true := decide_eq_true c5
      clear c5
      (first | rw [c5b0] | (simp only [i64_w, i32_w]; rw [c5b0]) | skip)
      have H' := Aside0.mk H
      clear H
      go_wp2
      go_meet
      case rel => exact ⟨_, (true), (by first | rfl | (simp; done) | (simp [*]; done)), H', ⟨by first | omega | exact Nat.le_refl _⟩, ⟨by (with_reducible repeat (first | refine blk_drewN ?_ _ | refine blk_drew ?_ | refine blk_alloc ?_ _)); exact BK181.out⟩, ⟨by repeat (first | (with_reducible first | exact HB.out | apply below_alloc | apply pw_below_drewN | apply below_drew1 | refine below_set ?_ GE181.out) | exact HB.out)⟩⟩
    · rw [if_neg c5] at H
      have c5b0 : decide (a0 < 0) = false := decide_eq_false c5
      clear c5
      (first | rw [c5b0] | (simp only [i64_w, i32_w]; rw [c5b0]) | skip)
      have H' := Aside0.mk H
      clear H
      go_wp2
      go_meet
      case rel => exact ⟨_, (decide (a0 > 11)), (by first | rfl | (simp; done) | (simp [*]; done)), H', ⟨by first | omega | exact Nat.le_refl _⟩, ⟨by (with_reducible repeat (first | refine blk_drewN ?_ _ | refine blk_drew ?_ | refine blk_alloc ?_ _)); exact BK181.out⟩, ⟨by repeat (first | (with_reducible first | exact HB.out | apply below_alloc | apply pw_below_drewN | apply below_drew1 | refine below_set ?_ GE181.out) | exact HB.out)⟩⟩
  case rest =>
    clear HC3
    try clear c1
    try clear p2
    try clear c5
    try clear c5b0
    obtain ⟨kq, x10_2, rfl, HA, HJ2, BK181, HB⟩ := hcut
    cases kq with
    | zero => exact absurd HA.out (by simp [reedpiperef10_Check.j0])
    | succ kj2 =>
      have H := HA.out
      clear HA
      simp only [reedpiperef10_Check.j0] at H
      by_cases c6 : x10_2 = true
      · subst c6
        have H1 : (some 2) = some r := by rw [if_pos rfl] at H; exact H
        clear H
        have H := H1
        clear H1
        obtain rfl := Option.some.inj H
        go_wp2
        go_ret
        exact ⟨by first | rfl | (simp [errW_none, errW_some] <;> rfl) | (simp [*, errW_none, errW_some] <;> rfl), by repeat (first | (with_reducible first | exact HB.out | apply below_alloc | apply pw_below_drewN | apply below_drew1 | refine below_set ?_ GE181.out) | exact HB.out)⟩
      · replace c6 := Bool.eq_false_iff.mpr c6
        subst c6
        have H1 : ((reedpiperef10_May.f kj2 a0 a1_0 a1_1 a1_2 l1_3).bind fun t182 => (if t182 = true then (some 0) else (some 8))) = some r := by rw [if_neg (show ¬ (false = true) by decide)] at H; exact H
        clear H
        have H := H1
        clear H1
        replace H := Option.bind_eq_some_iff.mp H
        obtain ⟨t182, A70, H⟩ := H
        replace H : (if t182 = true then (some 0) else (some 8)) = some r := H
        have A7 := Aside0.mk A70
        clear A70
        by_cases c8 : t182 = true
        · subst c8
          have H1 : (some 0) = some r := by rw [if_pos rfl] at H; exact H
          clear H
          have H := H1
          clear H1
          obtain rfl := Option.some.inj H
          have hcz9_0 : wc.cell? ⟨gb181, 0, none⟩ = some (.int .u8 a1_0) := (blk_cell BK181.out 0).trans rfl
          have hcz9_1 : wc.cell? ⟨gb181, 1, none⟩ = some (.int .u8 a1_1) := (blk_cell BK181.out 1).trans rfl
          have hcz9_2 : wc.cell? ⟨gb181, 2, none⟩ = some (.int .i64 a1_2) := (blk_cell BK181.out 2).trans rfl
          have hcz9_3 : wc.cell? ⟨gb181, 3, none⟩ = some (.slice A1_3 l1_3.length c1_3) := (blk_cell BK181.out 3).trans rfl
          have hfz9_0 := blk_frozen BK181.out 0
          have hfz9_1 := blk_frozen BK181.out 1
          have hfz9_2 := blk_frozen BK181.out 2
          have hfz9_3 := blk_frozen BK181.out 3
          go_wp2_with (first | ((with_reducible refine gate_callee (f := 31) rfl ?_); refine goesL_ (some 13) rfl rfl Try.func31 (by kernel_rfl) rfl #[.int .i64 a0, .agg #[.int .u8 a1_0, .int .u8 a1_1, .int .i64 a1_2, .slice A1_3 l1_3.length c1_3]] rfl (by (try simp only [List.map_toArray, List.map_cons, List.map_nil]); first | done | rfl | (simp only [List.length_drop, List.length_take]; rfl)) ?_; (with_reducible refine (reedpiperef10_May.calls kj2 a0 a1_0 a1_1 a1_2 _ _ l1_3 true _ ?side1 ?side2 A7.out).mono ?_); (case side1 => repeat (first | exact (Kd.C_below HR1_3.out HB.out) | (with_reducible refine Kd.C_alloc ?_ _) | (with_reducible refine Kd.C_drewN ?_ _) | (with_reducible refine Kd.C_drew ?_))); (case side2 => exact HC1_3.out); rintro e w10 ⟨rfl, hb⟩; refine ⟨_, rfl, ?_⟩; have n0_ := Aside0.mk (blk_below (g := gb181) (o := .cells #[.int .u8 a1_0, .int .u8 a1_1, .int .i64 a1_2, .slice A1_3 l1_3.length c1_3] 24 (0, 0)) (by (with_reducible repeat (first | refine blk_drewN ?_ _ | refine blk_drew ?_ | refine blk_alloc ?_ _)); exact BK181.out) hb); have n1_ := Aside0.mk (below_step (by repeat (first | (with_reducible first | exact HB.out | apply below_alloc | apply pw_below_drewN | apply below_drew1 | refine below_set ?_ GE181.out) | exact HB.out)) hb); clear BK181; clear HB; have BK181 := n0_; have HB := n1_; clear n0_ n1_; (try clear hb); (try clear hb2); (try clear hk); (try clear hi)))
          go_ret
          exact ⟨by first | rfl | (simp [errW_none, errW_some] <;> rfl) | (simp [*, errW_none, errW_some] <;> rfl), by repeat (first | (with_reducible first | exact HB.out | apply below_alloc | apply pw_below_drewN | apply below_drew1 | refine below_set ?_ GE181.out) | exact HB.out)⟩
        · replace c8 := Bool.eq_false_iff.mpr c8
          subst c8
          have H1 : (some 8) = some r := by rw [if_neg (show ¬ (false = true) by decide)] at H; exact H
          clear H
          have H := H1
          clear H1
          obtain rfl := Option.some.inj H
          have hcz11_0 : wc.cell? ⟨gb181, 0, none⟩ = some (.int .u8 a1_0) := (blk_cell BK181.out 0).trans rfl
          have hcz11_1 : wc.cell? ⟨gb181, 1, none⟩ = some (.int .u8 a1_1) := (blk_cell BK181.out 1).trans rfl
          have hcz11_2 : wc.cell? ⟨gb181, 2, none⟩ = some (.int .i64 a1_2) := (blk_cell BK181.out 2).trans rfl
          have hcz11_3 : wc.cell? ⟨gb181, 3, none⟩ = some (.slice A1_3 l1_3.length c1_3) := (blk_cell BK181.out 3).trans rfl
          have hfz11_0 := blk_frozen BK181.out 0
          have hfz11_1 := blk_frozen BK181.out 1
          have hfz11_2 := blk_frozen BK181.out 2
          have hfz11_3 := blk_frozen BK181.out 3
          go_wp2_with (first | ((with_reducible refine gate_callee (f := 31) rfl ?_); refine goesL_ (some 13) rfl rfl Try.func31 (by kernel_rfl) rfl #[.int .i64 a0, .agg #[.int .u8 a1_0, .int .u8 a1_1, .int .i64 a1_2, .slice A1_3 l1_3.length c1_3]] rfl (by (try simp only [List.map_toArray, List.map_cons, List.map_nil]); first | done | rfl | (simp only [List.length_drop, List.length_take]; rfl)) ?_; (with_reducible refine (reedpiperef10_May.calls kj2 a0 a1_0 a1_1 a1_2 _ _ l1_3 false _ ?side1 ?side2 A7.out).mono ?_); (case side1 => repeat (first | exact (Kd.C_below HR1_3.out HB.out) | (with_reducible refine Kd.C_alloc ?_ _) | (with_reducible refine Kd.C_drewN ?_ _) | (with_reducible refine Kd.C_drew ?_))); (case side2 => exact HC1_3.out); rintro e w12 ⟨rfl, hb⟩; refine ⟨_, rfl, ?_⟩; have n0_ := Aside0.mk (blk_below (g := gb181) (o := .cells #[.int .u8 a1_0, .int .u8 a1_1, .int .i64 a1_2, .slice A1_3 l1_3.length c1_3] 24 (0, 0)) (by (with_reducible repeat (first | refine blk_drewN ?_ _ | refine blk_drew ?_ | refine blk_alloc ?_ _)); exact BK181.out) hb); have n1_ := Aside0.mk (below_step (by repeat (first | (with_reducible first | exact HB.out | apply below_alloc | apply pw_below_drewN | apply below_drew1 | refine below_set ?_ GE181.out) | exact HB.out)) hb); clear BK181; clear HB; have BK181 := n0_; have HB := n1_; clear n0_ n1_; (try clear hb); (try clear hb2); (try clear hk); (try clear hi)))
          go_ret
          exact ⟨by first | rfl | (simp [errW_none, errW_some] <;> rfl) | (simp [*, errW_none, errW_some] <;> rfl), by repeat (first | (with_reducible first | exact HB.out | apply below_alloc | apply pw_below_drewN | apply below_drew1 | refine below_set ?_ GE181.out) | exact HB.out)⟩

end Go.Proofs.Ytdoeclpbobjgdaa.K
end
section
-- Written for this claim by this session's own wip/hook.py (it runs the kit's print and takes some functions' contracts as given texts of this session's).
namespace Go.Proofs.Ytdoeclpbobjgdaa.K
open Go.RowKit Go.Proofs.YtdoeclpbobjgdaaW.PrintWords Go.Proofs.YtdoeclpbobjgdaaW.PrintLast Go.Proofs.YtdoeclpbobjgdaaW.PrintMore
attribute [local go_sem] max2_int min2_int max_two min_two max_three min_three max_four min_four   -- for this text's walks alone
set_option linter.unusedVariables false
set_option linter.unusedSimpArgs false

/-! ### info_After: function 17: GIVEN BY HAND -/
set_option maxHeartbeats 4000000 in
set_option maxRecDepth 100000 in
theorem info_After.follow (w : World) : Calls Try.prog 32 #[] w fun e w' => e = .returned (.agg #[.bool true, .bool true, .bool false, .bool false, .bool false, .bool false, .bool true, .bool true, .bool false, .bool false, .bool true, .bool true, .bool true, .bool true, .bool false, .bool false]) ∧ Below w.heap.size w w' := by
  go_enter Try.func32, Try.ntmps32
  go_wp2
  refine bodyPost_ret (v := .agg #[.bool true, .bool true, .bool false, .bool false, .bool false, .bool false, .bool true, .bool true, .bool false, .bool false, .bool true, .bool true, .bool true, .bool true, .bool false, .bool false]) (by simp [results, Try.results32, go_sem]) rfl ⟨rfl, below_alloc (Below.refl _ _) _⟩
theorem info_After.r0 (w : World) : (Instr.index 53 (.agg #[.bool true, .bool true, .bool false, .bool false, .bool false, .bool false, .bool true, .bool true, .bool false, .bool false, .bool true, .bool true, .bool true, .bool true, .bool false, .bool false]) (.int .u8 0)).run Try.prog w = .ok (.agg #[.bool true, .bool true, .bool false, .bool false]) w := by kernel_rfl
theorem info_After.r1 (w : World) : (Instr.index 53 (.agg #[.bool true, .bool true, .bool false, .bool false, .bool false, .bool false, .bool true, .bool true, .bool false, .bool false, .bool true, .bool true, .bool true, .bool true, .bool false, .bool false]) (.int .u8 1)).run Try.prog w = .ok (.agg #[.bool false, .bool false, .bool true, .bool true]) w := by kernel_rfl
theorem info_After.r2 (w : World) : (Instr.index 53 (.agg #[.bool true, .bool true, .bool false, .bool false, .bool false, .bool false, .bool true, .bool true, .bool false, .bool false, .bool true, .bool true, .bool true, .bool true, .bool false, .bool false]) (.int .u8 2)).run Try.prog w = .ok (.agg #[.bool false, .bool false, .bool true, .bool true]) w := by kernel_rfl
theorem info_After.r3 (w : World) : (Instr.index 53 (.agg #[.bool true, .bool true, .bool false, .bool false, .bool false, .bool false, .bool true, .bool true, .bool false, .bool false, .bool true, .bool true, .bool true, .bool true, .bool false, .bool false]) (.int .u8 3)).run Try.prog w = .ok (.agg #[.bool true, .bool true, .bool false, .bool false]) w := by kernel_rfl
theorem info_After.o0 (w : World) : (Instr.index 52 (.agg #[.bool true, .bool true, .bool false, .bool false]) (.int .u8 0)).run Try.prog w = .ok (.bool true) w := by kernel_rfl
theorem info_After.o1 (w : World) : (Instr.index 52 (.agg #[.bool true, .bool true, .bool false, .bool false]) (.int .u8 1)).run Try.prog w = .ok (.bool true) w := by kernel_rfl
theorem info_After.o2 (w : World) : (Instr.index 52 (.agg #[.bool true, .bool true, .bool false, .bool false]) (.int .u8 2)).run Try.prog w = .ok (.bool false) w := by kernel_rfl
theorem info_After.o3 (w : World) : (Instr.index 52 (.agg #[.bool true, .bool true, .bool false, .bool false]) (.int .u8 3)).run Try.prog w = .ok (.bool false) w := by kernel_rfl
theorem info_After.c0 (w : World) : (Instr.index 52 (.agg #[.bool false, .bool false, .bool true, .bool true]) (.int .u8 0)).run Try.prog w = .ok (.bool false) w := by kernel_rfl
theorem info_After.c1 (w : World) : (Instr.index 52 (.agg #[.bool false, .bool false, .bool true, .bool true]) (.int .u8 1)).run Try.prog w = .ok (.bool false) w := by kernel_rfl
theorem info_After.c2 (w : World) : (Instr.index 52 (.agg #[.bool false, .bool false, .bool true, .bool true]) (.int .u8 2)).run Try.prog w = .ok (.bool true) w := by kernel_rfl
theorem info_After.c3 (w : World) : (Instr.index 52 (.agg #[.bool false, .bool false, .bool true, .bool true]) (.int .u8 3)).run Try.prog w = .ok (.bool true) w := by kernel_rfl
def afterB (was now : Int) : Bool := if was = 0 ∨ was = 3 then decide (now = 0 ∨ now = 1) else if was = 1 ∨ was = 2 then decide (now = 2 ∨ now = 3) else false

def info_After.f (a0 : Int) (a1 : Int) : Option (Bool) := if 0 ≤ a0 ∧ 0 ≤ a1 then some (afterB a0 a1) else none
set_option maxHeartbeats 8000000 in
set_option maxRecDepth 100000 in
theorem info_After.calls (a0 : Int) (a1 : Int) (r : Bool) (w : World) (h : info_After.f a0 a1 = some r) :
    Calls Try.prog 17 #[.int .u8 a0, .int .u8 a1] w fun e w' => e = .returned (.bool r) ∧ Below w.heap.size w w' := by
  unfold info_After.f at h
  by_cases hb : 0 ≤ a0 ∧ 0 ≤ a1
  · rw [if_pos hb] at h
    obtain rfl := Option.some.inj h
    obtain ⟨h0, h1⟩ := hb
    by_cases c0 : a0 < 4
    · by_cases c1 : a1 < 4
      · obtain rfl | rfl | rfl | rfl : a0 = 0 ∨ a0 = 1 ∨ a0 = 2 ∨ a0 = 3 := by omega
        all_goals
          obtain rfl | rfl | rfl | rfl : a1 = 0 ∨ a1 = 1 ∨ a1 = 2 ∨ a1 = 3 := by omega
          all_goals
            clear h0 h1 c0 c1
            have g0 := info_After.r0
            have g1 := info_After.r1
            have g2 := info_After.r2
            have g3 := info_After.r3
            have g4 := info_After.o0
            have g5 := info_After.o1
            have g6 := info_After.o2
            have g7 := info_After.o3
            have g8 := info_After.c0
            have g9 := info_After.c1
            have g10 := info_After.c2
            have g11 := info_After.c3
            go_enter Try.func17, Try.ntmps17
            go_wp2_with (go_at_call 32; (with_reducible refine (info_After.follow _).mono ?_); rintro e w' ⟨rfl, hb⟩; have HB := Aside0.mk hb; clear hb)
            go_ret
            exact ⟨rfl, HB.out⟩
      · have b0 : decide (a0 < 4) = true := decide_eq_true c0
        have b1 : decide (a1 < 4) = false := decide_eq_false c1
        have hv : Aside0 (afterB a0 a1 = false) := ⟨by
          unfold afterB
          split
          · exact decide_eq_false (by omega)
          · split
            · exact decide_eq_false (by omega)
            · rfl⟩
        go_enter Try.func17, Try.ntmps17
        go_wp2
        go_ret
        exact ⟨by rw [hv.out]; rfl, Below.refl _ _⟩
    · have b0 : decide (a0 < 4) = false := decide_eq_false c0
      have hv : Aside0 (afterB a0 a1 = false) := ⟨by
          unfold afterB
          split
          · exact decide_eq_false (by omega)
          · split
            · exact decide_eq_false (by omega)
            · rfl⟩
      go_enter Try.func17, Try.ntmps17
      go_wp2
      go_ret
      exact ⟨by rw [hv.out]; rfl, Below.refl _ _⟩
  · rw [if_neg hb] at h
    cases h

end Go.Proofs.Ytdoeclpbobjgdaa.K
end
section
-- Written for this claim by this session's own wip/hook.py (it runs the kit's print and takes some functions' contracts as given texts of this session's).
namespace Go.Proofs.Ytdoeclpbobjgdaa.K
open Go.RowKit Go.Proofs.YtdoeclpbobjgdaaW.PrintWords Go.Proofs.YtdoeclpbobjgdaaW.PrintLast Go.Proofs.YtdoeclpbobjgdaaW.PrintMore
attribute [local go_sem] max2_int min2_int max_two min_two max_three min_three max_four min_four   -- for this text's walks alone
set_option linter.unusedVariables false
set_option linter.unusedSimpArgs false

/-! ### reedpiperef10_After: function 18 -/
def reedpiperef10_After.j0 : Nat → Int → Int → Bool → Option (Bool)
  | 0, _, _, _ => none
  | k + 1, x1, x5, x6 => if x6 = true then (if x1 = 0 then (some true) else (some (x1 == 1))) else (if x5 = 1 then (if x1 = 2 then (some true) else (some (x1 == 3))) else (if x5 = 2 then (if x1 = 2 then (some true) else (some (x1 == 3))) else (some false)))
def reedpiperef10_After.f (k : Nat) (a0 : Int) (a1 : Int) : Option (Bool) := if a0 = 0 then (reedpiperef10_After.j0 k a1 a0 (a0 == 0)) else (reedpiperef10_After.j0 k a1 a0 (a0 == 3))
theorem reedpiperef10_After.mono_l : ∀ k, (∀ y0 y1 y2, LeO (reedpiperef10_After.j0 k y0 y1 y2) (reedpiperef10_After.j0 (k + 1) y0 y1 y2))
  | 0 => fun _ _ _ r h => by simp [reedpiperef10_After.j0] at h
  | k + 1 => by
    have ih0 := reedpiperef10_After.mono_l k
    · intro y0 y1 y2
      unfold reedpiperef10_After.j0
      repeat' first
      | (with_reducible exact ih0 _ _ _)
      | (with_reducible exact LeO.refl _)
      | (with_reducible exact LeO.none _)
      | (with_reducible refine LeO.ite ?_ ?_)
      | (with_reducible refine LeO.bind ?_ (fun _ => ?_))
      | exact ih0 _ _ _
      | exact LeO.none _
      | refine LeO.ite ?_ ?_
      | refine LeO.bind ?_ (fun _ => ?_)
theorem reedpiperef10_After.mono : ∀ a0 a1 k, LeO (reedpiperef10_After.f k a0 a1) (reedpiperef10_After.f (k + 1) a0 a1) := by
  intro a0 a1 k
  have ih0 := reedpiperef10_After.mono_l k
  unfold reedpiperef10_After.f
  repeat' first
      | (with_reducible exact ih0 _ _ _)
      | (with_reducible exact LeO.refl _)
      | (with_reducible exact LeO.none _)
      | (with_reducible refine LeO.ite ?_ ?_)
      | (with_reducible refine LeO.bind ?_ (fun _ => ?_))
      | exact ih0 _ _ _
      | exact LeO.none _
      | refine LeO.ite ?_ ?_
      | refine LeO.bind ?_ (fun _ => ?_)
set_option maxHeartbeats 8000000 in
set_option maxRecDepth 100000 in
theorem reedpiperef10_After.calls (k : Nat) (a0 : Int) (a1 : Int) (r : Bool) (w : World) (h : reedpiperef10_After.f k a0 a1 = some r) :
    Calls Try.prog 18 #[.int .u8 a0, .int .u8 a1] w fun e w' => e = .returned (.bool r) ∧ Drawn0 w w' := by
  have H : (if a0 = 0 then (reedpiperef10_After.j0 k a1 a0 (a0 == 0)) else (reedpiperef10_After.j0 k a1 a0 (a0 == 3))) = some r := h
  clear h
  have HC3 := Aside0.mk H
  clear H
  go_enter Try.func18, Try.ntmps18
  go_upto_if 6 with (fail)
  go_cut [6] (fun v6 wc => ∃ (kq : Nat) (x6_2 : Bool), v6 = .bool x6_2 ∧ Aside0 (reedpiperef10_After.j0 kq a1 a0 x6_2 = some r) ∧ Aside0 (kq ≤ k) ∧ Drawn0 w wc)
  case first =>
    have H := HC3.out
    clear HC3
    by_cases c4 : a0 = 0
    · rw [if_pos c4] at H
      have c4b0 : (a0 == 0) = true := beq_iff_eq.mpr c4
      have c4b1 : (a0 != 0) = false := bne_eq_false_iff_eq.mpr c4
      clear c4
      (first | rw [c4b0] | (simp only [i64_w, i32_w]; rw [c4b0]) | skip)
      have H' := Aside0.mk H
      clear H
      go_wp2
      go_meet
      case rel => exact ⟨_, ((a0 == 0)), (by first | rfl | (simp; done) | (simp [*]; done)), H', ⟨by first | omega | exact Nat.le_refl _⟩, by repeat (first | exact Drawn0.refl _ | apply Drawn0.step)⟩
    · rw [if_neg c4] at H
      have c4b0 : (a0 == 0) = false := beq_eq_false_iff_ne.mpr c4
      have c4b1 : (a0 != 0) = true := bne_iff_ne.mpr c4
      (first | rw [c4b0] | (simp only [i64_w, i32_w]; rw [c4b0]) | skip)
      have H' := Aside0.mk H
      clear H
      go_wp2
      go_meet
      case rel => exact ⟨_, ((a0 == 3)), (by first | rfl | (simp; done) | (simp [*]; done)), H', ⟨by first | omega | exact Nat.le_refl _⟩, by repeat (first | exact Drawn0.refl _ | apply Drawn0.step)⟩
  case rest =>
    clear HC3
    try clear c1
    try clear p2
    try clear c4
    try clear c4b0
    try clear c4b1
    obtain ⟨kq, x6_2, rfl, HA, HJ2, ⟨mc2, rfl⟩⟩ := hcut
    cases kq with
    | zero => exact absurd HA.out (by simp [reedpiperef10_After.j0])
    | succ kj2 =>
      have H := HA.out
      clear HA
      simp only [reedpiperef10_After.j0] at H
      by_cases c5 : x6_2 = true
      · subst c5
        have H1 : (if a1 = 0 then (some true) else (some (a1 == 1))) = some r := by rw [if_pos rfl] at H; exact H
        clear H
        have H := H1
        clear H1
        by_cases c6 : a1 = 0
        · rw [if_pos c6] at H
          have c6b0 : (a1 == 0) = true := beq_iff_eq.mpr c6
          have c6b1 : (a1 != 0) = false := bne_eq_false_iff_eq.mpr c6
          clear c6
          obtain rfl := Option.some.inj H
          go_wp2
          go_ret
          exact ⟨by first | rfl | (simp; done) | (simp [*]; done), by repeat (first | exact Drawn0.refl _ | apply Drawn0.step)⟩
        · rw [if_neg c6] at H
          have c6b0 : (a1 == 0) = false := beq_eq_false_iff_ne.mpr c6
          have c6b1 : (a1 != 0) = true := bne_iff_ne.mpr c6
          obtain rfl := Option.some.inj H
          go_wp2
          go_ret
          exact ⟨by first | rfl | (simp; done) | (simp [*]; done), by repeat (first | exact Drawn0.refl _ | apply Drawn0.step)⟩
      · replace c5 := Bool.eq_false_iff.mpr c5
        subst c5
        have H1 : (if a0 = 1 then (if a1 = 2 then (some true) else (some (a1 == 3))) else (if a0 = 2 then (if a1 = 2 then (some true) else (some (a1 == 3))) else (some false))) = some r := by rw [if_neg (show ¬ (false = true) by decide)] at H; exact H
        clear H
        have H := H1
        clear H1
        by_cases c7 : a0 = 1
        · rw [if_pos c7] at H
          have c7b0 : (a0 == 1) = true := beq_iff_eq.mpr c7
          have c7b1 : (a0 != 1) = false := bne_eq_false_iff_eq.mpr c7
          clear c7
          by_cases c8 : a1 = 2
          · rw [if_pos c8] at H
            have c8b0 : (a1 == 2) = true := beq_iff_eq.mpr c8
            have c8b1 : (a1 != 2) = false := bne_eq_false_iff_eq.mpr c8
            clear c8
            obtain rfl := Option.some.inj H
            go_wp2
            go_ret
            exact ⟨by first | rfl | (simp; done) | (simp [*]; done), by repeat (first | exact Drawn0.refl _ | apply Drawn0.step)⟩
          · rw [if_neg c8] at H
            have c8b0 : (a1 == 2) = false := beq_eq_false_iff_ne.mpr c8
            have c8b1 : (a1 != 2) = true := bne_iff_ne.mpr c8
            obtain rfl := Option.some.inj H
            go_wp2
            go_ret
            exact ⟨by first | rfl | (simp; done) | (simp [*]; done), by repeat (first | exact Drawn0.refl _ | apply Drawn0.step)⟩
        · rw [if_neg c7] at H
          have c7b0 : (a0 == 1) = false := beq_eq_false_iff_ne.mpr c7
          have c7b1 : (a0 != 1) = true := bne_iff_ne.mpr c7
          by_cases c9 : a0 = 2
          · rw [if_pos c9] at H
            have c9b0 : (a0 == 2) = true := beq_iff_eq.mpr c9
            have c9b1 : (a0 != 2) = false := bne_eq_false_iff_eq.mpr c9
            clear c9
            by_cases c10 : a1 = 2
            · rw [if_pos c10] at H
              have c10b0 : (a1 == 2) = true := beq_iff_eq.mpr c10
              have c10b1 : (a1 != 2) = false := bne_eq_false_iff_eq.mpr c10
              clear c10
              obtain rfl := Option.some.inj H
              go_wp2
              go_ret
              exact ⟨by first | rfl | (simp; done) | (simp [*]; done), by repeat (first | exact Drawn0.refl _ | apply Drawn0.step)⟩
            · rw [if_neg c10] at H
              have c10b0 : (a1 == 2) = false := beq_eq_false_iff_ne.mpr c10
              have c10b1 : (a1 != 2) = true := bne_iff_ne.mpr c10
              obtain rfl := Option.some.inj H
              go_wp2
              go_ret
              exact ⟨by first | rfl | (simp; done) | (simp [*]; done), by repeat (first | exact Drawn0.refl _ | apply Drawn0.step)⟩
          · rw [if_neg c9] at H
            have c9b0 : (a0 == 2) = false := beq_eq_false_iff_ne.mpr c9
            have c9b1 : (a0 != 2) = true := bne_iff_ne.mpr c9
            obtain rfl := Option.some.inj H
            go_wp2
            go_ret
            exact ⟨by first | rfl | (simp; done) | (simp [*]; done), by repeat (first | exact Drawn0.refl _ | apply Drawn0.step)⟩

end Go.Proofs.Ytdoeclpbobjgdaa.K
end
section
-- Written for this claim by this session's own wip/hook.py (it runs the kit's print and takes some functions' contracts as given texts of this session's).
namespace Go.Proofs.Ytdoeclpbobjgdaa.K
open Go.RowKit Go.Proofs.YtdoeclpbobjgdaaW.PrintWords Go.Proofs.YtdoeclpbobjgdaaW.PrintLast Go.Proofs.YtdoeclpbobjgdaaW.PrintMore
attribute [local go_sem] max2_int min2_int max_two min_two max_three min_three max_four min_four   -- for this text's walks alone
set_option linter.unusedVariables false
set_option linter.unusedSimpArgs false

/-! ### info_Same: function 19 -/
def info_Same.f (k : Nat) (a0_0 : Int) (a0_1 : Int) (a0_2 : Int) (l0_3 : List Int) (a1_0 : Int) (a1_1 : Int) (a1_2 : Int) (l1_3 : List Int) : Option (Bool) := if a0_0 = a1_0 then (if a0_1 = a1_1 then (if a0_2 = a1_2 then ((slices_Equal_int_int.f k l0_3 l1_3).bind fun t185 => (some t185)) else (some false)) else (some false)) else (some false)
theorem info_Same.mono : ∀ a0 a1 a2 a3 a4 a5 a6 a7 k, LeO (info_Same.f k a0 a1 a2 a3 a4 a5 a6 a7) (info_Same.f (k + 1) a0 a1 a2 a3 a4 a5 a6 a7) := by
  intro a0 a1 a2 a3 a4 a5 a6 a7 k
  unfold info_Same.f
  repeat' first
      | (with_reducible exact slices_Equal_int_int.mono _ _ _)
      | (with_reducible exact LeO.refl _)
      | (with_reducible exact LeO.none _)
      | (with_reducible refine LeO.ite ?_ ?_)
      | (with_reducible refine LeO.bind ?_ (fun _ => ?_))
      | exact slices_Equal_int_int.mono _ _ _
      | exact LeO.none _
      | refine LeO.ite ?_ ?_
      | refine LeO.bind ?_ (fun _ => ?_)
set_option maxHeartbeats 8000000 in
set_option maxRecDepth 100000 in
theorem info_Same.calls (k : Nat) (a0_0 : Int) (a0_1 : Int) (a0_2 : Int) (A0_3 : Option Addr) (c0_3 : Nat) (l0_3 : List Int) (a1_0 : Int) (a1_1 : Int) (a1_2 : Int) (A1_3 : Option Addr) (c1_3 : Nat) (l1_3 : List Int) (r : Bool) (w : World) (hr0_3 : Kd.C (Kd.int .i64) w A0_3 l0_3.length l0_3) (hc0_3 : l0_3.length ≤ c0_3) (hr1_3 : Kd.C (Kd.int .i64) w A1_3 l1_3.length l1_3) (hc1_3 : l1_3.length ≤ c1_3) (h : info_Same.f k a0_0 a0_1 a0_2 l0_3 a1_0 a1_1 a1_2 l1_3 = some r) :
    Calls Try.prog 19 #[.agg #[.int .u8 a0_0, .int .u8 a0_1, .int .i64 a0_2, .slice A0_3 l0_3.length c0_3], .agg #[.int .u8 a1_0, .int .u8 a1_1, .int .i64 a1_2, .slice A1_3 l1_3.length c1_3]] w fun e w' => e = .returned (.bool r) ∧ Below w.heap.size w w' := by
  have hu24 := Try.underlying24
  have HR0_3 := Aside0.mk hr0_3
  have HC0_3 := Aside0.mk hc0_3
  clear hr0_3 hc0_3
  have HR1_3 := Aside0.mk hr1_3
  have HC1_3 := Aside0.mk hc1_3
  clear hr1_3 hc1_3
  have HB := Aside0.mk (Below.refl w.heap.size w)
  have H : (if a0_0 = a1_0 then (if a0_1 = a1_1 then (if a0_2 = a1_2 then ((slices_Equal_int_int.f k l0_3 l1_3).bind fun t185 => (some t185)) else (some false)) else (some false)) else (some false)) = some r := h
  clear h
  by_cases c3 : a0_0 = a1_0
  · rw [if_pos c3] at H
    have c3b0 : (a0_0 == a1_0) = true := beq_iff_eq.mpr c3
    have c3b1 : (a0_0 != a1_0) = false := bne_eq_false_iff_eq.mpr c3
    clear c3
    by_cases c4 : a0_1 = a1_1
    · rw [if_pos c4] at H
      have c4b0 : (a0_1 == a1_1) = true := beq_iff_eq.mpr c4
      have c4b1 : (a0_1 != a1_1) = false := bne_eq_false_iff_eq.mpr c4
      clear c4
      by_cases c5 : a0_2 = a1_2
      · rw [if_pos c5] at H
        have c5b0 : (a0_2 == a1_2) = true := beq_iff_eq.mpr c5
        have c5b1 : (a0_2 != a1_2) = false := bne_eq_false_iff_eq.mpr c5
        clear c5
        replace H := Option.bind_eq_some_iff.mp H
        obtain ⟨t185, A60, H⟩ := H
        replace H : (some t185) = some r := H
        have A6 := Aside0.mk A60
        clear A60
        obtain rfl := Option.some.inj H
        go_enter Try.func19, Try.ntmps19
        go_wp2_with (first | ((with_reducible refine gate_dst (N := 2) rfl ?_); refine box_event ?hg (N := 2) ?hd (cs := #[.int .u8 a0_0, .int .u8 a0_1, .int .i64 a0_2, .slice A0_3 l0_3.length c0_3]) (t := 24) ?hr ?_; (case hd => rfl); (case hg => rfl); (case hr => first | (go_simp; done) | (go_simp; rfl)); intro gb183 hg w7 hbox hb; have n0_ := Aside0.mk (below_step (by repeat (first | (with_reducible first | exact HB.out | apply below_alloc | apply pw_below_drewN | apply below_drew1) | exact HB.out)) hb); have n1_ := Aside0.mk (hbox); have n2_ := Aside0.mk ((by rw [hg]; exact (below_size (by repeat (first | (with_reducible first | exact HB.out | apply below_alloc | apply pw_below_drewN | apply below_drew1) | exact HB.out))) : w.heap.size ≤ gb183)); have n3_ := Aside0.mk ((by rw [hg]; exact (below_size (by repeat (first | (with_reducible first | exact HB.out | apply below_alloc | apply pw_below_drewN | apply below_drew1) | exact HB.out))) : w.heap.size ≤ gb183)); clear HB; have HB := n0_; have BK183 := n1_; have GW183 := n2_; have GE183 := n3_; clear n0_ n1_ n2_ n3_; clear hb hbox hg) | ((with_reducible refine gate_dst (N := 3) rfl ?_); refine box_event ?hg (N := 3) ?hd (cs := #[.int .u8 a1_0, .int .u8 a1_1, .int .i64 a1_2, .slice A1_3 l1_3.length c1_3]) (t := 24) ?hr ?_; (case hd => rfl); (case hg => rfl); (case hr => first | (go_simp; done) | (go_simp; rfl)); intro gb184 hg w8 hbox hb; have n0_ := Aside0.mk (blk_below (g := gb183) (o := .cells #[.int .u8 a0_0, .int .u8 a0_1, .int .i64 a0_2, .slice A0_3 l0_3.length c0_3] 24 (0, 0)) (by (with_reducible repeat (first | refine blk_drewN ?_ _ | refine blk_drew ?_ | refine blk_alloc ?_ _)); exact BK183.out) hb); have n1_ := Aside0.mk (below_step (by repeat (first | (with_reducible first | exact HB.out | apply below_alloc | apply pw_below_drewN | apply below_drew1 | refine below_set ?_ GE183.out) | exact HB.out)) hb); have n2_ := Aside0.mk (hbox); have n3_ := Aside0.mk ((by rw [hg]; exact (below_size (by repeat (first | (with_reducible first | exact HB.out | apply below_alloc | apply pw_below_drewN | apply below_drew1 | refine below_set ?_ GE183.out) | exact HB.out))) : w.heap.size ≤ gb184)); have n4_ := Aside0.mk ((by rw [hg]; exact (below_size (by repeat (first | (with_reducible first | exact HB.out | apply below_alloc | apply pw_below_drewN | apply below_drew1 | refine below_set ?_ GE183.out) | exact HB.out))) : w.heap.size ≤ gb184)); have n5_ := Aside0.mk ((by rw [hg]; exact Nat.ne_of_lt (blk_lt (g := gb183) (o := .cells #[.int .u8 a0_0, .int .u8 a0_1, .int .i64 a0_2, .slice A0_3 l0_3.length c0_3] 24 (0, 0)) (by (with_reducible repeat (first | refine blk_drewN ?_ _ | refine blk_drew ?_ | refine blk_alloc ?_ _)); exact BK183.out)) : gb183 ≠ gb184)); have n6_ := Aside0.mk ((by rw [hg]; exact Nat.ne_of_gt (blk_lt (g := gb183) (o := .cells #[.int .u8 a0_0, .int .u8 a0_1, .int .i64 a0_2, .slice A0_3 l0_3.length c0_3] 24 (0, 0)) (by (with_reducible repeat (first | refine blk_drewN ?_ _ | refine blk_drew ?_ | refine blk_alloc ?_ _)); exact BK183.out)) : gb184 ≠ gb183)); clear BK183; clear HB; have BK183 := n0_; have HB := n1_; have BK184 := n2_; have GW184 := n3_; have GE184 := n4_; have NB183_184 := n5_; have NB184_183 := n6_; clear n0_ n1_ n2_ n3_ n4_ n5_ n6_; clear hb hbox hg; have hnb9 := NB183_184.out; have hnc9 := NB184_183.out; have hcz10_0 : w8.cell? ⟨gb183, 0, none⟩ = some (.int .u8 a0_0) := (blk_cell BK183.out 0).trans rfl; have hcz10_1 : w8.cell? ⟨gb183, 1, none⟩ = some (.int .u8 a0_1) := (blk_cell BK183.out 1).trans rfl; have hcz10_2 : w8.cell? ⟨gb183, 2, none⟩ = some (.int .i64 a0_2) := (blk_cell BK183.out 2).trans rfl; have hcz10_3 : w8.cell? ⟨gb183, 3, none⟩ = some (.slice A0_3 l0_3.length c0_3) := (blk_cell BK183.out 3).trans rfl; have hfz10_0 := blk_frozen BK183.out 0; have hfz10_1 := blk_frozen BK183.out 1; have hfz10_2 := blk_frozen BK183.out 2; have hfz10_3 := blk_frozen BK183.out 3; have hcz11_0 : w8.cell? ⟨gb184, 0, none⟩ = some (.int .u8 a1_0) := (blk_cell BK184.out 0).trans rfl; have hcz11_1 : w8.cell? ⟨gb184, 1, none⟩ = some (.int .u8 a1_1) := (blk_cell BK184.out 1).trans rfl; have hcz11_2 : w8.cell? ⟨gb184, 2, none⟩ = some (.int .i64 a1_2) := (blk_cell BK184.out 2).trans rfl; have hcz11_3 : w8.cell? ⟨gb184, 3, none⟩ = some (.slice A1_3 l1_3.length c1_3) := (blk_cell BK184.out 3).trans rfl; have hfz11_0 := blk_frozen BK184.out 0; have hfz11_1 := blk_frozen BK184.out 1; have hfz11_2 := blk_frozen BK184.out 2; have hfz11_3 := blk_frozen BK184.out 3) | (go_at_call 33; (with_reducible refine (slices_Equal_int_int.calls k _ _ l0_3 _ _ l1_3 t185 _ ?side1 ?side2 ?side3 ?side4 A6.out).mono ?_); (case side1 => repeat (first | exact (Kd.C_below HR0_3.out HB.out) | (with_reducible refine Kd.C_alloc ?_ _) | (with_reducible refine Kd.C_drewN ?_ _) | (with_reducible refine Kd.C_drew ?_))); (case side2 => exact HC0_3.out); (case side3 => repeat (first | exact (Kd.C_below HR1_3.out HB.out) | (with_reducible refine Kd.C_alloc ?_ _) | (with_reducible refine Kd.C_drewN ?_ _) | (with_reducible refine Kd.C_drew ?_))); (case side4 => exact HC1_3.out); rintro e w' ⟨rfl, ⟨nd, rfl⟩⟩))
        go_ret
        exact ⟨by first | rfl | (simp [errW_none, errW_some] <;> rfl) | (simp [*, errW_none, errW_some] <;> rfl), by repeat (first | (with_reducible first | exact HB.out | apply below_alloc | apply pw_below_drewN | apply below_drew1 | refine below_set ?_ GE183.out | refine below_set ?_ GE184.out) | exact HB.out)⟩
      · rw [if_neg c5] at H
        have c5b0 : (a0_2 == a1_2) = false := beq_eq_false_iff_ne.mpr c5
        have c5b1 : (a0_2 != a1_2) = true := bne_iff_ne.mpr c5
        obtain rfl := Option.some.inj H
        go_enter Try.func19, Try.ntmps19
        go_wp2_with (first | ((with_reducible refine gate_dst (N := 2) rfl ?_); refine box_event ?hg (N := 2) ?hd (cs := #[.int .u8 a0_0, .int .u8 a0_1, .int .i64 a0_2, .slice A0_3 l0_3.length c0_3]) (t := 24) ?hr ?_; (case hd => rfl); (case hg => rfl); (case hr => first | (go_simp; done) | (go_simp; rfl)); intro gb183 hg w12 hbox hb; have n0_ := Aside0.mk (below_step (by repeat (first | (with_reducible first | exact HB.out | apply below_alloc | apply pw_below_drewN | apply below_drew1) | exact HB.out)) hb); have n1_ := Aside0.mk (hbox); have n2_ := Aside0.mk ((by rw [hg]; exact (below_size (by repeat (first | (with_reducible first | exact HB.out | apply below_alloc | apply pw_below_drewN | apply below_drew1) | exact HB.out))) : w.heap.size ≤ gb183)); have n3_ := Aside0.mk ((by rw [hg]; exact (below_size (by repeat (first | (with_reducible first | exact HB.out | apply below_alloc | apply pw_below_drewN | apply below_drew1) | exact HB.out))) : w.heap.size ≤ gb183)); clear HB; have HB := n0_; have BK183 := n1_; have GW183 := n2_; have GE183 := n3_; clear n0_ n1_ n2_ n3_; clear hb hbox hg) | ((with_reducible refine gate_dst (N := 3) rfl ?_); refine box_event ?hg (N := 3) ?hd (cs := #[.int .u8 a1_0, .int .u8 a1_1, .int .i64 a1_2, .slice A1_3 l1_3.length c1_3]) (t := 24) ?hr ?_; (case hd => rfl); (case hg => rfl); (case hr => first | (go_simp; done) | (go_simp; rfl)); intro gb184 hg w13 hbox hb; have n0_ := Aside0.mk (blk_below (g := gb183) (o := .cells #[.int .u8 a0_0, .int .u8 a0_1, .int .i64 a0_2, .slice A0_3 l0_3.length c0_3] 24 (0, 0)) (by (with_reducible repeat (first | refine blk_drewN ?_ _ | refine blk_drew ?_ | refine blk_alloc ?_ _)); exact BK183.out) hb); have n1_ := Aside0.mk (below_step (by repeat (first | (with_reducible first | exact HB.out | apply below_alloc | apply pw_below_drewN | apply below_drew1 | refine below_set ?_ GE183.out) | exact HB.out)) hb); have n2_ := Aside0.mk (hbox); have n3_ := Aside0.mk ((by rw [hg]; exact (below_size (by repeat (first | (with_reducible first | exact HB.out | apply below_alloc | apply pw_below_drewN | apply below_drew1 | refine below_set ?_ GE183.out) | exact HB.out))) : w.heap.size ≤ gb184)); have n4_ := Aside0.mk ((by rw [hg]; exact (below_size (by repeat (first | (with_reducible first | exact HB.out | apply below_alloc | apply pw_below_drewN | apply below_drew1 | refine below_set ?_ GE183.out) | exact HB.out))) : w.heap.size ≤ gb184)); have n5_ := Aside0.mk ((by rw [hg]; exact Nat.ne_of_lt (blk_lt (g := gb183) (o := .cells #[.int .u8 a0_0, .int .u8 a0_1, .int .i64 a0_2, .slice A0_3 l0_3.length c0_3] 24 (0, 0)) (by (with_reducible repeat (first | refine blk_drewN ?_ _ | refine blk_drew ?_ | refine blk_alloc ?_ _)); exact BK183.out)) : gb183 ≠ gb184)); have n6_ := Aside0.mk ((by rw [hg]; exact Nat.ne_of_gt (blk_lt (g := gb183) (o := .cells #[.int .u8 a0_0, .int .u8 a0_1, .int .i64 a0_2, .slice A0_3 l0_3.length c0_3] 24 (0, 0)) (by (with_reducible repeat (first | refine blk_drewN ?_ _ | refine blk_drew ?_ | refine blk_alloc ?_ _)); exact BK183.out)) : gb184 ≠ gb183)); clear BK183; clear HB; have BK183 := n0_; have HB := n1_; have BK184 := n2_; have GW184 := n3_; have GE184 := n4_; have NB183_184 := n5_; have NB184_183 := n6_; clear n0_ n1_ n2_ n3_ n4_ n5_ n6_; clear hb hbox hg; have hnb14 := NB183_184.out; have hnc14 := NB184_183.out; have hcz15_0 : w13.cell? ⟨gb183, 0, none⟩ = some (.int .u8 a0_0) := (blk_cell BK183.out 0).trans rfl; have hcz15_1 : w13.cell? ⟨gb183, 1, none⟩ = some (.int .u8 a0_1) := (blk_cell BK183.out 1).trans rfl; have hcz15_2 : w13.cell? ⟨gb183, 2, none⟩ = some (.int .i64 a0_2) := (blk_cell BK183.out 2).trans rfl; have hcz15_3 : w13.cell? ⟨gb183, 3, none⟩ = some (.slice A0_3 l0_3.length c0_3) := (blk_cell BK183.out 3).trans rfl; have hfz15_0 := blk_frozen BK183.out 0; have hfz15_1 := blk_frozen BK183.out 1; have hfz15_2 := blk_frozen BK183.out 2; have hfz15_3 := blk_frozen BK183.out 3; have hcz16_0 : w13.cell? ⟨gb184, 0, none⟩ = some (.int .u8 a1_0) := (blk_cell BK184.out 0).trans rfl; have hcz16_1 : w13.cell? ⟨gb184, 1, none⟩ = some (.int .u8 a1_1) := (blk_cell BK184.out 1).trans rfl; have hcz16_2 : w13.cell? ⟨gb184, 2, none⟩ = some (.int .i64 a1_2) := (blk_cell BK184.out 2).trans rfl; have hcz16_3 : w13.cell? ⟨gb184, 3, none⟩ = some (.slice A1_3 l1_3.length c1_3) := (blk_cell BK184.out 3).trans rfl; have hfz16_0 := blk_frozen BK184.out 0; have hfz16_1 := blk_frozen BK184.out 1; have hfz16_2 := blk_frozen BK184.out 2; have hfz16_3 := blk_frozen BK184.out 3))
        go_ret
        exact ⟨by first | rfl | (simp [errW_none, errW_some] <;> rfl) | (simp [*, errW_none, errW_some] <;> rfl), by repeat (first | (with_reducible first | exact HB.out | apply below_alloc | apply pw_below_drewN | apply below_drew1 | refine below_set ?_ GE183.out | refine below_set ?_ GE184.out) | exact HB.out)⟩
    · rw [if_neg c4] at H
      have c4b0 : (a0_1 == a1_1) = false := beq_eq_false_iff_ne.mpr c4
      have c4b1 : (a0_1 != a1_1) = true := bne_iff_ne.mpr c4
      obtain rfl := Option.some.inj H
      go_enter Try.func19, Try.ntmps19
      go_wp2_with (first | ((with_reducible refine gate_dst (N := 2) rfl ?_); refine box_event ?hg (N := 2) ?hd (cs := #[.int .u8 a0_0, .int .u8 a0_1, .int .i64 a0_2, .slice A0_3 l0_3.length c0_3]) (t := 24) ?hr ?_; (case hd => rfl); (case hg => rfl); (case hr => first | (go_simp; done) | (go_simp; rfl)); intro gb183 hg w17 hbox hb; have n0_ := Aside0.mk (below_step (by repeat (first | (with_reducible first | exact HB.out | apply below_alloc | apply pw_below_drewN | apply below_drew1) | exact HB.out)) hb); have n1_ := Aside0.mk (hbox); have n2_ := Aside0.mk ((by rw [hg]; exact (below_size (by repeat (first | (with_reducible first | exact HB.out | apply below_alloc | apply pw_below_drewN | apply below_drew1) | exact HB.out))) : w.heap.size ≤ gb183)); have n3_ := Aside0.mk ((by rw [hg]; exact (below_size (by repeat (first | (with_reducible first | exact HB.out | apply below_alloc | apply pw_below_drewN | apply below_drew1) | exact HB.out))) : w.heap.size ≤ gb183)); clear HB; have HB := n0_; have BK183 := n1_; have GW183 := n2_; have GE183 := n3_; clear n0_ n1_ n2_ n3_; clear hb hbox hg) | ((with_reducible refine gate_dst (N := 3) rfl ?_); refine box_event ?hg (N := 3) ?hd (cs := #[.int .u8 a1_0, .int .u8 a1_1, .int .i64 a1_2, .slice A1_3 l1_3.length c1_3]) (t := 24) ?hr ?_; (case hd => rfl); (case hg => rfl); (case hr => first | (go_simp; done) | (go_simp; rfl)); intro gb184 hg w18 hbox hb; have n0_ := Aside0.mk (blk_below (g := gb183) (o := .cells #[.int .u8 a0_0, .int .u8 a0_1, .int .i64 a0_2, .slice A0_3 l0_3.length c0_3] 24 (0, 0)) (by (with_reducible repeat (first | refine blk_drewN ?_ _ | refine blk_drew ?_ | refine blk_alloc ?_ _)); exact BK183.out) hb); have n1_ := Aside0.mk (below_step (by repeat (first | (with_reducible first | exact HB.out | apply below_alloc | apply pw_below_drewN | apply below_drew1 | refine below_set ?_ GE183.out) | exact HB.out)) hb); have n2_ := Aside0.mk (hbox); have n3_ := Aside0.mk ((by rw [hg]; exact (below_size (by repeat (first | (with_reducible first | exact HB.out | apply below_alloc | apply pw_below_drewN | apply below_drew1 | refine below_set ?_ GE183.out) | exact HB.out))) : w.heap.size ≤ gb184)); have n4_ := Aside0.mk ((by rw [hg]; exact (below_size (by repeat (first | (with_reducible first | exact HB.out | apply below_alloc | apply pw_below_drewN | apply below_drew1 | refine below_set ?_ GE183.out) | exact HB.out))) : w.heap.size ≤ gb184)); have n5_ := Aside0.mk ((by rw [hg]; exact Nat.ne_of_lt (blk_lt (g := gb183) (o := .cells #[.int .u8 a0_0, .int .u8 a0_1, .int .i64 a0_2, .slice A0_3 l0_3.length c0_3] 24 (0, 0)) (by (with_reducible repeat (first | refine blk_drewN ?_ _ | refine blk_drew ?_ | refine blk_alloc ?_ _)); exact BK183.out)) : gb183 ≠ gb184)); have n6_ := Aside0.mk ((by rw [hg]; exact Nat.ne_of_gt (blk_lt (g := gb183) (o := .cells #[.int .u8 a0_0, .int .u8 a0_1, .int .i64 a0_2, .slice A0_3 l0_3.length c0_3] 24 (0, 0)) (by (with_reducible repeat (first | refine blk_drewN ?_ _ | refine blk_drew ?_ | refine blk_alloc ?_ _)); exact BK183.out)) : gb184 ≠ gb183)); clear BK183; clear HB; have BK183 := n0_; have HB := n1_; have BK184 := n2_; have GW184 := n3_; have GE184 := n4_; have NB183_184 := n5_; have NB184_183 := n6_; clear n0_ n1_ n2_ n3_ n4_ n5_ n6_; clear hb hbox hg; have hnb19 := NB183_184.out; have hnc19 := NB184_183.out; have hcz20_0 : w18.cell? ⟨gb183, 0, none⟩ = some (.int .u8 a0_0) := (blk_cell BK183.out 0).trans rfl; have hcz20_1 : w18.cell? ⟨gb183, 1, none⟩ = some (.int .u8 a0_1) := (blk_cell BK183.out 1).trans rfl; have hcz20_2 : w18.cell? ⟨gb183, 2, none⟩ = some (.int .i64 a0_2) := (blk_cell BK183.out 2).trans rfl; have hcz20_3 : w18.cell? ⟨gb183, 3, none⟩ = some (.slice A0_3 l0_3.length c0_3) := (blk_cell BK183.out 3).trans rfl; have hfz20_0 := blk_frozen BK183.out 0; have hfz20_1 := blk_frozen BK183.out 1; have hfz20_2 := blk_frozen BK183.out 2; have hfz20_3 := blk_frozen BK183.out 3; have hcz21_0 : w18.cell? ⟨gb184, 0, none⟩ = some (.int .u8 a1_0) := (blk_cell BK184.out 0).trans rfl; have hcz21_1 : w18.cell? ⟨gb184, 1, none⟩ = some (.int .u8 a1_1) := (blk_cell BK184.out 1).trans rfl; have hcz21_2 : w18.cell? ⟨gb184, 2, none⟩ = some (.int .i64 a1_2) := (blk_cell BK184.out 2).trans rfl; have hcz21_3 : w18.cell? ⟨gb184, 3, none⟩ = some (.slice A1_3 l1_3.length c1_3) := (blk_cell BK184.out 3).trans rfl; have hfz21_0 := blk_frozen BK184.out 0; have hfz21_1 := blk_frozen BK184.out 1; have hfz21_2 := blk_frozen BK184.out 2; have hfz21_3 := blk_frozen BK184.out 3))
      go_ret
      exact ⟨by first | rfl | (simp [errW_none, errW_some] <;> rfl) | (simp [*, errW_none, errW_some] <;> rfl), by repeat (first | (with_reducible first | exact HB.out | apply below_alloc | apply pw_below_drewN | apply below_drew1 | refine below_set ?_ GE183.out | refine below_set ?_ GE184.out) | exact HB.out)⟩
  · rw [if_neg c3] at H
    have c3b0 : (a0_0 == a1_0) = false := beq_eq_false_iff_ne.mpr c3
    have c3b1 : (a0_0 != a1_0) = true := bne_iff_ne.mpr c3
    obtain rfl := Option.some.inj H
    go_enter Try.func19, Try.ntmps19
    go_wp2_with (first | ((with_reducible refine gate_dst (N := 2) rfl ?_); refine box_event ?hg (N := 2) ?hd (cs := #[.int .u8 a0_0, .int .u8 a0_1, .int .i64 a0_2, .slice A0_3 l0_3.length c0_3]) (t := 24) ?hr ?_; (case hd => rfl); (case hg => rfl); (case hr => first | (go_simp; done) | (go_simp; rfl)); intro gb183 hg w22 hbox hb; have n0_ := Aside0.mk (below_step (by repeat (first | (with_reducible first | exact HB.out | apply below_alloc | apply pw_below_drewN | apply below_drew1) | exact HB.out)) hb); have n1_ := Aside0.mk (hbox); have n2_ := Aside0.mk ((by rw [hg]; exact (below_size (by repeat (first | (with_reducible first | exact HB.out | apply below_alloc | apply pw_below_drewN | apply below_drew1) | exact HB.out))) : w.heap.size ≤ gb183)); have n3_ := Aside0.mk ((by rw [hg]; exact (below_size (by repeat (first | (with_reducible first | exact HB.out | apply below_alloc | apply pw_below_drewN | apply below_drew1) | exact HB.out))) : w.heap.size ≤ gb183)); clear HB; have HB := n0_; have BK183 := n1_; have GW183 := n2_; have GE183 := n3_; clear n0_ n1_ n2_ n3_; clear hb hbox hg) | ((with_reducible refine gate_dst (N := 3) rfl ?_); refine box_event ?hg (N := 3) ?hd (cs := #[.int .u8 a1_0, .int .u8 a1_1, .int .i64 a1_2, .slice A1_3 l1_3.length c1_3]) (t := 24) ?hr ?_; (case hd => rfl); (case hg => rfl); (case hr => first | (go_simp; done) | (go_simp; rfl)); intro gb184 hg w23 hbox hb; have n0_ := Aside0.mk (blk_below (g := gb183) (o := .cells #[.int .u8 a0_0, .int .u8 a0_1, .int .i64 a0_2, .slice A0_3 l0_3.length c0_3] 24 (0, 0)) (by (with_reducible repeat (first | refine blk_drewN ?_ _ | refine blk_drew ?_ | refine blk_alloc ?_ _)); exact BK183.out) hb); have n1_ := Aside0.mk (below_step (by repeat (first | (with_reducible first | exact HB.out | apply below_alloc | apply pw_below_drewN | apply below_drew1 | refine below_set ?_ GE183.out) | exact HB.out)) hb); have n2_ := Aside0.mk (hbox); have n3_ := Aside0.mk ((by rw [hg]; exact (below_size (by repeat (first | (with_reducible first | exact HB.out | apply below_alloc | apply pw_below_drewN | apply below_drew1 | refine below_set ?_ GE183.out) | exact HB.out))) : w.heap.size ≤ gb184)); have n4_ := Aside0.mk ((by rw [hg]; exact (below_size (by repeat (first | (with_reducible first | exact HB.out | apply below_alloc | apply pw_below_drewN | apply below_drew1 | refine below_set ?_ GE183.out) | exact HB.out))) : w.heap.size ≤ gb184)); have n5_ := Aside0.mk ((by rw [hg]; exact Nat.ne_of_lt (blk_lt (g := gb183) (o := .cells #[.int .u8 a0_0, .int .u8 a0_1, .int .i64 a0_2, .slice A0_3 l0_3.length c0_3] 24 (0, 0)) (by (with_reducible repeat (first | refine blk_drewN ?_ _ | refine blk_drew ?_ | refine blk_alloc ?_ _)); exact BK183.out)) : gb183 ≠ gb184)); have n6_ := Aside0.mk ((by rw [hg]; exact Nat.ne_of_gt (blk_lt (g := gb183) (o := .cells #[.int .u8 a0_0, .int .u8 a0_1, .int .i64 a0_2, .slice A0_3 l0_3.length c0_3] 24 (0, 0)) (by (with_reducible repeat (first | refine blk_drewN ?_ _ | refine blk_drew ?_ | refine blk_alloc ?_ _)); exact BK183.out)) : gb184 ≠ gb183)); clear BK183; clear HB; have BK183 := n0_; have HB := n1_; have BK184 := n2_; have GW184 := n3_; have GE184 := n4_; have NB183_184 := n5_; have NB184_183 := n6_; clear n0_ n1_ n2_ n3_ n4_ n5_ n6_; clear hb hbox hg; have hnb24 := NB183_184.out; have hnc24 := NB184_183.out; have hcz25_0 : w23.cell? ⟨gb183, 0, none⟩ = some (.int .u8 a0_0) := (blk_cell BK183.out 0).trans rfl; have hcz25_1 : w23.cell? ⟨gb183, 1, none⟩ = some (.int .u8 a0_1) := (blk_cell BK183.out 1).trans rfl; have hcz25_2 : w23.cell? ⟨gb183, 2, none⟩ = some (.int .i64 a0_2) := (blk_cell BK183.out 2).trans rfl; have hcz25_3 : w23.cell? ⟨gb183, 3, none⟩ = some (.slice A0_3 l0_3.length c0_3) := (blk_cell BK183.out 3).trans rfl; have hfz25_0 := blk_frozen BK183.out 0; have hfz25_1 := blk_frozen BK183.out 1; have hfz25_2 := blk_frozen BK183.out 2; have hfz25_3 := blk_frozen BK183.out 3; have hcz26_0 : w23.cell? ⟨gb184, 0, none⟩ = some (.int .u8 a1_0) := (blk_cell BK184.out 0).trans rfl; have hcz26_1 : w23.cell? ⟨gb184, 1, none⟩ = some (.int .u8 a1_1) := (blk_cell BK184.out 1).trans rfl; have hcz26_2 : w23.cell? ⟨gb184, 2, none⟩ = some (.int .i64 a1_2) := (blk_cell BK184.out 2).trans rfl; have hcz26_3 : w23.cell? ⟨gb184, 3, none⟩ = some (.slice A1_3 l1_3.length c1_3) := (blk_cell BK184.out 3).trans rfl; have hfz26_0 := blk_frozen BK184.out 0; have hfz26_1 := blk_frozen BK184.out 1; have hfz26_2 := blk_frozen BK184.out 2; have hfz26_3 := blk_frozen BK184.out 3))
    go_ret
    exact ⟨by first | rfl | (simp [errW_none, errW_some] <;> rfl) | (simp [*, errW_none, errW_some] <;> rfl), by repeat (first | (with_reducible first | exact HB.out | apply below_alloc | apply pw_below_drewN | apply below_drew1 | refine below_set ?_ GE183.out | refine below_set ?_ GE184.out) | exact HB.out)⟩

end Go.Proofs.Ytdoeclpbobjgdaa.K
end
section
-- Written for this claim by this session's own wip/hook.py (it runs the kit's print and takes some functions' contracts as given texts of this session's).
namespace Go.Proofs.Ytdoeclpbobjgdaa.K
open Go.RowKit Go.Proofs.YtdoeclpbobjgdaaW.PrintWords Go.Proofs.YtdoeclpbobjgdaaW.PrintLast Go.Proofs.YtdoeclpbobjgdaaW.PrintMore
attribute [local go_sem] max2_int min2_int max_two min_two max_three min_three max_four min_four   -- for this text's walks alone
set_option linter.unusedVariables false
set_option linter.unusedSimpArgs false

/-! ### reedpiperef10_Twin: function 9 -/
def reedpiperef10_Twin.f (a0_0 : Int) (a0_1 : Int) (a0_2 : Int) (l0_3 : List Int) : Option (Int × Int × Int × List Int) := if ([] : List Int).length + l0_3.length < 17592186044416 then (some (a0_0, a0_1, a0_2, (([] : List Int) ++ l0_3))) else (none)
set_option maxHeartbeats 8000000 in
set_option maxRecDepth 100000 in
theorem reedpiperef10_Twin.calls (a0_0 : Int) (a0_1 : Int) (a0_2 : Int) (A0_3 : Option Addr) (c0_3 : Nat) (l0_3 : List Int) (r1 : Int) (r2 : Int) (r3 : Int) (r4 : List Int) (w : World) (hr0_3 : Kd.C (Kd.int .i64) w A0_3 l0_3.length l0_3) (hc0_3 : l0_3.length ≤ c0_3) (h : reedpiperef10_Twin.f a0_0 a0_1 a0_2 l0_3 = some (r1, r2, r3, r4)) :
    Calls Try.prog 9 #[.agg #[.int .u8 a0_0, .int .u8 a0_1, .int .i64 a0_2, .slice A0_3 l0_3.length c0_3]] w fun e w' => ∃ v3_ : Value, e = .returned (.agg #[.int .u8 r1, .int .u8 r2, .int .i64 r3, v3_]) ∧ Kd.R (Kd.int .i64) 3 w' w.heap.size (fun _ => True) v3_ r4 ∧ Below w.heap.size w w' := by
  have hu24 := Try.underlying24
  have HR0_3 := Aside0.mk hr0_3
  have HC0_3 := Aside0.mk hc0_3
  clear hr0_3 hc0_3
  have HB := Aside0.mk (Below.refl w.heap.size w)
  have H : (if ([] : List Int).length + l0_3.length < 17592186044416 then (some (a0_0, a0_1, a0_2, (([] : List Int) ++ l0_3))) else (none)) = some (r1, r2, r3, r4) := h
  clear h
  by_cases c2 : ([] : List Int).length + l0_3.length < 17592186044416
  · rw [if_pos c2] at H
    have LMc2 := Aside0.mk c2
    clear c2
    obtain ⟨y106, hy106⟩ : ∃ y_ : List Int, y_ = (([] : List Int) ++ l0_3) := ⟨_, rfl⟩
    replace H : (some (a0_0, a0_1, a0_2, y106)) = some (r1, r2, r3, r4) := by first | (rw [hy106]; with_reducible exact H) | (have H2_ := (Option.bind_some _ _).symm.trans H; rw [hy106]; with_reducible exact H2_) | (have H2_ := (Option.bind_some _ _).symm.trans H; with_reducible exact H2_) | with_reducible exact H | (rw [hy106]; exact H) | exact H
    have Ny106 := Aside0.mk hy106
    clear hy106
    simp only [Option.some.injEq, Prod.mk.injEq] at H
    obtain ⟨rfl, rfl, rfl, rfl⟩ := H
    go_enter Try.func9, Try.ntmps9
    go_wp2_with (first | ((with_reducible refine gate_dst (N := 1) rfl ?_); refine box_event ?hg (N := 1) ?hd (cs := #[.int .u8 a0_0, .int .u8 a0_1, .int .i64 a0_2, .slice A0_3 l0_3.length c0_3]) (t := 24) ?hr ?_; (case hd => rfl); (case hg => rfl); (case hr => first | (go_simp; done) | (go_simp; rfl)); intro gb104 hg w3 hbox hb; have n0_ := Aside0.mk (below_step (by repeat (first | (with_reducible first | exact HB.out | apply below_alloc | apply pw_below_drewN | apply below_drew1) | exact HB.out)) hb); have n1_ := Aside0.mk (hbox); have n2_ := Aside0.mk ((by rw [hg]; exact (below_size (by repeat (first | (with_reducible first | exact HB.out | apply below_alloc | apply pw_below_drewN | apply below_drew1) | exact HB.out))) : w.heap.size ≤ gb104)); have n3_ := Aside0.mk ((by rw [hg]; exact (below_size (by repeat (first | (with_reducible first | exact HB.out | apply below_alloc | apply pw_below_drewN | apply below_drew1) | exact HB.out))) : w.heap.size ≤ gb104)); clear HB; have HB := n0_; have BK104 := n1_; have GW104 := n2_; have GE104 := n3_; clear n0_ n1_ n2_ n3_; clear hb hbox hg) | ((with_reducible refine gate_dst (N := 2) rfl ?_); refine box_event ?hg (N := 2) ?hd (cs := #[.int .u8 0, .int .u8 0, .int .i64 0, .slice none 0 0]) (t := 24) ?hr ?_; (case hd => rfl); (case hg => rfl); (case hr => first | (go_simp; done) | (go_simp; rfl)); intro gb105 hg w4 hbox hb; have n0_ := Aside0.mk (blk_below (g := gb104) (o := .cells #[.int .u8 a0_0, .int .u8 a0_1, .int .i64 a0_2, .slice A0_3 l0_3.length c0_3] 24 (0, 0)) (by (with_reducible repeat (first | refine blk_drewN ?_ _ | refine blk_drew ?_ | refine blk_alloc ?_ _)); exact BK104.out) hb); have n1_ := Aside0.mk (below_step (by repeat (first | (with_reducible first | exact HB.out | apply below_alloc | apply pw_below_drewN | apply below_drew1 | refine below_set ?_ GE104.out) | exact HB.out)) hb); have n2_ := Aside0.mk (hbox); have n3_ := Aside0.mk ((by rw [hg]; exact (below_size (by repeat (first | (with_reducible first | exact HB.out | apply below_alloc | apply pw_below_drewN | apply below_drew1 | refine below_set ?_ GE104.out) | exact HB.out))) : w.heap.size ≤ gb105)); have n4_ := Aside0.mk ((by rw [hg]; exact (below_size (by repeat (first | (with_reducible first | exact HB.out | apply below_alloc | apply pw_below_drewN | apply below_drew1 | refine below_set ?_ GE104.out) | exact HB.out))) : w.heap.size ≤ gb105)); have n5_ := Aside0.mk ((by rw [hg]; exact Nat.ne_of_lt (blk_lt (g := gb104) (o := .cells #[.int .u8 a0_0, .int .u8 a0_1, .int .i64 a0_2, .slice A0_3 l0_3.length c0_3] 24 (0, 0)) (by (with_reducible repeat (first | refine blk_drewN ?_ _ | refine blk_drew ?_ | refine blk_alloc ?_ _)); exact BK104.out)) : gb104 ≠ gb105)); have n6_ := Aside0.mk ((by rw [hg]; exact Nat.ne_of_gt (blk_lt (g := gb104) (o := .cells #[.int .u8 a0_0, .int .u8 a0_1, .int .i64 a0_2, .slice A0_3 l0_3.length c0_3] 24 (0, 0)) (by (with_reducible repeat (first | refine blk_drewN ?_ _ | refine blk_drew ?_ | refine blk_alloc ?_ _)); exact BK104.out)) : gb105 ≠ gb104)); clear BK104; clear HB; have BK104 := n0_; have HB := n1_; have BK105 := n2_; have GW105 := n3_; have GE105 := n4_; have NB104_105 := n5_; have NB105_104 := n6_; clear n0_ n1_ n2_ n3_ n4_ n5_ n6_; clear hb hbox hg; have hnb5 := NB104_105.out; have hnc5 := NB105_104.out; have hcz6_0 : w4.cell? ⟨gb104, 0, none⟩ = some (.int .u8 a0_0) := (blk_cell BK104.out 0).trans rfl; have hcz6_1 : w4.cell? ⟨gb104, 1, none⟩ = some (.int .u8 a0_1) := (blk_cell BK104.out 1).trans rfl; have hcz6_2 : w4.cell? ⟨gb104, 2, none⟩ = some (.int .i64 a0_2) := (blk_cell BK104.out 2).trans rfl; have hcz6_3 : w4.cell? ⟨gb104, 3, none⟩ = some (.slice A0_3 l0_3.length c0_3) := (blk_cell BK104.out 3).trans rfl; have hfz6_0 := blk_frozen BK104.out 0; have hfz6_1 := blk_frozen BK104.out 1; have hfz6_2 := blk_frozen BK104.out 2; have hfz6_3 := blk_frozen BK104.out 3) | ((with_reducible refine gate_builtin (b := .append) (xs := #[.tmp 4, .tmp 6]) rfl ?_); at_builtin; refine Kd.R_append_rows (Kd.int .i64) (w0 := w) w.heap.size rfl (.tmp 4) (.tmp 6) 22 3 (.int .i64 0) 8 rfl Try.underlying22 info3 rfl (by decide) (by omega) (.slice none 0 0) ([] : List Int) l0_3 _ _ _ (fun _ => True) (fun _ => False) rfl rfl ?aO ?aR (fun _ _ h => h) (fun _ h => h.elim) ?aF ?aB ?aS ?aL ?_; (case aR => repeat (first | exact (Kd.C_below HR0_3.out HB.out) | (with_reducible refine Kd.C_alloc ?_ _) | (with_reducible refine Kd.C_drewN ?_ _) | (with_reducible refine Kd.C_drew ?_))); (case aB => exact (by repeat (first | (with_reducible first | exact HB.out | apply below_alloc | apply pw_below_drewN | apply below_drew1 | refine below_set ?_ GE104.out | refine below_set ?_ GE105.out) | exact HB.out))); (case aF => exact (fun _ _ => trivial)); (case aO => exact ((Kd.R_nil _ _ _ _ (fun _ => True)))); (case aS => exact (below_size (by repeat (first | (with_reducible first | exact HB.out | apply below_alloc | apply pw_below_drewN | apply below_drew1 | refine below_set ?_ GE104.out | refine below_set ?_ GE105.out) | exact HB.out)))); (case aL => have := LMc2.out; omega); intro v107 w7 ho hb hg hat; rw [← Ny106.out] at ho; have n0_ := Aside0.mk (blk_grown (g := gb104) (o := .cells #[.int .u8 a0_0, .int .u8 a0_1, .int .i64 a0_2, .slice A0_3 l0_3.length c0_3] 24 (0, 0)) (by (with_reducible repeat (first | refine blk_drewN ?_ _ | refine blk_drew ?_ | refine blk_alloc ?_ _)); exact BK104.out) hg (by simp [Value.ownBlock])); have n1_ := Aside0.mk (blk_grown (g := gb105) (o := .cells #[.int .u8 0, .int .u8 0, .int .i64 0, .slice none 0 0] 24 (0, 0)) (by (with_reducible repeat (first | refine blk_drewN ?_ _ | refine blk_drew ?_ | refine blk_alloc ?_ _)); exact BK105.out) hg (by simp [Value.ownBlock])); have n2_ := Aside0.mk (hb); have n3_ := Aside0.mk (ho); clear BK104; clear BK105; clear HB; have BK104 := n0_; have BK105 := n1_; have HB := n2_; have HO108 := n3_; clear n0_ n1_ n2_ n3_; clear ho hb hg hat; obtain ⟨Ao8, co8, eo8⟩ := Kd.R_slice HO108.out; subst eo8; have hcz9_0 : w7.cell? ⟨gb104, 0, none⟩ = some (.int .u8 a0_0) := (blk_cell BK104.out 0).trans rfl; have hcz9_1 : w7.cell? ⟨gb104, 1, none⟩ = some (.int .u8 a0_1) := (blk_cell BK104.out 1).trans rfl; have hcz9_2 : w7.cell? ⟨gb104, 2, none⟩ = some (.int .i64 a0_2) := (blk_cell BK104.out 2).trans rfl; have hcz9_3 : w7.cell? ⟨gb104, 3, none⟩ = some (.slice A0_3 l0_3.length c0_3) := (blk_cell BK104.out 3).trans rfl; have hfz9_0 := blk_frozen BK104.out 0; have hfz9_1 := blk_frozen BK104.out 1; have hfz9_2 := blk_frozen BK104.out 2; have hfz9_3 := blk_frozen BK104.out 3; have hcz10_0 : w7.cell? ⟨gb105, 0, none⟩ = some (.int .u8 0) := (blk_cell BK105.out 0).trans rfl; have hcz10_1 : w7.cell? ⟨gb105, 1, none⟩ = some (.int .u8 0) := (blk_cell BK105.out 1).trans rfl; have hcz10_2 : w7.cell? ⟨gb105, 2, none⟩ = some (.int .i64 0) := (blk_cell BK105.out 2).trans rfl; have hcz10_3 : w7.cell? ⟨gb105, 3, none⟩ = some (.slice none 0 0) := (blk_cell BK105.out 3).trans rfl; have hfz10_0 := blk_frozen BK105.out 0; have hfz10_1 := blk_frozen BK105.out 1; have hfz10_2 := blk_frozen BK105.out 2; have hfz10_3 := blk_frozen BK105.out 3))
    refine bodyPost_ret (results_cell_row rfl _ _ gb105 24 #[.int .u8 a0_0, .int .u8 a0_1, .int .i64 a0_2, .slice Ao8 y106.length co8] (0, 0) _ rfl (by (with_reducible repeat (first | refine blk_drewN ?_ _ | refine blk_drew ?_ | refine blk_alloc ?_ _)); refine blk_put (cs := #[.int .u8 a0_0, .int .u8 a0_1, .int .i64 a0_2, .slice none 0 0]) ?_ 3 _ rfl; (with_reducible repeat (first | refine blk_drewN ?_ _ | refine blk_drew ?_ | refine blk_alloc ?_ _)); refine blk_put (cs := #[.int .u8 a0_0, .int .u8 a0_1, .int .i64 0, .slice none 0 0]) ?_ 2 _ rfl; (with_reducible repeat (first | refine blk_drewN ?_ _ | refine blk_drew ?_ | refine blk_alloc ?_ _)); refine blk_put (cs := #[.int .u8 a0_0, .int .u8 0, .int .i64 0, .slice none 0 0]) ?_ 1 _ rfl; (with_reducible repeat (first | refine blk_drewN ?_ _ | refine blk_drew ?_ | refine blk_alloc ?_ _)); refine blk_put (cs := #[.int .u8 0, .int .u8 0, .int .i64 0, .slice none 0 0]) ?_ 0 _ rfl; (with_reducible repeat (first | refine blk_drewN ?_ _ | refine blk_drew ?_ | refine blk_alloc ?_ _)); refine blk_far ?_ NB105_104.out _; (with_reducible repeat (first | refine blk_drewN ?_ _ | refine blk_drew ?_ | refine blk_alloc ?_ _)); exact BK105.out) Try.underlying24 rfl (by kernel_rfl)) rfl ?_
    exact ⟨_, by first | rfl | (simp [errW_none, errW_some] <;> rfl) | (simp [*, errW_none, errW_some] <;> rfl), by (with_reducible repeat (first | apply Kd.R_alloc | apply Kd.R_drewN | apply Kd.R_drew)); exact Kd.R_mono (Kd.R_far (p := ⟨gb105, 3, none⟩) (Kd.R_far (p := ⟨gb105, 2, none⟩) (Kd.R_far (p := ⟨gb105, 1, none⟩) (Kd.R_far (p := ⟨gb105, 0, none⟩) (Kd.R_far (p := ⟨gb104, 3, none⟩) (Kd.R_types (Kd.R_types HO108.out BK104.out (by decide)) BK105.out (by decide)) (fun _ hk => hk.1.2) (.slice Ao8 y106.length co8)) (fun _ hk => hk.2) (.int .u8 a0_0)) (fun _ hk => hk.2) (.int .u8 a0_1)) (fun _ hk => hk.2) (.int .i64 a0_2)) (fun _ hk => hk.2) (.slice Ao8 y106.length co8)) (fun _ hk => trivial), by repeat (first | (with_reducible first | exact HB.out | apply below_alloc | apply pw_below_drewN | apply below_drew1 | refine below_set ?_ GE104.out | refine below_set ?_ GE105.out) | exact HB.out)⟩
  · rw [if_neg c2] at H
    exact absurd H (by simp)

end Go.Proofs.Ytdoeclpbobjgdaa.K
end
section
/- What the reference's printed functions of windows tell, without rounds. -/
namespace Go.Proofs.Ytdoeclpbobjgdaa.SP
open Go.RowKit Go.Proofs.YtdoeclpbobjgdaaW.PrintWords Go.Proofs.YtdoeclpbobjgdaaW.PrintLast Go.Proofs.YtdoeclpbobjgdaaW.PrintMore Go.Proofs.Ytdoeclpbobjgdaa.HA Go.Proofs.Ytdoeclpbobjgdaa.HP Go.Proofs.Ytdoeclpbobjgdaa.K
set_option linter.unusedVariables false

theorem refOffsets_few : ∀ r : Fin 12, ∀ s : Bool, reedpiperef06_Offsets.f 70 (r.val : Int) s = some (bandOffsets (r.val : Int) s) := by decide +kernel
theorem refOffsets_f (rate : Int) (s : Bool) (h0 : 0 ≤ rate) (h1 : rate ≤ 11) (k : Nat) (hk : 70 ≤ k) : reedpiperef06_Offsets.f k rate s = some (bandOffsets rate s) := by
  have h := refOffsets_few ⟨rate.toNat, by omega⟩ s
  simp only [Int.toNat_of_nonneg h0] at h
  exact at_rounds (g := fun k => reedpiperef06_Offsets.f k rate s) (reedpiperef06_Offsets.mono rate s) hk h
theorem refMany_f (rate : Int) (s : Bool) (k : Nat) (hk : 70 ≤ k) : reedpiperef06_Many.f k rate s = some (manyS rate s) := by
  unfold reedpiperef06_Many.f reedpiperef06_Told.f manyS
  by_cases h : rate < 0
  · rw [if_pos h, if_pos (Or.inl h)]
    rfl
  · rw [if_neg h]
    by_cases h2 : rate > 11
    · rw [if_pos h2, if_pos (Or.inr h2)]
      rfl
    · rw [if_neg h2, if_neg (by omega), refOffsets_f rate s (by omega) (by omega) k hk]
      have hl := bandOffsets_length rate s
      simp only [Option.bind_some, if_true]
      rw [wrap_id _ (by omega) (by omega)]
      rfl
theorem may_l0 (gs : List Int) (hb : gs.length ≤ 17592186044416) (a b c : Int) : ∀ (d k i : Nat) (left : Int), gs.length - i = d → i ≤ gs.length → d < k → 0 ≤ left → left ≤ 8 →
    reedpiperef10_May.l0 k left (i : Int) a b c gs = some ((gs.drop i).all (fun g => decide (1 ≤ g) && decide (g ≤ 8)) && ((gs.drop i).sum == left)) := by
  intro d
  induction d with
  | zero =>
    intro k i left hd hi hk h0 h1
    obtain ⟨k, rfl⟩ : ∃ m, k = m + 1 := ⟨k - 1, by omega⟩
    simp only [reedpiperef10_May.l0]
    rw [if_neg (by omega), List.drop_of_length_le (by omega)]
    simp only [List.all_nil, List.sum_nil, Bool.true_and]
    congr 1
    rw [Bool.eq_iff_iff, beq_iff_eq, beq_iff_eq]
    omega
  | succ d ih =>
    intro k i left hd hi hk h0 h1
    obtain ⟨k, rfl⟩ : ∃ m, k = m + 1 := ⟨k - 1, by omega⟩
    simp only [reedpiperef10_May.l0]
    rw [if_pos (by omega), if_pos (by omega), drop_at gs i (by omega)]
    simp only [List.all_cons, List.sum_cons]
    by_cases g1 : rd gs (i : Int) < 1
    · rw [if_pos g1, decide_eq_false (show ¬ 1 ≤ rd gs (i : Int) by omega)]
      simp
    · rw [if_neg g1, decide_eq_true (show 1 ≤ rd gs (i : Int) by omega)]
      by_cases g2 : rd gs (i : Int) > left
      · rw [if_pos g2]
        congr 1
        cases hall : (gs.drop (i + 1)).all (fun g => decide (1 ≤ g) && decide (g ≤ 8)) with
        | false => simp
        | true =>
          have := sum_ge_length _ hall
          rw [show ((rd gs (i : Int) + (gs.drop (i + 1)).sum == left) = false) from beq_eq_false_iff_ne.mpr (by omega)]
          simp
      · rw [if_neg g2, wrap_succ i (by omega), wrap_id (left - rd gs (i : Int)) (by omega) (by omega), ih k (i + 1) _ (by omega) (by omega) (by omega) (by omega) (by omega), decide_eq_true (show rd gs (i : Int) ≤ 8 by omega)]
        congr 1
        simp only [Bool.true_and]
        congr 1
        rw [Bool.eq_iff_iff, beq_iff_eq, beq_iff_eq]
        omega
theorem may_f (rate seq shape max : Int) (gs : List Int) (hb : gs.length ≤ 17592186044416) (h0 : 0 ≤ rate) (h1 : rate ≤ 11) (k : Nat) (hk : gs.length + 80 < k) : reedpiperef10_May.f k rate seq shape max gs = some (infoOk (bandMany rate (seq == 2)) seq shape max gs) := by
  unfold reedpiperef10_May.f
  rw [refMany_f rate (seq == 2) k (by omega)]
  have hm : manyS rate (seq == 2) = (bandMany rate (seq == 2), 0) := by unfold manyS; rw [if_neg (by omega)]
  rw [hm]
  obtain ⟨k, rfl⟩ : ∃ m, k = m + 1 := ⟨k - 1, by omega⟩
  simp only [Option.bind_some, reedpiperef10_May.j0]
  unfold infoOk
  by_cases h1 : seq > 3
  · rw [if_pos h1, decide_eq_false (show ¬ seq ≤ 3 by omega)]
    simp
  · rw [if_neg h1, decide_eq_true (show seq ≤ 3 by omega)]
    by_cases h2 : shape > 1
    · rw [if_pos h2, decide_eq_false (show ¬ shape ≤ 1 by omega)]
      simp
    · rw [if_neg h2, decide_eq_true (show shape ≤ 1 by omega)]
      by_cases h3 : max < 0
      · rw [if_pos h3, decide_eq_false (show ¬ 0 ≤ max by omega)]
        simp
      · rw [if_neg h3, decide_eq_true (show 0 ≤ max by omega)]
        by_cases h4 : max > bandMany rate (seq == 2)
        · rw [decide_eq_true h4, decide_eq_false (show ¬ max ≤ bandMany rate (seq == 2) by omega)]
          simp
        · rw [decide_eq_false h4, decide_eq_true (show max ≤ bandMany rate (seq == 2) by omega)]
          simp only [Bool.false_eq_true, if_false, Bool.true_and]
          by_cases hs : seq = 2
          · rw [if_pos hs, if_pos hs]
            have := may_l0 gs hb seq shape max gs.length k 0 8 (by omega) (by omega) (by omega) (by omega) (by omega)
            simpa [groupsOk] using this
          · rw [if_neg hs, if_neg hs]
            cases gs with
            | nil => simp
            | cons g gs =>
              cases gs with
              | nil => simp [rd]
              | cons g2 gs =>
                rw [if_neg (by simp; omega)]
                simp
theorem refCheck_f (rate seq shape max : Int) (gs : List Int) (hb : gs.length ≤ 17592186044416) (k : Nat) (hk : gs.length + 90 < k) : reedpiperef10_Check.f k rate seq shape max gs = some (checkS rate seq shape max gs) := by
  unfold reedpiperef10_Check.f checkS
  obtain ⟨k, rfl⟩ : ∃ m, k = m + 1 := ⟨k - 1, by omega⟩
  by_cases h : rate < 0
  · rw [if_pos h, if_pos (Or.inl h)]
    simp only [reedpiperef10_Check.j0, if_true]
  · rw [if_neg h]
    by_cases h2 : rate > 11
    · rw [decide_eq_true h2, if_pos (Or.inr h2)]
      simp only [reedpiperef10_Check.j0, if_true]
    · rw [decide_eq_false h2, if_neg (show ¬ (rate < 0 ∨ rate > 11) by omega)]
      simp only [reedpiperef10_Check.j0, Bool.false_eq_true, if_false]
      rw [may_f rate seq shape max gs hb (by omega) (by omega) k (by omega)]
      simp only [Option.bind_some]
      cases infoOk (bandMany rate (seq == 2)) seq shape max gs <;> rfl
theorem some_l0 (seq shape max : Int) (gs : List Int) (hb : gs.length ≤ 17592186044416) : ∀ (d k : Nat) (r : Int), 11 - r = (d : Int) - 1 → 0 ≤ r → gs.length + 100 + d < k →
    reedpiperef10_Some.l0 k r seq shape max gs = some (if r ≤ 11 then someS seq shape max gs else false) := by
  intro d
  induction d with
  | zero =>
    intro k r hd h0 hk
    obtain ⟨k, rfl⟩ : ∃ m, k = m + 1 := ⟨k - 1, by omega⟩
    simp only [reedpiperef10_Some.l0]
    rw [if_neg (by omega), if_neg (by omega)]
  | succ d ih =>
    intro k r hd h0 hk
    obtain ⟨k, rfl⟩ : ∃ m, k = m + 1 := ⟨k - 1, by omega⟩
    simp only [reedpiperef10_Some.l0]
    rw [if_pos (by omega), if_pos (by omega), may_f r seq shape max gs hb h0 (by omega) k (by omega)]
    simp only [Option.bind_some]
    by_cases hm : infoOk (bandMany r (seq == 2)) seq shape max gs = true
    · rw [if_pos hm, infoOk_some h0 (by omega) hm]
    · rw [if_neg hm, wrap_id (r + 1) (by omega) (by omega), ih k (r + 1) (by omega) (by omega) (by omega)]
      by_cases h11 : r + 1 ≤ 11
      · rw [if_pos h11]
      · rw [if_neg h11]
        obtain rfl : r = 11 := by omega
        unfold someS
        simp at hm
        rw [hm]
theorem refSome_f (seq shape max : Int) (gs : List Int) (hb : gs.length ≤ 17592186044416) (k : Nat) (hk : gs.length + 120 < k) : reedpiperef10_Some.f k seq shape max gs = some (someS seq shape max gs) := by
  unfold reedpiperef10_Some.f
  have := some_l0 seq shape max gs hb 12 k 0 (by omega) (by omega) (by omega)
  rw [this, if_pos (by omega)]
theorem refWindows_f (seq shape max : Int) (gs : List Int) (hb : gs.length ≤ 17592186044416) (k : Nat) (hk : gs.length + 120 < k) : reedpiperef10_Windows.f k seq shape max gs = some (windowsS seq shape max gs) := by
  unfold reedpiperef10_Windows.f windowsS reedpiperef10_Many.f
  rw [refSome_f seq shape max gs hb k hk]
  simp only [Option.bind_some]
  split
  · split <;> rfl
  · rfl
/-! ### each window's group -/
def inS : List Int → Nat → List Int
  | [], _ => []
  | g :: gs, j => List.replicate g.toNat (j : Int) ++ inS gs (j + 1)
theorem in_l1 (gs : List Int) (hall : gs.all (fun g => decide (1 ≤ g) && decide (g ≤ 8)) = true) (hb : gs.length ≤ 8) (a b c : Int) : ∀ (e d k i : Nat) (x : Int) (acc : List Int), gs.length - i = e → rd gs (i : Int) - x = d → i < gs.length → 0 ≤ x → 20 * (e - 1) + d + 2 < k → acc.length + d + 8 * (e - 1) ≤ 9000 →
    (∀ k2 acc2, 20 * (e - 1) + 1 < k2 → acc2.length + 8 * (e - 1) ≤ 9000 → reedpiperef10_In.l0 k2 acc2 ((i + 1 : Nat) : Int) a b c gs = some (acc2 ++ inS (gs.drop (i + 1)) (i + 1))) →
    reedpiperef10_In.l1 k acc (i : Int) x a b c gs = some (acc ++ List.replicate d (i : Int) ++ inS (gs.drop (i + 1)) (i + 1)) := by
  intro e d
  induction d with
  | zero =>
    intro k i x acc he hd hi h0 hk hl h2
    obtain ⟨k, rfl⟩ : ∃ m, k = m + 1 := ⟨k - 1, by omega⟩
    simp only [reedpiperef10_In.l1]
    rw [if_pos (by omega), if_pos (by omega), if_neg (by omega), wrap_succ i (by omega), h2 k acc (by omega) (by omega)]
    simp
  | succ d ih =>
    intro k i x acc he hd hi h0 hk hl h2
    obtain ⟨k, rfl⟩ : ∃ m, k = m + 1 := ⟨k - 1, by omega⟩
    have hg : rd gs (i : Int) ≤ 8 := by
      rw [rd_at gs i hi]
      have := List.all_eq_true.1 hall gs[i] (List.getElem_mem hi)
      simp at this
      exact this.2
    simp only [reedpiperef10_In.l1]
    rw [if_pos (by omega), if_pos (by omega), if_pos (by omega), if_pos (by omega), wrap_id (x + 1) (by omega) (by omega), ih k i (x + 1) (acc ++ [(i : Int)]) he (by omega) hi (by omega) (by omega) (by simp; omega) h2]
    simp [List.replicate_succ]
theorem in_l0 (gs : List Int) (hall : gs.all (fun g => decide (1 ≤ g) && decide (g ≤ 8)) = true) (hb : gs.length ≤ 8) (a b c : Int) : ∀ (e k i : Nat) (acc : List Int), gs.length - i = e → i ≤ gs.length → 20 * e + 1 < k → acc.length + 8 * e ≤ 9000 →
    reedpiperef10_In.l0 k acc (i : Int) a b c gs = some (acc ++ inS (gs.drop i) i) := by
  intro e
  induction e with
  | zero =>
    intro k i acc he hi hk hl
    obtain ⟨k, rfl⟩ : ∃ m, k = m + 1 := ⟨k - 1, by omega⟩
    simp only [reedpiperef10_In.l0]
    rw [if_neg (by omega), List.drop_of_length_le (by omega)]
    simp [inS]
  | succ e ih =>
    intro k i acc he hi hk hl
    obtain ⟨k, rfl⟩ : ∃ m, k = m + 1 := ⟨k - 1, by omega⟩
    have hg : 1 ≤ rd gs (i : Int) ∧ rd gs (i : Int) ≤ 8 := by
      rw [rd_at gs i (by omega)]
      have := List.all_eq_true.1 hall gs[i] (List.getElem_mem (by omega))
      simpa using this
    simp only [reedpiperef10_In.l0]
    rw [if_pos (by omega)]
    rw [in_l1 gs hall hb a b c (e + 1) (rd gs (i : Int)).toNat k i 0 acc (by omega) (by omega) (by omega) (by omega) (by omega) (by omega) (fun k2 acc2 hk2 hl2 => ih k2 (i + 1) acc2 (by omega) (by omega) (by omega) (by omega))]
    rw [drop_at gs i (by omega), inS, List.append_assoc]
end Go.Proofs.Ytdoeclpbobjgdaa.SP
end
section
/- The reference's groups, comparisons, copies and what may follow; and that the program's answers are the reference's. -/
namespace Go.Proofs.Ytdoeclpbobjgdaa.SP
open Go.RowKit Go.Proofs.YtdoeclpbobjgdaaW.PrintWords Go.Proofs.YtdoeclpbobjgdaaW.PrintLast Go.Proofs.YtdoeclpbobjgdaaW.PrintMore Go.Proofs.Ytdoeclpbobjgdaa.HA Go.Proofs.Ytdoeclpbobjgdaa.HP Go.Proofs.Ytdoeclpbobjgdaa.K
set_option linter.unusedVariables false

/-- What comes to an answer at two numbers of rounds comes to one answer. -/
theorem det {α : Type} {g : Nat → Option α} (h : ∀ k, LeO (g k) (g (k + 1))) {k k' : Nat} {x y : α} (h1 : g k = some x) (h2 : g k' = some y) : x = y := by
  have a := at_rounds h (Nat.le_max_left k k') h1
  have b := at_rounds h (Nat.le_max_right k k') h2
  rw [a] at b
  exact Option.some.inj b
theorem inS_length : ∀ (gs : List Int) (j : Nat), gs.all (fun g => decide (1 ≤ g) && decide (g ≤ 8)) = true → ((inS gs j).length : Int) = gs.sum
  | [], _, _ => rfl
  | g :: gs, j, h => by
    simp only [List.all_cons, Bool.and_eq_true, decide_eq_true_eq] at h
    have ih := inS_length gs (j + 1) (by simpa using h.2)
    simp only [inS, List.length_append, List.length_replicate, List.sum_cons]
    omega
theorem inS_rd : ∀ (gs : List Int) (j : Nat) (w : Int), gs.all (fun g => decide (1 ≤ g) && decide (g ≤ 8)) = true → 0 ≤ w → w < gs.sum → rd (inS gs j) w = ((groupOf gs w + j : Nat) : Int)
  | [], _, w, _, h0, h1 => by
    simp at h1
    omega
  | g :: gs, j, w, h, h0, h1 => by
    simp only [List.all_cons, Bool.and_eq_true, decide_eq_true_eq] at h
    simp only [List.sum_cons] at h1
    unfold rd inS groupOf
    rw [List.getD_eq_getElem?_getD]
    by_cases hw : w < g
    · rw [if_pos hw, List.getElem?_append_left (by simp; omega), List.getElem?_replicate, if_pos (by omega)]
      simp
    · rw [if_neg hw, List.getElem?_append_right (by simp; omega), List.length_replicate]
      have ih := inS_rd gs (j + 1) (w - g) (by simpa using h.2) (by omega) (by omega)
      unfold rd at ih
      rw [List.getD_eq_getElem?_getD] at ih
      rw [show w.toNat - g.toNat = (w - g).toNat by omega, ih]
      congr 1
      omega
theorem refGroup_f (seq shape max : Int) (gs : List Int) (hb : gs.length ≤ 17592186044416) (w : Int) (k : Nat) (hk : gs.length + 400 < k) : reedpiperef10_Group.f k seq shape max gs w = some (groupS seq shape max gs w) := by
  unfold reedpiperef10_Group.f groupS reedpiperef10_Many.f
  rw [refSome_f seq shape max gs hb k (by omega)]
  simp only [Option.bind_some]
  by_cases hs : someS seq shape max gs = true
  · rw [if_pos hs, if_pos hs]
    obtain ⟨ha, hsum, hl8, hlp⟩ := someS_all hs
    by_cases h0 : w < 0
    · rw [if_pos h0, if_pos (Or.inl h0)]
    · rw [if_neg h0]
      have hin : reedpiperef10_In.f k seq shape max gs = some (inS gs 0) := by
        unfold reedpiperef10_In.f
        have := in_l0 gs ha hl8 seq shape max gs.length k 0 [] (by omega) (by omega) (by omega) (by simp; omega)
        simpa using this
      have hl := inS_length gs 0 ha
      by_cases hq : seq = 2
      · rw [if_pos hq] at hsum
        rw [if_pos hq, if_pos hq]
        simp only [Option.bind_some]
        by_cases h8 : w ≥ 8
        · rw [if_pos h8, if_pos (Or.inr h8)]
        · rw [if_neg h8, if_neg (by omega), hin]
          simp only [Option.bind_some]
          rw [if_pos (by omega), if_pos (by omega), inS_rd gs 0 w ha (by omega) (by omega)]
          simp
      · rw [if_neg hq] at hsum
        rw [if_neg hq, if_neg hq]
        simp only [Option.bind_some]
        by_cases h8 : w ≥ 1
        · rw [if_pos h8, if_pos (Or.inr h8)]
        · rw [if_neg h8, if_neg (by omega), hin]
          simp only [Option.bind_some]
          rw [if_pos (by omega), if_pos (by omega), inS_rd gs 0 w ha (by omega) (by omega)]
          simp
  · rw [if_neg hs, if_neg hs]
theorem refAfter_f (was now : Int) (k : Nat) (hk : 0 < k) : reedpiperef10_After.f k was now = some (afterB was now) := by
  obtain ⟨k, rfl⟩ : ∃ m, k = m + 1 := ⟨k - 1, by omega⟩
  unfold reedpiperef10_After.f afterB
  simp only [reedpiperef10_After.j0]
  by_cases h0 : was = 0
  · subst h0
    simp only [if_true, true_or, beq_self_eq_true]
    by_cases n0 : now = 0
    · rw [if_pos n0, decide_eq_true (Or.inl n0)]
    · rw [if_neg n0]
      congr 1
      rw [Bool.eq_iff_iff, beq_iff_eq, decide_eq_true_iff]
      omega
  · rw [if_neg h0]
    by_cases h3 : was = 3
    · subst h3
      simp only [or_true, beq_self_eq_true, if_true]
      by_cases n0 : now = 0
      · rw [if_pos n0, decide_eq_true (Or.inl n0)]
      · rw [if_neg n0]
        congr 1
        rw [Bool.eq_iff_iff, beq_iff_eq, decide_eq_true_iff]
        omega
    · rw [beq_eq_false_iff_ne.mpr h3, if_neg (show ¬ (was = 0 ∨ was = 3) by omega)]
      simp only [Bool.false_eq_true, if_false]
      have hn : (if now = 2 then some true else some (now == 3)) = some (decide (now = 2 ∨ now = 3)) := by
        by_cases n0 : now = 2
        · rw [if_pos n0, decide_eq_true (Or.inl n0)]
        · rw [if_neg n0]
          congr 1
          rw [Bool.eq_iff_iff, beq_iff_eq, decide_eq_true_iff]
          omega
      rw [hn]
      by_cases h1 : was = 1
      · rw [if_pos h1, if_pos (Or.inl h1)]
      · rw [if_neg h1]
        by_cases h2 : was = 2
        · rw [if_pos h2, if_pos (Or.inr h2)]
        · rw [if_neg h2, if_neg (by omega)]
theorem same_f (s sh m : Int) (gs : List Int) (s2 sh2 m2 : Int) (gs2 : List Int) (hb : gs.length ≤ 4611686018427387904) (k : Nat) (hk : gs.length < k) : info_Same.f k s sh m gs s2 sh2 m2 gs2 = some (decide (s = s2 ∧ sh = sh2 ∧ m = m2 ∧ gs = gs2)) := by
  unfold info_Same.f
  rw [equal_f gs gs2 hb k hk]
  simp only [Option.bind_some]
  split
  · split
    · split
      · congr 1
        rw [Bool.eq_iff_iff, decide_eq_true_iff, decide_eq_true_iff]
        simp [*]
      · simp [*]
    · simp [*]
  · simp [*]
theorem refSame_f (s sh m : Int) (gs : List Int) (s2 sh2 m2 : Int) (gs2 : List Int) (hb : gs.length ≤ 4611686018427387904) (k : Nat) (hk : gs.length < k) : reedpiperef10_Same.f k s sh m gs s2 sh2 m2 gs2 = some (decide (s = s2 ∧ sh = sh2 ∧ m = m2 ∧ gs = gs2)) := by
  unfold reedpiperef10_Same.f
  rw [ints_f gs gs2 hb k hk]
  simp only [Option.bind_some]
  split
  · split
    · split
      · congr 1
        rw [Bool.eq_iff_iff, decide_eq_true_iff, decide_eq_true_iff]
        simp [*]
      · simp [*]
    · simp [*]
  · simp [*]
theorem refTwin_f (s sh m : Int) (gs : List Int) (hb : gs.length < 17592186044416) : reedpiperef10_Twin.f s sh m gs = some (s, sh, m, gs) := by
  unfold reedpiperef10_Twin.f
  rw [if_pos (by simpa using hb)]
  rfl
theorem twin_f (s sh m : Int) (gs : List Int) (hb : gs.length < 17592186044416) : info_Twin.f s sh m gs = some (s, sh, m, gs) := by
  unfold info_Twin.f slices_Clone_int_int.f
  rw [if_pos hb]
  rfl
theorem refTwin_eq {s sh m : Int} {gs : List Int} {x y z : Int} {l : List Int} (h : reedpiperef10_Twin.f s sh m gs = some (x, y, z, l)) : (s = x ∧ sh = y ∧ m = z ∧ gs = l) ∧ gs.length ≤ 17592186044416 := by
  unfold reedpiperef10_Twin.f at h
  split at h
  · next hc =>
    simp at h hc
    exact ⟨h, by omega⟩
  · cases h
theorem twin_eq {s sh m : Int} {gs : List Int} {x y z : Int} {l : List Int} (h : info_Twin.f s sh m gs = some (x, y, z, l)) : s = x ∧ sh = y ∧ m = z ∧ gs = l := by
  unfold info_Twin.f slices_Clone_int_int.f at h
  split at h
  · simpa using h
  · cases h
theorem check_of {k : Nat} {rate s sh m : Int} {gs : List Int} (hb : gs.length ≤ 17592186044416) {x : Int} (h : info_Check.f k rate s sh m gs = some x) : x = checkS rate s sh m gs :=
  det (g := fun k => info_Check.f k rate s sh m gs) (info_Check.mono rate s sh m gs) h (check_f rate s sh m gs hb (gs.length + 1000) (by omega))
theorem refCheck_of {k : Nat} {rate s sh m : Int} {gs : List Int} (hb : gs.length ≤ 17592186044416) {x : Int} (h : reedpiperef10_Check.f k rate s sh m gs = some x) : x = checkS rate s sh m gs :=
  det (g := fun k => reedpiperef10_Check.f k rate s sh m gs) (reedpiperef10_Check.mono rate s sh m gs) h (refCheck_f rate s sh m gs hb (gs.length + 1000) (by omega))
theorem windows_of {k : Nat} {s sh m : Int} {gs : List Int} (hb : gs.length ≤ 17592186044416) {x : Int × Int} (h : info_Windows.f k s sh m gs = some x) : x = windowsS s sh m gs :=
  det (g := fun k => info_Windows.f k s sh m gs) (info_Windows.mono s sh m gs) h (windows_f s sh m gs hb (gs.length + 1000) (by omega))
theorem refWindows_of {k : Nat} {s sh m : Int} {gs : List Int} (hb : gs.length ≤ 17592186044416) {x : Int × Int} (h : reedpiperef10_Windows.f k s sh m gs = some x) : x = windowsS s sh m gs :=
  det (g := fun k => reedpiperef10_Windows.f k s sh m gs) (reedpiperef10_Windows.mono s sh m gs) h (refWindows_f s sh m gs hb (gs.length + 1000) (by omega))
theorem group_of {k : Nat} {s sh m : Int} {gs : List Int} {w : Int} (hb : gs.length ≤ 17592186044416) {x : Int × Int} (h : info_Group.f k s sh m gs w = some x) : x = groupS s sh m gs w :=
  det (g := fun k => info_Group.f k s sh m gs w) (info_Group.mono s sh m gs w) h (group_f s sh m gs hb w (gs.length + 1000) (by omega))
theorem refGroup_of {k : Nat} {s sh m : Int} {gs : List Int} {w : Int} (hb : gs.length ≤ 17592186044416) {x : Int × Int} (h : reedpiperef10_Group.f k s sh m gs w = some x) : x = groupS s sh m gs w :=
  det (g := fun k => reedpiperef10_Group.f k s sh m gs w) (reedpiperef10_Group.mono s sh m gs w) h (refGroup_f s sh m gs hb w (gs.length + 1000) (by omega))
theorem same_of {k k' : Nat} {s sh m s2 sh2 m2 : Int} {gs gs2 : List Int} (hb : gs.length ≤ 17592186044416) {x y : Bool} (h : info_Same.f k s sh m gs s2 sh2 m2 gs2 = some x) (h' : reedpiperef10_Same.f k' s sh m gs s2 sh2 m2 gs2 = some y) : x = y := by
  have a := det (g := fun k => info_Same.f k s sh m gs s2 sh2 m2 gs2) (info_Same.mono s sh m gs s2 sh2 m2 gs2) h (same_f s sh m gs s2 sh2 m2 gs2 (by omega) (gs.length + 1000) (by omega))
  have b := det (g := fun k => reedpiperef10_Same.f k s sh m gs s2 sh2 m2 gs2) (reedpiperef10_Same.mono s sh m gs s2 sh2 m2 gs2) h' (refSame_f s sh m gs s2 sh2 m2 gs2 (by omega) (gs.length + 1000) (by omega))
  rw [a, b]
end Go.Proofs.Ytdoeclpbobjgdaa.SP
end
section
/- Windows are got as they were put, and put as these bits when got: in plain words. -/
namespace Go.Proofs.Ytdoeclpbobjgdaa.SG
open Go.RowKit Go.Proofs.YtdoeclpbobjgdaaW.PrintWords Go.Proofs.YtdoeclpbobjgdaaW.PrintLast Go.Proofs.YtdoeclpbobjgdaaW.PrintMore Go.Proofs.Ytdoeclpbobjgdaa.HA Go.Proofs.Ytdoeclpbobjgdaa.HP Go.Proofs.Ytdoeclpbobjgdaa.K
set_option linter.unusedVariables false

theorem getN_put {X pre post : List Int} {n : Int} {s : Nat} {p : Int} (hx : X = pre ++ bitsOf n s ++ post) (hp : p = (pre.length : Int)) (hs : s ≤ 31) (h0 : 0 ≤ n) (h1 : n < 2 ^ s) : getN X (p, 0) (s : Int) = (n, p + (s : Int), 0) := by
  subst hx
  subst hp
  unfold getN
  rw [if_pos rfl, getS_put pre post n s hs h0 h1, Int.natCast_add]
theorem getN_ok {b : List Int} (hb : ∀ y ∈ b, 0 ≤ y ∧ y ≤ 255) {s : Int × Int} {size n q : Int} (h : getN b s size = (n, q, 0)) : s.2 = 0 ∧ 0 ≤ s.1 ∧ 0 ≤ size ∧ size ≤ 31 ∧ q = s.1 + size ∧ q ≤ b.length ∧ 0 ≤ n ∧ n < 2 ^ size.toNat ∧ (b.drop s.1.toNat).take size.toNat = bitsOf n size.toNat := by
  unfold getN at h
  split at h
  · next he => exact ⟨he, getS_ok hb h⟩
  · next he =>
    simp only [Prod.mk.injEq] at h
    exact absurd h.2.2 he
/-- The groups that bits tell. -/
def grpL (rs : List Int) : List Int := rs.foldl (fun g x => if x = 1 then bump g else g ++ [1]) [1]
theorem grpL_snoc (rs : List Int) (x : Int) : grpL (rs ++ [x]) = if x = 1 then bump (grpL rs) else grpL rs ++ [1] := by
  unfold grpL
  rw [List.foldl_append]
  rfl
theorem grpN_put (X pre post : List Int) (f : Nat → Int) (hf : ∀ i, f i = 0 ∨ f i = 1) (m : Nat) (hx : X = pre ++ upto f m ++ post) : ∀ i, i ≤ m → grpN X ([1], (pre.length : Int), 0) i = (grpL (upto f i), (pre.length : Int) + (i : Int), 0) := by
  intro i
  induction i with
  | zero => intro _; simp [grpN, upto, grpL]
  | succ i ih =>
    intro hi
    rw [grpN, ih (by omega), grpStep]
    dsimp only
    have hb : bitsOf (f i) 1 = [f i] := by
      rcases hf i with h | h <;> rw [h] <;> decide
    have hsplit : upto f m = upto f i ++ [f i] ++ (upto f m).drop (i + 1) := by
      rw [← upto_succ]
      unfold upto
      have : (List.range m) = List.range (i + 1) ++ (List.range m).drop (i + 1) := by
        have h2 : (List.range m).take (i + 1) = List.range (i + 1) := by rw [List.take_range]; congr 1; omega
        rw [← h2, List.take_append_drop]
      conv => lhs; rw [this]
      rw [List.map_append, List.map_drop]
    have hg : getN X ((pre.length : Int) + (i : Int), 0) 1 = (f i, (pre.length : Int) + (i : Int) + 1, 0) := by
      refine getN_put (pre := pre ++ upto f i) (post := (upto f m).drop (i + 1) ++ post) (s := 1) ?_ (by rw [List.length_append, upto_length]; omega) (by omega) ?_ ?_
      · rw [hb, hx]
        conv => lhs; rw [hsplit]
        simp only [List.append_assoc]
      · rcases hf i with h | h <;> rw [h] <;> decide
      · rcases hf i with h | h <;> rw [h] <;> decide
    rw [hg]
    dsimp only
    rw [upto_succ, grpL_snoc]
    simp only [Prod.mk.injEq, and_true, true_and]
    omega
theorem grpN_ok {b : List Int} (hb : ∀ y ∈ b, 0 ≤ y ∧ y ≤ 255) (p e : Int) (hp0 : e = 0 → 0 ≤ p) : ∀ (i : Nat) (g : List Int) (q : Int), grpN b ([1], p, e) i = (g, q, 0) →
    e = 0 ∧ ∃ rs : List Int, rs.length = i ∧ (∀ x ∈ rs, x = 0 ∨ x = 1) ∧ q = p + i ∧ (i = 0 ∨ q ≤ b.length) ∧ (b.drop p.toNat).take i = rs ∧ g = grpL rs := by
  intro i
  induction i with
  | zero =>
    intro g q h
    simp only [grpN, Prod.mk.injEq] at h
    obtain ⟨rfl, rfl, he⟩ := h
    exact ⟨he, [], rfl, by simp, by simp, Or.inl rfl, by simp, rfl⟩
  | succ i ih =>
    intro g q h
    obtain ⟨g0, q0, e0, hst⟩ : ∃ a b' c, grpN b ([1], p, e) i = (a, b', c) := ⟨_, _, _, rfl⟩
    rw [grpN, hst, grpStep] at h
    dsimp only at h
    obtain ⟨n, q1, e1, hg⟩ : ∃ n q e, getN b (q0, e0) 1 = (n, q, e) := ⟨_, _, _, rfl⟩
    rw [hg] at h
    simp only [Prod.mk.injEq] at h
    obtain ⟨hgg, rfl, rfl⟩ := h
    obtain ⟨he, h0, _, _, hq, hql, hn0, hn1, hbits⟩ := getN_ok hb hg
    dsimp only at he h0 hq hbits
    subst he
    obtain ⟨he, rs, hl, h01, hq0, hor, htk, hgr⟩ := ih g0 q0 hst
    have hp := hp0 he
    have hn : n = 0 ∨ n = 1 := by
      have : n < 2 := by simpa using hn1
      omega
    have hbn : bitsOf n 1 = [n] := by rcases hn with h | h <;> rw [h] <;> decide
    refine ⟨he, rs ++ [n], by simp [hl], ?_, by omega, Or.inr hql, ?_, ?_⟩
    · intro x hx
      rcases List.mem_append.1 hx with hx | hx
      · exact h01 x hx
      · rw [List.mem_singleton.1 hx]; exact hn
    · rw [List.take_add, htk, List.drop_drop]
      have : p.toNat + i = q0.toNat := by omega
      rw [this]
      have h2 : (b.drop q0.toNat).take 1 = bitsOf n 1 := hbits
      rw [h2, hbn]
    · rw [grpL_snoc, ← hgg, hgr]
/-! ### all that there are -/
/-- Lists of numbers from 1 on whose sum is n (fuel: the sum itself). -/
def comps : Nat → Nat → List (List Int)
  | 0, _ => [[]]
  | f + 1, 0 => [[]]
  | f + 1, n + 1 => (List.range (n + 1)).flatMap fun g => (comps f (n - g)).map (fun r => ((g : Int) + 1) :: r)
theorem mem_comps : ∀ (f n : Nat) (gs : List Int), n ≤ f → (∀ y ∈ gs, 1 ≤ y) → gs.sum = (n : Int) → gs ∈ comps f n
  | 0, n, [], _, _, _ => by simp [comps]
  | f + 1, 0, [], _, _, _ => by simp [comps]
  | f + 1, n + 1, [], _, _, h => by simp at h; omega
  | 0, n, g :: gs, hf, h1, h => by
    have := h1 g List.mem_cons_self
    have hs : 0 ≤ gs.sum := by
      have : ∀ l : List Int, (∀ y ∈ l, 1 ≤ y) → 0 ≤ l.sum := by
        intro l
        induction l with
        | nil => simp
        | cons a l ih => intro hl; have := hl a List.mem_cons_self; have := ih (fun y hy => hl y (List.mem_cons_of_mem _ hy)); simp; omega
      exact this gs (fun y hy => h1 y (List.mem_cons_of_mem _ hy))
    simp at h
    omega
  | f + 1, n, g :: gs, hf, h1, h => by
    have hg := h1 g List.mem_cons_self
    have hr := fun y hy => h1 y (List.mem_cons_of_mem g hy)
    have hs : 0 ≤ gs.sum := by
      have : ∀ l : List Int, (∀ y ∈ l, 1 ≤ y) → 0 ≤ l.sum := by
        intro l
        induction l with
        | nil => simp
        | cons a l ih => intro hl; have := hl a List.mem_cons_self; have := ih (fun y hy => hl y (List.mem_cons_of_mem _ hy)); simp; omega
      exact this gs hr
    simp only [List.sum_cons] at h
    obtain ⟨n, rfl⟩ : ∃ m, n = m + 1 := ⟨n - 1, by omega⟩
    have ih := mem_comps f (n - (g.toNat - 1)) gs (by omega) hr (by omega)
    unfold comps
    rw [List.mem_flatMap]
    refine ⟨g.toNat - 1, List.mem_range.2 (by omega), List.mem_map.2 ⟨gs, ih, ?_⟩⟩
    congr 1
    omega
def bits01 : Nat → List (List Int)
  | 0 => [[]]
  | n + 1 => (bits01 n).flatMap fun r => [0 :: r, 1 :: r]
theorem mem_bits01 : ∀ (n : Nat) (rs : List Int), rs.length = n → (∀ x ∈ rs, x = 0 ∨ x = 1) → rs ∈ bits01 n
  | 0, [], _, _ => by simp [bits01]
  | n + 1, x :: rs, hl, h => by
    have ih := mem_bits01 n rs (by simpa using hl) (fun y hy => h y (List.mem_cons_of_mem _ hy))
    unfold bits01
    rw [List.mem_flatMap]
    refine ⟨rs, ih, ?_⟩
    rcases h x List.mem_cons_self with rfl | rfl <;> simp
  | 0, x :: rs, hl, _ => by simp at hl
  | n + 1, [], hl, _ => by simp at hl
theorem groups_back : ∀ gs ∈ comps 8 8, grpL (upto (groupBit gs) 7) = gs := by decide +kernel
theorem bits_back : ∀ rs ∈ bits01 7, upto (groupBit (grpL rs)) 7 = rs := by decide +kernel
theorem groupBit_01 (gs : List Int) (i : Nat) : groupBit gs i = 0 ∨ groupBit gs i = 1 := by unfold groupBit; split <;> simp
theorem groups_got {gs : List Int} (h : groupsOk gs = true) : grpL (upto (groupBit gs) 7) = gs := by
  simp only [groupsOk, Bool.and_eq_true, beq_iff_eq] at h
  refine groups_back gs (mem_comps 8 8 gs (Nat.le_refl _) (fun y hy => ?_) h.2)
  have := List.all_eq_true.1 h.1 y hy
  simp at this
  exact this.1
/-! ### the two ways -/
theorem infoBits_length (s sh m : Int) (gs : List Int) : (infoBits s sh m gs).length = if s = 2 then 15 else 11 := by
  unfold infoBits headBits
  split <;> simp [bitsOf_length, upto_length]
theorem or_zero : Go.bits .or .i64 0 0 = 0 := by decide
theorem get_put {rate s sh m : Int} {gs : List Int} (hs : 0 ≤ s) (hsh : 0 ≤ sh) (h : SP.checkS rate s sh m gs = 0) (post : List Int) : getInfo (infoBits s sh m gs ++ post) 0 rate = (s, sh, m, gs, ((infoBits s sh m gs).length : Int), 0) := by
  obtain ⟨hr0, hr1, hs3, hsh1, hm0, hm40, hm15, hok⟩ := SP.checkS_ok h
  have hgr := SP.infoOk_groups hok
  unfold getInfo
  rw [if_neg (by omega)]
  obtain ⟨X, hX⟩ : ∃ X, X = infoBits s sh m gs ++ post := ⟨_, rfl⟩
  rw [← hX]
  by_cases h2 : s = 2
  · subst h2
    rw [if_pos rfl] at hgr
    have hm := hm15 rfl
    have e : X = bitsOf 0 1 ++ bitsOf 2 2 ++ bitsOf sh 1 ++ bitsOf m 4 ++ upto (groupBit gs) 7 ++ post := by
      rw [hX]; unfold infoBits headBits; rw [if_pos rfl, if_pos rfl]
    have g1 : getN X (0, 0) 1 = (0, 1, 0) := getN_put (pre := []) (post := bitsOf 2 2 ++ bitsOf sh 1 ++ bitsOf m 4 ++ upto (groupBit gs) 7 ++ post) (s := 1) (by rw [e]; simp only [List.append_assoc, List.nil_append]) rfl (by omega) (by omega) (by omega)
    have g2 : getN X (1, 0) 2 = (2, 3, 0) := getN_put (pre := bitsOf 0 1) (post := bitsOf sh 1 ++ bitsOf m 4 ++ upto (groupBit gs) 7 ++ post) (s := 2) (by rw [e]; simp only [List.append_assoc]) rfl (by omega) (by omega) (by omega)
    have g3 : getN X (3, 0) 1 = (sh, 4, 0) := getN_put (pre := bitsOf 0 1 ++ bitsOf 2 2) (post := bitsOf m 4 ++ upto (groupBit gs) 7 ++ post) (s := 1) (by rw [e]; simp only [List.append_assoc]) rfl (by omega) hsh (by omega)
    have g4 : getN X (4, 0) 4 = (m, 8, 0) := getN_put (pre := bitsOf 0 1 ++ bitsOf 2 2 ++ bitsOf sh 1) (post := upto (groupBit gs) 7 ++ post) (s := 4) (by rw [e]; simp only [List.append_assoc]) (by simp [bitsOf_length]) (by omega) hm0 (by omega)
    have g5 := grpN_put X (bitsOf 0 1 ++ bitsOf 2 2 ++ bitsOf sh 1 ++ bitsOf m 4) post (groupBit gs) (groupBit_01 gs) 7 (by rw [e]) 7 (Nat.le_refl _)
    rw [groups_got hgr] at g5
    have hl8 : ((bitsOf 0 1 ++ bitsOf 2 2 ++ bitsOf sh 1 ++ bitsOf m 4).length : Int) = 8 := by simp [bitsOf_length]
    rw [hl8] at g5
    rw [g1]; dsimp only; rw [g2]; dsimp only; rw [if_pos rfl, g3]; dsimp only; rw [g4]; dsimp only; rw [g5]
    unfold getFin
    rw [if_neg (by simp), if_neg (by simp [h])]
    simp [infoBits_length]
  · rw [if_neg h2] at hgr
    have hgs : gs = [1] := by simpa using hgr
    subst hgs
    have e : X = bitsOf 0 1 ++ bitsOf s 2 ++ bitsOf sh 1 ++ bitsOf m 6 ++ bitsOf 0 1 ++ post := by
      rw [hX]; unfold infoBits headBits; rw [if_neg h2, if_neg h2]
    have g1 : getN X (0, 0) 1 = (0, 1, 0) := getN_put (pre := []) (post := bitsOf s 2 ++ bitsOf sh 1 ++ bitsOf m 6 ++ bitsOf 0 1 ++ post) (s := 1) (by rw [e]; simp only [List.append_assoc, List.nil_append]) rfl (by omega) (by omega) (by omega)
    have g2 : getN X (1, 0) 2 = (s, 3, 0) := getN_put (pre := bitsOf 0 1) (post := bitsOf sh 1 ++ bitsOf m 6 ++ bitsOf 0 1 ++ post) (s := 2) (by rw [e]; simp only [List.append_assoc]) rfl (by omega) hs (by omega)
    have g3 : getN X (3, 0) 1 = (sh, 4, 0) := getN_put (pre := bitsOf 0 1 ++ bitsOf s 2) (post := bitsOf m 6 ++ bitsOf 0 1 ++ post) (s := 1) (by rw [e]; simp only [List.append_assoc]) (by simp [bitsOf_length]) (by omega) hsh (by omega)
    have g4 : getN X (4, 0) 6 = (m, 10, 0) := getN_put (pre := bitsOf 0 1 ++ bitsOf s 2 ++ bitsOf sh 1) (post := bitsOf 0 1 ++ post) (s := 6) (by rw [e]; simp only [List.append_assoc]) (by simp [bitsOf_length]) (by omega) hm0 (by omega)
    have g5 : getN X (10, 0) 1 = (0, 11, 0) := getN_put (pre := bitsOf 0 1 ++ bitsOf s 2 ++ bitsOf sh 1 ++ bitsOf m 6) (post := post) (s := 1) (by rw [e]) (by simp [bitsOf_length]) (by omega) (by omega) (by omega)
    rw [g1]; dsimp only; rw [g2]; dsimp only; rw [if_neg h2, g3]; dsimp only; rw [g4]; dsimp only; rw [g5]
    unfold getFin
    rw [if_neg (by simp), or_zero, if_neg (by simp [h])]
    simp [infoBits_length, h2]
theorem fin_ok {rate odd s sh m : Int} {st : List Int × Int × Int} {s' sh' m' : Int} {gs' : List Int} {q : Int} (h : getFin rate odd s sh m st = (s', sh', m', gs', q, 0)) : st.2.2 = 0 ∧ odd = 0 ∧ SP.checkS rate s sh m st.1 = 0 ∧ s = s' ∧ sh = sh' ∧ m = m' ∧ st.1 = gs' ∧ st.2.1 = q := by
  unfold getFin at h
  split at h
  · next he =>
    simp only [Prod.mk.injEq] at h
    exact absurd h.2.2.2.2.2 he
  · next he =>
    split at h
    · simp at h
    · next h2 =>
      simp only [Prod.mk.injEq, and_true] at h
      refine ⟨?_, ?_, ?_, h.1, h.2.1, h.2.2.1, h.2.2.2.1, h.2.2.2.2⟩
      · exact Decidable.byContradiction fun h => he h
      · exact Decidable.byContradiction fun h => h2 (Or.inl h)
      · exact Decidable.byContradiction fun h => h2 (Or.inr h)
theorem fin_bad {rate odd s sh m : Int} {st : List Int × Int × Int} {s' sh' m' : Int} {gs' : List Int} {q e : Int} (h : getFin rate odd s sh m st = (s', sh', m', gs', q, e)) (he : e ≠ 0) : s' = 0 ∧ sh' = 0 ∧ m' = 0 ∧ gs' = [] ∧ q = 0 := by
  unfold getFin at h
  split at h
  · simp only [Prod.mk.injEq] at h
    exact ⟨h.1.symm, h.2.1.symm, h.2.2.1.symm, h.2.2.2.1.symm, h.2.2.2.2.1.symm⟩
  · split at h
    · simp only [Prod.mk.injEq] at h
      exact ⟨h.1.symm, h.2.1.symm, h.2.2.1.symm, h.2.2.2.1.symm, h.2.2.2.2.1.symm⟩
    · simp only [Prod.mk.injEq] at h
      exact absurd h.2.2.2.2.2.symm he
theorem get_bad {b : List Int} {p rate s sh m : Int} {gs : List Int} {q e : Int} (h : getInfo b p rate = (s, sh, m, gs, q, e)) (he : e ≠ 0) : s = 0 ∧ sh = 0 ∧ m = 0 ∧ gs = [] ∧ q = 0 := by
  unfold getInfo at h
  split at h
  · simp only [Prod.mk.injEq] at h
    exact ⟨h.1.symm, h.2.1.symm, h.2.2.1.symm, h.2.2.2.1.symm, h.2.2.2.2.1.symm⟩
  · split at h
    · exact fin_bad h he
    · exact fin_bad h he
theorem or_zero_iff (a b : Int) (ha : a = 0 ∨ a = 1) (hb : b = 0 ∨ b = 1) (h : Go.bits .or .i64 a b = 0) : a = 0 ∧ b = 0 := by
  rcases ha with rfl | rfl <;> rcases hb with rfl | rfl
  · exact ⟨rfl, rfl⟩
  · exact absurd h (by decide)
  · exact absurd h (by decide)
  · exact absurd h (by decide)
theorem take_split (l : List Int) (a i j : Nat) : (l.drop a).take (i + j) = (l.drop a).take i ++ (l.drop (a + i)).take j := by rw [List.take_add, List.drop_drop]
theorem put_got {b : List Int} (hb : ∀ y ∈ b, 0 ≤ y ∧ y ≤ 255) {p rate s sh m : Int} {gs : List Int} {q : Int} (h : getInfo b p rate = (s, sh, m, gs, q, 0)) :
    0 ≤ p ∧ p ≤ q ∧ q ≤ b.length ∧ 0 ≤ s ∧ 0 ≤ sh ∧ gs.length ≤ 8 ∧ SP.checkS rate s sh m gs = 0 ∧ (b.take q.toNat).drop p.toNat = infoBits s sh m gs := by
  unfold getInfo at h
  split at h
  · simp at h
  · next hrate =>
    obtain ⟨n1, p1, e1, h1⟩ : ∃ n p' e, getN b (p, 0) 1 = (n, p', e) := ⟨_, _, _, rfl⟩
    simp only [h1] at h
    obtain ⟨n2, p2, e2, h2⟩ : ∃ n p' e, getN b (p1, e1) 2 = (n, p', e) := ⟨_, _, _, rfl⟩
    simp only [h2] at h
    obtain ⟨n3, p3, e3, h3⟩ : ∃ n p' e, getN b (p2, e2) 1 = (n, p', e) := ⟨_, _, _, rfl⟩
    simp only [h3] at h
    split at h
    · next hs2 =>
      subst hs2
      obtain ⟨n4, p4, e4, h4⟩ : ∃ n p' e, getN b (p3, e3) 4 = (n, p', e) := ⟨_, _, _, rfl⟩
      simp only [h4] at h
      obtain ⟨g, q', e5, h5⟩ : ∃ g q' e, grpN b ([1], p4, e4) 7 = (g, q', e) := ⟨_, _, _, rfl⟩
      rw [h5] at h
      obtain ⟨he5, hodd, hck, rfl, rfl, rfl, hg, hq⟩ := fin_ok h
      dsimp only at he5 hck hg hq
      subst he5 hg hq hodd
      have hp4 : e4 = 0 → 0 ≤ p4 := by
        intro he
        subst he
        obtain ⟨_, a, _, _, b', _⟩ := getN_ok hb h4
        dsimp only at a b'
        omega
      obtain ⟨he4, rs, hrl, h01, hq, hql, htk, hgr⟩ := grpN_ok hb p4 e4 hp4 7 g q' h5
      subst he4
      obtain ⟨he3, a4, _, _, b4, c4, d4, f4, t4⟩ := getN_ok hb h4
      dsimp only at he3 a4 b4 t4
      subst he3
      obtain ⟨he2, a3, _, _, b3, c3, d3, f3, t3⟩ := getN_ok hb h3
      dsimp only at he2 a3 b3 t3
      subst he2
      obtain ⟨he1, a2, _, _, b2, c2, d2, f2, t2⟩ := getN_ok hb h2
      dsimp only at he1 a2 b2 t2
      subst he1
      obtain ⟨_, a1, _, _, b1, c1, d1, f1, t1⟩ := getN_ok hb h1
      dsimp only at a1 b1 t1
      have hgl : g.length ≤ 8 := (grpOk_n b (p4, 0) 7).2.1 |> fun hh => by rw [h5] at hh; exact hh
      refine ⟨a1, by omega, by omega, by omega, d3, hgl, hck, ?_⟩
      rw [List.drop_take, show q'.toNat - p.toNat = 1 + (2 + (1 + (4 + 7))) by omega, take_split, take_split, take_split, take_split]
      rw [show p.toNat + 1 = p1.toNat by omega, show p1.toNat + 2 = p2.toNat by omega, show p2.toNat + 1 = p3.toNat by omega, show p3.toNat + 4 = p4.toNat by omega]
      have t1' : (b.drop p.toNat).take 1 = bitsOf 0 1 := t1
      have t2' : (b.drop p1.toNat).take 2 = bitsOf 2 2 := t2
      have t3' : (b.drop p2.toNat).take 1 = bitsOf n3 1 := t3
      have t4' : (b.drop p3.toNat).take 4 = bitsOf n4 4 := t4
      rw [t1', t2', t3', t4', htk]
      unfold infoBits headBits
      rw [if_pos rfl, if_pos rfl, hgr, bits_back rs (mem_bits01 7 rs hrl h01)]
      simp only [List.append_assoc]
    · next hs2 =>
      obtain ⟨n4, p4, e4, h4⟩ : ∃ n p' e, getN b (p3, e3) 6 = (n, p', e) := ⟨_, _, _, rfl⟩
      simp only [h4] at h
      obtain ⟨n5, p5, e5, h5⟩ : ∃ n p' e, getN b (p4, e4) 1 = (n, p', e) := ⟨_, _, _, rfl⟩
      simp only [h5] at h
      obtain ⟨he5, hodd, hck, rfl, rfl, rfl, hg, hq⟩ := fin_ok h
      dsimp only at he5 hck hg hq
      subst he5 hg hq
      obtain ⟨he4, a5, _, _, b5, c5, d5, f5, t5⟩ := getN_ok hb h5
      dsimp only at he4 a5 b5 t5
      subst he4
      obtain ⟨he3, a4, _, _, b4, c4, d4, f4, t4⟩ := getN_ok hb h4
      dsimp only at he3 a4 b4 t4
      subst he3
      obtain ⟨he2, a3, _, _, b3, c3, d3, f3, t3⟩ := getN_ok hb h3
      dsimp only at he2 a3 b3 t3
      subst he2
      obtain ⟨he1, a2, _, _, b2, c2, d2, f2, t2⟩ := getN_ok hb h2
      dsimp only at he1 a2 b2 t2
      subst he1
      obtain ⟨_, a1, _, _, b1, c1, d1, f1, t1⟩ := getN_ok hb h1
      dsimp only at a1 b1 t1
      have hn1 : n1 = 0 ∨ n1 = 1 := by
        have : n1 < 2 := by simpa using f1
        omega
      have hn5 : n5 = 0 ∨ n5 = 1 := by
        have : n5 < 2 := by simpa using f5
        omega
      obtain ⟨rfl, rfl⟩ := or_zero_iff n1 n5 hn1 hn5 hodd
      refine ⟨a1, by omega, by omega, d2, d3, by simp, hck, ?_⟩
      rw [List.drop_take, show p5.toNat - p.toNat = 1 + (2 + (1 + (6 + 1))) by omega, take_split, take_split, take_split, take_split]
      rw [show p.toNat + 1 = p1.toNat by omega, show p1.toNat + 2 = p2.toNat by omega, show p2.toNat + 1 = p3.toNat by omega, show p3.toNat + 6 = p4.toNat by omega]
      have t1' : (b.drop p.toNat).take 1 = bitsOf 0 1 := t1
      have t2' : (b.drop p1.toNat).take 2 = bitsOf n2 2 := t2
      have t3' : (b.drop p2.toNat).take 1 = bitsOf n3 1 := t3
      have t4' : (b.drop p3.toNat).take 6 = bitsOf n4 6 := t4
      have t5' : (b.drop p4.toNat).take 1 = bitsOf 0 1 := t5
      rw [t1', t2', t3', t4', t5']
      unfold infoBits headBits
      rw [if_neg hs2, if_neg hs2]
      simp only [List.append_assoc]
end Go.Proofs.Ytdoeclpbobjgdaa.SG
end
section
/- The law InfoBack of the windows' chapter: windows are got as they were put, whatever stands behind, and put as these bits when got; for every input. -/
namespace Go.Proofs.Ytdoeclpbobjgdaa.Wk
open Go.RowKit Go.Proofs.Ytdoeclpbobjgdaa.K Go.Proofs.Ytdoeclpbobjgdaa.SP Go.Proofs.Ytdoeclpbobjgdaa.HP Go.Proofs.YtdoeclpbobjgdaaW.PrintWords Go.Proofs.YtdoeclpbobjgdaaW.PrintLast Go.Proofs.YtdoeclpbobjgdaaW.PrintMore
set_option linter.unusedVariables false

theorem back_alive : reedpipelaw10_alive.f = some true := by decide +kernel
theorem back_put (rate s sh m : Int) (gs : List Int) (hs : 0 ≤ s) (hsh : 0 ≤ sh) (hl : gs.length ≤ 1000) : info_Put.f ([] : List Int) rate s sh m gs = some (if checkS rate s sh m gs = 0 then ([] ++ infoBits s sh m gs, 0) else ([], checkS rate s sh m gs)) := by
  unfold info_Put.f
  rw [if_pos ⟨hs, hsh, by simp, hl⟩]
theorem back_get (b : List Int) (hb : ∀ y ∈ b, 0 ≤ y ∧ y ≤ 255) (hl : b.length ≤ 100000000) (p rate : Int) : info_Get.f b p rate = some (SG.getInfo b p rate) := by
  unfold info_Get.f
  rw [if_pos ⟨hb, hl⟩]
theorem back_j1 (k : Nat) (hk : 1000 < k) (rate : Int) (b : List Int) (hb : ∀ y ∈ b, 0 ≤ y ∧ y ≤ 255) (hl : b.length ≤ 10000) (p : Int) : reedpipelaw10_InfoBack.j1 k rate b p = some true := by
  obtain ⟨k, rfl⟩ : ∃ m, k = m + 1 := ⟨k - 1, by omega⟩
  simp only [reedpipelaw10_InfoBack.j1]
  rw [back_get b hb (by omega)]
  obtain ⟨s, sh, m, gs, q, e, hg⟩ : ∃ s sh m gs q e, SG.getInfo b p rate = (s, sh, m, gs, q, e) := ⟨_, _, _, _, _, _, rfl⟩
  rw [hg]
  simp only [Option.bind_some]
  by_cases he : e = 0
  · subst he
    obtain ⟨h0, h1, h2, h3, h4, h5, h6, h7⟩ := SG.put_got hb hg
    rw [if_pos rfl, back_put rate s sh m gs h3 h4 (by omega), if_pos h6]
    simp only [Option.bind_some]
    rw [if_pos trivial, if_pos h0, if_pos h1, if_pos h2, List.nil_append, h7, if_pos rfl, check_f rate s sh m gs (by omega) k (by omega), h6]
    rfl
  · obtain ⟨rfl, rfl, rfl, rfl, rfl⟩ := SG.get_bad hg he
    rw [if_neg he, if_pos rfl, refSame_f 0 0 0 [] 0 0 0 [] (by simp) k (by simp; omega)]
    simp
theorem back_true (rate s sh m : Int) (gs : List Int) (x b : List Int) (p : Int) (hs : 0 ≤ s) (hsh : 0 ≤ sh) (hx : ∀ y ∈ x, 0 ≤ y ∧ y ≤ 255) (hb : ∀ y ∈ b, 0 ≤ y ∧ y ≤ 255) : reedpipelaw10_InfoBack.f 1010 rate s sh m gs x b p = some true := by
  unfold reedpipelaw10_InfoBack.f
  rw [back_alive]
  simp only [Option.bind_some]
  have stop : reedpipelaw10_InfoBack.j0 1010 rate x b p true true s sh m gs = some true := by
    simp only [reedpipelaw10_InfoBack.j0, if_true]
  by_cases h1 : (gs.length : Int) > 1000
  · rw [if_pos h1]; exact stop
  · rw [if_neg h1]
    by_cases h2 : (x.length : Int) > 10000
    · rw [if_pos h2]; exact stop
    · rw [if_neg h2]
      by_cases h3 : (b.length : Int) > 10000
      · rw [if_pos h3]; exact stop
      · rw [if_neg h3]
        simp only [reedpipelaw10_InfoBack.j0, Bool.not_true, Bool.false_eq_true, if_false]
        rw [back_put rate s sh m gs hs hsh (by omega)]
        simp only [Option.bind_some]
        by_cases hc : checkS rate s sh m gs = 0
        · rw [if_pos hc]
          simp only [List.nil_append, if_true, List.length_nil]
          have hl := SG.infoBits_length s sh m gs
          have hl15 : (infoBits s sh m gs).length ≤ 15 := by rw [hl]; split <;> omega
          have hbits : ∀ y ∈ infoBits s sh m gs, 0 ≤ y ∧ y ≤ 255 := by
            intro y hy
            unfold infoBits headBits at hy
            have h01 : 0 ≤ y ∧ y ≤ 1 := by
              rcases List.mem_append.1 hy with hy | hy
              · rcases List.mem_append.1 hy with hy | hy
                · rcases List.mem_append.1 hy with hy | hy
                  · rcases List.mem_append.1 hy with hy | hy
                    · exact SG.bitsOf_01 _ _ y hy
                    · exact SG.bitsOf_01 _ _ y hy
                  · exact SG.bitsOf_01 _ _ y hy
                · split at hy
                  · exact SG.bitsOf_01 _ _ y hy
                  · exact SG.bitsOf_01 _ _ y hy
              · split at hy
                · unfold HA.upto at hy
                  obtain ⟨i, _, rfl⟩ := List.mem_map.1 hy
                  rcases SG.groupBit_01 gs i with h | h <;> rw [h] <;> decide
                · exact SG.bitsOf_01 _ _ y hy
            omega
          rw [if_pos (by omega), if_pos (by omega)]
          rw [back_get _ (fun y hy => (List.mem_append.1 hy).elim (hbits y) (hx y)) (by rw [List.length_append]; omega), SG.get_put hs hsh hc x]
          simp only [Option.bind_some]
          rw [if_pos trivial, refSame_f s sh m gs s sh m gs (by omega) 1009 (by omega)]
          simp only [Option.bind_some, and_self, decide_true, if_true]
          exact back_j1 1009 (by omega) rate b hb (by omega) p
        · rw [if_neg hc]
          simp only
          rw [if_neg hc]
          exact back_j1 1009 (by omega) rate b hb (by omega) p
theorem InfoBack (W : World) (a0 s_1 sh_1 m_1 : Int) (A_1 : Option Addr) (c_1 : Nat) (l_1 : List Int) (A_2 : Option Addr) (c_2 : Nat) (l_2 : List Int) (A_3 : Option Addr) (c_3 : Nat) (l_3 : List Int) (a4 : Int) (w0 : (Lit.int .i64 a0).wf = true)
    (hc_1 : l_1.length ≤ c_1) (hr_1 : Kd.C (Kd.int .i64) W A_1 l_1.length l_1) (ws_1 : 0 ≤ s_1 ∧ s_1 ≤ 255) (wsh_1 : 0 ≤ sh_1 ∧ sh_1 ≤ 255) (wm_1 : -9223372036854775808 ≤ m_1 ∧ m_1 ≤ 9223372036854775807) (wl_1 : ∀ y ∈ l_1, -9223372036854775808 ≤ y ∧ y ≤ 9223372036854775807)
    (hc_2 : l_2.length ≤ c_2) (hr_2 : Kd.C (Kd.int .u8) W A_2 l_2.length l_2) (wl_2 : ∀ y ∈ l_2, 0 ≤ y ∧ y ≤ 255) (hc_3 : l_3.length ≤ c_3) (hr_3 : Kd.C (Kd.int .u8) W A_3 l_3.length l_3) (wl_3 : ∀ y ∈ l_3, 0 ≤ y ∧ y ≤ 255) (w4 : (Lit.int .i64 a4).wf = true) :
    Calls Try.prog 8 #[.int .i64 a0, .agg #[.int .u8 s_1, .int .u8 sh_1, .int .i64 m_1, .slice A_1 l_1.length c_1], .slice A_2 l_2.length c_2, .slice A_3 l_3.length c_3, .int .i64 a4] W fun e w' => e = .returned (.bool true) ∧ Below W.heap.size W w' := by
  exact reedpipelaw10_InfoBack.calls 1010 a0 s_1 sh_1 m_1 A_1 c_1 l_1 A_2 c_2 l_2 A_3 c_3 l_3 a4 true W hr_1 hc_1 hr_2 hc_2 hr_3 hc_3 (back_true a0 s_1 sh_1 m_1 l_1 l_2 l_3 a4 ws_1.1 wsh_1.1 wl_2 wl_3)
end Go.Proofs.Ytdoeclpbobjgdaa.Wk
end
section
/- From what a row reads to the kinds of the walks: any type of whole numbers, bools, slices and structs of these. It imports no program. -/
namespace Go.Proofs.Ytdoeclpbobjgdaa.HR
open Go.RowKit Go.ChangeShapes Go.WideShapes Go.Proofs.YtdoeclpbobjgdaaW.PrintWords

/-- Whatever reads as data of type t is of kind d. -/
def Opens {α : Type} (P : Program) (t : TypeId) (d : Kd α) (ok : α → Prop) : Prop :=
  ∀ (H : Type) (enc : TypeId × Value → H) (W : World) (fuel : Nat) (cs : List Value) (x : DataW H × List MemPlace), DataW.trod enc P W 0 (fun _ => true) true fuel t cs = some x → ∃ a, ok a ∧ d.K W a cs

theorem Opens.imp {α : Type} {P : Program} {t : TypeId} {d : Kd α} {ok ok' : α → Prop} (h : Opens P t d ok) (hi : ∀ a, ok a → ok' a) : Opens P t d ok' := fun H enc W fuel cs x hx => by
  obtain ⟨a, ha, hK⟩ := h H enc W fuel cs x hx
  exact ⟨a, hi a ha, hK⟩
theorem opens_int {P : Program} {t : TypeId} {k : IntKind} (ht : P.underlying t = some (.int k)) : Opens P t (Kd.int k) (fun n => (Lit.int k n).wf = true) := by
  intro H enc W fuel cs x hx
  obtain ⟨n, rfl, _, hw⟩ := DataW.trod_int ht hx
  exact ⟨n, hw, rfl⟩
theorem opens_bool {P : Program} {t : TypeId} (ht : P.underlying t = some .bool) : Opens P t Kd.bool (fun _ => True) := by
  intro H enc W fuel cs x hx
  obtain ⟨b, rfl, _⟩ := DataW.trod_bool ht hx
  exact ⟨b, trivial, rfl⟩
theorem opens_slice {α : Type} {P : Program} {t e : TypeId} {d : Kd α} {ok : α → Prop} (ht : P.underlying t = some (.slice e)) (hs : P.cellsOf e = d.sz) (h : Opens P e d ok) : Opens P t (Kd.slice e d) (fun xs => ∀ x ∈ xs, ok x) := by
  intro H enc W fuel cs x hx
  rcases Go.Deep.open_slice ht hx with ⟨rfl, _⟩ | ⟨a, len, cap, m, n, D, Pl, rfl, _, hl, hcap, hm, _, hel⟩
  · exact ⟨[], by simp, none, 0, rfl, Nat.le_refl _, rfl, by simp, fun h => absurd h (by simp)⟩
  · have hlm : len ≤ m := by rw [hm]; simp; exact hl
    have key : ∀ k, k ≤ len → ∃ xs : List α, xs.length = k ∧ (∀ x ∈ xs, ok x) ∧ ∀ j p, xs[j]? = some p → ∃ c, c.length = d.sz ∧ d.K W p c ∧ ∀ i u, c[i]? = some u → W.cell? (a.add (j * d.sz + i)) = some u := by
      intro k
      induction k with
      | zero => exact fun _ => ⟨[], rfl, by simp, fun j p hj => by simp at hj⟩
      | succ k ih =>
        intro hk
        obtain ⟨xs, hxl, hxo, hxc⟩ := ih (by omega)
        obtain ⟨cs', hc1, hc2⟩ := hel k (by omega)
        obtain ⟨p, hp, hK⟩ := h H enc W n cs' _ hc2
        refine ⟨xs ++ [p], by simp [hxl], ?_, ?_⟩
        · intro x hx
          rcases List.mem_append.1 hx with hx | hx
          · exact hxo x hx
          · rw [List.mem_singleton.1 hx]; exact hp
        · intro j q hj
          rcases Nat.lt_or_ge j k with hjk | hjk
          · rw [List.getElem?_append_left (by omega)] at hj
            exact hxc j q hj
          · rw [List.getElem?_append_right (by omega)] at hj
            have hj0 : j - xs.length = 0 := by
              rcases Nat.eq_zero_or_pos (j - xs.length) with h0 | h0
              · exact h0
              · rw [List.getElem?_eq_none (by simp; omega)] at hj
                cases hj
            rw [hj0] at hj
            obtain rfl : p = q := by simpa using hj
            obtain rfl : j = k := by omega
            refine ⟨cs', d.K_len hK, hK, fun i u hu => ?_⟩
            obtain ⟨_, hlen, hcells⟩ := World.cells?_some hc1
            obtain ⟨hi, rfl⟩ := List.getElem?_eq_some_iff.1 hu
            have := hcells i (by omega)
            rw [hs, Go.Deep.add_add] at this
            rw [this]
            exact hu
    obtain ⟨xs, hxl, hxo, hxc⟩ := key len (Nat.le_refl _)
    subst hxl
    have hmx : xs.length ≤ 9223372036854775807 := by unfold maxLen at hcap; omega
    exact ⟨xs, hxo, some a, cap, rfl, hl, rfl, hmx, fun _ => ⟨a, rfl, hxc⟩⟩

/-! ### structs, field by field: their types and where their cells begin -/
def OpensFs {α : Type} (P : Program) (fs : List (TypeId × Nat)) (off : Nat) (d : Kd α) (ok : α → Prop) : Prop :=
  ∀ (H : Type) (enc : TypeId × Value → H) (W : World) (n : Nat) (cs : List Value), (∀ f ∈ fs, ∃ x, DataW.trod enc P W 0 (fun _ => true) true n f.1 ((cs.drop f.2).take (P.cellsOf f.1)) = some x) → cs.length = off + d.sz → ∃ a, ok a ∧ d.K W a (cs.drop off)
theorem opensFs_one {α : Type} {P : Program} {t : TypeId} {off : Nat} {d : Kd α} {ok : α → Prop} (hs : P.cellsOf t = d.sz) (h : Opens P t d ok) : OpensFs P [(t, off)] off d ok := by
  intro H enc W n cs hf hl
  obtain ⟨x, hx⟩ := hf (t, off) List.mem_cons_self
  simp only at hx
  rw [hs, List.take_of_length_le (by rw [List.length_drop]; omega)] at hx
  exact h H enc W n _ x hx
theorem opensFs_cons {α β : Type} {P : Program} {t : TypeId} {fs : List (TypeId × Nat)} {off : Nat} (off2 : Nat) {a : Kd α} {b : Kd β} {ok : α → Prop} {okb : β → Prop} (hs : P.cellsOf t = a.sz) (ho2 : off2 = off + a.sz) (h : Opens P t a ok) (hb : OpensFs P fs off2 b okb) :
    OpensFs P ((t, off) :: fs) off (Kd.pair a b) (fun x => ok x.1 ∧ okb x.2) := by
  intro H enc W n cs hf hl
  obtain ⟨x, hx⟩ := hf (t, off) List.mem_cons_self
  simp only at hx
  rw [hs] at hx
  obtain ⟨p, hp, hK⟩ := h H enc W n _ x hx
  have hsz : (Kd.pair a b).sz = a.sz + b.sz := rfl
  obtain ⟨q, hq, hKq⟩ := hb H enc W n cs (fun g hg => hf g (List.mem_cons_of_mem _ hg)) (by rw [hl, hsz, ho2]; omega)
  refine ⟨(p, q), ⟨hp, hq⟩, (cs.drop off).take a.sz, cs.drop off2, ?_, hK, hKq⟩
  rw [ho2, ← List.drop_drop, List.take_append_drop]
theorem opens_struct {α : Type} {P : Program} {t : TypeId} {fs : Array Field} {l : List (TypeId × Nat)} {d : Kd α} {ok : α → Prop} (ht : P.underlying t = some (.struct fs)) (hfs : fs.toList.map (fun f => (f.type, f.offset)) = l) (hs : P.cellsOf t = d.sz) (h : OpensFs P l 0 d ok) : Opens P t d ok := by
  intro H enc W fuel cs x hx
  obtain ⟨xs, n, _, _, hl, hxl, hf⟩ := DataW.trod_struct ht hx
  have := h H enc W n cs (fun f hm => by
    rw [← hfs] at hm
    obtain ⟨g, hg, rfl⟩ := List.mem_map.1 hm
    obtain ⟨i, hi, rfl⟩ := List.getElem_of_mem hg
    have hi2 : i < fs.size := by simpa using hi
    refine ⟨xs[i], ?_⟩
    simp only
    rw [hf i fs.toList[i] (by simp [hi2]), List.getElem?_eq_getElem]) (by omega)
  simpa using this
theorem opens_iso {α β : Type} {P : Program} {t : TypeId} {d : Kd α} {ok : α → Prop} (f : β → α) (g : α → β) (hfg : ∀ a, f (g a) = a) (h : Opens P t d ok) : Opens P t (Kd.iso d f) (fun b => ok (f b)) := by
  intro H enc W fuel cs x hx
  obtain ⟨a, ha, hK⟩ := h H enc W fuel cs x hx
  exact ⟨g a, by show ok (f (g a)); rw [hfg]; exact ha, by show d.K W (f (g a)) cs; rw [hfg]; exact hK⟩
/-- What an argument reads as. -/
theorem Opens.arg {α : Type} {P : Program} {t : TypeId} {d : Kd α} {ok : α → Prop} (h : Opens P t d ok) {H : Type} {enc : TypeId × Value → H} {W : World} {v : Value} {x : DataW H} {ps : List MemPlace} (ht : DataW.Trod enc P W 0 (fun _ => true) true t v x ps) : ∃ a, ok a ∧ d.K W a v.cells.toList := by
  obtain ⟨fuel, hf⟩ := ht
  exact h H enc W fuel _ _ hf
end Go.Proofs.Ytdoeclpbobjgdaa.HR
end
section
/- How windows' infos are read. -/
namespace Go.Proofs.Ytdoeclpbobjgdaa.HI
open Go.RowKit Go.ChangeShapes Go.WideShapes Go.Proofs.YtdoeclpbobjgdaaW.PrintWords Go.Proofs.Ytdoeclpbobjgdaa.HR

def kInfo : Kd (Int × Int × Int × List Int) := Kd.pair (Kd.int .u8) (Kd.pair (Kd.int .u8) (Kd.pair (Kd.int .i64) (Kd.slice 3 (Kd.int .i64))))
theorem opens_ints : Opens Try.prog 22 (Kd.slice 3 (Kd.int .i64)) (fun xs => ∀ x ∈ xs, (Lit.int .i64 x).wf = true) := opens_slice Try.underlying22 (by kernel_rfl) (opens_int Try.underlying3)
theorem opens_info : Opens Try.prog 24 kInfo (fun x => (Lit.int .u8 x.1).wf = true ∧ (Lit.int .u8 x.2.1).wf = true ∧ (Lit.int .i64 x.2.2.1).wf = true ∧ ∀ y ∈ x.2.2.2, (Lit.int .i64 y).wf = true) := by
  exact opens_struct Try.underlying24 (l := [(5, 0), (5, 1), (3, 2), (22, 3)]) rfl (by kernel_rfl)
    (opensFs_cons 1 (by kernel_rfl) rfl (opens_int Try.underlying5) (opensFs_cons 2 (by kernel_rfl) rfl (opens_int Try.underlying5) (opensFs_cons 3 (by kernel_rfl) rfl (opens_int Try.underlying3) (opensFs_one (by kernel_rfl) opens_ints))))
theorem wf_u8 {x : Int} (h : (Lit.int .u8 x).wf = true) : 0 ≤ x ∧ x ≤ 255 := by
  simp only [Lit.wf, Bool.and_eq_true, decide_eq_true_eq] at h
  exact h
theorem wf_i64 {x : Int} (h : (Lit.int .i64 x).wf = true) : -9223372036854775808 ≤ x ∧ x ≤ 9223372036854775807 := by
  simp only [Lit.wf, Bool.and_eq_true, decide_eq_true_eq] at h
  exact h
theorem open_info {H : Type} {enc : TypeId × Value → H} {W : World} {v : Value} {x : DataW H} {ps : List MemPlace} {r : Reach} {b0 : Nat} (hv : Value.okWide Try.prog W r b0 24 v) (h : DataW.Trod enc Try.prog W 0 (fun _ => true) true 24 v x ps) :
    ∃ (s sh m : Int) (A : Option Addr) (c : Nat) (l : List Int), v = .agg #[.int .u8 s, .int .u8 sh, .int .i64 m, .slice A l.length c] ∧ l.length ≤ c ∧ Kd.C (Kd.int .i64) W A l.length l ∧ (0 ≤ s ∧ s ≤ 255) ∧ (0 ≤ sh ∧ sh ≤ 255) ∧ (-9223372036854775808 ≤ m ∧ m ≤ 9223372036854775807) ∧ ∀ y ∈ l, -9223372036854775808 ≤ y ∧ y ≤ 9223372036854775807 := by
  unfold Value.okWide at hv
  rw [Try.underlying24] at hv
  obtain ⟨cs, rfl, _, _⟩ := hv
  obtain ⟨⟨s, sh, m, l⟩, ⟨w1, w2, w3, w4⟩, hK⟩ := opens_info.arg h
  obtain ⟨_, _, he, rfl, ⟨_, _, rfl, rfl, ⟨_, _, rfl, rfl, ⟨A, c, rfl, hl, hC⟩⟩⟩⟩ := hK
  refine ⟨s, sh, m, A, c, l, ?_, hl, hC, wf_u8 w1, wf_u8 w2, wf_i64 w3, fun y hy => wf_i64 (w4 y hy)⟩
  congr 1
  apply Array.toList_inj.1
  exact he
end Go.Proofs.Ytdoeclpbobjgdaa.HI
end
section
/- How bytes are read. -/
namespace Go.Proofs.Ytdoeclpbobjgdaa.HI
open Go.RowKit Go.ChangeShapes Go.WideShapes Go.Proofs.YtdoeclpbobjgdaaW.PrintWords Go.Proofs.Ytdoeclpbobjgdaa.HR

theorem slice_value {W : World} {v : Value} {r : Reach} {b0 : Nat} {t e : TypeId} (ht : Try.prog.underlying t = some (.slice e)) (hv : Value.okWide Try.prog W r b0 t v) : ∃ A n c, v = .slice A n c := by
  unfold Value.okWide at hv
  rw [ht] at hv
  unfold Cell.okWide at hv
  rw [ht] at hv
  revert hv
  cases v <;> simp [Cell.ok, ht]
theorem opens_bytes : Opens Try.prog 42 (Kd.slice 5 (Kd.int .u8)) (fun xs => ∀ x ∈ xs, (Lit.int .u8 x).wf = true) := opens_slice Try.underlying42 (by kernel_rfl) (opens_int Try.underlying5)
theorem open_bytes {H : Type} {enc : TypeId × Value → H} {W : World} {v : Value} {x : DataW H} {ps : List MemPlace} {r : Reach} {b0 : Nat} (hv : Value.okWide Try.prog W r b0 42 v) (h : DataW.Trod enc Try.prog W 0 (fun _ => true) true 42 v x ps) :
    ∃ (A : Option Addr) (c : Nat) (l : List Int), v = .slice A l.length c ∧ l.length ≤ c ∧ Kd.C (Kd.int .u8) W A l.length l ∧ ∀ y ∈ l, 0 ≤ y ∧ y ≤ 255 := by
  obtain ⟨A0, n0, c0, rfl⟩ := slice_value Try.underlying42 hv
  obtain ⟨l, wl, A, c, he, hl, hC⟩ := opens_bytes.arg h
  have he' : Value.slice A0 n0 c0 = .slice A l.length c := by simpa [Value.cells] using he
  exact ⟨A, c, l, he', hl, hC, fun y hy => wf_u8 (wl y hy)⟩
end Go.Proofs.Ytdoeclpbobjgdaa.HI
end
section
/- The row of the law InfoBack: out of its walk. -/
namespace Go.Proofs.Ytdoeclpbobjgdaa.infoBack
open Go.ChangeShapes Go.WideShapes Go.ChangeAt Go.RowKit
open Go.ChangeMaps (open_string shut_string)
set_option linter.unusedVariables false
theorem own : ownKnob Try.prog.godebug = none := by kernel_rfl
theorem laidOut : laidOutB Try.prog = true := by kernel_rfl
set_option maxRecDepth 100000 in
theorem lifted (os : Os) (started : os.Started) (H : Type) (enc : TypeId × Value → H) :
    ReturnsInHanded {} Try.checked os 8 .any (Rows.infoBackSpec.pre6 enc Try.prog Try.f8 Rows.infoBackRow.domain false) (Rows.infoBackSpec.post enc Try.prog Try.f8 false true false false) := by
  refine returnsInHanded_of_change_sized (C := Try.checked) own started (by kernel_rfl) Try.func8
    (ChangeSpec.witness6 (enc := enc) (C := Try.checked) false ⟨#[], #[.int .i64 0, .agg #[.int .u8 0, .int .u8 0, .int .i64 0, .slice none 0 0], .slice none 0 0, .slice none 0 0, .int .i64 0], []⟩ 8 (by kernel_rfl) (by kernel_rfl) (by kernel_rfl) (by kernel_rfl)) ?_
  intro W base args ds gs before hval0 hW hcnd hsz0 _
  have hval : ∀ (j : Nat) t v, Try.f8.params[j]? = some t → args[j]? = some v → Value.okWide Try.prog W .any base t v := hval0
  have hW' := hW
  obtain ⟨p, q, hA0, hV, rfl, hfz, hnd⟩ := hW
  have hA : DataW.TrodAll enc Try.prog W 0 (fun _ => true) true Try.f8.params.toList args.toList ds p := hA0
  rw [Try.params8] at hA hval
  obtain ⟨v0, vs0, d0, ds0, p0, q0, hargs, rfl, rfl, h0, r0⟩ := trodAll_cons hA
  obtain ⟨v1, vs1, d1, ds1, p1, q1, rfl, rfl, rfl, h1, r1⟩ := trodAll_cons r0
  obtain ⟨v2, vs2, d2, ds2, p2, q2, rfl, rfl, rfl, h2, r2⟩ := trodAll_cons r1
  obtain ⟨v3, vs3, d3, ds3, p3, q3, rfl, rfl, rfl, h3, r3⟩ := trodAll_cons r2
  obtain ⟨v4, vs4, d4, ds4, p4, q4, rfl, rfl, rfl, h4, r4⟩ := trodAll_cons r3
  obtain ⟨rfl, rfl, rfl⟩ := trodAll_nil r4
  obtain rfl : args = #[v0, v1, v2, v3, v4] := by cases args; simp_all
  obtain ⟨rfl, rfl⟩ := trodVars_none hV
  obtain ⟨a0, rfl, rfl, rfl, w0⟩ := open_int Try.underlying3 (hval 0 3 v0 rfl rfl) h0
  have k1 := h1
  have lt1 : ∀ x ∈ p1, x.block < W.heap.size := by obtain ⟨m, hm⟩ := k1; exact DataW.trod_lt m _ _ _ hm
  obtain ⟨s_1, sh_1, m_1, A_1, c_1, l_1, rfl, hc_1, hr_1, ws_1, wsh_1, wm_1, wl_1⟩ := HI.open_info (hval 1 24 v1 rfl rfl) h1
  have k2 := h2
  have lt2 : ∀ x ∈ p2, x.block < W.heap.size := by obtain ⟨m, hm⟩ := k2; exact DataW.trod_lt m _ _ _ hm
  obtain ⟨A_2, c_2, l_2, rfl, hc_2, hr_2, wl_2⟩ := HI.open_bytes (hval 2 42 v2 rfl rfl) h2
  have k3 := h3
  have lt3 : ∀ x ∈ p3, x.block < W.heap.size := by obtain ⟨m, hm⟩ := k3; exact DataW.trod_lt m _ _ _ hm
  obtain ⟨A_3, c_3, l_3, rfl, hc_3, hr_3, wl_3⟩ := HI.open_bytes (hval 3 42 v3 rfl rfl) h3
  obtain ⟨a4, rfl, rfl, rfl, w4⟩ := open_int Try.underlying3 (hval 4 3 v4 rfl rfl) h4
  refine (Wk.InfoBack W a0 s_1 sh_1 m_1 A_1 c_1 l_1 A_2 c_2 l_2 A_3 c_3 l_3 a4 w0 hc_1 hr_1 ws_1 wsh_1 wm_1 wl_1 hc_2 hr_2 wl_2 hc_3 hr_3 wl_3 w4).mono fun e W' ⟨he, bel⟩ => ?_
  subst he
  exact ⟨_, rfl, _, _, _, [], _, [], hW', trodAll_mk1 (shut_bool Try.underlying4 _), (trodAll_cons_mk (shut_int Try.underlying3 w0) (trodAll_cons_mk (Below.trod laidOut (by kernel_rfl) (of_decide_eq_true (by kernel_rfl)) k1 bel lt1) (trodAll_cons_mk (Below.trod laidOut (by kernel_rfl) (of_decide_eq_true (by kernel_rfl)) k2 bel lt2) (trodAll_cons_mk (Below.trod laidOut (by kernel_rfl) (of_decide_eq_true (by kernel_rfl)) k3 bel lt3) (trodAll_cons_mk (shut_int Try.underlying3 w4) trodAll_mk0))))), rfl, bel.frame _, fun h => by cases h⟩
theorem over : Rows.infoBackRow.holds Try.pinned (OpenSpec.ofChange Rows.infoBackSpec) :=
  OpenClaim.holds_of_wide 8 Try.f8 rfl rfl rfl rfl rfl rfl rfl ⟨rfl, rfl, rfl, rfl, rfl⟩ rfl rfl rfl rfl rfl (by kernel_rfl) Try.func8 (by kernel_rfl)
    (of_decide_eq_true (by kernel_rfl)) (by unfold Func.isWrapper; first | (rw [if_pos (by decide +kernel)]; kernel_rfl) | (rw [if_neg (by decide +kernel)]; exact ⟨rfl, rfl⟩))
    (fun os started H enc _ => lifted os started H enc)
theorem proved : Rows.InfoBackSaid := over
#print axioms proved
end Go.Proofs.Ytdoeclpbobjgdaa.infoBack
namespace Go.Proofs.Ytdoeclpbobjgdaa
/-- The row, under a short name, for the claim. -/
theorem infoBack_holds : Rows.InfoBackSaid := infoBack.proved
end Go.Proofs.Ytdoeclpbobjgdaa
end
