/- Texts of this session for the law SectBack, packed by wip/merge.py: part 3 of 3. Each section is one text; the law's own sentence stands over its section. -/
import Derived.Test.YtjdlochffpikbaaWWords
import Derived.Deep.Slices
import Derived.ChangeArms
import Derived.ChangeOld
import Derived.Carry
import Derived.ChangeSlices
import Derived.WideShapes
import Derived.Test.YtjdlochffpikbaaProg
import Derived.KernelRfl
import Derived.Test.YtjdlochffpikbaaRows
import Derived.WalkKit
import Derived.ProofKit
import Derived.OpenShut
import Derived.ShutString
import Derived.Below
import Derived.SizedLaws
import Derived.Test.YtjdlochffpikbaaYSectBack1
import Derived.Test.YtjdlochffpikbaaYSectBack2
section
-- Written for this claim by this session's own wip/hook.py (it runs the kit's print and takes some functions' contracts as given texts of this session's).
namespace Go.Proofs.Ytjdlochffpikbaa.K
open Go.RowKit Go.Proofs.YtjdlochffpikbaaW.PrintWords Go.Proofs.YtjdlochffpikbaaW.PrintLast Go.Proofs.YtjdlochffpikbaaW.PrintMore
attribute [local go_sem] max2_int min2_int max_two min_two max_three min_three max_four min_four   -- for this text's walks alone
set_option linter.unusedVariables false
set_option linter.unusedSimpArgs false

/-! ### reedpipelaw19_SectBack: function 6 -/
mutual
def reedpipelaw19_SectBack.j0 : Nat → List (List (S49)) → List Int → List Int → Int → Bool → Bool → Int → Int → Int → List Int → Option (Bool)
  | 0, _, _, _, _, _, _, _, _, _, _ => none
  | k + 1, x1, x2, x3, x4, x11, x44, x410000, x410001, x410002, x410003 => if x44 = true then (some x11) else ((sect_Put.f ([] : List Int) x410000 x410001 x410002 x410003 x1).bind fun bt412 => ((sect_Check.f k x410000 x410001 x410002 x410003 x1).bind fun t416 => (if ((bt412.2 == 0) != (t416 == 0)) = true then (some false) else (if bt412.2 = 0 then ((some (([] : List Int) : List Int)).bind fun y417 => (if y417.length + bt412.1.length < 140737488355328 then ((some (y417 ++ bt412.1 : List Int)).bind fun y420 => (if y420.length + x2.length < 140737488355328 then ((sect_Get.f k (y420 ++ x2) 0 x410000 x410001 x410002 x410003).bind fun bt426 => (if bt426.2.2 = 0 then ((reedpiperef18_SameSections.f k bt426.1 x1).bind fun t431 => (if t431 = true then (if bt426.2.1 = (bt412.1.length : Int) then (reedpipelaw19_SectBack.j1 k x3 x4 x410000 x410001 x410002 x410003) else (some false)) else (some false))) else (some false))) else (none))) else (none))) else (reedpipelaw19_SectBack.j1 k x3 x4 x410000 x410001 x410002 x410003)))))
def reedpipelaw19_SectBack.j1 : Nat → List Int → Int → Int → Int → Int → List Int → Option (Bool)
  | 0, _, _, _, _, _, _ => none
  | k + 1, x3, x4, x410000, x410001, x410002, x410003 => (sect_Get.f k x3 x4 x410000 x410001 x410002 x410003).bind fun bt432 => (if bt432.2.2 = 0 then ((sect_Put.f ([] : List Int) x410000 x410001 x410002 x410003 bt432.1).bind fun bt437 => (if bt437.2 = 0 then (if 0 ≤ x4 then (if x4 ≤ bt432.2.1 then (if bt432.2.1 ≤ (x3.length : Int) then (some ((strOfNums bt437.1).toList == (strOfNums ((x3.take (bt432.2.1 : Int).toNat).drop (x4 : Int).toNat)).toList)) else (none)) else (none)) else (none)) else (some false))) else (if (bt432.1.length : Int) = 0 then (some (bt432.2.1 == 0)) else (some false)))
end
def reedpipelaw19_SectBack.f (k : Nat) (a0_0 : Int) (a0_1 : Int) (a0_2 : Int) (l0_3 : List Int) (l1 : List (List (S49))) (l2 : List Int) (l3 : List Int) (a4 : Int) : Option (Bool) := (reedpipelaw19_alive.f).bind fun t410 => (if (l0_3.length : Int) > 1000 then (reedpipelaw19_SectBack.j0 k l1 l2 l3 a4 t410 true a0_0 a0_1 a0_2 l0_3) else ((reedpiperef19_Great.f k l1).bind fun t411 => (if t411 = true then (reedpipelaw19_SectBack.j0 k l1 l2 l3 a4 t410 true a0_0 a0_1 a0_2 l0_3) else (if (l2.length : Int) > 10000 then (reedpipelaw19_SectBack.j0 k l1 l2 l3 a4 t410 true a0_0 a0_1 a0_2 l0_3) else (if (l3.length : Int) > 10000 then (reedpipelaw19_SectBack.j0 k l1 l2 l3 a4 t410 true a0_0 a0_1 a0_2 l0_3) else (reedpipelaw19_SectBack.j0 k l1 l2 l3 a4 t410 (!t410) a0_0 a0_1 a0_2 l0_3))))))
theorem reedpipelaw19_SectBack.mono_l : ∀ k, (∀ y0 y1 y2 y3 y4 y5 y6 y7 y8 y9, LeO (reedpipelaw19_SectBack.j0 k y0 y1 y2 y3 y4 y5 y6 y7 y8 y9) (reedpipelaw19_SectBack.j0 (k + 1) y0 y1 y2 y3 y4 y5 y6 y7 y8 y9)) ∧ (∀ y0 y1 y2 y3 y4 y5, LeO (reedpipelaw19_SectBack.j1 k y0 y1 y2 y3 y4 y5) (reedpipelaw19_SectBack.j1 (k + 1) y0 y1 y2 y3 y4 y5))
  | 0 => ⟨fun _ _ _ _ _ _ _ _ _ _ r h => by simp [reedpipelaw19_SectBack.j0] at h, fun _ _ _ _ _ _ r h => by simp [reedpipelaw19_SectBack.j1] at h⟩
  | k + 1 => by
    obtain ⟨ih0, ih1⟩ := reedpipelaw19_SectBack.mono_l k
    refine ⟨?_, ?_⟩
    · intro y0 y1 y2 y3 y4 y5 y6 y7 y8 y9
      unfold reedpipelaw19_SectBack.j0
      repeat' first
      | (with_reducible exact ih0 _ _ _ _ _ _ _ _ _ _)
      | (with_reducible exact ih1 _ _ _ _ _ _)
      | (with_reducible exact reedpiperef18_SameSections.mono _ _ _)
      | (with_reducible exact reedpiperef19_Great.mono _ _)
      | (with_reducible exact sect_Check.mono _ _ _ _ _ _)
      | (with_reducible exact sect_Get.mono _ _ _ _ _ _ _)
      | (with_reducible exact LeO.refl _)
      | (with_reducible exact LeO.none _)
      | (with_reducible refine LeO.ite ?_ ?_)
      | (with_reducible refine LeO.bind ?_ (fun _ => ?_))
      | exact ih0 _ _ _ _ _ _ _ _ _ _
      | exact ih1 _ _ _ _ _ _
      | exact reedpiperef18_SameSections.mono _ _ _
      | exact reedpiperef19_Great.mono _ _
      | exact sect_Check.mono _ _ _ _ _ _
      | exact sect_Get.mono _ _ _ _ _ _ _
      | exact LeO.none _
      | refine LeO.ite ?_ ?_
      | refine LeO.bind ?_ (fun _ => ?_)
    · intro y0 y1 y2 y3 y4 y5
      unfold reedpipelaw19_SectBack.j1
      repeat' first
      | (with_reducible exact ih0 _ _ _ _ _ _ _ _ _ _)
      | (with_reducible exact ih1 _ _ _ _ _ _)
      | (with_reducible exact reedpiperef18_SameSections.mono _ _ _)
      | (with_reducible exact reedpiperef19_Great.mono _ _)
      | (with_reducible exact sect_Check.mono _ _ _ _ _ _)
      | (with_reducible exact sect_Get.mono _ _ _ _ _ _ _)
      | (with_reducible exact LeO.refl _)
      | (with_reducible exact LeO.none _)
      | (with_reducible refine LeO.ite ?_ ?_)
      | (with_reducible refine LeO.bind ?_ (fun _ => ?_))
      | exact ih0 _ _ _ _ _ _ _ _ _ _
      | exact ih1 _ _ _ _ _ _
      | exact reedpiperef18_SameSections.mono _ _ _
      | exact reedpiperef19_Great.mono _ _
      | exact sect_Check.mono _ _ _ _ _ _
      | exact sect_Get.mono _ _ _ _ _ _ _
      | exact LeO.none _
      | refine LeO.ite ?_ ?_
      | refine LeO.bind ?_ (fun _ => ?_)
theorem reedpipelaw19_SectBack.mono : ∀ a0 a1 a2 a3 a4 a5 a6 a7 k, LeO (reedpipelaw19_SectBack.f k a0 a1 a2 a3 a4 a5 a6 a7) (reedpipelaw19_SectBack.f (k + 1) a0 a1 a2 a3 a4 a5 a6 a7) := by
  intro a0 a1 a2 a3 a4 a5 a6 a7 k
  obtain ⟨ih0, ih1⟩ := reedpipelaw19_SectBack.mono_l k
  unfold reedpipelaw19_SectBack.f
  repeat' first
      | (with_reducible exact ih0 _ _ _ _ _ _ _ _ _ _)
      | (with_reducible exact ih1 _ _ _ _ _ _)
      | (with_reducible exact reedpiperef18_SameSections.mono _ _ _)
      | (with_reducible exact reedpiperef19_Great.mono _ _)
      | (with_reducible exact sect_Check.mono _ _ _ _ _ _)
      | (with_reducible exact sect_Get.mono _ _ _ _ _ _ _)
      | (with_reducible exact LeO.refl _)
      | (with_reducible exact LeO.none _)
      | (with_reducible refine LeO.ite ?_ ?_)
      | (with_reducible refine LeO.bind ?_ (fun _ => ?_))
      | exact ih0 _ _ _ _ _ _ _ _ _ _
      | exact ih1 _ _ _ _ _ _
      | exact reedpiperef18_SameSections.mono _ _ _
      | exact reedpiperef19_Great.mono _ _
      | exact sect_Check.mono _ _ _ _ _ _
      | exact sect_Get.mono _ _ _ _ _ _ _
      | exact LeO.none _
      | refine LeO.ite ?_ ?_
      | refine LeO.bind ?_ (fun _ => ?_)
def reedpipelaw19_SectBack.T8 : Bool × List (List Nat × List Nat) := (true, [([], []), ([], []), ([0, 1], [0, 1]), ([], []), ([2, 3, 2], [2, 3]), ([], []), ([4, 5, 4], [4, 5]), ([6], [6]), ([7], [7]), ([7], [7]), ([7], [7]), ([8, 6, 0, 1, 2, 3, 4, 5, 6, 7, 8], [8]), ([9, 11, 0, 1, 2, 3, 4, 5, 6, 7, 8, 9, 11], [9]), ([10, 12, 0, 1, 2, 3, 4, 5, 6, 7, 8, 9, 10, 11, 12], [10])])
def reedpipelaw19_SectBack.B8 : List Nat := [0, 0, 3, 0, 15, 0, 63, 127, 255, 255, 255, 511, 3071, 8191]
theorem reedpipelaw19_SectBack.tab8 : rtab .any (opsOf Try.f6 8) = reedpipelaw19_SectBack.T8 := by kernel_rfl
theorem reedpipelaw19_SectBack.bits8 : waitsOk reedpipelaw19_SectBack.T8.2 reedpipelaw19_SectBack.B8 = true := by kernel_rfl
def reedpipelaw19_SectBack.T15 : Bool × List (List Nat × List Nat) := (true, [([], []), ([0], [0]), ([1], [1]), ([2], [2]), ([3, 2], [2, 3]), ([2], [2]), ([2], [2]), ([2], [2]), ([5, 6, 7, 2], [2, 5, 6, 7]), ([8, 2], [2, 8]), ([4, 9, 2], [2, 4, 9]), ([2, 10], [2, 10]), ([11, 2, 0, 1, 2, 3, 4, 5, 6, 7, 8, 9, 10, 11], [11])])
def reedpipelaw19_SectBack.B15 : List Nat := [0, 1, 3, 7, 15, 7, 7, 7, 231, 487, 1023, 2047, 4095]
theorem reedpipelaw19_SectBack.tab15 : rtab .any (opsOf Try.f6 15) = reedpipelaw19_SectBack.T15 := by kernel_rfl
theorem reedpipelaw19_SectBack.bits15 : waitsOk reedpipelaw19_SectBack.T15.2 reedpipelaw19_SectBack.B15 = true := by kernel_rfl
set_option maxHeartbeats 8000000 in
set_option maxRecDepth 100000 in
theorem reedpipelaw19_SectBack.calls (k : Nat) (a0_0 : Int) (a0_1 : Int) (a0_2 : Int) (A0_3 : Option Addr) (c0_3 : Nat) (l0_3 : List Int) (A1 : Option Addr) (c1 : Nat) (l1 : List (List (S49))) (A2 : Option Addr) (c2 : Nat) (l2 : List Int) (A3 : Option Addr) (c3 : Nat) (l3 : List Int) (a4 : Int) (r : Bool) (w : World) (hr0_3 : Kd.C (Kd.int .i64) w A0_3 l0_3.length l0_3) (hc0_3 : l0_3.length ≤ c0_3) (hr1 : Kd.C (Kd.slice 49 k49) w A1 l1.length l1) (hc1 : l1.length ≤ c1) (hr2 : Kd.C (Kd.int .u8) w A2 l2.length l2) (hc2 : l2.length ≤ c2) (hr3 : Kd.C (Kd.int .u8) w A3 l3.length l3) (hc3 : l3.length ≤ c3) (h : reedpipelaw19_SectBack.f k a0_0 a0_1 a0_2 l0_3 l1 l2 l3 a4 = some r) :
    Calls Try.prog 6 #[.agg #[.int .u8 a0_0, .int .u8 a0_1, .int .i64 a0_2, .slice A0_3 l0_3.length c0_3], .slice A1 l1.length c1, .slice A2 l2.length c2, .slice A3 l3.length c3, .int .i64 a4] w fun e w' => e = .returned (.bool r) ∧ Below w.heap.size w w' := by
  have hu24 := Try.underlying24
  have HR0_3 := Aside0.mk hr0_3
  have HC0_3 := Aside0.mk hc0_3
  clear hr0_3 hc0_3
  have HR1 := Aside0.mk hr1
  have HC1 := Aside0.mk hc1
  clear hr1 hc1
  have HR2 := Aside0.mk hr2
  have HC2 := Aside0.mk hc2
  clear hr2 hc2
  have HR3 := Aside0.mk hr3
  have HC3 := Aside0.mk hc3
  clear hr3 hc3
  have HB := Aside0.mk (Below.refl w.heap.size w)
  have H : ((reedpipelaw19_alive.f).bind fun t410 => (if (l0_3.length : Int) > 1000 then (reedpipelaw19_SectBack.j0 k l1 l2 l3 a4 t410 true a0_0 a0_1 a0_2 l0_3) else ((reedpiperef19_Great.f k l1).bind fun t411 => (if t411 = true then (reedpipelaw19_SectBack.j0 k l1 l2 l3 a4 t410 true a0_0 a0_1 a0_2 l0_3) else (if (l2.length : Int) > 10000 then (reedpipelaw19_SectBack.j0 k l1 l2 l3 a4 t410 true a0_0 a0_1 a0_2 l0_3) else (if (l3.length : Int) > 10000 then (reedpipelaw19_SectBack.j0 k l1 l2 l3 a4 t410 true a0_0 a0_1 a0_2 l0_3) else (reedpipelaw19_SectBack.j0 k l1 l2 l3 a4 t410 (!t410) a0_0 a0_1 a0_2 l0_3))))))) = some r := h
  clear h
  replace H := Option.bind_eq_some_iff.mp H
  obtain ⟨t410, A60, H⟩ := H
  replace H : (if (l0_3.length : Int) > 1000 then (reedpipelaw19_SectBack.j0 k l1 l2 l3 a4 t410 true a0_0 a0_1 a0_2 l0_3) else ((reedpiperef19_Great.f k l1).bind fun t411 => (if t411 = true then (reedpipelaw19_SectBack.j0 k l1 l2 l3 a4 t410 true a0_0 a0_1 a0_2 l0_3) else (if (l2.length : Int) > 10000 then (reedpipelaw19_SectBack.j0 k l1 l2 l3 a4 t410 true a0_0 a0_1 a0_2 l0_3) else (if (l3.length : Int) > 10000 then (reedpipelaw19_SectBack.j0 k l1 l2 l3 a4 t410 true a0_0 a0_1 a0_2 l0_3) else (reedpipelaw19_SectBack.j0 k l1 l2 l3 a4 t410 (!t410) a0_0 a0_1 a0_2 l0_3)))))) = some r := H
  have A6 := Aside0.mk A60
  clear A60
  have HC7 := Aside0.mk H
  clear H
  go_enter Try.func6, Try.ntmps6
  go_upto_region 2 with (first | ((with_reducible refine gate_dst (N := 5) rfl ?_); (try (refine gate_guard (by rfl) ?_; dsimp only)); refine box_event ?hg (N := 5) ?hd (cs := #[.int .u8 a0_0, .int .u8 a0_1, .int .i64 a0_2, .slice A0_3 l0_3.length c0_3]) (t := 24) ?hr ?_; (case hd => rfl); (case hg => rfl); (case hr => first | (go_simp; done) | (go_simp; rfl)); intro gb409 hg w8 hbox hb; have n0_ := Aside0.mk (below_step (by repeat (first | (with_reducible first | exact HB.out | apply below_alloc | apply pw_below_drewN | apply below_drew1) | exact HB.out)) hb); have n1_ := Aside0.mk (hbox); have n2_ := Aside0.mk ((by rw [hg]; exact (below_size (by repeat (first | (with_reducible first | exact HB.out | apply below_alloc | apply pw_below_drewN | apply below_drew1) | exact HB.out))) : w.heap.size ≤ gb409)); have n3_ := Aside0.mk ((by rw [hg]; exact (below_size (by repeat (first | (with_reducible first | exact HB.out | apply below_alloc | apply pw_below_drewN | apply below_drew1) | exact HB.out))) : w.heap.size ≤ gb409)); clear HB; have HB := n0_; have BK409 := n1_; have GW409 := n2_; have GE409 := n3_; clear n0_ n1_ n2_ n3_; clear hb hbox hg) | ((with_reducible refine gate_callee (f := 7) rfl ?_); refine goesL_ (some 22) rfl rfl Try.func7 (by kernel_rfl) rfl #[] rfl (by (try simp only [List.map_toArray, List.map_cons, List.map_nil]); first | done | rfl | (simp only [List.length_drop, List.length_take]; rfl)) ?_; (with_reducible refine (reedpipelaw19_alive.calls  t410 _ A6.out).mono ?_); rintro e w9 ⟨rfl, hb⟩; refine ⟨_, rfl, ?_⟩; have n0_ := Aside0.mk (blk_below (g := gb409) (o := .cells #[.int .u8 a0_0, .int .u8 a0_1, .int .i64 a0_2, .slice A0_3 l0_3.length c0_3] 24 (0, 0)) (by (with_reducible repeat (first | refine blk_drewN ?_ _ | refine blk_drew ?_ | refine blk_alloc ?_ _)); exact BK409.out) hb); have n1_ := Aside0.mk (below_step (by repeat (first | (with_reducible first | exact HB.out | apply below_alloc | apply pw_below_drewN | apply below_drew1 | refine below_set ?_ GE409.out) | exact HB.out)) hb); clear BK409; clear HB; have BK409 := n0_; have HB := n1_; clear n0_ n1_; (try clear hb); (try clear hb2); (try clear hk); (try clear hi)))
  (try simp only [Act.put, List.setIfInBounds_toArray, List.set_cons_zero, List.set_cons_succ])
  go_cut [44] (fun v44 wc => ∃ (kq : Nat) (x44_6 : Bool), v44 = .bool x44_6 ∧ Aside0 (reedpipelaw19_SectBack.j0 kq l1 l2 l3 a4 t410 x44_6 a0_0 a0_1 a0_2 l0_3 = some r) ∧ Aside0 (kq ≤ k) ∧ Aside0 (wc.heap[gb409]? = some (.cells #[.int .u8 a0_0, .int .u8 a0_1, .int .i64 a0_2, (.slice A0_3 l0_3.length c0_3)] 24 (0, 0))) ∧ Aside0 (Below w.heap.size w wc))
  case first =>
    have H := HC7.out
    clear HC7
    by_cases c10 : (l0_3.length : Int) > 1000
    · rw [if_pos c10] at H
      have c10b0 : decide (1000 < (l0_3.length : Int)) = true := decide_eq_true c10
      have c10b1 : decide (1000 < l0_3.length) = true := decide_eq_true (by omega)
      clear c10
      (first | rw [c10b0] | (simp only [i64_w, i32_w]; rw [c10b0]) | skip)
      have H' := Aside0.mk H
      clear H
      have hcz11_0 : w9.cell? ⟨gb409, 0, none⟩ = some (.int .u8 a0_0) := (blk_cell BK409.out 0).trans rfl
      have hcz11_1 : w9.cell? ⟨gb409, 1, none⟩ = some (.int .u8 a0_1) := (blk_cell BK409.out 1).trans rfl
      have hcz11_2 : w9.cell? ⟨gb409, 2, none⟩ = some (.int .i64 a0_2) := (blk_cell BK409.out 2).trans rfl
      have hcz11_3 : w9.cell? ⟨gb409, 3, none⟩ = some (.slice A0_3 l0_3.length c0_3) := (blk_cell BK409.out 3).trans rfl
      have hfz11_0 := blk_frozen BK409.out 0
      have hfz11_1 := blk_frozen BK409.out 1
      have hfz11_2 := blk_frozen BK409.out 2
      have hfz11_3 := blk_frozen BK409.out 3
      go_wp2
      go_meet
      case rel => exact ⟨_, (true), (by first | rfl | (simp; done) | (simp [*]; done)), H', ⟨by first | omega | exact Nat.le_refl _⟩, ⟨by (with_reducible repeat (first | refine blk_drewN ?_ _ | refine blk_drew ?_ | refine blk_alloc ?_ _)); exact BK409.out⟩, ⟨by repeat (first | (with_reducible first | exact HB.out | apply below_alloc | apply pw_below_drewN | apply below_drew1 | refine below_set ?_ GE409.out) | exact HB.out)⟩⟩
    · rw [if_neg c10] at H
      have c10b0 : decide (1000 < (l0_3.length : Int)) = false := decide_eq_false c10
      have c10b1 : decide (1000 < l0_3.length) = false := decide_eq_false (by omega)
      clear c10
      (first | rw [c10b0] | (simp only [i64_w, i32_w]; rw [c10b0]) | skip)
      replace H := Option.bind_eq_some_iff.mp H
      obtain ⟨t411, A120, H⟩ := H
      replace H : (if t411 = true then (reedpipelaw19_SectBack.j0 k l1 l2 l3 a4 t410 true a0_0 a0_1 a0_2 l0_3) else (if (l2.length : Int) > 10000 then (reedpipelaw19_SectBack.j0 k l1 l2 l3 a4 t410 true a0_0 a0_1 a0_2 l0_3) else (if (l3.length : Int) > 10000 then (reedpipelaw19_SectBack.j0 k l1 l2 l3 a4 t410 true a0_0 a0_1 a0_2 l0_3) else (reedpipelaw19_SectBack.j0 k l1 l2 l3 a4 t410 (!t410) a0_0 a0_1 a0_2 l0_3)))) = some r := H
      have A12 := Aside0.mk A120
      clear A120
      by_cases c13 : t411 = true
      · subst c13
        have H1 : (reedpipelaw19_SectBack.j0 k l1 l2 l3 a4 t410 true a0_0 a0_1 a0_2 l0_3) = some r := by rw [if_pos rfl] at H; exact H
        clear H
        have H := H1
        clear H1
        have H' := Aside0.mk H
        clear H
        have hcz14_0 : w9.cell? ⟨gb409, 0, none⟩ = some (.int .u8 a0_0) := (blk_cell BK409.out 0).trans rfl
        have hcz14_1 : w9.cell? ⟨gb409, 1, none⟩ = some (.int .u8 a0_1) := (blk_cell BK409.out 1).trans rfl
        have hcz14_2 : w9.cell? ⟨gb409, 2, none⟩ = some (.int .i64 a0_2) := (blk_cell BK409.out 2).trans rfl
        have hcz14_3 : w9.cell? ⟨gb409, 3, none⟩ = some (.slice A0_3 l0_3.length c0_3) := (blk_cell BK409.out 3).trans rfl
        have hfz14_0 := blk_frozen BK409.out 0
        have hfz14_1 := blk_frozen BK409.out 1
        have hfz14_2 := blk_frozen BK409.out 2
        have hfz14_3 := blk_frozen BK409.out 3
        go_wp2_with (first | (go_at_call 8; (with_reducible refine (reedpiperef19_Great.calls k _ _ l1 true _ ?side1 ?side2 A12.out).mono ?_); (case side1 => repeat (first | exact (Kd.C_below HR1.out HB.out) | (with_reducible refine Kd.C_alloc ?_ _) | (with_reducible refine Kd.C_drewN ?_ _) | (with_reducible refine Kd.C_drew ?_))); (case side2 => exact HC1.out); rintro e w' ⟨rfl, ⟨nd, rfl⟩⟩))
        go_meet
        case rel => exact ⟨_, (true), (by first | rfl | (simp; done) | (simp [*]; done)), H', ⟨by first | omega | exact Nat.le_refl _⟩, ⟨by (with_reducible repeat (first | refine blk_drewN ?_ _ | refine blk_drew ?_ | refine blk_alloc ?_ _)); exact BK409.out⟩, ⟨by repeat (first | (with_reducible first | exact HB.out | apply below_alloc | apply pw_below_drewN | apply below_drew1 | refine below_set ?_ GE409.out) | exact HB.out)⟩⟩
      · replace c13 := Bool.eq_false_iff.mpr c13
        subst c13
        have H1 : (if (l2.length : Int) > 10000 then (reedpipelaw19_SectBack.j0 k l1 l2 l3 a4 t410 true a0_0 a0_1 a0_2 l0_3) else (if (l3.length : Int) > 10000 then (reedpipelaw19_SectBack.j0 k l1 l2 l3 a4 t410 true a0_0 a0_1 a0_2 l0_3) else (reedpipelaw19_SectBack.j0 k l1 l2 l3 a4 t410 (!t410) a0_0 a0_1 a0_2 l0_3))) = some r := by rw [if_neg (show ¬ (false = true) by decide)] at H; exact H
        clear H
        have H := H1
        clear H1
        by_cases c15 : (l2.length : Int) > 10000
        · rw [if_pos c15] at H
          have c15b0 : decide (10000 < (l2.length : Int)) = true := decide_eq_true c15
          have c15b1 : decide (10000 < l2.length) = true := decide_eq_true (by omega)
          clear c15
          have H' := Aside0.mk H
          clear H
          have hcz16_0 : w9.cell? ⟨gb409, 0, none⟩ = some (.int .u8 a0_0) := (blk_cell BK409.out 0).trans rfl
          have hcz16_1 : w9.cell? ⟨gb409, 1, none⟩ = some (.int .u8 a0_1) := (blk_cell BK409.out 1).trans rfl
          have hcz16_2 : w9.cell? ⟨gb409, 2, none⟩ = some (.int .i64 a0_2) := (blk_cell BK409.out 2).trans rfl
          have hcz16_3 : w9.cell? ⟨gb409, 3, none⟩ = some (.slice A0_3 l0_3.length c0_3) := (blk_cell BK409.out 3).trans rfl
          have hfz16_0 := blk_frozen BK409.out 0
          have hfz16_1 := blk_frozen BK409.out 1
          have hfz16_2 := blk_frozen BK409.out 2
          have hfz16_3 := blk_frozen BK409.out 3
          go_wp2_with (first | (go_at_call 8; (with_reducible refine (reedpiperef19_Great.calls k _ _ l1 false _ ?side1 ?side2 A12.out).mono ?_); (case side1 => repeat (first | exact (Kd.C_below HR1.out HB.out) | (with_reducible refine Kd.C_alloc ?_ _) | (with_reducible refine Kd.C_drewN ?_ _) | (with_reducible refine Kd.C_drew ?_))); (case side2 => exact HC1.out); rintro e w' ⟨rfl, ⟨nd, rfl⟩⟩))
          go_meet
          case rel => exact ⟨_, (true), (by first | rfl | (simp; done) | (simp [*]; done)), H', ⟨by first | omega | exact Nat.le_refl _⟩, ⟨by (with_reducible repeat (first | refine blk_drewN ?_ _ | refine blk_drew ?_ | refine blk_alloc ?_ _)); exact BK409.out⟩, ⟨by repeat (first | (with_reducible first | exact HB.out | apply below_alloc | apply pw_below_drewN | apply below_drew1 | refine below_set ?_ GE409.out) | exact HB.out)⟩⟩
        · rw [if_neg c15] at H
          have c15b0 : decide (10000 < (l2.length : Int)) = false := decide_eq_false c15
          have c15b1 : decide (10000 < l2.length) = false := decide_eq_false (by omega)
          clear c15
          by_cases c17 : (l3.length : Int) > 10000
          · rw [if_pos c17] at H
            have c17b0 : decide (10000 < (l3.length : Int)) = true := decide_eq_true c17
            have c17b1 : decide (10000 < l3.length) = true := decide_eq_true (by omega)
            clear c17
            have H' := Aside0.mk H
            clear H
            have hcz18_0 : w9.cell? ⟨gb409, 0, none⟩ = some (.int .u8 a0_0) := (blk_cell BK409.out 0).trans rfl
            have hcz18_1 : w9.cell? ⟨gb409, 1, none⟩ = some (.int .u8 a0_1) := (blk_cell BK409.out 1).trans rfl
            have hcz18_2 : w9.cell? ⟨gb409, 2, none⟩ = some (.int .i64 a0_2) := (blk_cell BK409.out 2).trans rfl
            have hcz18_3 : w9.cell? ⟨gb409, 3, none⟩ = some (.slice A0_3 l0_3.length c0_3) := (blk_cell BK409.out 3).trans rfl
            have hfz18_0 := blk_frozen BK409.out 0
            have hfz18_1 := blk_frozen BK409.out 1
            have hfz18_2 := blk_frozen BK409.out 2
            have hfz18_3 := blk_frozen BK409.out 3
            go_wp2_with (first | (go_at_call 8; (with_reducible refine (reedpiperef19_Great.calls k _ _ l1 false _ ?side1 ?side2 A12.out).mono ?_); (case side1 => repeat (first | exact (Kd.C_below HR1.out HB.out) | (with_reducible refine Kd.C_alloc ?_ _) | (with_reducible refine Kd.C_drewN ?_ _) | (with_reducible refine Kd.C_drew ?_))); (case side2 => exact HC1.out); rintro e w' ⟨rfl, ⟨nd, rfl⟩⟩))
            go_meet
            case rel => exact ⟨_, (true), (by first | rfl | (simp; done) | (simp [*]; done)), H', ⟨by first | omega | exact Nat.le_refl _⟩, ⟨by (with_reducible repeat (first | refine blk_drewN ?_ _ | refine blk_drew ?_ | refine blk_alloc ?_ _)); exact BK409.out⟩, ⟨by repeat (first | (with_reducible first | exact HB.out | apply below_alloc | apply pw_below_drewN | apply below_drew1 | refine below_set ?_ GE409.out) | exact HB.out)⟩⟩
          · rw [if_neg c17] at H
            have c17b0 : decide (10000 < (l3.length : Int)) = false := decide_eq_false c17
            have c17b1 : decide (10000 < l3.length) = false := decide_eq_false (by omega)
            clear c17
            have H' := Aside0.mk H
            clear H
            have hcz19_0 : w9.cell? ⟨gb409, 0, none⟩ = some (.int .u8 a0_0) := (blk_cell BK409.out 0).trans rfl
            have hcz19_1 : w9.cell? ⟨gb409, 1, none⟩ = some (.int .u8 a0_1) := (blk_cell BK409.out 1).trans rfl
            have hcz19_2 : w9.cell? ⟨gb409, 2, none⟩ = some (.int .i64 a0_2) := (blk_cell BK409.out 2).trans rfl
            have hcz19_3 : w9.cell? ⟨gb409, 3, none⟩ = some (.slice A0_3 l0_3.length c0_3) := (blk_cell BK409.out 3).trans rfl
            have hfz19_0 := blk_frozen BK409.out 0
            have hfz19_1 := blk_frozen BK409.out 1
            have hfz19_2 := blk_frozen BK409.out 2
            have hfz19_3 := blk_frozen BK409.out 3
            go_wp2_with (first | (go_at_call 8; (with_reducible refine (reedpiperef19_Great.calls k _ _ l1 false _ ?side1 ?side2 A12.out).mono ?_); (case side1 => repeat (first | exact (Kd.C_below HR1.out HB.out) | (with_reducible refine Kd.C_alloc ?_ _) | (with_reducible refine Kd.C_drewN ?_ _) | (with_reducible refine Kd.C_drew ?_))); (case side2 => exact HC1.out); rintro e w' ⟨rfl, ⟨nd, rfl⟩⟩))
            go_meet
            case rel => exact ⟨_, (!t410), (by first | rfl | (simp; done) | (simp [*]; done)), H', ⟨by first | omega | exact Nat.le_refl _⟩, ⟨by (with_reducible repeat (first | refine blk_drewN ?_ _ | refine blk_drew ?_ | refine blk_alloc ?_ _)); exact BK409.out⟩, ⟨by repeat (first | (with_reducible first | exact HB.out | apply below_alloc | apply pw_below_drewN | apply below_drew1 | refine below_set ?_ GE409.out) | exact HB.out)⟩⟩
  case rest =>
    clear HC7
    try clear c1
    try clear c2
    try clear p2
    try clear c3
    try clear c6
    try clear c7
    try clear c10
    try clear c10b0
    try clear c10b1
    try clear c13
    try clear c15
    try clear c15b0
    try clear c15b1
    try clear c17
    try clear c17b0
    try clear c17b1
    try clear hcz11_0
    try clear hcz11_1
    try clear hcz11_2
    try clear hcz11_3
    try clear hcz14_0
    try clear hcz14_1
    try clear hcz14_2
    try clear hcz14_3
    try clear hcz16_0
    try clear hcz16_1
    try clear hcz16_2
    try clear hcz16_3
    try clear hcz18_0
    try clear hcz18_1
    try clear hcz18_2
    try clear hcz18_3
    try clear hcz19_0
    try clear hcz19_1
    try clear hcz19_2
    try clear hcz19_3
    try clear hfz11_0
    try clear hfz11_1
    try clear hfz11_2
    try clear hfz11_3
    try clear hfz14_0
    try clear hfz14_1
    try clear hfz14_2
    try clear hfz14_3
    try clear hfz16_0
    try clear hfz16_1
    try clear hfz16_2
    try clear hfz16_3
    try clear hfz18_0
    try clear hfz18_1
    try clear hfz18_2
    try clear hfz18_3
    try clear hfz19_0
    try clear hfz19_1
    try clear hfz19_2
    try clear hfz19_3
    obtain ⟨kq, x44_6, rfl, HA, HJ6, BK409, HB⟩ := hcut
    cases kq with
    | zero => exact absurd HA.out (by simp [reedpipelaw19_SectBack.j0])
    | succ kj6 =>
      have H := HA.out
      clear HA
      simp only [reedpipelaw19_SectBack.j0] at H
      by_cases c20 : x44_6 = true
      · subst c20
        have H1 : (some t410) = some r := by rw [if_pos rfl] at H; exact H
        clear H
        have H := H1
        clear H1
        obtain rfl := Option.some.inj H
        go_wp2
        go_ret
        exact ⟨by first | rfl | (simp [errW_none, errW_some] <;> rfl) | (simp [*, errW_none, errW_some] <;> rfl), by repeat (first | (with_reducible first | exact HB.out | apply below_alloc | apply pw_below_drewN | apply below_drew1 | refine below_set ?_ GE409.out) | exact HB.out)⟩
      · replace c20 := Bool.eq_false_iff.mpr c20
        subst c20
        have H1 : ((sect_Put.f ([] : List Int) a0_0 a0_1 a0_2 l0_3 l1).bind fun bt412 => ((sect_Check.f kj6 a0_0 a0_1 a0_2 l0_3 l1).bind fun t416 => (if ((bt412.2 == 0) != (t416 == 0)) = true then (some false) else (if bt412.2 = 0 then ((some (([] : List Int) : List Int)).bind fun y417 => (if y417.length + bt412.1.length < 140737488355328 then ((some (y417 ++ bt412.1 : List Int)).bind fun y420 => (if y420.length + l2.length < 140737488355328 then ((sect_Get.f kj6 (y420 ++ l2) 0 a0_0 a0_1 a0_2 l0_3).bind fun bt426 => (if bt426.2.2 = 0 then ((reedpiperef18_SameSections.f kj6 bt426.1 l1).bind fun t431 => (if t431 = true then (if bt426.2.1 = (bt412.1.length : Int) then (reedpipelaw19_SectBack.j1 kj6 l3 a4 a0_0 a0_1 a0_2 l0_3) else (some false)) else (some false))) else (some false))) else (none))) else (none))) else (reedpipelaw19_SectBack.j1 kj6 l3 a4 a0_0 a0_1 a0_2 l0_3))))) = some r := by rw [if_neg (show ¬ (false = true) by decide)] at H; exact H
        clear H
        have H := H1
        clear H1
        replace H := Option.bind_eq_some_iff.mp H
        obtain ⟨⟨t412, t415⟩, A210, H⟩ := H
        replace H : ((sect_Check.f kj6 a0_0 a0_1 a0_2 l0_3 l1).bind fun t416 => (if ((t415 == 0) != (t416 == 0)) = true then (some false) else (if t415 = 0 then ((some (([] : List Int) : List Int)).bind fun y417 => (if y417.length + t412.length < 140737488355328 then ((some (y417 ++ t412 : List Int)).bind fun y420 => (if y420.length + l2.length < 140737488355328 then ((sect_Get.f kj6 (y420 ++ l2) 0 a0_0 a0_1 a0_2 l0_3).bind fun bt426 => (if bt426.2.2 = 0 then ((reedpiperef18_SameSections.f kj6 bt426.1 l1).bind fun t431 => (if t431 = true then (if bt426.2.1 = (t412.length : Int) then (reedpipelaw19_SectBack.j1 kj6 l3 a4 a0_0 a0_1 a0_2 l0_3) else (some false)) else (some false))) else (some false))) else (none))) else (none))) else (reedpipelaw19_SectBack.j1 kj6 l3 a4 a0_0 a0_1 a0_2 l0_3)))) = some r := H
        have A21 := Aside0.mk A210
        clear A210
        replace H := Option.bind_eq_some_iff.mp H
        obtain ⟨t416, A220, H⟩ := H
        replace H : (if ((t415 == 0) != (t416 == 0)) = true then (some false) else (if t415 = 0 then ((some (([] : List Int) : List Int)).bind fun y417 => (if y417.length + t412.length < 140737488355328 then ((some (y417 ++ t412 : List Int)).bind fun y420 => (if y420.length + l2.length < 140737488355328 then ((sect_Get.f kj6 (y420 ++ l2) 0 a0_0 a0_1 a0_2 l0_3).bind fun bt426 => (if bt426.2.2 = 0 then ((reedpiperef18_SameSections.f kj6 bt426.1 l1).bind fun t431 => (if t431 = true then (if bt426.2.1 = (t412.length : Int) then (reedpipelaw19_SectBack.j1 kj6 l3 a4 a0_0 a0_1 a0_2 l0_3) else (some false)) else (some false))) else (some false))) else (none))) else (none))) else (reedpipelaw19_SectBack.j1 kj6 l3 a4 a0_0 a0_1 a0_2 l0_3))) = some r := H
        have A22 := Aside0.mk A220
        clear A220
        by_cases c23 : ((t415 == 0) != (t416 == 0)) = true
        · rw [if_pos c23] at H
          have c23b0 : ((t415 == 0) != (t416 == 0)) = true := c23
          (try (have c23b1 : decide ((t415 == 0) = (t416 == 0)) = false := by simpa using c23))
          (try (have c23b2 : ((t415 == 0) == (t416 == 0)) = false := by simpa using c23))
          (try (have c23b3 : ¬ ((t415 == 0) = (t416 == 0)) := by simpa using c23))
          clear c23
          obtain rfl := Option.some.inj H
          have hcz24_0 : wc.cell? ⟨gb409, 0, none⟩ = some (.int .u8 a0_0) := (blk_cell BK409.out 0).trans rfl
          have hcz24_1 : wc.cell? ⟨gb409, 1, none⟩ = some (.int .u8 a0_1) := (blk_cell BK409.out 1).trans rfl
          have hcz24_2 : wc.cell? ⟨gb409, 2, none⟩ = some (.int .i64 a0_2) := (blk_cell BK409.out 2).trans rfl
          have hcz24_3 : wc.cell? ⟨gb409, 3, none⟩ = some (.slice A0_3 l0_3.length c0_3) := (blk_cell BK409.out 3).trans rfl
          have hfz24_0 := blk_frozen BK409.out 0
          have hfz24_1 := blk_frozen BK409.out 1
          have hfz24_2 := blk_frozen BK409.out 2
          have hfz24_3 := blk_frozen BK409.out 3
          go_wp2_with (first | ((with_reducible refine gate_callee (f := 9) rfl ?_); refine goesL_ (some 49) rfl rfl Try.func9 (by kernel_rfl) rfl #[.slice none 0 0, .agg #[.int .u8 a0_0, .int .u8 a0_1, .int .i64 a0_2, .slice A0_3 l0_3.length c0_3], .slice A1 l1.length c1] rfl (by (try simp only [List.map_toArray, List.map_cons, List.map_nil]); first | done | rfl | (simp only [List.length_drop, List.length_take]; rfl)) ?_; (refine (sect_Put.calls _ _ ([] : List Int) a0_0 a0_1 a0_2 _ _ l0_3 _ _ l1 t412 t415 _ ?side1 ?side2 ?side3 ?side4 ?side5 ?side6 A21.out).mono ?_); (case side1 => exact Kd.C_nil _ _); (case side2 => exact Nat.le_refl _); (case side3 => repeat (first | exact (Kd.C_below HR0_3.out HB.out) | (with_reducible refine Kd.C_alloc ?_ _) | (with_reducible refine Kd.C_drewN ?_ _) | (with_reducible refine Kd.C_drew ?_))); (case side4 => exact HC0_3.out); (case side5 => repeat (first | exact (Kd.C_below HR1.out HB.out) | (with_reducible refine Kd.C_alloc ?_ _) | (with_reducible refine Kd.C_drewN ?_ _) | (with_reducible refine Kd.C_drew ?_))); (case side6 => exact HC1.out); rintro e w25 ⟨v413, rfl, ho0, hb⟩; refine ⟨_, rfl, ?_⟩; have n0_ := Aside0.mk (Kd.R_lower ho0 (below_size (by repeat (first | (with_reducible first | exact HB.out | apply below_alloc | apply pw_below_drewN | apply below_drew1 | refine below_set ?_ GE409.out) | exact HB.out)))); have n1_ := Aside0.mk (blk_below (g := gb409) (o := .cells #[.int .u8 a0_0, .int .u8 a0_1, .int .i64 a0_2, .slice A0_3 l0_3.length c0_3] 24 (0, 0)) (by (with_reducible repeat (first | refine blk_drewN ?_ _ | refine blk_drew ?_ | refine blk_alloc ?_ _)); exact BK409.out) hb); have n2_ := Aside0.mk (below_step (by repeat (first | (with_reducible first | exact HB.out | apply below_alloc | apply pw_below_drewN | apply below_drew1 | refine below_set ?_ GE409.out) | exact HB.out)) hb); clear BK409; clear HB; have HO414 := n0_; have BK409 := n1_; have HB := n2_; clear n0_ n1_ n2_; (try clear hb); (try clear hb2); (try clear hk); (try clear hi); (try clear ho0); have hcz26_0 : w25.cell? ⟨gb409, 0, none⟩ = some (.int .u8 a0_0) := (blk_cell BK409.out 0).trans rfl; have hcz26_1 : w25.cell? ⟨gb409, 1, none⟩ = some (.int .u8 a0_1) := (blk_cell BK409.out 1).trans rfl; have hcz26_2 : w25.cell? ⟨gb409, 2, none⟩ = some (.int .i64 a0_2) := (blk_cell BK409.out 2).trans rfl; have hcz26_3 : w25.cell? ⟨gb409, 3, none⟩ = some (.slice A0_3 l0_3.length c0_3) := (blk_cell BK409.out 3).trans rfl; have hfz26_0 := blk_frozen BK409.out 0; have hfz26_1 := blk_frozen BK409.out 1; have hfz26_2 := blk_frozen BK409.out 2; have hfz26_3 := blk_frozen BK409.out 3) | ((with_reducible refine gate_callee (f := 15) rfl ?_); refine goesL_ (some 56) rfl rfl Try.func15 (by kernel_rfl) rfl #[.agg #[.int .u8 a0_0, .int .u8 a0_1, .int .i64 a0_2, .slice A0_3 l0_3.length c0_3], .slice A1 l1.length c1] rfl (by (try simp only [List.map_toArray, List.map_cons, List.map_nil]); first | done | rfl | (simp only [List.length_drop, List.length_take]; rfl)) ?_; (with_reducible refine (sect_Check.calls kj6 a0_0 a0_1 a0_2 _ _ l0_3 _ _ l1 t416 _ ?side1 ?side2 ?side3 ?side4 A22.out).mono ?_); (case side1 => repeat (first | exact (Kd.C_below HR0_3.out HB.out) | (with_reducible refine Kd.C_alloc ?_ _) | (with_reducible refine Kd.C_drewN ?_ _) | (with_reducible refine Kd.C_drew ?_))); (case side2 => exact HC0_3.out); (case side3 => repeat (first | exact (Kd.C_below HR1.out HB.out) | (with_reducible refine Kd.C_alloc ?_ _) | (with_reducible refine Kd.C_drewN ?_ _) | (with_reducible refine Kd.C_drew ?_))); (case side4 => exact HC1.out); rintro e w27 ⟨rfl, hb⟩; refine ⟨_, rfl, ?_⟩; have n0_ := Aside0.mk (Kd.R_below (by (with_reducible repeat (first | apply Kd.R_alloc | apply Kd.R_drewN | apply Kd.R_drew)); exact HO414.out) hb); have n1_ := Aside0.mk (blk_below (g := gb409) (o := .cells #[.int .u8 a0_0, .int .u8 a0_1, .int .i64 a0_2, .slice A0_3 l0_3.length c0_3] 24 (0, 0)) (by (with_reducible repeat (first | refine blk_drewN ?_ _ | refine blk_drew ?_ | refine blk_alloc ?_ _)); exact BK409.out) hb); have n2_ := Aside0.mk (below_step (by repeat (first | (with_reducible first | exact HB.out | apply below_alloc | apply pw_below_drewN | apply below_drew1 | refine below_set ?_ GE409.out) | exact HB.out)) hb); clear HO414; clear BK409; clear HB; have HO414 := n0_; have BK409 := n1_; have HB := n2_; clear n0_ n1_ n2_; (try clear hb); (try clear hb2); (try clear hk); (try clear hi)))
          go_ret
          exact ⟨by first | rfl | (simp [errW_none, errW_some] <;> rfl) | (simp [*, errW_none, errW_some] <;> rfl), by repeat (first | (with_reducible first | exact HB.out | apply below_alloc | apply pw_below_drewN | apply below_drew1 | refine below_set ?_ GE409.out) | exact HB.out)⟩
        · rw [if_neg c23] at H
          have c23b0 : ((t415 == 0) != (t416 == 0)) = false := by simpa using c23
          (try (have c23b1 : decide ((t415 == 0) = (t416 == 0)) = true := by simpa using c23))
          (try (have c23b2 : ((t415 == 0) == (t416 == 0)) = true := by simpa using c23))
          clear c23
          have HC28 := Aside0.mk H
          clear H
          have hcz29_0 : wc.cell? ⟨gb409, 0, none⟩ = some (.int .u8 a0_0) := (blk_cell BK409.out 0).trans rfl
          have hcz29_1 : wc.cell? ⟨gb409, 1, none⟩ = some (.int .u8 a0_1) := (blk_cell BK409.out 1).trans rfl
          have hcz29_2 : wc.cell? ⟨gb409, 2, none⟩ = some (.int .i64 a0_2) := (blk_cell BK409.out 2).trans rfl
          have hcz29_3 : wc.cell? ⟨gb409, 3, none⟩ = some (.slice A0_3 l0_3.length c0_3) := (blk_cell BK409.out 3).trans rfl
          have hfz29_0 := blk_frozen BK409.out 0
          have hfz29_1 := blk_frozen BK409.out 1
          have hfz29_2 := blk_frozen BK409.out 2
          have hfz29_3 := blk_frozen BK409.out 3
          go_upto_if 60 with (first | ((with_reducible refine gate_callee (f := 9) rfl ?_); refine goesL_ (some 49) rfl rfl Try.func9 (by kernel_rfl) rfl #[.slice none 0 0, .agg #[.int .u8 a0_0, .int .u8 a0_1, .int .i64 a0_2, .slice A0_3 l0_3.length c0_3], .slice A1 l1.length c1] rfl (by (try simp only [List.map_toArray, List.map_cons, List.map_nil]); first | done | rfl | (simp only [List.length_drop, List.length_take]; rfl)) ?_; (refine (sect_Put.calls _ _ ([] : List Int) a0_0 a0_1 a0_2 _ _ l0_3 _ _ l1 t412 t415 _ ?side1 ?side2 ?side3 ?side4 ?side5 ?side6 A21.out).mono ?_); (case side1 => exact Kd.C_nil _ _); (case side2 => exact Nat.le_refl _); (case side3 => repeat (first | exact (Kd.C_below HR0_3.out HB.out) | (with_reducible refine Kd.C_alloc ?_ _) | (with_reducible refine Kd.C_drewN ?_ _) | (with_reducible refine Kd.C_drew ?_))); (case side4 => exact HC0_3.out); (case side5 => repeat (first | exact (Kd.C_below HR1.out HB.out) | (with_reducible refine Kd.C_alloc ?_ _) | (with_reducible refine Kd.C_drewN ?_ _) | (with_reducible refine Kd.C_drew ?_))); (case side6 => exact HC1.out); rintro e w30 ⟨v413, rfl, ho0, hb⟩; refine ⟨_, rfl, ?_⟩; have n0_ := Aside0.mk (Kd.R_lower ho0 (below_size (by repeat (first | (with_reducible first | exact HB.out | apply below_alloc | apply pw_below_drewN | apply below_drew1 | refine below_set ?_ GE409.out) | exact HB.out)))); have n1_ := Aside0.mk (blk_below (g := gb409) (o := .cells #[.int .u8 a0_0, .int .u8 a0_1, .int .i64 a0_2, .slice A0_3 l0_3.length c0_3] 24 (0, 0)) (by (with_reducible repeat (first | refine blk_drewN ?_ _ | refine blk_drew ?_ | refine blk_alloc ?_ _)); exact BK409.out) hb); have n2_ := Aside0.mk (below_step (by repeat (first | (with_reducible first | exact HB.out | apply below_alloc | apply pw_below_drewN | apply below_drew1 | refine below_set ?_ GE409.out) | exact HB.out)) hb); clear BK409; clear HB; have HO414 := n0_; have BK409 := n1_; have HB := n2_; clear n0_ n1_ n2_; (try clear hb); (try clear hb2); (try clear hk); (try clear hi); (try clear ho0); have hcz31_0 : w30.cell? ⟨gb409, 0, none⟩ = some (.int .u8 a0_0) := (blk_cell BK409.out 0).trans rfl; have hcz31_1 : w30.cell? ⟨gb409, 1, none⟩ = some (.int .u8 a0_1) := (blk_cell BK409.out 1).trans rfl; have hcz31_2 : w30.cell? ⟨gb409, 2, none⟩ = some (.int .i64 a0_2) := (blk_cell BK409.out 2).trans rfl; have hcz31_3 : w30.cell? ⟨gb409, 3, none⟩ = some (.slice A0_3 l0_3.length c0_3) := (blk_cell BK409.out 3).trans rfl; have hfz31_0 := blk_frozen BK409.out 0; have hfz31_1 := blk_frozen BK409.out 1; have hfz31_2 := blk_frozen BK409.out 2; have hfz31_3 := blk_frozen BK409.out 3) | ((with_reducible refine gate_callee (f := 15) rfl ?_); refine goesL_ (some 56) rfl rfl Try.func15 (by kernel_rfl) rfl #[.agg #[.int .u8 a0_0, .int .u8 a0_1, .int .i64 a0_2, .slice A0_3 l0_3.length c0_3], .slice A1 l1.length c1] rfl (by (try simp only [List.map_toArray, List.map_cons, List.map_nil]); first | done | rfl | (simp only [List.length_drop, List.length_take]; rfl)) ?_; (with_reducible refine (sect_Check.calls kj6 a0_0 a0_1 a0_2 _ _ l0_3 _ _ l1 t416 _ ?side1 ?side2 ?side3 ?side4 A22.out).mono ?_); (case side1 => repeat (first | exact (Kd.C_below HR0_3.out HB.out) | (with_reducible refine Kd.C_alloc ?_ _) | (with_reducible refine Kd.C_drewN ?_ _) | (with_reducible refine Kd.C_drew ?_))); (case side2 => exact HC0_3.out); (case side3 => repeat (first | exact (Kd.C_below HR1.out HB.out) | (with_reducible refine Kd.C_alloc ?_ _) | (with_reducible refine Kd.C_drewN ?_ _) | (with_reducible refine Kd.C_drew ?_))); (case side4 => exact HC1.out); rintro e w32 ⟨rfl, hb⟩; refine ⟨_, rfl, ?_⟩; have n0_ := Aside0.mk (Kd.R_below (by (with_reducible repeat (first | apply Kd.R_alloc | apply Kd.R_drewN | apply Kd.R_drew)); exact HO414.out) hb); have n1_ := Aside0.mk (blk_below (g := gb409) (o := .cells #[.int .u8 a0_0, .int .u8 a0_1, .int .i64 a0_2, .slice A0_3 l0_3.length c0_3] 24 (0, 0)) (by (with_reducible repeat (first | refine blk_drewN ?_ _ | refine blk_drew ?_ | refine blk_alloc ?_ _)); exact BK409.out) hb); have n2_ := Aside0.mk (below_step (by repeat (first | (with_reducible first | exact HB.out | apply below_alloc | apply pw_below_drewN | apply below_drew1 | refine below_set ?_ GE409.out) | exact HB.out)) hb); clear HO414; clear BK409; clear HB; have HO414 := n0_; have BK409 := n1_; have HB := n2_; clear n0_ n1_ n2_; (try clear hb); (try clear hb2); (try clear hk); (try clear hi)))
          (try simp only [Act.put, List.setIfInBounds_toArray, List.set_cons_zero, List.set_cons_succ])
          go_cut [] (fun wc => ∃ (kq : Nat), Aside0 (reedpipelaw19_SectBack.j1 kq l3 a4 a0_0 a0_1 a0_2 l0_3 = some r) ∧ Aside0 (kq ≤ kj6) ∧ Aside0 (wc.heap[gb409]? = some (.cells #[.int .u8 a0_0, .int .u8 a0_1, .int .i64 a0_2, (.slice A0_3 l0_3.length c0_3)] 24 (0, 0))) ∧ Aside0 (Below w.heap.size w wc))
          case first =>
            have H := HC28.out
            clear HC28
            by_cases c33 : t415 = 0
            · rw [if_pos c33] at H
              have c33b0 : (t415 == 0) = true := beq_iff_eq.mpr c33
              have c33b1 : (t415 != 0) = false := bne_eq_false_iff_eq.mpr c33
              clear c33
              (first | rw [c33b0] | (simp only [i64_w, i32_w]; rw [c33b0]) | skip)
              obtain ⟨y417, hy417⟩ : ∃ y_ : List Int, y_ = (([] : List Int)) := ⟨_, rfl⟩
              replace H : (if y417.length + t412.length < 140737488355328 then ((some (y417 ++ t412 : List Int)).bind fun y420 => (if y420.length + l2.length < 140737488355328 then ((sect_Get.f kj6 (y420 ++ l2) 0 a0_0 a0_1 a0_2 l0_3).bind fun bt426 => (if bt426.2.2 = 0 then ((reedpiperef18_SameSections.f kj6 bt426.1 l1).bind fun t431 => (if t431 = true then (if bt426.2.1 = (t412.length : Int) then (reedpipelaw19_SectBack.j1 kj6 l3 a4 a0_0 a0_1 a0_2 l0_3) else (some false)) else (some false))) else (some false))) else (none))) else (none)) = some r := by first | (rw [hy417]; with_reducible exact H) | (have H2_ := (Option.bind_some _ _).symm.trans H; rw [hy417]; with_reducible exact H2_) | (have H2_ := (Option.bind_some _ _).symm.trans H; with_reducible exact H2_) | with_reducible exact H | (rw [hy417]; exact H) | exact H
              have Ny417 := Aside0.mk hy417
              clear hy417
              by_cases c34 : y417.length + t412.length < 140737488355328
              · rw [if_pos c34] at H
                have LMc34 := Aside0.mk c34
                clear c34
                obtain ⟨y420, hy420⟩ : ∃ y_ : List Int, y_ = (y417 ++ t412) := ⟨_, rfl⟩
                replace H : (if y420.length + l2.length < 140737488355328 then ((sect_Get.f kj6 (y420 ++ l2) 0 a0_0 a0_1 a0_2 l0_3).bind fun bt426 => (if bt426.2.2 = 0 then ((reedpiperef18_SameSections.f kj6 bt426.1 l1).bind fun t431 => (if t431 = true then (if bt426.2.1 = (t412.length : Int) then (reedpipelaw19_SectBack.j1 kj6 l3 a4 a0_0 a0_1 a0_2 l0_3) else (some false)) else (some false))) else (some false))) else (none)) = some r := by first | (rw [hy420]; with_reducible exact H) | (have H2_ := (Option.bind_some _ _).symm.trans H; rw [hy420]; with_reducible exact H2_) | (have H2_ := (Option.bind_some _ _).symm.trans H; with_reducible exact H2_) | with_reducible exact H | (rw [hy420]; exact H) | exact H
                have Ny420 := Aside0.mk hy420
                clear hy420
                by_cases c35 : y420.length + l2.length < 140737488355328
                · rw [if_pos c35] at H
                  have LMc35 := Aside0.mk c35
                  clear c35
                  obtain ⟨y423, hy423⟩ : ∃ y_ : List Int, y_ = (y420 ++ l2) := ⟨_, rfl⟩
                  replace H : ((sect_Get.f kj6 y423 0 a0_0 a0_1 a0_2 l0_3).bind fun bt426 => (if bt426.2.2 = 0 then ((reedpiperef18_SameSections.f kj6 bt426.1 l1).bind fun t431 => (if t431 = true then (if bt426.2.1 = (t412.length : Int) then (reedpipelaw19_SectBack.j1 kj6 l3 a4 a0_0 a0_1 a0_2 l0_3) else (some false)) else (some false))) else (some false))) = some r := by first | (rw [hy423]; with_reducible exact H) | (have H2_ := (Option.bind_some _ _).symm.trans H; rw [hy423]; with_reducible exact H2_) | (have H2_ := (Option.bind_some _ _).symm.trans H; with_reducible exact H2_) | with_reducible exact H | (rw [hy423]; exact H) | exact H
                  have Ny423 := Aside0.mk hy423
                  clear hy423
                  replace H := Option.bind_eq_some_iff.mp H
                  obtain ⟨⟨t426, t429, t430⟩, A360, H⟩ := H
                  replace H : (if t430 = 0 then ((reedpiperef18_SameSections.f kj6 t426 l1).bind fun t431 => (if t431 = true then (if t429 = (t412.length : Int) then (reedpipelaw19_SectBack.j1 kj6 l3 a4 a0_0 a0_1 a0_2 l0_3) else (some false)) else (some false))) else (some false)) = some r := H
                  have A36 := Aside0.mk A360
                  clear A360
                  by_cases c37 : t430 = 0
                  · rw [if_pos c37] at H
                    have c37b0 : (t430 == 0) = true := beq_iff_eq.mpr c37
                    have c37b1 : (t430 != 0) = false := bne_eq_false_iff_eq.mpr c37
                    clear c37
                    replace H := Option.bind_eq_some_iff.mp H
                    obtain ⟨t431, A380, H⟩ := H
                    replace H : (if t431 = true then (if t429 = (t412.length : Int) then (reedpipelaw19_SectBack.j1 kj6 l3 a4 a0_0 a0_1 a0_2 l0_3) else (some false)) else (some false)) = some r := H
                    have A38 := Aside0.mk A380
                    clear A380
                    by_cases c39 : t431 = true
                    · subst c39
                      have H1 : (if t429 = (t412.length : Int) then (reedpipelaw19_SectBack.j1 kj6 l3 a4 a0_0 a0_1 a0_2 l0_3) else (some false)) = some r := by rw [if_pos rfl] at H; exact H
                      clear H
                      have H := H1
                      clear H1
                      by_cases c40 : t429 = (t412.length : Int)
                      · rw [if_pos c40] at H
                        have c40b0 : (t429 == (t412.length : Int)) = true := beq_iff_eq.mpr c40
                        have c40b1 : (t429 != (t412.length : Int)) = false := bne_eq_false_iff_eq.mpr c40
                        clear c40
                        have H' := Aside0.mk H
                        clear H
                        try go_wp2
                        have n0_ := Aside0.mk (Kd.R_drew HO414.out)
                        have n1_ := Aside0.mk (blk_drew BK409.out)
                        have n2_ := Aside0.mk (below_drew1 HB.out)
                        clear HO414
                        clear BK409
                        clear HB
                        have HO414 := n0_
                        have BK409 := n1_
                        have HB := n2_
                        clear n0_ n1_ n2_
                        refine start_ (n := 14) (S := fun w' => w'.cell? ⟨gb409, 0, none⟩ = some (.int .u8 a0_0) ∧ w'.cell? ⟨gb409, 1, none⟩ = some (.int .u8 a0_1) ∧ w'.cell? ⟨gb409, 2, none⟩ = some (.int .i64 a0_2) ∧ w'.cell? ⟨gb409, 3, none⟩ = some (.slice A0_3 l0_3.length c0_3)) (ds := []) #[false, false, false, false, false, false, false, false, false, false, false, false, false, false] (by kernel_rfl) rfl rfl ⟨(blk_cell BK409.out 0).trans rfl, (blk_cell BK409.out 1).trans rfl, (blk_cell BK409.out 2).trans rfl, (blk_cell BK409.out 3).trans rfl⟩ (fun hHeld => ?_); refine with_tabW reedpipelaw19_SectBack.tab8 reedpipelaw19_SectBack.bits8 (fun HT_ HW_ => ?_)
                        generalize w32.drew = w41 at HO414 BK409 HB hHeld ⊢
                        refine pure_ (i := 1) (N := some 63) (v := ?_) (a' := ?_) #[false, true, false, false, false, false, false, false, false, false, false, false, false, false] rfl rfl (any_of HT_.out (by kernel_rfl)) (fun _ _ _ h => h) (Or.inl ⟨by rfl, ?_⟩) ?_ ?_
                        rotate_left
                        · intro w'
                          go_simp
                          with_reducible rfl
                        rotate_left
                        · simp only [Act.put, List.setIfInBounds_toArray, List.set_cons_zero, List.set_cons_succ, i64_w, i32_w]
                          rfl
                        refine pure_ (i := 3) (N := some 65) (v := ?_) (a' := ?_) #[false, true, false, true, false, false, false, false, false, false, false, false, false, false] rfl rfl (any_of HT_.out (by kernel_rfl)) (fun _ _ _ h => h) (Or.inl ⟨by rfl, ?_⟩) ?_ ?_
                        rotate_left
                        · intro w'
                          go_simp
                          with_reducible rfl
                        rotate_left
                        · simp only [Act.put, List.setIfInBounds_toArray, List.set_cons_zero, List.set_cons_succ, i64_w, i32_w]
                          rfl
                        refine take_ (i := 5) (N := some 67) (v := ?_) (a' := ?_) #[false, true, false, true, false, true, false, false, false, false, false, false, false, false] rfl rfl (take_ofW HT_.out HW_.out (by kernel_rfl)) (fun _ _ _ h => h) (Or.inl ⟨by rfl, ?_⟩) hHeld ?_ ?_
                        rotate_left
                        · rintro w' ⟨s0, s1, s2, s3⟩
                          go_simp
                          with_reducible rfl
                        rotate_left
                        · simp only [Act.put, List.setIfInBounds_toArray, List.set_cons_zero, List.set_cons_succ, i64_w, i32_w]
                          rfl
                        refine one_ (i := 0) (N := some 62) #[true, true, false, true, false, true, false, false, false, false, false, false, false, false] rfl rfl (one_of HT_.out (by kernel_rfl)) (by decide) (fun K hK => ?_)
                        refine Kd.R_lit_step (Kd.int .u8) _ 5 ?hg (N := 62) ?hd (xs := ([] : List Int)) (inner := []) (ok := fun _ => True) (okp := fun _ => True) ?hr ?hp (fun _ hk => hk) trivial (Below.refl _ _) (Nat.le_refl _) (by simp) ?_; (case hd => rfl); (case hg => rfl); (case hr => first | (go_simp; done) | (go_simp; rfl)); (case hp => exact (Reps.none _ _))
                        intro v418 w42 ho43 hb hg_ hnew_
                        clear hg_ hnew_
                        (first | rw [← Ny417.out] at ho43 | (simp only [Int.reduceToNat] at ho43; rw [← Ny417.out] at ho43))
                        have n0_ := Aside0.mk (Kd.R_elder' (by (with_reducible repeat (first | apply Kd.R_alloc | apply Kd.R_drewN | apply Kd.R_drew)); exact HO414.out) (Kd.R_base ho43) hb)
                        have n1_ := Aside0.mk (Kd.R_lower (Kd.R_new' ho43 (Kd.R_lt (by (with_reducible repeat (first | apply Kd.R_alloc | apply Kd.R_drewN | apply Kd.R_drew)); exact HO414.out))) (below_size (by repeat (first | (with_reducible first | exact HB.out | apply below_alloc | apply pw_below_drewN | apply below_drew1 | refine below_set ?_ GE409.out) | exact HB.out))))
                        have n2_ := Aside0.mk (blk_below (g := gb409) (o := .cells #[.int .u8 a0_0, .int .u8 a0_1, .int .i64 a0_2, .slice A0_3 l0_3.length c0_3] 24 (0, 0)) (by (with_reducible repeat (first | refine blk_drewN ?_ _ | refine blk_drew ?_ | refine blk_alloc ?_ _)); exact BK409.out) hb)
                        have n3_ := Aside0.mk (below_step (by repeat (first | (with_reducible first | exact HB.out | apply below_alloc | apply pw_below_drewN | apply below_drew1 | refine below_set ?_ GE409.out) | exact HB.out)) hb)
                        clear HO414
                        clear BK409
                        clear HB
                        have HO414 := n0_
                        have HO419 := n1_
                        have BK409 := n2_
                        have HB := n3_
                        clear n0_ n1_ n2_ n3_
                        clear hb ho43
                        obtain ⟨Ao45, co45, eo45⟩ := Kd.R_slice HO414.out
                        (first | subst eo45 | (injection eo45 with f1_ f2_ f3_; have f4_ := f1_.symm; have f5_ := f3_.symm; clear f1_ f2_ f3_; subst f4_; subst f5_))
                        refine hK.out _ _ ⟨(blk_cell BK409.out 0).trans rfl, (blk_cell BK409.out 1).trans rfl, (blk_cell BK409.out 2).trans rfl, (blk_cell BK409.out 3).trans rfl⟩ (fun hHeld => ?_)
                        clear hK K
                        refine norm_ (a' := ?_) ?_ ?_
                        rotate_left
                        · show Act.put _ (some 62) _ = _
                          simp only [Act.put, List.setIfInBounds_toArray, List.set_cons_zero, List.set_cons_succ, i64_w, i32_w]
                          rfl
                        refine one_ (i := 2) (N := some 64) #[true, true, true, true, false, true, false, false, false, false, false, false, false, false] rfl rfl (one_of HT_.out (by kernel_rfl)) (by decide) (fun K hK => ?_)
                        refine Kd.R_append_rows_step (Kd.int .u8) (w0 := w) w.heap.size (by rfl) (.tmp 62) (.tmp 63) 28 5 (.int .u8 0) 1 rfl Try.underlying28 info5 rfl (by decide) (by omega) v418 y417 t412 _ _ _ (fun k_ => some k_ ≠ (.slice Ao45 t412.length co45 : Value).ownBlock) (fun _ => False) rfl rfl ?aO ?aR (fun _ _ h => h) (fun _ h => h.elim) ?aF ?aB ?aS ?aL ?_
                        (case aR => repeat (first | exact (Kd.R_reads' HO414.out).2.2 | (with_reducible refine Kd.C_alloc ?_ _) | (with_reducible refine Kd.C_drewN ?_ _) | (with_reducible refine Kd.C_drew ?_)))
                        (case aB => exact (by repeat (first | (with_reducible first | exact HB.out | apply below_alloc | apply pw_below_drewN | apply below_drew1 | refine below_set ?_ GE409.out) | exact HB.out)))
                        (case aF => exact (fun k_ hk => Kd.fresh' (Kd.R_lt (by (with_reducible repeat (first | apply Kd.R_alloc | apply Kd.R_drewN | apply Kd.R_drew)); exact HO414.out)) k_ hk))
                        (case aO => exact (by (with_reducible repeat (first | apply Kd.R_alloc | apply Kd.R_drewN | apply Kd.R_drew)); exact Kd.R_mono HO419.out (fun _ hk => hk.2)))
                        (case aS => exact (below_size (by repeat (first | (with_reducible first | exact HB.out | apply below_alloc | apply pw_below_drewN | apply below_drew1 | refine below_set ?_ GE409.out) | exact HB.out))))
                        (case aL => have := LMc34.out; omega)
                        intro v421 w44 ho hb hg hat
                        rw [← Ny420.out] at ho
                        have n0_ := Aside0.mk (blk_grown (g := gb409) (o := .cells #[.int .u8 a0_0, .int .u8 a0_1, .int .i64 a0_2, .slice A0_3 l0_3.length c0_3] 24 (0, 0)) (by (with_reducible repeat (first | refine blk_drewN ?_ _ | refine blk_drew ?_ | refine blk_alloc ?_ _)); exact BK409.out) hg (Kd.R_ne HO419.out BK409.out (by decide)))
                        have n1_ := Aside0.mk (Kd.R_after (ok := (fun _ => True)) (by (with_reducible repeat (first | apply Kd.R_alloc | apply Kd.R_drewN | apply Kd.R_drew)); exact HO414.out) hg hat)
                        have n2_ := Aside0.mk (hb)
                        have n3_ := Aside0.mk (ho)
                        clear BK409
                        clear HO414
                        clear HB
                        clear HO419
                        have BK409 := n0_
                        have HO414 := n1_
                        have HB := n2_
                        have HO422 := n3_
                        clear n0_ n1_ n2_ n3_
                        clear ho hb hg hat
                        refine hK.out _ _ ⟨(blk_cell BK409.out 0).trans rfl, (blk_cell BK409.out 1).trans rfl, (blk_cell BK409.out 2).trans rfl, (blk_cell BK409.out 3).trans rfl⟩ (fun hHeld => ?_)
                        clear hK K
                        refine norm_ (a' := ?_) ?_ ?_
                        rotate_left
                        · show Act.put _ (some 64) _ = _
                          simp only [Act.put, List.setIfInBounds_toArray, List.set_cons_zero, List.set_cons_succ, i64_w, i32_w]
                          rfl
                        refine one_ (i := 4) (N := some 66) #[true, true, true, true, true, true, false, false, false, false, false, false, false, false] rfl rfl (one_of HT_.out (by kernel_rfl)) (by decide) (fun K hK => ?_)
                        refine Kd.R_append_rows_step (Kd.int .u8) (w0 := w) w.heap.size (by rfl) (.tmp 64) (.tmp 65) 28 5 (.int .u8 0) 1 rfl Try.underlying28 info5 rfl (by decide) (by omega) v421 y420 l2 _ _ _ (fun k_ => some k_ ≠ (.slice Ao45 t412.length co45 : Value).ownBlock) (fun _ => False) rfl rfl ?aO ?aR (fun _ _ h => h) (fun _ h => h.elim) ?aF ?aB ?aS ?aL ?_
                        (case aR => repeat (first | exact (Kd.C_below HR2.out HB.out) | (with_reducible refine Kd.C_alloc ?_ _) | (with_reducible refine Kd.C_drewN ?_ _) | (with_reducible refine Kd.C_drew ?_)))
                        (case aB => exact (by repeat (first | (with_reducible first | exact HB.out | apply below_alloc | apply pw_below_drewN | apply below_drew1 | refine below_set ?_ GE409.out) | exact HB.out)))
                        (case aF => exact (fun k_ hk => Kd.fresh' (Kd.R_lt (by (with_reducible repeat (first | apply Kd.R_alloc | apply Kd.R_drewN | apply Kd.R_drew)); exact HO414.out)) k_ hk))
                        (case aO => exact (by (with_reducible repeat (first | apply Kd.R_alloc | apply Kd.R_drewN | apply Kd.R_drew)); exact HO422.out))
                        (case aS => exact (below_size (by repeat (first | (with_reducible first | exact HB.out | apply below_alloc | apply pw_below_drewN | apply below_drew1 | refine below_set ?_ GE409.out) | exact HB.out))))
                        (case aL => have := LMc35.out; omega)
                        intro v424 w46 ho hb hg hat
                        rw [← Ny423.out] at ho
                        have n0_ := Aside0.mk (blk_grown (g := gb409) (o := .cells #[.int .u8 a0_0, .int .u8 a0_1, .int .i64 a0_2, .slice A0_3 l0_3.length c0_3] 24 (0, 0)) (by (with_reducible repeat (first | refine blk_drewN ?_ _ | refine blk_drew ?_ | refine blk_alloc ?_ _)); exact BK409.out) hg (Kd.R_ne HO422.out BK409.out (by decide)))
                        have n1_ := Aside0.mk (Kd.R_after (ok := (fun _ => True)) (by (with_reducible repeat (first | apply Kd.R_alloc | apply Kd.R_drewN | apply Kd.R_drew)); exact HO414.out) hg hat)
                        have n2_ := Aside0.mk (hb)
                        have n3_ := Aside0.mk (ho)
                        clear BK409
                        clear HO414
                        clear HB
                        clear HO422
                        have BK409 := n0_
                        have HO414 := n1_
                        have HB := n2_
                        have HO425 := n3_
                        clear n0_ n1_ n2_ n3_
                        clear ho hb hg hat
                        obtain ⟨Ao47, co47, eo47⟩ := Kd.R_slice HO425.out
                        (first | subst eo47 | (injection eo47 with f1_ f2_ f3_; have f4_ := f1_.symm; have f5_ := f3_.symm; clear f1_ f2_ f3_; subst f4_; subst f5_))
                        refine hK.out _ _ ⟨(blk_cell BK409.out 0).trans rfl, (blk_cell BK409.out 1).trans rfl, (blk_cell BK409.out 2).trans rfl, (blk_cell BK409.out 3).trans rfl⟩ (fun hHeld => ?_)
                        clear hK K
                        refine norm_ (a' := ?_) ?_ ?_
                        rotate_left
                        · show Act.put _ (some 66) _ = _
                          simp only [Act.put, List.setIfInBounds_toArray, List.set_cons_zero, List.set_cons_succ, i64_w, i32_w]
                          rfl
                        refine one_ (i := 6) (N := some 68) #[true, true, true, true, true, true, true, false, false, false, false, false, false, false] rfl rfl (one_of HT_.out (by kernel_rfl)) (by decide) (fun K hK => ?_)
                        refine goes_ Try.func11 (by kernel_rfl) rfl #[.slice Ao47 y423.length co47, .int .i64 0, .agg #[.int .u8 a0_0, .int .u8 a0_1, .int .i64 a0_2, .slice A0_3 l0_3.length c0_3]] (by rfl) rfl rfl (by (try simp only [List.map_toArray, List.map_cons, List.map_nil]); first | done | rfl | (simp only [List.length_drop, List.length_take]; rfl)) ?_
                        with_reducible refine (sect_Get.calls kj6 _ _ y423 0 a0_0 a0_1 a0_2 _ _ l0_3 t426 t429 t430 _ ?side1 ?side2 ?side3 ?side4 A36.out).mono ?_
                        (case side1 => repeat (first | exact (Kd.R_reads' HO425.out).2.2 | (with_reducible refine Kd.C_alloc ?_ _) | (with_reducible refine Kd.C_drewN ?_ _) | (with_reducible refine Kd.C_drew ?_)))
                        (case side2 => exact (Kd.R_reads' HO425.out).2.1)
                        (case side3 => repeat (first | exact (Kd.C_below HR0_3.out HB.out) | (with_reducible refine Kd.C_alloc ?_ _) | (with_reducible refine Kd.C_drewN ?_ _) | (with_reducible refine Kd.C_drew ?_)))
                        (case side4 => exact HC0_3.out)
                        rintro e w48 ⟨v427, rfl, ho0, hb⟩
                        refine ⟨_, rfl, ?_⟩
                        have n0_ := Aside0.mk (Kd.R_below (by (with_reducible repeat (first | apply Kd.R_alloc | apply Kd.R_drewN | apply Kd.R_drew)); exact HO414.out) hb)
                        have n1_ := Aside0.mk (Kd.R_below (by (with_reducible repeat (first | apply Kd.R_alloc | apply Kd.R_drewN | apply Kd.R_drew)); exact HO425.out) hb)
                        have n2_ := Aside0.mk (Kd.S_lower ho0 (below_size (by repeat (first | (with_reducible first | exact HB.out | apply below_alloc | apply pw_below_drewN | apply below_drew1 | refine below_set ?_ GE409.out) | exact HB.out))))
                        have n3_ := Aside0.mk (blk_below (g := gb409) (o := .cells #[.int .u8 a0_0, .int .u8 a0_1, .int .i64 a0_2, .slice A0_3 l0_3.length c0_3] 24 (0, 0)) (by (with_reducible repeat (first | refine blk_drewN ?_ _ | refine blk_drew ?_ | refine blk_alloc ?_ _)); exact BK409.out) hb)
                        have n4_ := Aside0.mk (below_step (by repeat (first | (with_reducible first | exact HB.out | apply below_alloc | apply pw_below_drewN | apply below_drew1 | refine below_set ?_ GE409.out) | exact HB.out)) hb)
                        clear HO414
                        clear HO425
                        clear BK409
                        clear HB
                        have HO414 := n0_
                        have HO425 := n1_
                        have HO428 := n2_
                        have BK409 := n3_
                        have HB := n4_
                        clear n0_ n1_ n2_ n3_ n4_
                        (try clear hb)
                        (try clear hb2)
                        (try clear hk)
                        (try clear hi)
                        (try clear ho0)
                        refine hK.out _ _ ⟨(blk_cell BK409.out 0).trans rfl, (blk_cell BK409.out 1).trans rfl, (blk_cell BK409.out 2).trans rfl, (blk_cell BK409.out 3).trans rfl⟩ (fun hHeld => ?_)
                        clear hK K
                        refine norm_ (a' := ?_) ?_ ?_
                        rotate_left
                        · show Act.put _ (some 68) _ = _
                          simp only [Act.put, List.setIfInBounds_toArray, List.set_cons_zero, List.set_cons_succ, i64_w, i32_w]
                          rfl
                        refine pure_ (i := 7) (N := some 61) (v := ?_) (a' := ?_) #[true, true, true, true, true, true, true, true, false, false, false, false, false, false] rfl rfl (any_of HT_.out (by kernel_rfl)) (fun _ _ _ h => h) (Or.inl ⟨by rfl, ?_⟩) ?_ ?_
                        rotate_left
                        · intro w'
                          go_simp
                          with_reducible rfl
                        rotate_left
                        · simp only [Act.put, List.setIfInBounds_toArray, List.set_cons_zero, List.set_cons_succ, i64_w, i32_w]
                          rfl
                        refine pure_ (i := 8) (N := some 69) (v := ?_) (a' := ?_) #[true, true, true, true, true, true, true, true, true, false, false, false, false, false] rfl rfl (any_of HT_.out (by kernel_rfl)) (fun _ _ _ h => h) (Or.inl ⟨by rfl, ?_⟩) ?_ ?_
                        rotate_left
                        · intro w'
                          go_simp
                          with_reducible rfl
                        rotate_left
                        · simp only [Act.put, List.setIfInBounds_toArray, List.set_cons_zero, List.set_cons_succ, i64_w, i32_w]
                          rfl
                        refine pure_ (i := 9) (N := some 70) (v := ?_) (a' := ?_) #[true, true, true, true, true, true, true, true, true, true, false, false, false, false] rfl rfl (any_of HT_.out (by kernel_rfl)) (fun _ _ _ h => h) (Or.inl ⟨by rfl, ?_⟩) ?_ ?_
                        rotate_left
                        · intro w'
                          go_simp
                          with_reducible rfl
                        rotate_left
                        · simp only [Act.put, List.setIfInBounds_toArray, List.set_cons_zero, List.set_cons_succ, i64_w, i32_w]
                          rfl
                        refine pure_ (i := 10) (N := some 71) (v := ?_) (a' := ?_) #[true, true, true, true, true, true, true, true, true, true, true, false, false, false] rfl rfl (any_of HT_.out (by kernel_rfl)) (fun _ _ _ h => h) (Or.inl ⟨by rfl, ?_⟩) ?_ ?_
                        rotate_left
                        · intro w'
                          go_simp
                          with_reducible rfl
                        rotate_left
                        · simp only [Act.put, List.setIfInBounds_toArray, List.set_cons_zero, List.set_cons_succ, i64_w, i32_w]
                          rfl
                        refine pure_ (i := 11) (N := some 14) (v := ?_) (a' := ?_) #[true, true, true, true, true, true, true, true, true, true, true, true, false, false] rfl rfl (any_of HT_.out (by kernel_rfl)) (fun _ _ _ h => h) (Or.inl ⟨by rfl, ?_⟩) ?_ ?_
                        rotate_left
                        · intro w'
                          go_simp
                          with_reducible rfl
                        rotate_left
                        · simp only [Act.put, List.setIfInBounds_toArray, List.set_cons_zero, List.set_cons_succ, i64_w, i32_w]
                          rfl
                        refine pure_ (i := 12) (N := some 15) (v := ?_) (a' := ?_) #[true, true, true, true, true, true, true, true, true, true, true, true, true, false] rfl rfl (any_of HT_.out (by kernel_rfl)) (fun _ _ _ h => h) (Or.inl ⟨by rfl, ?_⟩) ?_ ?_
                        rotate_left
                        · intro w'
                          go_simp
                          with_reducible rfl
                        rotate_left
                        · simp only [Act.put, List.setIfInBounds_toArray, List.set_cons_zero, List.set_cons_succ, i64_w, i32_w]
                          rfl
                        refine pure_ (i := 13) (N := some 16) (v := ?_) (a' := ?_) #[true, true, true, true, true, true, true, true, true, true, true, true, true, true] rfl rfl (any_of HT_.out (by kernel_rfl)) (fun _ _ _ h => h) (Or.inl ⟨by rfl, ?_⟩) ?_ ?_
                        rotate_left
                        · intro w'
                          go_simp
                          with_reducible rfl
                        rotate_left
                        · simp only [Act.put, List.setIfInBounds_toArray, List.set_cons_zero, List.set_cons_succ, i64_w, i32_w]
                          rfl
                        refine done_ (done_of HT_.out (by kernel_rfl)) ?_
                        obtain ⟨Ao49, co49, eo49⟩ := Kd.S_slice HO428.out
                        subst eo49
                        try go_wp2_with (first | (go_at_call 17; (with_reducible refine (reedpiperef18_SameSections.calls kj6 _ _ t426 _ _ l1 true _ ?side1 ?side2 ?side3 ?side4 A38.out).mono ?_); (case side1 => repeat (first | exact (Kd.S_reads' HO428.out).2.2 | (with_reducible refine Kd.C_alloc ?_ _) | (with_reducible refine Kd.C_drewN ?_ _) | (with_reducible refine Kd.C_drew ?_))); (case side2 => exact (Kd.S_reads' HO428.out).2.1); (case side3 => repeat (first | exact (Kd.C_below HR1.out HB.out) | (with_reducible refine Kd.C_alloc ?_ _) | (with_reducible refine Kd.C_drewN ?_ _) | (with_reducible refine Kd.C_drew ?_))); (case side4 => exact HC1.out); rintro e w' ⟨rfl, ⟨nd, rfl⟩⟩))
                        go_meet
                        case rel => exact ⟨_, H', ⟨by have := HJ6.out; first | omega | exact Nat.le_refl _⟩, ⟨by (with_reducible repeat (first | refine blk_drewN ?_ _ | refine blk_drew ?_ | refine blk_alloc ?_ _)); exact BK409.out⟩, ⟨by repeat (first | (with_reducible first | exact HB.out | apply below_alloc | apply pw_below_drewN | apply below_drew1 | refine below_set ?_ GE409.out) | exact HB.out)⟩⟩
                      · rw [if_neg c40] at H
                        have c40b0 : (t429 == (t412.length : Int)) = false := beq_eq_false_iff_ne.mpr c40
                        have c40b1 : (t429 != (t412.length : Int)) = true := bne_iff_ne.mpr c40
                        obtain rfl := Option.some.inj H
                        try go_wp2
                        have n0_ := Aside0.mk (Kd.R_drew HO414.out)
                        have n1_ := Aside0.mk (blk_drew BK409.out)
                        have n2_ := Aside0.mk (below_drew1 HB.out)
                        clear HO414
                        clear BK409
                        clear HB
                        have HO414 := n0_
                        have BK409 := n1_
                        have HB := n2_
                        clear n0_ n1_ n2_
                        refine start_ (n := 14) (S := fun w' => w'.cell? ⟨gb409, 0, none⟩ = some (.int .u8 a0_0) ∧ w'.cell? ⟨gb409, 1, none⟩ = some (.int .u8 a0_1) ∧ w'.cell? ⟨gb409, 2, none⟩ = some (.int .i64 a0_2) ∧ w'.cell? ⟨gb409, 3, none⟩ = some (.slice A0_3 l0_3.length c0_3)) (ds := []) #[false, false, false, false, false, false, false, false, false, false, false, false, false, false] (by kernel_rfl) rfl rfl ⟨(blk_cell BK409.out 0).trans rfl, (blk_cell BK409.out 1).trans rfl, (blk_cell BK409.out 2).trans rfl, (blk_cell BK409.out 3).trans rfl⟩ (fun hHeld => ?_); refine with_tabW reedpipelaw19_SectBack.tab8 reedpipelaw19_SectBack.bits8 (fun HT_ HW_ => ?_)
                        generalize w32.drew = w50 at HO414 BK409 HB hHeld ⊢
                        refine pure_ (i := 1) (N := some 63) (v := ?_) (a' := ?_) #[false, true, false, false, false, false, false, false, false, false, false, false, false, false] rfl rfl (any_of HT_.out (by kernel_rfl)) (fun _ _ _ h => h) (Or.inl ⟨by rfl, ?_⟩) ?_ ?_
                        rotate_left
                        · intro w'
                          go_simp
                          with_reducible rfl
                        rotate_left
                        · simp only [Act.put, List.setIfInBounds_toArray, List.set_cons_zero, List.set_cons_succ, i64_w, i32_w]
                          rfl
                        refine pure_ (i := 3) (N := some 65) (v := ?_) (a' := ?_) #[false, true, false, true, false, false, false, false, false, false, false, false, false, false] rfl rfl (any_of HT_.out (by kernel_rfl)) (fun _ _ _ h => h) (Or.inl ⟨by rfl, ?_⟩) ?_ ?_
                        rotate_left
                        · intro w'
                          go_simp
                          with_reducible rfl
                        rotate_left
                        · simp only [Act.put, List.setIfInBounds_toArray, List.set_cons_zero, List.set_cons_succ, i64_w, i32_w]
                          rfl
                        refine take_ (i := 5) (N := some 67) (v := ?_) (a' := ?_) #[false, true, false, true, false, true, false, false, false, false, false, false, false, false] rfl rfl (take_ofW HT_.out HW_.out (by kernel_rfl)) (fun _ _ _ h => h) (Or.inl ⟨by rfl, ?_⟩) hHeld ?_ ?_
                        rotate_left
                        · rintro w' ⟨s0, s1, s2, s3⟩
                          go_simp
                          with_reducible rfl
                        rotate_left
                        · simp only [Act.put, List.setIfInBounds_toArray, List.set_cons_zero, List.set_cons_succ, i64_w, i32_w]
                          rfl
                        refine one_ (i := 0) (N := some 62) #[true, true, false, true, false, true, false, false, false, false, false, false, false, false] rfl rfl (one_of HT_.out (by kernel_rfl)) (by decide) (fun K hK => ?_)
                        refine Kd.R_lit_step (Kd.int .u8) _ 5 ?hg (N := 62) ?hd (xs := ([] : List Int)) (inner := []) (ok := fun _ => True) (okp := fun _ => True) ?hr ?hp (fun _ hk => hk) trivial (Below.refl _ _) (Nat.le_refl _) (by simp) ?_; (case hd => rfl); (case hg => rfl); (case hr => first | (go_simp; done) | (go_simp; rfl)); (case hp => exact (Reps.none _ _))
                        intro v418 w51 ho52 hb hg_ hnew_
                        clear hg_ hnew_
                        (first | rw [← Ny417.out] at ho52 | (simp only [Int.reduceToNat] at ho52; rw [← Ny417.out] at ho52))
                        have n0_ := Aside0.mk (Kd.R_elder' (by (with_reducible repeat (first | apply Kd.R_alloc | apply Kd.R_drewN | apply Kd.R_drew)); exact HO414.out) (Kd.R_base ho52) hb)
                        have n1_ := Aside0.mk (Kd.R_lower (Kd.R_new' ho52 (Kd.R_lt (by (with_reducible repeat (first | apply Kd.R_alloc | apply Kd.R_drewN | apply Kd.R_drew)); exact HO414.out))) (below_size (by repeat (first | (with_reducible first | exact HB.out | apply below_alloc | apply pw_below_drewN | apply below_drew1 | refine below_set ?_ GE409.out) | exact HB.out))))
                        have n2_ := Aside0.mk (blk_below (g := gb409) (o := .cells #[.int .u8 a0_0, .int .u8 a0_1, .int .i64 a0_2, .slice A0_3 l0_3.length c0_3] 24 (0, 0)) (by (with_reducible repeat (first | refine blk_drewN ?_ _ | refine blk_drew ?_ | refine blk_alloc ?_ _)); exact BK409.out) hb)
                        have n3_ := Aside0.mk (below_step (by repeat (first | (with_reducible first | exact HB.out | apply below_alloc | apply pw_below_drewN | apply below_drew1 | refine below_set ?_ GE409.out) | exact HB.out)) hb)
                        clear HO414
                        clear BK409
                        clear HB
                        have HO414 := n0_
                        have HO419 := n1_
                        have BK409 := n2_
                        have HB := n3_
                        clear n0_ n1_ n2_ n3_
                        clear hb ho52
                        obtain ⟨Ao54, co54, eo54⟩ := Kd.R_slice HO414.out
                        (first | subst eo54 | (injection eo54 with f1_ f2_ f3_; have f4_ := f1_.symm; have f5_ := f3_.symm; clear f1_ f2_ f3_; subst f4_; subst f5_))
                        refine hK.out _ _ ⟨(blk_cell BK409.out 0).trans rfl, (blk_cell BK409.out 1).trans rfl, (blk_cell BK409.out 2).trans rfl, (blk_cell BK409.out 3).trans rfl⟩ (fun hHeld => ?_)
                        clear hK K
                        refine norm_ (a' := ?_) ?_ ?_
                        rotate_left
                        · show Act.put _ (some 62) _ = _
                          simp only [Act.put, List.setIfInBounds_toArray, List.set_cons_zero, List.set_cons_succ, i64_w, i32_w]
                          rfl
                        refine one_ (i := 2) (N := some 64) #[true, true, true, true, false, true, false, false, false, false, false, false, false, false] rfl rfl (one_of HT_.out (by kernel_rfl)) (by decide) (fun K hK => ?_)
                        refine Kd.R_append_rows_step (Kd.int .u8) (w0 := w) w.heap.size (by rfl) (.tmp 62) (.tmp 63) 28 5 (.int .u8 0) 1 rfl Try.underlying28 info5 rfl (by decide) (by omega) v418 y417 t412 _ _ _ (fun k_ => some k_ ≠ (.slice Ao54 t412.length co54 : Value).ownBlock) (fun _ => False) rfl rfl ?aO ?aR (fun _ _ h => h) (fun _ h => h.elim) ?aF ?aB ?aS ?aL ?_
                        (case aR => repeat (first | exact (Kd.R_reads' HO414.out).2.2 | (with_reducible refine Kd.C_alloc ?_ _) | (with_reducible refine Kd.C_drewN ?_ _) | (with_reducible refine Kd.C_drew ?_)))
                        (case aB => exact (by repeat (first | (with_reducible first | exact HB.out | apply below_alloc | apply pw_below_drewN | apply below_drew1 | refine below_set ?_ GE409.out) | exact HB.out)))
                        (case aF => exact (fun k_ hk => Kd.fresh' (Kd.R_lt (by (with_reducible repeat (first | apply Kd.R_alloc | apply Kd.R_drewN | apply Kd.R_drew)); exact HO414.out)) k_ hk))
                        (case aO => exact (by (with_reducible repeat (first | apply Kd.R_alloc | apply Kd.R_drewN | apply Kd.R_drew)); exact Kd.R_mono HO419.out (fun _ hk => hk.2)))
                        (case aS => exact (below_size (by repeat (first | (with_reducible first | exact HB.out | apply below_alloc | apply pw_below_drewN | apply below_drew1 | refine below_set ?_ GE409.out) | exact HB.out))))
                        (case aL => have := LMc34.out; omega)
                        intro v421 w53 ho hb hg hat
                        rw [← Ny420.out] at ho
                        have n0_ := Aside0.mk (blk_grown (g := gb409) (o := .cells #[.int .u8 a0_0, .int .u8 a0_1, .int .i64 a0_2, .slice A0_3 l0_3.length c0_3] 24 (0, 0)) (by (with_reducible repeat (first | refine blk_drewN ?_ _ | refine blk_drew ?_ | refine blk_alloc ?_ _)); exact BK409.out) hg (Kd.R_ne HO419.out BK409.out (by decide)))
                        have n1_ := Aside0.mk (Kd.R_after (ok := (fun _ => True)) (by (with_reducible repeat (first | apply Kd.R_alloc | apply Kd.R_drewN | apply Kd.R_drew)); exact HO414.out) hg hat)
                        have n2_ := Aside0.mk (hb)
                        have n3_ := Aside0.mk (ho)
                        clear BK409
                        clear HO414
                        clear HB
                        clear HO419
                        have BK409 := n0_
                        have HO414 := n1_
                        have HB := n2_
                        have HO422 := n3_
                        clear n0_ n1_ n2_ n3_
                        clear ho hb hg hat
                        refine hK.out _ _ ⟨(blk_cell BK409.out 0).trans rfl, (blk_cell BK409.out 1).trans rfl, (blk_cell BK409.out 2).trans rfl, (blk_cell BK409.out 3).trans rfl⟩ (fun hHeld => ?_)
                        clear hK K
                        refine norm_ (a' := ?_) ?_ ?_
                        rotate_left
                        · show Act.put _ (some 64) _ = _
                          simp only [Act.put, List.setIfInBounds_toArray, List.set_cons_zero, List.set_cons_succ, i64_w, i32_w]
                          rfl
                        refine one_ (i := 4) (N := some 66) #[true, true, true, true, true, true, false, false, false, false, false, false, false, false] rfl rfl (one_of HT_.out (by kernel_rfl)) (by decide) (fun K hK => ?_)
                        refine Kd.R_append_rows_step (Kd.int .u8) (w0 := w) w.heap.size (by rfl) (.tmp 64) (.tmp 65) 28 5 (.int .u8 0) 1 rfl Try.underlying28 info5 rfl (by decide) (by omega) v421 y420 l2 _ _ _ (fun k_ => some k_ ≠ (.slice Ao54 t412.length co54 : Value).ownBlock) (fun _ => False) rfl rfl ?aO ?aR (fun _ _ h => h) (fun _ h => h.elim) ?aF ?aB ?aS ?aL ?_
                        (case aR => repeat (first | exact (Kd.C_below HR2.out HB.out) | (with_reducible refine Kd.C_alloc ?_ _) | (with_reducible refine Kd.C_drewN ?_ _) | (with_reducible refine Kd.C_drew ?_)))
                        (case aB => exact (by repeat (first | (with_reducible first | exact HB.out | apply below_alloc | apply pw_below_drewN | apply below_drew1 | refine below_set ?_ GE409.out) | exact HB.out)))
                        (case aF => exact (fun k_ hk => Kd.fresh' (Kd.R_lt (by (with_reducible repeat (first | apply Kd.R_alloc | apply Kd.R_drewN | apply Kd.R_drew)); exact HO414.out)) k_ hk))
                        (case aO => exact (by (with_reducible repeat (first | apply Kd.R_alloc | apply Kd.R_drewN | apply Kd.R_drew)); exact HO422.out))
                        (case aS => exact (below_size (by repeat (first | (with_reducible first | exact HB.out | apply below_alloc | apply pw_below_drewN | apply below_drew1 | refine below_set ?_ GE409.out) | exact HB.out))))
                        (case aL => have := LMc35.out; omega)
                        intro v424 w55 ho hb hg hat
                        rw [← Ny423.out] at ho
                        have n0_ := Aside0.mk (blk_grown (g := gb409) (o := .cells #[.int .u8 a0_0, .int .u8 a0_1, .int .i64 a0_2, .slice A0_3 l0_3.length c0_3] 24 (0, 0)) (by (with_reducible repeat (first | refine blk_drewN ?_ _ | refine blk_drew ?_ | refine blk_alloc ?_ _)); exact BK409.out) hg (Kd.R_ne HO422.out BK409.out (by decide)))
                        have n1_ := Aside0.mk (Kd.R_after (ok := (fun _ => True)) (by (with_reducible repeat (first | apply Kd.R_alloc | apply Kd.R_drewN | apply Kd.R_drew)); exact HO414.out) hg hat)
                        have n2_ := Aside0.mk (hb)
                        have n3_ := Aside0.mk (ho)
                        clear BK409
                        clear HO414
                        clear HB
                        clear HO422
                        have BK409 := n0_
                        have HO414 := n1_
                        have HB := n2_
                        have HO425 := n3_
                        clear n0_ n1_ n2_ n3_
                        clear ho hb hg hat
                        obtain ⟨Ao56, co56, eo56⟩ := Kd.R_slice HO425.out
                        (first | subst eo56 | (injection eo56 with f1_ f2_ f3_; have f4_ := f1_.symm; have f5_ := f3_.symm; clear f1_ f2_ f3_; subst f4_; subst f5_))
                        refine hK.out _ _ ⟨(blk_cell BK409.out 0).trans rfl, (blk_cell BK409.out 1).trans rfl, (blk_cell BK409.out 2).trans rfl, (blk_cell BK409.out 3).trans rfl⟩ (fun hHeld => ?_)
                        clear hK K
                        refine norm_ (a' := ?_) ?_ ?_
                        rotate_left
                        · show Act.put _ (some 66) _ = _
                          simp only [Act.put, List.setIfInBounds_toArray, List.set_cons_zero, List.set_cons_succ, i64_w, i32_w]
                          rfl
                        refine one_ (i := 6) (N := some 68) #[true, true, true, true, true, true, true, false, false, false, false, false, false, false] rfl rfl (one_of HT_.out (by kernel_rfl)) (by decide) (fun K hK => ?_)
                        refine goes_ Try.func11 (by kernel_rfl) rfl #[.slice Ao56 y423.length co56, .int .i64 0, .agg #[.int .u8 a0_0, .int .u8 a0_1, .int .i64 a0_2, .slice A0_3 l0_3.length c0_3]] (by rfl) rfl rfl (by (try simp only [List.map_toArray, List.map_cons, List.map_nil]); first | done | rfl | (simp only [List.length_drop, List.length_take]; rfl)) ?_
                        with_reducible refine (sect_Get.calls kj6 _ _ y423 0 a0_0 a0_1 a0_2 _ _ l0_3 t426 t429 t430 _ ?side1 ?side2 ?side3 ?side4 A36.out).mono ?_
                        (case side1 => repeat (first | exact (Kd.R_reads' HO425.out).2.2 | (with_reducible refine Kd.C_alloc ?_ _) | (with_reducible refine Kd.C_drewN ?_ _) | (with_reducible refine Kd.C_drew ?_)))
                        (case side2 => exact (Kd.R_reads' HO425.out).2.1)
                        (case side3 => repeat (first | exact (Kd.C_below HR0_3.out HB.out) | (with_reducible refine Kd.C_alloc ?_ _) | (with_reducible refine Kd.C_drewN ?_ _) | (with_reducible refine Kd.C_drew ?_)))
                        (case side4 => exact HC0_3.out)
                        rintro e w57 ⟨v427, rfl, ho0, hb⟩
                        refine ⟨_, rfl, ?_⟩
                        have n0_ := Aside0.mk (Kd.R_below (by (with_reducible repeat (first | apply Kd.R_alloc | apply Kd.R_drewN | apply Kd.R_drew)); exact HO414.out) hb)
                        have n1_ := Aside0.mk (Kd.R_below (by (with_reducible repeat (first | apply Kd.R_alloc | apply Kd.R_drewN | apply Kd.R_drew)); exact HO425.out) hb)
                        have n2_ := Aside0.mk (Kd.S_lower ho0 (below_size (by repeat (first | (with_reducible first | exact HB.out | apply below_alloc | apply pw_below_drewN | apply below_drew1 | refine below_set ?_ GE409.out) | exact HB.out))))
                        have n3_ := Aside0.mk (blk_below (g := gb409) (o := .cells #[.int .u8 a0_0, .int .u8 a0_1, .int .i64 a0_2, .slice A0_3 l0_3.length c0_3] 24 (0, 0)) (by (with_reducible repeat (first | refine blk_drewN ?_ _ | refine blk_drew ?_ | refine blk_alloc ?_ _)); exact BK409.out) hb)
                        have n4_ := Aside0.mk (below_step (by repeat (first | (with_reducible first | exact HB.out | apply below_alloc | apply pw_below_drewN | apply below_drew1 | refine below_set ?_ GE409.out) | exact HB.out)) hb)
                        clear HO414
                        clear HO425
                        clear BK409
                        clear HB
                        have HO414 := n0_
                        have HO425 := n1_
                        have HO428 := n2_
                        have BK409 := n3_
                        have HB := n4_
                        clear n0_ n1_ n2_ n3_ n4_
                        (try clear hb)
                        (try clear hb2)
                        (try clear hk)
                        (try clear hi)
                        (try clear ho0)
                        refine hK.out _ _ ⟨(blk_cell BK409.out 0).trans rfl, (blk_cell BK409.out 1).trans rfl, (blk_cell BK409.out 2).trans rfl, (blk_cell BK409.out 3).trans rfl⟩ (fun hHeld => ?_)
                        clear hK K
                        refine norm_ (a' := ?_) ?_ ?_
                        rotate_left
                        · show Act.put _ (some 68) _ = _
                          simp only [Act.put, List.setIfInBounds_toArray, List.set_cons_zero, List.set_cons_succ, i64_w, i32_w]
                          rfl
                        refine pure_ (i := 7) (N := some 61) (v := ?_) (a' := ?_) #[true, true, true, true, true, true, true, true, false, false, false, false, false, false] rfl rfl (any_of HT_.out (by kernel_rfl)) (fun _ _ _ h => h) (Or.inl ⟨by rfl, ?_⟩) ?_ ?_
                        rotate_left
                        · intro w'
                          go_simp
                          with_reducible rfl
                        rotate_left
                        · simp only [Act.put, List.setIfInBounds_toArray, List.set_cons_zero, List.set_cons_succ, i64_w, i32_w]
                          rfl
                        refine pure_ (i := 8) (N := some 69) (v := ?_) (a' := ?_) #[true, true, true, true, true, true, true, true, true, false, false, false, false, false] rfl rfl (any_of HT_.out (by kernel_rfl)) (fun _ _ _ h => h) (Or.inl ⟨by rfl, ?_⟩) ?_ ?_
                        rotate_left
                        · intro w'
                          go_simp
                          with_reducible rfl
                        rotate_left
                        · simp only [Act.put, List.setIfInBounds_toArray, List.set_cons_zero, List.set_cons_succ, i64_w, i32_w]
                          rfl
                        refine pure_ (i := 9) (N := some 70) (v := ?_) (a' := ?_) #[true, true, true, true, true, true, true, true, true, true, false, false, false, false] rfl rfl (any_of HT_.out (by kernel_rfl)) (fun _ _ _ h => h) (Or.inl ⟨by rfl, ?_⟩) ?_ ?_
                        rotate_left
                        · intro w'
                          go_simp
                          with_reducible rfl
                        rotate_left
                        · simp only [Act.put, List.setIfInBounds_toArray, List.set_cons_zero, List.set_cons_succ, i64_w, i32_w]
                          rfl
                        refine pure_ (i := 10) (N := some 71) (v := ?_) (a' := ?_) #[true, true, true, true, true, true, true, true, true, true, true, false, false, false] rfl rfl (any_of HT_.out (by kernel_rfl)) (fun _ _ _ h => h) (Or.inl ⟨by rfl, ?_⟩) ?_ ?_
                        rotate_left
                        · intro w'
                          go_simp
                          with_reducible rfl
                        rotate_left
                        · simp only [Act.put, List.setIfInBounds_toArray, List.set_cons_zero, List.set_cons_succ, i64_w, i32_w]
                          rfl
                        refine pure_ (i := 11) (N := some 14) (v := ?_) (a' := ?_) #[true, true, true, true, true, true, true, true, true, true, true, true, false, false] rfl rfl (any_of HT_.out (by kernel_rfl)) (fun _ _ _ h => h) (Or.inl ⟨by rfl, ?_⟩) ?_ ?_
                        rotate_left
                        · intro w'
                          go_simp
                          with_reducible rfl
                        rotate_left
                        · simp only [Act.put, List.setIfInBounds_toArray, List.set_cons_zero, List.set_cons_succ, i64_w, i32_w]
                          rfl
                        refine pure_ (i := 12) (N := some 15) (v := ?_) (a' := ?_) #[true, true, true, true, true, true, true, true, true, true, true, true, true, false] rfl rfl (any_of HT_.out (by kernel_rfl)) (fun _ _ _ h => h) (Or.inl ⟨by rfl, ?_⟩) ?_ ?_
                        rotate_left
                        · intro w'
                          go_simp
                          with_reducible rfl
                        rotate_left
                        · simp only [Act.put, List.setIfInBounds_toArray, List.set_cons_zero, List.set_cons_succ, i64_w, i32_w]
                          rfl
                        refine pure_ (i := 13) (N := some 16) (v := ?_) (a' := ?_) #[true, true, true, true, true, true, true, true, true, true, true, true, true, true] rfl rfl (any_of HT_.out (by kernel_rfl)) (fun _ _ _ h => h) (Or.inl ⟨by rfl, ?_⟩) ?_ ?_
                        rotate_left
                        · intro w'
                          go_simp
                          with_reducible rfl
                        rotate_left
                        · simp only [Act.put, List.setIfInBounds_toArray, List.set_cons_zero, List.set_cons_succ, i64_w, i32_w]
                          rfl
                        refine done_ (done_of HT_.out (by kernel_rfl)) ?_
                        obtain ⟨Ao58, co58, eo58⟩ := Kd.S_slice HO428.out
                        subst eo58
                        try go_wp2_with (first | (go_at_call 17; (with_reducible refine (reedpiperef18_SameSections.calls kj6 _ _ t426 _ _ l1 true _ ?side1 ?side2 ?side3 ?side4 A38.out).mono ?_); (case side1 => repeat (first | exact (Kd.S_reads' HO428.out).2.2 | (with_reducible refine Kd.C_alloc ?_ _) | (with_reducible refine Kd.C_drewN ?_ _) | (with_reducible refine Kd.C_drew ?_))); (case side2 => exact (Kd.S_reads' HO428.out).2.1); (case side3 => repeat (first | exact (Kd.C_below HR1.out HB.out) | (with_reducible refine Kd.C_alloc ?_ _) | (with_reducible refine Kd.C_drewN ?_ _) | (with_reducible refine Kd.C_drew ?_))); (case side4 => exact HC1.out); rintro e w' ⟨rfl, ⟨nd, rfl⟩⟩))
                        go_ret
                        exact ⟨by first | rfl | (simp [errW_none, errW_some] <;> rfl) | (simp [*, errW_none, errW_some] <;> rfl), by repeat (first | (with_reducible first | exact HB.out | apply below_alloc | apply pw_below_drewN | apply below_drew1 | refine below_set ?_ GE409.out) | exact HB.out)⟩
                    · replace c39 := Bool.eq_false_iff.mpr c39
                      subst c39
                      have H1 : (some false) = some r := by rw [if_neg (show ¬ (false = true) by decide)] at H; exact H
                      clear H
                      have H := H1
                      clear H1
                      obtain rfl := Option.some.inj H
                      try go_wp2
                      have n0_ := Aside0.mk (Kd.R_drew HO414.out)
                      have n1_ := Aside0.mk (blk_drew BK409.out)
                      have n2_ := Aside0.mk (below_drew1 HB.out)
                      clear HO414
                      clear BK409
                      clear HB
                      have HO414 := n0_
                      have BK409 := n1_
                      have HB := n2_
                      clear n0_ n1_ n2_
                      refine start_ (n := 14) (S := fun w' => w'.cell? ⟨gb409, 0, none⟩ = some (.int .u8 a0_0) ∧ w'.cell? ⟨gb409, 1, none⟩ = some (.int .u8 a0_1) ∧ w'.cell? ⟨gb409, 2, none⟩ = some (.int .i64 a0_2) ∧ w'.cell? ⟨gb409, 3, none⟩ = some (.slice A0_3 l0_3.length c0_3)) (ds := []) #[false, false, false, false, false, false, false, false, false, false, false, false, false, false] (by kernel_rfl) rfl rfl ⟨(blk_cell BK409.out 0).trans rfl, (blk_cell BK409.out 1).trans rfl, (blk_cell BK409.out 2).trans rfl, (blk_cell BK409.out 3).trans rfl⟩ (fun hHeld => ?_); refine with_tabW reedpipelaw19_SectBack.tab8 reedpipelaw19_SectBack.bits8 (fun HT_ HW_ => ?_)
                      generalize w32.drew = w59 at HO414 BK409 HB hHeld ⊢
                      refine pure_ (i := 1) (N := some 63) (v := ?_) (a' := ?_) #[false, true, false, false, false, false, false, false, false, false, false, false, false, false] rfl rfl (any_of HT_.out (by kernel_rfl)) (fun _ _ _ h => h) (Or.inl ⟨by rfl, ?_⟩) ?_ ?_
                      rotate_left
                      · intro w'
                        go_simp
                        with_reducible rfl
                      rotate_left
                      · simp only [Act.put, List.setIfInBounds_toArray, List.set_cons_zero, List.set_cons_succ, i64_w, i32_w]
                        rfl
                      refine pure_ (i := 3) (N := some 65) (v := ?_) (a' := ?_) #[false, true, false, true, false, false, false, false, false, false, false, false, false, false] rfl rfl (any_of HT_.out (by kernel_rfl)) (fun _ _ _ h => h) (Or.inl ⟨by rfl, ?_⟩) ?_ ?_
                      rotate_left
                      · intro w'
                        go_simp
                        with_reducible rfl
                      rotate_left
                      · simp only [Act.put, List.setIfInBounds_toArray, List.set_cons_zero, List.set_cons_succ, i64_w, i32_w]
                        rfl
                      refine take_ (i := 5) (N := some 67) (v := ?_) (a' := ?_) #[false, true, false, true, false, true, false, false, false, false, false, false, false, false] rfl rfl (take_ofW HT_.out HW_.out (by kernel_rfl)) (fun _ _ _ h => h) (Or.inl ⟨by rfl, ?_⟩) hHeld ?_ ?_
                      rotate_left
                      · rintro w' ⟨s0, s1, s2, s3⟩
                        go_simp
                        with_reducible rfl
                      rotate_left
                      · simp only [Act.put, List.setIfInBounds_toArray, List.set_cons_zero, List.set_cons_succ, i64_w, i32_w]
                        rfl
                      refine one_ (i := 0) (N := some 62) #[true, true, false, true, false, true, false, false, false, false, false, false, false, false] rfl rfl (one_of HT_.out (by kernel_rfl)) (by decide) (fun K hK => ?_)
                      refine Kd.R_lit_step (Kd.int .u8) _ 5 ?hg (N := 62) ?hd (xs := ([] : List Int)) (inner := []) (ok := fun _ => True) (okp := fun _ => True) ?hr ?hp (fun _ hk => hk) trivial (Below.refl _ _) (Nat.le_refl _) (by simp) ?_; (case hd => rfl); (case hg => rfl); (case hr => first | (go_simp; done) | (go_simp; rfl)); (case hp => exact (Reps.none _ _))
                      intro v418 w60 ho61 hb hg_ hnew_
                      clear hg_ hnew_
                      (first | rw [← Ny417.out] at ho61 | (simp only [Int.reduceToNat] at ho61; rw [← Ny417.out] at ho61))
                      have n0_ := Aside0.mk (Kd.R_elder' (by (with_reducible repeat (first | apply Kd.R_alloc | apply Kd.R_drewN | apply Kd.R_drew)); exact HO414.out) (Kd.R_base ho61) hb)
                      have n1_ := Aside0.mk (Kd.R_lower (Kd.R_new' ho61 (Kd.R_lt (by (with_reducible repeat (first | apply Kd.R_alloc | apply Kd.R_drewN | apply Kd.R_drew)); exact HO414.out))) (below_size (by repeat (first | (with_reducible first | exact HB.out | apply below_alloc | apply pw_below_drewN | apply below_drew1 | refine below_set ?_ GE409.out) | exact HB.out))))
                      have n2_ := Aside0.mk (blk_below (g := gb409) (o := .cells #[.int .u8 a0_0, .int .u8 a0_1, .int .i64 a0_2, .slice A0_3 l0_3.length c0_3] 24 (0, 0)) (by (with_reducible repeat (first | refine blk_drewN ?_ _ | refine blk_drew ?_ | refine blk_alloc ?_ _)); exact BK409.out) hb)
                      have n3_ := Aside0.mk (below_step (by repeat (first | (with_reducible first | exact HB.out | apply below_alloc | apply pw_below_drewN | apply below_drew1 | refine below_set ?_ GE409.out) | exact HB.out)) hb)
                      clear HO414
                      clear BK409
                      clear HB
                      have HO414 := n0_
                      have HO419 := n1_
                      have BK409 := n2_
                      have HB := n3_
                      clear n0_ n1_ n2_ n3_
                      clear hb ho61
                      obtain ⟨Ao63, co63, eo63⟩ := Kd.R_slice HO414.out
                      (first | subst eo63 | (injection eo63 with f1_ f2_ f3_; have f4_ := f1_.symm; have f5_ := f3_.symm; clear f1_ f2_ f3_; subst f4_; subst f5_))
                      refine hK.out _ _ ⟨(blk_cell BK409.out 0).trans rfl, (blk_cell BK409.out 1).trans rfl, (blk_cell BK409.out 2).trans rfl, (blk_cell BK409.out 3).trans rfl⟩ (fun hHeld => ?_)
                      clear hK K
                      refine norm_ (a' := ?_) ?_ ?_
                      rotate_left
                      · show Act.put _ (some 62) _ = _
                        simp only [Act.put, List.setIfInBounds_toArray, List.set_cons_zero, List.set_cons_succ, i64_w, i32_w]
                        rfl
                      refine one_ (i := 2) (N := some 64) #[true, true, true, true, false, true, false, false, false, false, false, false, false, false] rfl rfl (one_of HT_.out (by kernel_rfl)) (by decide) (fun K hK => ?_)
                      refine Kd.R_append_rows_step (Kd.int .u8) (w0 := w) w.heap.size (by rfl) (.tmp 62) (.tmp 63) 28 5 (.int .u8 0) 1 rfl Try.underlying28 info5 rfl (by decide) (by omega) v418 y417 t412 _ _ _ (fun k_ => some k_ ≠ (.slice Ao63 t412.length co63 : Value).ownBlock) (fun _ => False) rfl rfl ?aO ?aR (fun _ _ h => h) (fun _ h => h.elim) ?aF ?aB ?aS ?aL ?_
                      (case aR => repeat (first | exact (Kd.R_reads' HO414.out).2.2 | (with_reducible refine Kd.C_alloc ?_ _) | (with_reducible refine Kd.C_drewN ?_ _) | (with_reducible refine Kd.C_drew ?_)))
                      (case aB => exact (by repeat (first | (with_reducible first | exact HB.out | apply below_alloc | apply pw_below_drewN | apply below_drew1 | refine below_set ?_ GE409.out) | exact HB.out)))
                      (case aF => exact (fun k_ hk => Kd.fresh' (Kd.R_lt (by (with_reducible repeat (first | apply Kd.R_alloc | apply Kd.R_drewN | apply Kd.R_drew)); exact HO414.out)) k_ hk))
                      (case aO => exact (by (with_reducible repeat (first | apply Kd.R_alloc | apply Kd.R_drewN | apply Kd.R_drew)); exact Kd.R_mono HO419.out (fun _ hk => hk.2)))
                      (case aS => exact (below_size (by repeat (first | (with_reducible first | exact HB.out | apply below_alloc | apply pw_below_drewN | apply below_drew1 | refine below_set ?_ GE409.out) | exact HB.out))))
                      (case aL => have := LMc34.out; omega)
                      intro v421 w62 ho hb hg hat
                      rw [← Ny420.out] at ho
                      have n0_ := Aside0.mk (blk_grown (g := gb409) (o := .cells #[.int .u8 a0_0, .int .u8 a0_1, .int .i64 a0_2, .slice A0_3 l0_3.length c0_3] 24 (0, 0)) (by (with_reducible repeat (first | refine blk_drewN ?_ _ | refine blk_drew ?_ | refine blk_alloc ?_ _)); exact BK409.out) hg (Kd.R_ne HO419.out BK409.out (by decide)))
                      have n1_ := Aside0.mk (Kd.R_after (ok := (fun _ => True)) (by (with_reducible repeat (first | apply Kd.R_alloc | apply Kd.R_drewN | apply Kd.R_drew)); exact HO414.out) hg hat)
                      have n2_ := Aside0.mk (hb)
                      have n3_ := Aside0.mk (ho)
                      clear BK409
                      clear HO414
                      clear HB
                      clear HO419
                      have BK409 := n0_
                      have HO414 := n1_
                      have HB := n2_
                      have HO422 := n3_
                      clear n0_ n1_ n2_ n3_
                      clear ho hb hg hat
                      refine hK.out _ _ ⟨(blk_cell BK409.out 0).trans rfl, (blk_cell BK409.out 1).trans rfl, (blk_cell BK409.out 2).trans rfl, (blk_cell BK409.out 3).trans rfl⟩ (fun hHeld => ?_)
                      clear hK K
                      refine norm_ (a' := ?_) ?_ ?_
                      rotate_left
                      · show Act.put _ (some 64) _ = _
                        simp only [Act.put, List.setIfInBounds_toArray, List.set_cons_zero, List.set_cons_succ, i64_w, i32_w]
                        rfl
                      refine one_ (i := 4) (N := some 66) #[true, true, true, true, true, true, false, false, false, false, false, false, false, false] rfl rfl (one_of HT_.out (by kernel_rfl)) (by decide) (fun K hK => ?_)
                      refine Kd.R_append_rows_step (Kd.int .u8) (w0 := w) w.heap.size (by rfl) (.tmp 64) (.tmp 65) 28 5 (.int .u8 0) 1 rfl Try.underlying28 info5 rfl (by decide) (by omega) v421 y420 l2 _ _ _ (fun k_ => some k_ ≠ (.slice Ao63 t412.length co63 : Value).ownBlock) (fun _ => False) rfl rfl ?aO ?aR (fun _ _ h => h) (fun _ h => h.elim) ?aF ?aB ?aS ?aL ?_
                      (case aR => repeat (first | exact (Kd.C_below HR2.out HB.out) | (with_reducible refine Kd.C_alloc ?_ _) | (with_reducible refine Kd.C_drewN ?_ _) | (with_reducible refine Kd.C_drew ?_)))
                      (case aB => exact (by repeat (first | (with_reducible first | exact HB.out | apply below_alloc | apply pw_below_drewN | apply below_drew1 | refine below_set ?_ GE409.out) | exact HB.out)))
                      (case aF => exact (fun k_ hk => Kd.fresh' (Kd.R_lt (by (with_reducible repeat (first | apply Kd.R_alloc | apply Kd.R_drewN | apply Kd.R_drew)); exact HO414.out)) k_ hk))
                      (case aO => exact (by (with_reducible repeat (first | apply Kd.R_alloc | apply Kd.R_drewN | apply Kd.R_drew)); exact HO422.out))
                      (case aS => exact (below_size (by repeat (first | (with_reducible first | exact HB.out | apply below_alloc | apply pw_below_drewN | apply below_drew1 | refine below_set ?_ GE409.out) | exact HB.out))))
                      (case aL => have := LMc35.out; omega)
                      intro v424 w64 ho hb hg hat
                      rw [← Ny423.out] at ho
                      have n0_ := Aside0.mk (blk_grown (g := gb409) (o := .cells #[.int .u8 a0_0, .int .u8 a0_1, .int .i64 a0_2, .slice A0_3 l0_3.length c0_3] 24 (0, 0)) (by (with_reducible repeat (first | refine blk_drewN ?_ _ | refine blk_drew ?_ | refine blk_alloc ?_ _)); exact BK409.out) hg (Kd.R_ne HO422.out BK409.out (by decide)))
                      have n1_ := Aside0.mk (Kd.R_after (ok := (fun _ => True)) (by (with_reducible repeat (first | apply Kd.R_alloc | apply Kd.R_drewN | apply Kd.R_drew)); exact HO414.out) hg hat)
                      have n2_ := Aside0.mk (hb)
                      have n3_ := Aside0.mk (ho)
                      clear BK409
                      clear HO414
                      clear HB
                      clear HO422
                      have BK409 := n0_
                      have HO414 := n1_
                      have HB := n2_
                      have HO425 := n3_
                      clear n0_ n1_ n2_ n3_
                      clear ho hb hg hat
                      obtain ⟨Ao65, co65, eo65⟩ := Kd.R_slice HO425.out
                      (first | subst eo65 | (injection eo65 with f1_ f2_ f3_; have f4_ := f1_.symm; have f5_ := f3_.symm; clear f1_ f2_ f3_; subst f4_; subst f5_))
                      refine hK.out _ _ ⟨(blk_cell BK409.out 0).trans rfl, (blk_cell BK409.out 1).trans rfl, (blk_cell BK409.out 2).trans rfl, (blk_cell BK409.out 3).trans rfl⟩ (fun hHeld => ?_)
                      clear hK K
                      refine norm_ (a' := ?_) ?_ ?_
                      rotate_left
                      · show Act.put _ (some 66) _ = _
                        simp only [Act.put, List.setIfInBounds_toArray, List.set_cons_zero, List.set_cons_succ, i64_w, i32_w]
                        rfl
                      refine one_ (i := 6) (N := some 68) #[true, true, true, true, true, true, true, false, false, false, false, false, false, false] rfl rfl (one_of HT_.out (by kernel_rfl)) (by decide) (fun K hK => ?_)
                      refine goes_ Try.func11 (by kernel_rfl) rfl #[.slice Ao65 y423.length co65, .int .i64 0, .agg #[.int .u8 a0_0, .int .u8 a0_1, .int .i64 a0_2, .slice A0_3 l0_3.length c0_3]] (by rfl) rfl rfl (by (try simp only [List.map_toArray, List.map_cons, List.map_nil]); first | done | rfl | (simp only [List.length_drop, List.length_take]; rfl)) ?_
                      with_reducible refine (sect_Get.calls kj6 _ _ y423 0 a0_0 a0_1 a0_2 _ _ l0_3 t426 t429 t430 _ ?side1 ?side2 ?side3 ?side4 A36.out).mono ?_
                      (case side1 => repeat (first | exact (Kd.R_reads' HO425.out).2.2 | (with_reducible refine Kd.C_alloc ?_ _) | (with_reducible refine Kd.C_drewN ?_ _) | (with_reducible refine Kd.C_drew ?_)))
                      (case side2 => exact (Kd.R_reads' HO425.out).2.1)
                      (case side3 => repeat (first | exact (Kd.C_below HR0_3.out HB.out) | (with_reducible refine Kd.C_alloc ?_ _) | (with_reducible refine Kd.C_drewN ?_ _) | (with_reducible refine Kd.C_drew ?_)))
                      (case side4 => exact HC0_3.out)
                      rintro e w66 ⟨v427, rfl, ho0, hb⟩
                      refine ⟨_, rfl, ?_⟩
                      have n0_ := Aside0.mk (Kd.R_below (by (with_reducible repeat (first | apply Kd.R_alloc | apply Kd.R_drewN | apply Kd.R_drew)); exact HO414.out) hb)
                      have n1_ := Aside0.mk (Kd.R_below (by (with_reducible repeat (first | apply Kd.R_alloc | apply Kd.R_drewN | apply Kd.R_drew)); exact HO425.out) hb)
                      have n2_ := Aside0.mk (Kd.S_lower ho0 (below_size (by repeat (first | (with_reducible first | exact HB.out | apply below_alloc | apply pw_below_drewN | apply below_drew1 | refine below_set ?_ GE409.out) | exact HB.out))))
                      have n3_ := Aside0.mk (blk_below (g := gb409) (o := .cells #[.int .u8 a0_0, .int .u8 a0_1, .int .i64 a0_2, .slice A0_3 l0_3.length c0_3] 24 (0, 0)) (by (with_reducible repeat (first | refine blk_drewN ?_ _ | refine blk_drew ?_ | refine blk_alloc ?_ _)); exact BK409.out) hb)
                      have n4_ := Aside0.mk (below_step (by repeat (first | (with_reducible first | exact HB.out | apply below_alloc | apply pw_below_drewN | apply below_drew1 | refine below_set ?_ GE409.out) | exact HB.out)) hb)
                      clear HO414
                      clear HO425
                      clear BK409
                      clear HB
                      have HO414 := n0_
                      have HO425 := n1_
                      have HO428 := n2_
                      have BK409 := n3_
                      have HB := n4_
                      clear n0_ n1_ n2_ n3_ n4_
                      (try clear hb)
                      (try clear hb2)
                      (try clear hk)
                      (try clear hi)
                      (try clear ho0)
                      refine hK.out _ _ ⟨(blk_cell BK409.out 0).trans rfl, (blk_cell BK409.out 1).trans rfl, (blk_cell BK409.out 2).trans rfl, (blk_cell BK409.out 3).trans rfl⟩ (fun hHeld => ?_)
                      clear hK K
                      refine norm_ (a' := ?_) ?_ ?_
                      rotate_left
                      · show Act.put _ (some 68) _ = _
                        simp only [Act.put, List.setIfInBounds_toArray, List.set_cons_zero, List.set_cons_succ, i64_w, i32_w]
                        rfl
                      refine pure_ (i := 7) (N := some 61) (v := ?_) (a' := ?_) #[true, true, true, true, true, true, true, true, false, false, false, false, false, false] rfl rfl (any_of HT_.out (by kernel_rfl)) (fun _ _ _ h => h) (Or.inl ⟨by rfl, ?_⟩) ?_ ?_
                      rotate_left
                      · intro w'
                        go_simp
                        with_reducible rfl
                      rotate_left
                      · simp only [Act.put, List.setIfInBounds_toArray, List.set_cons_zero, List.set_cons_succ, i64_w, i32_w]
                        rfl
                      refine pure_ (i := 8) (N := some 69) (v := ?_) (a' := ?_) #[true, true, true, true, true, true, true, true, true, false, false, false, false, false] rfl rfl (any_of HT_.out (by kernel_rfl)) (fun _ _ _ h => h) (Or.inl ⟨by rfl, ?_⟩) ?_ ?_
                      rotate_left
                      · intro w'
                        go_simp
                        with_reducible rfl
                      rotate_left
                      · simp only [Act.put, List.setIfInBounds_toArray, List.set_cons_zero, List.set_cons_succ, i64_w, i32_w]
                        rfl
                      refine pure_ (i := 9) (N := some 70) (v := ?_) (a' := ?_) #[true, true, true, true, true, true, true, true, true, true, false, false, false, false] rfl rfl (any_of HT_.out (by kernel_rfl)) (fun _ _ _ h => h) (Or.inl ⟨by rfl, ?_⟩) ?_ ?_
                      rotate_left
                      · intro w'
                        go_simp
                        with_reducible rfl
                      rotate_left
                      · simp only [Act.put, List.setIfInBounds_toArray, List.set_cons_zero, List.set_cons_succ, i64_w, i32_w]
                        rfl
                      refine pure_ (i := 10) (N := some 71) (v := ?_) (a' := ?_) #[true, true, true, true, true, true, true, true, true, true, true, false, false, false] rfl rfl (any_of HT_.out (by kernel_rfl)) (fun _ _ _ h => h) (Or.inl ⟨by rfl, ?_⟩) ?_ ?_
                      rotate_left
                      · intro w'
                        go_simp
                        with_reducible rfl
                      rotate_left
                      · simp only [Act.put, List.setIfInBounds_toArray, List.set_cons_zero, List.set_cons_succ, i64_w, i32_w]
                        rfl
                      refine pure_ (i := 11) (N := some 14) (v := ?_) (a' := ?_) #[true, true, true, true, true, true, true, true, true, true, true, true, false, false] rfl rfl (any_of HT_.out (by kernel_rfl)) (fun _ _ _ h => h) (Or.inl ⟨by rfl, ?_⟩) ?_ ?_
                      rotate_left
                      · intro w'
                        go_simp
                        with_reducible rfl
                      rotate_left
                      · simp only [Act.put, List.setIfInBounds_toArray, List.set_cons_zero, List.set_cons_succ, i64_w, i32_w]
                        rfl
                      refine pure_ (i := 12) (N := some 15) (v := ?_) (a' := ?_) #[true, true, true, true, true, true, true, true, true, true, true, true, true, false] rfl rfl (any_of HT_.out (by kernel_rfl)) (fun _ _ _ h => h) (Or.inl ⟨by rfl, ?_⟩) ?_ ?_
                      rotate_left
                      · intro w'
                        go_simp
                        with_reducible rfl
                      rotate_left
                      · simp only [Act.put, List.setIfInBounds_toArray, List.set_cons_zero, List.set_cons_succ, i64_w, i32_w]
                        rfl
                      refine pure_ (i := 13) (N := some 16) (v := ?_) (a' := ?_) #[true, true, true, true, true, true, true, true, true, true, true, true, true, true] rfl rfl (any_of HT_.out (by kernel_rfl)) (fun _ _ _ h => h) (Or.inl ⟨by rfl, ?_⟩) ?_ ?_
                      rotate_left
                      · intro w'
                        go_simp
                        with_reducible rfl
                      rotate_left
                      · simp only [Act.put, List.setIfInBounds_toArray, List.set_cons_zero, List.set_cons_succ, i64_w, i32_w]
                        rfl
                      refine done_ (done_of HT_.out (by kernel_rfl)) ?_
                      obtain ⟨Ao67, co67, eo67⟩ := Kd.S_slice HO428.out
                      subst eo67
                      try go_wp2_with (first | (go_at_call 17; (with_reducible refine (reedpiperef18_SameSections.calls kj6 _ _ t426 _ _ l1 false _ ?side1 ?side2 ?side3 ?side4 A38.out).mono ?_); (case side1 => repeat (first | exact (Kd.S_reads' HO428.out).2.2 | (with_reducible refine Kd.C_alloc ?_ _) | (with_reducible refine Kd.C_drewN ?_ _) | (with_reducible refine Kd.C_drew ?_))); (case side2 => exact (Kd.S_reads' HO428.out).2.1); (case side3 => repeat (first | exact (Kd.C_below HR1.out HB.out) | (with_reducible refine Kd.C_alloc ?_ _) | (with_reducible refine Kd.C_drewN ?_ _) | (with_reducible refine Kd.C_drew ?_))); (case side4 => exact HC1.out); rintro e w' ⟨rfl, ⟨nd, rfl⟩⟩))
                      go_ret
                      exact ⟨by first | rfl | (simp [errW_none, errW_some] <;> rfl) | (simp [*, errW_none, errW_some] <;> rfl), by repeat (first | (with_reducible first | exact HB.out | apply below_alloc | apply pw_below_drewN | apply below_drew1 | refine below_set ?_ GE409.out) | exact HB.out)⟩
                  · rw [if_neg c37] at H
                    have c37b0 : (t430 == 0) = false := beq_eq_false_iff_ne.mpr c37
                    have c37b1 : (t430 != 0) = true := bne_iff_ne.mpr c37
                    obtain rfl := Option.some.inj H
                    try go_wp2
                    have n0_ := Aside0.mk (Kd.R_drew HO414.out)
                    have n1_ := Aside0.mk (blk_drew BK409.out)
                    have n2_ := Aside0.mk (below_drew1 HB.out)
                    clear HO414
                    clear BK409
                    clear HB
                    have HO414 := n0_
                    have BK409 := n1_
                    have HB := n2_
                    clear n0_ n1_ n2_
                    refine start_ (n := 14) (S := fun w' => w'.cell? ⟨gb409, 0, none⟩ = some (.int .u8 a0_0) ∧ w'.cell? ⟨gb409, 1, none⟩ = some (.int .u8 a0_1) ∧ w'.cell? ⟨gb409, 2, none⟩ = some (.int .i64 a0_2) ∧ w'.cell? ⟨gb409, 3, none⟩ = some (.slice A0_3 l0_3.length c0_3)) (ds := []) #[false, false, false, false, false, false, false, false, false, false, false, false, false, false] (by kernel_rfl) rfl rfl ⟨(blk_cell BK409.out 0).trans rfl, (blk_cell BK409.out 1).trans rfl, (blk_cell BK409.out 2).trans rfl, (blk_cell BK409.out 3).trans rfl⟩ (fun hHeld => ?_); refine with_tabW reedpipelaw19_SectBack.tab8 reedpipelaw19_SectBack.bits8 (fun HT_ HW_ => ?_)
                    generalize w32.drew = w68 at HO414 BK409 HB hHeld ⊢
                    refine pure_ (i := 1) (N := some 63) (v := ?_) (a' := ?_) #[false, true, false, false, false, false, false, false, false, false, false, false, false, false] rfl rfl (any_of HT_.out (by kernel_rfl)) (fun _ _ _ h => h) (Or.inl ⟨by rfl, ?_⟩) ?_ ?_
                    rotate_left
                    · intro w'
                      go_simp
                      with_reducible rfl
                    rotate_left
                    · simp only [Act.put, List.setIfInBounds_toArray, List.set_cons_zero, List.set_cons_succ, i64_w, i32_w]
                      rfl
                    refine pure_ (i := 3) (N := some 65) (v := ?_) (a' := ?_) #[false, true, false, true, false, false, false, false, false, false, false, false, false, false] rfl rfl (any_of HT_.out (by kernel_rfl)) (fun _ _ _ h => h) (Or.inl ⟨by rfl, ?_⟩) ?_ ?_
                    rotate_left
                    · intro w'
                      go_simp
                      with_reducible rfl
                    rotate_left
                    · simp only [Act.put, List.setIfInBounds_toArray, List.set_cons_zero, List.set_cons_succ, i64_w, i32_w]
                      rfl
                    refine take_ (i := 5) (N := some 67) (v := ?_) (a' := ?_) #[false, true, false, true, false, true, false, false, false, false, false, false, false, false] rfl rfl (take_ofW HT_.out HW_.out (by kernel_rfl)) (fun _ _ _ h => h) (Or.inl ⟨by rfl, ?_⟩) hHeld ?_ ?_
                    rotate_left
                    · rintro w' ⟨s0, s1, s2, s3⟩
                      go_simp
                      with_reducible rfl
                    rotate_left
                    · simp only [Act.put, List.setIfInBounds_toArray, List.set_cons_zero, List.set_cons_succ, i64_w, i32_w]
                      rfl
                    refine one_ (i := 0) (N := some 62) #[true, true, false, true, false, true, false, false, false, false, false, false, false, false] rfl rfl (one_of HT_.out (by kernel_rfl)) (by decide) (fun K hK => ?_)
                    refine Kd.R_lit_step (Kd.int .u8) _ 5 ?hg (N := 62) ?hd (xs := ([] : List Int)) (inner := []) (ok := fun _ => True) (okp := fun _ => True) ?hr ?hp (fun _ hk => hk) trivial (Below.refl _ _) (Nat.le_refl _) (by simp) ?_; (case hd => rfl); (case hg => rfl); (case hr => first | (go_simp; done) | (go_simp; rfl)); (case hp => exact (Reps.none _ _))
                    intro v418 w69 ho70 hb hg_ hnew_
                    clear hg_ hnew_
                    (first | rw [← Ny417.out] at ho70 | (simp only [Int.reduceToNat] at ho70; rw [← Ny417.out] at ho70))
                    have n0_ := Aside0.mk (Kd.R_elder' (by (with_reducible repeat (first | apply Kd.R_alloc | apply Kd.R_drewN | apply Kd.R_drew)); exact HO414.out) (Kd.R_base ho70) hb)
                    have n1_ := Aside0.mk (Kd.R_lower (Kd.R_new' ho70 (Kd.R_lt (by (with_reducible repeat (first | apply Kd.R_alloc | apply Kd.R_drewN | apply Kd.R_drew)); exact HO414.out))) (below_size (by repeat (first | (with_reducible first | exact HB.out | apply below_alloc | apply pw_below_drewN | apply below_drew1 | refine below_set ?_ GE409.out) | exact HB.out))))
                    have n2_ := Aside0.mk (blk_below (g := gb409) (o := .cells #[.int .u8 a0_0, .int .u8 a0_1, .int .i64 a0_2, .slice A0_3 l0_3.length c0_3] 24 (0, 0)) (by (with_reducible repeat (first | refine blk_drewN ?_ _ | refine blk_drew ?_ | refine blk_alloc ?_ _)); exact BK409.out) hb)
                    have n3_ := Aside0.mk (below_step (by repeat (first | (with_reducible first | exact HB.out | apply below_alloc | apply pw_below_drewN | apply below_drew1 | refine below_set ?_ GE409.out) | exact HB.out)) hb)
                    clear HO414
                    clear BK409
                    clear HB
                    have HO414 := n0_
                    have HO419 := n1_
                    have BK409 := n2_
                    have HB := n3_
                    clear n0_ n1_ n2_ n3_
                    clear hb ho70
                    obtain ⟨Ao72, co72, eo72⟩ := Kd.R_slice HO414.out
                    (first | subst eo72 | (injection eo72 with f1_ f2_ f3_; have f4_ := f1_.symm; have f5_ := f3_.symm; clear f1_ f2_ f3_; subst f4_; subst f5_))
                    refine hK.out _ _ ⟨(blk_cell BK409.out 0).trans rfl, (blk_cell BK409.out 1).trans rfl, (blk_cell BK409.out 2).trans rfl, (blk_cell BK409.out 3).trans rfl⟩ (fun hHeld => ?_)
                    clear hK K
                    refine norm_ (a' := ?_) ?_ ?_
                    rotate_left
                    · show Act.put _ (some 62) _ = _
                      simp only [Act.put, List.setIfInBounds_toArray, List.set_cons_zero, List.set_cons_succ, i64_w, i32_w]
                      rfl
                    refine one_ (i := 2) (N := some 64) #[true, true, true, true, false, true, false, false, false, false, false, false, false, false] rfl rfl (one_of HT_.out (by kernel_rfl)) (by decide) (fun K hK => ?_)
                    refine Kd.R_append_rows_step (Kd.int .u8) (w0 := w) w.heap.size (by rfl) (.tmp 62) (.tmp 63) 28 5 (.int .u8 0) 1 rfl Try.underlying28 info5 rfl (by decide) (by omega) v418 y417 t412 _ _ _ (fun k_ => some k_ ≠ (.slice Ao72 t412.length co72 : Value).ownBlock) (fun _ => False) rfl rfl ?aO ?aR (fun _ _ h => h) (fun _ h => h.elim) ?aF ?aB ?aS ?aL ?_
                    (case aR => repeat (first | exact (Kd.R_reads' HO414.out).2.2 | (with_reducible refine Kd.C_alloc ?_ _) | (with_reducible refine Kd.C_drewN ?_ _) | (with_reducible refine Kd.C_drew ?_)))
                    (case aB => exact (by repeat (first | (with_reducible first | exact HB.out | apply below_alloc | apply pw_below_drewN | apply below_drew1 | refine below_set ?_ GE409.out) | exact HB.out)))
                    (case aF => exact (fun k_ hk => Kd.fresh' (Kd.R_lt (by (with_reducible repeat (first | apply Kd.R_alloc | apply Kd.R_drewN | apply Kd.R_drew)); exact HO414.out)) k_ hk))
                    (case aO => exact (by (with_reducible repeat (first | apply Kd.R_alloc | apply Kd.R_drewN | apply Kd.R_drew)); exact Kd.R_mono HO419.out (fun _ hk => hk.2)))
                    (case aS => exact (below_size (by repeat (first | (with_reducible first | exact HB.out | apply below_alloc | apply pw_below_drewN | apply below_drew1 | refine below_set ?_ GE409.out) | exact HB.out))))
                    (case aL => have := LMc34.out; omega)
                    intro v421 w71 ho hb hg hat
                    rw [← Ny420.out] at ho
                    have n0_ := Aside0.mk (blk_grown (g := gb409) (o := .cells #[.int .u8 a0_0, .int .u8 a0_1, .int .i64 a0_2, .slice A0_3 l0_3.length c0_3] 24 (0, 0)) (by (with_reducible repeat (first | refine blk_drewN ?_ _ | refine blk_drew ?_ | refine blk_alloc ?_ _)); exact BK409.out) hg (Kd.R_ne HO419.out BK409.out (by decide)))
                    have n1_ := Aside0.mk (Kd.R_after (ok := (fun _ => True)) (by (with_reducible repeat (first | apply Kd.R_alloc | apply Kd.R_drewN | apply Kd.R_drew)); exact HO414.out) hg hat)
                    have n2_ := Aside0.mk (hb)
                    have n3_ := Aside0.mk (ho)
                    clear BK409
                    clear HO414
                    clear HB
                    clear HO419
                    have BK409 := n0_
                    have HO414 := n1_
                    have HB := n2_
                    have HO422 := n3_
                    clear n0_ n1_ n2_ n3_
                    clear ho hb hg hat
                    refine hK.out _ _ ⟨(blk_cell BK409.out 0).trans rfl, (blk_cell BK409.out 1).trans rfl, (blk_cell BK409.out 2).trans rfl, (blk_cell BK409.out 3).trans rfl⟩ (fun hHeld => ?_)
                    clear hK K
                    refine norm_ (a' := ?_) ?_ ?_
                    rotate_left
                    · show Act.put _ (some 64) _ = _
                      simp only [Act.put, List.setIfInBounds_toArray, List.set_cons_zero, List.set_cons_succ, i64_w, i32_w]
                      rfl
                    refine one_ (i := 4) (N := some 66) #[true, true, true, true, true, true, false, false, false, false, false, false, false, false] rfl rfl (one_of HT_.out (by kernel_rfl)) (by decide) (fun K hK => ?_)
                    refine Kd.R_append_rows_step (Kd.int .u8) (w0 := w) w.heap.size (by rfl) (.tmp 64) (.tmp 65) 28 5 (.int .u8 0) 1 rfl Try.underlying28 info5 rfl (by decide) (by omega) v421 y420 l2 _ _ _ (fun k_ => some k_ ≠ (.slice Ao72 t412.length co72 : Value).ownBlock) (fun _ => False) rfl rfl ?aO ?aR (fun _ _ h => h) (fun _ h => h.elim) ?aF ?aB ?aS ?aL ?_
                    (case aR => repeat (first | exact (Kd.C_below HR2.out HB.out) | (with_reducible refine Kd.C_alloc ?_ _) | (with_reducible refine Kd.C_drewN ?_ _) | (with_reducible refine Kd.C_drew ?_)))
                    (case aB => exact (by repeat (first | (with_reducible first | exact HB.out | apply below_alloc | apply pw_below_drewN | apply below_drew1 | refine below_set ?_ GE409.out) | exact HB.out)))
                    (case aF => exact (fun k_ hk => Kd.fresh' (Kd.R_lt (by (with_reducible repeat (first | apply Kd.R_alloc | apply Kd.R_drewN | apply Kd.R_drew)); exact HO414.out)) k_ hk))
                    (case aO => exact (by (with_reducible repeat (first | apply Kd.R_alloc | apply Kd.R_drewN | apply Kd.R_drew)); exact HO422.out))
                    (case aS => exact (below_size (by repeat (first | (with_reducible first | exact HB.out | apply below_alloc | apply pw_below_drewN | apply below_drew1 | refine below_set ?_ GE409.out) | exact HB.out))))
                    (case aL => have := LMc35.out; omega)
                    intro v424 w73 ho hb hg hat
                    rw [← Ny423.out] at ho
                    have n0_ := Aside0.mk (blk_grown (g := gb409) (o := .cells #[.int .u8 a0_0, .int .u8 a0_1, .int .i64 a0_2, .slice A0_3 l0_3.length c0_3] 24 (0, 0)) (by (with_reducible repeat (first | refine blk_drewN ?_ _ | refine blk_drew ?_ | refine blk_alloc ?_ _)); exact BK409.out) hg (Kd.R_ne HO422.out BK409.out (by decide)))
                    have n1_ := Aside0.mk (Kd.R_after (ok := (fun _ => True)) (by (with_reducible repeat (first | apply Kd.R_alloc | apply Kd.R_drewN | apply Kd.R_drew)); exact HO414.out) hg hat)
                    have n2_ := Aside0.mk (hb)
                    have n3_ := Aside0.mk (ho)
                    clear BK409
                    clear HO414
                    clear HB
                    clear HO422
                    have BK409 := n0_
                    have HO414 := n1_
                    have HB := n2_
                    have HO425 := n3_
                    clear n0_ n1_ n2_ n3_
                    clear ho hb hg hat
                    obtain ⟨Ao74, co74, eo74⟩ := Kd.R_slice HO425.out
                    (first | subst eo74 | (injection eo74 with f1_ f2_ f3_; have f4_ := f1_.symm; have f5_ := f3_.symm; clear f1_ f2_ f3_; subst f4_; subst f5_))
                    refine hK.out _ _ ⟨(blk_cell BK409.out 0).trans rfl, (blk_cell BK409.out 1).trans rfl, (blk_cell BK409.out 2).trans rfl, (blk_cell BK409.out 3).trans rfl⟩ (fun hHeld => ?_)
                    clear hK K
                    refine norm_ (a' := ?_) ?_ ?_
                    rotate_left
                    · show Act.put _ (some 66) _ = _
                      simp only [Act.put, List.setIfInBounds_toArray, List.set_cons_zero, List.set_cons_succ, i64_w, i32_w]
                      rfl
                    refine one_ (i := 6) (N := some 68) #[true, true, true, true, true, true, true, false, false, false, false, false, false, false] rfl rfl (one_of HT_.out (by kernel_rfl)) (by decide) (fun K hK => ?_)
                    refine goes_ Try.func11 (by kernel_rfl) rfl #[.slice Ao74 y423.length co74, .int .i64 0, .agg #[.int .u8 a0_0, .int .u8 a0_1, .int .i64 a0_2, .slice A0_3 l0_3.length c0_3]] (by rfl) rfl rfl (by (try simp only [List.map_toArray, List.map_cons, List.map_nil]); first | done | rfl | (simp only [List.length_drop, List.length_take]; rfl)) ?_
                    with_reducible refine (sect_Get.calls kj6 _ _ y423 0 a0_0 a0_1 a0_2 _ _ l0_3 t426 t429 t430 _ ?side1 ?side2 ?side3 ?side4 A36.out).mono ?_
                    (case side1 => repeat (first | exact (Kd.R_reads' HO425.out).2.2 | (with_reducible refine Kd.C_alloc ?_ _) | (with_reducible refine Kd.C_drewN ?_ _) | (with_reducible refine Kd.C_drew ?_)))
                    (case side2 => exact (Kd.R_reads' HO425.out).2.1)
                    (case side3 => repeat (first | exact (Kd.C_below HR0_3.out HB.out) | (with_reducible refine Kd.C_alloc ?_ _) | (with_reducible refine Kd.C_drewN ?_ _) | (with_reducible refine Kd.C_drew ?_)))
                    (case side4 => exact HC0_3.out)
                    rintro e w75 ⟨v427, rfl, ho0, hb⟩
                    refine ⟨_, rfl, ?_⟩
                    have n0_ := Aside0.mk (Kd.R_below (by (with_reducible repeat (first | apply Kd.R_alloc | apply Kd.R_drewN | apply Kd.R_drew)); exact HO414.out) hb)
                    have n1_ := Aside0.mk (Kd.R_below (by (with_reducible repeat (first | apply Kd.R_alloc | apply Kd.R_drewN | apply Kd.R_drew)); exact HO425.out) hb)
                    have n2_ := Aside0.mk (Kd.S_lower ho0 (below_size (by repeat (first | (with_reducible first | exact HB.out | apply below_alloc | apply pw_below_drewN | apply below_drew1 | refine below_set ?_ GE409.out) | exact HB.out))))
                    have n3_ := Aside0.mk (blk_below (g := gb409) (o := .cells #[.int .u8 a0_0, .int .u8 a0_1, .int .i64 a0_2, .slice A0_3 l0_3.length c0_3] 24 (0, 0)) (by (with_reducible repeat (first | refine blk_drewN ?_ _ | refine blk_drew ?_ | refine blk_alloc ?_ _)); exact BK409.out) hb)
                    have n4_ := Aside0.mk (below_step (by repeat (first | (with_reducible first | exact HB.out | apply below_alloc | apply pw_below_drewN | apply below_drew1 | refine below_set ?_ GE409.out) | exact HB.out)) hb)
                    clear HO414
                    clear HO425
                    clear BK409
                    clear HB
                    have HO414 := n0_
                    have HO425 := n1_
                    have HO428 := n2_
                    have BK409 := n3_
                    have HB := n4_
                    clear n0_ n1_ n2_ n3_ n4_
                    (try clear hb)
                    (try clear hb2)
                    (try clear hk)
                    (try clear hi)
                    (try clear ho0)
                    refine hK.out _ _ ⟨(blk_cell BK409.out 0).trans rfl, (blk_cell BK409.out 1).trans rfl, (blk_cell BK409.out 2).trans rfl, (blk_cell BK409.out 3).trans rfl⟩ (fun hHeld => ?_)
                    clear hK K
                    refine norm_ (a' := ?_) ?_ ?_
                    rotate_left
                    · show Act.put _ (some 68) _ = _
                      simp only [Act.put, List.setIfInBounds_toArray, List.set_cons_zero, List.set_cons_succ, i64_w, i32_w]
                      rfl
                    refine pure_ (i := 7) (N := some 61) (v := ?_) (a' := ?_) #[true, true, true, true, true, true, true, true, false, false, false, false, false, false] rfl rfl (any_of HT_.out (by kernel_rfl)) (fun _ _ _ h => h) (Or.inl ⟨by rfl, ?_⟩) ?_ ?_
                    rotate_left
                    · intro w'
                      go_simp
                      with_reducible rfl
                    rotate_left
                    · simp only [Act.put, List.setIfInBounds_toArray, List.set_cons_zero, List.set_cons_succ, i64_w, i32_w]
                      rfl
                    refine pure_ (i := 8) (N := some 69) (v := ?_) (a' := ?_) #[true, true, true, true, true, true, true, true, true, false, false, false, false, false] rfl rfl (any_of HT_.out (by kernel_rfl)) (fun _ _ _ h => h) (Or.inl ⟨by rfl, ?_⟩) ?_ ?_
                    rotate_left
                    · intro w'
                      go_simp
                      with_reducible rfl
                    rotate_left
                    · simp only [Act.put, List.setIfInBounds_toArray, List.set_cons_zero, List.set_cons_succ, i64_w, i32_w]
                      rfl
                    refine pure_ (i := 9) (N := some 70) (v := ?_) (a' := ?_) #[true, true, true, true, true, true, true, true, true, true, false, false, false, false] rfl rfl (any_of HT_.out (by kernel_rfl)) (fun _ _ _ h => h) (Or.inl ⟨by rfl, ?_⟩) ?_ ?_
                    rotate_left
                    · intro w'
                      go_simp
                      with_reducible rfl
                    rotate_left
                    · simp only [Act.put, List.setIfInBounds_toArray, List.set_cons_zero, List.set_cons_succ, i64_w, i32_w]
                      rfl
                    refine pure_ (i := 10) (N := some 71) (v := ?_) (a' := ?_) #[true, true, true, true, true, true, true, true, true, true, true, false, false, false] rfl rfl (any_of HT_.out (by kernel_rfl)) (fun _ _ _ h => h) (Or.inl ⟨by rfl, ?_⟩) ?_ ?_
                    rotate_left
                    · intro w'
                      go_simp
                      with_reducible rfl
                    rotate_left
                    · simp only [Act.put, List.setIfInBounds_toArray, List.set_cons_zero, List.set_cons_succ, i64_w, i32_w]
                      rfl
                    refine pure_ (i := 11) (N := some 14) (v := ?_) (a' := ?_) #[true, true, true, true, true, true, true, true, true, true, true, true, false, false] rfl rfl (any_of HT_.out (by kernel_rfl)) (fun _ _ _ h => h) (Or.inl ⟨by rfl, ?_⟩) ?_ ?_
                    rotate_left
                    · intro w'
                      go_simp
                      with_reducible rfl
                    rotate_left
                    · simp only [Act.put, List.setIfInBounds_toArray, List.set_cons_zero, List.set_cons_succ, i64_w, i32_w]
                      rfl
                    refine pure_ (i := 12) (N := some 15) (v := ?_) (a' := ?_) #[true, true, true, true, true, true, true, true, true, true, true, true, true, false] rfl rfl (any_of HT_.out (by kernel_rfl)) (fun _ _ _ h => h) (Or.inl ⟨by rfl, ?_⟩) ?_ ?_
                    rotate_left
                    · intro w'
                      go_simp
                      with_reducible rfl
                    rotate_left
                    · simp only [Act.put, List.setIfInBounds_toArray, List.set_cons_zero, List.set_cons_succ, i64_w, i32_w]
                      rfl
                    refine pure_ (i := 13) (N := some 16) (v := ?_) (a' := ?_) #[true, true, true, true, true, true, true, true, true, true, true, true, true, true] rfl rfl (any_of HT_.out (by kernel_rfl)) (fun _ _ _ h => h) (Or.inl ⟨by rfl, ?_⟩) ?_ ?_
                    rotate_left
                    · intro w'
                      go_simp
                      with_reducible rfl
                    rotate_left
                    · simp only [Act.put, List.setIfInBounds_toArray, List.set_cons_zero, List.set_cons_succ, i64_w, i32_w]
                      rfl
                    refine done_ (done_of HT_.out (by kernel_rfl)) ?_
                    try go_wp2
                    go_ret
                    exact ⟨by first | rfl | (simp [errW_none, errW_some] <;> rfl) | (simp [*, errW_none, errW_some] <;> rfl), by repeat (first | (with_reducible first | exact HB.out | apply below_alloc | apply pw_below_drewN | apply below_drew1 | refine below_set ?_ GE409.out) | exact HB.out)⟩
                · rw [if_neg c35] at H
                  exact absurd H (by simp)
              · rw [if_neg c34] at H
                exact absurd H (by simp)
            · rw [if_neg c33] at H
              have c33b0 : (t415 == 0) = false := beq_eq_false_iff_ne.mpr c33
              have c33b1 : (t415 != 0) = true := bne_iff_ne.mpr c33
              (first | rw [c33b0] | (simp only [i64_w, i32_w]; rw [c33b0]) | skip)
              have H' := Aside0.mk H
              clear H
              go_wp2
              go_meet
              case rel => exact ⟨_, H', ⟨by have := HJ6.out; first | omega | exact Nat.le_refl _⟩, ⟨by (with_reducible repeat (first | refine blk_drewN ?_ _ | refine blk_drew ?_ | refine blk_alloc ?_ _)); exact BK409.out⟩, ⟨by repeat (first | (with_reducible first | exact HB.out | apply below_alloc | apply pw_below_drewN | apply below_drew1 | refine below_set ?_ GE409.out) | exact HB.out)⟩⟩
          case rest =>
            clear HC28
            try clear c1
            try clear p2
            try clear c3
            try clear c11
            try clear c33
            try clear c33b0
            try clear c33b1
            try clear c34
            try clear c35
            try clear c37
            try clear c37b0
            try clear c37b1
            try clear c39
            obtain ⟨kq, HA, HJ27, BK409, HB⟩ := hcut
            cases kq with
            | zero => exact absurd HA.out (by simp [reedpipelaw19_SectBack.j1])
            | succ kj27 =>
              have H := HA.out
              clear HA
              simp only [reedpipelaw19_SectBack.j1] at H
              replace H := Option.bind_eq_some_iff.mp H
              obtain ⟨⟨t432, t435, t436⟩, A760, H⟩ := H
              replace H : (if t436 = 0 then ((sect_Put.f ([] : List Int) a0_0 a0_1 a0_2 l0_3 t432).bind fun bt437 => (if bt437.2 = 0 then (if 0 ≤ a4 then (if a4 ≤ t435 then (if t435 ≤ (l3.length : Int) then (some ((strOfNums bt437.1).toList == (strOfNums ((l3.take (t435 : Int).toNat).drop (a4 : Int).toNat)).toList)) else (none)) else (none)) else (none)) else (some false))) else (if (t432.length : Int) = 0 then (some (t435 == 0)) else (some false))) = some r := H
              have A76 := Aside0.mk A760
              clear A760
              by_cases c77 : t436 = 0
              · rw [if_pos c77] at H
                have c77b0 : (t436 == 0) = true := beq_iff_eq.mpr c77
                have c77b1 : (t436 != 0) = false := bne_eq_false_iff_eq.mpr c77
                clear c77
                replace H := Option.bind_eq_some_iff.mp H
                obtain ⟨⟨t437, t440⟩, A780, H⟩ := H
                replace H : (if t440 = 0 then (if 0 ≤ a4 then (if a4 ≤ t435 then (if t435 ≤ (l3.length : Int) then (some ((strOfNums t437).toList == (strOfNums ((l3.take (t435 : Int).toNat).drop (a4 : Int).toNat)).toList)) else (none)) else (none)) else (none)) else (some false)) = some r := H
                have A78 := Aside0.mk A780
                clear A780
                by_cases c79 : t440 = 0
                · rw [if_pos c79] at H
                  have c79b0 : (t440 == 0) = true := beq_iff_eq.mpr c79
                  have c79b1 : (t440 != 0) = false := bne_eq_false_iff_eq.mpr c79
                  clear c79
                  by_cases c80 : 0 ≤ a4
                  · rw [if_pos c80] at H
                    have c80b0 := eq_true c80
                    have c80b1 : decide (0 ≤ a4) = true := decide_eq_true c80
                    clear c80
                    by_cases c81 : a4 ≤ t435
                    · rw [if_pos c81] at H
                      have c81b0 := eq_true c81
                      have c81b1 : decide (a4 ≤ t435) = true := decide_eq_true c81
                      clear c81
                      by_cases c82 : t435 ≤ (l3.length : Int)
                      · rw [if_pos c82] at H
                        have c82b0 := eq_true c82
                        have c82b1 : decide (t435 ≤ (l3.length : Int)) = true := decide_eq_true c82
                        clear c82
                        obtain rfl := Option.some.inj H
                        have hcz83_0 : wc.cell? ⟨gb409, 0, none⟩ = some (.int .u8 a0_0) := (blk_cell BK409.out 0).trans rfl
                        have hcz83_1 : wc.cell? ⟨gb409, 1, none⟩ = some (.int .u8 a0_1) := (blk_cell BK409.out 1).trans rfl
                        have hcz83_2 : wc.cell? ⟨gb409, 2, none⟩ = some (.int .i64 a0_2) := (blk_cell BK409.out 2).trans rfl
                        have hcz83_3 : wc.cell? ⟨gb409, 3, none⟩ = some (.slice A0_3 l0_3.length c0_3) := (blk_cell BK409.out 3).trans rfl
                        have hfz83_0 := blk_frozen BK409.out 0
                        have hfz83_1 := blk_frozen BK409.out 1
                        have hfz83_2 := blk_frozen BK409.out 2
                        have hfz83_3 := blk_frozen BK409.out 3
                        try go_wp2_with (first | ((with_reducible refine gate_callee (f := 11) rfl ?_); refine goesL_ (some 90) rfl rfl Try.func11 (by kernel_rfl) rfl #[.slice A3 l3.length c3, .int .i64 a4, .agg #[.int .u8 a0_0, .int .u8 a0_1, .int .i64 a0_2, .slice A0_3 l0_3.length c0_3]] rfl (by (try simp only [List.map_toArray, List.map_cons, List.map_nil]); first | done | rfl | (simp only [List.length_drop, List.length_take]; rfl)) ?_; (with_reducible refine (sect_Get.calls kj27 _ _ l3 a4 a0_0 a0_1 a0_2 _ _ l0_3 t432 t435 t436 _ ?side1 ?side2 ?side3 ?side4 A76.out).mono ?_); (case side1 => repeat (first | exact (Kd.C_below HR3.out HB.out) | (with_reducible refine Kd.C_alloc ?_ _) | (with_reducible refine Kd.C_drewN ?_ _) | (with_reducible refine Kd.C_drew ?_))); (case side2 => exact HC3.out); (case side3 => repeat (first | exact (Kd.C_below HR0_3.out HB.out) | (with_reducible refine Kd.C_alloc ?_ _) | (with_reducible refine Kd.C_drewN ?_ _) | (with_reducible refine Kd.C_drew ?_))); (case side4 => exact HC0_3.out); rintro e w84 ⟨v433, rfl, ho0, hb⟩; refine ⟨_, rfl, ?_⟩; have n0_ := Aside0.mk (Kd.S_lower ho0 (below_size (by repeat (first | (with_reducible first | exact HB.out | apply below_alloc | apply pw_below_drewN | apply below_drew1 | refine below_set ?_ GE409.out) | exact HB.out)))); have n1_ := Aside0.mk (blk_below (g := gb409) (o := .cells #[.int .u8 a0_0, .int .u8 a0_1, .int .i64 a0_2, .slice A0_3 l0_3.length c0_3] 24 (0, 0)) (by (with_reducible repeat (first | refine blk_drewN ?_ _ | refine blk_drew ?_ | refine blk_alloc ?_ _)); exact BK409.out) hb); have n2_ := Aside0.mk (below_step (by repeat (first | (with_reducible first | exact HB.out | apply below_alloc | apply pw_below_drewN | apply below_drew1 | refine below_set ?_ GE409.out) | exact HB.out)) hb); clear BK409; clear HB; have HO434 := n0_; have BK409 := n1_; have HB := n2_; clear n0_ n1_ n2_; (try clear hb); (try clear hb2); (try clear hk); (try clear hi); (try clear ho0); have hcz85_0 : w84.cell? ⟨gb409, 0, none⟩ = some (.int .u8 a0_0) := (blk_cell BK409.out 0).trans rfl; have hcz85_1 : w84.cell? ⟨gb409, 1, none⟩ = some (.int .u8 a0_1) := (blk_cell BK409.out 1).trans rfl; have hcz85_2 : w84.cell? ⟨gb409, 2, none⟩ = some (.int .i64 a0_2) := (blk_cell BK409.out 2).trans rfl; have hcz85_3 : w84.cell? ⟨gb409, 3, none⟩ = some (.slice A0_3 l0_3.length c0_3) := (blk_cell BK409.out 3).trans rfl; have hfz85_0 := blk_frozen BK409.out 0; have hfz85_1 := blk_frozen BK409.out 1; have hfz85_2 := blk_frozen BK409.out 2; have hfz85_3 := blk_frozen BK409.out 3; obtain ⟨Ao86, co86, eo86⟩ := Kd.S_slice HO434.out; subst eo86) | ((with_reducible refine gate_callee (f := 9) rfl ?_); refine goesL_ (some 106) rfl rfl Try.func9 (by kernel_rfl) rfl #[.slice none 0 0, .agg #[.int .u8 a0_0, .int .u8 a0_1, .int .i64 a0_2, .slice A0_3 l0_3.length c0_3], .slice Ao86 t432.length co86] rfl (by (try simp only [List.map_toArray, List.map_cons, List.map_nil]); first | done | rfl | (simp only [List.length_drop, List.length_take]; rfl)) ?_; (refine (sect_Put.calls _ _ ([] : List Int) a0_0 a0_1 a0_2 _ _ l0_3 _ _ t432 t437 t440 _ ?side1 ?side2 ?side3 ?side4 ?side5 ?side6 A78.out).mono ?_); (case side1 => exact Kd.C_nil _ _); (case side2 => exact Nat.le_refl _); (case side3 => repeat (first | exact (Kd.C_below HR0_3.out HB.out) | (with_reducible refine Kd.C_alloc ?_ _) | (with_reducible refine Kd.C_drewN ?_ _) | (with_reducible refine Kd.C_drew ?_))); (case side4 => exact HC0_3.out); (case side5 => repeat (first | exact (Kd.S_reads' HO434.out).2.2 | (with_reducible refine Kd.C_alloc ?_ _) | (with_reducible refine Kd.C_drewN ?_ _) | (with_reducible refine Kd.C_drew ?_))); (case side6 => exact (Kd.S_reads' HO434.out).2.1); rintro e w87 ⟨v438, rfl, ho0, hb⟩; refine ⟨_, rfl, ?_⟩; have n0_ := Aside0.mk (Kd.S_below (by (with_reducible repeat (first | apply Kd.S_alloc | apply Kd.S_drewN | apply Kd.S_drew)); exact HO434.out) hb); have n1_ := Aside0.mk (Kd.R_lower ho0 (below_size (by repeat (first | (with_reducible first | exact HB.out | apply below_alloc | apply pw_below_drewN | apply below_drew1 | refine below_set ?_ GE409.out) | exact HB.out)))); have n2_ := Aside0.mk (blk_below (g := gb409) (o := .cells #[.int .u8 a0_0, .int .u8 a0_1, .int .i64 a0_2, .slice A0_3 l0_3.length c0_3] 24 (0, 0)) (by (with_reducible repeat (first | refine blk_drewN ?_ _ | refine blk_drew ?_ | refine blk_alloc ?_ _)); exact BK409.out) hb); have n3_ := Aside0.mk (below_step (by repeat (first | (with_reducible first | exact HB.out | apply below_alloc | apply pw_below_drewN | apply below_drew1 | refine below_set ?_ GE409.out) | exact HB.out)) hb); clear HO434; clear BK409; clear HB; have HO434 := n0_; have HO439 := n1_; have BK409 := n2_; have HB := n3_; clear n0_ n1_ n2_ n3_; (try clear hb); (try clear hb2); (try clear hk); (try clear hi); (try clear ho0)))
                        have n0_ := Aside0.mk (Kd.S_drew HO434.out)
                        have n1_ := Aside0.mk (Kd.R_drew HO439.out)
                        have n2_ := Aside0.mk (blk_drew BK409.out)
                        have n3_ := Aside0.mk (below_drew1 HB.out)
                        clear HO434
                        clear HO439
                        clear BK409
                        clear HB
                        have HO434 := n0_
                        have HO439 := n1_
                        have BK409 := n2_
                        have HB := n3_
                        clear n0_ n1_ n2_ n3_
                        obtain ⟨i089, hi089, _, hsz89, _⟩ := info_parts info5
                        obtain ⟨A89, hcut89, hA89, hC89⟩ := print_mid_of (P := Try.prog) (Value.int .u8) 0 28 5 .i64 .i64 Try.underlying28 hi089 hsz89 A3 c3 l3 a4 t435 (of_decide_eq_true (by first | (with_reducible assumption) | assumption)) (by first | omega | exact of_decide_eq_true (by first | (with_reducible assumption) | assumption)) (of_decide_eq_true (by first | (with_reducible assumption) | assumption)) HC3.out
                        have HR441 := Aside0.mk (Kd.C_of_reads (h1 := fun _ => rfl) (hA89 _ (Kd.reads_of_C HR3.out)))
                        have HC441 := Aside0.mk hC89
                        clear hA89 hC89 hi089 hsz89
                        have hLQ91 : Aside0 (((l3.take (t435 : Int).toNat).drop (a4 : Int).toNat).length = t435.toNat - a4.toNat) := ⟨by have := of_decide_eq_true (p := (t435 : Int) ≤ (l3.length : Int)) (by assumption); rw [List.length_drop, List.length_take]; omega⟩
                        refine start_ (n := 13) (S := fun w' => (convert 28 9 (v438)).run Try.prog w' = .ok (.string (strOfNums t437)) w' ∧ (convert 28 9 (.slice A89 (t435.toNat - a4.toNat) (c3 - a4.toNat))).run Try.prog w' = .ok (.string (strOfNums ((l3.take (t435 : Int).toNat).drop (a4 : Int).toNat))) w') (ds := []) #[false, false, false, false, false, false, false, false, false, false, false, false, false] (by kernel_rfl) rfl rfl ⟨own_string (P := Try.prog) Try.underlying28 Try.underlying5 Try.underlying9 (Kd.own_of_R (by first | (with_reducible exact HO439.out) | ((with_reducible repeat (first | apply Kd.R_drewN | apply Kd.R_drew | apply Kd.R_alloc)); exact HO439.out) | exact HO439.out)), (HA.cv_len hLQ91.out (Kd.C_string (P := Try.prog) (A := A89) (c := (c3 - a4.toNat)) Try.underlying28 Try.underlying5 Try.underlying9 (by first | (with_reducible exact (Kd.C_below HR441.out HB.out)) | ((with_reducible repeat (first | apply Kd.C_drewN | apply Kd.C_drew | apply Kd.C_alloc)); exact (Kd.C_below HR441.out HB.out)) | exact (Kd.C_below HR441.out HB.out))))⟩ (fun hHeld => ?_); refine with_tabW reedpipelaw19_SectBack.tab15 reedpipelaw19_SectBack.bits15 (fun HT_ HW_ => ?_)
                        generalize w87.drew = w88 at HO434 HO439 BK409 HB HR441 hHeld ⊢
                        refine pure_ (i := 0) (N := some 109) (v := ?_) (a' := ?_) #[true, false, false, false, false, false, false, false, false, false, false, false, false] rfl rfl (any_of HT_.out (by kernel_rfl)) (fun _ _ _ h => h) (Or.inl ⟨by rfl, ?_⟩) ?_ ?_
                        rotate_left
                        · intro w'
                          go_simp
                          with_reducible rfl
                        rotate_left
                        · simp only [Act.put, List.setIfInBounds_toArray, List.set_cons_zero, List.set_cons_succ, i64_w, i32_w]
                          rfl
                        refine pure_ (i := 1) (N := some 110) (v := ?_) (a' := ?_) #[true, true, false, false, false, false, false, false, false, false, false, false, false] rfl rfl (any_of HT_.out (by kernel_rfl)) (fun _ _ _ h => h) (Or.inl ⟨by rfl, ?_⟩) ?_ ?_
                        rotate_left
                        · intro w'
                          go_simp
                          with_reducible rfl
                        rotate_left
                        · simp only [Act.put, List.setIfInBounds_toArray, List.set_cons_zero, List.set_cons_succ, i64_w, i32_w]
                          rfl
                        refine pure_ (i := 2) (N := some 111) (v := ?_) (a' := ?_) #[true, true, true, false, false, false, false, false, false, false, false, false, false] rfl rfl (any_of HT_.out (by kernel_rfl)) (fun _ _ _ h => h) (Or.inl ⟨by rfl, ?_⟩) ?_ ?_
                        rotate_left
                        · intro w'
                          go_simp
                          with_reducible rfl
                        rotate_left
                        · simp only [Act.put, List.setIfInBounds_toArray, List.set_cons_zero, List.set_cons_succ, i64_w, i32_w]
                          rfl
                        refine pure_ (i := 3) (N := some 112) (v := ?_) (a' := ?_) #[true, true, true, true, false, false, false, false, false, false, false, false, false] rfl rfl (any_of HT_.out (by kernel_rfl)) (fun _ _ _ h => h) (Or.inl ⟨by rfl, ?_⟩) ?_ ?_
                        rotate_left
                        · intro w'
                          go_simp
                          with_reducible rfl
                        rotate_left
                        · simp only [Act.put, List.setIfInBounds_toArray, List.set_cons_zero, List.set_cons_succ, i64_w, i32_w]
                          rfl
                        refine pure_ (i := 5) (N := some 114) (v := ?_) (a' := ?_) #[true, true, true, true, false, true, false, false, false, false, false, false, false] rfl rfl (any_of HT_.out (by kernel_rfl)) (fun _ _ _ h => h) (Or.inl ⟨by rfl, ?_⟩) ?_ ?_
                        rotate_left
                        · intro w'
                          go_simp
                          with_reducible rfl
                        rotate_left
                        · simp only [Act.put, List.setIfInBounds_toArray, List.set_cons_zero, List.set_cons_succ, i64_w, i32_w]
                          rfl
                        refine pure_ (i := 6) (N := some 115) (v := ?_) (a' := ?_) #[true, true, true, true, false, true, true, false, false, false, false, false, false] rfl rfl (any_of HT_.out (by kernel_rfl)) (fun _ _ _ h => h) (Or.inl ⟨by rfl, ?_⟩) ?_ ?_
                        rotate_left
                        · intro w'
                          go_simp
                          with_reducible rfl
                        rotate_left
                        · simp only [Act.put, List.setIfInBounds_toArray, List.set_cons_zero, List.set_cons_succ, i64_w, i32_w]
                          rfl
                        refine pure_ (i := 7) (N := some 116) (v := ?_) (a' := ?_) #[true, true, true, true, false, true, true, true, false, false, false, false, false] rfl rfl (any_of HT_.out (by kernel_rfl)) (fun _ _ _ h => h) (Or.inl ⟨by rfl, ?_⟩) ?_ ?_
                        rotate_left
                        · intro w'
                          go_simp
                          with_reducible rfl
                        rotate_left
                        · simp only [Act.put, List.setIfInBounds_toArray, List.set_cons_zero, List.set_cons_succ, i64_w, i32_w]
                          rfl
                        refine pure_ (i := 8) (N := some 117) (v := ?_) (a' := ?_) #[true, true, true, true, false, true, true, true, true, false, false, false, false] rfl rfl (any_of HT_.out (by kernel_rfl)) (fun _ _ _ h => h) (Or.inl ⟨by rfl, ?_⟩) ?_ ?_
                        rotate_left
                        · intro w'
                          go_simp
                          with_reducible rfl
                        rotate_left
                        · simp only [Act.put, List.setIfInBounds_toArray, List.set_cons_zero, List.set_cons_succ, i64_w, i32_w]
                          rfl
                        refine take_ (i := 4) (N := some 113) (v := ?_) (a' := ?_) #[true, true, true, true, true, true, true, true, true, false, false, false, false] rfl rfl (take_ofW HT_.out HW_.out (by kernel_rfl)) (fun _ _ _ h => h) (Or.inl ⟨by rfl, ?_⟩) hHeld ?_ ?_
                        rotate_left
                        · rintro w' ⟨s0, s1⟩
                          go_simp
                          with_reducible rfl
                        rotate_left
                        · simp only [Act.put, List.setIfInBounds_toArray, List.set_cons_zero, List.set_cons_succ, i64_w, i32_w]
                          rfl
                        refine take_ (i := 9) (N := some 118) (v := ?_) (a' := ?_) #[true, true, true, true, true, true, true, true, true, true, false, false, false] rfl rfl (take_ofW HT_.out HW_.out (by kernel_rfl)) (fun _ _ _ h => h) (Or.inl ⟨by rfl, ?_⟩) hHeld ?_ ?_
                        rotate_left
                        · rintro w' ⟨s0, s1⟩
                          go_simp
                          with_reducible rfl
                        rotate_left
                        · simp only [Act.put, List.setIfInBounds_toArray, List.set_cons_zero, List.set_cons_succ, i64_w, i32_w]
                          rfl
                        refine pure_ (i := 10) (N := some 119) (v := ?_) (a' := ?_) #[true, true, true, true, true, true, true, true, true, true, true, false, false] rfl rfl (any_of HT_.out (by kernel_rfl)) (fun _ _ _ h => h) (Or.inl ⟨by rfl, ?_⟩) ?_ ?_
                        rotate_left
                        · intro w'
                          go_simp
                          with_reducible rfl
                        rotate_left
                        · simp only [Act.put, List.setIfInBounds_toArray, List.set_cons_zero, List.set_cons_succ, i64_w, i32_w]
                          rfl
                        refine pure_ (i := 11) (N := some 120) (v := ?_) (a' := ?_) #[true, true, true, true, true, true, true, true, true, true, true, true, false] rfl rfl (any_of HT_.out (by kernel_rfl)) (fun _ _ _ h => h) (Or.inl ⟨by rfl, ?_⟩) ?_ ?_
                        rotate_left
                        · intro w'
                          go_simp
                          with_reducible rfl
                        rotate_left
                        · simp only [Act.put, List.setIfInBounds_toArray, List.set_cons_zero, List.set_cons_succ, i64_w, i32_w]
                          rfl
                        refine pure_ (i := 12) (N := some 10) (v := ?_) (a' := ?_) #[true, true, true, true, true, true, true, true, true, true, true, true, true] rfl rfl (any_of HT_.out (by kernel_rfl)) (fun _ _ _ h => h) (Or.inl ⟨by rfl, ?_⟩) ?_ ?_
                        rotate_left
                        · intro w'
                          go_simp
                          with_reducible rfl
                        rotate_left
                        · simp only [Act.put, List.setIfInBounds_toArray, List.set_cons_zero, List.set_cons_succ, i64_w, i32_w]
                          rfl
                        refine done_ (done_of HT_.out (by kernel_rfl)) ?_
                        try go_wp2
                        go_ret
                        exact ⟨by first | rfl | (simp [errW_none, errW_some] <;> rfl) | (simp [*, errW_none, errW_some] <;> rfl), by repeat (first | (with_reducible first | exact HB.out | apply below_alloc | apply pw_below_drewN | apply below_drew1 | refine below_set ?_ GE409.out) | exact HB.out)⟩
                      · rw [if_neg c82] at H
                        exact absurd H (by simp)
                    · rw [if_neg c81] at H
                      exact absurd H (by simp)
                  · rw [if_neg c80] at H
                    exact absurd H (by simp)
                · rw [if_neg c79] at H
                  have c79b0 : (t440 == 0) = false := beq_eq_false_iff_ne.mpr c79
                  have c79b1 : (t440 != 0) = true := bne_iff_ne.mpr c79
                  obtain rfl := Option.some.inj H
                  have hcz93_0 : wc.cell? ⟨gb409, 0, none⟩ = some (.int .u8 a0_0) := (blk_cell BK409.out 0).trans rfl
                  have hcz93_1 : wc.cell? ⟨gb409, 1, none⟩ = some (.int .u8 a0_1) := (blk_cell BK409.out 1).trans rfl
                  have hcz93_2 : wc.cell? ⟨gb409, 2, none⟩ = some (.int .i64 a0_2) := (blk_cell BK409.out 2).trans rfl
                  have hcz93_3 : wc.cell? ⟨gb409, 3, none⟩ = some (.slice A0_3 l0_3.length c0_3) := (blk_cell BK409.out 3).trans rfl
                  have hfz93_0 := blk_frozen BK409.out 0
                  have hfz93_1 := blk_frozen BK409.out 1
                  have hfz93_2 := blk_frozen BK409.out 2
                  have hfz93_3 := blk_frozen BK409.out 3
                  try go_wp2_with (first | ((with_reducible refine gate_callee (f := 11) rfl ?_); refine goesL_ (some 90) rfl rfl Try.func11 (by kernel_rfl) rfl #[.slice A3 l3.length c3, .int .i64 a4, .agg #[.int .u8 a0_0, .int .u8 a0_1, .int .i64 a0_2, .slice A0_3 l0_3.length c0_3]] rfl (by (try simp only [List.map_toArray, List.map_cons, List.map_nil]); first | done | rfl | (simp only [List.length_drop, List.length_take]; rfl)) ?_; (with_reducible refine (sect_Get.calls kj27 _ _ l3 a4 a0_0 a0_1 a0_2 _ _ l0_3 t432 t435 t436 _ ?side1 ?side2 ?side3 ?side4 A76.out).mono ?_); (case side1 => repeat (first | exact (Kd.C_below HR3.out HB.out) | (with_reducible refine Kd.C_alloc ?_ _) | (with_reducible refine Kd.C_drewN ?_ _) | (with_reducible refine Kd.C_drew ?_))); (case side2 => exact HC3.out); (case side3 => repeat (first | exact (Kd.C_below HR0_3.out HB.out) | (with_reducible refine Kd.C_alloc ?_ _) | (with_reducible refine Kd.C_drewN ?_ _) | (with_reducible refine Kd.C_drew ?_))); (case side4 => exact HC0_3.out); rintro e w94 ⟨v433, rfl, ho0, hb⟩; refine ⟨_, rfl, ?_⟩; have n0_ := Aside0.mk (Kd.S_lower ho0 (below_size (by repeat (first | (with_reducible first | exact HB.out | apply below_alloc | apply pw_below_drewN | apply below_drew1 | refine below_set ?_ GE409.out) | exact HB.out)))); have n1_ := Aside0.mk (blk_below (g := gb409) (o := .cells #[.int .u8 a0_0, .int .u8 a0_1, .int .i64 a0_2, .slice A0_3 l0_3.length c0_3] 24 (0, 0)) (by (with_reducible repeat (first | refine blk_drewN ?_ _ | refine blk_drew ?_ | refine blk_alloc ?_ _)); exact BK409.out) hb); have n2_ := Aside0.mk (below_step (by repeat (first | (with_reducible first | exact HB.out | apply below_alloc | apply pw_below_drewN | apply below_drew1 | refine below_set ?_ GE409.out) | exact HB.out)) hb); clear BK409; clear HB; have HO434 := n0_; have BK409 := n1_; have HB := n2_; clear n0_ n1_ n2_; (try clear hb); (try clear hb2); (try clear hk); (try clear hi); (try clear ho0); have hcz95_0 : w94.cell? ⟨gb409, 0, none⟩ = some (.int .u8 a0_0) := (blk_cell BK409.out 0).trans rfl; have hcz95_1 : w94.cell? ⟨gb409, 1, none⟩ = some (.int .u8 a0_1) := (blk_cell BK409.out 1).trans rfl; have hcz95_2 : w94.cell? ⟨gb409, 2, none⟩ = some (.int .i64 a0_2) := (blk_cell BK409.out 2).trans rfl; have hcz95_3 : w94.cell? ⟨gb409, 3, none⟩ = some (.slice A0_3 l0_3.length c0_3) := (blk_cell BK409.out 3).trans rfl; have hfz95_0 := blk_frozen BK409.out 0; have hfz95_1 := blk_frozen BK409.out 1; have hfz95_2 := blk_frozen BK409.out 2; have hfz95_3 := blk_frozen BK409.out 3; obtain ⟨Ao96, co96, eo96⟩ := Kd.S_slice HO434.out; subst eo96) | ((with_reducible refine gate_callee (f := 9) rfl ?_); refine goesL_ (some 106) rfl rfl Try.func9 (by kernel_rfl) rfl #[.slice none 0 0, .agg #[.int .u8 a0_0, .int .u8 a0_1, .int .i64 a0_2, .slice A0_3 l0_3.length c0_3], .slice Ao96 t432.length co96] rfl (by (try simp only [List.map_toArray, List.map_cons, List.map_nil]); first | done | rfl | (simp only [List.length_drop, List.length_take]; rfl)) ?_; (refine (sect_Put.calls _ _ ([] : List Int) a0_0 a0_1 a0_2 _ _ l0_3 _ _ t432 t437 t440 _ ?side1 ?side2 ?side3 ?side4 ?side5 ?side6 A78.out).mono ?_); (case side1 => exact Kd.C_nil _ _); (case side2 => exact Nat.le_refl _); (case side3 => repeat (first | exact (Kd.C_below HR0_3.out HB.out) | (with_reducible refine Kd.C_alloc ?_ _) | (with_reducible refine Kd.C_drewN ?_ _) | (with_reducible refine Kd.C_drew ?_))); (case side4 => exact HC0_3.out); (case side5 => repeat (first | exact (Kd.S_reads' HO434.out).2.2 | (with_reducible refine Kd.C_alloc ?_ _) | (with_reducible refine Kd.C_drewN ?_ _) | (with_reducible refine Kd.C_drew ?_))); (case side6 => exact (Kd.S_reads' HO434.out).2.1); rintro e w97 ⟨v438, rfl, ho0, hb⟩; refine ⟨_, rfl, ?_⟩; have n0_ := Aside0.mk (Kd.S_below (by (with_reducible repeat (first | apply Kd.S_alloc | apply Kd.S_drewN | apply Kd.S_drew)); exact HO434.out) hb); have n1_ := Aside0.mk (Kd.R_lower ho0 (below_size (by repeat (first | (with_reducible first | exact HB.out | apply below_alloc | apply pw_below_drewN | apply below_drew1 | refine below_set ?_ GE409.out) | exact HB.out)))); have n2_ := Aside0.mk (blk_below (g := gb409) (o := .cells #[.int .u8 a0_0, .int .u8 a0_1, .int .i64 a0_2, .slice A0_3 l0_3.length c0_3] 24 (0, 0)) (by (with_reducible repeat (first | refine blk_drewN ?_ _ | refine blk_drew ?_ | refine blk_alloc ?_ _)); exact BK409.out) hb); have n3_ := Aside0.mk (below_step (by repeat (first | (with_reducible first | exact HB.out | apply below_alloc | apply pw_below_drewN | apply below_drew1 | refine below_set ?_ GE409.out) | exact HB.out)) hb); clear HO434; clear BK409; clear HB; have HO434 := n0_; have HO439 := n1_; have BK409 := n2_; have HB := n3_; clear n0_ n1_ n2_ n3_; (try clear hb); (try clear hb2); (try clear hk); (try clear hi); (try clear ho0)))
                  have n0_ := Aside0.mk (Kd.S_drew HO434.out)
                  have n1_ := Aside0.mk (Kd.R_drew HO439.out)
                  have n2_ := Aside0.mk (blk_drew BK409.out)
                  have n3_ := Aside0.mk (below_drew1 HB.out)
                  clear HO434
                  clear HO439
                  clear BK409
                  clear HB
                  have HO434 := n0_
                  have HO439 := n1_
                  have BK409 := n2_
                  have HB := n3_
                  clear n0_ n1_ n2_ n3_
                  refine start_ (n := 13) (S := fun w' => True) (ds := []) #[false, false, false, false, false, false, false, false, false, false, false, false, false] (by kernel_rfl) rfl rfl trivial (fun hHeld => ?_); refine with_tabW reedpipelaw19_SectBack.tab15 reedpipelaw19_SectBack.bits15 (fun HT_ HW_ => ?_)
                  generalize w97.drew = w98 at HO434 HO439 BK409 HB hHeld ⊢
                  refine pure_ (i := 0) (N := some 109) (v := ?_) (a' := ?_) #[true, false, false, false, false, false, false, false, false, false, false, false, false] rfl rfl (any_of HT_.out (by kernel_rfl)) (fun _ _ _ h => h) (Or.inl ⟨by rfl, ?_⟩) ?_ ?_
                  rotate_left
                  · intro w'
                    go_simp
                    with_reducible rfl
                  rotate_left
                  · simp only [Act.put, List.setIfInBounds_toArray, List.set_cons_zero, List.set_cons_succ, i64_w, i32_w]
                    rfl
                  refine pure_ (i := 1) (N := some 110) (v := ?_) (a' := ?_) #[true, true, false, false, false, false, false, false, false, false, false, false, false] rfl rfl (any_of HT_.out (by kernel_rfl)) (fun _ _ _ h => h) (Or.inl ⟨by rfl, ?_⟩) ?_ ?_
                  rotate_left
                  · intro w'
                    go_simp
                    with_reducible rfl
                  rotate_left
                  · simp only [Act.put, List.setIfInBounds_toArray, List.set_cons_zero, List.set_cons_succ, i64_w, i32_w]
                    rfl
                  refine pure_ (i := 2) (N := some 111) (v := ?_) (a' := ?_) #[true, true, true, false, false, false, false, false, false, false, false, false, false] rfl rfl (any_of HT_.out (by kernel_rfl)) (fun _ _ _ h => h) (Or.inl ⟨by rfl, ?_⟩) ?_ ?_
                  rotate_left
                  · intro w'
                    go_simp
                    with_reducible rfl
                  rotate_left
                  · simp only [Act.put, List.setIfInBounds_toArray, List.set_cons_zero, List.set_cons_succ, i64_w, i32_w]
                    rfl
                  refine pure_ (i := 3) (N := some 112) (v := undef) (a' := ?_) #[true, true, true, true, false, false, false, false, false, false, false, false, false] rfl rfl (any_of HT_.out (by kernel_rfl)) (fun _ _ _ h => h) (Or.inr ⟨by rfl, rfl⟩) ?_ ?_
                  rotate_left
                  · simp only [Act.put, List.setIfInBounds_toArray, List.set_cons_zero, List.set_cons_succ, i64_w, i32_w]
                    rfl
                  refine pure_ (i := 4) (N := some 113) (v := undef) (a' := ?_) #[true, true, true, true, true, false, false, false, false, false, false, false, false] rfl rfl (any_of HT_.out (by kernel_rfl)) (fun _ _ _ h => h) (Or.inr ⟨by rfl, rfl⟩) ?_ ?_
                  rotate_left
                  · simp only [Act.put, List.setIfInBounds_toArray, List.set_cons_zero, List.set_cons_succ, i64_w, i32_w]
                    rfl
                  refine pure_ (i := 5) (N := some 114) (v := undef) (a' := ?_) #[true, true, true, true, true, true, false, false, false, false, false, false, false] rfl rfl (any_of HT_.out (by kernel_rfl)) (fun _ _ _ h => h) (Or.inr ⟨by rfl, rfl⟩) ?_ ?_
                  rotate_left
                  · simp only [Act.put, List.setIfInBounds_toArray, List.set_cons_zero, List.set_cons_succ, i64_w, i32_w]
                    rfl
                  refine pure_ (i := 6) (N := some 115) (v := undef) (a' := ?_) #[true, true, true, true, true, true, true, false, false, false, false, false, false] rfl rfl (any_of HT_.out (by kernel_rfl)) (fun _ _ _ h => h) (Or.inr ⟨by rfl, rfl⟩) ?_ ?_
                  rotate_left
                  · simp only [Act.put, List.setIfInBounds_toArray, List.set_cons_zero, List.set_cons_succ, i64_w, i32_w]
                    rfl
                  refine pure_ (i := 7) (N := some 116) (v := undef) (a' := ?_) #[true, true, true, true, true, true, true, true, false, false, false, false, false] rfl rfl (any_of HT_.out (by kernel_rfl)) (fun _ _ _ h => h) (Or.inr ⟨by rfl, rfl⟩) ?_ ?_
                  rotate_left
                  · simp only [Act.put, List.setIfInBounds_toArray, List.set_cons_zero, List.set_cons_succ, i64_w, i32_w]
                    rfl
                  refine pure_ (i := 8) (N := some 117) (v := undef) (a' := ?_) #[true, true, true, true, true, true, true, true, true, false, false, false, false] rfl rfl (any_of HT_.out (by kernel_rfl)) (fun _ _ _ h => h) (Or.inr ⟨by rfl, rfl⟩) ?_ ?_
                  rotate_left
                  · simp only [Act.put, List.setIfInBounds_toArray, List.set_cons_zero, List.set_cons_succ, i64_w, i32_w]
                    rfl
                  refine pure_ (i := 9) (N := some 118) (v := undef) (a' := ?_) #[true, true, true, true, true, true, true, true, true, true, false, false, false] rfl rfl (any_of HT_.out (by kernel_rfl)) (fun _ _ _ h => h) (Or.inr ⟨by rfl, rfl⟩) ?_ ?_
                  rotate_left
                  · simp only [Act.put, List.setIfInBounds_toArray, List.set_cons_zero, List.set_cons_succ, i64_w, i32_w]
                    rfl
                  refine pure_ (i := 10) (N := some 119) (v := undef) (a' := ?_) #[true, true, true, true, true, true, true, true, true, true, true, false, false] rfl rfl (any_of HT_.out (by kernel_rfl)) (fun _ _ _ h => h) (Or.inr ⟨by rfl, rfl⟩) ?_ ?_
                  rotate_left
                  · simp only [Act.put, List.setIfInBounds_toArray, List.set_cons_zero, List.set_cons_succ, i64_w, i32_w]
                    rfl
                  refine pure_ (i := 11) (N := some 120) (v := ?_) (a' := ?_) #[true, true, true, true, true, true, true, true, true, true, true, true, false] rfl rfl (any_of HT_.out (by kernel_rfl)) (fun _ _ _ h => h) (Or.inl ⟨by rfl, ?_⟩) ?_ ?_
                  rotate_left
                  · intro w'
                    go_simp
                    with_reducible rfl
                  rotate_left
                  · simp only [Act.put, List.setIfInBounds_toArray, List.set_cons_zero, List.set_cons_succ, i64_w, i32_w]
                    rfl
                  refine pure_ (i := 12) (N := some 10) (v := ?_) (a' := ?_) #[true, true, true, true, true, true, true, true, true, true, true, true, true] rfl rfl (any_of HT_.out (by kernel_rfl)) (fun _ _ _ h => h) (Or.inl ⟨by rfl, ?_⟩) ?_ ?_
                  rotate_left
                  · intro w'
                    go_simp
                    with_reducible rfl
                  rotate_left
                  · simp only [Act.put, List.setIfInBounds_toArray, List.set_cons_zero, List.set_cons_succ, i64_w, i32_w]
                    rfl
                  refine done_ (done_of HT_.out (by kernel_rfl)) ?_
                  try go_wp2
                  go_ret
                  exact ⟨by first | rfl | (simp [errW_none, errW_some] <;> rfl) | (simp [*, errW_none, errW_some] <;> rfl), by repeat (first | (with_reducible first | exact HB.out | apply below_alloc | apply pw_below_drewN | apply below_drew1 | refine below_set ?_ GE409.out) | exact HB.out)⟩
              · rw [if_neg c77] at H
                have c77b0 : (t436 == 0) = false := beq_eq_false_iff_ne.mpr c77
                have c77b1 : (t436 != 0) = true := bne_iff_ne.mpr c77
                by_cases c99 : (t432.length : Int) = 0
                · rw [if_pos c99] at H
                  have c99b0 : ((t432.length : Int) == 0) = true := beq_iff_eq.mpr c99
                  have c99b1 : ((t432.length : Int) != 0) = false := bne_eq_false_iff_eq.mpr c99
                  clear c99
                  obtain rfl := Option.some.inj H
                  have hcz100_0 : wc.cell? ⟨gb409, 0, none⟩ = some (.int .u8 a0_0) := (blk_cell BK409.out 0).trans rfl
                  have hcz100_1 : wc.cell? ⟨gb409, 1, none⟩ = some (.int .u8 a0_1) := (blk_cell BK409.out 1).trans rfl
                  have hcz100_2 : wc.cell? ⟨gb409, 2, none⟩ = some (.int .i64 a0_2) := (blk_cell BK409.out 2).trans rfl
                  have hcz100_3 : wc.cell? ⟨gb409, 3, none⟩ = some (.slice A0_3 l0_3.length c0_3) := (blk_cell BK409.out 3).trans rfl
                  have hfz100_0 := blk_frozen BK409.out 0
                  have hfz100_1 := blk_frozen BK409.out 1
                  have hfz100_2 := blk_frozen BK409.out 2
                  have hfz100_3 := blk_frozen BK409.out 3
                  go_wp2_with (first | ((with_reducible refine gate_callee (f := 11) rfl ?_); refine goesL_ (some 90) rfl rfl Try.func11 (by kernel_rfl) rfl #[.slice A3 l3.length c3, .int .i64 a4, .agg #[.int .u8 a0_0, .int .u8 a0_1, .int .i64 a0_2, .slice A0_3 l0_3.length c0_3]] rfl (by (try simp only [List.map_toArray, List.map_cons, List.map_nil]); first | done | rfl | (simp only [List.length_drop, List.length_take]; rfl)) ?_; (with_reducible refine (sect_Get.calls kj27 _ _ l3 a4 a0_0 a0_1 a0_2 _ _ l0_3 t432 t435 t436 _ ?side1 ?side2 ?side3 ?side4 A76.out).mono ?_); (case side1 => repeat (first | exact (Kd.C_below HR3.out HB.out) | (with_reducible refine Kd.C_alloc ?_ _) | (with_reducible refine Kd.C_drewN ?_ _) | (with_reducible refine Kd.C_drew ?_))); (case side2 => exact HC3.out); (case side3 => repeat (first | exact (Kd.C_below HR0_3.out HB.out) | (with_reducible refine Kd.C_alloc ?_ _) | (with_reducible refine Kd.C_drewN ?_ _) | (with_reducible refine Kd.C_drew ?_))); (case side4 => exact HC0_3.out); rintro e w101 ⟨v433, rfl, ho0, hb⟩; refine ⟨_, rfl, ?_⟩; have n0_ := Aside0.mk (Kd.S_lower ho0 (below_size (by repeat (first | (with_reducible first | exact HB.out | apply below_alloc | apply pw_below_drewN | apply below_drew1 | refine below_set ?_ GE409.out) | exact HB.out)))); have n1_ := Aside0.mk (blk_below (g := gb409) (o := .cells #[.int .u8 a0_0, .int .u8 a0_1, .int .i64 a0_2, .slice A0_3 l0_3.length c0_3] 24 (0, 0)) (by (with_reducible repeat (first | refine blk_drewN ?_ _ | refine blk_drew ?_ | refine blk_alloc ?_ _)); exact BK409.out) hb); have n2_ := Aside0.mk (below_step (by repeat (first | (with_reducible first | exact HB.out | apply below_alloc | apply pw_below_drewN | apply below_drew1 | refine below_set ?_ GE409.out) | exact HB.out)) hb); clear BK409; clear HB; have HO434 := n0_; have BK409 := n1_; have HB := n2_; clear n0_ n1_ n2_; (try clear hb); (try clear hb2); (try clear hk); (try clear hi); (try clear ho0); obtain ⟨Ao102, co102, eo102⟩ := Kd.S_slice HO434.out; subst eo102))
                  go_ret
                  exact ⟨by first | rfl | (simp [errW_none, errW_some] <;> rfl) | (simp [*, errW_none, errW_some] <;> rfl), by repeat (first | (with_reducible first | exact HB.out | apply below_alloc | apply pw_below_drewN | apply below_drew1 | refine below_set ?_ GE409.out) | exact HB.out)⟩
                · rw [if_neg c99] at H
                  have c99b0 : ((t432.length : Int) == 0) = false := beq_eq_false_iff_ne.mpr c99
                  have c99b1 : ((t432.length : Int) != 0) = true := bne_iff_ne.mpr c99
                  have c99b2 : ¬ (t432 = []) := fun h_ => c99 (by rw [h_]; rfl)
                  obtain rfl := Option.some.inj H
                  have hcz103_0 : wc.cell? ⟨gb409, 0, none⟩ = some (.int .u8 a0_0) := (blk_cell BK409.out 0).trans rfl
                  have hcz103_1 : wc.cell? ⟨gb409, 1, none⟩ = some (.int .u8 a0_1) := (blk_cell BK409.out 1).trans rfl
                  have hcz103_2 : wc.cell? ⟨gb409, 2, none⟩ = some (.int .i64 a0_2) := (blk_cell BK409.out 2).trans rfl
                  have hcz103_3 : wc.cell? ⟨gb409, 3, none⟩ = some (.slice A0_3 l0_3.length c0_3) := (blk_cell BK409.out 3).trans rfl
                  have hfz103_0 := blk_frozen BK409.out 0
                  have hfz103_1 := blk_frozen BK409.out 1
                  have hfz103_2 := blk_frozen BK409.out 2
                  have hfz103_3 := blk_frozen BK409.out 3
                  go_wp2_with (first | ((with_reducible refine gate_callee (f := 11) rfl ?_); refine goesL_ (some 90) rfl rfl Try.func11 (by kernel_rfl) rfl #[.slice A3 l3.length c3, .int .i64 a4, .agg #[.int .u8 a0_0, .int .u8 a0_1, .int .i64 a0_2, .slice A0_3 l0_3.length c0_3]] rfl (by (try simp only [List.map_toArray, List.map_cons, List.map_nil]); first | done | rfl | (simp only [List.length_drop, List.length_take]; rfl)) ?_; (with_reducible refine (sect_Get.calls kj27 _ _ l3 a4 a0_0 a0_1 a0_2 _ _ l0_3 t432 t435 t436 _ ?side1 ?side2 ?side3 ?side4 A76.out).mono ?_); (case side1 => repeat (first | exact (Kd.C_below HR3.out HB.out) | (with_reducible refine Kd.C_alloc ?_ _) | (with_reducible refine Kd.C_drewN ?_ _) | (with_reducible refine Kd.C_drew ?_))); (case side2 => exact HC3.out); (case side3 => repeat (first | exact (Kd.C_below HR0_3.out HB.out) | (with_reducible refine Kd.C_alloc ?_ _) | (with_reducible refine Kd.C_drewN ?_ _) | (with_reducible refine Kd.C_drew ?_))); (case side4 => exact HC0_3.out); rintro e w104 ⟨v433, rfl, ho0, hb⟩; refine ⟨_, rfl, ?_⟩; have n0_ := Aside0.mk (Kd.S_lower ho0 (below_size (by repeat (first | (with_reducible first | exact HB.out | apply below_alloc | apply pw_below_drewN | apply below_drew1 | refine below_set ?_ GE409.out) | exact HB.out)))); have n1_ := Aside0.mk (blk_below (g := gb409) (o := .cells #[.int .u8 a0_0, .int .u8 a0_1, .int .i64 a0_2, .slice A0_3 l0_3.length c0_3] 24 (0, 0)) (by (with_reducible repeat (first | refine blk_drewN ?_ _ | refine blk_drew ?_ | refine blk_alloc ?_ _)); exact BK409.out) hb); have n2_ := Aside0.mk (below_step (by repeat (first | (with_reducible first | exact HB.out | apply below_alloc | apply pw_below_drewN | apply below_drew1 | refine below_set ?_ GE409.out) | exact HB.out)) hb); clear BK409; clear HB; have HO434 := n0_; have BK409 := n1_; have HB := n2_; clear n0_ n1_ n2_; (try clear hb); (try clear hb2); (try clear hk); (try clear hi); (try clear ho0); obtain ⟨Ao105, co105, eo105⟩ := Kd.S_slice HO434.out; subst eo105))
                  go_ret
                  exact ⟨by first | rfl | (simp [errW_none, errW_some] <;> rfl) | (simp [*, errW_none, errW_some] <;> rfl), by repeat (first | (with_reducible first | exact HB.out | apply below_alloc | apply pw_below_drewN | apply below_drew1 | refine below_set ?_ GE409.out) | exact HB.out)⟩

end Go.Proofs.Ytjdlochffpikbaa.K
end
section
/- Sections in plain words: how large lists may be; how many bits. -/
namespace Go.Proofs.Ytjdlochffpikbaa.SS
open Go.RowKit Go.Proofs.YtjdlochffpikbaaW.PrintWords Go.Proofs.YtjdlochffpikbaaW.PrintLast Go.Proofs.YtjdlochffpikbaaW.PrintMore Go.Proofs.Ytjdlochffpikbaa.HA Go.Proofs.Ytjdlochffpikbaa.HP Go.Proofs.Ytjdlochffpikbaa.HG Go.Proofs.Ytjdlochffpikbaa.K
set_option linter.unusedVariables false

theorem L_mem (l : List (List Sec)) (i : Nat) (h : i < l.length) : rd_L4 l (i : Int) = l[i] := by
  unfold rd_L4
  rw [Int.toNat_natCast, List.getD_eq_getElem?_getD, List.getElem?_eq_getElem h, Option.getD_some]
theorem great_l0 (l : List (List Sec)) : ∀ (d k i : Nat), 100 - i = d → i ≤ 100 → i ≤ l.length → (∀ j, j < i → ∀ h : j < l.length, (l[j]'h).length ≤ 200) → 2 * d + 2 < k →
    ∃ r, reedpiperef19_Great.l0 k l (i : Int) = some r ∧ (r = false → l.length ≤ 100 ∧ ∀ j, ∀ h : j < l.length, (l[j]'h).length ≤ 200) := by
  intro d
  induction d with
  | zero =>
    intro k i hd hi hil hj hk
    obtain ⟨k, rfl⟩ : ∃ m, k = m + 2 := ⟨k - 2, by omega⟩
    obtain rfl : i = 100 := by omega
    simp only [reedpiperef19_Great.l0, reedpiperef19_Great.j1]
    rw [decide_eq_false (show ¬ ((100 : Nat) : Int) < 100 by omega)]
    simp only [Bool.false_eq_true, if_false]
    refine ⟨decide ((l.length : Int) > 100), by split <;> rfl, fun h => ?_⟩
    have h2 : ¬ ((l.length : Int) > 100) := of_decide_eq_false h
    exact ⟨by omega, fun j h => hj j (by omega) h⟩
  | succ d ih =>
    intro k i hd hi hil hj hk
    obtain ⟨k, rfl⟩ : ∃ m, k = m + 2 := ⟨k - 2, by omega⟩
    simp only [reedpiperef19_Great.l0, reedpiperef19_Great.j1]
    by_cases hlt : i < l.length
    · rw [if_pos (by omega), if_pos (by rw [decide_eq_true (show (i : Int) < 100 by omega)]), if_pos (by omega), if_pos (by omega), L_mem l i hlt]
      by_cases hg : ((l[i].length : Nat) : Int) > 200
      · rw [if_pos hg]
        exact ⟨true, rfl, fun h => by cases h⟩
      · rw [if_neg hg, wrap_succ i (by omega)]
        refine ih k (i + 1) (by omega) (by omega) (by omega) (fun j hj2 h => ?_) (by omega)
        rcases Nat.lt_or_ge j i with h3 | h3
        · exact hj j h3 h
        · obtain rfl : j = i := by omega
          omega
    · rw [if_neg (by omega), if_neg (by simp)]
      refine ⟨decide ((l.length : Int) > 100), rfl, fun h => ?_⟩
      have h2 : ¬ ((l.length : Int) > 100) := of_decide_eq_false h
      exact ⟨by omega, fun j h => hj j (by omega) h⟩
theorem great_f (l : List (List Sec)) (k : Nat) (hk : 300 < k) : ∃ r, reedpiperef19_Great.f k l = some r ∧ (r = false → l.length ≤ 100 ∧ ∀ g ∈ l, g.length ≤ 200) := by
  obtain ⟨r, h1, h2⟩ := great_l0 l 100 k 0 (by omega) (by omega) (by omega) (fun j hj => by omega) (by omega)
  refine ⟨r, h1, fun h => ⟨(h2 h).1, fun g hg => ?_⟩⟩
  obtain ⟨j, hj, rfl⟩ := List.getElem_of_mem hg
  exact (h2 h).2 j hj
/-! ### how many bits -/
def leastS (s : Int) : Int := if s = 2 then 7 else 9
theorem flat_len (size : Nat) (l : List Int) : (l.flatMap (fun x => bitsOf x size)).length = size * l.length := by
  induction l with
  | nil => rfl
  | cons x l ih => rw [List.flatMap_cons, List.length_append, ih, bitsOf_length, List.length_cons, Nat.mul_succ]; omega
theorem secBits_least (s : Int) (x : Sec) : leastS s ≤ ((secBits s x).length : Int) := by
  unfold secBits lenBits leastS
  rw [List.length_append, bitsOf_length, flat_len, fieldsOf_length]
  have : sizeS s ≤ sizeS s * ((x.f1 / mostS s).toNat + 1) := by
    have := Nat.mul_le_mul_left (sizeS s) (Nat.le_add_left 1 (x.f1 / mostS s).toNat)
    omega
  unfold sizeS at this ⊢
  split at this <;> rename_i h <;> simp only [h, if_true, if_false] <;> omega
theorem grpBits_least (s : Int) : ∀ g : List Sec, leastS s * (g.length : Int) ≤ ((grpBits s g).length : Int)
  | [] => by simp [grpBits]
  | x :: g => by
    have ih := grpBits_least s g
    have h := secBits_least s x
    unfold grpBits at ih ⊢
    rw [List.flatMap_cons, List.length_append, List.length_cons]
    have : leastS s * ((g.length + 1 : Nat) : Int) = leastS s * (g.length : Int) + leastS s := by rw [Int.natCast_add, Int.mul_add]; omega
    rw [this]
    omega
def manyS (l : List (List Sec)) : Int := (l.map (fun g => (g.length : Int))).sum
theorem secsBits_least (s : Int) : ∀ l : List (List Sec), leastS s * manyS l ≤ ((secsBits s l).length : Int)
  | [] => by simp [secsBits, manyS]
  | g :: l => by
    have ih := secsBits_least s l
    have h := grpBits_least s g
    unfold secsBits manyS at *
    rw [List.flatMap_cons, List.length_append, List.map_cons, List.sum_cons, Int.mul_add]
    omega
theorem many_bound (N : Nat) : ∀ l : List (List Sec), (∀ g ∈ l, g.length ≤ N) → 0 ≤ manyS l ∧ manyS l ≤ (N : Int) * (l.length : Int)
  | [], _ => by simp [manyS]
  | g :: l, h => by
    have ih := many_bound N l (fun x hx => h x (List.mem_cons_of_mem _ hx))
    have hg := h g List.mem_cons_self
    unfold manyS at *
    rw [List.map_cons, List.sum_cons, List.length_cons, Int.natCast_add, Int.mul_add]
    omega
theorem secsBits_some {s sh m : Int} {gs : List Int} {l : List (List Sec)} (h : secsOk s sh m gs l = true) : m > 0 ↔ (((secsBits s l).length : Nat) : Int) > 0 := by
  obtain ⟨h1, h2, h3, h4⟩ := secsOk_ok h
  obtain ⟨_, _, hm0, _⟩ := someS_max h1
  obtain ⟨_, _, _, hgp⟩ := SP.someS_all h1
  have hle : 7 ≤ leastS s := by unfold leastS; split <;> omega
  constructor
  · intro hm
    have hlp : 0 < l.length := by omega
    obtain ⟨g, r, rfl⟩ : ∃ g r, l = g :: r := by
      cases l with
      | nil => simp at hlp
      | cons g r => exact ⟨g, r, rfl⟩
    have hg := h4 g List.mem_cons_self
    obtain ⟨x, q, rfl⟩ : ∃ x q, g = x :: q := by
      cases g with
      | nil => simp [grpOk] at hg; omega
      | cons x q => exact ⟨x, q, rfl⟩
    have := secBits_least s x
    unfold secsBits grpBits
    rw [List.flatMap_cons, List.length_append, List.flatMap_cons, List.length_append]
    omega
  · intro hb
    rcases Int.lt_or_le 0 m with h5 | h5
    · exact h5
    · exfalso
      obtain rfl : m = 0 := by omega
      have : secsBits s l = [] := by
        unfold secsBits
        rw [List.flatMap_eq_nil_iff]
        intro g hg
        have h6 := grpOk_len g 0 (h4 g hg)
        have : g = [] := List.eq_nil_of_length_eq_zero (by omega)
        rw [this]
        rfl
      rw [this] at hb
      simp at hb
theorem put_f (b : List Int) (s sh m : Int) (gs : List Int) (l : List (List Sec)) (hs : 0 ≤ s) (hsh : 0 ≤ sh) (hb : b.length ≤ 1000000) (hgs : gs.length ≤ 1000) (hl : l.length ≤ 1000) (hg : ∀ g ∈ l, g.length ≤ 1000) :
    sect_Put.f b s sh m gs l = some (if secsOk s sh m gs l = true then (b ++ secsBits s l, 0) else ([], 8)) := by
  unfold sect_Put.f
  rw [if_pos ⟨hs, hsh, hb, hgs, hl, hg⟩]
theorem strOfNums_append (a b : List Int) : strOfNums (a ++ b) = strOfNums a ++ strOfNums b := by
  unfold strOfNums
  rw [List.map_append]
  apply ByteArray.ext
  rw [ByteArray.data_append]
  simp
theorem secBits_most {s : Int} {x : Sec} (h0 : 0 ≤ x.f1) (h1 : x.f1 ≤ 40) : (secBits s x).length ≤ 209 := by
  unfold secBits lenBits
  rw [List.length_append, bitsOf_length, flat_len, fieldsOf_length]
  have h2 : (x.f1 / mostS s).toNat ≤ 40 := by
    have : x.f1 / mostS s ≤ x.f1 := Int.ediv_le_self _ h0
    omega
  have h3 : sizeS s ≤ 5 := by unfold sizeS; split <;> omega
  have h4 : sizeS s * ((x.f1 / mostS s).toNat + 1) ≤ 5 * 41 := Nat.mul_le_mul h3 (by omega)
  omega
theorem grpBits_most (s : Int) : ∀ (g : List Sec) (N : Nat), (∀ x ∈ g, 0 ≤ x.f1 ∧ x.f1 ≤ 40) → (grpBits s g).length ≤ 209 * g.length
  | [], _, _ => by simp [grpBits]
  | x :: g, N, h => by
    have ih := grpBits_most s g N (fun y hy => h y (List.mem_cons_of_mem _ hy))
    have hx := h x List.mem_cons_self
    have := secBits_most (s := s) hx.1 hx.2
    unfold grpBits at *
    rw [List.flatMap_cons, List.length_append, List.length_cons]
    omega
theorem secsBits_most {s sh m : Int} {gs : List Int} {l : List (List Sec)} (h : secsOk s sh m gs l = true) : (secsBits s l).length ≤ 67000 := by
  obtain ⟨h1, h2, h3, h4⟩ := secsOk_ok h
  obtain ⟨_, _, hm0, hm, _⟩ := someS_max h1
  have key : ∀ l : List (List Sec), (∀ g ∈ l, grpOk m g = true) → (secsBits s l).length ≤ 8360 * l.length := by
    intro l
    induction l with
    | nil => intro _; simp [secsBits]
    | cons g l ih =>
      intro h4
      have ih := ih (fun x hx => h4 x (List.mem_cons_of_mem _ hx))
      have hg := h4 g List.mem_cons_self
      have h5 := grpOk_len g m hg
      have h6 := grpBits_most s g 0 (fun x hx => by have := grpOk_mem g m hg x hx; omega)
      unfold secsBits at *
      rw [List.flatMap_cons, List.length_append, List.length_cons]
      omega
  have := key l h4
  omega
end Go.Proofs.Ytjdlochffpikbaa.SS
end
section
/- bits.Get without rounds: the number of some bits; what was put is got. -/
namespace Go.Proofs.Ytjdlochffpikbaa.SG
open Go.RowKit Go.Proofs.YtjdlochffpikbaaW.PrintWords Go.Proofs.YtjdlochffpikbaaW.PrintLast Go.Proofs.YtjdlochffpikbaaW.PrintMore Go.Proofs.Ytjdlochffpikbaa.HA Go.Proofs.Ytjdlochffpikbaa.HP Go.Proofs.Ytjdlochffpikbaa.K
set_option linter.unusedVariables false

theorem or_bit (n b : Int) (h0 : 0 ≤ n) (h1 : n ≤ 4611686018427387903) (hb0 : 0 ≤ b) (hb : b ≤ 1) : Go.bits .or .i64 (n * 2) b = n * 2 + b := by
  obtain ⟨a, rfl⟩ := Int.eq_ofNat_of_zero_le h0
  obtain ⟨c, rfl⟩ := Int.eq_ofNat_of_zero_le hb0
  have e1 : (BitVec.ofInt 64 ((a : Int) * 2)).toNat = 2 * a := by
    rw [show (a : Int) * 2 = ((2 * a : Nat) : Int) by omega, BitVec.ofInt_natCast, BitVec.toNat_ofNat]; exact Nat.mod_eq_of_lt (by omega)
  have e2 : (BitVec.ofInt 64 (c : Int)).toNat = c := by
    rw [BitVec.ofInt_natCast, BitVec.toNat_ofNat]; exact Nat.mod_eq_of_lt (by omega)
  show IntKind.i64.wrap ((BitVec.ofInt 64 ((a : Int) * 2) ||| BitVec.ofInt 64 (c : Int)).toNat : Int) = _
  have e3 := Nat.two_pow_add_eq_or_of_lt (i := 1) (b := c) (by omega) a
  rw [BitVec.toNat_or, e1, e2, show 2 * a = 2 ^ 1 * a from rfl, ← e3, IntKind.wrap_i64]
  omega

/-- The number whose bits stand behind n's. -/
def numFrom (n : Int) : List Int → Int
  | [] => n
  | x :: l => numFrom (n * 2 + x) l
def numOf (l : List Int) : Int := numFrom 0 l
def bitsOk (l : List Int) : Bool := l.all (fun x => decide (x ≤ 1))
theorem get_l0 (b : List Int) (hb : ∀ y ∈ b, 0 ≤ y ∧ y ≤ 255) (p size : Nat) (hs : size ≤ 31) (hl : p + size ≤ b.length) (hbl : b.length ≤ 4611686018427387904) : ∀ (d k i : Nat) (n : Int), size - i = d → i ≤ size → d < k → 0 ≤ n → n < 2 ^ i →
    bits_Get.l0 k b (p : Int) (size : Int) n (size : Int) (i : Int) = some (if bitsOk ((b.drop (p + i)).take d) = true then (numFrom n ((b.drop (p + i)).take d), ((p + size : Nat) : Int), 0) else (0, 0, 8)) := by
  intro d
  induction d with
  | zero =>
    intro k i n hd hi hk h0 h1
    obtain ⟨k, rfl⟩ : ∃ m, k = m + 1 := ⟨k - 1, by omega⟩
    simp only [bits_Get.l0]
    rw [if_neg (by omega), wrap_id _ (by omega) (by omega)]
    simp [bitsOk, numFrom]
  | succ d ih =>
    intro k i n hd hi hk h0 h1
    obtain ⟨k, rfl⟩ : ∃ m, k = m + 1 := ⟨k - 1, by omega⟩
    simp only [bits_Get.l0]
    have hw : wrap64 ((p : Int) + (i : Int)) = ((p + i : Nat) : Int) := by rw [wrap_id _ (by omega) (by omega)]; omega
    rw [hw, if_pos (by omega), if_pos (by omega), if_pos (by omega), drop_at b (p + i) (by omega), List.take_succ_cons]
    have hr : 0 ≤ rd b ((p + i : Nat) : Int) ∧ rd b ((p + i : Nat) : Int) ≤ 255 := by rw [rd_at b (p + i) (by omega)]; exact hb _ (List.getElem_mem _)
    have h31 : (2 : Int) ^ i ≤ 2147483648 := by
      have h31 : (2 : Int) ^ i ≤ 2 ^ 31 := by exact_mod_cast Nat.pow_le_pow_right (by omega) (show i ≤ 31 by omega)
      simpa using h31
    by_cases hx : rd b ((p + i : Nat) : Int) > 1
    · rw [if_pos hx, if_neg]
      simp only [bitsOk, List.all_cons, Bool.and_eq_true, decide_eq_true_eq]
      intro h
      omega
    · rw [if_neg hx, wrap_id (n * 2) (by omega) (by omega), wrap_id (rd b ((p + i : Nat) : Int)) (by omega) (by omega), or_bit n _ h0 (by omega) hr.1 (by omega), wrap_succ i (by omega)]
      rw [ih k (i + 1) (n * 2 + rd b ((p + i : Nat) : Int)) (by omega) (by omega) (by omega) (by omega) (by rw [Int.pow_succ]; omega)]
      rw [show p + (i + 1) = p + i + 1 by omega]
      have e1 : decide (rd b ((p + i : Nat) : Int) ≤ 1) = true := decide_eq_true (by omega)
      simp only [bitsOk, List.all_cons, e1, Bool.true_and, numFrom]
      rfl
def getS (b : List Int) (p size : Int) : Int × Int × Int :=
  if size < 0 ∨ size > 31 ∨ p < 0 ∨ p > b.length then (0, 0, 2) else if (b.length : Int) - p < size then (0, 0, 5)
  else if bitsOk ((b.drop p.toNat).take size.toNat) = true then (numOf ((b.drop p.toNat).take size.toNat), p + size, 0) else (0, 0, 8)
theorem get_f (b : List Int) (hb : ∀ y ∈ b, 0 ≤ y ∧ y ≤ 255) (hbl : b.length ≤ 4611686018427387904) (p size : Int) (k : Nat) (hk : 40 < k) : bits_Get.f k b p size = some (getS b p size) := by
  unfold bits_Get.f getS
  obtain ⟨k, rfl⟩ : ∃ m, k = m + 1 := ⟨k - 1, by omega⟩
  have hz : bits_sized.f size = some (decide (0 ≤ size ∧ size ≤ 31)) := by
    unfold bits_sized.f
    by_cases h0 : size ≥ 0
    · rw [if_pos h0]
      simp [h0]
    · rw [if_neg h0]
      simp
      omega
  rw [hz]
  simp only [Option.bind_some, decide_eq_true_eq]
  by_cases h1 : 0 ≤ size ∧ size ≤ 31
  · rw [if_pos h1]
    by_cases h2 : p < 0
    · rw [if_pos h2, if_pos (Or.inr (Or.inr (Or.inl h2)))]
      simp only [bits_Get.j0, if_true]
    · rw [if_neg h2]
      by_cases h3 : p > b.length
      · rw [decide_eq_true h3, if_pos (Or.inr (Or.inr (Or.inr h3)))]
        simp only [bits_Get.j0, if_true]
      · rw [decide_eq_false h3, if_neg (by omega)]
        simp only [bits_Get.j0, Bool.false_eq_true, if_false]
        rw [wrap_id _ (by omega) (by omega)]
        by_cases h4 : (b.length : Int) - p < size
        · rw [if_pos h4, if_pos h4]
        · rw [if_neg h4, if_neg h4]
          obtain ⟨q, rfl⟩ := Int.eq_ofNat_of_zero_le (show 0 ≤ p by omega)
          obtain ⟨s, rfl⟩ := Int.eq_ofNat_of_zero_le h1.1
          have := get_l0 b hb q s (by omega) (by omega) hbl s k 0 0 (by omega) (by omega) (by omega) (by omega) (by decide)
          simp only [Nat.add_zero] at this
          rw [show ((0 : Nat) : Int) = 0 from rfl] at this
          rw [this]
          simp only [Int.toNat_natCast, numOf]
          rw [Int.natCast_add]
  · rw [if_neg h1, if_pos (by omega)]
    simp only [bits_Get.j0, if_true]

/-! ### numbers and their bits -/
theorem numFrom_append (n : Int) (l r : List Int) : numFrom n (l ++ r) = numFrom (numFrom n l) r := by
  induction l generalizing n with
  | nil => rfl
  | cons x l ih => exact ih _
theorem numFrom_bounds (l : List Int) (h : ∀ x ∈ l, 0 ≤ x ∧ x ≤ 1) : ∀ n : Int, 0 ≤ n → n * 2 ^ l.length ≤ numFrom n l ∧ numFrom n l < (n + 1) * 2 ^ l.length := by
  induction l with
  | nil => intro n h0; simp [numFrom]; omega
  | cons x l ih =>
    intro n h0
    have hx := h x List.mem_cons_self
    obtain ⟨i1, i2⟩ := ih (fun y hy => h y (List.mem_cons_of_mem _ hy)) (n * 2 + x) (by omega)
    have hp : (0 : Int) < 2 ^ l.length := Int.pow_pos (by omega)
    simp only [numFrom, List.length_cons, Int.pow_succ]
    constructor
    · refine Int.le_trans ?_ i1
      have : n * (2 ^ l.length * 2) = (n * 2) * 2 ^ l.length := by rw [Int.mul_comm (2 ^ l.length) 2, ← Int.mul_assoc]
      rw [this]
      exact Int.mul_le_mul_of_nonneg_right (by omega) (by omega)
    · refine Int.lt_of_lt_of_le i2 ?_
      have : (n + 1) * (2 ^ l.length * 2) = ((n + 1) * 2) * 2 ^ l.length := by rw [Int.mul_comm (2 ^ l.length) 2, ← Int.mul_assoc]
      rw [this]
      exact Int.mul_le_mul_of_nonneg_right (by omega) (by omega)
theorem numOf_bounds (l : List Int) (h : ∀ x ∈ l, 0 ≤ x ∧ x ≤ 1) : 0 ≤ numOf l ∧ numOf l < 2 ^ l.length := by
  have := numFrom_bounds l h 0 (by omega)
  unfold numOf
  omega
theorem bitsOf_succ (n : Int) (s : Nat) : bitsOf n (s + 1) = bitsOf (n / 2) s ++ [n % 2] := by
  unfold bitsOf
  rw [upto_succ]
  congr 1
  · unfold upto
    apply List.map_congr_left
    intro j hj
    have hj : j < s := List.mem_range.1 hj
    unfold bitAt
    rw [show s + 1 - 1 - j = (s - 1 - j) + 1 by omega, Int.pow_succ, Int.mul_comm, Int.ediv_ediv_of_nonneg (by omega : (0:Int) ≤ 2)]
  · unfold bitAt
    simp
theorem numOf_bitsOf (s : Nat) : ∀ n : Int, 0 ≤ n → n < 2 ^ s → numOf (bitsOf n s) = n := by
  induction s with
  | zero =>
    intro n h0 h1
    simp at h1
    obtain rfl : n = 0 := by omega
    rfl
  | succ s ih =>
    intro n h0 h1
    rw [Int.pow_succ] at h1
    have := ih (n / 2) (by omega) (by omega)
    rw [bitsOf_succ]
    unfold numOf at this ⊢
    rw [numFrom_append, this]
    simp only [numFrom]
    omega
theorem bitsOf_numOf (l : List Int) (h : ∀ x ∈ l, 0 ≤ x ∧ x ≤ 1) : bitsOf (numOf l) l.length = l := by
  induction hl : l.length generalizing l with
  | zero =>
    have : l = [] := List.eq_nil_of_length_eq_zero hl
    subst this
    rfl
  | succ s ih =>
    have hne : l ≠ [] := by intro e; subst e; cases hl
    obtain ⟨r, x, rfl⟩ : ∃ r x, l = r ++ [x] := ⟨l.dropLast, l.getLast hne, (List.dropLast_concat_getLast hne).symm⟩
    have hx := h x (by simp)
    have hr : r.length = s := by simpa using hl
    have hi := ih r (fun y hy => h y (by simp [hy])) hr
    rw [bitsOf_succ]
    have e : numOf (r ++ [x]) = numOf r * 2 + x := by
      unfold numOf
      rw [numFrom_append]
      rfl
    rw [e, show (numOf r * 2 + x) / 2 = numOf r by omega, show (numOf r * 2 + x) % 2 = x by omega, hi]
theorem bitsOf_01 (n : Int) (s : Nat) : ∀ x ∈ bitsOf n s, 0 ≤ x ∧ x ≤ 1 := by
  intro x hx
  unfold bitsOf upto at hx
  obtain ⟨j, _, rfl⟩ := List.mem_map.1 hx
  unfold bitAt
  omega
theorem bitsOk_of {l : List Int} (h : ∀ x ∈ l, 0 ≤ x ∧ x ≤ 1) : bitsOk l = true := by
  unfold bitsOk
  rw [List.all_eq_true]
  intro x hx
  exact decide_eq_true (h x hx).2
/-- What was put is got. -/
theorem getS_put (pre post : List Int) (n : Int) (s : Nat) (hs : s ≤ 31) (h0 : 0 ≤ n) (h1 : n < 2 ^ s) : getS (pre ++ bitsOf n s ++ post) (pre.length : Int) (s : Int) = (n, ((pre.length + s : Nat) : Int), 0) := by
  have hl := bitsOf_length n s
  have e : ((pre ++ bitsOf n s ++ post).drop pre.length).take s = bitsOf n s := by
    rw [List.append_assoc, List.drop_left]
    conv => lhs; arg 1; rw [← hl]
    exact List.take_left
  unfold getS
  simp only [Int.toNat_natCast]
  rw [if_neg (by simp only [List.length_append]; omega), if_neg (by simp only [List.length_append]; omega), e, bitsOk_of (bitsOf_01 n s), if_pos rfl, numOf_bitsOf s n h0 h1]
  simp
/-- What is got when all is well: the bits that stand there are the number's. -/
theorem getS_ok {b : List Int} (hb : ∀ y ∈ b, 0 ≤ y ∧ y ≤ 255) {p size n q : Int} (h : getS b p size = (n, q, 0)) : 0 ≤ p ∧ 0 ≤ size ∧ size ≤ 31 ∧ q = p + size ∧ q ≤ b.length ∧ 0 ≤ n ∧ n < 2 ^ size.toNat ∧ (b.drop p.toNat).take size.toNat = bitsOf n size.toNat := by
  unfold getS at h
  split at h
  · simp at h
  · next h1 =>
    split at h
    · simp at h
    · next h2 =>
      split at h
      · next h3 =>
        simp only [Prod.mk.injEq, and_true] at h
        obtain ⟨rfl, rfl⟩ := h
        have h01 : ∀ x ∈ (b.drop p.toNat).take size.toNat, 0 ≤ x ∧ x ≤ 1 := by
          intro x hx
          refine ⟨(hb x (List.mem_of_mem_drop (List.mem_of_mem_take hx))).1, ?_⟩
          unfold bitsOk at h3
          simpa using List.all_eq_true.1 h3 x hx
        have hlen : ((b.drop p.toNat).take size.toNat).length = size.toNat := by
          rw [List.length_take, List.length_drop]
          omega
        have hbd := numOf_bounds _ h01
        have hbo := bitsOf_numOf _ h01
        rw [hlen] at hbd hbo
        exact ⟨by omega, by omega, by omega, rfl, by omega, hbd.1, hbd.2, hbo.symm⟩
      · simp at h
/-- Whatever is got is a number of so many bits. -/
theorem getS_bounds {b : List Int} (hb : ∀ y ∈ b, 0 ≤ y ∧ y ≤ 255) (p : Int) (s : Nat) : 0 ≤ (getS b p s).1 ∧ (getS b p s).1 < 2 ^ s ∧ 0 ≤ (getS b p s).2.1 ∧ (getS b p s).2.1 ≤ b.length ∧ ((getS b p s).2.2 = 0 ∨ (getS b p s).2.2 = 2 ∨ (getS b p s).2.2 = 5 ∨ (getS b p s).2.2 = 8) ∧ ((getS b p s).2.2 ≠ 0 → getS b p s = (0, 0, (getS b p s).2.2)) := by
  have hp : (0 : Int) < 2 ^ s := Int.pow_pos (by omega)
  rcases hg : getS b p s with ⟨n, q, e⟩
  by_cases he : e = 0
  · subst he
    obtain ⟨h1, h2, h3, h4, h5, h6, h7, _⟩ := getS_ok hb hg
    simp only [Int.toNat_natCast] at h7
    exact ⟨h6, h7, by show 0 ≤ q; omega, h5, Or.inl rfl, fun h => absurd rfl h⟩
  · unfold getS at hg
    split at hg
    · simp only [Prod.mk.injEq] at hg
      obtain ⟨rfl, rfl, rfl⟩ := hg
      exact ⟨Int.le_refl _, hp, Int.le_refl _, Int.natCast_nonneg _, by simp, fun _ => rfl⟩
    · split at hg
      · simp only [Prod.mk.injEq] at hg
        obtain ⟨rfl, rfl, rfl⟩ := hg
        exact ⟨Int.le_refl _, hp, Int.le_refl _, Int.natCast_nonneg _, by simp, fun _ => rfl⟩
      · split at hg
        · simp only [Prod.mk.injEq] at hg
          exact absurd hg.2.2.symm he
        · simp only [Prod.mk.injEq] at hg
          obtain ⟨rfl, rfl, rfl⟩ := hg
          exact ⟨Int.le_refl _, hp, Int.le_refl _, Int.natCast_nonneg _, by simp, fun _ => rfl⟩
end Go.Proofs.Ytjdlochffpikbaa.SG
end
section
/- sect.Get without rounds; sections are got as they were put, and put as these bits when got. -/
namespace Go.Proofs.Ytjdlochffpikbaa.SS
open Go.RowKit Go.Proofs.YtjdlochffpikbaaW.PrintWords Go.Proofs.YtjdlochffpikbaaW.PrintLast Go.Proofs.YtjdlochffpikbaaW.PrintMore Go.Proofs.Ytjdlochffpikbaa.HA Go.Proofs.Ytjdlochffpikbaa.HP Go.Proofs.Ytjdlochffpikbaa.HG Go.Proofs.Ytjdlochffpikbaa.K Go.Proofs.Ytjdlochffpikbaa.SG
set_option linter.unusedVariables false

def lenS (b : List Int) (size most left : Int) : Nat → Int → Int → Int × Int × Int
  | 0, p, acc => (0, 0, 99)
  | f + 1, p, acc =>
    if (getS b p size).2.2 = 0 then
      (if acc + (getS b p size).1 > left then (0, 0, 8)
       else if (getS b p size).1 = most then lenS b size most left f (getS b p size).2.1 (acc + (getS b p size).1)
       else if acc + (getS b p size).1 = 0 then (0, 0, 8) else (acc + (getS b p size).1, (getS b p size).2.1, 0))
    else (0, 0, (getS b p size).2.2)
/-- What follows, where no error has been met. -/
def cont {α β : Type} (r : α × Int × Int) (R : α → Int → List β × Int × Int) : List β × Int × Int := if r.2.2 = 0 then R r.1 r.2.1 else ([], 0, r.2.2)
theorem cont_ok {α β : Type} (a : α) (q : Int) (R : α → Int → List β × Int × Int) : cont (a, q, 0) R = R a q := rfl
theorem cont_8 {α β : Type} (a : α) (q : Int) (R : α → Int → List β × Int × Int) : cont (a, q, 8) R = ([], 0, 8) := rfl
theorem cont_cont {α β γ : Type} (r : α × Int × Int) (R : α → Int → List β × Int × Int) (T : List β → Int → List γ × Int × Int) : cont r (fun a q => cont (R a q) T) = cont (cont r R) T := by
  obtain ⟨a, q, e⟩ := r
  by_cases he : e = 0
  · subst he; rfl
  · unfold cont; rw [if_neg he, if_neg he]; simp only; rw [if_neg he]
theorem cont_bad {α β : Type} {a : α} {q e : Int} (he : e ≠ 0) (R : α → Int → List β × Int × Int) : cont (a, q, e) R = ([], 0, e) := by unfold cont; rw [if_neg he]
def grpS (b : List Int) (size most : Int) : Nat → Int → Int → List Sec → List Sec × Int × Int
  | 0, left, p, acc => ([], 0, 99)
  | f + 1, left, p, acc =>
    if left > 0 then
      (if (getS b p 4).2.2 = 0 then
        (if (getS b p 4).1 > 11 ∧ (getS b p 4).1 ≠ 13 then ([], 0, 8)
         else cont (lenS b size most left 50 (getS b p 4).2.1 0) (fun len q => grpS b size most f (left - len) q (acc ++ [⟨(getS b p 4).1, len⟩])))
       else ([], 0, (getS b p 4).2.2))
    else (acc, p, 0)
def readS (b : List Int) (size most m : Int) : Nat → Int → List (List Sec) → List (List Sec) × Int × Int
  | 0, p, acc => (acc, p, 0)
  | n + 1, p, acc => cont (grpS b size most 50 m p []) (fun g q => readS b size most m n q (acc ++ [g]))
def getSect (b : List Int) (p s sh m : Int) (gs : List Int) : List (List Sec) × Int × Int :=
  if SP.someS s sh m gs = true then (if (getS b p 0).2.2 = 0 then readS b (sizeS s) (mostS s) m gs.length (getS b p 0).2.1 [] else ([], 0, (getS b p 0).2.2)) else ([], 0, 8)

theorem lenS_ok {b : List Int} (hb : ∀ y ∈ b, 0 ≤ y ∧ y ≤ 255) {size : Nat} {most left : Int} : ∀ (f : Nat) (p acc len q : Int), 0 ≤ acc → lenS b size most left f p acc = (len, q, 0) → 1 ≤ len ∧ len ≤ left ∧ acc ≤ len
  | 0, p, acc, len, q, h0, h => by simp [lenS] at h
  | f + 1, p, acc, len, q, h0, h => by
    have hn := (getS_bounds hb p size).1
    unfold lenS at h
    split at h
    · split at h
      · simp at h
      · split at h
        · have := lenS_ok hb f _ _ len q (by omega) h
          omega
        · split at h
          · simp at h
          · simp only [Prod.mk.injEq, and_true] at h
            omega
    · next he =>
      simp only [Prod.mk.injEq] at h
      exact absurd h.2.2 he
theorem lenS_bad {b : List Int} {size most left : Int} : ∀ (f : Nat) (p acc len q e : Int), lenS b size most left f p acc = (len, q, e) → e ≠ 0 → len = 0 ∧ q = 0
  | 0, p, acc, len, q, e, h, he => by simp only [lenS, Prod.mk.injEq] at h; exact ⟨h.1.symm, h.2.1.symm⟩
  | f + 1, p, acc, len, q, e, h, he => by
    unfold lenS at h
    split at h
    · split at h
      · simp only [Prod.mk.injEq] at h; exact ⟨h.1.symm, h.2.1.symm⟩
      · split at h
        · exact lenS_bad f _ _ len q e h he
        · split at h
          · simp only [Prod.mk.injEq] at h; exact ⟨h.1.symm, h.2.1.symm⟩
          · simp only [Prod.mk.injEq] at h; exact absurd h.2.2.symm he
    · simp only [Prod.mk.injEq] at h; exact ⟨h.1.symm, h.2.1.symm⟩
theorem size_most (s : Int) : (mostS s) + 1 = 2 ^ (sizeS s) ∧ 7 ≤ mostS s ∧ mostS s ≤ 31 ∧ sizeS s ≤ 5 ∧ 3 ≤ sizeS s := by
  unfold mostS sizeS
  split <;> decide

section
variable (b : List Int) (hb : ∀ y ∈ b, 0 ≤ y ∧ y ≤ 255) (hbl : b.length ≤ 4611686018427387904) (s sh m : Int) (gs : List Int)
include hb hbl
theorem get_l2 (out : List (List Sec)) (g : List Sec) (hg : g.length ≤ 1000) (left : Int) (hl0 : 0 ≤ left) (hl : left ≤ 40) (io ii book : Int) (hk0 : 0 ≤ book) (hk1 : book ≤ 11 ∨ book = 13) (K0 : Nat) (R : Int → Int → List (List Sec) × Int × Int)
    (h1 : ∀ k, K0 < k → ∀ len q, 1 ≤ len → len ≤ left → sect_Get.l1 k b out q (sizeS s : Int) (mostS s) (g ++ [⟨book, len⟩]) (left - len) io ii s sh m gs = some (R len q)) :
    ∀ (f k : Nat) (p acc : Int), 0 ≤ acc → acc ≤ left → 41 - acc ≤ (f : Int) → K0 + f + 50 < k →
    sect_Get.l2 k b out p (sizeS s : Int) (mostS s) g left (mostS s) io ii s sh m gs book acc = some (cont (lenS b (sizeS s : Int) (mostS s) left f p acc) R) := by
  intro f
  obtain ⟨hsm, hm7, hm31, hs5, hs3⟩ := size_most s
  induction f with
  | zero => intro k p acc h0 h2 hf; omega
  | succ f ih =>
    intro k p acc h0 h2 hf hk
    obtain ⟨k, rfl⟩ : ∃ m, k = m + 2 := ⟨k - 2, by omega⟩
    have hn := getS_bounds hb p (sizeS s)
    rw [sect_Get.l2, if_pos rfl, get_f b hb hbl p (sizeS s : Int) (k + 1) (by omega)]
    simp only [Option.bind_some, lenS]
    by_cases he : (getS b p (sizeS s : Int)).2.2 = 0
    · rw [if_pos he, if_pos he]
      have hnm : (getS b p (sizeS s : Int)).1 ≤ mostS s := by omega
      rw [wrap_id _ (by omega) (by omega)]
      by_cases hgt : acc + (getS b p (sizeS s : Int)).1 > left
      · rw [if_pos hgt, if_pos hgt, cont_8]
      · rw [if_neg hgt, if_neg hgt]
        by_cases hm : (getS b p (sizeS s : Int)).1 = mostS s
        · rw [if_pos hm, hm]
          exact ih (k + 1) _ _ (by omega) (by omega) (by omega) (by omega)
        · rw [if_neg hm, sect_Get.l2, if_neg hm]
          have hr := right_f (⟨book, acc + (getS b p (sizeS s : Int)).1⟩ : Sec) left
          simp only at hr
          rw [hr]
          simp only [Option.bind_some]
          by_cases hz : acc + (getS b p (sizeS s : Int)).1 = 0
          · rw [if_pos hz, cont_8]
            have : secRight (⟨book, acc + (getS b p (sizeS s : Int)).1⟩ : Sec) left = false := by
              unfold secRight
              rw [hz]
              rfl
            rw [this]
            rfl
          · rw [if_neg hz]
            have : secRight (⟨book, acc + (getS b p (sizeS s : Int)).1⟩ : Sec) left = true := by
              unfold secRight
              simp only [Bool.and_eq_true, Bool.or_eq_true, decide_eq_true_eq, beq_iff_eq]
              omega
            rw [this, if_pos rfl, if_pos (by omega), wrap_id _ (by omega) (by omega), h1 k (by omega) _ _ (by omega) (by omega), cont_ok]
    · rw [if_neg he, if_neg he, cont_bad he]
theorem get_l1 (out : List (List Sec)) (hout : out.length ≤ 100000) (io ii : Int) (K0 : Nat) (R : List Sec → Int → List (List Sec) × Int × Int)
    (h0 : ∀ k, K0 < k → ∀ g q, sect_Get.l0 k b (out ++ [g]) q (sizeS s : Int) (mostS s) io (wrap64 (ii + 1)) s sh m gs = some (R g q)) :
    ∀ (f k : Nat) (left p : Int) (g : List Sec), 0 ≤ left → left ≤ 40 → left < (f : Int) → g.length + left ≤ 900 → K0 + 120 * f + 50 < k →
    sect_Get.l1 k b out p (sizeS s : Int) (mostS s) g left io ii s sh m gs = some (cont (grpS b (sizeS s : Int) (mostS s) f left p g) R) := by
  intro f
  induction f with
  | zero => intro k left p g hl0 hl hf; omega
  | succ f ih =>
    intro k left p g hl0 hl hf hg hk
    obtain ⟨k, rfl⟩ : ∃ m, k = m + 2 := ⟨k - 2, by omega⟩
    rw [sect_Get.l1]
    by_cases hp : left > 0
    · have hn := getS_bounds hb p 4
      rw [show (((4 : Nat) : Int)) = 4 from rfl] at hn
      rw [if_pos hp, get_f b hb hbl p 4 (k + 1) (by omega)]
      simp only [Option.bind_some, grpS]
      rw [if_pos hp]
      by_cases he : (getS b p 4).2.2 = 0
      · rw [if_pos he, if_pos he]
        have hn16 : (getS b p 4).1 < 16 := by have := hn.2.1; omega
        by_cases h11 : (getS b p 4).1 > 11
        · rw [if_pos h11, sect_Get.j2]
          by_cases h13 : (getS b p 4).1 = 13
          · rw [if_neg (by rw [h13]; simp), if_neg (by rw [h13]; simp)]
            have := get_l2 b hb hbl s sh m gs out g (by omega) left hl0 hl io ii (getS b p 4).1 hn.1 (Or.inr h13) (K0 + 120 * f + 50)
              (fun len q => cont (grpS b (sizeS s : Int) (mostS s) f (left - len) q (g ++ [⟨(getS b p 4).1, len⟩])) R)
              (fun k' hk' len q hlen hle => ih k' (left - len) q _ (by omega) (by omega) (by omega) (by rw [List.length_append, List.length_singleton]; omega) hk') 50 k (getS b p 4).2.1 0 (by omega) (by omega) (by omega) (by omega)
            rw [this]
            exact congrArg some (cont_cont _ _ _)
          · rw [if_pos (by rw [bne_iff_ne]; exact h13), if_pos ⟨h11, h13⟩, cont_8]
        · rw [if_neg h11, sect_Get.j2, if_neg (by simp), if_neg (fun h => h11 h.1)]
          have := get_l2 b hb hbl s sh m gs out g (by omega) left hl0 hl io ii (getS b p 4).1 hn.1 (Or.inl (by omega)) (K0 + 120 * f + 50)
            (fun len q => cont (grpS b (sizeS s : Int) (mostS s) f (left - len) q (g ++ [⟨(getS b p 4).1, len⟩])) R)
            (fun k' hk' len q hlen hle => ih k' (left - len) q _ (by omega) (by omega) (by omega) (by rw [List.length_append, List.length_singleton]; omega) hk') 50 k (getS b p 4).2.1 0 (by omega) (by omega) (by omega) (by omega)
          rw [this]
          exact congrArg some (cont_cont _ _ _)
      · rw [if_neg he, if_neg he, cont_bad he]
    · rw [if_neg hp, if_pos (by omega), h0 (k + 1) (by omega)]
      simp only [grpS]
      rw [if_neg hp, cont_ok]
theorem get_l0 (hm0 : 0 ≤ m) (hm : m ≤ 40) (ng : Nat) (hng : ng ≤ 1000) : ∀ (d k i : Nat) (p : Int) (out : List (List Sec)), ng - i = d → i ≤ ng → out.length = i → 7000 * d + 10 < k →
    sect_Get.l0 k b out p (sizeS s : Int) (mostS s) (ng : Int) (i : Int) s sh m gs = some (readS b (sizeS s : Int) (mostS s) m d p out) := by
  intro d
  induction d with
  | zero =>
    intro k i p out hd hi ho hk
    obtain ⟨k, rfl⟩ : ∃ m, k = m + 1 := ⟨k - 1, by omega⟩
    rw [sect_Get.l0, if_neg (by omega)]
    rfl
  | succ d ih =>
    intro k i p out hd hi ho hk
    obtain ⟨k, rfl⟩ : ∃ m, k = m + 1 := ⟨k - 1, by omega⟩
    rw [sect_Get.l0, if_pos (by omega)]
    have := get_l1 b hb hbl s sh m gs out (by omega) (ng : Int) (i : Int) (7000 * d + 10) (fun g q => readS b (sizeS s : Int) (mostS s) m d q (out ++ [g]))
      (fun k' hk' g q => by rw [wrap_succ i (by omega)]; exact ih k' (i + 1) q _ (by omega) (by omega) (by rw [List.length_append, List.length_singleton]; omega) hk') 50 k m p [] hm0 hm (by omega) (by simp; omega) (by omega)
    rw [this]
    simp only [readS]
theorem getSect_f (p : Int) (hgs : gs.length ≤ 1000) (k : Nat) (hk : 57000 + gs.length < k) : sect_Get.f k b p s sh m gs = some (getSect b p s sh m gs) := by
  unfold sect_Get.f getSect
  rw [SP.windows_f s sh m gs (by omega) k (by omega)]
  unfold SP.windowsS
  by_cases h : SP.someS s sh m gs = true
  · obtain ⟨_, _, hm0, hm, _⟩ := someS_max h
    obtain ⟨_, _, h8, _⟩ := SP.someS_all h
    rw [if_pos h, if_pos h]
    simp only [Option.bind_some, if_true]
    rw [get_f b hb hbl p 0 k (by omega)]
    simp only [Option.bind_some]
    by_cases he : (getS b p 0).2.2 = 0
    · rw [if_pos he, if_pos he, field_f]
      simp only [Option.bind_some]
      have := get_l0 b hb hbl s sh m gs hm0 hm gs.length (by omega) gs.length k 0 (getS b p 0).2.1 [] (by omega) (by omega) rfl (by omega)
      exact this
    · rw [if_neg he, if_neg he]
  · rw [if_neg h, if_neg h]
    simp only [Option.bind_some]
    rfl
end
/-! ### two equal lists are the same -/
theorem same_refl (l : List (List Sec)) (N : Nat) (hN : ∀ g ∈ l, g.length ≤ N) (hN2 : N ≤ 1000000) (hl : l.length ≤ 1000000) (k : Nat) (hk : (N + 3) * l.length + 3 < k) : reedpiperef18_SameSections.f k l l = some true := by
  unfold reedpiperef18_SameSections.f
  rw [if_pos rfl]
  have l1 : ∀ (i : Nat) (hi : i < l.length) (K0 : Nat), (∀ k, K0 < k → reedpiperef18_SameSections.l0 k l l (wrap64 ((i : Int) + 1)) = some true) → ∀ (d k j : Nat), l[i].length - j = d → j ≤ l[i].length → K0 + d + 1 < k → reedpiperef18_SameSections.l1 k l l (i : Int) (j : Int) = some true := by
    intro i hi K0 h0 d
    have hgl := hN _ (List.getElem_mem hi)
    induction d with
    | zero =>
      intro k j hd hj hk
      obtain ⟨k, rfl⟩ : ∃ m, k = m + 1 := ⟨k - 1, by omega⟩
      rw [reedpiperef18_SameSections.l1, L_mem l i hi, if_pos (by omega), if_pos (by omega), if_neg (by omega)]
      exact h0 k (by omega)
    | succ d ih =>
      intro k j hd hj hk
      obtain ⟨k, rfl⟩ : ∃ m, k = m + 1 := ⟨k - 1, by omega⟩
      rw [reedpiperef18_SameSections.l1, L_mem l i hi, if_pos (by omega), if_pos (by omega), if_pos (by omega), if_pos (by omega), if_pos (by omega), if_pos (by omega), if_neg (by simp), wrap_succ j (by omega)]
      exact ih k (j + 1) (by omega) (by omega) (by omega)
  have l0 : ∀ (d k i : Nat), l.length - i = d → i ≤ l.length → (N + 3) * d + 1 < k → reedpiperef18_SameSections.l0 k l l (i : Int) = some true := by
    intro d
    induction d with
    | zero =>
      intro k i hd hi hk
      obtain ⟨k, rfl⟩ : ∃ m, k = m + 1 := ⟨k - 1, by omega⟩
      rw [reedpiperef18_SameSections.l0, if_neg (by omega)]
    | succ d ih =>
      intro k i hd hi hk
      obtain ⟨k, rfl⟩ : ∃ m, k = m + 1 := ⟨k - 1, by omega⟩
      have hgl := hN _ (List.getElem_mem (show i < l.length by omega))
      have he : (N + 3) * (d + 1) = (N + 3) * d + (N + 3) := Nat.mul_succ _ _
      rw [reedpiperef18_SameSections.l0, if_pos (by omega), if_pos (by omega), if_pos (by omega), if_pos rfl]
      have := l1 i (by omega) ((N + 3) * d + 1) (fun k' hk' => by rw [wrap_succ i (by omega)]; exact ih k' (i + 1) (by omega) (by omega) hk') _ k 0 rfl (by omega) (by omega)
      exact this
  exact l0 l.length k 0 (by omega) (by omega) (by omega)
end Go.Proofs.Ytjdlochffpikbaa.SS
end
section
/- Sections are got as they were put, and put as these bits when got: in plain words. -/
namespace Go.Proofs.Ytjdlochffpikbaa.SS
open Go.RowKit Go.Proofs.YtjdlochffpikbaaW.PrintWords Go.Proofs.YtjdlochffpikbaaW.PrintLast Go.Proofs.YtjdlochffpikbaaW.PrintMore Go.Proofs.Ytjdlochffpikbaa.HA Go.Proofs.Ytjdlochffpikbaa.HP Go.Proofs.Ytjdlochffpikbaa.HG Go.Proofs.Ytjdlochffpikbaa.K Go.Proofs.Ytjdlochffpikbaa.SG
set_option linter.unusedVariables false

theorem fields_step {n most : Int} (h1 : 1 ≤ most) (h : most ≤ n) : fieldsOf n most = most :: fieldsOf (n - most) most := by
  unfold fieldsOf
  have e1 : (n - most) / most = n / most - 1 := by
    have := Int.add_mul_ediv_right n (-1) (show most ≠ 0 by omega)
    rw [show n - most = n + (-1) * most by omega, this]
    omega
  have e2 : (n - most) % most = n % most := by
    have := Int.sub_emod_right n most
    exact this
  have h3 : 1 ≤ n / most := (Int.le_ediv_iff_mul_le (by omega)).2 (by omega)
  rw [e1, e2, show (n / most).toNat = (n / most - 1).toNat + 1 by omega, List.replicate_succ]
  rfl
theorem fields_base {n most : Int} (h0 : 0 ≤ n) (h : n < most) : fieldsOf n most = [n] := by
  unfold fieldsOf
  rw [Int.ediv_eq_zero_of_lt h0 h, Int.emod_eq_of_lt h0 h]
  rfl
section
variable (s : Int)
theorem getS_at {X pre post : List Int} {n : Int} {z : Nat} {p : Int} (hx : X = pre ++ bitsOf n z ++ post) (hp : p = (pre.length : Int)) (hz : z ≤ 31) (h0 : 0 ≤ n) (h1 : n < 2 ^ z) : getS X p (z : Int) = (n, p + (z : Int), 0) := by
  subst hx
  subst hp
  rw [getS_put pre post n z hz h0 h1, Int.natCast_add]
theorem len_put (post : List Int) (left : Int) : ∀ (f : Nat) (n acc p : Int) (X pre : List Int), X = pre ++ lenBits s n ++ post → p = (pre.length : Int) → 0 ≤ n → 0 ≤ acc → acc + n ≤ left → 1 ≤ acc + n → n < (f : Int) →
    lenS X (sizeS s : Int) (mostS s) left f p acc = (acc + n, p + ((lenBits s n).length : Int), 0) := by
  intro f
  obtain ⟨hsm, hm7, hm31, hs5, hs3⟩ := size_most s
  induction f with
  | zero => intro n acc p X pre hx hp h0 ha hl h1 hf; omega
  | succ f ih =>
    intro n acc p X pre hx hp h0 ha hl h1 hf
    unfold lenS
    by_cases hge : mostS s ≤ n
    · have e : lenBits s n = bitsOf (mostS s) (sizeS s) ++ lenBits s (n - mostS s) := by
        unfold lenBits
        rw [fields_step (by omega) hge]
        rfl
      rw [e] at hx ⊢
      have hg := getS_at (X := X) (pre := pre) (n := mostS s) (p := p) (z := sizeS s) (post := lenBits s (n - mostS s) ++ post) (by rw [hx]; simp only [List.append_assoc]) hp (by omega) (by omega) (by omega)
      rw [hg]
      simp only
      rw [if_pos trivial, if_neg (by omega), if_pos trivial, ih (n - mostS s) (acc + mostS s) _ X (pre ++ bitsOf (mostS s) (sizeS s)) (by rw [hx]; simp only [List.append_assoc]) (by rw [List.length_append, bitsOf_length, hp]; omega) (by omega) (by omega) (by omega) (by omega) (by omega)]
      rw [List.length_append, bitsOf_length]
      simp only [Prod.mk.injEq, and_true]
      omega
    · have e : lenBits s n = bitsOf n (sizeS s) := by
        unfold lenBits
        rw [fields_base h0 (by omega)]
        simp
      rw [e] at hx ⊢
      have hg := getS_at (X := X) (pre := pre) (z := sizeS s) hx hp (by omega) h0 (by omega)
      rw [hg]
      simp only
      rw [if_pos trivial, if_neg (by omega), if_neg (by omega), if_neg (by omega), bitsOf_length]
theorem grp_put (post : List Int) : ∀ (g : List Sec) (f : Nat) (left p : Int) (acc : List Sec) (X pre : List Int), X = pre ++ grpBits s g ++ post → p = (pre.length : Int) → grpOk left g = true → left < (f : Int) → left ≤ 40 →
    grpS X (sizeS s : Int) (mostS s) f left p acc = (acc ++ g, p + ((grpBits s g).length : Int), 0) := by
  intro g
  induction g with
  | nil =>
    intro f left p acc X pre hx hp hok hf hl
    obtain rfl : left = 0 := by simpa [grpOk] using hok
    obtain ⟨f, rfl⟩ : ∃ m, f = m + 1 := ⟨f - 1, by omega⟩
    simp [grpS, grpBits]
  | cons x g ih =>
    intro f left p acc X pre hx hp hok hf hl
    simp only [grpOk, Bool.and_eq_true] at hok
    obtain ⟨hr, hok⟩ := hok
    obtain ⟨h1, h2, h3, h4⟩ := secRight_le hr
    have hbk : x.f0 ≤ 11 ∨ x.f0 = 13 := by
      unfold secRight at hr
      simp only [Bool.and_eq_true, Bool.or_eq_true, decide_eq_true_eq, beq_iff_eq] at hr
      exact hr.2
    obtain ⟨f, rfl⟩ : ∃ m, f = m + 1 := ⟨f - 1, by omega⟩
    have e : grpBits s (x :: g) = bitsOf x.f0 4 ++ lenBits s x.f1 ++ grpBits s g := by
      unfold grpBits
      rw [List.flatMap_cons]
      rfl
    rw [e] at hx ⊢
    have hg := getS_at (X := X) (pre := pre) (z := 4) (n := x.f0) (p := p) (post := lenBits s x.f1 ++ grpBits s g ++ post) (by rw [hx]; simp only [List.append_assoc]) hp (by omega) h3 (by omega)
    have hlen := len_put s (grpBits s g ++ post) left 50 x.f1 0 (p + 4) X (pre ++ bitsOf x.f0 4) (by rw [hx]; simp only [List.append_assoc]) (by rw [List.length_append, bitsOf_length, hp]; omega) (by omega) (by omega) (by omega) (by omega) (by omega)
    rw [show (((4 : Nat) : Int)) = 4 from rfl] at hg
    unfold grpS
    rw [if_pos (by omega), hg]
    simp only
    rw [if_pos trivial, if_neg (by omega), hlen, cont_ok, Int.zero_add, ih f (left - x.f1) _ _ X (pre ++ bitsOf x.f0 4 ++ lenBits s x.f1) (by rw [hx]; simp only [List.append_assoc]) (by rw [List.length_append, List.length_append, bitsOf_length, hp]; omega) hok (by omega) (by omega)]
    simp only [List.length_append, bitsOf_length, List.append_assoc, Prod.mk.injEq, and_true]
    exact ⟨rfl, by omega⟩
theorem read_put (post : List Int) (m : Int) (hm : m ≤ 40) : ∀ (l : List (List Sec)) (p : Int) (out : List (List Sec)) (X pre : List Int), X = pre ++ secsBits s l ++ post → p = (pre.length : Int) → (∀ g ∈ l, grpOk m g = true) →
    readS X (sizeS s : Int) (mostS s) m l.length p out = (out ++ l, p + ((secsBits s l).length : Int), 0) := by
  intro l
  induction l with
  | nil => intro p out X pre hx hp h; simp [readS, secsBits]
  | cons g l ih =>
    intro p out X pre hx hp h
    have e : secsBits s (g :: l) = grpBits s g ++ secsBits s l := by
      unfold secsBits
      rw [List.flatMap_cons]
    rw [e] at hx ⊢
    have hg := grp_put s (secsBits s l ++ post) g 50 m p [] X pre (by rw [hx]; simp only [List.append_assoc]) hp (h g List.mem_cons_self) (by omega) hm
    rw [List.length_cons, readS, hg, cont_ok, ih _ _ X (pre ++ grpBits s g) (by rw [hx]; simp only [List.append_assoc]) (by rw [List.length_append, hp]; omega) (fun x hx => h x (List.mem_cons_of_mem _ hx))]
    simp only [List.nil_append, List.length_append, List.append_assoc, Prod.mk.injEq, and_true]
    exact ⟨rfl, by omega⟩
end
theorem get_put {s sh m : Int} {gs : List Int} {l : List (List Sec)} (h : secsOk s sh m gs l = true) (post : List Int) : getSect (secsBits s l ++ post) 0 s sh m gs = (l, ((secsBits s l).length : Int), 0) := by
  obtain ⟨h1, h2, h3, h4⟩ := secsOk_ok h
  obtain ⟨_, _, hm0, hm, _⟩ := someS_max h1
  unfold getSect
  have hg : getS (secsBits s l ++ post) 0 0 = (0, 0, 0) := by
    unfold getS
    rw [if_neg (by simp only [List.length_append]; omega), if_neg (by simp only [List.length_append]; omega), if_pos (by rfl)]
    rfl
  rw [if_pos h1, hg]
  simp only
  rw [if_pos trivial, ← h2, read_put s post m hm l 0 [] (secsBits s l ++ post) [] rfl rfl h4]
  simp
/-! ### back -/
section
variable {b : List Int} (hb : ∀ y ∈ b, 0 ≤ y ∧ y ≤ 255) (s : Int)
include hb
theorem len_back (left : Int) : ∀ (f : Nat) (p acc len q : Int), 0 ≤ acc → lenS b (sizeS s : Int) (mostS s) left f p acc = (len, q, 0) → 0 ≤ p ∧ p ≤ q ∧ q ≤ b.length ∧ acc ≤ len ∧ (b.drop p.toNat).take (q - p).toNat = lenBits s (len - acc) := by
  intro f
  obtain ⟨hsm, hm7, hm31, hs5, hs3⟩ := size_most s
  induction f with
  | zero => intro p acc len q h0 h; simp [lenS] at h
  | succ f ih =>
    intro p acc len q h0 h
    unfold lenS at h
    obtain ⟨n, q1, e1, hg⟩ : ∃ n q e, getS b p (sizeS s : Int) = (n, q, e) := ⟨_, _, _, rfl⟩
    rw [hg] at h
    simp only at h
    split at h
    · next he =>
      subst he
      obtain ⟨g1, g2, g3, g4, g5, g6, g7, g8⟩ := getS_ok hb hg
      rw [Int.toNat_natCast] at g7 g8
      split at h
      · simp at h
      · split at h
        · next hm =>
          subst hm
          obtain ⟨i1, i2, i3, i4, i5⟩ := ih q1 (acc + mostS s) len q (by omega) h
          refine ⟨g1, by omega, i3, by omega, ?_⟩
          have e : lenBits s (len - acc) = bitsOf (mostS s) (sizeS s) ++ lenBits s (len - (acc + mostS s)) := by
            unfold lenBits
            rw [fields_step (by omega) (by omega), show len - acc - mostS s = len - (acc + mostS s) by omega]
            rfl
          rw [e, show (q - p).toNat = sizeS s + (q - q1).toNat by omega, List.take_add, List.drop_drop, g8, show p.toNat + sizeS s = q1.toNat by omega, i5]
        · split at h
          · simp at h
          · simp only [Prod.mk.injEq, and_true] at h
            obtain ⟨rfl, rfl⟩ := h
            refine ⟨g1, by omega, g5, by omega, ?_⟩
            have e : lenBits s (acc + n - acc) = bitsOf n (sizeS s) := by
              unfold lenBits
              rw [show acc + n - acc = n by omega, fields_base g6 (by omega)]
              simp
            rw [e, show (q1 - p).toNat = sizeS s by omega, g8]
    · next he =>
      simp only [Prod.mk.injEq] at h
      exact absurd h.2.2 he
theorem grp_back : ∀ (f : Nat) (left p : Int) (acc g' : List Sec) (q : Int), 0 ≤ left → 0 ≤ p → p ≤ b.length → grpS b (sizeS s : Int) (mostS s) f left p acc = (g', q, 0) → ∃ g, g' = acc ++ g ∧ grpOk left g = true ∧ p ≤ q ∧ q ≤ b.length ∧ (b.drop p.toNat).take (q - p).toNat = grpBits s g := by
  intro f
  induction f with
  | zero => intro left p acc g' q h0 hp0 hp1 h; simp [grpS] at h
  | succ f ih =>
    intro left p acc g' q h0 hp0 hp1 h
    unfold grpS at h
    split at h
    · next hl =>
      obtain ⟨n, q1, e1, hg⟩ : ∃ n q e, getS b p 4 = (n, q, e) := ⟨_, _, _, rfl⟩
      rw [hg] at h
      simp only at h
      split at h
      · next he =>
        subst he
        obtain ⟨g1, g2, g3, g4, g5, g6, g7, g8⟩ := getS_ok hb hg
        split at h
        · simp at h
        · next hbk =>
          obtain ⟨len, q2, e2, hlen⟩ : ∃ n q e, lenS b (sizeS s : Int) (mostS s) left 50 q1 0 = (n, q, e) := ⟨_, _, _, rfl⟩
          rw [hlen] at h
          by_cases he2 : e2 = 0
          · subst he2
            rw [cont_ok] at h
            obtain ⟨a1, a2, a3⟩ := lenS_ok hb 50 q1 0 len q2 (by omega) hlen
            obtain ⟨b1, b2, b3, b4, b5⟩ := len_back hb s left 50 q1 0 len q2 (by omega) hlen
            obtain ⟨g, hgg, hok, c1, c2, c3⟩ := ih (left - len) q2 _ g' q (by omega) (by omega) b3 h
            refine ⟨⟨n, len⟩ :: g, by rw [hgg]; simp, ?_, by omega, c2, ?_⟩
            · have h7 : n < 16 := by simpa using g7
              simp only [grpOk, Bool.and_eq_true]
              refine ⟨?_, hok⟩
              unfold secRight
              simp only [Bool.and_eq_true, Bool.or_eq_true, decide_eq_true_eq, beq_iff_eq]
              omega
            · have e : grpBits s (⟨n, len⟩ :: g) = bitsOf n 4 ++ lenBits s len ++ grpBits s g := by
                unfold grpBits
                rw [List.flatMap_cons]
                rfl
              have g8' : (b.drop p.toNat).take 4 = bitsOf n 4 := g8
              rw [e, show (q - p).toNat = 4 + ((q2 - q1).toNat + (q - q2).toNat) by omega, List.take_add, List.drop_drop, g8', List.take_add, List.drop_drop, show p.toNat + 4 = q1.toNat by omega, b5, show q1.toNat + (q2 - q1).toNat = q2.toNat by omega, c3, Int.sub_zero, List.append_assoc]
          · rw [cont_bad he2] at h
            simp only [Prod.mk.injEq] at h
            exact absurd h.2.2 he2
      · next he =>
        simp only [Prod.mk.injEq] at h
        exact absurd h.2.2 he
    · next hl =>
      simp only [Prod.mk.injEq, and_true] at h
      obtain ⟨rfl, rfl⟩ := h
      obtain rfl : left = 0 := by omega
      exact ⟨[], by simp, rfl, Int.le_refl _, hp1, by simp [grpBits]⟩
theorem read_back (m : Int) (hm : 0 ≤ m) : ∀ (n : Nat) (p : Int) (out l' : List (List Sec)) (q : Int), 0 ≤ p → p ≤ b.length → readS b (sizeS s : Int) (mostS s) m n p out = (l', q, 0) → ∃ l, l' = out ++ l ∧ l.length = n ∧ (∀ g ∈ l, grpOk m g = true) ∧ p ≤ q ∧ q ≤ b.length ∧ (b.drop p.toNat).take (q - p).toNat = secsBits s l := by
  intro n
  induction n with
  | zero =>
    intro p out l' q hp0 hp1 h
    simp only [readS, Prod.mk.injEq, and_true] at h
    obtain ⟨rfl, rfl⟩ := h
    exact ⟨[], by simp, rfl, by simp, Int.le_refl _, hp1, by simp [secsBits]⟩
  | succ n ih =>
    intro p out l' q hp0 hp1 h
    unfold readS at h
    obtain ⟨g', q1, e1, hg⟩ : ∃ n q e, grpS b (sizeS s : Int) (mostS s) 50 m p [] = (n, q, e) := ⟨_, _, _, rfl⟩
    rw [hg] at h
    by_cases he : e1 = 0
    · subst he
      rw [cont_ok] at h
      obtain ⟨g, hgg, hok, c1, c2, c3⟩ := grp_back hb s 50 m p [] g' q1 hm hp0 hp1 hg
      obtain ⟨l, hl, hn, hall, d1, d2, d3⟩ := ih q1 _ l' q (by omega) c2 h
      rw [List.nil_append] at hgg
      subst hgg
      refine ⟨g' :: l, by rw [hl]; simp, by simp [hn], fun x hx => ?_, by omega, d2, ?_⟩
      · rcases List.mem_cons.1 hx with rfl | hx
        · exact hok
        · exact hall x hx
      · have e : secsBits s (g' :: l) = grpBits s g' ++ secsBits s l := by
          unfold secsBits
          rw [List.flatMap_cons]
        rw [e, show (q - p).toNat = (q1 - p).toNat + (q - q1).toNat by omega, List.take_add, List.drop_drop, c3, show p.toNat + (q1 - p).toNat = q1.toNat by omega, d3]
    · rw [cont_bad he] at h
      simp only [Prod.mk.injEq] at h
      exact absurd h.2.2 he
theorem put_got {sh m p q : Int} {gs : List Int} {l : List (List Sec)} (h : getSect b p s sh m gs = (l, q, 0)) : 0 ≤ p ∧ p ≤ q ∧ q ≤ b.length ∧ secsOk s sh m gs l = true ∧ (b.take q.toNat).drop p.toNat = secsBits s l := by
  unfold getSect at h
  split at h
  · next h1 =>
    obtain ⟨_, _, hm0, hm, _⟩ := someS_max h1
    obtain ⟨n, q1, e1, hg⟩ : ∃ n q e, getS b p 0 = (n, q, e) := ⟨_, _, _, rfl⟩
    rw [hg] at h
    simp only at h
    split at h
    · next he =>
      subst he
      obtain ⟨g1, g2, g3, g4, g5, g6, g7, g8⟩ := getS_ok hb hg
      obtain ⟨l', hl, hn, hall, d1, d2, d3⟩ := read_back hb s m hm0 gs.length q1 [] l q (by omega) g5 h
      rw [List.nil_append] at hl
      subst hl
      obtain rfl : q1 = p := by omega
      refine ⟨g1, d1, d2, ?_, ?_⟩
      · unfold secsOk
        rw [h1, hn]
        simp only [decide_true, Bool.and_self, Bool.true_and]
        exact List.all_eq_true.2 hall
      · rw [List.drop_take, show q.toNat - q1.toNat = (q - q1).toNat by omega, d3]
    · next he =>
      simp only [Prod.mk.injEq] at h
      exact absurd h.2.2 he
  · simp at h
end
theorem grpS_bad {b : List Int} {size most : Int} : ∀ (f : Nat) (left p : Int) (acc g : List Sec) (q e : Int), grpS b size most f left p acc = (g, q, e) → e ≠ 0 → g = [] ∧ q = 0
  | 0, left, p, acc, g, q, e, h, he => by simp only [grpS, Prod.mk.injEq] at h; exact ⟨h.1.symm, h.2.1.symm⟩
  | f + 1, left, p, acc, g, q, e, h, he => by
    unfold grpS at h
    split at h
    · split at h
      · split at h
        · simp only [Prod.mk.injEq] at h; exact ⟨h.1.symm, h.2.1.symm⟩
        · obtain ⟨len, q2, e2, hlen⟩ : ∃ n q e, lenS b size most left 50 (getS b p 4).2.1 0 = (n, q, e) := ⟨_, _, _, rfl⟩
          rw [hlen] at h
          by_cases he2 : e2 = 0
          · subst he2
            rw [cont_ok] at h
            exact grpS_bad f _ _ _ g q e h he
          · rw [cont_bad he2] at h
            simp only [Prod.mk.injEq] at h; exact ⟨h.1.symm, h.2.1.symm⟩
      · simp only [Prod.mk.injEq] at h; exact ⟨h.1.symm, h.2.1.symm⟩
    · simp only [Prod.mk.injEq] at h
      exact absurd h.2.2.symm he
theorem readS_bad {b : List Int} {size most m : Int} : ∀ (n : Nat) (p : Int) (out l : List (List Sec)) (q e : Int), readS b size most m n p out = (l, q, e) → e ≠ 0 → l = [] ∧ q = 0
  | 0, p, out, l, q, e, h, he => by simp only [readS, Prod.mk.injEq] at h; exact absurd h.2.2.symm he
  | n + 1, p, out, l, q, e, h, he => by
    unfold readS at h
    obtain ⟨g', q1, e1, hg⟩ : ∃ n q e, grpS b size most 50 m p [] = (n, q, e) := ⟨_, _, _, rfl⟩
    rw [hg] at h
    by_cases he1 : e1 = 0
    · subst he1
      rw [cont_ok] at h
      exact readS_bad n _ _ l q e h he
    · rw [cont_bad he1] at h
      simp only [Prod.mk.injEq] at h; exact ⟨h.1.symm, h.2.1.symm⟩
theorem get_bad {b : List Int} {p s sh m : Int} {gs : List Int} {l : List (List Sec)} {q e : Int} (h : getSect b p s sh m gs = (l, q, e)) (he : e ≠ 0) : l = [] ∧ q = 0 := by
  unfold getSect at h
  split at h
  · split at h
    · exact readS_bad _ _ _ _ _ _ h he
    · simp only [Prod.mk.injEq] at h; exact ⟨h.1.symm, h.2.1.symm⟩
  · simp only [Prod.mk.injEq] at h; exact ⟨h.1.symm, h.2.1.symm⟩
end Go.Proofs.Ytjdlochffpikbaa.SS
end
section
/- The law SectBack of the sections' chapter: sections are got as they were put, whatever stands behind, and put as these bits when got; for every input. -/
namespace Go.Proofs.Ytjdlochffpikbaa.Wk
open Go.RowKit Go.Proofs.Ytjdlochffpikbaa.K Go.Proofs.Ytjdlochffpikbaa.SS Go.Proofs.Ytjdlochffpikbaa.HP Go.Proofs.YtjdlochffpikbaaW.PrintWords Go.Proofs.YtjdlochffpikbaaW.PrintLast Go.Proofs.YtjdlochffpikbaaW.PrintMore
set_option linter.unusedVariables false

theorem back_alive : reedpipelaw19_alive.f = some true := by decide +kernel
theorem back_small {s sh m : Int} {gs : List Int} {l : List (List Sec)} (h : secsOk s sh m gs l = true) : l.length ≤ 8 ∧ ∀ g ∈ l, g.length ≤ 40 := by
  obtain ⟨h1, h2, h3, h4⟩ := secsOk_ok h
  obtain ⟨_, _, hm0, hm, _⟩ := someS_max h1
  exact ⟨h3, fun g hg => by have := grpOk_len g m (h4 g hg); omega⟩
theorem back_j1 (k : Nat) (hk : 59000 < k) (b : List Int) (hb : ∀ y ∈ b, 0 ≤ y ∧ y ≤ 255) (hl : b.length ≤ 10000) (p s sh m : Int) (gs : List Int) (hs : 0 ≤ s) (hsh : 0 ≤ sh) (hgs : gs.length ≤ 1000) : reedpipelaw19_SectBack.j1 k b p s sh m gs = some true := by
  obtain ⟨k, rfl⟩ : ∃ m, k = m + 1 := ⟨k - 1, by omega⟩
  simp only [reedpipelaw19_SectBack.j1]
  rw [getSect_f b hb (by omega) s sh m gs p hgs k (by omega)]
  obtain ⟨l, q, e, hg⟩ : ∃ l q e, getSect b p s sh m gs = (l, q, e) := ⟨_, _, _, rfl⟩
  rw [hg]
  simp only [Option.bind_some]
  by_cases he : e = 0
  · subst he
    obtain ⟨h0, h1, h2, h3, h4⟩ := put_got hb s hg
    obtain ⟨h5, h6⟩ := back_small h3
    rw [if_pos rfl, put_f [] s sh m gs l hs hsh (by simp) hgs (by omega) (fun g h => by have := h6 g h; omega), if_pos h3]
    simp only [Option.bind_some]
    rw [if_pos trivial, if_pos h0, if_pos h1, if_pos h2, List.nil_append, h4]
    simp
  · obtain ⟨rfl, rfl⟩ := get_bad hg he
    rw [if_neg he]
    simp
theorem back_true (s sh m : Int) (gs : List Int) (l : List (List Sec)) (x b : List Int) (p : Int) (hs : 0 ≤ s) (hsh : 0 ≤ sh) (hx : ∀ y ∈ x, 0 ≤ y ∧ y ≤ 255) (hb : ∀ y ∈ b, 0 ≤ y ∧ y ≤ 255) : reedpipelaw19_SectBack.f 60000 s sh m gs l x b p = some true := by
  unfold reedpipelaw19_SectBack.f
  rw [back_alive]
  simp only [Option.bind_some]
  have stop : reedpipelaw19_SectBack.j0 60000 l x b p true true s sh m gs = some true := by
    simp only [reedpipelaw19_SectBack.j0, if_true]
  by_cases h1 : (gs.length : Int) > 1000
  · rw [if_pos h1]; exact stop
  · rw [if_neg h1]
    obtain ⟨r, hr, hsmall⟩ := great_f l 60000 (by omega)
    rw [hr]
    simp only [Option.bind_some]
    by_cases h2 : r = true
    · rw [if_pos h2]; exact stop
    · rw [if_neg h2]
      obtain ⟨hl, hg⟩ := hsmall (by simpa using h2)
      by_cases h3 : (x.length : Int) > 10000
      · rw [if_pos h3]; exact stop
      · rw [if_neg h3]
        by_cases h4 : (b.length : Int) > 10000
        · rw [if_pos h4]; exact stop
        · rw [if_neg h4]
          simp only [reedpipelaw19_SectBack.j0, Bool.not_true, Bool.false_eq_true, if_false]
          rw [put_f [] s sh m gs l hs hsh (by simp) (by omega) (by omega) (fun g h => by have := hg g h; omega), check_f s sh m gs l (by omega) (by omega) 200 hg (by omega) 59999 (by
            have : (200 + 3) * l.length ≤ 203 * 100 := Nat.mul_le_mul_left 203 hl
            omega)]
          simp only [Option.bind_some]
          by_cases hok : secsOk s sh m gs l = true
          · rw [if_pos hok, if_pos hok]
            simp only [List.nil_append, if_true, List.length_nil]
            have hmost := secsBits_most hok
            obtain ⟨h5, h6⟩ := back_small hok
            have hbits : ∀ y ∈ secsBits s l, 0 ≤ y ∧ y ≤ 255 := by
              intro y hy
              have h01 : 0 ≤ y ∧ y ≤ 1 := by
                unfold secsBits at hy
                obtain ⟨g, _, hy⟩ := List.mem_flatMap.1 hy
                unfold grpBits at hy
                obtain ⟨z, _, hy⟩ := List.mem_flatMap.1 hy
                unfold secBits lenBits at hy
                rcases List.mem_append.1 hy with hy | hy
                · exact SG.bitsOf_01 _ _ y hy
                · obtain ⟨n, _, hy⟩ := List.mem_flatMap.1 hy
                  exact SG.bitsOf_01 _ _ y hy
              omega
            rw [if_neg (by simp), if_pos (by omega), if_pos (by omega), getSect_f _ (fun y hy => (List.mem_append.1 hy).elim (hbits y) (hx y)) (by rw [List.length_append]; omega) s sh m gs 0 (by omega) 59999 (by omega), get_put hok x]
            simp only [Option.bind_some]
            rw [if_pos trivial, same_refl l 40 h6 (by omega) (by omega) 59999 (by
              have : (40 + 3) * l.length ≤ 43 * 8 := Nat.mul_le_mul_left 43 h5
              omega)]
            simp only [Option.bind_some, if_true]
            exact back_j1 59999 (by omega) b hb (by omega) p s sh m gs hs hsh (by omega)
          · rw [if_neg hok, if_neg hok]
            simp only
            rw [if_neg (by decide), if_neg (by decide)]
            exact back_j1 59999 (by omega) b hb (by omega) p s sh m gs hs hsh (by omega)
theorem SectBack (W : World) (s_0 sh_0 m_0 : Int) (A_0 : Option Addr) (c_0 : Nat) (l_0 : List Int) (A_1 : Option Addr) (c_1 : Nat) (l_1 : List (List Sec)) (A_2 : Option Addr) (c_2 : Nat) (l_2 : List Int) (A_3 : Option Addr) (c_3 : Nat) (l_3 : List Int) (a4 : Int)
    (hc_0 : l_0.length ≤ c_0) (hr_0 : Kd.C (Kd.int .i64) W A_0 l_0.length l_0) (ws_0 : 0 ≤ s_0 ∧ s_0 ≤ 255) (wsh_0 : 0 ≤ sh_0 ∧ sh_0 ≤ 255) (wm_0 : -9223372036854775808 ≤ m_0 ∧ m_0 ≤ 9223372036854775807) (wl_0 : ∀ y ∈ l_0, -9223372036854775808 ≤ y ∧ y ≤ 9223372036854775807)
    (hc_1 : l_1.length ≤ c_1) (hr_1 : Kd.C (Kd.slice 49 k49) W A_1 l_1.length l_1) (wl_1 : ∀ g ∈ l_1, ∀ x ∈ g, (-9223372036854775808 ≤ x.f0 ∧ x.f0 ≤ 9223372036854775807) ∧ (-9223372036854775808 ≤ x.f1 ∧ x.f1 ≤ 9223372036854775807))
    (hc_2 : l_2.length ≤ c_2) (hr_2 : Kd.C (Kd.int .u8) W A_2 l_2.length l_2) (wl_2 : ∀ y ∈ l_2, 0 ≤ y ∧ y ≤ 255) (hc_3 : l_3.length ≤ c_3) (hr_3 : Kd.C (Kd.int .u8) W A_3 l_3.length l_3) (wl_3 : ∀ y ∈ l_3, 0 ≤ y ∧ y ≤ 255) (w4 : (Lit.int .i64 a4).wf = true) :
    Calls Try.prog 6 #[.agg #[.int .u8 s_0, .int .u8 sh_0, .int .i64 m_0, .slice A_0 l_0.length c_0], .slice A_1 l_1.length c_1, .slice A_2 l_2.length c_2, .slice A_3 l_3.length c_3, .int .i64 a4] W fun e w' => e = .returned (.bool true) ∧ Below W.heap.size W w' := by
  exact reedpipelaw19_SectBack.calls 60000 s_0 sh_0 m_0 A_0 c_0 l_0 A_1 c_1 l_1 A_2 c_2 l_2 A_3 c_3 l_3 a4 true W hr_0 hc_0 hr_1 hc_1 hr_2 hc_2 hr_3 hc_3 (back_true s_0 sh_0 m_0 l_0 l_1 l_2 l_3 a4 ws_0.1 wsh_0.1 wl_2 wl_3)
end Go.Proofs.Ytjdlochffpikbaa.Wk
end
section
/- From what a row reads to the kinds of the walks: any type of whole numbers, bools, slices and structs of these. It imports no program. -/
namespace Go.Proofs.Ytjdlochffpikbaa.HR
open Go.RowKit Go.ChangeShapes Go.WideShapes Go.Proofs.YtjdlochffpikbaaW.PrintWords

/-- Whatever reads as data of type t is of kind d. -/
def Opens {α : Type} (P : Program) (t : TypeId) (d : Kd α) (ok : α → Prop) : Prop :=
  ∀ (H : Type) (enc : TypeId × Value → H) (W : World) (fuel : Nat) (cs : List Value) (x : DataW H × List MemPlace), DataW.trod enc P W 0 (fun _ => true) true fuel t cs = some x → ∃ a, ok a ∧ d.K W a cs

theorem Opens.imp {α : Type} {P : Program} {t : TypeId} {d : Kd α} {ok ok' : α → Prop} (h : Opens P t d ok) (hi : ∀ a, ok a → ok' a) : Opens P t d ok' := fun H enc W fuel cs x hx => by
  obtain ⟨a, ha, hK⟩ := h H enc W fuel cs x hx
  exact ⟨a, hi a ha, hK⟩
theorem opens_int {P : Program} {t : TypeId} {k : IntKind} (ht : P.underlying t = some (.int k)) : Opens P t (Kd.int k) (fun n => (Lit.int k n).wf = true) := by
  intro H enc W fuel cs x hx
  obtain ⟨n, rfl, _, hw⟩ := DataW.trod_int ht hx
  exact ⟨n, hw, rfl⟩
theorem opens_bool {P : Program} {t : TypeId} (ht : P.underlying t = some .bool) : Opens P t Kd.bool (fun _ => True) := by
  intro H enc W fuel cs x hx
  obtain ⟨b, rfl, _⟩ := DataW.trod_bool ht hx
  exact ⟨b, trivial, rfl⟩
theorem opens_slice {α : Type} {P : Program} {t e : TypeId} {d : Kd α} {ok : α → Prop} (ht : P.underlying t = some (.slice e)) (hs : P.cellsOf e = d.sz) (h : Opens P e d ok) : Opens P t (Kd.slice e d) (fun xs => ∀ x ∈ xs, ok x) := by
  intro H enc W fuel cs x hx
  rcases Go.Deep.open_slice ht hx with ⟨rfl, _⟩ | ⟨a, len, cap, m, n, D, Pl, rfl, _, hl, hcap, hm, _, hel⟩
  · exact ⟨[], by simp, none, 0, rfl, Nat.le_refl _, rfl, by simp, fun h => absurd h (by simp)⟩
  · have hlm : len ≤ m := by rw [hm]; simp; exact hl
    have key : ∀ k, k ≤ len → ∃ xs : List α, xs.length = k ∧ (∀ x ∈ xs, ok x) ∧ ∀ j p, xs[j]? = some p → ∃ c, c.length = d.sz ∧ d.K W p c ∧ ∀ i u, c[i]? = some u → W.cell? (a.add (j * d.sz + i)) = some u := by
      intro k
      induction k with
      | zero => exact fun _ => ⟨[], rfl, by simp, fun j p hj => by simp at hj⟩
      | succ k ih =>
        intro hk
        obtain ⟨xs, hxl, hxo, hxc⟩ := ih (by omega)
        obtain ⟨cs', hc1, hc2⟩ := hel k (by omega)
        obtain ⟨p, hp, hK⟩ := h H enc W n cs' _ hc2
        refine ⟨xs ++ [p], by simp [hxl], ?_, ?_⟩
        · intro x hx
          rcases List.mem_append.1 hx with hx | hx
          · exact hxo x hx
          · rw [List.mem_singleton.1 hx]; exact hp
        · intro j q hj
          rcases Nat.lt_or_ge j k with hjk | hjk
          · rw [List.getElem?_append_left (by omega)] at hj
            exact hxc j q hj
          · rw [List.getElem?_append_right (by omega)] at hj
            have hj0 : j - xs.length = 0 := by
              rcases Nat.eq_zero_or_pos (j - xs.length) with h0 | h0
              · exact h0
              · rw [List.getElem?_eq_none (by simp; omega)] at hj
                cases hj
            rw [hj0] at hj
            obtain rfl : p = q := by simpa using hj
            obtain rfl : j = k := by omega
            refine ⟨cs', d.K_len hK, hK, fun i u hu => ?_⟩
            obtain ⟨_, hlen, hcells⟩ := World.cells?_some hc1
            obtain ⟨hi, rfl⟩ := List.getElem?_eq_some_iff.1 hu
            have := hcells i (by omega)
            rw [hs, Go.Deep.add_add] at this
            rw [this]
            exact hu
    obtain ⟨xs, hxl, hxo, hxc⟩ := key len (Nat.le_refl _)
    subst hxl
    have hmx : xs.length ≤ 9223372036854775807 := by unfold maxLen at hcap; omega
    exact ⟨xs, hxo, some a, cap, rfl, hl, rfl, hmx, fun _ => ⟨a, rfl, hxc⟩⟩

/-! ### structs, field by field: their types and where their cells begin -/
def OpensFs {α : Type} (P : Program) (fs : List (TypeId × Nat)) (off : Nat) (d : Kd α) (ok : α → Prop) : Prop :=
  ∀ (H : Type) (enc : TypeId × Value → H) (W : World) (n : Nat) (cs : List Value), (∀ f ∈ fs, ∃ x, DataW.trod enc P W 0 (fun _ => true) true n f.1 ((cs.drop f.2).take (P.cellsOf f.1)) = some x) → cs.length = off + d.sz → ∃ a, ok a ∧ d.K W a (cs.drop off)
theorem opensFs_one {α : Type} {P : Program} {t : TypeId} {off : Nat} {d : Kd α} {ok : α → Prop} (hs : P.cellsOf t = d.sz) (h : Opens P t d ok) : OpensFs P [(t, off)] off d ok := by
  intro H enc W n cs hf hl
  obtain ⟨x, hx⟩ := hf (t, off) List.mem_cons_self
  simp only at hx
  rw [hs, List.take_of_length_le (by rw [List.length_drop]; omega)] at hx
  exact h H enc W n _ x hx
theorem opensFs_cons {α β : Type} {P : Program} {t : TypeId} {fs : List (TypeId × Nat)} {off : Nat} (off2 : Nat) {a : Kd α} {b : Kd β} {ok : α → Prop} {okb : β → Prop} (hs : P.cellsOf t = a.sz) (ho2 : off2 = off + a.sz) (h : Opens P t a ok) (hb : OpensFs P fs off2 b okb) :
    OpensFs P ((t, off) :: fs) off (Kd.pair a b) (fun x => ok x.1 ∧ okb x.2) := by
  intro H enc W n cs hf hl
  obtain ⟨x, hx⟩ := hf (t, off) List.mem_cons_self
  simp only at hx
  rw [hs] at hx
  obtain ⟨p, hp, hK⟩ := h H enc W n _ x hx
  have hsz : (Kd.pair a b).sz = a.sz + b.sz := rfl
  obtain ⟨q, hq, hKq⟩ := hb H enc W n cs (fun g hg => hf g (List.mem_cons_of_mem _ hg)) (by rw [hl, hsz, ho2]; omega)
  refine ⟨(p, q), ⟨hp, hq⟩, (cs.drop off).take a.sz, cs.drop off2, ?_, hK, hKq⟩
  rw [ho2, ← List.drop_drop, List.take_append_drop]
theorem opens_struct {α : Type} {P : Program} {t : TypeId} {fs : Array Field} {l : List (TypeId × Nat)} {d : Kd α} {ok : α → Prop} (ht : P.underlying t = some (.struct fs)) (hfs : fs.toList.map (fun f => (f.type, f.offset)) = l) (hs : P.cellsOf t = d.sz) (h : OpensFs P l 0 d ok) : Opens P t d ok := by
  intro H enc W fuel cs x hx
  obtain ⟨xs, n, _, _, hl, hxl, hf⟩ := DataW.trod_struct ht hx
  have := h H enc W n cs (fun f hm => by
    rw [← hfs] at hm
    obtain ⟨g, hg, rfl⟩ := List.mem_map.1 hm
    obtain ⟨i, hi, rfl⟩ := List.getElem_of_mem hg
    have hi2 : i < fs.size := by simpa using hi
    refine ⟨xs[i], ?_⟩
    simp only
    rw [hf i fs.toList[i] (by simp [hi2]), List.getElem?_eq_getElem]) (by omega)
  simpa using this
theorem opens_iso {α β : Type} {P : Program} {t : TypeId} {d : Kd α} {ok : α → Prop} (f : β → α) (g : α → β) (hfg : ∀ a, f (g a) = a) (h : Opens P t d ok) : Opens P t (Kd.iso d f) (fun b => ok (f b)) := by
  intro H enc W fuel cs x hx
  obtain ⟨a, ha, hK⟩ := h H enc W fuel cs x hx
  exact ⟨g a, by show ok (f (g a)); rw [hfg]; exact ha, by show d.K W (f (g a)) cs; rw [hfg]; exact hK⟩
/-- What an argument reads as. -/
theorem Opens.arg {α : Type} {P : Program} {t : TypeId} {d : Kd α} {ok : α → Prop} (h : Opens P t d ok) {H : Type} {enc : TypeId × Value → H} {W : World} {v : Value} {x : DataW H} {ps : List MemPlace} (ht : DataW.Trod enc P W 0 (fun _ => true) true t v x ps) : ∃ a, ok a ∧ d.K W a v.cells.toList := by
  obtain ⟨fuel, hf⟩ := ht
  exact h H enc W fuel _ _ hf
end Go.Proofs.Ytjdlochffpikbaa.HR
end
section
/- How windows' infos are read. -/
namespace Go.Proofs.Ytjdlochffpikbaa.HI
open Go.RowKit Go.ChangeShapes Go.WideShapes Go.Proofs.YtjdlochffpikbaaW.PrintWords Go.Proofs.Ytjdlochffpikbaa.HR

def kInfo : Kd (Int × Int × Int × List Int) := Kd.pair (Kd.int .u8) (Kd.pair (Kd.int .u8) (Kd.pair (Kd.int .i64) (Kd.slice 3 (Kd.int .i64))))
theorem opens_ints : Opens Try.prog 22 (Kd.slice 3 (Kd.int .i64)) (fun xs => ∀ x ∈ xs, (Lit.int .i64 x).wf = true) := opens_slice Try.underlying22 (by kernel_rfl) (opens_int Try.underlying3)
theorem opens_info : Opens Try.prog 24 kInfo (fun x => (Lit.int .u8 x.1).wf = true ∧ (Lit.int .u8 x.2.1).wf = true ∧ (Lit.int .i64 x.2.2.1).wf = true ∧ ∀ y ∈ x.2.2.2, (Lit.int .i64 y).wf = true) := by
  exact opens_struct Try.underlying24 (l := [(5, 0), (5, 1), (3, 2), (22, 3)]) rfl (by kernel_rfl)
    (opensFs_cons 1 (by kernel_rfl) rfl (opens_int Try.underlying5) (opensFs_cons 2 (by kernel_rfl) rfl (opens_int Try.underlying5) (opensFs_cons 3 (by kernel_rfl) rfl (opens_int Try.underlying3) (opensFs_one (by kernel_rfl) opens_ints))))
theorem wf_u8 {x : Int} (h : (Lit.int .u8 x).wf = true) : 0 ≤ x ∧ x ≤ 255 := by
  simp only [Lit.wf, Bool.and_eq_true, decide_eq_true_eq] at h
  exact h
theorem wf_i64 {x : Int} (h : (Lit.int .i64 x).wf = true) : -9223372036854775808 ≤ x ∧ x ≤ 9223372036854775807 := by
  simp only [Lit.wf, Bool.and_eq_true, decide_eq_true_eq] at h
  exact h
theorem open_info {H : Type} {enc : TypeId × Value → H} {W : World} {v : Value} {x : DataW H} {ps : List MemPlace} {r : Reach} {b0 : Nat} (hv : Value.okWide Try.prog W r b0 24 v) (h : DataW.Trod enc Try.prog W 0 (fun _ => true) true 24 v x ps) :
    ∃ (s sh m : Int) (A : Option Addr) (c : Nat) (l : List Int), v = .agg #[.int .u8 s, .int .u8 sh, .int .i64 m, .slice A l.length c] ∧ l.length ≤ c ∧ Kd.C (Kd.int .i64) W A l.length l ∧ (0 ≤ s ∧ s ≤ 255) ∧ (0 ≤ sh ∧ sh ≤ 255) ∧ (-9223372036854775808 ≤ m ∧ m ≤ 9223372036854775807) ∧ ∀ y ∈ l, -9223372036854775808 ≤ y ∧ y ≤ 9223372036854775807 := by
  unfold Value.okWide at hv
  rw [Try.underlying24] at hv
  obtain ⟨cs, rfl, _, _⟩ := hv
  obtain ⟨⟨s, sh, m, l⟩, ⟨w1, w2, w3, w4⟩, hK⟩ := opens_info.arg h
  obtain ⟨_, _, he, rfl, ⟨_, _, rfl, rfl, ⟨_, _, rfl, rfl, ⟨A, c, rfl, hl, hC⟩⟩⟩⟩ := hK
  refine ⟨s, sh, m, A, c, l, ?_, hl, hC, wf_u8 w1, wf_u8 w2, wf_i64 w3, fun y hy => wf_i64 (w4 y hy)⟩
  congr 1
  apply Array.toList_inj.1
  exact he
end Go.Proofs.Ytjdlochffpikbaa.HI
end
section
/- How bytes are read. -/
namespace Go.Proofs.Ytjdlochffpikbaa.HI
open Go.RowKit Go.ChangeShapes Go.WideShapes Go.Proofs.YtjdlochffpikbaaW.PrintWords Go.Proofs.Ytjdlochffpikbaa.HR

theorem slice_value {W : World} {v : Value} {r : Reach} {b0 : Nat} {t e : TypeId} (ht : Try.prog.underlying t = some (.slice e)) (hv : Value.okWide Try.prog W r b0 t v) : ∃ A n c, v = .slice A n c := by
  unfold Value.okWide at hv
  rw [ht] at hv
  unfold Cell.okWide at hv
  rw [ht] at hv
  revert hv
  cases v <;> simp [Cell.ok, ht]
theorem opens_bytes : Opens Try.prog 28 (Kd.slice 5 (Kd.int .u8)) (fun xs => ∀ x ∈ xs, (Lit.int .u8 x).wf = true) := opens_slice Try.underlying28 (by kernel_rfl) (opens_int Try.underlying5)
theorem open_bytes {H : Type} {enc : TypeId × Value → H} {W : World} {v : Value} {x : DataW H} {ps : List MemPlace} {r : Reach} {b0 : Nat} (hv : Value.okWide Try.prog W r b0 28 v) (h : DataW.Trod enc Try.prog W 0 (fun _ => true) true 28 v x ps) :
    ∃ (A : Option Addr) (c : Nat) (l : List Int), v = .slice A l.length c ∧ l.length ≤ c ∧ Kd.C (Kd.int .u8) W A l.length l ∧ ∀ y ∈ l, 0 ≤ y ∧ y ≤ 255 := by
  obtain ⟨A0, n0, c0, rfl⟩ := slice_value Try.underlying28 hv
  obtain ⟨l, wl, A, c, he, hl, hC⟩ := opens_bytes.arg h
  have he' : Value.slice A0 n0 c0 = .slice A l.length c := by simpa [Value.cells] using he
  exact ⟨A, c, l, he', hl, hC, fun y hy => wf_u8 (wl y hy)⟩
end Go.Proofs.Ytjdlochffpikbaa.HI
end
section
/- How lists of sections are read. -/
namespace Go.Proofs.Ytjdlochffpikbaa.HI
open Go.RowKit Go.ChangeShapes Go.WideShapes Go.Proofs.YtjdlochffpikbaaW.PrintWords Go.Proofs.Ytjdlochffpikbaa.HR Go.Proofs.Ytjdlochffpikbaa.K

theorem opens_section : Opens Try.prog 49 k49 (fun x => (Lit.int .i64 x.f0).wf = true ∧ (Lit.int .i64 x.f1).wf = true) := by
  refine opens_iso (fun x : S49 => (x.f0, x.f1)) (fun p => ⟨p.1, p.2⟩) (fun _ => rfl) (ok := fun p => (Lit.int .i64 p.1).wf = true ∧ (Lit.int .i64 p.2).wf = true) ?_
  exact opens_struct Try.underlying49 (l := [(3, 0), (3, 1)]) rfl (by kernel_rfl) (opensFs_cons 1 (by kernel_rfl) rfl (opens_int Try.underlying3) (opensFs_one (by kernel_rfl) (opens_int Try.underlying3)))
theorem opens_sections : Opens Try.prog 25 (Kd.slice 32 (Kd.slice 49 k49)) (fun l => ∀ g ∈ l, ∀ x ∈ g, (Lit.int .i64 x.f0).wf = true ∧ (Lit.int .i64 x.f1).wf = true) :=
  opens_slice Try.underlying25 (by kernel_rfl) (opens_slice Try.underlying32 (by kernel_rfl) opens_section)
theorem open_sections {H : Type} {enc : TypeId × Value → H} {W : World} {v : Value} {x : DataW H} {ps : List MemPlace} {r : Reach} {b0 : Nat} (hv : Value.okWide Try.prog W r b0 25 v) (h : DataW.Trod enc Try.prog W 0 (fun _ => true) true 25 v x ps) :
    ∃ (A : Option Addr) (c : Nat) (l : List (List S49)), v = .slice A l.length c ∧ l.length ≤ c ∧ Kd.C (Kd.slice 49 k49) W A l.length l ∧ ∀ g ∈ l, ∀ x ∈ g, (-9223372036854775808 ≤ x.f0 ∧ x.f0 ≤ 9223372036854775807) ∧ (-9223372036854775808 ≤ x.f1 ∧ x.f1 ≤ 9223372036854775807) := by
  obtain ⟨A0, n0, c0, rfl⟩ := slice_value Try.underlying25 hv
  obtain ⟨l, wl, A, c, he, hl, hC⟩ := opens_sections.arg h
  have he' : Value.slice A0 n0 c0 = .slice A l.length c := by simpa [Value.cells] using he
  exact ⟨A, c, l, he', hl, hC, fun g hg y hy => ⟨wf_i64 (wl g hg y hy).1, wf_i64 (wl g hg y hy).2⟩⟩
end Go.Proofs.Ytjdlochffpikbaa.HI
end
section
/- The row of the law SectBack: out of its walk. -/
namespace Go.Proofs.Ytjdlochffpikbaa.sectBack
open Go.ChangeShapes Go.WideShapes Go.ChangeAt Go.RowKit
open Go.ChangeMaps (open_string shut_string)
set_option linter.unusedVariables false
theorem own : ownKnob Try.prog.godebug = none := by kernel_rfl
theorem laidOut : laidOutB Try.prog = true := by kernel_rfl
set_option maxRecDepth 100000 in
theorem lifted (os : Os) (started : os.Started) (H : Type) (enc : TypeId × Value → H) :
    ReturnsInHanded {} Try.checked os 6 .any (Rows.sectBackSpec.pre6 enc Try.prog Try.f6 Rows.sectBackRow.domain false) (Rows.sectBackSpec.post enc Try.prog Try.f6 false true false false) := by
  refine returnsInHanded_of_change_sized (C := Try.checked) own started (by kernel_rfl) Try.func6
    (ChangeSpec.witness6 (enc := enc) (C := Try.checked) false ⟨#[], #[.agg #[.int .u8 0, .int .u8 0, .int .i64 0, .slice none 0 0], .slice none 0 0, .slice none 0 0, .slice none 0 0, .int .i64 0], []⟩ 8 (by kernel_rfl) (by kernel_rfl) (by kernel_rfl) (by kernel_rfl)) ?_
  intro W base args ds gs before hval0 hW hcnd hsz0 _
  have hval : ∀ (j : Nat) t v, Try.f6.params[j]? = some t → args[j]? = some v → Value.okWide Try.prog W .any base t v := hval0
  have hW' := hW
  obtain ⟨p, q, hA0, hV, rfl, hfz, hnd⟩ := hW
  have hA : DataW.TrodAll enc Try.prog W 0 (fun _ => true) true Try.f6.params.toList args.toList ds p := hA0
  rw [Try.params6] at hA hval
  obtain ⟨v0, vs0, d0, ds0, p0, q0, hargs, rfl, rfl, h0, r0⟩ := trodAll_cons hA
  obtain ⟨v1, vs1, d1, ds1, p1, q1, rfl, rfl, rfl, h1, r1⟩ := trodAll_cons r0
  obtain ⟨v2, vs2, d2, ds2, p2, q2, rfl, rfl, rfl, h2, r2⟩ := trodAll_cons r1
  obtain ⟨v3, vs3, d3, ds3, p3, q3, rfl, rfl, rfl, h3, r3⟩ := trodAll_cons r2
  obtain ⟨v4, vs4, d4, ds4, p4, q4, rfl, rfl, rfl, h4, r4⟩ := trodAll_cons r3
  obtain ⟨rfl, rfl, rfl⟩ := trodAll_nil r4
  obtain rfl : args = #[v0, v1, v2, v3, v4] := by cases args; simp_all
  obtain ⟨rfl, rfl⟩ := trodVars_none hV
  have k0 := h0
  have lt0 : ∀ x ∈ p0, x.block < W.heap.size := by obtain ⟨m, hm⟩ := k0; exact DataW.trod_lt m _ _ _ hm
  obtain ⟨s_0, sh_0, m_0, A_0, c_0, l_0, rfl, hc_0, hr_0, ws_0, wsh_0, wm_0, wl_0⟩ := HI.open_info (hval 0 24 v0 rfl rfl) h0
  have k1 := h1
  have lt1 : ∀ x ∈ p1, x.block < W.heap.size := by obtain ⟨m, hm⟩ := k1; exact DataW.trod_lt m _ _ _ hm
  obtain ⟨A_1, c_1, l_1, rfl, hc_1, hr_1, wl_1⟩ := HI.open_sections (hval 1 25 v1 rfl rfl) h1
  have k2 := h2
  have lt2 : ∀ x ∈ p2, x.block < W.heap.size := by obtain ⟨m, hm⟩ := k2; exact DataW.trod_lt m _ _ _ hm
  obtain ⟨A_2, c_2, l_2, rfl, hc_2, hr_2, wl_2⟩ := HI.open_bytes (hval 2 28 v2 rfl rfl) h2
  have k3 := h3
  have lt3 : ∀ x ∈ p3, x.block < W.heap.size := by obtain ⟨m, hm⟩ := k3; exact DataW.trod_lt m _ _ _ hm
  obtain ⟨A_3, c_3, l_3, rfl, hc_3, hr_3, wl_3⟩ := HI.open_bytes (hval 3 28 v3 rfl rfl) h3
  obtain ⟨a4, rfl, rfl, rfl, w4⟩ := open_int Try.underlying3 (hval 4 3 v4 rfl rfl) h4
  refine (Wk.SectBack W s_0 sh_0 m_0 A_0 c_0 l_0 A_1 c_1 l_1 A_2 c_2 l_2 A_3 c_3 l_3 a4 hc_0 hr_0 ws_0 wsh_0 wm_0 wl_0 hc_1 hr_1 wl_1 hc_2 hr_2 wl_2 hc_3 hr_3 wl_3 w4).mono fun e W' ⟨he, bel⟩ => ?_
  subst he
  exact ⟨_, rfl, _, _, _, [], _, [], hW', trodAll_mk1 (shut_bool Try.underlying4 _), (trodAll_cons_mk (Below.trod laidOut (by kernel_rfl) (of_decide_eq_true (by kernel_rfl)) k0 bel lt0) (trodAll_cons_mk (Below.trod laidOut (by kernel_rfl) (of_decide_eq_true (by kernel_rfl)) k1 bel lt1) (trodAll_cons_mk (Below.trod laidOut (by kernel_rfl) (of_decide_eq_true (by kernel_rfl)) k2 bel lt2) (trodAll_cons_mk (Below.trod laidOut (by kernel_rfl) (of_decide_eq_true (by kernel_rfl)) k3 bel lt3) (trodAll_cons_mk (shut_int Try.underlying3 w4) trodAll_mk0))))), rfl, bel.frame _, fun h => by cases h⟩
theorem over : Rows.sectBackRow.holds Try.pinned (OpenSpec.ofChange Rows.sectBackSpec) :=
  OpenClaim.holds_of_wide 6 Try.f6 rfl rfl rfl rfl rfl rfl rfl ⟨rfl, rfl, rfl, rfl, rfl⟩ rfl rfl rfl rfl rfl (by kernel_rfl) Try.func6 (by kernel_rfl)
    (of_decide_eq_true (by kernel_rfl)) (by unfold Func.isWrapper; first | (rw [if_pos (by decide +kernel)]; kernel_rfl) | (rw [if_neg (by decide +kernel)]; exact ⟨rfl, rfl⟩))
    (fun os started H enc _ => lifted os started H enc)
theorem proved : Rows.SectBackSaid := over
#print axioms proved
end Go.Proofs.Ytjdlochffpikbaa.sectBack
namespace Go.Proofs.Ytjdlochffpikbaa
/-- The row, under a short name, for the claim. -/
theorem sectBack_holds : Rows.SectBackSaid := sectBack.proved
end Go.Proofs.Ytjdlochffpikbaa
end
