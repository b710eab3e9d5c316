/- Texts of this session for the law TnsbitsNone, packed by wip/merge.py: part 4 of 4. Each section is one text; the law's own sentence stands over its section. -/
import Derived.Test.YtdhcgfdnhlhapaaWWords
import Derived.Deep.Slices
import Derived.ChangeArms
import Derived.ChangeOld
import Derived.Carry
import Derived.ChangeSlices
import Derived.WideShapes
import Derived.Test.YtdhcgfdnhlhapaaProg
import Derived.KernelRfl
import Derived.Test.YtdhcgfdnhlhapaaRows
import Derived.WalkKit
import Derived.ProofKit
import Derived.OpenShut
import Derived.ShutString
import Derived.Below
import Derived.SizedLaws
import Derived.Test.YtdhcgfdnhlhapaaYTnsbitsNone1
import Derived.Test.YtdhcgfdnhlhapaaYTnsbitsNone2
import Derived.Test.YtdhcgfdnhlhapaaYTnsbitsNone3
section
-- Written for this claim by this session's own wip/hook.py (it runs the kit's print and takes some functions' contracts as given texts of this session's).
namespace Go.Proofs.Ytdhcgfdnhlhapaa.K
open Go.RowKit Go.Proofs.YtdhcgfdnhlhapaaW.PrintWords Go.Proofs.YtdhcgfdnhlhapaaW.PrintLast Go.Proofs.YtdhcgfdnhlhapaaW.PrintMore
attribute [local go_sem] max2_int min2_int max_two min_two max_three min_three max_four min_four   -- for this text's walks alone
set_option linter.unusedVariables false
set_option linter.unusedSimpArgs false

/-! ### reedpipelaw21_TnsbitsNone: function 3 -/
mutual
def reedpipelaw21_TnsbitsNone.j0 : Nat → List (List (S38)) → Bool → Bool → Int → Int → Int → List Int → Option (Bool)
  | 0, _, _, _, _, _, _, _ => none
  | k + 1, x1, x5, x27, x169000, x169001, x169002, x169003 => if x27 = true then (some x5) else ((info_Windows.f k x169000 x169001 x169002 x169003).bind fun bt171 => (if bt171.2 = 0 then (if x169000 = 2 then (reedpipelaw21_TnsbitsNone.j1 k x1 bt171.1 1 x169000 x169001 x169002 x169003) else (reedpipelaw21_TnsbitsNone.j1 k x1 bt171.1 2 x169000 x169001 x169002 x169003)) else ((tnsbits_Check.f x169000 x169001 x169002 x169003 x1).bind fun t173 => (some (t173 == bt171.2)))))
def reedpipelaw21_TnsbitsNone.j1 : Nat → List (List (S38)) → Int → Int → Int → Int → Int → List Int → Option (Bool)
  | 0, _, _, _, _, _, _, _ => none
  | k + 1, x1, x6, x8, x169000, x169001, x169002, x169003 => if 0 ≤ x6 then (if (x6 : Int).toNat ≤ 11728124029610 then ((tnsbits_Put.f ([] : List Int) x169000 x169001 x169002 x169003 (List.replicate (x6 : Int).toNat [])).bind fun bt177 => (if bt177.2 = 0 then (reedpipelaw21_TnsbitsNone.j2 k x1 bt177.1 ((bt177.1.length : Int) != (wrap64 (x8 * x6))) x169000 x169001 x169002 x169003) else (reedpipelaw21_TnsbitsNone.j2 k x1 bt177.1 true x169000 x169001 x169002 x169003))) else (none)) else (none)
def reedpipelaw21_TnsbitsNone.j2 : Nat → List (List (S38)) → List Int → Bool → Int → Int → Int → List Int → Option (Bool)
  | 0, _, _, _, _, _, _, _ => none
  | k + 1, x1, x9, x60, x169000, x169001, x169002, x169003 => if x60 = true then (some false) else (reedpipelaw21_TnsbitsNone.l0 k x1 x9 0 0 x169000 x169001 x169002 x169003)
def reedpipelaw21_TnsbitsNone.l0 : Nat → List (List (S38)) → List Int → Int → Int → Int → Int → Int → List Int → Option (Bool)
  | 0, _, _, _, _, _, _, _, _ => none
  | k + 1, x1, x9, x11, x12, x169000, x169001, x169002, x169003 => if x12 < (x1.length : Int) then (if 0 ≤ x12 then (reedpipelaw21_TnsbitsNone.l0 k x1 x9 (wrap64 (x11 + ((rd_L7 x1 x12).length : Int))) (wrap64 (x12 + 1)) x169000 x169001 x169002 x169003) else (none)) else ((tnsbits_Put.f ([] : List Int) x169000 x169001 x169002 x169003 x1).bind fun bt182 => (if bt182.2 = 0 then (some (decide ((bt182.1.length : Int) ≥ (wrap64 ((x9.length : Int) + (wrap64 (7 * x11))))))) else (some true)))
end
def reedpipelaw21_TnsbitsNone.f (k : Nat) (a0_0 : Int) (a0_1 : Int) (a0_2 : Int) (l0_3 : List Int) (l1 : List (List (S38))) : Option (Bool) := (reedpipelaw21_alive.f).bind fun t169 => (if (l0_3.length : Int) > 1000 then (reedpipelaw21_TnsbitsNone.j0 k l1 t169 true a0_0 a0_1 a0_2 l0_3) else ((reedpiperef21_Great.f k l1).bind fun t170 => (if t170 = true then (reedpipelaw21_TnsbitsNone.j0 k l1 t169 true a0_0 a0_1 a0_2 l0_3) else (reedpipelaw21_TnsbitsNone.j0 k l1 t169 (!t169) a0_0 a0_1 a0_2 l0_3))))
theorem reedpipelaw21_TnsbitsNone.mono_l : ∀ k, (∀ y0 y1 y2 y3 y4 y5 y6, LeO (reedpipelaw21_TnsbitsNone.j0 k y0 y1 y2 y3 y4 y5 y6) (reedpipelaw21_TnsbitsNone.j0 (k + 1) y0 y1 y2 y3 y4 y5 y6)) ∧ (∀ y0 y1 y2 y3 y4 y5 y6, LeO (reedpipelaw21_TnsbitsNone.j1 k y0 y1 y2 y3 y4 y5 y6) (reedpipelaw21_TnsbitsNone.j1 (k + 1) y0 y1 y2 y3 y4 y5 y6)) ∧ (∀ y0 y1 y2 y3 y4 y5 y6, LeO (reedpipelaw21_TnsbitsNone.j2 k y0 y1 y2 y3 y4 y5 y6) (reedpipelaw21_TnsbitsNone.j2 (k + 1) y0 y1 y2 y3 y4 y5 y6)) ∧ (∀ y0 y1 y2 y3 y4 y5 y6 y7, LeO (reedpipelaw21_TnsbitsNone.l0 k y0 y1 y2 y3 y4 y5 y6 y7) (reedpipelaw21_TnsbitsNone.l0 (k + 1) y0 y1 y2 y3 y4 y5 y6 y7))
  | 0 => ⟨fun _ _ _ _ _ _ _ r h => by simp [reedpipelaw21_TnsbitsNone.j0] at h, fun _ _ _ _ _ _ _ r h => by simp [reedpipelaw21_TnsbitsNone.j1] at h, fun _ _ _ _ _ _ _ r h => by simp [reedpipelaw21_TnsbitsNone.j2] at h, fun _ _ _ _ _ _ _ _ r h => by simp [reedpipelaw21_TnsbitsNone.l0] at h⟩
  | k + 1 => by
    obtain ⟨ih0, ih1, ih2, ih3⟩ := reedpipelaw21_TnsbitsNone.mono_l k
    refine ⟨?_, ?_, ?_, ?_⟩
    · intro y0 y1 y2 y3 y4 y5 y6
      unfold reedpipelaw21_TnsbitsNone.j0
      repeat' first
      | (with_reducible exact ih0 _ _ _ _ _ _ _)
      | (with_reducible exact ih1 _ _ _ _ _ _ _)
      | (with_reducible exact ih2 _ _ _ _ _ _ _)
      | (with_reducible exact ih3 _ _ _ _ _ _ _ _)
      | (with_reducible exact info_Windows.mono _ _ _ _ _)
      | (with_reducible exact reedpiperef21_Great.mono _ _)
      | (with_reducible exact LeO.refl _)
      | (with_reducible exact LeO.none _)
      | (with_reducible refine LeO.ite ?_ ?_)
      | (with_reducible refine LeO.bind ?_ (fun _ => ?_))
      | exact ih0 _ _ _ _ _ _ _
      | exact ih1 _ _ _ _ _ _ _
      | exact ih2 _ _ _ _ _ _ _
      | exact ih3 _ _ _ _ _ _ _ _
      | exact info_Windows.mono _ _ _ _ _
      | exact reedpiperef21_Great.mono _ _
      | exact LeO.none _
      | refine LeO.ite ?_ ?_
      | refine LeO.bind ?_ (fun _ => ?_)
    · intro y0 y1 y2 y3 y4 y5 y6
      unfold reedpipelaw21_TnsbitsNone.j1
      repeat' first
      | (with_reducible exact ih0 _ _ _ _ _ _ _)
      | (with_reducible exact ih1 _ _ _ _ _ _ _)
      | (with_reducible exact ih2 _ _ _ _ _ _ _)
      | (with_reducible exact ih3 _ _ _ _ _ _ _ _)
      | (with_reducible exact info_Windows.mono _ _ _ _ _)
      | (with_reducible exact reedpiperef21_Great.mono _ _)
      | (with_reducible exact LeO.refl _)
      | (with_reducible exact LeO.none _)
      | (with_reducible refine LeO.ite ?_ ?_)
      | (with_reducible refine LeO.bind ?_ (fun _ => ?_))
      | exact ih0 _ _ _ _ _ _ _
      | exact ih1 _ _ _ _ _ _ _
      | exact ih2 _ _ _ _ _ _ _
      | exact ih3 _ _ _ _ _ _ _ _
      | exact info_Windows.mono _ _ _ _ _
      | exact reedpiperef21_Great.mono _ _
      | exact LeO.none _
      | refine LeO.ite ?_ ?_
      | refine LeO.bind ?_ (fun _ => ?_)
    · intro y0 y1 y2 y3 y4 y5 y6
      unfold reedpipelaw21_TnsbitsNone.j2
      repeat' first
      | (with_reducible exact ih0 _ _ _ _ _ _ _)
      | (with_reducible exact ih1 _ _ _ _ _ _ _)
      | (with_reducible exact ih2 _ _ _ _ _ _ _)
      | (with_reducible exact ih3 _ _ _ _ _ _ _ _)
      | (with_reducible exact info_Windows.mono _ _ _ _ _)
      | (with_reducible exact reedpiperef21_Great.mono _ _)
      | (with_reducible exact LeO.refl _)
      | (with_reducible exact LeO.none _)
      | (with_reducible refine LeO.ite ?_ ?_)
      | (with_reducible refine LeO.bind ?_ (fun _ => ?_))
      | exact ih0 _ _ _ _ _ _ _
      | exact ih1 _ _ _ _ _ _ _
      | exact ih2 _ _ _ _ _ _ _
      | exact ih3 _ _ _ _ _ _ _ _
      | exact info_Windows.mono _ _ _ _ _
      | exact reedpiperef21_Great.mono _ _
      | exact LeO.none _
      | refine LeO.ite ?_ ?_
      | refine LeO.bind ?_ (fun _ => ?_)
    · intro y0 y1 y2 y3 y4 y5 y6 y7
      unfold reedpipelaw21_TnsbitsNone.l0
      repeat' first
      | (with_reducible exact ih0 _ _ _ _ _ _ _)
      | (with_reducible exact ih1 _ _ _ _ _ _ _)
      | (with_reducible exact ih2 _ _ _ _ _ _ _)
      | (with_reducible exact ih3 _ _ _ _ _ _ _ _)
      | (with_reducible exact info_Windows.mono _ _ _ _ _)
      | (with_reducible exact reedpiperef21_Great.mono _ _)
      | (with_reducible exact LeO.refl _)
      | (with_reducible exact LeO.none _)
      | (with_reducible refine LeO.ite ?_ ?_)
      | (with_reducible refine LeO.bind ?_ (fun _ => ?_))
      | exact ih0 _ _ _ _ _ _ _
      | exact ih1 _ _ _ _ _ _ _
      | exact ih2 _ _ _ _ _ _ _
      | exact ih3 _ _ _ _ _ _ _ _
      | exact info_Windows.mono _ _ _ _ _
      | exact reedpiperef21_Great.mono _ _
      | exact LeO.none _
      | refine LeO.ite ?_ ?_
      | refine LeO.bind ?_ (fun _ => ?_)
theorem reedpipelaw21_TnsbitsNone.mono : ∀ a0 a1 a2 a3 a4 k, LeO (reedpipelaw21_TnsbitsNone.f k a0 a1 a2 a3 a4) (reedpipelaw21_TnsbitsNone.f (k + 1) a0 a1 a2 a3 a4) := by
  intro a0 a1 a2 a3 a4 k
  obtain ⟨ih0, ih1, ih2, ih3⟩ := reedpipelaw21_TnsbitsNone.mono_l k
  unfold reedpipelaw21_TnsbitsNone.f
  repeat' first
      | (with_reducible exact ih0 _ _ _ _ _ _ _)
      | (with_reducible exact ih1 _ _ _ _ _ _ _)
      | (with_reducible exact ih2 _ _ _ _ _ _ _)
      | (with_reducible exact ih3 _ _ _ _ _ _ _ _)
      | (with_reducible exact info_Windows.mono _ _ _ _ _)
      | (with_reducible exact reedpiperef21_Great.mono _ _)
      | (with_reducible exact LeO.refl _)
      | (with_reducible exact LeO.none _)
      | (with_reducible refine LeO.ite ?_ ?_)
      | (with_reducible refine LeO.bind ?_ (fun _ => ?_))
      | exact ih0 _ _ _ _ _ _ _
      | exact ih1 _ _ _ _ _ _ _
      | exact ih2 _ _ _ _ _ _ _
      | exact ih3 _ _ _ _ _ _ _ _
      | exact info_Windows.mono _ _ _ _ _
      | exact reedpiperef21_Great.mono _ _
      | exact LeO.none _
      | refine LeO.ite ?_ ?_
      | refine LeO.bind ?_ (fun _ => ?_)
def reedpipelaw21_TnsbitsNone.T10 : Bool × List (List Nat × List Nat) := (true, [([], []), ([], []), ([1, 1], [1]), ([0, 2], [0, 2]), ([3], [3]), ([4], [4]), ([4], [4]), ([5, 3, 0, 1, 2, 3, 4, 5], [5]), ([6, 7, 0, 1, 2, 3, 4, 5, 6, 7], [6])])
def reedpipelaw21_TnsbitsNone.B10 : List Nat := [0, 0, 2, 7, 15, 31, 31, 63, 255]
theorem reedpipelaw21_TnsbitsNone.tab10 : rtab .any (opsOf Try.f3 10) = reedpipelaw21_TnsbitsNone.T10 := by kernel_rfl
theorem reedpipelaw21_TnsbitsNone.bits10 : waitsOk reedpipelaw21_TnsbitsNone.T10.2 reedpipelaw21_TnsbitsNone.B10 = true := by kernel_rfl
set_option maxHeartbeats 8000000 in
set_option maxRecDepth 100000 in
theorem reedpipelaw21_TnsbitsNone.calls (k : Nat) (a0_0 : Int) (a0_1 : Int) (a0_2 : Int) (A0_3 : Option Addr) (c0_3 : Nat) (l0_3 : List Int) (A1 : Option Addr) (c1 : Nat) (l1 : List (List (S38))) (r : Bool) (w : World) (hr0_3 : Kd.C (Kd.int .i64) w A0_3 l0_3.length l0_3) (hc0_3 : l0_3.length ≤ c0_3) (hr1 : Kd.C (Kd.slice 38 k38) w A1 l1.length l1) (hc1 : l1.length ≤ c1) (h : reedpipelaw21_TnsbitsNone.f k a0_0 a0_1 a0_2 l0_3 l1 = some r) :
    Calls Try.prog 3 #[.agg #[.int .u8 a0_0, .int .u8 a0_1, .int .i64 a0_2, .slice A0_3 l0_3.length c0_3], .slice A1 l1.length c1] w fun e w' => e = .returned (.bool r) ∧ Below w.heap.size w w' := by
  have hu24 := Try.underlying24
  have HR0_3 := Aside0.mk hr0_3
  have HC0_3 := Aside0.mk hc0_3
  clear hr0_3 hc0_3
  have HR1 := Aside0.mk hr1
  have HC1 := Aside0.mk hc1
  clear hr1 hc1
  have HB := Aside0.mk (Below.refl w.heap.size w)
  have H : ((reedpipelaw21_alive.f).bind fun t169 => (if (l0_3.length : Int) > 1000 then (reedpipelaw21_TnsbitsNone.j0 k l1 t169 true a0_0 a0_1 a0_2 l0_3) else ((reedpiperef21_Great.f k l1).bind fun t170 => (if t170 = true then (reedpipelaw21_TnsbitsNone.j0 k l1 t169 true a0_0 a0_1 a0_2 l0_3) else (reedpipelaw21_TnsbitsNone.j0 k l1 t169 (!t169) a0_0 a0_1 a0_2 l0_3))))) = some r := h
  clear h
  replace H := Option.bind_eq_some_iff.mp H
  obtain ⟨t169, A30, H⟩ := H
  replace H : (if (l0_3.length : Int) > 1000 then (reedpipelaw21_TnsbitsNone.j0 k l1 t169 true a0_0 a0_1 a0_2 l0_3) else ((reedpiperef21_Great.f k l1).bind fun t170 => (if t170 = true then (reedpipelaw21_TnsbitsNone.j0 k l1 t169 true a0_0 a0_1 a0_2 l0_3) else (reedpipelaw21_TnsbitsNone.j0 k l1 t169 (!t169) a0_0 a0_1 a0_2 l0_3)))) = some r := H
  have A3 := Aside0.mk A30
  clear A30
  have HC4 := Aside0.mk H
  clear H
  go_enter Try.func3, Try.ntmps3
  go_upto_region 2 with (first | ((with_reducible refine gate_dst (N := 2) rfl ?_); (try (refine gate_guard (by rfl) ?_; dsimp only)); refine box_event ?hg (N := 2) ?hd (cs := #[.int .u8 a0_0, .int .u8 a0_1, .int .i64 a0_2, .slice A0_3 l0_3.length c0_3]) (t := 24) ?hr ?_; (case hd => rfl); (case hg => rfl); (case hr => first | (go_simp; done) | (go_simp; rfl)); intro gb168 hg w5 hbox hb; have n0_ := Aside0.mk (below_step (by repeat (first | (with_reducible first | exact HB.out | apply below_alloc | apply pw_below_drewN | apply below_drew1) | exact HB.out)) hb); have n1_ := Aside0.mk (hbox); have n2_ := Aside0.mk ((by rw [hg]; exact (below_size (by repeat (first | (with_reducible first | exact HB.out | apply below_alloc | apply pw_below_drewN | apply below_drew1) | exact HB.out))) : w.heap.size ≤ gb168)); have n3_ := Aside0.mk ((by rw [hg]; exact (below_size (by repeat (first | (with_reducible first | exact HB.out | apply below_alloc | apply pw_below_drewN | apply below_drew1) | exact HB.out))) : w.heap.size ≤ gb168)); clear HB; have HB := n0_; have BK168 := n1_; have GW168 := n2_; have GE168 := n3_; clear n0_ n1_ n2_ n3_; clear hb hbox hg) | ((with_reducible refine gate_callee (f := 7) rfl ?_); refine goesL_ (some 15) rfl rfl Try.func7 (by kernel_rfl) rfl #[] rfl (by (try simp only [List.map_toArray, List.map_cons, List.map_nil]); first | done | rfl | (simp only [List.length_drop, List.length_take]; rfl)) ?_; (with_reducible refine (reedpipelaw21_alive.calls  t169 _ A3.out).mono ?_); rintro e w6 ⟨rfl, hb⟩; refine ⟨_, rfl, ?_⟩; have n0_ := Aside0.mk (blk_below (g := gb168) (o := .cells #[.int .u8 a0_0, .int .u8 a0_1, .int .i64 a0_2, .slice A0_3 l0_3.length c0_3] 24 (0, 0)) (by (with_reducible repeat (first | refine blk_drewN ?_ _ | refine blk_drew ?_ | refine blk_alloc ?_ _)); exact BK168.out) hb); have n1_ := Aside0.mk (below_step (by repeat (first | (with_reducible first | exact HB.out | apply below_alloc | apply pw_below_drewN | apply below_drew1 | refine below_set ?_ GE168.out) | exact HB.out)) hb); clear BK168; clear HB; have BK168 := n0_; have HB := n1_; clear n0_ n1_; (try clear hb); (try clear hb2); (try clear hk); (try clear hi)))
  (try simp only [Act.put, List.setIfInBounds_toArray, List.set_cons_zero, List.set_cons_succ])
  go_cut [27] (fun v27 wc => ∃ (kq : Nat) (x27_3 : Bool), v27 = .bool x27_3 ∧ Aside0 (reedpipelaw21_TnsbitsNone.j0 kq l1 t169 x27_3 a0_0 a0_1 a0_2 l0_3 = some r) ∧ Aside0 (kq ≤ k) ∧ Aside0 (wc.heap[gb168]? = some (.cells #[.int .u8 a0_0, .int .u8 a0_1, .int .i64 a0_2, (.slice A0_3 l0_3.length c0_3)] 24 (0, 0))) ∧ Aside0 (Below w.heap.size w wc))
  case first =>
    have H := HC4.out
    clear HC4
    by_cases c7 : (l0_3.length : Int) > 1000
    · rw [if_pos c7] at H
      have c7b0 : decide (1000 < (l0_3.length : Int)) = true := decide_eq_true c7
      have c7b1 : decide (1000 < l0_3.length) = true := decide_eq_true (by omega)
      clear c7
      (first | rw [c7b0] | (simp only [i64_w, i32_w]; rw [c7b0]) | skip)
      have H' := Aside0.mk H
      clear H
      have hcz8_0 : w6.cell? ⟨gb168, 0, none⟩ = some (.int .u8 a0_0) := (blk_cell BK168.out 0).trans rfl
      have hcz8_1 : w6.cell? ⟨gb168, 1, none⟩ = some (.int .u8 a0_1) := (blk_cell BK168.out 1).trans rfl
      have hcz8_2 : w6.cell? ⟨gb168, 2, none⟩ = some (.int .i64 a0_2) := (blk_cell BK168.out 2).trans rfl
      have hcz8_3 : w6.cell? ⟨gb168, 3, none⟩ = some (.slice A0_3 l0_3.length c0_3) := (blk_cell BK168.out 3).trans rfl
      have hfz8_0 := blk_frozen BK168.out 0
      have hfz8_1 := blk_frozen BK168.out 1
      have hfz8_2 := blk_frozen BK168.out 2
      have hfz8_3 := blk_frozen BK168.out 3
      go_wp2
      go_meet
      case rel => exact ⟨_, (true), (by first | rfl | (simp; done) | (simp [*]; done)), H', ⟨by first | omega | exact Nat.le_refl _⟩, ⟨by (with_reducible repeat (first | refine blk_drewN ?_ _ | refine blk_drew ?_ | refine blk_alloc ?_ _)); exact BK168.out⟩, ⟨by repeat (first | (with_reducible first | exact HB.out | apply below_alloc | apply pw_below_drewN | apply below_drew1 | refine below_set ?_ GE168.out) | exact HB.out)⟩⟩
    · rw [if_neg c7] at H
      have c7b0 : decide (1000 < (l0_3.length : Int)) = false := decide_eq_false c7
      have c7b1 : decide (1000 < l0_3.length) = false := decide_eq_false (by omega)
      clear c7
      (first | rw [c7b0] | (simp only [i64_w, i32_w]; rw [c7b0]) | skip)
      replace H := Option.bind_eq_some_iff.mp H
      obtain ⟨t170, A90, H⟩ := H
      replace H : (if t170 = true then (reedpipelaw21_TnsbitsNone.j0 k l1 t169 true a0_0 a0_1 a0_2 l0_3) else (reedpipelaw21_TnsbitsNone.j0 k l1 t169 (!t169) a0_0 a0_1 a0_2 l0_3)) = some r := H
      have A9 := Aside0.mk A90
      clear A90
      by_cases c10 : t170 = true
      · subst c10
        have H1 : (reedpipelaw21_TnsbitsNone.j0 k l1 t169 true a0_0 a0_1 a0_2 l0_3) = some r := by rw [if_pos rfl] at H; exact H
        clear H
        have H := H1
        clear H1
        have H' := Aside0.mk H
        clear H
        have hcz11_0 : w6.cell? ⟨gb168, 0, none⟩ = some (.int .u8 a0_0) := (blk_cell BK168.out 0).trans rfl
        have hcz11_1 : w6.cell? ⟨gb168, 1, none⟩ = some (.int .u8 a0_1) := (blk_cell BK168.out 1).trans rfl
        have hcz11_2 : w6.cell? ⟨gb168, 2, none⟩ = some (.int .i64 a0_2) := (blk_cell BK168.out 2).trans rfl
        have hcz11_3 : w6.cell? ⟨gb168, 3, none⟩ = some (.slice A0_3 l0_3.length c0_3) := (blk_cell BK168.out 3).trans rfl
        have hfz11_0 := blk_frozen BK168.out 0
        have hfz11_1 := blk_frozen BK168.out 1
        have hfz11_2 := blk_frozen BK168.out 2
        have hfz11_3 := blk_frozen BK168.out 3
        go_wp2_with (first | (go_at_call 8; (with_reducible refine (reedpiperef21_Great.calls k _ _ l1 true _ ?side1 ?side2 A9.out).mono ?_); (case side1 => repeat (first | exact (Kd.C_below HR1.out HB.out) | (with_reducible refine Kd.C_alloc ?_ _) | (with_reducible refine Kd.C_drewN ?_ _) | (with_reducible refine Kd.C_drew ?_))); (case side2 => exact HC1.out); rintro e w12 ⟨rfl, hb⟩; have n0_ := Aside0.mk (blk_below (g := gb168) (o := .cells #[.int .u8 a0_0, .int .u8 a0_1, .int .i64 a0_2, .slice A0_3 l0_3.length c0_3] 24 (0, 0)) (by (with_reducible repeat (first | refine blk_drewN ?_ _ | refine blk_drew ?_ | refine blk_alloc ?_ _)); exact BK168.out) hb); have n1_ := Aside0.mk (below_step (by repeat (first | (with_reducible first | exact HB.out | apply below_alloc | apply pw_below_drewN | apply below_drew1 | refine below_set ?_ GE168.out) | exact HB.out)) hb); clear BK168; clear HB; have BK168 := n0_; have HB := n1_; clear n0_ n1_; (try clear hb); (try clear hb2); (try clear hk); (try clear hi)))
        go_meet
        case rel => exact ⟨_, (true), (by first | rfl | (simp; done) | (simp [*]; done)), H', ⟨by first | omega | exact Nat.le_refl _⟩, ⟨by (with_reducible repeat (first | refine blk_drewN ?_ _ | refine blk_drew ?_ | refine blk_alloc ?_ _)); exact BK168.out⟩, ⟨by repeat (first | (with_reducible first | exact HB.out | apply below_alloc | apply pw_below_drewN | apply below_drew1 | refine below_set ?_ GE168.out) | exact HB.out)⟩⟩
      · replace c10 := Bool.eq_false_iff.mpr c10
        subst c10
        have H1 : (reedpipelaw21_TnsbitsNone.j0 k l1 t169 (!t169) a0_0 a0_1 a0_2 l0_3) = some r := by rw [if_neg (show ¬ (false = true) by decide)] at H; exact H
        clear H
        have H := H1
        clear H1
        have H' := Aside0.mk H
        clear H
        have hcz13_0 : w6.cell? ⟨gb168, 0, none⟩ = some (.int .u8 a0_0) := (blk_cell BK168.out 0).trans rfl
        have hcz13_1 : w6.cell? ⟨gb168, 1, none⟩ = some (.int .u8 a0_1) := (blk_cell BK168.out 1).trans rfl
        have hcz13_2 : w6.cell? ⟨gb168, 2, none⟩ = some (.int .i64 a0_2) := (blk_cell BK168.out 2).trans rfl
        have hcz13_3 : w6.cell? ⟨gb168, 3, none⟩ = some (.slice A0_3 l0_3.length c0_3) := (blk_cell BK168.out 3).trans rfl
        have hfz13_0 := blk_frozen BK168.out 0
        have hfz13_1 := blk_frozen BK168.out 1
        have hfz13_2 := blk_frozen BK168.out 2
        have hfz13_3 := blk_frozen BK168.out 3
        go_wp2_with (first | (go_at_call 8; (with_reducible refine (reedpiperef21_Great.calls k _ _ l1 false _ ?side1 ?side2 A9.out).mono ?_); (case side1 => repeat (first | exact (Kd.C_below HR1.out HB.out) | (with_reducible refine Kd.C_alloc ?_ _) | (with_reducible refine Kd.C_drewN ?_ _) | (with_reducible refine Kd.C_drew ?_))); (case side2 => exact HC1.out); rintro e w14 ⟨rfl, hb⟩; have n0_ := Aside0.mk (blk_below (g := gb168) (o := .cells #[.int .u8 a0_0, .int .u8 a0_1, .int .i64 a0_2, .slice A0_3 l0_3.length c0_3] 24 (0, 0)) (by (with_reducible repeat (first | refine blk_drewN ?_ _ | refine blk_drew ?_ | refine blk_alloc ?_ _)); exact BK168.out) hb); have n1_ := Aside0.mk (below_step (by repeat (first | (with_reducible first | exact HB.out | apply below_alloc | apply pw_below_drewN | apply below_drew1 | refine below_set ?_ GE168.out) | exact HB.out)) hb); clear BK168; clear HB; have BK168 := n0_; have HB := n1_; clear n0_ n1_; (try clear hb); (try clear hb2); (try clear hk); (try clear hi)))
        go_meet
        case rel => exact ⟨_, (!t169), (by first | rfl | (simp; done) | (simp [*]; done)), H', ⟨by first | omega | exact Nat.le_refl _⟩, ⟨by (with_reducible repeat (first | refine blk_drewN ?_ _ | refine blk_drew ?_ | refine blk_alloc ?_ _)); exact BK168.out⟩, ⟨by repeat (first | (with_reducible first | exact HB.out | apply below_alloc | apply pw_below_drewN | apply below_drew1 | refine below_set ?_ GE168.out) | exact HB.out)⟩⟩
  case rest =>
    clear HC4
    try clear c1
    try clear p2
    try clear c3
    try clear c7
    try clear c7b0
    try clear c7b1
    try clear c10
    try clear hcz11_0
    try clear hcz11_1
    try clear hcz11_2
    try clear hcz11_3
    try clear hcz13_0
    try clear hcz13_1
    try clear hcz13_2
    try clear hcz13_3
    try clear hcz8_0
    try clear hcz8_1
    try clear hcz8_2
    try clear hcz8_3
    try clear hfz11_0
    try clear hfz11_1
    try clear hfz11_2
    try clear hfz11_3
    try clear hfz13_0
    try clear hfz13_1
    try clear hfz13_2
    try clear hfz13_3
    try clear hfz8_0
    try clear hfz8_1
    try clear hfz8_2
    try clear hfz8_3
    obtain ⟨kq, x27_3, rfl, HA, HJ3, BK168, HB⟩ := hcut
    cases kq with
    | zero => exact absurd HA.out (by simp [reedpipelaw21_TnsbitsNone.j0])
    | succ kj3 =>
      have H := HA.out
      clear HA
      simp only [reedpipelaw21_TnsbitsNone.j0] at H
      by_cases c15 : x27_3 = true
      · subst c15
        have H1 : (some t169) = some r := by rw [if_pos rfl] at H; exact H
        clear H
        have H := H1
        clear H1
        obtain rfl := Option.some.inj H
        go_wp2
        go_ret
        exact ⟨by first | rfl | (simp [errW_none, errW_some] <;> rfl) | (simp [*, errW_none, errW_some] <;> rfl), by repeat (first | (with_reducible first | exact HB.out | apply below_alloc | apply pw_below_drewN | apply below_drew1 | refine below_set ?_ GE168.out) | exact HB.out)⟩
      · replace c15 := Bool.eq_false_iff.mpr c15
        subst c15
        have H1 : ((info_Windows.f kj3 a0_0 a0_1 a0_2 l0_3).bind fun bt171 => (if bt171.2 = 0 then (if a0_0 = 2 then (reedpipelaw21_TnsbitsNone.j1 kj3 l1 bt171.1 1 a0_0 a0_1 a0_2 l0_3) else (reedpipelaw21_TnsbitsNone.j1 kj3 l1 bt171.1 2 a0_0 a0_1 a0_2 l0_3)) else ((tnsbits_Check.f a0_0 a0_1 a0_2 l0_3 l1).bind fun t173 => (some (t173 == bt171.2))))) = some r := by rw [if_neg (show ¬ (false = true) by decide)] at H; exact H
        clear H
        have H := H1
        clear H1
        replace H := Option.bind_eq_some_iff.mp H
        obtain ⟨⟨t171, t172⟩, A160, H⟩ := H
        replace H : (if t172 = 0 then (if a0_0 = 2 then (reedpipelaw21_TnsbitsNone.j1 kj3 l1 t171 1 a0_0 a0_1 a0_2 l0_3) else (reedpipelaw21_TnsbitsNone.j1 kj3 l1 t171 2 a0_0 a0_1 a0_2 l0_3)) else ((tnsbits_Check.f a0_0 a0_1 a0_2 l0_3 l1).bind fun t173 => (some (t173 == t172)))) = some r := H
        have A16 := Aside0.mk A160
        clear A160
        by_cases c17 : t172 = 0
        · rw [if_pos c17] at H
          have c17b0 : (t172 == 0) = true := beq_iff_eq.mpr c17
          have c17b1 : (t172 != 0) = false := bne_eq_false_iff_eq.mpr c17
          clear c17
          have HC18 := Aside0.mk H
          clear H
          have hcz19_0 : wc.cell? ⟨gb168, 0, none⟩ = some (.int .u8 a0_0) := (blk_cell BK168.out 0).trans rfl
          have hcz19_1 : wc.cell? ⟨gb168, 1, none⟩ = some (.int .u8 a0_1) := (blk_cell BK168.out 1).trans rfl
          have hcz19_2 : wc.cell? ⟨gb168, 2, none⟩ = some (.int .i64 a0_2) := (blk_cell BK168.out 2).trans rfl
          have hcz19_3 : wc.cell? ⟨gb168, 3, none⟩ = some (.slice A0_3 l0_3.length c0_3) := (blk_cell BK168.out 3).trans rfl
          have hfz19_0 := blk_frozen BK168.out 0
          have hfz19_1 := blk_frozen BK168.out 1
          have hfz19_2 := blk_frozen BK168.out 2
          have hfz19_3 := blk_frozen BK168.out 3
          go_upto_if 43 with (first | ((with_reducible refine gate_callee (f := 9) rfl ?_); refine goesL_ (some 31) rfl rfl Try.func9 (by kernel_rfl) rfl #[.agg #[.int .u8 a0_0, .int .u8 a0_1, .int .i64 a0_2, .slice A0_3 l0_3.length c0_3]] rfl (by (try simp only [List.map_toArray, List.map_cons, List.map_nil]); first | done | rfl | (simp only [List.length_drop, List.length_take]; rfl)) ?_; (with_reducible refine (info_Windows.calls kj3 a0_0 a0_1 a0_2 _ _ l0_3 t171 t172 _ ?side1 ?side2 A16.out).mono ?_); (case side1 => repeat (first | exact (Kd.C_below HR0_3.out HB.out) | (with_reducible refine Kd.C_alloc ?_ _) | (with_reducible refine Kd.C_drewN ?_ _) | (with_reducible refine Kd.C_drew ?_))); (case side2 => exact HC0_3.out); rintro e w20 ⟨rfl, hb⟩; refine ⟨_, rfl, ?_⟩; have n0_ := Aside0.mk (blk_below (g := gb168) (o := .cells #[.int .u8 a0_0, .int .u8 a0_1, .int .i64 a0_2, .slice A0_3 l0_3.length c0_3] 24 (0, 0)) (by (with_reducible repeat (first | refine blk_drewN ?_ _ | refine blk_drew ?_ | refine blk_alloc ?_ _)); exact BK168.out) hb); have n1_ := Aside0.mk (below_step (by repeat (first | (with_reducible first | exact HB.out | apply below_alloc | apply pw_below_drewN | apply below_drew1 | refine below_set ?_ GE168.out) | exact HB.out)) hb); clear BK168; clear HB; have BK168 := n0_; have HB := n1_; clear n0_ n1_; (try clear hb); (try clear hb2); (try clear hk); (try clear hi); have hcz21_0 : w20.cell? ⟨gb168, 0, none⟩ = some (.int .u8 a0_0) := (blk_cell BK168.out 0).trans rfl; have hcz21_1 : w20.cell? ⟨gb168, 1, none⟩ = some (.int .u8 a0_1) := (blk_cell BK168.out 1).trans rfl; have hcz21_2 : w20.cell? ⟨gb168, 2, none⟩ = some (.int .i64 a0_2) := (blk_cell BK168.out 2).trans rfl; have hcz21_3 : w20.cell? ⟨gb168, 3, none⟩ = some (.slice A0_3 l0_3.length c0_3) := (blk_cell BK168.out 3).trans rfl; have hfz21_0 := blk_frozen BK168.out 0; have hfz21_1 := blk_frozen BK168.out 1; have hfz21_2 := blk_frozen BK168.out 2; have hfz21_3 := blk_frozen BK168.out 3))
          (try simp only [Act.put, List.setIfInBounds_toArray, List.set_cons_zero, List.set_cons_succ])
          go_cut [8] (fun v8 wc => ∃ (kq : Nat) (x8_17 : Int), v8 = .int .i64 x8_17 ∧ Aside0 (reedpipelaw21_TnsbitsNone.j1 kq l1 t171 x8_17 a0_0 a0_1 a0_2 l0_3 = some r) ∧ Aside0 (kq ≤ kj3) ∧ Aside0 (wc.heap[gb168]? = some (.cells #[.int .u8 a0_0, .int .u8 a0_1, .int .i64 a0_2, (.slice A0_3 l0_3.length c0_3)] 24 (0, 0))) ∧ Aside0 (Below w.heap.size w wc))
          case first =>
            have H := HC18.out
            clear HC18
            by_cases c22 : a0_0 = 2
            · rw [if_pos c22] at H
              have c22b0 : (a0_0 == 2) = true := beq_iff_eq.mpr c22
              have c22b1 : (a0_0 != 2) = false := bne_eq_false_iff_eq.mpr c22
              clear c22
              (first | rw [c22b0] | (simp only [i64_w, i32_w]; rw [c22b0]) | skip)
              have H' := Aside0.mk H
              clear H
              go_wp2
              go_meet
              case rel => exact ⟨_, (1), (by first | rfl | (simp; done) | (simp [*]; done)), H', ⟨by have := HJ3.out; first | omega | exact Nat.le_refl _⟩, ⟨by (with_reducible repeat (first | refine blk_drewN ?_ _ | refine blk_drew ?_ | refine blk_alloc ?_ _)); exact BK168.out⟩, ⟨by repeat (first | (with_reducible first | exact HB.out | apply below_alloc | apply pw_below_drewN | apply below_drew1 | refine below_set ?_ GE168.out) | exact HB.out)⟩⟩
            · rw [if_neg c22] at H
              have c22b0 : (a0_0 == 2) = false := beq_eq_false_iff_ne.mpr c22
              have c22b1 : (a0_0 != 2) = true := bne_iff_ne.mpr c22
              (first | rw [c22b0] | (simp only [i64_w, i32_w]; rw [c22b0]) | skip)
              have H' := Aside0.mk H
              clear H
              go_wp2
              go_meet
              case rel => exact ⟨_, (2), (by first | rfl | (simp; done) | (simp [*]; done)), H', ⟨by have := HJ3.out; first | omega | exact Nat.le_refl _⟩, ⟨by (with_reducible repeat (first | refine blk_drewN ?_ _ | refine blk_drew ?_ | refine blk_alloc ?_ _)); exact BK168.out⟩, ⟨by repeat (first | (with_reducible first | exact HB.out | apply below_alloc | apply pw_below_drewN | apply below_drew1 | refine below_set ?_ GE168.out) | exact HB.out)⟩⟩
          case rest =>
            clear HC18
            try clear c1
            try clear c2
            try clear p2
            try clear c3
            try clear c7
            try clear c7b0
            try clear c7b1
            try clear c9
            try clear c10
            try clear c15
            try clear c17
            try clear c17b0
            try clear c17b1
            try clear c22
            try clear c22b0
            try clear c22b1
            try clear hcz11_0
            try clear hcz11_1
            try clear hcz11_2
            try clear hcz11_3
            try clear hcz13_0
            try clear hcz13_1
            try clear hcz13_2
            try clear hcz13_3
            try clear hcz19_0
            try clear hcz19_1
            try clear hcz19_2
            try clear hcz19_3
            try clear hcz21_0
            try clear hcz21_1
            try clear hcz21_2
            try clear hcz21_3
            try clear hcz8_0
            try clear hcz8_1
            try clear hcz8_2
            try clear hcz8_3
            try clear hfz11_0
            try clear hfz11_1
            try clear hfz11_2
            try clear hfz11_3
            try clear hfz13_0
            try clear hfz13_1
            try clear hfz13_2
            try clear hfz13_3
            try clear hfz19_0
            try clear hfz19_1
            try clear hfz19_2
            try clear hfz19_3
            try clear hfz21_0
            try clear hfz21_1
            try clear hfz21_2
            try clear hfz21_3
            try clear hfz8_0
            try clear hfz8_1
            try clear hfz8_2
            try clear hfz8_3
            try clear p2
            obtain ⟨kq, x8_17, rfl, HA, HJ17, BK168, HB⟩ := hcut
            cases kq with
            | zero => exact absurd HA.out (by simp [reedpipelaw21_TnsbitsNone.j1])
            | succ kj17 =>
              have H := HA.out
              clear HA
              simp only [reedpipelaw21_TnsbitsNone.j1] at H
              by_cases c23 : 0 ≤ t171
              · rw [if_pos c23] at H
                have c23b0 := eq_true c23
                have c23b1 : decide (0 ≤ t171) = true := decide_eq_true c23
                clear c23
                by_cases c24 : (t171 : Int).toNat ≤ 11728124029610
                · rw [if_pos c24] at H
                  have c24b0 := eq_true c24
                  have c24b1 : decide ((t171 : Int).toNat ≤ 11728124029610) = true := decide_eq_true c24
                  clear c24
                  obtain ⟨y174, hy174⟩ : ∃ y_ : List (List (S38)), y_ = (List.replicate (t171 : Int).toNat []) := ⟨_, rfl⟩
                  replace H : ((tnsbits_Put.f ([] : List Int) a0_0 a0_1 a0_2 l0_3 y174).bind fun bt177 => (if bt177.2 = 0 then (reedpipelaw21_TnsbitsNone.j2 kj17 l1 bt177.1 ((bt177.1.length : Int) != (wrap64 (x8_17 * t171))) a0_0 a0_1 a0_2 l0_3) else (reedpipelaw21_TnsbitsNone.j2 kj17 l1 bt177.1 true a0_0 a0_1 a0_2 l0_3))) = some r := by first | (rw [hy174]; with_reducible exact H) | (have H2_ := (Option.bind_some _ _).symm.trans H; rw [hy174]; with_reducible exact H2_) | (have H2_ := (Option.bind_some _ _).symm.trans H; with_reducible exact H2_) | with_reducible exact H | (rw [hy174]; exact H) | exact H
                  have Ny174 := Aside0.mk hy174
                  clear hy174
                  replace H := Option.bind_eq_some_iff.mp H
                  obtain ⟨⟨t177, t180⟩, A250, H⟩ := H
                  replace H : (if t180 = 0 then (reedpipelaw21_TnsbitsNone.j2 kj17 l1 t177 ((t177.length : Int) != (wrap64 (x8_17 * t171))) a0_0 a0_1 a0_2 l0_3) else (reedpipelaw21_TnsbitsNone.j2 kj17 l1 t177 true a0_0 a0_1 a0_2 l0_3)) = some r := H
                  have A25 := Aside0.mk A250
                  clear A250
                  have HC26 := Aside0.mk H
                  clear H
                  try go_wp2
                  have n0_ := Aside0.mk (blk_drew BK168.out)
                  have n1_ := Aside0.mk (below_drew1 HB.out)
                  clear BK168
                  clear HB
                  have BK168 := n0_
                  have HB := n1_
                  clear n0_ n1_
                  refine start_ (n := 9) (S := fun w' => w'.cell? ⟨gb168, 0, none⟩ = some (.int .u8 a0_0) ∧ w'.cell? ⟨gb168, 1, none⟩ = some (.int .u8 a0_1) ∧ w'.cell? ⟨gb168, 2, none⟩ = some (.int .i64 a0_2) ∧ w'.cell? ⟨gb168, 3, none⟩ = some (.slice A0_3 l0_3.length c0_3)) (ds := []) #[false, false, false, false, false, false, false, false, false] (by kernel_rfl) rfl rfl ⟨(blk_cell BK168.out 0).trans rfl, (blk_cell BK168.out 1).trans rfl, (blk_cell BK168.out 2).trans rfl, (blk_cell BK168.out 3).trans rfl⟩ (fun hHeld => ?_); refine with_tabW reedpipelaw21_TnsbitsNone.tab10 reedpipelaw21_TnsbitsNone.bits10 (fun HT_ HW_ => ?_)
                  generalize wc.drew = w27 at BK168 HB hHeld ⊢
                  refine pure_ (i := 1) (N := some 46) (v := ?_) (a' := ?_) #[false, true, false, false, false, false, false, false, false] rfl rfl (any_of HT_.out (by kernel_rfl)) (fun _ _ _ h => h) (Or.inl ⟨by rfl, ?_⟩) ?_ ?_
                  rotate_left
                  · intro w'
                    go_simp
                    with_reducible rfl
                  rotate_left
                  · simp only [Act.put, List.setIfInBounds_toArray, List.set_cons_zero, List.set_cons_succ, i64_w, i32_w]
                    rfl
                  refine take_ (i := 0) (N := some 45) (v := ?_) (a' := ?_) #[true, true, false, false, false, false, false, false, false] rfl rfl (take_ofW HT_.out HW_.out (by kernel_rfl)) (fun _ _ _ h => h) (Or.inl ⟨by rfl, ?_⟩) hHeld ?_ ?_
                  rotate_left
                  · rintro w' ⟨s0, s1, s2, s3⟩
                    go_simp
                    with_reducible rfl
                  rotate_left
                  · simp only [Act.put, List.setIfInBounds_toArray, List.set_cons_zero, List.set_cons_succ, i64_w, i32_w]
                    rfl
                  refine one_ (i := 2) (N := some 47) #[true, true, true, false, false, false, false, false, false] rfl rfl (one_of HT_.out (by kernel_rfl)) (by decide) (fun K hK => ?_)
                  refine Kd.R_make_step (Kd.slice 38 k38) _ 35 (by rfl) (N := 47) rfl 25 _ _ rfl t171 rfl rfl Try.underlying25 (.slice none 0 0) 24 info35 rfl (by decide) (by omega) [] (ok := fun _ => True) (okp := fun _ => True) ⟨_, rfl, Kd.R_nil _ _ _ _ _⟩ (fun _ hk => hk) trivial (of_decide_eq_true (by first | (with_reducible assumption) | assumption)) (Nat.le_trans (Nat.mul_le_mul_right _ (of_decide_eq_true (by first | (with_reducible assumption) | assumption) : t171.toNat ≤ 11728124029610)) (by omega)) (Below.refl _ _) (Nat.le_refl _) ?_
                  intro v175 w28 ho29 hb hg_ hnew_
                  clear hg_ hnew_
                  (first | rw [← Ny174.out] at ho29 | (simp only [Int.reduceToNat] at ho29; rw [← Ny174.out] at ho29))
                  have n0_ := Aside0.mk (Kd.R_lower ho29 (below_size (by repeat (first | (with_reducible first | exact HB.out | apply below_alloc | apply pw_below_drewN | apply below_drew1 | refine below_set ?_ GE168.out) | exact HB.out))))
                  have n1_ := Aside0.mk (blk_below (g := gb168) (o := .cells #[.int .u8 a0_0, .int .u8 a0_1, .int .i64 a0_2, .slice A0_3 l0_3.length c0_3] 24 (0, 0)) (by (with_reducible repeat (first | refine blk_drewN ?_ _ | refine blk_drew ?_ | refine blk_alloc ?_ _)); exact BK168.out) hb)
                  have n2_ := Aside0.mk (below_step (by repeat (first | (with_reducible first | exact HB.out | apply below_alloc | apply pw_below_drewN | apply below_drew1 | refine below_set ?_ GE168.out) | exact HB.out)) hb)
                  clear BK168
                  clear HB
                  have HO176 := n0_
                  have BK168 := n1_
                  have HB := n2_
                  clear n0_ n1_ n2_
                  clear hb ho29
                  obtain ⟨Ao30, co30, eo30⟩ := Kd.R_slice HO176.out
                  (first | subst eo30 | (injection eo30 with f1_ f2_ f3_; have f4_ := f1_.symm; have f5_ := f3_.symm; clear f1_ f2_ f3_; subst f4_; subst f5_))
                  refine hK.out _ _ ⟨(blk_cell BK168.out 0).trans rfl, (blk_cell BK168.out 1).trans rfl, (blk_cell BK168.out 2).trans rfl, (blk_cell BK168.out 3).trans rfl⟩ (fun hHeld => ?_)
                  clear hK K
                  refine norm_ (a' := ?_) ?_ ?_
                  rotate_left
                  · show Act.put _ (some 47) _ = _
                    simp only [Act.put, List.setIfInBounds_toArray, List.set_cons_zero, List.set_cons_succ, i64_w, i32_w]
                    rfl
                  refine one_ (i := 3) (N := some 48) #[true, true, true, true, false, false, false, false, false] rfl rfl (one_of HT_.out (by kernel_rfl)) (by decide) (fun K hK => ?_)
                  refine goes_ Try.func11 (by kernel_rfl) rfl #[.slice none 0 0, .agg #[.int .u8 a0_0, .int .u8 a0_1, .int .i64 a0_2, .slice A0_3 l0_3.length c0_3], .slice Ao30 y174.length co30] (by rfl) rfl rfl (by (try simp only [List.map_toArray, List.map_cons, List.map_nil]); first | done | rfl | (simp only [List.length_drop, List.length_take]; rfl)) ?_
                  refine (tnsbits_Put.calls _ _ ([] : List Int) a0_0 a0_1 a0_2 _ _ l0_3 _ _ y174 t177 t180 _ ?side1 ?side2 ?side3 ?side4 ?side5 ?side6 A25.out).mono ?_
                  (case side1 => exact Kd.C_nil _ _)
                  (case side2 => exact Nat.le_refl _)
                  (case side3 => repeat (first | exact (Kd.C_below HR0_3.out HB.out) | (with_reducible refine Kd.C_alloc ?_ _) | (with_reducible refine Kd.C_drewN ?_ _) | (with_reducible refine Kd.C_drew ?_)))
                  (case side4 => exact HC0_3.out)
                  (case side5 => repeat (first | exact (Kd.R_reads' HO176.out).2.2 | (with_reducible refine Kd.C_alloc ?_ _) | (with_reducible refine Kd.C_drewN ?_ _) | (with_reducible refine Kd.C_drew ?_)))
                  (case side6 => exact (Kd.R_reads' HO176.out).2.1)
                  rintro e w31 ⟨v178, rfl, ho0, hb⟩
                  refine ⟨_, rfl, ?_⟩
                  have n0_ := Aside0.mk (Kd.R_below (by (with_reducible repeat (first | apply Kd.R_alloc | apply Kd.R_drewN | apply Kd.R_drew)); exact HO176.out) hb)
                  have n1_ := Aside0.mk (Kd.R_lower ho0 (below_size (by repeat (first | (with_reducible first | exact HB.out | apply below_alloc | apply pw_below_drewN | apply below_drew1 | refine below_set ?_ GE168.out) | exact HB.out))))
                  have n2_ := Aside0.mk (blk_below (g := gb168) (o := .cells #[.int .u8 a0_0, .int .u8 a0_1, .int .i64 a0_2, .slice A0_3 l0_3.length c0_3] 24 (0, 0)) (by (with_reducible repeat (first | refine blk_drewN ?_ _ | refine blk_drew ?_ | refine blk_alloc ?_ _)); exact BK168.out) hb)
                  have n3_ := Aside0.mk (below_step (by repeat (first | (with_reducible first | exact HB.out | apply below_alloc | apply pw_below_drewN | apply below_drew1 | refine below_set ?_ GE168.out) | exact HB.out)) hb)
                  clear HO176
                  clear BK168
                  clear HB
                  have HO176 := n0_
                  have HO179 := n1_
                  have BK168 := n2_
                  have HB := n3_
                  clear n0_ n1_ n2_ n3_
                  (try clear hb)
                  (try clear hb2)
                  (try clear hk)
                  (try clear hi)
                  (try clear ho0)
                  refine hK.out _ _ ⟨(blk_cell BK168.out 0).trans rfl, (blk_cell BK168.out 1).trans rfl, (blk_cell BK168.out 2).trans rfl, (blk_cell BK168.out 3).trans rfl⟩ (fun hHeld => ?_)
                  clear hK K
                  refine norm_ (a' := ?_) ?_ ?_
                  rotate_left
                  · show Act.put _ (some 48) _ = _
                    simp only [Act.put, List.setIfInBounds_toArray, List.set_cons_zero, List.set_cons_succ, i64_w, i32_w]
                    rfl
                  refine pure_ (i := 4) (N := some 44) (v := ?_) (a' := ?_) #[true, true, true, true, true, false, false, false, false] rfl rfl (any_of HT_.out (by kernel_rfl)) (fun _ _ _ h => h) (Or.inl ⟨by rfl, ?_⟩) ?_ ?_
                  rotate_left
                  · intro w'
                    go_simp
                    with_reducible rfl
                  rotate_left
                  · simp only [Act.put, List.setIfInBounds_toArray, List.set_cons_zero, List.set_cons_succ, i64_w, i32_w]
                    rfl
                  refine pure_ (i := 5) (N := some 49) (v := ?_) (a' := ?_) #[true, true, true, true, true, true, false, false, false] rfl rfl (any_of HT_.out (by kernel_rfl)) (fun _ _ _ h => h) (Or.inl ⟨by rfl, ?_⟩) ?_ ?_
                  rotate_left
                  · intro w'
                    go_simp
                    with_reducible rfl
                  rotate_left
                  · simp only [Act.put, List.setIfInBounds_toArray, List.set_cons_zero, List.set_cons_succ, i64_w, i32_w]
                    rfl
                  refine pure_ (i := 6) (N := some 50) (v := ?_) (a' := ?_) #[true, true, true, true, true, true, true, false, false] rfl rfl (any_of HT_.out (by kernel_rfl)) (fun _ _ _ h => h) (Or.inl ⟨by rfl, ?_⟩) ?_ ?_
                  rotate_left
                  · intro w'
                    go_simp
                    with_reducible rfl
                  rotate_left
                  · simp only [Act.put, List.setIfInBounds_toArray, List.set_cons_zero, List.set_cons_succ, i64_w, i32_w]
                    rfl
                  refine pure_ (i := 7) (N := some 9) (v := ?_) (a' := ?_) #[true, true, true, true, true, true, true, true, false] rfl rfl (any_of HT_.out (by kernel_rfl)) (fun _ _ _ h => h) (Or.inl ⟨by rfl, ?_⟩) ?_ ?_
                  rotate_left
                  · intro w'
                    go_simp
                    with_reducible rfl
                  rotate_left
                  · simp only [Act.put, List.setIfInBounds_toArray, List.set_cons_zero, List.set_cons_succ, i64_w, i32_w]
                    rfl
                  refine pure_ (i := 8) (N := some 10) (v := ?_) (a' := ?_) #[true, true, true, true, true, true, true, true, true] rfl rfl (any_of HT_.out (by kernel_rfl)) (fun _ _ _ h => h) (Or.inl ⟨by rfl, ?_⟩) ?_ ?_
                  rotate_left
                  · intro w'
                    go_simp
                    with_reducible rfl
                  rotate_left
                  · simp only [Act.put, List.setIfInBounds_toArray, List.set_cons_zero, List.set_cons_succ, i64_w, i32_w]
                    rfl
                  refine done_ (done_of HT_.out (by kernel_rfl)) ?_
                  go_upto_region 11 with (fail)
                  go_cut [60] (fun v60 wc => ∃ (kq : Nat) (x60_25 : Bool), v60 = .bool x60_25 ∧ Aside0 (reedpipelaw21_TnsbitsNone.j2 kq l1 t177 x60_25 a0_0 a0_1 a0_2 l0_3 = some r) ∧ Aside0 (kq ≤ kj17) ∧ Aside0 (Kd.R (Kd.int .u8) 5 wc w.heap.size (fun _ => True) v178 t177) ∧ Aside0 (wc.heap[gb168]? = some (.cells #[.int .u8 a0_0, .int .u8 a0_1, .int .i64 a0_2, (.slice A0_3 l0_3.length c0_3)] 24 (0, 0))) ∧ Aside0 (Below w.heap.size w wc))
                  case first =>
                    have H := HC26.out
                    clear HC26
                    by_cases c32 : t180 = 0
                    · rw [if_pos c32] at H
                      have c32b0 : (t180 == 0) = true := beq_iff_eq.mpr c32
                      have c32b1 : (t180 != 0) = false := bne_eq_false_iff_eq.mpr c32
                      clear c32
                      (first | rw [c32b0] | (simp only [i64_w, i32_w]; rw [c32b0]) | skip)
                      have H' := Aside0.mk H
                      clear H
                      obtain ⟨Ao33, co33, eo33⟩ := Kd.R_slice HO179.out
                      subst eo33
                      go_wp2
                      go_meet
                      case rel => exact ⟨_, (((t177.length : Int) != (wrap64 (x8_17 * t171)))), (by first | rfl | (simp; done) | (simp [*]; done)), H', ⟨by have := HJ3.out; have := HJ17.out; first | omega | exact Nat.le_refl _⟩, ⟨by (with_reducible repeat (first | apply Kd.R_alloc | apply Kd.R_drewN | apply Kd.R_drew)); exact HO179.out⟩, ⟨by (with_reducible repeat (first | refine blk_drewN ?_ _ | refine blk_drew ?_ | refine blk_alloc ?_ _)); exact BK168.out⟩, ⟨by repeat (first | (with_reducible first | exact HB.out | apply below_alloc | apply pw_below_drewN | apply below_drew1 | refine below_set ?_ GE168.out) | exact HB.out)⟩⟩
                    · rw [if_neg c32] at H
                      have c32b0 : (t180 == 0) = false := beq_eq_false_iff_ne.mpr c32
                      have c32b1 : (t180 != 0) = true := bne_iff_ne.mpr c32
                      (first | rw [c32b0] | (simp only [i64_w, i32_w]; rw [c32b0]) | skip)
                      have H' := Aside0.mk H
                      clear H
                      go_wp2
                      go_meet
                      case rel => exact ⟨_, (true), (by first | rfl | (simp; done) | (simp [*]; done)), H', ⟨by have := HJ3.out; have := HJ17.out; first | omega | exact Nat.le_refl _⟩, ⟨by (with_reducible repeat (first | apply Kd.R_alloc | apply Kd.R_drewN | apply Kd.R_drew)); exact HO179.out⟩, ⟨by (with_reducible repeat (first | refine blk_drewN ?_ _ | refine blk_drew ?_ | refine blk_alloc ?_ _)); exact BK168.out⟩, ⟨by repeat (first | (with_reducible first | exact HB.out | apply below_alloc | apply pw_below_drewN | apply below_drew1 | refine below_set ?_ GE168.out) | exact HB.out)⟩⟩
                  case rest =>
                    clear HC26
                    try clear c1
                    try clear c2
                    try clear p2
                    try clear c3
                    try clear p6
                    try clear c7
                    try clear c7b0
                    try clear c7b1
                    try clear c9
                    try clear c10
                    try clear c11
                    try clear c15
                    try clear c17
                    try clear c17b0
                    try clear c17b1
                    try clear c22
                    try clear c22b0
                    try clear c22b1
                    try clear c23
                    try clear c23b0
                    try clear c23b1
                    try clear c24
                    try clear c24b0
                    try clear c24b1
                    try clear c32
                    try clear c32b0
                    try clear c32b1
                    try clear hcz11_0
                    try clear hcz11_1
                    try clear hcz11_2
                    try clear hcz11_3
                    try clear hcz13_0
                    try clear hcz13_1
                    try clear hcz13_2
                    try clear hcz13_3
                    try clear hcz19_0
                    try clear hcz19_1
                    try clear hcz19_2
                    try clear hcz19_3
                    try clear hcz21_0
                    try clear hcz21_1
                    try clear hcz21_2
                    try clear hcz21_3
                    try clear hcz8_0
                    try clear hcz8_1
                    try clear hcz8_2
                    try clear hcz8_3
                    try clear hfz11_0
                    try clear hfz11_1
                    try clear hfz11_2
                    try clear hfz11_3
                    try clear hfz13_0
                    try clear hfz13_1
                    try clear hfz13_2
                    try clear hfz13_3
                    try clear hfz19_0
                    try clear hfz19_1
                    try clear hfz19_2
                    try clear hfz19_3
                    try clear hfz21_0
                    try clear hfz21_1
                    try clear hfz21_2
                    try clear hfz21_3
                    try clear hfz8_0
                    try clear hfz8_1
                    try clear hfz8_2
                    try clear hfz8_3
                    try clear p2
                    obtain ⟨kq, x60_25, rfl, HA, HJ25, HO_9, BK168, HB⟩ := hcut
                    cases kq with
                    | zero => exact absurd HA.out (by simp [reedpipelaw21_TnsbitsNone.j2])
                    | succ kj25 =>
                      have H := HA.out
                      clear HA
                      simp only [reedpipelaw21_TnsbitsNone.j2] at H
                      by_cases c34 : x60_25 = true
                      · subst c34
                        have H1 : (some false) = some r := by rw [if_pos rfl] at H; exact H
                        clear H
                        have H := H1
                        clear H1
                        obtain rfl := Option.some.inj H
                        go_wp2
                        go_ret
                        exact ⟨by first | rfl | (simp [errW_none, errW_some] <;> rfl) | (simp [*, errW_none, errW_some] <;> rfl), by repeat (first | (with_reducible first | exact HB.out | apply below_alloc | apply pw_below_drewN | apply below_drew1 | refine below_set ?_ GE168.out) | exact HB.out)⟩
                      · replace c34 := Bool.eq_false_iff.mpr c34
                        subst c34
                        have H1 : (reedpipelaw21_TnsbitsNone.l0 kj25 l1 t177 0 0 a0_0 a0_1 a0_2 l0_3) = some r := by rw [if_neg (show ¬ (false = true) by decide)] at H; exact H
                        clear H
                        have H := H1
                        clear H1
                        have H' := Aside0.mk H
                        clear H
                        go_wp2
                        go_loopg [11, 12] kj25 (fun kq v11 v12 w' => ∃ (x11_4 : Int) (x12_4 : Int), v11 = .int .i64 x11_4 ∧ v12 = .int .i64 x12_4 ∧ Aside0 (reedpipelaw21_TnsbitsNone.l0 kq l1 t177 x11_4 x12_4 a0_0 a0_1 a0_2 l0_3 = some r) ∧ Aside0 (kq ≤ kj25) ∧ Aside0 (Kd.R (Kd.int .u8) 5 w' w.heap.size (fun _ => True) v178 t177) ∧ Aside0 (w'.heap[gb168]? = some (.cells #[.int .u8 a0_0, .int .u8 a0_1, .int .i64 a0_2, (.slice A0_3 l0_3.length c0_3)] 24 (0, 0))) ∧ Aside0 (Below w.heap.size w w'))
                        case atStart => exact ⟨(0), (0), (by first | rfl | (simp; done) | (simp [*]; done)), (by first | rfl | (simp; done) | (simp [*]; done)), H', ⟨Nat.le_refl _⟩, ⟨by (with_reducible repeat (first | apply Kd.R_alloc | apply Kd.R_drewN | apply Kd.R_drew)); exact HO_9.out⟩, ⟨by (with_reducible repeat (first | refine blk_drewN ?_ _ | refine blk_drew ?_ | refine blk_alloc ?_ _)); exact BK168.out⟩, ⟨by repeat (first | (with_reducible first | exact HB.out | apply below_alloc | apply pw_below_drewN | apply below_drew1 | refine below_set ?_ GE168.out) | exact HB.out)⟩⟩
                        case round =>
                          clear H'
                          try clear c1
                          try clear c2
                          try clear p2
                          try clear c3
                          try clear p6
                          try clear c7
                          try clear c7b0
                          try clear c7b1
                          try clear c9
                          try clear c10
                          try clear c11
                          try clear c15
                          try clear c17
                          try clear c17b0
                          try clear c17b1
                          try clear c22
                          try clear c22b0
                          try clear c22b1
                          try clear c23
                          try clear c23b0
                          try clear c23b1
                          try clear c24
                          try clear c24b0
                          try clear c24b1
                          try clear c32
                          try clear c32b0
                          try clear c32b1
                          try clear c34
                          try clear hcz11_0
                          try clear hcz11_1
                          try clear hcz11_2
                          try clear hcz11_3
                          try clear hcz13_0
                          try clear hcz13_1
                          try clear hcz13_2
                          try clear hcz13_3
                          try clear hcz19_0
                          try clear hcz19_1
                          try clear hcz19_2
                          try clear hcz19_3
                          try clear hcz21_0
                          try clear hcz21_1
                          try clear hcz21_2
                          try clear hcz21_3
                          try clear hcz8_0
                          try clear hcz8_1
                          try clear hcz8_2
                          try clear hcz8_3
                          try clear hfz11_0
                          try clear hfz11_1
                          try clear hfz11_2
                          try clear hfz11_3
                          try clear hfz13_0
                          try clear hfz13_1
                          try clear hfz13_2
                          try clear hfz13_3
                          try clear hfz19_0
                          try clear hfz19_1
                          try clear hfz19_2
                          try clear hfz19_3
                          try clear hfz21_0
                          try clear hfz21_1
                          try clear hfz21_2
                          try clear hfz21_3
                          try clear hfz8_0
                          try clear hfz8_1
                          try clear hfz8_2
                          try clear hfz8_3
                          try clear p2
                          try clear p6
                          obtain ⟨x11_4, x12_4, rfl, rfl, HA, HK4, HO_9, BK168, HB⟩ := hrel
                          cases gk with
                          | zero => exact absurd HA.out (by simp [reedpipelaw21_TnsbitsNone.l0])
                          | succ k4 =>
                            have H := HA.out
                            clear HA
                            simp only [reedpipelaw21_TnsbitsNone.l0] at H
                            by_cases c35 : x12_4 < (l1.length : Int)
                            · rw [if_pos c35] at H
                              have c35b0 : decide (x12_4 < (l1.length : Int)) = true := decide_eq_true c35
                              clear c35
                              by_cases c36 : 0 ≤ x12_4
                              · rw [if_pos c36] at H
                                have c36b0 : decide (0 ≤ x12_4) = true := decide_eq_true c36
                                clear c36
                                have H' := Aside0.mk H
                                clear H
                                have p181 : 0 ≤ (x12_4 : Int) := of_decide_eq_true (by first | (with_reducible assumption) | assumption)
                                have q181 : x12_4 < (l1.length : Int) := of_decide_eq_true (by first | (with_reducible assumption) | assumption)
                                obtain ⟨ad181, A181_0, c181_0, e181, hx181_0, hl181_0, hi181_0⟩ := at_L7 HR1.out x12_4 p181 q181
                                cases e181
                                replace hx181_0 := (HB.out.cell (World.block_lt_of_cell? w _ hx181_0)).trans hx181_0
                                have HR181_0 := Aside0.mk hi181_0
                                have HC181_0 := Aside0.mk hl181_0
                                clear hi181_0 hl181_0
                                replace p181 := eq_true p181
                                replace q181 := eq_true q181
                                go_wp2
                                go_roundg k4
                                case measure => have := HJ3.out; have := HJ17.out; have := HJ25.out; have := HK4.out; omega
                                case rel => exact ⟨(wrap64 (x11_4 + ((rd_L7 l1 x12_4).length : Int))), (wrap64 (x12_4 + 1)), (by first | rfl | (simp; done) | (simp [*]; done)), (by first | rfl | (simp; done) | (simp [*]; done)), H', ⟨by have := HJ3.out; have := HJ17.out; have := HJ25.out; have := HK4.out; omega⟩, ⟨by (with_reducible repeat (first | apply Kd.R_alloc | apply Kd.R_drewN | apply Kd.R_drew)); exact HO_9.out⟩, ⟨by (with_reducible repeat (first | refine blk_drewN ?_ _ | refine blk_drew ?_ | refine blk_alloc ?_ _)); exact BK168.out⟩, ⟨by repeat (first | (with_reducible first | exact HB.out | apply below_alloc | apply pw_below_drewN | apply below_drew1 | refine below_set ?_ GE168.out) | exact HB.out)⟩⟩
                              · rw [if_neg c36] at H
                                exact absurd H (by simp)
                            · rw [if_neg c35] at H
                              have c35b0 : decide (x12_4 < (l1.length : Int)) = false := decide_eq_false c35
                              clear c35
                              replace H := Option.bind_eq_some_iff.mp H
                              obtain ⟨⟨t182, t185⟩, A370, H⟩ := H
                              replace H : (if t185 = 0 then (some (decide ((t182.length : Int) ≥ (wrap64 ((t177.length : Int) + (wrap64 (7 * x11_4))))))) else (some true)) = some r := H
                              have A37 := Aside0.mk A370
                              clear A370
                              by_cases c38 : t185 = 0
                              · rw [if_pos c38] at H
                                have c38b0 : (t185 == 0) = true := beq_iff_eq.mpr c38
                                have c38b1 : (t185 != 0) = false := bne_eq_false_iff_eq.mpr c38
                                clear c38
                                obtain rfl := Option.some.inj H
                                have hcz39_0 : wr.cell? ⟨gb168, 0, none⟩ = some (.int .u8 a0_0) := (blk_cell BK168.out 0).trans rfl
                                have hcz39_1 : wr.cell? ⟨gb168, 1, none⟩ = some (.int .u8 a0_1) := (blk_cell BK168.out 1).trans rfl
                                have hcz39_2 : wr.cell? ⟨gb168, 2, none⟩ = some (.int .i64 a0_2) := (blk_cell BK168.out 2).trans rfl
                                have hcz39_3 : wr.cell? ⟨gb168, 3, none⟩ = some (.slice A0_3 l0_3.length c0_3) := (blk_cell BK168.out 3).trans rfl
                                have hfz39_0 := blk_frozen BK168.out 0
                                have hfz39_1 := blk_frozen BK168.out 1
                                have hfz39_2 := blk_frozen BK168.out 2
                                have hfz39_3 := blk_frozen BK168.out 3
                                go_wp2_with (first | ((with_reducible refine gate_callee (f := 11) rfl ?_); refine goesL_ (some 77) rfl rfl Try.func11 (by kernel_rfl) rfl #[.slice none 0 0, .agg #[.int .u8 a0_0, .int .u8 a0_1, .int .i64 a0_2, .slice A0_3 l0_3.length c0_3], .slice A1 l1.length c1] rfl (by (try simp only [List.map_toArray, List.map_cons, List.map_nil]); first | done | rfl | (simp only [List.length_drop, List.length_take]; rfl)) ?_; (refine (tnsbits_Put.calls _ _ ([] : List Int) a0_0 a0_1 a0_2 _ _ l0_3 _ _ l1 t182 t185 _ ?side1 ?side2 ?side3 ?side4 ?side5 ?side6 A37.out).mono ?_); (case side1 => exact Kd.C_nil _ _); (case side2 => exact Nat.le_refl _); (case side3 => repeat (first | exact (Kd.C_below HR0_3.out HB.out) | (with_reducible refine Kd.C_alloc ?_ _) | (with_reducible refine Kd.C_drewN ?_ _) | (with_reducible refine Kd.C_drew ?_))); (case side4 => exact HC0_3.out); (case side5 => repeat (first | exact (Kd.C_below HR1.out HB.out) | (with_reducible refine Kd.C_alloc ?_ _) | (with_reducible refine Kd.C_drewN ?_ _) | (with_reducible refine Kd.C_drew ?_))); (case side6 => exact HC1.out); rintro e w40 ⟨v183, rfl, ho0, hb⟩; refine ⟨_, rfl, ?_⟩; have n0_ := Aside0.mk (Kd.R_elder' (by (with_reducible repeat (first | apply Kd.R_alloc | apply Kd.R_drewN | apply Kd.R_drew)); exact HO_9.out) (Kd.R_base ho0) hb); have n1_ := Aside0.mk (Kd.R_lower (Kd.R_new' ho0 (Kd.R_lt (by (with_reducible repeat (first | apply Kd.R_alloc | apply Kd.R_drewN | apply Kd.R_drew)); exact HO_9.out))) (below_size (by repeat (first | (with_reducible first | exact HB.out | apply below_alloc | apply pw_below_drewN | apply below_drew1 | refine below_set ?_ GE168.out) | exact HB.out)))); have n2_ := Aside0.mk (blk_below (g := gb168) (o := .cells #[.int .u8 a0_0, .int .u8 a0_1, .int .i64 a0_2, .slice A0_3 l0_3.length c0_3] 24 (0, 0)) (by (with_reducible repeat (first | refine blk_drewN ?_ _ | refine blk_drew ?_ | refine blk_alloc ?_ _)); exact BK168.out) hb); have n3_ := Aside0.mk (below_step (by repeat (first | (with_reducible first | exact HB.out | apply below_alloc | apply pw_below_drewN | apply below_drew1 | refine below_set ?_ GE168.out) | exact HB.out)) hb); clear HO_9; clear BK168; clear HB; have HO_9 := n0_; have HO184 := n1_; have BK168 := n2_; have HB := n3_; clear n0_ n1_ n2_ n3_; (try clear hb); (try clear hb2); (try clear hk); (try clear hi); (try clear ho0); obtain ⟨Ao41, co41, eo41⟩ := Kd.R_slice HO184.out; subst eo41; obtain ⟨Ao42, co42, eo42⟩ := Kd.R_slice HO_9.out; subst eo42))
                                go_ret
                                exact ⟨by first | rfl | (simp [errW_none, errW_some] <;> rfl) | (simp [*, errW_none, errW_some] <;> rfl), by repeat (first | (with_reducible first | exact HB.out | apply below_alloc | apply pw_below_drewN | apply below_drew1 | refine below_set ?_ GE168.out) | exact HB.out)⟩
                              · rw [if_neg c38] at H
                                have c38b0 : (t185 == 0) = false := beq_eq_false_iff_ne.mpr c38
                                have c38b1 : (t185 != 0) = true := bne_iff_ne.mpr c38
                                obtain rfl := Option.some.inj H
                                have hcz43_0 : wr.cell? ⟨gb168, 0, none⟩ = some (.int .u8 a0_0) := (blk_cell BK168.out 0).trans rfl
                                have hcz43_1 : wr.cell? ⟨gb168, 1, none⟩ = some (.int .u8 a0_1) := (blk_cell BK168.out 1).trans rfl
                                have hcz43_2 : wr.cell? ⟨gb168, 2, none⟩ = some (.int .i64 a0_2) := (blk_cell BK168.out 2).trans rfl
                                have hcz43_3 : wr.cell? ⟨gb168, 3, none⟩ = some (.slice A0_3 l0_3.length c0_3) := (blk_cell BK168.out 3).trans rfl
                                have hfz43_0 := blk_frozen BK168.out 0
                                have hfz43_1 := blk_frozen BK168.out 1
                                have hfz43_2 := blk_frozen BK168.out 2
                                have hfz43_3 := blk_frozen BK168.out 3
                                go_wp2_with (first | ((with_reducible refine gate_callee (f := 11) rfl ?_); refine goesL_ (some 77) rfl rfl Try.func11 (by kernel_rfl) rfl #[.slice none 0 0, .agg #[.int .u8 a0_0, .int .u8 a0_1, .int .i64 a0_2, .slice A0_3 l0_3.length c0_3], .slice A1 l1.length c1] rfl (by (try simp only [List.map_toArray, List.map_cons, List.map_nil]); first | done | rfl | (simp only [List.length_drop, List.length_take]; rfl)) ?_; (refine (tnsbits_Put.calls _ _ ([] : List Int) a0_0 a0_1 a0_2 _ _ l0_3 _ _ l1 t182 t185 _ ?side1 ?side2 ?side3 ?side4 ?side5 ?side6 A37.out).mono ?_); (case side1 => exact Kd.C_nil _ _); (case side2 => exact Nat.le_refl _); (case side3 => repeat (first | exact (Kd.C_below HR0_3.out HB.out) | (with_reducible refine Kd.C_alloc ?_ _) | (with_reducible refine Kd.C_drewN ?_ _) | (with_reducible refine Kd.C_drew ?_))); (case side4 => exact HC0_3.out); (case side5 => repeat (first | exact (Kd.C_below HR1.out HB.out) | (with_reducible refine Kd.C_alloc ?_ _) | (with_reducible refine Kd.C_drewN ?_ _) | (with_reducible refine Kd.C_drew ?_))); (case side6 => exact HC1.out); rintro e w44 ⟨v183, rfl, ho0, hb⟩; refine ⟨_, rfl, ?_⟩; have n0_ := Aside0.mk (Kd.R_elder' (by (with_reducible repeat (first | apply Kd.R_alloc | apply Kd.R_drewN | apply Kd.R_drew)); exact HO_9.out) (Kd.R_base ho0) hb); have n1_ := Aside0.mk (Kd.R_lower (Kd.R_new' ho0 (Kd.R_lt (by (with_reducible repeat (first | apply Kd.R_alloc | apply Kd.R_drewN | apply Kd.R_drew)); exact HO_9.out))) (below_size (by repeat (first | (with_reducible first | exact HB.out | apply below_alloc | apply pw_below_drewN | apply below_drew1 | refine below_set ?_ GE168.out) | exact HB.out)))); have n2_ := Aside0.mk (blk_below (g := gb168) (o := .cells #[.int .u8 a0_0, .int .u8 a0_1, .int .i64 a0_2, .slice A0_3 l0_3.length c0_3] 24 (0, 0)) (by (with_reducible repeat (first | refine blk_drewN ?_ _ | refine blk_drew ?_ | refine blk_alloc ?_ _)); exact BK168.out) hb); have n3_ := Aside0.mk (below_step (by repeat (first | (with_reducible first | exact HB.out | apply below_alloc | apply pw_below_drewN | apply below_drew1 | refine below_set ?_ GE168.out) | exact HB.out)) hb); clear HO_9; clear BK168; clear HB; have HO_9 := n0_; have HO184 := n1_; have BK168 := n2_; have HB := n3_; clear n0_ n1_ n2_ n3_; (try clear hb); (try clear hb2); (try clear hk); (try clear hi); (try clear ho0)))
                                go_ret
                                exact ⟨by first | rfl | (simp [errW_none, errW_some] <;> rfl) | (simp [*, errW_none, errW_some] <;> rfl), by repeat (first | (with_reducible first | exact HB.out | apply below_alloc | apply pw_below_drewN | apply below_drew1 | refine below_set ?_ GE168.out) | exact HB.out)⟩
                · rw [if_neg c24] at H
                  exact absurd H (by simp)
              · rw [if_neg c23] at H
                exact absurd H (by simp)
        · rw [if_neg c17] at H
          have c17b0 : (t172 == 0) = false := beq_eq_false_iff_ne.mpr c17
          have c17b1 : (t172 != 0) = true := bne_iff_ne.mpr c17
          replace H := Option.bind_eq_some_iff.mp H
          obtain ⟨t173, A450, H⟩ := H
          replace H : (some (t173 == t172)) = some r := H
          have A45 := Aside0.mk A450
          clear A450
          obtain rfl := Option.some.inj H
          have hcz46_0 : wc.cell? ⟨gb168, 0, none⟩ = some (.int .u8 a0_0) := (blk_cell BK168.out 0).trans rfl
          have hcz46_1 : wc.cell? ⟨gb168, 1, none⟩ = some (.int .u8 a0_1) := (blk_cell BK168.out 1).trans rfl
          have hcz46_2 : wc.cell? ⟨gb168, 2, none⟩ = some (.int .i64 a0_2) := (blk_cell BK168.out 2).trans rfl
          have hcz46_3 : wc.cell? ⟨gb168, 3, none⟩ = some (.slice A0_3 l0_3.length c0_3) := (blk_cell BK168.out 3).trans rfl
          have hfz46_0 := blk_frozen BK168.out 0
          have hfz46_1 := blk_frozen BK168.out 1
          have hfz46_2 := blk_frozen BK168.out 2
          have hfz46_3 := blk_frozen BK168.out 3
          go_wp2_with (first | ((with_reducible refine gate_callee (f := 9) rfl ?_); refine goesL_ (some 31) rfl rfl Try.func9 (by kernel_rfl) rfl #[.agg #[.int .u8 a0_0, .int .u8 a0_1, .int .i64 a0_2, .slice A0_3 l0_3.length c0_3]] rfl (by (try simp only [List.map_toArray, List.map_cons, List.map_nil]); first | done | rfl | (simp only [List.length_drop, List.length_take]; rfl)) ?_; (with_reducible refine (info_Windows.calls kj3 a0_0 a0_1 a0_2 _ _ l0_3 t171 t172 _ ?side1 ?side2 A16.out).mono ?_); (case side1 => repeat (first | exact (Kd.C_below HR0_3.out HB.out) | (with_reducible refine Kd.C_alloc ?_ _) | (with_reducible refine Kd.C_drewN ?_ _) | (with_reducible refine Kd.C_drew ?_))); (case side2 => exact HC0_3.out); rintro e w47 ⟨rfl, hb⟩; refine ⟨_, rfl, ?_⟩; have n0_ := Aside0.mk (blk_below (g := gb168) (o := .cells #[.int .u8 a0_0, .int .u8 a0_1, .int .i64 a0_2, .slice A0_3 l0_3.length c0_3] 24 (0, 0)) (by (with_reducible repeat (first | refine blk_drewN ?_ _ | refine blk_drew ?_ | refine blk_alloc ?_ _)); exact BK168.out) hb); have n1_ := Aside0.mk (below_step (by repeat (first | (with_reducible first | exact HB.out | apply below_alloc | apply pw_below_drewN | apply below_drew1 | refine below_set ?_ GE168.out) | exact HB.out)) hb); clear BK168; clear HB; have BK168 := n0_; have HB := n1_; clear n0_ n1_; (try clear hb); (try clear hb2); (try clear hk); (try clear hi); have hcz48_0 : w47.cell? ⟨gb168, 0, none⟩ = some (.int .u8 a0_0) := (blk_cell BK168.out 0).trans rfl; have hcz48_1 : w47.cell? ⟨gb168, 1, none⟩ = some (.int .u8 a0_1) := (blk_cell BK168.out 1).trans rfl; have hcz48_2 : w47.cell? ⟨gb168, 2, none⟩ = some (.int .i64 a0_2) := (blk_cell BK168.out 2).trans rfl; have hcz48_3 : w47.cell? ⟨gb168, 3, none⟩ = some (.slice A0_3 l0_3.length c0_3) := (blk_cell BK168.out 3).trans rfl; have hfz48_0 := blk_frozen BK168.out 0; have hfz48_1 := blk_frozen BK168.out 1; have hfz48_2 := blk_frozen BK168.out 2; have hfz48_3 := blk_frozen BK168.out 3) | ((with_reducible refine gate_callee (f := 10) rfl ?_); refine goesL_ (some 38) rfl rfl Try.func10 (by kernel_rfl) rfl #[.agg #[.int .u8 a0_0, .int .u8 a0_1, .int .i64 a0_2, .slice A0_3 l0_3.length c0_3], .slice A1 l1.length c1] rfl (by (try simp only [List.map_toArray, List.map_cons, List.map_nil]); first | done | rfl | (simp only [List.length_drop, List.length_take]; rfl)) ?_; (with_reducible refine (tnsbits_Check.calls a0_0 a0_1 a0_2 _ _ l0_3 _ _ l1 t173 _ ?side1 ?side2 ?side3 ?side4 A45.out).mono ?_); (case side1 => repeat (first | exact (Kd.C_below HR0_3.out HB.out) | (with_reducible refine Kd.C_alloc ?_ _) | (with_reducible refine Kd.C_drewN ?_ _) | (with_reducible refine Kd.C_drew ?_))); (case side2 => exact HC0_3.out); (case side3 => repeat (first | exact (Kd.C_below HR1.out HB.out) | (with_reducible refine Kd.C_alloc ?_ _) | (with_reducible refine Kd.C_drewN ?_ _) | (with_reducible refine Kd.C_drew ?_))); (case side4 => exact HC1.out); rintro e w49 ⟨rfl, hb⟩; refine ⟨_, rfl, ?_⟩; have n0_ := Aside0.mk (blk_below (g := gb168) (o := .cells #[.int .u8 a0_0, .int .u8 a0_1, .int .i64 a0_2, .slice A0_3 l0_3.length c0_3] 24 (0, 0)) (by (with_reducible repeat (first | refine blk_drewN ?_ _ | refine blk_drew ?_ | refine blk_alloc ?_ _)); exact BK168.out) hb); have n1_ := Aside0.mk (below_step (by repeat (first | (with_reducible first | exact HB.out | apply below_alloc | apply pw_below_drewN | apply below_drew1 | refine below_set ?_ GE168.out) | exact HB.out)) hb); clear BK168; clear HB; have BK168 := n0_; have HB := n1_; clear n0_ n1_; (try clear hb); (try clear hb2); (try clear hk); (try clear hi)))
          go_ret
          exact ⟨by first | rfl | (simp [errW_none, errW_some] <;> rfl) | (simp [*, errW_none, errW_some] <;> rfl), by repeat (first | (with_reducible first | exact HB.out | apply below_alloc | apply pw_below_drewN | apply below_drew1 | refine below_set ?_ GE168.out) | exact HB.out)⟩

end Go.Proofs.Ytdhcgfdnhlhapaa.K
end
section
/- Filters as bits: what the printed functions of the laws tell, without rounds: greatness, lengths of bits. -/
namespace Go.Proofs.Ytdhcgfdnhlhapaa.HS
open Go.RowKit Go.Proofs.YtdhcgfdnhlhapaaW.PrintWords Go.Proofs.YtdhcgfdnhlhapaaW.PrintLast Go.Proofs.YtdhcgfdnhlhapaaW.PrintMore Go.Proofs.Ytdhcgfdnhlhapaa.HA Go.Proofs.Ytdhcgfdnhlhapaa.HP Go.Proofs.Ytdhcgfdnhlhapaa.K
set_option linter.unusedVariables false

theorem great_l3 (l : List (List Filt)) (i : Nat) (hi : i < l.length) (hb : i ≤ 100000) (hw : l[i].length ≤ 20) (K0 : Nat) (P : Prop) (hcont : ∀ k, K0 < k → ∃ r, reedpiperef18_Great.l2 k (wrap64 ((i : Int) + 1)) 0 0 0 0 [] [] [] l [] = some r ∧ (r = false → P)) :
    ∀ (d k j : Nat), l[i].length - j = d → j ≤ l[i].length → K0 + d + 1 < k → ∃ r, reedpiperef18_Great.l3 k (i : Int) (j : Int) 0 0 0 0 [] [] [] l [] = some r ∧ (r = false → P) := by
  intro d
  induction d with
  | zero =>
    intro k j hd hj hk
    obtain ⟨k, rfl⟩ : ∃ m, k = m + 1 := ⟨k - 1, by omega⟩
    simp only [reedpiperef18_Great.l3]
    rw [if_pos (by omega), if_pos (by omega), rdL_at l i hi, if_neg (by omega)]
    exact hcont k (by omega)
  | succ d ih =>
    intro k j hd hj hk
    obtain ⟨k, rfl⟩ : ∃ m, k = m + 1 := ⟨k - 1, by omega⟩
    simp only [reedpiperef18_Great.l3]
    rw [if_pos (by omega), if_pos (by omega), rdL_at l i hi, if_pos (by omega), if_pos (by omega)]
    by_cases h : (((rd_T38 l[i] (j : Int)).f4).length : Int) > 100
    · rw [if_pos h]
      exact ⟨true, rfl, fun h => by cases h⟩
    · rw [if_neg h, wrap_succ j (by omega)]
      exact ih k (j + 1) (by omega) (by omega) (by omega)
theorem great_l2 (l : List (List Filt)) (hl : l.length ≤ 40) : ∀ (d k i : Nat), l.length - i = d → i ≤ l.length → 23 * d + 2 < k →
    ∃ r, reedpiperef18_Great.l2 k (i : Int) 0 0 0 0 [] [] [] l [] = some r ∧ (r = false → ∀ j, i ≤ j → ∀ h : j < l.length, (l[j]'h).length ≤ 20) := by
  intro d
  induction d with
  | zero =>
    intro k i hd hi hk
    obtain ⟨k, rfl⟩ : ∃ m, k = m + 1 := ⟨k - 1, by omega⟩
    simp only [reedpiperef18_Great.l2]
    rw [if_neg (by omega)]
    exact ⟨false, rfl, fun _ j hj h => by omega⟩
  | succ d ih =>
    intro k i hd hi hk
    obtain ⟨k, rfl⟩ : ∃ m, k = m + 1 := ⟨k - 1, by omega⟩
    have hlt : i < l.length := by omega
    simp only [reedpiperef18_Great.l2]
    rw [if_pos (by omega), if_pos (by omega), rdL_at l i hlt]
    by_cases h : ((l[i].length : Nat) : Int) > 20
    · rw [if_pos h]
      exact ⟨true, rfl, fun h => by cases h⟩
    · rw [if_neg h]
      have hk2 : l[i].length ≤ 20 := by omega
      have h0 := great_l3 l i hlt (by omega) hk2 (23 * d + 2) (∀ j, i ≤ j → ∀ h : j < l.length, (l[j]'h).length ≤ 20) (fun k hk => by
        rw [wrap_succ i (by omega)]
        obtain ⟨r, h1, h2⟩ := ih k (i + 1) (by omega) (by omega) (by omega)
        refine ⟨r, h1, fun h3 j hj hj2 => ?_⟩
        rcases Nat.lt_or_ge i j with h4 | h4
        · exact h2 h3 j h4 hj2
        · obtain rfl : j = i := by omega
          exact hk2) l[i].length k 0 (by omega) (by omega) (by omega)
      exact h0
theorem great_f (l : List (List Filt)) (k : Nat) (hk : 1000 ≤ k) : ∃ r, reedpiperef21_Great.f k l = some r ∧ (r = false → l.length ≤ 40 ∧ ∀ w ∈ l, w.length ≤ 20) := by
  unfold reedpiperef21_Great.f reedpiperef18_Great.f
  obtain ⟨k, rfl⟩ : ∃ m, k = m + 3 := ⟨k - 3, by omega⟩
  rw [if_neg (by simp), if_neg (by simp), if_neg (by simp)]
  by_cases h : (l.length : Int) > 40
  · rw [if_pos h]
    simp only [reedpiperef18_Great.j0, if_true]
    exact ⟨true, rfl, fun h => by cases h⟩
  · rw [if_neg h]
    have h40 : l.length ≤ 40 := by omega
    obtain ⟨r, h1, h2⟩ := great_l2 l h40 l.length k 0 (by omega) (by omega) (by omega)
    refine ⟨r, ?_, fun h3 => ⟨h40, fun w hw => ?_⟩⟩
    · simp only [reedpiperef18_Great.j0, reedpiperef18_Great.l0, reedpiperef18_Great.l1]
      simp only [List.length_nil]
      rw [if_neg (by simp), if_neg (by simp), if_neg (by simp)]
      rw [show ((0 : Nat) : Int) = 0 from rfl] at h1
      rw [h1]
      rfl
    · obtain ⟨j, hj, rfl⟩ := List.getElem_of_mem hw
      exact h2 h3 j (by omega) hj
/-! ### how many bits -/
theorem flat_ge {α : Type} (f : α → List Int) (m : Nat) : ∀ (l : List α), (∀ x ∈ l, m ≤ (f x).length) → m * l.length ≤ (l.flatMap f).length
  | [], _ => by simp
  | x :: r, h => by
    have h1 := h x List.mem_cons_self
    have h2 := flat_ge f m r (fun y hy => h y (List.mem_cons_of_mem _ hy))
    rw [List.flatMap_cons, List.length_append, List.length_cons, Nat.mul_succ]
    omega
theorem filtBits_ge (s : Int) (f : Filt) : 7 ≤ (filtBits s f).length := by
  unfold filtBits lenF ordF
  rw [List.length_append, List.length_append, bitsM_length, bitsM_length]
  split <;> simp <;> omega
theorem winBits_ge (s : Int) (w : List Filt) : (numF s).toNat + 7 * w.length ≤ (winBits s w).length := by
  have := flat_ge (filtBits s) 7 w (fun f _ => filtBits_ge s f)
  unfold winBits
  rw [List.length_append, List.length_append, bitsM_length]
  omega
def manyL : List (List Filt) → Nat
  | [] => 0
  | w :: r => w.length + manyL r
theorem tnsBits_ge (s : Int) : ∀ l : List (List Filt), (numF s).toNat * l.length + 7 * manyL l ≤ (tnsBits s l).length
  | [] => by simp [manyL]
  | w :: r => by
    have h1 := winBits_ge s w
    have h2 := tnsBits_ge s r
    unfold tnsBits at h2 ⊢
    rw [List.flatMap_cons, List.length_append, List.length_cons, manyL, Nat.mul_succ]
    omega
theorem manyL_le (l : List (List Filt)) (h : ∀ w ∈ l, w.length ≤ 20) : manyL l ≤ 20 * l.length := by
  induction l with
  | nil => simp [manyL]
  | cons w r ih =>
    have h1 := h w List.mem_cons_self
    have h2 := ih (fun x hx => h x (List.mem_cons_of_mem _ hx))
    rw [manyL, List.length_cons]
    omega
theorem winBits_nil (s : Int) : (winBits s []).length = (numF s).toNat := by
  unfold winBits fineBits
  simp [bitsM_length]
theorem tnsBits_none (s : Int) : ∀ n : Nat, (tnsBits s (List.replicate n [])).length = (numF s).toNat * n
  | 0 => by simp [tnsBits]
  | n + 1 => by
    have := tnsBits_none s n
    unfold tnsBits at this ⊢
    rw [List.replicate_succ, List.flatMap_cons, List.length_append, winBits_nil, this, Nat.mul_succ]
    omega
theorem winOk_nil (s : Int) : winOk s [] = true := by
  have := mostF_rng s
  unfold winOk
  simp
  omega
theorem tnsOk_none {s sh m : Int} {gs : List Int} (h : SP.someS s sh m gs = true) : tnsOk s sh m gs (List.replicate (manyF s).toNat []) = true := by
  unfold tnsOk
  rw [h]
  have h2 : (((List.replicate (manyF s).toNat ([] : List Filt)).length : Nat) : Int) = manyF s := by
    rw [List.length_replicate]
    unfold manyF
    split <;> decide
  rw [beq_iff_eq.2 h2, List.all_eq_true.2]
  · rfl
  · intro w hw
    rw [List.eq_of_mem_replicate hw]
    exact winOk_nil s
/-! ### what the printed words for Check and Put are -/
theorem check_f (s sh m : Int) (gs : List Int) (l : List (List Filt)) (hg : gs.length ≤ 17592186044416) : tnsbits_Check.f s sh m gs l = some (if tnsOk s sh m gs l = true then 0 else 8) := by
  unfold tnsbits_Check.f
  rw [if_pos hg]
theorem put_f (xs : List Int) (s sh m : Int) (gs : List Int) (l : List (List Filt)) (hx : xs.length ≤ 1000000) (hg : gs.length ≤ 17592186044416) : tnsbits_Put.f xs s sh m gs l = some (if tnsOk s sh m gs l = true then (xs ++ tnsBits s l, 0) else ([], 8)) := by
  unfold tnsbits_Put.f
  rw [if_pos ⟨hx, hg⟩]
end Go.Proofs.Ytdhcgfdnhlhapaa.HS
end
section
/- The law TnsbitsNone of the chapter on filters as bits: windows without filters take so many bits each; each filter takes at least so many more; for every input. -/
namespace Go.Proofs.Ytdhcgfdnhlhapaa.Wk
open Go.RowKit Go.Proofs.Ytdhcgfdnhlhapaa.K Go.Proofs.Ytdhcgfdnhlhapaa.HS Go.Proofs.Ytdhcgfdnhlhapaa.HP Go.Proofs.YtdhcgfdnhlhapaaW.PrintWords Go.Proofs.YtdhcgfdnhlhapaaW.PrintLast Go.Proofs.YtdhcgfdnhlhapaaW.PrintMore
set_option linter.unusedVariables false

theorem none_alive : reedpipelaw21_alive.f = some true := by decide +kernel
theorem none_l0 (l : List (List Filt)) (hl : l.length ≤ 40) (hw : ∀ w ∈ l, w.length ≤ 20) (s sh m : Int) (gs : List Int) (hg : gs.length ≤ 1000) (none : List Int) (hn : none.length = (numF s).toNat * (manyF s).toNat) :
    ∀ (d k i : Nat) (x : Int), l.length - i = d → i ≤ l.length → d < k → 0 ≤ x → x + manyL (l.drop i) = manyL l →
    reedpipelaw21_TnsbitsNone.l0 k l none x (i : Int) s sh m gs = some true := by
  have hmany := manyL_le l hw
  have hnr := numF_rng s
  intro d
  induction d with
  | zero =>
    intro k i x hd hi hk h0 h2
    obtain ⟨k, rfl⟩ : ∃ m, k = m + 1 := ⟨k - 1, by omega⟩
    simp only [reedpipelaw21_TnsbitsNone.l0]
    rw [if_neg (by omega), put_f [] s sh m gs l (by simp) (by omega)]
    rw [List.drop_of_length_le (by omega)] at h2
    simp only [manyL] at h2
    by_cases hok : tnsOk s sh m gs l = true
    · rw [if_pos hok]
      simp only [Option.bind_some, if_true, List.nil_append]
      obtain ⟨_, h3, _⟩ := tnsOk_ok hok
      have h4 := tnsBits_ge s l
      have h5 : l.length = (manyF s).toNat := by omega
      have h6 : none.length ≤ 80 := by
        rw [hn, ← h5]
        have := Nat.mul_le_mul_right l.length (show (numF s).toNat ≤ 2 by omega)
        omega
      rw [wrap_id (7 * x) (by omega) (by omega), wrap_id _ (by omega) (by omega), decide_eq_true]
      rw [h5] at h4
      omega
    · rw [if_neg hok]
      rfl
  | succ d ih =>
    intro k i x hd hi hk h0 h2
    obtain ⟨k, rfl⟩ : ∃ m, k = m + 1 := ⟨k - 1, by omega⟩
    have hlt : i < l.length := by omega
    have h3 := hw _ (List.getElem_mem hlt)
    rw [List.drop_eq_getElem_cons hlt] at h2
    simp only [manyL] at h2
    simp only [reedpipelaw21_TnsbitsNone.l0]
    rw [if_pos (by omega), if_pos (by omega), wrap_succ i (by omega), rdL_at l i hlt, wrap_id _ (by omega) (by omega)]
    exact ih k (i + 1) _ (by omega) (by omega) (by omega) (by omega) (by omega)
theorem none_true (s sh m : Int) (gs : List Int) (l : List (List Filt)) : reedpipelaw21_TnsbitsNone.f 3000 s sh m gs l = some true := by
  unfold reedpipelaw21_TnsbitsNone.f
  rw [none_alive]
  simp only [Option.bind_some]
  have stop : reedpipelaw21_TnsbitsNone.j0 3000 l true true s sh m gs = some true := by
    simp only [reedpipelaw21_TnsbitsNone.j0, if_true]
  by_cases h1 : (gs.length : Int) > 1000
  · rw [if_pos h1]; exact stop
  · rw [if_neg h1]
    obtain ⟨r, hr, hsmall⟩ := great_f l 3000 (by omega)
    rw [hr]
    simp only [Option.bind_some]
    by_cases h2 : r = true
    · rw [if_pos h2]; exact stop
    · rw [if_neg h2]
      obtain ⟨hl, hwl⟩ := hsmall (by simpa using h2)
      simp only [reedpipelaw21_TnsbitsNone.j0, Bool.not_true, Bool.false_eq_true, if_false]
      rw [SP.windows_f s sh m gs (by omega) 2999 (by omega), check_f s sh m gs l (by omega)]
      unfold SP.windowsS
      by_cases hs : SP.someS s sh m gs = true
      · rw [if_pos hs]
        simp only [Option.bind_some, if_true]
        have hm8 : (if s = 2 then (8 : Int) else 1) = manyF s := rfl
        rw [hm8]
        have hmr : 1 ≤ manyF s ∧ manyF s ≤ 8 := by unfold manyF; split <;> decide
        have hnr := numF_rng s
        have hbits := tnsBits_none s (manyF s).toNat
        have key : ∀ x8 : Int, x8 = numF s → reedpipelaw21_TnsbitsNone.j1 2999 l (manyF s) x8 s sh m gs = some true := by
          intro x8 hx8
          simp only [reedpipelaw21_TnsbitsNone.j1]
          rw [if_pos (by omega), if_pos (by omega), put_f [] s sh m gs _ (by simp) (by omega), if_pos (tnsOk_none hs)]
          simp only [Option.bind_some, if_true, List.nil_append, reedpipelaw21_TnsbitsNone.j2]
          have hprod : numF s * manyF s = (((numF s).toNat * (manyF s).toNat : Nat) : Int) := by
            rw [Int.natCast_mul, Int.toNat_of_nonneg (by omega), Int.toNat_of_nonneg (by omega)]
          have hle : (numF s).toNat * (manyF s).toNat ≤ 2 * 8 := Nat.mul_le_mul (by omega) (by omega)
          have hw : wrap64 (x8 * manyF s) = (((numF s).toNat * (manyF s).toNat : Nat) : Int) := by
            rw [hx8, hprod, wrap_id _ (by omega) (by omega)]
          have hne : (((tnsBits s (List.replicate (manyF s).toNat [])).length : Int) != wrap64 (x8 * manyF s)) = false := by
            rw [hw, hbits]
            simp
          rw [hne]
          simp only [Bool.false_eq_true, if_false]
          exact none_l0 l hl hwl s sh m gs (by omega) _ hbits l.length 2997 0 0 (by omega) (by omega) (by omega) (by omega) (by simp)
        by_cases h8 : s = 2
        · rw [if_pos h8]
          exact key 1 (by unfold numF; rw [if_pos h8])
        · rw [if_neg h8]
          exact key 2 (by unfold numF; rw [if_neg h8])
      · rw [if_neg hs]
        have hno : tnsOk s sh m gs l = false := by unfold tnsOk; rw [Bool.eq_false_iff.2 hs]; rfl
        rw [hno]
        rfl
theorem TnsbitsNone (W : World) (s_0 sh_0 m_0 : Int) (A_0 : Option Addr) (c_0 : Nat) (l_0 : List Int) (A_1 : Option Addr) (c_1 : Nat) (l_1 : List (List Filt))
    (hc_0 : l_0.length ≤ c_0) (hr_0 : Kd.C (Kd.int .i64) W A_0 l_0.length l_0) (ws_0 : 0 ≤ s_0 ∧ s_0 ≤ 255) (wsh_0 : 0 ≤ sh_0 ∧ sh_0 ≤ 255) (wm_0 : -9223372036854775808 ≤ m_0 ∧ m_0 ≤ 9223372036854775807) (wl_0 : ∀ y ∈ l_0, -9223372036854775808 ≤ y ∧ y ≤ 9223372036854775807)
    (hc_1 : l_1.length ≤ c_1) (hr_1 : Kd.C (Kd.slice 38 k38) W A_1 l_1.length l_1) (wl_1 : ∀ g ∈ l_1, ∀ x ∈ g, (-9223372036854775808 ≤ x.f0 ∧ x.f0 ≤ 9223372036854775807) ∧ (-9223372036854775808 ≤ x.f1 ∧ x.f1 ≤ 9223372036854775807) ∧ ∀ y ∈ x.f4, -9223372036854775808 ≤ y ∧ y ≤ 9223372036854775807) :
    Calls Try.prog 3 #[.agg #[.int .u8 s_0, .int .u8 sh_0, .int .i64 m_0, .slice A_0 l_0.length c_0], .slice A_1 l_1.length c_1] W fun e w' => e = .returned (.bool true) ∧ Below W.heap.size W w' := by
  exact reedpipelaw21_TnsbitsNone.calls 3000 s_0 sh_0 m_0 A_0 c_0 l_0 A_1 c_1 l_1 true W hr_0 hc_0 hr_1 hc_1 (none_true s_0 sh_0 m_0 l_0 l_1)
end Go.Proofs.Ytdhcgfdnhlhapaa.Wk
end
section
/- From what a row reads to the kinds of the walks: any type of whole numbers, bools, slices and structs of these. It imports no program. -/
namespace Go.Proofs.Ytdhcgfdnhlhapaa.HR
open Go.RowKit Go.ChangeShapes Go.WideShapes Go.Proofs.YtdhcgfdnhlhapaaW.PrintWords

/-- Whatever reads as data of type t is of kind d. -/
def Opens {α : Type} (P : Program) (t : TypeId) (d : Kd α) (ok : α → Prop) : Prop :=
  ∀ (H : Type) (enc : TypeId × Value → H) (W : World) (fuel : Nat) (cs : List Value) (x : DataW H × List MemPlace), DataW.trod enc P W 0 (fun _ => true) true fuel t cs = some x → ∃ a, ok a ∧ d.K W a cs

theorem Opens.imp {α : Type} {P : Program} {t : TypeId} {d : Kd α} {ok ok' : α → Prop} (h : Opens P t d ok) (hi : ∀ a, ok a → ok' a) : Opens P t d ok' := fun H enc W fuel cs x hx => by
  obtain ⟨a, ha, hK⟩ := h H enc W fuel cs x hx
  exact ⟨a, hi a ha, hK⟩
theorem opens_int {P : Program} {t : TypeId} {k : IntKind} (ht : P.underlying t = some (.int k)) : Opens P t (Kd.int k) (fun n => (Lit.int k n).wf = true) := by
  intro H enc W fuel cs x hx
  obtain ⟨n, rfl, _, hw⟩ := DataW.trod_int ht hx
  exact ⟨n, hw, rfl⟩
theorem opens_bool {P : Program} {t : TypeId} (ht : P.underlying t = some .bool) : Opens P t Kd.bool (fun _ => True) := by
  intro H enc W fuel cs x hx
  obtain ⟨b, rfl, _⟩ := DataW.trod_bool ht hx
  exact ⟨b, trivial, rfl⟩
theorem opens_slice {α : Type} {P : Program} {t e : TypeId} {d : Kd α} {ok : α → Prop} (ht : P.underlying t = some (.slice e)) (hs : P.cellsOf e = d.sz) (h : Opens P e d ok) : Opens P t (Kd.slice e d) (fun xs => ∀ x ∈ xs, ok x) := by
  intro H enc W fuel cs x hx
  rcases Go.Deep.open_slice ht hx with ⟨rfl, _⟩ | ⟨a, len, cap, m, n, D, Pl, rfl, _, hl, hcap, hm, _, hel⟩
  · exact ⟨[], by simp, none, 0, rfl, Nat.le_refl _, rfl, by simp, fun h => absurd h (by simp)⟩
  · have hlm : len ≤ m := by rw [hm]; simp; exact hl
    have key : ∀ k, k ≤ len → ∃ xs : List α, xs.length = k ∧ (∀ x ∈ xs, ok x) ∧ ∀ j p, xs[j]? = some p → ∃ c, c.length = d.sz ∧ d.K W p c ∧ ∀ i u, c[i]? = some u → W.cell? (a.add (j * d.sz + i)) = some u := by
      intro k
      induction k with
      | zero => exact fun _ => ⟨[], rfl, by simp, fun j p hj => by simp at hj⟩
      | succ k ih =>
        intro hk
        obtain ⟨xs, hxl, hxo, hxc⟩ := ih (by omega)
        obtain ⟨cs', hc1, hc2⟩ := hel k (by omega)
        obtain ⟨p, hp, hK⟩ := h H enc W n cs' _ hc2
        refine ⟨xs ++ [p], by simp [hxl], ?_, ?_⟩
        · intro x hx
          rcases List.mem_append.1 hx with hx | hx
          · exact hxo x hx
          · rw [List.mem_singleton.1 hx]; exact hp
        · intro j q hj
          rcases Nat.lt_or_ge j k with hjk | hjk
          · rw [List.getElem?_append_left (by omega)] at hj
            exact hxc j q hj
          · rw [List.getElem?_append_right (by omega)] at hj
            have hj0 : j - xs.length = 0 := by
              rcases Nat.eq_zero_or_pos (j - xs.length) with h0 | h0
              · exact h0
              · rw [List.getElem?_eq_none (by simp; omega)] at hj
                cases hj
            rw [hj0] at hj
            obtain rfl : p = q := by simpa using hj
            obtain rfl : j = k := by omega
            refine ⟨cs', d.K_len hK, hK, fun i u hu => ?_⟩
            obtain ⟨_, hlen, hcells⟩ := World.cells?_some hc1
            obtain ⟨hi, rfl⟩ := List.getElem?_eq_some_iff.1 hu
            have := hcells i (by omega)
            rw [hs, Go.Deep.add_add] at this
            rw [this]
            exact hu
    obtain ⟨xs, hxl, hxo, hxc⟩ := key len (Nat.le_refl _)
    subst hxl
    have hmx : xs.length ≤ 9223372036854775807 := by unfold maxLen at hcap; omega
    exact ⟨xs, hxo, some a, cap, rfl, hl, rfl, hmx, fun _ => ⟨a, rfl, hxc⟩⟩

/-! ### structs, field by field: their types and where their cells begin -/
def OpensFs {α : Type} (P : Program) (fs : List (TypeId × Nat)) (off : Nat) (d : Kd α) (ok : α → Prop) : Prop :=
  ∀ (H : Type) (enc : TypeId × Value → H) (W : World) (n : Nat) (cs : List Value), (∀ f ∈ fs, ∃ x, DataW.trod enc P W 0 (fun _ => true) true n f.1 ((cs.drop f.2).take (P.cellsOf f.1)) = some x) → cs.length = off + d.sz → ∃ a, ok a ∧ d.K W a (cs.drop off)
theorem opensFs_one {α : Type} {P : Program} {t : TypeId} {off : Nat} {d : Kd α} {ok : α → Prop} (hs : P.cellsOf t = d.sz) (h : Opens P t d ok) : OpensFs P [(t, off)] off d ok := by
  intro H enc W n cs hf hl
  obtain ⟨x, hx⟩ := hf (t, off) List.mem_cons_self
  simp only at hx
  rw [hs, List.take_of_length_le (by rw [List.length_drop]; omega)] at hx
  exact h H enc W n _ x hx
theorem opensFs_cons {α β : Type} {P : Program} {t : TypeId} {fs : List (TypeId × Nat)} {off : Nat} (off2 : Nat) {a : Kd α} {b : Kd β} {ok : α → Prop} {okb : β → Prop} (hs : P.cellsOf t = a.sz) (ho2 : off2 = off + a.sz) (h : Opens P t a ok) (hb : OpensFs P fs off2 b okb) :
    OpensFs P ((t, off) :: fs) off (Kd.pair a b) (fun x => ok x.1 ∧ okb x.2) := by
  intro H enc W n cs hf hl
  obtain ⟨x, hx⟩ := hf (t, off) List.mem_cons_self
  simp only at hx
  rw [hs] at hx
  obtain ⟨p, hp, hK⟩ := h H enc W n _ x hx
  have hsz : (Kd.pair a b).sz = a.sz + b.sz := rfl
  obtain ⟨q, hq, hKq⟩ := hb H enc W n cs (fun g hg => hf g (List.mem_cons_of_mem _ hg)) (by rw [hl, hsz, ho2]; omega)
  refine ⟨(p, q), ⟨hp, hq⟩, (cs.drop off).take a.sz, cs.drop off2, ?_, hK, hKq⟩
  rw [ho2, ← List.drop_drop, List.take_append_drop]
theorem opens_struct {α : Type} {P : Program} {t : TypeId} {fs : Array Field} {l : List (TypeId × Nat)} {d : Kd α} {ok : α → Prop} (ht : P.underlying t = some (.struct fs)) (hfs : fs.toList.map (fun f => (f.type, f.offset)) = l) (hs : P.cellsOf t = d.sz) (h : OpensFs P l 0 d ok) : Opens P t d ok := by
  intro H enc W fuel cs x hx
  obtain ⟨xs, n, _, _, hl, hxl, hf⟩ := DataW.trod_struct ht hx
  have := h H enc W n cs (fun f hm => by
    rw [← hfs] at hm
    obtain ⟨g, hg, rfl⟩ := List.mem_map.1 hm
    obtain ⟨i, hi, rfl⟩ := List.getElem_of_mem hg
    have hi2 : i < fs.size := by simpa using hi
    refine ⟨xs[i], ?_⟩
    simp only
    rw [hf i fs.toList[i] (by simp [hi2]), List.getElem?_eq_getElem]) (by omega)
  simpa using this
theorem opens_iso {α β : Type} {P : Program} {t : TypeId} {d : Kd α} {ok : α → Prop} (f : β → α) (g : α → β) (hfg : ∀ a, f (g a) = a) (h : Opens P t d ok) : Opens P t (Kd.iso d f) (fun b => ok (f b)) := by
  intro H enc W fuel cs x hx
  obtain ⟨a, ha, hK⟩ := h H enc W fuel cs x hx
  exact ⟨g a, by show ok (f (g a)); rw [hfg]; exact ha, by show d.K W (f (g a)) cs; rw [hfg]; exact hK⟩
/-- What an argument reads as. -/
theorem Opens.arg {α : Type} {P : Program} {t : TypeId} {d : Kd α} {ok : α → Prop} (h : Opens P t d ok) {H : Type} {enc : TypeId × Value → H} {W : World} {v : Value} {x : DataW H} {ps : List MemPlace} (ht : DataW.Trod enc P W 0 (fun _ => true) true t v x ps) : ∃ a, ok a ∧ d.K W a v.cells.toList := by
  obtain ⟨fuel, hf⟩ := ht
  exact h H enc W fuel _ _ hf
end Go.Proofs.Ytdhcgfdnhlhapaa.HR
end
section
/- How windows' infos are read. -/
namespace Go.Proofs.Ytdhcgfdnhlhapaa.HI
open Go.RowKit Go.ChangeShapes Go.WideShapes Go.Proofs.YtdhcgfdnhlhapaaW.PrintWords Go.Proofs.Ytdhcgfdnhlhapaa.HR

def kInfo : Kd (Int × Int × Int × List Int) := Kd.pair (Kd.int .u8) (Kd.pair (Kd.int .u8) (Kd.pair (Kd.int .i64) (Kd.slice 3 (Kd.int .i64))))
theorem opens_ints : Opens Try.prog 22 (Kd.slice 3 (Kd.int .i64)) (fun xs => ∀ x ∈ xs, (Lit.int .i64 x).wf = true) := opens_slice Try.underlying22 (by kernel_rfl) (opens_int Try.underlying3)
theorem opens_info : Opens Try.prog 24 kInfo (fun x => (Lit.int .u8 x.1).wf = true ∧ (Lit.int .u8 x.2.1).wf = true ∧ (Lit.int .i64 x.2.2.1).wf = true ∧ ∀ y ∈ x.2.2.2, (Lit.int .i64 y).wf = true) := by
  exact opens_struct Try.underlying24 (l := [(5, 0), (5, 1), (3, 2), (22, 3)]) rfl (by kernel_rfl)
    (opensFs_cons 1 (by kernel_rfl) rfl (opens_int Try.underlying5) (opensFs_cons 2 (by kernel_rfl) rfl (opens_int Try.underlying5) (opensFs_cons 3 (by kernel_rfl) rfl (opens_int Try.underlying3) (opensFs_one (by kernel_rfl) opens_ints))))
theorem wf_u8 {x : Int} (h : (Lit.int .u8 x).wf = true) : 0 ≤ x ∧ x ≤ 255 := by
  simp only [Lit.wf, Bool.and_eq_true, decide_eq_true_eq] at h
  exact h
theorem wf_i64 {x : Int} (h : (Lit.int .i64 x).wf = true) : -9223372036854775808 ≤ x ∧ x ≤ 9223372036854775807 := by
  simp only [Lit.wf, Bool.and_eq_true, decide_eq_true_eq] at h
  exact h
theorem open_info {H : Type} {enc : TypeId × Value → H} {W : World} {v : Value} {x : DataW H} {ps : List MemPlace} {r : Reach} {b0 : Nat} (hv : Value.okWide Try.prog W r b0 24 v) (h : DataW.Trod enc Try.prog W 0 (fun _ => true) true 24 v x ps) :
    ∃ (s sh m : Int) (A : Option Addr) (c : Nat) (l : List Int), v = .agg #[.int .u8 s, .int .u8 sh, .int .i64 m, .slice A l.length c] ∧ l.length ≤ c ∧ Kd.C (Kd.int .i64) W A l.length l ∧ (0 ≤ s ∧ s ≤ 255) ∧ (0 ≤ sh ∧ sh ≤ 255) ∧ (-9223372036854775808 ≤ m ∧ m ≤ 9223372036854775807) ∧ ∀ y ∈ l, -9223372036854775808 ≤ y ∧ y ≤ 9223372036854775807 := by
  unfold Value.okWide at hv
  rw [Try.underlying24] at hv
  obtain ⟨cs, rfl, _, _⟩ := hv
  obtain ⟨⟨s, sh, m, l⟩, ⟨w1, w2, w3, w4⟩, hK⟩ := opens_info.arg h
  obtain ⟨_, _, he, rfl, ⟨_, _, rfl, rfl, ⟨_, _, rfl, rfl, ⟨A, c, rfl, hl, hC⟩⟩⟩⟩ := hK
  refine ⟨s, sh, m, A, c, l, ?_, hl, hC, wf_u8 w1, wf_u8 w2, wf_i64 w3, fun y hy => wf_i64 (w4 y hy)⟩
  congr 1
  apply Array.toList_inj.1
  exact he
end Go.Proofs.Ytdhcgfdnhlhapaa.HI
end
section
/- How filters are read. -/
namespace Go.Proofs.Ytdhcgfdnhlhapaa.HI
open Go.RowKit Go.ChangeShapes Go.WideShapes Go.Proofs.YtdhcgfdnhlhapaaW.PrintWords Go.Proofs.Ytdhcgfdnhlhapaa.HR

def kFilter : Kd (Int × Int × Bool × Bool × List Int) := Kd.pair (Kd.int .i64) (Kd.pair (Kd.int .i64) (Kd.pair Kd.bool (Kd.pair Kd.bool (Kd.slice 3 (Kd.int .i64)))))
theorem opens_filter : Opens Try.prog 38 kFilter (fun x => (Lit.int .i64 x.1).wf = true ∧ (Lit.int .i64 x.2.1).wf = true ∧ True ∧ True ∧ ∀ y ∈ x.2.2.2.2, (Lit.int .i64 y).wf = true) := by
  exact opens_struct Try.underlying38 (l := [(3, 0), (3, 1), (4, 2), (4, 3), (22, 4)]) rfl (by kernel_rfl)
    (opensFs_cons 1 (by kernel_rfl) rfl (opens_int Try.underlying3) (opensFs_cons 2 (by kernel_rfl) rfl (opens_int Try.underlying3) (opensFs_cons 3 (by kernel_rfl) rfl (opens_bool Try.underlying4) (opensFs_cons 4 (by kernel_rfl) rfl (opens_bool Try.underlying4) (opensFs_one (by kernel_rfl) opens_ints)))))
theorem open_filter {H : Type} {enc : TypeId × Value → H} {W : World} {v : Value} {x : DataW H} {ps : List MemPlace} {r : Reach} {b0 : Nat} (hv : Value.okWide Try.prog W r b0 38 v) (h : DataW.Trod enc Try.prog W 0 (fun _ => true) true 38 v x ps) :
    ∃ (n o : Int) (d f : Bool) (A : Option Addr) (c : Nat) (l : List Int), v = .agg #[.int .i64 n, .int .i64 o, .bool d, .bool f, .slice A l.length c] ∧ l.length ≤ c ∧ Kd.C (Kd.int .i64) W A l.length l ∧ (-9223372036854775808 ≤ n ∧ n ≤ 9223372036854775807) ∧ (-9223372036854775808 ≤ o ∧ o ≤ 9223372036854775807) ∧ ∀ y ∈ l, -9223372036854775808 ≤ y ∧ y ≤ 9223372036854775807 := by
  unfold Value.okWide at hv
  rw [Try.underlying38] at hv
  obtain ⟨cs, rfl, _, _⟩ := hv
  obtain ⟨⟨n, o, d, f, l⟩, ⟨w1, w2, _, _, w4⟩, hK⟩ := opens_filter.arg h
  obtain ⟨_, _, he, rfl, ⟨_, _, rfl, rfl, ⟨_, _, rfl, rfl, ⟨_, _, rfl, rfl, ⟨A, c, rfl, hl, hC⟩⟩⟩⟩⟩ := hK
  refine ⟨n, o, d, f, A, c, l, ?_, hl, hC, wf_i64 w1, wf_i64 w2, fun y hy => wf_i64 (w4 y hy)⟩
  congr 1
  apply Array.toList_inj.1
  exact he
end Go.Proofs.Ytdhcgfdnhlhapaa.HI
end
section
/- How bytes are read. -/
namespace Go.Proofs.Ytdhcgfdnhlhapaa.HI
open Go.RowKit Go.ChangeShapes Go.WideShapes Go.Proofs.YtdhcgfdnhlhapaaW.PrintWords Go.Proofs.Ytdhcgfdnhlhapaa.HR

theorem slice_value {W : World} {v : Value} {r : Reach} {b0 : Nat} {t e : TypeId} (ht : Try.prog.underlying t = some (.slice e)) (hv : Value.okWide Try.prog W r b0 t v) : ∃ A n c, v = .slice A n c := by
  unfold Value.okWide at hv
  rw [ht] at hv
  unfold Cell.okWide at hv
  rw [ht] at hv
  revert hv
  cases v <;> simp [Cell.ok, ht]
theorem opens_bytes : Opens Try.prog 32 (Kd.slice 5 (Kd.int .u8)) (fun xs => ∀ x ∈ xs, (Lit.int .u8 x).wf = true) := opens_slice Try.underlying32 (by kernel_rfl) (opens_int Try.underlying5)
theorem open_bytes {H : Type} {enc : TypeId × Value → H} {W : World} {v : Value} {x : DataW H} {ps : List MemPlace} {r : Reach} {b0 : Nat} (hv : Value.okWide Try.prog W r b0 32 v) (h : DataW.Trod enc Try.prog W 0 (fun _ => true) true 32 v x ps) :
    ∃ (A : Option Addr) (c : Nat) (l : List Int), v = .slice A l.length c ∧ l.length ≤ c ∧ Kd.C (Kd.int .u8) W A l.length l ∧ ∀ y ∈ l, 0 ≤ y ∧ y ≤ 255 := by
  obtain ⟨A0, n0, c0, rfl⟩ := slice_value Try.underlying32 hv
  obtain ⟨l, wl, A, c, he, hl, hC⟩ := opens_bytes.arg h
  have he' : Value.slice A0 n0 c0 = .slice A l.length c := by simpa [Value.cells] using he
  exact ⟨A, c, l, he', hl, hC, fun y hy => wf_u8 (wl y hy)⟩
end Go.Proofs.Ytdhcgfdnhlhapaa.HI
end
section
/- How lists of filters are read. -/
namespace Go.Proofs.Ytdhcgfdnhlhapaa.HI
open Go.RowKit Go.ChangeShapes Go.WideShapes Go.Proofs.YtdhcgfdnhlhapaaW.PrintWords Go.Proofs.Ytdhcgfdnhlhapaa.HR Go.Proofs.Ytdhcgfdnhlhapaa.K

theorem opens_filt : Opens Try.prog 38 k38 (fun x => (Lit.int .i64 x.f0).wf = true ∧ (Lit.int .i64 x.f1).wf = true ∧ True ∧ True ∧ ∀ y ∈ x.f4, (Lit.int .i64 y).wf = true) := by
  refine opens_iso (fun x : S38 => (x.f0, x.f1, x.f2, x.f3, x.f4)) (fun p => ⟨p.1, p.2.1, p.2.2.1, p.2.2.2.1, p.2.2.2.2⟩) (fun _ => rfl) (ok := fun x => (Lit.int .i64 x.1).wf = true ∧ (Lit.int .i64 x.2.1).wf = true ∧ True ∧ True ∧ ∀ y ∈ x.2.2.2.2, (Lit.int .i64 y).wf = true) opens_filter
theorem opens_filters : Opens Try.prog 25 (Kd.slice 35 (Kd.slice 38 k38)) (fun l => ∀ g ∈ l, ∀ x ∈ g, (Lit.int .i64 x.f0).wf = true ∧ (Lit.int .i64 x.f1).wf = true ∧ True ∧ True ∧ ∀ y ∈ x.f4, (Lit.int .i64 y).wf = true) :=
  opens_slice Try.underlying25 (by kernel_rfl) (opens_slice Try.underlying35 (by kernel_rfl) opens_filt)
theorem open_filters {H : Type} {enc : TypeId × Value → H} {W : World} {v : Value} {x : DataW H} {ps : List MemPlace} {r : Reach} {b0 : Nat} (hv : Value.okWide Try.prog W r b0 25 v) (h : DataW.Trod enc Try.prog W 0 (fun _ => true) true 25 v x ps) :
    ∃ (A : Option Addr) (c : Nat) (l : List (List S38)), v = .slice A l.length c ∧ l.length ≤ c ∧ Kd.C (Kd.slice 38 k38) W A l.length l ∧ ∀ g ∈ l, ∀ x ∈ g, (-9223372036854775808 ≤ x.f0 ∧ x.f0 ≤ 9223372036854775807) ∧ (-9223372036854775808 ≤ x.f1 ∧ x.f1 ≤ 9223372036854775807) ∧ ∀ y ∈ x.f4, -9223372036854775808 ≤ y ∧ y ≤ 9223372036854775807 := by
  obtain ⟨A0, n0, c0, rfl⟩ := slice_value Try.underlying25 hv
  obtain ⟨l, wl, A, c, he, hl, hC⟩ := opens_filters.arg h
  have he' : Value.slice A0 n0 c0 = .slice A l.length c := by simpa [Value.cells] using he
  exact ⟨A, c, l, he', hl, hC, fun g hg y hy => ⟨wf_i64 (wl g hg y hy).1, wf_i64 (wl g hg y hy).2.1, fun z hz => wf_i64 ((wl g hg y hy).2.2.2.2 z hz)⟩⟩
end Go.Proofs.Ytdhcgfdnhlhapaa.HI
end
section
/- The row of the law TnsbitsNone: out of its walk. -/
namespace Go.Proofs.Ytdhcgfdnhlhapaa.tnsbitsNone
open Go.ChangeShapes Go.WideShapes Go.ChangeAt Go.RowKit
open Go.ChangeMaps (open_string shut_string)
set_option linter.unusedVariables false
theorem own : ownKnob Try.prog.godebug = none := by kernel_rfl
theorem laidOut : laidOutB Try.prog = true := by kernel_rfl
set_option maxRecDepth 100000 in
theorem lifted (os : Os) (started : os.Started) (H : Type) (enc : TypeId × Value → H) :
    ReturnsInHanded {} Try.checked os 3 .any (Rows.tnsbitsNoneSpec.pre6 enc Try.prog Try.f3 Rows.tnsbitsNoneRow.domain false) (Rows.tnsbitsNoneSpec.post enc Try.prog Try.f3 false true false false) := by
  refine returnsInHanded_of_change_sized (C := Try.checked) own started (by kernel_rfl) Try.func3
    (ChangeSpec.witness6 (enc := enc) (C := Try.checked) false ⟨#[], #[.agg #[.int .u8 0, .int .u8 0, .int .i64 0, .slice none 0 0], .slice none 0 0], []⟩ 8 (by kernel_rfl) (by kernel_rfl) (by kernel_rfl) (by kernel_rfl)) ?_
  intro W base args ds gs before hval0 hW hcnd hsz0 _
  have hval : ∀ (j : Nat) t v, Try.f3.params[j]? = some t → args[j]? = some v → Value.okWide Try.prog W .any base t v := hval0
  have hW' := hW
  obtain ⟨p, q, hA0, hV, rfl, hfz, hnd⟩ := hW
  have hA : DataW.TrodAll enc Try.prog W 0 (fun _ => true) true Try.f3.params.toList args.toList ds p := hA0
  rw [Try.params3] at hA hval
  obtain ⟨v0, vs0, d0, ds0, p0, q0, hargs, rfl, rfl, h0, r0⟩ := trodAll_cons hA
  obtain ⟨v1, vs1, d1, ds1, p1, q1, rfl, rfl, rfl, h1, r1⟩ := trodAll_cons r0
  obtain ⟨rfl, rfl, rfl⟩ := trodAll_nil r1
  obtain rfl : args = #[v0, v1] := by cases args; simp_all
  obtain ⟨rfl, rfl⟩ := trodVars_none hV
  have k0 := h0
  have lt0 : ∀ x ∈ p0, x.block < W.heap.size := by obtain ⟨m, hm⟩ := k0; exact DataW.trod_lt m _ _ _ hm
  obtain ⟨s_0, sh_0, m_0, A_0, c_0, l_0, rfl, hc_0, hr_0, ws_0, wsh_0, wm_0, wl_0⟩ := HI.open_info (hval 0 24 v0 rfl rfl) h0
  have k1 := h1
  have lt1 : ∀ x ∈ p1, x.block < W.heap.size := by obtain ⟨m, hm⟩ := k1; exact DataW.trod_lt m _ _ _ hm
  obtain ⟨A_1, c_1, l_1, rfl, hc_1, hr_1, wl_1⟩ := HI.open_filters (hval 1 25 v1 rfl rfl) h1
  refine (Wk.TnsbitsNone W s_0 sh_0 m_0 A_0 c_0 l_0 A_1 c_1 l_1 hc_0 hr_0 ws_0 wsh_0 wm_0 wl_0 hc_1 hr_1 wl_1).mono fun e W' ⟨he, bel⟩ => ?_
  subst he
  exact ⟨_, rfl, _, _, _, [], _, [], hW', trodAll_mk1 (shut_bool Try.underlying4 _), (trodAll_cons_mk (Below.trod laidOut (by kernel_rfl) (of_decide_eq_true (by kernel_rfl)) k0 bel lt0) (trodAll_cons_mk (Below.trod laidOut (by kernel_rfl) (of_decide_eq_true (by kernel_rfl)) k1 bel lt1) trodAll_mk0)), rfl, bel.frame _, fun h => by cases h⟩
theorem over : Rows.tnsbitsNoneRow.holds Try.pinned (OpenSpec.ofChange Rows.tnsbitsNoneSpec) :=
  OpenClaim.holds_of_wide 3 Try.f3 rfl rfl rfl rfl rfl rfl rfl ⟨rfl, rfl, rfl, rfl, rfl⟩ rfl rfl rfl rfl rfl (by kernel_rfl) Try.func3 (by kernel_rfl)
    (of_decide_eq_true (by kernel_rfl)) (by unfold Func.isWrapper; first | (rw [if_pos (by decide +kernel)]; kernel_rfl) | (rw [if_neg (by decide +kernel)]; exact ⟨rfl, rfl⟩))
    (fun os started H enc _ => lifted os started H enc)
theorem proved : Rows.TnsbitsNoneSaid := over
#print axioms proved
end Go.Proofs.Ytdhcgfdnhlhapaa.tnsbitsNone
namespace Go.Proofs.Ytdhcgfdnhlhapaa
/-- The row, under a short name, for the claim. -/
theorem tnsbitsNone_holds : Rows.TnsbitsNoneSaid := tnsbitsNone.proved
end Go.Proofs.Ytdhcgfdnhlhapaa
end
