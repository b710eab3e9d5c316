/- Texts of this session for the law InfoBack, packed by wip/merge.py: part 2 of 4. Each section is one text; the law's own sentence stands over its section. -/
import Derived.Test.YtdoeclpbobjgdaaYInfoBack1
section
-- Written for this claim by this session's own wip/hook.py (it runs the kit's print and takes some functions' contracts as given texts of this session's).
namespace Go.Proofs.Ytdoeclpbobjgdaa.K
open Go.RowKit Go.Proofs.YtdoeclpbobjgdaaW.PrintWords Go.Proofs.YtdoeclpbobjgdaaW.PrintLast Go.Proofs.YtdoeclpbobjgdaaW.PrintMore
attribute [local go_sem] max2_int min2_int max_two min_two max_three min_three max_four min_four   -- for this text's walks alone
set_option linter.unusedVariables false
set_option linter.unusedSimpArgs false

/-! ### reedpipelaw10_alive: function 21 -/
def reedpipelaw10_alive.f  : Option (Bool) := (info_Put.f ([] : List Int) 0 0 1 3 (([1] : List Int))).bind fun bt228 => ((info_Put.f ([] : List Int) 0 2 0 5 (([3, 5] : List Int))).bind fun bt235 => (if bt228.2 = 0 then (if (strOfNums bt228.1).toList = ([0, 0, 0, 1, 0, 0, 0, 0, 1, 1, 0] : List UInt8) then (if bt235.2 = 0 then (some ((strOfNums bt235.1).toList == ([0, 1, 0, 0, 0, 1, 0, 1, 1, 1, 0, 1, 1, 1, 1] : List UInt8))) else (some false)) else (some false)) else (some false)))
set_option maxHeartbeats 8000000 in
set_option maxRecDepth 100000 in
theorem reedpipelaw10_alive.calls  (r : Bool) (w : World) (h : reedpipelaw10_alive.f  = some r) :
    Calls Try.prog 21 #[] w fun e w' => e = .returned (.bool r) ∧ Below w.heap.size w w' := by
  have hu24 := Try.underlying24
  have HB := Aside0.mk (Below.refl w.heap.size w)
  have H : ((info_Put.f ([] : List Int) 0 0 1 3 (([1] : List Int))).bind fun bt228 => ((info_Put.f ([] : List Int) 0 2 0 5 (([3, 5] : List Int))).bind fun bt235 => (if bt228.2 = 0 then (if (strOfNums bt228.1).toList = ([0, 0, 0, 1, 0, 0, 0, 0, 1, 1, 0] : List UInt8) then (if bt235.2 = 0 then (some ((strOfNums bt235.1).toList == ([0, 1, 0, 0, 0, 1, 0, 1, 1, 1, 0, 1, 1, 1, 1] : List UInt8))) else (some false)) else (some false)) else (some false)))) = some r := h
  clear h
  obtain ⟨y225, hy225⟩ : ∃ y_ : List Int, y_ = (([1] : List Int)) := ⟨_, rfl⟩
  replace H : ((info_Put.f ([] : List Int) 0 0 1 3 y225).bind fun bt228 => ((info_Put.f ([] : List Int) 0 2 0 5 (([3, 5] : List Int))).bind fun bt235 => (if bt228.2 = 0 then (if (strOfNums bt228.1).toList = ([0, 0, 0, 1, 0, 0, 0, 0, 1, 1, 0] : List UInt8) then (if bt235.2 = 0 then (some ((strOfNums bt235.1).toList == ([0, 1, 0, 0, 0, 1, 0, 1, 1, 1, 0, 1, 1, 1, 1] : List UInt8))) else (some false)) else (some false)) else (some false)))) = some r := by first | (rw [hy225]; with_reducible exact H) | (have H2_ := (Option.bind_some _ _).symm.trans H; rw [hy225]; with_reducible exact H2_) | (have H2_ := (Option.bind_some _ _).symm.trans H; with_reducible exact H2_) | with_reducible exact H | (rw [hy225]; exact H) | exact H
  have Ny225 := Aside0.mk hy225
  clear hy225
  replace H := Option.bind_eq_some_iff.mp H
  obtain ⟨⟨t228, t231⟩, A10, H⟩ := H
  replace H : ((info_Put.f ([] : List Int) 0 2 0 5 (([3, 5] : List Int))).bind fun bt235 => (if t231 = 0 then (if (strOfNums t228).toList = ([0, 0, 0, 1, 0, 0, 0, 0, 1, 1, 0] : List UInt8) then (if bt235.2 = 0 then (some ((strOfNums bt235.1).toList == ([0, 1, 0, 0, 0, 1, 0, 1, 1, 1, 0, 1, 1, 1, 1] : List UInt8))) else (some false)) else (some false)) else (some false))) = some r := H
  have A1 := Aside0.mk A10
  clear A10
  obtain ⟨y232, hy232⟩ : ∃ y_ : List Int, y_ = (([3, 5] : List Int)) := ⟨_, rfl⟩
  replace H : ((info_Put.f ([] : List Int) 0 2 0 5 y232).bind fun bt235 => (if t231 = 0 then (if (strOfNums t228).toList = ([0, 0, 0, 1, 0, 0, 0, 0, 1, 1, 0] : List UInt8) then (if bt235.2 = 0 then (some ((strOfNums bt235.1).toList == ([0, 1, 0, 0, 0, 1, 0, 1, 1, 1, 0, 1, 1, 1, 1] : List UInt8))) else (some false)) else (some false)) else (some false))) = some r := by first | (rw [hy232]; with_reducible exact H) | (have H2_ := (Option.bind_some _ _).symm.trans H; rw [hy232]; with_reducible exact H2_) | (have H2_ := (Option.bind_some _ _).symm.trans H; with_reducible exact H2_) | with_reducible exact H | (rw [hy232]; exact H) | exact H
  have Ny232 := Aside0.mk hy232
  clear hy232
  replace H := Option.bind_eq_some_iff.mp H
  obtain ⟨⟨t235, t238⟩, A20, H⟩ := H
  replace H : (if t231 = 0 then (if (strOfNums t228).toList = ([0, 0, 0, 1, 0, 0, 0, 0, 1, 1, 0] : List UInt8) then (if t238 = 0 then (some ((strOfNums t235).toList == ([0, 1, 0, 0, 0, 1, 0, 1, 1, 1, 0, 1, 1, 1, 1] : List UInt8))) else (some false)) else (some false)) else (some false)) = some r := H
  have A2 := Aside0.mk A20
  clear A20
  by_cases c3 : t231 = 0
  · rw [if_pos c3] at H
    have c3b0 : (t231 == 0) = true := beq_iff_eq.mpr c3
    have c3b1 : (t231 != 0) = false := bne_eq_false_iff_eq.mpr c3
    clear c3
    by_cases c4 : (strOfNums t228).toList = ([0, 0, 0, 1, 0, 0, 0, 0, 1, 1, 0] : List UInt8)
    · rw [if_pos c4] at H
      have c4b0 : ((strOfNums t228).toList == ([0, 0, 0, 1, 0, 0, 0, 0, 1, 1, 0] : List UInt8)) = true := beq_iff_eq.mpr c4
      have c4b1 : ((strOfNums t228).toList != ([0, 0, 0, 1, 0, 0, 0, 0, 1, 1, 0] : List UInt8)) = false := bne_eq_false_iff_eq.mpr c4
      clear c4
      by_cases c5 : t238 = 0
      · rw [if_pos c5] at H
        have c5b0 : (t238 == 0) = true := beq_iff_eq.mpr c5
        have c5b1 : (t238 != 0) = false := bne_eq_false_iff_eq.mpr c5
        clear c5
        obtain rfl := Option.some.inj H
        go_enter Try.func21, Try.ntmps21
        go_wp2_with (first | ((with_reducible refine gate_dst (N := 6) rfl ?_); refine Kd.R_lit (Kd.int .i64) _ 3 ?hg (N := 6) ?hd (xs := ([1] : List Int)) (inner := [.int .i64 1]) (ok := fun _ => True) (okp := fun _ => True) ?hr ?hp (fun _ hk => hk) trivial (Below.refl _ _) (Nat.le_refl _) (by simp) ?_; (case hd => rfl); (case hg => rfl); (case hr => first | (go_simp; done) | (go_simp; rfl)); (case hp => exact (Reps.one (show Kd.M (Kd.int .i64) _ _ _ 1 [.int .i64 1] from rfl) (Reps.none _ _))); intro v226 w6 ho7 hb hg_ hnew_; clear hg_ hnew_; (first | rw [← Ny225.out] at ho7 | (simp only [Int.reduceToNat] at ho7; rw [← Ny225.out] at ho7)); have n0_ := Aside0.mk (Kd.R_lower ho7 (below_size (by repeat (first | (with_reducible first | exact HB.out | apply below_alloc | apply pw_below_drewN | apply below_drew1) | exact HB.out)))); have n1_ := Aside0.mk (below_step (by repeat (first | (with_reducible first | exact HB.out | apply below_alloc | apply pw_below_drewN | apply below_drew1) | exact HB.out)) hb); clear HB; have HO227 := n0_; have HB := n1_; clear n0_ n1_; clear hb ho7; obtain ⟨Ao8, co8, eo8⟩ := Kd.R_slice HO227.out; subst eo8) | ((with_reducible refine gate_callee (f := 23) rfl ?_); refine goesL_ (some 8) rfl rfl Try.func23 (by kernel_rfl) rfl #[.slice none 0 0, .int .i64 0, .agg #[.int .u8 0, .int .u8 1, .int .i64 3, .slice Ao8 y225.length co8]] rfl (by (try simp only [List.map_toArray, List.map_cons, List.map_nil]); first | done | rfl | (simp only [List.length_drop, List.length_take]; rfl)) ?_; (refine (info_Put.calls _ _ ([] : List Int) 0 0 1 3 _ _ y225 t228 t231 _ ?side1 ?side2 ?side3 ?side4 A1.out).mono ?_); (case side1 => exact Kd.C_nil _ _); (case side2 => exact Nat.le_refl _); (case side3 => repeat (first | exact (Kd.R_reads' HO227.out).2.2 | (with_reducible refine Kd.C_alloc ?_ _) | (with_reducible refine Kd.C_drewN ?_ _) | (with_reducible refine Kd.C_drew ?_))); (case side4 => exact (Kd.R_reads' HO227.out).2.1); rintro e w9 ⟨v229, rfl, ho0, hb⟩; refine ⟨_, rfl, ?_⟩; have n0_ := Aside0.mk (Kd.R_below (by (with_reducible repeat (first | apply Kd.R_alloc | apply Kd.R_drewN | apply Kd.R_drew)); exact HO227.out) hb); have n1_ := Aside0.mk (Kd.R_lower ho0 (below_size (by repeat (first | (with_reducible first | exact HB.out | apply below_alloc | apply pw_below_drewN | apply below_drew1) | exact HB.out)))); have n2_ := Aside0.mk (below_step (by repeat (first | (with_reducible first | exact HB.out | apply below_alloc | apply pw_below_drewN | apply below_drew1) | exact HB.out)) hb); clear HO227; clear HB; have HO227 := n0_; have HO230 := n1_; have HB := n2_; clear n0_ n1_ n2_; (try clear hb); (try clear hb2); (try clear hk); (try clear hi); (try clear ho0)) | ((with_reducible refine gate_dst (N := 12) rfl ?_); refine Kd.R_lit (Kd.int .i64) _ 3 ?hg (N := 12) ?hd (xs := ([3, 5] : List Int)) (inner := [.int .i64 3, .int .i64 5]) (ok := fun _ => True) (okp := fun _ => True) ?hr ?hp (fun _ hk => hk) trivial (Below.refl _ _) (Nat.le_refl _) (by simp) ?_; (case hd => rfl); (case hg => rfl); (case hr => first | (go_simp; done) | (go_simp; rfl)); (case hp => exact (Reps.one (show Kd.M (Kd.int .i64) _ _ _ 3 [.int .i64 3] from rfl) (Reps.one (show Kd.M (Kd.int .i64) _ _ _ 5 [.int .i64 5] from rfl) (Reps.none _ _)))); intro v233 w10 ho11 hb hg_ hnew_; clear hg_ hnew_; (first | rw [← Ny232.out] at ho11 | (simp only [Int.reduceToNat] at ho11; rw [← Ny232.out] at ho11)); have n0_ := Aside0.mk (Kd.R_elder' (by (with_reducible repeat (first | apply Kd.R_alloc | apply Kd.R_drewN | apply Kd.R_drew)); exact HO227.out) (Kd.R_base ho11) hb); have n1_ := Aside0.mk (Kd.R_below (by (with_reducible repeat (first | apply Kd.R_alloc | apply Kd.R_drewN | apply Kd.R_drew)); exact HO230.out) hb); have n2_ := Aside0.mk (Kd.R_lower (Kd.R_new' ho11 (Kd.R_lt (by (with_reducible repeat (first | apply Kd.R_alloc | apply Kd.R_drewN | apply Kd.R_drew)); exact HO227.out))) (below_size (by repeat (first | (with_reducible first | exact HB.out | apply below_alloc | apply pw_below_drewN | apply below_drew1) | exact HB.out)))); have n3_ := Aside0.mk (below_step (by repeat (first | (with_reducible first | exact HB.out | apply below_alloc | apply pw_below_drewN | apply below_drew1) | exact HB.out)) hb); clear HO227; clear HO230; clear HB; have HO227 := n0_; have HO230 := n1_; have HO234 := n2_; have HB := n3_; clear n0_ n1_ n2_ n3_; clear hb ho11; obtain ⟨Ao12, co12, eo12⟩ := Kd.R_slice HO234.out; subst eo12) | ((with_reducible refine gate_callee (f := 23) rfl ?_); refine goesL_ (some 14) rfl rfl Try.func23 (by kernel_rfl) rfl #[.slice none 0 0, .int .i64 0, .agg #[.int .u8 2, .int .u8 0, .int .i64 5, .slice Ao12 y232.length co12]] rfl (by (try simp only [List.map_toArray, List.map_cons, List.map_nil]); first | done | rfl | (simp only [List.length_drop, List.length_take]; rfl)) ?_; (refine (info_Put.calls _ _ ([] : List Int) 0 2 0 5 _ _ y232 t235 t238 _ ?side1 ?side2 ?side3 ?side4 A2.out).mono ?_); (case side1 => exact Kd.C_nil _ _); (case side2 => exact Nat.le_refl _); (case side3 => repeat (first | exact (Kd.R_reads' HO234.out).2.2 | (with_reducible refine Kd.C_alloc ?_ _) | (with_reducible refine Kd.C_drewN ?_ _) | (with_reducible refine Kd.C_drew ?_))); (case side4 => exact (Kd.R_reads' HO234.out).2.1); rintro e w13 ⟨v236, rfl, ho0, hb⟩; refine ⟨_, rfl, ?_⟩; have n0_ := Aside0.mk (Kd.R_below (by (with_reducible repeat (first | apply Kd.R_alloc | apply Kd.R_drewN | apply Kd.R_drew)); exact HO227.out) hb); have n1_ := Aside0.mk (Kd.R_elder' (by (with_reducible repeat (first | apply Kd.R_alloc | apply Kd.R_drewN | apply Kd.R_drew)); exact HO230.out) (Kd.R_base ho0) hb); have n2_ := Aside0.mk (Kd.R_below (by (with_reducible repeat (first | apply Kd.R_alloc | apply Kd.R_drewN | apply Kd.R_drew)); exact HO234.out) hb); have n3_ := Aside0.mk (Kd.R_lower (Kd.R_new' ho0 (Kd.R_lt (by (with_reducible repeat (first | apply Kd.R_alloc | apply Kd.R_drewN | apply Kd.R_drew)); exact HO230.out))) (below_size (by repeat (first | (with_reducible first | exact HB.out | apply below_alloc | apply pw_below_drewN | apply below_drew1) | exact HB.out)))); have n4_ := Aside0.mk (below_step (by repeat (first | (with_reducible first | exact HB.out | apply below_alloc | apply pw_below_drewN | apply below_drew1) | exact HB.out)) hb); clear HO227; clear HO230; clear HO234; clear HB; have HO227 := n0_; have HO230 := n1_; have HO234 := n2_; have HO237 := n3_; have HB := n4_; clear n0_ n1_ n2_ n3_ n4_; (try clear hb); (try clear hb2); (try clear hk); (try clear hi); (try clear ho0); have hcv14 := own_string (P := Try.prog) Try.underlying42 Try.underlying5 Try.underlying9 (Kd.own_of_R HO230.out); have hcv15 := own_string (P := Try.prog) Try.underlying42 Try.underlying5 Try.underlying9 (Kd.own_of_R HO237.out)))
        go_ret
        exact ⟨by first | rfl | (simp [errW_none, errW_some] <;> rfl) | (simp [*, errW_none, errW_some] <;> rfl), by repeat (first | (with_reducible first | exact HB.out | apply below_alloc | apply pw_below_drewN | apply below_drew1) | exact HB.out)⟩
      · rw [if_neg c5] at H
        have c5b0 : (t238 == 0) = false := beq_eq_false_iff_ne.mpr c5
        have c5b1 : (t238 != 0) = true := bne_iff_ne.mpr c5
        obtain rfl := Option.some.inj H
        go_enter Try.func21, Try.ntmps21
        go_wp2_with (first | ((with_reducible refine gate_dst (N := 6) rfl ?_); refine Kd.R_lit (Kd.int .i64) _ 3 ?hg (N := 6) ?hd (xs := ([1] : List Int)) (inner := [.int .i64 1]) (ok := fun _ => True) (okp := fun _ => True) ?hr ?hp (fun _ hk => hk) trivial (Below.refl _ _) (Nat.le_refl _) (by simp) ?_; (case hd => rfl); (case hg => rfl); (case hr => first | (go_simp; done) | (go_simp; rfl)); (case hp => exact (Reps.one (show Kd.M (Kd.int .i64) _ _ _ 1 [.int .i64 1] from rfl) (Reps.none _ _))); intro v226 w16 ho17 hb hg_ hnew_; clear hg_ hnew_; (first | rw [← Ny225.out] at ho17 | (simp only [Int.reduceToNat] at ho17; rw [← Ny225.out] at ho17)); have n0_ := Aside0.mk (Kd.R_lower ho17 (below_size (by repeat (first | (with_reducible first | exact HB.out | apply below_alloc | apply pw_below_drewN | apply below_drew1) | exact HB.out)))); have n1_ := Aside0.mk (below_step (by repeat (first | (with_reducible first | exact HB.out | apply below_alloc | apply pw_below_drewN | apply below_drew1) | exact HB.out)) hb); clear HB; have HO227 := n0_; have HB := n1_; clear n0_ n1_; clear hb ho17; obtain ⟨Ao18, co18, eo18⟩ := Kd.R_slice HO227.out; subst eo18) | ((with_reducible refine gate_callee (f := 23) rfl ?_); refine goesL_ (some 8) rfl rfl Try.func23 (by kernel_rfl) rfl #[.slice none 0 0, .int .i64 0, .agg #[.int .u8 0, .int .u8 1, .int .i64 3, .slice Ao18 y225.length co18]] rfl (by (try simp only [List.map_toArray, List.map_cons, List.map_nil]); first | done | rfl | (simp only [List.length_drop, List.length_take]; rfl)) ?_; (refine (info_Put.calls _ _ ([] : List Int) 0 0 1 3 _ _ y225 t228 t231 _ ?side1 ?side2 ?side3 ?side4 A1.out).mono ?_); (case side1 => exact Kd.C_nil _ _); (case side2 => exact Nat.le_refl _); (case side3 => repeat (first | exact (Kd.R_reads' HO227.out).2.2 | (with_reducible refine Kd.C_alloc ?_ _) | (with_reducible refine Kd.C_drewN ?_ _) | (with_reducible refine Kd.C_drew ?_))); (case side4 => exact (Kd.R_reads' HO227.out).2.1); rintro e w19 ⟨v229, rfl, ho0, hb⟩; refine ⟨_, rfl, ?_⟩; have n0_ := Aside0.mk (Kd.R_below (by (with_reducible repeat (first | apply Kd.R_alloc | apply Kd.R_drewN | apply Kd.R_drew)); exact HO227.out) hb); have n1_ := Aside0.mk (Kd.R_lower ho0 (below_size (by repeat (first | (with_reducible first | exact HB.out | apply below_alloc | apply pw_below_drewN | apply below_drew1) | exact HB.out)))); have n2_ := Aside0.mk (below_step (by repeat (first | (with_reducible first | exact HB.out | apply below_alloc | apply pw_below_drewN | apply below_drew1) | exact HB.out)) hb); clear HO227; clear HB; have HO227 := n0_; have HO230 := n1_; have HB := n2_; clear n0_ n1_ n2_; (try clear hb); (try clear hb2); (try clear hk); (try clear hi); (try clear ho0)) | ((with_reducible refine gate_dst (N := 12) rfl ?_); refine Kd.R_lit (Kd.int .i64) _ 3 ?hg (N := 12) ?hd (xs := ([3, 5] : List Int)) (inner := [.int .i64 3, .int .i64 5]) (ok := fun _ => True) (okp := fun _ => True) ?hr ?hp (fun _ hk => hk) trivial (Below.refl _ _) (Nat.le_refl _) (by simp) ?_; (case hd => rfl); (case hg => rfl); (case hr => first | (go_simp; done) | (go_simp; rfl)); (case hp => exact (Reps.one (show Kd.M (Kd.int .i64) _ _ _ 3 [.int .i64 3] from rfl) (Reps.one (show Kd.M (Kd.int .i64) _ _ _ 5 [.int .i64 5] from rfl) (Reps.none _ _)))); intro v233 w20 ho21 hb hg_ hnew_; clear hg_ hnew_; (first | rw [← Ny232.out] at ho21 | (simp only [Int.reduceToNat] at ho21; rw [← Ny232.out] at ho21)); have n0_ := Aside0.mk (Kd.R_elder' (by (with_reducible repeat (first | apply Kd.R_alloc | apply Kd.R_drewN | apply Kd.R_drew)); exact HO227.out) (Kd.R_base ho21) hb); have n1_ := Aside0.mk (Kd.R_below (by (with_reducible repeat (first | apply Kd.R_alloc | apply Kd.R_drewN | apply Kd.R_drew)); exact HO230.out) hb); have n2_ := Aside0.mk (Kd.R_lower (Kd.R_new' ho21 (Kd.R_lt (by (with_reducible repeat (first | apply Kd.R_alloc | apply Kd.R_drewN | apply Kd.R_drew)); exact HO227.out))) (below_size (by repeat (first | (with_reducible first | exact HB.out | apply below_alloc | apply pw_below_drewN | apply below_drew1) | exact HB.out)))); have n3_ := Aside0.mk (below_step (by repeat (first | (with_reducible first | exact HB.out | apply below_alloc | apply pw_below_drewN | apply below_drew1) | exact HB.out)) hb); clear HO227; clear HO230; clear HB; have HO227 := n0_; have HO230 := n1_; have HO234 := n2_; have HB := n3_; clear n0_ n1_ n2_ n3_; clear hb ho21; obtain ⟨Ao22, co22, eo22⟩ := Kd.R_slice HO234.out; subst eo22) | ((with_reducible refine gate_callee (f := 23) rfl ?_); refine goesL_ (some 14) rfl rfl Try.func23 (by kernel_rfl) rfl #[.slice none 0 0, .int .i64 0, .agg #[.int .u8 2, .int .u8 0, .int .i64 5, .slice Ao22 y232.length co22]] rfl (by (try simp only [List.map_toArray, List.map_cons, List.map_nil]); first | done | rfl | (simp only [List.length_drop, List.length_take]; rfl)) ?_; (refine (info_Put.calls _ _ ([] : List Int) 0 2 0 5 _ _ y232 t235 t238 _ ?side1 ?side2 ?side3 ?side4 A2.out).mono ?_); (case side1 => exact Kd.C_nil _ _); (case side2 => exact Nat.le_refl _); (case side3 => repeat (first | exact (Kd.R_reads' HO234.out).2.2 | (with_reducible refine Kd.C_alloc ?_ _) | (with_reducible refine Kd.C_drewN ?_ _) | (with_reducible refine Kd.C_drew ?_))); (case side4 => exact (Kd.R_reads' HO234.out).2.1); rintro e w23 ⟨v236, rfl, ho0, hb⟩; refine ⟨_, rfl, ?_⟩; have n0_ := Aside0.mk (Kd.R_below (by (with_reducible repeat (first | apply Kd.R_alloc | apply Kd.R_drewN | apply Kd.R_drew)); exact HO227.out) hb); have n1_ := Aside0.mk (Kd.R_elder' (by (with_reducible repeat (first | apply Kd.R_alloc | apply Kd.R_drewN | apply Kd.R_drew)); exact HO230.out) (Kd.R_base ho0) hb); have n2_ := Aside0.mk (Kd.R_below (by (with_reducible repeat (first | apply Kd.R_alloc | apply Kd.R_drewN | apply Kd.R_drew)); exact HO234.out) hb); have n3_ := Aside0.mk (Kd.R_lower (Kd.R_new' ho0 (Kd.R_lt (by (with_reducible repeat (first | apply Kd.R_alloc | apply Kd.R_drewN | apply Kd.R_drew)); exact HO230.out))) (below_size (by repeat (first | (with_reducible first | exact HB.out | apply below_alloc | apply pw_below_drewN | apply below_drew1) | exact HB.out)))); have n4_ := Aside0.mk (below_step (by repeat (first | (with_reducible first | exact HB.out | apply below_alloc | apply pw_below_drewN | apply below_drew1) | exact HB.out)) hb); clear HO227; clear HO230; clear HO234; clear HB; have HO227 := n0_; have HO230 := n1_; have HO234 := n2_; have HO237 := n3_; have HB := n4_; clear n0_ n1_ n2_ n3_ n4_; (try clear hb); (try clear hb2); (try clear hk); (try clear hi); (try clear ho0); have hcv24 := own_string (P := Try.prog) Try.underlying42 Try.underlying5 Try.underlying9 (Kd.own_of_R HO230.out)))
        go_ret
        exact ⟨by first | rfl | (simp [errW_none, errW_some] <;> rfl) | (simp [*, errW_none, errW_some] <;> rfl), by repeat (first | (with_reducible first | exact HB.out | apply below_alloc | apply pw_below_drewN | apply below_drew1) | exact HB.out)⟩
    · rw [if_neg c4] at H
      have c4b0 : ((strOfNums t228).toList == ([0, 0, 0, 1, 0, 0, 0, 0, 1, 1, 0] : List UInt8)) = false := beq_eq_false_iff_ne.mpr c4
      have c4b1 : ((strOfNums t228).toList != ([0, 0, 0, 1, 0, 0, 0, 0, 1, 1, 0] : List UInt8)) = true := bne_iff_ne.mpr c4
      obtain rfl := Option.some.inj H
      go_enter Try.func21, Try.ntmps21
      go_wp2_with (first | ((with_reducible refine gate_dst (N := 6) rfl ?_); refine Kd.R_lit (Kd.int .i64) _ 3 ?hg (N := 6) ?hd (xs := ([1] : List Int)) (inner := [.int .i64 1]) (ok := fun _ => True) (okp := fun _ => True) ?hr ?hp (fun _ hk => hk) trivial (Below.refl _ _) (Nat.le_refl _) (by simp) ?_; (case hd => rfl); (case hg => rfl); (case hr => first | (go_simp; done) | (go_simp; rfl)); (case hp => exact (Reps.one (show Kd.M (Kd.int .i64) _ _ _ 1 [.int .i64 1] from rfl) (Reps.none _ _))); intro v226 w25 ho26 hb hg_ hnew_; clear hg_ hnew_; (first | rw [← Ny225.out] at ho26 | (simp only [Int.reduceToNat] at ho26; rw [← Ny225.out] at ho26)); have n0_ := Aside0.mk (Kd.R_lower ho26 (below_size (by repeat (first | (with_reducible first | exact HB.out | apply below_alloc | apply pw_below_drewN | apply below_drew1) | exact HB.out)))); have n1_ := Aside0.mk (below_step (by repeat (first | (with_reducible first | exact HB.out | apply below_alloc | apply pw_below_drewN | apply below_drew1) | exact HB.out)) hb); clear HB; have HO227 := n0_; have HB := n1_; clear n0_ n1_; clear hb ho26; obtain ⟨Ao27, co27, eo27⟩ := Kd.R_slice HO227.out; subst eo27) | ((with_reducible refine gate_callee (f := 23) rfl ?_); refine goesL_ (some 8) rfl rfl Try.func23 (by kernel_rfl) rfl #[.slice none 0 0, .int .i64 0, .agg #[.int .u8 0, .int .u8 1, .int .i64 3, .slice Ao27 y225.length co27]] rfl (by (try simp only [List.map_toArray, List.map_cons, List.map_nil]); first | done | rfl | (simp only [List.length_drop, List.length_take]; rfl)) ?_; (refine (info_Put.calls _ _ ([] : List Int) 0 0 1 3 _ _ y225 t228 t231 _ ?side1 ?side2 ?side3 ?side4 A1.out).mono ?_); (case side1 => exact Kd.C_nil _ _); (case side2 => exact Nat.le_refl _); (case side3 => repeat (first | exact (Kd.R_reads' HO227.out).2.2 | (with_reducible refine Kd.C_alloc ?_ _) | (with_reducible refine Kd.C_drewN ?_ _) | (with_reducible refine Kd.C_drew ?_))); (case side4 => exact (Kd.R_reads' HO227.out).2.1); rintro e w28 ⟨v229, rfl, ho0, hb⟩; refine ⟨_, rfl, ?_⟩; have n0_ := Aside0.mk (Kd.R_below (by (with_reducible repeat (first | apply Kd.R_alloc | apply Kd.R_drewN | apply Kd.R_drew)); exact HO227.out) hb); have n1_ := Aside0.mk (Kd.R_lower ho0 (below_size (by repeat (first | (with_reducible first | exact HB.out | apply below_alloc | apply pw_below_drewN | apply below_drew1) | exact HB.out)))); have n2_ := Aside0.mk (below_step (by repeat (first | (with_reducible first | exact HB.out | apply below_alloc | apply pw_below_drewN | apply below_drew1) | exact HB.out)) hb); clear HO227; clear HB; have HO227 := n0_; have HO230 := n1_; have HB := n2_; clear n0_ n1_ n2_; (try clear hb); (try clear hb2); (try clear hk); (try clear hi); (try clear ho0)) | ((with_reducible refine gate_dst (N := 12) rfl ?_); refine Kd.R_lit (Kd.int .i64) _ 3 ?hg (N := 12) ?hd (xs := ([3, 5] : List Int)) (inner := [.int .i64 3, .int .i64 5]) (ok := fun _ => True) (okp := fun _ => True) ?hr ?hp (fun _ hk => hk) trivial (Below.refl _ _) (Nat.le_refl _) (by simp) ?_; (case hd => rfl); (case hg => rfl); (case hr => first | (go_simp; done) | (go_simp; rfl)); (case hp => exact (Reps.one (show Kd.M (Kd.int .i64) _ _ _ 3 [.int .i64 3] from rfl) (Reps.one (show Kd.M (Kd.int .i64) _ _ _ 5 [.int .i64 5] from rfl) (Reps.none _ _)))); intro v233 w29 ho30 hb hg_ hnew_; clear hg_ hnew_; (first | rw [← Ny232.out] at ho30 | (simp only [Int.reduceToNat] at ho30; rw [← Ny232.out] at ho30)); have n0_ := Aside0.mk (Kd.R_elder' (by (with_reducible repeat (first | apply Kd.R_alloc | apply Kd.R_drewN | apply Kd.R_drew)); exact HO227.out) (Kd.R_base ho30) hb); have n1_ := Aside0.mk (Kd.R_below (by (with_reducible repeat (first | apply Kd.R_alloc | apply Kd.R_drewN | apply Kd.R_drew)); exact HO230.out) hb); have n2_ := Aside0.mk (Kd.R_lower (Kd.R_new' ho30 (Kd.R_lt (by (with_reducible repeat (first | apply Kd.R_alloc | apply Kd.R_drewN | apply Kd.R_drew)); exact HO227.out))) (below_size (by repeat (first | (with_reducible first | exact HB.out | apply below_alloc | apply pw_below_drewN | apply below_drew1) | exact HB.out)))); have n3_ := Aside0.mk (below_step (by repeat (first | (with_reducible first | exact HB.out | apply below_alloc | apply pw_below_drewN | apply below_drew1) | exact HB.out)) hb); clear HO227; clear HO230; clear HB; have HO227 := n0_; have HO230 := n1_; have HO234 := n2_; have HB := n3_; clear n0_ n1_ n2_ n3_; clear hb ho30; obtain ⟨Ao31, co31, eo31⟩ := Kd.R_slice HO234.out; subst eo31) | ((with_reducible refine gate_callee (f := 23) rfl ?_); refine goesL_ (some 14) rfl rfl Try.func23 (by kernel_rfl) rfl #[.slice none 0 0, .int .i64 0, .agg #[.int .u8 2, .int .u8 0, .int .i64 5, .slice Ao31 y232.length co31]] rfl (by (try simp only [List.map_toArray, List.map_cons, List.map_nil]); first | done | rfl | (simp only [List.length_drop, List.length_take]; rfl)) ?_; (refine (info_Put.calls _ _ ([] : List Int) 0 2 0 5 _ _ y232 t235 t238 _ ?side1 ?side2 ?side3 ?side4 A2.out).mono ?_); (case side1 => exact Kd.C_nil _ _); (case side2 => exact Nat.le_refl _); (case side3 => repeat (first | exact (Kd.R_reads' HO234.out).2.2 | (with_reducible refine Kd.C_alloc ?_ _) | (with_reducible refine Kd.C_drewN ?_ _) | (with_reducible refine Kd.C_drew ?_))); (case side4 => exact (Kd.R_reads' HO234.out).2.1); rintro e w32 ⟨v236, rfl, ho0, hb⟩; refine ⟨_, rfl, ?_⟩; have n0_ := Aside0.mk (Kd.R_below (by (with_reducible repeat (first | apply Kd.R_alloc | apply Kd.R_drewN | apply Kd.R_drew)); exact HO227.out) hb); have n1_ := Aside0.mk (Kd.R_elder' (by (with_reducible repeat (first | apply Kd.R_alloc | apply Kd.R_drewN | apply Kd.R_drew)); exact HO230.out) (Kd.R_base ho0) hb); have n2_ := Aside0.mk (Kd.R_below (by (with_reducible repeat (first | apply Kd.R_alloc | apply Kd.R_drewN | apply Kd.R_drew)); exact HO234.out) hb); have n3_ := Aside0.mk (Kd.R_lower (Kd.R_new' ho0 (Kd.R_lt (by (with_reducible repeat (first | apply Kd.R_alloc | apply Kd.R_drewN | apply Kd.R_drew)); exact HO230.out))) (below_size (by repeat (first | (with_reducible first | exact HB.out | apply below_alloc | apply pw_below_drewN | apply below_drew1) | exact HB.out)))); have n4_ := Aside0.mk (below_step (by repeat (first | (with_reducible first | exact HB.out | apply below_alloc | apply pw_below_drewN | apply below_drew1) | exact HB.out)) hb); clear HO227; clear HO230; clear HO234; clear HB; have HO227 := n0_; have HO230 := n1_; have HO234 := n2_; have HO237 := n3_; have HB := n4_; clear n0_ n1_ n2_ n3_ n4_; (try clear hb); (try clear hb2); (try clear hk); (try clear hi); (try clear ho0); have hcv33 := own_string (P := Try.prog) Try.underlying42 Try.underlying5 Try.underlying9 (Kd.own_of_R HO230.out)))
      go_ret
      exact ⟨by first | rfl | (simp [errW_none, errW_some] <;> rfl) | (simp [*, errW_none, errW_some] <;> rfl), by repeat (first | (with_reducible first | exact HB.out | apply below_alloc | apply pw_below_drewN | apply below_drew1) | exact HB.out)⟩
  · rw [if_neg c3] at H
    have c3b0 : (t231 == 0) = false := beq_eq_false_iff_ne.mpr c3
    have c3b1 : (t231 != 0) = true := bne_iff_ne.mpr c3
    obtain rfl := Option.some.inj H
    go_enter Try.func21, Try.ntmps21
    go_wp2_with (first | ((with_reducible refine gate_dst (N := 6) rfl ?_); refine Kd.R_lit (Kd.int .i64) _ 3 ?hg (N := 6) ?hd (xs := ([1] : List Int)) (inner := [.int .i64 1]) (ok := fun _ => True) (okp := fun _ => True) ?hr ?hp (fun _ hk => hk) trivial (Below.refl _ _) (Nat.le_refl _) (by simp) ?_; (case hd => rfl); (case hg => rfl); (case hr => first | (go_simp; done) | (go_simp; rfl)); (case hp => exact (Reps.one (show Kd.M (Kd.int .i64) _ _ _ 1 [.int .i64 1] from rfl) (Reps.none _ _))); intro v226 w34 ho35 hb hg_ hnew_; clear hg_ hnew_; (first | rw [← Ny225.out] at ho35 | (simp only [Int.reduceToNat] at ho35; rw [← Ny225.out] at ho35)); have n0_ := Aside0.mk (Kd.R_lower ho35 (below_size (by repeat (first | (with_reducible first | exact HB.out | apply below_alloc | apply pw_below_drewN | apply below_drew1) | exact HB.out)))); have n1_ := Aside0.mk (below_step (by repeat (first | (with_reducible first | exact HB.out | apply below_alloc | apply pw_below_drewN | apply below_drew1) | exact HB.out)) hb); clear HB; have HO227 := n0_; have HB := n1_; clear n0_ n1_; clear hb ho35; obtain ⟨Ao36, co36, eo36⟩ := Kd.R_slice HO227.out; subst eo36) | ((with_reducible refine gate_callee (f := 23) rfl ?_); refine goesL_ (some 8) rfl rfl Try.func23 (by kernel_rfl) rfl #[.slice none 0 0, .int .i64 0, .agg #[.int .u8 0, .int .u8 1, .int .i64 3, .slice Ao36 y225.length co36]] rfl (by (try simp only [List.map_toArray, List.map_cons, List.map_nil]); first | done | rfl | (simp only [List.length_drop, List.length_take]; rfl)) ?_; (refine (info_Put.calls _ _ ([] : List Int) 0 0 1 3 _ _ y225 t228 t231 _ ?side1 ?side2 ?side3 ?side4 A1.out).mono ?_); (case side1 => exact Kd.C_nil _ _); (case side2 => exact Nat.le_refl _); (case side3 => repeat (first | exact (Kd.R_reads' HO227.out).2.2 | (with_reducible refine Kd.C_alloc ?_ _) | (with_reducible refine Kd.C_drewN ?_ _) | (with_reducible refine Kd.C_drew ?_))); (case side4 => exact (Kd.R_reads' HO227.out).2.1); rintro e w37 ⟨v229, rfl, ho0, hb⟩; refine ⟨_, rfl, ?_⟩; have n0_ := Aside0.mk (Kd.R_below (by (with_reducible repeat (first | apply Kd.R_alloc | apply Kd.R_drewN | apply Kd.R_drew)); exact HO227.out) hb); have n1_ := Aside0.mk (Kd.R_lower ho0 (below_size (by repeat (first | (with_reducible first | exact HB.out | apply below_alloc | apply pw_below_drewN | apply below_drew1) | exact HB.out)))); have n2_ := Aside0.mk (below_step (by repeat (first | (with_reducible first | exact HB.out | apply below_alloc | apply pw_below_drewN | apply below_drew1) | exact HB.out)) hb); clear HO227; clear HB; have HO227 := n0_; have HO230 := n1_; have HB := n2_; clear n0_ n1_ n2_; (try clear hb); (try clear hb2); (try clear hk); (try clear hi); (try clear ho0)) | ((with_reducible refine gate_dst (N := 12) rfl ?_); refine Kd.R_lit (Kd.int .i64) _ 3 ?hg (N := 12) ?hd (xs := ([3, 5] : List Int)) (inner := [.int .i64 3, .int .i64 5]) (ok := fun _ => True) (okp := fun _ => True) ?hr ?hp (fun _ hk => hk) trivial (Below.refl _ _) (Nat.le_refl _) (by simp) ?_; (case hd => rfl); (case hg => rfl); (case hr => first | (go_simp; done) | (go_simp; rfl)); (case hp => exact (Reps.one (show Kd.M (Kd.int .i64) _ _ _ 3 [.int .i64 3] from rfl) (Reps.one (show Kd.M (Kd.int .i64) _ _ _ 5 [.int .i64 5] from rfl) (Reps.none _ _)))); intro v233 w38 ho39 hb hg_ hnew_; clear hg_ hnew_; (first | rw [← Ny232.out] at ho39 | (simp only [Int.reduceToNat] at ho39; rw [← Ny232.out] at ho39)); have n0_ := Aside0.mk (Kd.R_elder' (by (with_reducible repeat (first | apply Kd.R_alloc | apply Kd.R_drewN | apply Kd.R_drew)); exact HO227.out) (Kd.R_base ho39) hb); have n1_ := Aside0.mk (Kd.R_below (by (with_reducible repeat (first | apply Kd.R_alloc | apply Kd.R_drewN | apply Kd.R_drew)); exact HO230.out) hb); have n2_ := Aside0.mk (Kd.R_lower (Kd.R_new' ho39 (Kd.R_lt (by (with_reducible repeat (first | apply Kd.R_alloc | apply Kd.R_drewN | apply Kd.R_drew)); exact HO227.out))) (below_size (by repeat (first | (with_reducible first | exact HB.out | apply below_alloc | apply pw_below_drewN | apply below_drew1) | exact HB.out)))); have n3_ := Aside0.mk (below_step (by repeat (first | (with_reducible first | exact HB.out | apply below_alloc | apply pw_below_drewN | apply below_drew1) | exact HB.out)) hb); clear HO227; clear HO230; clear HB; have HO227 := n0_; have HO230 := n1_; have HO234 := n2_; have HB := n3_; clear n0_ n1_ n2_ n3_; clear hb ho39; obtain ⟨Ao40, co40, eo40⟩ := Kd.R_slice HO234.out; subst eo40) | ((with_reducible refine gate_callee (f := 23) rfl ?_); refine goesL_ (some 14) rfl rfl Try.func23 (by kernel_rfl) rfl #[.slice none 0 0, .int .i64 0, .agg #[.int .u8 2, .int .u8 0, .int .i64 5, .slice Ao40 y232.length co40]] rfl (by (try simp only [List.map_toArray, List.map_cons, List.map_nil]); first | done | rfl | (simp only [List.length_drop, List.length_take]; rfl)) ?_; (refine (info_Put.calls _ _ ([] : List Int) 0 2 0 5 _ _ y232 t235 t238 _ ?side1 ?side2 ?side3 ?side4 A2.out).mono ?_); (case side1 => exact Kd.C_nil _ _); (case side2 => exact Nat.le_refl _); (case side3 => repeat (first | exact (Kd.R_reads' HO234.out).2.2 | (with_reducible refine Kd.C_alloc ?_ _) | (with_reducible refine Kd.C_drewN ?_ _) | (with_reducible refine Kd.C_drew ?_))); (case side4 => exact (Kd.R_reads' HO234.out).2.1); rintro e w41 ⟨v236, rfl, ho0, hb⟩; refine ⟨_, rfl, ?_⟩; have n0_ := Aside0.mk (Kd.R_below (by (with_reducible repeat (first | apply Kd.R_alloc | apply Kd.R_drewN | apply Kd.R_drew)); exact HO227.out) hb); have n1_ := Aside0.mk (Kd.R_elder' (by (with_reducible repeat (first | apply Kd.R_alloc | apply Kd.R_drewN | apply Kd.R_drew)); exact HO230.out) (Kd.R_base ho0) hb); have n2_ := Aside0.mk (Kd.R_below (by (with_reducible repeat (first | apply Kd.R_alloc | apply Kd.R_drewN | apply Kd.R_drew)); exact HO234.out) hb); have n3_ := Aside0.mk (Kd.R_lower (Kd.R_new' ho0 (Kd.R_lt (by (with_reducible repeat (first | apply Kd.R_alloc | apply Kd.R_drewN | apply Kd.R_drew)); exact HO230.out))) (below_size (by repeat (first | (with_reducible first | exact HB.out | apply below_alloc | apply pw_below_drewN | apply below_drew1) | exact HB.out)))); have n4_ := Aside0.mk (below_step (by repeat (first | (with_reducible first | exact HB.out | apply below_alloc | apply pw_below_drewN | apply below_drew1) | exact HB.out)) hb); clear HO227; clear HO230; clear HO234; clear HB; have HO227 := n0_; have HO230 := n1_; have HO234 := n2_; have HO237 := n3_; have HB := n4_; clear n0_ n1_ n2_ n3_ n4_; (try clear hb); (try clear hb2); (try clear hk); (try clear hi); (try clear ho0)))
    go_ret
    exact ⟨by first | rfl | (simp [errW_none, errW_some] <;> rfl) | (simp [*, errW_none, errW_some] <;> rfl), by repeat (first | (with_reducible first | exact HB.out | apply below_alloc | apply pw_below_drewN | apply below_drew1) | exact HB.out)⟩

end Go.Proofs.Ytdoeclpbobjgdaa.K
end
section
/- bits.Get without rounds: the number of some bits; what was put is got. -/
namespace Go.Proofs.Ytdoeclpbobjgdaa.SG
open Go.RowKit Go.Proofs.YtdoeclpbobjgdaaW.PrintWords Go.Proofs.YtdoeclpbobjgdaaW.PrintLast Go.Proofs.YtdoeclpbobjgdaaW.PrintMore Go.Proofs.Ytdoeclpbobjgdaa.HA Go.Proofs.Ytdoeclpbobjgdaa.HP Go.Proofs.Ytdoeclpbobjgdaa.K
set_option linter.unusedVariables false

theorem or_bit (n b : Int) (h0 : 0 ≤ n) (h1 : n ≤ 4611686018427387903) (hb0 : 0 ≤ b) (hb : b ≤ 1) : Go.bits .or .i64 (n * 2) b = n * 2 + b := by
  obtain ⟨a, rfl⟩ := Int.eq_ofNat_of_zero_le h0
  obtain ⟨c, rfl⟩ := Int.eq_ofNat_of_zero_le hb0
  have e1 : (BitVec.ofInt 64 ((a : Int) * 2)).toNat = 2 * a := by
    rw [show (a : Int) * 2 = ((2 * a : Nat) : Int) by omega, BitVec.ofInt_natCast, BitVec.toNat_ofNat]; exact Nat.mod_eq_of_lt (by omega)
  have e2 : (BitVec.ofInt 64 (c : Int)).toNat = c := by
    rw [BitVec.ofInt_natCast, BitVec.toNat_ofNat]; exact Nat.mod_eq_of_lt (by omega)
  show IntKind.i64.wrap ((BitVec.ofInt 64 ((a : Int) * 2) ||| BitVec.ofInt 64 (c : Int)).toNat : Int) = _
  have e3 := Nat.two_pow_add_eq_or_of_lt (i := 1) (b := c) (by omega) a
  rw [BitVec.toNat_or, e1, e2, show 2 * a = 2 ^ 1 * a from rfl, ← e3, IntKind.wrap_i64]
  omega

/-- The number whose bits stand behind n's. -/
def numFrom (n : Int) : List Int → Int
  | [] => n
  | x :: l => numFrom (n * 2 + x) l
def numOf (l : List Int) : Int := numFrom 0 l
def bitsOk (l : List Int) : Bool := l.all (fun x => decide (x ≤ 1))
theorem get_l0 (b : List Int) (hb : ∀ y ∈ b, 0 ≤ y ∧ y ≤ 255) (p size : Nat) (hs : size ≤ 31) (hl : p + size ≤ b.length) (hbl : b.length ≤ 4611686018427387904) : ∀ (d k i : Nat) (n : Int), size - i = d → i ≤ size → d < k → 0 ≤ n → n < 2 ^ i →
    bits_Get.l0 k b (p : Int) (size : Int) n (size : Int) (i : Int) = some (if bitsOk ((b.drop (p + i)).take d) = true then (numFrom n ((b.drop (p + i)).take d), ((p + size : Nat) : Int), 0) else (0, 0, 8)) := by
  intro d
  induction d with
  | zero =>
    intro k i n hd hi hk h0 h1
    obtain ⟨k, rfl⟩ : ∃ m, k = m + 1 := ⟨k - 1, by omega⟩
    simp only [bits_Get.l0]
    rw [if_neg (by omega), wrap_id _ (by omega) (by omega)]
    simp [bitsOk, numFrom]
  | succ d ih =>
    intro k i n hd hi hk h0 h1
    obtain ⟨k, rfl⟩ : ∃ m, k = m + 1 := ⟨k - 1, by omega⟩
    simp only [bits_Get.l0]
    have hw : wrap64 ((p : Int) + (i : Int)) = ((p + i : Nat) : Int) := by rw [wrap_id _ (by omega) (by omega)]; omega
    rw [hw, if_pos (by omega), if_pos (by omega), if_pos (by omega), drop_at b (p + i) (by omega), List.take_succ_cons]
    have hr : 0 ≤ rd b ((p + i : Nat) : Int) ∧ rd b ((p + i : Nat) : Int) ≤ 255 := by rw [rd_at b (p + i) (by omega)]; exact hb _ (List.getElem_mem _)
    have h31 : (2 : Int) ^ i ≤ 2147483648 := by
      have h31 : (2 : Int) ^ i ≤ 2 ^ 31 := by exact_mod_cast Nat.pow_le_pow_right (by omega) (show i ≤ 31 by omega)
      simpa using h31
    by_cases hx : rd b ((p + i : Nat) : Int) > 1
    · rw [if_pos hx, if_neg]
      simp only [bitsOk, List.all_cons, Bool.and_eq_true, decide_eq_true_eq]
      intro h
      omega
    · rw [if_neg hx, wrap_id (n * 2) (by omega) (by omega), wrap_id (rd b ((p + i : Nat) : Int)) (by omega) (by omega), or_bit n _ h0 (by omega) hr.1 (by omega), wrap_succ i (by omega)]
      rw [ih k (i + 1) (n * 2 + rd b ((p + i : Nat) : Int)) (by omega) (by omega) (by omega) (by omega) (by rw [Int.pow_succ]; omega)]
      rw [show p + (i + 1) = p + i + 1 by omega]
      have e1 : decide (rd b ((p + i : Nat) : Int) ≤ 1) = true := decide_eq_true (by omega)
      simp only [bitsOk, List.all_cons, e1, Bool.true_and, numFrom]
      rfl
def getS (b : List Int) (p size : Int) : Int × Int × Int :=
  if size < 0 ∨ size > 31 ∨ p < 0 ∨ p > b.length then (0, 0, 2) else if (b.length : Int) - p < size then (0, 0, 5)
  else if bitsOk ((b.drop p.toNat).take size.toNat) = true then (numOf ((b.drop p.toNat).take size.toNat), p + size, 0) else (0, 0, 8)
theorem get_f (b : List Int) (hb : ∀ y ∈ b, 0 ≤ y ∧ y ≤ 255) (hbl : b.length ≤ 4611686018427387904) (p size : Int) (k : Nat) (hk : 40 < k) : bits_Get.f k b p size = some (getS b p size) := by
  unfold bits_Get.f getS
  obtain ⟨k, rfl⟩ : ∃ m, k = m + 1 := ⟨k - 1, by omega⟩
  have hz : bits_sized.f size = some (decide (0 ≤ size ∧ size ≤ 31)) := by
    unfold bits_sized.f
    by_cases h0 : size ≥ 0
    · rw [if_pos h0]
      simp [h0]
    · rw [if_neg h0]
      simp
      omega
  rw [hz]
  simp only [Option.bind_some, decide_eq_true_eq]
  by_cases h1 : 0 ≤ size ∧ size ≤ 31
  · rw [if_pos h1]
    by_cases h2 : p < 0
    · rw [if_pos h2, if_pos (Or.inr (Or.inr (Or.inl h2)))]
      simp only [bits_Get.j0, if_true]
    · rw [if_neg h2]
      by_cases h3 : p > b.length
      · rw [decide_eq_true h3, if_pos (Or.inr (Or.inr (Or.inr h3)))]
        simp only [bits_Get.j0, if_true]
      · rw [decide_eq_false h3, if_neg (by omega)]
        simp only [bits_Get.j0, Bool.false_eq_true, if_false]
        rw [wrap_id _ (by omega) (by omega)]
        by_cases h4 : (b.length : Int) - p < size
        · rw [if_pos h4, if_pos h4]
        · rw [if_neg h4, if_neg h4]
          obtain ⟨q, rfl⟩ := Int.eq_ofNat_of_zero_le (show 0 ≤ p by omega)
          obtain ⟨s, rfl⟩ := Int.eq_ofNat_of_zero_le h1.1
          have := get_l0 b hb q s (by omega) (by omega) hbl s k 0 0 (by omega) (by omega) (by omega) (by omega) (by decide)
          simp only [Nat.add_zero] at this
          rw [show ((0 : Nat) : Int) = 0 from rfl] at this
          rw [this]
          simp only [Int.toNat_natCast, numOf]
          rw [Int.natCast_add]
  · rw [if_neg h1, if_pos (by omega)]
    simp only [bits_Get.j0, if_true]

/-! ### numbers and their bits -/
theorem numFrom_append (n : Int) (l r : List Int) : numFrom n (l ++ r) = numFrom (numFrom n l) r := by
  induction l generalizing n with
  | nil => rfl
  | cons x l ih => exact ih _
theorem numFrom_bounds (l : List Int) (h : ∀ x ∈ l, 0 ≤ x ∧ x ≤ 1) : ∀ n : Int, 0 ≤ n → n * 2 ^ l.length ≤ numFrom n l ∧ numFrom n l < (n + 1) * 2 ^ l.length := by
  induction l with
  | nil => intro n h0; simp [numFrom]; omega
  | cons x l ih =>
    intro n h0
    have hx := h x List.mem_cons_self
    obtain ⟨i1, i2⟩ := ih (fun y hy => h y (List.mem_cons_of_mem _ hy)) (n * 2 + x) (by omega)
    have hp : (0 : Int) < 2 ^ l.length := Int.pow_pos (by omega)
    simp only [numFrom, List.length_cons, Int.pow_succ]
    constructor
    · refine Int.le_trans ?_ i1
      have : n * (2 ^ l.length * 2) = (n * 2) * 2 ^ l.length := by rw [Int.mul_comm (2 ^ l.length) 2, ← Int.mul_assoc]
      rw [this]
      exact Int.mul_le_mul_of_nonneg_right (by omega) (by omega)
    · refine Int.lt_of_lt_of_le i2 ?_
      have : (n + 1) * (2 ^ l.length * 2) = ((n + 1) * 2) * 2 ^ l.length := by rw [Int.mul_comm (2 ^ l.length) 2, ← Int.mul_assoc]
      rw [this]
      exact Int.mul_le_mul_of_nonneg_right (by omega) (by omega)
theorem numOf_bounds (l : List Int) (h : ∀ x ∈ l, 0 ≤ x ∧ x ≤ 1) : 0 ≤ numOf l ∧ numOf l < 2 ^ l.length := by
  have := numFrom_bounds l h 0 (by omega)
  unfold numOf
  omega
theorem bitsOf_succ (n : Int) (s : Nat) : bitsOf n (s + 1) = bitsOf (n / 2) s ++ [n % 2] := by
  unfold bitsOf
  rw [upto_succ]
  congr 1
  · unfold upto
    apply List.map_congr_left
    intro j hj
    have hj : j < s := List.mem_range.1 hj
    unfold bitAt
    rw [show s + 1 - 1 - j = (s - 1 - j) + 1 by omega, Int.pow_succ, Int.mul_comm, Int.ediv_ediv_of_nonneg (by omega : (0:Int) ≤ 2)]
  · unfold bitAt
    simp
theorem numOf_bitsOf (s : Nat) : ∀ n : Int, 0 ≤ n → n < 2 ^ s → numOf (bitsOf n s) = n := by
  induction s with
  | zero =>
    intro n h0 h1
    simp at h1
    obtain rfl : n = 0 := by omega
    rfl
  | succ s ih =>
    intro n h0 h1
    rw [Int.pow_succ] at h1
    have := ih (n / 2) (by omega) (by omega)
    rw [bitsOf_succ]
    unfold numOf at this ⊢
    rw [numFrom_append, this]
    simp only [numFrom]
    omega
theorem bitsOf_numOf (l : List Int) (h : ∀ x ∈ l, 0 ≤ x ∧ x ≤ 1) : bitsOf (numOf l) l.length = l := by
  induction hl : l.length generalizing l with
  | zero =>
    have : l = [] := List.eq_nil_of_length_eq_zero hl
    subst this
    rfl
  | succ s ih =>
    have hne : l ≠ [] := by intro e; subst e; cases hl
    obtain ⟨r, x, rfl⟩ : ∃ r x, l = r ++ [x] := ⟨l.dropLast, l.getLast hne, (List.dropLast_concat_getLast hne).symm⟩
    have hx := h x (by simp)
    have hr : r.length = s := by simpa using hl
    have hi := ih r (fun y hy => h y (by simp [hy])) hr
    rw [bitsOf_succ]
    have e : numOf (r ++ [x]) = numOf r * 2 + x := by
      unfold numOf
      rw [numFrom_append]
      rfl
    rw [e, show (numOf r * 2 + x) / 2 = numOf r by omega, show (numOf r * 2 + x) % 2 = x by omega, hi]
theorem bitsOf_01 (n : Int) (s : Nat) : ∀ x ∈ bitsOf n s, 0 ≤ x ∧ x ≤ 1 := by
  intro x hx
  unfold bitsOf upto at hx
  obtain ⟨j, _, rfl⟩ := List.mem_map.1 hx
  unfold bitAt
  omega
theorem bitsOk_of {l : List Int} (h : ∀ x ∈ l, 0 ≤ x ∧ x ≤ 1) : bitsOk l = true := by
  unfold bitsOk
  rw [List.all_eq_true]
  intro x hx
  exact decide_eq_true (h x hx).2
/-- What was put is got. -/
theorem getS_put (pre post : List Int) (n : Int) (s : Nat) (hs : s ≤ 31) (h0 : 0 ≤ n) (h1 : n < 2 ^ s) : getS (pre ++ bitsOf n s ++ post) (pre.length : Int) (s : Int) = (n, ((pre.length + s : Nat) : Int), 0) := by
  have hl := bitsOf_length n s
  have e : ((pre ++ bitsOf n s ++ post).drop pre.length).take s = bitsOf n s := by
    rw [List.append_assoc, List.drop_left]
    conv => lhs; arg 1; rw [← hl]
    exact List.take_left
  unfold getS
  simp only [Int.toNat_natCast]
  rw [if_neg (by simp only [List.length_append]; omega), if_neg (by simp only [List.length_append]; omega), e, bitsOk_of (bitsOf_01 n s), if_pos rfl, numOf_bitsOf s n h0 h1]
  simp
/-- What is got when all is well: the bits that stand there are the number's. -/
theorem getS_ok {b : List Int} (hb : ∀ y ∈ b, 0 ≤ y ∧ y ≤ 255) {p size n q : Int} (h : getS b p size = (n, q, 0)) : 0 ≤ p ∧ 0 ≤ size ∧ size ≤ 31 ∧ q = p + size ∧ q ≤ b.length ∧ 0 ≤ n ∧ n < 2 ^ size.toNat ∧ (b.drop p.toNat).take size.toNat = bitsOf n size.toNat := by
  unfold getS at h
  split at h
  · simp at h
  · next h1 =>
    split at h
    · simp at h
    · next h2 =>
      split at h
      · next h3 =>
        simp only [Prod.mk.injEq, and_true] at h
        obtain ⟨rfl, rfl⟩ := h
        have h01 : ∀ x ∈ (b.drop p.toNat).take size.toNat, 0 ≤ x ∧ x ≤ 1 := by
          intro x hx
          refine ⟨(hb x (List.mem_of_mem_drop (List.mem_of_mem_take hx))).1, ?_⟩
          unfold bitsOk at h3
          simpa using List.all_eq_true.1 h3 x hx
        have hlen : ((b.drop p.toNat).take size.toNat).length = size.toNat := by
          rw [List.length_take, List.length_drop]
          omega
        have hbd := numOf_bounds _ h01
        have hbo := bitsOf_numOf _ h01
        rw [hlen] at hbd hbo
        exact ⟨by omega, by omega, by omega, rfl, by omega, hbd.1, hbd.2, hbo.symm⟩
      · simp at h
/-- Whatever is got is a number of so many bits. -/
theorem getS_bounds {b : List Int} (hb : ∀ y ∈ b, 0 ≤ y ∧ y ≤ 255) (p : Int) (s : Nat) : 0 ≤ (getS b p s).1 ∧ (getS b p s).1 < 2 ^ s ∧ 0 ≤ (getS b p s).2.1 ∧ (getS b p s).2.1 ≤ b.length ∧ ((getS b p s).2.2 = 0 ∨ (getS b p s).2.2 = 2 ∨ (getS b p s).2.2 = 5 ∨ (getS b p s).2.2 = 8) ∧ ((getS b p s).2.2 ≠ 0 → getS b p s = (0, 0, (getS b p s).2.2)) := by
  have hp : (0 : Int) < 2 ^ s := Int.pow_pos (by omega)
  rcases hg : getS b p s with ⟨n, q, e⟩
  by_cases he : e = 0
  · subst he
    obtain ⟨h1, h2, h3, h4, h5, h6, h7, _⟩ := getS_ok hb hg
    simp only [Int.toNat_natCast] at h7
    exact ⟨h6, h7, by show 0 ≤ q; omega, h5, Or.inl rfl, fun h => absurd rfl h⟩
  · unfold getS at hg
    split at hg
    · simp only [Prod.mk.injEq] at hg
      obtain ⟨rfl, rfl, rfl⟩ := hg
      exact ⟨Int.le_refl _, hp, Int.le_refl _, Int.natCast_nonneg _, by simp, fun _ => rfl⟩
    · split at hg
      · simp only [Prod.mk.injEq] at hg
        obtain ⟨rfl, rfl, rfl⟩ := hg
        exact ⟨Int.le_refl _, hp, Int.le_refl _, Int.natCast_nonneg _, by simp, fun _ => rfl⟩
      · split at hg
        · simp only [Prod.mk.injEq] at hg
          exact absurd hg.2.2.symm he
        · simp only [Prod.mk.injEq] at hg
          obtain ⟨rfl, rfl, rfl⟩ := hg
          exact ⟨Int.le_refl _, hp, Int.le_refl _, Int.natCast_nonneg _, by simp, fun _ => rfl⟩
end Go.Proofs.Ytdoeclpbobjgdaa.SG
end
section
/- info.Get as a plain function of bits. -/
namespace Go.Proofs.Ytdoeclpbobjgdaa.SG
open Go.RowKit Go.Proofs.YtdoeclpbobjgdaaW.PrintWords Go.Proofs.YtdoeclpbobjgdaaW.PrintLast Go.Proofs.YtdoeclpbobjgdaaW.PrintMore Go.Proofs.Ytdoeclpbobjgdaa.HA Go.Proofs.Ytdoeclpbobjgdaa.HP Go.Proofs.Ytdoeclpbobjgdaa.K
set_option linter.unusedVariables false

/-- The number of the next bits, where no error has been met; (place, error). -/
def getN (b : List Int) (s : Int × Int) (size : Int) : Int × Int × Int := if s.2 = 0 then getS b s.1 size else (0, s.1, s.2)
/-- Last number of a list one greater. -/
def bump (gs : List Int) : List Int := gs.set (gs.length - 1) (rd gs ((gs.length - 1 : Nat) : Int) + 1)
def grpStep (b : List Int) (st : List Int × Int × Int) : List Int × Int × Int :=
  (if (getN b st.2 1).1 = 1 then bump st.1 else st.1 ++ [1], (getN b st.2 1).2)
def grpN (b : List Int) (s0 : List Int × Int × Int) : Nat → List Int × Int × Int
  | 0 => s0
  | i + 1 => grpStep b (grpN b s0 i)
def getFin (rate odd seq shape max : Int) (st : List Int × Int × Int) : Int × Int × Int × List Int × Int × Int :=
  if st.2.2 ≠ 0 then (0, 0, 0, [], 0, st.2.2) else if odd ≠ 0 ∨ SP.checkS rate seq shape max st.1 ≠ 0 then (0, 0, 0, [], 0, 8) else (seq, shape, max, st.1, st.2.1, 0)
def getInfo (b : List Int) (p rate : Int) : Int × Int × Int × List Int × Int × Int :=
  if rate < 0 ∨ rate > 11 then (0, 0, 0, [], 0, 2) else
  if (getN b (getN b (p, 0) 1).2 2).1 = 2 then
    getFin rate (getN b (p, 0) 1).1 2 (getN b (getN b (getN b (p, 0) 1).2 2).2 1).1 (getN b (getN b (getN b (getN b (p, 0) 1).2 2).2 1).2 4).1
      (grpN b ([1], (getN b (getN b (getN b (getN b (p, 0) 1).2 2).2 1).2 4).2) 7)
  else
    getFin rate (Go.bits .or .i64 (getN b (p, 0) 1).1 (getN b (getN b (getN b (getN b (getN b (p, 0) 1).2 2).2 1).2 6).2 1).1) (getN b (getN b (p, 0) 1).2 2).1 (getN b (getN b (getN b (p, 0) 1).2 2).2 1).1
      (getN b (getN b (getN b (getN b (p, 0) 1).2 2).2 1).2 6).1 ([1], (getN b (getN b (getN b (getN b (getN b (p, 0) 1).2 2).2 1).2 6).2 1).2)
theorem getN_bounds {b : List Int} (hb : ∀ y ∈ b, 0 ≤ y ∧ y ≤ 255) (s : Int × Int) (n : Nat) : 0 ≤ (getN b s n).1 ∧ (getN b s n).1 < 2 ^ n := by
  unfold getN
  split
  · have := getS_bounds hb s.1 n
    exact ⟨this.1, this.2.1⟩
  · exact ⟨Int.le_refl _, Int.pow_pos (by omega)⟩
/-- Groups as they are got: each is from 1 to 1 + the rounds; the list is not empty. -/
def grpOk (i : Nat) (gs : List Int) : Prop := 0 < gs.length ∧ gs.length ≤ 1 + i ∧ ∀ y ∈ gs, 1 ≤ y ∧ y ≤ 1 + i
theorem grpOk_step {b : List Int} {st : List Int × Int × Int} {i : Nat} (h : grpOk i st.1) : grpOk (i + 1) (grpStep b st).1 := by
  obtain ⟨h1, h2, h3⟩ := h
  unfold grpStep
  dsimp only
  split
  · unfold bump
    refine ⟨by rw [List.length_set]; exact h1, by rw [List.length_set]; omega, fun y hy => ?_⟩
    rcases List.mem_or_eq_of_mem_set hy with hy | rfl
    · have := h3 y hy
      omega
    · rw [rd_at _ _ (by omega)]
      have := h3 _ (List.getElem_mem (show st.1.length - 1 < st.1.length by omega))
      omega
  · refine ⟨by simp, by simp; omega, fun y hy => ?_⟩
    rcases List.mem_append.1 hy with hy | hy
    · have := h3 y hy
      omega
    · rw [List.mem_singleton.1 hy]
      omega
theorem grpOk_n (b : List Int) (s : Int × Int) : ∀ i, grpOk i (grpN b ([1], s) i).1
  | 0 => ⟨by simp [grpN], by simp [grpN], fun y hy => by simp [grpN] at hy; omega⟩
  | i + 1 => grpOk_step (grpOk_n b s i)
end Go.Proofs.Ytdoeclpbobjgdaa.SG
end
section
-- Written for this claim by this session's own wip/hook.py (it runs the kit's print and takes some functions' contracts as given texts of this session's).
namespace Go.Proofs.Ytdoeclpbobjgdaa.K
open Go.RowKit Go.Proofs.YtdoeclpbobjgdaaW.PrintWords Go.Proofs.YtdoeclpbobjgdaaW.PrintLast Go.Proofs.YtdoeclpbobjgdaaW.PrintMore
attribute [local go_sem] max2_int min2_int max_two min_two max_three min_three max_four min_four   -- for this text's walks alone
set_option linter.unusedVariables false
set_option linter.unusedSimpArgs false

/-! ### info_Get: function 24: GIVEN BY HAND -/
-- IMPORT Derived.Test.YtdoeclpbobjgdaaSPH
/-- The boxes of the named results, of the bits; the windows' record. -/
def GetC (w0 : World) (B I M E : Nat) (A : Option Addr) (c : Nat) (b : List Int) (cs : Array Value) (W : World) (nx e : Int) : Prop :=
  (w0.heap.size ≤ B ∧ w0.heap.size ≤ I ∧ w0.heap.size ≤ M ∧ w0.heap.size ≤ E ∧ B ≠ I ∧ B ≠ M ∧ B ≠ E ∧ I ≠ M ∧ I ≠ E ∧ M ≠ E) ∧ Below w0.heap.size w0 W ∧
  W.heap[B]? = some (.cells #[.slice A b.length c] 42 (0, 0)) ∧ W.heap[I]? = some (.cells cs 24 (0, 0)) ∧
  W.heap[M]? = some (.cells #[.int .i64 nx] 3 (0, 0)) ∧ W.heap[E]? = some (.cells #[.int .i64 e] 26 (0, 0))
/-- Nothing but two boxes has turned. -/
def Stay2 (M E : Nat) (W W' : World) : Prop := W.heap.size = W'.heap.size ∧ ∀ k, k ≠ M → k ≠ E → W'.heap[k]? = W.heap[k]?
theorem GetC.qB {w0 : World} {B I M E : Nat} {A : Option Addr} {c : Nat} {b : List Int} {cs : Array Value} {W : World} {nx e : Int} (h : GetC w0 B I M E A c b cs W nx e) : W.cell? ⟨B, 0, none⟩ = some (.slice A b.length c) := (blk_cell h.2.2.1 0).trans rfl
theorem GetC.qI {w0 : World} {B I M E : Nat} {A : Option Addr} {c : Nat} {b : List Int} {cs : Array Value} {W : World} {nx e : Int} (h : GetC w0 B I M E A c b cs W nx e) (j : Nat) : W.cell? ⟨I, j, none⟩ = cs[j]? := blk_cell h.2.2.2.1 j
theorem GetC.fI {w0 : World} {B I M E : Nat} {A : Option Addr} {c : Nat} {b : List Int} {cs : Array Value} {W : World} {nx e : Int} (h : GetC w0 B I M E A c b cs W nx e) (j : Nat) : W.frozen? ⟨I, j, none⟩ = false := blk_frozen h.2.2.2.1 j
theorem GetC.qM {w0 : World} {B I M E : Nat} {A : Option Addr} {c : Nat} {b : List Int} {cs : Array Value} {W : World} {nx e : Int} (h : GetC w0 B I M E A c b cs W nx e) : W.cell? ⟨M, 0, none⟩ = some (.int .i64 nx) := (blk_cell h.2.2.2.2.1 0).trans rfl
theorem GetC.fM {w0 : World} {B I M E : Nat} {A : Option Addr} {c : Nat} {b : List Int} {cs : Array Value} {W : World} {nx e : Int} (h : GetC w0 B I M E A c b cs W nx e) : W.frozen? ⟨M, 0, none⟩ = false := blk_frozen h.2.2.2.2.1 0
theorem GetC.qE {w0 : World} {B I M E : Nat} {A : Option Addr} {c : Nat} {b : List Int} {cs : Array Value} {W : World} {nx e : Int} (h : GetC w0 B I M E A c b cs W nx e) : W.cell? ⟨E, 0, none⟩ = some (.int .i64 e) := (blk_cell h.2.2.2.2.2 0).trans rfl
theorem GetC.fE {w0 : World} {B I M E : Nat} {A : Option Addr} {c : Nat} {b : List Int} {cs : Array Value} {W : World} {nx e : Int} (h : GetC w0 B I M E A c b cs W nx e) : W.frozen? ⟨E, 0, none⟩ = false := blk_frozen h.2.2.2.2.2 0
/-- A store into the record. -/
theorem GetC.setI {w0 : World} {B I M E : Nat} {A : Option Addr} {c : Nat} {b : List Int} {cs cs' : Array Value} {W : World} {nx e : Int} (h : GetC w0 B I M E A c b cs W nx e) (j : Nat) (v : Value) (hcs : cs.setIfInBounds j v = cs') : GetC w0 B I M E A c b cs' (W.setCell ⟨I, j, none⟩ v) nx e := by
  obtain ⟨hd, hbel, hB, hI, hM, hE⟩ := h
  obtain ⟨h1, h2, h3, h4, n1, n2, n3, n4, n5, n6⟩ := hd
  exact ⟨⟨h1, h2, h3, h4, n1, n2, n3, n4, n5, n6⟩, below_set hbel h2, blk_far hB n1 _, blk_put hI j v hcs, blk_far hM (Ne.symm n4) _, blk_far hE (Ne.symm n5) _⟩
/-- What stays as it is: worlds that agree on the boxes. -/
theorem GetC.to {w0 : World} {B I M E : Nat} {A : Option Addr} {c : Nat} {b : List Int} {cs : Array Value} {W W1 : World} {nx e : Int} (h : GetC w0 B I M E A c b cs W nx e) (hb : Below w0.heap.size w0 W1) (hk : ∀ k, k = B ∨ k = I ∨ k = M ∨ k = E → W1.heap[k]? = W.heap[k]?) : GetC w0 B I M E A c b cs W1 nx e := by
  obtain ⟨hd, hbel, hB, hI, hM, hE⟩ := h
  exact ⟨hd, hb, (hk B (by simp)).trans hB, (hk I (by simp)).trans hI, (hk M (by simp)).trans hM, (hk E (by simp)).trans hE⟩
theorem GetC.below {w0 : World} {B I M E : Nat} {A : Option Addr} {c : Nat} {b : List Int} {cs : Array Value} {W W1 : World} {nx e : Int} (h : GetC w0 B I M E A c b cs W nx e) (hb : Below W.heap.size W W1) : GetC w0 B I M E A c b cs W1 nx e := by
  obtain ⟨hd, hbel, hB, hI, hM, hE⟩ := h
  exact ⟨hd, below_step hbel hb, blk_below hB hb, blk_below hI hb, blk_below hM hb, blk_below hE hb⟩
theorem GetC.drew {w0 : World} {B I M E : Nat} {A : Option Addr} {c : Nat} {b : List Int} {cs : Array Value} {W : World} {nx e : Int} (h : GetC w0 B I M E A c b cs W nx e) : GetC w0 B I M E A c b cs W.drew nx e := ⟨h.1, below_drew h.2.1, h.2.2⟩
theorem GetC.drewN {w0 : World} {B I M E : Nat} {A : Option Addr} {c : Nat} {b : List Int} {cs : Array Value} {W : World} {nx e : Int} (h : GetC w0 B I M E A c b cs W nx e) (n : Nat) : GetC w0 B I M E A c b cs (W.drewN n) nx e := ⟨h.1, pw_below_drewN h.2.1 n, h.2.2⟩
theorem GetC.putI {w0 : World} {B I M E : Nat} {A : Option Addr} {c : Nat} {b : List Int} {cs cs' : Array Value} {W : World} {nx e : Int} {j : Nat} {v : Value} (h : GetC w0 B I M E A c b cs W nx e) (hcs : cs.setIfInBounds j v = cs') : GetC w0 B I M E A c b cs' (W.setCell ⟨I, j, none⟩ v) nx e := h.setI j v hcs
theorem GetC.setE {w0 : World} {B I M E : Nat} {A : Option Addr} {c : Nat} {b : List Int} {cs : Array Value} {W : World} {nx e : Int} (h : GetC w0 B I M E A c b cs W nx e) (e' : Int) : GetC w0 B I M E A c b cs (W.setCell ⟨E, 0, none⟩ (.int .i64 e')) nx e' := by
  obtain ⟨hd, hbel, hB, hI, hM, hE⟩ := h
  obtain ⟨h1, h2, h3, h4, n1, n2, n3, n4, n5, n6⟩ := hd
  exact ⟨⟨h1, h2, h3, h4, n1, n2, n3, n4, n5, n6⟩, below_set hbel h4, blk_far hB n3 _, blk_far hI n5 _, blk_far hM n6 _, blk_put hE 0 _ rfl⟩
theorem GetC.setM {w0 : World} {B I M E : Nat} {A : Option Addr} {c : Nat} {b : List Int} {cs : Array Value} {W : World} {nx e : Int} (h : GetC w0 B I M E A c b cs W nx e) (e' : Int) : GetC w0 B I M E A c b cs (W.setCell ⟨M, 0, none⟩ (.int .i64 e')) e' e := by
  obtain ⟨hd, hbel, hB, hI, hM, hE⟩ := h
  obtain ⟨h1, h2, h3, h4, n1, n2, n3, n4, n5, n6⟩ := hd
  exact ⟨⟨h1, h2, h3, h4, n1, n2, n3, n4, n5, n6⟩, below_set hbel h3, blk_far hB n2 _, blk_far hI n4 _, blk_put hM 0 _ rfl, blk_far hE (Ne.symm n6) _⟩
theorem GetC.putM {w0 : World} {B I M E : Nat} {A : Option Addr} {c : Nat} {b : List Int} {cs : Array Value} {W : World} {nx e e' : Int} (h : GetC w0 B I M E A c b cs W nx e) : GetC w0 B I M E A c b cs (W.setCell ⟨M, 0, none⟩ (.int .i64 e')) e' e := h.setM e'
theorem GetC.putE {w0 : World} {B I M E : Nat} {A : Option Addr} {c : Nat} {b : List Int} {cs : Array Value} {W : World} {nx e e' : Int} (h : GetC w0 B I M E A c b cs W nx e) : GetC w0 B I M E A c b cs (W.setCell ⟨E, 0, none⟩ (.int .i64 e')) nx e' := h.setE e'
theorem info_Get.res {w0 : World} {B I M E : Nat} {A : Option Addr} {c : Nat} {b : List Int} {cs : Array Value} {W : World} {nx e : Int} (h : GetC w0 B I M E A c b cs W nx e) (hcs : cs.size = 4) (tmps : Array Value)
    (h6 : tmps.getD 6 undef = .pointer (some ⟨I, 0, none⟩)) (h7 : tmps.getD 7 undef = .pointer (some ⟨M, 0, none⟩)) (h8 : tmps.getD 8 undef = .pointer (some ⟨E, 0, none⟩)) : (results Try.f24 tmps).run Try.prog W = .ok (.tuple #[.agg cs, .int .i64 nx, .int .i64 e]) W := by
  have hM := h.qM
  have hE := h.qE
  have h6' : tmps[6]?.getD undef = .pointer (some ⟨I, 0, none⟩) := by simpa using h6
  have h7' : tmps[7]?.getD undef = .pointer (some ⟨M, 0, none⟩) := by simpa using h7
  have h8' : tmps[8]?.getD undef = .pointer (some ⟨E, 0, none⟩) := by simpa using h8
  have hl : (loadVar 24 ⟨I, 0, none⟩).run Try.prog W = .ok (.agg cs) W := run_loadVar_row W I 24 24 cs (0, 0) _ h.2.2.2.1 Try.underlying24 rfl (by rw [hcs]; kernel_rfl)
  have hm : (loadVar 3 ⟨M, 0, none⟩).run Try.prog W = .ok (.int .i64 nx) W := by simp [loadVar, go_sem, hM]
  have he : (loadVar 26 ⟨E, 0, none⟩).run Try.prog W = .ok (.int .i64 e) W := by simp [loadVar, go_sem, hE]
  simp [results, Try.results24, h6', h7', h8', asAddr, hl, hm, he]
theorem info_Get.fin {w0 : World} {B I M E : Nat} {A : Option Addr} {c : Nat} {b : List Int} {cs : Array Value} {W : World} {nx e : Int} {a : Act} {K : Ending → World → Prop} (h : GetC w0 B I M E A c b cs W nx e) (hcs : cs.size = 4)
    (h6 : a.tmps.getD 6 undef = .pointer (some ⟨I, 0, none⟩)) (h7 : a.tmps.getD 7 undef = .pointer (some ⟨M, 0, none⟩)) (h8 : a.tmps.getD 8 undef = .pointer (some ⟨E, 0, none⟩)) (hd : a.defers = []) (hK : Below w0.heap.size w0 W → K (.returned (.tuple #[.agg cs, .int .i64 nx, .int .i64 e])) W) :
    bodyPost Try.prog Try.f24 K .ret a W := bodyPost_ret (info_Get.res h hcs _ h6 h7 h8) hd (hK h.2.1)
def okB (B I M E k : Nat) : Prop := k ≠ B ∧ k ≠ I ∧ k ≠ M ∧ k ≠ E
theorem GetC.far {w0 : World} {B I M E : Nat} {A : Option Addr} {c : Nat} {b : List Int} {cs : Array Value} {W : World} {nx e : Int} {g j : Nat} {u : Value} (h : GetC w0 B I M E A c b cs W nx e) (hg : w0.heap.size ≤ g) (hk : okB B I M E g) : GetC w0 B I M E A c b cs (W.setCell ⟨g, j, none⟩ u) nx e := by
  obtain ⟨hd, hbel, hB, hI, hM, hE⟩ := h
  exact ⟨hd, below_set hbel hg, blk_far hB (Ne.symm hk.1) _, blk_far hI (Ne.symm hk.2.1) _, blk_far hM (Ne.symm hk.2.2.1) _, blk_far hE (Ne.symm hk.2.2.2) _⟩
theorem GetC.fresh {w0 : World} {B I M E : Nat} {A : Option Addr} {c : Nat} {b : List Int} {cs : Array Value} {W : World} {nx e : Int} (h : GetC w0 B I M E A c b cs W nx e) (k : Nat) (hk : W.heap.size ≤ k) : okB B I M E k := by
  obtain ⟨hd, hbel, hB, hI, hM, hE⟩ := h
  have := blk_lt hB; have := blk_lt hI; have := blk_lt hM; have := blk_lt hE
  exact ⟨by omega, by omega, by omega, by omega⟩
section
variable {ops : Array Oper} {rest : List Oper} {o : Oper} {a : Act} {Q : Exit → Act → World → Prop} {w0 : World} {B I M E : Nat} {A : Option Addr} {c : Nat} {b : List Int} {cs : Array Value} {W : World} {nx e : Int}
theorem info_Get.lit (h : GetC w0 B I M E A c b cs W nx e) (hgd : o.guard = none) {N : Tmp} (hd : o.dst = some N)
    (hrun : (execOp a.eval o).run Try.prog W = .ok (.value (.slice (some ⟨W.heap.size, 0, none⟩) ([1] : List Int).length ([1] : List Int).length)) (W.alloc (.cells [Value.int .i64 1].toArray 3)))
    (hk : ∀ v1 w1, Kd.R (Kd.int .i64) 3 w1 w0.heap.size (okB B I M E) v1 [1] → GetC w0 B I M E A c b cs w1 nx e → wpList Try.prog ops Q rest (a.put o.dst v1) w1) : wpList Try.prog ops Q (o :: rest) a W := by
  refine Kd.R_lit (Kd.int .i64) (w0 := W) w0.heap.size 3 hgd hd (xs := ([1] : List Int)) (inner := [.int .i64 1]) (ok := okB B I M E) (okp := okB B I M E) hrun (Reps.one (show Kd.M (Kd.int .i64) _ _ _ 1 [.int .i64 1] from rfl) (Reps.none _ _)) (fun _ hk => hk) (h.fresh _ (Nat.le_refl _)) ((Below.refl _ _)) h.2.1.size (by simp) ?_
  intro v1 w1 hr hb hg hn
  refine hk v1 w1 hr ?_
  have hz : ∀ k, k < W.heap.size → w1.heap[k]? = W.heap[k]? := fun k hk => hg.block k hk (by simp)
  have hw : Below w0.heap.size w0 w1 := ⟨hb.os.trans h.2.1.os, hb.tape.trans h.2.1.tape, hb.output.trans h.2.1.output, Nat.le_trans h.2.1.size hg.size, fun i hi => (hb.block i hi).trans (h.2.1.block i hi)⟩
  refine h.to hw ?_
  obtain ⟨_, _, hB, hI, hM, hE⟩ := h
  rintro k (rfl | rfl | rfl | rfl)
  · exact hz _ (blk_lt hB)
  · exact hz _ (blk_lt hI)
  · exact hz _ (blk_lt hM)
  · exact hz _ (blk_lt hE)
theorem info_Get.app {v : Value} {gs : List Int} (h : GetC w0 B I M E A c b cs W nx e) (hR : Kd.R (Kd.int .i64) 3 W w0.heap.size (okB B I M E) v gs) (hl : gs.length ≤ 100) (hgd : o.guard = none) (s x : Operand)
    (ho : o.op = .call { callee := .builtin .append, args := #[s, x], argTypes := #[22, 22] }) (hs : a.eval s = v) (hx : a.eval x = .slice (some ⟨W.heap.size, 0, none⟩) 1 1)
    (hk : ∀ v1 w1, Kd.R (Kd.int .i64) 3 w1 w0.heap.size (okB B I M E) v1 (gs ++ [1]) → GetC w0 B I M E A c b cs w1 nx e → wpList Try.prog ops Q rest (a.put o.dst v1) w1) : wpList Try.prog ops Q (o :: rest) a (W.alloc (.cells [Value.int .i64 1].toArray 3)) := by
  refine Kd.R_append (Kd.int .i64) (w0 := w0) w0.heap.size hgd s x 22 3 (.int .i64 0) 8 ho Try.underlying22 info3 rfl (by decide) (by omega) v gs 1 [.int .i64 1] (okB B I M E) (fun _ => False) hs hx rfl (fun _ hk => hk.elim) h.fresh hR h.2.1 h.2.1.size (by omega) ?_
  intro v1 w1 hr hb hg hat
  refine hk v1 w1 hr (h.to hb ?_)
  have hz : ∀ k, k < W.heap.size → ¬ okB B I M E k → w1.heap[k]? = W.heap[k]? := fun k hk hn => hg.block k hk (fun e => hn (hR.1 k e.symm))
  obtain ⟨_, _, hB, hI, hM, hE⟩ := h
  rintro k (rfl | rfl | rfl | rfl)
  · exact hz _ (blk_lt hB) (fun h => h.1 rfl)
  · exact hz _ (blk_lt hI) (fun h => h.2.1 rfl)
  · exact hz _ (blk_lt hM) (fun h => h.2.2.1 rfl)
  · exact hz _ (blk_lt hE) (fun h => h.2.2.2 rfl)
end
theorem Stay2.R {v : Value} {gs : List Int} {base B I M E : Nat} {W W1 : World} (hs : Stay2 M E W W1) (h : Kd.R (Kd.int .i64) 3 W base (okB B I M E) v gs) : Kd.R (Kd.int .i64) 3 W1 base (okB B I M E) v gs := Kd.R_step h (fun k hk _ => hs.2 k hk.2.2.1 hk.2.2.2)
theorem RB.I {v : Value} {gs : List Int} {base B I M E j : Nat} {W : World} {u : Value} (h : Kd.R (Kd.int .i64) 3 W base (okB B I M E) v gs) : Kd.R (Kd.int .i64) 3 (W.setCell ⟨I, j, none⟩ u) base (okB B I M E) v gs := Kd.R_far (p := ⟨I, j, none⟩) h (fun k hk => hk.2.1) u
theorem RB.M {v : Value} {gs : List Int} {base B I M E j : Nat} {W : World} {u : Value} (h : Kd.R (Kd.int .i64) 3 W base (okB B I M E) v gs) : Kd.R (Kd.int .i64) 3 (W.setCell ⟨M, j, none⟩ u) base (okB B I M E) v gs := Kd.R_far (p := ⟨M, j, none⟩) h (fun k hk => hk.2.2.1) u
theorem RB.E {v : Value} {gs : List Int} {base B I M E j : Nat} {W : World} {u : Value} (h : Kd.R (Kd.int .i64) 3 W base (okB B I M E) v gs) : Kd.R (Kd.int .i64) 3 (W.setCell ⟨E, j, none⟩ u) base (okB B I M E) v gs := Kd.R_far (p := ⟨E, j, none⟩) h (fun k hk => hk.2.2.2) u
def GrpR (w0 : World) (B I M E : Nat) (A : Option Addr) (c : Nat) (b : List Int) (x1 x2 x3 : Int) (W : World) (st : List Int × Int × Int) : Prop :=
  ∃ v, GetC w0 B I M E A c b #[.int .u8 x1, .int .u8 x2, .int .i64 x3, v] W st.2.1 st.2.2 ∧ Kd.R (Kd.int .i64) 3 W w0.heap.size (okB B I M E) v st.1
set_option maxHeartbeats 4000000 in
set_option maxRecDepth 100000 in
theorem info_Get.get (w0 : World) (B I M E : Nat) (A : Option Addr) (c : Nat) (b : List Int) (hb01 : ∀ y ∈ b, 0 ≤ y ∧ y ≤ 255) (hbl : b.length ≤ 4611686018427387904) (hcb : b.length ≤ c) (hC : Kd.C (Kd.int .u8) w0 A b.length b) (cs : Array Value) (W : World) (nx e size : Int) (h : GetC w0 B I M E A c b cs W nx e) :
    Calls Try.prog 38 #[.int .i64 size, .pointer (some ⟨E, 0, none⟩), .pointer (some ⟨B, 0, none⟩), .pointer (some ⟨M, 0, none⟩)] W fun e' W' => e' = .returned (.int .i64 (SG.getN b (nx, e) size).1) ∧ GetC w0 B I M E A c b cs W' (SG.getN b (nx, e) size).2.1 (SG.getN b (nx, e) size).2.2 ∧ Stay2 M E W W' := by
  obtain ⟨r, hr⟩ : ∃ r, r = SG.getN b (nx, e) size := ⟨_, rfl⟩
  rw [← hr]
  obtain ⟨r1, r2, r3⟩ := r
  have hq1 := h.qE
  have hq2 := h.qB
  have hq3 := h.qM
  have hf1 := h.fE
  have hf3 := h.fM
  have HG := Aside0.mk h
  by_cases he : e = 0
  · subst he
    unfold SG.getN at hr
    rw [if_pos rfl] at hr
    have HF : Aside0 (bits_Get.f 50 b nx size = some (r1, r2, r3)) := ⟨by rw [SG.get_f b hb01 hbl nx size 50 (by omega), hr]⟩
    have HC := Aside0.mk (Kd.C_below hC h.2.1)
    have hne : E ≠ M := Ne.symm h.1.2.2.2.2.2.2.2.2.2
    have hne2 : M ≠ E := h.1.2.2.2.2.2.2.2.2.2
    clear h hr hC hb01 hbl
    go_enter Try.func38, Try.ntmps38
    go_wp2_with (first | ((with_reducible refine gate_callee (f := 39) rfl ?_); refine goesL_ (some 12) rfl rfl Try.func39 (by kernel_rfl) rfl #[.slice A b.length c, .int .i64 nx, .int .i64 size] rfl (by (try simp only [List.map_toArray, List.map_cons, List.map_nil]); first | done | rfl) ?_; (with_reducible refine (bits_Get.calls 50 A c b nx size r1 r2 r3 _ HC.out hcb HF.out).mono ?_); rintro e' w' ⟨rfl, ⟨⟨nd, rfl⟩⟩⟩; refine ⟨_, rfl, ?_⟩))
    go_ret
    obtain ⟨hd, hbel, hB, hI, hM, hE⟩ := HG.out
    obtain ⟨h1, h2, h3, h4, n1, n2, n3, n4, n5, n6⟩ := hd
    refine ⟨rfl, ⟨⟨h1, h2, h3, h4, n1, n2, n3, n4, n5, n6⟩, below_set (below_set (pw_below_drewN hbel _) h3) h4, blk_far (blk_far (blk_drewN hB _) n2 _) n3 _, blk_far (blk_far (blk_drewN hI _) n4 _) n5 _, blk_far (blk_put (blk_drewN hM _) 0 _ rfl) n6 _, blk_put (blk_far (blk_drewN hE _) (Ne.symm n6) _) 0 _ rfl⟩, by simp, fun k hk1 hk2 => ?_⟩
    rw [Below.heap_setCell _ _ _ k hk2, Below.heap_setCell _ _ _ k hk1]
    rfl
  · unfold SG.getN at hr
    rw [if_neg he] at hr
    simp only [Prod.mk.injEq] at hr
    obtain ⟨rfl, rfl, rfl⟩ := hr
    have be : (r3 == 0) = false := beq_eq_false_iff_ne.mpr he
    clear h he hC hb01 hbl
    go_enter Try.func38, Try.ntmps38
    go_wp2
    go_ret
    exact ⟨rfl, HG.out, rfl, fun _ _ _ => rfl⟩
theorem info_Get.get' (w0 : World) (B I M E : Nat) (A : Option Addr) (c : Nat) (b : List Int) (hb01 : ∀ y ∈ b, 0 ≤ y ∧ y ≤ 255) (hbl : b.length ≤ 4611686018427387904) (hcb : b.length ≤ c) (hC : Kd.C (Kd.int .u8) w0 A b.length b) (cs : Array Value) (W : World) (nx e size n nx' e1 : Int) (hr : SG.getN b (nx, e) size = (n, nx', e1)) (h : GetC w0 B I M E A c b cs W nx e) :
    Calls Try.prog 38 #[.int .i64 size, .pointer (some ⟨E, 0, none⟩), .pointer (some ⟨B, 0, none⟩), .pointer (some ⟨M, 0, none⟩)] W fun e' W' => e' = .returned (.int .i64 n) ∧ GetC w0 B I M E A c b cs W' nx' e1 ∧ Stay2 M E W W' := by
  have := info_Get.get w0 B I M E A c b hb01 hbl hcb hC cs W nx e size h
  rw [hr] at this
  exact this

def info_Get.f (l0 : List Int) (a1 : Int) (a2 : Int) : Option (Int × Int × Int × List Int × Int × Int) := if (∀ y ∈ l0, 0 ≤ y ∧ y ≤ 255) ∧ l0.length ≤ 100000000 then some (SG.getInfo l0 a1 a2) else none
set_option maxHeartbeats 8000000 in
set_option maxRecDepth 100000 in
theorem info_Get.calls (A0 : Option Addr) (c0 : Nat) (l0 : List Int) (a1 : Int) (a2 : Int) (r1 : Int) (r2 : Int) (r3 : Int) (r4 : List Int) (r5 : Int) (r6 : Int) (w : World) (hr0 : Kd.C (Kd.int .u8) w A0 l0.length l0) (hc0 : l0.length ≤ c0) (h : info_Get.f l0 a1 a2 = some (r1, r2, r3, r4, r5, r6)) :
    Calls Try.prog 24 #[.slice A0 l0.length c0, .int .i64 a1, .int .i64 a2] w fun e w' => ∃ v3_ : Value, e = .returned (.tuple #[.agg #[.int .u8 r1, .int .u8 r2, .int .i64 r3, v3_], .int .i64 r5, .int .i64 r6]) ∧ Kd.R (Kd.int .i64) 3 w' w.heap.size (fun _ => True) v3_ r4 ∧ Below w.heap.size w w' := by
  unfold info_Get.f at h
  by_cases hcond : (∀ y ∈ l0, 0 ≤ y ∧ y ≤ 255) ∧ l0.length ≤ 100000000
  case neg => rw [if_neg hcond] at h; cases h
  rw [if_pos hcond] at h
  have HH := Aside0.mk hcond
  have HR0 := Aside0.mk hr0
  have HC0 := Aside0.mk hc0
  clear hr0 hc0 hcond
  by_cases hrate : a2 < 0 ∨ a2 > 11
  case pos =>
    have HM : Aside0 (band_Many.f a2 false = some (0, 2)) := ⟨by rw [SP.many_f]; unfold SP.manyS; rw [if_pos hrate]⟩
    unfold SG.getInfo at h
    rw [if_pos hrate] at h
    simp only [Option.some.injEq, Prod.mk.injEq] at h
    obtain ⟨rfl, rfl, rfl, rfl, rfl, rfl⟩ := h
    clear hrate
    go_enter Try.func24, Try.ntmps24
    go_wp2_with (first | ((with_reducible refine gate_dst (N := 3) rfl ?_); refine box_event ?hg (N := 3) ?hd (cs := #[.slice A0 l0.length c0]) (t := 42) ?hr ?_; (case hd => rfl); (case hg => rfl); (case hr => first | (go_simp; done) | (go_simp; rfl)); intro gb hg w1 hbox hb; have GB := Aside0.mk (show w.heap.size ≤ gb by rw [hg]; exact Nat.le_refl _); have BB := Aside0.mk hbox; have HB1 := Aside0.mk hb; clear hg hbox hb) | ((with_reducible refine gate_dst (N := 6) rfl ?_); refine box_event ?hg (N := 6) ?hd (cs := #[.int .u8 0, .int .u8 0, .int .i64 0, .slice none 0 0]) (t := 24) ?hr ?_; (case hd => rfl); (case hg => rfl); (case hr => first | (go_simp; done) | (go_simp; rfl)); intro gi hg w2 hbox hb; have GI := Aside0.mk (show w.heap.size ≤ gi by rw [hg]; exact HB1.out.size); have N1 := Aside0.mk (show gb ≠ gi by rw [hg]; exact Nat.ne_of_lt (blk_lt BB.out)); replace BB := Aside0.mk (blk_below BB.out hb); have BI := Aside0.mk hbox; have HB2 := Aside0.mk (below_step HB1.out hb); clear hg hbox hb) | ((with_reducible refine gate_dst (N := 7) rfl ?_); refine box_event ?hg (N := 7) ?hd (cs := #[.int .i64 0]) (t := 3) ?hr ?_; (case hd => rfl); (case hg => rfl); (case hr => first | (go_simp; done) | (go_simp; rfl)); intro gm hg w3 hbox hb; have GM := Aside0.mk (show w.heap.size ≤ gm by rw [hg]; exact HB2.out.size); have N2 := Aside0.mk (show gb ≠ gm by rw [hg]; exact Nat.ne_of_lt (blk_lt BB.out)); have N4 := Aside0.mk (show gi ≠ gm by rw [hg]; exact Nat.ne_of_lt (blk_lt BI.out)); replace BB := Aside0.mk (blk_below BB.out hb); replace BI := Aside0.mk (blk_below BI.out hb); have BM := Aside0.mk hbox; have HB3 := Aside0.mk (below_step HB2.out hb); clear hg hbox hb) | ((with_reducible refine gate_dst (N := 8) rfl ?_); refine box_event ?hg (N := 8) ?hd (cs := #[.int .i64 0]) (t := 26) ?hr ?_; (case hd => rfl); (case hg => rfl); (case hr => first | (go_simp; done) | (go_simp; rfl)); intro ge hg w4 hbox hb; have GC : Aside0 (GetC w gb gi gm ge A0 c0 l0 #[.int .u8 0, .int .u8 0, .int .i64 0, .slice none 0 0] w4 0 0) := ⟨⟨GB.out, GI.out, GM.out, by rw [hg]; exact HB3.out.size, N1.out, N2.out, by rw [hg]; exact Nat.ne_of_lt (blk_lt BB.out), N4.out, by rw [hg]; exact Nat.ne_of_lt (blk_lt BI.out), by rw [hg]; exact Nat.ne_of_lt (blk_lt BM.out)⟩, below_step HB3.out hb, blk_below BB.out hb, blk_below BI.out hb, blk_below BM.out hb, hbox⟩; clear hg hbox hb) | ((with_reducible refine gate_callee (f := 22) rfl ?_); refine goesL_ (some 13) rfl rfl Try.func22 (by kernel_rfl) rfl #[.int .i64 a2, .bool false] rfl (by (try simp only [List.map_toArray, List.map_cons, List.map_nil]); first | done | rfl) ?_; (with_reducible refine (band_Many.calls a2 false 0 2 _ HM.out).mono ?_); rintro e w5 ⟨rfl, hb⟩; refine ⟨_, rfl, ?_⟩; have GC5 := Aside0.mk (GC.out.below hb); clear hb; have hq0 := (GC5.out.qI 0).trans rfl; have hq1 := (GC5.out.qI 1).trans rfl; have hq2 := (GC5.out.qI 2).trans rfl; have hq3 := (GC5.out.qI 3).trans rfl; have hf0 := GC5.out.fI 0; have hf1 := GC5.out.fI 1; have hf2 := GC5.out.fI 2; have hf3 := GC5.out.fI 3; have hqM := GC5.out.qM; have hfM := GC5.out.fM; have hqE := GC5.out.qE; have hfE := GC5.out.fE; have nn4 := GC5.out.1.2.2.2.2.2.2.2.1; have nn5 := GC5.out.1.2.2.2.2.2.2.2.2.1; have nn6 := GC5.out.1.2.2.2.2.2.2.2.2.2; have nn4s := Ne.symm nn4; have nn5s := Ne.symm nn5; have nn6s := Ne.symm nn6))

    have GC6 : Aside0 (GetC w gb gi gm ge A0 c0 l0 #[.int .u8 0, .int .u8 0, .int .i64 0, .slice none 0 0] (w5.setCell ⟨ge, 0, none⟩ (.int .i64 2)) 0 2) := ⟨GC5.out.setE _⟩
    generalize w5.setCell ⟨ge, 0, none⟩ (.int .i64 2) = w6 at GC6
    clear hq0 hq1 hq2 hq3 hf0 hf1 hf2 hf3 hqM hfM hqE hfE nn4 nn5 nn6 nn4s nn5s nn6s
    have hq0 := (GC6.out.qI 0).trans rfl
    have hq1 := (GC6.out.qI 1).trans rfl
    have hq2 := (GC6.out.qI 2).trans rfl
    have hq3 := (GC6.out.qI 3).trans rfl
    have hf0 := GC6.out.fI 0
    have hf1 := GC6.out.fI 1
    have hf2 := GC6.out.fI 2
    have hf3 := GC6.out.fI 3
    have hqM := GC6.out.qM
    have hfM := GC6.out.fM
    have hqE := GC6.out.qE
    have hfE := GC6.out.fE
    have nn4 := GC6.out.1.2.2.2.2.2.2.2.1
    have nn5 := GC6.out.1.2.2.2.2.2.2.2.2.1
    have nn6 := GC6.out.1.2.2.2.2.2.2.2.2.2
    have nn4s := Ne.symm nn4
    have nn5s := Ne.symm nn5
    have nn6s := Ne.symm nn6
    go_region
    all_goals
      go_wp2
      refine info_Get.fin (cs := #[.int .u8 0, .int .u8 0, .int .i64 0, .slice none 0 0]) (nx := 0) (e := 2) (?gc1 : GetC w gb gi gm ge A0 c0 l0 _ _ _ _) rfl rfl rfl rfl rfl (fun hbel => ?_)
      case gc1 =>
        repeat (first | (with_reducible exact GC6.out) | (with_reducible apply GetC.drew) | (with_reducible apply GetC.drewN) | (with_reducible apply GetC.putI) | (with_reducible apply GetC.putM) | (with_reducible apply GetC.putE))
        all_goals rfl
      exact ⟨_, rfl, Kd.R_nil _ _ _ _ _, hbel⟩
  have HM : Aside0 (band_Many.f a2 false = some (SP.bandMany a2 false, 0)) := ⟨by rw [SP.many_f]; unfold SP.manyS; rw [if_neg hrate]⟩
  obtain ⟨bm, hbm⟩ : ∃ x, x = SP.bandMany a2 false := ⟨_, rfl⟩
  rw [← hbm] at HM
  clear hbm
  unfold SG.getInfo at h
  rw [if_neg hrate] at h
  clear hrate
  obtain ⟨n1, p1, e1, h1⟩ : ∃ n p e, SG.getN l0 (a1, 0) 1 = (n, p, e) := ⟨_, _, _, rfl⟩
  have b1 : 0 ≤ n1 ∧ n1 < 2 := by have := SG.getN_bounds HH.out.1 (a1, 0) 1; rw [show ((1 : Nat) : Int) = 1 from rfl, h1] at this; simpa using this
  simp only [h1] at h
  obtain ⟨n2, p2, e2, h2⟩ : ∃ n p e, SG.getN l0 (p1, e1) 2 = (n, p, e) := ⟨_, _, _, rfl⟩
  have b2 : 0 ≤ n2 ∧ n2 < 4 := by have := SG.getN_bounds HH.out.1 (p1, e1) 2; rw [show ((2 : Nat) : Int) = 2 from rfl, h2] at this; simpa using this
  simp only [h2] at h
  obtain ⟨n3, p3, e3, h3⟩ : ∃ n p e, SG.getN l0 (p2, e2) 1 = (n, p, e) := ⟨_, _, _, rfl⟩
  have b3 : 0 ≤ n3 ∧ n3 < 2 := by have := SG.getN_bounds HH.out.1 (p2, e2) 1; rw [show ((1 : Nat) : Int) = 1 from rfl, h3] at this; simpa using this
  simp only [h3] at h
  have G1 := Aside0.mk h1
  have G2 := Aside0.mk h2
  have G3 := Aside0.mk h3
  clear h1 h2 h3
  obtain ⟨b1a, b1c⟩ := b1
  obtain ⟨b2a, b2c⟩ := b2
  obtain ⟨b3a, b3c⟩ := b3
  by_cases hsq : n2 = 2
  case neg =>
    have bs : (n2 == 2) = false := beq_eq_false_iff_ne.mpr hsq
    rw [if_neg hsq] at h
    obtain ⟨n4, p4, e4, h4⟩ : ∃ n p e, SG.getN l0 (p3, e3) 6 = (n, p, e) := ⟨_, _, _, rfl⟩
    simp only [h4] at h
    obtain ⟨n5, p5, e5, h5⟩ : ∃ n p e, SG.getN l0 (p4, e4) 1 = (n, p, e) := ⟨_, _, _, rfl⟩
    simp only [h5] at h
    have G4 := Aside0.mk h4
    have G5 := Aside0.mk h5
    obtain ⟨gs, hgs⟩ : ∃ gs : List Int, gs = [1] := ⟨_, rfl⟩
    rw [← hgs] at h
    have HGS := Aside0.mk hgs
    have H := Aside0.mk h
    have HGL : Aside0 (gs.length ≤ 100) := ⟨by rw [hgs]; decide⟩
    clear hgs
    clear h4 h5 h hsq
    go_enter Try.func24, Try.ntmps24
    go_wp2_with (first | ((with_reducible refine gate_dst (N := 3) rfl ?_); refine box_event ?hg (N := 3) ?hd (cs := #[.slice A0 l0.length c0]) (t := 42) ?hr ?_; (case hd => rfl); (case hg => rfl); (case hr => first | (go_simp; done) | (go_simp; rfl)); intro gb hg w1 hbox hb; have GB := Aside0.mk (show w.heap.size ≤ gb by rw [hg]; exact Nat.le_refl _); have BB := Aside0.mk hbox; have HB1 := Aside0.mk hb; clear hg hbox hb) | ((with_reducible refine gate_dst (N := 6) rfl ?_); refine box_event ?hg (N := 6) ?hd (cs := #[.int .u8 0, .int .u8 0, .int .i64 0, .slice none 0 0]) (t := 24) ?hr ?_; (case hd => rfl); (case hg => rfl); (case hr => first | (go_simp; done) | (go_simp; rfl)); intro gi hg w2 hbox hb; have GI := Aside0.mk (show w.heap.size ≤ gi by rw [hg]; exact HB1.out.size); have N1 := Aside0.mk (show gb ≠ gi by rw [hg]; exact Nat.ne_of_lt (blk_lt BB.out)); replace BB := Aside0.mk (blk_below BB.out hb); have BI := Aside0.mk hbox; have HB2 := Aside0.mk (below_step HB1.out hb); clear hg hbox hb) | ((with_reducible refine gate_dst (N := 7) rfl ?_); refine box_event ?hg (N := 7) ?hd (cs := #[.int .i64 0]) (t := 3) ?hr ?_; (case hd => rfl); (case hg => rfl); (case hr => first | (go_simp; done) | (go_simp; rfl)); intro gm hg w3 hbox hb; have GM := Aside0.mk (show w.heap.size ≤ gm by rw [hg]; exact HB2.out.size); have N2 := Aside0.mk (show gb ≠ gm by rw [hg]; exact Nat.ne_of_lt (blk_lt BB.out)); have N4 := Aside0.mk (show gi ≠ gm by rw [hg]; exact Nat.ne_of_lt (blk_lt BI.out)); replace BB := Aside0.mk (blk_below BB.out hb); replace BI := Aside0.mk (blk_below BI.out hb); have BM := Aside0.mk hbox; have HB3 := Aside0.mk (below_step HB2.out hb); clear hg hbox hb) | ((with_reducible refine gate_dst (N := 8) rfl ?_); refine box_event ?hg (N := 8) ?hd (cs := #[.int .i64 0]) (t := 26) ?hr ?_; (case hd => rfl); (case hg => rfl); (case hr => first | (go_simp; done) | (go_simp; rfl)); intro ge hg w4 hbox hb; have GC : Aside0 (GetC w gb gi gm ge A0 c0 l0 #[.int .u8 0, .int .u8 0, .int .i64 0, .slice none 0 0] w4 0 0) := ⟨⟨GB.out, GI.out, GM.out, by rw [hg]; exact HB3.out.size, N1.out, N2.out, by rw [hg]; exact Nat.ne_of_lt (blk_lt BB.out), N4.out, by rw [hg]; exact Nat.ne_of_lt (blk_lt BI.out), by rw [hg]; exact Nat.ne_of_lt (blk_lt BM.out)⟩, below_step HB3.out hb, blk_below BB.out hb, blk_below BI.out hb, blk_below BM.out hb, hbox⟩; clear hg hbox hb) | ((with_reducible refine gate_callee (f := 22) rfl ?_); refine goesL_ (some 13) rfl rfl Try.func22 (by kernel_rfl) rfl #[.int .i64 a2, .bool false] rfl (by (try simp only [List.map_toArray, List.map_cons, List.map_nil]); first | done | rfl) ?_; (with_reducible refine (band_Many.calls a2 false bm 0 _ HM.out).mono ?_); rintro e w5 ⟨rfl, hb⟩; refine ⟨_, rfl, ?_⟩; have GC5 := Aside0.mk (GC.out.below hb); clear hb; have hq0 := (GC5.out.qI 0).trans rfl; have hq1 := (GC5.out.qI 1).trans rfl; have hq2 := (GC5.out.qI 2).trans rfl; have hq3 := (GC5.out.qI 3).trans rfl; have hf0 := GC5.out.fI 0; have hf1 := GC5.out.fI 1; have hf2 := GC5.out.fI 2; have hf3 := GC5.out.fI 3; have hqM := GC5.out.qM; have hfM := GC5.out.fM; have hqE := GC5.out.qE; have hfE := GC5.out.fE; have nn4 := GC5.out.1.2.2.2.2.2.2.2.1; have nn5 := GC5.out.1.2.2.2.2.2.2.2.2.1; have nn6 := GC5.out.1.2.2.2.2.2.2.2.2.2; have nn4s := Ne.symm nn4; have nn5s := Ne.symm nn5; have nn6s := Ne.symm nn6))
    refine (info_Get.get' w gb gi gm ge A0 c0 l0 HH.out.1 (by have := HH.out.2; omega) HC0.out HR0.out #[.int .u8 0, .int .u8 0, .int .i64 0, .slice none 0 0] _ _ _ 1 n1 _ _ G1.out ?gc2).mono ?_
    case gc2 =>
      repeat (first | (with_reducible exact GC5.out) | (with_reducible apply GetC.drew) | (with_reducible apply GetC.drewN) | (with_reducible apply GetC.putI) | (with_reducible apply GetC.putM) | (with_reducible apply GetC.putE))
      all_goals rfl
    rintro e W1 ⟨rfl, hg, hs⟩
    have GC6 := Aside0.mk hg
    have STW1 := Aside0.mk hs
    clear hg hs hq0 hq1 hq2 hq3 hf0 hf1 hf2 hf3 hqM hfM hqE hfE nn4 nn5 nn6 nn4s nn5s nn6s
    have hq0 := (GC6.out.qI 0).trans rfl
    have hq1 := (GC6.out.qI 1).trans rfl
    have hq2 := (GC6.out.qI 2).trans rfl
    have hq3 := (GC6.out.qI 3).trans rfl
    have hf0 := GC6.out.fI 0
    have hf1 := GC6.out.fI 1
    have hf2 := GC6.out.fI 2
    have hf3 := GC6.out.fI 3
    have hqM := GC6.out.qM
    have hfM := GC6.out.fM
    have hqE := GC6.out.qE
    have hfE := GC6.out.fE
    have nn4 := GC6.out.1.2.2.2.2.2.2.2.1
    have nn5 := GC6.out.1.2.2.2.2.2.2.2.2.1
    have nn6 := GC6.out.1.2.2.2.2.2.2.2.2.2
    have nn4s := Ne.symm nn4
    have nn5s := Ne.symm nn5
    have nn6s := Ne.symm nn6
    go_wp2_with fail
    refine (info_Get.get' w gb gi gm ge A0 c0 l0 HH.out.1 (by have := HH.out.2; omega) HC0.out HR0.out #[.int .u8 0, .int .u8 0, .int .i64 0, .slice none 0 0] _ _ _ 2 n2 _ _ G2.out ?gc3).mono ?_
    case gc3 =>
      repeat (first | (with_reducible exact GC6.out) | (with_reducible apply GetC.drew) | (with_reducible apply GetC.drewN) | (with_reducible apply GetC.putI) | (with_reducible apply GetC.putM) | (with_reducible apply GetC.putE))
      all_goals rfl
    rintro e W2 ⟨rfl, hg, hs⟩
    have GC7 := Aside0.mk hg
    have STW2 := Aside0.mk hs
    clear hg hs hq0 hq1 hq2 hq3 hf0 hf1 hf2 hf3 hqM hfM hqE hfE nn4 nn5 nn6 nn4s nn5s nn6s
    have hq0 := (GC7.out.qI 0).trans rfl
    have hq1 := (GC7.out.qI 1).trans rfl
    have hq2 := (GC7.out.qI 2).trans rfl
    have hq3 := (GC7.out.qI 3).trans rfl
    have hf0 := GC7.out.fI 0
    have hf1 := GC7.out.fI 1
    have hf2 := GC7.out.fI 2
    have hf3 := GC7.out.fI 3
    have hqM := GC7.out.qM
    have hfM := GC7.out.fM
    have hqE := GC7.out.qE
    have hfE := GC7.out.fE
    have nn4 := GC7.out.1.2.2.2.2.2.2.2.1
    have nn5 := GC7.out.1.2.2.2.2.2.2.2.2.1
    have nn6 := GC7.out.1.2.2.2.2.2.2.2.2.2
    have nn4s := Ne.symm nn4
    have nn5s := Ne.symm nn5
    have nn6s := Ne.symm nn6
    go_wp2_with fail
    refine (info_Get.get' w gb gi gm ge A0 c0 l0 HH.out.1 (by have := HH.out.2; omega) HC0.out HR0.out #[.int .u8 n2, .int .u8 0, .int .i64 0, .slice none 0 0] _ _ _ 1 n3 _ _ G3.out ?gc4).mono ?_
    case gc4 =>
      repeat (first | (with_reducible exact GC7.out) | (with_reducible apply GetC.drew) | (with_reducible apply GetC.drewN) | (with_reducible apply GetC.putI) | (with_reducible apply GetC.putM) | (with_reducible apply GetC.putE))
      all_goals rfl
    rintro e W3 ⟨rfl, hg, hs⟩
    have GC8 := Aside0.mk hg
    have STW3 := Aside0.mk hs
    clear hg hs hq0 hq1 hq2 hq3 hf0 hf1 hf2 hf3 hqM hfM hqE hfE nn4 nn5 nn6 nn4s nn5s nn6s
    have hq0 := (GC8.out.qI 0).trans rfl
    have hq1 := (GC8.out.qI 1).trans rfl
    have hq2 := (GC8.out.qI 2).trans rfl
    have hq3 := (GC8.out.qI 3).trans rfl
    have hf0 := GC8.out.fI 0
    have hf1 := GC8.out.fI 1
    have hf2 := GC8.out.fI 2
    have hf3 := GC8.out.fI 3
    have hqM := GC8.out.qM
    have hfM := GC8.out.fM
    have hqE := GC8.out.qE
    have hfE := GC8.out.fE
    have nn4 := GC8.out.1.2.2.2.2.2.2.2.1
    have nn5 := GC8.out.1.2.2.2.2.2.2.2.2.1
    have nn6 := GC8.out.1.2.2.2.2.2.2.2.2.2
    have nn4s := Ne.symm nn4
    have nn5s := Ne.symm nn5
    have nn6s := Ne.symm nn6
    go_wp2_with fail
    refine (info_Get.get' w gb gi gm ge A0 c0 l0 HH.out.1 (by have := HH.out.2; omega) HC0.out HR0.out #[.int .u8 n2, .int .u8 n3, .int .i64 0, .slice none 0 0] _ _ _ 6 n4 _ _ G4.out ?gc5).mono ?_
    case gc5 =>
      repeat (first | (with_reducible exact GC8.out) | (with_reducible apply GetC.drew) | (with_reducible apply GetC.drewN) | (with_reducible apply GetC.putI) | (with_reducible apply GetC.putM) | (with_reducible apply GetC.putE))
      all_goals rfl
    rintro e W4 ⟨rfl, hg, hs⟩
    have GC9 := Aside0.mk hg
    have STW4 := Aside0.mk hs
    clear hg hs hq0 hq1 hq2 hq3 hf0 hf1 hf2 hf3 hqM hfM hqE hfE nn4 nn5 nn6 nn4s nn5s nn6s
    have hq0 := (GC9.out.qI 0).trans rfl
    have hq1 := (GC9.out.qI 1).trans rfl
    have hq2 := (GC9.out.qI 2).trans rfl
    have hq3 := (GC9.out.qI 3).trans rfl
    have hf0 := GC9.out.fI 0
    have hf1 := GC9.out.fI 1
    have hf2 := GC9.out.fI 2
    have hf3 := GC9.out.fI 3
    have hqM := GC9.out.qM
    have hfM := GC9.out.fM
    have hqE := GC9.out.qE
    have hfE := GC9.out.fE
    have nn4 := GC9.out.1.2.2.2.2.2.2.2.1
    have nn5 := GC9.out.1.2.2.2.2.2.2.2.2.1
    have nn6 := GC9.out.1.2.2.2.2.2.2.2.2.2
    have nn4s := Ne.symm nn4
    have nn5s := Ne.symm nn5
    have nn6s := Ne.symm nn6
    go_wp2_with fail
    refine (info_Get.get' w gb gi gm ge A0 c0 l0 HH.out.1 (by have := HH.out.2; omega) HC0.out HR0.out #[.int .u8 n2, .int .u8 n3, .int .i64 n4, .slice none 0 0] _ _ _ 1 n5 _ _ G5.out ?gc6).mono ?_
    case gc6 =>
      repeat (first | (with_reducible exact GC9.out) | (with_reducible apply GetC.drew) | (with_reducible apply GetC.drewN) | (with_reducible apply GetC.putI) | (with_reducible apply GetC.putM) | (with_reducible apply GetC.putE))
      all_goals rfl
    rintro e W5 ⟨rfl, hg, hs⟩
    have GC10 := Aside0.mk hg
    have STW5 := Aside0.mk hs
    clear hg hs hq0 hq1 hq2 hq3 hf0 hf1 hf2 hf3 hqM hfM hqE hfE nn4 nn5 nn6 nn4s nn5s nn6s
    have hq0 := (GC10.out.qI 0).trans rfl
    have hq1 := (GC10.out.qI 1).trans rfl
    have hq2 := (GC10.out.qI 2).trans rfl
    have hq3 := (GC10.out.qI 3).trans rfl
    have hf0 := GC10.out.fI 0
    have hf1 := GC10.out.fI 1
    have hf2 := GC10.out.fI 2
    have hf3 := GC10.out.fI 3
    have hqM := GC10.out.qM
    have hfM := GC10.out.fM
    have hqE := GC10.out.qE
    have hfE := GC10.out.fE
    have nn4 := GC10.out.1.2.2.2.2.2.2.2.1
    have nn5 := GC10.out.1.2.2.2.2.2.2.2.2.1
    have nn6 := GC10.out.1.2.2.2.2.2.2.2.2.2
    have nn4s := Ne.symm nn4
    have nn5s := Ne.symm nn5
    have nn6s := Ne.symm nn6
    go_upto_region 21 with (first | ((with_reducible refine gate_dst (N := 68) rfl ?_); refine info_Get.lit (w0 := w) (B := gb) (I := gi) (M := gm) (E := ge) (A := A0) (c := c0) (b := l0) (cs := #[.int .u8 n2, .int .u8 n3, .int .i64 n4, .slice none 0 0]) (nx := p5) (e := e5) ?gc7 ?hg (N := 68) ?hd ?hr ?_; (case hd => rfl); (case hg => rfl); (case hr => first | (go_simp; done) | (go_simp; rfl)); (case gc7 => (repeat (first | (with_reducible exact GC10.out) | (with_reducible apply GetC.drew) | (with_reducible apply GetC.drewN) | (with_reducible apply GetC.putI) | (with_reducible apply GetC.putM) | (with_reducible apply GetC.putE))); all_goals rfl); intro v1 W6 hr1 hgc; rw [← HGS.out] at hr1; obtain ⟨AV, CV, rfl⟩ := Kd.R_slice hr1; have RV := Aside0.mk hr1; have GC11 := Aside0.mk hgc; clear hr1 hgc hq0 hq1 hq2 hq3 hf0 hf1 hf2 hf3 hqM hfM hqE hfE nn4 nn5 nn6 nn4s nn5s nn6s; have hq0 := (GC11.out.qI 0).trans rfl; have hq1 := (GC11.out.qI 1).trans rfl; have hq2 := (GC11.out.qI 2).trans rfl; have hq3 := (GC11.out.qI 3).trans rfl; have hf0 := GC11.out.fI 0; have hf1 := GC11.out.fI 1; have hf2 := GC11.out.fI 2; have hf3 := GC11.out.fI 3; have hqM := GC11.out.qM; have hfM := GC11.out.fM; have hqE := GC11.out.qE; have hfE := GC11.out.fE; have nn4 := GC11.out.1.2.2.2.2.2.2.2.1; have nn5 := GC11.out.1.2.2.2.2.2.2.2.2.1; have nn6 := GC11.out.1.2.2.2.2.2.2.2.2.2; have nn4s := Ne.symm nn4; have nn5s := Ne.symm nn5; have nn6s := Ne.symm nn6))
    have GC12 : Aside0 (GetC w gb gi gm ge A0 c0 l0 #[.int .u8 n2, .int .u8 n3, .int .i64 n4, .slice AV gs.length CV] (W6.setCell ⟨gi, 3, none⟩ (.slice AV gs.length CV)) p5 e5) := ⟨GC11.out.setI 3 _ rfl⟩
    have RV2 := Aside0.mk (Kd.R_far (p := ⟨gi, 3, none⟩) RV.out (fun k hk => hk.2.1) (.slice AV gs.length CV))
    clear hq0 hq1 hq2 hq3 hf0 hf1 hf2 hf3 hqM hfM hqE hfE nn4 nn5 nn6 nn4s nn5s nn6s
    generalize W6.setCell ⟨gi, 3, none⟩ (.slice AV gs.length CV) = W7 at GC12 RV2 ⊢
    have hq0 := (GC12.out.qI 0).trans rfl
    have hq1 := (GC12.out.qI 1).trans rfl
    have hq2 := (GC12.out.qI 2).trans rfl
    have hq3 := (GC12.out.qI 3).trans rfl
    have hf0 := GC12.out.fI 0
    have hf1 := GC12.out.fI 1
    have hf2 := GC12.out.fI 2
    have hf3 := GC12.out.fI 3
    have hqM := GC12.out.qM
    have hfM := GC12.out.fM
    have hqE := GC12.out.qE
    have hfE := GC12.out.fE
    have nn4 := GC12.out.1.2.2.2.2.2.2.2.1
    have nn5 := GC12.out.1.2.2.2.2.2.2.2.2.1
    have nn6 := GC12.out.1.2.2.2.2.2.2.2.2.2
    have nn4s := Ne.symm nn4
    have nn5s := Ne.symm nn5
    have nn6s := Ne.symm nn6
    by_cases hee : e5 = 0
    case neg =>
      have be : (e5 != 0) = true := bne_iff_ne.mpr hee
      have HQ := H.out
      unfold SG.getFin at HQ
      rw [if_pos hee] at HQ
      simp only [Option.some.injEq, Prod.mk.injEq] at HQ
      obtain ⟨rfl, rfl, rfl, rfl, rfl, rfl⟩ := HQ
      clear hee
      go_wp2
      go_region
      all_goals
        go_wp2
        refine info_Get.fin (cs := #[.int .u8 0, .int .u8 0, .int .i64 0, .slice none 0 0]) (nx := 0) (e := e5) (?gc8 : GetC w gb gi gm ge A0 c0 l0 _ _ _ _) rfl rfl rfl rfl rfl (fun hbel => ?_)
        case gc8 =>
          repeat (first | (with_reducible exact GC12.out) | (with_reducible apply GetC.drew) | (with_reducible apply GetC.drewN) | (with_reducible apply GetC.putI) | (with_reducible apply GetC.putM) | (with_reducible apply GetC.putE))
          all_goals rfl
        exact ⟨_, rfl, Kd.R_nil _ _ _ _ _, hbel⟩
    case pos =>
      have be : (e5 != 0) = false := by rw [hee]; rfl
      have HE := Aside0.mk hee
      clear hee
      by_cases hodd : (bits BinOp.or IntKind.i64 n1 n5) = 0
      case neg =>
        have bo : ((bits BinOp.or IntKind.i64 n1 n5) != 0) = true := bne_iff_ne.mpr hodd
        have HQ := H.out
        unfold SG.getFin at HQ
        rw [if_neg (fun h => h HE.out), if_pos (Or.inl hodd)] at HQ
        simp only [Option.some.injEq, Prod.mk.injEq] at HQ
        obtain ⟨rfl, rfl, rfl, rfl, rfl, rfl⟩ := HQ
        clear hodd
        go_wp2
        refine info_Get.fin (cs := #[.int .u8 0, .int .u8 0, .int .i64 0, .slice none 0 0]) (nx := 0) (e := 8) (?gc9 : GetC w gb gi gm ge A0 c0 l0 _ _ _ _) rfl rfl rfl rfl rfl (fun hbel => ?_)
        case gc9 =>
          repeat (first | (with_reducible exact GC12.out) | (with_reducible apply GetC.drew) | (with_reducible apply GetC.drewN) | (with_reducible apply GetC.putI) | (with_reducible apply GetC.putM) | (with_reducible apply GetC.putE))
          all_goals rfl
        exact ⟨_, rfl, Kd.R_nil _ _ _ _ _, hbel⟩
      case pos =>
        have bo : ((bits BinOp.or IntKind.i64 n1 n5) != 0) = false := by rw [hodd]; rfl
        have HO := Aside0.mk hodd
        clear hodd
        obtain ⟨q, hq⟩ : ∃ q, q = SP.checkS a2 n2 n3 n4 gs := ⟨_, rfl⟩
        have HK : Aside0 (info_Check.f 1001 a2 n2 n3 n4 gs = some q) := ⟨by rw [hq]; exact SP.check_f a2 _ _ _ _ (by have := HGL.out; omega) 1001 (by have := HGL.out; omega)⟩
        have HQ := H.out
        unfold SG.getFin at HQ
        rw [if_neg (fun h => h HE.out)] at HQ
        dsimp only at HQ
        rw [← hq] at HQ
        clear hq
        obtain ⟨hlc, hRc⟩ := (Kd.R_reads' RV2.out).2
        have HLC := Aside0.mk hlc
        have HRC := Aside0.mk hRc
        clear hlc hRc
        by_cases hqq : q = 0
        case neg =>
          have bq : (q != 0) = true := bne_iff_ne.mpr hqq
          rw [if_pos (Or.inr hqq)] at HQ
          simp only [Option.some.injEq, Prod.mk.injEq] at HQ
          obtain ⟨rfl, rfl, rfl, rfl, rfl, rfl⟩ := HQ
          clear hqq
          go_wp2_with (first | (go_at_call 15; refine (info_Check.calls 1001 a2 n2 n3 n4 AV CV gs q _ (by (with_reducible repeat (first | apply Kd.C_alloc | apply Kd.C_drewN | apply Kd.C_drew)); exact HRC.out) HLC.out HK.out).mono ?_; rintro e wz ⟨rfl, hb⟩; have GCZ := Aside0.mk (GC12.out.below hb); have RVZ := Aside0.mk (Kd.R_below RV2.out hb); clear hb hq0 hq1 hq2 hq3 hf0 hf1 hf2 hf3 hqM hfM hqE hfE nn4 nn5 nn6 nn4s nn5s nn6s; have hq0 := (GCZ.out.qI 0).trans rfl; have hq1 := (GCZ.out.qI 1).trans rfl; have hq2 := (GCZ.out.qI 2).trans rfl; have hq3 := (GCZ.out.qI 3).trans rfl; have hf0 := GCZ.out.fI 0; have hf1 := GCZ.out.fI 1; have hf2 := GCZ.out.fI 2; have hf3 := GCZ.out.fI 3; have hqM := GCZ.out.qM; have hfM := GCZ.out.fM; have hqE := GCZ.out.qE; have hfE := GCZ.out.fE; have nn4 := GCZ.out.1.2.2.2.2.2.2.2.1; have nn5 := GCZ.out.1.2.2.2.2.2.2.2.2.1; have nn6 := GCZ.out.1.2.2.2.2.2.2.2.2.2; have nn4s := Ne.symm nn4; have nn5s := Ne.symm nn5; have nn6s := Ne.symm nn6))
          refine info_Get.fin (cs := #[.int .u8 0, .int .u8 0, .int .i64 0, .slice none 0 0]) (nx := 0) (e := 8) (?gc10 : GetC w gb gi gm ge A0 c0 l0 _ _ _ _) rfl rfl rfl rfl rfl (fun hbel => ?_)
          case gc10 =>
            repeat (first | (with_reducible exact GCZ.out) | (with_reducible apply GetC.drew) | (with_reducible apply GetC.drewN) | (with_reducible apply GetC.putI) | (with_reducible apply GetC.putM) | (with_reducible apply GetC.putE))
            all_goals rfl
          exact ⟨_, rfl, Kd.R_nil _ _ _ _ _, hbel⟩
        case pos =>
          have bq : (q != 0) = false := by rw [hqq]; rfl
          rw [if_neg (by rw [HO.out, hqq]; simp)] at HQ
          simp only [Option.some.injEq, Prod.mk.injEq] at HQ
          obtain ⟨rfl, rfl, rfl, rfl, rfl, rfl⟩ := HQ
          clear hqq
          go_wp2_with (first | (go_at_call 15; refine (info_Check.calls 1001 a2 n2 n3 n4 AV CV gs q _ (by (with_reducible repeat (first | apply Kd.C_alloc | apply Kd.C_drewN | apply Kd.C_drew)); exact HRC.out) HLC.out HK.out).mono ?_; rintro e wz ⟨rfl, hb⟩; have GCZ := Aside0.mk (GC12.out.below hb); have RVZ := Aside0.mk (Kd.R_below RV2.out hb); clear hb hq0 hq1 hq2 hq3 hf0 hf1 hf2 hf3 hqM hfM hqE hfE nn4 nn5 nn6 nn4s nn5s nn6s; have hq0 := (GCZ.out.qI 0).trans rfl; have hq1 := (GCZ.out.qI 1).trans rfl; have hq2 := (GCZ.out.qI 2).trans rfl; have hq3 := (GCZ.out.qI 3).trans rfl; have hf0 := GCZ.out.fI 0; have hf1 := GCZ.out.fI 1; have hf2 := GCZ.out.fI 2; have hf3 := GCZ.out.fI 3; have hqM := GCZ.out.qM; have hfM := GCZ.out.fM; have hqE := GCZ.out.qE; have hfE := GCZ.out.fE; have nn4 := GCZ.out.1.2.2.2.2.2.2.2.1; have nn5 := GCZ.out.1.2.2.2.2.2.2.2.2.1; have nn6 := GCZ.out.1.2.2.2.2.2.2.2.2.2; have nn4s := Ne.symm nn4; have nn5s := Ne.symm nn5; have nn6s := Ne.symm nn6))
          go_region
          all_goals
            go_wp2
            refine info_Get.fin (cs := #[.int .u8 n2, .int .u8 n3, .int .i64 n4, .slice AV gs.length CV]) (nx := p5) (e := 0) (?gc11 : GetC w gb gi gm ge A0 c0 l0 _ _ _ _) rfl rfl rfl rfl rfl (fun hbel => ?_)
            case gc11 =>
              repeat (first | (with_reducible exact GCZ.out) | (with_reducible apply GetC.drew) | (with_reducible apply GetC.drewN) | (with_reducible apply GetC.putI) | (with_reducible apply GetC.putM) | (with_reducible apply GetC.putE))
              all_goals rfl
            exact ⟨_, rfl, Kd.R_mono (ok := okB gb gi gm ge) (by repeat (first | (with_reducible exact RVZ.out) | (with_reducible apply Kd.R_drew) | (with_reducible apply Kd.R_drewN) | (with_reducible apply RB.I) | (with_reducible apply RB.M) | (with_reducible apply RB.E))) (fun _ _ => trivial), hbel⟩
  case pos =>
    subst hsq
    rw [if_pos rfl] at h
    obtain ⟨n4, p4, e4, h4⟩ : ∃ n p e, SG.getN l0 (p3, e3) 4 = (n, p, e) := ⟨_, _, _, rfl⟩
    simp only [h4] at h
    have G4 := Aside0.mk h4
    have HOK := Aside0.mk (SG.grpOk_n l0 (p4, e4))
    obtain ⟨gs, hgs⟩ : ∃ gs : List Int, gs = [1] := ⟨_, rfl⟩
    rw [← hgs] at h HOK
    have HGS := Aside0.mk hgs
    have H := Aside0.mk h
    clear h4 h hgs
    go_enter Try.func24, Try.ntmps24
    go_wp2_with (first | ((with_reducible refine gate_dst (N := 3) rfl ?_); refine box_event ?hg (N := 3) ?hd (cs := #[.slice A0 l0.length c0]) (t := 42) ?hr ?_; (case hd => rfl); (case hg => rfl); (case hr => first | (go_simp; done) | (go_simp; rfl)); intro gb hg w1 hbox hb; have GB := Aside0.mk (show w.heap.size ≤ gb by rw [hg]; exact Nat.le_refl _); have BB := Aside0.mk hbox; have HB1 := Aside0.mk hb; clear hg hbox hb) | ((with_reducible refine gate_dst (N := 6) rfl ?_); refine box_event ?hg (N := 6) ?hd (cs := #[.int .u8 0, .int .u8 0, .int .i64 0, .slice none 0 0]) (t := 24) ?hr ?_; (case hd => rfl); (case hg => rfl); (case hr => first | (go_simp; done) | (go_simp; rfl)); intro gi hg w2 hbox hb; have GI := Aside0.mk (show w.heap.size ≤ gi by rw [hg]; exact HB1.out.size); have N1 := Aside0.mk (show gb ≠ gi by rw [hg]; exact Nat.ne_of_lt (blk_lt BB.out)); replace BB := Aside0.mk (blk_below BB.out hb); have BI := Aside0.mk hbox; have HB2 := Aside0.mk (below_step HB1.out hb); clear hg hbox hb) | ((with_reducible refine gate_dst (N := 7) rfl ?_); refine box_event ?hg (N := 7) ?hd (cs := #[.int .i64 0]) (t := 3) ?hr ?_; (case hd => rfl); (case hg => rfl); (case hr => first | (go_simp; done) | (go_simp; rfl)); intro gm hg w3 hbox hb; have GM := Aside0.mk (show w.heap.size ≤ gm by rw [hg]; exact HB2.out.size); have N2 := Aside0.mk (show gb ≠ gm by rw [hg]; exact Nat.ne_of_lt (blk_lt BB.out)); have N4 := Aside0.mk (show gi ≠ gm by rw [hg]; exact Nat.ne_of_lt (blk_lt BI.out)); replace BB := Aside0.mk (blk_below BB.out hb); replace BI := Aside0.mk (blk_below BI.out hb); have BM := Aside0.mk hbox; have HB3 := Aside0.mk (below_step HB2.out hb); clear hg hbox hb) | ((with_reducible refine gate_dst (N := 8) rfl ?_); refine box_event ?hg (N := 8) ?hd (cs := #[.int .i64 0]) (t := 26) ?hr ?_; (case hd => rfl); (case hg => rfl); (case hr => first | (go_simp; done) | (go_simp; rfl)); intro ge hg w4 hbox hb; have GC : Aside0 (GetC w gb gi gm ge A0 c0 l0 #[.int .u8 0, .int .u8 0, .int .i64 0, .slice none 0 0] w4 0 0) := ⟨⟨GB.out, GI.out, GM.out, by rw [hg]; exact HB3.out.size, N1.out, N2.out, by rw [hg]; exact Nat.ne_of_lt (blk_lt BB.out), N4.out, by rw [hg]; exact Nat.ne_of_lt (blk_lt BI.out), by rw [hg]; exact Nat.ne_of_lt (blk_lt BM.out)⟩, below_step HB3.out hb, blk_below BB.out hb, blk_below BI.out hb, blk_below BM.out hb, hbox⟩; clear hg hbox hb) | ((with_reducible refine gate_callee (f := 22) rfl ?_); refine goesL_ (some 13) rfl rfl Try.func22 (by kernel_rfl) rfl #[.int .i64 a2, .bool false] rfl (by (try simp only [List.map_toArray, List.map_cons, List.map_nil]); first | done | rfl) ?_; (with_reducible refine (band_Many.calls a2 false bm 0 _ HM.out).mono ?_); rintro e w5 ⟨rfl, hb⟩; refine ⟨_, rfl, ?_⟩; have GC5 := Aside0.mk (GC.out.below hb); clear hb; have hq0 := (GC5.out.qI 0).trans rfl; have hq1 := (GC5.out.qI 1).trans rfl; have hq2 := (GC5.out.qI 2).trans rfl; have hq3 := (GC5.out.qI 3).trans rfl; have hf0 := GC5.out.fI 0; have hf1 := GC5.out.fI 1; have hf2 := GC5.out.fI 2; have hf3 := GC5.out.fI 3; have hqM := GC5.out.qM; have hfM := GC5.out.fM; have hqE := GC5.out.qE; have hfE := GC5.out.fE; have nn4 := GC5.out.1.2.2.2.2.2.2.2.1; have nn5 := GC5.out.1.2.2.2.2.2.2.2.2.1; have nn6 := GC5.out.1.2.2.2.2.2.2.2.2.2; have nn4s := Ne.symm nn4; have nn5s := Ne.symm nn5; have nn6s := Ne.symm nn6))
    refine (info_Get.get' w gb gi gm ge A0 c0 l0 HH.out.1 (by have := HH.out.2; omega) HC0.out HR0.out #[.int .u8 0, .int .u8 0, .int .i64 0, .slice none 0 0] _ _ _ 1 n1 _ _ G1.out ?gc12).mono ?_
    case gc12 =>
      repeat (first | (with_reducible exact GC5.out) | (with_reducible apply GetC.drew) | (with_reducible apply GetC.drewN) | (with_reducible apply GetC.putI) | (with_reducible apply GetC.putM) | (with_reducible apply GetC.putE))
      all_goals rfl
    rintro e W1 ⟨rfl, hg, hs⟩
    have GC6 := Aside0.mk hg
    have STW1 := Aside0.mk hs
    clear hg hs hq0 hq1 hq2 hq3 hf0 hf1 hf2 hf3 hqM hfM hqE hfE nn4 nn5 nn6 nn4s nn5s nn6s
    have hq0 := (GC6.out.qI 0).trans rfl
    have hq1 := (GC6.out.qI 1).trans rfl
    have hq2 := (GC6.out.qI 2).trans rfl
    have hq3 := (GC6.out.qI 3).trans rfl
    have hf0 := GC6.out.fI 0
    have hf1 := GC6.out.fI 1
    have hf2 := GC6.out.fI 2
    have hf3 := GC6.out.fI 3
    have hqM := GC6.out.qM
    have hfM := GC6.out.fM
    have hqE := GC6.out.qE
    have hfE := GC6.out.fE
    have nn4 := GC6.out.1.2.2.2.2.2.2.2.1
    have nn5 := GC6.out.1.2.2.2.2.2.2.2.2.1
    have nn6 := GC6.out.1.2.2.2.2.2.2.2.2.2
    have nn4s := Ne.symm nn4
    have nn5s := Ne.symm nn5
    have nn6s := Ne.symm nn6
    go_wp2_with fail
    refine (info_Get.get' w gb gi gm ge A0 c0 l0 HH.out.1 (by have := HH.out.2; omega) HC0.out HR0.out #[.int .u8 0, .int .u8 0, .int .i64 0, .slice none 0 0] _ _ _ 2 2 _ _ G2.out ?gc13).mono ?_
    case gc13 =>
      repeat (first | (with_reducible exact GC6.out) | (with_reducible apply GetC.drew) | (with_reducible apply GetC.drewN) | (with_reducible apply GetC.putI) | (with_reducible apply GetC.putM) | (with_reducible apply GetC.putE))
      all_goals rfl
    rintro e W2 ⟨rfl, hg, hs⟩
    have GC7 := Aside0.mk hg
    have STW2 := Aside0.mk hs
    clear hg hs hq0 hq1 hq2 hq3 hf0 hf1 hf2 hf3 hqM hfM hqE hfE nn4 nn5 nn6 nn4s nn5s nn6s
    have hq0 := (GC7.out.qI 0).trans rfl
    have hq1 := (GC7.out.qI 1).trans rfl
    have hq2 := (GC7.out.qI 2).trans rfl
    have hq3 := (GC7.out.qI 3).trans rfl
    have hf0 := GC7.out.fI 0
    have hf1 := GC7.out.fI 1
    have hf2 := GC7.out.fI 2
    have hf3 := GC7.out.fI 3
    have hqM := GC7.out.qM
    have hfM := GC7.out.fM
    have hqE := GC7.out.qE
    have hfE := GC7.out.fE
    have nn4 := GC7.out.1.2.2.2.2.2.2.2.1
    have nn5 := GC7.out.1.2.2.2.2.2.2.2.2.1
    have nn6 := GC7.out.1.2.2.2.2.2.2.2.2.2
    have nn4s := Ne.symm nn4
    have nn5s := Ne.symm nn5
    have nn6s := Ne.symm nn6
    go_wp2_with fail
    refine (info_Get.get' w gb gi gm ge A0 c0 l0 HH.out.1 (by have := HH.out.2; omega) HC0.out HR0.out #[.int .u8 2, .int .u8 0, .int .i64 0, .slice none 0 0] _ _ _ 1 n3 _ _ G3.out ?gc14).mono ?_
    case gc14 =>
      repeat (first | (with_reducible exact GC7.out) | (with_reducible apply GetC.drew) | (with_reducible apply GetC.drewN) | (with_reducible apply GetC.putI) | (with_reducible apply GetC.putM) | (with_reducible apply GetC.putE))
      all_goals rfl
    rintro e W3 ⟨rfl, hg, hs⟩
    have GC8 := Aside0.mk hg
    have STW3 := Aside0.mk hs
    clear hg hs hq0 hq1 hq2 hq3 hf0 hf1 hf2 hf3 hqM hfM hqE hfE nn4 nn5 nn6 nn4s nn5s nn6s
    have hq0 := (GC8.out.qI 0).trans rfl
    have hq1 := (GC8.out.qI 1).trans rfl
    have hq2 := (GC8.out.qI 2).trans rfl
    have hq3 := (GC8.out.qI 3).trans rfl
    have hf0 := GC8.out.fI 0
    have hf1 := GC8.out.fI 1
    have hf2 := GC8.out.fI 2
    have hf3 := GC8.out.fI 3
    have hqM := GC8.out.qM
    have hfM := GC8.out.fM
    have hqE := GC8.out.qE
    have hfE := GC8.out.fE
    have nn4 := GC8.out.1.2.2.2.2.2.2.2.1
    have nn5 := GC8.out.1.2.2.2.2.2.2.2.2.1
    have nn6 := GC8.out.1.2.2.2.2.2.2.2.2.2
    have nn4s := Ne.symm nn4
    have nn5s := Ne.symm nn5
    have nn6s := Ne.symm nn6
    go_wp2_with fail
    refine (info_Get.get' w gb gi gm ge A0 c0 l0 HH.out.1 (by have := HH.out.2; omega) HC0.out HR0.out #[.int .u8 2, .int .u8 n3, .int .i64 0, .slice none 0 0] _ _ _ 4 n4 _ _ G4.out ?gc15).mono ?_
    case gc15 =>
      repeat (first | (with_reducible exact GC8.out) | (with_reducible apply GetC.drew) | (with_reducible apply GetC.drewN) | (with_reducible apply GetC.putI) | (with_reducible apply GetC.putM) | (with_reducible apply GetC.putE))
      all_goals rfl
    rintro e W4 ⟨rfl, hg, hs⟩
    have GC9 := Aside0.mk hg
    have STW4 := Aside0.mk hs
    clear hg hs hq0 hq1 hq2 hq3 hf0 hf1 hf2 hf3 hqM hfM hqE hfE nn4 nn5 nn6 nn4s nn5s nn6s
    have hq0 := (GC9.out.qI 0).trans rfl
    have hq1 := (GC9.out.qI 1).trans rfl
    have hq2 := (GC9.out.qI 2).trans rfl
    have hq3 := (GC9.out.qI 3).trans rfl
    have hf0 := GC9.out.fI 0
    have hf1 := GC9.out.fI 1
    have hf2 := GC9.out.fI 2
    have hf3 := GC9.out.fI 3
    have hqM := GC9.out.qM
    have hfM := GC9.out.fM
    have hqE := GC9.out.qE
    have hfE := GC9.out.fE
    have nn4 := GC9.out.1.2.2.2.2.2.2.2.1
    have nn5 := GC9.out.1.2.2.2.2.2.2.2.2.1
    have nn6 := GC9.out.1.2.2.2.2.2.2.2.2.2
    have nn4s := Ne.symm nn4
    have nn5s := Ne.symm nn5
    have nn6s := Ne.symm nn6
    go_wp2_with (first | ((with_reducible refine gate_dst (N := 38) rfl ?_); refine info_Get.lit (w0 := w) (B := gb) (I := gi) (M := gm) (E := ge) (A := A0) (c := c0) (b := l0) (cs := #[.int .u8 2, .int .u8 n3, .int .i64 n4, .slice none 0 0]) (nx := p4) (e := e4) ?gc16 ?hg (N := 38) ?hd ?hr ?_; (case hd => rfl); (case hg => rfl); (case hr => first | (go_simp; done) | (go_simp; rfl)); (case gc16 => (repeat (first | (with_reducible exact GC9.out) | (with_reducible apply GetC.drew) | (with_reducible apply GetC.drewN) | (with_reducible apply GetC.putI) | (with_reducible apply GetC.putM) | (with_reducible apply GetC.putE))); all_goals rfl); intro v1 W5 hr1 hgc; rw [← HGS.out] at hr1; obtain ⟨AV, CV, rfl⟩ := Kd.R_slice hr1; have RV := Aside0.mk hr1; have GC10 := Aside0.mk hgc; clear hr1 hgc hq0 hq1 hq2 hq3 hf0 hf1 hf2 hf3 hqM hfM hqE hfE nn4 nn5 nn6 nn4s nn5s nn6s; have hq0 := (GC10.out.qI 0).trans rfl; have hq1 := (GC10.out.qI 1).trans rfl; have hq2 := (GC10.out.qI 2).trans rfl; have hq3 := (GC10.out.qI 3).trans rfl; have hf0 := GC10.out.fI 0; have hf1 := GC10.out.fI 1; have hf2 := GC10.out.fI 2; have hf3 := GC10.out.fI 3; have hqM := GC10.out.qM; have hfM := GC10.out.fM; have hqE := GC10.out.qE; have hfE := GC10.out.fE; have nn4 := GC10.out.1.2.2.2.2.2.2.2.1; have nn5 := GC10.out.1.2.2.2.2.2.2.2.2.1; have nn6 := GC10.out.1.2.2.2.2.2.2.2.2.2; have nn4s := Ne.symm nn4; have nn5s := Ne.symm nn5; have nn6s := Ne.symm nn6))
    have GC11 : Aside0 (GrpR w gb gi gm ge A0 c0 l0 2 n3 n4 (W5.setCell ⟨gi, 3, none⟩ (.slice AV gs.length CV)) (SG.grpN l0 (gs, p4, e4) 0)) := ⟨_, GC10.out.setI 3 _ rfl, RB.I RV.out⟩
    clear hq0 hq1 hq2 hq3 hf0 hf1 hf2 hf3 hqM hfM hqE hfE nn4 nn5 nn6 nn4s nn5s nn6s
    generalize W5.setCell ⟨gi, 3, none⟩ (.slice AV gs.length CV) = W6 at GC11 ⊢
    clear RV
    go_loopw [40] (fun v W => ∃ j : Nat, j ≤ 7 ∧ v = .int .i64 j ∧ Aside0 (GrpR w gb gi gm ge A0 c0 l0 2 n3 n4 W (SG.grpN l0 (gs, p4, e4) j))) (fun v _ => (7 - intOf v).toNat)
    case atStart => exact ⟨0, by omega, by simp, GC11⟩
    case round =>
      clear GC11
      obtain ⟨j, hj, rfl, HS⟩ := hrel
      have hok := HOK.out j
      obtain ⟨gj, pj, ej, hst⟩ : ∃ a b c, SG.grpN l0 (gs, p4, e4) j = (a, b, c) := ⟨_, _, _, rfl⟩
      rw [hst] at HS hok
      have HST := Aside0.mk hst
      have HOKJ := Aside0.mk hok
      obtain ⟨vj, hgc, hr⟩ := HS.out
      obtain ⟨AV, CV, rfl⟩ := Kd.R_slice hr
      have GCJ := Aside0.mk hgc
      have RVJ := Aside0.mk hr
      dsimp only at GCJ RVJ HOKJ
      clear HS hst hgc hr hok
      have hq0 := (GCJ.out.qI 0).trans rfl
      have hq1 := (GCJ.out.qI 1).trans rfl
      have hq2 := (GCJ.out.qI 2).trans rfl
      have hq3 := (GCJ.out.qI 3).trans rfl
      have hf0 := GCJ.out.fI 0
      have hf1 := GCJ.out.fI 1
      have hf2 := GCJ.out.fI 2
      have hf3 := GCJ.out.fI 3
      have hqM := GCJ.out.qM
      have hfM := GCJ.out.fM
      have hqE := GCJ.out.qE
      have hfE := GCJ.out.fE
      have nn4 := GCJ.out.1.2.2.2.2.2.2.2.1
      have nn5 := GCJ.out.1.2.2.2.2.2.2.2.2.1
      have nn6 := GCJ.out.1.2.2.2.2.2.2.2.2.2
      have nn4s := Ne.symm nn4
      have nn5s := Ne.symm nn5
      have nn6s := Ne.symm nn6
      by_cases hlt : j < 7
      · have hltz : (j : Int) < 7 := by omega
        obtain ⟨m, pn, en, hm⟩ : ∃ n p e, SG.getN l0 (pj, ej) 1 = (n, p, e) := ⟨_, _, _, rfl⟩
        have GM1 := Aside0.mk hm
        clear hm
        go_wp2_with fail
        refine (info_Get.get' w gb gi gm ge A0 c0 l0 HH.out.1 (by have := HH.out.2; omega) HC0.out HR0.out #[.int .u8 2, .int .u8 n3, .int .i64 n4, .slice AV gj.length CV] _ _ _ 1 m _ _ GM1.out ?gc17).mono ?_
        case gc17 =>
          repeat (first | (with_reducible exact GCJ.out) | (with_reducible apply GetC.drew) | (with_reducible apply GetC.drewN) | (with_reducible apply GetC.putI) | (with_reducible apply GetC.putM) | (with_reducible apply GetC.putE))
          all_goals rfl
        rintro e W7 ⟨rfl, hg, hs⟩
        have GCK := Aside0.mk hg
        have STW7 := Aside0.mk hs
        clear hg hs hq0 hq1 hq2 hq3 hf0 hf1 hf2 hf3 hqM hfM hqE hfE nn4 nn5 nn6 nn4s nn5s nn6s
        have hq0 := (GCK.out.qI 0).trans rfl
        have hq1 := (GCK.out.qI 1).trans rfl
        have hq2 := (GCK.out.qI 2).trans rfl
        have hq3 := (GCK.out.qI 3).trans rfl
        have hf0 := GCK.out.fI 0
        have hf1 := GCK.out.fI 1
        have hf2 := GCK.out.fI 2
        have hf3 := GCK.out.fI 3
        have hqM := GCK.out.qM
        have hfM := GCK.out.fM
        have hqE := GCK.out.qE
        have hfE := GCK.out.fE
        have nn4 := GCK.out.1.2.2.2.2.2.2.2.1
        have nn5 := GCK.out.1.2.2.2.2.2.2.2.2.1
        have nn6 := GCK.out.1.2.2.2.2.2.2.2.2.2
        have nn4s := Ne.symm nn4
        have nn5s := Ne.symm nn5
        have nn6s := Ne.symm nn6
        have RVK := Aside0.mk (STW7.out.R RVJ.out)
        by_cases hm1 : m = 1
        · have bm1 : (m == 1) = true := by rw [hm1]; rfl
          have HM1 := Aside0.mk hm1
          clear hm1
          obtain ⟨g, cap, hv, hgb, hgl, _⟩ := Kd.R_form RVK.out HOKJ.out.1
          obtain ⟨rfl, rfl⟩ : AV = some ⟨g, 0, none⟩ ∧ CV = cap := by injection hv with h1 h2 h3; exact ⟨h1, h3⟩
          obtain ⟨k, hk⟩ : ∃ k, gj.length = k + 1 := ⟨gj.length - 1, by have := HOKJ.out.1; omega⟩
          have hk8 : k ≤ 8 := by have := HOKJ.out.2.1; omega
          obtain ⟨hqc, hfc⟩ := Kd.R_cell 0 RVK.out (k : Int) (by omega) (by omega)
          rw [Int.toNat_natCast] at hqc hfc
          have hx := Aside0.mk (show rdOf 0 gj (k : Int) = rd gj ((gj.length - 1 : Nat) : Int) from by unfold rdOf rd; congr 2; omega)
          have hxb : 1 ≤ rdOf 0 gj (k : Int) ∧ rdOf 0 gj (k : Int) ≤ 8 := by
            rw [hx.out, HP.rd_at _ _ (by omega)]
            have := HOKJ.out.2.2 _ (List.getElem_mem (show gj.length - 1 < gj.length by omega))
            omega
          obtain ⟨hxb1, hxb2⟩ := hxb
          generalize rdOf 0 gj (k : Int) = x at hqc hx hxb1 hxb2
          have HGB := Aside0.mk hgb
          have HKL := Aside0.mk hk
          have HOB := Aside0.mk (RVK.out.1 g (by simp [Value.ownBlock]))
          rw [hk] at hq3
          clear hgl hgb hk hv
          go_wp2
          go_roundw
          case rel =>
            refine ⟨j + 1, by omega, by congr 1, ⟨?_⟩⟩
            rw [SG.grpN, HST.out, SG.grpStep]
            dsimp only
            rw [GM1.out, if_pos HM1.out]
            refine ⟨_, GCK.out.far HGB.out HOB.out, ?_⟩
            have hput := (Kd.R_put RVK.out (k : Int) (x + 1)).1
            rw [Int.toNat_natCast] at hput
            unfold SG.bump
            dsimp only
            rw [← hx.out, show gj.length - 1 = k by have := HKL.out; omega]
            exact hput
          case measure => simp [intOf]; omega
        · have bm1 : (m == 1) = false := beq_eq_false_iff_ne.mpr hm1
          have HM1 := Aside0.mk hm1
          clear hm1
          go_wp2_with (first | (at_builtin; refine info_Get.app (w0 := w) (B := gb) (I := gi) (M := gm) (E := ge) (A := A0) (c := c0) (b := l0) (cs := #[.int .u8 2, .int .u8 n3, .int .i64 n4, .slice AV gj.length CV]) (nx := pn) (e := en) (gs := gj) (v := .slice AV gj.length CV) GCK.out RVK.out (by have := HOKJ.out.2.1; omega) rfl (.tmp 56) (.tmp 57) (by rfl) (by rfl) (by rfl) ?_; intro v1 w8 hr1 hgc; obtain ⟨AV1, CV1, rfl⟩ := Kd.R_slice hr1; have RVL := Aside0.mk hr1; have GCL := Aside0.mk hgc; clear hr1 hgc hq0 hq1 hq2 hq3 hf0 hf1 hf2 hf3 hqM hfM hqE hfE nn4 nn5 nn6 nn4s nn5s nn6s; have hq0 := (GCL.out.qI 0).trans rfl; have hq1 := (GCL.out.qI 1).trans rfl; have hq2 := (GCL.out.qI 2).trans rfl; have hq3 := (GCL.out.qI 3).trans rfl; have hf0 := GCL.out.fI 0; have hf1 := GCL.out.fI 1; have hf2 := GCL.out.fI 2; have hf3 := GCL.out.fI 3; have hqM := GCL.out.qM; have hfM := GCL.out.fM; have hqE := GCL.out.qE; have hfE := GCL.out.fE; have nn4 := GCL.out.1.2.2.2.2.2.2.2.1; have nn5 := GCL.out.1.2.2.2.2.2.2.2.2.1; have nn6 := GCL.out.1.2.2.2.2.2.2.2.2.2; have nn4s := Ne.symm nn4; have nn5s := Ne.symm nn5; have nn6s := Ne.symm nn6))
          go_roundw
          case rel =>
            refine ⟨j + 1, by omega, by congr 1, ⟨?_⟩⟩
            rw [SG.grpN, HST.out, SG.grpStep]
            dsimp only
            rw [GM1.out, if_neg HM1.out]
            exact ⟨_, GCL.out.setI 3 _ rfl, RB.I (by have := RVL.out; rw [List.length_append, List.length_singleton] at this; exact this)⟩
          case measure => simp [intOf]; omega
      · obtain rfl : j = 7 := by omega
        rw [HST.out] at H
        have HGL : Aside0 (gj.length ≤ 100) := ⟨by have := HOKJ.out.2.1; omega⟩
        clear hj
        go_upto_region 21 with fail
        by_cases hee : ej = 0
        case neg =>
          have be : (ej != 0) = true := bne_iff_ne.mpr hee
          have HQ := H.out
          unfold SG.getFin at HQ
          rw [if_pos hee] at HQ
          simp only [Option.some.injEq, Prod.mk.injEq] at HQ
          obtain ⟨rfl, rfl, rfl, rfl, rfl, rfl⟩ := HQ
          clear hee
          go_wp2
          go_region
          all_goals
            go_wp2
            refine info_Get.fin (cs := #[.int .u8 0, .int .u8 0, .int .i64 0, .slice none 0 0]) (nx := 0) (e := ej) (?gc18 : GetC w gb gi gm ge A0 c0 l0 _ _ _ _) rfl rfl rfl rfl rfl (fun hbel => ?_)
            case gc18 =>
              repeat (first | (with_reducible exact GCJ.out) | (with_reducible apply GetC.drew) | (with_reducible apply GetC.drewN) | (with_reducible apply GetC.putI) | (with_reducible apply GetC.putM) | (with_reducible apply GetC.putE))
              all_goals rfl
            exact ⟨_, rfl, Kd.R_nil _ _ _ _ _, hbel⟩
        case pos =>
          have be : (ej != 0) = false := by rw [hee]; rfl
          have HE := Aside0.mk hee
          clear hee
          by_cases hodd : n1 = 0
          case neg =>
            have bo : (n1 != 0) = true := bne_iff_ne.mpr hodd
            have HQ := H.out
            unfold SG.getFin at HQ
            rw [if_neg (fun h => h HE.out), if_pos (Or.inl hodd)] at HQ
            simp only [Option.some.injEq, Prod.mk.injEq] at HQ
            obtain ⟨rfl, rfl, rfl, rfl, rfl, rfl⟩ := HQ
            clear hodd
            go_wp2
            refine info_Get.fin (cs := #[.int .u8 0, .int .u8 0, .int .i64 0, .slice none 0 0]) (nx := 0) (e := 8) (?gc19 : GetC w gb gi gm ge A0 c0 l0 _ _ _ _) rfl rfl rfl rfl rfl (fun hbel => ?_)
            case gc19 =>
              repeat (first | (with_reducible exact GCJ.out) | (with_reducible apply GetC.drew) | (with_reducible apply GetC.drewN) | (with_reducible apply GetC.putI) | (with_reducible apply GetC.putM) | (with_reducible apply GetC.putE))
              all_goals rfl
            exact ⟨_, rfl, Kd.R_nil _ _ _ _ _, hbel⟩
          case pos =>
            have bo : (n1 != 0) = false := by rw [hodd]; rfl
            have HO := Aside0.mk hodd
            clear hodd
            obtain ⟨q, hq⟩ : ∃ q, q = SP.checkS a2 2 n3 n4 gj := ⟨_, rfl⟩
            have HK : Aside0 (info_Check.f 1001 a2 2 n3 n4 gj = some q) := ⟨by rw [hq]; exact SP.check_f a2 _ _ _ _ (by have := HGL.out; omega) 1001 (by have := HGL.out; omega)⟩
            have HQ := H.out
            unfold SG.getFin at HQ
            rw [if_neg (fun h => h HE.out)] at HQ
            dsimp only at HQ
            rw [← hq] at HQ
            clear hq
            obtain ⟨hlc, hRc⟩ := (Kd.R_reads' RVJ.out).2
            have HLC := Aside0.mk hlc
            have HRC := Aside0.mk hRc
            clear hlc hRc
            by_cases hqq : q = 0
            case neg =>
              have bq : (q != 0) = true := bne_iff_ne.mpr hqq
              rw [if_pos (Or.inr hqq)] at HQ
              simp only [Option.some.injEq, Prod.mk.injEq] at HQ
              obtain ⟨rfl, rfl, rfl, rfl, rfl, rfl⟩ := HQ
              clear hqq
              go_wp2_with (first | (go_at_call 15; refine (info_Check.calls 1001 a2 2 n3 n4 AV CV gj q _ (by (with_reducible repeat (first | apply Kd.C_alloc | apply Kd.C_drewN | apply Kd.C_drew)); exact HRC.out) HLC.out HK.out).mono ?_; rintro e wz ⟨rfl, hb⟩; have GCZ := Aside0.mk (GCJ.out.below hb); have RVZ := Aside0.mk (Kd.R_below RVJ.out hb); clear hb hq0 hq1 hq2 hq3 hf0 hf1 hf2 hf3 hqM hfM hqE hfE nn4 nn5 nn6 nn4s nn5s nn6s; have hq0 := (GCZ.out.qI 0).trans rfl; have hq1 := (GCZ.out.qI 1).trans rfl; have hq2 := (GCZ.out.qI 2).trans rfl; have hq3 := (GCZ.out.qI 3).trans rfl; have hf0 := GCZ.out.fI 0; have hf1 := GCZ.out.fI 1; have hf2 := GCZ.out.fI 2; have hf3 := GCZ.out.fI 3; have hqM := GCZ.out.qM; have hfM := GCZ.out.fM; have hqE := GCZ.out.qE; have hfE := GCZ.out.fE; have nn4 := GCZ.out.1.2.2.2.2.2.2.2.1; have nn5 := GCZ.out.1.2.2.2.2.2.2.2.2.1; have nn6 := GCZ.out.1.2.2.2.2.2.2.2.2.2; have nn4s := Ne.symm nn4; have nn5s := Ne.symm nn5; have nn6s := Ne.symm nn6))
              refine info_Get.fin (cs := #[.int .u8 0, .int .u8 0, .int .i64 0, .slice none 0 0]) (nx := 0) (e := 8) (?gc20 : GetC w gb gi gm ge A0 c0 l0 _ _ _ _) rfl rfl rfl rfl rfl (fun hbel => ?_)
              case gc20 =>
                repeat (first | (with_reducible exact GCZ.out) | (with_reducible apply GetC.drew) | (with_reducible apply GetC.drewN) | (with_reducible apply GetC.putI) | (with_reducible apply GetC.putM) | (with_reducible apply GetC.putE))
                all_goals rfl
              exact ⟨_, rfl, Kd.R_nil _ _ _ _ _, hbel⟩
            case pos =>
              have bq : (q != 0) = false := by rw [hqq]; rfl
              rw [if_neg (by rw [HO.out, hqq]; simp)] at HQ
              simp only [Option.some.injEq, Prod.mk.injEq] at HQ
              obtain ⟨rfl, rfl, rfl, rfl, rfl, rfl⟩ := HQ
              clear hqq
              go_wp2_with (first | (go_at_call 15; refine (info_Check.calls 1001 a2 2 n3 n4 AV CV gj q _ (by (with_reducible repeat (first | apply Kd.C_alloc | apply Kd.C_drewN | apply Kd.C_drew)); exact HRC.out) HLC.out HK.out).mono ?_; rintro e wz ⟨rfl, hb⟩; have GCZ := Aside0.mk (GCJ.out.below hb); have RVZ := Aside0.mk (Kd.R_below RVJ.out hb); clear hb hq0 hq1 hq2 hq3 hf0 hf1 hf2 hf3 hqM hfM hqE hfE nn4 nn5 nn6 nn4s nn5s nn6s; have hq0 := (GCZ.out.qI 0).trans rfl; have hq1 := (GCZ.out.qI 1).trans rfl; have hq2 := (GCZ.out.qI 2).trans rfl; have hq3 := (GCZ.out.qI 3).trans rfl; have hf0 := GCZ.out.fI 0; have hf1 := GCZ.out.fI 1; have hf2 := GCZ.out.fI 2; have hf3 := GCZ.out.fI 3; have hqM := GCZ.out.qM; have hfM := GCZ.out.fM; have hqE := GCZ.out.qE; have hfE := GCZ.out.fE; have nn4 := GCZ.out.1.2.2.2.2.2.2.2.1; have nn5 := GCZ.out.1.2.2.2.2.2.2.2.2.1; have nn6 := GCZ.out.1.2.2.2.2.2.2.2.2.2; have nn4s := Ne.symm nn4; have nn5s := Ne.symm nn5; have nn6s := Ne.symm nn6))
              go_region
              all_goals
                go_wp2
                refine info_Get.fin (cs := #[.int .u8 2, .int .u8 n3, .int .i64 n4, .slice AV gj.length CV]) (nx := pj) (e := 0) (?gc21 : GetC w gb gi gm ge A0 c0 l0 _ _ _ _) rfl rfl rfl rfl rfl (fun hbel => ?_)
                case gc21 =>
                  repeat (first | (with_reducible exact GCZ.out) | (with_reducible apply GetC.drew) | (with_reducible apply GetC.drewN) | (with_reducible apply GetC.putI) | (with_reducible apply GetC.putM) | (with_reducible apply GetC.putE))
                  all_goals rfl
                exact ⟨_, rfl, Kd.R_mono (ok := okB gb gi gm ge) (by repeat (first | (with_reducible exact RVZ.out) | (with_reducible apply Kd.R_drew) | (with_reducible apply Kd.R_drewN) | (with_reducible apply RB.I) | (with_reducible apply RB.M) | (with_reducible apply RB.E))) (fun _ _ => trivial), hbel⟩

end Go.Proofs.Ytdoeclpbobjgdaa.K
end
