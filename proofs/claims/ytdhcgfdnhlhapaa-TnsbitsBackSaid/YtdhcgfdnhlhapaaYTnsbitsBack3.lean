/- Texts of this session for the law TnsbitsBack, packed by wip/merge.py: part 3 of 5. Each section is one text; the law's own sentence stands over its section. -/
import Derived.Test.YtdhcgfdnhlhapaaYTnsbitsBack1
import Derived.Test.YtdhcgfdnhlhapaaYTnsbitsBack2
section
-- Written for this claim by this session's own wip/hook.py (it runs the kit's print and takes some functions' contracts as given texts of this session's).
namespace Go.Proofs.Ytdhcgfdnhlhapaa.K
open Go.RowKit Go.Proofs.YtdhcgfdnhlhapaaW.PrintWords Go.Proofs.YtdhcgfdnhlhapaaW.PrintLast Go.Proofs.YtdhcgfdnhlhapaaW.PrintMore
attribute [local go_sem] max2_int min2_int max_two min_two max_three min_three max_four min_four   -- for this text's walks alone
set_option linter.unusedVariables false
set_option linter.unusedSimpArgs false

/-! ### reedpipelaw21_alive: function 7 -/
def reedpipelaw21_alive.f  : Option (Bool) := (reedpipelaw21_long.f).bind fun bt128 => ((tnsbits_Put.f ([] : List Int) bt128.1 bt128.2.1 bt128.2.2.1 bt128.2.2.2 (([[]] : List (List (S38))))).bind fun bt137 => ((reedpipelaw21_long.f).bind fun bt141 => ((tnsbits_Put.f ([] : List Int) bt141.1 bt141.2.1 bt141.2.2.1 bt141.2.2.2 (([(([(⟨1, 1, true, false, (([(-2)] : List Int))⟩ : S38)] : List (S38)))] : List (List (S38))))).bind fun bt156 => (if bt137.2 = 0 then (if (strOfNums bt137.1).toList = ([0, 0] : List UInt8) then (if bt156.2 = 0 then (some ((strOfNums bt156.1).toList == ([0, 1, 0, 0, 0, 0, 0, 0, 1, 0, 0, 0, 0, 1, 1, 1, 1, 0] : List UInt8))) else (some false)) else (some false)) else (some false)))))
set_option maxHeartbeats 8000000 in
set_option maxRecDepth 100000 in
theorem reedpipelaw21_alive.calls  (r : Bool) (w : World) (h : reedpipelaw21_alive.f  = some r) :
    Calls Try.prog 7 #[] w fun e w' => e = .returned (.bool r) ∧ Below w.heap.size w w' := by
  have hu38 := Try.underlying38
  have hr0 : Aside0 (r = true) := ⟨Option.some.inj (h.symm.trans (show reedpipelaw21_alive.f = some true by decide +kernel))⟩
  have HB := Aside0.mk (Below.refl w.heap.size w)
  have H : ((reedpipelaw21_long.f).bind fun bt128 => ((tnsbits_Put.f ([] : List Int) bt128.1 bt128.2.1 bt128.2.2.1 bt128.2.2.2 (([[]] : List (List (S38))))).bind fun bt137 => ((reedpipelaw21_long.f).bind fun bt141 => ((tnsbits_Put.f ([] : List Int) bt141.1 bt141.2.1 bt141.2.2.1 bt141.2.2.2 (([(([(⟨1, 1, true, false, (([(-2)] : List Int))⟩ : S38)] : List (S38)))] : List (List (S38))))).bind fun bt156 => (if bt137.2 = 0 then (if (strOfNums bt137.1).toList = ([0, 0] : List UInt8) then (if bt156.2 = 0 then (some ((strOfNums bt156.1).toList == ([0, 1, 0, 0, 0, 0, 0, 0, 1, 0, 0, 0, 0, 1, 1, 1, 1, 0] : List UInt8))) else (some false)) else (some false)) else (some false)))))) = some r := h
  clear h
  replace H := Option.bind_eq_some_iff.mp H
  obtain ⟨⟨t128, t129, t130, t131⟩, A10, H⟩ := H
  replace H : ((tnsbits_Put.f ([] : List Int) t128 t129 t130 t131 (([[]] : List (List (S38))))).bind fun bt137 => ((reedpipelaw21_long.f).bind fun bt141 => ((tnsbits_Put.f ([] : List Int) bt141.1 bt141.2.1 bt141.2.2.1 bt141.2.2.2 (([(([(⟨1, 1, true, false, (([(-2)] : List Int))⟩ : S38)] : List (S38)))] : List (List (S38))))).bind fun bt156 => (if bt137.2 = 0 then (if (strOfNums bt137.1).toList = ([0, 0] : List UInt8) then (if bt156.2 = 0 then (some ((strOfNums bt156.1).toList == ([0, 1, 0, 0, 0, 0, 0, 0, 1, 0, 0, 0, 0, 1, 1, 1, 1, 0] : List UInt8))) else (some false)) else (some false)) else (some false))))) = some r := H
  have A1 := Aside0.mk A10
  clear A10
  obtain ⟨y134, hy134⟩ : ∃ y_ : List (List (S38)), y_ = (([[]] : List (List (S38)))) := ⟨_, rfl⟩
  replace H : ((tnsbits_Put.f ([] : List Int) t128 t129 t130 t131 y134).bind fun bt137 => ((reedpipelaw21_long.f).bind fun bt141 => ((tnsbits_Put.f ([] : List Int) bt141.1 bt141.2.1 bt141.2.2.1 bt141.2.2.2 (([(([(⟨1, 1, true, false, (([(-2)] : List Int))⟩ : S38)] : List (S38)))] : List (List (S38))))).bind fun bt156 => (if bt137.2 = 0 then (if (strOfNums bt137.1).toList = ([0, 0] : List UInt8) then (if bt156.2 = 0 then (some ((strOfNums bt156.1).toList == ([0, 1, 0, 0, 0, 0, 0, 0, 1, 0, 0, 0, 0, 1, 1, 1, 1, 0] : List UInt8))) else (some false)) else (some false)) else (some false))))) = some r := by first | (rw [hy134]; with_reducible exact H) | (have H2_ := (Option.bind_some _ _).symm.trans H; rw [hy134]; with_reducible exact H2_) | (have H2_ := (Option.bind_some _ _).symm.trans H; with_reducible exact H2_) | with_reducible exact H | (rw [hy134]; exact H) | exact H
  have Ny134 := Aside0.mk hy134
  clear hy134
  replace H := Option.bind_eq_some_iff.mp H
  obtain ⟨⟨t137, t140⟩, A20, H⟩ := H
  replace H : ((reedpipelaw21_long.f).bind fun bt141 => ((tnsbits_Put.f ([] : List Int) bt141.1 bt141.2.1 bt141.2.2.1 bt141.2.2.2 (([(([(⟨1, 1, true, false, (([(-2)] : List Int))⟩ : S38)] : List (S38)))] : List (List (S38))))).bind fun bt156 => (if t140 = 0 then (if (strOfNums t137).toList = ([0, 0] : List UInt8) then (if bt156.2 = 0 then (some ((strOfNums bt156.1).toList == ([0, 1, 0, 0, 0, 0, 0, 0, 1, 0, 0, 0, 0, 1, 1, 1, 1, 0] : List UInt8))) else (some false)) else (some false)) else (some false)))) = some r := H
  have A2 := Aside0.mk A20
  clear A20
  replace H := Option.bind_eq_some_iff.mp H
  obtain ⟨⟨t141, t142, t143, t144⟩, A30, H⟩ := H
  replace H : ((tnsbits_Put.f ([] : List Int) t141 t142 t143 t144 (([(([(⟨1, 1, true, false, (([(-2)] : List Int))⟩ : S38)] : List (S38)))] : List (List (S38))))).bind fun bt156 => (if t140 = 0 then (if (strOfNums t137).toList = ([0, 0] : List UInt8) then (if bt156.2 = 0 then (some ((strOfNums bt156.1).toList == ([0, 1, 0, 0, 0, 0, 0, 0, 1, 0, 0, 0, 0, 1, 1, 1, 1, 0] : List UInt8))) else (some false)) else (some false)) else (some false))) = some r := H
  have A3 := Aside0.mk A30
  clear A30
  obtain ⟨y147, hy147⟩ : ∃ y_ : List Int, y_ = (([(-2)] : List Int)) := ⟨_, rfl⟩
  replace H : ((tnsbits_Put.f ([] : List Int) t141 t142 t143 t144 (([(([(⟨1, 1, true, false, y147⟩ : S38)] : List (S38)))] : List (List (S38))))).bind fun bt156 => (if t140 = 0 then (if (strOfNums t137).toList = ([0, 0] : List UInt8) then (if bt156.2 = 0 then (some ((strOfNums bt156.1).toList == ([0, 1, 0, 0, 0, 0, 0, 0, 1, 0, 0, 0, 0, 1, 1, 1, 1, 0] : List UInt8))) else (some false)) else (some false)) else (some false))) = some r := by first | (rw [hy147]; with_reducible exact H) | (have H2_ := (Option.bind_some _ _).symm.trans H; rw [hy147]; with_reducible exact H2_) | (have H2_ := (Option.bind_some _ _).symm.trans H; with_reducible exact H2_) | with_reducible exact H | (rw [hy147]; exact H) | exact H
  have Ny147 := Aside0.mk hy147
  clear hy147
  obtain ⟨y150, hy150⟩ : ∃ y_ : List (S38), y_ = (([(⟨1, 1, true, false, y147⟩ : S38)] : List (S38))) := ⟨_, rfl⟩
  replace H : ((tnsbits_Put.f ([] : List Int) t141 t142 t143 t144 (([y150] : List (List (S38))))).bind fun bt156 => (if t140 = 0 then (if (strOfNums t137).toList = ([0, 0] : List UInt8) then (if bt156.2 = 0 then (some ((strOfNums bt156.1).toList == ([0, 1, 0, 0, 0, 0, 0, 0, 1, 0, 0, 0, 0, 1, 1, 1, 1, 0] : List UInt8))) else (some false)) else (some false)) else (some false))) = some r := by first | (rw [hy150]; with_reducible exact H) | (have H2_ := (Option.bind_some _ _).symm.trans H; rw [hy150]; with_reducible exact H2_) | (have H2_ := (Option.bind_some _ _).symm.trans H; with_reducible exact H2_) | with_reducible exact H | (rw [hy150]; exact H) | exact H
  have Ny150 := Aside0.mk hy150
  clear hy150
  obtain ⟨y153, hy153⟩ : ∃ y_ : List (List (S38)), y_ = (([y150] : List (List (S38)))) := ⟨_, rfl⟩
  replace H : ((tnsbits_Put.f ([] : List Int) t141 t142 t143 t144 y153).bind fun bt156 => (if t140 = 0 then (if (strOfNums t137).toList = ([0, 0] : List UInt8) then (if bt156.2 = 0 then (some ((strOfNums bt156.1).toList == ([0, 1, 0, 0, 0, 0, 0, 0, 1, 0, 0, 0, 0, 1, 1, 1, 1, 0] : List UInt8))) else (some false)) else (some false)) else (some false))) = some r := by first | (rw [hy153]; with_reducible exact H) | (have H2_ := (Option.bind_some _ _).symm.trans H; rw [hy153]; with_reducible exact H2_) | (have H2_ := (Option.bind_some _ _).symm.trans H; with_reducible exact H2_) | with_reducible exact H | (rw [hy153]; exact H) | exact H
  have Ny153 := Aside0.mk hy153
  clear hy153
  replace H := Option.bind_eq_some_iff.mp H
  obtain ⟨⟨t156, t159⟩, A40, H⟩ := H
  replace H : (if t140 = 0 then (if (strOfNums t137).toList = ([0, 0] : List UInt8) then (if t159 = 0 then (some ((strOfNums t156).toList == ([0, 1, 0, 0, 0, 0, 0, 0, 1, 0, 0, 0, 0, 1, 1, 1, 1, 0] : List UInt8))) else (some false)) else (some false)) else (some false)) = some r := H
  have A4 := Aside0.mk A40
  clear A40
  by_cases c5 : t140 = 0
  · rw [if_pos c5] at H
    have c5b0 : (t140 == 0) = true := beq_iff_eq.mpr c5
    have c5b1 : (t140 != 0) = false := bne_eq_false_iff_eq.mpr c5
    clear c5
    by_cases c6 : (strOfNums t137).toList = ([0, 0] : List UInt8)
    · rw [if_pos c6] at H
      have c6b0 : ((strOfNums t137).toList == ([0, 0] : List UInt8)) = true := beq_iff_eq.mpr c6
      have c6b1 : ((strOfNums t137).toList != ([0, 0] : List UInt8)) = false := bne_eq_false_iff_eq.mpr c6
      clear c6
      by_cases c7 : t159 = 0
      · rw [if_pos c7] at H
        have c7b0 : (t159 == 0) = true := beq_iff_eq.mpr c7
        have c7b1 : (t159 != 0) = false := bne_eq_false_iff_eq.mpr c7
        clear c7
        obtain rfl := Option.some.inj H
        go_enter Try.func7, Try.ntmps7
        go_wp2_with (first | ((with_reducible refine gate_callee (f := 12) rfl ?_); refine goesL_ (some 6) rfl rfl Try.func12 (by kernel_rfl) rfl #[] rfl (by (try simp only [List.map_toArray, List.map_cons, List.map_nil]); first | done | rfl | (simp only [List.length_drop, List.length_take]; rfl)) ?_; (with_reducible refine (reedpipelaw21_long.calls  t128 t129 t130 t131 _ A1.out).mono ?_); rintro e w8 ⟨v132, rfl, ho0, hb⟩; refine ⟨_, rfl, ?_⟩; have n0_ := Aside0.mk (Kd.R_lower ho0 (below_size (by repeat (first | (with_reducible first | exact HB.out | apply below_alloc | apply pw_below_drewN | apply below_drew1) | exact HB.out)))); have n1_ := Aside0.mk (below_step (by repeat (first | (with_reducible first | exact HB.out | apply below_alloc | apply pw_below_drewN | apply below_drew1) | exact HB.out)) hb); clear HB; have HO133 := n0_; have HB := n1_; clear n0_ n1_; (try clear hb); (try clear hb2); (try clear hk); (try clear hi); (try clear ho0)) | ((with_reducible refine gate_dst (N := 7) rfl ?_); refine Kd.N_lit (Kd.slice 38 k38) _ 35 ?hg (N' := 7) ?hd (xs := ([[]] : List (List (S38)))) (inner := [.slice none 0 0]) (ok := (fun k_ => some k_ ≠ (v132 : Value).ownBlock)) (okp := (fun k_ => some k_ ≠ (v132 : Value).ownBlock)) ?hr ?hp (fun _ hk => hk) ((show ∀ k_, w8.heap.size ≤ k_ → (fun k_ => some k_ ≠ (v132 : Value).ownBlock) k_ from fun k_ hk => Kd.fresh' (Kd.R_lt (by (with_reducible repeat (first | apply Kd.R_alloc | apply Kd.R_drewN | apply Kd.R_drew)); exact HO133.out)) k_ hk) _ (Nat.le_refl _)) (Below.refl _ _) (Nat.le_refl _) (by simp) ?_; (case hd => rfl); (case hg => rfl); (case hr => first | (go_simp; done) | (go_simp; rfl)); (case hp => exact (Reps.one (show Kd.FK (Kd.slice 38 k38) _ _ [] [.slice none 0 0] from (Kd.FK_slice_mk (Nat.le_refl _) (Kd.F_nil _ _ _))) (Reps.none _ _))); intro v135 w9 ho10 hb hg_ hnew_; clear hg_ hnew_; (first | rw [← Ny134.out] at ho10 | (simp only [Int.reduceToNat] at ho10; rw [← Ny134.out] at ho10)); have n0_ := Aside0.mk (Kd.R_below (by (with_reducible repeat (first | apply Kd.R_alloc | apply Kd.R_drewN | apply Kd.R_drew)); exact HO133.out) hb); have n1_ := Aside0.mk (Kd.N_lower ho10 (below_size (by repeat (first | (with_reducible first | exact HB.out | apply below_alloc | apply pw_below_drewN | apply below_drew1) | exact HB.out)))); have n2_ := Aside0.mk (below_step (by repeat (first | (with_reducible first | exact HB.out | apply below_alloc | apply pw_below_drewN | apply below_drew1) | exact HB.out)) hb); clear HO133; clear HB; have HO133 := n0_; have HO136 := n1_; have HB := n2_; clear n0_ n1_ n2_; clear hb ho10; obtain ⟨Ao11, co11, eo11⟩ := Kd.R_slice HO133.out; subst eo11; obtain ⟨Ao12, co12, eo12⟩ := Kd.N_slice HO136.out; subst eo12) | ((with_reducible refine gate_callee (f := 11) rfl ?_); refine goesL_ (some 8) rfl rfl Try.func11 (by kernel_rfl) rfl #[.slice none 0 0, .agg #[.int .u8 t128, .int .u8 t129, .int .i64 t130, .slice Ao11 t131.length co11], .slice Ao12 y134.length co12] rfl (by (try simp only [List.map_toArray, List.map_cons, List.map_nil]); first | done | rfl | (simp only [List.length_drop, List.length_take]; rfl)) ?_; (refine (tnsbits_Put.calls _ _ ([] : List Int) t128 t129 t130 _ _ t131 _ _ y134 t137 t140 _ ?side1 ?side2 ?side3 ?side4 ?side5 ?side6 A2.out).mono ?_); (case side1 => exact Kd.C_nil _ _); (case side2 => exact Nat.le_refl _); (case side3 => repeat (first | exact (Kd.R_reads' HO133.out).2.2 | (with_reducible refine Kd.C_alloc ?_ _) | (with_reducible refine Kd.C_drewN ?_ _) | (with_reducible refine Kd.C_drew ?_))); (case side4 => exact (Kd.R_reads' HO133.out).2.1); (case side5 => repeat (first | exact (Kd.N_reads' HO136.out).2.2 | (with_reducible refine Kd.C_alloc ?_ _) | (with_reducible refine Kd.C_drewN ?_ _) | (with_reducible refine Kd.C_drew ?_))); (case side6 => exact (Kd.N_reads' HO136.out).2.1); rintro e w13 ⟨v138, rfl, ho0, hb⟩; refine ⟨_, rfl, ?_⟩; have n0_ := Aside0.mk (Kd.R_below (by (with_reducible repeat (first | apply Kd.R_alloc | apply Kd.R_drewN | apply Kd.R_drew)); exact HO133.out) hb); have n1_ := Aside0.mk (Kd.N_elder' (by (with_reducible repeat (first | apply Kd.N_alloc | apply Kd.N_drewN | apply Kd.N_drew)); exact HO136.out) (Kd.R_base ho0) hb); have n2_ := Aside0.mk (Kd.R_lower ho0 (below_size (by repeat (first | (with_reducible first | exact HB.out | apply below_alloc | apply pw_below_drewN | apply below_drew1) | exact HB.out)))); have n3_ := Aside0.mk (below_step (by repeat (first | (with_reducible first | exact HB.out | apply below_alloc | apply pw_below_drewN | apply below_drew1) | exact HB.out)) hb); clear HO133; clear HO136; clear HB; have HO133 := n0_; have HO136 := n1_; have HO139 := n2_; have HB := n3_; clear n0_ n1_ n2_ n3_; (try clear hb); (try clear hb2); (try clear hk); (try clear hi); (try clear ho0)) | ((with_reducible refine gate_callee (f := 12) rfl ?_); refine goesL_ (some 12) rfl rfl Try.func12 (by kernel_rfl) rfl #[] rfl (by (try simp only [List.map_toArray, List.map_cons, List.map_nil]); first | done | rfl | (simp only [List.length_drop, List.length_take]; rfl)) ?_; (with_reducible refine (reedpipelaw21_long.calls  t141 t142 t143 t144 _ A3.out).mono ?_); rintro e w14 ⟨v145, rfl, ho0, hb⟩; refine ⟨_, rfl, ?_⟩; have n0_ := Aside0.mk (Kd.R_elder' (by (with_reducible repeat (first | apply Kd.R_alloc | apply Kd.R_drewN | apply Kd.R_drew)); exact HO133.out) (Kd.R_base ho0) hb); have n1_ := Aside0.mk (Kd.N_elder' (by (with_reducible repeat (first | apply Kd.N_alloc | apply Kd.N_drewN | apply Kd.N_drew)); exact HO136.out) (Kd.R_base ho0) hb); have n2_ := Aside0.mk (Kd.R_below (by (with_reducible repeat (first | apply Kd.R_alloc | apply Kd.R_drewN | apply Kd.R_drew)); exact HO139.out) hb); have n3_ := Aside0.mk (Kd.R_lower (Kd.R_new' ho0 (Kd.R_lt (by (with_reducible repeat (first | apply Kd.R_alloc | apply Kd.R_drewN | apply Kd.R_drew)); exact HO133.out))) (below_size (by repeat (first | (with_reducible first | exact HB.out | apply below_alloc | apply pw_below_drewN | apply below_drew1) | exact HB.out)))); have n4_ := Aside0.mk (below_step (by repeat (first | (with_reducible first | exact HB.out | apply below_alloc | apply pw_below_drewN | apply below_drew1) | exact HB.out)) hb); clear HO133; clear HO136; clear HO139; clear HB; have HO133 := n0_; have HO136 := n1_; have HO139 := n2_; have HO146 := n3_; have HB := n4_; clear n0_ n1_ n2_ n3_ n4_; (try clear hb); (try clear hb2); (try clear hk); (try clear hi); (try clear ho0)) | ((with_reducible refine gate_dst (N := 13) rfl ?_); refine Kd.R_lit (Kd.int .i64) _ 3 ?hg (N := 13) ?hd (xs := ([(-2)] : List Int)) (inner := [.int .i64 (-2)]) (ok := fun _ => True) (okp := fun _ => True) ?hr ?hp (fun _ hk => hk) trivial (Below.refl _ _) (Nat.le_refl _) (by simp) ?_; (case hd => rfl); (case hg => rfl); (case hr => first | (go_simp; done) | (go_simp; rfl)); (case hp => exact (Reps.one (show Kd.M (Kd.int .i64) _ _ _ (-2) [.int .i64 (-2)] from rfl) (Reps.none _ _))); intro v148 w15 ho16 hb hg_ hnew_; clear hg_ hnew_; (first | rw [← Ny147.out] at ho16 | (simp only [Int.reduceToNat] at ho16; rw [← Ny147.out] at ho16)); have n0_ := Aside0.mk (Kd.R_elder' (by (with_reducible repeat (first | apply Kd.R_alloc | apply Kd.R_drewN | apply Kd.R_drew)); exact HO133.out) (Kd.R_base ho16) hb); have n1_ := Aside0.mk (Kd.N_elder' (by (with_reducible repeat (first | apply Kd.N_alloc | apply Kd.N_drewN | apply Kd.N_drew)); exact HO136.out) (Kd.R_base ho16) hb); have n2_ := Aside0.mk (Kd.R_below (by (with_reducible repeat (first | apply Kd.R_alloc | apply Kd.R_drewN | apply Kd.R_drew)); exact HO139.out) hb); have n3_ := Aside0.mk (Kd.R_elder' (by (with_reducible repeat (first | apply Kd.R_alloc | apply Kd.R_drewN | apply Kd.R_drew)); exact HO146.out) (Kd.R_base ho16) hb); have n4_ := Aside0.mk (Kd.R_lower (Kd.R_new' (Kd.R_new' ho16 (Kd.R_lt (by (with_reducible repeat (first | apply Kd.R_alloc | apply Kd.R_drewN | apply Kd.R_drew)); exact HO133.out))) (Kd.R_lt (by (with_reducible repeat (first | apply Kd.R_alloc | apply Kd.R_drewN | apply Kd.R_drew)); exact HO146.out))) (below_size (by repeat (first | (with_reducible first | exact HB.out | apply below_alloc | apply pw_below_drewN | apply below_drew1) | exact HB.out)))); have n5_ := Aside0.mk (below_step (by repeat (first | (with_reducible first | exact HB.out | apply below_alloc | apply pw_below_drewN | apply below_drew1) | exact HB.out)) hb); clear HO133; clear HO136; clear HO139; clear HO146; clear HB; have HO133 := n0_; have HO136 := n1_; have HO139 := n2_; have HO146 := n3_; have HO149 := n4_; have HB := n5_; clear n0_ n1_ n2_ n3_ n4_ n5_; clear hb ho16; obtain ⟨Ao17, co17, eo17⟩ := Kd.R_slice HO149.out; subst eo17) | ((with_reducible refine gate_dst (N := 15) rfl ?_); refine Kd.N_lit k38 _ 38 ?hg (N' := 15) ?hd (xs := ([(⟨1, 1, true, false, y147⟩ : S38)] : List (S38))) (inner := [.int .i64 1, .int .i64 1, .bool true, .bool false, .slice Ao17 y147.length co17]) (ok := (fun k_ => some k_ ≠ (.slice Ao11 t131.length co11 : Value).ownBlock ∧ some k_ ≠ (.slice Ao12 y134.length co12 : Value).ownBlock ∧ some k_ ≠ (v138 : Value).ownBlock ∧ some k_ ≠ (v145 : Value).ownBlock)) (okp := (fun k_ => some k_ ≠ (.slice Ao11 t131.length co11 : Value).ownBlock ∧ some k_ ≠ (.slice Ao12 y134.length co12 : Value).ownBlock ∧ some k_ ≠ (v138 : Value).ownBlock ∧ some k_ ≠ (v145 : Value).ownBlock)) ?hr ?hp (fun _ hk => hk) ((show ∀ k_, w15.heap.size ≤ k_ → (fun k_ => some k_ ≠ (.slice Ao11 t131.length co11 : Value).ownBlock ∧ some k_ ≠ (.slice Ao12 y134.length co12 : Value).ownBlock ∧ some k_ ≠ (v138 : Value).ownBlock ∧ some k_ ≠ (v145 : Value).ownBlock) k_ from fun k_ hk => ⟨Kd.fresh' (Kd.R_lt (by (with_reducible repeat (first | apply Kd.R_alloc | apply Kd.R_drewN | apply Kd.R_drew)); exact HO133.out)) k_ hk, Kd.fresh' (Kd.N_lt (by (with_reducible repeat (first | apply Kd.N_alloc | apply Kd.N_drewN | apply Kd.N_drew)); exact HO136.out)) k_ hk, Kd.fresh' (Kd.R_lt (by (with_reducible repeat (first | apply Kd.R_alloc | apply Kd.R_drewN | apply Kd.R_drew)); exact HO139.out)) k_ hk, Kd.fresh' (Kd.R_lt (by (with_reducible repeat (first | apply Kd.R_alloc | apply Kd.R_drewN | apply Kd.R_drew)); exact HO146.out)) k_ hk⟩) _ (Nat.le_refl _)) (Below.refl _ _) (Nat.le_refl _) (by simp) ?_; (case hd => rfl); (case hg => rfl); (case hr => first | (go_simp; done) | (go_simp; rfl)); (case hp => exact (Reps.c5 (show Kd.FK k38 _ _ (⟨1, 1, true, false, y147⟩ : S38) [.int .i64 1, .int .i64 1, .bool true, .bool false, .slice Ao17 y147.length co17] from (k38_mkF _ _ (⟨1, 1, true, false, y147⟩ : S38) (Kd.R_reads' (Kd.R_mono (ok' := (fun k_ => some k_ ≠ (.slice Ao11 t131.length co11 : Value).ownBlock ∧ some k_ ≠ (.slice Ao12 y134.length co12 : Value).ownBlock ∧ some k_ ≠ (v138 : Value).ownBlock ∧ some k_ ≠ (v145 : Value).ownBlock)) (Kd.R_apart' (Kd.R_apart' (HO149.out) (Kd.N_typed HO136.out) (by decide)) (Kd.R_typed HO139.out) (by decide)) (fun k_ hk => ⟨hk.1.1.1.2, ⟨hk.1.2, ⟨hk.2, hk.1.1.2⟩⟩⟩))).2.1 (Kd.R_F (Kd.R_mono (ok' := (fun k_ => some k_ ≠ (.slice Ao11 t131.length co11 : Value).ownBlock ∧ some k_ ≠ (.slice Ao12 y134.length co12 : Value).ownBlock ∧ some k_ ≠ (v138 : Value).ownBlock ∧ some k_ ≠ (v145 : Value).ownBlock)) (Kd.R_apart' (Kd.R_apart' (HO149.out) (Kd.N_typed HO136.out) (by decide)) (Kd.R_typed HO139.out) (by decide)) (fun k_ hk => ⟨hk.1.1.1.2, ⟨hk.1.2, ⟨hk.2, hk.1.1.2⟩⟩⟩))))) (Reps.none _ _))); intro v151 w18 ho19 hb hg_ hnew_; clear hg_ hnew_; (first | rw [← Ny150.out] at ho19 | (simp only [Int.reduceToNat] at ho19; rw [← Ny150.out] at ho19)); have n0_ := Aside0.mk (Kd.R_below (by (with_reducible repeat (first | apply Kd.R_alloc | apply Kd.R_drewN | apply Kd.R_drew)); exact HO133.out) hb); have n1_ := Aside0.mk (Kd.N_elder' (by (with_reducible repeat (first | apply Kd.N_alloc | apply Kd.N_drewN | apply Kd.N_drew)); exact HO136.out) (Kd.N_base ho19) hb); have n2_ := Aside0.mk (Kd.R_below (by (with_reducible repeat (first | apply Kd.R_alloc | apply Kd.R_drewN | apply Kd.R_drew)); exact HO139.out) hb); have n3_ := Aside0.mk (Kd.R_below (by (with_reducible repeat (first | apply Kd.R_alloc | apply Kd.R_drewN | apply Kd.R_drew)); exact HO146.out) hb); have n4_ := Aside0.mk (Kd.N_lower ho19 (below_size (by repeat (first | (with_reducible first | exact HB.out | apply below_alloc | apply pw_below_drewN | apply below_drew1) | exact HB.out)))); have n5_ := Aside0.mk (below_step (by repeat (first | (with_reducible first | exact HB.out | apply below_alloc | apply pw_below_drewN | apply below_drew1) | exact HB.out)) hb); clear HO133; clear HO136; clear HO139; clear HO146; clear HB; clear HO149; have HO133 := n0_; have HO136 := n1_; have HO139 := n2_; have HO146 := n3_; have HO152 := n4_; have HB := n5_; clear n0_ n1_ n2_ n3_ n4_ n5_; clear hb ho19; obtain ⟨Ao20, co20, eo20⟩ := Kd.N_slice HO152.out; subst eo20) | ((with_reducible refine gate_dst (N := 16) rfl ?_); refine Kd.N_lit (Kd.slice 38 k38) _ 35 ?hg (N' := 16) ?hd (xs := ([y150] : List (List (S38)))) (inner := [.slice Ao20 y150.length co20]) (ok := (fun k_ => some k_ ≠ (.slice Ao11 t131.length co11 : Value).ownBlock ∧ some k_ ≠ (.slice Ao12 y134.length co12 : Value).ownBlock ∧ some k_ ≠ (v138 : Value).ownBlock ∧ some k_ ≠ (v145 : Value).ownBlock)) (okp := (fun k_ => some k_ ≠ (.slice Ao11 t131.length co11 : Value).ownBlock ∧ some k_ ≠ (.slice Ao12 y134.length co12 : Value).ownBlock ∧ some k_ ≠ (v138 : Value).ownBlock ∧ some k_ ≠ (v145 : Value).ownBlock)) ?hr ?hp (fun _ hk => hk) ((show ∀ k_, w18.heap.size ≤ k_ → (fun k_ => some k_ ≠ (.slice Ao11 t131.length co11 : Value).ownBlock ∧ some k_ ≠ (.slice Ao12 y134.length co12 : Value).ownBlock ∧ some k_ ≠ (v138 : Value).ownBlock ∧ some k_ ≠ (v145 : Value).ownBlock) k_ from fun k_ hk => ⟨Kd.fresh' (Kd.R_lt (by (with_reducible repeat (first | apply Kd.R_alloc | apply Kd.R_drewN | apply Kd.R_drew)); exact HO133.out)) k_ hk, Kd.fresh' (Kd.N_lt (by (with_reducible repeat (first | apply Kd.N_alloc | apply Kd.N_drewN | apply Kd.N_drew)); exact HO136.out)) k_ hk, Kd.fresh' (Kd.R_lt (by (with_reducible repeat (first | apply Kd.R_alloc | apply Kd.R_drewN | apply Kd.R_drew)); exact HO139.out)) k_ hk, Kd.fresh' (Kd.R_lt (by (with_reducible repeat (first | apply Kd.R_alloc | apply Kd.R_drewN | apply Kd.R_drew)); exact HO146.out)) k_ hk⟩) _ (Nat.le_refl _)) (Below.refl _ _) (Nat.le_refl _) (by simp) ?_; (case hd => rfl); (case hg => rfl); (case hr => first | (go_simp; done) | (go_simp; rfl)); (case hp => exact (Reps.one (show Kd.FK (Kd.slice 38 k38) _ _ y150 [.slice Ao20 y150.length co20] from (Kd.FK_slice_mk (Kd.N_reads' (Kd.N_mono (ok' := (fun k_ => some k_ ≠ (.slice Ao11 t131.length co11 : Value).ownBlock ∧ some k_ ≠ (.slice Ao12 y134.length co12 : Value).ownBlock ∧ some k_ ≠ (v138 : Value).ownBlock ∧ some k_ ≠ (v145 : Value).ownBlock)) (HO152.out) (fun k_ hk => ⟨hk.1, ⟨hk.2.1, ⟨hk.2.2.1, hk.2.2.2⟩⟩⟩))).2.1 (Kd.N_F (Kd.N_mono (ok' := (fun k_ => some k_ ≠ (.slice Ao11 t131.length co11 : Value).ownBlock ∧ some k_ ≠ (.slice Ao12 y134.length co12 : Value).ownBlock ∧ some k_ ≠ (v138 : Value).ownBlock ∧ some k_ ≠ (v145 : Value).ownBlock)) (HO152.out) (fun k_ hk => ⟨hk.1, ⟨hk.2.1, ⟨hk.2.2.1, hk.2.2.2⟩⟩⟩))))) (Reps.none _ _))); intro v154 w21 ho22 hb hg_ hnew_; clear hg_ hnew_; (first | rw [← Ny153.out] at ho22 | (simp only [Int.reduceToNat] at ho22; rw [← Ny153.out] at ho22)); have n0_ := Aside0.mk (Kd.R_below (by (with_reducible repeat (first | apply Kd.R_alloc | apply Kd.R_drewN | apply Kd.R_drew)); exact HO133.out) hb); have n1_ := Aside0.mk (Kd.N_elder' (by (with_reducible repeat (first | apply Kd.N_alloc | apply Kd.N_drewN | apply Kd.N_drew)); exact HO136.out) (Kd.N_base ho22) hb); have n2_ := Aside0.mk (Kd.R_below (by (with_reducible repeat (first | apply Kd.R_alloc | apply Kd.R_drewN | apply Kd.R_drew)); exact HO139.out) hb); have n3_ := Aside0.mk (Kd.R_below (by (with_reducible repeat (first | apply Kd.R_alloc | apply Kd.R_drewN | apply Kd.R_drew)); exact HO146.out) hb); have n4_ := Aside0.mk (Kd.N_lower ho22 (below_size (by repeat (first | (with_reducible first | exact HB.out | apply below_alloc | apply pw_below_drewN | apply below_drew1) | exact HB.out)))); have n5_ := Aside0.mk (below_step (by repeat (first | (with_reducible first | exact HB.out | apply below_alloc | apply pw_below_drewN | apply below_drew1) | exact HB.out)) hb); clear HO133; clear HO136; clear HO139; clear HO146; clear HB; clear HO152; have HO133 := n0_; have HO136 := n1_; have HO139 := n2_; have HO146 := n3_; have HO155 := n4_; have HB := n5_; clear n0_ n1_ n2_ n3_ n4_ n5_; clear hb ho22; obtain ⟨Ao23, co23, eo23⟩ := Kd.R_slice HO146.out; subst eo23; obtain ⟨Ao24, co24, eo24⟩ := Kd.N_slice HO155.out; subst eo24) | ((with_reducible refine gate_callee (f := 11) rfl ?_); refine goesL_ (some 17) rfl rfl Try.func11 (by kernel_rfl) rfl #[.slice none 0 0, .agg #[.int .u8 t141, .int .u8 t142, .int .i64 t143, .slice Ao23 t144.length co23], .slice Ao24 y153.length co24] rfl (by (try simp only [List.map_toArray, List.map_cons, List.map_nil]); first | done | rfl | (simp only [List.length_drop, List.length_take]; rfl)) ?_; (refine (tnsbits_Put.calls _ _ ([] : List Int) t141 t142 t143 _ _ t144 _ _ y153 t156 t159 _ ?side1 ?side2 ?side3 ?side4 ?side5 ?side6 A4.out).mono ?_); (case side1 => exact Kd.C_nil _ _); (case side2 => exact Nat.le_refl _); (case side3 => repeat (first | exact (Kd.R_reads' HO146.out).2.2 | (with_reducible refine Kd.C_alloc ?_ _) | (with_reducible refine Kd.C_drewN ?_ _) | (with_reducible refine Kd.C_drew ?_))); (case side4 => exact (Kd.R_reads' HO146.out).2.1); (case side5 => repeat (first | exact (Kd.N_reads' HO155.out).2.2 | (with_reducible refine Kd.C_alloc ?_ _) | (with_reducible refine Kd.C_drewN ?_ _) | (with_reducible refine Kd.C_drew ?_))); (case side6 => exact (Kd.N_reads' HO155.out).2.1); rintro e w25 ⟨v157, rfl, ho0, hb⟩; refine ⟨_, rfl, ?_⟩; have n0_ := Aside0.mk (Kd.R_below (by (with_reducible repeat (first | apply Kd.R_alloc | apply Kd.R_drewN | apply Kd.R_drew)); exact HO133.out) hb); have n1_ := Aside0.mk (Kd.N_elder' (by (with_reducible repeat (first | apply Kd.N_alloc | apply Kd.N_drewN | apply Kd.N_drew)); exact HO136.out) (Kd.R_base ho0) hb); have n2_ := Aside0.mk (Kd.R_elder' (by (with_reducible repeat (first | apply Kd.R_alloc | apply Kd.R_drewN | apply Kd.R_drew)); exact HO139.out) (Kd.R_base ho0) hb); have n3_ := Aside0.mk (Kd.R_below (by (with_reducible repeat (first | apply Kd.R_alloc | apply Kd.R_drewN | apply Kd.R_drew)); exact HO146.out) hb); have n4_ := Aside0.mk (Kd.N_elder' (by (with_reducible repeat (first | apply Kd.N_alloc | apply Kd.N_drewN | apply Kd.N_drew)); exact HO155.out) (Kd.R_base ho0) hb); have n5_ := Aside0.mk (Kd.R_lower (Kd.R_new' ho0 (Kd.R_lt (by (with_reducible repeat (first | apply Kd.R_alloc | apply Kd.R_drewN | apply Kd.R_drew)); exact HO139.out))) (below_size (by repeat (first | (with_reducible first | exact HB.out | apply below_alloc | apply pw_below_drewN | apply below_drew1) | exact HB.out)))); have n6_ := Aside0.mk (below_step (by repeat (first | (with_reducible first | exact HB.out | apply below_alloc | apply pw_below_drewN | apply below_drew1) | exact HB.out)) hb); clear HO133; clear HO136; clear HO139; clear HO146; clear HO155; clear HB; have HO133 := n0_; have HO136 := n1_; have HO139 := n2_; have HO146 := n3_; have HO155 := n4_; have HO158 := n5_; have HB := n6_; clear n0_ n1_ n2_ n3_ n4_ n5_ n6_; (try clear hb); (try clear hb2); (try clear hk); (try clear hi); (try clear ho0); have hcv26 := own_string (P := Try.prog) Try.underlying32 Try.underlying5 Try.underlying9 (Kd.own_of_R HO139.out); have hcv27 := own_string (P := Try.prog) Try.underlying32 Try.underlying5 Try.underlying9 (Kd.own_of_R HO158.out)))
        go_ret
        exact ⟨by first | rfl | (simp [errW_none, errW_some] <;> rfl) | (simp [*, errW_none, errW_some] <;> rfl), by repeat (first | (with_reducible first | exact HB.out | apply below_alloc | apply pw_below_drewN | apply below_drew1) | exact HB.out)⟩
      · exfalso
        rw [if_neg c7, hr0.out] at H
        cases H
    · exfalso
      rw [if_neg c6, hr0.out] at H
      cases H
  · exfalso
    rw [if_neg c5, hr0.out] at H
    cases H
end Go.Proofs.Ytdhcgfdnhlhapaa.K
end
section
-- Written for this claim by this session's own wip/hook.py (it runs the kit's print and takes some functions' contracts as given texts of this session's).
namespace Go.Proofs.Ytdhcgfdnhlhapaa.K
open Go.RowKit Go.Proofs.YtdhcgfdnhlhapaaW.PrintWords Go.Proofs.YtdhcgfdnhlhapaaW.PrintLast Go.Proofs.YtdhcgfdnhlhapaaW.PrintMore
attribute [local go_sem] max2_int min2_int max_two min_two max_three min_three max_four min_four   -- for this text's walks alone
set_option linter.unusedVariables false
set_option linter.unusedSimpArgs false

/-! ### reedpiperef18_Great: function 15 -/
mutual
def reedpiperef18_Great.j0 : Nat → Bool → Int → Int → Int → Int → List Int → List (List (S97)) → List (List Int) → List (List (S38)) → List Int → Option (Bool)
  | 0, _, _, _, _, _, _, _, _, _, _ => none
  | k + 1, x35, x161000, x161001, x161002, x161003, x161004, x161005, x161006, x161007, x161008 => if x35 = true then (some true) else (reedpiperef18_Great.l0 k 0 x161000 x161001 x161002 x161003 x161004 x161005 x161006 x161007 x161008)
def reedpiperef18_Great.l0 : Nat → Int → Int → Int → Int → Int → List Int → List (List (S97)) → List (List Int) → List (List (S38)) → List Int → Option (Bool)
  | 0, _, _, _, _, _, _, _, _, _, _ => none
  | k + 1, x3, x161000, x161001, x161002, x161003, x161004, x161005, x161006, x161007, x161008 => if x3 < (x161005.length : Int) then (if 0 ≤ x3 then (if ((rd_L10 x161005 x3).length : Int) > 100 then (some true) else (reedpiperef18_Great.l0 k (wrap64 (x3 + 1)) x161000 x161001 x161002 x161003 x161004 x161005 x161006 x161007 x161008)) else (none)) else (reedpiperef18_Great.l1 k 0 x161000 x161001 x161002 x161003 x161004 x161005 x161006 x161007 x161008)
def reedpiperef18_Great.l1 : Nat → Int → Int → Int → Int → Int → List Int → List (List (S97)) → List (List Int) → List (List (S38)) → List Int → Option (Bool)
  | 0, _, _, _, _, _, _, _, _, _, _ => none
  | k + 1, x4, x161000, x161001, x161002, x161003, x161004, x161005, x161006, x161007, x161008 => if x4 < (x161006.length : Int) then (if 0 ≤ x4 then (if ((rd_L4 x161006 x4).length : Int) > 200 then (some true) else (reedpiperef18_Great.l1 k (wrap64 (x4 + 1)) x161000 x161001 x161002 x161003 x161004 x161005 x161006 x161007 x161008)) else (none)) else (reedpiperef18_Great.l2 k 0 x161000 x161001 x161002 x161003 x161004 x161005 x161006 x161007 x161008)
def reedpiperef18_Great.l2 : Nat → Int → Int → Int → Int → Int → List Int → List (List (S97)) → List (List Int) → List (List (S38)) → List Int → Option (Bool)
  | 0, _, _, _, _, _, _, _, _, _, _ => none
  | k + 1, x5, x161000, x161001, x161002, x161003, x161004, x161005, x161006, x161007, x161008 => if x5 < (x161007.length : Int) then (if 0 ≤ x5 then (if ((rd_L7 x161007 x5).length : Int) > 20 then (some true) else (reedpiperef18_Great.l3 k x5 0 x161000 x161001 x161002 x161003 x161004 x161005 x161006 x161007 x161008)) else (none)) else (some false)
def reedpiperef18_Great.l3 : Nat → Int → Int → Int → Int → Int → Int → List Int → List (List (S97)) → List (List Int) → List (List (S38)) → List Int → Option (Bool)
  | 0, _, _, _, _, _, _, _, _, _, _, _ => none
  | k + 1, x5, x6, x161000, x161001, x161002, x161003, x161004, x161005, x161006, x161007, x161008 => if 0 ≤ x5 then (if x5 < (x161007.length : Int) then (if x6 < ((rd_L7 x161007 x5).length : Int) then (if 0 ≤ x6 then (if (((rd_T38 (rd_L7 x161007 x5) x6).f4).length : Int) > 100 then (some true) else (reedpiperef18_Great.l3 k x5 (wrap64 (x6 + 1)) x161000 x161001 x161002 x161003 x161004 x161005 x161006 x161007 x161008)) else (none)) else (reedpiperef18_Great.l2 k (wrap64 (x5 + 1)) x161000 x161001 x161002 x161003 x161004 x161005 x161006 x161007 x161008)) else (none)) else (none)
end
def reedpiperef18_Great.f (k : Nat) (a0_0 : Int) (a0_1 : Int) (a0_2 : Int) (a0_3 : Int) (l0_4 : List Int) (l0_5 : List (List (S97))) (l0_6 : List (List Int)) (l0_7 : List (List (S38))) (l0_8 : List Int) : Option (Bool) := if (l0_4.length : Int) > 40 then (reedpiperef18_Great.j0 k true a0_0 a0_1 a0_2 a0_3 l0_4 l0_5 l0_6 l0_7 l0_8) else (if (l0_5.length : Int) > 40 then (reedpiperef18_Great.j0 k true a0_0 a0_1 a0_2 a0_3 l0_4 l0_5 l0_6 l0_7 l0_8) else (if (l0_6.length : Int) > 40 then (reedpiperef18_Great.j0 k true a0_0 a0_1 a0_2 a0_3 l0_4 l0_5 l0_6 l0_7 l0_8) else (if (l0_7.length : Int) > 40 then (reedpiperef18_Great.j0 k true a0_0 a0_1 a0_2 a0_3 l0_4 l0_5 l0_6 l0_7 l0_8) else (reedpiperef18_Great.j0 k (decide ((l0_8.length : Int) > 2000)) a0_0 a0_1 a0_2 a0_3 l0_4 l0_5 l0_6 l0_7 l0_8))))
theorem reedpiperef18_Great.mono_l : ∀ k, (∀ y0 y1 y2 y3 y4 y5 y6 y7 y8 y9, LeO (reedpiperef18_Great.j0 k y0 y1 y2 y3 y4 y5 y6 y7 y8 y9) (reedpiperef18_Great.j0 (k + 1) y0 y1 y2 y3 y4 y5 y6 y7 y8 y9)) ∧ (∀ y0 y1 y2 y3 y4 y5 y6 y7 y8 y9, LeO (reedpiperef18_Great.l0 k y0 y1 y2 y3 y4 y5 y6 y7 y8 y9) (reedpiperef18_Great.l0 (k + 1) y0 y1 y2 y3 y4 y5 y6 y7 y8 y9)) ∧ (∀ y0 y1 y2 y3 y4 y5 y6 y7 y8 y9, LeO (reedpiperef18_Great.l1 k y0 y1 y2 y3 y4 y5 y6 y7 y8 y9) (reedpiperef18_Great.l1 (k + 1) y0 y1 y2 y3 y4 y5 y6 y7 y8 y9)) ∧ (∀ y0 y1 y2 y3 y4 y5 y6 y7 y8 y9, LeO (reedpiperef18_Great.l2 k y0 y1 y2 y3 y4 y5 y6 y7 y8 y9) (reedpiperef18_Great.l2 (k + 1) y0 y1 y2 y3 y4 y5 y6 y7 y8 y9)) ∧ (∀ y0 y1 y2 y3 y4 y5 y6 y7 y8 y9 y10, LeO (reedpiperef18_Great.l3 k y0 y1 y2 y3 y4 y5 y6 y7 y8 y9 y10) (reedpiperef18_Great.l3 (k + 1) y0 y1 y2 y3 y4 y5 y6 y7 y8 y9 y10))
  | 0 => ⟨fun _ _ _ _ _ _ _ _ _ _ r h => by simp [reedpiperef18_Great.j0] at h, fun _ _ _ _ _ _ _ _ _ _ r h => by simp [reedpiperef18_Great.l0] at h, fun _ _ _ _ _ _ _ _ _ _ r h => by simp [reedpiperef18_Great.l1] at h, fun _ _ _ _ _ _ _ _ _ _ r h => by simp [reedpiperef18_Great.l2] at h, fun _ _ _ _ _ _ _ _ _ _ _ r h => by simp [reedpiperef18_Great.l3] at h⟩
  | k + 1 => by
    obtain ⟨ih0, ih1, ih2, ih3, ih4⟩ := reedpiperef18_Great.mono_l k
    refine ⟨?_, ?_, ?_, ?_, ?_⟩
    · intro y0 y1 y2 y3 y4 y5 y6 y7 y8 y9
      unfold reedpiperef18_Great.j0
      repeat' first
      | (with_reducible exact ih0 _ _ _ _ _ _ _ _ _ _)
      | (with_reducible exact ih1 _ _ _ _ _ _ _ _ _ _)
      | (with_reducible exact ih2 _ _ _ _ _ _ _ _ _ _)
      | (with_reducible exact ih3 _ _ _ _ _ _ _ _ _ _)
      | (with_reducible exact ih4 _ _ _ _ _ _ _ _ _ _ _)
      | (with_reducible exact LeO.refl _)
      | (with_reducible exact LeO.none _)
      | (with_reducible refine LeO.ite ?_ ?_)
      | (with_reducible refine LeO.bind ?_ (fun _ => ?_))
      | exact ih0 _ _ _ _ _ _ _ _ _ _
      | exact ih1 _ _ _ _ _ _ _ _ _ _
      | exact ih2 _ _ _ _ _ _ _ _ _ _
      | exact ih3 _ _ _ _ _ _ _ _ _ _
      | exact ih4 _ _ _ _ _ _ _ _ _ _ _
      | exact LeO.none _
      | refine LeO.ite ?_ ?_
      | refine LeO.bind ?_ (fun _ => ?_)
    · intro y0 y1 y2 y3 y4 y5 y6 y7 y8 y9
      unfold reedpiperef18_Great.l0
      repeat' first
      | (with_reducible exact ih0 _ _ _ _ _ _ _ _ _ _)
      | (with_reducible exact ih1 _ _ _ _ _ _ _ _ _ _)
      | (with_reducible exact ih2 _ _ _ _ _ _ _ _ _ _)
      | (with_reducible exact ih3 _ _ _ _ _ _ _ _ _ _)
      | (with_reducible exact ih4 _ _ _ _ _ _ _ _ _ _ _)
      | (with_reducible exact LeO.refl _)
      | (with_reducible exact LeO.none _)
      | (with_reducible refine LeO.ite ?_ ?_)
      | (with_reducible refine LeO.bind ?_ (fun _ => ?_))
      | exact ih0 _ _ _ _ _ _ _ _ _ _
      | exact ih1 _ _ _ _ _ _ _ _ _ _
      | exact ih2 _ _ _ _ _ _ _ _ _ _
      | exact ih3 _ _ _ _ _ _ _ _ _ _
      | exact ih4 _ _ _ _ _ _ _ _ _ _ _
      | exact LeO.none _
      | refine LeO.ite ?_ ?_
      | refine LeO.bind ?_ (fun _ => ?_)
    · intro y0 y1 y2 y3 y4 y5 y6 y7 y8 y9
      unfold reedpiperef18_Great.l1
      repeat' first
      | (with_reducible exact ih0 _ _ _ _ _ _ _ _ _ _)
      | (with_reducible exact ih1 _ _ _ _ _ _ _ _ _ _)
      | (with_reducible exact ih2 _ _ _ _ _ _ _ _ _ _)
      | (with_reducible exact ih3 _ _ _ _ _ _ _ _ _ _)
      | (with_reducible exact ih4 _ _ _ _ _ _ _ _ _ _ _)
      | (with_reducible exact LeO.refl _)
      | (with_reducible exact LeO.none _)
      | (with_reducible refine LeO.ite ?_ ?_)
      | (with_reducible refine LeO.bind ?_ (fun _ => ?_))
      | exact ih0 _ _ _ _ _ _ _ _ _ _
      | exact ih1 _ _ _ _ _ _ _ _ _ _
      | exact ih2 _ _ _ _ _ _ _ _ _ _
      | exact ih3 _ _ _ _ _ _ _ _ _ _
      | exact ih4 _ _ _ _ _ _ _ _ _ _ _
      | exact LeO.none _
      | refine LeO.ite ?_ ?_
      | refine LeO.bind ?_ (fun _ => ?_)
    · intro y0 y1 y2 y3 y4 y5 y6 y7 y8 y9
      unfold reedpiperef18_Great.l2
      repeat' first
      | (with_reducible exact ih0 _ _ _ _ _ _ _ _ _ _)
      | (with_reducible exact ih1 _ _ _ _ _ _ _ _ _ _)
      | (with_reducible exact ih2 _ _ _ _ _ _ _ _ _ _)
      | (with_reducible exact ih3 _ _ _ _ _ _ _ _ _ _)
      | (with_reducible exact ih4 _ _ _ _ _ _ _ _ _ _ _)
      | (with_reducible exact LeO.refl _)
      | (with_reducible exact LeO.none _)
      | (with_reducible refine LeO.ite ?_ ?_)
      | (with_reducible refine LeO.bind ?_ (fun _ => ?_))
      | exact ih0 _ _ _ _ _ _ _ _ _ _
      | exact ih1 _ _ _ _ _ _ _ _ _ _
      | exact ih2 _ _ _ _ _ _ _ _ _ _
      | exact ih3 _ _ _ _ _ _ _ _ _ _
      | exact ih4 _ _ _ _ _ _ _ _ _ _ _
      | exact LeO.none _
      | refine LeO.ite ?_ ?_
      | refine LeO.bind ?_ (fun _ => ?_)
    · intro y0 y1 y2 y3 y4 y5 y6 y7 y8 y9 y10
      unfold reedpiperef18_Great.l3
      repeat' first
      | (with_reducible exact ih0 _ _ _ _ _ _ _ _ _ _)
      | (with_reducible exact ih1 _ _ _ _ _ _ _ _ _ _)
      | (with_reducible exact ih2 _ _ _ _ _ _ _ _ _ _)
      | (with_reducible exact ih3 _ _ _ _ _ _ _ _ _ _)
      | (with_reducible exact ih4 _ _ _ _ _ _ _ _ _ _ _)
      | (with_reducible exact LeO.refl _)
      | (with_reducible exact LeO.none _)
      | (with_reducible refine LeO.ite ?_ ?_)
      | (with_reducible refine LeO.bind ?_ (fun _ => ?_))
      | exact ih0 _ _ _ _ _ _ _ _ _ _
      | exact ih1 _ _ _ _ _ _ _ _ _ _
      | exact ih2 _ _ _ _ _ _ _ _ _ _
      | exact ih3 _ _ _ _ _ _ _ _ _ _
      | exact ih4 _ _ _ _ _ _ _ _ _ _ _
      | exact LeO.none _
      | refine LeO.ite ?_ ?_
      | refine LeO.bind ?_ (fun _ => ?_)
theorem reedpiperef18_Great.mono : ∀ a0 a1 a2 a3 a4 a5 a6 a7 a8 k, LeO (reedpiperef18_Great.f k a0 a1 a2 a3 a4 a5 a6 a7 a8) (reedpiperef18_Great.f (k + 1) a0 a1 a2 a3 a4 a5 a6 a7 a8) := by
  intro a0 a1 a2 a3 a4 a5 a6 a7 a8 k
  obtain ⟨ih0, ih1, ih2, ih3, ih4⟩ := reedpiperef18_Great.mono_l k
  unfold reedpiperef18_Great.f
  repeat' first
      | (with_reducible exact ih0 _ _ _ _ _ _ _ _ _ _)
      | (with_reducible exact ih1 _ _ _ _ _ _ _ _ _ _)
      | (with_reducible exact ih2 _ _ _ _ _ _ _ _ _ _)
      | (with_reducible exact ih3 _ _ _ _ _ _ _ _ _ _)
      | (with_reducible exact ih4 _ _ _ _ _ _ _ _ _ _ _)
      | (with_reducible exact LeO.refl _)
      | (with_reducible exact LeO.none _)
      | (with_reducible refine LeO.ite ?_ ?_)
      | (with_reducible refine LeO.bind ?_ (fun _ => ?_))
      | exact ih0 _ _ _ _ _ _ _ _ _ _
      | exact ih1 _ _ _ _ _ _ _ _ _ _
      | exact ih2 _ _ _ _ _ _ _ _ _ _
      | exact ih3 _ _ _ _ _ _ _ _ _ _
      | exact ih4 _ _ _ _ _ _ _ _ _ _ _
      | exact LeO.none _
      | refine LeO.ite ?_ ?_
      | refine LeO.bind ?_ (fun _ => ?_)
set_option maxHeartbeats 8000000 in
set_option maxRecDepth 100000 in
theorem reedpiperef18_Great.calls (k : Nat) (a0_0 : Int) (a0_1 : Int) (a0_2 : Int) (a0_3 : Int) (A0_4 : Option Addr) (c0_4 : Nat) (l0_4 : List Int) (A0_5 : Option Addr) (c0_5 : Nat) (l0_5 : List (List (S97))) (A0_6 : Option Addr) (c0_6 : Nat) (l0_6 : List (List Int)) (A0_7 : Option Addr) (c0_7 : Nat) (l0_7 : List (List (S38))) (A0_8 : Option Addr) (c0_8 : Nat) (l0_8 : List Int) (r : Bool) (w : World) (hr0_4 : Kd.C (Kd.int .i64) w A0_4 l0_4.length l0_4) (hc0_4 : l0_4.length ≤ c0_4) (hr0_5 : Kd.C (Kd.slice 97 k97) w A0_5 l0_5.length l0_5) (hc0_5 : l0_5.length ≤ c0_5) (hr0_6 : Kd.C (Kd.slice 3 (Kd.int .i64)) w A0_6 l0_6.length l0_6) (hc0_6 : l0_6.length ≤ c0_6) (hr0_7 : Kd.C (Kd.slice 38 k38) w A0_7 l0_7.length l0_7) (hc0_7 : l0_7.length ≤ c0_7) (hr0_8 : Kd.C (Kd.int .i64) w A0_8 l0_8.length l0_8) (hc0_8 : l0_8.length ≤ c0_8) (h : reedpiperef18_Great.f k a0_0 a0_1 a0_2 a0_3 l0_4 l0_5 l0_6 l0_7 l0_8 = some r) :
    Calls Try.prog 15 #[.agg #[.int .i64 a0_0, .int .u8 a0_1, .int .u8 a0_2, .int .i64 a0_3, .slice A0_4 l0_4.length c0_4, .slice A0_5 l0_5.length c0_5, .slice A0_6 l0_6.length c0_6, .slice A0_7 l0_7.length c0_7, .slice A0_8 l0_8.length c0_8]] w fun e w' => e = .returned (.bool r) ∧ Below w.heap.size w w' := by
  have hu49 := Try.underlying49
  have HR0_4 := Aside0.mk hr0_4
  have HC0_4 := Aside0.mk hc0_4
  clear hr0_4 hc0_4
  have HR0_5 := Aside0.mk hr0_5
  have HC0_5 := Aside0.mk hc0_5
  clear hr0_5 hc0_5
  have HR0_6 := Aside0.mk hr0_6
  have HC0_6 := Aside0.mk hc0_6
  clear hr0_6 hc0_6
  have HR0_7 := Aside0.mk hr0_7
  have HC0_7 := Aside0.mk hc0_7
  clear hr0_7 hc0_7
  have HR0_8 := Aside0.mk hr0_8
  have HC0_8 := Aside0.mk hc0_8
  clear hr0_8 hc0_8
  have HB := Aside0.mk (Below.refl w.heap.size w)
  have H : (if (l0_4.length : Int) > 40 then (reedpiperef18_Great.j0 k true a0_0 a0_1 a0_2 a0_3 l0_4 l0_5 l0_6 l0_7 l0_8) else (if (l0_5.length : Int) > 40 then (reedpiperef18_Great.j0 k true a0_0 a0_1 a0_2 a0_3 l0_4 l0_5 l0_6 l0_7 l0_8) else (if (l0_6.length : Int) > 40 then (reedpiperef18_Great.j0 k true a0_0 a0_1 a0_2 a0_3 l0_4 l0_5 l0_6 l0_7 l0_8) else (if (l0_7.length : Int) > 40 then (reedpiperef18_Great.j0 k true a0_0 a0_1 a0_2 a0_3 l0_4 l0_5 l0_6 l0_7 l0_8) else (reedpiperef18_Great.j0 k (decide ((l0_8.length : Int) > 2000)) a0_0 a0_1 a0_2 a0_3 l0_4 l0_5 l0_6 l0_7 l0_8))))) = some r := h
  clear h
  have HC2 := Aside0.mk H
  clear H
  go_enter Try.func15, Try.ntmps15
  go_upto_region 1 with (first | ((with_reducible refine gate_dst (N := 1) rfl ?_); (try (refine gate_guard (by rfl) ?_; dsimp only)); refine box_event ?hg (N := 1) ?hd (cs := #[.int .i64 a0_0, .int .u8 a0_1, .int .u8 a0_2, .int .i64 a0_3, .slice A0_4 l0_4.length c0_4, .slice A0_5 l0_5.length c0_5, .slice A0_6 l0_6.length c0_6, .slice A0_7 l0_7.length c0_7, .slice A0_8 l0_8.length c0_8]) (t := 49) ?hr ?_; (case hd => rfl); (case hg => rfl); (case hr => first | (go_simp; done) | (go_simp; rfl)); intro gb160 hg w3 hbox hb; have n0_ := Aside0.mk (below_step (by repeat (first | (with_reducible first | exact HB.out | apply below_alloc | apply pw_below_drewN | apply below_drew1) | exact HB.out)) hb); have n1_ := Aside0.mk (hbox); have n2_ := Aside0.mk ((by rw [hg]; exact (below_size (by repeat (first | (with_reducible first | exact HB.out | apply below_alloc | apply pw_below_drewN | apply below_drew1) | exact HB.out))) : w.heap.size ≤ gb160)); have n3_ := Aside0.mk ((by rw [hg]; exact (below_size (by repeat (first | (with_reducible first | exact HB.out | apply below_alloc | apply pw_below_drewN | apply below_drew1) | exact HB.out))) : w.heap.size ≤ gb160)); clear HB; have HB := n0_; have BK160 := n1_; have GW160 := n2_; have GE160 := n3_; clear n0_ n1_ n2_ n3_; clear hb hbox hg))
  (try simp only [Act.put, List.setIfInBounds_toArray, List.set_cons_zero, List.set_cons_succ])
  go_cut [35] (fun v35 wc => ∃ (kq : Nat) (x35_1 : Bool), v35 = .bool x35_1 ∧ Aside0 (reedpiperef18_Great.j0 kq x35_1 a0_0 a0_1 a0_2 a0_3 l0_4 l0_5 l0_6 l0_7 l0_8 = some r) ∧ Aside0 (kq ≤ k) ∧ Aside0 (wc.heap[gb160]? = some (.cells #[.int .i64 a0_0, .int .u8 a0_1, .int .u8 a0_2, .int .i64 a0_3, (.slice A0_4 l0_4.length c0_4), (.slice A0_5 l0_5.length c0_5), (.slice A0_6 l0_6.length c0_6), (.slice A0_7 l0_7.length c0_7), (.slice A0_8 l0_8.length c0_8)] 49 (0, 0))) ∧ Aside0 (Below w.heap.size w wc))
  case first =>
    have H := HC2.out
    clear HC2
    by_cases c4 : (l0_4.length : Int) > 40
    · rw [if_pos c4] at H
      have c4b0 : decide (40 < (l0_4.length : Int)) = true := decide_eq_true c4
      have c4b1 : decide (40 < l0_4.length) = true := decide_eq_true (by omega)
      clear c4
      (first | rw [c4b0] | (simp only [i64_w, i32_w]; rw [c4b0]) | skip)
      have H' := Aside0.mk H
      clear H
      have hcz5_0 : w3.cell? ⟨gb160, 0, none⟩ = some (.int .i64 a0_0) := (blk_cell BK160.out 0).trans rfl
      have hcz5_1 : w3.cell? ⟨gb160, 1, none⟩ = some (.int .u8 a0_1) := (blk_cell BK160.out 1).trans rfl
      have hcz5_2 : w3.cell? ⟨gb160, 2, none⟩ = some (.int .u8 a0_2) := (blk_cell BK160.out 2).trans rfl
      have hcz5_3 : w3.cell? ⟨gb160, 3, none⟩ = some (.int .i64 a0_3) := (blk_cell BK160.out 3).trans rfl
      have hcz5_4 : w3.cell? ⟨gb160, 4, none⟩ = some (.slice A0_4 l0_4.length c0_4) := (blk_cell BK160.out 4).trans rfl
      have hcz5_5 : w3.cell? ⟨gb160, 5, none⟩ = some (.slice A0_5 l0_5.length c0_5) := (blk_cell BK160.out 5).trans rfl
      have hcz5_6 : w3.cell? ⟨gb160, 6, none⟩ = some (.slice A0_6 l0_6.length c0_6) := (blk_cell BK160.out 6).trans rfl
      have hcz5_7 : w3.cell? ⟨gb160, 7, none⟩ = some (.slice A0_7 l0_7.length c0_7) := (blk_cell BK160.out 7).trans rfl
      have hcz5_8 : w3.cell? ⟨gb160, 8, none⟩ = some (.slice A0_8 l0_8.length c0_8) := (blk_cell BK160.out 8).trans rfl
      have hfz5_0 := blk_frozen BK160.out 0
      have hfz5_1 := blk_frozen BK160.out 1
      have hfz5_2 := blk_frozen BK160.out 2
      have hfz5_3 := blk_frozen BK160.out 3
      have hfz5_4 := blk_frozen BK160.out 4
      have hfz5_5 := blk_frozen BK160.out 5
      have hfz5_6 := blk_frozen BK160.out 6
      have hfz5_7 := blk_frozen BK160.out 7
      have hfz5_8 := blk_frozen BK160.out 8
      go_wp2
      go_meet
      case rel => exact ⟨_, (true), (by first | rfl | (simp; done) | (simp [*]; done)), H', ⟨by first | omega | exact Nat.le_refl _⟩, ⟨by (with_reducible repeat (first | refine blk_drewN ?_ _ | refine blk_drew ?_ | refine blk_alloc ?_ _)); exact BK160.out⟩, ⟨by repeat (first | (with_reducible first | exact HB.out | apply below_alloc | apply pw_below_drewN | apply below_drew1 | refine below_set ?_ GE160.out) | exact HB.out)⟩⟩
    · rw [if_neg c4] at H
      have c4b0 : decide (40 < (l0_4.length : Int)) = false := decide_eq_false c4
      have c4b1 : decide (40 < l0_4.length) = false := decide_eq_false (by omega)
      clear c4
      (first | rw [c4b0] | (simp only [i64_w, i32_w]; rw [c4b0]) | skip)
      by_cases c6 : (l0_5.length : Int) > 40
      · rw [if_pos c6] at H
        have c6b0 : decide (40 < (l0_5.length : Int)) = true := decide_eq_true c6
        have c6b1 : decide (40 < l0_5.length) = true := decide_eq_true (by omega)
        clear c6
        have H' := Aside0.mk H
        clear H
        have hcz7_0 : w3.cell? ⟨gb160, 0, none⟩ = some (.int .i64 a0_0) := (blk_cell BK160.out 0).trans rfl
        have hcz7_1 : w3.cell? ⟨gb160, 1, none⟩ = some (.int .u8 a0_1) := (blk_cell BK160.out 1).trans rfl
        have hcz7_2 : w3.cell? ⟨gb160, 2, none⟩ = some (.int .u8 a0_2) := (blk_cell BK160.out 2).trans rfl
        have hcz7_3 : w3.cell? ⟨gb160, 3, none⟩ = some (.int .i64 a0_3) := (blk_cell BK160.out 3).trans rfl
        have hcz7_4 : w3.cell? ⟨gb160, 4, none⟩ = some (.slice A0_4 l0_4.length c0_4) := (blk_cell BK160.out 4).trans rfl
        have hcz7_5 : w3.cell? ⟨gb160, 5, none⟩ = some (.slice A0_5 l0_5.length c0_5) := (blk_cell BK160.out 5).trans rfl
        have hcz7_6 : w3.cell? ⟨gb160, 6, none⟩ = some (.slice A0_6 l0_6.length c0_6) := (blk_cell BK160.out 6).trans rfl
        have hcz7_7 : w3.cell? ⟨gb160, 7, none⟩ = some (.slice A0_7 l0_7.length c0_7) := (blk_cell BK160.out 7).trans rfl
        have hcz7_8 : w3.cell? ⟨gb160, 8, none⟩ = some (.slice A0_8 l0_8.length c0_8) := (blk_cell BK160.out 8).trans rfl
        have hfz7_0 := blk_frozen BK160.out 0
        have hfz7_1 := blk_frozen BK160.out 1
        have hfz7_2 := blk_frozen BK160.out 2
        have hfz7_3 := blk_frozen BK160.out 3
        have hfz7_4 := blk_frozen BK160.out 4
        have hfz7_5 := blk_frozen BK160.out 5
        have hfz7_6 := blk_frozen BK160.out 6
        have hfz7_7 := blk_frozen BK160.out 7
        have hfz7_8 := blk_frozen BK160.out 8
        go_wp2
        go_meet
        case rel => exact ⟨_, (true), (by first | rfl | (simp; done) | (simp [*]; done)), H', ⟨by first | omega | exact Nat.le_refl _⟩, ⟨by (with_reducible repeat (first | refine blk_drewN ?_ _ | refine blk_drew ?_ | refine blk_alloc ?_ _)); exact BK160.out⟩, ⟨by repeat (first | (with_reducible first | exact HB.out | apply below_alloc | apply pw_below_drewN | apply below_drew1 | refine below_set ?_ GE160.out) | exact HB.out)⟩⟩
      · rw [if_neg c6] at H
        have c6b0 : decide (40 < (l0_5.length : Int)) = false := decide_eq_false c6
        have c6b1 : decide (40 < l0_5.length) = false := decide_eq_false (by omega)
        clear c6
        by_cases c8 : (l0_6.length : Int) > 40
        · rw [if_pos c8] at H
          have c8b0 : decide (40 < (l0_6.length : Int)) = true := decide_eq_true c8
          have c8b1 : decide (40 < l0_6.length) = true := decide_eq_true (by omega)
          clear c8
          have H' := Aside0.mk H
          clear H
          have hcz9_0 : w3.cell? ⟨gb160, 0, none⟩ = some (.int .i64 a0_0) := (blk_cell BK160.out 0).trans rfl
          have hcz9_1 : w3.cell? ⟨gb160, 1, none⟩ = some (.int .u8 a0_1) := (blk_cell BK160.out 1).trans rfl
          have hcz9_2 : w3.cell? ⟨gb160, 2, none⟩ = some (.int .u8 a0_2) := (blk_cell BK160.out 2).trans rfl
          have hcz9_3 : w3.cell? ⟨gb160, 3, none⟩ = some (.int .i64 a0_3) := (blk_cell BK160.out 3).trans rfl
          have hcz9_4 : w3.cell? ⟨gb160, 4, none⟩ = some (.slice A0_4 l0_4.length c0_4) := (blk_cell BK160.out 4).trans rfl
          have hcz9_5 : w3.cell? ⟨gb160, 5, none⟩ = some (.slice A0_5 l0_5.length c0_5) := (blk_cell BK160.out 5).trans rfl
          have hcz9_6 : w3.cell? ⟨gb160, 6, none⟩ = some (.slice A0_6 l0_6.length c0_6) := (blk_cell BK160.out 6).trans rfl
          have hcz9_7 : w3.cell? ⟨gb160, 7, none⟩ = some (.slice A0_7 l0_7.length c0_7) := (blk_cell BK160.out 7).trans rfl
          have hcz9_8 : w3.cell? ⟨gb160, 8, none⟩ = some (.slice A0_8 l0_8.length c0_8) := (blk_cell BK160.out 8).trans rfl
          have hfz9_0 := blk_frozen BK160.out 0
          have hfz9_1 := blk_frozen BK160.out 1
          have hfz9_2 := blk_frozen BK160.out 2
          have hfz9_3 := blk_frozen BK160.out 3
          have hfz9_4 := blk_frozen BK160.out 4
          have hfz9_5 := blk_frozen BK160.out 5
          have hfz9_6 := blk_frozen BK160.out 6
          have hfz9_7 := blk_frozen BK160.out 7
          have hfz9_8 := blk_frozen BK160.out 8
          go_wp2
          go_meet
          case rel => exact ⟨_, (true), (by first | rfl | (simp; done) | (simp [*]; done)), H', ⟨by first | omega | exact Nat.le_refl _⟩, ⟨by (with_reducible repeat (first | refine blk_drewN ?_ _ | refine blk_drew ?_ | refine blk_alloc ?_ _)); exact BK160.out⟩, ⟨by repeat (first | (with_reducible first | exact HB.out | apply below_alloc | apply pw_below_drewN | apply below_drew1 | refine below_set ?_ GE160.out) | exact HB.out)⟩⟩
        · rw [if_neg c8] at H
          have c8b0 : decide (40 < (l0_6.length : Int)) = false := decide_eq_false c8
          have c8b1 : decide (40 < l0_6.length) = false := decide_eq_false (by omega)
          clear c8
          by_cases c10 : (l0_7.length : Int) > 40
          · rw [if_pos c10] at H
            have c10b0 : decide (40 < (l0_7.length : Int)) = true := decide_eq_true c10
            have c10b1 : decide (40 < l0_7.length) = true := decide_eq_true (by omega)
            clear c10
            have H' := Aside0.mk H
            clear H
            have hcz11_0 : w3.cell? ⟨gb160, 0, none⟩ = some (.int .i64 a0_0) := (blk_cell BK160.out 0).trans rfl
            have hcz11_1 : w3.cell? ⟨gb160, 1, none⟩ = some (.int .u8 a0_1) := (blk_cell BK160.out 1).trans rfl
            have hcz11_2 : w3.cell? ⟨gb160, 2, none⟩ = some (.int .u8 a0_2) := (blk_cell BK160.out 2).trans rfl
            have hcz11_3 : w3.cell? ⟨gb160, 3, none⟩ = some (.int .i64 a0_3) := (blk_cell BK160.out 3).trans rfl
            have hcz11_4 : w3.cell? ⟨gb160, 4, none⟩ = some (.slice A0_4 l0_4.length c0_4) := (blk_cell BK160.out 4).trans rfl
            have hcz11_5 : w3.cell? ⟨gb160, 5, none⟩ = some (.slice A0_5 l0_5.length c0_5) := (blk_cell BK160.out 5).trans rfl
            have hcz11_6 : w3.cell? ⟨gb160, 6, none⟩ = some (.slice A0_6 l0_6.length c0_6) := (blk_cell BK160.out 6).trans rfl
            have hcz11_7 : w3.cell? ⟨gb160, 7, none⟩ = some (.slice A0_7 l0_7.length c0_7) := (blk_cell BK160.out 7).trans rfl
            have hcz11_8 : w3.cell? ⟨gb160, 8, none⟩ = some (.slice A0_8 l0_8.length c0_8) := (blk_cell BK160.out 8).trans rfl
            have hfz11_0 := blk_frozen BK160.out 0
            have hfz11_1 := blk_frozen BK160.out 1
            have hfz11_2 := blk_frozen BK160.out 2
            have hfz11_3 := blk_frozen BK160.out 3
            have hfz11_4 := blk_frozen BK160.out 4
            have hfz11_5 := blk_frozen BK160.out 5
            have hfz11_6 := blk_frozen BK160.out 6
            have hfz11_7 := blk_frozen BK160.out 7
            have hfz11_8 := blk_frozen BK160.out 8
            go_wp2
            go_meet
            case rel => exact ⟨_, (true), (by first | rfl | (simp; done) | (simp [*]; done)), H', ⟨by first | omega | exact Nat.le_refl _⟩, ⟨by (with_reducible repeat (first | refine blk_drewN ?_ _ | refine blk_drew ?_ | refine blk_alloc ?_ _)); exact BK160.out⟩, ⟨by repeat (first | (with_reducible first | exact HB.out | apply below_alloc | apply pw_below_drewN | apply below_drew1 | refine below_set ?_ GE160.out) | exact HB.out)⟩⟩
          · rw [if_neg c10] at H
            have c10b0 : decide (40 < (l0_7.length : Int)) = false := decide_eq_false c10
            have c10b1 : decide (40 < l0_7.length) = false := decide_eq_false (by omega)
            clear c10
            have H' := Aside0.mk H
            clear H
            have hcz12_0 : w3.cell? ⟨gb160, 0, none⟩ = some (.int .i64 a0_0) := (blk_cell BK160.out 0).trans rfl
            have hcz12_1 : w3.cell? ⟨gb160, 1, none⟩ = some (.int .u8 a0_1) := (blk_cell BK160.out 1).trans rfl
            have hcz12_2 : w3.cell? ⟨gb160, 2, none⟩ = some (.int .u8 a0_2) := (blk_cell BK160.out 2).trans rfl
            have hcz12_3 : w3.cell? ⟨gb160, 3, none⟩ = some (.int .i64 a0_3) := (blk_cell BK160.out 3).trans rfl
            have hcz12_4 : w3.cell? ⟨gb160, 4, none⟩ = some (.slice A0_4 l0_4.length c0_4) := (blk_cell BK160.out 4).trans rfl
            have hcz12_5 : w3.cell? ⟨gb160, 5, none⟩ = some (.slice A0_5 l0_5.length c0_5) := (blk_cell BK160.out 5).trans rfl
            have hcz12_6 : w3.cell? ⟨gb160, 6, none⟩ = some (.slice A0_6 l0_6.length c0_6) := (blk_cell BK160.out 6).trans rfl
            have hcz12_7 : w3.cell? ⟨gb160, 7, none⟩ = some (.slice A0_7 l0_7.length c0_7) := (blk_cell BK160.out 7).trans rfl
            have hcz12_8 : w3.cell? ⟨gb160, 8, none⟩ = some (.slice A0_8 l0_8.length c0_8) := (blk_cell BK160.out 8).trans rfl
            have hfz12_0 := blk_frozen BK160.out 0
            have hfz12_1 := blk_frozen BK160.out 1
            have hfz12_2 := blk_frozen BK160.out 2
            have hfz12_3 := blk_frozen BK160.out 3
            have hfz12_4 := blk_frozen BK160.out 4
            have hfz12_5 := blk_frozen BK160.out 5
            have hfz12_6 := blk_frozen BK160.out 6
            have hfz12_7 := blk_frozen BK160.out 7
            have hfz12_8 := blk_frozen BK160.out 8
            go_wp2
            go_meet
            case rel => exact ⟨_, (decide ((l0_8.length : Int) > 2000)), (by first | rfl | (simp; done) | (simp [*]; done)), H', ⟨by first | omega | exact Nat.le_refl _⟩, ⟨by (with_reducible repeat (first | refine blk_drewN ?_ _ | refine blk_drew ?_ | refine blk_alloc ?_ _)); exact BK160.out⟩, ⟨by repeat (first | (with_reducible first | exact HB.out | apply below_alloc | apply pw_below_drewN | apply below_drew1 | refine below_set ?_ GE160.out) | exact HB.out)⟩⟩
  case rest =>
    clear HC2
    try clear c1
    try clear p2
    try clear c4
    try clear c4b0
    try clear c4b1
    try clear c6
    try clear c6b0
    try clear c6b1
    try clear c8
    try clear c8b0
    try clear c8b1
    try clear c10
    try clear c10b0
    try clear c10b1
    try clear hcz11_0
    try clear hcz11_1
    try clear hcz11_2
    try clear hcz11_3
    try clear hcz11_4
    try clear hcz11_5
    try clear hcz11_6
    try clear hcz11_7
    try clear hcz11_8
    try clear hcz12_0
    try clear hcz12_1
    try clear hcz12_2
    try clear hcz12_3
    try clear hcz12_4
    try clear hcz12_5
    try clear hcz12_6
    try clear hcz12_7
    try clear hcz12_8
    try clear hcz5_0
    try clear hcz5_1
    try clear hcz5_2
    try clear hcz5_3
    try clear hcz5_4
    try clear hcz5_5
    try clear hcz5_6
    try clear hcz5_7
    try clear hcz5_8
    try clear hcz7_0
    try clear hcz7_1
    try clear hcz7_2
    try clear hcz7_3
    try clear hcz7_4
    try clear hcz7_5
    try clear hcz7_6
    try clear hcz7_7
    try clear hcz7_8
    try clear hcz9_0
    try clear hcz9_1
    try clear hcz9_2
    try clear hcz9_3
    try clear hcz9_4
    try clear hcz9_5
    try clear hcz9_6
    try clear hcz9_7
    try clear hcz9_8
    try clear hfz11_0
    try clear hfz11_1
    try clear hfz11_2
    try clear hfz11_3
    try clear hfz11_4
    try clear hfz11_5
    try clear hfz11_6
    try clear hfz11_7
    try clear hfz11_8
    try clear hfz12_0
    try clear hfz12_1
    try clear hfz12_2
    try clear hfz12_3
    try clear hfz12_4
    try clear hfz12_5
    try clear hfz12_6
    try clear hfz12_7
    try clear hfz12_8
    try clear hfz5_0
    try clear hfz5_1
    try clear hfz5_2
    try clear hfz5_3
    try clear hfz5_4
    try clear hfz5_5
    try clear hfz5_6
    try clear hfz5_7
    try clear hfz5_8
    try clear hfz7_0
    try clear hfz7_1
    try clear hfz7_2
    try clear hfz7_3
    try clear hfz7_4
    try clear hfz7_5
    try clear hfz7_6
    try clear hfz7_7
    try clear hfz7_8
    try clear hfz9_0
    try clear hfz9_1
    try clear hfz9_2
    try clear hfz9_3
    try clear hfz9_4
    try clear hfz9_5
    try clear hfz9_6
    try clear hfz9_7
    try clear hfz9_8
    obtain ⟨kq, x35_1, rfl, HA, HJ1, BK160, HB⟩ := hcut
    cases kq with
    | zero => exact absurd HA.out (by simp [reedpiperef18_Great.j0])
    | succ kj1 =>
      have H := HA.out
      clear HA
      simp only [reedpiperef18_Great.j0] at H
      by_cases c13 : x35_1 = true
      · subst c13
        have H1 : (some true) = some r := by rw [if_pos rfl] at H; exact H
        clear H
        have H := H1
        clear H1
        obtain rfl := Option.some.inj H
        go_wp2
        go_ret
        exact ⟨by first | rfl | (simp [errW_none, errW_some] <;> rfl) | (simp [*, errW_none, errW_some] <;> rfl), by repeat (first | (with_reducible first | exact HB.out | apply below_alloc | apply pw_below_drewN | apply below_drew1 | refine below_set ?_ GE160.out) | exact HB.out)⟩
      · replace c13 := Bool.eq_false_iff.mpr c13
        subst c13
        have H1 : (reedpiperef18_Great.l0 kj1 0 a0_0 a0_1 a0_2 a0_3 l0_4 l0_5 l0_6 l0_7 l0_8) = some r := by rw [if_neg (show ¬ (false = true) by decide)] at H; exact H
        clear H
        have H := H1
        clear H1
        have H' := Aside0.mk H
        clear H
        go_wp2
        go_loopg [3] kj1 (fun kq v3 w' => ∃ (x3_2 : Int), v3 = .int .i64 x3_2 ∧ Aside0 (reedpiperef18_Great.l0 kq x3_2 a0_0 a0_1 a0_2 a0_3 l0_4 l0_5 l0_6 l0_7 l0_8 = some r) ∧ Aside0 (kq ≤ kj1) ∧ Aside0 (w'.heap[gb160]? = some (.cells #[.int .i64 a0_0, .int .u8 a0_1, .int .u8 a0_2, .int .i64 a0_3, (.slice A0_4 l0_4.length c0_4), (.slice A0_5 l0_5.length c0_5), (.slice A0_6 l0_6.length c0_6), (.slice A0_7 l0_7.length c0_7), (.slice A0_8 l0_8.length c0_8)] 49 (0, 0))) ∧ Aside0 (Below w.heap.size w w'))
        case atStart => exact ⟨(0), (by first | rfl | (simp; done) | (simp [*]; done)), H', ⟨Nat.le_refl _⟩, ⟨by (with_reducible repeat (first | refine blk_drewN ?_ _ | refine blk_drew ?_ | refine blk_alloc ?_ _)); exact BK160.out⟩, ⟨by repeat (first | (with_reducible first | exact HB.out | apply below_alloc | apply pw_below_drewN | apply below_drew1 | refine below_set ?_ GE160.out) | exact HB.out)⟩⟩
        case round =>
          clear H'
          try clear c1
          try clear p2
          try clear c4
          try clear c4b0
          try clear c4b1
          try clear c6
          try clear c6b0
          try clear c6b1
          try clear c8
          try clear c8b0
          try clear c8b1
          try clear c10
          try clear c10b0
          try clear c10b1
          try clear c13
          try clear hcz11_0
          try clear hcz11_1
          try clear hcz11_2
          try clear hcz11_3
          try clear hcz11_4
          try clear hcz11_5
          try clear hcz11_6
          try clear hcz11_7
          try clear hcz11_8
          try clear hcz12_0
          try clear hcz12_1
          try clear hcz12_2
          try clear hcz12_3
          try clear hcz12_4
          try clear hcz12_5
          try clear hcz12_6
          try clear hcz12_7
          try clear hcz12_8
          try clear hcz5_0
          try clear hcz5_1
          try clear hcz5_2
          try clear hcz5_3
          try clear hcz5_4
          try clear hcz5_5
          try clear hcz5_6
          try clear hcz5_7
          try clear hcz5_8
          try clear hcz7_0
          try clear hcz7_1
          try clear hcz7_2
          try clear hcz7_3
          try clear hcz7_4
          try clear hcz7_5
          try clear hcz7_6
          try clear hcz7_7
          try clear hcz7_8
          try clear hcz9_0
          try clear hcz9_1
          try clear hcz9_2
          try clear hcz9_3
          try clear hcz9_4
          try clear hcz9_5
          try clear hcz9_6
          try clear hcz9_7
          try clear hcz9_8
          try clear hfz11_0
          try clear hfz11_1
          try clear hfz11_2
          try clear hfz11_3
          try clear hfz11_4
          try clear hfz11_5
          try clear hfz11_6
          try clear hfz11_7
          try clear hfz11_8
          try clear hfz12_0
          try clear hfz12_1
          try clear hfz12_2
          try clear hfz12_3
          try clear hfz12_4
          try clear hfz12_5
          try clear hfz12_6
          try clear hfz12_7
          try clear hfz12_8
          try clear hfz5_0
          try clear hfz5_1
          try clear hfz5_2
          try clear hfz5_3
          try clear hfz5_4
          try clear hfz5_5
          try clear hfz5_6
          try clear hfz5_7
          try clear hfz5_8
          try clear hfz7_0
          try clear hfz7_1
          try clear hfz7_2
          try clear hfz7_3
          try clear hfz7_4
          try clear hfz7_5
          try clear hfz7_6
          try clear hfz7_7
          try clear hfz7_8
          try clear hfz9_0
          try clear hfz9_1
          try clear hfz9_2
          try clear hfz9_3
          try clear hfz9_4
          try clear hfz9_5
          try clear hfz9_6
          try clear hfz9_7
          try clear hfz9_8
          try clear p2
          obtain ⟨x3_2, rfl, HA, HK2, BK160, HB⟩ := hrel
          cases gk with
          | zero => exact absurd HA.out (by simp [reedpiperef18_Great.l0])
          | succ k2 =>
            have H := HA.out
            clear HA
            simp only [reedpiperef18_Great.l0] at H
            by_cases c14 : x3_2 < (l0_5.length : Int)
            · rw [if_pos c14] at H
              have c14b0 : decide (x3_2 < (l0_5.length : Int)) = true := decide_eq_true c14
              clear c14
              by_cases c15 : 0 ≤ x3_2
              · rw [if_pos c15] at H
                have c15b0 : decide (0 ≤ x3_2) = true := decide_eq_true c15
                clear c15
                by_cases c16 : ((rd_L10 l0_5 x3_2).length : Int) > 100
                · rw [if_pos c16] at H
                  have c16b0 : decide (100 < ((rd_L10 l0_5 x3_2).length : Int)) = true := decide_eq_true c16
                  have c16b1 : decide (100 < (rd_L10 l0_5 x3_2).length) = true := decide_eq_true (by omega)
                  clear c16
                  obtain rfl := Option.some.inj H
                  have hcz17_0 : wr.cell? ⟨gb160, 0, none⟩ = some (.int .i64 a0_0) := (blk_cell BK160.out 0).trans rfl
                  have hcz17_1 : wr.cell? ⟨gb160, 1, none⟩ = some (.int .u8 a0_1) := (blk_cell BK160.out 1).trans rfl
                  have hcz17_2 : wr.cell? ⟨gb160, 2, none⟩ = some (.int .u8 a0_2) := (blk_cell BK160.out 2).trans rfl
                  have hcz17_3 : wr.cell? ⟨gb160, 3, none⟩ = some (.int .i64 a0_3) := (blk_cell BK160.out 3).trans rfl
                  have hcz17_4 : wr.cell? ⟨gb160, 4, none⟩ = some (.slice A0_4 l0_4.length c0_4) := (blk_cell BK160.out 4).trans rfl
                  have hcz17_5 : wr.cell? ⟨gb160, 5, none⟩ = some (.slice A0_5 l0_5.length c0_5) := (blk_cell BK160.out 5).trans rfl
                  have hcz17_6 : wr.cell? ⟨gb160, 6, none⟩ = some (.slice A0_6 l0_6.length c0_6) := (blk_cell BK160.out 6).trans rfl
                  have hcz17_7 : wr.cell? ⟨gb160, 7, none⟩ = some (.slice A0_7 l0_7.length c0_7) := (blk_cell BK160.out 7).trans rfl
                  have hcz17_8 : wr.cell? ⟨gb160, 8, none⟩ = some (.slice A0_8 l0_8.length c0_8) := (blk_cell BK160.out 8).trans rfl
                  have hfz17_0 := blk_frozen BK160.out 0
                  have hfz17_1 := blk_frozen BK160.out 1
                  have hfz17_2 := blk_frozen BK160.out 2
                  have hfz17_3 := blk_frozen BK160.out 3
                  have hfz17_4 := blk_frozen BK160.out 4
                  have hfz17_5 := blk_frozen BK160.out 5
                  have hfz17_6 := blk_frozen BK160.out 6
                  have hfz17_7 := blk_frozen BK160.out 7
                  have hfz17_8 := blk_frozen BK160.out 8
                  have p161 : 0 ≤ (x3_2 : Int) := of_decide_eq_true (by first | (with_reducible assumption) | assumption)
                  have q161 : x3_2 < (l0_5.length : Int) := of_decide_eq_true (by first | (with_reducible assumption) | assumption)
                  obtain ⟨ad161, A161_0, c161_0, e161, hx161_0, hl161_0, hi161_0⟩ := at_L10 HR0_5.out x3_2 p161 q161
                  cases e161
                  replace hx161_0 := (HB.out.cell (World.block_lt_of_cell? w _ hx161_0)).trans hx161_0
                  have HR161_0 := Aside0.mk hi161_0
                  have HC161_0 := Aside0.mk hl161_0
                  clear hi161_0 hl161_0
                  replace p161 := eq_true p161
                  replace q161 := eq_true q161
                  go_wp2
                  go_ret
                  exact ⟨by first | rfl | (simp [errW_none, errW_some] <;> rfl) | (simp [*, errW_none, errW_some] <;> rfl), by repeat (first | (with_reducible first | exact HB.out | apply below_alloc | apply pw_below_drewN | apply below_drew1 | refine below_set ?_ GE160.out) | exact HB.out)⟩
                · rw [if_neg c16] at H
                  have c16b0 : decide (100 < ((rd_L10 l0_5 x3_2).length : Int)) = false := decide_eq_false c16
                  have c16b1 : decide (100 < (rd_L10 l0_5 x3_2).length) = false := decide_eq_false (by omega)
                  clear c16
                  have H' := Aside0.mk H
                  clear H
                  have hcz18_0 : wr.cell? ⟨gb160, 0, none⟩ = some (.int .i64 a0_0) := (blk_cell BK160.out 0).trans rfl
                  have hcz18_1 : wr.cell? ⟨gb160, 1, none⟩ = some (.int .u8 a0_1) := (blk_cell BK160.out 1).trans rfl
                  have hcz18_2 : wr.cell? ⟨gb160, 2, none⟩ = some (.int .u8 a0_2) := (blk_cell BK160.out 2).trans rfl
                  have hcz18_3 : wr.cell? ⟨gb160, 3, none⟩ = some (.int .i64 a0_3) := (blk_cell BK160.out 3).trans rfl
                  have hcz18_4 : wr.cell? ⟨gb160, 4, none⟩ = some (.slice A0_4 l0_4.length c0_4) := (blk_cell BK160.out 4).trans rfl
                  have hcz18_5 : wr.cell? ⟨gb160, 5, none⟩ = some (.slice A0_5 l0_5.length c0_5) := (blk_cell BK160.out 5).trans rfl
                  have hcz18_6 : wr.cell? ⟨gb160, 6, none⟩ = some (.slice A0_6 l0_6.length c0_6) := (blk_cell BK160.out 6).trans rfl
                  have hcz18_7 : wr.cell? ⟨gb160, 7, none⟩ = some (.slice A0_7 l0_7.length c0_7) := (blk_cell BK160.out 7).trans rfl
                  have hcz18_8 : wr.cell? ⟨gb160, 8, none⟩ = some (.slice A0_8 l0_8.length c0_8) := (blk_cell BK160.out 8).trans rfl
                  have hfz18_0 := blk_frozen BK160.out 0
                  have hfz18_1 := blk_frozen BK160.out 1
                  have hfz18_2 := blk_frozen BK160.out 2
                  have hfz18_3 := blk_frozen BK160.out 3
                  have hfz18_4 := blk_frozen BK160.out 4
                  have hfz18_5 := blk_frozen BK160.out 5
                  have hfz18_6 := blk_frozen BK160.out 6
                  have hfz18_7 := blk_frozen BK160.out 7
                  have hfz18_8 := blk_frozen BK160.out 8
                  have p161 : 0 ≤ (x3_2 : Int) := of_decide_eq_true (by first | (with_reducible assumption) | assumption)
                  have q161 : x3_2 < (l0_5.length : Int) := of_decide_eq_true (by first | (with_reducible assumption) | assumption)
                  obtain ⟨ad161, A161_0, c161_0, e161, hx161_0, hl161_0, hi161_0⟩ := at_L10 HR0_5.out x3_2 p161 q161
                  cases e161
                  replace hx161_0 := (HB.out.cell (World.block_lt_of_cell? w _ hx161_0)).trans hx161_0
                  have HR161_0 := Aside0.mk hi161_0
                  have HC161_0 := Aside0.mk hl161_0
                  clear hi161_0 hl161_0
                  replace p161 := eq_true p161
                  replace q161 := eq_true q161
                  go_wp2
                  go_roundg k2
                  case measure => have := HJ1.out; have := HK2.out; omega
                  case rel => exact ⟨(wrap64 (x3_2 + 1)), (by first | rfl | (simp; done) | (simp [*]; done)), H', ⟨by have := HJ1.out; have := HK2.out; omega⟩, ⟨by (with_reducible repeat (first | refine blk_drewN ?_ _ | refine blk_drew ?_ | refine blk_alloc ?_ _)); exact BK160.out⟩, ⟨by repeat (first | (with_reducible first | exact HB.out | apply below_alloc | apply pw_below_drewN | apply below_drew1 | refine below_set ?_ GE160.out) | exact HB.out)⟩⟩
              · rw [if_neg c15] at H
                exact absurd H (by simp)
            · rw [if_neg c14] at H
              have c14b0 : decide (x3_2 < (l0_5.length : Int)) = false := decide_eq_false c14
              clear c14
              have H' := Aside0.mk H
              clear H
              have hcz19_0 : wr.cell? ⟨gb160, 0, none⟩ = some (.int .i64 a0_0) := (blk_cell BK160.out 0).trans rfl
              have hcz19_1 : wr.cell? ⟨gb160, 1, none⟩ = some (.int .u8 a0_1) := (blk_cell BK160.out 1).trans rfl
              have hcz19_2 : wr.cell? ⟨gb160, 2, none⟩ = some (.int .u8 a0_2) := (blk_cell BK160.out 2).trans rfl
              have hcz19_3 : wr.cell? ⟨gb160, 3, none⟩ = some (.int .i64 a0_3) := (blk_cell BK160.out 3).trans rfl
              have hcz19_4 : wr.cell? ⟨gb160, 4, none⟩ = some (.slice A0_4 l0_4.length c0_4) := (blk_cell BK160.out 4).trans rfl
              have hcz19_5 : wr.cell? ⟨gb160, 5, none⟩ = some (.slice A0_5 l0_5.length c0_5) := (blk_cell BK160.out 5).trans rfl
              have hcz19_6 : wr.cell? ⟨gb160, 6, none⟩ = some (.slice A0_6 l0_6.length c0_6) := (blk_cell BK160.out 6).trans rfl
              have hcz19_7 : wr.cell? ⟨gb160, 7, none⟩ = some (.slice A0_7 l0_7.length c0_7) := (blk_cell BK160.out 7).trans rfl
              have hcz19_8 : wr.cell? ⟨gb160, 8, none⟩ = some (.slice A0_8 l0_8.length c0_8) := (blk_cell BK160.out 8).trans rfl
              have hfz19_0 := blk_frozen BK160.out 0
              have hfz19_1 := blk_frozen BK160.out 1
              have hfz19_2 := blk_frozen BK160.out 2
              have hfz19_3 := blk_frozen BK160.out 3
              have hfz19_4 := blk_frozen BK160.out 4
              have hfz19_5 := blk_frozen BK160.out 5
              have hfz19_6 := blk_frozen BK160.out 6
              have hfz19_7 := blk_frozen BK160.out 7
              have hfz19_8 := blk_frozen BK160.out 8
              go_wp2
              go_loopg [4] k2 (fun kq v4 w' => ∃ (x4_3 : Int), v4 = .int .i64 x4_3 ∧ Aside0 (reedpiperef18_Great.l1 kq x4_3 a0_0 a0_1 a0_2 a0_3 l0_4 l0_5 l0_6 l0_7 l0_8 = some r) ∧ Aside0 (kq ≤ k2) ∧ Aside0 (w'.heap[gb160]? = some (.cells #[.int .i64 a0_0, .int .u8 a0_1, .int .u8 a0_2, .int .i64 a0_3, (.slice A0_4 l0_4.length c0_4), (.slice A0_5 l0_5.length c0_5), (.slice A0_6 l0_6.length c0_6), (.slice A0_7 l0_7.length c0_7), (.slice A0_8 l0_8.length c0_8)] 49 (0, 0))) ∧ Aside0 (Below w.heap.size w w'))
              case atStart => exact ⟨(0), (by first | rfl | (simp; done) | (simp [*]; done)), H', ⟨Nat.le_refl _⟩, ⟨by (with_reducible repeat (first | refine blk_drewN ?_ _ | refine blk_drew ?_ | refine blk_alloc ?_ _)); exact BK160.out⟩, ⟨by repeat (first | (with_reducible first | exact HB.out | apply below_alloc | apply pw_below_drewN | apply below_drew1 | refine below_set ?_ GE160.out) | exact HB.out)⟩⟩
              case round =>
                clear H'
                try clear c1
                try clear p1
                try clear q1
                try clear hx1
                try clear p2
                try clear c4
                try clear c4b0
                try clear c4b1
                try clear c6
                try clear c6b0
                try clear c6b1
                try clear p6
                try clear c8
                try clear c8b0
                try clear c8b1
                try clear c10
                try clear c10b0
                try clear c10b1
                try clear c13
                try clear c14
                try clear c14b0
                try clear c15
                try clear c15b0
                try clear c16
                try clear c16b0
                try clear c16b1
                try clear p16
                try clear q16
                try clear hx16
                try clear hcz11_0
                try clear hcz11_1
                try clear hcz11_2
                try clear hcz11_3
                try clear hcz11_4
                try clear hcz11_5
                try clear hcz11_6
                try clear hcz11_7
                try clear hcz11_8
                try clear hcz12_0
                try clear hcz12_1
                try clear hcz12_2
                try clear hcz12_3
                try clear hcz12_4
                try clear hcz12_5
                try clear hcz12_6
                try clear hcz12_7
                try clear hcz12_8
                try clear hcz17_0
                try clear hcz17_1
                try clear hcz17_2
                try clear hcz17_3
                try clear hcz17_4
                try clear hcz17_5
                try clear hcz17_6
                try clear hcz17_7
                try clear hcz17_8
                try clear hcz18_0
                try clear hcz18_1
                try clear hcz18_2
                try clear hcz18_3
                try clear hcz18_4
                try clear hcz18_5
                try clear hcz18_6
                try clear hcz18_7
                try clear hcz18_8
                try clear hcz19_0
                try clear hcz19_1
                try clear hcz19_2
                try clear hcz19_3
                try clear hcz19_4
                try clear hcz19_5
                try clear hcz19_6
                try clear hcz19_7
                try clear hcz19_8
                try clear hcz5_0
                try clear hcz5_1
                try clear hcz5_2
                try clear hcz5_3
                try clear hcz5_4
                try clear hcz5_5
                try clear hcz5_6
                try clear hcz5_7
                try clear hcz5_8
                try clear hcz7_0
                try clear hcz7_1
                try clear hcz7_2
                try clear hcz7_3
                try clear hcz7_4
                try clear hcz7_5
                try clear hcz7_6
                try clear hcz7_7
                try clear hcz7_8
                try clear hcz9_0
                try clear hcz9_1
                try clear hcz9_2
                try clear hcz9_3
                try clear hcz9_4
                try clear hcz9_5
                try clear hcz9_6
                try clear hcz9_7
                try clear hcz9_8
                try clear hfz11_0
                try clear hfz11_1
                try clear hfz11_2
                try clear hfz11_3
                try clear hfz11_4
                try clear hfz11_5
                try clear hfz11_6
                try clear hfz11_7
                try clear hfz11_8
                try clear hfz12_0
                try clear hfz12_1
                try clear hfz12_2
                try clear hfz12_3
                try clear hfz12_4
                try clear hfz12_5
                try clear hfz12_6
                try clear hfz12_7
                try clear hfz12_8
                try clear hfz17_0
                try clear hfz17_1
                try clear hfz17_2
                try clear hfz17_3
                try clear hfz17_4
                try clear hfz17_5
                try clear hfz17_6
                try clear hfz17_7
                try clear hfz17_8
                try clear hfz18_0
                try clear hfz18_1
                try clear hfz18_2
                try clear hfz18_3
                try clear hfz18_4
                try clear hfz18_5
                try clear hfz18_6
                try clear hfz18_7
                try clear hfz18_8
                try clear hfz19_0
                try clear hfz19_1
                try clear hfz19_2
                try clear hfz19_3
                try clear hfz19_4
                try clear hfz19_5
                try clear hfz19_6
                try clear hfz19_7
                try clear hfz19_8
                try clear hfz5_0
                try clear hfz5_1
                try clear hfz5_2
                try clear hfz5_3
                try clear hfz5_4
                try clear hfz5_5
                try clear hfz5_6
                try clear hfz5_7
                try clear hfz5_8
                try clear hfz7_0
                try clear hfz7_1
                try clear hfz7_2
                try clear hfz7_3
                try clear hfz7_4
                try clear hfz7_5
                try clear hfz7_6
                try clear hfz7_7
                try clear hfz7_8
                try clear hfz9_0
                try clear hfz9_1
                try clear hfz9_2
                try clear hfz9_3
                try clear hfz9_4
                try clear hfz9_5
                try clear hfz9_6
                try clear hfz9_7
                try clear hfz9_8
                try clear hx161_0
                try clear p161
                try clear p2
                try clear q161
                obtain ⟨x4_3, rfl, HA, HK3, BK160, HB⟩ := hrel
                cases gk with
                | zero => exact absurd HA.out (by simp [reedpiperef18_Great.l1])
                | succ k3 =>
                  have H := HA.out
                  clear HA
                  simp only [reedpiperef18_Great.l1] at H
                  by_cases c20 : x4_3 < (l0_6.length : Int)
                  · rw [if_pos c20] at H
                    have c20b0 : decide (x4_3 < (l0_6.length : Int)) = true := decide_eq_true c20
                    clear c20
                    by_cases c21 : 0 ≤ x4_3
                    · rw [if_pos c21] at H
                      have c21b0 : decide (0 ≤ x4_3) = true := decide_eq_true c21
                      clear c21
                      by_cases c22 : ((rd_L4 l0_6 x4_3).length : Int) > 200
                      · rw [if_pos c22] at H
                        have c22b0 : decide (200 < ((rd_L4 l0_6 x4_3).length : Int)) = true := decide_eq_true c22
                        have c22b1 : decide (200 < (rd_L4 l0_6 x4_3).length) = true := decide_eq_true (by omega)
                        clear c22
                        obtain rfl := Option.some.inj H
                        have hcz23_0 : wr.cell? ⟨gb160, 0, none⟩ = some (.int .i64 a0_0) := (blk_cell BK160.out 0).trans rfl
                        have hcz23_1 : wr.cell? ⟨gb160, 1, none⟩ = some (.int .u8 a0_1) := (blk_cell BK160.out 1).trans rfl
                        have hcz23_2 : wr.cell? ⟨gb160, 2, none⟩ = some (.int .u8 a0_2) := (blk_cell BK160.out 2).trans rfl
                        have hcz23_3 : wr.cell? ⟨gb160, 3, none⟩ = some (.int .i64 a0_3) := (blk_cell BK160.out 3).trans rfl
                        have hcz23_4 : wr.cell? ⟨gb160, 4, none⟩ = some (.slice A0_4 l0_4.length c0_4) := (blk_cell BK160.out 4).trans rfl
                        have hcz23_5 : wr.cell? ⟨gb160, 5, none⟩ = some (.slice A0_5 l0_5.length c0_5) := (blk_cell BK160.out 5).trans rfl
                        have hcz23_6 : wr.cell? ⟨gb160, 6, none⟩ = some (.slice A0_6 l0_6.length c0_6) := (blk_cell BK160.out 6).trans rfl
                        have hcz23_7 : wr.cell? ⟨gb160, 7, none⟩ = some (.slice A0_7 l0_7.length c0_7) := (blk_cell BK160.out 7).trans rfl
                        have hcz23_8 : wr.cell? ⟨gb160, 8, none⟩ = some (.slice A0_8 l0_8.length c0_8) := (blk_cell BK160.out 8).trans rfl
                        have hfz23_0 := blk_frozen BK160.out 0
                        have hfz23_1 := blk_frozen BK160.out 1
                        have hfz23_2 := blk_frozen BK160.out 2
                        have hfz23_3 := blk_frozen BK160.out 3
                        have hfz23_4 := blk_frozen BK160.out 4
                        have hfz23_5 := blk_frozen BK160.out 5
                        have hfz23_6 := blk_frozen BK160.out 6
                        have hfz23_7 := blk_frozen BK160.out 7
                        have hfz23_8 := blk_frozen BK160.out 8
                        have p162 : 0 ≤ (x4_3 : Int) := of_decide_eq_true (by first | (with_reducible assumption) | assumption)
                        have q162 : x4_3 < (l0_6.length : Int) := of_decide_eq_true (by first | (with_reducible assumption) | assumption)
                        obtain ⟨ad162, A162_0, c162_0, e162, hx162_0, hl162_0, hi162_0⟩ := at_L4 HR0_6.out x4_3 p162 q162
                        cases e162
                        replace hx162_0 := (HB.out.cell (World.block_lt_of_cell? w _ hx162_0)).trans hx162_0
                        have HR162_0 := Aside0.mk hi162_0
                        have HC162_0 := Aside0.mk hl162_0
                        clear hi162_0 hl162_0
                        replace p162 := eq_true p162
                        replace q162 := eq_true q162
                        go_wp2
                        go_ret
                        exact ⟨by first | rfl | (simp [errW_none, errW_some] <;> rfl) | (simp [*, errW_none, errW_some] <;> rfl), by repeat (first | (with_reducible first | exact HB.out | apply below_alloc | apply pw_below_drewN | apply below_drew1 | refine below_set ?_ GE160.out) | exact HB.out)⟩
                      · rw [if_neg c22] at H
                        have c22b0 : decide (200 < ((rd_L4 l0_6 x4_3).length : Int)) = false := decide_eq_false c22
                        have c22b1 : decide (200 < (rd_L4 l0_6 x4_3).length) = false := decide_eq_false (by omega)
                        clear c22
                        have H' := Aside0.mk H
                        clear H
                        have hcz24_0 : wr.cell? ⟨gb160, 0, none⟩ = some (.int .i64 a0_0) := (blk_cell BK160.out 0).trans rfl
                        have hcz24_1 : wr.cell? ⟨gb160, 1, none⟩ = some (.int .u8 a0_1) := (blk_cell BK160.out 1).trans rfl
                        have hcz24_2 : wr.cell? ⟨gb160, 2, none⟩ = some (.int .u8 a0_2) := (blk_cell BK160.out 2).trans rfl
                        have hcz24_3 : wr.cell? ⟨gb160, 3, none⟩ = some (.int .i64 a0_3) := (blk_cell BK160.out 3).trans rfl
                        have hcz24_4 : wr.cell? ⟨gb160, 4, none⟩ = some (.slice A0_4 l0_4.length c0_4) := (blk_cell BK160.out 4).trans rfl
                        have hcz24_5 : wr.cell? ⟨gb160, 5, none⟩ = some (.slice A0_5 l0_5.length c0_5) := (blk_cell BK160.out 5).trans rfl
                        have hcz24_6 : wr.cell? ⟨gb160, 6, none⟩ = some (.slice A0_6 l0_6.length c0_6) := (blk_cell BK160.out 6).trans rfl
                        have hcz24_7 : wr.cell? ⟨gb160, 7, none⟩ = some (.slice A0_7 l0_7.length c0_7) := (blk_cell BK160.out 7).trans rfl
                        have hcz24_8 : wr.cell? ⟨gb160, 8, none⟩ = some (.slice A0_8 l0_8.length c0_8) := (blk_cell BK160.out 8).trans rfl
                        have hfz24_0 := blk_frozen BK160.out 0
                        have hfz24_1 := blk_frozen BK160.out 1
                        have hfz24_2 := blk_frozen BK160.out 2
                        have hfz24_3 := blk_frozen BK160.out 3
                        have hfz24_4 := blk_frozen BK160.out 4
                        have hfz24_5 := blk_frozen BK160.out 5
                        have hfz24_6 := blk_frozen BK160.out 6
                        have hfz24_7 := blk_frozen BK160.out 7
                        have hfz24_8 := blk_frozen BK160.out 8
                        have p162 : 0 ≤ (x4_3 : Int) := of_decide_eq_true (by first | (with_reducible assumption) | assumption)
                        have q162 : x4_3 < (l0_6.length : Int) := of_decide_eq_true (by first | (with_reducible assumption) | assumption)
                        obtain ⟨ad162, A162_0, c162_0, e162, hx162_0, hl162_0, hi162_0⟩ := at_L4 HR0_6.out x4_3 p162 q162
                        cases e162
                        replace hx162_0 := (HB.out.cell (World.block_lt_of_cell? w _ hx162_0)).trans hx162_0
                        have HR162_0 := Aside0.mk hi162_0
                        have HC162_0 := Aside0.mk hl162_0
                        clear hi162_0 hl162_0
                        replace p162 := eq_true p162
                        replace q162 := eq_true q162
                        go_wp2
                        go_roundg k3
                        case measure => have := HJ1.out; have := HK2.out; have := HK3.out; omega
                        case rel => exact ⟨(wrap64 (x4_3 + 1)), (by first | rfl | (simp; done) | (simp [*]; done)), H', ⟨by have := HJ1.out; have := HK2.out; have := HK3.out; omega⟩, ⟨by (with_reducible repeat (first | refine blk_drewN ?_ _ | refine blk_drew ?_ | refine blk_alloc ?_ _)); exact BK160.out⟩, ⟨by repeat (first | (with_reducible first | exact HB.out | apply below_alloc | apply pw_below_drewN | apply below_drew1 | refine below_set ?_ GE160.out) | exact HB.out)⟩⟩
                    · rw [if_neg c21] at H
                      exact absurd H (by simp)
                  · rw [if_neg c20] at H
                    have c20b0 : decide (x4_3 < (l0_6.length : Int)) = false := decide_eq_false c20
                    clear c20
                    have H' := Aside0.mk H
                    clear H
                    have hcz25_0 : wr.cell? ⟨gb160, 0, none⟩ = some (.int .i64 a0_0) := (blk_cell BK160.out 0).trans rfl
                    have hcz25_1 : wr.cell? ⟨gb160, 1, none⟩ = some (.int .u8 a0_1) := (blk_cell BK160.out 1).trans rfl
                    have hcz25_2 : wr.cell? ⟨gb160, 2, none⟩ = some (.int .u8 a0_2) := (blk_cell BK160.out 2).trans rfl
                    have hcz25_3 : wr.cell? ⟨gb160, 3, none⟩ = some (.int .i64 a0_3) := (blk_cell BK160.out 3).trans rfl
                    have hcz25_4 : wr.cell? ⟨gb160, 4, none⟩ = some (.slice A0_4 l0_4.length c0_4) := (blk_cell BK160.out 4).trans rfl
                    have hcz25_5 : wr.cell? ⟨gb160, 5, none⟩ = some (.slice A0_5 l0_5.length c0_5) := (blk_cell BK160.out 5).trans rfl
                    have hcz25_6 : wr.cell? ⟨gb160, 6, none⟩ = some (.slice A0_6 l0_6.length c0_6) := (blk_cell BK160.out 6).trans rfl
                    have hcz25_7 : wr.cell? ⟨gb160, 7, none⟩ = some (.slice A0_7 l0_7.length c0_7) := (blk_cell BK160.out 7).trans rfl
                    have hcz25_8 : wr.cell? ⟨gb160, 8, none⟩ = some (.slice A0_8 l0_8.length c0_8) := (blk_cell BK160.out 8).trans rfl
                    have hfz25_0 := blk_frozen BK160.out 0
                    have hfz25_1 := blk_frozen BK160.out 1
                    have hfz25_2 := blk_frozen BK160.out 2
                    have hfz25_3 := blk_frozen BK160.out 3
                    have hfz25_4 := blk_frozen BK160.out 4
                    have hfz25_5 := blk_frozen BK160.out 5
                    have hfz25_6 := blk_frozen BK160.out 6
                    have hfz25_7 := blk_frozen BK160.out 7
                    have hfz25_8 := blk_frozen BK160.out 8
                    go_wp2
                    go_loopg [5] k3 (fun kq v5 w' => ∃ (x5_4 : Int), v5 = .int .i64 x5_4 ∧ Aside0 (reedpiperef18_Great.l2 kq x5_4 a0_0 a0_1 a0_2 a0_3 l0_4 l0_5 l0_6 l0_7 l0_8 = some r) ∧ Aside0 (kq ≤ k3) ∧ Aside0 (w'.heap[gb160]? = some (.cells #[.int .i64 a0_0, .int .u8 a0_1, .int .u8 a0_2, .int .i64 a0_3, (.slice A0_4 l0_4.length c0_4), (.slice A0_5 l0_5.length c0_5), (.slice A0_6 l0_6.length c0_6), (.slice A0_7 l0_7.length c0_7), (.slice A0_8 l0_8.length c0_8)] 49 (0, 0))) ∧ Aside0 (Below w.heap.size w w'))
                    case atStart => exact ⟨(0), (by first | rfl | (simp; done) | (simp [*]; done)), H', ⟨Nat.le_refl _⟩, ⟨by (with_reducible repeat (first | refine blk_drewN ?_ _ | refine blk_drew ?_ | refine blk_alloc ?_ _)); exact BK160.out⟩, ⟨by repeat (first | (with_reducible first | exact HB.out | apply below_alloc | apply pw_below_drewN | apply below_drew1 | refine below_set ?_ GE160.out) | exact HB.out)⟩⟩
                    case round =>
                      clear H'
                      try clear c1
                      try clear p1
                      try clear q1
                      try clear hx1
                      try clear c2
                      try clear p2
                      try clear c4
                      try clear c4b0
                      try clear c4b1
                      try clear c6
                      try clear c6b0
                      try clear c6b1
                      try clear p6
                      try clear c8
                      try clear c8b0
                      try clear c8b1
                      try clear c10
                      try clear c10b0
                      try clear c10b1
                      try clear c13
                      try clear c14
                      try clear c14b0
                      try clear c15
                      try clear c15b0
                      try clear c16
                      try clear c16b0
                      try clear c16b1
                      try clear p16
                      try clear q16
                      try clear hx16
                      try clear c20
                      try clear c20b0
                      try clear c21
                      try clear c21b0
                      try clear c22
                      try clear c22b0
                      try clear c22b1
                      try clear hcz11_0
                      try clear hcz11_1
                      try clear hcz11_2
                      try clear hcz11_3
                      try clear hcz11_4
                      try clear hcz11_5
                      try clear hcz11_6
                      try clear hcz11_7
                      try clear hcz11_8
                      try clear hcz12_0
                      try clear hcz12_1
                      try clear hcz12_2
                      try clear hcz12_3
                      try clear hcz12_4
                      try clear hcz12_5
                      try clear hcz12_6
                      try clear hcz12_7
                      try clear hcz12_8
                      try clear hcz17_0
                      try clear hcz17_1
                      try clear hcz17_2
                      try clear hcz17_3
                      try clear hcz17_4
                      try clear hcz17_5
                      try clear hcz17_6
                      try clear hcz17_7
                      try clear hcz17_8
                      try clear hcz18_0
                      try clear hcz18_1
                      try clear hcz18_2
                      try clear hcz18_3
                      try clear hcz18_4
                      try clear hcz18_5
                      try clear hcz18_6
                      try clear hcz18_7
                      try clear hcz18_8
                      try clear hcz19_0
                      try clear hcz19_1
                      try clear hcz19_2
                      try clear hcz19_3
                      try clear hcz19_4
                      try clear hcz19_5
                      try clear hcz19_6
                      try clear hcz19_7
                      try clear hcz19_8
                      try clear hcz23_0
                      try clear hcz23_1
                      try clear hcz23_2
                      try clear hcz23_3
                      try clear hcz23_4
                      try clear hcz23_5
                      try clear hcz23_6
                      try clear hcz23_7
                      try clear hcz23_8
                      try clear hcz24_0
                      try clear hcz24_1
                      try clear hcz24_2
                      try clear hcz24_3
                      try clear hcz24_4
                      try clear hcz24_5
                      try clear hcz24_6
                      try clear hcz24_7
                      try clear hcz24_8
                      try clear hcz25_0
                      try clear hcz25_1
                      try clear hcz25_2
                      try clear hcz25_3
                      try clear hcz25_4
                      try clear hcz25_5
                      try clear hcz25_6
                      try clear hcz25_7
                      try clear hcz25_8
                      try clear hcz5_0
                      try clear hcz5_1
                      try clear hcz5_2
                      try clear hcz5_3
                      try clear hcz5_4
                      try clear hcz5_5
                      try clear hcz5_6
                      try clear hcz5_7
                      try clear hcz5_8
                      try clear hcz7_0
                      try clear hcz7_1
                      try clear hcz7_2
                      try clear hcz7_3
                      try clear hcz7_4
                      try clear hcz7_5
                      try clear hcz7_6
                      try clear hcz7_7
                      try clear hcz7_8
                      try clear hcz9_0
                      try clear hcz9_1
                      try clear hcz9_2
                      try clear hcz9_3
                      try clear hcz9_4
                      try clear hcz9_5
                      try clear hcz9_6
                      try clear hcz9_7
                      try clear hcz9_8
                      try clear hfz11_0
                      try clear hfz11_1
                      try clear hfz11_2
                      try clear hfz11_3
                      try clear hfz11_4
                      try clear hfz11_5
                      try clear hfz11_6
                      try clear hfz11_7
                      try clear hfz11_8
                      try clear hfz12_0
                      try clear hfz12_1
                      try clear hfz12_2
                      try clear hfz12_3
                      try clear hfz12_4
                      try clear hfz12_5
                      try clear hfz12_6
                      try clear hfz12_7
                      try clear hfz12_8
                      try clear hfz17_0
                      try clear hfz17_1
                      try clear hfz17_2
                      try clear hfz17_3
                      try clear hfz17_4
                      try clear hfz17_5
                      try clear hfz17_6
                      try clear hfz17_7
                      try clear hfz17_8
                      try clear hfz18_0
                      try clear hfz18_1
                      try clear hfz18_2
                      try clear hfz18_3
                      try clear hfz18_4
                      try clear hfz18_5
                      try clear hfz18_6
                      try clear hfz18_7
                      try clear hfz18_8
                      try clear hfz19_0
                      try clear hfz19_1
                      try clear hfz19_2
                      try clear hfz19_3
                      try clear hfz19_4
                      try clear hfz19_5
                      try clear hfz19_6
                      try clear hfz19_7
                      try clear hfz19_8
                      try clear hfz23_0
                      try clear hfz23_1
                      try clear hfz23_2
                      try clear hfz23_3
                      try clear hfz23_4
                      try clear hfz23_5
                      try clear hfz23_6
                      try clear hfz23_7
                      try clear hfz23_8
                      try clear hfz24_0
                      try clear hfz24_1
                      try clear hfz24_2
                      try clear hfz24_3
                      try clear hfz24_4
                      try clear hfz24_5
                      try clear hfz24_6
                      try clear hfz24_7
                      try clear hfz24_8
                      try clear hfz25_0
                      try clear hfz25_1
                      try clear hfz25_2
                      try clear hfz25_3
                      try clear hfz25_4
                      try clear hfz25_5
                      try clear hfz25_6
                      try clear hfz25_7
                      try clear hfz25_8
                      try clear hfz5_0
                      try clear hfz5_1
                      try clear hfz5_2
                      try clear hfz5_3
                      try clear hfz5_4
                      try clear hfz5_5
                      try clear hfz5_6
                      try clear hfz5_7
                      try clear hfz5_8
                      try clear hfz7_0
                      try clear hfz7_1
                      try clear hfz7_2
                      try clear hfz7_3
                      try clear hfz7_4
                      try clear hfz7_5
                      try clear hfz7_6
                      try clear hfz7_7
                      try clear hfz7_8
                      try clear hfz9_0
                      try clear hfz9_1
                      try clear hfz9_2
                      try clear hfz9_3
                      try clear hfz9_4
                      try clear hfz9_5
                      try clear hfz9_6
                      try clear hfz9_7
                      try clear hfz9_8
                      try clear hx161_0
                      try clear hx162_0
                      try clear p1
                      try clear p16
                      try clear p161
                      try clear p162
                      try clear p2
                      try clear p6
                      try clear q1
                      try clear q16
                      try clear q161
                      try clear q162
                      obtain ⟨x5_4, rfl, HA, HK4, BK160, HB⟩ := hrel
                      cases gk with
                      | zero => exact absurd HA.out (by simp [reedpiperef18_Great.l2])
                      | succ k4 =>
                        have H := HA.out
                        clear HA
                        simp only [reedpiperef18_Great.l2] at H
                        by_cases c26 : x5_4 < (l0_7.length : Int)
                        · rw [if_pos c26] at H
                          have c26b0 : decide (x5_4 < (l0_7.length : Int)) = true := decide_eq_true c26
                          clear c26
                          by_cases c27 : 0 ≤ x5_4
                          · rw [if_pos c27] at H
                            have c27b0 : decide (0 ≤ x5_4) = true := decide_eq_true c27
                            clear c27
                            by_cases c28 : ((rd_L7 l0_7 x5_4).length : Int) > 20
                            · rw [if_pos c28] at H
                              have c28b0 : decide (20 < ((rd_L7 l0_7 x5_4).length : Int)) = true := decide_eq_true c28
                              have c28b1 : decide (20 < (rd_L7 l0_7 x5_4).length) = true := decide_eq_true (by omega)
                              clear c28
                              obtain rfl := Option.some.inj H
                              have hcz29_0 : wr.cell? ⟨gb160, 0, none⟩ = some (.int .i64 a0_0) := (blk_cell BK160.out 0).trans rfl
                              have hcz29_1 : wr.cell? ⟨gb160, 1, none⟩ = some (.int .u8 a0_1) := (blk_cell BK160.out 1).trans rfl
                              have hcz29_2 : wr.cell? ⟨gb160, 2, none⟩ = some (.int .u8 a0_2) := (blk_cell BK160.out 2).trans rfl
                              have hcz29_3 : wr.cell? ⟨gb160, 3, none⟩ = some (.int .i64 a0_3) := (blk_cell BK160.out 3).trans rfl
                              have hcz29_4 : wr.cell? ⟨gb160, 4, none⟩ = some (.slice A0_4 l0_4.length c0_4) := (blk_cell BK160.out 4).trans rfl
                              have hcz29_5 : wr.cell? ⟨gb160, 5, none⟩ = some (.slice A0_5 l0_5.length c0_5) := (blk_cell BK160.out 5).trans rfl
                              have hcz29_6 : wr.cell? ⟨gb160, 6, none⟩ = some (.slice A0_6 l0_6.length c0_6) := (blk_cell BK160.out 6).trans rfl
                              have hcz29_7 : wr.cell? ⟨gb160, 7, none⟩ = some (.slice A0_7 l0_7.length c0_7) := (blk_cell BK160.out 7).trans rfl
                              have hcz29_8 : wr.cell? ⟨gb160, 8, none⟩ = some (.slice A0_8 l0_8.length c0_8) := (blk_cell BK160.out 8).trans rfl
                              have hfz29_0 := blk_frozen BK160.out 0
                              have hfz29_1 := blk_frozen BK160.out 1
                              have hfz29_2 := blk_frozen BK160.out 2
                              have hfz29_3 := blk_frozen BK160.out 3
                              have hfz29_4 := blk_frozen BK160.out 4
                              have hfz29_5 := blk_frozen BK160.out 5
                              have hfz29_6 := blk_frozen BK160.out 6
                              have hfz29_7 := blk_frozen BK160.out 7
                              have hfz29_8 := blk_frozen BK160.out 8
                              have p163 : 0 ≤ (x5_4 : Int) := of_decide_eq_true (by first | (with_reducible assumption) | assumption)
                              have q163 : x5_4 < (l0_7.length : Int) := of_decide_eq_true (by first | (with_reducible assumption) | assumption)
                              obtain ⟨ad163, A163_0, c163_0, e163, hx163_0, hl163_0, hi163_0⟩ := at_L7 HR0_7.out x5_4 p163 q163
                              cases e163
                              replace hx163_0 := (HB.out.cell (World.block_lt_of_cell? w _ hx163_0)).trans hx163_0
                              have HR163_0 := Aside0.mk hi163_0
                              have HC163_0 := Aside0.mk hl163_0
                              clear hi163_0 hl163_0
                              replace p163 := eq_true p163
                              replace q163 := eq_true q163
                              go_wp2
                              go_ret
                              exact ⟨by first | rfl | (simp [errW_none, errW_some] <;> rfl) | (simp [*, errW_none, errW_some] <;> rfl), by repeat (first | (with_reducible first | exact HB.out | apply below_alloc | apply pw_below_drewN | apply below_drew1 | refine below_set ?_ GE160.out) | exact HB.out)⟩
                            · rw [if_neg c28] at H
                              have c28b0 : decide (20 < ((rd_L7 l0_7 x5_4).length : Int)) = false := decide_eq_false c28
                              have c28b1 : decide (20 < (rd_L7 l0_7 x5_4).length) = false := decide_eq_false (by omega)
                              clear c28
                              have H' := Aside0.mk H
                              clear H
                              have hcz30_0 : wr.cell? ⟨gb160, 0, none⟩ = some (.int .i64 a0_0) := (blk_cell BK160.out 0).trans rfl
                              have hcz30_1 : wr.cell? ⟨gb160, 1, none⟩ = some (.int .u8 a0_1) := (blk_cell BK160.out 1).trans rfl
                              have hcz30_2 : wr.cell? ⟨gb160, 2, none⟩ = some (.int .u8 a0_2) := (blk_cell BK160.out 2).trans rfl
                              have hcz30_3 : wr.cell? ⟨gb160, 3, none⟩ = some (.int .i64 a0_3) := (blk_cell BK160.out 3).trans rfl
                              have hcz30_4 : wr.cell? ⟨gb160, 4, none⟩ = some (.slice A0_4 l0_4.length c0_4) := (blk_cell BK160.out 4).trans rfl
                              have hcz30_5 : wr.cell? ⟨gb160, 5, none⟩ = some (.slice A0_5 l0_5.length c0_5) := (blk_cell BK160.out 5).trans rfl
                              have hcz30_6 : wr.cell? ⟨gb160, 6, none⟩ = some (.slice A0_6 l0_6.length c0_6) := (blk_cell BK160.out 6).trans rfl
                              have hcz30_7 : wr.cell? ⟨gb160, 7, none⟩ = some (.slice A0_7 l0_7.length c0_7) := (blk_cell BK160.out 7).trans rfl
                              have hcz30_8 : wr.cell? ⟨gb160, 8, none⟩ = some (.slice A0_8 l0_8.length c0_8) := (blk_cell BK160.out 8).trans rfl
                              have hfz30_0 := blk_frozen BK160.out 0
                              have hfz30_1 := blk_frozen BK160.out 1
                              have hfz30_2 := blk_frozen BK160.out 2
                              have hfz30_3 := blk_frozen BK160.out 3
                              have hfz30_4 := blk_frozen BK160.out 4
                              have hfz30_5 := blk_frozen BK160.out 5
                              have hfz30_6 := blk_frozen BK160.out 6
                              have hfz30_7 := blk_frozen BK160.out 7
                              have hfz30_8 := blk_frozen BK160.out 8
                              have p163 : 0 ≤ (x5_4 : Int) := of_decide_eq_true (by first | (with_reducible assumption) | assumption)
                              have q163 : x5_4 < (l0_7.length : Int) := of_decide_eq_true (by first | (with_reducible assumption) | assumption)
                              obtain ⟨ad163, A163_0, c163_0, e163, hx163_0, hl163_0, hi163_0⟩ := at_L7 HR0_7.out x5_4 p163 q163
                              cases e163
                              replace hx163_0 := (HB.out.cell (World.block_lt_of_cell? w _ hx163_0)).trans hx163_0
                              have HR163_0 := Aside0.mk hi163_0
                              have HC163_0 := Aside0.mk hl163_0
                              clear hi163_0 hl163_0
                              replace p163 := eq_true p163
                              replace q163 := eq_true q163
                              go_wp2
                              go_loopg [6] k4 (fun kq v6 w' => ∃ (x6_5 : Int), v6 = .int .i64 x6_5 ∧ Aside0 (reedpiperef18_Great.l3 kq x5_4 x6_5 a0_0 a0_1 a0_2 a0_3 l0_4 l0_5 l0_6 l0_7 l0_8 = some r) ∧ Aside0 (kq ≤ k4) ∧ Aside0 (w'.heap[gb160]? = some (.cells #[.int .i64 a0_0, .int .u8 a0_1, .int .u8 a0_2, .int .i64 a0_3, (.slice A0_4 l0_4.length c0_4), (.slice A0_5 l0_5.length c0_5), (.slice A0_6 l0_6.length c0_6), (.slice (some ad163) l0_7.length c0_7), (.slice A0_8 l0_8.length c0_8)] 49 (0, 0))) ∧ Aside0 (Below w.heap.size w w'))
                              case atStart => exact ⟨(0), (by first | rfl | (simp; done) | (simp [*]; done)), H', ⟨Nat.le_refl _⟩, ⟨by (with_reducible repeat (first | refine blk_drewN ?_ _ | refine blk_drew ?_ | refine blk_alloc ?_ _)); exact BK160.out⟩, ⟨by repeat (first | (with_reducible first | exact HB.out | apply below_alloc | apply pw_below_drewN | apply below_drew1 | refine below_set ?_ GE160.out) | exact HB.out)⟩⟩
                              case round =>
                                clear H'
                                try clear c1
                                try clear p1
                                try clear q1
                                try clear hx1
                                try clear c2
                                try clear p2
                                try clear c4
                                try clear c4b0
                                try clear c4b1
                                try clear c6
                                try clear c6b0
                                try clear c6b1
                                try clear p6
                                try clear c8
                                try clear c8b0
                                try clear c8b1
                                try clear c10
                                try clear c10b0
                                try clear c10b1
                                try clear c13
                                try clear c14
                                try clear c14b0
                                try clear c15
                                try clear c15b0
                                try clear c16
                                try clear c16b0
                                try clear c16b1
                                try clear p16
                                try clear q16
                                try clear hx16
                                try clear c20
                                try clear c20b0
                                try clear c21
                                try clear c21b0
                                try clear c22
                                try clear c22b0
                                try clear c22b1
                                try clear c26
                                try clear c26b0
                                try clear c27
                                try clear c27b0
                                try clear c28
                                try clear c28b0
                                try clear c28b1
                                try clear hcz11_0
                                try clear hcz11_1
                                try clear hcz11_2
                                try clear hcz11_3
                                try clear hcz11_4
                                try clear hcz11_5
                                try clear hcz11_6
                                try clear hcz11_7
                                try clear hcz11_8
                                try clear hcz12_0
                                try clear hcz12_1
                                try clear hcz12_2
                                try clear hcz12_3
                                try clear hcz12_4
                                try clear hcz12_5
                                try clear hcz12_6
                                try clear hcz12_7
                                try clear hcz12_8
                                try clear hcz17_0
                                try clear hcz17_1
                                try clear hcz17_2
                                try clear hcz17_3
                                try clear hcz17_4
                                try clear hcz17_5
                                try clear hcz17_6
                                try clear hcz17_7
                                try clear hcz17_8
                                try clear hcz18_0
                                try clear hcz18_1
                                try clear hcz18_2
                                try clear hcz18_3
                                try clear hcz18_4
                                try clear hcz18_5
                                try clear hcz18_6
                                try clear hcz18_7
                                try clear hcz18_8
                                try clear hcz19_0
                                try clear hcz19_1
                                try clear hcz19_2
                                try clear hcz19_3
                                try clear hcz19_4
                                try clear hcz19_5
                                try clear hcz19_6
                                try clear hcz19_7
                                try clear hcz19_8
                                try clear hcz23_0
                                try clear hcz23_1
                                try clear hcz23_2
                                try clear hcz23_3
                                try clear hcz23_4
                                try clear hcz23_5
                                try clear hcz23_6
                                try clear hcz23_7
                                try clear hcz23_8
                                try clear hcz24_0
                                try clear hcz24_1
                                try clear hcz24_2
                                try clear hcz24_3
                                try clear hcz24_4
                                try clear hcz24_5
                                try clear hcz24_6
                                try clear hcz24_7
                                try clear hcz24_8
                                try clear hcz25_0
                                try clear hcz25_1
                                try clear hcz25_2
                                try clear hcz25_3
                                try clear hcz25_4
                                try clear hcz25_5
                                try clear hcz25_6
                                try clear hcz25_7
                                try clear hcz25_8
                                try clear hcz29_0
                                try clear hcz29_1
                                try clear hcz29_2
                                try clear hcz29_3
                                try clear hcz29_4
                                try clear hcz29_5
                                try clear hcz29_6
                                try clear hcz29_7
                                try clear hcz29_8
                                try clear hcz30_0
                                try clear hcz30_1
                                try clear hcz30_2
                                try clear hcz30_3
                                try clear hcz30_4
                                try clear hcz30_5
                                try clear hcz30_6
                                try clear hcz30_7
                                try clear hcz30_8
                                try clear hcz5_0
                                try clear hcz5_1
                                try clear hcz5_2
                                try clear hcz5_3
                                try clear hcz5_4
                                try clear hcz5_5
                                try clear hcz5_6
                                try clear hcz5_7
                                try clear hcz5_8
                                try clear hcz7_0
                                try clear hcz7_1
                                try clear hcz7_2
                                try clear hcz7_3
                                try clear hcz7_4
                                try clear hcz7_5
                                try clear hcz7_6
                                try clear hcz7_7
                                try clear hcz7_8
                                try clear hcz9_0
                                try clear hcz9_1
                                try clear hcz9_2
                                try clear hcz9_3
                                try clear hcz9_4
                                try clear hcz9_5
                                try clear hcz9_6
                                try clear hcz9_7
                                try clear hcz9_8
                                try clear hfz11_0
                                try clear hfz11_1
                                try clear hfz11_2
                                try clear hfz11_3
                                try clear hfz11_4
                                try clear hfz11_5
                                try clear hfz11_6
                                try clear hfz11_7
                                try clear hfz11_8
                                try clear hfz12_0
                                try clear hfz12_1
                                try clear hfz12_2
                                try clear hfz12_3
                                try clear hfz12_4
                                try clear hfz12_5
                                try clear hfz12_6
                                try clear hfz12_7
                                try clear hfz12_8
                                try clear hfz17_0
                                try clear hfz17_1
                                try clear hfz17_2
                                try clear hfz17_3
                                try clear hfz17_4
                                try clear hfz17_5
                                try clear hfz17_6
                                try clear hfz17_7
                                try clear hfz17_8
                                try clear hfz18_0
                                try clear hfz18_1
                                try clear hfz18_2
                                try clear hfz18_3
                                try clear hfz18_4
                                try clear hfz18_5
                                try clear hfz18_6
                                try clear hfz18_7
                                try clear hfz18_8
                                try clear hfz19_0
                                try clear hfz19_1
                                try clear hfz19_2
                                try clear hfz19_3
                                try clear hfz19_4
                                try clear hfz19_5
                                try clear hfz19_6
                                try clear hfz19_7
                                try clear hfz19_8
                                try clear hfz23_0
                                try clear hfz23_1
                                try clear hfz23_2
                                try clear hfz23_3
                                try clear hfz23_4
                                try clear hfz23_5
                                try clear hfz23_6
                                try clear hfz23_7
                                try clear hfz23_8
                                try clear hfz24_0
                                try clear hfz24_1
                                try clear hfz24_2
                                try clear hfz24_3
                                try clear hfz24_4
                                try clear hfz24_5
                                try clear hfz24_6
                                try clear hfz24_7
                                try clear hfz24_8
                                try clear hfz25_0
                                try clear hfz25_1
                                try clear hfz25_2
                                try clear hfz25_3
                                try clear hfz25_4
                                try clear hfz25_5
                                try clear hfz25_6
                                try clear hfz25_7
                                try clear hfz25_8
                                try clear hfz29_0
                                try clear hfz29_1
                                try clear hfz29_2
                                try clear hfz29_3
                                try clear hfz29_4
                                try clear hfz29_5
                                try clear hfz29_6
                                try clear hfz29_7
                                try clear hfz29_8
                                try clear hfz30_0
                                try clear hfz30_1
                                try clear hfz30_2
                                try clear hfz30_3
                                try clear hfz30_4
                                try clear hfz30_5
                                try clear hfz30_6
                                try clear hfz30_7
                                try clear hfz30_8
                                try clear hfz5_0
                                try clear hfz5_1
                                try clear hfz5_2
                                try clear hfz5_3
                                try clear hfz5_4
                                try clear hfz5_5
                                try clear hfz5_6
                                try clear hfz5_7
                                try clear hfz5_8
                                try clear hfz7_0
                                try clear hfz7_1
                                try clear hfz7_2
                                try clear hfz7_3
                                try clear hfz7_4
                                try clear hfz7_5
                                try clear hfz7_6
                                try clear hfz7_7
                                try clear hfz7_8
                                try clear hfz9_0
                                try clear hfz9_1
                                try clear hfz9_2
                                try clear hfz9_3
                                try clear hfz9_4
                                try clear hfz9_5
                                try clear hfz9_6
                                try clear hfz9_7
                                try clear hfz9_8
                                try clear hx161_0
                                try clear hx162_0
                                try clear hx163_0
                                try clear p1
                                try clear p16
                                try clear p161
                                try clear p162
                                try clear p163
                                try clear p2
                                try clear p6
                                try clear q1
                                try clear q16
                                try clear q161
                                try clear q162
                                try clear q163
                                obtain ⟨x6_5, rfl, HA, HK5, BK160, HB⟩ := hrel
                                cases gk with
                                | zero => exact absurd HA.out (by simp [reedpiperef18_Great.l3])
                                | succ k5 =>
                                  have H := HA.out
                                  clear HA
                                  simp only [reedpiperef18_Great.l3] at H
                                  by_cases c31 : 0 ≤ x5_4
                                  · rw [if_pos c31] at H
                                    have c31b0 : decide (0 ≤ x5_4) = true := decide_eq_true c31
                                    clear c31
                                    by_cases c32 : x5_4 < (l0_7.length : Int)
                                    · rw [if_pos c32] at H
                                      have c32b0 : decide (x5_4 < (l0_7.length : Int)) = true := decide_eq_true c32
                                      clear c32
                                      by_cases c33 : x6_5 < ((rd_L7 l0_7 x5_4).length : Int)
                                      · rw [if_pos c33] at H
                                        have c33b0 : decide (x6_5 < ((rd_L7 l0_7 x5_4).length : Int)) = true := decide_eq_true c33
                                        clear c33
                                        by_cases c34 : 0 ≤ x6_5
                                        · rw [if_pos c34] at H
                                          have c34b0 : decide (0 ≤ x6_5) = true := decide_eq_true c34
                                          clear c34
                                          by_cases c35 : (((rd_T38 (rd_L7 l0_7 x5_4) x6_5).f4).length : Int) > 100
                                          · rw [if_pos c35] at H
                                            have c35b0 : decide (100 < (((rd_T38 (rd_L7 l0_7 x5_4) x6_5).f4).length : Int)) = true := decide_eq_true c35
                                            have c35b1 : decide (100 < ((rd_T38 (rd_L7 l0_7 x5_4) x6_5).f4).length) = true := decide_eq_true (by omega)
                                            clear c35
                                            obtain rfl := Option.some.inj H
                                            have hcz36_0 : wr.cell? ⟨gb160, 0, none⟩ = some (.int .i64 a0_0) := (blk_cell BK160.out 0).trans rfl
                                            have hcz36_1 : wr.cell? ⟨gb160, 1, none⟩ = some (.int .u8 a0_1) := (blk_cell BK160.out 1).trans rfl
                                            have hcz36_2 : wr.cell? ⟨gb160, 2, none⟩ = some (.int .u8 a0_2) := (blk_cell BK160.out 2).trans rfl
                                            have hcz36_3 : wr.cell? ⟨gb160, 3, none⟩ = some (.int .i64 a0_3) := (blk_cell BK160.out 3).trans rfl
                                            have hcz36_4 : wr.cell? ⟨gb160, 4, none⟩ = some (.slice A0_4 l0_4.length c0_4) := (blk_cell BK160.out 4).trans rfl
                                            have hcz36_5 : wr.cell? ⟨gb160, 5, none⟩ = some (.slice A0_5 l0_5.length c0_5) := (blk_cell BK160.out 5).trans rfl
                                            have hcz36_6 : wr.cell? ⟨gb160, 6, none⟩ = some (.slice A0_6 l0_6.length c0_6) := (blk_cell BK160.out 6).trans rfl
                                            have hcz36_7 : wr.cell? ⟨gb160, 7, none⟩ = some (.slice (some ad163) l0_7.length c0_7) := (blk_cell BK160.out 7).trans rfl
                                            have hcz36_8 : wr.cell? ⟨gb160, 8, none⟩ = some (.slice A0_8 l0_8.length c0_8) := (blk_cell BK160.out 8).trans rfl
                                            have hfz36_0 := blk_frozen BK160.out 0
                                            have hfz36_1 := blk_frozen BK160.out 1
                                            have hfz36_2 := blk_frozen BK160.out 2
                                            have hfz36_3 := blk_frozen BK160.out 3
                                            have hfz36_4 := blk_frozen BK160.out 4
                                            have hfz36_5 := blk_frozen BK160.out 5
                                            have hfz36_6 := blk_frozen BK160.out 6
                                            have hfz36_7 := blk_frozen BK160.out 7
                                            have hfz36_8 := blk_frozen BK160.out 8
                                            have p164 : 0 ≤ (x5_4 : Int) := of_decide_eq_true (by first | (with_reducible assumption) | assumption)
                                            have q164 : x5_4 < (l0_7.length : Int) := of_decide_eq_true (by first | (with_reducible assumption) | assumption)
                                            obtain ⟨ad164, A164_0, c164_0, e164, hx164_0, hl164_0, hi164_0⟩ := at_L7 HR0_7.out x5_4 p164 q164
                                            obtain rfl : ad163 = ad164 := (by injection e164)
                                            replace hx164_0 := (HB.out.cell (World.block_lt_of_cell? w _ hx164_0)).trans hx164_0
                                            have HR164_0 := Aside0.mk hi164_0
                                            have HC164_0 := Aside0.mk hl164_0
                                            clear hi164_0 hl164_0
                                            replace p164 := eq_true p164
                                            replace q164 := eq_true q164
                                            have p165 : 0 ≤ (x5_4 : Int) := of_decide_eq_true (by first | (with_reducible assumption) | assumption)
                                            have q165 : x5_4 < (l0_7.length : Int) := of_decide_eq_true (by first | (with_reducible assumption) | assumption)
                                            obtain ⟨ad165, A165_0, c165_0, e165, hx165_0, hl165_0, hi165_0⟩ := at_L7 HR0_7.out x5_4 p165 q165
                                            obtain rfl : ad163 = ad165 := (by injection e165)
                                            replace hx165_0 := (HB.out.cell (World.block_lt_of_cell? w _ hx165_0)).trans hx165_0
                                            have HR165_0 := Aside0.mk hi165_0
                                            have HC165_0 := Aside0.mk hl165_0
                                            clear hi165_0 hl165_0
                                            replace p165 := eq_true p165
                                            replace q165 := eq_true q165
                                            have ea_ := Option.some.inj (hx164_0.symm.trans hx165_0)
                                            injection ea_ with ea_ en_ ec_
                                            subst ea_
                                            subst ec_
                                            clear en_
                                            have p166 : 0 ≤ (x6_5 : Int) := of_decide_eq_true (by first | (with_reducible assumption) | assumption)
                                            have q166 : x6_5 < ((rd_L7 l0_7 x5_4).length : Int) := of_decide_eq_true (by first | (with_reducible assumption) | assumption)
                                            obtain ⟨ad166, A166_4, c166_4, e166, hx166_0, hx166_1, hx166_2, hx166_3, hx166_4, hl166_4, hi166_4⟩ := at_T38 HR165_0.out x6_5 p166 q166
                                            cases e166
                                            replace hx166_0 := (HB.out.cell (World.block_lt_of_cell? w _ hx166_0)).trans hx166_0
                                            replace hx166_1 := (HB.out.cell (World.block_lt_of_cell? w _ hx166_1)).trans hx166_1
                                            replace hx166_2 := (HB.out.cell (World.block_lt_of_cell? w _ hx166_2)).trans hx166_2
                                            replace hx166_3 := (HB.out.cell (World.block_lt_of_cell? w _ hx166_3)).trans hx166_3
                                            replace hx166_4 := (HB.out.cell (World.block_lt_of_cell? w _ hx166_4)).trans hx166_4
                                            have HR166_4 := Aside0.mk hi166_4
                                            have HC166_4 := Aside0.mk hl166_4
                                            clear hi166_4 hl166_4
                                            replace p166 := eq_true p166
                                            replace q166 := eq_true q166
                                            go_wp2
                                            go_ret
                                            exact ⟨by first | rfl | (simp [errW_none, errW_some] <;> rfl) | (simp [*, errW_none, errW_some] <;> rfl), by repeat (first | (with_reducible first | exact HB.out | apply below_alloc | apply pw_below_drewN | apply below_drew1 | refine below_set ?_ GE160.out) | exact HB.out)⟩
                                          · rw [if_neg c35] at H
                                            have c35b0 : decide (100 < (((rd_T38 (rd_L7 l0_7 x5_4) x6_5).f4).length : Int)) = false := decide_eq_false c35
                                            have c35b1 : decide (100 < ((rd_T38 (rd_L7 l0_7 x5_4) x6_5).f4).length) = false := decide_eq_false (by omega)
                                            clear c35
                                            have H' := Aside0.mk H
                                            clear H
                                            have hcz37_0 : wr.cell? ⟨gb160, 0, none⟩ = some (.int .i64 a0_0) := (blk_cell BK160.out 0).trans rfl
                                            have hcz37_1 : wr.cell? ⟨gb160, 1, none⟩ = some (.int .u8 a0_1) := (blk_cell BK160.out 1).trans rfl
                                            have hcz37_2 : wr.cell? ⟨gb160, 2, none⟩ = some (.int .u8 a0_2) := (blk_cell BK160.out 2).trans rfl
                                            have hcz37_3 : wr.cell? ⟨gb160, 3, none⟩ = some (.int .i64 a0_3) := (blk_cell BK160.out 3).trans rfl
                                            have hcz37_4 : wr.cell? ⟨gb160, 4, none⟩ = some (.slice A0_4 l0_4.length c0_4) := (blk_cell BK160.out 4).trans rfl
                                            have hcz37_5 : wr.cell? ⟨gb160, 5, none⟩ = some (.slice A0_5 l0_5.length c0_5) := (blk_cell BK160.out 5).trans rfl
                                            have hcz37_6 : wr.cell? ⟨gb160, 6, none⟩ = some (.slice A0_6 l0_6.length c0_6) := (blk_cell BK160.out 6).trans rfl
                                            have hcz37_7 : wr.cell? ⟨gb160, 7, none⟩ = some (.slice (some ad163) l0_7.length c0_7) := (blk_cell BK160.out 7).trans rfl
                                            have hcz37_8 : wr.cell? ⟨gb160, 8, none⟩ = some (.slice A0_8 l0_8.length c0_8) := (blk_cell BK160.out 8).trans rfl
                                            have hfz37_0 := blk_frozen BK160.out 0
                                            have hfz37_1 := blk_frozen BK160.out 1
                                            have hfz37_2 := blk_frozen BK160.out 2
                                            have hfz37_3 := blk_frozen BK160.out 3
                                            have hfz37_4 := blk_frozen BK160.out 4
                                            have hfz37_5 := blk_frozen BK160.out 5
                                            have hfz37_6 := blk_frozen BK160.out 6
                                            have hfz37_7 := blk_frozen BK160.out 7
                                            have hfz37_8 := blk_frozen BK160.out 8
                                            have p164 : 0 ≤ (x5_4 : Int) := of_decide_eq_true (by first | (with_reducible assumption) | assumption)
                                            have q164 : x5_4 < (l0_7.length : Int) := of_decide_eq_true (by first | (with_reducible assumption) | assumption)
                                            obtain ⟨ad164, A164_0, c164_0, e164, hx164_0, hl164_0, hi164_0⟩ := at_L7 HR0_7.out x5_4 p164 q164
                                            obtain rfl : ad163 = ad164 := (by injection e164)
                                            replace hx164_0 := (HB.out.cell (World.block_lt_of_cell? w _ hx164_0)).trans hx164_0
                                            have HR164_0 := Aside0.mk hi164_0
                                            have HC164_0 := Aside0.mk hl164_0
                                            clear hi164_0 hl164_0
                                            replace p164 := eq_true p164
                                            replace q164 := eq_true q164
                                            have p165 : 0 ≤ (x5_4 : Int) := of_decide_eq_true (by first | (with_reducible assumption) | assumption)
                                            have q165 : x5_4 < (l0_7.length : Int) := of_decide_eq_true (by first | (with_reducible assumption) | assumption)
                                            obtain ⟨ad165, A165_0, c165_0, e165, hx165_0, hl165_0, hi165_0⟩ := at_L7 HR0_7.out x5_4 p165 q165
                                            obtain rfl : ad163 = ad165 := (by injection e165)
                                            replace hx165_0 := (HB.out.cell (World.block_lt_of_cell? w _ hx165_0)).trans hx165_0
                                            have HR165_0 := Aside0.mk hi165_0
                                            have HC165_0 := Aside0.mk hl165_0
                                            clear hi165_0 hl165_0
                                            replace p165 := eq_true p165
                                            replace q165 := eq_true q165
                                            have ea_ := Option.some.inj (hx164_0.symm.trans hx165_0)
                                            injection ea_ with ea_ en_ ec_
                                            subst ea_
                                            subst ec_
                                            clear en_
                                            have p166 : 0 ≤ (x6_5 : Int) := of_decide_eq_true (by first | (with_reducible assumption) | assumption)
                                            have q166 : x6_5 < ((rd_L7 l0_7 x5_4).length : Int) := of_decide_eq_true (by first | (with_reducible assumption) | assumption)
                                            obtain ⟨ad166, A166_4, c166_4, e166, hx166_0, hx166_1, hx166_2, hx166_3, hx166_4, hl166_4, hi166_4⟩ := at_T38 HR165_0.out x6_5 p166 q166
                                            cases e166
                                            replace hx166_0 := (HB.out.cell (World.block_lt_of_cell? w _ hx166_0)).trans hx166_0
                                            replace hx166_1 := (HB.out.cell (World.block_lt_of_cell? w _ hx166_1)).trans hx166_1
                                            replace hx166_2 := (HB.out.cell (World.block_lt_of_cell? w _ hx166_2)).trans hx166_2
                                            replace hx166_3 := (HB.out.cell (World.block_lt_of_cell? w _ hx166_3)).trans hx166_3
                                            replace hx166_4 := (HB.out.cell (World.block_lt_of_cell? w _ hx166_4)).trans hx166_4
                                            have HR166_4 := Aside0.mk hi166_4
                                            have HC166_4 := Aside0.mk hl166_4
                                            clear hi166_4 hl166_4
                                            replace p166 := eq_true p166
                                            replace q166 := eq_true q166
                                            go_wp2
                                            go_roundg k5
                                            case measure => have := HJ1.out; have := HK2.out; have := HK3.out; have := HK4.out; have := HK5.out; omega
                                            case rel => exact ⟨(wrap64 (x6_5 + 1)), (by first | rfl | (simp; done) | (simp [*]; done)), H', ⟨by have := HJ1.out; have := HK2.out; have := HK3.out; have := HK4.out; have := HK5.out; omega⟩, ⟨by (with_reducible repeat (first | refine blk_drewN ?_ _ | refine blk_drew ?_ | refine blk_alloc ?_ _)); exact BK160.out⟩, ⟨by repeat (first | (with_reducible first | exact HB.out | apply below_alloc | apply pw_below_drewN | apply below_drew1 | refine below_set ?_ GE160.out) | exact HB.out)⟩⟩
                                        · rw [if_neg c34] at H
                                          exact absurd H (by simp)
                                      · rw [if_neg c33] at H
                                        have c33b0 : decide (x6_5 < ((rd_L7 l0_7 x5_4).length : Int)) = false := decide_eq_false c33
                                        clear c33
                                        have H' := Aside0.mk H
                                        clear H
                                        have hcz38_0 : wr.cell? ⟨gb160, 0, none⟩ = some (.int .i64 a0_0) := (blk_cell BK160.out 0).trans rfl
                                        have hcz38_1 : wr.cell? ⟨gb160, 1, none⟩ = some (.int .u8 a0_1) := (blk_cell BK160.out 1).trans rfl
                                        have hcz38_2 : wr.cell? ⟨gb160, 2, none⟩ = some (.int .u8 a0_2) := (blk_cell BK160.out 2).trans rfl
                                        have hcz38_3 : wr.cell? ⟨gb160, 3, none⟩ = some (.int .i64 a0_3) := (blk_cell BK160.out 3).trans rfl
                                        have hcz38_4 : wr.cell? ⟨gb160, 4, none⟩ = some (.slice A0_4 l0_4.length c0_4) := (blk_cell BK160.out 4).trans rfl
                                        have hcz38_5 : wr.cell? ⟨gb160, 5, none⟩ = some (.slice A0_5 l0_5.length c0_5) := (blk_cell BK160.out 5).trans rfl
                                        have hcz38_6 : wr.cell? ⟨gb160, 6, none⟩ = some (.slice A0_6 l0_6.length c0_6) := (blk_cell BK160.out 6).trans rfl
                                        have hcz38_7 : wr.cell? ⟨gb160, 7, none⟩ = some (.slice (some ad163) l0_7.length c0_7) := (blk_cell BK160.out 7).trans rfl
                                        have hcz38_8 : wr.cell? ⟨gb160, 8, none⟩ = some (.slice A0_8 l0_8.length c0_8) := (blk_cell BK160.out 8).trans rfl
                                        have hfz38_0 := blk_frozen BK160.out 0
                                        have hfz38_1 := blk_frozen BK160.out 1
                                        have hfz38_2 := blk_frozen BK160.out 2
                                        have hfz38_3 := blk_frozen BK160.out 3
                                        have hfz38_4 := blk_frozen BK160.out 4
                                        have hfz38_5 := blk_frozen BK160.out 5
                                        have hfz38_6 := blk_frozen BK160.out 6
                                        have hfz38_7 := blk_frozen BK160.out 7
                                        have hfz38_8 := blk_frozen BK160.out 8
                                        have p164 : 0 ≤ (x5_4 : Int) := of_decide_eq_true (by first | (with_reducible assumption) | assumption)
                                        have q164 : x5_4 < (l0_7.length : Int) := of_decide_eq_true (by first | (with_reducible assumption) | assumption)
                                        obtain ⟨ad164, A164_0, c164_0, e164, hx164_0, hl164_0, hi164_0⟩ := at_L7 HR0_7.out x5_4 p164 q164
                                        obtain rfl : ad163 = ad164 := (by injection e164)
                                        replace hx164_0 := (HB.out.cell (World.block_lt_of_cell? w _ hx164_0)).trans hx164_0
                                        have HR164_0 := Aside0.mk hi164_0
                                        have HC164_0 := Aside0.mk hl164_0
                                        clear hi164_0 hl164_0
                                        replace p164 := eq_true p164
                                        replace q164 := eq_true q164
                                        go_wp2
                                        go_roundg k5
                                        case measure => have := HJ1.out; have := HK2.out; have := HK3.out; have := HK4.out; have := HK5.out; omega
                                        case rel => exact ⟨(wrap64 (x5_4 + 1)), (by first | rfl | (simp; done) | (simp [*]; done)), H', ⟨by have := HJ1.out; have := HK2.out; have := HK3.out; have := HK4.out; have := HK5.out; omega⟩, ⟨by (with_reducible repeat (first | refine blk_drewN ?_ _ | refine blk_drew ?_ | refine blk_alloc ?_ _)); exact BK160.out⟩, ⟨by repeat (first | (with_reducible first | exact HB.out | apply below_alloc | apply pw_below_drewN | apply below_drew1 | refine below_set ?_ GE160.out) | exact HB.out)⟩⟩
                                    · rw [if_neg c32] at H
                                      exact absurd H (by simp)
                                  · rw [if_neg c31] at H
                                    exact absurd H (by simp)
                          · rw [if_neg c27] at H
                            exact absurd H (by simp)
                        · rw [if_neg c26] at H
                          have c26b0 : decide (x5_4 < (l0_7.length : Int)) = false := decide_eq_false c26
                          clear c26
                          obtain rfl := Option.some.inj H
                          have hcz39_0 : wr.cell? ⟨gb160, 0, none⟩ = some (.int .i64 a0_0) := (blk_cell BK160.out 0).trans rfl
                          have hcz39_1 : wr.cell? ⟨gb160, 1, none⟩ = some (.int .u8 a0_1) := (blk_cell BK160.out 1).trans rfl
                          have hcz39_2 : wr.cell? ⟨gb160, 2, none⟩ = some (.int .u8 a0_2) := (blk_cell BK160.out 2).trans rfl
                          have hcz39_3 : wr.cell? ⟨gb160, 3, none⟩ = some (.int .i64 a0_3) := (blk_cell BK160.out 3).trans rfl
                          have hcz39_4 : wr.cell? ⟨gb160, 4, none⟩ = some (.slice A0_4 l0_4.length c0_4) := (blk_cell BK160.out 4).trans rfl
                          have hcz39_5 : wr.cell? ⟨gb160, 5, none⟩ = some (.slice A0_5 l0_5.length c0_5) := (blk_cell BK160.out 5).trans rfl
                          have hcz39_6 : wr.cell? ⟨gb160, 6, none⟩ = some (.slice A0_6 l0_6.length c0_6) := (blk_cell BK160.out 6).trans rfl
                          have hcz39_7 : wr.cell? ⟨gb160, 7, none⟩ = some (.slice A0_7 l0_7.length c0_7) := (blk_cell BK160.out 7).trans rfl
                          have hcz39_8 : wr.cell? ⟨gb160, 8, none⟩ = some (.slice A0_8 l0_8.length c0_8) := (blk_cell BK160.out 8).trans rfl
                          have hfz39_0 := blk_frozen BK160.out 0
                          have hfz39_1 := blk_frozen BK160.out 1
                          have hfz39_2 := blk_frozen BK160.out 2
                          have hfz39_3 := blk_frozen BK160.out 3
                          have hfz39_4 := blk_frozen BK160.out 4
                          have hfz39_5 := blk_frozen BK160.out 5
                          have hfz39_6 := blk_frozen BK160.out 6
                          have hfz39_7 := blk_frozen BK160.out 7
                          have hfz39_8 := blk_frozen BK160.out 8
                          go_wp2
                          go_ret
                          exact ⟨by first | rfl | (simp [errW_none, errW_some] <;> rfl) | (simp [*, errW_none, errW_some] <;> rfl), by repeat (first | (with_reducible first | exact HB.out | apply below_alloc | apply pw_below_drewN | apply below_drew1 | refine below_set ?_ GE160.out) | exact HB.out)⟩

end Go.Proofs.Ytdhcgfdnhlhapaa.K
end
section
-- Written for this claim by this session's own wip/hook.py (it runs the kit's print and takes some functions' contracts as given texts of this session's).
namespace Go.Proofs.Ytdhcgfdnhlhapaa.K
open Go.RowKit Go.Proofs.YtdhcgfdnhlhapaaW.PrintWords Go.Proofs.YtdhcgfdnhlhapaaW.PrintLast Go.Proofs.YtdhcgfdnhlhapaaW.PrintMore
attribute [local go_sem] max2_int min2_int max_two min_two max_three min_three max_four min_four   -- for this text's walks alone
set_option linter.unusedVariables false
set_option linter.unusedSimpArgs false

/-! ### reedpiperef21_Great: function 8 -/
def reedpiperef21_Great.f (k : Nat) (l0 : List (List (S38))) : Option (Bool) := (reedpiperef18_Great.f k 0 0 0 0 ([] : List Int) ([] : List (List (S97))) ([] : List (List Int)) l0 ([] : List Int)).bind fun t167 => (some t167)
theorem reedpiperef21_Great.mono : ∀ a0 k, LeO (reedpiperef21_Great.f k a0) (reedpiperef21_Great.f (k + 1) a0) := by
  intro a0 k
  unfold reedpiperef21_Great.f
  repeat' first
      | (with_reducible exact reedpiperef18_Great.mono _ _ _ _ _ _ _ _ _ _)
      | (with_reducible exact LeO.refl _)
      | (with_reducible exact LeO.none _)
      | (with_reducible refine LeO.ite ?_ ?_)
      | (with_reducible refine LeO.bind ?_ (fun _ => ?_))
      | exact reedpiperef18_Great.mono _ _ _ _ _ _ _ _ _ _
      | exact LeO.none _
      | refine LeO.ite ?_ ?_
      | refine LeO.bind ?_ (fun _ => ?_)
set_option maxHeartbeats 8000000 in
set_option maxRecDepth 100000 in
theorem reedpiperef21_Great.calls (k : Nat) (A0 : Option Addr) (c0 : Nat) (l0 : List (List (S38))) (r : Bool) (w : World) (hr0 : Kd.C (Kd.slice 38 k38) w A0 l0.length l0) (hc0 : l0.length ≤ c0) (h : reedpiperef21_Great.f k l0 = some r) :
    Calls Try.prog 8 #[.slice A0 l0.length c0] w fun e w' => e = .returned (.bool r) ∧ Below w.heap.size w w' := by
  have hu49 := Try.underlying49
  have HR0 := Aside0.mk hr0
  have HC0 := Aside0.mk hc0
  clear hr0 hc0
  have HB := Aside0.mk (Below.refl w.heap.size w)
  have H : ((reedpiperef18_Great.f k 0 0 0 0 ([] : List Int) ([] : List (List (S97))) ([] : List (List Int)) l0 ([] : List Int)).bind fun t167 => (some t167)) = some r := h
  clear h
  replace H := Option.bind_eq_some_iff.mp H
  obtain ⟨t167, A20, H⟩ := H
  replace H : (some t167) = some r := H
  have A2 := Aside0.mk A20
  clear A20
  obtain rfl := Option.some.inj H
  go_enter Try.func8, Try.ntmps8
  go_wp2_with (first | ((with_reducible refine gate_callee (f := 15) rfl ?_); refine goesL_ (some 5) rfl rfl Try.func15 (by kernel_rfl) rfl #[.agg #[.int .i64 0, .int .u8 0, .int .u8 0, .int .i64 0, .slice none 0 0, .slice none 0 0, .slice none 0 0, .slice A0 l0.length c0, .slice none 0 0]] rfl (by (try simp only [List.map_toArray, List.map_cons, List.map_nil]); first | done | rfl | (simp only [List.length_drop, List.length_take]; rfl)) ?_; (refine (reedpiperef18_Great.calls k 0 0 0 0 _ _ ([] : List Int) _ _ ([] : List (List (S97))) _ _ ([] : List (List Int)) _ _ l0 _ _ ([] : List Int) t167 _ ?side1 ?side2 ?side3 ?side4 ?side5 ?side6 ?side7 ?side8 ?side9 ?side10 A2.out).mono ?_); (case side1 => exact Kd.C_nil _ _); (case side2 => exact Nat.le_refl _); (case side3 => exact Kd.C_nil _ _); (case side4 => exact Nat.le_refl _); (case side5 => exact Kd.C_nil _ _); (case side6 => exact Nat.le_refl _); (case side7 => repeat (first | exact HR0.out | (with_reducible refine Kd.C_alloc ?_ _) | (with_reducible refine Kd.C_drewN ?_ _) | (with_reducible refine Kd.C_drew ?_))); (case side8 => exact HC0.out); (case side9 => exact Kd.C_nil _ _); (case side10 => exact Nat.le_refl _); rintro e w3 ⟨rfl, hb⟩; refine ⟨_, rfl, ?_⟩; have n0_ := Aside0.mk (below_step (by repeat (first | (with_reducible first | exact HB.out | apply below_alloc | apply pw_below_drewN | apply below_drew1) | exact HB.out)) hb); clear HB; have HB := n0_; clear n0_; (try clear hb); (try clear hb2); (try clear hk); (try clear hi)))
  go_ret
  exact ⟨by first | rfl | (simp [errW_none, errW_some] <;> rfl) | (simp [*, errW_none, errW_some] <;> rfl), by repeat (first | (with_reducible first | exact HB.out | apply below_alloc | apply pw_below_drewN | apply below_drew1) | exact HB.out)⟩

end Go.Proofs.Ytdhcgfdnhlhapaa.K
end
section
-- Written for this claim by this session's own wip/hook.py (it runs the kit's print and takes some functions' contracts as given texts of this session's).
namespace Go.Proofs.Ytdhcgfdnhlhapaa.K
open Go.RowKit Go.Proofs.YtdhcgfdnhlhapaaW.PrintWords Go.Proofs.YtdhcgfdnhlhapaaW.PrintLast Go.Proofs.YtdhcgfdnhlhapaaW.PrintMore
attribute [local go_sem] max2_int min2_int max_two min_two max_three min_three max_four min_four   -- for this text's walks alone
set_option linter.unusedVariables false
set_option linter.unusedSimpArgs false

/-! ### tnsbits_Check: function 10: GIVEN BY HAND -/
-- IMPORT Derived.Test.YtdhcgfdnhlhapaaHS3

def tnsbits_Check.f (a0_0 : Int) (a0_1 : Int) (a0_2 : Int) (l0_3 : List Int) (l1 : List (List (S38))) : Option (Int) := if l0_3.length ≤ 17592186044416 then some (if HS.tnsOk a0_0 a0_1 a0_2 l0_3 l1 = true then 0 else 8) else none
set_option maxHeartbeats 8000000 in
set_option maxRecDepth 100000 in
theorem tnsbits_Check.calls (a0_0 : Int) (a0_1 : Int) (a0_2 : Int) (A0_3 : Option Addr) (c0_3 : Nat) (l0_3 : List Int) (A1 : Option Addr) (c1 : Nat) (l1 : List (List (S38))) (r : Int) (w : World) (hr0_3 : Kd.C (Kd.int .i64) w A0_3 l0_3.length l0_3) (hc0_3 : l0_3.length ≤ c0_3) (hr1 : Kd.C (Kd.slice 38 k38) w A1 l1.length l1) (hc1 : l1.length ≤ c1) (h : tnsbits_Check.f a0_0 a0_1 a0_2 l0_3 l1 = some r) :
    Calls Try.prog 10 #[.agg #[.int .u8 a0_0, .int .u8 a0_1, .int .i64 a0_2, .slice A0_3 l0_3.length c0_3], .slice A1 l1.length c1] w fun e w' => e = .returned (.int .i64 r) ∧ Below w.heap.size w w' := by
  unfold tnsbits_Check.f at h
  by_cases hb : l0_3.length ≤ 17592186044416
  case neg => rw [if_neg hb] at h; cases h
  rw [if_pos hb] at h
  obtain rfl := Option.some.inj h
  exact HS.check_calls a0_0 a0_1 a0_2 A0_3 c0_3 l0_3 A1 c1 l1 w hb hr0_3 hc0_3 hr1

end Go.Proofs.Ytdhcgfdnhlhapaa.K
end
section
/- bits.Get without rounds: the number of some bits; what was put is got. -/
namespace Go.Proofs.Ytdhcgfdnhlhapaa.SG
open Go.RowKit Go.Proofs.YtdhcgfdnhlhapaaW.PrintWords Go.Proofs.YtdhcgfdnhlhapaaW.PrintLast Go.Proofs.YtdhcgfdnhlhapaaW.PrintMore Go.Proofs.Ytdhcgfdnhlhapaa.HA Go.Proofs.Ytdhcgfdnhlhapaa.HP Go.Proofs.Ytdhcgfdnhlhapaa.K
set_option linter.unusedVariables false

theorem or_bit (n b : Int) (h0 : 0 ≤ n) (h1 : n ≤ 4611686018427387903) (hb0 : 0 ≤ b) (hb : b ≤ 1) : Go.bits .or .i64 (n * 2) b = n * 2 + b := by
  obtain ⟨a, rfl⟩ := Int.eq_ofNat_of_zero_le h0
  obtain ⟨c, rfl⟩ := Int.eq_ofNat_of_zero_le hb0
  have e1 : (BitVec.ofInt 64 ((a : Int) * 2)).toNat = 2 * a := by
    rw [show (a : Int) * 2 = ((2 * a : Nat) : Int) by omega, BitVec.ofInt_natCast, BitVec.toNat_ofNat]; exact Nat.mod_eq_of_lt (by omega)
  have e2 : (BitVec.ofInt 64 (c : Int)).toNat = c := by
    rw [BitVec.ofInt_natCast, BitVec.toNat_ofNat]; exact Nat.mod_eq_of_lt (by omega)
  show IntKind.i64.wrap ((BitVec.ofInt 64 ((a : Int) * 2) ||| BitVec.ofInt 64 (c : Int)).toNat : Int) = _
  have e3 := Nat.two_pow_add_eq_or_of_lt (i := 1) (b := c) (by omega) a
  rw [BitVec.toNat_or, e1, e2, show 2 * a = 2 ^ 1 * a from rfl, ← e3, IntKind.wrap_i64]
  omega

/-- The number whose bits stand behind n's. -/
def numFrom (n : Int) : List Int → Int
  | [] => n
  | x :: l => numFrom (n * 2 + x) l
def numOf (l : List Int) : Int := numFrom 0 l
def bitsOk (l : List Int) : Bool := l.all (fun x => decide (x ≤ 1))
theorem get_l0 (b : List Int) (hb : ∀ y ∈ b, 0 ≤ y ∧ y ≤ 255) (p size : Nat) (hs : size ≤ 31) (hl : p + size ≤ b.length) (hbl : b.length ≤ 4611686018427387904) : ∀ (d k i : Nat) (n : Int), size - i = d → i ≤ size → d < k → 0 ≤ n → n < 2 ^ i →
    bits_Get.l0 k b (p : Int) (size : Int) n (size : Int) (i : Int) = some (if bitsOk ((b.drop (p + i)).take d) = true then (numFrom n ((b.drop (p + i)).take d), ((p + size : Nat) : Int), 0) else (0, 0, 8)) := by
  intro d
  induction d with
  | zero =>
    intro k i n hd hi hk h0 h1
    obtain ⟨k, rfl⟩ : ∃ m, k = m + 1 := ⟨k - 1, by omega⟩
    simp only [bits_Get.l0]
    rw [if_neg (by omega), wrap_id _ (by omega) (by omega)]
    simp [bitsOk, numFrom]
  | succ d ih =>
    intro k i n hd hi hk h0 h1
    obtain ⟨k, rfl⟩ : ∃ m, k = m + 1 := ⟨k - 1, by omega⟩
    simp only [bits_Get.l0]
    have hw : wrap64 ((p : Int) + (i : Int)) = ((p + i : Nat) : Int) := by rw [wrap_id _ (by omega) (by omega)]; omega
    rw [hw, if_pos (by omega), if_pos (by omega), if_pos (by omega), drop_at b (p + i) (by omega), List.take_succ_cons]
    have hr : 0 ≤ rd b ((p + i : Nat) : Int) ∧ rd b ((p + i : Nat) : Int) ≤ 255 := by rw [rd_at b (p + i) (by omega)]; exact hb _ (List.getElem_mem _)
    have h31 : (2 : Int) ^ i ≤ 2147483648 := by
      have h31 : (2 : Int) ^ i ≤ 2 ^ 31 := by exact_mod_cast Nat.pow_le_pow_right (by omega) (show i ≤ 31 by omega)
      simpa using h31
    by_cases hx : rd b ((p + i : Nat) : Int) > 1
    · rw [if_pos hx, if_neg]
      simp only [bitsOk, List.all_cons, Bool.and_eq_true, decide_eq_true_eq]
      intro h
      omega
    · rw [if_neg hx, wrap_id (n * 2) (by omega) (by omega), wrap_id (rd b ((p + i : Nat) : Int)) (by omega) (by omega), or_bit n _ h0 (by omega) hr.1 (by omega), wrap_succ i (by omega)]
      rw [ih k (i + 1) (n * 2 + rd b ((p + i : Nat) : Int)) (by omega) (by omega) (by omega) (by omega) (by rw [Int.pow_succ]; omega)]
      rw [show p + (i + 1) = p + i + 1 by omega]
      have e1 : decide (rd b ((p + i : Nat) : Int) ≤ 1) = true := decide_eq_true (by omega)
      simp only [bitsOk, List.all_cons, e1, Bool.true_and, numFrom]
      rfl
def getS (b : List Int) (p size : Int) : Int × Int × Int :=
  if size < 0 ∨ size > 31 ∨ p < 0 ∨ p > b.length then (0, 0, 2) else if (b.length : Int) - p < size then (0, 0, 5)
  else if bitsOk ((b.drop p.toNat).take size.toNat) = true then (numOf ((b.drop p.toNat).take size.toNat), p + size, 0) else (0, 0, 8)
theorem get_f (b : List Int) (hb : ∀ y ∈ b, 0 ≤ y ∧ y ≤ 255) (hbl : b.length ≤ 4611686018427387904) (p size : Int) (k : Nat) (hk : 40 < k) : bits_Get.f k b p size = some (getS b p size) := by
  unfold bits_Get.f getS
  obtain ⟨k, rfl⟩ : ∃ m, k = m + 1 := ⟨k - 1, by omega⟩
  have hz : bits_sized.f size = some (decide (0 ≤ size ∧ size ≤ 31)) := by
    unfold bits_sized.f
    by_cases h0 : size ≥ 0
    · rw [if_pos h0]
      simp [h0]
    · rw [if_neg h0]
      simp
      omega
  rw [hz]
  simp only [Option.bind_some, decide_eq_true_eq]
  by_cases h1 : 0 ≤ size ∧ size ≤ 31
  · rw [if_pos h1]
    by_cases h2 : p < 0
    · rw [if_pos h2, if_pos (Or.inr (Or.inr (Or.inl h2)))]
      simp only [bits_Get.j0, if_true]
    · rw [if_neg h2]
      by_cases h3 : p > b.length
      · rw [decide_eq_true h3, if_pos (Or.inr (Or.inr (Or.inr h3)))]
        simp only [bits_Get.j0, if_true]
      · rw [decide_eq_false h3, if_neg (by omega)]
        simp only [bits_Get.j0, Bool.false_eq_true, if_false]
        rw [wrap_id _ (by omega) (by omega)]
        by_cases h4 : (b.length : Int) - p < size
        · rw [if_pos h4, if_pos h4]
        · rw [if_neg h4, if_neg h4]
          obtain ⟨q, rfl⟩ := Int.eq_ofNat_of_zero_le (show 0 ≤ p by omega)
          obtain ⟨s, rfl⟩ := Int.eq_ofNat_of_zero_le h1.1
          have := get_l0 b hb q s (by omega) (by omega) hbl s k 0 0 (by omega) (by omega) (by omega) (by omega) (by decide)
          simp only [Nat.add_zero] at this
          rw [show ((0 : Nat) : Int) = 0 from rfl] at this
          rw [this]
          simp only [Int.toNat_natCast, numOf]
          rw [Int.natCast_add]
  · rw [if_neg h1, if_pos (by omega)]
    simp only [bits_Get.j0, if_true]

/-! ### numbers and their bits -/
theorem numFrom_append (n : Int) (l r : List Int) : numFrom n (l ++ r) = numFrom (numFrom n l) r := by
  induction l generalizing n with
  | nil => rfl
  | cons x l ih => exact ih _
theorem numFrom_bounds (l : List Int) (h : ∀ x ∈ l, 0 ≤ x ∧ x ≤ 1) : ∀ n : Int, 0 ≤ n → n * 2 ^ l.length ≤ numFrom n l ∧ numFrom n l < (n + 1) * 2 ^ l.length := by
  induction l with
  | nil => intro n h0; simp [numFrom]; omega
  | cons x l ih =>
    intro n h0
    have hx := h x List.mem_cons_self
    obtain ⟨i1, i2⟩ := ih (fun y hy => h y (List.mem_cons_of_mem _ hy)) (n * 2 + x) (by omega)
    have hp : (0 : Int) < 2 ^ l.length := Int.pow_pos (by omega)
    simp only [numFrom, List.length_cons, Int.pow_succ]
    constructor
    · refine Int.le_trans ?_ i1
      have : n * (2 ^ l.length * 2) = (n * 2) * 2 ^ l.length := by rw [Int.mul_comm (2 ^ l.length) 2, ← Int.mul_assoc]
      rw [this]
      exact Int.mul_le_mul_of_nonneg_right (by omega) (by omega)
    · refine Int.lt_of_lt_of_le i2 ?_
      have : (n + 1) * (2 ^ l.length * 2) = ((n + 1) * 2) * 2 ^ l.length := by rw [Int.mul_comm (2 ^ l.length) 2, ← Int.mul_assoc]
      rw [this]
      exact Int.mul_le_mul_of_nonneg_right (by omega) (by omega)
theorem numOf_bounds (l : List Int) (h : ∀ x ∈ l, 0 ≤ x ∧ x ≤ 1) : 0 ≤ numOf l ∧ numOf l < 2 ^ l.length := by
  have := numFrom_bounds l h 0 (by omega)
  unfold numOf
  omega
theorem bitsOf_succ (n : Int) (s : Nat) : bitsOf n (s + 1) = bitsOf (n / 2) s ++ [n % 2] := by
  unfold bitsOf
  rw [upto_succ]
  congr 1
  · unfold upto
    apply List.map_congr_left
    intro j hj
    have hj : j < s := List.mem_range.1 hj
    unfold bitAt
    rw [show s + 1 - 1 - j = (s - 1 - j) + 1 by omega, Int.pow_succ, Int.mul_comm, Int.ediv_ediv_of_nonneg (by omega : (0:Int) ≤ 2)]
  · unfold bitAt
    simp
theorem numOf_bitsOf (s : Nat) : ∀ n : Int, 0 ≤ n → n < 2 ^ s → numOf (bitsOf n s) = n := by
  induction s with
  | zero =>
    intro n h0 h1
    simp at h1
    obtain rfl : n = 0 := by omega
    rfl
  | succ s ih =>
    intro n h0 h1
    rw [Int.pow_succ] at h1
    have := ih (n / 2) (by omega) (by omega)
    rw [bitsOf_succ]
    unfold numOf at this ⊢
    rw [numFrom_append, this]
    simp only [numFrom]
    omega
theorem bitsOf_numOf (l : List Int) (h : ∀ x ∈ l, 0 ≤ x ∧ x ≤ 1) : bitsOf (numOf l) l.length = l := by
  induction hl : l.length generalizing l with
  | zero =>
    have : l = [] := List.eq_nil_of_length_eq_zero hl
    subst this
    rfl
  | succ s ih =>
    have hne : l ≠ [] := by intro e; subst e; cases hl
    obtain ⟨r, x, rfl⟩ : ∃ r x, l = r ++ [x] := ⟨l.dropLast, l.getLast hne, (List.dropLast_concat_getLast hne).symm⟩
    have hx := h x (by simp)
    have hr : r.length = s := by simpa using hl
    have hi := ih r (fun y hy => h y (by simp [hy])) hr
    rw [bitsOf_succ]
    have e : numOf (r ++ [x]) = numOf r * 2 + x := by
      unfold numOf
      rw [numFrom_append]
      rfl
    rw [e, show (numOf r * 2 + x) / 2 = numOf r by omega, show (numOf r * 2 + x) % 2 = x by omega, hi]
theorem bitsOf_01 (n : Int) (s : Nat) : ∀ x ∈ bitsOf n s, 0 ≤ x ∧ x ≤ 1 := by
  intro x hx
  unfold bitsOf upto at hx
  obtain ⟨j, _, rfl⟩ := List.mem_map.1 hx
  unfold bitAt
  omega
theorem bitsOk_of {l : List Int} (h : ∀ x ∈ l, 0 ≤ x ∧ x ≤ 1) : bitsOk l = true := by
  unfold bitsOk
  rw [List.all_eq_true]
  intro x hx
  exact decide_eq_true (h x hx).2
/-- What was put is got. -/
theorem getS_put (pre post : List Int) (n : Int) (s : Nat) (hs : s ≤ 31) (h0 : 0 ≤ n) (h1 : n < 2 ^ s) : getS (pre ++ bitsOf n s ++ post) (pre.length : Int) (s : Int) = (n, ((pre.length + s : Nat) : Int), 0) := by
  have hl := bitsOf_length n s
  have e : ((pre ++ bitsOf n s ++ post).drop pre.length).take s = bitsOf n s := by
    rw [List.append_assoc, List.drop_left]
    conv => lhs; arg 1; rw [← hl]
    exact List.take_left
  unfold getS
  simp only [Int.toNat_natCast]
  rw [if_neg (by simp only [List.length_append]; omega), if_neg (by simp only [List.length_append]; omega), e, bitsOk_of (bitsOf_01 n s), if_pos rfl, numOf_bitsOf s n h0 h1]
  simp
/-- What is got when all is well: the bits that stand there are the number's. -/
theorem getS_ok {b : List Int} (hb : ∀ y ∈ b, 0 ≤ y ∧ y ≤ 255) {p size n q : Int} (h : getS b p size = (n, q, 0)) : 0 ≤ p ∧ 0 ≤ size ∧ size ≤ 31 ∧ q = p + size ∧ q ≤ b.length ∧ 0 ≤ n ∧ n < 2 ^ size.toNat ∧ (b.drop p.toNat).take size.toNat = bitsOf n size.toNat := by
  unfold getS at h
  split at h
  · simp at h
  · next h1 =>
    split at h
    · simp at h
    · next h2 =>
      split at h
      · next h3 =>
        simp only [Prod.mk.injEq, and_true] at h
        obtain ⟨rfl, rfl⟩ := h
        have h01 : ∀ x ∈ (b.drop p.toNat).take size.toNat, 0 ≤ x ∧ x ≤ 1 := by
          intro x hx
          refine ⟨(hb x (List.mem_of_mem_drop (List.mem_of_mem_take hx))).1, ?_⟩
          unfold bitsOk at h3
          simpa using List.all_eq_true.1 h3 x hx
        have hlen : ((b.drop p.toNat).take size.toNat).length = size.toNat := by
          rw [List.length_take, List.length_drop]
          omega
        have hbd := numOf_bounds _ h01
        have hbo := bitsOf_numOf _ h01
        rw [hlen] at hbd hbo
        exact ⟨by omega, by omega, by omega, rfl, by omega, hbd.1, hbd.2, hbo.symm⟩
      · simp at h
/-- Whatever is got is a number of so many bits. -/
theorem getS_bounds {b : List Int} (hb : ∀ y ∈ b, 0 ≤ y ∧ y ≤ 255) (p : Int) (s : Nat) : 0 ≤ (getS b p s).1 ∧ (getS b p s).1 < 2 ^ s ∧ 0 ≤ (getS b p s).2.1 ∧ (getS b p s).2.1 ≤ b.length ∧ ((getS b p s).2.2 = 0 ∨ (getS b p s).2.2 = 2 ∨ (getS b p s).2.2 = 5 ∨ (getS b p s).2.2 = 8) ∧ ((getS b p s).2.2 ≠ 0 → getS b p s = (0, 0, (getS b p s).2.2)) := by
  have hp : (0 : Int) < 2 ^ s := Int.pow_pos (by omega)
  rcases hg : getS b p s with ⟨n, q, e⟩
  by_cases he : e = 0
  · subst he
    obtain ⟨h1, h2, h3, h4, h5, h6, h7, _⟩ := getS_ok hb hg
    simp only [Int.toNat_natCast] at h7
    exact ⟨h6, h7, by show 0 ≤ q; omega, h5, Or.inl rfl, fun h => absurd rfl h⟩
  · unfold getS at hg
    split at hg
    · simp only [Prod.mk.injEq] at hg
      obtain ⟨rfl, rfl, rfl⟩ := hg
      exact ⟨Int.le_refl _, hp, Int.le_refl _, Int.natCast_nonneg _, by simp, fun _ => rfl⟩
    · split at hg
      · simp only [Prod.mk.injEq] at hg
        obtain ⟨rfl, rfl, rfl⟩ := hg
        exact ⟨Int.le_refl _, hp, Int.le_refl _, Int.natCast_nonneg _, by simp, fun _ => rfl⟩
      · split at hg
        · simp only [Prod.mk.injEq] at hg
          exact absurd hg.2.2.symm he
        · simp only [Prod.mk.injEq] at hg
          obtain ⟨rfl, rfl, rfl⟩ := hg
          exact ⟨Int.le_refl _, hp, Int.le_refl _, Int.natCast_nonneg _, by simp, fun _ => rfl⟩
end Go.Proofs.Ytdhcgfdnhlhapaa.SG
end
section
/- info.Get as a plain function of bits. -/
namespace Go.Proofs.Ytdhcgfdnhlhapaa.SG
open Go.RowKit Go.Proofs.YtdhcgfdnhlhapaaW.PrintWords Go.Proofs.YtdhcgfdnhlhapaaW.PrintLast Go.Proofs.YtdhcgfdnhlhapaaW.PrintMore Go.Proofs.Ytdhcgfdnhlhapaa.HA Go.Proofs.Ytdhcgfdnhlhapaa.HP Go.Proofs.Ytdhcgfdnhlhapaa.K
set_option linter.unusedVariables false

/-- The number of the next bits, where no error has been met; (place, error). -/
def getN (b : List Int) (s : Int × Int) (size : Int) : Int × Int × Int := if s.2 = 0 then getS b s.1 size else (0, s.1, s.2)
/-- Last number of a list one greater. -/
def bump (gs : List Int) : List Int := gs.set (gs.length - 1) (rd gs ((gs.length - 1 : Nat) : Int) + 1)
def grpStep (b : List Int) (st : List Int × Int × Int) : List Int × Int × Int :=
  (if (getN b st.2 1).1 = 1 then bump st.1 else st.1 ++ [1], (getN b st.2 1).2)
def grpN (b : List Int) (s0 : List Int × Int × Int) : Nat → List Int × Int × Int
  | 0 => s0
  | i + 1 => grpStep b (grpN b s0 i)
def getFin (rate odd seq shape max : Int) (st : List Int × Int × Int) : Int × Int × Int × List Int × Int × Int :=
  if st.2.2 ≠ 0 then (0, 0, 0, [], 0, st.2.2) else if odd ≠ 0 ∨ SP.checkS rate seq shape max st.1 ≠ 0 then (0, 0, 0, [], 0, 8) else (seq, shape, max, st.1, st.2.1, 0)
def getInfo (b : List Int) (p rate : Int) : Int × Int × Int × List Int × Int × Int :=
  if rate < 0 ∨ rate > 11 then (0, 0, 0, [], 0, 2) else
  if (getN b (getN b (p, 0) 1).2 2).1 = 2 then
    getFin rate (getN b (p, 0) 1).1 2 (getN b (getN b (getN b (p, 0) 1).2 2).2 1).1 (getN b (getN b (getN b (getN b (p, 0) 1).2 2).2 1).2 4).1
      (grpN b ([1], (getN b (getN b (getN b (getN b (p, 0) 1).2 2).2 1).2 4).2) 7)
  else
    getFin rate (Go.bits .or .i64 (getN b (p, 0) 1).1 (getN b (getN b (getN b (getN b (getN b (p, 0) 1).2 2).2 1).2 6).2 1).1) (getN b (getN b (p, 0) 1).2 2).1 (getN b (getN b (getN b (p, 0) 1).2 2).2 1).1
      (getN b (getN b (getN b (getN b (p, 0) 1).2 2).2 1).2 6).1 ([1], (getN b (getN b (getN b (getN b (getN b (p, 0) 1).2 2).2 1).2 6).2 1).2)
theorem getN_bounds {b : List Int} (hb : ∀ y ∈ b, 0 ≤ y ∧ y ≤ 255) (s : Int × Int) (n : Nat) : 0 ≤ (getN b s n).1 ∧ (getN b s n).1 < 2 ^ n := by
  unfold getN
  split
  · have := getS_bounds hb s.1 n
    exact ⟨this.1, this.2.1⟩
  · exact ⟨Int.le_refl _, Int.pow_pos (by omega)⟩
/-- Groups as they are got: each is from 1 to 1 + the rounds; the list is not empty. -/
def grpOk (i : Nat) (gs : List Int) : Prop := 0 < gs.length ∧ gs.length ≤ 1 + i ∧ ∀ y ∈ gs, 1 ≤ y ∧ y ≤ 1 + i
theorem grpOk_step {b : List Int} {st : List Int × Int × Int} {i : Nat} (h : grpOk i st.1) : grpOk (i + 1) (grpStep b st).1 := by
  obtain ⟨h1, h2, h3⟩ := h
  unfold grpStep
  dsimp only
  split
  · unfold bump
    refine ⟨by rw [List.length_set]; exact h1, by rw [List.length_set]; omega, fun y hy => ?_⟩
    rcases List.mem_or_eq_of_mem_set hy with hy | rfl
    · have := h3 y hy
      omega
    · rw [rd_at _ _ (by omega)]
      have := h3 _ (List.getElem_mem (show st.1.length - 1 < st.1.length by omega))
      omega
  · refine ⟨by simp, by simp; omega, fun y hy => ?_⟩
    rcases List.mem_append.1 hy with hy | hy
    · have := h3 y hy
      omega
    · rw [List.mem_singleton.1 hy]
      omega
theorem grpOk_n (b : List Int) (s : Int × Int) : ∀ i, grpOk i (grpN b ([1], s) i).1
  | 0 => ⟨by simp [grpN], by simp [grpN], fun y hy => by simp [grpN] at hy; omega⟩
  | i + 1 => grpOk_step (grpOk_n b s i)
end Go.Proofs.Ytdhcgfdnhlhapaa.SG
end
section
/- tnsbits.Get's closure: the next bits' number, where no error has been met. And Get as a plain function. -/
namespace Go.Proofs.Ytdhcgfdnhlhapaa.HS
open Go.RowKit Go.Shelf Go.Proofs.YtdhcgfdnhlhapaaW.PrintWords Go.Proofs.YtdhcgfdnhlhapaaW.PrintLast Go.Proofs.YtdhcgfdnhlhapaaW.PrintMore Go.Proofs.Ytdhcgfdnhlhapaa.K
set_option linter.unusedVariables false
set_option linter.unusedSimpArgs false

/-! ### Get as a plain function -/
/-- A number of so many bits, the highest of which is a sign. -/
def sgn (n size : Int) : Int := n - n / 2 ^ (size - 1).toNat * 2 ^ size.toNat
def getCoefs (b : List Int) (size : Int) : Nat → List Int → Int × Int → List Int × Int × Int
  | 0, acc, st => (acc, st)
  | k + 1, acc, st => getCoefs b size k (acc ++ [sgn (SG.getN b st size).1 size]) (SG.getN b st size).2
def getTail (b : List Int) (len order : Int) (fine : Bool) (st : Int × Int) : Filt × Bool × Int × Int :=
  if order = 0 then (⟨len, order, false, fine, []⟩, false, st) else
  let d := SG.getN b st 1
  let na := SG.getN b d.2 1
  let cs := getCoefs b (wideS fine - na.1) order.toNat [] na.2
  (⟨len, order, d.1 == 1, fine, cs.1⟩, na.1 == 0 && fitS cs.1 (wideS fine - na.1 - 1), cs.2)
def getFilts (b : List Int) (s : Int) (fine : Bool) : Nat → List Filt → Bool → Int × Int → Option (List Filt × Bool × Int × Int)
  | 0, acc, odd, st => some (acc, odd, st)
  | k + 1, acc, odd, st =>
    let a := SG.getN b st (lenF s)
    let o := SG.getN b a.2 (ordF s)
    if 12 < o.1 then none else
    let t := getTail b a.1 o.1 fine o.2
    getFilts b s fine k (acc ++ [t.1]) (odd || t.2.1) t.2.2
def getWins (b : List Int) (s : Int) : Nat → List (List Filt) → Bool → Int × Int → Option (List (List Filt) × Bool × Int × Int)
  | 0, acc, odd, st => some (acc, odd, st)
  | k + 1, acc, odd, st =>
    let m := SG.getN b st (numF s)
    let f := if 0 < m.1 then SG.getN b m.2 1 else (0, m.2)
    match getFilts b s (f.1 == 1) m.1.toNat [] odd f.2 with
    | none => none
    | some r => getWins b s k (acc ++ [r.1]) r.2.1 r.2.2
def getEnd : Option (List (List Filt) × Bool × Int × Int) → List (List Filt) × Int × Int
  | none => ([], 0, 8)
  | some (l, odd, nx, e) => if e ≠ 0 then ([], 0, e) else if odd = true then ([], 0, 8) else (l, nx, 0)
def getTns (b : List Int) (p s sh m : Int) (gs : List Int) : List (List Filt) × Int × Int :=
  if SP.someS s sh m gs = true then getEnd (getWins b s (manyF s).toNat [] false (p, 0)) else ([], 0, 8)

/-! ### the closure -/
/-- The boxes of the bits, the place, the error; the numbers of bits. -/
def GetT (w0 : World) (B M E X : Nat) (A : Option Addr) (c : Nat) (b : List Int) (s : Int) (W : World) (nx e : Int) : Prop :=
  (w0.heap.size ≤ B ∧ w0.heap.size ≤ M ∧ w0.heap.size ≤ E ∧ w0.heap.size ≤ X ∧ B ≠ M ∧ B ≠ E ∧ M ≠ E ∧ B ≠ X ∧ M ≠ X ∧ E ≠ X) ∧ Below w0.heap.size w0 W ∧
  W.heap[B]? = some (.cells #[.slice A b.length c] 32 (0, 0)) ∧ W.heap[M]? = some (.cells #[.int .i64 nx] 3 (0, 0)) ∧ W.heap[E]? = some (.cells #[.int .i64 e] 28 (0, 0)) ∧
  W.heap[X]? = some (.cells #[.int .i64 (numF s), .int .i64 (lenF s), .int .i64 (ordF s), .int .i64 (mostF s), .int .i64 (topF s)] 51 (0, 0))
/-- Nothing but two boxes has turned. -/
def Stay2 (M E : Nat) (W W' : World) : Prop := W.heap.size = W'.heap.size ∧ ∀ k, k ≠ M → k ≠ E → W'.heap[k]? = W.heap[k]?
def okT (B M E X k : Nat) : Prop := k ≠ B ∧ k ≠ M ∧ k ≠ E ∧ k ≠ X
section
variable {w0 : World} {B M E X : Nat} {A : Option Addr} {c : Nat} {b : List Int} {s : Int} {W W1 : World} {nx e : Int}
theorem GetT.qB (h : GetT w0 B M E X A c b s W nx e) : W.cell? ⟨B, 0, none⟩ = some (.slice A b.length c) := (blk_cell h.2.2.1 0).trans rfl
theorem GetT.qM (h : GetT w0 B M E X A c b s W nx e) : W.cell? ⟨M, 0, none⟩ = some (.int .i64 nx) := (blk_cell h.2.2.2.1 0).trans rfl
theorem GetT.fM (h : GetT w0 B M E X A c b s W nx e) : W.frozen? ⟨M, 0, none⟩ = false := blk_frozen h.2.2.2.1 0
theorem GetT.qE (h : GetT w0 B M E X A c b s W nx e) : W.cell? ⟨E, 0, none⟩ = some (.int .i64 e) := (blk_cell h.2.2.2.2.1 0).trans rfl
theorem GetT.fE (h : GetT w0 B M E X A c b s W nx e) : W.frozen? ⟨E, 0, none⟩ = false := blk_frozen h.2.2.2.2.1 0
theorem GetT.qX0 (h : GetT w0 B M E X A c b s W nx e) : W.cell? ⟨X, 0, none⟩ = some (.int .i64 (numF s)) := (blk_cell h.2.2.2.2.2 0).trans rfl
theorem GetT.qX1 (h : GetT w0 B M E X A c b s W nx e) : W.cell? ⟨X, 1, none⟩ = some (.int .i64 (lenF s)) := (blk_cell h.2.2.2.2.2 1).trans rfl
theorem GetT.qX2 (h : GetT w0 B M E X A c b s W nx e) : W.cell? ⟨X, 2, none⟩ = some (.int .i64 (ordF s)) := (blk_cell h.2.2.2.2.2 2).trans rfl
theorem GetT.to (h : GetT w0 B M E X A c b s W nx e) (hb : Below w0.heap.size w0 W1) (hk : ∀ k, k = B ∨ k = M ∨ k = E ∨ k = X → W1.heap[k]? = W.heap[k]?) : GetT w0 B M E X A c b s W1 nx e := by
  obtain ⟨hd, hbel, hB, hM, hE, hX⟩ := h
  exact ⟨hd, hb, (hk B (by simp)).trans hB, (hk M (by simp)).trans hM, (hk E (by simp)).trans hE, (hk X (by simp)).trans hX⟩
theorem GetT.below (h : GetT w0 B M E X A c b s W nx e) (hb : Below W.heap.size W W1) : GetT w0 B M E X A c b s W1 nx e := by
  obtain ⟨hd, hbel, hB, hM, hE, hX⟩ := h
  exact ⟨hd, below_step hbel hb, blk_below hB hb, blk_below hM hb, blk_below hE hb, blk_below hX hb⟩
theorem GetT.drew (h : GetT w0 B M E X A c b s W nx e) : GetT w0 B M E X A c b s W.drew nx e := ⟨h.1, below_drew h.2.1, h.2.2⟩
theorem GetT.drewN (h : GetT w0 B M E X A c b s W nx e) (n : Nat) : GetT w0 B M E X A c b s (W.drewN n) nx e := ⟨h.1, pw_below_drewN h.2.1 n, h.2.2⟩
theorem GetT.setE (h : GetT w0 B M E X A c b s W nx e) (e' : Int) : GetT w0 B M E X A c b s (W.setCell ⟨E, 0, none⟩ (.int .i64 e')) nx e' := by
  obtain ⟨hd, hbel, hB, hM, hE, hX⟩ := h
  obtain ⟨h1, h2, h3, h4, n1, n2, n3, n4, n5, n6⟩ := hd
  exact ⟨⟨h1, h2, h3, h4, n1, n2, n3, n4, n5, n6⟩, below_set hbel h3, blk_far hB n2 _, blk_far hM n3 _, blk_put hE 0 _ rfl, blk_far hX (Ne.symm n6) _⟩
theorem GetT.setM (h : GetT w0 B M E X A c b s W nx e) (e' : Int) : GetT w0 B M E X A c b s (W.setCell ⟨M, 0, none⟩ (.int .i64 e')) e' e := by
  obtain ⟨hd, hbel, hB, hM, hE, hX⟩ := h
  obtain ⟨h1, h2, h3, h4, n1, n2, n3, n4, n5, n6⟩ := hd
  exact ⟨⟨h1, h2, h3, h4, n1, n2, n3, n4, n5, n6⟩, below_set hbel h2, blk_far hB n1 _, blk_put hM 0 _ rfl, blk_far hE (Ne.symm n3) _, blk_far hX (Ne.symm n5) _⟩
theorem GetT.far {g j : Nat} {u : Value} (h : GetT w0 B M E X A c b s W nx e) (hg : w0.heap.size ≤ g) (hk : okT B M E X g) : GetT w0 B M E X A c b s (W.setCell ⟨g, j, none⟩ u) nx e := by
  obtain ⟨hd, hbel, hB, hM, hE, hX⟩ := h
  exact ⟨hd, below_set hbel hg, blk_far hB (Ne.symm hk.1) _, blk_far hM (Ne.symm hk.2.1) _, blk_far hE (Ne.symm hk.2.2.1) _, blk_far hX (Ne.symm hk.2.2.2) _⟩
theorem GetT.fresh (h : GetT w0 B M E X A c b s W nx e) (k : Nat) (hk : W.heap.size ≤ k) : okT B M E X k := by
  obtain ⟨hd, hbel, hB, hM, hE, hX⟩ := h
  have := blk_lt hB; have := blk_lt hM; have := blk_lt hE; have := blk_lt hX
  exact ⟨by omega, by omega, by omega, by omega⟩
/-- A row that lies apart has grown. -/
theorem GetT.grown {row : Option Nat} (h : GetT w0 B M E X A c b s W nx e) (hb : Below w0.heap.size w0 W1) (hg : W.grownBy W1 row) (hr : ∀ k, row = some k → okT B M E X k) : GetT w0 B M E X A c b s W1 nx e := by
  have hz : ∀ k, k < W.heap.size → ¬ okT B M E X k → W1.heap[k]? = W.heap[k]? := fun k hk hn => hg.block k hk (fun e => hn (hr k e.symm))
  refine h.to hb ?_
  obtain ⟨_, _, hB, hM, hE, hX⟩ := h
  rintro k (rfl | rfl | rfl | rfl)
  · exact hz _ (blk_lt hB) (fun h => h.1 rfl)
  · exact hz _ (blk_lt hM) (fun h => h.2.1 rfl)
  · exact hz _ (blk_lt hE) (fun h => h.2.2.1 rfl)
  · exact hz _ (blk_lt hX) (fun h => h.2.2.2 rfl)
end
theorem Stay2.R {α : Type} {d : Kd α} {t : Nat} {v : Value} {l : List α} {base B M E X : Nat} {ok : Nat → Prop} {W W1 : World} (hs : Stay2 M E W W1) (h : Kd.R d t W base (fun k => okT B M E X k ∧ ok k) v l) : Kd.R d t W1 base (fun k => okT B M E X k ∧ ok k) v l := Kd.R_step h (fun k hk _ => hs.2 k hk.1.2.1 hk.1.2.2.1)
set_option maxHeartbeats 4000000 in
set_option maxRecDepth 100000 in
theorem get_calls (w0 : World) (B M E X : Nat) (A : Option Addr) (c : Nat) (b : List Int) (s : Int) (hb01 : ∀ y ∈ b, 0 ≤ y ∧ y ≤ 255) (hbl : b.length ≤ 4611686018427387904) (hcb : b.length ≤ c) (hC : Kd.C (Kd.int .u8) w0 A b.length b) (W : World) (nx e size : Int) (h : GetT w0 B M E X A c b s W nx e) :
    Calls Try.prog 27 #[.int .i64 size, .pointer (some ⟨E, 0, none⟩), .pointer (some ⟨B, 0, none⟩), .pointer (some ⟨M, 0, none⟩)] W fun e' W' => e' = .returned (.int .i64 (SG.getN b (nx, e) size).1) ∧ GetT w0 B M E X A c b s W' (SG.getN b (nx, e) size).2.1 (SG.getN b (nx, e) size).2.2 ∧ Stay2 M E W W' := by
  obtain ⟨r, hr⟩ : ∃ r, r = SG.getN b (nx, e) size := ⟨_, rfl⟩
  rw [← hr]
  obtain ⟨r1, r2, r3⟩ := r
  have hq1 := h.qE
  have hq2 := h.qB
  have hq3 := h.qM
  have hf1 := h.fE
  have hf3 := h.fM
  have HG := Aside0.mk h
  by_cases he : e = 0
  · subst he
    unfold SG.getN at hr
    rw [if_pos rfl] at hr
    have HF : Aside0 (bits_Get.f 50 b nx size = some (r1, r2, r3)) := ⟨by rw [SG.get_f b hb01 hbl nx size 50 (by omega), hr]⟩
    have HC := Aside0.mk (Kd.C_below hC h.2.1)
    have hne : E ≠ M := Ne.symm h.1.2.2.2.2.2.2.1
    have hne2 : M ≠ E := h.1.2.2.2.2.2.2.1
    clear h hr hC hb01 hbl
    go_enter Try.func27, Try.ntmps27
    go_wp2_with (first | (go_at_call 28; (with_reducible refine (bits_Get.calls 50 A c b nx size r1 r2 r3 _ HC.out hcb HF.out).mono ?_); rintro e' w' ⟨rfl, ⟨⟨nd, rfl⟩⟩⟩))
    go_ret
    have h2 := ((HG.out.drewN nd).setM r2).setE r3
    refine ⟨rfl, h2, by simp, fun k hk1 hk2 => ?_⟩
    rw [Below.heap_setCell _ _ _ k hk2, Below.heap_setCell _ _ _ k hk1]
    rfl
  · unfold SG.getN at hr
    rw [if_neg he] at hr
    simp only [Prod.mk.injEq] at hr
    obtain ⟨rfl, rfl, rfl⟩ := hr
    have be : (r3 == 0) = false := beq_eq_false_iff_ne.mpr he
    clear h he hC hb01 hbl
    go_enter Try.func27, Try.ntmps27
    go_wp2
    go_ret
    exact ⟨rfl, HG.out, rfl, fun _ _ _ => rfl⟩
theorem get_calls' (w0 : World) (B M E X : Nat) (A : Option Addr) (c : Nat) (b : List Int) (s : Int) (hb01 : ∀ y ∈ b, 0 ≤ y ∧ y ≤ 255) (hbl : b.length ≤ 4611686018427387904) (hcb : b.length ≤ c) (hC : Kd.C (Kd.int .u8) w0 A b.length b) (W : World) (nx e size n nx' e1 : Int) (hr : SG.getN b (nx, e) size = (n, nx', e1)) (h : GetT w0 B M E X A c b s W nx e) :
    Calls Try.prog 27 #[.int .i64 size, .pointer (some ⟨E, 0, none⟩), .pointer (some ⟨B, 0, none⟩), .pointer (some ⟨M, 0, none⟩)] W fun e' W' => e' = .returned (.int .i64 n) ∧ GetT w0 B M E X A c b s W' nx' e1 ∧ Stay2 M E W W' := by
  have := get_calls w0 B M E X A c b s hb01 hbl hcb hC W nx e size h
  rw [hr] at this
  exact this
theorem run_shr1 {size n : Int} (h0 : 1 ≤ size) (h1 : size ≤ 4) (hn0 : 0 ≤ n) (hn1 : n ≤ 1000) (W : World) : (Op.shift BinOp.shr IntKind.i64 n IntKind.i64 (size - 1)).run Try.prog W = .ok (.int .i64 (n / 2 ^ (size - 1).toNat)) W := by
  have h := shift_shr_i64 (x := n) (yk := .i64) (y := size - 1) (by omega) (by omega)
  exact congrArg (fun z => Sem.run Try.prog z W) h
theorem run_shl2 {size q : Int} (h0 : 1 ≤ size) (h1 : size ≤ 4) (hn0 : 0 ≤ q) (hn1 : q ≤ 1000) (W : World) : (Op.shift BinOp.shl IntKind.i64 q IntKind.i64 size).run Try.prog W = .ok (.int .i64 (q * 2 ^ size.toNat)) W := by
  have hp : (2 : Int) ^ size.toNat ≤ 16 ∧ 1 ≤ (2 : Int) ^ size.toNat := by
    rcases (show size = 1 ∨ size = 2 ∨ size = 3 ∨ size = 4 by omega) with rfl | rfl | rfl | rfl <;> decide
  have hm : q * 2 ^ size.toNat ≤ 1000 * 16 := Int.mul_le_mul hn1 hp.1 (by omega) (by omega)
  have hm0 : 0 ≤ q * 2 ^ size.toNat := Int.mul_nonneg hn0 (by omega)
  have h := shift_shl_i64 (x := q) (yk := .i64) (y := size) (by omega) (by omega)
  rw [show IntKind.i64.wrap (q * 2 ^ size.toNat) = q * 2 ^ size.toNat by rw [IntKind.wrap_i64]; omega] at h
  exact congrArg (fun z => Sem.run Try.prog z W) h
end Go.Proofs.Ytdhcgfdnhlhapaa.HS
end
section
/- tnsbits.Get: what lies in memory between two of its statements. -/
namespace Go.Proofs.Ytdhcgfdnhlhapaa.HS
open Go.RowKit Go.Shelf Go.Proofs.YtdhcgfdnhlhapaaW.PrintWords Go.Proofs.YtdhcgfdnhlhapaaW.PrintLast Go.Proofs.YtdhcgfdnhlhapaaW.PrintMore Go.Proofs.Ytdhcgfdnhlhapaa.K
set_option linter.unusedVariables false
set_option linter.unusedSimpArgs false

section
variable {P : Program} {ops : Array Oper} {Q : Exit → Act → World → Prop}
/-- A call of a closure, by its contract. -/
theorem goesV_ {oi : Oper} {N : Option Tmp} {a : Act} {w : World} {K : Act → World → Prop} {f : FuncId} {fn : Func} {x : Operand} {ars : Array Operand} {ts : Array TypeId} (hf : P.funcs[f]? = some fn) (hname : (fn.name == "runtime.NumGoroutine") = false) (hb : fn.body.isSome = true) (args lb : Array Value)
    (hw : Region.wanted oi (yielded ops a.tmps) = true) (hN : oi.dst = N) (hop : oi.op = .call { callee := .value x, args := ars, argTypes := ts }) (hx : a.eval x = .func (.func f) #[] lb) (hargs : ars.map a.eval = args)
    (h : Calls P f (args ++ lb) w fun e w' => ∃ v, e = .returned v ∧ K (a.put N v) w') : if Region.wanted oi (yielded ops a.tmps) = true then Oper.wp P oi a w K Q else K (a.put N undef) w := by
  refine call_ f (args ++ lb) hw hN ?_ h
  have he := enters_ hf hname hb (args ++ lb) w
  unfold execOp
  simp [hop, resolve, Deferred.ofValue, invoke, hx, hargs, he]
end
theorem R_base {α : Type} {d : Kd α} {t : Nat} {W : World} {base : Nat} {ok : Nat → Prop} {v : Value} {l : List α} (h : Kd.R d t W base ok v l) (k : Nat) (hk : v.ownBlock = some k) : base ≤ k := ((Kd.R_bound h).1 k hk).2.1
/-- Between two windows: the boxes, the windows so far. -/
def LL (w0 : World) (B M E X : Nat) (A : Option Addr) (c : Nat) (b : List Int) (s : Int) (vl : Value) (ls : List (List Filt)) (W : World) (nx e : Int) : Prop :=
  GetT w0 B M E X A c b s W nx e ∧ Kd.R (Kd.slice 38 k38) 35 W w0.heap.size (fun k => okT B M E X k ∧ True) vl ls
/-- Between two filters: the windows so far lie ahead of NB, the filters so far from NB on ahead of N2. -/
def LW (w0 : World) (B M E X : Nat) (A : Option Addr) (c : Nat) (b : List Int) (s : Int) (NB N2 : Nat) (vl : Value) (ls : List (List Filt)) (vw : Value) (ws : List Filt) (W : World) (nx e : Int) : Prop :=
  GetT w0 B M E X A c b s W nx e ∧ Kd.R (Kd.slice 38 k38) 35 W w0.heap.size (fun k => okT B M E X k ∧ k < NB) vl ls ∧
  Kd.R k38 38 W NB (fun k => okT B M E X k ∧ k < N2) vw ws ∧ (w0.heap.size ≤ NB ∧ NB ≤ N2 ∧ N2 ≤ W.heap.size)
/-- Within a filter: its box g, its coefficients so far from N3 on. -/
def LC (w0 : World) (B M E X : Nat) (A : Option Addr) (c : Nat) (b : List Int) (s : Int) (NB N2 N3 g : Nat) (vl : Value) (ls : List (List Filt)) (vw : Value) (ws : List Filt) (c0 c1 c2 c3 vb vc : Value) (cs : List Int) (W : World) (nx e : Int) : Prop :=
  LW w0 B M E X A c b s NB N2 vl ls vw ws W nx e ∧ W.heap[g]? = some (.cells #[c0, c1, c2, c3, vb] 38 (0, 0)) ∧ Kd.R (Kd.int .i64) 3 W N3 (fun k => okT B M E X k ∧ True) vc cs ∧ (okT B M E X g ∧ N2 ≤ g ∧ g < N3 ∧ N3 ≤ W.heap.size)
section
variable {w0 : World} {B M E X : Nat} {A : Option Addr} {c : Nat} {b : List Int} {s : Int} {NB N2 N3 g : Nat} {vl vw vc vb c0 c1 c2 c3 : Value} {ls : List (List Filt)} {ws : List Filt} {cs : List Int} {W W1 : World} {nx e nx1 e1 : Int}
theorem LL.toW (h : LL w0 B M E X A c b s vl ls W nx e) : LW w0 B M E X A c b s W.heap.size W.heap.size vl ls (.slice none 0 0) [] W nx e :=
  ⟨h.1, Kd.R_mono (Kd.R_bound h.2) (fun k hk => ⟨hk.1.1, hk.2.2.1⟩), Kd.R_nil _ _ _ _ _, h.1.2.1.size, Nat.le_refl _, Nat.le_refl _⟩
theorem LL.below (h : LL w0 B M E X A c b s vl ls W nx e) (hb : Below W.heap.size W W1) : LL w0 B M E X A c b s vl ls W1 nx e := ⟨h.1.below hb, Kd.R_below h.2 hb⟩
theorem LL.stay (h : LL w0 B M E X A c b s vl ls W nx e) (hG : GetT w0 B M E X A c b s W1 nx1 e1) (hs : Stay2 M E W W1) : LL w0 B M E X A c b s vl ls W1 nx1 e1 := ⟨hG, hs.R h.2⟩
theorem LW.below (h : LW w0 B M E X A c b s NB N2 vl ls vw ws W nx e) (hb : Below W.heap.size W W1) : LW w0 B M E X A c b s NB N2 vl ls vw ws W1 nx e :=
  ⟨h.1.below hb, Kd.R_below h.2.1 hb, Kd.R_below h.2.2.1 hb, h.2.2.2.1, h.2.2.2.2.1, Nat.le_trans h.2.2.2.2.2 hb.size⟩
theorem LW.drew (h : LW w0 B M E X A c b s NB N2 vl ls vw ws W nx e) : LW w0 B M E X A c b s NB N2 vl ls vw ws W.drew nx e := h.below (below_drew (Below.refl _ _))
theorem LW.drewN (h : LW w0 B M E X A c b s NB N2 vl ls vw ws W nx e) (n : Nat) : LW w0 B M E X A c b s NB N2 vl ls vw ws (W.drewN n) nx e := h.below (pw_below_drewN (Below.refl _ _) n)
theorem LW.alloc (h : LW w0 B M E X A c b s NB N2 vl ls vw ws W nx e) (o : Obj) : LW w0 B M E X A c b s NB N2 vl ls vw ws (W.alloc o) nx e := h.below (below_alloc (Below.refl _ _) o)
theorem LW.stay (h : LW w0 B M E X A c b s NB N2 vl ls vw ws W nx e) (hG : GetT w0 B M E X A c b s W1 nx1 e1) (hs : Stay2 M E W W1) : LW w0 B M E X A c b s NB N2 vl ls vw ws W1 nx1 e1 :=
  ⟨hG, hs.R h.2.1, hs.R h.2.2.1, h.2.2.2.1, h.2.2.2.2.1, hs.1 ▸ h.2.2.2.2.2⟩
theorem LW.up (h : LW w0 B M E X A c b s NB N2 vl ls vw ws W nx e) : LW w0 B M E X A c b s NB W.heap.size vl ls vw ws W nx e :=
  ⟨h.1, h.2.1, Kd.R_mono (Kd.R_bound h.2.2.1) (fun k hk => ⟨hk.1.1, hk.2.2.1⟩), h.2.2.2.1, Nat.le_trans h.2.2.2.2.1 h.2.2.2.2.2, Nat.le_refl _⟩
theorem LW.fresh (h : LW w0 B M E X A c b s NB N2 vl ls vw ws W nx e) : okT B M E X W.heap.size := h.1.fresh _ (Nat.le_refl _)
theorem LW.far {j : Nat} {u : Value} (h : LW w0 B M E X A c b s NB N2 vl ls vw ws W nx e) (hk : okT B M E X g) (hg : N2 ≤ g) : LW w0 B M E X A c b s NB N2 vl ls vw ws (W.setCell ⟨g, j, none⟩ u) nx e := by
  obtain ⟨hG, hL, hW, h1, h2, h3⟩ := h
  refine ⟨hG.far (by omega) hk, Kd.R_far (p := ⟨g, j, none⟩) hL (fun k hk => ?_) u, Kd.R_far (p := ⟨g, j, none⟩) hW (fun k hk => ?_) u, h1, h2, by simpa using h3⟩
  · have := hk.2; show k ≠ g; omega
  · have := hk.2; show k ≠ g; omega
theorem LW.far5 {v0 v1 v2 v3 v4 z0 z1 z2 z3 z4 : Value} (h : LW w0 B M E X A c b s NB N2 vl ls vw ws W nx e) (hk : okT B M E X g) (hg : N2 ≤ g) (hb : W.heap[g]? = some (.cells #[z0, z1, z2, z3, z4] 38 (0, 0))) :
    LW w0 B M E X A c b s NB N2 vl ls vw ws (((((W.setCell ⟨g, 0, none⟩ v0).setCell ⟨g, 1, none⟩ v1).setCell ⟨g, 2, none⟩ v2).setCell ⟨g, 3, none⟩ v3).setCell ⟨g, 4, none⟩ v4) nx e ∧
    (((((W.setCell ⟨g, 0, none⟩ v0).setCell ⟨g, 1, none⟩ v1).setCell ⟨g, 2, none⟩ v2).setCell ⟨g, 3, none⟩ v3).setCell ⟨g, 4, none⟩ v4).heap[g]? = some (.cells #[v0, v1, v2, v3, v4] 38 (0, 0)) := by
  have b1 := blk_put hb 0 v0 rfl
  have b2 := blk_put b1 1 v1 rfl
  have b3 := blk_put b2 2 v2 rfl
  have b4 := blk_put b3 3 v3 rfl
  exact ⟨((((h.far hk hg).far hk hg).far hk hg).far hk hg).far hk hg, blk_put b4 4 v4 rfl⟩
theorem LC.below (h : LC w0 B M E X A c b s NB N2 N3 g vl ls vw ws c0 c1 c2 c3 vb vc cs W nx e) (hb : Below W.heap.size W W1) : LC w0 B M E X A c b s NB N2 N3 g vl ls vw ws c0 c1 c2 c3 vb vc cs W1 nx e :=
  ⟨h.1.below hb, blk_below h.2.1 hb, Kd.R_below h.2.2.1 hb, h.2.2.2.1, h.2.2.2.2.1, h.2.2.2.2.2.1, Nat.le_trans h.2.2.2.2.2.2 hb.size⟩
theorem LC.drewN (h : LC w0 B M E X A c b s NB N2 N3 g vl ls vw ws c0 c1 c2 c3 vb vc cs W nx e) (n : Nat) : LC w0 B M E X A c b s NB N2 N3 g vl ls vw ws c0 c1 c2 c3 vb vc cs (W.drewN n) nx e := h.below (pw_below_drewN (Below.refl _ _) n)
theorem LC.stay (h : LC w0 B M E X A c b s NB N2 N3 g vl ls vw ws c0 c1 c2 c3 vb vc cs W nx e) (hG : GetT w0 B M E X A c b s W1 nx1 e1) (hs : Stay2 M E W W1) : LC w0 B M E X A c b s NB N2 N3 g vl ls vw ws c0 c1 c2 c3 vb vc cs W1 nx1 e1 :=
  ⟨h.1.stay hG hs, (hs.2 g h.2.2.2.1.2.1 h.2.2.2.1.2.2.1).trans h.2.1, hs.R h.2.2.1, h.2.2.2.1, h.2.2.2.2.1, h.2.2.2.2.2.1, hs.1 ▸ h.2.2.2.2.2.2⟩
/-- A store into the filter's box. -/
theorem LC.put {j : Nat} {u d0 d1 d2 d3 db : Value} (h : LC w0 B M E X A c b s NB N2 N3 g vl ls vw ws c0 c1 c2 c3 vb vc cs W nx e) (he : #[c0, c1, c2, c3, vb].setIfInBounds j u = #[d0, d1, d2, d3, db]) : LC w0 B M E X A c b s NB N2 N3 g vl ls vw ws d0 d1 d2 d3 db vc cs (W.setCell ⟨g, j, none⟩ u) nx e := by
  obtain ⟨hW, hg, hC, h1, h2, h3, h4⟩ := h
  refine ⟨hW.far h1 h2, blk_put hg j u he, ?_, h1, h2, h3, by simpa using h4⟩
  exact Kd.R_mono (Kd.R_far (p := ⟨g, j, none⟩) (Kd.R_bound hC) (fun k hk => by have := hk.2.1; show k ≠ g; omega) u) (fun k hk => hk.1)
theorem LC.q (h : LC w0 B M E X A c b s NB N2 N3 g vl ls vw ws c0 c1 c2 c3 vb vc cs W nx e) (j : Nat) : W.cell? ⟨g, j, none⟩ = #[c0, c1, c2, c3, vb][j]? := blk_cell h.2.1 j
theorem LC.f (h : LC w0 B M E X A c b s NB N2 N3 g vl ls vw ws c0 c1 c2 c3 vb vc cs W nx e) (j : Nat) : W.frozen? ⟨g, j, none⟩ = false := blk_frozen h.2.1 j
/-- A filter that has just been made: its box, no coefficients yet. -/
theorem LW.toC (h : LW w0 B M E X A c b s NB N2 vl ls vw ws W nx e) (hb : W.heap[g]? = some (.cells #[c0, c1, c2, c3, vb] 38 (0, 0))) (hk : okT B M E X g) (hg : N2 ≤ g) : LC w0 B M E X A c b s NB N2 W.heap.size g vl ls vw ws c0 c1 c2 c3 vb (.slice none 0 0) [] W nx e :=
  ⟨h, hb, Kd.R_nil _ _ _ _ _, hk, hg, blk_lt hb, Nat.le_refl _⟩
variable {ops : Array Oper} {rest : List Oper} {o : Oper} {a : Act} {Q : Exit → Act → World → Prop} {Kc : Act → World → Prop}
/-- append of a window to the windows so far. -/
theorem LW.appL (h : LW w0 B M E X A c b s NB N2 vl ls vw ws W nx e) (hl : ls.length ≤ 100) (hgd : o.guard = none) (p x : Operand)
    (ho : o.op = .call { callee := .builtin .append, args := #[p, x], argTypes := #[25, 25] }) (hs : a.eval p = vl) (hx : a.eval x = .slice (some ⟨W.heap.size, 0, none⟩) 1 1)
    (hk : ∀ v1 w1, LL w0 B M E X A c b s v1 (ls ++ [ws]) w1 nx e → wpList Try.prog ops Q rest (a.put o.dst v1) w1) : wpList Try.prog ops Q (o :: rest) a (W.alloc (.cells [vw].toArray 35)) := by
  obtain ⟨hG, hL, hW, h1, h2, h3⟩ := h
  have hR : Kd.R (Kd.slice 38 k38) 35 W w0.heap.size (fun k => okT B M E X k ∧ True) vl ls := Kd.R_mono hL (fun k hk => ⟨hk.1, trivial⟩)
  refine Kd.R_append (Kd.slice 38 k38) (w0 := w0) w0.heap.size hgd p x 25 35 (.slice none 0 0) 24 ho Try.underlying25 info35 rfl (by decide) (by omega) vl ls ws [vw] (fun k => okT B M E X k ∧ True) (fun k => okT B M E X k ∧ NB ≤ k) hs hx ?_ ?_ (fun k hk => ⟨hG.fresh k hk, trivial⟩) hR hG.2.1 hG.2.1.size (by omega) ?_
  · exact ⟨vw, rfl, Kd.R_lower (Kd.R_mono (Kd.R_bound hW) (fun k hk => ⟨hk.1.1, hk.2.1⟩)) h1⟩
  · intro k hk
    refine ⟨⟨hk.1, trivial⟩, fun he => ?_⟩
    have := (hL.1 k he.symm).2
    have := hk.2
    omega
  · intro v1 w1 hr hb hg hat
    exact hk v1 w1 ⟨hG.grown hb hg (fun k e => (hL.1 k e).1), hr⟩
/-- append of a filter to the filters so far. -/
theorem LC.appW {f : Filt} (h : LC w0 B M E X A c b s NB N2 N3 g vl ls vw ws c0 c1 c2 c3 vb vc cs W nx e) (hf : f.f4 = cs) (hl : ws.length ≤ 100) (hgd : o.guard = none) (p x : Operand)
    (ho : o.op = .call { callee := .builtin .append, args := #[p, x], argTypes := #[35, 35] }) (hs : a.eval p = vw) (hx : a.eval x = .slice (some ⟨W.heap.size, 0, none⟩) 1 1)
    (hk : ∀ v1 w1, LW w0 B M E X A c b s NB w1.heap.size vl ls v1 (ws ++ [f]) w1 nx e → wpList Try.prog ops Q rest (a.put o.dst v1) w1) : wpList Try.prog ops Q (o :: rest) a (W.alloc (.cells [.int .i64 f.f0, .int .i64 f.f1, .bool f.f2, .bool f.f3, vc].toArray 38)) := by
  obtain ⟨⟨hG, hL, hW, h1, h2, h3⟩, hg, hC, n1, n2, n3, n4⟩ := h
  subst hf
  have hR : Kd.R k38 38 W NB (fun k => okT B M E X k ∧ True) vw ws := Kd.R_mono hW (fun k hk => ⟨hk.1, trivial⟩)
  refine Kd.R_append k38 (w0 := W) NB hgd p x 35 38 (.agg #[(.int .i64 0), (.int .i64 0), (.bool false), (.bool false), (.slice none 0 0)]) 48 ho Try.underlying35 info38 rfl (by decide) (by omega) vw ws f [.int .i64 f.f0, .int .i64 f.f1, .bool f.f2, .bool f.f3, vc] (fun k => okT B M E X k ∧ True) (fun k => okT B M E X k ∧ N2 ≤ k) hs hx ?_ ?_ (fun k hk => ⟨hG.fresh k hk, trivial⟩) hR (Below.refl _ _) (by omega) (by omega) ?_
  · exact k38_mkM W NB _ f (Kd.R_lower (Kd.R_mono (Kd.R_bound hC) (fun k hk => ⟨hk.1.1, by have := hk.2.1; omega⟩)) (by omega))
  · intro k hk
    refine ⟨⟨hk.1, trivial⟩, fun he => ?_⟩
    have := (hW.1 k he.symm).2
    have := hk.2
    omega
  · intro v1 w1 hr hb hg1 hat
    have hbase := fun k e => R_base hW k e
    have hbel : Below w0.heap.size w0 w1 := pw_below_grown hG.2.1 _ (by omega) hg1 (fun k e => by have := hbase k e; omega)
    refine hk v1 w1 ⟨hG.grown hbel hg1 (fun k e => (hW.1 k e).1), Kd.R_grown hL hg1 (fun k hk e => ?_), Kd.R_mono (Kd.R_bound hr) (fun k hk => ⟨hk.1.1, hk.2.2.1⟩), h1, by have := hg1.size; omega, Nat.le_refl _⟩
    have := hbase k e.symm
    have := hk.2
    omega
/-- append of a coefficient, a step of a statement that draws its order. -/
theorem LC.appC {y : Int} (h : LC w0 B M E X A c b s NB N2 N3 g vl ls vw ws c0 c1 c2 c3 vb vc cs W nx e) (hl : cs.length ≤ 100) (hw : Region.wanted o (yielded ops a.tmps) = true) (p x : Operand)
    (ho : o.op = .call { callee := .builtin .append, args := #[p, x], argTypes := #[22, 22] }) (hs : a.eval p = vc) (hx : a.eval x = .slice (some ⟨W.heap.size, 0, none⟩) 1 1)
    (hk : ∀ v1 w1, LC w0 B M E X A c b s NB N2 N3 g vl ls vw ws c0 c1 c2 c3 vb v1 (cs ++ [y]) w1 nx e → Kc (a.put o.dst v1) w1) : if Region.wanted o (yielded ops a.tmps) = true then Oper.wp Try.prog o a (W.alloc (.cells [.int .i64 y].toArray 3)) Kc Q else Kc (a.put o.dst undef) (W.alloc (.cells [.int .i64 y].toArray 3)) := by
  obtain ⟨⟨hG, hL, hW, h1, h2, h3⟩, hg, hC, n1, n2, n3, n4⟩ := h
  refine Kd.R_append_step (Kd.int .i64) (w0 := W) N3 hw p x 22 3 (.int .i64 0) 8 ho Try.underlying22 info3 rfl (by decide) (by omega) vc cs y [.int .i64 y] (fun k => okT B M E X k ∧ True) (fun _ => False) hs hx rfl (fun _ hk => hk.elim) (fun k hk => ⟨hG.fresh k hk, trivial⟩) hC (Below.refl _ _) n4 (by omega) ?_
  intro v1 w1 hr hb hg1 hat
  have hbase := fun k e => R_base hC k e
  have hbel : Below w0.heap.size w0 w1 := pw_below_grown hG.2.1 _ (by omega) hg1 (fun k e => by have := hbase k e; omega)
  have hsz := hg1.size
  refine hk v1 w1 ⟨⟨hG.grown hbel hg1 (fun k e => (hC.1 k e).1), Kd.R_grown hL hg1 (fun k hk e => ?_), Kd.R_grown hW hg1 (fun k hk e => ?_), h1, h2, by omega⟩, (hg1.block g (by omega) (fun e => ?_)).trans hg, hr, n1, n2, n3, by omega⟩
  · have := hbase k e.symm; have := hk.2; omega
  · have := hbase k e.symm; have := hk.2; omega
  · have := hbase g e.symm; omega
end
end Go.Proofs.Ytdhcgfdnhlhapaa.HS
end
