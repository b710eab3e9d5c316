/- Texts of this session for the law TnsbitsNames, packed by wip/merge.py: part 3 of 4. Each section is one text; the law's own sentence stands over its section. -/
import Derived.Test.YtdhcgfdnhlhapaaYTnsbitsNames1
import Derived.Test.YtdhcgfdnhlhapaaYTnsbitsNames2
section
-- Written for this claim by this session's own wip/hook.py (it runs the kit's print and takes some functions' contracts as given texts of this session's).
namespace Go.Proofs.Ytdhcgfdnhlhapaa.K
open Go.RowKit Go.Proofs.YtdhcgfdnhlhapaaW.PrintWords Go.Proofs.YtdhcgfdnhlhapaaW.PrintLast Go.Proofs.YtdhcgfdnhlhapaaW.PrintMore
attribute [local go_sem] max2_int min2_int max_two min_two max_three min_three max_four min_four   -- for this text's walks alone
set_option linter.unusedVariables false
set_option linter.unusedSimpArgs false

/-! ### reedpipelaw21_alive: function 7 -/
def reedpipelaw21_alive.f  : Option (Bool) := (reedpipelaw21_long.f).bind fun bt128 => ((tnsbits_Put.f ([] : List Int) bt128.1 bt128.2.1 bt128.2.2.1 bt128.2.2.2 (([[]] : List (List (S38))))).bind fun bt137 => ((reedpipelaw21_long.f).bind fun bt141 => ((tnsbits_Put.f ([] : List Int) bt141.1 bt141.2.1 bt141.2.2.1 bt141.2.2.2 (([(([(⟨1, 1, true, false, (([(-2)] : List Int))⟩ : S38)] : List (S38)))] : List (List (S38))))).bind fun bt156 => (if bt137.2 = 0 then (if (strOfNums bt137.1).toList = ([0, 0] : List UInt8) then (if bt156.2 = 0 then (some ((strOfNums bt156.1).toList == ([0, 1, 0, 0, 0, 0, 0, 0, 1, 0, 0, 0, 0, 1, 1, 1, 1, 0] : List UInt8))) else (some false)) else (some false)) else (some false)))))
set_option maxHeartbeats 8000000 in
set_option maxRecDepth 100000 in
theorem reedpipelaw21_alive.calls  (r : Bool) (w : World) (h : reedpipelaw21_alive.f  = some r) :
    Calls Try.prog 7 #[] w fun e w' => e = .returned (.bool r) ∧ Below w.heap.size w w' := by
  have hu38 := Try.underlying38
  have HB := Aside0.mk (Below.refl w.heap.size w)
  have H : ((reedpipelaw21_long.f).bind fun bt128 => ((tnsbits_Put.f ([] : List Int) bt128.1 bt128.2.1 bt128.2.2.1 bt128.2.2.2 (([[]] : List (List (S38))))).bind fun bt137 => ((reedpipelaw21_long.f).bind fun bt141 => ((tnsbits_Put.f ([] : List Int) bt141.1 bt141.2.1 bt141.2.2.1 bt141.2.2.2 (([(([(⟨1, 1, true, false, (([(-2)] : List Int))⟩ : S38)] : List (S38)))] : List (List (S38))))).bind fun bt156 => (if bt137.2 = 0 then (if (strOfNums bt137.1).toList = ([0, 0] : List UInt8) then (if bt156.2 = 0 then (some ((strOfNums bt156.1).toList == ([0, 1, 0, 0, 0, 0, 0, 0, 1, 0, 0, 0, 0, 1, 1, 1, 1, 0] : List UInt8))) else (some false)) else (some false)) else (some false)))))) = some r := h
  clear h
  replace H := Option.bind_eq_some_iff.mp H
  obtain ⟨⟨t128, t129, t130, t131⟩, A10, H⟩ := H
  replace H : ((tnsbits_Put.f ([] : List Int) t128 t129 t130 t131 (([[]] : List (List (S38))))).bind fun bt137 => ((reedpipelaw21_long.f).bind fun bt141 => ((tnsbits_Put.f ([] : List Int) bt141.1 bt141.2.1 bt141.2.2.1 bt141.2.2.2 (([(([(⟨1, 1, true, false, (([(-2)] : List Int))⟩ : S38)] : List (S38)))] : List (List (S38))))).bind fun bt156 => (if bt137.2 = 0 then (if (strOfNums bt137.1).toList = ([0, 0] : List UInt8) then (if bt156.2 = 0 then (some ((strOfNums bt156.1).toList == ([0, 1, 0, 0, 0, 0, 0, 0, 1, 0, 0, 0, 0, 1, 1, 1, 1, 0] : List UInt8))) else (some false)) else (some false)) else (some false))))) = some r := H
  have A1 := Aside0.mk A10
  clear A10
  obtain ⟨y134, hy134⟩ : ∃ y_ : List (List (S38)), y_ = (([[]] : List (List (S38)))) := ⟨_, rfl⟩
  replace H : ((tnsbits_Put.f ([] : List Int) t128 t129 t130 t131 y134).bind fun bt137 => ((reedpipelaw21_long.f).bind fun bt141 => ((tnsbits_Put.f ([] : List Int) bt141.1 bt141.2.1 bt141.2.2.1 bt141.2.2.2 (([(([(⟨1, 1, true, false, (([(-2)] : List Int))⟩ : S38)] : List (S38)))] : List (List (S38))))).bind fun bt156 => (if bt137.2 = 0 then (if (strOfNums bt137.1).toList = ([0, 0] : List UInt8) then (if bt156.2 = 0 then (some ((strOfNums bt156.1).toList == ([0, 1, 0, 0, 0, 0, 0, 0, 1, 0, 0, 0, 0, 1, 1, 1, 1, 0] : List UInt8))) else (some false)) else (some false)) else (some false))))) = some r := by first | (rw [hy134]; with_reducible exact H) | (have H2_ := (Option.bind_some _ _).symm.trans H; rw [hy134]; with_reducible exact H2_) | (have H2_ := (Option.bind_some _ _).symm.trans H; with_reducible exact H2_) | with_reducible exact H | (rw [hy134]; exact H) | exact H
  have Ny134 := Aside0.mk hy134
  clear hy134
  replace H := Option.bind_eq_some_iff.mp H
  obtain ⟨⟨t137, t140⟩, A20, H⟩ := H
  replace H : ((reedpipelaw21_long.f).bind fun bt141 => ((tnsbits_Put.f ([] : List Int) bt141.1 bt141.2.1 bt141.2.2.1 bt141.2.2.2 (([(([(⟨1, 1, true, false, (([(-2)] : List Int))⟩ : S38)] : List (S38)))] : List (List (S38))))).bind fun bt156 => (if t140 = 0 then (if (strOfNums t137).toList = ([0, 0] : List UInt8) then (if bt156.2 = 0 then (some ((strOfNums bt156.1).toList == ([0, 1, 0, 0, 0, 0, 0, 0, 1, 0, 0, 0, 0, 1, 1, 1, 1, 0] : List UInt8))) else (some false)) else (some false)) else (some false)))) = some r := H
  have A2 := Aside0.mk A20
  clear A20
  replace H := Option.bind_eq_some_iff.mp H
  obtain ⟨⟨t141, t142, t143, t144⟩, A30, H⟩ := H
  replace H : ((tnsbits_Put.f ([] : List Int) t141 t142 t143 t144 (([(([(⟨1, 1, true, false, (([(-2)] : List Int))⟩ : S38)] : List (S38)))] : List (List (S38))))).bind fun bt156 => (if t140 = 0 then (if (strOfNums t137).toList = ([0, 0] : List UInt8) then (if bt156.2 = 0 then (some ((strOfNums bt156.1).toList == ([0, 1, 0, 0, 0, 0, 0, 0, 1, 0, 0, 0, 0, 1, 1, 1, 1, 0] : List UInt8))) else (some false)) else (some false)) else (some false))) = some r := H
  have A3 := Aside0.mk A30
  clear A30
  obtain ⟨y147, hy147⟩ : ∃ y_ : List Int, y_ = (([(-2)] : List Int)) := ⟨_, rfl⟩
  replace H : ((tnsbits_Put.f ([] : List Int) t141 t142 t143 t144 (([(([(⟨1, 1, true, false, y147⟩ : S38)] : List (S38)))] : List (List (S38))))).bind fun bt156 => (if t140 = 0 then (if (strOfNums t137).toList = ([0, 0] : List UInt8) then (if bt156.2 = 0 then (some ((strOfNums bt156.1).toList == ([0, 1, 0, 0, 0, 0, 0, 0, 1, 0, 0, 0, 0, 1, 1, 1, 1, 0] : List UInt8))) else (some false)) else (some false)) else (some false))) = some r := by first | (rw [hy147]; with_reducible exact H) | (have H2_ := (Option.bind_some _ _).symm.trans H; rw [hy147]; with_reducible exact H2_) | (have H2_ := (Option.bind_some _ _).symm.trans H; with_reducible exact H2_) | with_reducible exact H | (rw [hy147]; exact H) | exact H
  have Ny147 := Aside0.mk hy147
  clear hy147
  obtain ⟨y150, hy150⟩ : ∃ y_ : List (S38), y_ = (([(⟨1, 1, true, false, y147⟩ : S38)] : List (S38))) := ⟨_, rfl⟩
  replace H : ((tnsbits_Put.f ([] : List Int) t141 t142 t143 t144 (([y150] : List (List (S38))))).bind fun bt156 => (if t140 = 0 then (if (strOfNums t137).toList = ([0, 0] : List UInt8) then (if bt156.2 = 0 then (some ((strOfNums bt156.1).toList == ([0, 1, 0, 0, 0, 0, 0, 0, 1, 0, 0, 0, 0, 1, 1, 1, 1, 0] : List UInt8))) else (some false)) else (some false)) else (some false))) = some r := by first | (rw [hy150]; with_reducible exact H) | (have H2_ := (Option.bind_some _ _).symm.trans H; rw [hy150]; with_reducible exact H2_) | (have H2_ := (Option.bind_some _ _).symm.trans H; with_reducible exact H2_) | with_reducible exact H | (rw [hy150]; exact H) | exact H
  have Ny150 := Aside0.mk hy150
  clear hy150
  obtain ⟨y153, hy153⟩ : ∃ y_ : List (List (S38)), y_ = (([y150] : List (List (S38)))) := ⟨_, rfl⟩
  replace H : ((tnsbits_Put.f ([] : List Int) t141 t142 t143 t144 y153).bind fun bt156 => (if t140 = 0 then (if (strOfNums t137).toList = ([0, 0] : List UInt8) then (if bt156.2 = 0 then (some ((strOfNums bt156.1).toList == ([0, 1, 0, 0, 0, 0, 0, 0, 1, 0, 0, 0, 0, 1, 1, 1, 1, 0] : List UInt8))) else (some false)) else (some false)) else (some false))) = some r := by first | (rw [hy153]; with_reducible exact H) | (have H2_ := (Option.bind_some _ _).symm.trans H; rw [hy153]; with_reducible exact H2_) | (have H2_ := (Option.bind_some _ _).symm.trans H; with_reducible exact H2_) | with_reducible exact H | (rw [hy153]; exact H) | exact H
  have Ny153 := Aside0.mk hy153
  clear hy153
  replace H := Option.bind_eq_some_iff.mp H
  obtain ⟨⟨t156, t159⟩, A40, H⟩ := H
  replace H : (if t140 = 0 then (if (strOfNums t137).toList = ([0, 0] : List UInt8) then (if t159 = 0 then (some ((strOfNums t156).toList == ([0, 1, 0, 0, 0, 0, 0, 0, 1, 0, 0, 0, 0, 1, 1, 1, 1, 0] : List UInt8))) else (some false)) else (some false)) else (some false)) = some r := H
  have A4 := Aside0.mk A40
  clear A40
  by_cases c5 : t140 = 0
  · rw [if_pos c5] at H
    have c5b0 : (t140 == 0) = true := beq_iff_eq.mpr c5
    have c5b1 : (t140 != 0) = false := bne_eq_false_iff_eq.mpr c5
    clear c5
    by_cases c6 : (strOfNums t137).toList = ([0, 0] : List UInt8)
    · rw [if_pos c6] at H
      have c6b0 : ((strOfNums t137).toList == ([0, 0] : List UInt8)) = true := beq_iff_eq.mpr c6
      have c6b1 : ((strOfNums t137).toList != ([0, 0] : List UInt8)) = false := bne_eq_false_iff_eq.mpr c6
      clear c6
      by_cases c7 : t159 = 0
      · rw [if_pos c7] at H
        have c7b0 : (t159 == 0) = true := beq_iff_eq.mpr c7
        have c7b1 : (t159 != 0) = false := bne_eq_false_iff_eq.mpr c7
        clear c7
        obtain rfl := Option.some.inj H
        go_enter Try.func7, Try.ntmps7
        go_wp2_with (first | ((with_reducible refine gate_callee (f := 12) rfl ?_); refine goesL_ (some 6) rfl rfl Try.func12 (by kernel_rfl) rfl #[] rfl (by (try simp only [List.map_toArray, List.map_cons, List.map_nil]); first | done | rfl | (simp only [List.length_drop, List.length_take]; rfl)) ?_; (with_reducible refine (reedpipelaw21_long.calls  t128 t129 t130 t131 _ A1.out).mono ?_); rintro e w8 ⟨v132, rfl, ho0, hb⟩; refine ⟨_, rfl, ?_⟩; have n0_ := Aside0.mk (Kd.R_lower ho0 (below_size (by repeat (first | (with_reducible first | exact HB.out | apply below_alloc | apply pw_below_drewN | apply below_drew1) | exact HB.out)))); have n1_ := Aside0.mk (below_step (by repeat (first | (with_reducible first | exact HB.out | apply below_alloc | apply pw_below_drewN | apply below_drew1) | exact HB.out)) hb); clear HB; have HO133 := n0_; have HB := n1_; clear n0_ n1_; (try clear hb); (try clear hb2); (try clear hk); (try clear hi); (try clear ho0)) | ((with_reducible refine gate_dst (N := 7) rfl ?_); refine Kd.N_lit (Kd.slice 38 k38) _ 35 ?hg (N' := 7) ?hd (xs := ([[]] : List (List (S38)))) (inner := [.slice none 0 0]) (ok := (fun k_ => some k_ ≠ (v132 : Value).ownBlock)) (okp := (fun k_ => some k_ ≠ (v132 : Value).ownBlock)) ?hr ?hp (fun _ hk => hk) ((show ∀ k_, w8.heap.size ≤ k_ → (fun k_ => some k_ ≠ (v132 : Value).ownBlock) k_ from fun k_ hk => Kd.fresh' (Kd.R_lt (by (with_reducible repeat (first | apply Kd.R_alloc | apply Kd.R_drewN | apply Kd.R_drew)); exact HO133.out)) k_ hk) _ (Nat.le_refl _)) (Below.refl _ _) (Nat.le_refl _) (by simp) ?_; (case hd => rfl); (case hg => rfl); (case hr => first | (go_simp; done) | (go_simp; rfl)); (case hp => exact (Reps.one (show Kd.FK (Kd.slice 38 k38) _ _ [] [.slice none 0 0] from (Kd.FK_slice_mk (Nat.le_refl _) (Kd.F_nil _ _ _))) (Reps.none _ _))); intro v135 w9 ho10 hb hg_ hnew_; clear hg_ hnew_; (first | rw [← Ny134.out] at ho10 | (simp only [Int.reduceToNat] at ho10; rw [← Ny134.out] at ho10)); have n0_ := Aside0.mk (Kd.R_below (by (with_reducible repeat (first | apply Kd.R_alloc | apply Kd.R_drewN | apply Kd.R_drew)); exact HO133.out) hb); have n1_ := Aside0.mk (Kd.N_lower ho10 (below_size (by repeat (first | (with_reducible first | exact HB.out | apply below_alloc | apply pw_below_drewN | apply below_drew1) | exact HB.out)))); have n2_ := Aside0.mk (below_step (by repeat (first | (with_reducible first | exact HB.out | apply below_alloc | apply pw_below_drewN | apply below_drew1) | exact HB.out)) hb); clear HO133; clear HB; have HO133 := n0_; have HO136 := n1_; have HB := n2_; clear n0_ n1_ n2_; clear hb ho10; obtain ⟨Ao11, co11, eo11⟩ := Kd.R_slice HO133.out; subst eo11; obtain ⟨Ao12, co12, eo12⟩ := Kd.N_slice HO136.out; subst eo12) | ((with_reducible refine gate_callee (f := 11) rfl ?_); refine goesL_ (some 8) rfl rfl Try.func11 (by kernel_rfl) rfl #[.slice none 0 0, .agg #[.int .u8 t128, .int .u8 t129, .int .i64 t130, .slice Ao11 t131.length co11], .slice Ao12 y134.length co12] rfl (by (try simp only [List.map_toArray, List.map_cons, List.map_nil]); first | done | rfl | (simp only [List.length_drop, List.length_take]; rfl)) ?_; (refine (tnsbits_Put.calls _ _ ([] : List Int) t128 t129 t130 _ _ t131 _ _ y134 t137 t140 _ ?side1 ?side2 ?side3 ?side4 ?side5 ?side6 A2.out).mono ?_); (case side1 => exact Kd.C_nil _ _); (case side2 => exact Nat.le_refl _); (case side3 => repeat (first | exact (Kd.R_reads' HO133.out).2.2 | (with_reducible refine Kd.C_alloc ?_ _) | (with_reducible refine Kd.C_drewN ?_ _) | (with_reducible refine Kd.C_drew ?_))); (case side4 => exact (Kd.R_reads' HO133.out).2.1); (case side5 => repeat (first | exact (Kd.N_reads' HO136.out).2.2 | (with_reducible refine Kd.C_alloc ?_ _) | (with_reducible refine Kd.C_drewN ?_ _) | (with_reducible refine Kd.C_drew ?_))); (case side6 => exact (Kd.N_reads' HO136.out).2.1); rintro e w13 ⟨v138, rfl, ho0, hb⟩; refine ⟨_, rfl, ?_⟩; have n0_ := Aside0.mk (Kd.R_below (by (with_reducible repeat (first | apply Kd.R_alloc | apply Kd.R_drewN | apply Kd.R_drew)); exact HO133.out) hb); have n1_ := Aside0.mk (Kd.N_elder' (by (with_reducible repeat (first | apply Kd.N_alloc | apply Kd.N_drewN | apply Kd.N_drew)); exact HO136.out) (Kd.R_base ho0) hb); have n2_ := Aside0.mk (Kd.R_lower ho0 (below_size (by repeat (first | (with_reducible first | exact HB.out | apply below_alloc | apply pw_below_drewN | apply below_drew1) | exact HB.out)))); have n3_ := Aside0.mk (below_step (by repeat (first | (with_reducible first | exact HB.out | apply below_alloc | apply pw_below_drewN | apply below_drew1) | exact HB.out)) hb); clear HO133; clear HO136; clear HB; have HO133 := n0_; have HO136 := n1_; have HO139 := n2_; have HB := n3_; clear n0_ n1_ n2_ n3_; (try clear hb); (try clear hb2); (try clear hk); (try clear hi); (try clear ho0)) | ((with_reducible refine gate_callee (f := 12) rfl ?_); refine goesL_ (some 12) rfl rfl Try.func12 (by kernel_rfl) rfl #[] rfl (by (try simp only [List.map_toArray, List.map_cons, List.map_nil]); first | done | rfl | (simp only [List.length_drop, List.length_take]; rfl)) ?_; (with_reducible refine (reedpipelaw21_long.calls  t141 t142 t143 t144 _ A3.out).mono ?_); rintro e w14 ⟨v145, rfl, ho0, hb⟩; refine ⟨_, rfl, ?_⟩; have n0_ := Aside0.mk (Kd.R_elder' (by (with_reducible repeat (first | apply Kd.R_alloc | apply Kd.R_drewN | apply Kd.R_drew)); exact HO133.out) (Kd.R_base ho0) hb); have n1_ := Aside0.mk (Kd.N_elder' (by (with_reducible repeat (first | apply Kd.N_alloc | apply Kd.N_drewN | apply Kd.N_drew)); exact HO136.out) (Kd.R_base ho0) hb); have n2_ := Aside0.mk (Kd.R_below (by (with_reducible repeat (first | apply Kd.R_alloc | apply Kd.R_drewN | apply Kd.R_drew)); exact HO139.out) hb); have n3_ := Aside0.mk (Kd.R_lower (Kd.R_new' ho0 (Kd.R_lt (by (with_reducible repeat (first | apply Kd.R_alloc | apply Kd.R_drewN | apply Kd.R_drew)); exact HO133.out))) (below_size (by repeat (first | (with_reducible first | exact HB.out | apply below_alloc | apply pw_below_drewN | apply below_drew1) | exact HB.out)))); have n4_ := Aside0.mk (below_step (by repeat (first | (with_reducible first | exact HB.out | apply below_alloc | apply pw_below_drewN | apply below_drew1) | exact HB.out)) hb); clear HO133; clear HO136; clear HO139; clear HB; have HO133 := n0_; have HO136 := n1_; have HO139 := n2_; have HO146 := n3_; have HB := n4_; clear n0_ n1_ n2_ n3_ n4_; (try clear hb); (try clear hb2); (try clear hk); (try clear hi); (try clear ho0)) | ((with_reducible refine gate_dst (N := 13) rfl ?_); refine Kd.R_lit (Kd.int .i64) _ 3 ?hg (N := 13) ?hd (xs := ([(-2)] : List Int)) (inner := [.int .i64 (-2)]) (ok := fun _ => True) (okp := fun _ => True) ?hr ?hp (fun _ hk => hk) trivial (Below.refl _ _) (Nat.le_refl _) (by simp) ?_; (case hd => rfl); (case hg => rfl); (case hr => first | (go_simp; done) | (go_simp; rfl)); (case hp => exact (Reps.one (show Kd.M (Kd.int .i64) _ _ _ (-2) [.int .i64 (-2)] from rfl) (Reps.none _ _))); intro v148 w15 ho16 hb hg_ hnew_; clear hg_ hnew_; (first | rw [← Ny147.out] at ho16 | (simp only [Int.reduceToNat] at ho16; rw [← Ny147.out] at ho16)); have n0_ := Aside0.mk (Kd.R_elder' (by (with_reducible repeat (first | apply Kd.R_alloc | apply Kd.R_drewN | apply Kd.R_drew)); exact HO133.out) (Kd.R_base ho16) hb); have n1_ := Aside0.mk (Kd.N_elder' (by (with_reducible repeat (first | apply Kd.N_alloc | apply Kd.N_drewN | apply Kd.N_drew)); exact HO136.out) (Kd.R_base ho16) hb); have n2_ := Aside0.mk (Kd.R_below (by (with_reducible repeat (first | apply Kd.R_alloc | apply Kd.R_drewN | apply Kd.R_drew)); exact HO139.out) hb); have n3_ := Aside0.mk (Kd.R_elder' (by (with_reducible repeat (first | apply Kd.R_alloc | apply Kd.R_drewN | apply Kd.R_drew)); exact HO146.out) (Kd.R_base ho16) hb); have n4_ := Aside0.mk (Kd.R_lower (Kd.R_new' (Kd.R_new' ho16 (Kd.R_lt (by (with_reducible repeat (first | apply Kd.R_alloc | apply Kd.R_drewN | apply Kd.R_drew)); exact HO133.out))) (Kd.R_lt (by (with_reducible repeat (first | apply Kd.R_alloc | apply Kd.R_drewN | apply Kd.R_drew)); exact HO146.out))) (below_size (by repeat (first | (with_reducible first | exact HB.out | apply below_alloc | apply pw_below_drewN | apply below_drew1) | exact HB.out)))); have n5_ := Aside0.mk (below_step (by repeat (first | (with_reducible first | exact HB.out | apply below_alloc | apply pw_below_drewN | apply below_drew1) | exact HB.out)) hb); clear HO133; clear HO136; clear HO139; clear HO146; clear HB; have HO133 := n0_; have HO136 := n1_; have HO139 := n2_; have HO146 := n3_; have HO149 := n4_; have HB := n5_; clear n0_ n1_ n2_ n3_ n4_ n5_; clear hb ho16; obtain ⟨Ao17, co17, eo17⟩ := Kd.R_slice HO149.out; subst eo17) | ((with_reducible refine gate_dst (N := 15) rfl ?_); refine Kd.N_lit k38 _ 38 ?hg (N' := 15) ?hd (xs := ([(⟨1, 1, true, false, y147⟩ : S38)] : List (S38))) (inner := [.int .i64 1, .int .i64 1, .bool true, .bool false, .slice Ao17 y147.length co17]) (ok := (fun k_ => some k_ ≠ (.slice Ao11 t131.length co11 : Value).ownBlock ∧ some k_ ≠ (.slice Ao12 y134.length co12 : Value).ownBlock ∧ some k_ ≠ (v138 : Value).ownBlock ∧ some k_ ≠ (v145 : Value).ownBlock)) (okp := (fun k_ => some k_ ≠ (.slice Ao11 t131.length co11 : Value).ownBlock ∧ some k_ ≠ (.slice Ao12 y134.length co12 : Value).ownBlock ∧ some k_ ≠ (v138 : Value).ownBlock ∧ some k_ ≠ (v145 : Value).ownBlock)) ?hr ?hp (fun _ hk => hk) ((show ∀ k_, w15.heap.size ≤ k_ → (fun k_ => some k_ ≠ (.slice Ao11 t131.length co11 : Value).ownBlock ∧ some k_ ≠ (.slice Ao12 y134.length co12 : Value).ownBlock ∧ some k_ ≠ (v138 : Value).ownBlock ∧ some k_ ≠ (v145 : Value).ownBlock) k_ from fun k_ hk => ⟨Kd.fresh' (Kd.R_lt (by (with_reducible repeat (first | apply Kd.R_alloc | apply Kd.R_drewN | apply Kd.R_drew)); exact HO133.out)) k_ hk, Kd.fresh' (Kd.N_lt (by (with_reducible repeat (first | apply Kd.N_alloc | apply Kd.N_drewN | apply Kd.N_drew)); exact HO136.out)) k_ hk, Kd.fresh' (Kd.R_lt (by (with_reducible repeat (first | apply Kd.R_alloc | apply Kd.R_drewN | apply Kd.R_drew)); exact HO139.out)) k_ hk, Kd.fresh' (Kd.R_lt (by (with_reducible repeat (first | apply Kd.R_alloc | apply Kd.R_drewN | apply Kd.R_drew)); exact HO146.out)) k_ hk⟩) _ (Nat.le_refl _)) (Below.refl _ _) (Nat.le_refl _) (by simp) ?_; (case hd => rfl); (case hg => rfl); (case hr => first | (go_simp; done) | (go_simp; rfl)); (case hp => exact (Reps.c5 (show Kd.FK k38 _ _ (⟨1, 1, true, false, y147⟩ : S38) [.int .i64 1, .int .i64 1, .bool true, .bool false, .slice Ao17 y147.length co17] from (k38_mkF _ _ (⟨1, 1, true, false, y147⟩ : S38) (Kd.R_reads' (Kd.R_mono (ok' := (fun k_ => some k_ ≠ (.slice Ao11 t131.length co11 : Value).ownBlock ∧ some k_ ≠ (.slice Ao12 y134.length co12 : Value).ownBlock ∧ some k_ ≠ (v138 : Value).ownBlock ∧ some k_ ≠ (v145 : Value).ownBlock)) (Kd.R_apart' (Kd.R_apart' (HO149.out) (Kd.N_typed HO136.out) (by decide)) (Kd.R_typed HO139.out) (by decide)) (fun k_ hk => ⟨hk.1.1.1.2, ⟨hk.1.2, ⟨hk.2, hk.1.1.2⟩⟩⟩))).2.1 (Kd.R_F (Kd.R_mono (ok' := (fun k_ => some k_ ≠ (.slice Ao11 t131.length co11 : Value).ownBlock ∧ some k_ ≠ (.slice Ao12 y134.length co12 : Value).ownBlock ∧ some k_ ≠ (v138 : Value).ownBlock ∧ some k_ ≠ (v145 : Value).ownBlock)) (Kd.R_apart' (Kd.R_apart' (HO149.out) (Kd.N_typed HO136.out) (by decide)) (Kd.R_typed HO139.out) (by decide)) (fun k_ hk => ⟨hk.1.1.1.2, ⟨hk.1.2, ⟨hk.2, hk.1.1.2⟩⟩⟩))))) (Reps.none _ _))); intro v151 w18 ho19 hb hg_ hnew_; clear hg_ hnew_; (first | rw [← Ny150.out] at ho19 | (simp only [Int.reduceToNat] at ho19; rw [← Ny150.out] at ho19)); have n0_ := Aside0.mk (Kd.R_below (by (with_reducible repeat (first | apply Kd.R_alloc | apply Kd.R_drewN | apply Kd.R_drew)); exact HO133.out) hb); have n1_ := Aside0.mk (Kd.N_elder' (by (with_reducible repeat (first | apply Kd.N_alloc | apply Kd.N_drewN | apply Kd.N_drew)); exact HO136.out) (Kd.N_base ho19) hb); have n2_ := Aside0.mk (Kd.R_below (by (with_reducible repeat (first | apply Kd.R_alloc | apply Kd.R_drewN | apply Kd.R_drew)); exact HO139.out) hb); have n3_ := Aside0.mk (Kd.R_below (by (with_reducible repeat (first | apply Kd.R_alloc | apply Kd.R_drewN | apply Kd.R_drew)); exact HO146.out) hb); have n4_ := Aside0.mk (Kd.N_lower ho19 (below_size (by repeat (first | (with_reducible first | exact HB.out | apply below_alloc | apply pw_below_drewN | apply below_drew1) | exact HB.out)))); have n5_ := Aside0.mk (below_step (by repeat (first | (with_reducible first | exact HB.out | apply below_alloc | apply pw_below_drewN | apply below_drew1) | exact HB.out)) hb); clear HO133; clear HO136; clear HO139; clear HO146; clear HB; clear HO149; have HO133 := n0_; have HO136 := n1_; have HO139 := n2_; have HO146 := n3_; have HO152 := n4_; have HB := n5_; clear n0_ n1_ n2_ n3_ n4_ n5_; clear hb ho19; obtain ⟨Ao20, co20, eo20⟩ := Kd.N_slice HO152.out; subst eo20) | ((with_reducible refine gate_dst (N := 16) rfl ?_); refine Kd.N_lit (Kd.slice 38 k38) _ 35 ?hg (N' := 16) ?hd (xs := ([y150] : List (List (S38)))) (inner := [.slice Ao20 y150.length co20]) (ok := (fun k_ => some k_ ≠ (.slice Ao11 t131.length co11 : Value).ownBlock ∧ some k_ ≠ (.slice Ao12 y134.length co12 : Value).ownBlock ∧ some k_ ≠ (v138 : Value).ownBlock ∧ some k_ ≠ (v145 : Value).ownBlock)) (okp := (fun k_ => some k_ ≠ (.slice Ao11 t131.length co11 : Value).ownBlock ∧ some k_ ≠ (.slice Ao12 y134.length co12 : Value).ownBlock ∧ some k_ ≠ (v138 : Value).ownBlock ∧ some k_ ≠ (v145 : Value).ownBlock)) ?hr ?hp (fun _ hk => hk) ((show ∀ k_, w18.heap.size ≤ k_ → (fun k_ => some k_ ≠ (.slice Ao11 t131.length co11 : Value).ownBlock ∧ some k_ ≠ (.slice Ao12 y134.length co12 : Value).ownBlock ∧ some k_ ≠ (v138 : Value).ownBlock ∧ some k_ ≠ (v145 : Value).ownBlock) k_ from fun k_ hk => ⟨Kd.fresh' (Kd.R_lt (by (with_reducible repeat (first | apply Kd.R_alloc | apply Kd.R_drewN | apply Kd.R_drew)); exact HO133.out)) k_ hk, Kd.fresh' (Kd.N_lt (by (with_reducible repeat (first | apply Kd.N_alloc | apply Kd.N_drewN | apply Kd.N_drew)); exact HO136.out)) k_ hk, Kd.fresh' (Kd.R_lt (by (with_reducible repeat (first | apply Kd.R_alloc | apply Kd.R_drewN | apply Kd.R_drew)); exact HO139.out)) k_ hk, Kd.fresh' (Kd.R_lt (by (with_reducible repeat (first | apply Kd.R_alloc | apply Kd.R_drewN | apply Kd.R_drew)); exact HO146.out)) k_ hk⟩) _ (Nat.le_refl _)) (Below.refl _ _) (Nat.le_refl _) (by simp) ?_; (case hd => rfl); (case hg => rfl); (case hr => first | (go_simp; done) | (go_simp; rfl)); (case hp => exact (Reps.one (show Kd.FK (Kd.slice 38 k38) _ _ y150 [.slice Ao20 y150.length co20] from (Kd.FK_slice_mk (Kd.N_reads' (Kd.N_mono (ok' := (fun k_ => some k_ ≠ (.slice Ao11 t131.length co11 : Value).ownBlock ∧ some k_ ≠ (.slice Ao12 y134.length co12 : Value).ownBlock ∧ some k_ ≠ (v138 : Value).ownBlock ∧ some k_ ≠ (v145 : Value).ownBlock)) (HO152.out) (fun k_ hk => ⟨hk.1, ⟨hk.2.1, ⟨hk.2.2.1, hk.2.2.2⟩⟩⟩))).2.1 (Kd.N_F (Kd.N_mono (ok' := (fun k_ => some k_ ≠ (.slice Ao11 t131.length co11 : Value).ownBlock ∧ some k_ ≠ (.slice Ao12 y134.length co12 : Value).ownBlock ∧ some k_ ≠ (v138 : Value).ownBlock ∧ some k_ ≠ (v145 : Value).ownBlock)) (HO152.out) (fun k_ hk => ⟨hk.1, ⟨hk.2.1, ⟨hk.2.2.1, hk.2.2.2⟩⟩⟩))))) (Reps.none _ _))); intro v154 w21 ho22 hb hg_ hnew_; clear hg_ hnew_; (first | rw [← Ny153.out] at ho22 | (simp only [Int.reduceToNat] at ho22; rw [← Ny153.out] at ho22)); have n0_ := Aside0.mk (Kd.R_below (by (with_reducible repeat (first | apply Kd.R_alloc | apply Kd.R_drewN | apply Kd.R_drew)); exact HO133.out) hb); have n1_ := Aside0.mk (Kd.N_elder' (by (with_reducible repeat (first | apply Kd.N_alloc | apply Kd.N_drewN | apply Kd.N_drew)); exact HO136.out) (Kd.N_base ho22) hb); have n2_ := Aside0.mk (Kd.R_below (by (with_reducible repeat (first | apply Kd.R_alloc | apply Kd.R_drewN | apply Kd.R_drew)); exact HO139.out) hb); have n3_ := Aside0.mk (Kd.R_below (by (with_reducible repeat (first | apply Kd.R_alloc | apply Kd.R_drewN | apply Kd.R_drew)); exact HO146.out) hb); have n4_ := Aside0.mk (Kd.N_lower ho22 (below_size (by repeat (first | (with_reducible first | exact HB.out | apply below_alloc | apply pw_below_drewN | apply below_drew1) | exact HB.out)))); have n5_ := Aside0.mk (below_step (by repeat (first | (with_reducible first | exact HB.out | apply below_alloc | apply pw_below_drewN | apply below_drew1) | exact HB.out)) hb); clear HO133; clear HO136; clear HO139; clear HO146; clear HB; clear HO152; have HO133 := n0_; have HO136 := n1_; have HO139 := n2_; have HO146 := n3_; have HO155 := n4_; have HB := n5_; clear n0_ n1_ n2_ n3_ n4_ n5_; clear hb ho22; obtain ⟨Ao23, co23, eo23⟩ := Kd.R_slice HO146.out; subst eo23; obtain ⟨Ao24, co24, eo24⟩ := Kd.N_slice HO155.out; subst eo24) | ((with_reducible refine gate_callee (f := 11) rfl ?_); refine goesL_ (some 17) rfl rfl Try.func11 (by kernel_rfl) rfl #[.slice none 0 0, .agg #[.int .u8 t141, .int .u8 t142, .int .i64 t143, .slice Ao23 t144.length co23], .slice Ao24 y153.length co24] rfl (by (try simp only [List.map_toArray, List.map_cons, List.map_nil]); first | done | rfl | (simp only [List.length_drop, List.length_take]; rfl)) ?_; (refine (tnsbits_Put.calls _ _ ([] : List Int) t141 t142 t143 _ _ t144 _ _ y153 t156 t159 _ ?side1 ?side2 ?side3 ?side4 ?side5 ?side6 A4.out).mono ?_); (case side1 => exact Kd.C_nil _ _); (case side2 => exact Nat.le_refl _); (case side3 => repeat (first | exact (Kd.R_reads' HO146.out).2.2 | (with_reducible refine Kd.C_alloc ?_ _) | (with_reducible refine Kd.C_drewN ?_ _) | (with_reducible refine Kd.C_drew ?_))); (case side4 => exact (Kd.R_reads' HO146.out).2.1); (case side5 => repeat (first | exact (Kd.N_reads' HO155.out).2.2 | (with_reducible refine Kd.C_alloc ?_ _) | (with_reducible refine Kd.C_drewN ?_ _) | (with_reducible refine Kd.C_drew ?_))); (case side6 => exact (Kd.N_reads' HO155.out).2.1); rintro e w25 ⟨v157, rfl, ho0, hb⟩; refine ⟨_, rfl, ?_⟩; have n0_ := Aside0.mk (Kd.R_below (by (with_reducible repeat (first | apply Kd.R_alloc | apply Kd.R_drewN | apply Kd.R_drew)); exact HO133.out) hb); have n1_ := Aside0.mk (Kd.N_elder' (by (with_reducible repeat (first | apply Kd.N_alloc | apply Kd.N_drewN | apply Kd.N_drew)); exact HO136.out) (Kd.R_base ho0) hb); have n2_ := Aside0.mk (Kd.R_elder' (by (with_reducible repeat (first | apply Kd.R_alloc | apply Kd.R_drewN | apply Kd.R_drew)); exact HO139.out) (Kd.R_base ho0) hb); have n3_ := Aside0.mk (Kd.R_below (by (with_reducible repeat (first | apply Kd.R_alloc | apply Kd.R_drewN | apply Kd.R_drew)); exact HO146.out) hb); have n4_ := Aside0.mk (Kd.N_elder' (by (with_reducible repeat (first | apply Kd.N_alloc | apply Kd.N_drewN | apply Kd.N_drew)); exact HO155.out) (Kd.R_base ho0) hb); have n5_ := Aside0.mk (Kd.R_lower (Kd.R_new' ho0 (Kd.R_lt (by (with_reducible repeat (first | apply Kd.R_alloc | apply Kd.R_drewN | apply Kd.R_drew)); exact HO139.out))) (below_size (by repeat (first | (with_reducible first | exact HB.out | apply below_alloc | apply pw_below_drewN | apply below_drew1) | exact HB.out)))); have n6_ := Aside0.mk (below_step (by repeat (first | (with_reducible first | exact HB.out | apply below_alloc | apply pw_below_drewN | apply below_drew1) | exact HB.out)) hb); clear HO133; clear HO136; clear HO139; clear HO146; clear HO155; clear HB; have HO133 := n0_; have HO136 := n1_; have HO139 := n2_; have HO146 := n3_; have HO155 := n4_; have HO158 := n5_; have HB := n6_; clear n0_ n1_ n2_ n3_ n4_ n5_ n6_; (try clear hb); (try clear hb2); (try clear hk); (try clear hi); (try clear ho0); have hcv26 := own_string (P := Try.prog) Try.underlying32 Try.underlying5 Try.underlying9 (Kd.own_of_R HO139.out); have hcv27 := own_string (P := Try.prog) Try.underlying32 Try.underlying5 Try.underlying9 (Kd.own_of_R HO158.out)))
        go_ret
        exact ⟨by first | rfl | (simp [errW_none, errW_some] <;> rfl) | (simp [*, errW_none, errW_some] <;> rfl), by repeat (first | (with_reducible first | exact HB.out | apply below_alloc | apply pw_below_drewN | apply below_drew1) | exact HB.out)⟩
      · rw [if_neg c7] at H
        have c7b0 : (t159 == 0) = false := beq_eq_false_iff_ne.mpr c7
        have c7b1 : (t159 != 0) = true := bne_iff_ne.mpr c7
        obtain rfl := Option.some.inj H
        go_enter Try.func7, Try.ntmps7
        go_wp2_with (first | ((with_reducible refine gate_callee (f := 12) rfl ?_); refine goesL_ (some 6) rfl rfl Try.func12 (by kernel_rfl) rfl #[] rfl (by (try simp only [List.map_toArray, List.map_cons, List.map_nil]); first | done | rfl | (simp only [List.length_drop, List.length_take]; rfl)) ?_; (with_reducible refine (reedpipelaw21_long.calls  t128 t129 t130 t131 _ A1.out).mono ?_); rintro e w28 ⟨v132, rfl, ho0, hb⟩; refine ⟨_, rfl, ?_⟩; have n0_ := Aside0.mk (Kd.R_lower ho0 (below_size (by repeat (first | (with_reducible first | exact HB.out | apply below_alloc | apply pw_below_drewN | apply below_drew1) | exact HB.out)))); have n1_ := Aside0.mk (below_step (by repeat (first | (with_reducible first | exact HB.out | apply below_alloc | apply pw_below_drewN | apply below_drew1) | exact HB.out)) hb); clear HB; have HO133 := n0_; have HB := n1_; clear n0_ n1_; (try clear hb); (try clear hb2); (try clear hk); (try clear hi); (try clear ho0)) | ((with_reducible refine gate_dst (N := 7) rfl ?_); refine Kd.N_lit (Kd.slice 38 k38) _ 35 ?hg (N' := 7) ?hd (xs := ([[]] : List (List (S38)))) (inner := [.slice none 0 0]) (ok := (fun k_ => some k_ ≠ (v132 : Value).ownBlock)) (okp := (fun k_ => some k_ ≠ (v132 : Value).ownBlock)) ?hr ?hp (fun _ hk => hk) ((show ∀ k_, w28.heap.size ≤ k_ → (fun k_ => some k_ ≠ (v132 : Value).ownBlock) k_ from fun k_ hk => Kd.fresh' (Kd.R_lt (by (with_reducible repeat (first | apply Kd.R_alloc | apply Kd.R_drewN | apply Kd.R_drew)); exact HO133.out)) k_ hk) _ (Nat.le_refl _)) (Below.refl _ _) (Nat.le_refl _) (by simp) ?_; (case hd => rfl); (case hg => rfl); (case hr => first | (go_simp; done) | (go_simp; rfl)); (case hp => exact (Reps.one (show Kd.FK (Kd.slice 38 k38) _ _ [] [.slice none 0 0] from (Kd.FK_slice_mk (Nat.le_refl _) (Kd.F_nil _ _ _))) (Reps.none _ _))); intro v135 w29 ho30 hb hg_ hnew_; clear hg_ hnew_; (first | rw [← Ny134.out] at ho30 | (simp only [Int.reduceToNat] at ho30; rw [← Ny134.out] at ho30)); have n0_ := Aside0.mk (Kd.R_below (by (with_reducible repeat (first | apply Kd.R_alloc | apply Kd.R_drewN | apply Kd.R_drew)); exact HO133.out) hb); have n1_ := Aside0.mk (Kd.N_lower ho30 (below_size (by repeat (first | (with_reducible first | exact HB.out | apply below_alloc | apply pw_below_drewN | apply below_drew1) | exact HB.out)))); have n2_ := Aside0.mk (below_step (by repeat (first | (with_reducible first | exact HB.out | apply below_alloc | apply pw_below_drewN | apply below_drew1) | exact HB.out)) hb); clear HO133; clear HB; have HO133 := n0_; have HO136 := n1_; have HB := n2_; clear n0_ n1_ n2_; clear hb ho30; obtain ⟨Ao31, co31, eo31⟩ := Kd.R_slice HO133.out; subst eo31; obtain ⟨Ao32, co32, eo32⟩ := Kd.N_slice HO136.out; subst eo32) | ((with_reducible refine gate_callee (f := 11) rfl ?_); refine goesL_ (some 8) rfl rfl Try.func11 (by kernel_rfl) rfl #[.slice none 0 0, .agg #[.int .u8 t128, .int .u8 t129, .int .i64 t130, .slice Ao31 t131.length co31], .slice Ao32 y134.length co32] rfl (by (try simp only [List.map_toArray, List.map_cons, List.map_nil]); first | done | rfl | (simp only [List.length_drop, List.length_take]; rfl)) ?_; (refine (tnsbits_Put.calls _ _ ([] : List Int) t128 t129 t130 _ _ t131 _ _ y134 t137 t140 _ ?side1 ?side2 ?side3 ?side4 ?side5 ?side6 A2.out).mono ?_); (case side1 => exact Kd.C_nil _ _); (case side2 => exact Nat.le_refl _); (case side3 => repeat (first | exact (Kd.R_reads' HO133.out).2.2 | (with_reducible refine Kd.C_alloc ?_ _) | (with_reducible refine Kd.C_drewN ?_ _) | (with_reducible refine Kd.C_drew ?_))); (case side4 => exact (Kd.R_reads' HO133.out).2.1); (case side5 => repeat (first | exact (Kd.N_reads' HO136.out).2.2 | (with_reducible refine Kd.C_alloc ?_ _) | (with_reducible refine Kd.C_drewN ?_ _) | (with_reducible refine Kd.C_drew ?_))); (case side6 => exact (Kd.N_reads' HO136.out).2.1); rintro e w33 ⟨v138, rfl, ho0, hb⟩; refine ⟨_, rfl, ?_⟩; have n0_ := Aside0.mk (Kd.R_below (by (with_reducible repeat (first | apply Kd.R_alloc | apply Kd.R_drewN | apply Kd.R_drew)); exact HO133.out) hb); have n1_ := Aside0.mk (Kd.N_elder' (by (with_reducible repeat (first | apply Kd.N_alloc | apply Kd.N_drewN | apply Kd.N_drew)); exact HO136.out) (Kd.R_base ho0) hb); have n2_ := Aside0.mk (Kd.R_lower ho0 (below_size (by repeat (first | (with_reducible first | exact HB.out | apply below_alloc | apply pw_below_drewN | apply below_drew1) | exact HB.out)))); have n3_ := Aside0.mk (below_step (by repeat (first | (with_reducible first | exact HB.out | apply below_alloc | apply pw_below_drewN | apply below_drew1) | exact HB.out)) hb); clear HO133; clear HO136; clear HB; have HO133 := n0_; have HO136 := n1_; have HO139 := n2_; have HB := n3_; clear n0_ n1_ n2_ n3_; (try clear hb); (try clear hb2); (try clear hk); (try clear hi); (try clear ho0)) | ((with_reducible refine gate_callee (f := 12) rfl ?_); refine goesL_ (some 12) rfl rfl Try.func12 (by kernel_rfl) rfl #[] rfl (by (try simp only [List.map_toArray, List.map_cons, List.map_nil]); first | done | rfl | (simp only [List.length_drop, List.length_take]; rfl)) ?_; (with_reducible refine (reedpipelaw21_long.calls  t141 t142 t143 t144 _ A3.out).mono ?_); rintro e w34 ⟨v145, rfl, ho0, hb⟩; refine ⟨_, rfl, ?_⟩; have n0_ := Aside0.mk (Kd.R_elder' (by (with_reducible repeat (first | apply Kd.R_alloc | apply Kd.R_drewN | apply Kd.R_drew)); exact HO133.out) (Kd.R_base ho0) hb); have n1_ := Aside0.mk (Kd.N_elder' (by (with_reducible repeat (first | apply Kd.N_alloc | apply Kd.N_drewN | apply Kd.N_drew)); exact HO136.out) (Kd.R_base ho0) hb); have n2_ := Aside0.mk (Kd.R_below (by (with_reducible repeat (first | apply Kd.R_alloc | apply Kd.R_drewN | apply Kd.R_drew)); exact HO139.out) hb); have n3_ := Aside0.mk (Kd.R_lower (Kd.R_new' ho0 (Kd.R_lt (by (with_reducible repeat (first | apply Kd.R_alloc | apply Kd.R_drewN | apply Kd.R_drew)); exact HO133.out))) (below_size (by repeat (first | (with_reducible first | exact HB.out | apply below_alloc | apply pw_below_drewN | apply below_drew1) | exact HB.out)))); have n4_ := Aside0.mk (below_step (by repeat (first | (with_reducible first | exact HB.out | apply below_alloc | apply pw_below_drewN | apply below_drew1) | exact HB.out)) hb); clear HO133; clear HO136; clear HO139; clear HB; have HO133 := n0_; have HO136 := n1_; have HO139 := n2_; have HO146 := n3_; have HB := n4_; clear n0_ n1_ n2_ n3_ n4_; (try clear hb); (try clear hb2); (try clear hk); (try clear hi); (try clear ho0)) | ((with_reducible refine gate_dst (N := 13) rfl ?_); refine Kd.R_lit (Kd.int .i64) _ 3 ?hg (N := 13) ?hd (xs := ([(-2)] : List Int)) (inner := [.int .i64 (-2)]) (ok := fun _ => True) (okp := fun _ => True) ?hr ?hp (fun _ hk => hk) trivial (Below.refl _ _) (Nat.le_refl _) (by simp) ?_; (case hd => rfl); (case hg => rfl); (case hr => first | (go_simp; done) | (go_simp; rfl)); (case hp => exact (Reps.one (show Kd.M (Kd.int .i64) _ _ _ (-2) [.int .i64 (-2)] from rfl) (Reps.none _ _))); intro v148 w35 ho36 hb hg_ hnew_; clear hg_ hnew_; (first | rw [← Ny147.out] at ho36 | (simp only [Int.reduceToNat] at ho36; rw [← Ny147.out] at ho36)); have n0_ := Aside0.mk (Kd.R_elder' (by (with_reducible repeat (first | apply Kd.R_alloc | apply Kd.R_drewN | apply Kd.R_drew)); exact HO133.out) (Kd.R_base ho36) hb); have n1_ := Aside0.mk (Kd.N_elder' (by (with_reducible repeat (first | apply Kd.N_alloc | apply Kd.N_drewN | apply Kd.N_drew)); exact HO136.out) (Kd.R_base ho36) hb); have n2_ := Aside0.mk (Kd.R_below (by (with_reducible repeat (first | apply Kd.R_alloc | apply Kd.R_drewN | apply Kd.R_drew)); exact HO139.out) hb); have n3_ := Aside0.mk (Kd.R_elder' (by (with_reducible repeat (first | apply Kd.R_alloc | apply Kd.R_drewN | apply Kd.R_drew)); exact HO146.out) (Kd.R_base ho36) hb); have n4_ := Aside0.mk (Kd.R_lower (Kd.R_new' (Kd.R_new' ho36 (Kd.R_lt (by (with_reducible repeat (first | apply Kd.R_alloc | apply Kd.R_drewN | apply Kd.R_drew)); exact HO133.out))) (Kd.R_lt (by (with_reducible repeat (first | apply Kd.R_alloc | apply Kd.R_drewN | apply Kd.R_drew)); exact HO146.out))) (below_size (by repeat (first | (with_reducible first | exact HB.out | apply below_alloc | apply pw_below_drewN | apply below_drew1) | exact HB.out)))); have n5_ := Aside0.mk (below_step (by repeat (first | (with_reducible first | exact HB.out | apply below_alloc | apply pw_below_drewN | apply below_drew1) | exact HB.out)) hb); clear HO133; clear HO136; clear HO139; clear HO146; clear HB; have HO133 := n0_; have HO136 := n1_; have HO139 := n2_; have HO146 := n3_; have HO149 := n4_; have HB := n5_; clear n0_ n1_ n2_ n3_ n4_ n5_; clear hb ho36; obtain ⟨Ao37, co37, eo37⟩ := Kd.R_slice HO149.out; subst eo37) | ((with_reducible refine gate_dst (N := 15) rfl ?_); refine Kd.N_lit k38 _ 38 ?hg (N' := 15) ?hd (xs := ([(⟨1, 1, true, false, y147⟩ : S38)] : List (S38))) (inner := [.int .i64 1, .int .i64 1, .bool true, .bool false, .slice Ao37 y147.length co37]) (ok := (fun k_ => some k_ ≠ (.slice Ao31 t131.length co31 : Value).ownBlock ∧ some k_ ≠ (.slice Ao32 y134.length co32 : Value).ownBlock ∧ some k_ ≠ (v138 : Value).ownBlock ∧ some k_ ≠ (v145 : Value).ownBlock)) (okp := (fun k_ => some k_ ≠ (.slice Ao31 t131.length co31 : Value).ownBlock ∧ some k_ ≠ (.slice Ao32 y134.length co32 : Value).ownBlock ∧ some k_ ≠ (v138 : Value).ownBlock ∧ some k_ ≠ (v145 : Value).ownBlock)) ?hr ?hp (fun _ hk => hk) ((show ∀ k_, w35.heap.size ≤ k_ → (fun k_ => some k_ ≠ (.slice Ao31 t131.length co31 : Value).ownBlock ∧ some k_ ≠ (.slice Ao32 y134.length co32 : Value).ownBlock ∧ some k_ ≠ (v138 : Value).ownBlock ∧ some k_ ≠ (v145 : Value).ownBlock) k_ from fun k_ hk => ⟨Kd.fresh' (Kd.R_lt (by (with_reducible repeat (first | apply Kd.R_alloc | apply Kd.R_drewN | apply Kd.R_drew)); exact HO133.out)) k_ hk, Kd.fresh' (Kd.N_lt (by (with_reducible repeat (first | apply Kd.N_alloc | apply Kd.N_drewN | apply Kd.N_drew)); exact HO136.out)) k_ hk, Kd.fresh' (Kd.R_lt (by (with_reducible repeat (first | apply Kd.R_alloc | apply Kd.R_drewN | apply Kd.R_drew)); exact HO139.out)) k_ hk, Kd.fresh' (Kd.R_lt (by (with_reducible repeat (first | apply Kd.R_alloc | apply Kd.R_drewN | apply Kd.R_drew)); exact HO146.out)) k_ hk⟩) _ (Nat.le_refl _)) (Below.refl _ _) (Nat.le_refl _) (by simp) ?_; (case hd => rfl); (case hg => rfl); (case hr => first | (go_simp; done) | (go_simp; rfl)); (case hp => exact (Reps.c5 (show Kd.FK k38 _ _ (⟨1, 1, true, false, y147⟩ : S38) [.int .i64 1, .int .i64 1, .bool true, .bool false, .slice Ao37 y147.length co37] from (k38_mkF _ _ (⟨1, 1, true, false, y147⟩ : S38) (Kd.R_reads' (Kd.R_mono (ok' := (fun k_ => some k_ ≠ (.slice Ao31 t131.length co31 : Value).ownBlock ∧ some k_ ≠ (.slice Ao32 y134.length co32 : Value).ownBlock ∧ some k_ ≠ (v138 : Value).ownBlock ∧ some k_ ≠ (v145 : Value).ownBlock)) (Kd.R_apart' (Kd.R_apart' (HO149.out) (Kd.N_typed HO136.out) (by decide)) (Kd.R_typed HO139.out) (by decide)) (fun k_ hk => ⟨hk.1.1.1.2, ⟨hk.1.2, ⟨hk.2, hk.1.1.2⟩⟩⟩))).2.1 (Kd.R_F (Kd.R_mono (ok' := (fun k_ => some k_ ≠ (.slice Ao31 t131.length co31 : Value).ownBlock ∧ some k_ ≠ (.slice Ao32 y134.length co32 : Value).ownBlock ∧ some k_ ≠ (v138 : Value).ownBlock ∧ some k_ ≠ (v145 : Value).ownBlock)) (Kd.R_apart' (Kd.R_apart' (HO149.out) (Kd.N_typed HO136.out) (by decide)) (Kd.R_typed HO139.out) (by decide)) (fun k_ hk => ⟨hk.1.1.1.2, ⟨hk.1.2, ⟨hk.2, hk.1.1.2⟩⟩⟩))))) (Reps.none _ _))); intro v151 w38 ho39 hb hg_ hnew_; clear hg_ hnew_; (first | rw [← Ny150.out] at ho39 | (simp only [Int.reduceToNat] at ho39; rw [← Ny150.out] at ho39)); have n0_ := Aside0.mk (Kd.R_below (by (with_reducible repeat (first | apply Kd.R_alloc | apply Kd.R_drewN | apply Kd.R_drew)); exact HO133.out) hb); have n1_ := Aside0.mk (Kd.N_elder' (by (with_reducible repeat (first | apply Kd.N_alloc | apply Kd.N_drewN | apply Kd.N_drew)); exact HO136.out) (Kd.N_base ho39) hb); have n2_ := Aside0.mk (Kd.R_below (by (with_reducible repeat (first | apply Kd.R_alloc | apply Kd.R_drewN | apply Kd.R_drew)); exact HO139.out) hb); have n3_ := Aside0.mk (Kd.R_below (by (with_reducible repeat (first | apply Kd.R_alloc | apply Kd.R_drewN | apply Kd.R_drew)); exact HO146.out) hb); have n4_ := Aside0.mk (Kd.N_lower ho39 (below_size (by repeat (first | (with_reducible first | exact HB.out | apply below_alloc | apply pw_below_drewN | apply below_drew1) | exact HB.out)))); have n5_ := Aside0.mk (below_step (by repeat (first | (with_reducible first | exact HB.out | apply below_alloc | apply pw_below_drewN | apply below_drew1) | exact HB.out)) hb); clear HO133; clear HO136; clear HO139; clear HO146; clear HB; clear HO149; have HO133 := n0_; have HO136 := n1_; have HO139 := n2_; have HO146 := n3_; have HO152 := n4_; have HB := n5_; clear n0_ n1_ n2_ n3_ n4_ n5_; clear hb ho39; obtain ⟨Ao40, co40, eo40⟩ := Kd.N_slice HO152.out; subst eo40) | ((with_reducible refine gate_dst (N := 16) rfl ?_); refine Kd.N_lit (Kd.slice 38 k38) _ 35 ?hg (N' := 16) ?hd (xs := ([y150] : List (List (S38)))) (inner := [.slice Ao40 y150.length co40]) (ok := (fun k_ => some k_ ≠ (.slice Ao31 t131.length co31 : Value).ownBlock ∧ some k_ ≠ (.slice Ao32 y134.length co32 : Value).ownBlock ∧ some k_ ≠ (v138 : Value).ownBlock ∧ some k_ ≠ (v145 : Value).ownBlock)) (okp := (fun k_ => some k_ ≠ (.slice Ao31 t131.length co31 : Value).ownBlock ∧ some k_ ≠ (.slice Ao32 y134.length co32 : Value).ownBlock ∧ some k_ ≠ (v138 : Value).ownBlock ∧ some k_ ≠ (v145 : Value).ownBlock)) ?hr ?hp (fun _ hk => hk) ((show ∀ k_, w38.heap.size ≤ k_ → (fun k_ => some k_ ≠ (.slice Ao31 t131.length co31 : Value).ownBlock ∧ some k_ ≠ (.slice Ao32 y134.length co32 : Value).ownBlock ∧ some k_ ≠ (v138 : Value).ownBlock ∧ some k_ ≠ (v145 : Value).ownBlock) k_ from fun k_ hk => ⟨Kd.fresh' (Kd.R_lt (by (with_reducible repeat (first | apply Kd.R_alloc | apply Kd.R_drewN | apply Kd.R_drew)); exact HO133.out)) k_ hk, Kd.fresh' (Kd.N_lt (by (with_reducible repeat (first | apply Kd.N_alloc | apply Kd.N_drewN | apply Kd.N_drew)); exact HO136.out)) k_ hk, Kd.fresh' (Kd.R_lt (by (with_reducible repeat (first | apply Kd.R_alloc | apply Kd.R_drewN | apply Kd.R_drew)); exact HO139.out)) k_ hk, Kd.fresh' (Kd.R_lt (by (with_reducible repeat (first | apply Kd.R_alloc | apply Kd.R_drewN | apply Kd.R_drew)); exact HO146.out)) k_ hk⟩) _ (Nat.le_refl _)) (Below.refl _ _) (Nat.le_refl _) (by simp) ?_; (case hd => rfl); (case hg => rfl); (case hr => first | (go_simp; done) | (go_simp; rfl)); (case hp => exact (Reps.one (show Kd.FK (Kd.slice 38 k38) _ _ y150 [.slice Ao40 y150.length co40] from (Kd.FK_slice_mk (Kd.N_reads' (Kd.N_mono (ok' := (fun k_ => some k_ ≠ (.slice Ao31 t131.length co31 : Value).ownBlock ∧ some k_ ≠ (.slice Ao32 y134.length co32 : Value).ownBlock ∧ some k_ ≠ (v138 : Value).ownBlock ∧ some k_ ≠ (v145 : Value).ownBlock)) (HO152.out) (fun k_ hk => ⟨hk.1, ⟨hk.2.1, ⟨hk.2.2.1, hk.2.2.2⟩⟩⟩))).2.1 (Kd.N_F (Kd.N_mono (ok' := (fun k_ => some k_ ≠ (.slice Ao31 t131.length co31 : Value).ownBlock ∧ some k_ ≠ (.slice Ao32 y134.length co32 : Value).ownBlock ∧ some k_ ≠ (v138 : Value).ownBlock ∧ some k_ ≠ (v145 : Value).ownBlock)) (HO152.out) (fun k_ hk => ⟨hk.1, ⟨hk.2.1, ⟨hk.2.2.1, hk.2.2.2⟩⟩⟩))))) (Reps.none _ _))); intro v154 w41 ho42 hb hg_ hnew_; clear hg_ hnew_; (first | rw [← Ny153.out] at ho42 | (simp only [Int.reduceToNat] at ho42; rw [← Ny153.out] at ho42)); have n0_ := Aside0.mk (Kd.R_below (by (with_reducible repeat (first | apply Kd.R_alloc | apply Kd.R_drewN | apply Kd.R_drew)); exact HO133.out) hb); have n1_ := Aside0.mk (Kd.N_elder' (by (with_reducible repeat (first | apply Kd.N_alloc | apply Kd.N_drewN | apply Kd.N_drew)); exact HO136.out) (Kd.N_base ho42) hb); have n2_ := Aside0.mk (Kd.R_below (by (with_reducible repeat (first | apply Kd.R_alloc | apply Kd.R_drewN | apply Kd.R_drew)); exact HO139.out) hb); have n3_ := Aside0.mk (Kd.R_below (by (with_reducible repeat (first | apply Kd.R_alloc | apply Kd.R_drewN | apply Kd.R_drew)); exact HO146.out) hb); have n4_ := Aside0.mk (Kd.N_lower ho42 (below_size (by repeat (first | (with_reducible first | exact HB.out | apply below_alloc | apply pw_below_drewN | apply below_drew1) | exact HB.out)))); have n5_ := Aside0.mk (below_step (by repeat (first | (with_reducible first | exact HB.out | apply below_alloc | apply pw_below_drewN | apply below_drew1) | exact HB.out)) hb); clear HO133; clear HO136; clear HO139; clear HO146; clear HB; clear HO152; have HO133 := n0_; have HO136 := n1_; have HO139 := n2_; have HO146 := n3_; have HO155 := n4_; have HB := n5_; clear n0_ n1_ n2_ n3_ n4_ n5_; clear hb ho42; obtain ⟨Ao43, co43, eo43⟩ := Kd.R_slice HO146.out; subst eo43; obtain ⟨Ao44, co44, eo44⟩ := Kd.N_slice HO155.out; subst eo44) | ((with_reducible refine gate_callee (f := 11) rfl ?_); refine goesL_ (some 17) rfl rfl Try.func11 (by kernel_rfl) rfl #[.slice none 0 0, .agg #[.int .u8 t141, .int .u8 t142, .int .i64 t143, .slice Ao43 t144.length co43], .slice Ao44 y153.length co44] rfl (by (try simp only [List.map_toArray, List.map_cons, List.map_nil]); first | done | rfl | (simp only [List.length_drop, List.length_take]; rfl)) ?_; (refine (tnsbits_Put.calls _ _ ([] : List Int) t141 t142 t143 _ _ t144 _ _ y153 t156 t159 _ ?side1 ?side2 ?side3 ?side4 ?side5 ?side6 A4.out).mono ?_); (case side1 => exact Kd.C_nil _ _); (case side2 => exact Nat.le_refl _); (case side3 => repeat (first | exact (Kd.R_reads' HO146.out).2.2 | (with_reducible refine Kd.C_alloc ?_ _) | (with_reducible refine Kd.C_drewN ?_ _) | (with_reducible refine Kd.C_drew ?_))); (case side4 => exact (Kd.R_reads' HO146.out).2.1); (case side5 => repeat (first | exact (Kd.N_reads' HO155.out).2.2 | (with_reducible refine Kd.C_alloc ?_ _) | (with_reducible refine Kd.C_drewN ?_ _) | (with_reducible refine Kd.C_drew ?_))); (case side6 => exact (Kd.N_reads' HO155.out).2.1); rintro e w45 ⟨v157, rfl, ho0, hb⟩; refine ⟨_, rfl, ?_⟩; have n0_ := Aside0.mk (Kd.R_below (by (with_reducible repeat (first | apply Kd.R_alloc | apply Kd.R_drewN | apply Kd.R_drew)); exact HO133.out) hb); have n1_ := Aside0.mk (Kd.N_elder' (by (with_reducible repeat (first | apply Kd.N_alloc | apply Kd.N_drewN | apply Kd.N_drew)); exact HO136.out) (Kd.R_base ho0) hb); have n2_ := Aside0.mk (Kd.R_elder' (by (with_reducible repeat (first | apply Kd.R_alloc | apply Kd.R_drewN | apply Kd.R_drew)); exact HO139.out) (Kd.R_base ho0) hb); have n3_ := Aside0.mk (Kd.R_below (by (with_reducible repeat (first | apply Kd.R_alloc | apply Kd.R_drewN | apply Kd.R_drew)); exact HO146.out) hb); have n4_ := Aside0.mk (Kd.N_elder' (by (with_reducible repeat (first | apply Kd.N_alloc | apply Kd.N_drewN | apply Kd.N_drew)); exact HO155.out) (Kd.R_base ho0) hb); have n5_ := Aside0.mk (Kd.R_lower (Kd.R_new' ho0 (Kd.R_lt (by (with_reducible repeat (first | apply Kd.R_alloc | apply Kd.R_drewN | apply Kd.R_drew)); exact HO139.out))) (below_size (by repeat (first | (with_reducible first | exact HB.out | apply below_alloc | apply pw_below_drewN | apply below_drew1) | exact HB.out)))); have n6_ := Aside0.mk (below_step (by repeat (first | (with_reducible first | exact HB.out | apply below_alloc | apply pw_below_drewN | apply below_drew1) | exact HB.out)) hb); clear HO133; clear HO136; clear HO139; clear HO146; clear HO155; clear HB; have HO133 := n0_; have HO136 := n1_; have HO139 := n2_; have HO146 := n3_; have HO155 := n4_; have HO158 := n5_; have HB := n6_; clear n0_ n1_ n2_ n3_ n4_ n5_ n6_; (try clear hb); (try clear hb2); (try clear hk); (try clear hi); (try clear ho0); have hcv46 := own_string (P := Try.prog) Try.underlying32 Try.underlying5 Try.underlying9 (Kd.own_of_R HO139.out)))
        go_ret
        exact ⟨by first | rfl | (simp [errW_none, errW_some] <;> rfl) | (simp [*, errW_none, errW_some] <;> rfl), by repeat (first | (with_reducible first | exact HB.out | apply below_alloc | apply pw_below_drewN | apply below_drew1) | exact HB.out)⟩
    · rw [if_neg c6] at H
      have c6b0 : ((strOfNums t137).toList == ([0, 0] : List UInt8)) = false := beq_eq_false_iff_ne.mpr c6
      have c6b1 : ((strOfNums t137).toList != ([0, 0] : List UInt8)) = true := bne_iff_ne.mpr c6
      obtain rfl := Option.some.inj H
      go_enter Try.func7, Try.ntmps7
      go_wp2_with (first | ((with_reducible refine gate_callee (f := 12) rfl ?_); refine goesL_ (some 6) rfl rfl Try.func12 (by kernel_rfl) rfl #[] rfl (by (try simp only [List.map_toArray, List.map_cons, List.map_nil]); first | done | rfl | (simp only [List.length_drop, List.length_take]; rfl)) ?_; (with_reducible refine (reedpipelaw21_long.calls  t128 t129 t130 t131 _ A1.out).mono ?_); rintro e w47 ⟨v132, rfl, ho0, hb⟩; refine ⟨_, rfl, ?_⟩; have n0_ := Aside0.mk (Kd.R_lower ho0 (below_size (by repeat (first | (with_reducible first | exact HB.out | apply below_alloc | apply pw_below_drewN | apply below_drew1) | exact HB.out)))); have n1_ := Aside0.mk (below_step (by repeat (first | (with_reducible first | exact HB.out | apply below_alloc | apply pw_below_drewN | apply below_drew1) | exact HB.out)) hb); clear HB; have HO133 := n0_; have HB := n1_; clear n0_ n1_; (try clear hb); (try clear hb2); (try clear hk); (try clear hi); (try clear ho0)) | ((with_reducible refine gate_dst (N := 7) rfl ?_); refine Kd.N_lit (Kd.slice 38 k38) _ 35 ?hg (N' := 7) ?hd (xs := ([[]] : List (List (S38)))) (inner := [.slice none 0 0]) (ok := (fun k_ => some k_ ≠ (v132 : Value).ownBlock)) (okp := (fun k_ => some k_ ≠ (v132 : Value).ownBlock)) ?hr ?hp (fun _ hk => hk) ((show ∀ k_, w47.heap.size ≤ k_ → (fun k_ => some k_ ≠ (v132 : Value).ownBlock) k_ from fun k_ hk => Kd.fresh' (Kd.R_lt (by (with_reducible repeat (first | apply Kd.R_alloc | apply Kd.R_drewN | apply Kd.R_drew)); exact HO133.out)) k_ hk) _ (Nat.le_refl _)) (Below.refl _ _) (Nat.le_refl _) (by simp) ?_; (case hd => rfl); (case hg => rfl); (case hr => first | (go_simp; done) | (go_simp; rfl)); (case hp => exact (Reps.one (show Kd.FK (Kd.slice 38 k38) _ _ [] [.slice none 0 0] from (Kd.FK_slice_mk (Nat.le_refl _) (Kd.F_nil _ _ _))) (Reps.none _ _))); intro v135 w48 ho49 hb hg_ hnew_; clear hg_ hnew_; (first | rw [← Ny134.out] at ho49 | (simp only [Int.reduceToNat] at ho49; rw [← Ny134.out] at ho49)); have n0_ := Aside0.mk (Kd.R_below (by (with_reducible repeat (first | apply Kd.R_alloc | apply Kd.R_drewN | apply Kd.R_drew)); exact HO133.out) hb); have n1_ := Aside0.mk (Kd.N_lower ho49 (below_size (by repeat (first | (with_reducible first | exact HB.out | apply below_alloc | apply pw_below_drewN | apply below_drew1) | exact HB.out)))); have n2_ := Aside0.mk (below_step (by repeat (first | (with_reducible first | exact HB.out | apply below_alloc | apply pw_below_drewN | apply below_drew1) | exact HB.out)) hb); clear HO133; clear HB; have HO133 := n0_; have HO136 := n1_; have HB := n2_; clear n0_ n1_ n2_; clear hb ho49; obtain ⟨Ao50, co50, eo50⟩ := Kd.R_slice HO133.out; subst eo50; obtain ⟨Ao51, co51, eo51⟩ := Kd.N_slice HO136.out; subst eo51) | ((with_reducible refine gate_callee (f := 11) rfl ?_); refine goesL_ (some 8) rfl rfl Try.func11 (by kernel_rfl) rfl #[.slice none 0 0, .agg #[.int .u8 t128, .int .u8 t129, .int .i64 t130, .slice Ao50 t131.length co50], .slice Ao51 y134.length co51] rfl (by (try simp only [List.map_toArray, List.map_cons, List.map_nil]); first | done | rfl | (simp only [List.length_drop, List.length_take]; rfl)) ?_; (refine (tnsbits_Put.calls _ _ ([] : List Int) t128 t129 t130 _ _ t131 _ _ y134 t137 t140 _ ?side1 ?side2 ?side3 ?side4 ?side5 ?side6 A2.out).mono ?_); (case side1 => exact Kd.C_nil _ _); (case side2 => exact Nat.le_refl _); (case side3 => repeat (first | exact (Kd.R_reads' HO133.out).2.2 | (with_reducible refine Kd.C_alloc ?_ _) | (with_reducible refine Kd.C_drewN ?_ _) | (with_reducible refine Kd.C_drew ?_))); (case side4 => exact (Kd.R_reads' HO133.out).2.1); (case side5 => repeat (first | exact (Kd.N_reads' HO136.out).2.2 | (with_reducible refine Kd.C_alloc ?_ _) | (with_reducible refine Kd.C_drewN ?_ _) | (with_reducible refine Kd.C_drew ?_))); (case side6 => exact (Kd.N_reads' HO136.out).2.1); rintro e w52 ⟨v138, rfl, ho0, hb⟩; refine ⟨_, rfl, ?_⟩; have n0_ := Aside0.mk (Kd.R_below (by (with_reducible repeat (first | apply Kd.R_alloc | apply Kd.R_drewN | apply Kd.R_drew)); exact HO133.out) hb); have n1_ := Aside0.mk (Kd.N_elder' (by (with_reducible repeat (first | apply Kd.N_alloc | apply Kd.N_drewN | apply Kd.N_drew)); exact HO136.out) (Kd.R_base ho0) hb); have n2_ := Aside0.mk (Kd.R_lower ho0 (below_size (by repeat (first | (with_reducible first | exact HB.out | apply below_alloc | apply pw_below_drewN | apply below_drew1) | exact HB.out)))); have n3_ := Aside0.mk (below_step (by repeat (first | (with_reducible first | exact HB.out | apply below_alloc | apply pw_below_drewN | apply below_drew1) | exact HB.out)) hb); clear HO133; clear HO136; clear HB; have HO133 := n0_; have HO136 := n1_; have HO139 := n2_; have HB := n3_; clear n0_ n1_ n2_ n3_; (try clear hb); (try clear hb2); (try clear hk); (try clear hi); (try clear ho0)) | ((with_reducible refine gate_callee (f := 12) rfl ?_); refine goesL_ (some 12) rfl rfl Try.func12 (by kernel_rfl) rfl #[] rfl (by (try simp only [List.map_toArray, List.map_cons, List.map_nil]); first | done | rfl | (simp only [List.length_drop, List.length_take]; rfl)) ?_; (with_reducible refine (reedpipelaw21_long.calls  t141 t142 t143 t144 _ A3.out).mono ?_); rintro e w53 ⟨v145, rfl, ho0, hb⟩; refine ⟨_, rfl, ?_⟩; have n0_ := Aside0.mk (Kd.R_elder' (by (with_reducible repeat (first | apply Kd.R_alloc | apply Kd.R_drewN | apply Kd.R_drew)); exact HO133.out) (Kd.R_base ho0) hb); have n1_ := Aside0.mk (Kd.N_elder' (by (with_reducible repeat (first | apply Kd.N_alloc | apply Kd.N_drewN | apply Kd.N_drew)); exact HO136.out) (Kd.R_base ho0) hb); have n2_ := Aside0.mk (Kd.R_below (by (with_reducible repeat (first | apply Kd.R_alloc | apply Kd.R_drewN | apply Kd.R_drew)); exact HO139.out) hb); have n3_ := Aside0.mk (Kd.R_lower (Kd.R_new' ho0 (Kd.R_lt (by (with_reducible repeat (first | apply Kd.R_alloc | apply Kd.R_drewN | apply Kd.R_drew)); exact HO133.out))) (below_size (by repeat (first | (with_reducible first | exact HB.out | apply below_alloc | apply pw_below_drewN | apply below_drew1) | exact HB.out)))); have n4_ := Aside0.mk (below_step (by repeat (first | (with_reducible first | exact HB.out | apply below_alloc | apply pw_below_drewN | apply below_drew1) | exact HB.out)) hb); clear HO133; clear HO136; clear HO139; clear HB; have HO133 := n0_; have HO136 := n1_; have HO139 := n2_; have HO146 := n3_; have HB := n4_; clear n0_ n1_ n2_ n3_ n4_; (try clear hb); (try clear hb2); (try clear hk); (try clear hi); (try clear ho0)) | ((with_reducible refine gate_dst (N := 13) rfl ?_); refine Kd.R_lit (Kd.int .i64) _ 3 ?hg (N := 13) ?hd (xs := ([(-2)] : List Int)) (inner := [.int .i64 (-2)]) (ok := fun _ => True) (okp := fun _ => True) ?hr ?hp (fun _ hk => hk) trivial (Below.refl _ _) (Nat.le_refl _) (by simp) ?_; (case hd => rfl); (case hg => rfl); (case hr => first | (go_simp; done) | (go_simp; rfl)); (case hp => exact (Reps.one (show Kd.M (Kd.int .i64) _ _ _ (-2) [.int .i64 (-2)] from rfl) (Reps.none _ _))); intro v148 w54 ho55 hb hg_ hnew_; clear hg_ hnew_; (first | rw [← Ny147.out] at ho55 | (simp only [Int.reduceToNat] at ho55; rw [← Ny147.out] at ho55)); have n0_ := Aside0.mk (Kd.R_elder' (by (with_reducible repeat (first | apply Kd.R_alloc | apply Kd.R_drewN | apply Kd.R_drew)); exact HO133.out) (Kd.R_base ho55) hb); have n1_ := Aside0.mk (Kd.N_elder' (by (with_reducible repeat (first | apply Kd.N_alloc | apply Kd.N_drewN | apply Kd.N_drew)); exact HO136.out) (Kd.R_base ho55) hb); have n2_ := Aside0.mk (Kd.R_below (by (with_reducible repeat (first | apply Kd.R_alloc | apply Kd.R_drewN | apply Kd.R_drew)); exact HO139.out) hb); have n3_ := Aside0.mk (Kd.R_elder' (by (with_reducible repeat (first | apply Kd.R_alloc | apply Kd.R_drewN | apply Kd.R_drew)); exact HO146.out) (Kd.R_base ho55) hb); have n4_ := Aside0.mk (Kd.R_lower (Kd.R_new' (Kd.R_new' ho55 (Kd.R_lt (by (with_reducible repeat (first | apply Kd.R_alloc | apply Kd.R_drewN | apply Kd.R_drew)); exact HO133.out))) (Kd.R_lt (by (with_reducible repeat (first | apply Kd.R_alloc | apply Kd.R_drewN | apply Kd.R_drew)); exact HO146.out))) (below_size (by repeat (first | (with_reducible first | exact HB.out | apply below_alloc | apply pw_below_drewN | apply below_drew1) | exact HB.out)))); have n5_ := Aside0.mk (below_step (by repeat (first | (with_reducible first | exact HB.out | apply below_alloc | apply pw_below_drewN | apply below_drew1) | exact HB.out)) hb); clear HO133; clear HO136; clear HO139; clear HO146; clear HB; have HO133 := n0_; have HO136 := n1_; have HO139 := n2_; have HO146 := n3_; have HO149 := n4_; have HB := n5_; clear n0_ n1_ n2_ n3_ n4_ n5_; clear hb ho55; obtain ⟨Ao56, co56, eo56⟩ := Kd.R_slice HO149.out; subst eo56) | ((with_reducible refine gate_dst (N := 15) rfl ?_); refine Kd.N_lit k38 _ 38 ?hg (N' := 15) ?hd (xs := ([(⟨1, 1, true, false, y147⟩ : S38)] : List (S38))) (inner := [.int .i64 1, .int .i64 1, .bool true, .bool false, .slice Ao56 y147.length co56]) (ok := (fun k_ => some k_ ≠ (.slice Ao50 t131.length co50 : Value).ownBlock ∧ some k_ ≠ (.slice Ao51 y134.length co51 : Value).ownBlock ∧ some k_ ≠ (v138 : Value).ownBlock ∧ some k_ ≠ (v145 : Value).ownBlock)) (okp := (fun k_ => some k_ ≠ (.slice Ao50 t131.length co50 : Value).ownBlock ∧ some k_ ≠ (.slice Ao51 y134.length co51 : Value).ownBlock ∧ some k_ ≠ (v138 : Value).ownBlock ∧ some k_ ≠ (v145 : Value).ownBlock)) ?hr ?hp (fun _ hk => hk) ((show ∀ k_, w54.heap.size ≤ k_ → (fun k_ => some k_ ≠ (.slice Ao50 t131.length co50 : Value).ownBlock ∧ some k_ ≠ (.slice Ao51 y134.length co51 : Value).ownBlock ∧ some k_ ≠ (v138 : Value).ownBlock ∧ some k_ ≠ (v145 : Value).ownBlock) k_ from fun k_ hk => ⟨Kd.fresh' (Kd.R_lt (by (with_reducible repeat (first | apply Kd.R_alloc | apply Kd.R_drewN | apply Kd.R_drew)); exact HO133.out)) k_ hk, Kd.fresh' (Kd.N_lt (by (with_reducible repeat (first | apply Kd.N_alloc | apply Kd.N_drewN | apply Kd.N_drew)); exact HO136.out)) k_ hk, Kd.fresh' (Kd.R_lt (by (with_reducible repeat (first | apply Kd.R_alloc | apply Kd.R_drewN | apply Kd.R_drew)); exact HO139.out)) k_ hk, Kd.fresh' (Kd.R_lt (by (with_reducible repeat (first | apply Kd.R_alloc | apply Kd.R_drewN | apply Kd.R_drew)); exact HO146.out)) k_ hk⟩) _ (Nat.le_refl _)) (Below.refl _ _) (Nat.le_refl _) (by simp) ?_; (case hd => rfl); (case hg => rfl); (case hr => first | (go_simp; done) | (go_simp; rfl)); (case hp => exact (Reps.c5 (show Kd.FK k38 _ _ (⟨1, 1, true, false, y147⟩ : S38) [.int .i64 1, .int .i64 1, .bool true, .bool false, .slice Ao56 y147.length co56] from (k38_mkF _ _ (⟨1, 1, true, false, y147⟩ : S38) (Kd.R_reads' (Kd.R_mono (ok' := (fun k_ => some k_ ≠ (.slice Ao50 t131.length co50 : Value).ownBlock ∧ some k_ ≠ (.slice Ao51 y134.length co51 : Value).ownBlock ∧ some k_ ≠ (v138 : Value).ownBlock ∧ some k_ ≠ (v145 : Value).ownBlock)) (Kd.R_apart' (Kd.R_apart' (HO149.out) (Kd.N_typed HO136.out) (by decide)) (Kd.R_typed HO139.out) (by decide)) (fun k_ hk => ⟨hk.1.1.1.2, ⟨hk.1.2, ⟨hk.2, hk.1.1.2⟩⟩⟩))).2.1 (Kd.R_F (Kd.R_mono (ok' := (fun k_ => some k_ ≠ (.slice Ao50 t131.length co50 : Value).ownBlock ∧ some k_ ≠ (.slice Ao51 y134.length co51 : Value).ownBlock ∧ some k_ ≠ (v138 : Value).ownBlock ∧ some k_ ≠ (v145 : Value).ownBlock)) (Kd.R_apart' (Kd.R_apart' (HO149.out) (Kd.N_typed HO136.out) (by decide)) (Kd.R_typed HO139.out) (by decide)) (fun k_ hk => ⟨hk.1.1.1.2, ⟨hk.1.2, ⟨hk.2, hk.1.1.2⟩⟩⟩))))) (Reps.none _ _))); intro v151 w57 ho58 hb hg_ hnew_; clear hg_ hnew_; (first | rw [← Ny150.out] at ho58 | (simp only [Int.reduceToNat] at ho58; rw [← Ny150.out] at ho58)); have n0_ := Aside0.mk (Kd.R_below (by (with_reducible repeat (first | apply Kd.R_alloc | apply Kd.R_drewN | apply Kd.R_drew)); exact HO133.out) hb); have n1_ := Aside0.mk (Kd.N_elder' (by (with_reducible repeat (first | apply Kd.N_alloc | apply Kd.N_drewN | apply Kd.N_drew)); exact HO136.out) (Kd.N_base ho58) hb); have n2_ := Aside0.mk (Kd.R_below (by (with_reducible repeat (first | apply Kd.R_alloc | apply Kd.R_drewN | apply Kd.R_drew)); exact HO139.out) hb); have n3_ := Aside0.mk (Kd.R_below (by (with_reducible repeat (first | apply Kd.R_alloc | apply Kd.R_drewN | apply Kd.R_drew)); exact HO146.out) hb); have n4_ := Aside0.mk (Kd.N_lower ho58 (below_size (by repeat (first | (with_reducible first | exact HB.out | apply below_alloc | apply pw_below_drewN | apply below_drew1) | exact HB.out)))); have n5_ := Aside0.mk (below_step (by repeat (first | (with_reducible first | exact HB.out | apply below_alloc | apply pw_below_drewN | apply below_drew1) | exact HB.out)) hb); clear HO133; clear HO136; clear HO139; clear HO146; clear HB; clear HO149; have HO133 := n0_; have HO136 := n1_; have HO139 := n2_; have HO146 := n3_; have HO152 := n4_; have HB := n5_; clear n0_ n1_ n2_ n3_ n4_ n5_; clear hb ho58; obtain ⟨Ao59, co59, eo59⟩ := Kd.N_slice HO152.out; subst eo59) | ((with_reducible refine gate_dst (N := 16) rfl ?_); refine Kd.N_lit (Kd.slice 38 k38) _ 35 ?hg (N' := 16) ?hd (xs := ([y150] : List (List (S38)))) (inner := [.slice Ao59 y150.length co59]) (ok := (fun k_ => some k_ ≠ (.slice Ao50 t131.length co50 : Value).ownBlock ∧ some k_ ≠ (.slice Ao51 y134.length co51 : Value).ownBlock ∧ some k_ ≠ (v138 : Value).ownBlock ∧ some k_ ≠ (v145 : Value).ownBlock)) (okp := (fun k_ => some k_ ≠ (.slice Ao50 t131.length co50 : Value).ownBlock ∧ some k_ ≠ (.slice Ao51 y134.length co51 : Value).ownBlock ∧ some k_ ≠ (v138 : Value).ownBlock ∧ some k_ ≠ (v145 : Value).ownBlock)) ?hr ?hp (fun _ hk => hk) ((show ∀ k_, w57.heap.size ≤ k_ → (fun k_ => some k_ ≠ (.slice Ao50 t131.length co50 : Value).ownBlock ∧ some k_ ≠ (.slice Ao51 y134.length co51 : Value).ownBlock ∧ some k_ ≠ (v138 : Value).ownBlock ∧ some k_ ≠ (v145 : Value).ownBlock) k_ from fun k_ hk => ⟨Kd.fresh' (Kd.R_lt (by (with_reducible repeat (first | apply Kd.R_alloc | apply Kd.R_drewN | apply Kd.R_drew)); exact HO133.out)) k_ hk, Kd.fresh' (Kd.N_lt (by (with_reducible repeat (first | apply Kd.N_alloc | apply Kd.N_drewN | apply Kd.N_drew)); exact HO136.out)) k_ hk, Kd.fresh' (Kd.R_lt (by (with_reducible repeat (first | apply Kd.R_alloc | apply Kd.R_drewN | apply Kd.R_drew)); exact HO139.out)) k_ hk, Kd.fresh' (Kd.R_lt (by (with_reducible repeat (first | apply Kd.R_alloc | apply Kd.R_drewN | apply Kd.R_drew)); exact HO146.out)) k_ hk⟩) _ (Nat.le_refl _)) (Below.refl _ _) (Nat.le_refl _) (by simp) ?_; (case hd => rfl); (case hg => rfl); (case hr => first | (go_simp; done) | (go_simp; rfl)); (case hp => exact (Reps.one (show Kd.FK (Kd.slice 38 k38) _ _ y150 [.slice Ao59 y150.length co59] from (Kd.FK_slice_mk (Kd.N_reads' (Kd.N_mono (ok' := (fun k_ => some k_ ≠ (.slice Ao50 t131.length co50 : Value).ownBlock ∧ some k_ ≠ (.slice Ao51 y134.length co51 : Value).ownBlock ∧ some k_ ≠ (v138 : Value).ownBlock ∧ some k_ ≠ (v145 : Value).ownBlock)) (HO152.out) (fun k_ hk => ⟨hk.1, ⟨hk.2.1, ⟨hk.2.2.1, hk.2.2.2⟩⟩⟩))).2.1 (Kd.N_F (Kd.N_mono (ok' := (fun k_ => some k_ ≠ (.slice Ao50 t131.length co50 : Value).ownBlock ∧ some k_ ≠ (.slice Ao51 y134.length co51 : Value).ownBlock ∧ some k_ ≠ (v138 : Value).ownBlock ∧ some k_ ≠ (v145 : Value).ownBlock)) (HO152.out) (fun k_ hk => ⟨hk.1, ⟨hk.2.1, ⟨hk.2.2.1, hk.2.2.2⟩⟩⟩))))) (Reps.none _ _))); intro v154 w60 ho61 hb hg_ hnew_; clear hg_ hnew_; (first | rw [← Ny153.out] at ho61 | (simp only [Int.reduceToNat] at ho61; rw [← Ny153.out] at ho61)); have n0_ := Aside0.mk (Kd.R_below (by (with_reducible repeat (first | apply Kd.R_alloc | apply Kd.R_drewN | apply Kd.R_drew)); exact HO133.out) hb); have n1_ := Aside0.mk (Kd.N_elder' (by (with_reducible repeat (first | apply Kd.N_alloc | apply Kd.N_drewN | apply Kd.N_drew)); exact HO136.out) (Kd.N_base ho61) hb); have n2_ := Aside0.mk (Kd.R_below (by (with_reducible repeat (first | apply Kd.R_alloc | apply Kd.R_drewN | apply Kd.R_drew)); exact HO139.out) hb); have n3_ := Aside0.mk (Kd.R_below (by (with_reducible repeat (first | apply Kd.R_alloc | apply Kd.R_drewN | apply Kd.R_drew)); exact HO146.out) hb); have n4_ := Aside0.mk (Kd.N_lower ho61 (below_size (by repeat (first | (with_reducible first | exact HB.out | apply below_alloc | apply pw_below_drewN | apply below_drew1) | exact HB.out)))); have n5_ := Aside0.mk (below_step (by repeat (first | (with_reducible first | exact HB.out | apply below_alloc | apply pw_below_drewN | apply below_drew1) | exact HB.out)) hb); clear HO133; clear HO136; clear HO139; clear HO146; clear HB; clear HO152; have HO133 := n0_; have HO136 := n1_; have HO139 := n2_; have HO146 := n3_; have HO155 := n4_; have HB := n5_; clear n0_ n1_ n2_ n3_ n4_ n5_; clear hb ho61; obtain ⟨Ao62, co62, eo62⟩ := Kd.R_slice HO146.out; subst eo62; obtain ⟨Ao63, co63, eo63⟩ := Kd.N_slice HO155.out; subst eo63) | ((with_reducible refine gate_callee (f := 11) rfl ?_); refine goesL_ (some 17) rfl rfl Try.func11 (by kernel_rfl) rfl #[.slice none 0 0, .agg #[.int .u8 t141, .int .u8 t142, .int .i64 t143, .slice Ao62 t144.length co62], .slice Ao63 y153.length co63] rfl (by (try simp only [List.map_toArray, List.map_cons, List.map_nil]); first | done | rfl | (simp only [List.length_drop, List.length_take]; rfl)) ?_; (refine (tnsbits_Put.calls _ _ ([] : List Int) t141 t142 t143 _ _ t144 _ _ y153 t156 t159 _ ?side1 ?side2 ?side3 ?side4 ?side5 ?side6 A4.out).mono ?_); (case side1 => exact Kd.C_nil _ _); (case side2 => exact Nat.le_refl _); (case side3 => repeat (first | exact (Kd.R_reads' HO146.out).2.2 | (with_reducible refine Kd.C_alloc ?_ _) | (with_reducible refine Kd.C_drewN ?_ _) | (with_reducible refine Kd.C_drew ?_))); (case side4 => exact (Kd.R_reads' HO146.out).2.1); (case side5 => repeat (first | exact (Kd.N_reads' HO155.out).2.2 | (with_reducible refine Kd.C_alloc ?_ _) | (with_reducible refine Kd.C_drewN ?_ _) | (with_reducible refine Kd.C_drew ?_))); (case side6 => exact (Kd.N_reads' HO155.out).2.1); rintro e w64 ⟨v157, rfl, ho0, hb⟩; refine ⟨_, rfl, ?_⟩; have n0_ := Aside0.mk (Kd.R_below (by (with_reducible repeat (first | apply Kd.R_alloc | apply Kd.R_drewN | apply Kd.R_drew)); exact HO133.out) hb); have n1_ := Aside0.mk (Kd.N_elder' (by (with_reducible repeat (first | apply Kd.N_alloc | apply Kd.N_drewN | apply Kd.N_drew)); exact HO136.out) (Kd.R_base ho0) hb); have n2_ := Aside0.mk (Kd.R_elder' (by (with_reducible repeat (first | apply Kd.R_alloc | apply Kd.R_drewN | apply Kd.R_drew)); exact HO139.out) (Kd.R_base ho0) hb); have n3_ := Aside0.mk (Kd.R_below (by (with_reducible repeat (first | apply Kd.R_alloc | apply Kd.R_drewN | apply Kd.R_drew)); exact HO146.out) hb); have n4_ := Aside0.mk (Kd.N_elder' (by (with_reducible repeat (first | apply Kd.N_alloc | apply Kd.N_drewN | apply Kd.N_drew)); exact HO155.out) (Kd.R_base ho0) hb); have n5_ := Aside0.mk (Kd.R_lower (Kd.R_new' ho0 (Kd.R_lt (by (with_reducible repeat (first | apply Kd.R_alloc | apply Kd.R_drewN | apply Kd.R_drew)); exact HO139.out))) (below_size (by repeat (first | (with_reducible first | exact HB.out | apply below_alloc | apply pw_below_drewN | apply below_drew1) | exact HB.out)))); have n6_ := Aside0.mk (below_step (by repeat (first | (with_reducible first | exact HB.out | apply below_alloc | apply pw_below_drewN | apply below_drew1) | exact HB.out)) hb); clear HO133; clear HO136; clear HO139; clear HO146; clear HO155; clear HB; have HO133 := n0_; have HO136 := n1_; have HO139 := n2_; have HO146 := n3_; have HO155 := n4_; have HO158 := n5_; have HB := n6_; clear n0_ n1_ n2_ n3_ n4_ n5_ n6_; (try clear hb); (try clear hb2); (try clear hk); (try clear hi); (try clear ho0); have hcv65 := own_string (P := Try.prog) Try.underlying32 Try.underlying5 Try.underlying9 (Kd.own_of_R HO139.out)))
      go_ret
      exact ⟨by first | rfl | (simp [errW_none, errW_some] <;> rfl) | (simp [*, errW_none, errW_some] <;> rfl), by repeat (first | (with_reducible first | exact HB.out | apply below_alloc | apply pw_below_drewN | apply below_drew1) | exact HB.out)⟩
  · rw [if_neg c5] at H
    have c5b0 : (t140 == 0) = false := beq_eq_false_iff_ne.mpr c5
    have c5b1 : (t140 != 0) = true := bne_iff_ne.mpr c5
    obtain rfl := Option.some.inj H
    go_enter Try.func7, Try.ntmps7
    go_wp2_with (first | ((with_reducible refine gate_callee (f := 12) rfl ?_); refine goesL_ (some 6) rfl rfl Try.func12 (by kernel_rfl) rfl #[] rfl (by (try simp only [List.map_toArray, List.map_cons, List.map_nil]); first | done | rfl | (simp only [List.length_drop, List.length_take]; rfl)) ?_; (with_reducible refine (reedpipelaw21_long.calls  t128 t129 t130 t131 _ A1.out).mono ?_); rintro e w66 ⟨v132, rfl, ho0, hb⟩; refine ⟨_, rfl, ?_⟩; have n0_ := Aside0.mk (Kd.R_lower ho0 (below_size (by repeat (first | (with_reducible first | exact HB.out | apply below_alloc | apply pw_below_drewN | apply below_drew1) | exact HB.out)))); have n1_ := Aside0.mk (below_step (by repeat (first | (with_reducible first | exact HB.out | apply below_alloc | apply pw_below_drewN | apply below_drew1) | exact HB.out)) hb); clear HB; have HO133 := n0_; have HB := n1_; clear n0_ n1_; (try clear hb); (try clear hb2); (try clear hk); (try clear hi); (try clear ho0)) | ((with_reducible refine gate_dst (N := 7) rfl ?_); refine Kd.N_lit (Kd.slice 38 k38) _ 35 ?hg (N' := 7) ?hd (xs := ([[]] : List (List (S38)))) (inner := [.slice none 0 0]) (ok := (fun k_ => some k_ ≠ (v132 : Value).ownBlock)) (okp := (fun k_ => some k_ ≠ (v132 : Value).ownBlock)) ?hr ?hp (fun _ hk => hk) ((show ∀ k_, w66.heap.size ≤ k_ → (fun k_ => some k_ ≠ (v132 : Value).ownBlock) k_ from fun k_ hk => Kd.fresh' (Kd.R_lt (by (with_reducible repeat (first | apply Kd.R_alloc | apply Kd.R_drewN | apply Kd.R_drew)); exact HO133.out)) k_ hk) _ (Nat.le_refl _)) (Below.refl _ _) (Nat.le_refl _) (by simp) ?_; (case hd => rfl); (case hg => rfl); (case hr => first | (go_simp; done) | (go_simp; rfl)); (case hp => exact (Reps.one (show Kd.FK (Kd.slice 38 k38) _ _ [] [.slice none 0 0] from (Kd.FK_slice_mk (Nat.le_refl _) (Kd.F_nil _ _ _))) (Reps.none _ _))); intro v135 w67 ho68 hb hg_ hnew_; clear hg_ hnew_; (first | rw [← Ny134.out] at ho68 | (simp only [Int.reduceToNat] at ho68; rw [← Ny134.out] at ho68)); have n0_ := Aside0.mk (Kd.R_below (by (with_reducible repeat (first | apply Kd.R_alloc | apply Kd.R_drewN | apply Kd.R_drew)); exact HO133.out) hb); have n1_ := Aside0.mk (Kd.N_lower ho68 (below_size (by repeat (first | (with_reducible first | exact HB.out | apply below_alloc | apply pw_below_drewN | apply below_drew1) | exact HB.out)))); have n2_ := Aside0.mk (below_step (by repeat (first | (with_reducible first | exact HB.out | apply below_alloc | apply pw_below_drewN | apply below_drew1) | exact HB.out)) hb); clear HO133; clear HB; have HO133 := n0_; have HO136 := n1_; have HB := n2_; clear n0_ n1_ n2_; clear hb ho68; obtain ⟨Ao69, co69, eo69⟩ := Kd.R_slice HO133.out; subst eo69; obtain ⟨Ao70, co70, eo70⟩ := Kd.N_slice HO136.out; subst eo70) | ((with_reducible refine gate_callee (f := 11) rfl ?_); refine goesL_ (some 8) rfl rfl Try.func11 (by kernel_rfl) rfl #[.slice none 0 0, .agg #[.int .u8 t128, .int .u8 t129, .int .i64 t130, .slice Ao69 t131.length co69], .slice Ao70 y134.length co70] rfl (by (try simp only [List.map_toArray, List.map_cons, List.map_nil]); first | done | rfl | (simp only [List.length_drop, List.length_take]; rfl)) ?_; (refine (tnsbits_Put.calls _ _ ([] : List Int) t128 t129 t130 _ _ t131 _ _ y134 t137 t140 _ ?side1 ?side2 ?side3 ?side4 ?side5 ?side6 A2.out).mono ?_); (case side1 => exact Kd.C_nil _ _); (case side2 => exact Nat.le_refl _); (case side3 => repeat (first | exact (Kd.R_reads' HO133.out).2.2 | (with_reducible refine Kd.C_alloc ?_ _) | (with_reducible refine Kd.C_drewN ?_ _) | (with_reducible refine Kd.C_drew ?_))); (case side4 => exact (Kd.R_reads' HO133.out).2.1); (case side5 => repeat (first | exact (Kd.N_reads' HO136.out).2.2 | (with_reducible refine Kd.C_alloc ?_ _) | (with_reducible refine Kd.C_drewN ?_ _) | (with_reducible refine Kd.C_drew ?_))); (case side6 => exact (Kd.N_reads' HO136.out).2.1); rintro e w71 ⟨v138, rfl, ho0, hb⟩; refine ⟨_, rfl, ?_⟩; have n0_ := Aside0.mk (Kd.R_below (by (with_reducible repeat (first | apply Kd.R_alloc | apply Kd.R_drewN | apply Kd.R_drew)); exact HO133.out) hb); have n1_ := Aside0.mk (Kd.N_elder' (by (with_reducible repeat (first | apply Kd.N_alloc | apply Kd.N_drewN | apply Kd.N_drew)); exact HO136.out) (Kd.R_base ho0) hb); have n2_ := Aside0.mk (Kd.R_lower ho0 (below_size (by repeat (first | (with_reducible first | exact HB.out | apply below_alloc | apply pw_below_drewN | apply below_drew1) | exact HB.out)))); have n3_ := Aside0.mk (below_step (by repeat (first | (with_reducible first | exact HB.out | apply below_alloc | apply pw_below_drewN | apply below_drew1) | exact HB.out)) hb); clear HO133; clear HO136; clear HB; have HO133 := n0_; have HO136 := n1_; have HO139 := n2_; have HB := n3_; clear n0_ n1_ n2_ n3_; (try clear hb); (try clear hb2); (try clear hk); (try clear hi); (try clear ho0)) | ((with_reducible refine gate_callee (f := 12) rfl ?_); refine goesL_ (some 12) rfl rfl Try.func12 (by kernel_rfl) rfl #[] rfl (by (try simp only [List.map_toArray, List.map_cons, List.map_nil]); first | done | rfl | (simp only [List.length_drop, List.length_take]; rfl)) ?_; (with_reducible refine (reedpipelaw21_long.calls  t141 t142 t143 t144 _ A3.out).mono ?_); rintro e w72 ⟨v145, rfl, ho0, hb⟩; refine ⟨_, rfl, ?_⟩; have n0_ := Aside0.mk (Kd.R_elder' (by (with_reducible repeat (first | apply Kd.R_alloc | apply Kd.R_drewN | apply Kd.R_drew)); exact HO133.out) (Kd.R_base ho0) hb); have n1_ := Aside0.mk (Kd.N_elder' (by (with_reducible repeat (first | apply Kd.N_alloc | apply Kd.N_drewN | apply Kd.N_drew)); exact HO136.out) (Kd.R_base ho0) hb); have n2_ := Aside0.mk (Kd.R_below (by (with_reducible repeat (first | apply Kd.R_alloc | apply Kd.R_drewN | apply Kd.R_drew)); exact HO139.out) hb); have n3_ := Aside0.mk (Kd.R_lower (Kd.R_new' ho0 (Kd.R_lt (by (with_reducible repeat (first | apply Kd.R_alloc | apply Kd.R_drewN | apply Kd.R_drew)); exact HO133.out))) (below_size (by repeat (first | (with_reducible first | exact HB.out | apply below_alloc | apply pw_below_drewN | apply below_drew1) | exact HB.out)))); have n4_ := Aside0.mk (below_step (by repeat (first | (with_reducible first | exact HB.out | apply below_alloc | apply pw_below_drewN | apply below_drew1) | exact HB.out)) hb); clear HO133; clear HO136; clear HO139; clear HB; have HO133 := n0_; have HO136 := n1_; have HO139 := n2_; have HO146 := n3_; have HB := n4_; clear n0_ n1_ n2_ n3_ n4_; (try clear hb); (try clear hb2); (try clear hk); (try clear hi); (try clear ho0)) | ((with_reducible refine gate_dst (N := 13) rfl ?_); refine Kd.R_lit (Kd.int .i64) _ 3 ?hg (N := 13) ?hd (xs := ([(-2)] : List Int)) (inner := [.int .i64 (-2)]) (ok := fun _ => True) (okp := fun _ => True) ?hr ?hp (fun _ hk => hk) trivial (Below.refl _ _) (Nat.le_refl _) (by simp) ?_; (case hd => rfl); (case hg => rfl); (case hr => first | (go_simp; done) | (go_simp; rfl)); (case hp => exact (Reps.one (show Kd.M (Kd.int .i64) _ _ _ (-2) [.int .i64 (-2)] from rfl) (Reps.none _ _))); intro v148 w73 ho74 hb hg_ hnew_; clear hg_ hnew_; (first | rw [← Ny147.out] at ho74 | (simp only [Int.reduceToNat] at ho74; rw [← Ny147.out] at ho74)); have n0_ := Aside0.mk (Kd.R_elder' (by (with_reducible repeat (first | apply Kd.R_alloc | apply Kd.R_drewN | apply Kd.R_drew)); exact HO133.out) (Kd.R_base ho74) hb); have n1_ := Aside0.mk (Kd.N_elder' (by (with_reducible repeat (first | apply Kd.N_alloc | apply Kd.N_drewN | apply Kd.N_drew)); exact HO136.out) (Kd.R_base ho74) hb); have n2_ := Aside0.mk (Kd.R_below (by (with_reducible repeat (first | apply Kd.R_alloc | apply Kd.R_drewN | apply Kd.R_drew)); exact HO139.out) hb); have n3_ := Aside0.mk (Kd.R_elder' (by (with_reducible repeat (first | apply Kd.R_alloc | apply Kd.R_drewN | apply Kd.R_drew)); exact HO146.out) (Kd.R_base ho74) hb); have n4_ := Aside0.mk (Kd.R_lower (Kd.R_new' (Kd.R_new' ho74 (Kd.R_lt (by (with_reducible repeat (first | apply Kd.R_alloc | apply Kd.R_drewN | apply Kd.R_drew)); exact HO133.out))) (Kd.R_lt (by (with_reducible repeat (first | apply Kd.R_alloc | apply Kd.R_drewN | apply Kd.R_drew)); exact HO146.out))) (below_size (by repeat (first | (with_reducible first | exact HB.out | apply below_alloc | apply pw_below_drewN | apply below_drew1) | exact HB.out)))); have n5_ := Aside0.mk (below_step (by repeat (first | (with_reducible first | exact HB.out | apply below_alloc | apply pw_below_drewN | apply below_drew1) | exact HB.out)) hb); clear HO133; clear HO136; clear HO139; clear HO146; clear HB; have HO133 := n0_; have HO136 := n1_; have HO139 := n2_; have HO146 := n3_; have HO149 := n4_; have HB := n5_; clear n0_ n1_ n2_ n3_ n4_ n5_; clear hb ho74; obtain ⟨Ao75, co75, eo75⟩ := Kd.R_slice HO149.out; subst eo75) | ((with_reducible refine gate_dst (N := 15) rfl ?_); refine Kd.N_lit k38 _ 38 ?hg (N' := 15) ?hd (xs := ([(⟨1, 1, true, false, y147⟩ : S38)] : List (S38))) (inner := [.int .i64 1, .int .i64 1, .bool true, .bool false, .slice Ao75 y147.length co75]) (ok := (fun k_ => some k_ ≠ (.slice Ao69 t131.length co69 : Value).ownBlock ∧ some k_ ≠ (.slice Ao70 y134.length co70 : Value).ownBlock ∧ some k_ ≠ (v138 : Value).ownBlock ∧ some k_ ≠ (v145 : Value).ownBlock)) (okp := (fun k_ => some k_ ≠ (.slice Ao69 t131.length co69 : Value).ownBlock ∧ some k_ ≠ (.slice Ao70 y134.length co70 : Value).ownBlock ∧ some k_ ≠ (v138 : Value).ownBlock ∧ some k_ ≠ (v145 : Value).ownBlock)) ?hr ?hp (fun _ hk => hk) ((show ∀ k_, w73.heap.size ≤ k_ → (fun k_ => some k_ ≠ (.slice Ao69 t131.length co69 : Value).ownBlock ∧ some k_ ≠ (.slice Ao70 y134.length co70 : Value).ownBlock ∧ some k_ ≠ (v138 : Value).ownBlock ∧ some k_ ≠ (v145 : Value).ownBlock) k_ from fun k_ hk => ⟨Kd.fresh' (Kd.R_lt (by (with_reducible repeat (first | apply Kd.R_alloc | apply Kd.R_drewN | apply Kd.R_drew)); exact HO133.out)) k_ hk, Kd.fresh' (Kd.N_lt (by (with_reducible repeat (first | apply Kd.N_alloc | apply Kd.N_drewN | apply Kd.N_drew)); exact HO136.out)) k_ hk, Kd.fresh' (Kd.R_lt (by (with_reducible repeat (first | apply Kd.R_alloc | apply Kd.R_drewN | apply Kd.R_drew)); exact HO139.out)) k_ hk, Kd.fresh' (Kd.R_lt (by (with_reducible repeat (first | apply Kd.R_alloc | apply Kd.R_drewN | apply Kd.R_drew)); exact HO146.out)) k_ hk⟩) _ (Nat.le_refl _)) (Below.refl _ _) (Nat.le_refl _) (by simp) ?_; (case hd => rfl); (case hg => rfl); (case hr => first | (go_simp; done) | (go_simp; rfl)); (case hp => exact (Reps.c5 (show Kd.FK k38 _ _ (⟨1, 1, true, false, y147⟩ : S38) [.int .i64 1, .int .i64 1, .bool true, .bool false, .slice Ao75 y147.length co75] from (k38_mkF _ _ (⟨1, 1, true, false, y147⟩ : S38) (Kd.R_reads' (Kd.R_mono (ok' := (fun k_ => some k_ ≠ (.slice Ao69 t131.length co69 : Value).ownBlock ∧ some k_ ≠ (.slice Ao70 y134.length co70 : Value).ownBlock ∧ some k_ ≠ (v138 : Value).ownBlock ∧ some k_ ≠ (v145 : Value).ownBlock)) (Kd.R_apart' (Kd.R_apart' (HO149.out) (Kd.N_typed HO136.out) (by decide)) (Kd.R_typed HO139.out) (by decide)) (fun k_ hk => ⟨hk.1.1.1.2, ⟨hk.1.2, ⟨hk.2, hk.1.1.2⟩⟩⟩))).2.1 (Kd.R_F (Kd.R_mono (ok' := (fun k_ => some k_ ≠ (.slice Ao69 t131.length co69 : Value).ownBlock ∧ some k_ ≠ (.slice Ao70 y134.length co70 : Value).ownBlock ∧ some k_ ≠ (v138 : Value).ownBlock ∧ some k_ ≠ (v145 : Value).ownBlock)) (Kd.R_apart' (Kd.R_apart' (HO149.out) (Kd.N_typed HO136.out) (by decide)) (Kd.R_typed HO139.out) (by decide)) (fun k_ hk => ⟨hk.1.1.1.2, ⟨hk.1.2, ⟨hk.2, hk.1.1.2⟩⟩⟩))))) (Reps.none _ _))); intro v151 w76 ho77 hb hg_ hnew_; clear hg_ hnew_; (first | rw [← Ny150.out] at ho77 | (simp only [Int.reduceToNat] at ho77; rw [← Ny150.out] at ho77)); have n0_ := Aside0.mk (Kd.R_below (by (with_reducible repeat (first | apply Kd.R_alloc | apply Kd.R_drewN | apply Kd.R_drew)); exact HO133.out) hb); have n1_ := Aside0.mk (Kd.N_elder' (by (with_reducible repeat (first | apply Kd.N_alloc | apply Kd.N_drewN | apply Kd.N_drew)); exact HO136.out) (Kd.N_base ho77) hb); have n2_ := Aside0.mk (Kd.R_below (by (with_reducible repeat (first | apply Kd.R_alloc | apply Kd.R_drewN | apply Kd.R_drew)); exact HO139.out) hb); have n3_ := Aside0.mk (Kd.R_below (by (with_reducible repeat (first | apply Kd.R_alloc | apply Kd.R_drewN | apply Kd.R_drew)); exact HO146.out) hb); have n4_ := Aside0.mk (Kd.N_lower ho77 (below_size (by repeat (first | (with_reducible first | exact HB.out | apply below_alloc | apply pw_below_drewN | apply below_drew1) | exact HB.out)))); have n5_ := Aside0.mk (below_step (by repeat (first | (with_reducible first | exact HB.out | apply below_alloc | apply pw_below_drewN | apply below_drew1) | exact HB.out)) hb); clear HO133; clear HO136; clear HO139; clear HO146; clear HB; clear HO149; have HO133 := n0_; have HO136 := n1_; have HO139 := n2_; have HO146 := n3_; have HO152 := n4_; have HB := n5_; clear n0_ n1_ n2_ n3_ n4_ n5_; clear hb ho77; obtain ⟨Ao78, co78, eo78⟩ := Kd.N_slice HO152.out; subst eo78) | ((with_reducible refine gate_dst (N := 16) rfl ?_); refine Kd.N_lit (Kd.slice 38 k38) _ 35 ?hg (N' := 16) ?hd (xs := ([y150] : List (List (S38)))) (inner := [.slice Ao78 y150.length co78]) (ok := (fun k_ => some k_ ≠ (.slice Ao69 t131.length co69 : Value).ownBlock ∧ some k_ ≠ (.slice Ao70 y134.length co70 : Value).ownBlock ∧ some k_ ≠ (v138 : Value).ownBlock ∧ some k_ ≠ (v145 : Value).ownBlock)) (okp := (fun k_ => some k_ ≠ (.slice Ao69 t131.length co69 : Value).ownBlock ∧ some k_ ≠ (.slice Ao70 y134.length co70 : Value).ownBlock ∧ some k_ ≠ (v138 : Value).ownBlock ∧ some k_ ≠ (v145 : Value).ownBlock)) ?hr ?hp (fun _ hk => hk) ((show ∀ k_, w76.heap.size ≤ k_ → (fun k_ => some k_ ≠ (.slice Ao69 t131.length co69 : Value).ownBlock ∧ some k_ ≠ (.slice Ao70 y134.length co70 : Value).ownBlock ∧ some k_ ≠ (v138 : Value).ownBlock ∧ some k_ ≠ (v145 : Value).ownBlock) k_ from fun k_ hk => ⟨Kd.fresh' (Kd.R_lt (by (with_reducible repeat (first | apply Kd.R_alloc | apply Kd.R_drewN | apply Kd.R_drew)); exact HO133.out)) k_ hk, Kd.fresh' (Kd.N_lt (by (with_reducible repeat (first | apply Kd.N_alloc | apply Kd.N_drewN | apply Kd.N_drew)); exact HO136.out)) k_ hk, Kd.fresh' (Kd.R_lt (by (with_reducible repeat (first | apply Kd.R_alloc | apply Kd.R_drewN | apply Kd.R_drew)); exact HO139.out)) k_ hk, Kd.fresh' (Kd.R_lt (by (with_reducible repeat (first | apply Kd.R_alloc | apply Kd.R_drewN | apply Kd.R_drew)); exact HO146.out)) k_ hk⟩) _ (Nat.le_refl _)) (Below.refl _ _) (Nat.le_refl _) (by simp) ?_; (case hd => rfl); (case hg => rfl); (case hr => first | (go_simp; done) | (go_simp; rfl)); (case hp => exact (Reps.one (show Kd.FK (Kd.slice 38 k38) _ _ y150 [.slice Ao78 y150.length co78] from (Kd.FK_slice_mk (Kd.N_reads' (Kd.N_mono (ok' := (fun k_ => some k_ ≠ (.slice Ao69 t131.length co69 : Value).ownBlock ∧ some k_ ≠ (.slice Ao70 y134.length co70 : Value).ownBlock ∧ some k_ ≠ (v138 : Value).ownBlock ∧ some k_ ≠ (v145 : Value).ownBlock)) (HO152.out) (fun k_ hk => ⟨hk.1, ⟨hk.2.1, ⟨hk.2.2.1, hk.2.2.2⟩⟩⟩))).2.1 (Kd.N_F (Kd.N_mono (ok' := (fun k_ => some k_ ≠ (.slice Ao69 t131.length co69 : Value).ownBlock ∧ some k_ ≠ (.slice Ao70 y134.length co70 : Value).ownBlock ∧ some k_ ≠ (v138 : Value).ownBlock ∧ some k_ ≠ (v145 : Value).ownBlock)) (HO152.out) (fun k_ hk => ⟨hk.1, ⟨hk.2.1, ⟨hk.2.2.1, hk.2.2.2⟩⟩⟩))))) (Reps.none _ _))); intro v154 w79 ho80 hb hg_ hnew_; clear hg_ hnew_; (first | rw [← Ny153.out] at ho80 | (simp only [Int.reduceToNat] at ho80; rw [← Ny153.out] at ho80)); have n0_ := Aside0.mk (Kd.R_below (by (with_reducible repeat (first | apply Kd.R_alloc | apply Kd.R_drewN | apply Kd.R_drew)); exact HO133.out) hb); have n1_ := Aside0.mk (Kd.N_elder' (by (with_reducible repeat (first | apply Kd.N_alloc | apply Kd.N_drewN | apply Kd.N_drew)); exact HO136.out) (Kd.N_base ho80) hb); have n2_ := Aside0.mk (Kd.R_below (by (with_reducible repeat (first | apply Kd.R_alloc | apply Kd.R_drewN | apply Kd.R_drew)); exact HO139.out) hb); have n3_ := Aside0.mk (Kd.R_below (by (with_reducible repeat (first | apply Kd.R_alloc | apply Kd.R_drewN | apply Kd.R_drew)); exact HO146.out) hb); have n4_ := Aside0.mk (Kd.N_lower ho80 (below_size (by repeat (first | (with_reducible first | exact HB.out | apply below_alloc | apply pw_below_drewN | apply below_drew1) | exact HB.out)))); have n5_ := Aside0.mk (below_step (by repeat (first | (with_reducible first | exact HB.out | apply below_alloc | apply pw_below_drewN | apply below_drew1) | exact HB.out)) hb); clear HO133; clear HO136; clear HO139; clear HO146; clear HB; clear HO152; have HO133 := n0_; have HO136 := n1_; have HO139 := n2_; have HO146 := n3_; have HO155 := n4_; have HB := n5_; clear n0_ n1_ n2_ n3_ n4_ n5_; clear hb ho80; obtain ⟨Ao81, co81, eo81⟩ := Kd.R_slice HO146.out; subst eo81; obtain ⟨Ao82, co82, eo82⟩ := Kd.N_slice HO155.out; subst eo82) | ((with_reducible refine gate_callee (f := 11) rfl ?_); refine goesL_ (some 17) rfl rfl Try.func11 (by kernel_rfl) rfl #[.slice none 0 0, .agg #[.int .u8 t141, .int .u8 t142, .int .i64 t143, .slice Ao81 t144.length co81], .slice Ao82 y153.length co82] rfl (by (try simp only [List.map_toArray, List.map_cons, List.map_nil]); first | done | rfl | (simp only [List.length_drop, List.length_take]; rfl)) ?_; (refine (tnsbits_Put.calls _ _ ([] : List Int) t141 t142 t143 _ _ t144 _ _ y153 t156 t159 _ ?side1 ?side2 ?side3 ?side4 ?side5 ?side6 A4.out).mono ?_); (case side1 => exact Kd.C_nil _ _); (case side2 => exact Nat.le_refl _); (case side3 => repeat (first | exact (Kd.R_reads' HO146.out).2.2 | (with_reducible refine Kd.C_alloc ?_ _) | (with_reducible refine Kd.C_drewN ?_ _) | (with_reducible refine Kd.C_drew ?_))); (case side4 => exact (Kd.R_reads' HO146.out).2.1); (case side5 => repeat (first | exact (Kd.N_reads' HO155.out).2.2 | (with_reducible refine Kd.C_alloc ?_ _) | (with_reducible refine Kd.C_drewN ?_ _) | (with_reducible refine Kd.C_drew ?_))); (case side6 => exact (Kd.N_reads' HO155.out).2.1); rintro e w83 ⟨v157, rfl, ho0, hb⟩; refine ⟨_, rfl, ?_⟩; have n0_ := Aside0.mk (Kd.R_below (by (with_reducible repeat (first | apply Kd.R_alloc | apply Kd.R_drewN | apply Kd.R_drew)); exact HO133.out) hb); have n1_ := Aside0.mk (Kd.N_elder' (by (with_reducible repeat (first | apply Kd.N_alloc | apply Kd.N_drewN | apply Kd.N_drew)); exact HO136.out) (Kd.R_base ho0) hb); have n2_ := Aside0.mk (Kd.R_elder' (by (with_reducible repeat (first | apply Kd.R_alloc | apply Kd.R_drewN | apply Kd.R_drew)); exact HO139.out) (Kd.R_base ho0) hb); have n3_ := Aside0.mk (Kd.R_below (by (with_reducible repeat (first | apply Kd.R_alloc | apply Kd.R_drewN | apply Kd.R_drew)); exact HO146.out) hb); have n4_ := Aside0.mk (Kd.N_elder' (by (with_reducible repeat (first | apply Kd.N_alloc | apply Kd.N_drewN | apply Kd.N_drew)); exact HO155.out) (Kd.R_base ho0) hb); have n5_ := Aside0.mk (Kd.R_lower (Kd.R_new' ho0 (Kd.R_lt (by (with_reducible repeat (first | apply Kd.R_alloc | apply Kd.R_drewN | apply Kd.R_drew)); exact HO139.out))) (below_size (by repeat (first | (with_reducible first | exact HB.out | apply below_alloc | apply pw_below_drewN | apply below_drew1) | exact HB.out)))); have n6_ := Aside0.mk (below_step (by repeat (first | (with_reducible first | exact HB.out | apply below_alloc | apply pw_below_drewN | apply below_drew1) | exact HB.out)) hb); clear HO133; clear HO136; clear HO139; clear HO146; clear HO155; clear HB; have HO133 := n0_; have HO136 := n1_; have HO139 := n2_; have HO146 := n3_; have HO155 := n4_; have HO158 := n5_; have HB := n6_; clear n0_ n1_ n2_ n3_ n4_ n5_ n6_; (try clear hb); (try clear hb2); (try clear hk); (try clear hi); (try clear ho0)))
    go_ret
    exact ⟨by first | rfl | (simp [errW_none, errW_some] <;> rfl) | (simp [*, errW_none, errW_some] <;> rfl), by repeat (first | (with_reducible first | exact HB.out | apply below_alloc | apply pw_below_drewN | apply below_drew1) | exact HB.out)⟩

end Go.Proofs.Ytdhcgfdnhlhapaa.K
end
section
/- bits.Get without rounds: the number of some bits; what was put is got. -/
namespace Go.Proofs.Ytdhcgfdnhlhapaa.SG
open Go.RowKit Go.Proofs.YtdhcgfdnhlhapaaW.PrintWords Go.Proofs.YtdhcgfdnhlhapaaW.PrintLast Go.Proofs.YtdhcgfdnhlhapaaW.PrintMore Go.Proofs.Ytdhcgfdnhlhapaa.HA Go.Proofs.Ytdhcgfdnhlhapaa.HP Go.Proofs.Ytdhcgfdnhlhapaa.K
set_option linter.unusedVariables false

theorem or_bit (n b : Int) (h0 : 0 ≤ n) (h1 : n ≤ 4611686018427387903) (hb0 : 0 ≤ b) (hb : b ≤ 1) : Go.bits .or .i64 (n * 2) b = n * 2 + b := by
  obtain ⟨a, rfl⟩ := Int.eq_ofNat_of_zero_le h0
  obtain ⟨c, rfl⟩ := Int.eq_ofNat_of_zero_le hb0
  have e1 : (BitVec.ofInt 64 ((a : Int) * 2)).toNat = 2 * a := by
    rw [show (a : Int) * 2 = ((2 * a : Nat) : Int) by omega, BitVec.ofInt_natCast, BitVec.toNat_ofNat]; exact Nat.mod_eq_of_lt (by omega)
  have e2 : (BitVec.ofInt 64 (c : Int)).toNat = c := by
    rw [BitVec.ofInt_natCast, BitVec.toNat_ofNat]; exact Nat.mod_eq_of_lt (by omega)
  show IntKind.i64.wrap ((BitVec.ofInt 64 ((a : Int) * 2) ||| BitVec.ofInt 64 (c : Int)).toNat : Int) = _
  have e3 := Nat.two_pow_add_eq_or_of_lt (i := 1) (b := c) (by omega) a
  rw [BitVec.toNat_or, e1, e2, show 2 * a = 2 ^ 1 * a from rfl, ← e3, IntKind.wrap_i64]
  omega

/-- The number whose bits stand behind n's. -/
def numFrom (n : Int) : List Int → Int
  | [] => n
  | x :: l => numFrom (n * 2 + x) l
def numOf (l : List Int) : Int := numFrom 0 l
def bitsOk (l : List Int) : Bool := l.all (fun x => decide (x ≤ 1))
theorem get_l0 (b : List Int) (hb : ∀ y ∈ b, 0 ≤ y ∧ y ≤ 255) (p size : Nat) (hs : size ≤ 31) (hl : p + size ≤ b.length) (hbl : b.length ≤ 4611686018427387904) : ∀ (d k i : Nat) (n : Int), size - i = d → i ≤ size → d < k → 0 ≤ n → n < 2 ^ i →
    bits_Get.l0 k b (p : Int) (size : Int) n (size : Int) (i : Int) = some (if bitsOk ((b.drop (p + i)).take d) = true then (numFrom n ((b.drop (p + i)).take d), ((p + size : Nat) : Int), 0) else (0, 0, 8)) := by
  intro d
  induction d with
  | zero =>
    intro k i n hd hi hk h0 h1
    obtain ⟨k, rfl⟩ : ∃ m, k = m + 1 := ⟨k - 1, by omega⟩
    simp only [bits_Get.l0]
    rw [if_neg (by omega), wrap_id _ (by omega) (by omega)]
    simp [bitsOk, numFrom]
  | succ d ih =>
    intro k i n hd hi hk h0 h1
    obtain ⟨k, rfl⟩ : ∃ m, k = m + 1 := ⟨k - 1, by omega⟩
    simp only [bits_Get.l0]
    have hw : wrap64 ((p : Int) + (i : Int)) = ((p + i : Nat) : Int) := by rw [wrap_id _ (by omega) (by omega)]; omega
    rw [hw, if_pos (by omega), if_pos (by omega), if_pos (by omega), drop_at b (p + i) (by omega), List.take_succ_cons]
    have hr : 0 ≤ rd b ((p + i : Nat) : Int) ∧ rd b ((p + i : Nat) : Int) ≤ 255 := by rw [rd_at b (p + i) (by omega)]; exact hb _ (List.getElem_mem _)
    have h31 : (2 : Int) ^ i ≤ 2147483648 := by
      have h31 : (2 : Int) ^ i ≤ 2 ^ 31 := by exact_mod_cast Nat.pow_le_pow_right (by omega) (show i ≤ 31 by omega)
      simpa using h31
    by_cases hx : rd b ((p + i : Nat) : Int) > 1
    · rw [if_pos hx, if_neg]
      simp only [bitsOk, List.all_cons, Bool.and_eq_true, decide_eq_true_eq]
      intro h
      omega
    · rw [if_neg hx, wrap_id (n * 2) (by omega) (by omega), wrap_id (rd b ((p + i : Nat) : Int)) (by omega) (by omega), or_bit n _ h0 (by omega) hr.1 (by omega), wrap_succ i (by omega)]
      rw [ih k (i + 1) (n * 2 + rd b ((p + i : Nat) : Int)) (by omega) (by omega) (by omega) (by omega) (by rw [Int.pow_succ]; omega)]
      rw [show p + (i + 1) = p + i + 1 by omega]
      have e1 : decide (rd b ((p + i : Nat) : Int) ≤ 1) = true := decide_eq_true (by omega)
      simp only [bitsOk, List.all_cons, e1, Bool.true_and, numFrom]
      rfl
def getS (b : List Int) (p size : Int) : Int × Int × Int :=
  if size < 0 ∨ size > 31 ∨ p < 0 ∨ p > b.length then (0, 0, 2) else if (b.length : Int) - p < size then (0, 0, 5)
  else if bitsOk ((b.drop p.toNat).take size.toNat) = true then (numOf ((b.drop p.toNat).take size.toNat), p + size, 0) else (0, 0, 8)
theorem get_f (b : List Int) (hb : ∀ y ∈ b, 0 ≤ y ∧ y ≤ 255) (hbl : b.length ≤ 4611686018427387904) (p size : Int) (k : Nat) (hk : 40 < k) : bits_Get.f k b p size = some (getS b p size) := by
  unfold bits_Get.f getS
  obtain ⟨k, rfl⟩ : ∃ m, k = m + 1 := ⟨k - 1, by omega⟩
  have hz : bits_sized.f size = some (decide (0 ≤ size ∧ size ≤ 31)) := by
    unfold bits_sized.f
    by_cases h0 : size ≥ 0
    · rw [if_pos h0]
      simp [h0]
    · rw [if_neg h0]
      simp
      omega
  rw [hz]
  simp only [Option.bind_some, decide_eq_true_eq]
  by_cases h1 : 0 ≤ size ∧ size ≤ 31
  · rw [if_pos h1]
    by_cases h2 : p < 0
    · rw [if_pos h2, if_pos (Or.inr (Or.inr (Or.inl h2)))]
      simp only [bits_Get.j0, if_true]
    · rw [if_neg h2]
      by_cases h3 : p > b.length
      · rw [decide_eq_true h3, if_pos (Or.inr (Or.inr (Or.inr h3)))]
        simp only [bits_Get.j0, if_true]
      · rw [decide_eq_false h3, if_neg (by omega)]
        simp only [bits_Get.j0, Bool.false_eq_true, if_false]
        rw [wrap_id _ (by omega) (by omega)]
        by_cases h4 : (b.length : Int) - p < size
        · rw [if_pos h4, if_pos h4]
        · rw [if_neg h4, if_neg h4]
          obtain ⟨q, rfl⟩ := Int.eq_ofNat_of_zero_le (show 0 ≤ p by omega)
          obtain ⟨s, rfl⟩ := Int.eq_ofNat_of_zero_le h1.1
          have := get_l0 b hb q s (by omega) (by omega) hbl s k 0 0 (by omega) (by omega) (by omega) (by omega) (by decide)
          simp only [Nat.add_zero] at this
          rw [show ((0 : Nat) : Int) = 0 from rfl] at this
          rw [this]
          simp only [Int.toNat_natCast, numOf]
          rw [Int.natCast_add]
  · rw [if_neg h1, if_pos (by omega)]
    simp only [bits_Get.j0, if_true]

/-! ### numbers and their bits -/
theorem numFrom_append (n : Int) (l r : List Int) : numFrom n (l ++ r) = numFrom (numFrom n l) r := by
  induction l generalizing n with
  | nil => rfl
  | cons x l ih => exact ih _
theorem numFrom_bounds (l : List Int) (h : ∀ x ∈ l, 0 ≤ x ∧ x ≤ 1) : ∀ n : Int, 0 ≤ n → n * 2 ^ l.length ≤ numFrom n l ∧ numFrom n l < (n + 1) * 2 ^ l.length := by
  induction l with
  | nil => intro n h0; simp [numFrom]; omega
  | cons x l ih =>
    intro n h0
    have hx := h x List.mem_cons_self
    obtain ⟨i1, i2⟩ := ih (fun y hy => h y (List.mem_cons_of_mem _ hy)) (n * 2 + x) (by omega)
    have hp : (0 : Int) < 2 ^ l.length := Int.pow_pos (by omega)
    simp only [numFrom, List.length_cons, Int.pow_succ]
    constructor
    · refine Int.le_trans ?_ i1
      have : n * (2 ^ l.length * 2) = (n * 2) * 2 ^ l.length := by rw [Int.mul_comm (2 ^ l.length) 2, ← Int.mul_assoc]
      rw [this]
      exact Int.mul_le_mul_of_nonneg_right (by omega) (by omega)
    · refine Int.lt_of_lt_of_le i2 ?_
      have : (n + 1) * (2 ^ l.length * 2) = ((n + 1) * 2) * 2 ^ l.length := by rw [Int.mul_comm (2 ^ l.length) 2, ← Int.mul_assoc]
      rw [this]
      exact Int.mul_le_mul_of_nonneg_right (by omega) (by omega)
theorem numOf_bounds (l : List Int) (h : ∀ x ∈ l, 0 ≤ x ∧ x ≤ 1) : 0 ≤ numOf l ∧ numOf l < 2 ^ l.length := by
  have := numFrom_bounds l h 0 (by omega)
  unfold numOf
  omega
theorem bitsOf_succ (n : Int) (s : Nat) : bitsOf n (s + 1) = bitsOf (n / 2) s ++ [n % 2] := by
  unfold bitsOf
  rw [upto_succ]
  congr 1
  · unfold upto
    apply List.map_congr_left
    intro j hj
    have hj : j < s := List.mem_range.1 hj
    unfold bitAt
    rw [show s + 1 - 1 - j = (s - 1 - j) + 1 by omega, Int.pow_succ, Int.mul_comm, Int.ediv_ediv_of_nonneg (by omega : (0:Int) ≤ 2)]
  · unfold bitAt
    simp
theorem numOf_bitsOf (s : Nat) : ∀ n : Int, 0 ≤ n → n < 2 ^ s → numOf (bitsOf n s) = n := by
  induction s with
  | zero =>
    intro n h0 h1
    simp at h1
    obtain rfl : n = 0 := by omega
    rfl
  | succ s ih =>
    intro n h0 h1
    rw [Int.pow_succ] at h1
    have := ih (n / 2) (by omega) (by omega)
    rw [bitsOf_succ]
    unfold numOf at this ⊢
    rw [numFrom_append, this]
    simp only [numFrom]
    omega
theorem bitsOf_numOf (l : List Int) (h : ∀ x ∈ l, 0 ≤ x ∧ x ≤ 1) : bitsOf (numOf l) l.length = l := by
  induction hl : l.length generalizing l with
  | zero =>
    have : l = [] := List.eq_nil_of_length_eq_zero hl
    subst this
    rfl
  | succ s ih =>
    have hne : l ≠ [] := by intro e; subst e; cases hl
    obtain ⟨r, x, rfl⟩ : ∃ r x, l = r ++ [x] := ⟨l.dropLast, l.getLast hne, (List.dropLast_concat_getLast hne).symm⟩
    have hx := h x (by simp)
    have hr : r.length = s := by simpa using hl
    have hi := ih r (fun y hy => h y (by simp [hy])) hr
    rw [bitsOf_succ]
    have e : numOf (r ++ [x]) = numOf r * 2 + x := by
      unfold numOf
      rw [numFrom_append]
      rfl
    rw [e, show (numOf r * 2 + x) / 2 = numOf r by omega, show (numOf r * 2 + x) % 2 = x by omega, hi]
theorem bitsOf_01 (n : Int) (s : Nat) : ∀ x ∈ bitsOf n s, 0 ≤ x ∧ x ≤ 1 := by
  intro x hx
  unfold bitsOf upto at hx
  obtain ⟨j, _, rfl⟩ := List.mem_map.1 hx
  unfold bitAt
  omega
theorem bitsOk_of {l : List Int} (h : ∀ x ∈ l, 0 ≤ x ∧ x ≤ 1) : bitsOk l = true := by
  unfold bitsOk
  rw [List.all_eq_true]
  intro x hx
  exact decide_eq_true (h x hx).2
/-- What was put is got. -/
theorem getS_put (pre post : List Int) (n : Int) (s : Nat) (hs : s ≤ 31) (h0 : 0 ≤ n) (h1 : n < 2 ^ s) : getS (pre ++ bitsOf n s ++ post) (pre.length : Int) (s : Int) = (n, ((pre.length + s : Nat) : Int), 0) := by
  have hl := bitsOf_length n s
  have e : ((pre ++ bitsOf n s ++ post).drop pre.length).take s = bitsOf n s := by
    rw [List.append_assoc, List.drop_left]
    conv => lhs; arg 1; rw [← hl]
    exact List.take_left
  unfold getS
  simp only [Int.toNat_natCast]
  rw [if_neg (by simp only [List.length_append]; omega), if_neg (by simp only [List.length_append]; omega), e, bitsOk_of (bitsOf_01 n s), if_pos rfl, numOf_bitsOf s n h0 h1]
  simp
/-- What is got when all is well: the bits that stand there are the number's. -/
theorem getS_ok {b : List Int} (hb : ∀ y ∈ b, 0 ≤ y ∧ y ≤ 255) {p size n q : Int} (h : getS b p size = (n, q, 0)) : 0 ≤ p ∧ 0 ≤ size ∧ size ≤ 31 ∧ q = p + size ∧ q ≤ b.length ∧ 0 ≤ n ∧ n < 2 ^ size.toNat ∧ (b.drop p.toNat).take size.toNat = bitsOf n size.toNat := by
  unfold getS at h
  split at h
  · simp at h
  · next h1 =>
    split at h
    · simp at h
    · next h2 =>
      split at h
      · next h3 =>
        simp only [Prod.mk.injEq, and_true] at h
        obtain ⟨rfl, rfl⟩ := h
        have h01 : ∀ x ∈ (b.drop p.toNat).take size.toNat, 0 ≤ x ∧ x ≤ 1 := by
          intro x hx
          refine ⟨(hb x (List.mem_of_mem_drop (List.mem_of_mem_take hx))).1, ?_⟩
          unfold bitsOk at h3
          simpa using List.all_eq_true.1 h3 x hx
        have hlen : ((b.drop p.toNat).take size.toNat).length = size.toNat := by
          rw [List.length_take, List.length_drop]
          omega
        have hbd := numOf_bounds _ h01
        have hbo := bitsOf_numOf _ h01
        rw [hlen] at hbd hbo
        exact ⟨by omega, by omega, by omega, rfl, by omega, hbd.1, hbd.2, hbo.symm⟩
      · simp at h
/-- Whatever is got is a number of so many bits. -/
theorem getS_bounds {b : List Int} (hb : ∀ y ∈ b, 0 ≤ y ∧ y ≤ 255) (p : Int) (s : Nat) : 0 ≤ (getS b p s).1 ∧ (getS b p s).1 < 2 ^ s ∧ 0 ≤ (getS b p s).2.1 ∧ (getS b p s).2.1 ≤ b.length ∧ ((getS b p s).2.2 = 0 ∨ (getS b p s).2.2 = 2 ∨ (getS b p s).2.2 = 5 ∨ (getS b p s).2.2 = 8) ∧ ((getS b p s).2.2 ≠ 0 → getS b p s = (0, 0, (getS b p s).2.2)) := by
  have hp : (0 : Int) < 2 ^ s := Int.pow_pos (by omega)
  rcases hg : getS b p s with ⟨n, q, e⟩
  by_cases he : e = 0
  · subst he
    obtain ⟨h1, h2, h3, h4, h5, h6, h7, _⟩ := getS_ok hb hg
    simp only [Int.toNat_natCast] at h7
    exact ⟨h6, h7, by show 0 ≤ q; omega, h5, Or.inl rfl, fun h => absurd rfl h⟩
  · unfold getS at hg
    split at hg
    · simp only [Prod.mk.injEq] at hg
      obtain ⟨rfl, rfl, rfl⟩ := hg
      exact ⟨Int.le_refl _, hp, Int.le_refl _, Int.natCast_nonneg _, by simp, fun _ => rfl⟩
    · split at hg
      · simp only [Prod.mk.injEq] at hg
        obtain ⟨rfl, rfl, rfl⟩ := hg
        exact ⟨Int.le_refl _, hp, Int.le_refl _, Int.natCast_nonneg _, by simp, fun _ => rfl⟩
      · split at hg
        · simp only [Prod.mk.injEq] at hg
          exact absurd hg.2.2.symm he
        · simp only [Prod.mk.injEq] at hg
          obtain ⟨rfl, rfl, rfl⟩ := hg
          exact ⟨Int.le_refl _, hp, Int.le_refl _, Int.natCast_nonneg _, by simp, fun _ => rfl⟩
end Go.Proofs.Ytdhcgfdnhlhapaa.SG
end
section
/- info.Get as a plain function of bits. -/
namespace Go.Proofs.Ytdhcgfdnhlhapaa.SG
open Go.RowKit Go.Proofs.YtdhcgfdnhlhapaaW.PrintWords Go.Proofs.YtdhcgfdnhlhapaaW.PrintLast Go.Proofs.YtdhcgfdnhlhapaaW.PrintMore Go.Proofs.Ytdhcgfdnhlhapaa.HA Go.Proofs.Ytdhcgfdnhlhapaa.HP Go.Proofs.Ytdhcgfdnhlhapaa.K
set_option linter.unusedVariables false

/-- The number of the next bits, where no error has been met; (place, error). -/
def getN (b : List Int) (s : Int × Int) (size : Int) : Int × Int × Int := if s.2 = 0 then getS b s.1 size else (0, s.1, s.2)
/-- Last number of a list one greater. -/
def bump (gs : List Int) : List Int := gs.set (gs.length - 1) (rd gs ((gs.length - 1 : Nat) : Int) + 1)
def grpStep (b : List Int) (st : List Int × Int × Int) : List Int × Int × Int :=
  (if (getN b st.2 1).1 = 1 then bump st.1 else st.1 ++ [1], (getN b st.2 1).2)
def grpN (b : List Int) (s0 : List Int × Int × Int) : Nat → List Int × Int × Int
  | 0 => s0
  | i + 1 => grpStep b (grpN b s0 i)
def getFin (rate odd seq shape max : Int) (st : List Int × Int × Int) : Int × Int × Int × List Int × Int × Int :=
  if st.2.2 ≠ 0 then (0, 0, 0, [], 0, st.2.2) else if odd ≠ 0 ∨ SP.checkS rate seq shape max st.1 ≠ 0 then (0, 0, 0, [], 0, 8) else (seq, shape, max, st.1, st.2.1, 0)
def getInfo (b : List Int) (p rate : Int) : Int × Int × Int × List Int × Int × Int :=
  if rate < 0 ∨ rate > 11 then (0, 0, 0, [], 0, 2) else
  if (getN b (getN b (p, 0) 1).2 2).1 = 2 then
    getFin rate (getN b (p, 0) 1).1 2 (getN b (getN b (getN b (p, 0) 1).2 2).2 1).1 (getN b (getN b (getN b (getN b (p, 0) 1).2 2).2 1).2 4).1
      (grpN b ([1], (getN b (getN b (getN b (getN b (p, 0) 1).2 2).2 1).2 4).2) 7)
  else
    getFin rate (Go.bits .or .i64 (getN b (p, 0) 1).1 (getN b (getN b (getN b (getN b (getN b (p, 0) 1).2 2).2 1).2 6).2 1).1) (getN b (getN b (p, 0) 1).2 2).1 (getN b (getN b (getN b (p, 0) 1).2 2).2 1).1
      (getN b (getN b (getN b (getN b (p, 0) 1).2 2).2 1).2 6).1 ([1], (getN b (getN b (getN b (getN b (getN b (p, 0) 1).2 2).2 1).2 6).2 1).2)
theorem getN_bounds {b : List Int} (hb : ∀ y ∈ b, 0 ≤ y ∧ y ≤ 255) (s : Int × Int) (n : Nat) : 0 ≤ (getN b s n).1 ∧ (getN b s n).1 < 2 ^ n := by
  unfold getN
  split
  · have := getS_bounds hb s.1 n
    exact ⟨this.1, this.2.1⟩
  · exact ⟨Int.le_refl _, Int.pow_pos (by omega)⟩
/-- Groups as they are got: each is from 1 to 1 + the rounds; the list is not empty. -/
def grpOk (i : Nat) (gs : List Int) : Prop := 0 < gs.length ∧ gs.length ≤ 1 + i ∧ ∀ y ∈ gs, 1 ≤ y ∧ y ≤ 1 + i
theorem grpOk_step {b : List Int} {st : List Int × Int × Int} {i : Nat} (h : grpOk i st.1) : grpOk (i + 1) (grpStep b st).1 := by
  obtain ⟨h1, h2, h3⟩ := h
  unfold grpStep
  dsimp only
  split
  · unfold bump
    refine ⟨by rw [List.length_set]; exact h1, by rw [List.length_set]; omega, fun y hy => ?_⟩
    rcases List.mem_or_eq_of_mem_set hy with hy | rfl
    · have := h3 y hy
      omega
    · rw [rd_at _ _ (by omega)]
      have := h3 _ (List.getElem_mem (show st.1.length - 1 < st.1.length by omega))
      omega
  · refine ⟨by simp, by simp; omega, fun y hy => ?_⟩
    rcases List.mem_append.1 hy with hy | hy
    · have := h3 y hy
      omega
    · rw [List.mem_singleton.1 hy]
      omega
theorem grpOk_n (b : List Int) (s : Int × Int) : ∀ i, grpOk i (grpN b ([1], s) i).1
  | 0 => ⟨by simp [grpN], by simp [grpN], fun y hy => by simp [grpN] at hy; omega⟩
  | i + 1 => grpOk_step (grpOk_n b s i)
end Go.Proofs.Ytdhcgfdnhlhapaa.SG
end
section
/- tnsbits.Get's closure: the next bits' number, where no error has been met. And Get as a plain function. -/
namespace Go.Proofs.Ytdhcgfdnhlhapaa.HS
open Go.RowKit Go.Shelf Go.Proofs.YtdhcgfdnhlhapaaW.PrintWords Go.Proofs.YtdhcgfdnhlhapaaW.PrintLast Go.Proofs.YtdhcgfdnhlhapaaW.PrintMore Go.Proofs.Ytdhcgfdnhlhapaa.K
set_option linter.unusedVariables false
set_option linter.unusedSimpArgs false

/-! ### Get as a plain function -/
/-- A number of so many bits, the highest of which is a sign. -/
def sgn (n size : Int) : Int := n - n / 2 ^ (size - 1).toNat * 2 ^ size.toNat
def getCoefs (b : List Int) (size : Int) : Nat → List Int → Int × Int → List Int × Int × Int
  | 0, acc, st => (acc, st)
  | k + 1, acc, st => getCoefs b size k (acc ++ [sgn (SG.getN b st size).1 size]) (SG.getN b st size).2
def getTail (b : List Int) (len order : Int) (fine : Bool) (st : Int × Int) : Filt × Bool × Int × Int :=
  if order = 0 then (⟨len, order, false, fine, []⟩, false, st) else
  let d := SG.getN b st 1
  let na := SG.getN b d.2 1
  let cs := getCoefs b (wideS fine - na.1) order.toNat [] na.2
  (⟨len, order, d.1 == 1, fine, cs.1⟩, na.1 == 0 && fitS cs.1 (wideS fine - na.1 - 1), cs.2)
def getFilts (b : List Int) (s : Int) (fine : Bool) : Nat → List Filt → Bool → Int × Int → Option (List Filt × Bool × Int × Int)
  | 0, acc, odd, st => some (acc, odd, st)
  | k + 1, acc, odd, st =>
    let a := SG.getN b st (lenF s)
    let o := SG.getN b a.2 (ordF s)
    if 12 < o.1 then none else
    let t := getTail b a.1 o.1 fine o.2
    getFilts b s fine k (acc ++ [t.1]) (odd || t.2.1) t.2.2
def getWins (b : List Int) (s : Int) : Nat → List (List Filt) → Bool → Int × Int → Option (List (List Filt) × Bool × Int × Int)
  | 0, acc, odd, st => some (acc, odd, st)
  | k + 1, acc, odd, st =>
    let m := SG.getN b st (numF s)
    let f := if 0 < m.1 then SG.getN b m.2 1 else (0, m.2)
    match getFilts b s (f.1 == 1) m.1.toNat [] odd f.2 with
    | none => none
    | some r => getWins b s k (acc ++ [r.1]) r.2.1 r.2.2
def getEnd : Option (List (List Filt) × Bool × Int × Int) → List (List Filt) × Int × Int
  | none => ([], 0, 8)
  | some (l, odd, nx, e) => if e ≠ 0 then ([], 0, e) else if odd = true then ([], 0, 8) else (l, nx, 0)
def getTns (b : List Int) (p s sh m : Int) (gs : List Int) : List (List Filt) × Int × Int :=
  if SP.someS s sh m gs = true then getEnd (getWins b s (manyF s).toNat [] false (p, 0)) else ([], 0, 8)

/-! ### the closure -/
/-- The boxes of the bits, the place, the error; the numbers of bits. -/
def GetT (w0 : World) (B M E X : Nat) (A : Option Addr) (c : Nat) (b : List Int) (s : Int) (W : World) (nx e : Int) : Prop :=
  (w0.heap.size ≤ B ∧ w0.heap.size ≤ M ∧ w0.heap.size ≤ E ∧ w0.heap.size ≤ X ∧ B ≠ M ∧ B ≠ E ∧ M ≠ E ∧ B ≠ X ∧ M ≠ X ∧ E ≠ X) ∧ Below w0.heap.size w0 W ∧
  W.heap[B]? = some (.cells #[.slice A b.length c] 32 (0, 0)) ∧ W.heap[M]? = some (.cells #[.int .i64 nx] 3 (0, 0)) ∧ W.heap[E]? = some (.cells #[.int .i64 e] 28 (0, 0)) ∧
  W.heap[X]? = some (.cells #[.int .i64 (numF s), .int .i64 (lenF s), .int .i64 (ordF s), .int .i64 (mostF s), .int .i64 (topF s)] 51 (0, 0))
/-- Nothing but two boxes has turned. -/
def Stay2 (M E : Nat) (W W' : World) : Prop := W.heap.size = W'.heap.size ∧ ∀ k, k ≠ M → k ≠ E → W'.heap[k]? = W.heap[k]?
def okT (B M E X k : Nat) : Prop := k ≠ B ∧ k ≠ M ∧ k ≠ E ∧ k ≠ X
section
variable {w0 : World} {B M E X : Nat} {A : Option Addr} {c : Nat} {b : List Int} {s : Int} {W W1 : World} {nx e : Int}
theorem GetT.qB (h : GetT w0 B M E X A c b s W nx e) : W.cell? ⟨B, 0, none⟩ = some (.slice A b.length c) := (blk_cell h.2.2.1 0).trans rfl
theorem GetT.qM (h : GetT w0 B M E X A c b s W nx e) : W.cell? ⟨M, 0, none⟩ = some (.int .i64 nx) := (blk_cell h.2.2.2.1 0).trans rfl
theorem GetT.fM (h : GetT w0 B M E X A c b s W nx e) : W.frozen? ⟨M, 0, none⟩ = false := blk_frozen h.2.2.2.1 0
theorem GetT.qE (h : GetT w0 B M E X A c b s W nx e) : W.cell? ⟨E, 0, none⟩ = some (.int .i64 e) := (blk_cell h.2.2.2.2.1 0).trans rfl
theorem GetT.fE (h : GetT w0 B M E X A c b s W nx e) : W.frozen? ⟨E, 0, none⟩ = false := blk_frozen h.2.2.2.2.1 0
theorem GetT.qX0 (h : GetT w0 B M E X A c b s W nx e) : W.cell? ⟨X, 0, none⟩ = some (.int .i64 (numF s)) := (blk_cell h.2.2.2.2.2 0).trans rfl
theorem GetT.qX1 (h : GetT w0 B M E X A c b s W nx e) : W.cell? ⟨X, 1, none⟩ = some (.int .i64 (lenF s)) := (blk_cell h.2.2.2.2.2 1).trans rfl
theorem GetT.qX2 (h : GetT w0 B M E X A c b s W nx e) : W.cell? ⟨X, 2, none⟩ = some (.int .i64 (ordF s)) := (blk_cell h.2.2.2.2.2 2).trans rfl
theorem GetT.to (h : GetT w0 B M E X A c b s W nx e) (hb : Below w0.heap.size w0 W1) (hk : ∀ k, k = B ∨ k = M ∨ k = E ∨ k = X → W1.heap[k]? = W.heap[k]?) : GetT w0 B M E X A c b s W1 nx e := by
  obtain ⟨hd, hbel, hB, hM, hE, hX⟩ := h
  exact ⟨hd, hb, (hk B (by simp)).trans hB, (hk M (by simp)).trans hM, (hk E (by simp)).trans hE, (hk X (by simp)).trans hX⟩
theorem GetT.below (h : GetT w0 B M E X A c b s W nx e) (hb : Below W.heap.size W W1) : GetT w0 B M E X A c b s W1 nx e := by
  obtain ⟨hd, hbel, hB, hM, hE, hX⟩ := h
  exact ⟨hd, below_step hbel hb, blk_below hB hb, blk_below hM hb, blk_below hE hb, blk_below hX hb⟩
theorem GetT.drew (h : GetT w0 B M E X A c b s W nx e) : GetT w0 B M E X A c b s W.drew nx e := ⟨h.1, below_drew h.2.1, h.2.2⟩
theorem GetT.drewN (h : GetT w0 B M E X A c b s W nx e) (n : Nat) : GetT w0 B M E X A c b s (W.drewN n) nx e := ⟨h.1, pw_below_drewN h.2.1 n, h.2.2⟩
theorem GetT.setE (h : GetT w0 B M E X A c b s W nx e) (e' : Int) : GetT w0 B M E X A c b s (W.setCell ⟨E, 0, none⟩ (.int .i64 e')) nx e' := by
  obtain ⟨hd, hbel, hB, hM, hE, hX⟩ := h
  obtain ⟨h1, h2, h3, h4, n1, n2, n3, n4, n5, n6⟩ := hd
  exact ⟨⟨h1, h2, h3, h4, n1, n2, n3, n4, n5, n6⟩, below_set hbel h3, blk_far hB n2 _, blk_far hM n3 _, blk_put hE 0 _ rfl, blk_far hX (Ne.symm n6) _⟩
theorem GetT.setM (h : GetT w0 B M E X A c b s W nx e) (e' : Int) : GetT w0 B M E X A c b s (W.setCell ⟨M, 0, none⟩ (.int .i64 e')) e' e := by
  obtain ⟨hd, hbel, hB, hM, hE, hX⟩ := h
  obtain ⟨h1, h2, h3, h4, n1, n2, n3, n4, n5, n6⟩ := hd
  exact ⟨⟨h1, h2, h3, h4, n1, n2, n3, n4, n5, n6⟩, below_set hbel h2, blk_far hB n1 _, blk_put hM 0 _ rfl, blk_far hE (Ne.symm n3) _, blk_far hX (Ne.symm n5) _⟩
theorem GetT.far {g j : Nat} {u : Value} (h : GetT w0 B M E X A c b s W nx e) (hg : w0.heap.size ≤ g) (hk : okT B M E X g) : GetT w0 B M E X A c b s (W.setCell ⟨g, j, none⟩ u) nx e := by
  obtain ⟨hd, hbel, hB, hM, hE, hX⟩ := h
  exact ⟨hd, below_set hbel hg, blk_far hB (Ne.symm hk.1) _, blk_far hM (Ne.symm hk.2.1) _, blk_far hE (Ne.symm hk.2.2.1) _, blk_far hX (Ne.symm hk.2.2.2) _⟩
theorem GetT.fresh (h : GetT w0 B M E X A c b s W nx e) (k : Nat) (hk : W.heap.size ≤ k) : okT B M E X k := by
  obtain ⟨hd, hbel, hB, hM, hE, hX⟩ := h
  have := blk_lt hB; have := blk_lt hM; have := blk_lt hE; have := blk_lt hX
  exact ⟨by omega, by omega, by omega, by omega⟩
/-- A row that lies apart has grown. -/
theorem GetT.grown {row : Option Nat} (h : GetT w0 B M E X A c b s W nx e) (hb : Below w0.heap.size w0 W1) (hg : W.grownBy W1 row) (hr : ∀ k, row = some k → okT B M E X k) : GetT w0 B M E X A c b s W1 nx e := by
  have hz : ∀ k, k < W.heap.size → ¬ okT B M E X k → W1.heap[k]? = W.heap[k]? := fun k hk hn => hg.block k hk (fun e => hn (hr k e.symm))
  refine h.to hb ?_
  obtain ⟨_, _, hB, hM, hE, hX⟩ := h
  rintro k (rfl | rfl | rfl | rfl)
  · exact hz _ (blk_lt hB) (fun h => h.1 rfl)
  · exact hz _ (blk_lt hM) (fun h => h.2.1 rfl)
  · exact hz _ (blk_lt hE) (fun h => h.2.2.1 rfl)
  · exact hz _ (blk_lt hX) (fun h => h.2.2.2 rfl)
end
theorem Stay2.R {α : Type} {d : Kd α} {t : Nat} {v : Value} {l : List α} {base B M E X : Nat} {ok : Nat → Prop} {W W1 : World} (hs : Stay2 M E W W1) (h : Kd.R d t W base (fun k => okT B M E X k ∧ ok k) v l) : Kd.R d t W1 base (fun k => okT B M E X k ∧ ok k) v l := Kd.R_step h (fun k hk _ => hs.2 k hk.1.2.1 hk.1.2.2.1)
set_option maxHeartbeats 4000000 in
set_option maxRecDepth 100000 in
theorem get_calls (w0 : World) (B M E X : Nat) (A : Option Addr) (c : Nat) (b : List Int) (s : Int) (hb01 : ∀ y ∈ b, 0 ≤ y ∧ y ≤ 255) (hbl : b.length ≤ 4611686018427387904) (hcb : b.length ≤ c) (hC : Kd.C (Kd.int .u8) w0 A b.length b) (W : World) (nx e size : Int) (h : GetT w0 B M E X A c b s W nx e) :
    Calls Try.prog 27 #[.int .i64 size, .pointer (some ⟨E, 0, none⟩), .pointer (some ⟨B, 0, none⟩), .pointer (some ⟨M, 0, none⟩)] W fun e' W' => e' = .returned (.int .i64 (SG.getN b (nx, e) size).1) ∧ GetT w0 B M E X A c b s W' (SG.getN b (nx, e) size).2.1 (SG.getN b (nx, e) size).2.2 ∧ Stay2 M E W W' := by
  obtain ⟨r, hr⟩ : ∃ r, r = SG.getN b (nx, e) size := ⟨_, rfl⟩
  rw [← hr]
  obtain ⟨r1, r2, r3⟩ := r
  have hq1 := h.qE
  have hq2 := h.qB
  have hq3 := h.qM
  have hf1 := h.fE
  have hf3 := h.fM
  have HG := Aside0.mk h
  by_cases he : e = 0
  · subst he
    unfold SG.getN at hr
    rw [if_pos rfl] at hr
    have HF : Aside0 (bits_Get.f 50 b nx size = some (r1, r2, r3)) := ⟨by rw [SG.get_f b hb01 hbl nx size 50 (by omega), hr]⟩
    have HC := Aside0.mk (Kd.C_below hC h.2.1)
    have hne : E ≠ M := Ne.symm h.1.2.2.2.2.2.2.1
    have hne2 : M ≠ E := h.1.2.2.2.2.2.2.1
    clear h hr hC hb01 hbl
    go_enter Try.func27, Try.ntmps27
    go_wp2_with (first | (go_at_call 28; (with_reducible refine (bits_Get.calls 50 A c b nx size r1 r2 r3 _ HC.out hcb HF.out).mono ?_); rintro e' w' ⟨rfl, ⟨⟨nd, rfl⟩⟩⟩))
    go_ret
    have h2 := ((HG.out.drewN nd).setM r2).setE r3
    refine ⟨rfl, h2, by simp, fun k hk1 hk2 => ?_⟩
    rw [Below.heap_setCell _ _ _ k hk2, Below.heap_setCell _ _ _ k hk1]
    rfl
  · unfold SG.getN at hr
    rw [if_neg he] at hr
    simp only [Prod.mk.injEq] at hr
    obtain ⟨rfl, rfl, rfl⟩ := hr
    have be : (r3 == 0) = false := beq_eq_false_iff_ne.mpr he
    clear h he hC hb01 hbl
    go_enter Try.func27, Try.ntmps27
    go_wp2
    go_ret
    exact ⟨rfl, HG.out, rfl, fun _ _ _ => rfl⟩
theorem get_calls' (w0 : World) (B M E X : Nat) (A : Option Addr) (c : Nat) (b : List Int) (s : Int) (hb01 : ∀ y ∈ b, 0 ≤ y ∧ y ≤ 255) (hbl : b.length ≤ 4611686018427387904) (hcb : b.length ≤ c) (hC : Kd.C (Kd.int .u8) w0 A b.length b) (W : World) (nx e size n nx' e1 : Int) (hr : SG.getN b (nx, e) size = (n, nx', e1)) (h : GetT w0 B M E X A c b s W nx e) :
    Calls Try.prog 27 #[.int .i64 size, .pointer (some ⟨E, 0, none⟩), .pointer (some ⟨B, 0, none⟩), .pointer (some ⟨M, 0, none⟩)] W fun e' W' => e' = .returned (.int .i64 n) ∧ GetT w0 B M E X A c b s W' nx' e1 ∧ Stay2 M E W W' := by
  have := get_calls w0 B M E X A c b s hb01 hbl hcb hC W nx e size h
  rw [hr] at this
  exact this
theorem run_shr1 {size n : Int} (h0 : 1 ≤ size) (h1 : size ≤ 4) (hn0 : 0 ≤ n) (hn1 : n ≤ 1000) (W : World) : (Op.shift BinOp.shr IntKind.i64 n IntKind.i64 (size - 1)).run Try.prog W = .ok (.int .i64 (n / 2 ^ (size - 1).toNat)) W := by
  have h := shift_shr_i64 (x := n) (yk := .i64) (y := size - 1) (by omega) (by omega)
  exact congrArg (fun z => Sem.run Try.prog z W) h
theorem run_shl2 {size q : Int} (h0 : 1 ≤ size) (h1 : size ≤ 4) (hn0 : 0 ≤ q) (hn1 : q ≤ 1000) (W : World) : (Op.shift BinOp.shl IntKind.i64 q IntKind.i64 size).run Try.prog W = .ok (.int .i64 (q * 2 ^ size.toNat)) W := by
  have hp : (2 : Int) ^ size.toNat ≤ 16 ∧ 1 ≤ (2 : Int) ^ size.toNat := by
    rcases (show size = 1 ∨ size = 2 ∨ size = 3 ∨ size = 4 by omega) with rfl | rfl | rfl | rfl <;> decide
  have hm : q * 2 ^ size.toNat ≤ 1000 * 16 := Int.mul_le_mul hn1 hp.1 (by omega) (by omega)
  have hm0 : 0 ≤ q * 2 ^ size.toNat := Int.mul_nonneg hn0 (by omega)
  have h := shift_shl_i64 (x := q) (yk := .i64) (y := size) (by omega) (by omega)
  rw [show IntKind.i64.wrap (q * 2 ^ size.toNat) = q * 2 ^ size.toNat by rw [IntKind.wrap_i64]; omega] at h
  exact congrArg (fun z => Sem.run Try.prog z W) h
end Go.Proofs.Ytdhcgfdnhlhapaa.HS
end
section
/- tnsbits.Get: what lies in memory between two of its statements. -/
namespace Go.Proofs.Ytdhcgfdnhlhapaa.HS
open Go.RowKit Go.Shelf Go.Proofs.YtdhcgfdnhlhapaaW.PrintWords Go.Proofs.YtdhcgfdnhlhapaaW.PrintLast Go.Proofs.YtdhcgfdnhlhapaaW.PrintMore Go.Proofs.Ytdhcgfdnhlhapaa.K
set_option linter.unusedVariables false
set_option linter.unusedSimpArgs false

section
variable {P : Program} {ops : Array Oper} {Q : Exit → Act → World → Prop}
/-- A call of a closure, by its contract. -/
theorem goesV_ {oi : Oper} {N : Option Tmp} {a : Act} {w : World} {K : Act → World → Prop} {f : FuncId} {fn : Func} {x : Operand} {ars : Array Operand} {ts : Array TypeId} (hf : P.funcs[f]? = some fn) (hname : (fn.name == "runtime.NumGoroutine") = false) (hb : fn.body.isSome = true) (args lb : Array Value)
    (hw : Region.wanted oi (yielded ops a.tmps) = true) (hN : oi.dst = N) (hop : oi.op = .call { callee := .value x, args := ars, argTypes := ts }) (hx : a.eval x = .func (.func f) #[] lb) (hargs : ars.map a.eval = args)
    (h : Calls P f (args ++ lb) w fun e w' => ∃ v, e = .returned v ∧ K (a.put N v) w') : if Region.wanted oi (yielded ops a.tmps) = true then Oper.wp P oi a w K Q else K (a.put N undef) w := by
  refine call_ f (args ++ lb) hw hN ?_ h
  have he := enters_ hf hname hb (args ++ lb) w
  unfold execOp
  simp [hop, resolve, Deferred.ofValue, invoke, hx, hargs, he]
end
theorem R_base {α : Type} {d : Kd α} {t : Nat} {W : World} {base : Nat} {ok : Nat → Prop} {v : Value} {l : List α} (h : Kd.R d t W base ok v l) (k : Nat) (hk : v.ownBlock = some k) : base ≤ k := ((Kd.R_bound h).1 k hk).2.1
/-- Between two windows: the boxes, the windows so far. -/
def LL (w0 : World) (B M E X : Nat) (A : Option Addr) (c : Nat) (b : List Int) (s : Int) (vl : Value) (ls : List (List Filt)) (W : World) (nx e : Int) : Prop :=
  GetT w0 B M E X A c b s W nx e ∧ Kd.R (Kd.slice 38 k38) 35 W w0.heap.size (fun k => okT B M E X k ∧ True) vl ls
/-- Between two filters: the windows so far lie ahead of NB, the filters so far from NB on ahead of N2. -/
def LW (w0 : World) (B M E X : Nat) (A : Option Addr) (c : Nat) (b : List Int) (s : Int) (NB N2 : Nat) (vl : Value) (ls : List (List Filt)) (vw : Value) (ws : List Filt) (W : World) (nx e : Int) : Prop :=
  GetT w0 B M E X A c b s W nx e ∧ Kd.R (Kd.slice 38 k38) 35 W w0.heap.size (fun k => okT B M E X k ∧ k < NB) vl ls ∧
  Kd.R k38 38 W NB (fun k => okT B M E X k ∧ k < N2) vw ws ∧ (w0.heap.size ≤ NB ∧ NB ≤ N2 ∧ N2 ≤ W.heap.size)
/-- Within a filter: its box g, its coefficients so far from N3 on. -/
def LC (w0 : World) (B M E X : Nat) (A : Option Addr) (c : Nat) (b : List Int) (s : Int) (NB N2 N3 g : Nat) (vl : Value) (ls : List (List Filt)) (vw : Value) (ws : List Filt) (c0 c1 c2 c3 vb vc : Value) (cs : List Int) (W : World) (nx e : Int) : Prop :=
  LW w0 B M E X A c b s NB N2 vl ls vw ws W nx e ∧ W.heap[g]? = some (.cells #[c0, c1, c2, c3, vb] 38 (0, 0)) ∧ Kd.R (Kd.int .i64) 3 W N3 (fun k => okT B M E X k ∧ True) vc cs ∧ (okT B M E X g ∧ N2 ≤ g ∧ g < N3 ∧ N3 ≤ W.heap.size)
section
variable {w0 : World} {B M E X : Nat} {A : Option Addr} {c : Nat} {b : List Int} {s : Int} {NB N2 N3 g : Nat} {vl vw vc vb c0 c1 c2 c3 : Value} {ls : List (List Filt)} {ws : List Filt} {cs : List Int} {W W1 : World} {nx e nx1 e1 : Int}
theorem LL.toW (h : LL w0 B M E X A c b s vl ls W nx e) : LW w0 B M E X A c b s W.heap.size W.heap.size vl ls (.slice none 0 0) [] W nx e :=
  ⟨h.1, Kd.R_mono (Kd.R_bound h.2) (fun k hk => ⟨hk.1.1, hk.2.2.1⟩), Kd.R_nil _ _ _ _ _, h.1.2.1.size, Nat.le_refl _, Nat.le_refl _⟩
theorem LL.below (h : LL w0 B M E X A c b s vl ls W nx e) (hb : Below W.heap.size W W1) : LL w0 B M E X A c b s vl ls W1 nx e := ⟨h.1.below hb, Kd.R_below h.2 hb⟩
theorem LL.stay (h : LL w0 B M E X A c b s vl ls W nx e) (hG : GetT w0 B M E X A c b s W1 nx1 e1) (hs : Stay2 M E W W1) : LL w0 B M E X A c b s vl ls W1 nx1 e1 := ⟨hG, hs.R h.2⟩
theorem LW.below (h : LW w0 B M E X A c b s NB N2 vl ls vw ws W nx e) (hb : Below W.heap.size W W1) : LW w0 B M E X A c b s NB N2 vl ls vw ws W1 nx e :=
  ⟨h.1.below hb, Kd.R_below h.2.1 hb, Kd.R_below h.2.2.1 hb, h.2.2.2.1, h.2.2.2.2.1, Nat.le_trans h.2.2.2.2.2 hb.size⟩
theorem LW.drew (h : LW w0 B M E X A c b s NB N2 vl ls vw ws W nx e) : LW w0 B M E X A c b s NB N2 vl ls vw ws W.drew nx e := h.below (below_drew (Below.refl _ _))
theorem LW.drewN (h : LW w0 B M E X A c b s NB N2 vl ls vw ws W nx e) (n : Nat) : LW w0 B M E X A c b s NB N2 vl ls vw ws (W.drewN n) nx e := h.below (pw_below_drewN (Below.refl _ _) n)
theorem LW.alloc (h : LW w0 B M E X A c b s NB N2 vl ls vw ws W nx e) (o : Obj) : LW w0 B M E X A c b s NB N2 vl ls vw ws (W.alloc o) nx e := h.below (below_alloc (Below.refl _ _) o)
theorem LW.stay (h : LW w0 B M E X A c b s NB N2 vl ls vw ws W nx e) (hG : GetT w0 B M E X A c b s W1 nx1 e1) (hs : Stay2 M E W W1) : LW w0 B M E X A c b s NB N2 vl ls vw ws W1 nx1 e1 :=
  ⟨hG, hs.R h.2.1, hs.R h.2.2.1, h.2.2.2.1, h.2.2.2.2.1, hs.1 ▸ h.2.2.2.2.2⟩
theorem LW.up (h : LW w0 B M E X A c b s NB N2 vl ls vw ws W nx e) : LW w0 B M E X A c b s NB W.heap.size vl ls vw ws W nx e :=
  ⟨h.1, h.2.1, Kd.R_mono (Kd.R_bound h.2.2.1) (fun k hk => ⟨hk.1.1, hk.2.2.1⟩), h.2.2.2.1, Nat.le_trans h.2.2.2.2.1 h.2.2.2.2.2, Nat.le_refl _⟩
theorem LW.fresh (h : LW w0 B M E X A c b s NB N2 vl ls vw ws W nx e) : okT B M E X W.heap.size := h.1.fresh _ (Nat.le_refl _)
theorem LW.far {j : Nat} {u : Value} (h : LW w0 B M E X A c b s NB N2 vl ls vw ws W nx e) (hk : okT B M E X g) (hg : N2 ≤ g) : LW w0 B M E X A c b s NB N2 vl ls vw ws (W.setCell ⟨g, j, none⟩ u) nx e := by
  obtain ⟨hG, hL, hW, h1, h2, h3⟩ := h
  refine ⟨hG.far (by omega) hk, Kd.R_far (p := ⟨g, j, none⟩) hL (fun k hk => ?_) u, Kd.R_far (p := ⟨g, j, none⟩) hW (fun k hk => ?_) u, h1, h2, by simpa using h3⟩
  · have := hk.2; show k ≠ g; omega
  · have := hk.2; show k ≠ g; omega
theorem LW.far5 {v0 v1 v2 v3 v4 z0 z1 z2 z3 z4 : Value} (h : LW w0 B M E X A c b s NB N2 vl ls vw ws W nx e) (hk : okT B M E X g) (hg : N2 ≤ g) (hb : W.heap[g]? = some (.cells #[z0, z1, z2, z3, z4] 38 (0, 0))) :
    LW w0 B M E X A c b s NB N2 vl ls vw ws (((((W.setCell ⟨g, 0, none⟩ v0).setCell ⟨g, 1, none⟩ v1).setCell ⟨g, 2, none⟩ v2).setCell ⟨g, 3, none⟩ v3).setCell ⟨g, 4, none⟩ v4) nx e ∧
    (((((W.setCell ⟨g, 0, none⟩ v0).setCell ⟨g, 1, none⟩ v1).setCell ⟨g, 2, none⟩ v2).setCell ⟨g, 3, none⟩ v3).setCell ⟨g, 4, none⟩ v4).heap[g]? = some (.cells #[v0, v1, v2, v3, v4] 38 (0, 0)) := by
  have b1 := blk_put hb 0 v0 rfl
  have b2 := blk_put b1 1 v1 rfl
  have b3 := blk_put b2 2 v2 rfl
  have b4 := blk_put b3 3 v3 rfl
  exact ⟨((((h.far hk hg).far hk hg).far hk hg).far hk hg).far hk hg, blk_put b4 4 v4 rfl⟩
theorem LC.below (h : LC w0 B M E X A c b s NB N2 N3 g vl ls vw ws c0 c1 c2 c3 vb vc cs W nx e) (hb : Below W.heap.size W W1) : LC w0 B M E X A c b s NB N2 N3 g vl ls vw ws c0 c1 c2 c3 vb vc cs W1 nx e :=
  ⟨h.1.below hb, blk_below h.2.1 hb, Kd.R_below h.2.2.1 hb, h.2.2.2.1, h.2.2.2.2.1, h.2.2.2.2.2.1, Nat.le_trans h.2.2.2.2.2.2 hb.size⟩
theorem LC.drewN (h : LC w0 B M E X A c b s NB N2 N3 g vl ls vw ws c0 c1 c2 c3 vb vc cs W nx e) (n : Nat) : LC w0 B M E X A c b s NB N2 N3 g vl ls vw ws c0 c1 c2 c3 vb vc cs (W.drewN n) nx e := h.below (pw_below_drewN (Below.refl _ _) n)
theorem LC.stay (h : LC w0 B M E X A c b s NB N2 N3 g vl ls vw ws c0 c1 c2 c3 vb vc cs W nx e) (hG : GetT w0 B M E X A c b s W1 nx1 e1) (hs : Stay2 M E W W1) : LC w0 B M E X A c b s NB N2 N3 g vl ls vw ws c0 c1 c2 c3 vb vc cs W1 nx1 e1 :=
  ⟨h.1.stay hG hs, (hs.2 g h.2.2.2.1.2.1 h.2.2.2.1.2.2.1).trans h.2.1, hs.R h.2.2.1, h.2.2.2.1, h.2.2.2.2.1, h.2.2.2.2.2.1, hs.1 ▸ h.2.2.2.2.2.2⟩
/-- A store into the filter's box. -/
theorem LC.put {j : Nat} {u d0 d1 d2 d3 db : Value} (h : LC w0 B M E X A c b s NB N2 N3 g vl ls vw ws c0 c1 c2 c3 vb vc cs W nx e) (he : #[c0, c1, c2, c3, vb].setIfInBounds j u = #[d0, d1, d2, d3, db]) : LC w0 B M E X A c b s NB N2 N3 g vl ls vw ws d0 d1 d2 d3 db vc cs (W.setCell ⟨g, j, none⟩ u) nx e := by
  obtain ⟨hW, hg, hC, h1, h2, h3, h4⟩ := h
  refine ⟨hW.far h1 h2, blk_put hg j u he, ?_, h1, h2, h3, by simpa using h4⟩
  exact Kd.R_mono (Kd.R_far (p := ⟨g, j, none⟩) (Kd.R_bound hC) (fun k hk => by have := hk.2.1; show k ≠ g; omega) u) (fun k hk => hk.1)
theorem LC.q (h : LC w0 B M E X A c b s NB N2 N3 g vl ls vw ws c0 c1 c2 c3 vb vc cs W nx e) (j : Nat) : W.cell? ⟨g, j, none⟩ = #[c0, c1, c2, c3, vb][j]? := blk_cell h.2.1 j
theorem LC.f (h : LC w0 B M E X A c b s NB N2 N3 g vl ls vw ws c0 c1 c2 c3 vb vc cs W nx e) (j : Nat) : W.frozen? ⟨g, j, none⟩ = false := blk_frozen h.2.1 j
/-- A filter that has just been made: its box, no coefficients yet. -/
theorem LW.toC (h : LW w0 B M E X A c b s NB N2 vl ls vw ws W nx e) (hb : W.heap[g]? = some (.cells #[c0, c1, c2, c3, vb] 38 (0, 0))) (hk : okT B M E X g) (hg : N2 ≤ g) : LC w0 B M E X A c b s NB N2 W.heap.size g vl ls vw ws c0 c1 c2 c3 vb (.slice none 0 0) [] W nx e :=
  ⟨h, hb, Kd.R_nil _ _ _ _ _, hk, hg, blk_lt hb, Nat.le_refl _⟩
variable {ops : Array Oper} {rest : List Oper} {o : Oper} {a : Act} {Q : Exit → Act → World → Prop} {Kc : Act → World → Prop}
/-- append of a window to the windows so far. -/
theorem LW.appL (h : LW w0 B M E X A c b s NB N2 vl ls vw ws W nx e) (hl : ls.length ≤ 100) (hgd : o.guard = none) (p x : Operand)
    (ho : o.op = .call { callee := .builtin .append, args := #[p, x], argTypes := #[25, 25] }) (hs : a.eval p = vl) (hx : a.eval x = .slice (some ⟨W.heap.size, 0, none⟩) 1 1)
    (hk : ∀ v1 w1, LL w0 B M E X A c b s v1 (ls ++ [ws]) w1 nx e → wpList Try.prog ops Q rest (a.put o.dst v1) w1) : wpList Try.prog ops Q (o :: rest) a (W.alloc (.cells [vw].toArray 35)) := by
  obtain ⟨hG, hL, hW, h1, h2, h3⟩ := h
  have hR : Kd.R (Kd.slice 38 k38) 35 W w0.heap.size (fun k => okT B M E X k ∧ True) vl ls := Kd.R_mono hL (fun k hk => ⟨hk.1, trivial⟩)
  refine Kd.R_append (Kd.slice 38 k38) (w0 := w0) w0.heap.size hgd p x 25 35 (.slice none 0 0) 24 ho Try.underlying25 info35 rfl (by decide) (by omega) vl ls ws [vw] (fun k => okT B M E X k ∧ True) (fun k => okT B M E X k ∧ NB ≤ k) hs hx ?_ ?_ (fun k hk => ⟨hG.fresh k hk, trivial⟩) hR hG.2.1 hG.2.1.size (by omega) ?_
  · exact ⟨vw, rfl, Kd.R_lower (Kd.R_mono (Kd.R_bound hW) (fun k hk => ⟨hk.1.1, hk.2.1⟩)) h1⟩
  · intro k hk
    refine ⟨⟨hk.1, trivial⟩, fun he => ?_⟩
    have := (hL.1 k he.symm).2
    have := hk.2
    omega
  · intro v1 w1 hr hb hg hat
    exact hk v1 w1 ⟨hG.grown hb hg (fun k e => (hL.1 k e).1), hr⟩
/-- append of a filter to the filters so far. -/
theorem LC.appW {f : Filt} (h : LC w0 B M E X A c b s NB N2 N3 g vl ls vw ws c0 c1 c2 c3 vb vc cs W nx e) (hf : f.f4 = cs) (hl : ws.length ≤ 100) (hgd : o.guard = none) (p x : Operand)
    (ho : o.op = .call { callee := .builtin .append, args := #[p, x], argTypes := #[35, 35] }) (hs : a.eval p = vw) (hx : a.eval x = .slice (some ⟨W.heap.size, 0, none⟩) 1 1)
    (hk : ∀ v1 w1, LW w0 B M E X A c b s NB w1.heap.size vl ls v1 (ws ++ [f]) w1 nx e → wpList Try.prog ops Q rest (a.put o.dst v1) w1) : wpList Try.prog ops Q (o :: rest) a (W.alloc (.cells [.int .i64 f.f0, .int .i64 f.f1, .bool f.f2, .bool f.f3, vc].toArray 38)) := by
  obtain ⟨⟨hG, hL, hW, h1, h2, h3⟩, hg, hC, n1, n2, n3, n4⟩ := h
  subst hf
  have hR : Kd.R k38 38 W NB (fun k => okT B M E X k ∧ True) vw ws := Kd.R_mono hW (fun k hk => ⟨hk.1, trivial⟩)
  refine Kd.R_append k38 (w0 := W) NB hgd p x 35 38 (.agg #[(.int .i64 0), (.int .i64 0), (.bool false), (.bool false), (.slice none 0 0)]) 48 ho Try.underlying35 info38 rfl (by decide) (by omega) vw ws f [.int .i64 f.f0, .int .i64 f.f1, .bool f.f2, .bool f.f3, vc] (fun k => okT B M E X k ∧ True) (fun k => okT B M E X k ∧ N2 ≤ k) hs hx ?_ ?_ (fun k hk => ⟨hG.fresh k hk, trivial⟩) hR (Below.refl _ _) (by omega) (by omega) ?_
  · exact k38_mkM W NB _ f (Kd.R_lower (Kd.R_mono (Kd.R_bound hC) (fun k hk => ⟨hk.1.1, by have := hk.2.1; omega⟩)) (by omega))
  · intro k hk
    refine ⟨⟨hk.1, trivial⟩, fun he => ?_⟩
    have := (hW.1 k he.symm).2
    have := hk.2
    omega
  · intro v1 w1 hr hb hg1 hat
    have hbase := fun k e => R_base hW k e
    have hbel : Below w0.heap.size w0 w1 := pw_below_grown hG.2.1 _ (by omega) hg1 (fun k e => by have := hbase k e; omega)
    refine hk v1 w1 ⟨hG.grown hbel hg1 (fun k e => (hW.1 k e).1), Kd.R_grown hL hg1 (fun k hk e => ?_), Kd.R_mono (Kd.R_bound hr) (fun k hk => ⟨hk.1.1, hk.2.2.1⟩), h1, by have := hg1.size; omega, Nat.le_refl _⟩
    have := hbase k e.symm
    have := hk.2
    omega
/-- append of a coefficient, a step of a statement that draws its order. -/
theorem LC.appC {y : Int} (h : LC w0 B M E X A c b s NB N2 N3 g vl ls vw ws c0 c1 c2 c3 vb vc cs W nx e) (hl : cs.length ≤ 100) (hw : Region.wanted o (yielded ops a.tmps) = true) (p x : Operand)
    (ho : o.op = .call { callee := .builtin .append, args := #[p, x], argTypes := #[22, 22] }) (hs : a.eval p = vc) (hx : a.eval x = .slice (some ⟨W.heap.size, 0, none⟩) 1 1)
    (hk : ∀ v1 w1, LC w0 B M E X A c b s NB N2 N3 g vl ls vw ws c0 c1 c2 c3 vb v1 (cs ++ [y]) w1 nx e → Kc (a.put o.dst v1) w1) : if Region.wanted o (yielded ops a.tmps) = true then Oper.wp Try.prog o a (W.alloc (.cells [.int .i64 y].toArray 3)) Kc Q else Kc (a.put o.dst undef) (W.alloc (.cells [.int .i64 y].toArray 3)) := by
  obtain ⟨⟨hG, hL, hW, h1, h2, h3⟩, hg, hC, n1, n2, n3, n4⟩ := h
  refine Kd.R_append_step (Kd.int .i64) (w0 := W) N3 hw p x 22 3 (.int .i64 0) 8 ho Try.underlying22 info3 rfl (by decide) (by omega) vc cs y [.int .i64 y] (fun k => okT B M E X k ∧ True) (fun _ => False) hs hx rfl (fun _ hk => hk.elim) (fun k hk => ⟨hG.fresh k hk, trivial⟩) hC (Below.refl _ _) n4 (by omega) ?_
  intro v1 w1 hr hb hg1 hat
  have hbase := fun k e => R_base hC k e
  have hbel : Below w0.heap.size w0 w1 := pw_below_grown hG.2.1 _ (by omega) hg1 (fun k e => by have := hbase k e; omega)
  have hsz := hg1.size
  refine hk v1 w1 ⟨⟨hG.grown hbel hg1 (fun k e => (hC.1 k e).1), Kd.R_grown hL hg1 (fun k hk e => ?_), Kd.R_grown hW hg1 (fun k hk e => ?_), h1, h2, by omega⟩, (hg1.block g (by omega) (fun e => ?_)).trans hg, hr, n1, n2, n3, by omega⟩
  · have := hbase k e.symm; have := hk.2; omega
  · have := hbase k e.symm; have := hk.2; omega
  · have := hbase g e.symm; omega
end
end Go.Proofs.Ytdhcgfdnhlhapaa.HS
end
section
/- tnsbits.Get: the filters of some bits. -/
namespace Go.Proofs.Ytdhcgfdnhlhapaa.HS
open Go.RowKit Go.Shelf Go.Proofs.YtdhcgfdnhlhapaaW.PrintWords Go.Proofs.YtdhcgfdnhlhapaaW.PrintLast Go.Proofs.YtdhcgfdnhlhapaaW.PrintMore Go.Proofs.Ytdhcgfdnhlhapaa.K
set_option linter.unusedVariables false
set_option linter.unusedSimpArgs false

theorem getN_rng {b : List Int} (hb : ∀ y ∈ b, 0 ≤ y ∧ y ≤ 255) {st : Int × Int} {size n q e : Int} (h0 : 0 ≤ size) (h1 : size ≤ 6) (h : SG.getN b st size = (n, q, e)) : 0 ≤ n ∧ n < 2 ^ size.toNat ∧ n ≤ 63 ∧ (n ≠ 0 → e = 0) := by
  obtain ⟨k, rfl⟩ := Int.eq_ofNat_of_zero_le h0
  have hk := SG.getN_bounds hb st k
  rw [h] at hk
  simp only [Int.toNat_natCast]
  have hp : (2 : Int) ^ k ≤ 64 := by
    rcases (show k = 0 ∨ k = 1 ∨ k = 2 ∨ k = 3 ∨ k = 4 ∨ k = 5 ∨ k = 6 by omega) with rfl | rfl | rfl | rfl | rfl | rfl | rfl <;> decide
  refine ⟨hk.1, hk.2, by have := hk.2; show n ≤ 63; have : n < 2 ^ k := hk.2; omega, fun hn => ?_⟩
  unfold SG.getN at h
  split at h
  · have hs := SG.getS_bounds hb st.1 k
    rw [h] at hs
    refine Classical.byContradiction fun he => ?_
    have := hs.2.2.2.2.2 he
    simp only [Prod.mk.injEq] at this
    exact hn this.1
  · simp only [Prod.mk.injEq] at h
    exact absurd h.1.symm hn
theorem getFilts_succ {b : List Int} {s : Int} {fine : Bool} {k : Nat} {acc : List Filt} {odd : Bool} {st : Int × Int} {av nx1 e1 ov nx2 e2 : Int} (ha : SG.getN b st (lenF s) = (av, nx1, e1)) (ho : SG.getN b (nx1, e1) (ordF s) = (ov, nx2, e2)) (h12 : ¬ 12 < ov) :
    getFilts b s fine (k + 1) acc odd st = getFilts b s fine k (acc ++ [(getTail b av ov fine (nx2, e2)).1]) (odd || (getTail b av ov fine (nx2, e2)).2.1) (getTail b av ov fine (nx2, e2)).2.2 := by
  simp only [getFilts, ha, ho, if_neg h12]
theorem getFilts_bad {b : List Int} {s : Int} {fine : Bool} {k : Nat} {acc : List Filt} {odd : Bool} {st : Int × Int} {av nx1 e1 ov nx2 e2 : Int} (ha : SG.getN b st (lenF s) = (av, nx1, e1)) (ho : SG.getN b (nx1, e1) (ordF s) = (ov, nx2, e2)) (h12 : 12 < ov) :
    getFilts b s fine (k + 1) acc odd st = none := by
  simp only [getFilts, ha, ho, if_pos h12]
theorem getTail_zero (b : List Int) (av : Int) (fine : Bool) (st : Int × Int) : getTail b av 0 fine st = (⟨av, 0, false, fine, []⟩, false, st) := if_pos rfl
theorem getTail_some {b : List Int} {av ov : Int} {fine : Bool} {st : Int × Int} {dv nx3 e3 nv nx4 e4 nx5 e5 : Int} {cs : List Int} (h0 : ¬ ov = 0) (hd : SG.getN b st 1 = (dv, nx3, e3)) (hn : SG.getN b (nx3, e3) 1 = (nv, nx4, e4)) (hc : getCoefs b (wideS fine - nv) ov.toNat [] (nx4, e4) = (cs, nx5, e5)) :
    getTail b av ov fine st = (⟨av, ov, dv == 1, fine, cs⟩, nv == 0 && fitS cs (wideS fine - nv - 1), nx5, e5) := by
  simp only [getTail, if_neg h0, hd, hn, hc]
def getStep (b : List Int) (s : Int) (k : Nat) (acc : List (List Filt)) : Option (List Filt × Bool × Int × Int) → Option (List (List Filt) × Bool × Int × Int)
  | none => none
  | some r => getWins b s k (acc ++ [r.1]) r.2.1 r.2.2
theorem getWins_succ {b : List Int} {s : Int} {k : Nat} {acc : List (List Filt)} {odd : Bool} {st : Int × Int} {mv nx1 e1 : Int} (hm : SG.getN b st (numF s) = (mv, nx1, e1)) :
    getWins b s (k + 1) acc odd st = getStep b s k acc (getFilts b s ((if 0 < mv then SG.getN b (nx1, e1) 1 else (0, nx1, e1)).1 == 1) mv.toNat [] odd (if 0 < mv then SG.getN b (nx1, e1) 1 else (0, nx1, e1)).2) := by
  simp only [getWins, hm]
  rfl
theorem sgn_wrap64 {n sz : Int} (h0 : 2 ≤ sz) (h1 : sz ≤ 4) (hn0 : 0 ≤ n) (hn1 : n ≤ 63) : wrap64 (n - wrap64 (n / 2 ^ (sz.toNat - 1) * 2 ^ sz.toNat)) = sgn n sz := by
  unfold sgn wrap64
  rcases (show sz = 2 ∨ sz = 3 ∨ sz = 4 by omega) with rfl | rfl | rfl
  · have e1 : (2 : Int) ^ ((2 : Int) - 1).toNat = 2 := by decide
    have e2 : (2 : Int) ^ (2 : Int).toNat = 4 := by decide
    have e3 : (2 : Int) ^ ((2 : Int).toNat - 1) = 2 := by decide
    rw [e1, e2, e3]; omega
  · have e1 : (2 : Int) ^ ((3 : Int) - 1).toNat = 4 := by decide
    have e2 : (2 : Int) ^ (3 : Int).toNat = 8 := by decide
    have e3 : (2 : Int) ^ ((3 : Int).toNat - 1) = 4 := by decide
    rw [e1, e2, e3]; omega
  · have e1 : (2 : Int) ^ ((4 : Int) - 1).toNat = 8 := by decide
    have e2 : (2 : Int) ^ (4 : Int).toNat = 16 := by decide
    have e3 : (2 : Int) ^ ((4 : Int).toNat - 1) = 8 := by decide
    rw [e1, e2, e3]; omega
theorem sgn_wrap {n sz : Int} (h0 : 2 ≤ sz) (h1 : sz ≤ 4) (hn0 : 0 ≤ n) (hn1 : n ≤ 63) : 0 ≤ n / 2 ^ (sz - 1).toNat ∧ n / 2 ^ (sz - 1).toNat ≤ 63 ∧ IntKind.i64.wrap (n / 2 ^ (sz - 1).toNat * 2 ^ sz.toNat) = n / 2 ^ (sz - 1).toNat * 2 ^ sz.toNat ∧ IntKind.i64.wrap (n - n / 2 ^ (sz - 1).toNat * 2 ^ sz.toNat) = sgn n sz := by
  rw [IntKind.wrap_i64, IntKind.wrap_i64]
  unfold sgn
  rcases (show sz = 2 ∨ sz = 3 ∨ sz = 4 by omega) with rfl | rfl | rfl
  · have e1 : (2 : Int) ^ ((2 : Int) - 1).toNat = 2 := by decide
    have e2 : (2 : Int) ^ (2 : Int).toNat = 4 := by decide
    rw [e1, e2]; omega
  · have e1 : (2 : Int) ^ ((3 : Int) - 1).toNat = 4 := by decide
    have e2 : (2 : Int) ^ (3 : Int).toNat = 8 := by decide
    rw [e1, e2]; omega
  · have e1 : (2 : Int) ^ ((4 : Int) - 1).toNat = 8 := by decide
    have e2 : (2 : Int) ^ (4 : Int).toNat = 16 := by decide
    rw [e1, e2]; omega
theorem get_res {W : World} {M E : Nat} {nx e : Int} (hM : W.cell? ⟨M, 0, none⟩ = some (.int .i64 nx)) (hE : W.cell? ⟨E, 0, none⟩ = some (.int .i64 e)) (tmps : Array Value) {v : Value}
    (h6 : tmps.getD 6 undef = v) (h7 : tmps.getD 7 undef = .pointer (some ⟨M, 0, none⟩)) (h8 : tmps.getD 8 undef = .pointer (some ⟨E, 0, none⟩)) : (results Try.f13 tmps).run Try.prog W = .ok (.tuple #[v, .int .i64 nx, .int .i64 e]) W := by
  have h6' : tmps[6]?.getD undef = v := by simpa using h6
  have h7' : tmps[7]?.getD undef = .pointer (some ⟨M, 0, none⟩) := by simpa using h7
  have h8' : tmps[8]?.getD undef = .pointer (some ⟨E, 0, none⟩) := by simpa using h8
  have hm : (loadVar 3 ⟨M, 0, none⟩).run Try.prog W = .ok (.int .i64 nx) W := by simp [loadVar, go_sem, hM]
  have he : (loadVar 28 ⟨E, 0, none⟩).run Try.prog W = .ok (.int .i64 e) W := by simp [loadVar, go_sem, hE]
  simp [results, Try.results13, h6', h7', h8', asAddr, hm, he]
theorem get_fin {W : World} {M E : Nat} {nx e : Int} {a : Act} {K : Ending → World → Prop} {v : Value} (hM : W.cell? ⟨M, 0, none⟩ = some (.int .i64 nx)) (hE : W.cell? ⟨E, 0, none⟩ = some (.int .i64 e))
    (h6 : a.tmps.getD 6 undef = v) (h7 : a.tmps.getD 7 undef = .pointer (some ⟨M, 0, none⟩)) (h8 : a.tmps.getD 8 undef = .pointer (some ⟨E, 0, none⟩)) (hd : a.defers = []) (hK : K (.returned (.tuple #[v, .int .i64 nx, .int .i64 e])) W) :
    bodyPost Try.prog Try.f13 K .ret a W := bodyPost_ret (get_res hM hE _ h6 h7 h8) hd hK
theorem GetT.start {w0 : World} {B M E X : Nat} {A : Option Addr} {c : Nat} {b : List Int} {s : Int} {W : World} {nx e : Int} {z0 z1 z2 z3 z4 : Value} (hd : w0.heap.size ≤ B ∧ w0.heap.size ≤ M ∧ w0.heap.size ≤ E ∧ w0.heap.size ≤ X ∧ B ≠ M ∧ B ≠ E ∧ M ≠ E ∧ B ≠ X ∧ M ≠ X ∧ E ≠ X) (hb : Below w0.heap.size w0 W)
    (hB : W.heap[B]? = some (.cells #[.slice A b.length c] 32 (0, 0))) (hM : W.heap[M]? = some (.cells #[.int .i64 nx] 3 (0, 0))) (hE : W.heap[E]? = some (.cells #[.int .i64 e] 28 (0, 0))) (bX : W.heap[X]? = some (.cells #[z0, z1, z2, z3, z4] 51 (0, 0))) :
    GetT w0 B M E X A c b s (((((W.setCell ⟨X, 0, none⟩ (.int .i64 (numF s))).setCell ⟨X, 1, none⟩ (.int .i64 (lenF s))).setCell ⟨X, 2, none⟩ (.int .i64 (ordF s))).setCell ⟨X, 3, none⟩ (.int .i64 (mostF s))).setCell ⟨X, 4, none⟩ (.int .i64 (topF s))) nx e := by
  have b1 := blk_put bX 0 (.int .i64 (numF s)) rfl
  have b2 := blk_put b1 1 (.int .i64 (lenF s)) rfl
  have b3 := blk_put b2 2 (.int .i64 (ordF s)) rfl
  have b4 := blk_put b3 3 (.int .i64 (mostF s)) rfl
  have b5 := blk_put b4 4 (.int .i64 (topF s)) rfl
  obtain ⟨h1, h2, h3, h4, n1, n2, n3, n4, n5, n6⟩ := hd
  exact ⟨⟨h1, h2, h3, h4, n1, n2, n3, n4, n5, n6⟩, below_set (below_set (below_set (below_set (below_set hb h4) h4) h4) h4) h4, blk_far (blk_far (blk_far (blk_far (blk_far hB n4 _) n4 _) n4 _) n4 _) n4 _, blk_far (blk_far (blk_far (blk_far (blk_far hM n5 _) n5 _) n5 _) n5 _) n5 _, blk_far (blk_far (blk_far (blk_far (blk_far hE n6 _) n6 _) n6 _) n6 _) n6 _, b5⟩
set_option maxHeartbeats 16000000 in
set_option maxRecDepth 100000 in
theorem tget_calls (A0 : Option Addr) (c0 : Nat) (b : List Int) (p s sh m : Int) (A3 : Option Addr) (c3 : Nat) (gs : List Int) (w : World) (hb01 : ∀ y ∈ b, 0 ≤ y ∧ y ≤ 255) (hbl : b.length ≤ 100000000) (hb0 : gs.length ≤ 17592186044416) (hr0 : Kd.C (Kd.int .u8) w A0 b.length b) (hc0 : b.length ≤ c0) (hr3 : Kd.C (Kd.int .i64) w A3 gs.length gs) (hc3 : gs.length ≤ c3) :
    Calls Try.prog 13 #[.slice A0 b.length c0, .int .i64 p, .agg #[.int .u8 s, .int .u8 sh, .int .i64 m, .slice A3 gs.length c3]] w fun e w' => ∃ v, e = .returned (.tuple #[v, .int .i64 (getTns b p s sh m gs).2.1, .int .i64 (getTns b p s sh m gs).2.2]) ∧ Kd.R (Kd.slice 38 k38) 35 w' w.heap.size (fun _ => True) v (getTns b p s sh m gs).1 ∧ Below w.heap.size w w' := by
  have HR3 := Aside0.mk hr3
  have HC3 := Aside0.mk hc3
  have HR0 := Aside0.mk hr0
  have HC0 := Aside0.mk hc0
  have HB01 := Aside0.mk hb01
  have HWN : Aside0 (info_Windows.f (gs.length + 1) s sh m gs = some (SP.windowsS s sh m gs)) := ⟨SP.windows_f s sh m gs hb0 (gs.length + 1) (by omega)⟩
  obtain ⟨R, hR⟩ : ∃ r, r = getTns b p s sh m gs := ⟨_, rfl⟩
  rw [← hR]
  obtain ⟨R1, R2, R3⟩ := R
  have HRR := Aside0.mk hR
  clear hr3 hc3 hr0 hc0 hb0 hb01 hR
  by_cases hs : SP.someS s sh m gs = true
  case neg =>
    obtain ⟨rfl, rfl, rfl⟩ : R1 = [] ∧ R2 = 0 ∧ R3 = 8 := by have := HRR.out; unfold getTns at this; rw [if_neg hs] at this; simpa using this
    have HWB : Aside0 (info_Windows.f (gs.length + 1) s sh m gs = some (0, 8)) := ⟨by rw [HWN.out]; unfold SP.windowsS; rw [if_neg hs]⟩
    clear hs HWN HRR
    have HB : Aside0 (Below w.heap.size w w) := ⟨Below.refl _ _⟩
    go_enter Try.func13, Try.ntmps13
    go_wp2_with (first | ((with_reducible refine gate_dst (N := 3) rfl ?_); refine box_event ?hg (N := 3) ?hd (cs := #[.slice A0 b.length c0]) (t := 32) ?hr ?_; (case hd => rfl); (case hg => rfl); (case hr => first | (go_simp; done) | (go_simp; rfl)); intro gB hg wx1 hbox hb; have HG_gB : Aside0 (w.heap.size ≤ gB) := ⟨by rw [hg]; exact HB.out.size⟩; have BK_gB := Aside0.mk hbox; replace HB := Aside0.mk (below_step HB.out hb); clear hg hbox hb; have hq_gB_0 : wx1.cell? ⟨gB, 0, none⟩ = some (.slice A0 b.length c0) := (blk_cell BK_gB.out 0).trans rfl; have hf_gB_0 : wx1.frozen? ⟨gB, 0, none⟩ = false := blk_frozen BK_gB.out 0) | ((with_reducible refine gate_dst (N := 5) rfl ?_); refine box_event ?hg (N := 5) ?hd (cs := #[.int .u8 s, .int .u8 sh, .int .i64 m, .slice A3 gs.length c3]) (t := 24) ?hr ?_; (case hd => rfl); (case hg => rfl); (case hr => first | (go_simp; done) | (go_simp; rfl)); intro gi hg wx2 hbox hb; have HG_gi : Aside0 (w.heap.size ≤ gi) := ⟨by rw [hg]; exact HB.out.size⟩; have NE_gB_gi : Aside0 (gB ≠ gi) := ⟨by rw [hg]; exact Nat.ne_of_lt (blk_lt BK_gB.out)⟩; have na_gB_gi : gB ≠ gi := NE_gB_gi.out; have nb_gB_gi : gi ≠ gB := Ne.symm NE_gB_gi.out; replace BK_gB := Aside0.mk (blk_below BK_gB.out hb); have BK_gi := Aside0.mk hbox; replace HB := Aside0.mk (below_step HB.out hb); clear hg hbox hb; clear hq_gB_0 hf_gB_0; have hq_gB_0 : wx2.cell? ⟨gB, 0, none⟩ = some (.slice A0 b.length c0) := (blk_cell BK_gB.out 0).trans rfl; have hf_gB_0 : wx2.frozen? ⟨gB, 0, none⟩ = false := blk_frozen BK_gB.out 0; have hq_gi_0 : wx2.cell? ⟨gi, 0, none⟩ = some (.int .u8 s) := (blk_cell BK_gi.out 0).trans rfl; have hf_gi_0 : wx2.frozen? ⟨gi, 0, none⟩ = false := blk_frozen BK_gi.out 0; have hq_gi_1 : wx2.cell? ⟨gi, 1, none⟩ = some (.int .u8 sh) := (blk_cell BK_gi.out 1).trans rfl; have hf_gi_1 : wx2.frozen? ⟨gi, 1, none⟩ = false := blk_frozen BK_gi.out 1; have hq_gi_2 : wx2.cell? ⟨gi, 2, none⟩ = some (.int .i64 m) := (blk_cell BK_gi.out 2).trans rfl; have hf_gi_2 : wx2.frozen? ⟨gi, 2, none⟩ = false := blk_frozen BK_gi.out 2; have hq_gi_3 : wx2.cell? ⟨gi, 3, none⟩ = some (.slice A3 gs.length c3) := (blk_cell BK_gi.out 3).trans rfl; have hf_gi_3 : wx2.frozen? ⟨gi, 3, none⟩ = false := blk_frozen BK_gi.out 3) | ((with_reducible refine gate_dst (N := 7) rfl ?_); refine box_event ?hg (N := 7) ?hd (cs := #[.int .i64 0]) (t := 3) ?hr ?_; (case hd => rfl); (case hg => rfl); (case hr => first | (go_simp; done) | (go_simp; rfl)); intro gM hg wx3 hbox hb; have HG_gM : Aside0 (w.heap.size ≤ gM) := ⟨by rw [hg]; exact HB.out.size⟩; have NE_gB_gM : Aside0 (gB ≠ gM) := ⟨by rw [hg]; exact Nat.ne_of_lt (blk_lt BK_gB.out)⟩; have na_gB_gM : gB ≠ gM := NE_gB_gM.out; have nb_gB_gM : gM ≠ gB := Ne.symm NE_gB_gM.out; replace BK_gB := Aside0.mk (blk_below BK_gB.out hb); have NE_gi_gM : Aside0 (gi ≠ gM) := ⟨by rw [hg]; exact Nat.ne_of_lt (blk_lt BK_gi.out)⟩; have na_gi_gM : gi ≠ gM := NE_gi_gM.out; have nb_gi_gM : gM ≠ gi := Ne.symm NE_gi_gM.out; replace BK_gi := Aside0.mk (blk_below BK_gi.out hb); have BK_gM := Aside0.mk hbox; replace HB := Aside0.mk (below_step HB.out hb); clear hg hbox hb; clear hq_gB_0 hf_gB_0 hq_gi_0 hf_gi_0 hq_gi_1 hf_gi_1 hq_gi_2 hf_gi_2 hq_gi_3 hf_gi_3; have hq_gB_0 : wx3.cell? ⟨gB, 0, none⟩ = some (.slice A0 b.length c0) := (blk_cell BK_gB.out 0).trans rfl; have hf_gB_0 : wx3.frozen? ⟨gB, 0, none⟩ = false := blk_frozen BK_gB.out 0; have hq_gi_0 : wx3.cell? ⟨gi, 0, none⟩ = some (.int .u8 s) := (blk_cell BK_gi.out 0).trans rfl; have hf_gi_0 : wx3.frozen? ⟨gi, 0, none⟩ = false := blk_frozen BK_gi.out 0; have hq_gi_1 : wx3.cell? ⟨gi, 1, none⟩ = some (.int .u8 sh) := (blk_cell BK_gi.out 1).trans rfl; have hf_gi_1 : wx3.frozen? ⟨gi, 1, none⟩ = false := blk_frozen BK_gi.out 1; have hq_gi_2 : wx3.cell? ⟨gi, 2, none⟩ = some (.int .i64 m) := (blk_cell BK_gi.out 2).trans rfl; have hf_gi_2 : wx3.frozen? ⟨gi, 2, none⟩ = false := blk_frozen BK_gi.out 2; have hq_gi_3 : wx3.cell? ⟨gi, 3, none⟩ = some (.slice A3 gs.length c3) := (blk_cell BK_gi.out 3).trans rfl; have hf_gi_3 : wx3.frozen? ⟨gi, 3, none⟩ = false := blk_frozen BK_gi.out 3; have hq_gM_0 : wx3.cell? ⟨gM, 0, none⟩ = some (.int .i64 0) := (blk_cell BK_gM.out 0).trans rfl; have hf_gM_0 : wx3.frozen? ⟨gM, 0, none⟩ = false := blk_frozen BK_gM.out 0) | ((with_reducible refine gate_dst (N := 8) rfl ?_); refine box_event ?hg (N := 8) ?hd (cs := #[.int .i64 0]) (t := 28) ?hr ?_; (case hd => rfl); (case hg => rfl); (case hr => first | (go_simp; done) | (go_simp; rfl)); intro gE hg wx4 hbox hb; have HG_gE : Aside0 (w.heap.size ≤ gE) := ⟨by rw [hg]; exact HB.out.size⟩; have NE_gB_gE : Aside0 (gB ≠ gE) := ⟨by rw [hg]; exact Nat.ne_of_lt (blk_lt BK_gB.out)⟩; have na_gB_gE : gB ≠ gE := NE_gB_gE.out; have nb_gB_gE : gE ≠ gB := Ne.symm NE_gB_gE.out; replace BK_gB := Aside0.mk (blk_below BK_gB.out hb); have NE_gi_gE : Aside0 (gi ≠ gE) := ⟨by rw [hg]; exact Nat.ne_of_lt (blk_lt BK_gi.out)⟩; have na_gi_gE : gi ≠ gE := NE_gi_gE.out; have nb_gi_gE : gE ≠ gi := Ne.symm NE_gi_gE.out; replace BK_gi := Aside0.mk (blk_below BK_gi.out hb); have NE_gM_gE : Aside0 (gM ≠ gE) := ⟨by rw [hg]; exact Nat.ne_of_lt (blk_lt BK_gM.out)⟩; have na_gM_gE : gM ≠ gE := NE_gM_gE.out; have nb_gM_gE : gE ≠ gM := Ne.symm NE_gM_gE.out; replace BK_gM := Aside0.mk (blk_below BK_gM.out hb); have BK_gE := Aside0.mk hbox; replace HB := Aside0.mk (below_step HB.out hb); clear hg hbox hb; clear hq_gB_0 hf_gB_0 hq_gi_0 hf_gi_0 hq_gi_1 hf_gi_1 hq_gi_2 hf_gi_2 hq_gi_3 hf_gi_3 hq_gM_0 hf_gM_0; have hq_gB_0 : wx4.cell? ⟨gB, 0, none⟩ = some (.slice A0 b.length c0) := (blk_cell BK_gB.out 0).trans rfl; have hf_gB_0 : wx4.frozen? ⟨gB, 0, none⟩ = false := blk_frozen BK_gB.out 0; have hq_gi_0 : wx4.cell? ⟨gi, 0, none⟩ = some (.int .u8 s) := (blk_cell BK_gi.out 0).trans rfl; have hf_gi_0 : wx4.frozen? ⟨gi, 0, none⟩ = false := blk_frozen BK_gi.out 0; have hq_gi_1 : wx4.cell? ⟨gi, 1, none⟩ = some (.int .u8 sh) := (blk_cell BK_gi.out 1).trans rfl; have hf_gi_1 : wx4.frozen? ⟨gi, 1, none⟩ = false := blk_frozen BK_gi.out 1; have hq_gi_2 : wx4.cell? ⟨gi, 2, none⟩ = some (.int .i64 m) := (blk_cell BK_gi.out 2).trans rfl; have hf_gi_2 : wx4.frozen? ⟨gi, 2, none⟩ = false := blk_frozen BK_gi.out 2; have hq_gi_3 : wx4.cell? ⟨gi, 3, none⟩ = some (.slice A3 gs.length c3) := (blk_cell BK_gi.out 3).trans rfl; have hf_gi_3 : wx4.frozen? ⟨gi, 3, none⟩ = false := blk_frozen BK_gi.out 3; have hq_gM_0 : wx4.cell? ⟨gM, 0, none⟩ = some (.int .i64 0) := (blk_cell BK_gM.out 0).trans rfl; have hf_gM_0 : wx4.frozen? ⟨gM, 0, none⟩ = false := blk_frozen BK_gM.out 0; have hq_gE_0 : wx4.cell? ⟨gE, 0, none⟩ = some (.int .i64 0) := (blk_cell BK_gE.out 0).trans rfl; have hf_gE_0 : wx4.frozen? ⟨gE, 0, none⟩ = false := blk_frozen BK_gE.out 0) | (go_at_call 9; refine (info_Windows.calls (gs.length + 1) s sh m A3 c3 gs 0 8 _ (Kd.C_below HR3.out HB.out) HC3.out HWB.out).mono ?_; rintro e wx5 ⟨rfl, hb⟩; replace BK_gB := Aside0.mk (blk_below BK_gB.out hb); replace BK_gi := Aside0.mk (blk_below BK_gi.out hb); replace BK_gM := Aside0.mk (blk_below BK_gM.out hb); replace BK_gE := Aside0.mk (blk_below BK_gE.out hb); replace HB := Aside0.mk (below_step HB.out hb); clear hb; clear hq_gB_0 hf_gB_0 hq_gi_0 hf_gi_0 hq_gi_1 hf_gi_1 hq_gi_2 hf_gi_2 hq_gi_3 hf_gi_3 hq_gM_0 hf_gM_0 hq_gE_0 hf_gE_0; have hq_gB_0 : wx5.cell? ⟨gB, 0, none⟩ = some (.slice A0 b.length c0) := (blk_cell BK_gB.out 0).trans rfl; have hf_gB_0 : wx5.frozen? ⟨gB, 0, none⟩ = false := blk_frozen BK_gB.out 0; have hq_gi_0 : wx5.cell? ⟨gi, 0, none⟩ = some (.int .u8 s) := (blk_cell BK_gi.out 0).trans rfl; have hf_gi_0 : wx5.frozen? ⟨gi, 0, none⟩ = false := blk_frozen BK_gi.out 0; have hq_gi_1 : wx5.cell? ⟨gi, 1, none⟩ = some (.int .u8 sh) := (blk_cell BK_gi.out 1).trans rfl; have hf_gi_1 : wx5.frozen? ⟨gi, 1, none⟩ = false := blk_frozen BK_gi.out 1; have hq_gi_2 : wx5.cell? ⟨gi, 2, none⟩ = some (.int .i64 m) := (blk_cell BK_gi.out 2).trans rfl; have hf_gi_2 : wx5.frozen? ⟨gi, 2, none⟩ = false := blk_frozen BK_gi.out 2; have hq_gi_3 : wx5.cell? ⟨gi, 3, none⟩ = some (.slice A3 gs.length c3) := (blk_cell BK_gi.out 3).trans rfl; have hf_gi_3 : wx5.frozen? ⟨gi, 3, none⟩ = false := blk_frozen BK_gi.out 3; have hq_gM_0 : wx5.cell? ⟨gM, 0, none⟩ = some (.int .i64 0) := (blk_cell BK_gM.out 0).trans rfl; have hf_gM_0 : wx5.frozen? ⟨gM, 0, none⟩ = false := blk_frozen BK_gM.out 0; have hq_gE_0 : wx5.cell? ⟨gE, 0, none⟩ = some (.int .i64 0) := (blk_cell BK_gE.out 0).trans rfl; have hf_gE_0 : wx5.frozen? ⟨gE, 0, none⟩ = false := blk_frozen BK_gE.out 0; replace BK_gB := Aside0.mk (blk_far (p := ⟨gE, 0, none⟩) BK_gB.out NE_gB_gE.out (.int .i64 8)); replace BK_gi := Aside0.mk (blk_far (p := ⟨gE, 0, none⟩) BK_gi.out NE_gi_gE.out (.int .i64 8)); replace BK_gM := Aside0.mk (blk_far (p := ⟨gE, 0, none⟩) BK_gM.out NE_gM_gE.out (.int .i64 8)); replace BK_gE := Aside0.mk (blk_put BK_gE.out 0 (.int .i64 8) rfl); replace HB := Aside0.mk (below_set (j := 0) (v := .int .i64 8) HB.out HG_gE.out)))
    generalize (wx5.setCell ⟨gE, 0, none⟩ (.int .i64 8)) = wz at HB BK_gM BK_gE ⊢
    clear hq_gB_0 hf_gB_0 hq_gi_0 hf_gi_0 hq_gi_1 hf_gi_1 hq_gi_2 hf_gi_2 hq_gi_3 hf_gi_3 hq_gM_0 hf_gM_0 hq_gE_0 hf_gE_0 BK_gB BK_gi
    have qM := (blk_cell BK_gM.out 0).trans rfl
    have fM := blk_frozen BK_gM.out 0
    have qE : wz.cell? ⟨gE, 0, none⟩ = some (.int .i64 8) := (blk_cell BK_gE.out 0).trans rfl
    have fE := blk_frozen BK_gE.out 0
    refine start_ (n := 4) (S := fun w' => w'.cell? ⟨gE, 0, none⟩ = some (.int .i64 8)) (ds := [3]) #[false, false, false, false] (by kernel_rfl) rfl rfl (qE) (fun hHeld => ?_)
    refine pure_ (i := 1) (N := some 6) (v := ?_) (a' := ?_) #[false, true, false, false] rfl rfl (by kernel_rfl) (fun _ _ _ h => h) (Or.inl ⟨by rfl, ?_⟩) ?_ ?_
    rotate_left
    · intro w'
      go_simp
      with_reducible rfl
    rotate_left
    · simp only [Act.put, List.setIfInBounds_toArray, List.set_cons_zero, List.set_cons_succ, i64_w, i32_w]
      rfl
    refine take_ (i := 0) (N := some 27) (v := ?_) (a' := ?_) #[true, true, false, false] rfl rfl (by kernel_rfl) (fun _ _ _ h => h) (Or.inl ⟨by rfl, ?_⟩) hHeld ?_ ?_
    rotate_left
    · intro w' s0
      go_simp
      with_reducible rfl
    rotate_left
    · simp only [Act.put, List.setIfInBounds_toArray, List.set_cons_zero, List.set_cons_succ, i64_w, i32_w]
      rfl
    refine one_ (i := 2) (N := none) #[true, true, true, false] rfl rfl (by kernel_rfl) (by decide) (fun K hK => ?_)
    refine skip_ (w1 := ?_) (by rfl) rfl ?_ ?_
    rotate_left
    · go_simp
      rfl
    refine hK.out _ _ ((by go_simp)) (fun hHeld => ?_)
    clear hK K
    refine last_ (i := 3) (N := none) #[true, true, true, true] rfl rfl (by kernel_rfl) (by decide) (fun K hK => ?_)
    refine skip_ (w1 := ?_) (by rfl) rfl ?_ ?_
    rotate_left
    · go_simp
      rfl
    refine hK.out _ _ ?_
    clear hK K
    refine done_ (by kernel_rfl) ?_
    go_wp2
    refine get_fin (M := gM) (E := gE) (nx := 0) (e := 8) ((blk_cell (blk_far (blk_put (blk_drew BK_gM.out) 0 _ rfl) NE_gM_gE.out _) 0).trans rfl) ((blk_cell (blk_put (blk_far (blk_drew BK_gE.out) (Ne.symm NE_gM_gE.out) _) 0 _ rfl) 0).trans rfl) rfl rfl rfl rfl ?_
    exact ⟨_, rfl, Kd.R_nil _ _ _ _ _, below_set (below_set (below_drew1 HB.out) HG_gM.out) HG_gE.out⟩
  have HRR2 : Aside0 ((R1, R2, R3) = getEnd (getWins b s (manyF s).toNat [] false (p, 0))) := ⟨by have := HRR.out; unfold getTns at this; rwa [if_pos hs] at this⟩
  have HWB : Aside0 (info_Windows.f (gs.length + 1) s sh m gs = some (manyF s, 0)) := ⟨by rw [HWN.out]; unfold SP.windowsS; rw [if_pos hs]; rfl⟩
  clear hs HWN HRR
  obtain ⟨N, hN⟩ : ∃ n : Nat, (n : Int) = manyF s ∧ n ≤ 8 := ⟨(manyF s).toNat, by unfold manyF; split <;> decide, by unfold manyF; split <;> decide⟩
  rw [← hN.1] at HWB HRR2
  rw [Int.toNat_natCast] at HRR2
  have hN8 := hN.2
  clear hN
  obtain ⟨RES, hres⟩ : ∃ r, r = getWins b s N [] false (p, 0) := ⟨_, rfl⟩
  rw [← hres] at HRR2
  have HW0 := Aside0.mk hres.symm
  clear hres
  have HB : Aside0 (Below w.heap.size w w) := ⟨Below.refl _ _⟩
  go_enter Try.func13, Try.ntmps13
  go_wp2_with (first | ((with_reducible refine gate_dst (N := 3) rfl ?_); refine box_event ?hg (N := 3) ?hd (cs := #[.slice A0 b.length c0]) (t := 32) ?hr ?_; (case hd => rfl); (case hg => rfl); (case hr => first | (go_simp; done) | (go_simp; rfl)); intro gB hg wx1 hbox hb; have HG_gB : Aside0 (w.heap.size ≤ gB) := ⟨by rw [hg]; exact HB.out.size⟩; have BK_gB := Aside0.mk hbox; replace HB := Aside0.mk (below_step HB.out hb); clear hg hbox hb; have hq_gB_0 : wx1.cell? ⟨gB, 0, none⟩ = some (.slice A0 b.length c0) := (blk_cell BK_gB.out 0).trans rfl; have hf_gB_0 : wx1.frozen? ⟨gB, 0, none⟩ = false := blk_frozen BK_gB.out 0) | ((with_reducible refine gate_dst (N := 5) rfl ?_); refine box_event ?hg (N := 5) ?hd (cs := #[.int .u8 s, .int .u8 sh, .int .i64 m, .slice A3 gs.length c3]) (t := 24) ?hr ?_; (case hd => rfl); (case hg => rfl); (case hr => first | (go_simp; done) | (go_simp; rfl)); intro gi hg wx2 hbox hb; have HG_gi : Aside0 (w.heap.size ≤ gi) := ⟨by rw [hg]; exact HB.out.size⟩; have NE_gB_gi : Aside0 (gB ≠ gi) := ⟨by rw [hg]; exact Nat.ne_of_lt (blk_lt BK_gB.out)⟩; have na_gB_gi : gB ≠ gi := NE_gB_gi.out; have nb_gB_gi : gi ≠ gB := Ne.symm NE_gB_gi.out; replace BK_gB := Aside0.mk (blk_below BK_gB.out hb); have BK_gi := Aside0.mk hbox; replace HB := Aside0.mk (below_step HB.out hb); clear hg hbox hb; clear hq_gB_0 hf_gB_0; have hq_gB_0 : wx2.cell? ⟨gB, 0, none⟩ = some (.slice A0 b.length c0) := (blk_cell BK_gB.out 0).trans rfl; have hf_gB_0 : wx2.frozen? ⟨gB, 0, none⟩ = false := blk_frozen BK_gB.out 0; have hq_gi_0 : wx2.cell? ⟨gi, 0, none⟩ = some (.int .u8 s) := (blk_cell BK_gi.out 0).trans rfl; have hf_gi_0 : wx2.frozen? ⟨gi, 0, none⟩ = false := blk_frozen BK_gi.out 0; have hq_gi_1 : wx2.cell? ⟨gi, 1, none⟩ = some (.int .u8 sh) := (blk_cell BK_gi.out 1).trans rfl; have hf_gi_1 : wx2.frozen? ⟨gi, 1, none⟩ = false := blk_frozen BK_gi.out 1; have hq_gi_2 : wx2.cell? ⟨gi, 2, none⟩ = some (.int .i64 m) := (blk_cell BK_gi.out 2).trans rfl; have hf_gi_2 : wx2.frozen? ⟨gi, 2, none⟩ = false := blk_frozen BK_gi.out 2; have hq_gi_3 : wx2.cell? ⟨gi, 3, none⟩ = some (.slice A3 gs.length c3) := (blk_cell BK_gi.out 3).trans rfl; have hf_gi_3 : wx2.frozen? ⟨gi, 3, none⟩ = false := blk_frozen BK_gi.out 3) | ((with_reducible refine gate_dst (N := 7) rfl ?_); refine box_event ?hg (N := 7) ?hd (cs := #[.int .i64 0]) (t := 3) ?hr ?_; (case hd => rfl); (case hg => rfl); (case hr => first | (go_simp; done) | (go_simp; rfl)); intro gM hg wx3 hbox hb; have HG_gM : Aside0 (w.heap.size ≤ gM) := ⟨by rw [hg]; exact HB.out.size⟩; have NE_gB_gM : Aside0 (gB ≠ gM) := ⟨by rw [hg]; exact Nat.ne_of_lt (blk_lt BK_gB.out)⟩; have na_gB_gM : gB ≠ gM := NE_gB_gM.out; have nb_gB_gM : gM ≠ gB := Ne.symm NE_gB_gM.out; replace BK_gB := Aside0.mk (blk_below BK_gB.out hb); have NE_gi_gM : Aside0 (gi ≠ gM) := ⟨by rw [hg]; exact Nat.ne_of_lt (blk_lt BK_gi.out)⟩; have na_gi_gM : gi ≠ gM := NE_gi_gM.out; have nb_gi_gM : gM ≠ gi := Ne.symm NE_gi_gM.out; replace BK_gi := Aside0.mk (blk_below BK_gi.out hb); have BK_gM := Aside0.mk hbox; replace HB := Aside0.mk (below_step HB.out hb); clear hg hbox hb; clear hq_gB_0 hf_gB_0 hq_gi_0 hf_gi_0 hq_gi_1 hf_gi_1 hq_gi_2 hf_gi_2 hq_gi_3 hf_gi_3; have hq_gB_0 : wx3.cell? ⟨gB, 0, none⟩ = some (.slice A0 b.length c0) := (blk_cell BK_gB.out 0).trans rfl; have hf_gB_0 : wx3.frozen? ⟨gB, 0, none⟩ = false := blk_frozen BK_gB.out 0; have hq_gi_0 : wx3.cell? ⟨gi, 0, none⟩ = some (.int .u8 s) := (blk_cell BK_gi.out 0).trans rfl; have hf_gi_0 : wx3.frozen? ⟨gi, 0, none⟩ = false := blk_frozen BK_gi.out 0; have hq_gi_1 : wx3.cell? ⟨gi, 1, none⟩ = some (.int .u8 sh) := (blk_cell BK_gi.out 1).trans rfl; have hf_gi_1 : wx3.frozen? ⟨gi, 1, none⟩ = false := blk_frozen BK_gi.out 1; have hq_gi_2 : wx3.cell? ⟨gi, 2, none⟩ = some (.int .i64 m) := (blk_cell BK_gi.out 2).trans rfl; have hf_gi_2 : wx3.frozen? ⟨gi, 2, none⟩ = false := blk_frozen BK_gi.out 2; have hq_gi_3 : wx3.cell? ⟨gi, 3, none⟩ = some (.slice A3 gs.length c3) := (blk_cell BK_gi.out 3).trans rfl; have hf_gi_3 : wx3.frozen? ⟨gi, 3, none⟩ = false := blk_frozen BK_gi.out 3; have hq_gM_0 : wx3.cell? ⟨gM, 0, none⟩ = some (.int .i64 0) := (blk_cell BK_gM.out 0).trans rfl; have hf_gM_0 : wx3.frozen? ⟨gM, 0, none⟩ = false := blk_frozen BK_gM.out 0) | ((with_reducible refine gate_dst (N := 8) rfl ?_); refine box_event ?hg (N := 8) ?hd (cs := #[.int .i64 0]) (t := 28) ?hr ?_; (case hd => rfl); (case hg => rfl); (case hr => first | (go_simp; done) | (go_simp; rfl)); intro gE hg wx4 hbox hb; have HG_gE : Aside0 (w.heap.size ≤ gE) := ⟨by rw [hg]; exact HB.out.size⟩; have NE_gB_gE : Aside0 (gB ≠ gE) := ⟨by rw [hg]; exact Nat.ne_of_lt (blk_lt BK_gB.out)⟩; have na_gB_gE : gB ≠ gE := NE_gB_gE.out; have nb_gB_gE : gE ≠ gB := Ne.symm NE_gB_gE.out; replace BK_gB := Aside0.mk (blk_below BK_gB.out hb); have NE_gi_gE : Aside0 (gi ≠ gE) := ⟨by rw [hg]; exact Nat.ne_of_lt (blk_lt BK_gi.out)⟩; have na_gi_gE : gi ≠ gE := NE_gi_gE.out; have nb_gi_gE : gE ≠ gi := Ne.symm NE_gi_gE.out; replace BK_gi := Aside0.mk (blk_below BK_gi.out hb); have NE_gM_gE : Aside0 (gM ≠ gE) := ⟨by rw [hg]; exact Nat.ne_of_lt (blk_lt BK_gM.out)⟩; have na_gM_gE : gM ≠ gE := NE_gM_gE.out; have nb_gM_gE : gE ≠ gM := Ne.symm NE_gM_gE.out; replace BK_gM := Aside0.mk (blk_below BK_gM.out hb); have BK_gE := Aside0.mk hbox; replace HB := Aside0.mk (below_step HB.out hb); clear hg hbox hb; clear hq_gB_0 hf_gB_0 hq_gi_0 hf_gi_0 hq_gi_1 hf_gi_1 hq_gi_2 hf_gi_2 hq_gi_3 hf_gi_3 hq_gM_0 hf_gM_0; have hq_gB_0 : wx4.cell? ⟨gB, 0, none⟩ = some (.slice A0 b.length c0) := (blk_cell BK_gB.out 0).trans rfl; have hf_gB_0 : wx4.frozen? ⟨gB, 0, none⟩ = false := blk_frozen BK_gB.out 0; have hq_gi_0 : wx4.cell? ⟨gi, 0, none⟩ = some (.int .u8 s) := (blk_cell BK_gi.out 0).trans rfl; have hf_gi_0 : wx4.frozen? ⟨gi, 0, none⟩ = false := blk_frozen BK_gi.out 0; have hq_gi_1 : wx4.cell? ⟨gi, 1, none⟩ = some (.int .u8 sh) := (blk_cell BK_gi.out 1).trans rfl; have hf_gi_1 : wx4.frozen? ⟨gi, 1, none⟩ = false := blk_frozen BK_gi.out 1; have hq_gi_2 : wx4.cell? ⟨gi, 2, none⟩ = some (.int .i64 m) := (blk_cell BK_gi.out 2).trans rfl; have hf_gi_2 : wx4.frozen? ⟨gi, 2, none⟩ = false := blk_frozen BK_gi.out 2; have hq_gi_3 : wx4.cell? ⟨gi, 3, none⟩ = some (.slice A3 gs.length c3) := (blk_cell BK_gi.out 3).trans rfl; have hf_gi_3 : wx4.frozen? ⟨gi, 3, none⟩ = false := blk_frozen BK_gi.out 3; have hq_gM_0 : wx4.cell? ⟨gM, 0, none⟩ = some (.int .i64 0) := (blk_cell BK_gM.out 0).trans rfl; have hf_gM_0 : wx4.frozen? ⟨gM, 0, none⟩ = false := blk_frozen BK_gM.out 0; have hq_gE_0 : wx4.cell? ⟨gE, 0, none⟩ = some (.int .i64 0) := (blk_cell BK_gE.out 0).trans rfl; have hf_gE_0 : wx4.frozen? ⟨gE, 0, none⟩ = false := blk_frozen BK_gE.out 0) | (go_at_call 9; refine (info_Windows.calls (gs.length + 1) s sh m A3 c3 gs (N : Int) 0 _ (Kd.C_below HR3.out HB.out) HC3.out HWB.out).mono ?_; rintro e wx5 ⟨rfl, hb⟩; replace BK_gB := Aside0.mk (blk_below BK_gB.out hb); replace BK_gi := Aside0.mk (blk_below BK_gi.out hb); replace BK_gM := Aside0.mk (blk_below BK_gM.out hb); replace BK_gE := Aside0.mk (blk_below BK_gE.out hb); replace HB := Aside0.mk (below_step HB.out hb); clear hb; clear hq_gB_0 hf_gB_0 hq_gi_0 hf_gi_0 hq_gi_1 hf_gi_1 hq_gi_2 hf_gi_2 hq_gi_3 hf_gi_3 hq_gM_0 hf_gM_0 hq_gE_0 hf_gE_0; have hq_gB_0 : wx5.cell? ⟨gB, 0, none⟩ = some (.slice A0 b.length c0) := (blk_cell BK_gB.out 0).trans rfl; have hf_gB_0 : wx5.frozen? ⟨gB, 0, none⟩ = false := blk_frozen BK_gB.out 0; have hq_gi_0 : wx5.cell? ⟨gi, 0, none⟩ = some (.int .u8 s) := (blk_cell BK_gi.out 0).trans rfl; have hf_gi_0 : wx5.frozen? ⟨gi, 0, none⟩ = false := blk_frozen BK_gi.out 0; have hq_gi_1 : wx5.cell? ⟨gi, 1, none⟩ = some (.int .u8 sh) := (blk_cell BK_gi.out 1).trans rfl; have hf_gi_1 : wx5.frozen? ⟨gi, 1, none⟩ = false := blk_frozen BK_gi.out 1; have hq_gi_2 : wx5.cell? ⟨gi, 2, none⟩ = some (.int .i64 m) := (blk_cell BK_gi.out 2).trans rfl; have hf_gi_2 : wx5.frozen? ⟨gi, 2, none⟩ = false := blk_frozen BK_gi.out 2; have hq_gi_3 : wx5.cell? ⟨gi, 3, none⟩ = some (.slice A3 gs.length c3) := (blk_cell BK_gi.out 3).trans rfl; have hf_gi_3 : wx5.frozen? ⟨gi, 3, none⟩ = false := blk_frozen BK_gi.out 3; have hq_gM_0 : wx5.cell? ⟨gM, 0, none⟩ = some (.int .i64 0) := (blk_cell BK_gM.out 0).trans rfl; have hf_gM_0 : wx5.frozen? ⟨gM, 0, none⟩ = false := blk_frozen BK_gM.out 0; have hq_gE_0 : wx5.cell? ⟨gE, 0, none⟩ = some (.int .i64 0) := (blk_cell BK_gE.out 0).trans rfl; have hf_gE_0 : wx5.frozen? ⟨gE, 0, none⟩ = false := blk_frozen BK_gE.out 0; replace BK_gB := Aside0.mk (blk_far (p := ⟨gE, 0, none⟩) BK_gB.out NE_gB_gE.out (.int .i64 0)); replace BK_gi := Aside0.mk (blk_far (p := ⟨gE, 0, none⟩) BK_gi.out NE_gi_gE.out (.int .i64 0)); replace BK_gM := Aside0.mk (blk_far (p := ⟨gE, 0, none⟩) BK_gM.out NE_gM_gE.out (.int .i64 0)); replace BK_gE := Aside0.mk (blk_put BK_gE.out 0 (.int .i64 0) rfl); replace HB := Aside0.mk (below_set (j := 0) (v := .int .i64 0) HB.out HG_gE.out); replace BK_gB := Aside0.mk (blk_far (p := ⟨gM, 0, none⟩) BK_gB.out NE_gB_gM.out (.int .i64 p)); replace BK_gi := Aside0.mk (blk_far (p := ⟨gM, 0, none⟩) BK_gi.out NE_gi_gM.out (.int .i64 p)); replace BK_gE := Aside0.mk (blk_far (p := ⟨gM, 0, none⟩) BK_gE.out (Ne.symm NE_gM_gE.out) (.int .i64 p)); replace BK_gM := Aside0.mk (blk_put BK_gM.out 0 (.int .i64 p) rfl); replace HB := Aside0.mk (below_set (j := 0) (v := .int .i64 p) HB.out HG_gM.out)) | (go_at_call 17; refine (sizes_calls' s sh m A3 gs.length c3 _).mono ?_; rintro e wx6 ⟨rfl, hb⟩; replace BK_gB := Aside0.mk (blk_below BK_gB.out hb); replace BK_gi := Aside0.mk (blk_below BK_gi.out hb); replace BK_gM := Aside0.mk (blk_below BK_gM.out hb); replace BK_gE := Aside0.mk (blk_below BK_gE.out hb); replace HB := Aside0.mk (below_step HB.out hb); clear hb; clear hq_gB_0 hf_gB_0 hq_gi_0 hf_gi_0 hq_gi_1 hf_gi_1 hq_gi_2 hf_gi_2 hq_gi_3 hf_gi_3 hq_gM_0 hf_gM_0 hq_gE_0 hf_gE_0; have hq_gB_0 : wx6.cell? ⟨gB, 0, none⟩ = some (.slice A0 b.length c0) := (blk_cell BK_gB.out 0).trans rfl; have hf_gB_0 : wx6.frozen? ⟨gB, 0, none⟩ = false := blk_frozen BK_gB.out 0; have hq_gi_0 : wx6.cell? ⟨gi, 0, none⟩ = some (.int .u8 s) := (blk_cell BK_gi.out 0).trans rfl; have hf_gi_0 : wx6.frozen? ⟨gi, 0, none⟩ = false := blk_frozen BK_gi.out 0; have hq_gi_1 : wx6.cell? ⟨gi, 1, none⟩ = some (.int .u8 sh) := (blk_cell BK_gi.out 1).trans rfl; have hf_gi_1 : wx6.frozen? ⟨gi, 1, none⟩ = false := blk_frozen BK_gi.out 1; have hq_gi_2 : wx6.cell? ⟨gi, 2, none⟩ = some (.int .i64 m) := (blk_cell BK_gi.out 2).trans rfl; have hf_gi_2 : wx6.frozen? ⟨gi, 2, none⟩ = false := blk_frozen BK_gi.out 2; have hq_gi_3 : wx6.cell? ⟨gi, 3, none⟩ = some (.slice A3 gs.length c3) := (blk_cell BK_gi.out 3).trans rfl; have hf_gi_3 : wx6.frozen? ⟨gi, 3, none⟩ = false := blk_frozen BK_gi.out 3; have hq_gM_0 : wx6.cell? ⟨gM, 0, none⟩ = some (.int .i64 p) := (blk_cell BK_gM.out 0).trans rfl; have hf_gM_0 : wx6.frozen? ⟨gM, 0, none⟩ = false := blk_frozen BK_gM.out 0; have hq_gE_0 : wx6.cell? ⟨gE, 0, none⟩ = some (.int .i64 0) := (blk_cell BK_gE.out 0).trans rfl; have hf_gE_0 : wx6.frozen? ⟨gE, 0, none⟩ = false := blk_frozen BK_gE.out 0) | ((with_reducible refine gate_dst (N := 11) rfl ?_); refine box_event ?hg (N := 11) ?hd (cs := #[.int .i64 0, .int .i64 0, .int .i64 0, .int .i64 0, .int .i64 0]) (t := 51) ?hr ?_; (case hd => rfl); (case hg => rfl); (case hr => first | (go_simp; done) | (go_simp; rfl)); intro gX hg wx7 hbox hb; have HG_gX : Aside0 (w.heap.size ≤ gX) := ⟨by rw [hg]; exact HB.out.size⟩; have NE_gB_gX : Aside0 (gB ≠ gX) := ⟨by rw [hg]; exact Nat.ne_of_lt (blk_lt BK_gB.out)⟩; have na_gB_gX : gB ≠ gX := NE_gB_gX.out; have nb_gB_gX : gX ≠ gB := Ne.symm NE_gB_gX.out; replace BK_gB := Aside0.mk (blk_below BK_gB.out hb); have NE_gi_gX : Aside0 (gi ≠ gX) := ⟨by rw [hg]; exact Nat.ne_of_lt (blk_lt BK_gi.out)⟩; have na_gi_gX : gi ≠ gX := NE_gi_gX.out; have nb_gi_gX : gX ≠ gi := Ne.symm NE_gi_gX.out; replace BK_gi := Aside0.mk (blk_below BK_gi.out hb); have NE_gM_gX : Aside0 (gM ≠ gX) := ⟨by rw [hg]; exact Nat.ne_of_lt (blk_lt BK_gM.out)⟩; have na_gM_gX : gM ≠ gX := NE_gM_gX.out; have nb_gM_gX : gX ≠ gM := Ne.symm NE_gM_gX.out; replace BK_gM := Aside0.mk (blk_below BK_gM.out hb); have NE_gE_gX : Aside0 (gE ≠ gX) := ⟨by rw [hg]; exact Nat.ne_of_lt (blk_lt BK_gE.out)⟩; have na_gE_gX : gE ≠ gX := NE_gE_gX.out; have nb_gE_gX : gX ≠ gE := Ne.symm NE_gE_gX.out; replace BK_gE := Aside0.mk (blk_below BK_gE.out hb); have BK_gX := Aside0.mk hbox; replace HB := Aside0.mk (below_step HB.out hb); clear hg hbox hb; clear hq_gB_0 hf_gB_0 hq_gi_0 hf_gi_0 hq_gi_1 hf_gi_1 hq_gi_2 hf_gi_2 hq_gi_3 hf_gi_3 hq_gM_0 hf_gM_0 hq_gE_0 hf_gE_0; have hq_gB_0 : wx7.cell? ⟨gB, 0, none⟩ = some (.slice A0 b.length c0) := (blk_cell BK_gB.out 0).trans rfl; have hf_gB_0 : wx7.frozen? ⟨gB, 0, none⟩ = false := blk_frozen BK_gB.out 0; have hq_gi_0 : wx7.cell? ⟨gi, 0, none⟩ = some (.int .u8 s) := (blk_cell BK_gi.out 0).trans rfl; have hf_gi_0 : wx7.frozen? ⟨gi, 0, none⟩ = false := blk_frozen BK_gi.out 0; have hq_gi_1 : wx7.cell? ⟨gi, 1, none⟩ = some (.int .u8 sh) := (blk_cell BK_gi.out 1).trans rfl; have hf_gi_1 : wx7.frozen? ⟨gi, 1, none⟩ = false := blk_frozen BK_gi.out 1; have hq_gi_2 : wx7.cell? ⟨gi, 2, none⟩ = some (.int .i64 m) := (blk_cell BK_gi.out 2).trans rfl; have hf_gi_2 : wx7.frozen? ⟨gi, 2, none⟩ = false := blk_frozen BK_gi.out 2; have hq_gi_3 : wx7.cell? ⟨gi, 3, none⟩ = some (.slice A3 gs.length c3) := (blk_cell BK_gi.out 3).trans rfl; have hf_gi_3 : wx7.frozen? ⟨gi, 3, none⟩ = false := blk_frozen BK_gi.out 3; have hq_gM_0 : wx7.cell? ⟨gM, 0, none⟩ = some (.int .i64 p) := (blk_cell BK_gM.out 0).trans rfl; have hf_gM_0 : wx7.frozen? ⟨gM, 0, none⟩ = false := blk_frozen BK_gM.out 0; have hq_gE_0 : wx7.cell? ⟨gE, 0, none⟩ = some (.int .i64 0) := (blk_cell BK_gE.out 0).trans rfl; have hf_gE_0 : wx7.frozen? ⟨gE, 0, none⟩ = false := blk_frozen BK_gE.out 0; have hq_gX_0 : wx7.cell? ⟨gX, 0, none⟩ = some (.int .i64 0) := (blk_cell BK_gX.out 0).trans rfl; have hf_gX_0 : wx7.frozen? ⟨gX, 0, none⟩ = false := blk_frozen BK_gX.out 0; have hq_gX_1 : wx7.cell? ⟨gX, 1, none⟩ = some (.int .i64 0) := (blk_cell BK_gX.out 1).trans rfl; have hf_gX_1 : wx7.frozen? ⟨gX, 1, none⟩ = false := blk_frozen BK_gX.out 1; have hq_gX_2 : wx7.cell? ⟨gX, 2, none⟩ = some (.int .i64 0) := (blk_cell BK_gX.out 2).trans rfl; have hf_gX_2 : wx7.frozen? ⟨gX, 2, none⟩ = false := blk_frozen BK_gX.out 2; have hq_gX_3 : wx7.cell? ⟨gX, 3, none⟩ = some (.int .i64 0) := (blk_cell BK_gX.out 3).trans rfl; have hf_gX_3 : wx7.frozen? ⟨gX, 3, none⟩ = false := blk_frozen BK_gX.out 3; have hq_gX_4 : wx7.cell? ⟨gX, 4, none⟩ = some (.int .i64 0) := (blk_cell BK_gX.out 4).trans rfl; have hf_gX_4 : wx7.frozen? ⟨gX, 4, none⟩ = false := blk_frozen BK_gX.out 4))
  have HL : Aside0 (LL w gB gM gE gX A0 c0 b s (.slice none 0 0) [] (((((wx7.setCell ⟨gX, 0, none⟩ (.int .i64 (numF s))).setCell ⟨gX, 1, none⟩ (.int .i64 (lenF s))).setCell ⟨gX, 2, none⟩ (.int .i64 (ordF s))).setCell ⟨gX, 3, none⟩ (.int .i64 (mostF s))).setCell ⟨gX, 4, none⟩ (.int .i64 (topF s))) p 0) := ⟨GetT.start ⟨HG_gB.out, HG_gM.out, HG_gE.out, HG_gX.out, NE_gB_gM.out, NE_gB_gE.out, NE_gM_gE.out, NE_gB_gX.out, NE_gM_gX.out, NE_gE_gX.out⟩ HB.out BK_gB.out BK_gM.out BK_gE.out BK_gX.out, Kd.R_nil _ _ _ _ _⟩
  generalize (((((wx7.setCell ⟨gX, 0, none⟩ (.int .i64 (numF s))).setCell ⟨gX, 1, none⟩ (.int .i64 (lenF s))).setCell ⟨gX, 2, none⟩ (.int .i64 (ordF s))).setCell ⟨gX, 3, none⟩ (.int .i64 (mostF s))).setCell ⟨gX, 4, none⟩ (.int .i64 (topF s))) = wz at HL ⊢
  clear hq_gB_0 hf_gB_0 hq_gi_0 hf_gi_0 hq_gi_1 hf_gi_1 hq_gi_2 hf_gi_2 hq_gi_3 hf_gi_3 hq_gM_0 hf_gM_0 hq_gE_0 hf_gE_0 hq_gX_0 hf_gX_0 hq_gX_1 hf_gX_1 hq_gX_2 hf_gX_2 hq_gX_3 hf_gX_3 hq_gX_4 hf_gX_4 BK_gB BK_gM BK_gE BK_gX BK_gi HB
  have HGET : Aside0 (∀ W nx e size n nx' e1, SG.getN b (nx, e) size = (n, nx', e1) → GetT w gB gM gE gX A0 c0 b s W nx e → Calls Try.prog 27 #[.int .i64 size, .pointer (some ⟨gE, 0, none⟩), .pointer (some ⟨gB, 0, none⟩), .pointer (some ⟨gM, 0, none⟩)] W fun e' W' => e' = .returned (.int .i64 n) ∧ GetT w gB gM gE gX A0 c0 b s W' nx' e1 ∧ Stay2 gM gE W W') := ⟨fun W nx e size n nx' e1 hn h => get_calls' w gB gM gE gX A0 c0 b s HB01.out (by omega) HC0.out HR0.out W nx e size n nx' e1 hn h⟩
  go_loopg [6, 12, 33] N (fun gg s6 s12 s33 wr => ∃ kk vl ls odd nx e, kk ≤ N ∧ N - kk ≤ gg ∧ s6 = vl ∧ s12 = .bool odd ∧ s33 = .int .i64 (kk : Nat) ∧ Aside0 (LL w gB gM gE gX A0 c0 b s vl ls wr nx e) ∧ Aside0 (getWins b s (N - kk) ls odd (nx, e) = RES) ∧ Aside0 (ls.length ≤ kk))
  case atStart => exact ⟨0, _, [], false, p, 0, Nat.zero_le _, by omega, rfl, rfl, rfl, HL, HW0, ⟨Nat.le_refl _⟩⟩
  case round =>
    clear HL HW0
    obtain ⟨kk, vl, ls, odd, nx, e, hkk, hgk, h6, rfl, rfl, HL, HWI, HLS⟩ := hrel
    obtain rfl : vl = _ := h6.symm
    by_cases hlt : kk < N
    · have hltz : (kk : Int) < (N : Int) := by omega
      obtain ⟨mv, nx1, e1, hHM⟩ : ∃ n_ x_ e_, SG.getN b (nx, e) (numF s) = (n_, x_, e_) := ⟨_, _, _, rfl⟩
      have HM := Aside0.mk hHM
      obtain ⟨HM0, HM2, HM1, HMe⟩ := getN_rng HB01.out (by have := numF_rng s; omega) (by have := numF_rng s; omega) hHM
      have HME := Aside0.mk HMe
      have HMP := Aside0.mk HM2
      clear hHM HMe HM2
      have HWI2 := Aside0.mk ((show N - kk = (N - (kk + 1)) + 1 by omega) ▸ HWI.out)
      replace HWI2 := Aside0.mk ((getWins_succ HM.out).symm.trans HWI2.out)
      clear HWI
      have qx0 := HL.out.1.qX0
      have qx1 := HL.out.1.qX1
      have qx2 := HL.out.1.qX2
      have HLg := Aside0.mk HL.out.1
      by_cases hm0 : 0 < mv
      case neg =>
        obtain rfl : mv = 0 := by omega
        have HWI3 : Aside0 (getWins b s (N - (kk + 1)) (ls ++ [[]]) odd (nx1, e1) = RES) := ⟨by have := HWI2.out; simpa [getFilts, getStep] using this⟩
        clear hm0 HM0 HM1 HWI2
        go_wp2_with (first | (go_at_call 27; (with_reducible refine (HGET.out _ (nx) (e) (numF s) (0) (nx1) (e1) HM.out HLg.out).mono ?_); rintro e' W_HM ⟨rfl, hG, hst⟩; have HL1 := Aside0.mk (HL.out.stay hG hst); clear qx0 qx1 qx2; clear hG hst))
        have HW1 := Aside0.mk HL1.out.toW
        generalize W_HM.heap.size = NB at HW1
        go_loopg [6, 12, 13, 47] 0 (fun gg s6 s12 s13 s47 wr => s6 = vl ∧ s12 = .bool odd ∧ s13 = .slice none 0 0 ∧ s47 = .int .i64 0 ∧ Aside0 (LW w gB gM gE gX A0 c0 b s NB NB vl ls (.slice none 0 0) [] wr nx1 e1))
        case atStart => exact ⟨rfl, rfl, rfl, rfl, HW1⟩
        case round =>
          clear HW1 HL1
          obtain ⟨h6, rfl, rfl, rfl, HW1⟩ := hrel
          obtain rfl : vl = _ := h6.symm
          go_wp2_with (first | ((with_reducible refine gate_builtin (b := .append) (xs := #[.tmp 117, .tmp 119]) rfl ?_); at_builtin; refine LW.appL HW1.out (by have := HLS.out; omega) rfl (.tmp 117) (.tmp 119) rfl rfl rfl ?_; intro v1 w1 hLL; have HL2 := Aside0.mk hLL; clear hLL))
          go_roundg (N - (kk + 1))
          case measure => omega
          case rel => exact ⟨kk + 1, _, _, odd, nx1, e1, by omega, by omega, rfl, rfl, by first | go_num | (congr 1; unfold wrap64; omega), HL2, HWI3, ⟨by rw [List.length_append, List.length_singleton]; have := HLS.out; omega⟩⟩
      case pos =>
        obtain ⟨fv, nx2, e2, hHF⟩ : ∃ n_ x_ e_, SG.getN b (nx1, e1) (1) = (n_, x_, e_) := ⟨_, _, _, rfl⟩
        have HF := Aside0.mk hHF
        obtain ⟨HF0, HF2, HF1, HFe⟩ := getN_rng HB01.out (by decide) (by decide) hHF
        have HFE := Aside0.mk HFe
        have HFP := Aside0.mk HF2
        clear hHF HFe HF2
        obtain ⟨fine, hfi⟩ : ∃ x, (fv == 1) = x := ⟨_, rfl⟩
        obtain ⟨M, rfl⟩ := Int.eq_ofNat_of_zero_le HM0
        obtain ⟨RF, hRF⟩ : ∃ r, r = getFilts b s fine M [] odd (nx2, e2) := ⟨_, rfl⟩
        have HWI3 : Aside0 (getStep b s (N - (kk + 1)) ls RF = RES) := ⟨by have := HWI2.out; rw [if_pos hm0] at this; simp only [HF.out, hfi, Int.toNat_natCast] at this; rw [hRF]; exact this⟩
        have HFI := Aside0.mk hRF.symm
        clear hRF HWI2
        have bm : decide (0 < M) = true := decide_eq_true (by omega)
        have hM1 : 1 ≤ M := by omega
        have hM63 : M ≤ 63 := by omega
        clear hm0 HM0 HM1
        go_wp2_with (first | (go_at_call 27; (with_reducible refine (HGET.out _ (nx) (e) (numF s) ((M : Int)) (nx1) (e1) HM.out HLg.out).mono ?_); rintro e' W_HM ⟨rfl, hG, hst⟩; have HL1 := Aside0.mk (HL.out.stay hG hst); have HL1g := Aside0.mk hG; clear qx0 qx1 qx2; have qx0 := hG.qX0; have qx1 := hG.qX1; have qx2 := hG.qX2; clear hG hst) | (go_at_call 27; (with_reducible refine (HGET.out _ (nx1) (e1) (1) (fv) (nx2) (e2) HF.out HL1g.out).mono ?_); rintro e' W_HF ⟨rfl, hG, hst⟩; have HL2 := Aside0.mk (HL1.out.stay hG hst); clear qx0 qx1 qx2; clear hG hst))
        have HW1 := Aside0.mk HL2.out.toW
        generalize W_HF.heap.size = NB at HW1
        clear HL HL1 HL2 HLg HL1g HF HM HF0 HF1 bm hfi
        go_loopg [6, 12, 13, 47] M (fun gg s6 s12 s13 s47 wr => ∃ jj N2 vw ws odd nx e, jj ≤ M ∧ M - jj ≤ gg ∧ s6 = vl ∧ s13 = vw ∧ s12 = .bool odd ∧ s47 = .int .i64 (jj : Nat) ∧ Aside0 (LW w gB gM gE gX A0 c0 b s NB N2 vl ls vw ws wr nx e) ∧ Aside0 (getFilts b s fine (M - jj) ws odd (nx, e) = RF) ∧ Aside0 (ws.length ≤ jj))
        case atStart => exact ⟨0, NB, _, [], odd, nx2, e2, Nat.zero_le _, by omega, rfl, rfl, rfl, rfl, HW1, HFI, ⟨Nat.le_refl _⟩⟩
        case round =>
          clear HW1 HFI
          obtain ⟨jj, N2o, vw, ws, od, nx, e, hjj, hgj, h6, h13, rfl, rfl, HW1, HFI, HWS⟩ := hrel
          obtain rfl : vw = _ := h13.symm
          obtain rfl : vl = _ := h6.symm
          by_cases hlt2 : jj < M
          · have hltz2 : (jj : Int) < (M : Int) := by omega
            have HW2 := Aside0.mk HW1.out.up
            generalize hN2 : wr.heap.size = N2 at HW2
            have HN2 := Aside0.mk hN2
            clear hN2 HW1
            obtain ⟨av, nx1, e1, hHA⟩ : ∃ n_ x_ e_, SG.getN b (nx, e) (lenF s) = (n_, x_, e_) := ⟨_, _, _, rfl⟩
            have HA := Aside0.mk hHA
            obtain ⟨HA0, HA2, HA1, HAe⟩ := getN_rng HB01.out (by have := lenF_rng s; omega) (by have := lenF_rng s; omega) hHA
            have HAE := Aside0.mk HAe
            have HAP := Aside0.mk HA2
            clear hHA HAe HA2
            obtain ⟨ov, nx2, e2, hHO⟩ : ∃ n_ x_ e_, SG.getN b (nx1, e1) (ordF s) = (n_, x_, e_) := ⟨_, _, _, rfl⟩
            have HO := Aside0.mk hHO
            obtain ⟨HO0, HO2, HO1, HOe⟩ := getN_rng HB01.out (by have := ordF_rng s; omega) (by have := ordF_rng s; omega) hHO
            have HOE := Aside0.mk HOe
            have HOP := Aside0.mk HO2
            clear hHO HOe HO2
            have HFI2 := Aside0.mk ((show M - jj = (M - (jj + 1)) + 1 by omega) ▸ HFI.out)
            clear HFI
            have qx0 := HW2.out.1.qX0
            have qx1 := HW2.out.1.qX1
            have qx2 := HW2.out.1.qX2
            clear qx0
            go_wp2
            have HL_ := Aside0.mk HW2.out.drew
            refine start_ (n := 12) (S := fun w' => w'.cell? ⟨gX, 1, none⟩ = some (.int .i64 (lenF s)) ∧ w'.cell? ⟨gX, 2, none⟩ = some (.int .i64 (ordF s))) (ds := [11]) #[false, false, false, false, false, false, false, false, false, false, false, false] (by kernel_rfl) rfl rfl ⟨qx1, qx2⟩ (fun hHeld => ?_)
            refine pure_ (i := 0) (N := some 49) (v := ?_) (a' := ?_) (HS.pre 12 1) rfl rfl (by kernel_rfl) (fun _ _ _ h => h) (Or.inl ⟨by rfl, ?_⟩) ?_ ?_
            rotate_left
            · intro w'
              go_simp
              with_reducible rfl
            rotate_left
            · simp only [Act.put, List.setIfInBounds_toArray, List.set_cons_zero, List.set_cons_succ, i64_w, i32_w]
              rfl
            refine pure_ (i := 1) (N := some 50) (v := ?_) (a' := ?_) (HS.pre 12 2) rfl rfl (by kernel_rfl) (fun _ _ _ h => h) (Or.inl ⟨by rfl, ?_⟩) ?_ ?_
            rotate_left
            · intro w'
              go_simp
              with_reducible rfl
            rotate_left
            · simp only [Act.put, List.setIfInBounds_toArray, List.set_cons_zero, List.set_cons_succ, i64_w, i32_w]
              rfl
            refine pure_ (i := 2) (N := some 51) (v := ?_) (a' := ?_) (HS.pre 12 3) rfl rfl (by kernel_rfl) (fun _ _ _ h => h) (Or.inl ⟨by rfl, ?_⟩) ?_ ?_
            rotate_left
            · intro w'
              go_simp
              with_reducible rfl
            rotate_left
            · simp only [Act.put, List.setIfInBounds_toArray, List.set_cons_zero, List.set_cons_succ, i64_w, i32_w]
              rfl
            refine pure_ (i := 5) (N := some 54) (v := ?_) (a' := ?_) #[true, true, true, false, false, true, false, false, false, false, false, false] rfl rfl (by kernel_rfl) (fun _ _ _ h => h) (Or.inl ⟨by rfl, ?_⟩) ?_ ?_
            rotate_left
            · intro w'
              go_simp
              with_reducible rfl
            rotate_left
            · simp only [Act.put, List.setIfInBounds_toArray, List.set_cons_zero, List.set_cons_succ, i64_w, i32_w]
              rfl
            refine pure_ (i := 6) (N := some 55) (v := ?_) (a' := ?_) #[true, true, true, false, false, true, true, false, false, false, false, false] rfl rfl (by kernel_rfl) (fun _ _ _ h => h) (Or.inl ⟨by rfl, ?_⟩) ?_ ?_
            rotate_left
            · intro w'
              go_simp
              with_reducible rfl
            rotate_left
            · simp only [Act.put, List.setIfInBounds_toArray, List.set_cons_zero, List.set_cons_succ, i64_w, i32_w]
              rfl
            refine take_ (i := 3) (N := some 52) (v := ?_) (a' := ?_) #[true, true, true, true, false, true, true, false, false, false, false, false] rfl rfl (by kernel_rfl) (fun _ _ _ h => h) (Or.inl ⟨by rfl, ?_⟩) hHeld ?_ ?_
            rotate_left
            · rintro w' ⟨s0, s1⟩
              go_simp
              with_reducible rfl
            rotate_left
            · simp only [Act.put, List.setIfInBounds_toArray, List.set_cons_zero, List.set_cons_succ, i64_w, i32_w]
              rfl
            refine take_ (i := 7) (N := some 56) (v := ?_) (a' := ?_) #[true, true, true, true, false, true, true, true, false, false, false, false] rfl rfl (by kernel_rfl) (fun _ _ _ h => h) (Or.inl ⟨by rfl, ?_⟩) hHeld ?_ ?_
            rotate_left
            · rintro w' ⟨s0, s1⟩
              go_simp
              with_reducible rfl
            rotate_left
            · simp only [Act.put, List.setIfInBounds_toArray, List.set_cons_zero, List.set_cons_succ, i64_w, i32_w]
              rfl
            refine join_ (σ := Nat) 1 (HS.pre 12 11) (fun g => [(53, .int .i64 av), (57, .int .i64 ov), (58, .agg #[.int .i64 av, .int .i64 ov, .bool false, .bool fine, .slice none 0 0]), (16, .pointer (some ⟨g, 0, none⟩))]) (fun g w' => LW w gB gM gE gX A0 c0 b s NB N2 vl ls vw ws w' nx2 e2 ∧ w'.heap[g]? = some (.cells #[.int .i64 0, .int .i64 0, .bool false, .bool false, .slice none 0 0] 38 (0, 0)) ∧ okT gB gM gE gX g ∧ N2 ≤ g) ?_ ?_
            rotate_left
            · intro hCont
              refine two_ (i := 4) (j := 10) (Ni := some 53) (Nj := some 16) (HS.pre 12 8) #[true, true, true, true, false, true, true, true, false, false, true, false] rfl rfl rfl rfl (by kernel_rfl) (by decide) (by decide) (fun K hK => ?_) (fun K hK => ?_)
              · skip
                refine goesV_ Try.func27 (by kernel_rfl) rfl #[.int .i64 (lenF s)] #[.pointer (some ⟨gE, 0, none⟩), .pointer (some ⟨gB, 0, none⟩), .pointer (some ⟨gM, 0, none⟩)] (by rfl) rfl rfl rfl (by simp only [List.map_toArray, List.map_cons, List.map_nil]; rfl) ?_
                refine (HGET.out _ nx e (lenF s) av nx1 e1 HA.out HL_.out.1).mono ?_
                rintro e3 w_4 ⟨rfl, hG, hst⟩
                have HL_4_ := Aside0.mk (HL_.out.stay hG hst)
                refine ⟨_, rfl, ?_⟩
                refine hK.out _ _ ⟨hG.qX1, hG.qX2⟩ (fun hHeld => ?_)
                clear hK K
                refine norm_ (a' := ?_) ?_ ?_
                rotate_left
                · show Act.put _ (some 53) _ = _
                  simp only [Act.put, List.setIfInBounds_toArray, List.set_cons_zero, List.set_cons_succ, i64_w, i32_w]
                  rfl
                refine two_ (i := 8) (j := 10) (Ni := some 57) (Nj := some 16) (HS.pre 12 9) #[true, true, true, true, true, true, true, true, false, false, true, false] rfl rfl rfl rfl (by kernel_rfl) (by decide) (by decide) (fun K hK => ?_) (fun K hK => ?_)
                · skip
                  refine goesV_ Try.func27 (by kernel_rfl) rfl #[.int .i64 (ordF s)] #[.pointer (some ⟨gE, 0, none⟩), .pointer (some ⟨gB, 0, none⟩), .pointer (some ⟨gM, 0, none⟩)] (by rfl) rfl rfl rfl (by simp only [List.map_toArray, List.map_cons, List.map_nil]; rfl) ?_
                  refine (HGET.out _ nx1 e1 (ordF s) ov nx2 e2 HO.out HL_4_.out.1).mono ?_
                  rintro e3 w_4_8 ⟨rfl, hG, hst⟩
                  have HL_4_8_ := Aside0.mk (HL_4_.out.stay hG hst)
                  refine ⟨_, rfl, ?_⟩
                  refine hK.out _ _ ⟨hG.qX1, hG.qX2⟩ (fun hHeld => ?_)
                  clear hK K
                  refine norm_ (a' := ?_) ?_ ?_
                  rotate_left
                  · show Act.put _ (some 57) _ = _
                    simp only [Act.put, List.setIfInBounds_toArray, List.set_cons_zero, List.set_cons_succ, i64_w, i32_w]
                    rfl
                  refine pure_ (i := 9) (N := some 58) (v := ?_) (a' := ?_) (HS.pre 12 10) rfl rfl (by kernel_rfl) (fun _ _ _ h => h) (Or.inl ⟨by rfl, ?_⟩) ?_ ?_
                  rotate_left
                  · intro w'
                    go_simp
                    with_reducible rfl
                  rotate_left
                  · simp only [Act.put, List.setIfInBounds_toArray, List.set_cons_zero, List.set_cons_succ, i64_w, i32_w]
                    rfl
                  refine one_ (i := 10) (N := some 16) (HS.pre 12 11) rfl rfl (by kernel_rfl) (by decide) (fun K hK => ?_)
                  refine value_ (w1 := ?_) (v := ?_) (by rfl) rfl ?_ ?_
                  rotate_left 2
                  · go_simp
                    constructor
                    · rfl
                    · rfl
                  have HL_4_8_10_ := Aside0.mk (HL_4_8_.out.alloc (.cells #[.int .i64 0, .int .i64 0, .bool false, .bool false, .slice none 0 0] 38))
                  have gb := Aside0.mk (blk_new w_4_8 (.cells #[.int .i64 0, .int .i64 0, .bool false, .bool false, .slice none 0 0] 38))
                  have gok := Aside0.mk HL_4_8_.out.fresh
                  have gN : Aside0 (N2 ≤ w_4_8.heap.size) := ⟨HL_4_8_.out.2.2.2.2.2⟩
                  refine hK.out _ _ ⟨HL_4_8_10_.out.1.qX1, HL_4_8_10_.out.1.qX2⟩ (fun hHeld => ?_)
                  clear hK K
                  refine norm_ (a' := ?_) ?_ ?_
                  rotate_left
                  · show Act.put _ (some 16) _ = _
                    simp only [Act.put, List.setIfInBounds_toArray, List.set_cons_zero, List.set_cons_succ, i64_w, i32_w]
                    rfl
                  exact norm_ (by simp only [putAll, Act.put, List.setIfInBounds_toArray, List.set_cons_zero, List.set_cons_succ]) (hCont w_4_8.heap.size _ ⟨HL_4_8_10_.out, gb.out, gok.out, gN.out⟩)
                · skip
                  refine value_ (w1 := ?_) (v := ?_) (by rfl) rfl ?_ ?_
                  rotate_left 2
                  · go_simp
                    constructor
                    · rfl
                    · rfl
                  have HL_4_10_ := Aside0.mk (HL_4_.out.alloc (.cells #[.int .i64 0, .int .i64 0, .bool false, .bool false, .slice none 0 0] 38))
                  have gb := Aside0.mk (blk_new w_4 (.cells #[.int .i64 0, .int .i64 0, .bool false, .bool false, .slice none 0 0] 38))
                  have gok := Aside0.mk HL_4_.out.fresh
                  have gN : Aside0 (N2 ≤ w_4.heap.size) := ⟨HL_4_.out.2.2.2.2.2⟩
                  refine hK.out _ _ ⟨HL_4_10_.out.1.qX1, HL_4_10_.out.1.qX2⟩ (fun hHeld => ?_)
                  clear hK K
                  refine norm_ (a' := ?_) ?_ ?_
                  rotate_left
                  · show Act.put _ (some 16) _ = _
                    simp only [Act.put, List.setIfInBounds_toArray, List.set_cons_zero, List.set_cons_succ, i64_w, i32_w]
                    rfl
                  refine one_ (i := 8) (N := some 57) #[true, true, true, true, true, true, true, true, true, false, true, false] rfl rfl (by kernel_rfl) (by decide) (fun K hK => ?_)
                  refine goesV_ Try.func27 (by kernel_rfl) rfl #[.int .i64 (ordF s)] #[.pointer (some ⟨gE, 0, none⟩), .pointer (some ⟨gB, 0, none⟩), .pointer (some ⟨gM, 0, none⟩)] (by rfl) rfl rfl rfl (by simp only [List.map_toArray, List.map_cons, List.map_nil]; rfl) ?_
                  refine (HGET.out _ nx1 e1 (ordF s) ov nx2 e2 HO.out HL_4_10_.out.1).mono ?_
                  rintro e3 w_4_10_8 ⟨rfl, hG, hst⟩
                  have HL_4_10_8_ := Aside0.mk (HL_4_10_.out.stay hG hst)
                  replace gb := Aside0.mk ((hst.2 _ gok.out.2.1 gok.out.2.2.1).trans gb.out)
                  refine ⟨_, rfl, ?_⟩
                  refine hK.out _ _ ⟨hG.qX1, hG.qX2⟩ (fun hHeld => ?_)
                  clear hK K
                  refine norm_ (a' := ?_) ?_ ?_
                  rotate_left
                  · show Act.put _ (some 57) _ = _
                    simp only [Act.put, List.setIfInBounds_toArray, List.set_cons_zero, List.set_cons_succ, i64_w, i32_w]
                    rfl
                  refine pure_ (i := 9) (N := some 58) (v := ?_) (a' := ?_) (HS.pre 12 11) rfl rfl (by kernel_rfl) (fun _ _ _ h => h) (Or.inl ⟨by rfl, ?_⟩) ?_ ?_
                  rotate_left
                  · intro w'
                    go_simp
                    with_reducible rfl
                  rotate_left
                  · simp only [Act.put, List.setIfInBounds_toArray, List.set_cons_zero, List.set_cons_succ, i64_w, i32_w]
                    rfl
                  exact norm_ (by simp only [putAll, Act.put, List.setIfInBounds_toArray, List.set_cons_zero, List.set_cons_succ]) (hCont w_4.heap.size _ ⟨HL_4_10_8_.out, gb.out, gok.out, gN.out⟩)
              · skip
                refine value_ (w1 := ?_) (v := ?_) (by rfl) rfl ?_ ?_
                rotate_left 2
                · go_simp
                  constructor
                  · rfl
                  · rfl
                have HL_10_ := Aside0.mk (HL_.out.alloc (.cells #[.int .i64 0, .int .i64 0, .bool false, .bool false, .slice none 0 0] 38))
                have gb := Aside0.mk (blk_new wr.drew (.cells #[.int .i64 0, .int .i64 0, .bool false, .bool false, .slice none 0 0] 38))
                have gok := Aside0.mk HL_.out.fresh
                have gN : Aside0 (N2 ≤ wr.drew.heap.size) := ⟨HL_.out.2.2.2.2.2⟩
                refine hK.out _ _ ⟨HL_10_.out.1.qX1, HL_10_.out.1.qX2⟩ (fun hHeld => ?_)
                clear hK K
                refine norm_ (a' := ?_) ?_ ?_
                rotate_left
                · show Act.put _ (some 16) _ = _
                  simp only [Act.put, List.setIfInBounds_toArray, List.set_cons_zero, List.set_cons_succ, i64_w, i32_w]
                  rfl
                refine one_ (i := 4) (N := some 53) #[true, true, true, true, true, true, true, true, false, false, true, false] rfl rfl (by kernel_rfl) (by decide) (fun K hK => ?_)
                refine goesV_ Try.func27 (by kernel_rfl) rfl #[.int .i64 (lenF s)] #[.pointer (some ⟨gE, 0, none⟩), .pointer (some ⟨gB, 0, none⟩), .pointer (some ⟨gM, 0, none⟩)] (by rfl) rfl rfl rfl (by simp only [List.map_toArray, List.map_cons, List.map_nil]; rfl) ?_
                refine (HGET.out _ nx e (lenF s) av nx1 e1 HA.out HL_10_.out.1).mono ?_
                rintro e3 w_10_4 ⟨rfl, hG, hst⟩
                have HL_10_4_ := Aside0.mk (HL_10_.out.stay hG hst)
                replace gb := Aside0.mk ((hst.2 _ gok.out.2.1 gok.out.2.2.1).trans gb.out)
                refine ⟨_, rfl, ?_⟩
                refine hK.out _ _ ⟨hG.qX1, hG.qX2⟩ (fun hHeld => ?_)
                clear hK K
                refine norm_ (a' := ?_) ?_ ?_
                rotate_left
                · show Act.put _ (some 53) _ = _
                  simp only [Act.put, List.setIfInBounds_toArray, List.set_cons_zero, List.set_cons_succ, i64_w, i32_w]
                  rfl
                refine one_ (i := 8) (N := some 57) #[true, true, true, true, true, true, true, true, true, false, true, false] rfl rfl (by kernel_rfl) (by decide) (fun K hK => ?_)
                refine goesV_ Try.func27 (by kernel_rfl) rfl #[.int .i64 (ordF s)] #[.pointer (some ⟨gE, 0, none⟩), .pointer (some ⟨gB, 0, none⟩), .pointer (some ⟨gM, 0, none⟩)] (by rfl) rfl rfl rfl (by simp only [List.map_toArray, List.map_cons, List.map_nil]; rfl) ?_
                refine (HGET.out _ nx1 e1 (ordF s) ov nx2 e2 HO.out HL_10_4_.out.1).mono ?_
                rintro e3 w_10_4_8 ⟨rfl, hG, hst⟩
                have HL_10_4_8_ := Aside0.mk (HL_10_4_.out.stay hG hst)
                replace gb := Aside0.mk ((hst.2 _ gok.out.2.1 gok.out.2.2.1).trans gb.out)
                refine ⟨_, rfl, ?_⟩
                refine hK.out _ _ ⟨hG.qX1, hG.qX2⟩ (fun hHeld => ?_)
                clear hK K
                refine norm_ (a' := ?_) ?_ ?_
                rotate_left
                · show Act.put _ (some 57) _ = _
                  simp only [Act.put, List.setIfInBounds_toArray, List.set_cons_zero, List.set_cons_succ, i64_w, i32_w]
                  rfl
                refine pure_ (i := 9) (N := some 58) (v := ?_) (a' := ?_) (HS.pre 12 11) rfl rfl (by kernel_rfl) (fun _ _ _ h => h) (Or.inl ⟨by rfl, ?_⟩) ?_ ?_
                rotate_left
                · intro w'
                  go_simp
                  with_reducible rfl
                rotate_left
                · simp only [Act.put, List.setIfInBounds_toArray, List.set_cons_zero, List.set_cons_succ, i64_w, i32_w]
                  rfl
                exact norm_ (by simp only [putAll, Act.put, List.setIfInBounds_toArray, List.set_cons_zero, List.set_cons_succ]) (hCont wr.heap.size _ ⟨HL_10_4_8_.out, gb.out, gok.out, gN.out⟩)
            rintro g wj ⟨hLW, hgb, hgok, hgN⟩
            have HLW := Aside0.mk hLW
            have HGB := Aside0.mk hgb
            have HGO := Aside0.mk hgok
            have HGN := Aside0.mk hgN
            have qg0 := (blk_cell hgb 0).trans rfl
            have qg1 := (blk_cell hgb 1).trans rfl
            have qg2 := (blk_cell hgb 2).trans rfl
            have qg3 := (blk_cell hgb 3).trans rfl
            have qg4 := (blk_cell hgb 4).trans rfl
            have fg0 := blk_frozen hgb 0
            have fg1 := blk_frozen hgb 1
            have fg2 := blk_frozen hgb 2
            have fg3 := blk_frozen hgb 3
            have fg4 := blk_frozen hgb 4
            have hHeld := And.intro hLW.1.qX1 hLW.1.qX2
            clear hLW hgb hgok hgN
            refine norm_ (a' := ?_) ?_ ?_
            rotate_left
            · simp only [putAll, Act.put, List.setIfInBounds_toArray, List.set_cons_zero, List.set_cons_succ]
              rfl
            refine last_ (i := 11) (N := none) (HS.pre 12 12) rfl rfl (by kernel_rfl) (by decide) (fun K hK => ?_)
            refine skip_ (w1 := ?_) (by rfl) rfl ?_ ?_
            rotate_left
            · go_simp
              rfl
            refine hK.out _ _ ?_
            clear hK K
            refine done_ (by kernel_rfl) ?_
            have h5 := LW.far5 (v0 := .int .i64 av) (v1 := .int .i64 ov) (v2 := .bool false) (v3 := .bool fine) (v4 := .slice none 0 0) HLW.out HGO.out HGN.out HGB.out
            have HC := Aside0.mk (h5.1.toC h5.2 HGO.out HGN.out)
            clear h5 hHeld HL_ HLW HGB HGO HGN HW2 HN2 qx1 qx2 qg0 fg0 qg1 fg1 qg2 fg2 qg3 fg3 qg4 fg4
            generalize (((((wj.setCell ⟨g, 0, none⟩ (.int .i64 av)).setCell ⟨g, 1, none⟩ (.int .i64 ov)).setCell ⟨g, 2, none⟩ (.bool false)).setCell ⟨g, 3, none⟩ (.bool fine)).setCell ⟨g, 4, none⟩ (.slice none 0 0)) = wf at HC ⊢
            generalize wf.heap.size = N3 at HC
            have qg0 : wf.cell? ⟨g, 0, none⟩ = some (.int .i64 av) := (HC.out.q 0).trans rfl
            have qg1 : wf.cell? ⟨g, 1, none⟩ = some (.int .i64 ov) := (HC.out.q 1).trans rfl
            have qg2 : wf.cell? ⟨g, 2, none⟩ = some (.bool false) := (HC.out.q 2).trans rfl
            have qg3 : wf.cell? ⟨g, 3, none⟩ = some (.bool fine) := (HC.out.q 3).trans rfl
            have qg4 : wf.cell? ⟨g, 4, none⟩ = some (.slice none 0 0) := (HC.out.q 4).trans rfl
            have qE := HC.out.1.1.qE
            have fE := HC.out.1.1.fE
            have qM := HC.out.1.1.qM
            have fM := HC.out.1.1.fM
            by_cases h12 : 12 < ov
            case pos =>
              obtain rfl : e2 = 0 := HOE.out (by omega)
              have b12 : decide (12 < ov) = true := decide_eq_true h12
              obtain rfl : RF = none := HFI2.out.symm.trans (getFilts_bad HA.out HO.out h12)
              obtain rfl : RES = none := HWI3.out.symm
              obtain ⟨rfl, rfl, rfl⟩ : R1 = [] ∧ R2 = 0 ∧ R3 = 8 := by have := HRR2.out; simpa [getEnd] using this
              clear h12 HA0 HA1 HO0 HO1
              go_wp2
              refine get_fin (M := gM) (E := gE) (nx := 0) (e := 8) ((blk_cell (blk_far (blk_put HC.out.1.1.2.2.2.1 0 _ rfl) NE_gM_gE.out _) 0).trans rfl) ((blk_cell (blk_put (blk_far HC.out.1.1.2.2.2.2.1 (Ne.symm NE_gM_gE.out) _) 0 _ rfl) 0).trans rfl) rfl rfl rfl rfl ?_
              exact ⟨_, rfl, Kd.R_nil _ _ _ _ _, below_set (below_set HC.out.1.1.2.1 HG_gM.out) HG_gE.out⟩
            have b12 : decide (12 < ov) = false := decide_eq_false h12
            have HFI3 := Aside0.mk ((getFilts_succ HA.out HO.out h12).symm.trans HFI2.out)
            have hov : ov ≤ 12 := by omega
            clear h12 HFI2 HA HO HA0 HA1 HO1 qM fM fE
            by_cases hov0 : ov = 0
            case pos =>
              subst hov0
              have HFI4 : Aside0 (getFilts b s fine (M - (jj + 1)) (ws ++ [⟨av, 0, false, fine, []⟩]) od (nx2, e2) = RF) := ⟨by have := HFI3.out; rw [getTail_zero] at this; simpa using this⟩
              clear HFI3 b12
              go_wp2_with (first | ((with_reducible refine gate_builtin (b := .append) (xs := #[.tmp 112, .tmp 114]) rfl ?_); at_builtin; refine LC.appW (f := ⟨av, 0, false, fine, []⟩) HC.out rfl (by have := HWS.out; omega) rfl (.tmp 112) (.tmp 114) rfl rfl rfl ?_; intro v1 w1 hLW; have HW3 := Aside0.mk hLW; clear hLW))
              go_roundg (M - (jj + 1))
              case measure => omega
              case rel => exact ⟨jj + 1, _, _, _, od, nx2, e2, by omega, by omega, rfl, rfl, rfl, by first | go_num | (congr 1; unfold wrap64; omega), HW3, HFI4, ⟨by rw [List.length_append, List.length_singleton]; have := HWS.out; omega⟩⟩
            have hov1 : 0 < ov := by omega
            have bo : decide (0 < ov) = true := decide_eq_true hov1
            obtain ⟨dv, nx3, e3, hHD⟩ : ∃ n_ x_ e_, SG.getN b (nx2, e2) (1) = (n_, x_, e_) := ⟨_, _, _, rfl⟩
            have HD := Aside0.mk hHD
            obtain ⟨HD0, HD2, HD1, HDe⟩ := getN_rng HB01.out (by decide) (by decide) hHD
            have HDE := Aside0.mk HDe
            have HDP := Aside0.mk HD2
            clear hHD HDe HD2
            obtain ⟨nv, nx4, e4, hHNW⟩ : ∃ n_ x_ e_, SG.getN b (nx3, e3) (1) = (n_, x_, e_) := ⟨_, _, _, rfl⟩
            have HNW := Aside0.mk hHNW
            obtain ⟨HNW0, HNW2, HNW1, HNWe⟩ := getN_rng HB01.out (by decide) (by decide) hHNW
            have HNWE := Aside0.mk HNWe
            have HNWP := Aside0.mk HNW2
            clear hHNW HNWe HNW2
            have hnv : nv ≤ 1 := by have := HNWP.out; simp at this; omega
            obtain ⟨sz, hsz⟩ : ∃ x, x = wideS fine - nv := ⟨_, rfl⟩
            have hwr := wideS_rng fine
            have hz2 : 2 ≤ sz := by omega
            have hz4 : sz ≤ 4 := by omega
            have HWF : Aside0 (tnsbits_wide.f fine = some (sz + nv)) := ⟨by rw [wide_f]; congr 1; omega⟩
            have HSZ := Aside0.mk hsz
            have HOV0 := Aside0.mk hov0
            clear hsz hwr hov0
            obtain ⟨O, rfl⟩ := Int.eq_ofNat_of_zero_le HO0
            obtain ⟨RC, hRC⟩ : ∃ r, r = getCoefs b sz O [] (nx4, e4) := ⟨_, rfl⟩
            have HRC := Aside0.mk hRC.symm
            have HRCX := Aside0.mk hRC.symm
            clear hRC
            obtain ⟨dn, hdn⟩ : ∃ x, (dv == 1) = x := ⟨_, rfl⟩
            have HDN := Aside0.mk hdn
            have fg2 := HC.out.f 2
            have HCg := Aside0.mk HC.out.1.1
            go_wp2_with (first | (go_at_call 27; (with_reducible refine (HGET.out _ (nx2) (e2) (1) (dv) (nx3) (e3) HD.out HCg.out).mono ?_); rintro e' W_HD ⟨rfl, hG, hst⟩; have HC1 := Aside0.mk (HC.out.stay hG hst); clear qg0 qg1 qg2 qg3 qg4; clear fg2 qE; have qg0 : W_HD.cell? ⟨g, 0, none⟩ = some (.int .i64 av) := (HC1.out.q 0).trans rfl; have qg1 : W_HD.cell? ⟨g, 1, none⟩ = some (.int .i64 (O : Int)) := (HC1.out.q 1).trans rfl; have qg2 : W_HD.cell? ⟨g, 2, none⟩ = some (.bool false) := (HC1.out.q 2).trans rfl; have qg3 : W_HD.cell? ⟨g, 3, none⟩ = some (.bool fine) := (HC1.out.q 3).trans rfl; have qg4 : W_HD.cell? ⟨g, 4, none⟩ = some (.slice none 0 0) := (HC1.out.q 4).trans rfl; have fg2 := HC1.out.f 2; have HC2g := Aside0.mk (HC1.out.put (j := 2) (u := .bool dn) (d0 := .int .i64 av) (d1 := .int .i64 (O : Int)) (d2 := .bool dn) (d3 := .bool fine) (db := .slice none 0 0) rfl).1.1; have HC2 := Aside0.mk (HC1.out.put (j := 2) (u := .bool dn) (d0 := .int .i64 av) (d1 := .int .i64 (O : Int)) (d2 := .bool dn) (d3 := .bool fine) (db := .slice none 0 0) rfl); clear hG hst) | (go_at_call 27; (with_reducible refine (HGET.out _ (nx3) (e3) (1) (nv) (nx4) (e4) HNW.out HC2g.out).mono ?_); rintro e' W_HNW ⟨rfl, hG, hst⟩; have HC3 := Aside0.mk (HC2.out.stay hG hst); clear qg0 qg1 qg2 qg3 qg4; clear fg2; have qg0 : W_HNW.cell? ⟨g, 0, none⟩ = some (.int .i64 av) := (HC3.out.q 0).trans rfl; have qg1 : W_HNW.cell? ⟨g, 1, none⟩ = some (.int .i64 (O : Int)) := (HC3.out.q 1).trans rfl; have qg2 : W_HNW.cell? ⟨g, 2, none⟩ = some (.bool dn) := (HC3.out.q 2).trans rfl; have qg3 : W_HNW.cell? ⟨g, 3, none⟩ = some (.bool fine) := (HC3.out.q 3).trans rfl; have qg4 : W_HNW.cell? ⟨g, 4, none⟩ = some (.slice none 0 0) := (HC3.out.q 4).trans rfl; clear hG hst) | (go_at_call 25; (with_reducible refine (tnsbits_wide.calls fine (sz + nv) _ HWF.out).mono ?_); rintro e' w' ⟨rfl, ⟨nd, rfl⟩⟩))
            have HC4 := Aside0.mk (HC3.out.drewN nd)
            skip
            clear HC HC1 HC2 HC3 bo b12 hdn HDE HDP HD0 HD1 HNWE HNWP qg0 qg1 qg2 qg3 qg4
            go_loopg [81] O (fun gg s81 wr => ∃ ii vc cs nx e, ii ≤ O ∧ O - ii ≤ gg ∧ s81 = .int .i64 (ii : Nat) ∧ Aside0 (LC w gB gM gE gX A0 c0 b s NB N2 N3 g vl ls vw ws (.int .i64 av) (.int .i64 (O : Int)) (.bool dn) (.bool fine) vc vc cs wr nx e) ∧ Aside0 (getCoefs b sz (O - ii) cs (nx, e) = RC) ∧ Aside0 (cs.length ≤ ii))
            case atStart => exact ⟨0, _, [], nx4, e4, Nat.zero_le _, by omega, rfl, HC4, HRC, ⟨Nat.le_refl _⟩⟩
            case round =>
              clear HC4 HRC
              obtain ⟨ii, vc, cs, nx, e, hii, hgi, rfl, HC, HRC, HCS⟩ := hrel
              by_cases hlt3 : ii < O
              · have hltz3 : (ii : Int) < (O : Int) := by omega
                obtain ⟨n, nx5, e5, hHN⟩ : ∃ n_ x_ e_, SG.getN b (nx, e) (sz) = (n_, x_, e_) := ⟨_, _, _, rfl⟩
                have HN := Aside0.mk hHN
                obtain ⟨HN0, HN2, HN1, HNe⟩ := getN_rng HB01.out (by omega) (by omega) hHN
                have HNE := Aside0.mk HNe
                have HNP := Aside0.mk HN2
                clear hHN HNe HN2
                have HRC2 : Aside0 (getCoefs b sz (O - (ii + 1)) (cs ++ [sgn n sz]) (nx5, e5) = RC) := ⟨by have := HRC.out; rw [show O - ii = (O - (ii + 1)) + 1 by omega] at this; simpa only [getCoefs, HN.out] using this⟩
                clear HRC
                obtain ⟨hs0, hs1, hs2, hs3⟩ := sgn_wrap hz2 hz4 HN0 HN1
                have HS2 := Aside0.mk hs2
                have HS3 := Aside0.mk hs3
                clear hs2 hs3
                have HCg := Aside0.mk HC.out.1.1
                go_wp2_with (first | (go_at_call 27; (with_reducible refine (HGET.out _ (nx) (e) (sz) (n) (nx5) (e5) HN.out HCg.out).mono ?_); rintro e' W_HN ⟨rfl, hG, hst⟩; have HC1 := Aside0.mk (HC.out.stay hG hst); clear hG hst))
                have qg4 : W_HN.cell? ⟨g, 4, none⟩ = some vc := (HC1.out.q 4).trans rfl
                have fg4 := HC1.out.f 4
                have hw1 : IntKind.i64.wrap (sz - 1) = sz - 1 := by rw [IntKind.wrap_i64]; omega
                have hz1 : 0 ≤ sz - 1 := by omega
                have hz64 : sz - 1 ≤ 64 := by omega
                have hz0 : 0 ≤ sz := by omega
                have hz65 : sz ≤ 64 := by omega
                have hs4 := sgn_wrap64 hz2 hz4 HN0 HN1
                skip
                have HCd := Aside0.mk (HC1.out.below (below_drew (Below.refl _ _)))
                obtain ⟨cs1, hcs1⟩ : ∃ l, l = cs ++ [sgn n sz] := ⟨_, rfl⟩
                have HCS1 := Aside0.mk hcs1
                rw [← hcs1] at HRC2
                clear hcs1
                refine start_ (n := 14) (S := fun w' => w'.cell? ⟨g, 4, none⟩ = some vc ∧ w'.frozen? ⟨g, 4, none⟩ = false) (ds := [13]) #[false, false, false, false, false, false, false, false, false, false, false, false, false, false] (by kernel_rfl) rfl rfl ⟨qg4, fg4⟩ (fun hHeld => ?_)
                refine pure_ (i := 0) (N := some 86) (v := ?_) (a' := ?_) (HS.pre 14 1) rfl rfl (by kernel_rfl) (fun _ _ _ h => h) (Or.inl ⟨by rfl, ?_⟩) ?_ ?_
                rotate_left
                · intro w'
                  go_simp
                  with_reducible rfl
                rotate_left
                · simp only [Act.put, List.setIfInBounds_toArray, List.set_cons_zero, List.set_cons_succ, i64_w, i32_w]
                  rfl
                refine pure_ (i := 2) (N := some 88) (v := ?_) (a' := ?_) #[true, false, true, false, false, false, false, false, false, false, false, false, false, false] rfl rfl (by kernel_rfl) (fun _ _ _ h => h) (Or.inl ⟨by rfl, ?_⟩) ?_ ?_
                rotate_left
                · intro w'
                  go_simp
                  with_reducible rfl
                rotate_left
                · simp only [Act.put, List.setIfInBounds_toArray, List.set_cons_zero, List.set_cons_succ, i64_w, i32_w]
                  rfl
                refine pure_ (i := 3) (N := some 89) (v := ?_) (a' := ?_) #[true, false, true, true, false, false, false, false, false, false, false, false, false, false] rfl rfl (by kernel_rfl) (fun _ _ _ h => h) (Or.inl ⟨by rfl, ?_⟩) ?_ ?_
                rotate_left
                · intro w'
                  go_simp
                  with_reducible rfl
                rotate_left
                · simp only [Act.put, List.setIfInBounds_toArray, List.set_cons_zero, List.set_cons_succ, i64_w, i32_w]
                  rfl
                refine pure_ (i := 4) (N := some 90) (v := ?_) (a' := ?_) #[true, false, true, true, true, false, false, false, false, false, false, false, false, false] rfl rfl (by kernel_rfl) (fun _ _ _ h => h) (Or.inl ⟨by rfl, ?_⟩) ?_ ?_
                rotate_left
                · intro w'
                  go_simp
                  with_reducible rfl
                rotate_left
                · simp only [Act.put, List.setIfInBounds_toArray, List.set_cons_zero, List.set_cons_succ, i64_w, i32_w]
                  rfl
                refine pure_ (i := 5) (N := some 91) (v := ?_) (a' := ?_) #[true, false, true, true, true, true, false, false, false, false, false, false, false, false] rfl rfl (by kernel_rfl) (fun _ _ _ h => h) (Or.inl ⟨by rfl, ?_⟩) ?_ ?_
                rotate_left
                · intro w'
                  go_simp
                  with_reducible rfl
                rotate_left
                · simp only [Act.put, List.setIfInBounds_toArray, List.set_cons_zero, List.set_cons_succ, i64_w, i32_w]
                  rfl
                refine pure_ (i := 6) (N := some 92) (v := ?_) (a' := ?_) #[true, false, true, true, true, true, true, false, false, false, false, false, false, false] rfl rfl (by kernel_rfl) (fun _ _ _ h => h) (Or.inl ⟨by rfl, ?_⟩) ?_ ?_
                rotate_left
                · intro w'
                  go_simp
                  with_reducible rfl
                rotate_left
                · simp only [Act.put, List.setIfInBounds_toArray, List.set_cons_zero, List.set_cons_succ, i64_w, i32_w]
                  rfl
                refine pure_ (i := 7) (N := some 93) (v := ?_) (a' := ?_) #[true, false, true, true, true, true, true, true, false, false, false, false, false, false] rfl rfl (by kernel_rfl) (fun _ _ _ h => h) (Or.inl ⟨by rfl, ?_⟩) ?_ ?_
                rotate_left
                · intro w'
                  go_simp
                  with_reducible rfl
                rotate_left
                · simp only [Act.put, List.setIfInBounds_toArray, List.set_cons_zero, List.set_cons_succ, i64_w, i32_w]
                  rfl
                refine pure_ (i := 8) (N := some 94) (v := ?_) (a' := ?_) #[true, false, true, true, true, true, true, true, true, false, false, false, false, false] rfl rfl (by kernel_rfl) (fun _ _ _ h => h) (Or.inl ⟨by rfl, ?_⟩) ?_ ?_
                rotate_left
                · intro w'
                  go_simp
                  with_reducible rfl
                rotate_left
                · simp only [Act.put, List.setIfInBounds_toArray, List.set_cons_zero, List.set_cons_succ, i64_w, i32_w]
                  rfl
                refine pure_ (i := 9) (N := some 95) (v := ?_) (a' := ?_) #[true, false, true, true, true, true, true, true, true, true, false, false, false, false] rfl rfl (by kernel_rfl) (fun _ _ _ h => h) (Or.inl ⟨by rfl, ?_⟩) ?_ ?_
                rotate_left
                · intro w'
                  go_simp
                  with_reducible rfl
                rotate_left
                · simp only [Act.put, List.setIfInBounds_toArray, List.set_cons_zero, List.set_cons_succ, i64_w, i32_w]
                  rfl
                refine take_ (i := 1) (N := some 87) (v := ?_) (a' := ?_) (HS.pre 14 10) rfl rfl (by kernel_rfl) (fun _ _ _ h => h) (Or.inl ⟨by rfl, ?_⟩) hHeld ?_ ?_
                rotate_left
                · rintro w' ⟨s0, s1⟩
                  go_simp
                  with_reducible rfl
                rotate_left
                · simp only [Act.put, List.setIfInBounds_toArray, List.set_cons_zero, List.set_cons_succ, i64_w, i32_w]
                  rfl
                refine one_ (i := 10) (N := some 96) (HS.pre 14 11) rfl rfl (by kernel_rfl) (by decide) (fun K hK => ?_)
                refine value_ (w1 := ?_) (v := ?_) (by rfl) rfl ?_ ?_
                rotate_left 2
                · go_simp
                  constructor
                  · rfl
                  · rfl
                show K _ (W_HN.drew.alloc (.cells #[.int .i64 (sgn n sz)] 3))
                refine hK.out _ _ ⟨pw_cell_below (below_alloc (Below.refl _ _) _) hHeld.1, ((below_alloc (Below.refl _ _) _).frozen (p := ⟨g, 4, none⟩) (World.block_lt_of_cell? _ _ hHeld.1)).trans hHeld.2⟩ (fun hHeld => ?_)
                clear hK K
                refine norm_ (a' := ?_) ?_ ?_
                rotate_left
                · show Act.put _ (some 96) _ = _
                  simp only [Act.put, List.setIfInBounds_toArray, List.set_cons_zero, List.set_cons_succ, i64_w, i32_w]
                  rfl
                refine one_ (i := 11) (N := some 97) (HS.pre 14 12) rfl rfl (by kernel_rfl) (by decide) (fun K hK => ?_)
                refine LC.appC (y := sgn n sz) HCd.out (by have := HCS.out; omega) (by rfl) (.tmp 87) (.tmp 96) rfl rfl rfl ?_
                intro v1 w1 hLC
                rw [← HCS1.out] at hLC
                obtain ⟨Av, cv, hv1⟩ := Kd.R_slice hLC.2.2.1
                subst hv1
                have HC5 := Aside0.mk hLC
                clear hLC
                refine hK.out _ _ ⟨(HC5.out.q 4).trans rfl, HC5.out.f 4⟩ (fun hHeld => ?_)
                clear hK K
                refine norm_ (a' := ?_) ?_ ?_
                rotate_left
                · show Act.put _ (some 97) _ = _
                  simp only [Act.put, List.setIfInBounds_toArray, List.set_cons_zero, List.set_cons_succ, i64_w, i32_w]
                  rfl
                refine pure_ (i := 12) (N := some 98) (v := ?_) (a' := ?_) (HS.pre 14 13) rfl rfl (by kernel_rfl) (fun _ _ _ h => h) (Or.inl ⟨by rfl, ?_⟩) ?_ ?_
                rotate_left
                · intro w'
                  go_simp
                  with_reducible rfl
                rotate_left
                · simp only [Act.put, List.setIfInBounds_toArray, List.set_cons_zero, List.set_cons_succ, i64_w, i32_w]
                  rfl
                refine last_ (i := 13) (N := none) (HS.pre 14 14) rfl rfl (by kernel_rfl) (by decide) (fun K hK => ?_)
                refine skip_ (w1 := ?_) (by rfl) rfl ?_ ?_
                rotate_left
                · go_simp
                  rfl
                refine hK.out _ _ ?_
                clear hK K
                refine done_ (by kernel_rfl) ?_
                have HC6 := Aside0.mk (HC5.out.put (j := 4) (u := .slice Av cs1.length cv) (d0 := .int .i64 av) (d1 := .int .i64 (O : Int)) (d2 := .bool dn) (d3 := .bool fine) (db := .slice Av cs1.length cv) rfl)
                clear hs4 hw1 hz1 hz64 hz0 hz65 hHeld qg4 fg4
                go_wp2
                go_roundg (O - (ii + 1))
                case measure => omega
                case rel => exact ⟨ii + 1, _, _, nx5, e5, by omega, by omega, by first | go_num | (congr 1; unfold wrap64; omega), HC6, HRC2, ⟨by rw [HCS1.out, List.length_append, List.length_singleton]; have := HCS.out; omega⟩⟩
              · have hltz3 : ¬ (ii : Int) < (O : Int) := by omega
                obtain rfl : O = ii := by omega
                obtain rfl : RC = (cs, nx, e) := by have := HRC.out; rw [Nat.sub_self] at this; simpa [getCoefs] using this.symm
                obtain ⟨Ac, cc, hvc⟩ := Kd.R_slice HC.out.2.2.1
                subst hvc
                have HCR := Aside0.mk (Kd.R_reads' HC.out.2.2.1).2.2
                have HFI4 : Aside0 (getFilts b s fine (M - (jj + 1)) (ws ++ [⟨av, (O : Int), dn, fine, cs⟩]) (od || (nv == 0 && fitS cs (sz - 1))) (nx, e) = RF) := ⟨by have := HFI3.out; rw [getTail_some (cs := cs) (nx5 := nx) (e5 := e) HOV0.out HD.out HNW.out (by rw [← HSZ.out, Int.toNat_natCast]; exact HRCX.out), HDN.out, ← HSZ.out] at this; exact this⟩
                clear HFI3 HRC HCS
                have qg0 : wr.cell? ⟨g, 0, none⟩ = some (.int .i64 av) := (HC.out.q 0).trans rfl
                have qg1 : wr.cell? ⟨g, 1, none⟩ = some (.int .i64 (O : Int)) := (HC.out.q 1).trans rfl
                have qg2 : wr.cell? ⟨g, 2, none⟩ = some (.bool dn) := (HC.out.q 2).trans rfl
                have qg3 : wr.cell? ⟨g, 3, none⟩ = some (.bool fine) := (HC.out.q 3).trans rfl
                have qg4 : wr.cell? ⟨g, 4, none⟩ = some (.slice Ac cs.length cc) := (HC.out.q 4).trans rfl
                cases od with
                | true =>
                  go_wp2_with (first | ((with_reducible refine gate_builtin (b := .append) (xs := #[.tmp 112, .tmp 114]) rfl ?_); at_builtin; refine LC.appW (f := ⟨av, (O : Int), dn, fine, cs⟩) HC.out rfl (by have := HWS.out; omega) rfl (.tmp 112) (.tmp 114) rfl rfl rfl ?_; intro v1 w1 hLW; have HW3 := Aside0.mk hLW; clear hLW))
                  go_roundg (M - (jj + 1))
                  case measure => omega
                  case rel => exact ⟨jj + 1, _, _, _, true, nx, e, by omega, by omega, rfl, rfl, rfl, by first | go_num | (congr 1; unfold wrap64; omega), HW3, HFI4, ⟨by rw [List.length_append, List.length_singleton]; have := HWS.out; omega⟩⟩
                | false =>
                  by_cases hn0 : nv = 0
                  case neg =>
                    have bn : (nv == 0) = false := beq_eq_false_iff_ne.mpr hn0
                    have HFI5 : Aside0 (getFilts b s fine (M - (jj + 1)) (ws ++ [⟨av, (O : Int), dn, fine, cs⟩]) false (nx, e) = RF) := ⟨by have := HFI4.out; rwa [bn] at this⟩
                    clear hn0 HFI4
                    go_wp2_with (first | ((with_reducible refine gate_builtin (b := .append) (xs := #[.tmp 112, .tmp 114]) rfl ?_); at_builtin; refine LC.appW (f := ⟨av, (O : Int), dn, fine, cs⟩) HC.out rfl (by have := HWS.out; omega) rfl (.tmp 112) (.tmp 114) rfl rfl rfl ?_; intro v1 w1 hLW; have HW3 := Aside0.mk hLW; clear hLW))
                    go_roundg (M - (jj + 1))
                    case measure => omega
                    case rel => exact ⟨jj + 1, _, _, _, false, nx, e, by omega, by omega, rfl, rfl, rfl, by first | go_num | (congr 1; unfold wrap64; omega), HW3, HFI5, ⟨by rw [List.length_append, List.length_singleton]; have := HWS.out; omega⟩⟩
                  have bn : (nv == 0) = true := beq_iff_eq.mpr hn0
                  obtain ⟨fo, hfo⟩ : ∃ x, x = fitS cs (sz - 1) := ⟨_, rfl⟩
                  have HFI5 : Aside0 (getFilts b s fine (M - (jj + 1)) (ws ++ [⟨av, (O : Int), dn, fine, cs⟩]) fo (nx, e) = RF) := ⟨by have := HFI4.out; rwa [bn, ← hfo] at this⟩
                  have HFT : Aside0 (∀ W, Kd.C (Kd.int .i64) W Ac cs.length cs → Calls Try.prog 26 #[.slice Ac cs.length cc, .int .i64 (sz - 1)] W fun e w' => e = .returned (.bool fo) ∧ Below W.heap.size W w') := ⟨fun W h => by rw [hfo]; exact fit_calls Ac cc cs (sz - 1) (by have := wideS_rng fine; have := HSZ.out; omega) W h⟩
                  clear hn0 HFI4 hfo
                  go_wp2_with (first | (go_at_call 26; (with_reducible refine (HFT.out _ HCR.out).mono ?_); rintro e' w7 ⟨rfl, hb⟩; have HC7 := Aside0.mk (HC.out.below hb); clear hb qg0 qg1 qg2 qg3 qg4; have qg0 : w7.cell? ⟨g, 0, none⟩ = some (.int .i64 av) := (HC7.out.q 0).trans rfl; have qg1 : w7.cell? ⟨g, 1, none⟩ = some (.int .i64 (O : Int)) := (HC7.out.q 1).trans rfl; have qg2 : w7.cell? ⟨g, 2, none⟩ = some (.bool dn) := (HC7.out.q 2).trans rfl; have qg3 : w7.cell? ⟨g, 3, none⟩ = some (.bool fine) := (HC7.out.q 3).trans rfl; have qg4 : w7.cell? ⟨g, 4, none⟩ = some (.slice Ac cs.length cc) := (HC7.out.q 4).trans rfl) | ((with_reducible refine gate_builtin (b := .append) (xs := #[.tmp 112, .tmp 114]) rfl ?_); at_builtin; refine LC.appW (f := ⟨av, (O : Int), dn, fine, cs⟩) HC7.out rfl (by have := HWS.out; omega) rfl (.tmp 112) (.tmp 114) rfl rfl rfl ?_; intro v1 w1 hLW; have HW3 := Aside0.mk hLW; clear hLW))
                  go_roundg (M - (jj + 1))
                  case measure => omega
                  case rel => exact ⟨jj + 1, _, _, _, fo, nx, e, by omega, by omega, rfl, rfl, rfl, by first | go_num | (congr 1; unfold wrap64; omega), HW3, HFI5, ⟨by rw [List.length_append, List.length_singleton]; have := HWS.out; omega⟩⟩
          · have hltz2 : ¬ (jj : Int) < (M : Int) := by omega
            obtain rfl : jj = M := by omega
            obtain rfl : RF = some (ws, od, nx, e) := by have := HFI.out; rw [Nat.sub_self] at this; simpa [getFilts] using this.symm
            obtain ⟨Aw, cw, hvw⟩ := Kd.R_slice HW1.out.2.2.1
            subst hvw
            go_wp2_with (first | ((with_reducible refine gate_builtin (b := .append) (xs := #[.tmp 117, .tmp 119]) rfl ?_); at_builtin; refine LW.appL HW1.out (by have := HLS.out; omega) rfl (.tmp 117) (.tmp 119) rfl rfl rfl ?_; intro v1 w1 hLL; have HL2 := Aside0.mk hLL; clear hLL))
            go_roundg (N - (kk + 1))
            case measure => omega
            case rel => exact ⟨kk + 1, _, _, od, nx, e, by omega, by omega, rfl, rfl, by first | go_num | (congr 1; unfold wrap64; omega), HL2, HWI3, ⟨by rw [List.length_append, List.length_singleton]; have := HLS.out; omega⟩⟩
    · have hltz : ¬ (kk : Int) < (N : Int) := by omega
      obtain rfl : kk = N := by omega
      obtain rfl : RES = some (ls, odd, nx, e) := by have := HWI.out; rw [Nat.sub_self] at this; simpa [getWins] using this.symm
      have qE := HL.out.1.qE
      have fE := HL.out.1.fE
      have qM := HL.out.1.qM
      have fM := HL.out.1.fM
      have hME := NE_gM_gE.out
      have hEM := Ne.symm hME
      by_cases he : e = 0
      case neg =>
        obtain ⟨rfl, rfl, rfl⟩ : R1 = [] ∧ R2 = 0 ∧ R3 = e := by have := HRR2.out; simp only [getEnd] at this; rw [if_pos he] at this; simpa using this
        have be : (R3 != 0) = true := bne_iff_ne.mpr he
        clear he
        go_wp2
        refine start_ (n := 4) (S := fun w' => w'.cell? ⟨gE, 0, none⟩ = some (.int .i64 R3)) (ds := [3]) #[false, false, false, false] (by kernel_rfl) rfl rfl (qE) (fun hHeld => ?_)
        refine pure_ (i := 1) (N := some 6) (v := ?_) (a' := ?_) #[false, true, false, false] rfl rfl (by kernel_rfl) (fun _ _ _ h => h) (Or.inl ⟨by rfl, ?_⟩) ?_ ?_
        rotate_left
        · intro w'
          go_simp
          with_reducible rfl
        rotate_left
        · simp only [Act.put, List.setIfInBounds_toArray, List.set_cons_zero, List.set_cons_succ, i64_w, i32_w]
          rfl
        refine take_ (i := 0) (N := some 125) (v := ?_) (a' := ?_) #[true, true, false, false] rfl rfl (by kernel_rfl) (fun _ _ _ h => h) (Or.inl ⟨by rfl, ?_⟩) hHeld ?_ ?_
        rotate_left
        · intro w' s0
          go_simp
          with_reducible rfl
        rotate_left
        · simp only [Act.put, List.setIfInBounds_toArray, List.set_cons_zero, List.set_cons_succ, i64_w, i32_w]
          rfl
        refine one_ (i := 2) (N := none) #[true, true, true, false] rfl rfl (by kernel_rfl) (by decide) (fun K hK => ?_)
        refine skip_ (w1 := ?_) (by rfl) rfl ?_ ?_
        rotate_left
        · go_simp
          rfl
        refine hK.out _ _ ((by go_simp)) (fun hHeld => ?_)
        clear hK K
        refine last_ (i := 3) (N := none) #[true, true, true, true] rfl rfl (by kernel_rfl) (by decide) (fun K hK => ?_)
        refine skip_ (w1 := ?_) (by rfl) rfl ?_ ?_
        rotate_left
        · go_simp
          rfl
        refine hK.out _ _ ?_
        clear hK K
        refine done_ (by kernel_rfl) ?_
        go_wp2
        refine get_fin (M := gM) (E := gE) (nx := 0) (e := R3) ((blk_cell (blk_far (blk_put (blk_drew HL.out.1.2.2.2.1) 0 _ rfl) NE_gM_gE.out _) 0).trans rfl) ((blk_cell (blk_put (blk_far (blk_drew HL.out.1.2.2.2.2.1) (Ne.symm NE_gM_gE.out) _) 0 _ rfl) 0).trans rfl) rfl rfl rfl rfl ?_
        exact ⟨_, rfl, Kd.R_nil _ _ _ _ _, below_set (below_set (below_drew1 HL.out.1.2.1) HG_gM.out) HG_gE.out⟩
      subst he
      cases odd with
      | true =>
        obtain ⟨rfl, rfl, rfl⟩ : R1 = [] ∧ R2 = 0 ∧ R3 = 8 := by have := HRR2.out; simpa [getEnd] using this
        go_wp2
        refine get_fin (M := gM) (E := gE) (nx := 0) (e := 8) ((blk_cell (blk_far (blk_put HL.out.1.2.2.2.1 0 _ rfl) NE_gM_gE.out _) 0).trans rfl) ((blk_cell (blk_put (blk_far HL.out.1.2.2.2.2.1 (Ne.symm NE_gM_gE.out) _) 0 _ rfl) 0).trans rfl) rfl rfl rfl rfl ?_
        exact ⟨_, rfl, Kd.R_nil _ _ _ _ _, below_set (below_set HL.out.1.2.1 HG_gM.out) HG_gE.out⟩
      | false =>
        obtain ⟨rfl, rfl, rfl⟩ : R1 = ls ∧ R2 = nx ∧ R3 = 0 := by have := HRR2.out; simpa [getEnd] using this
        go_wp2
        refine start_ (n := 5) (S := fun w' => w'.cell? ⟨gM, 0, none⟩ = some (.int .i64 R2)) (ds := [3, 4]) #[false, false, false, false, false] (by kernel_rfl) rfl rfl (qM) (fun hHeld => ?_)
        refine pure_ (i := 0) (N := some 128) (v := ?_) (a' := ?_) #[true, false, false, false, false] rfl rfl (by kernel_rfl) (fun _ _ _ h => h) (Or.inl ⟨by rfl, ?_⟩) ?_ ?_
        rotate_left
        · intro w'
          go_simp
          with_reducible rfl
        rotate_left
        · simp only [Act.put, List.setIfInBounds_toArray, List.set_cons_zero, List.set_cons_succ, i64_w, i32_w]
          rfl
        refine pure_ (i := 2) (N := some 6) (v := ?_) (a' := ?_) #[true, false, true, false, false] rfl rfl (by kernel_rfl) (fun _ _ _ h => h) (Or.inl ⟨by rfl, ?_⟩) ?_ ?_
        rotate_left
        · intro w'
          go_simp
          with_reducible rfl
        rotate_left
        · simp only [Act.put, List.setIfInBounds_toArray, List.set_cons_zero, List.set_cons_succ, i64_w, i32_w]
          rfl
        refine take_ (i := 1) (N := some 129) (v := ?_) (a' := ?_) #[true, true, true, false, false] rfl rfl (by kernel_rfl) (fun _ _ _ h => h) (Or.inl ⟨by rfl, ?_⟩) hHeld ?_ ?_
        rotate_left
        · intro w' s0
          go_simp
          with_reducible rfl
        rotate_left
        · simp only [Act.put, List.setIfInBounds_toArray, List.set_cons_zero, List.set_cons_succ, i64_w, i32_w]
          rfl
        refine last_ (i := 3) (N := none) #[true, true, true, true, false] rfl rfl (by kernel_rfl) (by decide) (fun K hK => ?_)
        refine skip_ (w1 := ?_) (by rfl) rfl ?_ ?_
        rotate_left
        · go_simp
          rfl
        refine hK.out _ _ ?_
        clear hK K
        refine last_ (i := 4) (N := none) #[true, true, true, true, true] rfl rfl (by kernel_rfl) (by decide) (fun K hK => ?_)
        refine skip_ (w1 := ?_) (by rfl) rfl ?_ ?_
        rotate_left
        · go_simp
          rfl
        refine hK.out _ _ ?_
        clear hK K
        refine done_ (by kernel_rfl) ?_
        go_wp2
        have HF := (HL.out.1.drew.setM R2).setE 0
        refine get_fin (M := gM) (E := gE) (nx := R2) (e := 0) HF.qM HF.qE rfl rfl rfl rfl ?_
        exact ⟨_, rfl, Kd.R_mono (Kd.R_far (p := ⟨gE, 0, none⟩) (Kd.R_far (p := ⟨gM, 0, none⟩) (Kd.R_drew HL.out.2) (fun k hk => hk.1.2.1) _) (fun k hk => hk.1.2.2.1) _) (fun _ _ => trivial), HF.2.1⟩
end Go.Proofs.Ytdhcgfdnhlhapaa.HS
end
section
-- Written for this claim by this session's own wip/hook.py (it runs the kit's print and takes some functions' contracts as given texts of this session's).
namespace Go.Proofs.Ytdhcgfdnhlhapaa.K
open Go.RowKit Go.Proofs.YtdhcgfdnhlhapaaW.PrintWords Go.Proofs.YtdhcgfdnhlhapaaW.PrintLast Go.Proofs.YtdhcgfdnhlhapaaW.PrintMore
attribute [local go_sem] max2_int min2_int max_two min_two max_three min_three max_four min_four   -- for this text's walks alone
set_option linter.unusedVariables false
set_option linter.unusedSimpArgs false

/-! ### tnsbits_Get: function 13: GIVEN BY HAND -/
-- IMPORT Derived.Test.YtdhcgfdnhlhapaaHS8

def tnsbits_Get.f (l0 : List Int) (a1 : Int) (a2_0 : Int) (a2_1 : Int) (a2_2 : Int) (l2_3 : List Int) : Option ((List (List (S38))) × Int × Int) := if (∀ y ∈ l0, 0 ≤ y ∧ y ≤ 255) ∧ l0.length ≤ 100000000 ∧ l2_3.length ≤ 17592186044416 then some (HS.getTns l0 a1 a2_0 a2_1 a2_2 l2_3) else none
set_option maxHeartbeats 8000000 in
set_option maxRecDepth 100000 in
theorem tnsbits_Get.calls (A0 : Option Addr) (c0 : Nat) (l0 : List Int) (a1 : Int) (a2_0 : Int) (a2_1 : Int) (a2_2 : Int) (A2_3 : Option Addr) (c2_3 : Nat) (l2_3 : List Int) (r1 : List (List (S38))) (r2 : Int) (r3 : Int) (w : World) (hr0 : Kd.C (Kd.int .u8) w A0 l0.length l0) (hc0 : l0.length ≤ c0) (hr2_3 : Kd.C (Kd.int .i64) w A2_3 l2_3.length l2_3) (hc2_3 : l2_3.length ≤ c2_3) (h : tnsbits_Get.f l0 a1 a2_0 a2_1 a2_2 l2_3 = some (r1, r2, r3)) :
    Calls Try.prog 13 #[.slice A0 l0.length c0, .int .i64 a1, .agg #[.int .u8 a2_0, .int .u8 a2_1, .int .i64 a2_2, .slice A2_3 l2_3.length c2_3]] w fun e w' => ∃ v0_ : Value, e = .returned (.tuple #[v0_, .int .i64 r2, .int .i64 r3]) ∧ Kd.R (Kd.slice 38 k38) 35 w' w.heap.size (fun _ => True) v0_ r1 ∧ Below w.heap.size w w' := by
  unfold tnsbits_Get.f at h
  by_cases hb : (∀ y ∈ l0, 0 ≤ y ∧ y ≤ 255) ∧ l0.length ≤ 100000000 ∧ l2_3.length ≤ 17592186044416
  case neg => rw [if_neg hb] at h; cases h
  rw [if_pos hb] at h
  refine (HS.tget_calls A0 c0 l0 a1 a2_0 a2_1 a2_2 A2_3 c2_3 l2_3 w hb.1 hb.2.1 hb.2.2 hr0 hc0 hr2_3 hc2_3).mono ?_
  rintro e w' ⟨v, rfl, hr, hbel⟩
  have h2 := Option.some.inj h
  rw [h2] at hr ⊢
  exact ⟨v, rfl, hr, hbel⟩

end Go.Proofs.Ytdhcgfdnhlhapaa.K
end
