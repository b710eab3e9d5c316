/- Texts of this session for the law TnsbitsBack, packed by wip/merge.py: part 2 of 5. Each section is one text; the law's own sentence stands over its section. -/
import Derived.Deep.RegionHeld
import Derived.Deep.QuietTactic
import Derived.Test.YtdhcgfdnhlhapaaYTnsbitsBack1
section
/- tnsbits.right: whether a filter may be, of the other windows. -/
namespace Go.Proofs.Ytdhcgfdnhlhapaa.HS
open Go.RowKit Go.Shelf Go.Proofs.YtdhcgfdnhlhapaaW.PrintWords Go.Proofs.YtdhcgfdnhlhapaaW.PrintLast Go.Proofs.YtdhcgfdnhlhapaaW.PrintMore Go.Proofs.Ytdhcgfdnhlhapaa.K
set_option linter.unusedVariables false
set_option linter.unusedSimpArgs false
set_option maxHeartbeats 4000000 in
set_option maxRecDepth 100000 in
theorem right_long (s sh m : Int) (hs : ¬ s = 2) (A : Option Addr) (n c : Nat) (len order : Int) (down fine : Bool) (AF : Option Addr) (cF : Nat) (co : List Int) (w : World) (hc : Kd.C (Kd.int .i64) w AF co.length co) :
    Calls Try.prog 20 #[.agg #[.int .u8 s, .int .u8 sh, .int .i64 m, .slice A n c], .agg #[.int .i64 len, .int .i64 order, .bool down, .bool fine, .slice AF co.length cF]] w fun e w' => e = .returned (.bool (rightS s len order down fine co)) ∧ Below w.heap.size w w' := by
  have HR := Aside0.mk hc
  clear hc
  have HW : Aside0 (tnsbits_wide.f fine = some (wideS fine)) := ⟨by cases fine <;> rfl⟩
  obtain ⟨r, hr⟩ : ∃ r, r = rightS s len order down fine co := ⟨_, rfl⟩
  have HV : Aside0 (r = (decide (0 ≤ len) && decide (len < 64) && decide (0 ≤ order) && decide (order ≤ 12) && ((co.length : Int) == order) && (decide (0 < order) || !down) && fitS co (wideS fine))) := ⟨hr.trans (by unfold rightS; rw [if_neg hs, if_neg hs])⟩
  rw [← hr]
  clear hr
  have HZV := Aside0.mk (show sizesV s = .agg #[.int .i64 2, .int .i64 6, .int .i64 5, .int .i64 3, .int .i64 12] from if_neg hs)
  have b00 : (s == 2) = false := beq_eq_false_iff_ne.mpr hs
  clear hs
  have HB : Aside0 (Below w.heap.size w w) := ⟨Below.refl _ _⟩
  go_enter Try.func20, Try.ntmps20
  go_wp2_with (first | ((with_reducible refine gate_dst (N := 2) rfl ?_); refine box_event ?hg (N := 2) ?hd (cs := #[.int .u8 s, .int .u8 sh, .int .i64 m, .slice A n c]) (t := 24) ?hr ?_; (case hd => rfl); (case hg => rfl); (case hr => first | (go_simp; done) | (go_simp; rfl)); intro gi hg wx1 hbox hb; have HG_gi : Aside0 (w.heap.size ≤ gi) := ⟨by rw [hg]; exact HB.out.size⟩; have BK_gi := Aside0.mk hbox; replace HB := Aside0.mk (below_step HB.out hb); clear hg hbox hb; have hq_gi_0 : wx1.cell? ⟨gi, 0, none⟩ = some (.int .u8 s) := (blk_cell BK_gi.out 0).trans rfl; have hf_gi_0 : wx1.frozen? ⟨gi, 0, none⟩ = false := blk_frozen BK_gi.out 0; have hq_gi_1 : wx1.cell? ⟨gi, 1, none⟩ = some (.int .u8 sh) := (blk_cell BK_gi.out 1).trans rfl; have hf_gi_1 : wx1.frozen? ⟨gi, 1, none⟩ = false := blk_frozen BK_gi.out 1; have hq_gi_2 : wx1.cell? ⟨gi, 2, none⟩ = some (.int .i64 m) := (blk_cell BK_gi.out 2).trans rfl; have hf_gi_2 : wx1.frozen? ⟨gi, 2, none⟩ = false := blk_frozen BK_gi.out 2; have hq_gi_3 : wx1.cell? ⟨gi, 3, none⟩ = some (.slice A n c) := (blk_cell BK_gi.out 3).trans rfl; have hf_gi_3 : wx1.frozen? ⟨gi, 3, none⟩ = false := blk_frozen BK_gi.out 3) | ((with_reducible refine gate_dst (N := 3) rfl ?_); refine box_event ?hg (N := 3) ?hd (cs := #[.int .i64 len, .int .i64 order, .bool down, .bool fine, .slice AF co.length cF]) (t := 38) ?hr ?_; (case hd => rfl); (case hg => rfl); (case hr => first | (go_simp; done) | (go_simp; rfl)); intro gf hg wx2 hbox hb; have HG_gf : Aside0 (w.heap.size ≤ gf) := ⟨by rw [hg]; exact HB.out.size⟩; have NE_gi_gf : Aside0 (gi ≠ gf) := ⟨by rw [hg]; exact Nat.ne_of_lt (blk_lt BK_gi.out)⟩; have na_gi_gf : gi ≠ gf := NE_gi_gf.out; have nb_gi_gf : gf ≠ gi := Ne.symm NE_gi_gf.out; replace BK_gi := Aside0.mk (blk_below BK_gi.out hb); have BK_gf := Aside0.mk hbox; replace HB := Aside0.mk (below_step HB.out hb); clear hg hbox hb; clear hq_gi_0 hf_gi_0 hq_gi_1 hf_gi_1 hq_gi_2 hf_gi_2 hq_gi_3 hf_gi_3; have hq_gi_0 : wx2.cell? ⟨gi, 0, none⟩ = some (.int .u8 s) := (blk_cell BK_gi.out 0).trans rfl; have hf_gi_0 : wx2.frozen? ⟨gi, 0, none⟩ = false := blk_frozen BK_gi.out 0; have hq_gi_1 : wx2.cell? ⟨gi, 1, none⟩ = some (.int .u8 sh) := (blk_cell BK_gi.out 1).trans rfl; have hf_gi_1 : wx2.frozen? ⟨gi, 1, none⟩ = false := blk_frozen BK_gi.out 1; have hq_gi_2 : wx2.cell? ⟨gi, 2, none⟩ = some (.int .i64 m) := (blk_cell BK_gi.out 2).trans rfl; have hf_gi_2 : wx2.frozen? ⟨gi, 2, none⟩ = false := blk_frozen BK_gi.out 2; have hq_gi_3 : wx2.cell? ⟨gi, 3, none⟩ = some (.slice A n c) := (blk_cell BK_gi.out 3).trans rfl; have hf_gi_3 : wx2.frozen? ⟨gi, 3, none⟩ = false := blk_frozen BK_gi.out 3; have hq_gf_0 : wx2.cell? ⟨gf, 0, none⟩ = some (.int .i64 len) := (blk_cell BK_gf.out 0).trans rfl; have hf_gf_0 : wx2.frozen? ⟨gf, 0, none⟩ = false := blk_frozen BK_gf.out 0; have hq_gf_1 : wx2.cell? ⟨gf, 1, none⟩ = some (.int .i64 order) := (blk_cell BK_gf.out 1).trans rfl; have hf_gf_1 : wx2.frozen? ⟨gf, 1, none⟩ = false := blk_frozen BK_gf.out 1; have hq_gf_2 : wx2.cell? ⟨gf, 2, none⟩ = some (.bool down) := (blk_cell BK_gf.out 2).trans rfl; have hf_gf_2 : wx2.frozen? ⟨gf, 2, none⟩ = false := blk_frozen BK_gf.out 2; have hq_gf_3 : wx2.cell? ⟨gf, 3, none⟩ = some (.bool fine) := (blk_cell BK_gf.out 3).trans rfl; have hf_gf_3 : wx2.frozen? ⟨gf, 3, none⟩ = false := blk_frozen BK_gf.out 3; have hq_gf_4 : wx2.cell? ⟨gf, 4, none⟩ = some (.slice AF co.length cF) := (blk_cell BK_gf.out 4).trans rfl; have hf_gf_4 : wx2.frozen? ⟨gf, 4, none⟩ = false := blk_frozen BK_gf.out 4) | (go_at_call 17; refine (sizes_calls s sh m A n c _).mono ?_; rintro e wx3 ⟨he, hb⟩; replace BK_gi := Aside0.mk (blk_below BK_gi.out hb); replace BK_gf := Aside0.mk (blk_below BK_gf.out hb); replace HB := Aside0.mk (below_step HB.out hb); rw [HZV.out] at he; subst he; clear hb; clear hq_gi_0 hf_gi_0 hq_gi_1 hf_gi_1 hq_gi_2 hf_gi_2 hq_gi_3 hf_gi_3 hq_gf_0 hf_gf_0 hq_gf_1 hf_gf_1 hq_gf_2 hf_gf_2 hq_gf_3 hf_gf_3 hq_gf_4 hf_gf_4; have hq_gi_0 : wx3.cell? ⟨gi, 0, none⟩ = some (.int .u8 s) := (blk_cell BK_gi.out 0).trans rfl; have hf_gi_0 : wx3.frozen? ⟨gi, 0, none⟩ = false := blk_frozen BK_gi.out 0; have hq_gi_1 : wx3.cell? ⟨gi, 1, none⟩ = some (.int .u8 sh) := (blk_cell BK_gi.out 1).trans rfl; have hf_gi_1 : wx3.frozen? ⟨gi, 1, none⟩ = false := blk_frozen BK_gi.out 1; have hq_gi_2 : wx3.cell? ⟨gi, 2, none⟩ = some (.int .i64 m) := (blk_cell BK_gi.out 2).trans rfl; have hf_gi_2 : wx3.frozen? ⟨gi, 2, none⟩ = false := blk_frozen BK_gi.out 2; have hq_gi_3 : wx3.cell? ⟨gi, 3, none⟩ = some (.slice A n c) := (blk_cell BK_gi.out 3).trans rfl; have hf_gi_3 : wx3.frozen? ⟨gi, 3, none⟩ = false := blk_frozen BK_gi.out 3; have hq_gf_0 : wx3.cell? ⟨gf, 0, none⟩ = some (.int .i64 len) := (blk_cell BK_gf.out 0).trans rfl; have hf_gf_0 : wx3.frozen? ⟨gf, 0, none⟩ = false := blk_frozen BK_gf.out 0; have hq_gf_1 : wx3.cell? ⟨gf, 1, none⟩ = some (.int .i64 order) := (blk_cell BK_gf.out 1).trans rfl; have hf_gf_1 : wx3.frozen? ⟨gf, 1, none⟩ = false := blk_frozen BK_gf.out 1; have hq_gf_2 : wx3.cell? ⟨gf, 2, none⟩ = some (.bool down) := (blk_cell BK_gf.out 2).trans rfl; have hf_gf_2 : wx3.frozen? ⟨gf, 2, none⟩ = false := blk_frozen BK_gf.out 2; have hq_gf_3 : wx3.cell? ⟨gf, 3, none⟩ = some (.bool fine) := (blk_cell BK_gf.out 3).trans rfl; have hf_gf_3 : wx3.frozen? ⟨gf, 3, none⟩ = false := blk_frozen BK_gf.out 3; have hq_gf_4 : wx3.cell? ⟨gf, 4, none⟩ = some (.slice AF co.length cF) := (blk_cell BK_gf.out 4).trans rfl; have hf_gf_4 : wx3.frozen? ⟨gf, 4, none⟩ = false := blk_frozen BK_gf.out 4) | ((with_reducible refine gate_dst (N := 5) rfl ?_); refine box_event ?hg (N := 5) ?hd (cs := #[.int .i64 0, .int .i64 0, .int .i64 0, .int .i64 0, .int .i64 0]) (t := 51) ?hr ?_; (case hd => rfl); (case hg => rfl); (case hr => first | (go_simp; done) | (go_simp; rfl)); intro gx hg wx4 hbox hb; have HG_gx : Aside0 (w.heap.size ≤ gx) := ⟨by rw [hg]; exact HB.out.size⟩; have NE_gi_gx : Aside0 (gi ≠ gx) := ⟨by rw [hg]; exact Nat.ne_of_lt (blk_lt BK_gi.out)⟩; have na_gi_gx : gi ≠ gx := NE_gi_gx.out; have nb_gi_gx : gx ≠ gi := Ne.symm NE_gi_gx.out; replace BK_gi := Aside0.mk (blk_below BK_gi.out hb); have NE_gf_gx : Aside0 (gf ≠ gx) := ⟨by rw [hg]; exact Nat.ne_of_lt (blk_lt BK_gf.out)⟩; have na_gf_gx : gf ≠ gx := NE_gf_gx.out; have nb_gf_gx : gx ≠ gf := Ne.symm NE_gf_gx.out; replace BK_gf := Aside0.mk (blk_below BK_gf.out hb); have BK_gx := Aside0.mk hbox; replace HB := Aside0.mk (below_step HB.out hb); clear hg hbox hb; clear hq_gi_0 hf_gi_0 hq_gi_1 hf_gi_1 hq_gi_2 hf_gi_2 hq_gi_3 hf_gi_3 hq_gf_0 hf_gf_0 hq_gf_1 hf_gf_1 hq_gf_2 hf_gf_2 hq_gf_3 hf_gf_3 hq_gf_4 hf_gf_4; have hq_gi_0 : wx4.cell? ⟨gi, 0, none⟩ = some (.int .u8 s) := (blk_cell BK_gi.out 0).trans rfl; have hf_gi_0 : wx4.frozen? ⟨gi, 0, none⟩ = false := blk_frozen BK_gi.out 0; have hq_gi_1 : wx4.cell? ⟨gi, 1, none⟩ = some (.int .u8 sh) := (blk_cell BK_gi.out 1).trans rfl; have hf_gi_1 : wx4.frozen? ⟨gi, 1, none⟩ = false := blk_frozen BK_gi.out 1; have hq_gi_2 : wx4.cell? ⟨gi, 2, none⟩ = some (.int .i64 m) := (blk_cell BK_gi.out 2).trans rfl; have hf_gi_2 : wx4.frozen? ⟨gi, 2, none⟩ = false := blk_frozen BK_gi.out 2; have hq_gi_3 : wx4.cell? ⟨gi, 3, none⟩ = some (.slice A n c) := (blk_cell BK_gi.out 3).trans rfl; have hf_gi_3 : wx4.frozen? ⟨gi, 3, none⟩ = false := blk_frozen BK_gi.out 3; have hq_gf_0 : wx4.cell? ⟨gf, 0, none⟩ = some (.int .i64 len) := (blk_cell BK_gf.out 0).trans rfl; have hf_gf_0 : wx4.frozen? ⟨gf, 0, none⟩ = false := blk_frozen BK_gf.out 0; have hq_gf_1 : wx4.cell? ⟨gf, 1, none⟩ = some (.int .i64 order) := (blk_cell BK_gf.out 1).trans rfl; have hf_gf_1 : wx4.frozen? ⟨gf, 1, none⟩ = false := blk_frozen BK_gf.out 1; have hq_gf_2 : wx4.cell? ⟨gf, 2, none⟩ = some (.bool down) := (blk_cell BK_gf.out 2).trans rfl; have hf_gf_2 : wx4.frozen? ⟨gf, 2, none⟩ = false := blk_frozen BK_gf.out 2; have hq_gf_3 : wx4.cell? ⟨gf, 3, none⟩ = some (.bool fine) := (blk_cell BK_gf.out 3).trans rfl; have hf_gf_3 : wx4.frozen? ⟨gf, 3, none⟩ = false := blk_frozen BK_gf.out 3; have hq_gf_4 : wx4.cell? ⟨gf, 4, none⟩ = some (.slice AF co.length cF) := (blk_cell BK_gf.out 4).trans rfl; have hf_gf_4 : wx4.frozen? ⟨gf, 4, none⟩ = false := blk_frozen BK_gf.out 4; have hq_gx_0 : wx4.cell? ⟨gx, 0, none⟩ = some (.int .i64 0) := (blk_cell BK_gx.out 0).trans rfl; have hf_gx_0 : wx4.frozen? ⟨gx, 0, none⟩ = false := blk_frozen BK_gx.out 0; have hq_gx_1 : wx4.cell? ⟨gx, 1, none⟩ = some (.int .i64 0) := (blk_cell BK_gx.out 1).trans rfl; have hf_gx_1 : wx4.frozen? ⟨gx, 1, none⟩ = false := blk_frozen BK_gx.out 1; have hq_gx_2 : wx4.cell? ⟨gx, 2, none⟩ = some (.int .i64 0) := (blk_cell BK_gx.out 2).trans rfl; have hf_gx_2 : wx4.frozen? ⟨gx, 2, none⟩ = false := blk_frozen BK_gx.out 2; have hq_gx_3 : wx4.cell? ⟨gx, 3, none⟩ = some (.int .i64 0) := (blk_cell BK_gx.out 3).trans rfl; have hf_gx_3 : wx4.frozen? ⟨gx, 3, none⟩ = false := blk_frozen BK_gx.out 3; have hq_gx_4 : wx4.cell? ⟨gx, 4, none⟩ = some (.int .i64 0) := (blk_cell BK_gx.out 4).trans rfl; have hf_gx_4 : wx4.frozen? ⟨gx, 4, none⟩ = false := blk_frozen BK_gx.out 4))
  have BF : Aside0 ((((((wx4.setCell ⟨gx, 0, none⟩ (.int .i64 2)).setCell ⟨gx, 1, none⟩ (.int .i64 6)).setCell ⟨gx, 2, none⟩ (.int .i64 5)).setCell ⟨gx, 3, none⟩ (.int .i64 3)).setCell ⟨gx, 4, none⟩ (.int .i64 12)).heap[gf]? = some (.cells #[.int .i64 len, .int .i64 order, .bool down, .bool fine, .slice AF co.length cF] 38 (0, 0))) := ⟨by repeat (with_reducible first | exact BK_gf.out | refine blk_far ?_ NE_gf_gx.out _)⟩
  have BX : Aside0 ((((((wx4.setCell ⟨gx, 0, none⟩ (.int .i64 2)).setCell ⟨gx, 1, none⟩ (.int .i64 6)).setCell ⟨gx, 2, none⟩ (.int .i64 5)).setCell ⟨gx, 3, none⟩ (.int .i64 3)).setCell ⟨gx, 4, none⟩ (.int .i64 12)).heap[gx]? = some (.cells #[.int .i64 2, .int .i64 6, .int .i64 5, .int .i64 3, .int .i64 12] 51 (0, 0))) := ⟨(blk_put (blk_put (blk_put (blk_put (blk_put BK_gx.out 0 _ rfl) 1 _ rfl) 2 _ rfl) 3 _ rfl) 4 _ rfl)⟩
  have HZ : Aside0 (Below w.heap.size w (((((wx4.setCell ⟨gx, 0, none⟩ (.int .i64 2)).setCell ⟨gx, 1, none⟩ (.int .i64 6)).setCell ⟨gx, 2, none⟩ (.int .i64 5)).setCell ⟨gx, 3, none⟩ (.int .i64 3)).setCell ⟨gx, 4, none⟩ (.int .i64 12))) := ⟨by repeat (with_reducible first | exact HB.out | refine below_set ?_ HG_gx.out)⟩
  generalize (((((wx4.setCell ⟨gx, 0, none⟩ (.int .i64 2)).setCell ⟨gx, 1, none⟩ (.int .i64 6)).setCell ⟨gx, 2, none⟩ (.int .i64 5)).setCell ⟨gx, 3, none⟩ (.int .i64 3)).setCell ⟨gx, 4, none⟩ (.int .i64 12)) = wz at BF BX HZ ⊢
  clear hq_gi_0 hf_gi_0 hq_gi_1 hf_gi_1 hq_gi_2 hf_gi_2 hq_gi_3 hf_gi_3 hq_gf_0 hf_gf_0 hq_gf_1 hf_gf_1 hq_gf_2 hf_gf_2 hq_gf_3 hf_gf_3 hq_gf_4 hf_gf_4 hq_gx_0 hf_gx_0 hq_gx_1 hf_gx_1 hq_gx_2 hf_gx_2 hq_gx_3 hf_gx_3 hq_gx_4 hf_gx_4 na_gi_gf nb_gi_gf na_gi_gx nb_gi_gx na_gf_gx nb_gf_gx BK_gi BK_gf BK_gx HB
  have qx1 : wz.cell? ⟨gx, 1, none⟩ = some (.int .i64 6) := (blk_cell BX.out 1).trans rfl
  have qx4 : wz.cell? ⟨gx, 4, none⟩ = some (.int .i64 12) := (blk_cell BX.out 4).trans rfl
  have w64 : IntKind.i64.wrap 64 = 64 := by decide
  by_cases h0 : 0 ≤ len
  case neg =>
    have qf0 : wz.cell? ⟨gf, 0, none⟩ = some (.int .i64 len) := (blk_cell BF.out 0).trans rfl
    have qf1 : wz.cell? ⟨gf, 1, none⟩ = some (.int .i64 order) := (blk_cell BF.out 1).trans rfl
    have qf2 : wz.cell? ⟨gf, 2, none⟩ = some (.bool down) := (blk_cell BF.out 2).trans rfl
    have qf3 : wz.cell? ⟨gf, 3, none⟩ = some (.bool fine) := (blk_cell BF.out 3).trans rfl
    have qf4 : wz.cell? ⟨gf, 4, none⟩ = some (.slice AF co.length cF) := (blk_cell BF.out 4).trans rfl
    have b0 : decide (0 ≤ len) = false := decide_eq_false h0
    obtain rfl : r = false := by rw [HV.out, b0]; rfl
    clear h0 HV
    go_quiet (fail)
    go_wp2
    go_ret
    exact ⟨rfl, by repeat (with_reducible first | exact HZ.out | apply below_drew1 | apply pw_below_drewN)⟩
  have b0 : decide (0 ≤ len) = true := decide_eq_true h0
  clear h0
  by_cases h1 : len < 64
  case neg =>
    have qf0 : wz.cell? ⟨gf, 0, none⟩ = some (.int .i64 len) := (blk_cell BF.out 0).trans rfl
    have qf1 : wz.cell? ⟨gf, 1, none⟩ = some (.int .i64 order) := (blk_cell BF.out 1).trans rfl
    have qf2 : wz.cell? ⟨gf, 2, none⟩ = some (.bool down) := (blk_cell BF.out 2).trans rfl
    have qf3 : wz.cell? ⟨gf, 3, none⟩ = some (.bool fine) := (blk_cell BF.out 3).trans rfl
    have qf4 : wz.cell? ⟨gf, 4, none⟩ = some (.slice AF co.length cF) := (blk_cell BF.out 4).trans rfl
    have b1 : decide (len < 64) = false := decide_eq_false h1
    obtain rfl : r = false := by rw [HV.out, b0, b1]; rfl
    clear h1 HV
    go_quiet (fail)
    go_wp2
    go_ret
    exact ⟨rfl, by repeat (with_reducible first | exact HZ.out | apply below_drew1 | apply pw_below_drewN)⟩
  have b1 : decide (len < 64) = true := decide_eq_true h1
  clear h1
  by_cases h2 : 0 ≤ order
  case neg =>
    have qf0 : wz.cell? ⟨gf, 0, none⟩ = some (.int .i64 len) := (blk_cell BF.out 0).trans rfl
    have qf1 : wz.cell? ⟨gf, 1, none⟩ = some (.int .i64 order) := (blk_cell BF.out 1).trans rfl
    have qf2 : wz.cell? ⟨gf, 2, none⟩ = some (.bool down) := (blk_cell BF.out 2).trans rfl
    have qf3 : wz.cell? ⟨gf, 3, none⟩ = some (.bool fine) := (blk_cell BF.out 3).trans rfl
    have qf4 : wz.cell? ⟨gf, 4, none⟩ = some (.slice AF co.length cF) := (blk_cell BF.out 4).trans rfl
    have b2 : decide (0 ≤ order) = false := decide_eq_false h2
    obtain rfl : r = false := by rw [HV.out, b0, b1, b2]; rfl
    clear h2 HV
    go_quiet (fail)
    go_wp2
    go_ret
    exact ⟨rfl, by repeat (with_reducible first | exact HZ.out | apply below_drew1 | apply pw_below_drewN)⟩
  have b2 : decide (0 ≤ order) = true := decide_eq_true h2
  by_cases h3 : order ≤ 12
  case neg =>
    have qf0 : wz.cell? ⟨gf, 0, none⟩ = some (.int .i64 len) := (blk_cell BF.out 0).trans rfl
    have qf1 : wz.cell? ⟨gf, 1, none⟩ = some (.int .i64 order) := (blk_cell BF.out 1).trans rfl
    have qf2 : wz.cell? ⟨gf, 2, none⟩ = some (.bool down) := (blk_cell BF.out 2).trans rfl
    have qf3 : wz.cell? ⟨gf, 3, none⟩ = some (.bool fine) := (blk_cell BF.out 3).trans rfl
    have qf4 : wz.cell? ⟨gf, 4, none⟩ = some (.slice AF co.length cF) := (blk_cell BF.out 4).trans rfl
    have b3 : decide (order ≤ 12) = false := decide_eq_false h3
    obtain rfl : r = false := by rw [HV.out, b0, b1, b2, b3]; rfl
    clear h3 HV
    go_quiet (fail)
    go_wp2
    go_ret
    exact ⟨rfl, by repeat (with_reducible first | exact HZ.out | apply below_drew1 | apply pw_below_drewN)⟩
  have b3 : decide (order ≤ 12) = true := decide_eq_true h3
  clear h3
  by_cases h4 : (co.length : Int) = order
  case neg =>
    have qf0 : wz.cell? ⟨gf, 0, none⟩ = some (.int .i64 len) := (blk_cell BF.out 0).trans rfl
    have qf1 : wz.cell? ⟨gf, 1, none⟩ = some (.int .i64 order) := (blk_cell BF.out 1).trans rfl
    have qf2 : wz.cell? ⟨gf, 2, none⟩ = some (.bool down) := (blk_cell BF.out 2).trans rfl
    have qf3 : wz.cell? ⟨gf, 3, none⟩ = some (.bool fine) := (blk_cell BF.out 3).trans rfl
    have qf4 : wz.cell? ⟨gf, 4, none⟩ = some (.slice AF co.length cF) := (blk_cell BF.out 4).trans rfl
    have b4 : ((co.length : Int) == order) = false := beq_eq_false_iff_ne.mpr h4
    obtain rfl : r = false := by rw [HV.out, b0, b1, b2, b3, b4]; rfl
    clear h4 HV
    go_quiet (fail)
    go_wp2
    go_ret
    exact ⟨rfl, by repeat (with_reducible first | exact HZ.out | apply below_drew1 | apply pw_below_drewN)⟩
  have b4 : ((co.length : Int) == order) = true := beq_iff_eq.mpr h4
  by_cases h5 : 0 < order
  case pos =>
    have qf0 : wz.cell? ⟨gf, 0, none⟩ = some (.int .i64 len) := (blk_cell BF.out 0).trans rfl
    have qf1 : wz.cell? ⟨gf, 1, none⟩ = some (.int .i64 order) := (blk_cell BF.out 1).trans rfl
    have qf2 : wz.cell? ⟨gf, 2, none⟩ = some (.bool down) := (blk_cell BF.out 2).trans rfl
    have qf3 : wz.cell? ⟨gf, 3, none⟩ = some (.bool fine) := (blk_cell BF.out 3).trans rfl
    have qf4 : wz.cell? ⟨gf, 4, none⟩ = some (.slice AF co.length cF) := (blk_cell BF.out 4).trans rfl
    have b5 : decide (0 < order) = true := decide_eq_true h5
    obtain rfl : r = fitS co (wideS fine) := by rw [HV.out, b0, b1, b2, b3, b4, b5]; rfl
    clear h2 h4 h5 HV
    refine start_ (n := 50) (S := fun w' => w'.cell? ⟨gf, 0, none⟩ = some (.int .i64 len) ∧ w'.cell? ⟨gf, 1, none⟩ = some (.int .i64 order) ∧ w'.cell? ⟨gf, 2, none⟩ = some (.bool down) ∧ w'.cell? ⟨gf, 3, none⟩ = some (.bool fine) ∧ w'.cell? ⟨gf, 4, none⟩ = some (.slice AF co.length cF) ∧ w'.cell? ⟨gx, 1, none⟩ = some (.int .i64 6) ∧ w'.cell? ⟨gx, 4, none⟩ = some (.int .i64 12)) (ds := []) #[false, false, false, false, false, false, false, false, false, false, false, false, false, false, false, false, false, false, false, false, false, false, false, false, false, false, false, false, false, false, false, false, false, false, false, false, false, false, false, false, false, false, false, false, false, false, false, false, false, false] (by kernel_rfl) rfl rfl ⟨qf0, qf1, qf2, qf3, qf4, qx1, qx4⟩ (fun hHeld => ?_)
    refine pure_ (i := 0) (N := some 8) (v := ?_) (a' := ?_) (pre 50 1) rfl rfl (by kernel_rfl) (fun _ _ _ h => h) (Or.inl ⟨by rfl, ?_⟩) ?_ ?_
    rotate_left
    · intro w'
      go_simp
      with_reducible rfl
    rotate_left
    · simp only [Act.put, List.setIfInBounds_toArray, List.set_cons_zero, List.set_cons_succ, i64_w, i32_w]
      rfl
    refine take_ (i := 1) (N := some 9) (v := ?_) (a' := ?_) (pre 50 2) rfl rfl (by kernel_rfl) (fun _ _ _ h => h) (Or.inl ⟨by rfl, ?_⟩) hHeld ?_ ?_
    rotate_left
    · rintro w' ⟨s0, s1, s2, s3, s4, s5, s6⟩
      go_simp
      with_reducible rfl
    rotate_left
    · simp only [Act.put, List.setIfInBounds_toArray, List.set_cons_zero, List.set_cons_succ, i64_w, i32_w]
      rfl
    refine pure_ (i := 2) (N := some 10) (v := ?_) (a' := ?_) (pre 50 3) rfl rfl (by kernel_rfl) (fun _ _ _ h => h) (Or.inl ⟨by rfl, ?_⟩) ?_ ?_
    rotate_left
    · intro w'
      go_simp
      with_reducible rfl
    rotate_left
    · simp only [Act.put, List.setIfInBounds_toArray, List.set_cons_zero, List.set_cons_succ, i64_w, i32_w]
      rfl
    refine pure_ (i := 3) (N := some 11) (v := ?_) (a' := ?_) (pre 50 4) rfl rfl (by kernel_rfl) (fun _ _ _ h => h) (Or.inl ⟨by rfl, ?_⟩) ?_ ?_
    rotate_left
    · intro w'
      go_simp
      with_reducible rfl
    rotate_left
    · simp only [Act.put, List.setIfInBounds_toArray, List.set_cons_zero, List.set_cons_succ, i64_w, i32_w]
      rfl
    refine pure_ (i := 4) (N := some 12) (v := ?_) (a' := ?_) (pre 50 5) rfl rfl (by kernel_rfl) (fun _ _ _ h => h) (Or.inl ⟨by rfl, ?_⟩) ?_ ?_
    rotate_left
    · intro w'
      go_simp
      with_reducible rfl
    rotate_left
    · simp only [Act.put, List.setIfInBounds_toArray, List.set_cons_zero, List.set_cons_succ, i64_w, i32_w]
      rfl
    refine pure_ (i := 6) (N := some 14) (v := ?_) (a' := ?_) #[true, true, true, true, true, false, true, false, false, false, false, false, false, false, false, false, false, false, false, false, false, false, false, false, false, false, false, false, false, false, false, false, false, false, false, false, false, false, false, false, false, false, false, false, false, false, false, false, false, false] rfl rfl (by kernel_rfl) (fun _ _ _ h => h) (Or.inl ⟨by rfl, ?_⟩) ?_ ?_
    rotate_left
    · intro w'
      go_simp
      with_reducible rfl
    rotate_left
    · simp only [Act.put, List.setIfInBounds_toArray, List.set_cons_zero, List.set_cons_succ, i64_w, i32_w]
      rfl
    refine take_ (i := 5) (N := some 13) (v := ?_) (a' := ?_) (pre 50 7) rfl rfl (by kernel_rfl) (fun _ _ _ h => h) (Or.inl ⟨by rfl, ?_⟩) hHeld ?_ ?_
    rotate_left
    · rintro w' ⟨s0, s1, s2, s3, s4, s5, s6⟩
      go_simp
      with_reducible rfl
    rotate_left
    · simp only [Act.put, List.setIfInBounds_toArray, List.set_cons_zero, List.set_cons_succ, i64_w, i32_w]
      rfl
    refine take_ (i := 7) (N := some 15) (v := ?_) (a' := ?_) (pre 50 8) rfl rfl (by kernel_rfl) (fun _ _ _ h => h) (Or.inl ⟨by rfl, ?_⟩) hHeld ?_ ?_
    rotate_left
    · rintro w' ⟨s0, s1, s2, s3, s4, s5, s6⟩
      go_simp
      with_reducible rfl
    rotate_left
    · simp only [Act.put, List.setIfInBounds_toArray, List.set_cons_zero, List.set_cons_succ, i64_w, i32_w]
      rfl
    refine pure_ (i := 8) (N := some 16) (v := ?_) (a' := ?_) (pre 50 9) rfl rfl (by kernel_rfl) (fun _ _ _ h => h) (Or.inl ⟨by rfl, ?_⟩) ?_ ?_
    rotate_left
    · intro w'
      go_simp
      with_reducible rfl
    rotate_left
    · simp only [Act.put, List.setIfInBounds_toArray, List.set_cons_zero, List.set_cons_succ, i64_w, i32_w]
      rfl
    refine pure_ (i := 9) (N := some 17) (v := ?_) (a' := ?_) (pre 50 10) rfl rfl (by kernel_rfl) (fun _ _ _ h => h) (Or.inl ⟨by rfl, ?_⟩) ?_ ?_
    rotate_left
    · intro w'
      go_simp
      with_reducible rfl
    rotate_left
    · simp only [Act.put, List.setIfInBounds_toArray, List.set_cons_zero, List.set_cons_succ, i64_w, i32_w]
      rfl
    refine pure_ (i := 10) (N := some 18) (v := ?_) (a' := ?_) (pre 50 11) rfl rfl (by kernel_rfl) (fun _ _ _ h => h) (Or.inl ⟨by rfl, ?_⟩) ?_ ?_
    rotate_left
    · intro w'
      go_simp
      with_reducible rfl
    rotate_left
    · simp only [Act.put, List.setIfInBounds_toArray, List.set_cons_zero, List.set_cons_succ, i64_w, i32_w]
      rfl
    refine pure_ (i := 11) (N := some 19) (v := ?_) (a' := ?_) (pre 50 12) rfl rfl (by kernel_rfl) (fun _ _ _ h => h) (Or.inl ⟨by rfl, ?_⟩) ?_ ?_
    rotate_left
    · intro w'
      go_simp
      with_reducible rfl
    rotate_left
    · simp only [Act.put, List.setIfInBounds_toArray, List.set_cons_zero, List.set_cons_succ, i64_w, i32_w]
      rfl
    refine pure_ (i := 12) (N := some 20) (v := ?_) (a' := ?_) (pre 50 13) rfl rfl (by kernel_rfl) (fun _ _ _ h => h) (Or.inl ⟨by rfl, ?_⟩) ?_ ?_
    rotate_left
    · intro w'
      go_simp
      with_reducible rfl
    rotate_left
    · simp only [Act.put, List.setIfInBounds_toArray, List.set_cons_zero, List.set_cons_succ, i64_w, i32_w]
      rfl
    refine take_ (i := 13) (N := some 21) (v := ?_) (a' := ?_) (pre 50 14) rfl rfl (by kernel_rfl) (fun _ _ _ h => h) (Or.inl ⟨by rfl, ?_⟩) hHeld ?_ ?_
    rotate_left
    · rintro w' ⟨s0, s1, s2, s3, s4, s5, s6⟩
      go_simp
      with_reducible rfl
    rotate_left
    · simp only [Act.put, List.setIfInBounds_toArray, List.set_cons_zero, List.set_cons_succ, i64_w, i32_w]
      rfl
    refine pure_ (i := 14) (N := some 22) (v := ?_) (a' := ?_) (pre 50 15) rfl rfl (by kernel_rfl) (fun _ _ _ h => h) (Or.inl ⟨by rfl, ?_⟩) ?_ ?_
    rotate_left
    · intro w'
      go_simp
      with_reducible rfl
    rotate_left
    · simp only [Act.put, List.setIfInBounds_toArray, List.set_cons_zero, List.set_cons_succ, i64_w, i32_w]
      rfl
    refine pure_ (i := 15) (N := some 23) (v := ?_) (a' := ?_) (pre 50 16) rfl rfl (by kernel_rfl) (fun _ _ _ h => h) (Or.inl ⟨by rfl, ?_⟩) ?_ ?_
    rotate_left
    · intro w'
      go_simp
      with_reducible rfl
    rotate_left
    · simp only [Act.put, List.setIfInBounds_toArray, List.set_cons_zero, List.set_cons_succ, i64_w, i32_w]
      rfl
    refine pure_ (i := 16) (N := some 24) (v := ?_) (a' := ?_) (pre 50 17) rfl rfl (by kernel_rfl) (fun _ _ _ h => h) (Or.inl ⟨by rfl, ?_⟩) ?_ ?_
    rotate_left
    · intro w'
      go_simp
      with_reducible rfl
    rotate_left
    · simp only [Act.put, List.setIfInBounds_toArray, List.set_cons_zero, List.set_cons_succ, i64_w, i32_w]
      rfl
    refine pure_ (i := 17) (N := some 25) (v := ?_) (a' := ?_) (pre 50 18) rfl rfl (by kernel_rfl) (fun _ _ _ h => h) (Or.inl ⟨by rfl, ?_⟩) ?_ ?_
    rotate_left
    · intro w'
      go_simp
      with_reducible rfl
    rotate_left
    · simp only [Act.put, List.setIfInBounds_toArray, List.set_cons_zero, List.set_cons_succ, i64_w, i32_w]
      rfl
    refine pure_ (i := 19) (N := some 27) (v := ?_) (a' := ?_) #[true, true, true, true, true, true, true, true, true, true, true, true, true, true, true, true, true, true, false, true, false, false, false, false, false, false, false, false, false, false, false, false, false, false, false, false, false, false, false, false, false, false, false, false, false, false, false, false, false, false] rfl rfl (by kernel_rfl) (fun _ _ _ h => h) (Or.inl ⟨by rfl, ?_⟩) ?_ ?_
    rotate_left
    · intro w'
      go_simp
      with_reducible rfl
    rotate_left
    · simp only [Act.put, List.setIfInBounds_toArray, List.set_cons_zero, List.set_cons_succ, i64_w, i32_w]
      rfl
    refine take_ (i := 18) (N := some 26) (v := ?_) (a' := ?_) (pre 50 20) rfl rfl (by kernel_rfl) (fun _ _ _ h => h) (Or.inl ⟨by rfl, ?_⟩) hHeld ?_ ?_
    rotate_left
    · rintro w' ⟨s0, s1, s2, s3, s4, s5, s6⟩
      go_simp
      with_reducible rfl
    rotate_left
    · simp only [Act.put, List.setIfInBounds_toArray, List.set_cons_zero, List.set_cons_succ, i64_w, i32_w]
      rfl
    refine take_ (i := 20) (N := some 28) (v := ?_) (a' := ?_) (pre 50 21) rfl rfl (by kernel_rfl) (fun _ _ _ h => h) (Or.inl ⟨by rfl, ?_⟩) hHeld ?_ ?_
    rotate_left
    · rintro w' ⟨s0, s1, s2, s3, s4, s5, s6⟩
      go_simp
      with_reducible rfl
    rotate_left
    · simp only [Act.put, List.setIfInBounds_toArray, List.set_cons_zero, List.set_cons_succ, i64_w, i32_w]
      rfl
    refine pure_ (i := 21) (N := some 29) (v := ?_) (a' := ?_) (pre 50 22) rfl rfl (by kernel_rfl) (fun _ _ _ h => h) (Or.inl ⟨by rfl, ?_⟩) ?_ ?_
    rotate_left
    · intro w'
      go_simp
      with_reducible rfl
    rotate_left
    · simp only [Act.put, List.setIfInBounds_toArray, List.set_cons_zero, List.set_cons_succ, i64_w, i32_w]
      rfl
    refine pure_ (i := 22) (N := some 30) (v := ?_) (a' := ?_) (pre 50 23) rfl rfl (by kernel_rfl) (fun _ _ _ h => h) (Or.inl ⟨by rfl, ?_⟩) ?_ ?_
    rotate_left
    · intro w'
      go_simp
      with_reducible rfl
    rotate_left
    · simp only [Act.put, List.setIfInBounds_toArray, List.set_cons_zero, List.set_cons_succ, i64_w, i32_w]
      rfl
    refine pure_ (i := 23) (N := some 31) (v := ?_) (a' := ?_) (pre 50 24) rfl rfl (by kernel_rfl) (fun _ _ _ h => h) (Or.inl ⟨by rfl, ?_⟩) ?_ ?_
    rotate_left
    · intro w'
      go_simp
      with_reducible rfl
    rotate_left
    · simp only [Act.put, List.setIfInBounds_toArray, List.set_cons_zero, List.set_cons_succ, i64_w, i32_w]
      rfl
    refine pure_ (i := 24) (N := some 32) (v := ?_) (a' := ?_) (pre 50 25) rfl rfl (by kernel_rfl) (fun _ _ _ h => h) (Or.inl ⟨by rfl, ?_⟩) ?_ ?_
    rotate_left
    · intro w'
      go_simp
      with_reducible rfl
    rotate_left
    · simp only [Act.put, List.setIfInBounds_toArray, List.set_cons_zero, List.set_cons_succ, i64_w, i32_w]
      rfl
    refine pure_ (i := 27) (N := some 35) (v := ?_) (a' := ?_) #[true, true, true, true, true, true, true, true, true, true, true, true, true, true, true, true, true, true, true, true, true, true, true, true, true, false, false, true, false, false, false, false, false, false, false, false, false, false, false, false, false, false, false, false, false, false, false, false, false, false] rfl rfl (by kernel_rfl) (fun _ _ _ h => h) (Or.inl ⟨by rfl, ?_⟩) ?_ ?_
    rotate_left
    · intro w'
      go_simp
      with_reducible rfl
    rotate_left
    · simp only [Act.put, List.setIfInBounds_toArray, List.set_cons_zero, List.set_cons_succ, i64_w, i32_w]
      rfl
    refine take_ (i := 25) (N := some 33) (v := ?_) (a' := ?_) #[true, true, true, true, true, true, true, true, true, true, true, true, true, true, true, true, true, true, true, true, true, true, true, true, true, true, false, true, false, false, false, false, false, false, false, false, false, false, false, false, false, false, false, false, false, false, false, false, false, false] rfl rfl (by kernel_rfl) (fun _ _ _ h => h) (Or.inl ⟨by rfl, ?_⟩) hHeld ?_ ?_
    rotate_left
    · rintro w' ⟨s0, s1, s2, s3, s4, s5, s6⟩
      go_simp
      with_reducible rfl
    rotate_left
    · simp only [Act.put, List.setIfInBounds_toArray, List.set_cons_zero, List.set_cons_succ, i64_w, i32_w]
      rfl
    refine pure_ (i := 26) (N := some 34) (v := ?_) (a' := ?_) (pre 50 28) rfl rfl (by kernel_rfl) (fun _ _ _ h => h) (Or.inl ⟨by rfl, ?_⟩) ?_ ?_
    rotate_left
    · intro w'
      go_simp
      with_reducible rfl
    rotate_left
    · simp only [Act.put, List.setIfInBounds_toArray, List.set_cons_zero, List.set_cons_succ, i64_w, i32_w]
      rfl
    refine take_ (i := 28) (N := some 36) (v := ?_) (a' := ?_) (pre 50 29) rfl rfl (by kernel_rfl) (fun _ _ _ h => h) (Or.inl ⟨by rfl, ?_⟩) hHeld ?_ ?_
    rotate_left
    · rintro w' ⟨s0, s1, s2, s3, s4, s5, s6⟩
      go_simp
      with_reducible rfl
    rotate_left
    · simp only [Act.put, List.setIfInBounds_toArray, List.set_cons_zero, List.set_cons_succ, i64_w, i32_w]
      rfl
    refine pure_ (i := 29) (N := some 37) (v := ?_) (a' := ?_) (pre 50 30) rfl rfl (by kernel_rfl) (fun _ _ _ h => h) (Or.inl ⟨by rfl, ?_⟩) ?_ ?_
    rotate_left
    · intro w'
      go_simp
      with_reducible rfl
    rotate_left
    · simp only [Act.put, List.setIfInBounds_toArray, List.set_cons_zero, List.set_cons_succ, i64_w, i32_w]
      rfl
    refine pure_ (i := 30) (N := some 38) (v := ?_) (a' := ?_) (pre 50 31) rfl rfl (by kernel_rfl) (fun _ _ _ h => h) (Or.inl ⟨by rfl, ?_⟩) ?_ ?_
    rotate_left
    · intro w'
      go_simp
      with_reducible rfl
    rotate_left
    · simp only [Act.put, List.setIfInBounds_toArray, List.set_cons_zero, List.set_cons_succ, i64_w, i32_w]
      rfl
    refine pure_ (i := 31) (N := some 39) (v := ?_) (a' := ?_) (pre 50 32) rfl rfl (by kernel_rfl) (fun _ _ _ h => h) (Or.inl ⟨by rfl, ?_⟩) ?_ ?_
    rotate_left
    · intro w'
      go_simp
      with_reducible rfl
    rotate_left
    · simp only [Act.put, List.setIfInBounds_toArray, List.set_cons_zero, List.set_cons_succ, i64_w, i32_w]
      rfl
    refine pure_ (i := 32) (N := some 40) (v := ?_) (a' := ?_) (pre 50 33) rfl rfl (by kernel_rfl) (fun _ _ _ h => h) (Or.inl ⟨by rfl, ?_⟩) ?_ ?_
    rotate_left
    · intro w'
      go_simp
      with_reducible rfl
    rotate_left
    · simp only [Act.put, List.setIfInBounds_toArray, List.set_cons_zero, List.set_cons_succ, i64_w, i32_w]
      rfl
    refine take_ (i := 33) (N := some 41) (v := ?_) (a' := ?_) (pre 50 34) rfl rfl (by kernel_rfl) (fun _ _ _ h => h) (Or.inl ⟨by rfl, ?_⟩) hHeld ?_ ?_
    rotate_left
    · rintro w' ⟨s0, s1, s2, s3, s4, s5, s6⟩
      go_simp
      with_reducible rfl
    rotate_left
    · simp only [Act.put, List.setIfInBounds_toArray, List.set_cons_zero, List.set_cons_succ, i64_w, i32_w]
      rfl
    refine pure_ (i := 34) (N := some 42) (v := ?_) (a' := ?_) (pre 50 35) rfl rfl (by kernel_rfl) (fun _ _ _ h => h) (Or.inl ⟨by rfl, ?_⟩) ?_ ?_
    rotate_left
    · intro w'
      go_simp
      with_reducible rfl
    rotate_left
    · simp only [Act.put, List.setIfInBounds_toArray, List.set_cons_zero, List.set_cons_succ, i64_w, i32_w]
      rfl
    refine pure_ (i := 35) (N := some 43) (v := ?_) (a' := ?_) (pre 50 36) rfl rfl (by kernel_rfl) (fun _ _ _ h => h) (Or.inl ⟨by rfl, ?_⟩) ?_ ?_
    rotate_left
    · intro w'
      go_simp
      with_reducible rfl
    rotate_left
    · simp only [Act.put, List.setIfInBounds_toArray, List.set_cons_zero, List.set_cons_succ, i64_w, i32_w]
      rfl
    refine pure_ (i := 36) (N := some 44) (v := undef) (a' := ?_) (pre 50 37) rfl rfl (by kernel_rfl) (fun _ _ _ h => h) (Or.inr ⟨by rfl, rfl⟩) ?_ ?_
    rotate_left
    · simp only [Act.put, List.setIfInBounds_toArray, List.set_cons_zero, List.set_cons_succ, i64_w, i32_w]
      rfl
    refine pure_ (i := 37) (N := some 45) (v := undef) (a' := ?_) (pre 50 38) rfl rfl (by kernel_rfl) (fun _ _ _ h => h) (Or.inr ⟨by rfl, rfl⟩) ?_ ?_
    rotate_left
    · simp only [Act.put, List.setIfInBounds_toArray, List.set_cons_zero, List.set_cons_succ, i64_w, i32_w]
      rfl
    refine pure_ (i := 38) (N := some 46) (v := undef) (a' := ?_) (pre 50 39) rfl rfl (by kernel_rfl) (fun _ _ _ h => h) (Or.inr ⟨by rfl, rfl⟩) ?_ ?_
    rotate_left
    · simp only [Act.put, List.setIfInBounds_toArray, List.set_cons_zero, List.set_cons_succ, i64_w, i32_w]
      rfl
    refine pure_ (i := 39) (N := some 47) (v := ?_) (a' := ?_) (pre 50 40) rfl rfl (by kernel_rfl) (fun _ _ _ h => h) (Or.inl ⟨by rfl, ?_⟩) ?_ ?_
    rotate_left
    · intro w'
      go_simp
      with_reducible rfl
    rotate_left
    · simp only [Act.put, List.setIfInBounds_toArray, List.set_cons_zero, List.set_cons_succ, i64_w, i32_w]
      rfl
    refine pure_ (i := 40) (N := some 48) (v := ?_) (a' := ?_) (pre 50 41) rfl rfl (by kernel_rfl) (fun _ _ _ h => h) (Or.inl ⟨by rfl, ?_⟩) ?_ ?_
    rotate_left
    · intro w'
      go_simp
      with_reducible rfl
    rotate_left
    · simp only [Act.put, List.setIfInBounds_toArray, List.set_cons_zero, List.set_cons_succ, i64_w, i32_w]
      rfl
    refine pure_ (i := 41) (N := some 49) (v := ?_) (a' := ?_) (pre 50 42) rfl rfl (by kernel_rfl) (fun _ _ _ h => h) (Or.inl ⟨by rfl, ?_⟩) ?_ ?_
    rotate_left
    · intro w'
      go_simp
      with_reducible rfl
    rotate_left
    · simp only [Act.put, List.setIfInBounds_toArray, List.set_cons_zero, List.set_cons_succ, i64_w, i32_w]
      rfl
    refine pure_ (i := 42) (N := some 50) (v := ?_) (a' := ?_) (pre 50 43) rfl rfl (by kernel_rfl) (fun _ _ _ h => h) (Or.inl ⟨by rfl, ?_⟩) ?_ ?_
    rotate_left
    · intro w'
      go_simp
      with_reducible rfl
    rotate_left
    · simp only [Act.put, List.setIfInBounds_toArray, List.set_cons_zero, List.set_cons_succ, i64_w, i32_w]
      rfl
    refine pure_ (i := 44) (N := some 52) (v := ?_) (a' := ?_) #[true, true, true, true, true, true, true, true, true, true, true, true, true, true, true, true, true, true, true, true, true, true, true, true, true, true, true, true, true, true, true, true, true, true, true, true, true, true, true, true, true, true, true, false, true, false, false, false, false, false] rfl rfl (by kernel_rfl) (fun _ _ _ h => h) (Or.inl ⟨by rfl, ?_⟩) ?_ ?_
    rotate_left
    · intro w'
      go_simp
      with_reducible rfl
    rotate_left
    · simp only [Act.put, List.setIfInBounds_toArray, List.set_cons_zero, List.set_cons_succ, i64_w, i32_w]
      rfl
    refine take_ (i := 43) (N := some 51) (v := ?_) (a' := ?_) (pre 50 45) rfl rfl (by kernel_rfl) (fun _ _ _ h => h) (Or.inl ⟨by rfl, ?_⟩) hHeld ?_ ?_
    rotate_left
    · rintro w' ⟨s0, s1, s2, s3, s4, s5, s6⟩
      go_simp
      with_reducible rfl
    rotate_left
    · simp only [Act.put, List.setIfInBounds_toArray, List.set_cons_zero, List.set_cons_succ, i64_w, i32_w]
      rfl
    refine take_ (i := 45) (N := some 53) (v := ?_) (a' := ?_) (pre 50 46) rfl rfl (by kernel_rfl) (fun _ _ _ h => h) (Or.inl ⟨by rfl, ?_⟩) hHeld ?_ ?_
    rotate_left
    · rintro w' ⟨s0, s1, s2, s3, s4, s5, s6⟩
      go_simp
      with_reducible rfl
    rotate_left
    · simp only [Act.put, List.setIfInBounds_toArray, List.set_cons_zero, List.set_cons_succ, i64_w, i32_w]
      rfl
    refine one_ (i := 46) (N := some 54) (pre 50 47) rfl rfl (by kernel_rfl) (by decide) (fun K hK => ?_)
    refine goes_ Try.func25 (by kernel_rfl) rfl #[.bool fine] (by rfl) rfl rfl (by simp only [List.map_toArray, List.map_cons, List.map_nil]; rfl) ?_
    with_reducible refine (tnsbits_wide.calls fine (wideS fine) _ HW.out).mono ?_
    rintro e w3 ⟨rfl, ⟨nd, rfl⟩⟩
    refine ⟨_, rfl, ?_⟩
    refine hK.out _ _ ⟨hHeld.1, hHeld.2.1, hHeld.2.2.1, hHeld.2.2.2.1, hHeld.2.2.2.2.1, hHeld.2.2.2.2.2.1, hHeld.2.2.2.2.2.2⟩ (fun hHeld => ?_)
    clear hK K
    refine norm_ (a' := ?_) ?_ ?_
    rotate_left
    · show Act.put _ (some 54) _ = _
      simp only [Act.put, List.setIfInBounds_toArray, List.set_cons_zero, List.set_cons_succ, i64_w, i32_w]
      rfl
    refine one_ (i := 47) (N := some 55) (pre 50 48) rfl rfl (by kernel_rfl) (by decide) (fun K hK => ?_)
    refine goes_ Try.func26 (by kernel_rfl) rfl #[.slice AF co.length cF, .int .i64 (wideS fine)] (by rfl) rfl rfl (by simp only [List.map_toArray, List.map_cons, List.map_nil]; rfl) ?_
    with_reducible refine (fit_calls AF cF co (wideS fine) (by cases fine <;> decide) _ (Kd.C_below HR.out (by repeat (with_reducible first | exact HZ.out | apply below_drew1 | apply pw_below_drewN)))).mono ?_
    rintro e w4 ⟨rfl, hb⟩
    refine ⟨_, rfl, ?_⟩
    have HBX : Aside0 (Below w.heap.size w w4) := ⟨below_step (by repeat (with_reducible first | exact HZ.out | apply below_drew1 | apply pw_below_drewN)) hb⟩
    refine hK.out _ _ ⟨pw_cell_below hb hHeld.1, pw_cell_below hb hHeld.2.1, pw_cell_below hb hHeld.2.2.1, pw_cell_below hb hHeld.2.2.2.1, pw_cell_below hb hHeld.2.2.2.2.1, pw_cell_below hb hHeld.2.2.2.2.2.1, pw_cell_below hb hHeld.2.2.2.2.2.2⟩ (fun hHeld => ?_)
    clear hK K
    refine norm_ (a' := ?_) ?_ ?_
    rotate_left
    · show Act.put _ (some 55) _ = _
      simp only [Act.put, List.setIfInBounds_toArray, List.set_cons_zero, List.set_cons_succ, i64_w, i32_w]
      rfl
    refine pure_ (i := 48) (N := some 56) (v := ?_) (a' := ?_) (pre 50 49) rfl rfl (by kernel_rfl) (fun _ _ _ h => h) (Or.inl ⟨by rfl, ?_⟩) ?_ ?_
    rotate_left
    · intro w'
      go_simp
      with_reducible rfl
    rotate_left
    · simp only [Act.put, List.setIfInBounds_toArray, List.set_cons_zero, List.set_cons_succ, i64_w, i32_w]
      rfl
    refine pure_ (i := 49) (N := some 4) (v := ?_) (a' := ?_) (pre 50 50) rfl rfl (by kernel_rfl) (fun _ _ _ h => h) (Or.inl ⟨by rfl, ?_⟩) ?_ ?_
    rotate_left
    · intro w'
      go_simp
      with_reducible rfl
    rotate_left
    · simp only [Act.put, List.setIfInBounds_toArray, List.set_cons_zero, List.set_cons_succ, i64_w, i32_w]
      rfl
    refine done_ (by kernel_rfl) ?_
    go_wp2
    go_ret
    exact ⟨rfl, HBX.out⟩
  obtain rfl : order = 0 := by omega
  have qf0 : wz.cell? ⟨gf, 0, none⟩ = some (.int .i64 len) := (blk_cell BF.out 0).trans rfl
  have qf1 : wz.cell? ⟨gf, 1, none⟩ = some (.int .i64 0) := (blk_cell BF.out 1).trans rfl
  have qf2 : wz.cell? ⟨gf, 2, none⟩ = some (.bool down) := (blk_cell BF.out 2).trans rfl
  have qf3 : wz.cell? ⟨gf, 3, none⟩ = some (.bool fine) := (blk_cell BF.out 3).trans rfl
  have qf4 : wz.cell? ⟨gf, 4, none⟩ = some (.slice AF co.length cF) := (blk_cell BF.out 4).trans rfl
  clear h2 h4 h5
  cases down
  case true =>
    obtain rfl : r = false := by rw [HV.out, b0, b1, b2, b3, b4]; rfl
    clear HV
    go_quiet (fail)
    go_wp2
    go_ret
    exact ⟨rfl, by repeat (with_reducible first | exact HZ.out | apply below_drew1 | apply pw_below_drewN)⟩
  obtain rfl : r = fitS co (wideS fine) := by rw [HV.out, b0, b1, b2, b3, b4]; rfl
  clear HV
  refine start_ (n := 50) (S := fun w' => w'.cell? ⟨gf, 0, none⟩ = some (.int .i64 len) ∧ w'.cell? ⟨gf, 1, none⟩ = some (.int .i64 0) ∧ w'.cell? ⟨gf, 2, none⟩ = some (.bool false) ∧ w'.cell? ⟨gf, 3, none⟩ = some (.bool fine) ∧ w'.cell? ⟨gf, 4, none⟩ = some (.slice AF co.length cF) ∧ w'.cell? ⟨gx, 1, none⟩ = some (.int .i64 6) ∧ w'.cell? ⟨gx, 4, none⟩ = some (.int .i64 12)) (ds := []) #[false, false, false, false, false, false, false, false, false, false, false, false, false, false, false, false, false, false, false, false, false, false, false, false, false, false, false, false, false, false, false, false, false, false, false, false, false, false, false, false, false, false, false, false, false, false, false, false, false, false] (by kernel_rfl) rfl rfl ⟨qf0, qf1, qf2, qf3, qf4, qx1, qx4⟩ (fun hHeld => ?_)
  refine pure_ (i := 0) (N := some 8) (v := ?_) (a' := ?_) (pre 50 1) rfl rfl (by kernel_rfl) (fun _ _ _ h => h) (Or.inl ⟨by rfl, ?_⟩) ?_ ?_
  rotate_left
  · intro w'
    go_simp
    with_reducible rfl
  rotate_left
  · simp only [Act.put, List.setIfInBounds_toArray, List.set_cons_zero, List.set_cons_succ, i64_w, i32_w]
    rfl
  refine take_ (i := 1) (N := some 9) (v := ?_) (a' := ?_) (pre 50 2) rfl rfl (by kernel_rfl) (fun _ _ _ h => h) (Or.inl ⟨by rfl, ?_⟩) hHeld ?_ ?_
  rotate_left
  · rintro w' ⟨s0, s1, s2, s3, s4, s5, s6⟩
    go_simp
    with_reducible rfl
  rotate_left
  · simp only [Act.put, List.setIfInBounds_toArray, List.set_cons_zero, List.set_cons_succ, i64_w, i32_w]
    rfl
  refine pure_ (i := 2) (N := some 10) (v := ?_) (a' := ?_) (pre 50 3) rfl rfl (by kernel_rfl) (fun _ _ _ h => h) (Or.inl ⟨by rfl, ?_⟩) ?_ ?_
  rotate_left
  · intro w'
    go_simp
    with_reducible rfl
  rotate_left
  · simp only [Act.put, List.setIfInBounds_toArray, List.set_cons_zero, List.set_cons_succ, i64_w, i32_w]
    rfl
  refine pure_ (i := 3) (N := some 11) (v := ?_) (a' := ?_) (pre 50 4) rfl rfl (by kernel_rfl) (fun _ _ _ h => h) (Or.inl ⟨by rfl, ?_⟩) ?_ ?_
  rotate_left
  · intro w'
    go_simp
    with_reducible rfl
  rotate_left
  · simp only [Act.put, List.setIfInBounds_toArray, List.set_cons_zero, List.set_cons_succ, i64_w, i32_w]
    rfl
  refine pure_ (i := 4) (N := some 12) (v := ?_) (a' := ?_) (pre 50 5) rfl rfl (by kernel_rfl) (fun _ _ _ h => h) (Or.inl ⟨by rfl, ?_⟩) ?_ ?_
  rotate_left
  · intro w'
    go_simp
    with_reducible rfl
  rotate_left
  · simp only [Act.put, List.setIfInBounds_toArray, List.set_cons_zero, List.set_cons_succ, i64_w, i32_w]
    rfl
  refine pure_ (i := 6) (N := some 14) (v := ?_) (a' := ?_) #[true, true, true, true, true, false, true, false, false, false, false, false, false, false, false, false, false, false, false, false, false, false, false, false, false, false, false, false, false, false, false, false, false, false, false, false, false, false, false, false, false, false, false, false, false, false, false, false, false, false] rfl rfl (by kernel_rfl) (fun _ _ _ h => h) (Or.inl ⟨by rfl, ?_⟩) ?_ ?_
  rotate_left
  · intro w'
    go_simp
    with_reducible rfl
  rotate_left
  · simp only [Act.put, List.setIfInBounds_toArray, List.set_cons_zero, List.set_cons_succ, i64_w, i32_w]
    rfl
  refine take_ (i := 5) (N := some 13) (v := ?_) (a' := ?_) (pre 50 7) rfl rfl (by kernel_rfl) (fun _ _ _ h => h) (Or.inl ⟨by rfl, ?_⟩) hHeld ?_ ?_
  rotate_left
  · rintro w' ⟨s0, s1, s2, s3, s4, s5, s6⟩
    go_simp
    with_reducible rfl
  rotate_left
  · simp only [Act.put, List.setIfInBounds_toArray, List.set_cons_zero, List.set_cons_succ, i64_w, i32_w]
    rfl
  refine take_ (i := 7) (N := some 15) (v := ?_) (a' := ?_) (pre 50 8) rfl rfl (by kernel_rfl) (fun _ _ _ h => h) (Or.inl ⟨by rfl, ?_⟩) hHeld ?_ ?_
  rotate_left
  · rintro w' ⟨s0, s1, s2, s3, s4, s5, s6⟩
    go_simp
    with_reducible rfl
  rotate_left
  · simp only [Act.put, List.setIfInBounds_toArray, List.set_cons_zero, List.set_cons_succ, i64_w, i32_w]
    rfl
  refine pure_ (i := 8) (N := some 16) (v := ?_) (a' := ?_) (pre 50 9) rfl rfl (by kernel_rfl) (fun _ _ _ h => h) (Or.inl ⟨by rfl, ?_⟩) ?_ ?_
  rotate_left
  · intro w'
    go_simp
    with_reducible rfl
  rotate_left
  · simp only [Act.put, List.setIfInBounds_toArray, List.set_cons_zero, List.set_cons_succ, i64_w, i32_w]
    rfl
  refine pure_ (i := 9) (N := some 17) (v := ?_) (a' := ?_) (pre 50 10) rfl rfl (by kernel_rfl) (fun _ _ _ h => h) (Or.inl ⟨by rfl, ?_⟩) ?_ ?_
  rotate_left
  · intro w'
    go_simp
    with_reducible rfl
  rotate_left
  · simp only [Act.put, List.setIfInBounds_toArray, List.set_cons_zero, List.set_cons_succ, i64_w, i32_w]
    rfl
  refine pure_ (i := 10) (N := some 18) (v := ?_) (a' := ?_) (pre 50 11) rfl rfl (by kernel_rfl) (fun _ _ _ h => h) (Or.inl ⟨by rfl, ?_⟩) ?_ ?_
  rotate_left
  · intro w'
    go_simp
    with_reducible rfl
  rotate_left
  · simp only [Act.put, List.setIfInBounds_toArray, List.set_cons_zero, List.set_cons_succ, i64_w, i32_w]
    rfl
  refine pure_ (i := 11) (N := some 19) (v := ?_) (a' := ?_) (pre 50 12) rfl rfl (by kernel_rfl) (fun _ _ _ h => h) (Or.inl ⟨by rfl, ?_⟩) ?_ ?_
  rotate_left
  · intro w'
    go_simp
    with_reducible rfl
  rotate_left
  · simp only [Act.put, List.setIfInBounds_toArray, List.set_cons_zero, List.set_cons_succ, i64_w, i32_w]
    rfl
  refine pure_ (i := 12) (N := some 20) (v := ?_) (a' := ?_) (pre 50 13) rfl rfl (by kernel_rfl) (fun _ _ _ h => h) (Or.inl ⟨by rfl, ?_⟩) ?_ ?_
  rotate_left
  · intro w'
    go_simp
    with_reducible rfl
  rotate_left
  · simp only [Act.put, List.setIfInBounds_toArray, List.set_cons_zero, List.set_cons_succ, i64_w, i32_w]
    rfl
  refine take_ (i := 13) (N := some 21) (v := ?_) (a' := ?_) (pre 50 14) rfl rfl (by kernel_rfl) (fun _ _ _ h => h) (Or.inl ⟨by rfl, ?_⟩) hHeld ?_ ?_
  rotate_left
  · rintro w' ⟨s0, s1, s2, s3, s4, s5, s6⟩
    go_simp
    with_reducible rfl
  rotate_left
  · simp only [Act.put, List.setIfInBounds_toArray, List.set_cons_zero, List.set_cons_succ, i64_w, i32_w]
    rfl
  refine pure_ (i := 14) (N := some 22) (v := ?_) (a' := ?_) (pre 50 15) rfl rfl (by kernel_rfl) (fun _ _ _ h => h) (Or.inl ⟨by rfl, ?_⟩) ?_ ?_
  rotate_left
  · intro w'
    go_simp
    with_reducible rfl
  rotate_left
  · simp only [Act.put, List.setIfInBounds_toArray, List.set_cons_zero, List.set_cons_succ, i64_w, i32_w]
    rfl
  refine pure_ (i := 15) (N := some 23) (v := ?_) (a' := ?_) (pre 50 16) rfl rfl (by kernel_rfl) (fun _ _ _ h => h) (Or.inl ⟨by rfl, ?_⟩) ?_ ?_
  rotate_left
  · intro w'
    go_simp
    with_reducible rfl
  rotate_left
  · simp only [Act.put, List.setIfInBounds_toArray, List.set_cons_zero, List.set_cons_succ, i64_w, i32_w]
    rfl
  refine pure_ (i := 16) (N := some 24) (v := ?_) (a' := ?_) (pre 50 17) rfl rfl (by kernel_rfl) (fun _ _ _ h => h) (Or.inl ⟨by rfl, ?_⟩) ?_ ?_
  rotate_left
  · intro w'
    go_simp
    with_reducible rfl
  rotate_left
  · simp only [Act.put, List.setIfInBounds_toArray, List.set_cons_zero, List.set_cons_succ, i64_w, i32_w]
    rfl
  refine pure_ (i := 17) (N := some 25) (v := ?_) (a' := ?_) (pre 50 18) rfl rfl (by kernel_rfl) (fun _ _ _ h => h) (Or.inl ⟨by rfl, ?_⟩) ?_ ?_
  rotate_left
  · intro w'
    go_simp
    with_reducible rfl
  rotate_left
  · simp only [Act.put, List.setIfInBounds_toArray, List.set_cons_zero, List.set_cons_succ, i64_w, i32_w]
    rfl
  refine pure_ (i := 19) (N := some 27) (v := ?_) (a' := ?_) #[true, true, true, true, true, true, true, true, true, true, true, true, true, true, true, true, true, true, false, true, false, false, false, false, false, false, false, false, false, false, false, false, false, false, false, false, false, false, false, false, false, false, false, false, false, false, false, false, false, false] rfl rfl (by kernel_rfl) (fun _ _ _ h => h) (Or.inl ⟨by rfl, ?_⟩) ?_ ?_
  rotate_left
  · intro w'
    go_simp
    with_reducible rfl
  rotate_left
  · simp only [Act.put, List.setIfInBounds_toArray, List.set_cons_zero, List.set_cons_succ, i64_w, i32_w]
    rfl
  refine take_ (i := 18) (N := some 26) (v := ?_) (a' := ?_) (pre 50 20) rfl rfl (by kernel_rfl) (fun _ _ _ h => h) (Or.inl ⟨by rfl, ?_⟩) hHeld ?_ ?_
  rotate_left
  · rintro w' ⟨s0, s1, s2, s3, s4, s5, s6⟩
    go_simp
    with_reducible rfl
  rotate_left
  · simp only [Act.put, List.setIfInBounds_toArray, List.set_cons_zero, List.set_cons_succ, i64_w, i32_w]
    rfl
  refine take_ (i := 20) (N := some 28) (v := ?_) (a' := ?_) (pre 50 21) rfl rfl (by kernel_rfl) (fun _ _ _ h => h) (Or.inl ⟨by rfl, ?_⟩) hHeld ?_ ?_
  rotate_left
  · rintro w' ⟨s0, s1, s2, s3, s4, s5, s6⟩
    go_simp
    with_reducible rfl
  rotate_left
  · simp only [Act.put, List.setIfInBounds_toArray, List.set_cons_zero, List.set_cons_succ, i64_w, i32_w]
    rfl
  refine pure_ (i := 21) (N := some 29) (v := ?_) (a' := ?_) (pre 50 22) rfl rfl (by kernel_rfl) (fun _ _ _ h => h) (Or.inl ⟨by rfl, ?_⟩) ?_ ?_
  rotate_left
  · intro w'
    go_simp
    with_reducible rfl
  rotate_left
  · simp only [Act.put, List.setIfInBounds_toArray, List.set_cons_zero, List.set_cons_succ, i64_w, i32_w]
    rfl
  refine pure_ (i := 22) (N := some 30) (v := ?_) (a' := ?_) (pre 50 23) rfl rfl (by kernel_rfl) (fun _ _ _ h => h) (Or.inl ⟨by rfl, ?_⟩) ?_ ?_
  rotate_left
  · intro w'
    go_simp
    with_reducible rfl
  rotate_left
  · simp only [Act.put, List.setIfInBounds_toArray, List.set_cons_zero, List.set_cons_succ, i64_w, i32_w]
    rfl
  refine pure_ (i := 23) (N := some 31) (v := ?_) (a' := ?_) (pre 50 24) rfl rfl (by kernel_rfl) (fun _ _ _ h => h) (Or.inl ⟨by rfl, ?_⟩) ?_ ?_
  rotate_left
  · intro w'
    go_simp
    with_reducible rfl
  rotate_left
  · simp only [Act.put, List.setIfInBounds_toArray, List.set_cons_zero, List.set_cons_succ, i64_w, i32_w]
    rfl
  refine pure_ (i := 24) (N := some 32) (v := ?_) (a' := ?_) (pre 50 25) rfl rfl (by kernel_rfl) (fun _ _ _ h => h) (Or.inl ⟨by rfl, ?_⟩) ?_ ?_
  rotate_left
  · intro w'
    go_simp
    with_reducible rfl
  rotate_left
  · simp only [Act.put, List.setIfInBounds_toArray, List.set_cons_zero, List.set_cons_succ, i64_w, i32_w]
    rfl
  refine pure_ (i := 27) (N := some 35) (v := ?_) (a' := ?_) #[true, true, true, true, true, true, true, true, true, true, true, true, true, true, true, true, true, true, true, true, true, true, true, true, true, false, false, true, false, false, false, false, false, false, false, false, false, false, false, false, false, false, false, false, false, false, false, false, false, false] rfl rfl (by kernel_rfl) (fun _ _ _ h => h) (Or.inl ⟨by rfl, ?_⟩) ?_ ?_
  rotate_left
  · intro w'
    go_simp
    with_reducible rfl
  rotate_left
  · simp only [Act.put, List.setIfInBounds_toArray, List.set_cons_zero, List.set_cons_succ, i64_w, i32_w]
    rfl
  refine take_ (i := 25) (N := some 33) (v := ?_) (a' := ?_) #[true, true, true, true, true, true, true, true, true, true, true, true, true, true, true, true, true, true, true, true, true, true, true, true, true, true, false, true, false, false, false, false, false, false, false, false, false, false, false, false, false, false, false, false, false, false, false, false, false, false] rfl rfl (by kernel_rfl) (fun _ _ _ h => h) (Or.inl ⟨by rfl, ?_⟩) hHeld ?_ ?_
  rotate_left
  · rintro w' ⟨s0, s1, s2, s3, s4, s5, s6⟩
    go_simp
    with_reducible rfl
  rotate_left
  · simp only [Act.put, List.setIfInBounds_toArray, List.set_cons_zero, List.set_cons_succ, i64_w, i32_w]
    rfl
  refine pure_ (i := 26) (N := some 34) (v := ?_) (a' := ?_) (pre 50 28) rfl rfl (by kernel_rfl) (fun _ _ _ h => h) (Or.inl ⟨by rfl, ?_⟩) ?_ ?_
  rotate_left
  · intro w'
    go_simp
    with_reducible rfl
  rotate_left
  · simp only [Act.put, List.setIfInBounds_toArray, List.set_cons_zero, List.set_cons_succ, i64_w, i32_w]
    rfl
  refine take_ (i := 28) (N := some 36) (v := ?_) (a' := ?_) (pre 50 29) rfl rfl (by kernel_rfl) (fun _ _ _ h => h) (Or.inl ⟨by rfl, ?_⟩) hHeld ?_ ?_
  rotate_left
  · rintro w' ⟨s0, s1, s2, s3, s4, s5, s6⟩
    go_simp
    with_reducible rfl
  rotate_left
  · simp only [Act.put, List.setIfInBounds_toArray, List.set_cons_zero, List.set_cons_succ, i64_w, i32_w]
    rfl
  refine pure_ (i := 29) (N := some 37) (v := ?_) (a' := ?_) (pre 50 30) rfl rfl (by kernel_rfl) (fun _ _ _ h => h) (Or.inl ⟨by rfl, ?_⟩) ?_ ?_
  rotate_left
  · intro w'
    go_simp
    with_reducible rfl
  rotate_left
  · simp only [Act.put, List.setIfInBounds_toArray, List.set_cons_zero, List.set_cons_succ, i64_w, i32_w]
    rfl
  refine pure_ (i := 30) (N := some 38) (v := ?_) (a' := ?_) (pre 50 31) rfl rfl (by kernel_rfl) (fun _ _ _ h => h) (Or.inl ⟨by rfl, ?_⟩) ?_ ?_
  rotate_left
  · intro w'
    go_simp
    with_reducible rfl
  rotate_left
  · simp only [Act.put, List.setIfInBounds_toArray, List.set_cons_zero, List.set_cons_succ, i64_w, i32_w]
    rfl
  refine pure_ (i := 31) (N := some 39) (v := ?_) (a' := ?_) (pre 50 32) rfl rfl (by kernel_rfl) (fun _ _ _ h => h) (Or.inl ⟨by rfl, ?_⟩) ?_ ?_
  rotate_left
  · intro w'
    go_simp
    with_reducible rfl
  rotate_left
  · simp only [Act.put, List.setIfInBounds_toArray, List.set_cons_zero, List.set_cons_succ, i64_w, i32_w]
    rfl
  refine pure_ (i := 32) (N := some 40) (v := ?_) (a' := ?_) (pre 50 33) rfl rfl (by kernel_rfl) (fun _ _ _ h => h) (Or.inl ⟨by rfl, ?_⟩) ?_ ?_
  rotate_left
  · intro w'
    go_simp
    with_reducible rfl
  rotate_left
  · simp only [Act.put, List.setIfInBounds_toArray, List.set_cons_zero, List.set_cons_succ, i64_w, i32_w]
    rfl
  refine take_ (i := 33) (N := some 41) (v := ?_) (a' := ?_) (pre 50 34) rfl rfl (by kernel_rfl) (fun _ _ _ h => h) (Or.inl ⟨by rfl, ?_⟩) hHeld ?_ ?_
  rotate_left
  · rintro w' ⟨s0, s1, s2, s3, s4, s5, s6⟩
    go_simp
    with_reducible rfl
  rotate_left
  · simp only [Act.put, List.setIfInBounds_toArray, List.set_cons_zero, List.set_cons_succ, i64_w, i32_w]
    rfl
  refine pure_ (i := 34) (N := some 42) (v := ?_) (a' := ?_) (pre 50 35) rfl rfl (by kernel_rfl) (fun _ _ _ h => h) (Or.inl ⟨by rfl, ?_⟩) ?_ ?_
  rotate_left
  · intro w'
    go_simp
    with_reducible rfl
  rotate_left
  · simp only [Act.put, List.setIfInBounds_toArray, List.set_cons_zero, List.set_cons_succ, i64_w, i32_w]
    rfl
  refine pure_ (i := 35) (N := some 43) (v := ?_) (a' := ?_) (pre 50 36) rfl rfl (by kernel_rfl) (fun _ _ _ h => h) (Or.inl ⟨by rfl, ?_⟩) ?_ ?_
  rotate_left
  · intro w'
    go_simp
    with_reducible rfl
  rotate_left
  · simp only [Act.put, List.setIfInBounds_toArray, List.set_cons_zero, List.set_cons_succ, i64_w, i32_w]
    rfl
  refine pure_ (i := 36) (N := some 44) (v := ?_) (a' := ?_) (pre 50 37) rfl rfl (by kernel_rfl) (fun _ _ _ h => h) (Or.inl ⟨by rfl, ?_⟩) ?_ ?_
  rotate_left
  · intro w'
    go_simp
    with_reducible rfl
  rotate_left
  · simp only [Act.put, List.setIfInBounds_toArray, List.set_cons_zero, List.set_cons_succ, i64_w, i32_w]
    rfl
  refine take_ (i := 37) (N := some 45) (v := ?_) (a' := ?_) (pre 50 38) rfl rfl (by kernel_rfl) (fun _ _ _ h => h) (Or.inl ⟨by rfl, ?_⟩) hHeld ?_ ?_
  rotate_left
  · rintro w' ⟨s0, s1, s2, s3, s4, s5, s6⟩
    go_simp
    with_reducible rfl
  rotate_left
  · simp only [Act.put, List.setIfInBounds_toArray, List.set_cons_zero, List.set_cons_succ, i64_w, i32_w]
    rfl
  refine pure_ (i := 38) (N := some 46) (v := ?_) (a' := ?_) (pre 50 39) rfl rfl (by kernel_rfl) (fun _ _ _ h => h) (Or.inl ⟨by rfl, ?_⟩) ?_ ?_
  rotate_left
  · intro w'
    go_simp
    with_reducible rfl
  rotate_left
  · simp only [Act.put, List.setIfInBounds_toArray, List.set_cons_zero, List.set_cons_succ, i64_w, i32_w]
    rfl
  refine pure_ (i := 39) (N := some 47) (v := ?_) (a' := ?_) (pre 50 40) rfl rfl (by kernel_rfl) (fun _ _ _ h => h) (Or.inl ⟨by rfl, ?_⟩) ?_ ?_
  rotate_left
  · intro w'
    go_simp
    with_reducible rfl
  rotate_left
  · simp only [Act.put, List.setIfInBounds_toArray, List.set_cons_zero, List.set_cons_succ, i64_w, i32_w]
    rfl
  refine pure_ (i := 40) (N := some 48) (v := ?_) (a' := ?_) (pre 50 41) rfl rfl (by kernel_rfl) (fun _ _ _ h => h) (Or.inl ⟨by rfl, ?_⟩) ?_ ?_
  rotate_left
  · intro w'
    go_simp
    with_reducible rfl
  rotate_left
  · simp only [Act.put, List.setIfInBounds_toArray, List.set_cons_zero, List.set_cons_succ, i64_w, i32_w]
    rfl
  refine pure_ (i := 41) (N := some 49) (v := ?_) (a' := ?_) (pre 50 42) rfl rfl (by kernel_rfl) (fun _ _ _ h => h) (Or.inl ⟨by rfl, ?_⟩) ?_ ?_
  rotate_left
  · intro w'
    go_simp
    with_reducible rfl
  rotate_left
  · simp only [Act.put, List.setIfInBounds_toArray, List.set_cons_zero, List.set_cons_succ, i64_w, i32_w]
    rfl
  refine pure_ (i := 42) (N := some 50) (v := ?_) (a' := ?_) (pre 50 43) rfl rfl (by kernel_rfl) (fun _ _ _ h => h) (Or.inl ⟨by rfl, ?_⟩) ?_ ?_
  rotate_left
  · intro w'
    go_simp
    with_reducible rfl
  rotate_left
  · simp only [Act.put, List.setIfInBounds_toArray, List.set_cons_zero, List.set_cons_succ, i64_w, i32_w]
    rfl
  refine pure_ (i := 44) (N := some 52) (v := ?_) (a' := ?_) #[true, true, true, true, true, true, true, true, true, true, true, true, true, true, true, true, true, true, true, true, true, true, true, true, true, true, true, true, true, true, true, true, true, true, true, true, true, true, true, true, true, true, true, false, true, false, false, false, false, false] rfl rfl (by kernel_rfl) (fun _ _ _ h => h) (Or.inl ⟨by rfl, ?_⟩) ?_ ?_
  rotate_left
  · intro w'
    go_simp
    with_reducible rfl
  rotate_left
  · simp only [Act.put, List.setIfInBounds_toArray, List.set_cons_zero, List.set_cons_succ, i64_w, i32_w]
    rfl
  refine take_ (i := 43) (N := some 51) (v := ?_) (a' := ?_) (pre 50 45) rfl rfl (by kernel_rfl) (fun _ _ _ h => h) (Or.inl ⟨by rfl, ?_⟩) hHeld ?_ ?_
  rotate_left
  · rintro w' ⟨s0, s1, s2, s3, s4, s5, s6⟩
    go_simp
    with_reducible rfl
  rotate_left
  · simp only [Act.put, List.setIfInBounds_toArray, List.set_cons_zero, List.set_cons_succ, i64_w, i32_w]
    rfl
  refine take_ (i := 45) (N := some 53) (v := ?_) (a' := ?_) (pre 50 46) rfl rfl (by kernel_rfl) (fun _ _ _ h => h) (Or.inl ⟨by rfl, ?_⟩) hHeld ?_ ?_
  rotate_left
  · rintro w' ⟨s0, s1, s2, s3, s4, s5, s6⟩
    go_simp
    with_reducible rfl
  rotate_left
  · simp only [Act.put, List.setIfInBounds_toArray, List.set_cons_zero, List.set_cons_succ, i64_w, i32_w]
    rfl
  refine one_ (i := 46) (N := some 54) (pre 50 47) rfl rfl (by kernel_rfl) (by decide) (fun K hK => ?_)
  refine goes_ Try.func25 (by kernel_rfl) rfl #[.bool fine] (by rfl) rfl rfl (by simp only [List.map_toArray, List.map_cons, List.map_nil]; rfl) ?_
  with_reducible refine (tnsbits_wide.calls fine (wideS fine) _ HW.out).mono ?_
  rintro e w3 ⟨rfl, ⟨nd, rfl⟩⟩
  refine ⟨_, rfl, ?_⟩
  refine hK.out _ _ ⟨hHeld.1, hHeld.2.1, hHeld.2.2.1, hHeld.2.2.2.1, hHeld.2.2.2.2.1, hHeld.2.2.2.2.2.1, hHeld.2.2.2.2.2.2⟩ (fun hHeld => ?_)
  clear hK K
  refine norm_ (a' := ?_) ?_ ?_
  rotate_left
  · show Act.put _ (some 54) _ = _
    simp only [Act.put, List.setIfInBounds_toArray, List.set_cons_zero, List.set_cons_succ, i64_w, i32_w]
    rfl
  refine one_ (i := 47) (N := some 55) (pre 50 48) rfl rfl (by kernel_rfl) (by decide) (fun K hK => ?_)
  refine goes_ Try.func26 (by kernel_rfl) rfl #[.slice AF co.length cF, .int .i64 (wideS fine)] (by rfl) rfl rfl (by simp only [List.map_toArray, List.map_cons, List.map_nil]; rfl) ?_
  with_reducible refine (fit_calls AF cF co (wideS fine) (by cases fine <;> decide) _ (Kd.C_below HR.out (by repeat (with_reducible first | exact HZ.out | apply below_drew1 | apply pw_below_drewN)))).mono ?_
  rintro e w4 ⟨rfl, hb⟩
  refine ⟨_, rfl, ?_⟩
  have HBX : Aside0 (Below w.heap.size w w4) := ⟨below_step (by repeat (with_reducible first | exact HZ.out | apply below_drew1 | apply pw_below_drewN)) hb⟩
  refine hK.out _ _ ⟨pw_cell_below hb hHeld.1, pw_cell_below hb hHeld.2.1, pw_cell_below hb hHeld.2.2.1, pw_cell_below hb hHeld.2.2.2.1, pw_cell_below hb hHeld.2.2.2.2.1, pw_cell_below hb hHeld.2.2.2.2.2.1, pw_cell_below hb hHeld.2.2.2.2.2.2⟩ (fun hHeld => ?_)
  clear hK K
  refine norm_ (a' := ?_) ?_ ?_
  rotate_left
  · show Act.put _ (some 55) _ = _
    simp only [Act.put, List.setIfInBounds_toArray, List.set_cons_zero, List.set_cons_succ, i64_w, i32_w]
    rfl
  refine pure_ (i := 48) (N := some 56) (v := ?_) (a' := ?_) (pre 50 49) rfl rfl (by kernel_rfl) (fun _ _ _ h => h) (Or.inl ⟨by rfl, ?_⟩) ?_ ?_
  rotate_left
  · intro w'
    go_simp
    with_reducible rfl
  rotate_left
  · simp only [Act.put, List.setIfInBounds_toArray, List.set_cons_zero, List.set_cons_succ, i64_w, i32_w]
    rfl
  refine pure_ (i := 49) (N := some 4) (v := ?_) (a' := ?_) (pre 50 50) rfl rfl (by kernel_rfl) (fun _ _ _ h => h) (Or.inl ⟨by rfl, ?_⟩) ?_ ?_
  rotate_left
  · intro w'
    go_simp
    with_reducible rfl
  rotate_left
  · simp only [Act.put, List.setIfInBounds_toArray, List.set_cons_zero, List.set_cons_succ, i64_w, i32_w]
    rfl
  refine done_ (by kernel_rfl) ?_
  go_wp2
  go_ret
  exact ⟨rfl, HBX.out⟩
end Go.Proofs.Ytdhcgfdnhlhapaa.HS
end
section
/- tnsbits.right: whether a filter may be. -/
namespace Go.Proofs.Ytdhcgfdnhlhapaa.HS
open Go.RowKit Go.Shelf Go.Proofs.YtdhcgfdnhlhapaaW.PrintWords Go.Proofs.Ytdhcgfdnhlhapaa.K
theorem right_calls (s sh m : Int) (A : Option Addr) (n c : Nat) (len order : Int) (down fine : Bool) (AF : Option Addr) (cF : Nat) (co : List Int) (w : World) (hc : Kd.C (Kd.int .i64) w AF co.length co) :
    Calls Try.prog 20 #[.agg #[.int .u8 s, .int .u8 sh, .int .i64 m, .slice A n c], .agg #[.int .i64 len, .int .i64 order, .bool down, .bool fine, .slice AF co.length cF]] w fun e w' => e = .returned (.bool (rightS s len order down fine co)) ∧ Below w.heap.size w w' := by
  by_cases hs : s = 2
  · subst hs
    exact right_short sh m A n c len order down fine AF cF co w hc
  · exact right_long s sh m hs A n c len order down fine AF cF co w hc
end Go.Proofs.Ytdhcgfdnhlhapaa.HS
end
section
/- slices.IndexFunc and slices.ContainsFunc over filters, with a predicate that may make memory. -/
namespace Go.Proofs.Ytdhcgfdnhlhapaa.HCF
open Go.RowKit Go.Shelf Go.Proofs.YtdhcgfdnhlhapaaW.PrintWords Go.Proofs.YtdhcgfdnhlhapaaW.PrintLast Go.Proofs.YtdhcgfdnhlhapaaW.PrintMore Go.Proofs.Ytdhcgfdnhlhapaa.K
set_option linter.unusedVariables false

/-- What a predicate owes: at each filter, in each world behind this one, it answers; what was there stays. -/
def PredF (g : Nat) (lb : Array Value) (p : S38 → Bool) (l : List S38) (w : World) : Prop :=
  ∀ f ∈ l, ∀ (A : Option Addr) (c : Nat) (W : World), Below w.heap.size w W → Kd.C (Kd.int .i64) W A f.f4.length f.f4 →
    Calls Try.prog g (#[.agg #[.int .i64 f.f0, .int .i64 f.f1, .bool f.f2, .bool f.f3, .slice A f.f4.length c]] ++ lb) W fun e w' => e = .returned (.bool (p f)) ∧ Below W.heap.size W w'
theorem any_take_succ {α : Type} (p : α → Bool) (l : List α) (k : Nat) (h : k < l.length) : (l.take (k + 1)).any p = ((l.take k).any p || p l[k]) := by
  rw [List.take_succ_eq_append_getElem h, List.any_append]
  simp
set_option maxHeartbeats 2000000 in
theorem index_calls (p : S38 → Bool) (g : Nat) (lb : Array Value) (eg : ∀ args w, (callFunc g args).run Try.prog w = .ok (.enter g args) w) (A : Option Addr) (c : Nat) (l : List S38) (w : World)
    (hp : PredF g lb p l w) (hc : Kd.C k38 w A l.length l) (hl : l.length ≤ 9223372036854775807) :
    Calls Try.prog 31 #[.slice A l.length c, .func (.func g) #[] lb] w fun e w' => ∃ r, e = .returned (.int .i64 r) ∧ decide (0 ≤ r) = l.any p ∧ Below w.heap.size w w' := by
  have HC := Aside0.mk hc
  have HL := Aside0.mk hl
  have HP := Aside0.mk hp
  have HB0 : Aside0 (Below w.heap.size w w) := ⟨Below.refl _ _⟩
  clear hp hc hl
  go_enter Try.func31, Try.ntmps31
  go_wp2
  go_loopg [5, 8] l.length (fun gg _ s8 wr => ∃ kk : Nat, kk ≤ l.length ∧ l.length - kk ≤ gg ∧ s8 = .int .i64 kk ∧ Aside0 (Below w.heap.size w wr) ∧ Aside0 ((l.take kk).any p = false))
  case atStart => exact ⟨0, Nat.zero_le _, by omega, rfl, HB0, ⟨by simp⟩⟩
  case round =>
    obtain ⟨kk, hkk, hg, rfl, HB, NO⟩ := hrel
    by_cases hlt : kk < l.length
    · have hltz : (kk : Int) < (l.length : Int) := by omega
      obtain ⟨ad, A4, c4, rfl, q0, q1, q2, q3, q4, hl4, hC4⟩ := at_T38 (Kd.C_below HC.out HB.out) (kk : Int) (by omega) hltz
      rw [Int.toNat_natCast] at q0 q1 q2 q3 q4
      have HR := Aside0.mk (show rd_T38 l (kk : Int) = l[kk] from by unfold rd_T38; rw [Int.toNat_natCast, List.getD_eq_getElem?_getD, List.getElem?_eq_getElem hlt, Option.getD_some])
      have hcall := HP.out (rd_T38 l (kk : Int)) (by rw [HR.out]; exact List.getElem_mem hlt) A4 c4 wr HB.out hC4
      generalize hy : rd_T38 l (kk : Int) = y at q0 q1 q2 q3 q4 hcall HR
      clear hy hC4 hl4
      cases hq : p y with
      | true =>
        rw [hq] at hcall
        have HQ := Aside0.mk hq
        have HCL := Aside0.mk hcall
        clear hq hcall
        go_wp2_with (go_at_fn g; refine HCL.out.mono ?_; rintro e w' ⟨rfl, hb⟩; have HB1 := Aside0.mk (below_step HB.out hb); clear hb)
        go_ret
        refine ⟨_, rfl, ?_, HB1.out⟩
        rw [decide_eq_true (by omega)]
        refine (List.any_eq_true.2 ⟨l[kk], List.getElem_mem hlt, ?_⟩).symm
        rw [← HR.out]
        exact HQ.out
      | false =>
        rw [hq] at hcall
        have HQ := Aside0.mk hq
        have HCL := Aside0.mk hcall
        clear hq hcall
        go_wp2_with (go_at_fn g; refine HCL.out.mono ?_; rintro e w' ⟨rfl, hb⟩; have HB1 := Aside0.mk (below_step HB.out hb); clear hb)
        go_roundg (l.length - (kk + 1))
        case measure => omega
        case rel =>
          refine ⟨kk + 1, by omega, by omega, by have := HL.out; congr 1; unfold wrap64; omega, HB1, ⟨?_⟩⟩
          rw [any_take_succ p l kk hlt, NO.out, ← HR.out, HQ.out]
          rfl
    · have hltz : ¬ (kk : Int) < (l.length : Int) := by omega
      obtain rfl : kk = l.length := by omega
      go_wp2
      go_ret
      refine ⟨_, rfl, ?_, HB.out⟩
      have := NO.out
      rw [List.take_length] at this
      rw [this]
      decide
set_option maxHeartbeats 1000000 in
theorem contains_calls (p : S38 → Bool) (g : Nat) (lb : Array Value) (eg : ∀ args w, (callFunc g args).run Try.prog w = .ok (.enter g args) w) (A : Option Addr) (c : Nat) (l : List S38) (w : World)
    (hp : PredF g lb p l w) (hc : Kd.C k38 w A l.length l) (hl : l.length ≤ 9223372036854775807) :
    Calls Try.prog 18 #[.slice A l.length c, .func (.func g) #[] lb] w fun e w' => e = .returned (.bool (l.any p)) ∧ Below w.heap.size w w' := by
  have H := index_calls p g lb eg A c l w hp hc hl
  obtain ⟨b, hb⟩ : ∃ b, b = l.any p := ⟨_, rfl⟩
  rw [← hb] at H ⊢
  have HH := Aside0.mk H
  clear hp hc hl hb H
  go_enter Try.func18, Try.ntmps18
  go_wp2_with (go_at_call 31; refine HH.out.mono ?_; rintro e w' ⟨r, rfl, hb, hB⟩; have HB1 := Aside0.mk hB; clear hB)
  go_ret
  exact ⟨rfl, HB1.out⟩
end Go.Proofs.Ytdhcgfdnhlhapaa.HCF
end
section
/- tnsbits.Check's predicate: whether a filter may not be, or is not as fine as the first. -/
namespace Go.Proofs.Ytdhcgfdnhlhapaa.HS
open Go.RowKit Go.Shelf Go.Proofs.YtdhcgfdnhlhapaaW.PrintWords Go.Proofs.YtdhcgfdnhlhapaaW.PrintLast Go.Proofs.YtdhcgfdnhlhapaaW.PrintMore Go.Proofs.Ytdhcgfdnhlhapaa.K
set_option linter.unusedVariables false
set_option linter.unusedSimpArgs false
set_option maxHeartbeats 4000000 in
set_option maxRecDepth 100000 in
theorem odd1_in (s sh m : Int) (A : Option Addr) (n c : Nat) (f : Filt) (AF : Option Addr) (cF : Nat) (gi gw : Nat) (ad : Addr) (wl : List Filt) (cw : Nat) (first : Bool) (w : World) (hr : filtRight s f = true) (hwl : 0 < wl.length)
    (hc : Kd.C (Kd.int .i64) w AF f.f4.length f.f4) (hi : w.heap[gi]? = some (.cells #[.int .u8 s, .int .u8 sh, .int .i64 m, .slice A n c] 24 (0, 0))) (hw : w.heap[gw]? = some (.cells #[.slice (some ad) wl.length cw] 35 (0, 0))) (he : w.cell? ⟨ad.block, ad.off + 3, none⟩ = some (.bool first)) :
    Calls Try.prog 19 #[.agg #[.int .i64 f.f0, .int .i64 f.f1, .bool f.f2, .bool f.f3, .slice AF f.f4.length cF], .pointer (some ⟨gi, 0, none⟩), .pointer (some ⟨gw, 0, none⟩)] w fun e w' => e = .returned (.bool (odd1 s first f)) ∧ Below w.heap.size w w' := by
  have hwi : (0 : Int) < (wl.length : Int) := by omega
  have hwl1 : 1 ≤ wl.length := hwl
  have HRC : Aside0 (∀ W, Kd.C (Kd.int .i64) W AF f.f4.length f.f4 → Calls Try.prog 20 #[.agg #[.int .u8 s, .int .u8 sh, .int .i64 m, .slice A n c], .agg #[.int .i64 f.f0, .int .i64 f.f1, .bool f.f2, .bool f.f3, .slice AF f.f4.length cF]] W fun e w' => e = .returned (.bool true) ∧ Below W.heap.size W w') := ⟨fun W h => by have := right_calls s sh m A n c f.f0 f.f1 f.f2 f.f3 AF cF f.f4 W h; rw [show rightS s f.f0 f.f1 f.f2 f.f3 f.f4 = true from hr] at this; exact this⟩
  have HC := Aside0.mk hc
  have HI := Aside0.mk hi
  have HWB := Aside0.mk hw
  have HE := Aside0.mk he
  have HV : Aside0 (odd1 s first f = (f.f3 != first)) := ⟨by unfold odd1; rw [hr]; rfl⟩
  rw [HV.out]
  clear hr hc hi hw he HV
  go_enter Try.func19, Try.ntmps19
  have HB : Aside0 (Below w.heap.size w w) := ⟨Below.refl _ _⟩
  go_wp2_with (first | ((with_reducible refine gate_dst (N := 3) rfl ?_); refine box_event ?hg (N := 3) ?hd (cs := #[.int .i64 f.f0, .int .i64 f.f1, .bool f.f2, .bool f.f3, .slice AF f.f4.length cF]) (t := 38) ?hr ?_; (case hd => rfl); (case hg => rfl); (case hr => first | (go_simp; done) | (go_simp; rfl)); intro gf hg wx1 hbox hb; have HG_gf : Aside0 (w.heap.size ≤ gf) := ⟨by rw [hg]; exact HB.out.size⟩; have BK_gf := Aside0.mk hbox; replace HB := Aside0.mk (below_step HB.out hb); clear hg hbox hb; have hq_gf_0 : wx1.cell? ⟨gf, 0, none⟩ = some (.int .i64 f.f0) := (blk_cell BK_gf.out 0).trans rfl; have hf_gf_0 : wx1.frozen? ⟨gf, 0, none⟩ = false := blk_frozen BK_gf.out 0; have hq_gf_1 : wx1.cell? ⟨gf, 1, none⟩ = some (.int .i64 f.f1) := (blk_cell BK_gf.out 1).trans rfl; have hf_gf_1 : wx1.frozen? ⟨gf, 1, none⟩ = false := blk_frozen BK_gf.out 1; have hq_gf_2 : wx1.cell? ⟨gf, 2, none⟩ = some (.bool f.f2) := (blk_cell BK_gf.out 2).trans rfl; have hf_gf_2 : wx1.frozen? ⟨gf, 2, none⟩ = false := blk_frozen BK_gf.out 2; have hq_gf_3 : wx1.cell? ⟨gf, 3, none⟩ = some (.bool f.f3) := (blk_cell BK_gf.out 3).trans rfl; have hf_gf_3 : wx1.frozen? ⟨gf, 3, none⟩ = false := blk_frozen BK_gf.out 3; have hq_gf_4 : wx1.cell? ⟨gf, 4, none⟩ = some (.slice AF f.f4.length cF) := (blk_cell BK_gf.out 4).trans rfl; have hf_gf_4 : wx1.frozen? ⟨gf, 4, none⟩ = false := blk_frozen BK_gf.out 4))
  have HZ := HB
  have hb1 := HB.out
  have qi0 : wx1.cell? ⟨gi, 0, none⟩ = some (.int .u8 s) := (hb1.cell (p := ⟨gi, 0, none⟩) (blk_lt HI.out)).trans ((blk_cell HI.out 0).trans rfl)
  have qi1 : wx1.cell? ⟨gi, 1, none⟩ = some (.int .u8 sh) := (hb1.cell (p := ⟨gi, 1, none⟩) (blk_lt HI.out)).trans ((blk_cell HI.out 1).trans rfl)
  have qi2 : wx1.cell? ⟨gi, 2, none⟩ = some (.int .i64 m) := (hb1.cell (p := ⟨gi, 2, none⟩) (blk_lt HI.out)).trans ((blk_cell HI.out 2).trans rfl)
  have qi3 : wx1.cell? ⟨gi, 3, none⟩ = some (.slice A n c) := (hb1.cell (p := ⟨gi, 3, none⟩) (blk_lt HI.out)).trans ((blk_cell HI.out 3).trans rfl)
  have qf0 := hq_gf_0
  have qf1 := hq_gf_1
  have qf2 := hq_gf_2
  have qf3 := hq_gf_3
  have qf4 := hq_gf_4
  have qw0 : wx1.cell? ⟨gw, 0, none⟩ = some (.slice (some ad) wl.length cw) := (hb1.cell (p := ⟨gw, 0, none⟩) (blk_lt HWB.out)).trans ((blk_cell HWB.out 0).trans rfl)
  have qe3 : wx1.cell? ⟨ad.block, ad.off + 3, none⟩ = some (.bool first) := pw_cell_below hb1 HE.out
  clear hb1 hq_gf_0 hf_gf_0 hq_gf_1 hf_gf_1 hq_gf_2 hf_gf_2 hq_gf_3 hf_gf_3 hq_gf_4 hf_gf_4
  refine start_ (n := 14) (S := fun w' => w'.cell? ⟨gi, 0, none⟩ = some (.int .u8 s) ∧ w'.cell? ⟨gi, 1, none⟩ = some (.int .u8 sh) ∧ w'.cell? ⟨gi, 2, none⟩ = some (.int .i64 m) ∧ w'.cell? ⟨gi, 3, none⟩ = some (.slice A n c) ∧ w'.cell? ⟨gf, 0, none⟩ = some (.int .i64 f.f0) ∧ w'.cell? ⟨gf, 1, none⟩ = some (.int .i64 f.f1) ∧ w'.cell? ⟨gf, 2, none⟩ = some (.bool f.f2) ∧ w'.cell? ⟨gf, 3, none⟩ = some (.bool f.f3) ∧ w'.cell? ⟨gf, 4, none⟩ = some (.slice AF f.f4.length cF) ∧ w'.cell? ⟨gw, 0, none⟩ = some (.slice (some ad) wl.length cw) ∧ w'.cell? ⟨ad.block, ad.off + 3, none⟩ = some (.bool first)) (ds := []) #[false, false, false, false, false, false, false, false, false, false, false, false, false, false] (by kernel_rfl) rfl rfl ⟨qi0, qi1, qi2, qi3, qf0, qf1, qf2, qf3, qf4, qw0, qe3⟩ (fun hHeld => ?_)
  refine take_ (i := 0) (N := some 5) (v := ?_) (a' := ?_) #[true, false, false, false, false, false, false, false, false, false, false, false, false, false] rfl rfl (by kernel_rfl) (fun _ _ _ h => h) (Or.inl ⟨by rfl, ?_⟩) hHeld ?_ ?_
  rotate_left
  · rintro w' ⟨s0, s1, s2, s3, s4, s5, s6, s7, s8, s9, s10⟩
    go_simp
    with_reducible rfl
  rotate_left
  · simp only [Act.put, List.setIfInBounds_toArray, List.set_cons_zero, List.set_cons_succ, i64_w, i32_w]
    rfl
  refine take_ (i := 1) (N := some 6) (v := ?_) (a' := ?_) #[true, true, false, false, false, false, false, false, false, false, false, false, false, false] rfl rfl (by kernel_rfl) (fun _ _ _ h => h) (Or.inl ⟨by rfl, ?_⟩) hHeld ?_ ?_
  rotate_left
  · rintro w' ⟨s0, s1, s2, s3, s4, s5, s6, s7, s8, s9, s10⟩
    go_simp
    with_reducible rfl
  rotate_left
  · simp only [Act.put, List.setIfInBounds_toArray, List.set_cons_zero, List.set_cons_succ, i64_w, i32_w]
    rfl
  refine one_ (i := 2) (N := some 7) #[true, true, true, false, false, false, false, false, false, false, false, false, false, false] rfl rfl (by kernel_rfl) (by decide) (fun K hK => ?_)
  refine goes_ Try.func20 (by kernel_rfl) rfl #[.agg #[.int .u8 s, .int .u8 sh, .int .i64 m, .slice A n c], .agg #[.int .i64 f.f0, .int .i64 f.f1, .bool f.f2, .bool f.f3, .slice AF f.f4.length cF]] (by rfl) rfl rfl (by simp only [List.map_toArray, List.map_cons, List.map_nil]; rfl) ?_
  with_reducible refine (HRC.out _ (Kd.C_below HC.out (by repeat (with_reducible first | exact HZ.out | apply below_drew1 | apply pw_below_drewN)))).mono ?_
  rintro e w3 ⟨rfl, hb⟩
  refine ⟨_, rfl, ?_⟩
  have HBX : Aside0 (Below w.heap.size w w3) := ⟨below_step (by repeat (with_reducible first | exact HZ.out | apply below_drew1 | apply pw_below_drewN)) hb⟩
  refine hK.out _ _ ⟨pw_cell_below hb hHeld.1, pw_cell_below hb hHeld.2.1, pw_cell_below hb hHeld.2.2.1, pw_cell_below hb hHeld.2.2.2.1, pw_cell_below hb hHeld.2.2.2.2.1, pw_cell_below hb hHeld.2.2.2.2.2.1, pw_cell_below hb hHeld.2.2.2.2.2.2.1, pw_cell_below hb hHeld.2.2.2.2.2.2.2.1, pw_cell_below hb hHeld.2.2.2.2.2.2.2.2.1, pw_cell_below hb hHeld.2.2.2.2.2.2.2.2.2.1, pw_cell_below hb hHeld.2.2.2.2.2.2.2.2.2.2⟩ (fun hHeld => ?_)
  clear hK K
  refine norm_ (a' := ?_) ?_ ?_
  rotate_left
  · show Act.put _ (some 7) _ = _
    simp only [Act.put, List.setIfInBounds_toArray, List.set_cons_zero, List.set_cons_succ, i64_w, i32_w]
    rfl
  refine pure_ (i := 3) (N := some 8) (v := ?_) (a' := ?_) #[true, true, true, true, false, false, false, false, false, false, false, false, false, false] rfl rfl (by kernel_rfl) (fun _ _ _ h => h) (Or.inl ⟨by rfl, ?_⟩) ?_ ?_
  rotate_left
  · intro w'
    go_simp
    with_reducible rfl
  rotate_left
  · simp only [Act.put, List.setIfInBounds_toArray, List.set_cons_zero, List.set_cons_succ, i64_w, i32_w]
    rfl
  refine pure_ (i := 4) (N := some 9) (v := ?_) (a' := ?_) #[true, true, true, true, true, false, false, false, false, false, false, false, false, false] rfl rfl (by kernel_rfl) (fun _ _ _ h => h) (Or.inl ⟨by rfl, ?_⟩) ?_ ?_
  rotate_left
  · intro w'
    go_simp
    with_reducible rfl
  rotate_left
  · simp only [Act.put, List.setIfInBounds_toArray, List.set_cons_zero, List.set_cons_succ, i64_w, i32_w]
    rfl
  refine pure_ (i := 5) (N := some 10) (v := ?_) (a' := ?_) #[true, true, true, true, true, true, false, false, false, false, false, false, false, false] rfl rfl (by kernel_rfl) (fun _ _ _ h => h) (Or.inl ⟨by rfl, ?_⟩) ?_ ?_
  rotate_left
  · intro w'
    go_simp
    with_reducible rfl
  rotate_left
  · simp only [Act.put, List.setIfInBounds_toArray, List.set_cons_zero, List.set_cons_succ, i64_w, i32_w]
    rfl
  refine take_ (i := 6) (N := some 11) (v := ?_) (a' := ?_) #[true, true, true, true, true, true, true, false, false, false, false, false, false, false] rfl rfl (by kernel_rfl) (fun _ _ _ h => h) (Or.inl ⟨by rfl, ?_⟩) hHeld ?_ ?_
  rotate_left
  · rintro w' ⟨s0, s1, s2, s3, s4, s5, s6, s7, s8, s9, s10⟩
    go_simp
    with_reducible rfl
  rotate_left
  · simp only [Act.put, List.setIfInBounds_toArray, List.set_cons_zero, List.set_cons_succ, i64_w, i32_w]
    rfl
  refine take_ (i := 7) (N := some 12) (v := ?_) (a' := ?_) #[true, true, true, true, true, true, true, true, false, false, false, false, false, false] rfl rfl (by kernel_rfl) (fun _ _ _ h => h) (Or.inl ⟨by rfl, ?_⟩) hHeld ?_ ?_
  rotate_left
  · rintro w' ⟨s0, s1, s2, s3, s4, s5, s6, s7, s8, s9, s10⟩
    go_simp
    with_reducible rfl
  rotate_left
  · simp only [Act.put, List.setIfInBounds_toArray, List.set_cons_zero, List.set_cons_succ, i64_w, i32_w]
    rfl
  refine pure_ (i := 8) (N := some 13) (v := ?_) (a' := ?_) #[true, true, true, true, true, true, true, true, true, false, false, false, false, false] rfl rfl (by kernel_rfl) (fun _ _ _ h => h) (Or.inl ⟨by rfl, ?_⟩) ?_ ?_
  rotate_left
  · intro w'
    go_simp
    with_reducible rfl
  rotate_left
  · simp only [Act.put, List.setIfInBounds_toArray, List.set_cons_zero, List.set_cons_succ, i64_w, i32_w]
    rfl
  refine pure_ (i := 9) (N := some 14) (v := ?_) (a' := ?_) #[true, true, true, true, true, true, true, true, true, true, false, false, false, false] rfl rfl (by kernel_rfl) (fun _ _ _ h => h) (Or.inl ⟨by rfl, ?_⟩) ?_ ?_
  rotate_left
  · intro w'
    go_simp
    with_reducible rfl
  rotate_left
  · simp only [Act.put, List.setIfInBounds_toArray, List.set_cons_zero, List.set_cons_succ, i64_w, i32_w]
    rfl
  refine take_ (i := 10) (N := some 15) (v := ?_) (a' := ?_) #[true, true, true, true, true, true, true, true, true, true, true, false, false, false] rfl rfl (by kernel_rfl) (fun _ _ _ h => h) (Or.inl ⟨by rfl, ?_⟩) hHeld ?_ ?_
  rotate_left
  · rintro w' ⟨s0, s1, s2, s3, s4, s5, s6, s7, s8, s9, s10⟩
    go_simp
    with_reducible rfl
  rotate_left
  · simp only [Act.put, List.setIfInBounds_toArray, List.set_cons_zero, List.set_cons_succ, i64_w, i32_w]
    rfl
  refine pure_ (i := 11) (N := some 16) (v := ?_) (a' := ?_) #[true, true, true, true, true, true, true, true, true, true, true, true, false, false] rfl rfl (by kernel_rfl) (fun _ _ _ h => h) (Or.inl ⟨by rfl, ?_⟩) ?_ ?_
  rotate_left
  · intro w'
    go_simp
    with_reducible rfl
  rotate_left
  · simp only [Act.put, List.setIfInBounds_toArray, List.set_cons_zero, List.set_cons_succ, i64_w, i32_w]
    rfl
  refine pure_ (i := 12) (N := some 17) (v := ?_) (a' := ?_) #[true, true, true, true, true, true, true, true, true, true, true, true, true, false] rfl rfl (by kernel_rfl) (fun _ _ _ h => h) (Or.inl ⟨by rfl, ?_⟩) ?_ ?_
  rotate_left
  · intro w'
    go_simp
    with_reducible rfl
  rotate_left
  · simp only [Act.put, List.setIfInBounds_toArray, List.set_cons_zero, List.set_cons_succ, i64_w, i32_w]
    rfl
  refine pure_ (i := 13) (N := some 4) (v := ?_) (a' := ?_) #[true, true, true, true, true, true, true, true, true, true, true, true, true, true] rfl rfl (by kernel_rfl) (fun _ _ _ h => h) (Or.inl ⟨by rfl, ?_⟩) ?_ ?_
  rotate_left
  · intro w'
    go_simp
    with_reducible rfl
  rotate_left
  · simp only [Act.put, List.setIfInBounds_toArray, List.set_cons_zero, List.set_cons_succ, i64_w, i32_w]
    rfl
  refine done_ (by kernel_rfl) ?_
  go_wp2
  go_ret
  exact ⟨rfl, by repeat (with_reducible first | exact HBX.out | apply below_drew1 | apply pw_below_drewN)⟩
set_option maxHeartbeats 4000000 in
set_option maxRecDepth 100000 in
theorem odd1_out (s sh m : Int) (A : Option Addr) (n c : Nat) (f : Filt) (AF : Option Addr) (cF : Nat) (gi gw : Nat) (ad : Addr) (wl : List Filt) (cw : Nat) (first : Bool) (w : World) (hr : filtRight s f = false) (hwl : 0 < wl.length)
    (hc : Kd.C (Kd.int .i64) w AF f.f4.length f.f4) (hi : w.heap[gi]? = some (.cells #[.int .u8 s, .int .u8 sh, .int .i64 m, .slice A n c] 24 (0, 0))) (hw : w.heap[gw]? = some (.cells #[.slice (some ad) wl.length cw] 35 (0, 0))) (he : w.cell? ⟨ad.block, ad.off + 3, none⟩ = some (.bool first)) :
    Calls Try.prog 19 #[.agg #[.int .i64 f.f0, .int .i64 f.f1, .bool f.f2, .bool f.f3, .slice AF f.f4.length cF], .pointer (some ⟨gi, 0, none⟩), .pointer (some ⟨gw, 0, none⟩)] w fun e w' => e = .returned (.bool (odd1 s first f)) ∧ Below w.heap.size w w' := by
  have hwi : (0 : Int) < (wl.length : Int) := by omega
  have hwl1 : 1 ≤ wl.length := hwl
  have HRC : Aside0 (∀ W, Kd.C (Kd.int .i64) W AF f.f4.length f.f4 → Calls Try.prog 20 #[.agg #[.int .u8 s, .int .u8 sh, .int .i64 m, .slice A n c], .agg #[.int .i64 f.f0, .int .i64 f.f1, .bool f.f2, .bool f.f3, .slice AF f.f4.length cF]] W fun e w' => e = .returned (.bool false) ∧ Below W.heap.size W w') := ⟨fun W h => by have := right_calls s sh m A n c f.f0 f.f1 f.f2 f.f3 AF cF f.f4 W h; rw [show rightS s f.f0 f.f1 f.f2 f.f3 f.f4 = false from hr] at this; exact this⟩
  have HC := Aside0.mk hc
  have HI := Aside0.mk hi
  have HWB := Aside0.mk hw
  have HE := Aside0.mk he
  have HV : Aside0 (odd1 s first f = true) := ⟨by unfold odd1; rw [hr]; rfl⟩
  rw [HV.out]
  clear hr hc hi hw he HV
  go_enter Try.func19, Try.ntmps19
  have HB : Aside0 (Below w.heap.size w w) := ⟨Below.refl _ _⟩
  go_wp2_with (first | ((with_reducible refine gate_dst (N := 3) rfl ?_); refine box_event ?hg (N := 3) ?hd (cs := #[.int .i64 f.f0, .int .i64 f.f1, .bool f.f2, .bool f.f3, .slice AF f.f4.length cF]) (t := 38) ?hr ?_; (case hd => rfl); (case hg => rfl); (case hr => first | (go_simp; done) | (go_simp; rfl)); intro gf hg wx1 hbox hb; have HG_gf : Aside0 (w.heap.size ≤ gf) := ⟨by rw [hg]; exact HB.out.size⟩; have BK_gf := Aside0.mk hbox; replace HB := Aside0.mk (below_step HB.out hb); clear hg hbox hb; have hq_gf_0 : wx1.cell? ⟨gf, 0, none⟩ = some (.int .i64 f.f0) := (blk_cell BK_gf.out 0).trans rfl; have hf_gf_0 : wx1.frozen? ⟨gf, 0, none⟩ = false := blk_frozen BK_gf.out 0; have hq_gf_1 : wx1.cell? ⟨gf, 1, none⟩ = some (.int .i64 f.f1) := (blk_cell BK_gf.out 1).trans rfl; have hf_gf_1 : wx1.frozen? ⟨gf, 1, none⟩ = false := blk_frozen BK_gf.out 1; have hq_gf_2 : wx1.cell? ⟨gf, 2, none⟩ = some (.bool f.f2) := (blk_cell BK_gf.out 2).trans rfl; have hf_gf_2 : wx1.frozen? ⟨gf, 2, none⟩ = false := blk_frozen BK_gf.out 2; have hq_gf_3 : wx1.cell? ⟨gf, 3, none⟩ = some (.bool f.f3) := (blk_cell BK_gf.out 3).trans rfl; have hf_gf_3 : wx1.frozen? ⟨gf, 3, none⟩ = false := blk_frozen BK_gf.out 3; have hq_gf_4 : wx1.cell? ⟨gf, 4, none⟩ = some (.slice AF f.f4.length cF) := (blk_cell BK_gf.out 4).trans rfl; have hf_gf_4 : wx1.frozen? ⟨gf, 4, none⟩ = false := blk_frozen BK_gf.out 4))
  have HZ := HB
  have hb1 := HB.out
  have qi0 : wx1.cell? ⟨gi, 0, none⟩ = some (.int .u8 s) := (hb1.cell (p := ⟨gi, 0, none⟩) (blk_lt HI.out)).trans ((blk_cell HI.out 0).trans rfl)
  have qi1 : wx1.cell? ⟨gi, 1, none⟩ = some (.int .u8 sh) := (hb1.cell (p := ⟨gi, 1, none⟩) (blk_lt HI.out)).trans ((blk_cell HI.out 1).trans rfl)
  have qi2 : wx1.cell? ⟨gi, 2, none⟩ = some (.int .i64 m) := (hb1.cell (p := ⟨gi, 2, none⟩) (blk_lt HI.out)).trans ((blk_cell HI.out 2).trans rfl)
  have qi3 : wx1.cell? ⟨gi, 3, none⟩ = some (.slice A n c) := (hb1.cell (p := ⟨gi, 3, none⟩) (blk_lt HI.out)).trans ((blk_cell HI.out 3).trans rfl)
  have qf0 := hq_gf_0
  have qf1 := hq_gf_1
  have qf2 := hq_gf_2
  have qf3 := hq_gf_3
  have qf4 := hq_gf_4
  have qw0 : wx1.cell? ⟨gw, 0, none⟩ = some (.slice (some ad) wl.length cw) := (hb1.cell (p := ⟨gw, 0, none⟩) (blk_lt HWB.out)).trans ((blk_cell HWB.out 0).trans rfl)
  have qe3 : wx1.cell? ⟨ad.block, ad.off + 3, none⟩ = some (.bool first) := pw_cell_below hb1 HE.out
  clear hb1 hq_gf_0 hf_gf_0 hq_gf_1 hf_gf_1 hq_gf_2 hf_gf_2 hq_gf_3 hf_gf_3 hq_gf_4 hf_gf_4
  refine start_ (n := 14) (S := fun w' => w'.cell? ⟨gi, 0, none⟩ = some (.int .u8 s) ∧ w'.cell? ⟨gi, 1, none⟩ = some (.int .u8 sh) ∧ w'.cell? ⟨gi, 2, none⟩ = some (.int .i64 m) ∧ w'.cell? ⟨gi, 3, none⟩ = some (.slice A n c) ∧ w'.cell? ⟨gf, 0, none⟩ = some (.int .i64 f.f0) ∧ w'.cell? ⟨gf, 1, none⟩ = some (.int .i64 f.f1) ∧ w'.cell? ⟨gf, 2, none⟩ = some (.bool f.f2) ∧ w'.cell? ⟨gf, 3, none⟩ = some (.bool f.f3) ∧ w'.cell? ⟨gf, 4, none⟩ = some (.slice AF f.f4.length cF) ∧ w'.cell? ⟨gw, 0, none⟩ = some (.slice (some ad) wl.length cw) ∧ w'.cell? ⟨ad.block, ad.off + 3, none⟩ = some (.bool first)) (ds := []) #[false, false, false, false, false, false, false, false, false, false, false, false, false, false] (by kernel_rfl) rfl rfl ⟨qi0, qi1, qi2, qi3, qf0, qf1, qf2, qf3, qf4, qw0, qe3⟩ (fun hHeld => ?_)
  refine take_ (i := 0) (N := some 5) (v := ?_) (a' := ?_) #[true, false, false, false, false, false, false, false, false, false, false, false, false, false] rfl rfl (by kernel_rfl) (fun _ _ _ h => h) (Or.inl ⟨by rfl, ?_⟩) hHeld ?_ ?_
  rotate_left
  · rintro w' ⟨s0, s1, s2, s3, s4, s5, s6, s7, s8, s9, s10⟩
    go_simp
    with_reducible rfl
  rotate_left
  · simp only [Act.put, List.setIfInBounds_toArray, List.set_cons_zero, List.set_cons_succ, i64_w, i32_w]
    rfl
  refine take_ (i := 1) (N := some 6) (v := ?_) (a' := ?_) #[true, true, false, false, false, false, false, false, false, false, false, false, false, false] rfl rfl (by kernel_rfl) (fun _ _ _ h => h) (Or.inl ⟨by rfl, ?_⟩) hHeld ?_ ?_
  rotate_left
  · rintro w' ⟨s0, s1, s2, s3, s4, s5, s6, s7, s8, s9, s10⟩
    go_simp
    with_reducible rfl
  rotate_left
  · simp only [Act.put, List.setIfInBounds_toArray, List.set_cons_zero, List.set_cons_succ, i64_w, i32_w]
    rfl
  refine one_ (i := 2) (N := some 7) #[true, true, true, false, false, false, false, false, false, false, false, false, false, false] rfl rfl (by kernel_rfl) (by decide) (fun K hK => ?_)
  refine goes_ Try.func20 (by kernel_rfl) rfl #[.agg #[.int .u8 s, .int .u8 sh, .int .i64 m, .slice A n c], .agg #[.int .i64 f.f0, .int .i64 f.f1, .bool f.f2, .bool f.f3, .slice AF f.f4.length cF]] (by rfl) rfl rfl (by simp only [List.map_toArray, List.map_cons, List.map_nil]; rfl) ?_
  with_reducible refine (HRC.out _ (Kd.C_below HC.out (by repeat (with_reducible first | exact HZ.out | apply below_drew1 | apply pw_below_drewN)))).mono ?_
  rintro e w3 ⟨rfl, hb⟩
  refine ⟨_, rfl, ?_⟩
  have HBX : Aside0 (Below w.heap.size w w3) := ⟨below_step (by repeat (with_reducible first | exact HZ.out | apply below_drew1 | apply pw_below_drewN)) hb⟩
  refine hK.out _ _ ⟨pw_cell_below hb hHeld.1, pw_cell_below hb hHeld.2.1, pw_cell_below hb hHeld.2.2.1, pw_cell_below hb hHeld.2.2.2.1, pw_cell_below hb hHeld.2.2.2.2.1, pw_cell_below hb hHeld.2.2.2.2.2.1, pw_cell_below hb hHeld.2.2.2.2.2.2.1, pw_cell_below hb hHeld.2.2.2.2.2.2.2.1, pw_cell_below hb hHeld.2.2.2.2.2.2.2.2.1, pw_cell_below hb hHeld.2.2.2.2.2.2.2.2.2.1, pw_cell_below hb hHeld.2.2.2.2.2.2.2.2.2.2⟩ (fun hHeld => ?_)
  clear hK K
  refine norm_ (a' := ?_) ?_ ?_
  rotate_left
  · show Act.put _ (some 7) _ = _
    simp only [Act.put, List.setIfInBounds_toArray, List.set_cons_zero, List.set_cons_succ, i64_w, i32_w]
    rfl
  refine pure_ (i := 3) (N := some 8) (v := ?_) (a' := ?_) #[true, true, true, true, false, false, false, false, false, false, false, false, false, false] rfl rfl (by kernel_rfl) (fun _ _ _ h => h) (Or.inl ⟨by rfl, ?_⟩) ?_ ?_
  rotate_left
  · intro w'
    go_simp
    with_reducible rfl
  rotate_left
  · simp only [Act.put, List.setIfInBounds_toArray, List.set_cons_zero, List.set_cons_succ, i64_w, i32_w]
    rfl
  refine pure_ (i := 4) (N := some 9) (v := ?_) (a' := ?_) #[true, true, true, true, true, false, false, false, false, false, false, false, false, false] rfl rfl (by kernel_rfl) (fun _ _ _ h => h) (Or.inl ⟨by rfl, ?_⟩) ?_ ?_
  rotate_left
  · intro w'
    go_simp
    with_reducible rfl
  rotate_left
  · simp only [Act.put, List.setIfInBounds_toArray, List.set_cons_zero, List.set_cons_succ, i64_w, i32_w]
    rfl
  refine pure_ (i := 5) (N := some 10) (v := undef) (a' := ?_) #[true, true, true, true, true, true, false, false, false, false, false, false, false, false] rfl rfl (by kernel_rfl) (fun _ _ _ h => h) (Or.inr ⟨by rfl, rfl⟩) ?_ ?_
  rotate_left
  · simp only [Act.put, List.setIfInBounds_toArray, List.set_cons_zero, List.set_cons_succ, i64_w, i32_w]
    rfl
  refine pure_ (i := 6) (N := some 11) (v := undef) (a' := ?_) #[true, true, true, true, true, true, true, false, false, false, false, false, false, false] rfl rfl (by kernel_rfl) (fun _ _ _ h => h) (Or.inr ⟨by rfl, rfl⟩) ?_ ?_
  rotate_left
  · simp only [Act.put, List.setIfInBounds_toArray, List.set_cons_zero, List.set_cons_succ, i64_w, i32_w]
    rfl
  refine pure_ (i := 7) (N := some 12) (v := undef) (a' := ?_) #[true, true, true, true, true, true, true, true, false, false, false, false, false, false] rfl rfl (by kernel_rfl) (fun _ _ _ h => h) (Or.inr ⟨by rfl, rfl⟩) ?_ ?_
  rotate_left
  · simp only [Act.put, List.setIfInBounds_toArray, List.set_cons_zero, List.set_cons_succ, i64_w, i32_w]
    rfl
  refine pure_ (i := 8) (N := some 13) (v := undef) (a' := ?_) #[true, true, true, true, true, true, true, true, true, false, false, false, false, false] rfl rfl (by kernel_rfl) (fun _ _ _ h => h) (Or.inr ⟨by rfl, rfl⟩) ?_ ?_
  rotate_left
  · simp only [Act.put, List.setIfInBounds_toArray, List.set_cons_zero, List.set_cons_succ, i64_w, i32_w]
    rfl
  refine pure_ (i := 9) (N := some 14) (v := undef) (a' := ?_) #[true, true, true, true, true, true, true, true, true, true, false, false, false, false] rfl rfl (by kernel_rfl) (fun _ _ _ h => h) (Or.inr ⟨by rfl, rfl⟩) ?_ ?_
  rotate_left
  · simp only [Act.put, List.setIfInBounds_toArray, List.set_cons_zero, List.set_cons_succ, i64_w, i32_w]
    rfl
  refine pure_ (i := 10) (N := some 15) (v := undef) (a' := ?_) #[true, true, true, true, true, true, true, true, true, true, true, false, false, false] rfl rfl (by kernel_rfl) (fun _ _ _ h => h) (Or.inr ⟨by rfl, rfl⟩) ?_ ?_
  rotate_left
  · simp only [Act.put, List.setIfInBounds_toArray, List.set_cons_zero, List.set_cons_succ, i64_w, i32_w]
    rfl
  refine pure_ (i := 11) (N := some 16) (v := undef) (a' := ?_) #[true, true, true, true, true, true, true, true, true, true, true, true, false, false] rfl rfl (by kernel_rfl) (fun _ _ _ h => h) (Or.inr ⟨by rfl, rfl⟩) ?_ ?_
  rotate_left
  · simp only [Act.put, List.setIfInBounds_toArray, List.set_cons_zero, List.set_cons_succ, i64_w, i32_w]
    rfl
  refine pure_ (i := 12) (N := some 17) (v := ?_) (a' := ?_) #[true, true, true, true, true, true, true, true, true, true, true, true, true, false] rfl rfl (by kernel_rfl) (fun _ _ _ h => h) (Or.inl ⟨by rfl, ?_⟩) ?_ ?_
  rotate_left
  · intro w'
    go_simp
    with_reducible rfl
  rotate_left
  · simp only [Act.put, List.setIfInBounds_toArray, List.set_cons_zero, List.set_cons_succ, i64_w, i32_w]
    rfl
  refine pure_ (i := 13) (N := some 4) (v := ?_) (a' := ?_) #[true, true, true, true, true, true, true, true, true, true, true, true, true, true] rfl rfl (by kernel_rfl) (fun _ _ _ h => h) (Or.inl ⟨by rfl, ?_⟩) ?_ ?_
  rotate_left
  · intro w'
    go_simp
    with_reducible rfl
  rotate_left
  · simp only [Act.put, List.setIfInBounds_toArray, List.set_cons_zero, List.set_cons_succ, i64_w, i32_w]
    rfl
  refine done_ (by kernel_rfl) ?_
  go_wp2
  go_ret
  exact ⟨rfl, by repeat (with_reducible first | exact HBX.out | apply below_drew1 | apply pw_below_drewN)⟩
end Go.Proofs.Ytdhcgfdnhlhapaa.HS
end
section
-- Written for this claim by this session's own wip/hook.py (it runs the kit's print and takes some functions' contracts as given texts of this session's).
namespace Go.Proofs.Ytdhcgfdnhlhapaa.K
open Go.RowKit Go.Proofs.YtdhcgfdnhlhapaaW.PrintWords Go.Proofs.YtdhcgfdnhlhapaaW.PrintLast Go.Proofs.YtdhcgfdnhlhapaaW.PrintMore
attribute [local go_sem] max2_int min2_int max_two min_two max_three min_three max_four min_four   -- for this text's walks alone
set_option linter.unusedVariables false
set_option linter.unusedSimpArgs false

/-! ### bits_Get: function 28 -/
mutual
def bits_Get.j0 : Nat → List Int → Int → Int → Int → Bool → Option (Int × Int × Int)
  | 0, _, _, _, _, _ => none
  | k + 1, x0, x1, x2, x6, x10 => if x10 = true then (some (0, 0, 2)) else (if (wrap64 ((x0.length : Int) - x1)) < x2 then (some (0, 0, 5)) else (bits_Get.l0 k x0 x1 x2 x6 x2 0))
def bits_Get.l0 : Nat → List Int → Int → Int → Int → Int → Int → Option (Int × Int × Int)
  | 0, _, _, _, _, _, _ => none
  | k + 1, x0, x1, x2, x6, x31, x32 => if x32 < x31 then (if 0 ≤ (wrap64 (x1 + x32)) then (if (wrap64 (x1 + x32)) < (x0.length : Int) then (if (rd x0 (wrap64 (x1 + x32))) > 1 then (some (0, 0, 8)) else (bits_Get.l0 k x0 x1 x2 (Go.bits .or .i64 (wrap64 (x6 * 2)) (wrap64 (rd x0 (wrap64 (x1 + x32))))) x31 (wrap64 (x32 + 1)))) else (none)) else (none)) else (some (x6, wrap64 (x1 + x2), 0))
end
def bits_Get.f (k : Nat) (l0 : List Int) (a1 : Int) (a2 : Int) : Option (Int × Int × Int) := (bits_sized.f a2).bind fun t101 => (if t101 = true then (if a1 < 0 then (bits_Get.j0 k l0 a1 a2 0 true) else (bits_Get.j0 k l0 a1 a2 0 (decide (a1 > (l0.length : Int))))) else (bits_Get.j0 k l0 a1 a2 0 true))
theorem bits_Get.mono_l : ∀ k, (∀ y0 y1 y2 y3 y4, LeO (bits_Get.j0 k y0 y1 y2 y3 y4) (bits_Get.j0 (k + 1) y0 y1 y2 y3 y4)) ∧ (∀ y0 y1 y2 y3 y4 y5, LeO (bits_Get.l0 k y0 y1 y2 y3 y4 y5) (bits_Get.l0 (k + 1) y0 y1 y2 y3 y4 y5))
  | 0 => ⟨fun _ _ _ _ _ r h => by simp [bits_Get.j0] at h, fun _ _ _ _ _ _ r h => by simp [bits_Get.l0] at h⟩
  | k + 1 => by
    obtain ⟨ih0, ih1⟩ := bits_Get.mono_l k
    refine ⟨?_, ?_⟩
    · intro y0 y1 y2 y3 y4
      unfold bits_Get.j0
      repeat' first
      | (with_reducible exact ih0 _ _ _ _ _)
      | (with_reducible exact ih1 _ _ _ _ _ _)
      | (with_reducible exact LeO.refl _)
      | (with_reducible exact LeO.none _)
      | (with_reducible refine LeO.ite ?_ ?_)
      | (with_reducible refine LeO.bind ?_ (fun _ => ?_))
      | exact ih0 _ _ _ _ _
      | exact ih1 _ _ _ _ _ _
      | exact LeO.none _
      | refine LeO.ite ?_ ?_
      | refine LeO.bind ?_ (fun _ => ?_)
    · intro y0 y1 y2 y3 y4 y5
      unfold bits_Get.l0
      repeat' first
      | (with_reducible exact ih0 _ _ _ _ _)
      | (with_reducible exact ih1 _ _ _ _ _ _)
      | (with_reducible exact LeO.refl _)
      | (with_reducible exact LeO.none _)
      | (with_reducible refine LeO.ite ?_ ?_)
      | (with_reducible refine LeO.bind ?_ (fun _ => ?_))
      | exact ih0 _ _ _ _ _
      | exact ih1 _ _ _ _ _ _
      | exact LeO.none _
      | refine LeO.ite ?_ ?_
      | refine LeO.bind ?_ (fun _ => ?_)
theorem bits_Get.mono : ∀ a0 a1 a2 k, LeO (bits_Get.f k a0 a1 a2) (bits_Get.f (k + 1) a0 a1 a2) := by
  intro a0 a1 a2 k
  obtain ⟨ih0, ih1⟩ := bits_Get.mono_l k
  unfold bits_Get.f
  repeat' first
      | (with_reducible exact ih0 _ _ _ _ _)
      | (with_reducible exact ih1 _ _ _ _ _ _)
      | (with_reducible exact LeO.refl _)
      | (with_reducible exact LeO.none _)
      | (with_reducible refine LeO.ite ?_ ?_)
      | (with_reducible refine LeO.bind ?_ (fun _ => ?_))
      | exact ih0 _ _ _ _ _
      | exact ih1 _ _ _ _ _ _
      | exact LeO.none _
      | refine LeO.ite ?_ ?_
      | refine LeO.bind ?_ (fun _ => ?_)
set_option maxHeartbeats 8000000 in
set_option maxRecDepth 100000 in
theorem bits_Get.calls (k : Nat) (A0 : Option Addr) (c0 : Nat) (l0 : List Int) (a1 : Int) (a2 : Int) (r1 : Int) (r2 : Int) (r3 : Int) (w : World) (hr0 : Kd.C (Kd.int .u8) w A0 l0.length l0) (hc0 : l0.length ≤ c0) (h : bits_Get.f k l0 a1 a2 = some (r1, r2, r3)) :
    Calls Try.prog 28 #[.slice A0 l0.length c0, .int .i64 a1, .int .i64 a2] w fun e w' => e = .returned (.tuple #[.int .i64 r1, .int .i64 r2, .int .i64 r3]) ∧ Drawn0 w w' := by
  have HR0 := Aside0.mk hr0
  have HC0 := Aside0.mk hc0
  clear hr0 hc0
  have H : ((bits_sized.f a2).bind fun t101 => (if t101 = true then (if a1 < 0 then (bits_Get.j0 k l0 a1 a2 0 true) else (bits_Get.j0 k l0 a1 a2 0 (decide (a1 > (l0.length : Int))))) else (bits_Get.j0 k l0 a1 a2 0 true))) = some (r1, r2, r3) := h
  clear h
  have HC4 := Aside0.mk H
  clear H
  go_enter Try.func28, Try.ntmps28
  go_upto_region 1 with (fail)
  go_cut [10] (fun v10 wc => ∃ (kq : Nat) (x10_3 : Bool), v10 = .bool x10_3 ∧ Aside0 (bits_Get.j0 kq l0 a1 a2 0 x10_3 = some (r1, r2, r3)) ∧ Aside0 (kq ≤ k) ∧ Drawn0 w wc)
  case first =>
    have H := HC4.out
    clear HC4
    replace H := Option.bind_eq_some_iff.mp H
    obtain ⟨t101, A50, H⟩ := H
    replace H : (if t101 = true then (if a1 < 0 then (bits_Get.j0 k l0 a1 a2 0 true) else (bits_Get.j0 k l0 a1 a2 0 (decide (a1 > (l0.length : Int))))) else (bits_Get.j0 k l0 a1 a2 0 true)) = some (r1, r2, r3) := H
    have A5 := Aside0.mk A50
    clear A50
    by_cases c6 : t101 = true
    · subst c6
      have H1 : (if a1 < 0 then (bits_Get.j0 k l0 a1 a2 0 true) else (bits_Get.j0 k l0 a1 a2 0 (decide (a1 > (l0.length : Int))))) = some (r1, r2, r3) := by rw [if_pos rfl] at H; exact H
      clear H
      have H := H1
      clear H1
      by_cases c7 : a1 < 0
      · rw [if_pos c7] at H
        have c7b0 : decide (a1 < 0) = true := decide_eq_true c7
        clear c7
        (first | rw [c7b0] | (simp only [i64_w, i32_w]; rw [c7b0]) | skip)
        have H' := Aside0.mk H
        clear H
        go_wp2_with (first | ((with_reducible refine gate_callee (f := 32) rfl ?_); refine goesL_ (some 12) rfl rfl Try.func32 (by kernel_rfl) rfl #[.int .i64 a2] rfl (by (try simp only [List.map_toArray, List.map_cons, List.map_nil]); first | done | rfl | (simp only [List.length_drop, List.length_take]; rfl)) ?_; (with_reducible refine (bits_sized.calls a2 true _ A5.out).mono ?_); rintro e w' ⟨rfl, ⟨nd, rfl⟩⟩; refine ⟨_, rfl, ?_⟩))
        go_meet
        case rel => exact ⟨_, (true), (by first | rfl | (simp; done) | (simp [*]; done)), H', ⟨by first | omega | exact Nat.le_refl _⟩, by repeat (first | exact Drawn0.refl _ | apply Drawn0.step)⟩
      · rw [if_neg c7] at H
        have c7b0 : decide (a1 < 0) = false := decide_eq_false c7
        clear c7
        (first | rw [c7b0] | (simp only [i64_w, i32_w]; rw [c7b0]) | skip)
        have H' := Aside0.mk H
        clear H
        go_wp2_with (first | ((with_reducible refine gate_callee (f := 32) rfl ?_); refine goesL_ (some 12) rfl rfl Try.func32 (by kernel_rfl) rfl #[.int .i64 a2] rfl (by (try simp only [List.map_toArray, List.map_cons, List.map_nil]); first | done | rfl | (simp only [List.length_drop, List.length_take]; rfl)) ?_; (with_reducible refine (bits_sized.calls a2 true _ A5.out).mono ?_); rintro e w' ⟨rfl, ⟨nd, rfl⟩⟩; refine ⟨_, rfl, ?_⟩))
        go_meet
        case rel => exact ⟨_, (decide (a1 > (l0.length : Int))), (by first | rfl | (simp; done) | (simp [*]; done)), H', ⟨by first | omega | exact Nat.le_refl _⟩, by repeat (first | exact Drawn0.refl _ | apply Drawn0.step)⟩
    · replace c6 := Bool.eq_false_iff.mpr c6
      subst c6
      have H1 : (bits_Get.j0 k l0 a1 a2 0 true) = some (r1, r2, r3) := by rw [if_neg (show ¬ (false = true) by decide)] at H; exact H
      clear H
      have H := H1
      clear H1
      have H' := Aside0.mk H
      clear H
      go_wp2_with (first | ((with_reducible refine gate_callee (f := 32) rfl ?_); refine goesL_ (some 12) rfl rfl Try.func32 (by kernel_rfl) rfl #[.int .i64 a2] rfl (by (try simp only [List.map_toArray, List.map_cons, List.map_nil]); first | done | rfl | (simp only [List.length_drop, List.length_take]; rfl)) ?_; (with_reducible refine (bits_sized.calls a2 false _ A5.out).mono ?_); rintro e w' ⟨rfl, ⟨nd, rfl⟩⟩; refine ⟨_, rfl, ?_⟩))
      go_meet
      case rel => exact ⟨_, (true), (by first | rfl | (simp; done) | (simp [*]; done)), H', ⟨by first | omega | exact Nat.le_refl _⟩, by repeat (first | exact Drawn0.refl _ | apply Drawn0.step)⟩
  case rest =>
    clear HC4
    try clear c2
    try clear p2
    try clear c3
    try clear c6
    try clear c7
    try clear c7b0
    obtain ⟨kq, x10_3, rfl, HA, HJ3, ⟨mc3, rfl⟩⟩ := hcut
    cases kq with
    | zero => exact absurd HA.out (by simp [bits_Get.j0])
    | succ kj3 =>
      have H := HA.out
      clear HA
      simp only [bits_Get.j0] at H
      by_cases c8 : x10_3 = true
      · subst c8
        have H1 : (some (0, 0, 2)) = some (r1, r2, r3) := by rw [if_pos rfl] at H; exact H
        clear H
        have H := H1
        clear H1
        simp only [Option.some.injEq, Prod.mk.injEq] at H
        obtain ⟨rfl, rfl, rfl⟩ := H
        go_wp2
        go_ret3
        exact ⟨by first | rfl | (simp; done) | (simp [*]; done), by repeat (first | exact Drawn0.refl _ | apply Drawn0.step)⟩
      · replace c8 := Bool.eq_false_iff.mpr c8
        subst c8
        have H1 : (if (wrap64 ((l0.length : Int) - a1)) < a2 then (some (0, 0, 5)) else (bits_Get.l0 kj3 l0 a1 a2 0 a2 0)) = some (r1, r2, r3) := by rw [if_neg (show ¬ (false = true) by decide)] at H; exact H
        clear H
        have H := H1
        clear H1
        by_cases c9 : (wrap64 ((l0.length : Int) - a1)) < a2
        · rw [if_pos c9] at H
          have c9b0 : decide ((wrap64 ((l0.length : Int) - a1)) < a2) = true := decide_eq_true c9
          clear c9
          simp only [Option.some.injEq, Prod.mk.injEq] at H
          obtain ⟨rfl, rfl, rfl⟩ := H
          go_wp2
          go_ret3
          exact ⟨by first | rfl | (simp; done) | (simp [*]; done), by repeat (first | exact Drawn0.refl _ | apply Drawn0.step)⟩
        · rw [if_neg c9] at H
          have c9b0 : decide ((wrap64 ((l0.length : Int) - a1)) < a2) = false := decide_eq_false c9
          clear c9
          have H' := Aside0.mk H
          clear H
          go_wp2
          go_loopg [6, 32] kj3 (fun kq v6 v32 w' => ∃ (x6_2 : Int) (x32_2 : Int), v6 = .int .i64 x6_2 ∧ v32 = .int .i64 x32_2 ∧ Aside0 (bits_Get.l0 kq l0 a1 a2 x6_2 a2 x32_2 = some (r1, r2, r3)) ∧ Aside0 (kq ≤ kj3) ∧ Drawn0 w w')
          case atStart => exact ⟨(0), (0), (by first | rfl | (simp; done) | (simp [*]; done)), (by first | rfl | (simp; done) | (simp [*]; done)), H', ⟨Nat.le_refl _⟩, by repeat (first | exact Drawn0.refl _ | apply Drawn0.step)⟩
          case round =>
            clear H'
            try clear c2
            try clear p2
            try clear c3
            try clear c6
            try clear p6
            try clear c7
            try clear c7b0
            try clear c8
            try clear c9
            try clear c9b0
            try clear p2
            obtain ⟨x6_2, x32_2, rfl, rfl, HA, HK2, ⟨m2, rfl⟩⟩ := hrel
            cases gk with
            | zero => exact absurd HA.out (by simp [bits_Get.l0])
            | succ k2 =>
              have H := HA.out
              clear HA
              simp only [bits_Get.l0] at H
              by_cases c10 : x32_2 < a2
              · rw [if_pos c10] at H
                have c10b0 : decide (x32_2 < a2) = true := decide_eq_true c10
                clear c10
                obtain ⟨ji11, hji11⟩ : ∃ j_ : Int, (wrap64 (a1 + x32_2)) = j_ := ⟨_, rfl⟩
                replace H : (if 0 ≤ (ji11) then (if (ji11) < (l0.length : Int) then (if (rd l0 (ji11)) > 1 then (some (0, 0, 8)) else (bits_Get.l0 k2 l0 a1 a2 (Go.bits .or .i64 (wrap64 (x6_2 * 2)) (wrap64 (rd l0 (ji11)))) a2 (wrap64 (x32_2 + 1)))) else (none)) else (none)) = some (r1, r2, r3) := by first | (rw [hji11] at H; exact H) | (simp only [hji11] at H ⊢; exact H)
                have hji11w : (IntKind.i64.wrap (a1 + x32_2)) = ji11 := (i64_w _).trans hji11
                by_cases c12 : 0 ≤ (ji11)
                · rw [if_pos c12] at H
                  have c12b0 : decide (0 ≤ (ji11)) = true := decide_eq_true c12
                  clear c12
                  by_cases c13 : (ji11) < (l0.length : Int)
                  · rw [if_pos c13] at H
                    have c13b0 : decide ((ji11) < (l0.length : Int)) = true := decide_eq_true c13
                    clear c13
                    by_cases c14 : (rd l0 (ji11)) > 1
                    · rw [if_pos c14] at H
                      have c14b0 : decide (1 < (rd l0 (ji11))) = true := decide_eq_true c14
                      clear c14
                      simp only [Option.some.injEq, Prod.mk.injEq] at H
                      obtain ⟨rfl, rfl, rfl⟩ := H
                      have p102 : 0 ≤ ((ji11) : Int) := of_decide_eq_true (by first | (with_reducible assumption) | assumption)
                      have q102 : (ji11) < (l0.length : Int) := of_decide_eq_true (by first | (with_reducible assumption) | assumption)
                      obtain ⟨ad102, e102, hx102_0⟩ := Kd.at_int HR0.out (ji11) p102 q102
                      cases e102
                      replace p102 := eq_true p102
                      replace q102 := eq_true q102
                      go_wp2
                      go_ret3
                      exact ⟨by first | rfl | (simp; done) | (simp only [← hji11] <;> (first | rfl | simp)) | (simp [*]; done), by repeat (first | exact Drawn0.refl _ | apply Drawn0.step)⟩
                    · rw [if_neg c14] at H
                      have c14b0 : decide (1 < (rd l0 (ji11))) = false := decide_eq_false c14
                      clear c14
                      have H' := Aside0.mk H
                      clear H
                      have p102 : 0 ≤ ((ji11) : Int) := of_decide_eq_true (by first | (with_reducible assumption) | assumption)
                      have q102 : (ji11) < (l0.length : Int) := of_decide_eq_true (by first | (with_reducible assumption) | assumption)
                      obtain ⟨ad102, e102, hx102_0⟩ := Kd.at_int HR0.out (ji11) p102 q102
                      cases e102
                      replace p102 := eq_true p102
                      replace q102 := eq_true q102
                      have p103 : 0 ≤ ((ji11) : Int) := of_decide_eq_true (by first | (with_reducible assumption) | assumption)
                      have q103 : (ji11) < (l0.length : Int) := of_decide_eq_true (by first | (with_reducible assumption) | assumption)
                      obtain ⟨ad103, e103, hx103_0⟩ := Kd.at_int HR0.out (ji11) p103 q103
                      obtain rfl : ad102 = ad103 := (by injection e103)
                      replace p103 := eq_true p103
                      replace q103 := eq_true q103
                      go_wp2
                      go_roundg k2
                      case measure => have := HJ3.out; have := HK2.out; omega
                      case rel => exact ⟨(Go.bits .or .i64 (wrap64 (x6_2 * 2)) (wrap64 (rd l0 (ji11)))), (wrap64 (x32_2 + 1)), (by first | rfl | (simp; done) | (simp only [← hji11] <;> (first | rfl | simp)) | (simp [*]; done)), (by first | rfl | (simp; done) | (simp [*]; done)), H', ⟨by have := HJ3.out; have := HK2.out; omega⟩, by repeat (first | exact Drawn0.refl _ | apply Drawn0.step)⟩
                  · rw [if_neg c13] at H
                    exact absurd H (by simp)
                · rw [if_neg c12] at H
                  exact absurd H (by simp)
              · rw [if_neg c10] at H
                have c10b0 : decide (x32_2 < a2) = false := decide_eq_false c10
                clear c10
                simp only [Option.some.injEq, Prod.mk.injEq] at H
                obtain ⟨rfl, rfl, rfl⟩ := H
                go_wp2
                go_ret3
                exact ⟨by first | rfl | (simp; done) | (simp [*]; done), by repeat (first | exact Drawn0.refl _ | apply Drawn0.step)⟩

end Go.Proofs.Ytdhcgfdnhlhapaa.K
end
section
-- Written for this claim by this session's own wip/hook.py (it runs the kit's print and takes some functions' contracts as given texts of this session's).
namespace Go.Proofs.Ytdhcgfdnhlhapaa.K
open Go.RowKit Go.Proofs.YtdhcgfdnhlhapaaW.PrintWords Go.Proofs.YtdhcgfdnhlhapaaW.PrintLast Go.Proofs.YtdhcgfdnhlhapaaW.PrintMore
attribute [local go_sem] max2_int min2_int max_two min_two max_three min_three max_four min_four   -- for this text's walks alone
set_option linter.unusedVariables false
set_option linter.unusedSimpArgs false

/-! ### reedpiperef06_Ints: function 29 -/
def reedpiperef06_Ints.l0 : Nat → List Int → List Int → Int → Option (Bool)
  | 0, _, _, _ => none
  | k + 1, x0, x1, x5 => if x5 < (x0.length : Int) then (if 0 ≤ x5 then (if x5 < (x1.length : Int) then (if (rd x0 x5) = (rd x1 x5) then (reedpiperef06_Ints.l0 k x0 x1 (wrap64 (x5 + 1))) else (some false)) else (none)) else (none)) else (some true)
def reedpiperef06_Ints.f (k : Nat) (l0 : List Int) (l1 : List Int) : Option (Bool) := if (l0.length : Int) = (l1.length : Int) then (reedpiperef06_Ints.l0 k l0 l1 0) else (some false)
theorem reedpiperef06_Ints.mono_l : ∀ k, (∀ y0 y1 y2, LeO (reedpiperef06_Ints.l0 k y0 y1 y2) (reedpiperef06_Ints.l0 (k + 1) y0 y1 y2))
  | 0 => fun _ _ _ r h => by simp [reedpiperef06_Ints.l0] at h
  | k + 1 => by
    have ih0 := reedpiperef06_Ints.mono_l k
    · intro y0 y1 y2
      unfold reedpiperef06_Ints.l0
      repeat' first
      | (with_reducible exact ih0 _ _ _)
      | (with_reducible exact LeO.refl _)
      | (with_reducible exact LeO.none _)
      | (with_reducible refine LeO.ite ?_ ?_)
      | (with_reducible refine LeO.bind ?_ (fun _ => ?_))
      | exact ih0 _ _ _
      | exact LeO.none _
      | refine LeO.ite ?_ ?_
      | refine LeO.bind ?_ (fun _ => ?_)
theorem reedpiperef06_Ints.mono : ∀ a0 a1 k, LeO (reedpiperef06_Ints.f k a0 a1) (reedpiperef06_Ints.f (k + 1) a0 a1) := by
  intro a0 a1 k
  have ih0 := reedpiperef06_Ints.mono_l k
  unfold reedpiperef06_Ints.f
  repeat' first
      | (with_reducible exact ih0 _ _ _)
      | (with_reducible exact LeO.refl _)
      | (with_reducible exact LeO.none _)
      | (with_reducible refine LeO.ite ?_ ?_)
      | (with_reducible refine LeO.bind ?_ (fun _ => ?_))
      | exact ih0 _ _ _
      | exact LeO.none _
      | refine LeO.ite ?_ ?_
      | refine LeO.bind ?_ (fun _ => ?_)
set_option maxHeartbeats 8000000 in
set_option maxRecDepth 100000 in
theorem reedpiperef06_Ints.calls (k : Nat) (A0 : Option Addr) (c0 : Nat) (l0 : List Int) (A1 : Option Addr) (c1 : Nat) (l1 : List Int) (r : Bool) (w : World) (hr0 : Kd.C (Kd.int .i64) w A0 l0.length l0) (hc0 : l0.length ≤ c0) (hr1 : Kd.C (Kd.int .i64) w A1 l1.length l1) (hc1 : l1.length ≤ c1) (h : reedpiperef06_Ints.f k l0 l1 = some r) :
    Calls Try.prog 29 #[.slice A0 l0.length c0, .slice A1 l1.length c1] w fun e w' => e = .returned (.bool r) ∧ Drawn0 w w' := by
  have HR0 := Aside0.mk hr0
  have HC0 := Aside0.mk hc0
  clear hr0 hc0
  have HR1 := Aside0.mk hr1
  have HC1 := Aside0.mk hc1
  clear hr1 hc1
  have H : (if (l0.length : Int) = (l1.length : Int) then (reedpiperef06_Ints.l0 k l0 l1 0) else (some false)) = some r := h
  clear h
  by_cases c3 : (l0.length : Int) = (l1.length : Int)
  · rw [if_pos c3] at H
    have c3b0 : ((l0.length : Int) == (l1.length : Int)) = true := beq_iff_eq.mpr c3
    have c3b1 : ((l0.length : Int) != (l1.length : Int)) = false := bne_eq_false_iff_eq.mpr c3
    have c3b2 : (l0.length == l1.length) = true := by first | simpa using c3 | (simp at c3 ⊢; omega)
    clear c3
    have H' := Aside0.mk H
    clear H
    go_enter Try.func29, Try.ntmps29
    go_wp2
    repeat (go_quiet (fail); try go_wp2)
    go_loopg [5] k (fun kq v5 w' => ∃ (x5_1 : Int), v5 = .int .i64 x5_1 ∧ Aside0 (reedpiperef06_Ints.l0 kq l0 l1 x5_1 = some r) ∧ Aside0 (kq ≤ k) ∧ Drawn0 w w')
    case atStart => exact ⟨(0), (by first | rfl | (simp; done) | (simp [*]; done)), H', ⟨Nat.le_refl _⟩, by repeat (first | exact Drawn0.refl _ | apply Drawn0.step)⟩
    case round =>
      clear H'
      try clear c1
      try clear c2
      try clear p2
      try clear c3
      try clear c3b0
      try clear c3b1
      try clear c3b2
      obtain ⟨x5_1, rfl, HA, HK1, ⟨m1, rfl⟩⟩ := hrel
      cases gk with
      | zero => exact absurd HA.out (by simp [reedpiperef06_Ints.l0])
      | succ k1 =>
        have H := HA.out
        clear HA
        simp only [reedpiperef06_Ints.l0] at H
        by_cases c4 : x5_1 < (l0.length : Int)
        · rw [if_pos c4] at H
          have c4b0 : decide (x5_1 < (l0.length : Int)) = true := decide_eq_true c4
          clear c4
          by_cases c5 : 0 ≤ x5_1
          · rw [if_pos c5] at H
            have c5b0 : decide (0 ≤ x5_1) = true := decide_eq_true c5
            clear c5
            by_cases c6 : x5_1 < (l1.length : Int)
            · rw [if_pos c6] at H
              have c6b0 : decide (x5_1 < (l1.length : Int)) = true := decide_eq_true c6
              clear c6
              by_cases c7 : (rd l0 x5_1) = (rd l1 x5_1)
              · rw [if_pos c7] at H
                have c7b0 : ((rd l0 x5_1) == (rd l1 x5_1)) = true := beq_iff_eq.mpr c7
                have c7b1 : ((rd l0 x5_1) != (rd l1 x5_1)) = false := bne_eq_false_iff_eq.mpr c7
                clear c7
                have H' := Aside0.mk H
                clear H
                have p253 : 0 ≤ (x5_1 : Int) := of_decide_eq_true (by first | (with_reducible assumption) | assumption)
                have q253 : x5_1 < (l0.length : Int) := of_decide_eq_true (by first | (with_reducible assumption) | assumption)
                obtain ⟨ad253, e253, hx253_0⟩ := Kd.at_int HR0.out x5_1 p253 q253
                cases e253
                replace p253 := eq_true p253
                replace q253 := eq_true q253
                have p254 : 0 ≤ (x5_1 : Int) := of_decide_eq_true (by first | (with_reducible assumption) | assumption)
                have q254 : x5_1 < (l1.length : Int) := of_decide_eq_true (by first | (with_reducible assumption) | assumption)
                obtain ⟨ad254, e254, hx254_0⟩ := Kd.at_int HR1.out x5_1 p254 q254
                cases e254
                replace p254 := eq_true p254
                replace q254 := eq_true q254
                go_wp2
                repeat (go_quiet (fail); try go_wp2)
                go_roundg k1
                case measure => have := HK1.out; omega
                case rel => exact ⟨(wrap64 (x5_1 + 1)), (by first | rfl | (simp; done) | (simp [*]; done)), H', ⟨by have := HK1.out; omega⟩, by repeat (first | exact Drawn0.refl _ | apply Drawn0.step)⟩
              · rw [if_neg c7] at H
                have c7b0 : ((rd l0 x5_1) == (rd l1 x5_1)) = false := beq_eq_false_iff_ne.mpr c7
                have c7b1 : ((rd l0 x5_1) != (rd l1 x5_1)) = true := bne_iff_ne.mpr c7
                obtain rfl := Option.some.inj H
                have p253 : 0 ≤ (x5_1 : Int) := of_decide_eq_true (by first | (with_reducible assumption) | assumption)
                have q253 : x5_1 < (l0.length : Int) := of_decide_eq_true (by first | (with_reducible assumption) | assumption)
                obtain ⟨ad253, e253, hx253_0⟩ := Kd.at_int HR0.out x5_1 p253 q253
                cases e253
                replace p253 := eq_true p253
                replace q253 := eq_true q253
                have p254 : 0 ≤ (x5_1 : Int) := of_decide_eq_true (by first | (with_reducible assumption) | assumption)
                have q254 : x5_1 < (l1.length : Int) := of_decide_eq_true (by first | (with_reducible assumption) | assumption)
                obtain ⟨ad254, e254, hx254_0⟩ := Kd.at_int HR1.out x5_1 p254 q254
                cases e254
                replace p254 := eq_true p254
                replace q254 := eq_true q254
                go_wp2
                repeat (go_quiet (fail); try go_wp2)
                go_ret
                exact ⟨by first | rfl | (simp; done) | (simp [*]; done), by repeat (first | exact Drawn0.refl _ | apply Drawn0.step)⟩
            · rw [if_neg c6] at H
              exact absurd H (by simp)
          · rw [if_neg c5] at H
            exact absurd H (by simp)
        · rw [if_neg c4] at H
          have c4b0 : decide (x5_1 < (l0.length : Int)) = false := decide_eq_false c4
          clear c4
          obtain rfl := Option.some.inj H
          go_wp2
          repeat (go_quiet (fail); try go_wp2)
          go_ret
          exact ⟨by first | rfl | (simp; done) | (simp [*]; done), by repeat (first | exact Drawn0.refl _ | apply Drawn0.step)⟩
  · rw [if_neg c3] at H
    have c3b0 : ((l0.length : Int) == (l1.length : Int)) = false := beq_eq_false_iff_ne.mpr c3
    have c3b1 : ((l0.length : Int) != (l1.length : Int)) = true := bne_iff_ne.mpr c3
    have c3b2 : (l0.length == l1.length) = false := by first | simpa using c3 | (simp at c3 ⊢; omega)
    obtain rfl := Option.some.inj H
    go_enter Try.func29, Try.ntmps29
    go_wp2
    repeat (go_quiet (fail); try go_wp2)
    go_ret
    exact ⟨by first | rfl | (simp; done) | (simp [*]; done), by repeat (first | exact Drawn0.refl _ | apply Drawn0.step)⟩

end Go.Proofs.Ytdhcgfdnhlhapaa.K
end
section
/- Plain words on lists and numbers that the pure laws use. They import no program. -/
namespace Go.Proofs.Ytdhcgfdnhlhapaa.HP
open Go.RowKit Go.Proofs.YtdhcgfdnhlhapaaW.PrintWords Go.Proofs.Ytdhcgfdnhlhapaa.HA

theorem wrap_id (x : Int) (h0 : -9223372036854775808 ≤ x) (h1 : x ≤ 9223372036854775807) : wrap64 x = x := by
  unfold wrap64
  omega
theorem wrap_succ (i : Nat) (h : i ≤ 4611686018427387904) : wrap64 ((i : Int) + 1) = ((i + 1 : Nat) : Int) := by
  rw [wrap_id _ (by omega) (by omega)]
  omega
theorem rd_at (xs : List Int) (i : Nat) (h : i < xs.length) : rd xs (i : Int) = xs[i] := by
  unfold rd
  rw [Int.toNat_natCast, List.getD_eq_getElem?_getD, List.getElem?_eq_getElem h, Option.getD_some]
theorem drop_at (xs : List Int) (i : Nat) (h : i < xs.length) : xs.drop i = rd xs (i : Int) :: xs.drop (i + 1) := by
  rw [rd_at xs i h]
  exact List.drop_eq_getElem_cons h
theorem len_pos (xs : List Int) (i : Nat) (h : i < xs.length) : (i : Int) < (xs.length : Int) := by omega

/-! ### windows' groups -/
def groupsOk (gs : List Int) : Bool := gs.all (fun g => decide (1 ≤ g) && decide (g ≤ 8)) && gs.sum == 8
def infoOk (many seq shape max : Int) (gs : List Int) : Bool := decide (seq ≤ 3) && decide (shape ≤ 1) && decide (0 ≤ max) && decide (max ≤ many) && (if seq = 2 then groupsOk gs else gs == [1])
/-- The group of a window. -/
def groupOf : List Int → Int → Nat
  | [], _ => 0
  | g :: gs, w => if w < g then 0 else groupOf gs (w - g) + 1

theorem sum_ge_length : ∀ gs : List Int, (gs.all (fun g => decide (1 ≤ g) && decide (g ≤ 8))) = true → (gs.length : Int) ≤ gs.sum
  | [], _ => by simp
  | g :: gs, h => by
    simp only [List.all_cons, Bool.and_eq_true, decide_eq_true_eq] at h
    have := sum_ge_length gs (by simpa using h.2)
    simp only [List.length_cons, List.sum_cons]
    omega
theorem groupsOk_length {gs : List Int} (h : groupsOk gs = true) : gs.length ≤ 8 := by
  simp only [groupsOk, Bool.and_eq_true, beq_iff_eq] at h
  have := sum_ge_length gs h.1
  omega
theorem groupOf_lt : ∀ (gs : List Int) (w : Int), 0 ≤ w → w < gs.sum → groupOf gs w < gs.length
  | [], w, h0, h => by
    simp at h
    omega
  | g :: gs, w, h0, h => by
    unfold groupOf
    split
    · simp
    · have := groupOf_lt gs (w - g) (by omega) (by simp at h; omega)
      simp
      omega
/-- The bits of windows that may be. -/
def groupBit (gs : List Int) (w : Nat) : Int := if groupOf gs (w : Int) = groupOf gs ((w : Int) + 1) then 1 else 0
def headBits (seq shape max : Int) : List Int := bitsOf 0 1 ++ bitsOf seq 2 ++ bitsOf shape 1 ++ (if seq = 2 then bitsOf max 4 else bitsOf max 6)
def infoBits (seq shape max : Int) (gs : List Int) : List Int := headBits seq shape max ++ (if seq = 2 then upto (groupBit gs) 7 else bitsOf 0 1)
theorem bitsOf_zero : bitsOf 0 1 = [0] := by decide
theorem bitsOf_one : bitsOf 1 1 = [1] := by decide
end Go.Proofs.Ytdhcgfdnhlhapaa.HP
end
section
/- What the printed functions of windows tell, without rounds: lists compared, bands, checks, groups. -/
namespace Go.Proofs.Ytdhcgfdnhlhapaa.SP
open Go.RowKit Go.Proofs.YtdhcgfdnhlhapaaW.PrintWords Go.Proofs.YtdhcgfdnhlhapaaW.PrintLast Go.Proofs.YtdhcgfdnhlhapaaW.PrintMore Go.Proofs.Ytdhcgfdnhlhapaa.HA Go.Proofs.Ytdhcgfdnhlhapaa.HP Go.Proofs.Ytdhcgfdnhlhapaa.K

/-! ### two lists of numbers -/
theorem equal_l0 (xs ys : List Int) (hl : xs.length = ys.length) (hb : xs.length ≤ 4611686018427387904) : ∀ (d k i : Nat), xs.length - i = d → i ≤ xs.length → d < k →
    slices_Equal_int_int.l0 k xs ys (xs.length : Int) (i : Int) = some (decide (xs.drop i = ys.drop i)) := by
  intro d
  induction d with
  | zero =>
    intro k i hd hi hk
    obtain ⟨k, rfl⟩ : ∃ m, k = m + 1 := ⟨k - 1, by omega⟩
    simp only [slices_Equal_int_int.l0]
    rw [if_neg (by omega), List.drop_of_length_le (by omega), List.drop_of_length_le (by omega)]
    simp
  | succ d ih =>
    intro k i hd hi hk
    obtain ⟨k, rfl⟩ : ∃ m, k = m + 1 := ⟨k - 1, by omega⟩
    simp only [slices_Equal_int_int.l0]
    rw [if_pos (by omega), if_pos (by omega), if_pos (by omega), if_pos (by omega), drop_at xs i (by omega), drop_at ys i (by omega)]
    by_cases h : rd xs (i : Int) = rd ys (i : Int)
    · rw [if_pos h, wrap_succ i (by omega), ih k (i + 1) (by omega) (by omega) (by omega)]
      simp [h]
    · rw [if_neg h]
      simp [h]
theorem equal_f (xs ys : List Int) (hb : xs.length ≤ 4611686018427387904) (k : Nat) (hk : xs.length < k) : slices_Equal_int_int.f k xs ys = some (decide (xs = ys)) := by
  unfold slices_Equal_int_int.f
  by_cases h : (xs.length : Int) = (ys.length : Int)
  · rw [if_pos h]
    have := equal_l0 xs ys (by omega) hb xs.length k 0 (by omega) (by omega) hk
    simpa using this
  · rw [if_neg h]
    have : xs ≠ ys := fun e => h (by rw [e])
    simp [this]
theorem ints_l0 (xs ys : List Int) (hl : xs.length = ys.length) (hb : xs.length ≤ 4611686018427387904) : ∀ (d k i : Nat), xs.length - i = d → i ≤ xs.length → d < k →
    reedpiperef06_Ints.l0 k xs ys (i : Int) = some (decide (xs.drop i = ys.drop i)) := by
  intro d
  induction d with
  | zero =>
    intro k i hd hi hk
    obtain ⟨k, rfl⟩ : ∃ m, k = m + 1 := ⟨k - 1, by omega⟩
    simp only [reedpiperef06_Ints.l0]
    rw [if_neg (by omega), List.drop_of_length_le (by omega), List.drop_of_length_le (by omega)]
    simp
  | succ d ih =>
    intro k i hd hi hk
    obtain ⟨k, rfl⟩ : ∃ m, k = m + 1 := ⟨k - 1, by omega⟩
    simp only [reedpiperef06_Ints.l0]
    rw [if_pos (by omega), if_pos (by omega), if_pos (by omega), drop_at xs i (by omega), drop_at ys i (by omega)]
    by_cases h : rd xs (i : Int) = rd ys (i : Int)
    · rw [if_pos h, wrap_succ i (by omega), ih k (i + 1) (by omega) (by omega) (by omega)]
      simp [h]
    · rw [if_neg h]
      simp [h]
theorem ints_f (xs ys : List Int) (hb : xs.length ≤ 4611686018427387904) (k : Nat) (hk : xs.length < k) : reedpiperef06_Ints.f k xs ys = some (decide (xs = ys)) := by
  unfold reedpiperef06_Ints.f
  by_cases h : (xs.length : Int) = (ys.length : Int)
  · rw [if_pos h]
    have := ints_l0 xs ys (by omega) hb xs.length k 0 (by omega) (by omega) hk
    simpa using this
  · rw [if_neg h]
    have : xs ≠ ys := fun e => h (by rw [e])
    simp [this]

/-! ### groups -/
theorem grouped_l0 (gs : List Int) (hb : gs.length ≤ 17592186044416) (a b c : Int) : ∀ (d k i : Nat) (s : Int), gs.length - i = d → i ≤ gs.length → d < k → 0 ≤ s → s ≤ 8 * i →
    info_grouped.l0 k s gs (gs.length : Int) (i : Int) a b c gs = some ((gs.drop i).all (fun g => decide (1 ≤ g) && decide (g ≤ 8)) && (s + (gs.drop i).sum == 8) && decide (gs.length ≤ 8)) := by
  intro d
  induction d with
  | zero =>
    intro k i s hd hi hk h0 h1
    obtain ⟨k, rfl⟩ : ∃ m, k = m + 1 := ⟨k - 1, by omega⟩
    simp only [info_grouped.l0]
    rw [if_neg (by omega), List.drop_of_length_le (by omega)]
    by_cases h : s = 8
    · rw [if_pos h]
      simp [h]
      omega
    · rw [if_neg h]
      simp [h]
  | succ d ih =>
    intro k i s hd hi hk h0 h1
    obtain ⟨k, rfl⟩ : ∃ m, k = m + 1 := ⟨k - 1, by omega⟩
    simp only [info_grouped.l0]
    rw [if_pos (by omega), if_pos (by omega), if_pos (by omega), drop_at gs i (by omega)]
    by_cases g1 : rd gs (i : Int) < 1
    · rw [if_pos g1]
      simp
      intro h
      omega
    · rw [if_neg g1]
      by_cases g2 : rd gs (i : Int) > 8
      · rw [if_pos g2]
        simp
        intro h h2
        omega
      · rw [if_neg g2, wrap_succ i (by omega), wrap_id (s + rd gs (i : Int)) (by omega) (by omega), ih k (i + 1) (s + rd gs (i : Int)) (by omega) (by omega) (by omega) (by omega) (by omega)]
        have e1 : decide (1 ≤ rd gs (i : Int)) = true := decide_eq_true (by omega)
        have e2 : decide (rd gs (i : Int) ≤ 8) = true := decide_eq_true (by omega)
        simp only [List.all_cons, List.sum_cons, e1, e2, Bool.true_and, Int.add_assoc]
theorem grouped_f (seq a b : Int) (gs : List Int) (hb : gs.length ≤ 17592186044416) (k : Nat) (hk : gs.length < k) : info_grouped.f k seq a b gs = some (if seq = 2 then groupsOk gs else gs == [1]) := by
  unfold info_grouped.f
  by_cases h : seq = 2
  · rw [if_pos h, if_pos h]
    have := grouped_l0 gs hb seq a b gs.length k 0 0 (by omega) (by omega) hk (by omega) (by omega)
    simp only [List.drop_zero, Int.zero_add] at this
    rw [show ((0 : Nat) : Int) = 0 from rfl] at this
    rw [this]
    congr 1
    unfold groupsOk
    cases hg : (gs.all fun g => decide (1 ≤ g) && decide (g ≤ 8)) && (gs.sum == 8) with
    | false => rfl
    | true =>
      have := groupsOk_length (gs := gs) hg
      simp [this]
  · rw [if_neg h, if_neg h, equal_f gs [1] (by omega) k hk]
    simp only [Option.bind_some]
    congr 1
    by_cases e : gs = [1]
    · rw [decide_eq_true e, e]; rfl
    · rw [decide_eq_false e]; simp [e]

/-! ### bands, checks -/
def bandMany (rate : Int) (short : Bool) : Int := ((bandOffsets rate short).length : Int) - 1
def manyS (rate : Int) (short : Bool) : Int × Int := if rate < 0 ∨ rate > 11 then (0, 2) else (bandMany rate short, 0)
theorem bandFrom_length (kk lines by_ : Int) : ∀ (n : Nat) (a : Int), 1 ≤ (bandFrom kk lines by_ n a).length ∧ (bandFrom kk lines by_ n a).length ≤ n + 1
  | 0, a => by simp [bandFrom]
  | n + 1, a => by
    unfold bandFrom
    split
    · have := bandFrom_length kk lines by_ n (bandNext kk lines by_ a)
      simp
      omega
    · simp
theorem bandOffsets_length (rate : Int) (short : Bool) : 1 ≤ (bandOffsets rate short).length ∧ (bandOffsets rate short).length ≤ 65 := by
  unfold bandOffsets
  split <;> exact bandFrom_length _ _ _ _ _
theorem many_f (rate : Int) (short : Bool) : band_Many.f rate short = some (manyS rate short) := by
  unfold band_Many.f band_Offsets.f manyS
  have hl := bandOffsets_length rate short
  by_cases h : rate < 0 ∨ rate > 11
  · simp only [if_pos h, Option.bind_some]
    simp [mx, wrap64]
  · simp only [if_neg h, Option.bind_some]
    unfold bandMany
    rw [wrap_id _ (by omega) (by omega)]
    unfold mx
    rw [if_neg (by omega)]
def checkS (rate seq shape max : Int) (gs : List Int) : Int := if rate < 0 ∨ rate > 11 then 2 else if infoOk (bandMany rate (seq == 2)) seq shape max gs = true then 0 else 8
theorem check_f (rate seq shape max : Int) (gs : List Int) (hb : gs.length ≤ 17592186044416) (k : Nat) (hk : gs.length < k) : info_Check.f k rate seq shape max gs = some (checkS rate seq shape max gs) := by
  unfold info_Check.f checkS
  rw [many_f]
  unfold manyS
  by_cases h : rate < 0 ∨ rate > 11
  · simp only [if_pos h, Option.bind_some]
    rfl
  · simp only [if_neg h, Option.bind_some, if_true]
    rw [grouped_f seq shape max gs hb k hk]
    unfold infoOk
    by_cases h1 : seq > 3
    · rw [if_pos h1, decide_eq_false (show ¬ seq ≤ 3 by omega)]
      simp
    · rw [if_neg h1, decide_eq_true (show seq ≤ 3 by omega)]
      by_cases h2 : shape > 1
      · rw [if_pos h2, decide_eq_false (show ¬ shape ≤ 1 by omega)]
        simp
      · rw [if_neg h2, decide_eq_true (show shape ≤ 1 by omega)]
        by_cases h3 : max < 0
        · rw [if_pos h3, decide_eq_false (show ¬ 0 ≤ max by omega)]
          simp
        · rw [if_neg h3, decide_eq_true (show 0 ≤ max by omega)]
          by_cases h4 : max > bandMany rate (seq == 2)
          · rw [if_pos h4, decide_eq_false (show ¬ max ≤ bandMany rate (seq == 2) by omega)]
            simp
          · rw [if_neg h4, decide_eq_true (show max ≤ bandMany rate (seq == 2) by omega)]
            simp only [Option.bind_some, Bool.true_and]
            generalize (if seq = 2 then groupsOk gs else gs == [1]) = z
            cases z <;> rfl
theorem some_f (seq shape max : Int) (gs : List Int) (hb : gs.length ≤ 17592186044416) (k : Nat) (hk : gs.length < k) : info_some.f k seq shape max gs = some (infoOk (bandMany 11 (seq == 2)) seq shape max gs) := by
  unfold info_some.f
  rw [check_f 11 seq shape max gs hb k hk]
  simp only [Option.bind_some]
  unfold checkS
  rw [if_neg (by omega)]
  split <;> rename_i h
  · rw [h]; rfl
  · simp at h; rw [h]; rfl
def someS (seq shape max : Int) (gs : List Int) : Bool := infoOk (bandMany 11 (seq == 2)) seq shape max gs
def windowsS (seq shape max : Int) (gs : List Int) : Int × Int := if someS seq shape max gs = true then (if seq = 2 then 8 else 1, 0) else (0, 8)
theorem windows_f (seq shape max : Int) (gs : List Int) (hb : gs.length ≤ 17592186044416) (k : Nat) (hk : gs.length < k) : info_Windows.f k seq shape max gs = some (windowsS seq shape max gs) := by
  unfold info_Windows.f windowsS
  rw [some_f seq shape max gs hb k hk]
  simp only [Option.bind_some]
  show (if someS seq shape max gs = true then _ else _) = _
  split
  · split <;> rfl
  · rfl
theorem infoOk_groups {many seq shape max : Int} {gs : List Int} (h : infoOk many seq shape max gs = true) : (if seq = 2 then groupsOk gs else gs == [1]) = true := by
  unfold infoOk at h
  simp only [Bool.and_eq_true] at h
  exact h.2
def groupS (seq shape max : Int) (gs : List Int) (w : Int) : Int × Int := if someS seq shape max gs = true then (if w < 0 ∨ w ≥ (if seq = 2 then 8 else 1) then (0, 2) else ((groupOf gs w : Int), 0)) else (0, 8)
theorem someS_all {seq shape max : Int} {gs : List Int} (h : someS seq shape max gs = true) : gs.all (fun g => decide (1 ≤ g) && decide (g ≤ 8)) = true ∧ gs.sum = (if seq = 2 then 8 else 1) ∧ gs.length ≤ 8 ∧ 0 < gs.length := by
  have := infoOk_groups h
  by_cases h2 : seq = 2
  · rw [if_pos h2] at this ⊢
    have h8 := groupsOk_length this
    simp only [groupsOk, Bool.and_eq_true, beq_iff_eq] at this
    refine ⟨this.1, this.2, h8, ?_⟩
    cases gs with
    | nil => simp at this
    | cons => simp
  · rw [if_neg h2] at this ⊢
    have : gs = [1] := by simpa using this
    subst this
    simp
theorem bands_few : ∀ r : Fin 12, bandMany (r.val : Int) true ≤ 15 ∧ bandMany (r.val : Int) false ≤ 40 := by decide +kernel
theorem bandMany_le (rate : Int) (h0 : 0 ≤ rate) (h1 : rate ≤ 11) : bandMany rate true ≤ 15 ∧ bandMany rate false ≤ 40 := by
  have := bands_few ⟨rate.toNat, by omega⟩
  simpa [Int.toNat_of_nonneg h0] using this
/-- What a check that is passed tells of the numbers. -/
theorem checkS_ok {rate seq shape max : Int} {gs : List Int} (h : checkS rate seq shape max gs = 0) : 0 ≤ rate ∧ rate ≤ 11 ∧ seq ≤ 3 ∧ shape ≤ 1 ∧ 0 ≤ max ∧ max ≤ 40 ∧ (seq = 2 → max ≤ 15) ∧ infoOk (bandMany rate (seq == 2)) seq shape max gs = true := by
  unfold checkS at h
  by_cases hr : rate < 0 ∨ rate > 11
  · rw [if_pos hr] at h
    cases h
  · rw [if_neg hr] at h
    by_cases hi : infoOk (bandMany rate (seq == 2)) seq shape max gs = true
    · have hb := bandMany_le rate (by omega) (by omega)
      have hi2 := hi
      unfold infoOk at hi2
      simp only [Bool.and_eq_true, decide_eq_true_eq] at hi2
      obtain ⟨⟨⟨⟨h1, h2⟩, h3⟩, h4⟩, _⟩ := hi2
      refine ⟨by omega, by omega, h1, h2, h3, ?_, fun e => ?_, hi⟩
      · cases hs : (seq == 2) <;> rw [hs] at h4 <;> omega
      · rw [e] at h4
        have : ((2 : Int) == 2) = true := rfl
        rw [this] at h4
        omega
    · rw [if_neg hi] at h
      cases h
theorem bands_up : ∀ r : Fin 12, bandMany (r.val : Int) true ≤ bandMany 11 true ∧ bandMany (r.val : Int) false ≤ bandMany 11 false := by decide +kernel
theorem infoOk_some {rate seq shape max : Int} {gs : List Int} (h0 : 0 ≤ rate) (h1 : rate ≤ 11) (h : infoOk (bandMany rate (seq == 2)) seq shape max gs = true) : someS seq shape max gs = true := by
  have hb := bands_up ⟨rate.toNat, by omega⟩
  simp only [Int.toNat_of_nonneg h0] at hb
  unfold someS
  unfold infoOk at h ⊢
  simp only [Bool.and_eq_true, decide_eq_true_eq] at h ⊢
  obtain ⟨⟨⟨⟨h1, h2⟩, h3⟩, h4⟩, h5⟩ := h
  refine ⟨⟨⟨⟨h1, h2⟩, h3⟩, ?_⟩, h5⟩
  cases hs : (seq == 2) <;> rw [hs] at h4 <;> omega
theorem put_ok (xs : List Int) (n size : Int) (h0 : 0 ≤ size) (h1 : size ≤ 31) (h2 : 0 ≤ n) (h3 : n < 2 ^ size.toNat) (hl : xs.length ≤ 100000000) : bits_Put.f xs n size = some (xs ++ bitsOf n size.toNat, 0) := by
  unfold bits_Put.f
  rw [if_pos ⟨h0, h1, h2, h3⟩, if_pos (by omega)]
end Go.Proofs.Ytdhcgfdnhlhapaa.SP
end
section
/- tnsbits.Check: whether filters may be. -/
namespace Go.Proofs.Ytdhcgfdnhlhapaa.HS
open Go.RowKit Go.Shelf Go.Proofs.YtdhcgfdnhlhapaaW.PrintWords Go.Proofs.YtdhcgfdnhlhapaaW.PrintLast Go.Proofs.YtdhcgfdnhlhapaaW.PrintMore Go.Proofs.Ytdhcgfdnhlhapaa.K
set_option linter.unusedVariables false
set_option linter.unusedSimpArgs false

def tnsOk (s sh m : Int) (gs : List Int) (l : List (List Filt)) : Bool := SP.someS s sh m gs && ((l.length : Int) == manyF s) && l.all (winOk s)
theorem all_take_succ {α : Type} (p : α → Bool) (l : List α) (k : Nat) (h : k < l.length) : (l.take (k + 1)).all p = ((l.take k).all p && p l[k]) := by
  rw [List.take_succ_eq_append_getElem h, List.all_append]
  simp
theorem rdL_at (l : List (List Filt)) (k : Nat) (h : k < l.length) : rd_L7 l (k : Int) = l[k] := by
  unfold rd_L7
  rw [Int.toNat_natCast, List.getD_eq_getElem?_getD, List.getElem?_eq_getElem h, Option.getD_some]
theorem sizes_calls' (s sh m : Int) (A : Option Addr) (n c : Nat) (w : World) :
    Calls Try.prog 17 #[.agg #[.int .u8 s, .int .u8 sh, .int .i64 m, .slice A n c]] w fun e w' => e = .returned (.agg #[.int .i64 (numF s), .int .i64 (lenF s), .int .i64 (ordF s), .int .i64 (mostF s), .int .i64 (topF s)]) ∧ Below w.heap.size w w' := by
  have := sizes_calls s sh m A n c w
  rw [sizesV_eq] at this
  exact this
theorem index5_3 (a b c d e : Int) (W : World) : (Instr.index 51 (.agg #[.int .i64 a, .int .i64 b, .int .i64 c, .int .i64 d, .int .i64 e]) (.int .i64 3)).run Try.prog W = .ok (.int .i64 d) W := by kernel_rfl
/-- Check's predicate in each world behind one that holds the window. -/
theorem pred1 (s sh m : Int) (A : Option Addr) (n c : Nat) (gi gw : Nat) (A0 : Option Addr) (wl : List Filt) (cw : Nat) (w : World)
    (hi : w.heap[gi]? = some (.cells #[.int .u8 s, .int .u8 sh, .int .i64 m, .slice A n c] 24 (0, 0))) (hw : w.heap[gw]? = some (.cells #[.slice A0 wl.length cw] 35 (0, 0))) (hC : Kd.C k38 w A0 wl.length wl) :
    HCF.PredF 19 #[.pointer (some ⟨gi, 0, none⟩), .pointer (some ⟨gw, 0, none⟩)] (odd1 s (fineOf wl)) wl w := by
  intro f hf AF cF W hb hCF
  have hlt : 0 < wl.length := List.length_pos_of_mem hf
  obtain ⟨ad, A4, c4, rfl, q0, q1, q2, q3, q4, hl4, hC4⟩ := at_T38 hC 0 (by omega) (by omega)
  have q3' : w.cell? ⟨ad.block, ad.off + 3, none⟩ = some (.bool (fineOf wl)) := by
    have e : ad.add ((0 : Int).toNat * 5) = ad := by simp [Addr.add]
    rw [e] at q3
    exact q3
  cases hr : filtRight s f with
  | true => exact odd1_in s sh m A n c f AF cF gi gw ad wl cw (fineOf wl) W hr hlt hCF (blk_below hi hb) (blk_below hw hb) (pw_cell_below hb q3')
  | false => exact odd1_out s sh m A n c f AF cF gi gw ad wl cw (fineOf wl) W hr hlt hCF (blk_below hi hb) (blk_below hw hb) (pw_cell_below hb q3')
set_option maxHeartbeats 8000000 in
set_option maxRecDepth 100000 in
theorem check_calls (s sh m : Int) (A3 : Option Addr) (c3 : Nat) (gs : List Int) (A1 : Option Addr) (c1 : Nat) (l : List (List Filt)) (w : World) (hb0 : gs.length ≤ 17592186044416) (hr3 : Kd.C (Kd.int .i64) w A3 gs.length gs) (hc3 : gs.length ≤ c3) (hr1 : Kd.C (Kd.slice 38 k38) w A1 l.length l) :
    Calls Try.prog 10 #[.agg #[.int .u8 s, .int .u8 sh, .int .i64 m, .slice A3 gs.length c3], .slice A1 l.length c1] w fun e w' => e = .returned (.int .i64 (if tnsOk s sh m gs l = true then 0 else 8)) ∧ Below w.heap.size w w' := by
  have HR3 := Aside0.mk hr3
  have HC3 := Aside0.mk hc3
  have HL := Aside0.mk hr1
  have HLM := Aside0.mk (Kd.C_max hr1)
  clear hr3 hc3 hr1
  have HWN : Aside0 (info_Windows.f (gs.length + 1) s sh m gs = some (SP.windowsS s sh m gs)) := ⟨SP.windows_f s sh m gs hb0 (gs.length + 1) (by omega)⟩
  clear hb0
  obtain ⟨r, hr⟩ : ∃ r, r = (if tnsOk s sh m gs l = true then (0 : Int) else 8) := ⟨_, rfl⟩
  rw [← hr]
  have HV := Aside0.mk hr
  clear hr
  by_cases hs : SP.someS s sh m gs = true
  case neg =>
    obtain rfl : r = 8 := by rw [HV.out]; unfold tnsOk; rw [Bool.eq_false_iff.2 hs]; rfl
    have HWB : Aside0 (info_Windows.f (gs.length + 1) s sh m gs = some (0, 8)) := ⟨by rw [HWN.out]; unfold SP.windowsS; rw [if_neg hs]⟩
    clear hs HV HWN
    have HB : Aside0 (Below w.heap.size w w) := ⟨Below.refl _ _⟩
    go_enter Try.func10, Try.ntmps10
    go_wp2_with (first | ((with_reducible refine gate_dst (N := 2) rfl ?_); refine box_event ?hg (N := 2) ?hd (cs := #[.int .u8 s, .int .u8 sh, .int .i64 m, .slice A3 gs.length c3]) (t := 24) ?hr ?_; (case hd => rfl); (case hg => rfl); (case hr => first | (go_simp; done) | (go_simp; rfl)); intro gi hg wx1 hbox hb; have HG_gi : Aside0 (w.heap.size ≤ gi) := ⟨by rw [hg]; exact HB.out.size⟩; have BK_gi := Aside0.mk hbox; replace HB := Aside0.mk (below_step HB.out hb); clear hg hbox hb; have hq_gi_0 : wx1.cell? ⟨gi, 0, none⟩ = some (.int .u8 s) := (blk_cell BK_gi.out 0).trans rfl; have hf_gi_0 : wx1.frozen? ⟨gi, 0, none⟩ = false := blk_frozen BK_gi.out 0; have hq_gi_1 : wx1.cell? ⟨gi, 1, none⟩ = some (.int .u8 sh) := (blk_cell BK_gi.out 1).trans rfl; have hf_gi_1 : wx1.frozen? ⟨gi, 1, none⟩ = false := blk_frozen BK_gi.out 1; have hq_gi_2 : wx1.cell? ⟨gi, 2, none⟩ = some (.int .i64 m) := (blk_cell BK_gi.out 2).trans rfl; have hf_gi_2 : wx1.frozen? ⟨gi, 2, none⟩ = false := blk_frozen BK_gi.out 2; have hq_gi_3 : wx1.cell? ⟨gi, 3, none⟩ = some (.slice A3 gs.length c3) := (blk_cell BK_gi.out 3).trans rfl; have hf_gi_3 : wx1.frozen? ⟨gi, 3, none⟩ = false := blk_frozen BK_gi.out 3) | (go_at_call 9; refine (info_Windows.calls (gs.length + 1) s sh m A3 c3 gs 0 8 _ (Kd.C_below HR3.out HB.out) HC3.out HWB.out).mono ?_; rintro e wx2 ⟨rfl, hb⟩; replace BK_gi := Aside0.mk (blk_below BK_gi.out hb); replace HB := Aside0.mk (below_step HB.out hb); clear hb; clear hq_gi_0 hf_gi_0 hq_gi_1 hf_gi_1 hq_gi_2 hf_gi_2 hq_gi_3 hf_gi_3; have hq_gi_0 : wx2.cell? ⟨gi, 0, none⟩ = some (.int .u8 s) := (blk_cell BK_gi.out 0).trans rfl; have hf_gi_0 : wx2.frozen? ⟨gi, 0, none⟩ = false := blk_frozen BK_gi.out 0; have hq_gi_1 : wx2.cell? ⟨gi, 1, none⟩ = some (.int .u8 sh) := (blk_cell BK_gi.out 1).trans rfl; have hf_gi_1 : wx2.frozen? ⟨gi, 1, none⟩ = false := blk_frozen BK_gi.out 1; have hq_gi_2 : wx2.cell? ⟨gi, 2, none⟩ = some (.int .i64 m) := (blk_cell BK_gi.out 2).trans rfl; have hf_gi_2 : wx2.frozen? ⟨gi, 2, none⟩ = false := blk_frozen BK_gi.out 2; have hq_gi_3 : wx2.cell? ⟨gi, 3, none⟩ = some (.slice A3 gs.length c3) := (blk_cell BK_gi.out 3).trans rfl; have hf_gi_3 : wx2.frozen? ⟨gi, 3, none⟩ = false := blk_frozen BK_gi.out 3))
    go_ret
    exact ⟨rfl, HB.out⟩
  have HWB : Aside0 (info_Windows.f (gs.length + 1) s sh m gs = some (manyF s, 0)) := ⟨by rw [HWN.out]; unfold SP.windowsS; rw [if_pos hs]; rfl⟩
  clear HWN
  obtain ⟨many, hm⟩ : ∃ x, x = manyF s := ⟨_, rfl⟩
  rw [← hm] at HWB
  by_cases hn : (l.length : Int) = many
  case neg =>
    obtain rfl : r = 8 := by rw [HV.out]; unfold tnsOk; rw [hs, ← hm, beq_eq_false_iff_ne.mpr hn]; rfl
    have bn : ((l.length : Int) != many) = true := bne_iff_ne.mpr hn
    clear hs HV hn hm
    have HB : Aside0 (Below w.heap.size w w) := ⟨Below.refl _ _⟩
    go_enter Try.func10, Try.ntmps10
    go_wp2_with (first | ((with_reducible refine gate_dst (N := 2) rfl ?_); refine box_event ?hg (N := 2) ?hd (cs := #[.int .u8 s, .int .u8 sh, .int .i64 m, .slice A3 gs.length c3]) (t := 24) ?hr ?_; (case hd => rfl); (case hg => rfl); (case hr => first | (go_simp; done) | (go_simp; rfl)); intro gi hg wx1 hbox hb; have HG_gi : Aside0 (w.heap.size ≤ gi) := ⟨by rw [hg]; exact HB.out.size⟩; have BK_gi := Aside0.mk hbox; replace HB := Aside0.mk (below_step HB.out hb); clear hg hbox hb; have hq_gi_0 : wx1.cell? ⟨gi, 0, none⟩ = some (.int .u8 s) := (blk_cell BK_gi.out 0).trans rfl; have hf_gi_0 : wx1.frozen? ⟨gi, 0, none⟩ = false := blk_frozen BK_gi.out 0; have hq_gi_1 : wx1.cell? ⟨gi, 1, none⟩ = some (.int .u8 sh) := (blk_cell BK_gi.out 1).trans rfl; have hf_gi_1 : wx1.frozen? ⟨gi, 1, none⟩ = false := blk_frozen BK_gi.out 1; have hq_gi_2 : wx1.cell? ⟨gi, 2, none⟩ = some (.int .i64 m) := (blk_cell BK_gi.out 2).trans rfl; have hf_gi_2 : wx1.frozen? ⟨gi, 2, none⟩ = false := blk_frozen BK_gi.out 2; have hq_gi_3 : wx1.cell? ⟨gi, 3, none⟩ = some (.slice A3 gs.length c3) := (blk_cell BK_gi.out 3).trans rfl; have hf_gi_3 : wx1.frozen? ⟨gi, 3, none⟩ = false := blk_frozen BK_gi.out 3) | (go_at_call 9; refine (info_Windows.calls (gs.length + 1) s sh m A3 c3 gs many 0 _ (Kd.C_below HR3.out HB.out) HC3.out HWB.out).mono ?_; rintro e wx2 ⟨rfl, hb⟩; replace BK_gi := Aside0.mk (blk_below BK_gi.out hb); replace HB := Aside0.mk (below_step HB.out hb); clear hb; clear hq_gi_0 hf_gi_0 hq_gi_1 hf_gi_1 hq_gi_2 hf_gi_2 hq_gi_3 hf_gi_3; have hq_gi_0 : wx2.cell? ⟨gi, 0, none⟩ = some (.int .u8 s) := (blk_cell BK_gi.out 0).trans rfl; have hf_gi_0 : wx2.frozen? ⟨gi, 0, none⟩ = false := blk_frozen BK_gi.out 0; have hq_gi_1 : wx2.cell? ⟨gi, 1, none⟩ = some (.int .u8 sh) := (blk_cell BK_gi.out 1).trans rfl; have hf_gi_1 : wx2.frozen? ⟨gi, 1, none⟩ = false := blk_frozen BK_gi.out 1; have hq_gi_2 : wx2.cell? ⟨gi, 2, none⟩ = some (.int .i64 m) := (blk_cell BK_gi.out 2).trans rfl; have hf_gi_2 : wx2.frozen? ⟨gi, 2, none⟩ = false := blk_frozen BK_gi.out 2; have hq_gi_3 : wx2.cell? ⟨gi, 3, none⟩ = some (.slice A3 gs.length c3) := (blk_cell BK_gi.out 3).trans rfl; have hf_gi_3 : wx2.frozen? ⟨gi, 3, none⟩ = false := blk_frozen BK_gi.out 3))
    go_ret
    exact ⟨rfl, HB.out⟩
  have HV2 : Aside0 (r = if l.all (winOk s) = true then (0 : Int) else 8) := ⟨by rw [HV.out]; unfold tnsOk; rw [hs, ← hm, beq_iff_eq.mpr hn]; rfl⟩
  have bn : ((l.length : Int) != many) = false := bne_eq_false_iff_eq.mpr hn
  clear hs HV hm hn
  have HB : Aside0 (Below w.heap.size w w) := ⟨Below.refl _ _⟩
  go_enter Try.func10, Try.ntmps10
  go_wp2_with (first | ((with_reducible refine gate_dst (N := 2) rfl ?_); refine box_event ?hg (N := 2) ?hd (cs := #[.int .u8 s, .int .u8 sh, .int .i64 m, .slice A3 gs.length c3]) (t := 24) ?hr ?_; (case hd => rfl); (case hg => rfl); (case hr => first | (go_simp; done) | (go_simp; rfl)); intro gi hg wx1 hbox hb; have HG_gi : Aside0 (w.heap.size ≤ gi) := ⟨by rw [hg]; exact HB.out.size⟩; have BK_gi := Aside0.mk hbox; replace HB := Aside0.mk (below_step HB.out hb); clear hg hbox hb; have hq_gi_0 : wx1.cell? ⟨gi, 0, none⟩ = some (.int .u8 s) := (blk_cell BK_gi.out 0).trans rfl; have hf_gi_0 : wx1.frozen? ⟨gi, 0, none⟩ = false := blk_frozen BK_gi.out 0; have hq_gi_1 : wx1.cell? ⟨gi, 1, none⟩ = some (.int .u8 sh) := (blk_cell BK_gi.out 1).trans rfl; have hf_gi_1 : wx1.frozen? ⟨gi, 1, none⟩ = false := blk_frozen BK_gi.out 1; have hq_gi_2 : wx1.cell? ⟨gi, 2, none⟩ = some (.int .i64 m) := (blk_cell BK_gi.out 2).trans rfl; have hf_gi_2 : wx1.frozen? ⟨gi, 2, none⟩ = false := blk_frozen BK_gi.out 2; have hq_gi_3 : wx1.cell? ⟨gi, 3, none⟩ = some (.slice A3 gs.length c3) := (blk_cell BK_gi.out 3).trans rfl; have hf_gi_3 : wx1.frozen? ⟨gi, 3, none⟩ = false := blk_frozen BK_gi.out 3) | (go_at_call 9; refine (info_Windows.calls (gs.length + 1) s sh m A3 c3 gs many 0 _ (Kd.C_below HR3.out HB.out) HC3.out HWB.out).mono ?_; rintro e wx2 ⟨rfl, hb⟩; replace BK_gi := Aside0.mk (blk_below BK_gi.out hb); replace HB := Aside0.mk (below_step HB.out hb); clear hb; clear hq_gi_0 hf_gi_0 hq_gi_1 hf_gi_1 hq_gi_2 hf_gi_2 hq_gi_3 hf_gi_3; have hq_gi_0 : wx2.cell? ⟨gi, 0, none⟩ = some (.int .u8 s) := (blk_cell BK_gi.out 0).trans rfl; have hf_gi_0 : wx2.frozen? ⟨gi, 0, none⟩ = false := blk_frozen BK_gi.out 0; have hq_gi_1 : wx2.cell? ⟨gi, 1, none⟩ = some (.int .u8 sh) := (blk_cell BK_gi.out 1).trans rfl; have hf_gi_1 : wx2.frozen? ⟨gi, 1, none⟩ = false := blk_frozen BK_gi.out 1; have hq_gi_2 : wx2.cell? ⟨gi, 2, none⟩ = some (.int .i64 m) := (blk_cell BK_gi.out 2).trans rfl; have hf_gi_2 : wx2.frozen? ⟨gi, 2, none⟩ = false := blk_frozen BK_gi.out 2; have hq_gi_3 : wx2.cell? ⟨gi, 3, none⟩ = some (.slice A3 gs.length c3) := (blk_cell BK_gi.out 3).trans rfl; have hf_gi_3 : wx2.frozen? ⟨gi, 3, none⟩ = false := blk_frozen BK_gi.out 3))
  clear hq_gi_0 hf_gi_0 hq_gi_1 hf_gi_1 hq_gi_2 hf_gi_2 hq_gi_3 hf_gi_3 bn
  go_loopg [23] l.length (fun gg s23 wr => ∃ kk : Nat, kk ≤ l.length ∧ l.length - kk ≤ gg ∧ s23 = .int .i64 kk ∧ Aside0 (Below w.heap.size w wr) ∧ Aside0 (wr.heap[gi]? = some (.cells #[.int .u8 s, .int .u8 sh, .int .i64 m, .slice A3 gs.length c3] 24 (0, 0))) ∧ Aside0 ((l.take kk).all (winOk s) = true))
  case atStart => exact ⟨0, Nat.zero_le _, by omega, rfl, HB, BK_gi, ⟨by simp⟩⟩
  case round =>
    clear HB BK_gi
    obtain ⟨kk, hkk, hg, rfl, HB, BK_gi, OK⟩ := hrel
    by_cases hlt : kk < l.length
    · have hltz : (kk : Int) < (l.length : Int) := by omega
      obtain ⟨ad, A0, c0, rfl, qe0, hlw, hCW⟩ := at_L7 HL.out (kk : Int) (by omega) hltz
      rw [Int.toNat_natCast] at qe0
      have qe := pw_cell_below HB.out qe0
      clear qe0
      have HE := Aside0.mk (rdL_at l kk hlt)
      generalize rd_L7 l (kk : Int) = wl at qe hlw hCW HE
      have HCW0 := Aside0.mk hCW
      have HWM := Aside0.mk (Kd.C_max hCW)
      clear hCW hlw
      have hq_gi_0 : wr.cell? ⟨gi, 0, none⟩ = some (.int .u8 s) := (blk_cell BK_gi.out 0).trans rfl
      have hf_gi_0 : wr.frozen? ⟨gi, 0, none⟩ = false := blk_frozen BK_gi.out 0
      have hq_gi_1 : wr.cell? ⟨gi, 1, none⟩ = some (.int .u8 sh) := (blk_cell BK_gi.out 1).trans rfl
      have hf_gi_1 : wr.frozen? ⟨gi, 1, none⟩ = false := blk_frozen BK_gi.out 1
      have hq_gi_2 : wr.cell? ⟨gi, 2, none⟩ = some (.int .i64 m) := (blk_cell BK_gi.out 2).trans rfl
      have hf_gi_2 : wr.frozen? ⟨gi, 2, none⟩ = false := blk_frozen BK_gi.out 2
      have hq_gi_3 : wr.cell? ⟨gi, 3, none⟩ = some (.slice A3 gs.length c3) := (blk_cell BK_gi.out 3).trans rfl
      have hf_gi_3 : wr.frozen? ⟨gi, 3, none⟩ = false := blk_frozen BK_gi.out 3
      have HG_gi : Aside0 (0 ≤ gi) := ⟨Nat.zero_le _⟩
      go_wp2_with (first | ((with_reducible refine gate_dst (N := 8) rfl ?_); refine box_event ?hg (N := 8) ?hd (cs := #[.slice none 0 0]) (t := 35) ?hr ?_; (case hd => rfl); (case hg => rfl); (case hr => first | (go_simp; done) | (go_simp; rfl)); intro gw hg wx1 hbox hb; have HG_gw : Aside0 (w.heap.size ≤ gw) := ⟨by rw [hg]; exact HB.out.size⟩; have NE_gi_gw : Aside0 (gi ≠ gw) := ⟨by rw [hg]; exact Nat.ne_of_lt (blk_lt BK_gi.out)⟩; have na_gi_gw : gi ≠ gw := NE_gi_gw.out; have nb_gi_gw : gw ≠ gi := Ne.symm NE_gi_gw.out; replace BK_gi := Aside0.mk (blk_below BK_gi.out hb); have BK_gw := Aside0.mk hbox; replace HB := Aside0.mk (below_step HB.out hb); clear hg hbox hb; clear hq_gi_0 hf_gi_0 hq_gi_1 hf_gi_1 hq_gi_2 hf_gi_2 hq_gi_3 hf_gi_3; have hq_gi_0 : wx1.cell? ⟨gi, 0, none⟩ = some (.int .u8 s) := (blk_cell BK_gi.out 0).trans rfl; have hf_gi_0 : wx1.frozen? ⟨gi, 0, none⟩ = false := blk_frozen BK_gi.out 0; have hq_gi_1 : wx1.cell? ⟨gi, 1, none⟩ = some (.int .u8 sh) := (blk_cell BK_gi.out 1).trans rfl; have hf_gi_1 : wx1.frozen? ⟨gi, 1, none⟩ = false := blk_frozen BK_gi.out 1; have hq_gi_2 : wx1.cell? ⟨gi, 2, none⟩ = some (.int .i64 m) := (blk_cell BK_gi.out 2).trans rfl; have hf_gi_2 : wx1.frozen? ⟨gi, 2, none⟩ = false := blk_frozen BK_gi.out 2; have hq_gi_3 : wx1.cell? ⟨gi, 3, none⟩ = some (.slice A3 gs.length c3) := (blk_cell BK_gi.out 3).trans rfl; have hf_gi_3 : wx1.frozen? ⟨gi, 3, none⟩ = false := blk_frozen BK_gi.out 3; have hq_gw_0 : wx1.cell? ⟨gw, 0, none⟩ = some (.slice none 0 0) := (blk_cell BK_gw.out 0).trans rfl; have hf_gw_0 : wx1.frozen? ⟨gw, 0, none⟩ = false := blk_frozen BK_gw.out 0))
      have BI : Aside0 ((wx1.setCell ⟨gw, 0, none⟩ (.slice A0 wl.length c0)).heap[gi]? = some (.cells #[.int .u8 s, .int .u8 sh, .int .i64 m, .slice A3 gs.length c3] 24 (0, 0))) := ⟨by with_reducible refine blk_far ?_ NE_gi_gw.out _; exact BK_gi.out⟩
      have BW : Aside0 ((wx1.setCell ⟨gw, 0, none⟩ (.slice A0 wl.length c0)).heap[gw]? = some (.cells #[.slice A0 wl.length c0] 35 (0, 0))) := ⟨blk_put BK_gw.out 0 _ rfl⟩
      have HZ : Aside0 (Below w.heap.size w (wx1.setCell ⟨gw, 0, none⟩ (.slice A0 wl.length c0))) := ⟨below_set HB.out HG_gw.out⟩
      have HCW : Aside0 (Kd.C k38 (wx1.setCell ⟨gw, 0, none⟩ (.slice A0 wl.length c0)) A0 wl.length wl) := ⟨Kd.C_below HCW0.out HZ.out⟩
      generalize (wx1.setCell ⟨gw, 0, none⟩ (.slice A0 wl.length c0)) = wz at BI BW HZ HCW ⊢
      clear hq_gi_0 hf_gi_0 hq_gi_1 hf_gi_1 hq_gi_2 hf_gi_2 hq_gi_3 hf_gi_3 hq_gw_0 hf_gw_0 na_gi_gw nb_gi_gw BK_gi BK_gw HB HCW0
      have qi0 : wz.cell? ⟨gi, 0, none⟩ = some (.int .u8 s) := (blk_cell BI.out 0).trans rfl
      have qi1 : wz.cell? ⟨gi, 1, none⟩ = some (.int .u8 sh) := (blk_cell BI.out 1).trans rfl
      have qi2 : wz.cell? ⟨gi, 2, none⟩ = some (.int .i64 m) := (blk_cell BI.out 2).trans rfl
      have qi3 : wz.cell? ⟨gi, 3, none⟩ = some (.slice A3 gs.length c3) := (blk_cell BI.out 3).trans rfl
      have qw0 : wz.cell? ⟨gw, 0, none⟩ = some (.slice A0 wl.length c0) := (blk_cell BW.out 0).trans rfl
      have hix := fun W => index5_3 (numF s) (lenF s) (ordF s) (mostF s) (topF s) W
      by_cases hgr : mostF s < (wl.length : Int)
      · obtain rfl : r = 8 := by rw [HV2.out, if_neg]; intro h; have := List.all_eq_true.1 h l[kk] (List.getElem_mem hlt); rw [← HE.out] at this; unfold winOk at this; rw [decide_eq_false (by omega)] at this; cases this
        have bg : decide (mostF s < (wl.length : Int)) = true := decide_eq_true hgr
        clear hgr
        refine start_ (n := 11) (S := fun w' => w'.cell? ⟨gi, 0, none⟩ = some (.int .u8 s) ∧ w'.cell? ⟨gi, 1, none⟩ = some (.int .u8 sh) ∧ w'.cell? ⟨gi, 2, none⟩ = some (.int .i64 m) ∧ w'.cell? ⟨gi, 3, none⟩ = some (.slice A3 gs.length c3) ∧ w'.cell? ⟨gw, 0, none⟩ = some (.slice A0 wl.length c0) ∧ Aside0 (w'.heap[gi]? = some (.cells #[.int .u8 s, .int .u8 sh, .int .i64 m, .slice A3 gs.length c3] 24 (0, 0))) ∧ Aside0 (w'.heap[gw]? = some (.cells #[.slice A0 wl.length c0] 35 (0, 0))) ∧ Aside0 (Below w.heap.size w w') ∧ Aside0 (Kd.C k38 w' A0 wl.length wl)) (ds := []) #[false, false, false, false, false, false, false, false, false, false, false] (by kernel_rfl) rfl rfl ⟨qi0, qi1, qi2, qi3, qw0, ⟨BI.out⟩, ⟨BW.out⟩, ⟨below_drew1 HZ.out⟩, ⟨Kd.C_drew HCW.out⟩⟩ (fun hHeld => ?_)
        refine take_ (i := 0) (N := some 27) (v := ?_) (a' := ?_) (HS.pre 11 1) rfl rfl (by kernel_rfl) (fun _ _ _ h => h) (Or.inl ⟨by rfl, ?_⟩) hHeld ?_ ?_
        rotate_left
        · rintro w' ⟨s0, s1, s2, s3, s4, s5, s6, s7, s8⟩
          go_simp
          with_reducible rfl
        rotate_left
        · simp only [Act.put, List.setIfInBounds_toArray, List.set_cons_zero, List.set_cons_succ, i64_w, i32_w]
          rfl
        refine pure_ (i := 1) (N := some 28) (v := ?_) (a' := ?_) (HS.pre 11 2) rfl rfl (by kernel_rfl) (fun _ _ _ h => h) (Or.inl ⟨by rfl, ?_⟩) ?_ ?_
        rotate_left
        · intro w'
          go_simp
          with_reducible rfl
        rotate_left
        · simp only [Act.put, List.setIfInBounds_toArray, List.set_cons_zero, List.set_cons_succ, i64_w, i32_w]
          rfl
        refine take_ (i := 2) (N := some 29) (v := ?_) (a' := ?_) (HS.pre 11 3) rfl rfl (by kernel_rfl) (fun _ _ _ h => h) (Or.inl ⟨by rfl, ?_⟩) hHeld ?_ ?_
        rotate_left
        · rintro w' ⟨s0, s1, s2, s3, s4, s5, s6, s7, s8⟩
          go_simp
          with_reducible rfl
        rotate_left
        · simp only [Act.put, List.setIfInBounds_toArray, List.set_cons_zero, List.set_cons_succ, i64_w, i32_w]
          rfl
        refine one_ (i := 3) (N := some 30) (HS.pre 11 4) rfl rfl (by kernel_rfl) (by decide) (fun K hK => ?_)
        refine goes_ Try.func17 (by kernel_rfl) rfl #[.agg #[.int .u8 s, .int .u8 sh, .int .i64 m, .slice A3 gs.length c3]] (by rfl) rfl rfl (by simp only [List.map_toArray, List.map_cons, List.map_nil]; rfl) ?_
        with_reducible refine (sizes_calls' s sh m A3 gs.length c3 _).mono ?_
        rintro e w3 ⟨rfl, hb⟩
        refine ⟨_, rfl, ?_⟩
        refine hK.out _ _ ⟨pw_cell_below hb hHeld.1, pw_cell_below hb hHeld.2.1, pw_cell_below hb hHeld.2.2.1, pw_cell_below hb hHeld.2.2.2.1, pw_cell_below hb hHeld.2.2.2.2.1, ⟨blk_below hHeld.2.2.2.2.2.1.out hb⟩, ⟨blk_below hHeld.2.2.2.2.2.2.1.out hb⟩, ⟨below_step hHeld.2.2.2.2.2.2.2.1.out hb⟩, ⟨Kd.C_below hHeld.2.2.2.2.2.2.2.2.out hb⟩⟩ (fun hHeld => ?_)
        clear hK K
        refine norm_ (a' := ?_) ?_ ?_
        rotate_left
        · show Act.put _ (some 30) _ = _
          simp only [Act.put, List.setIfInBounds_toArray, List.set_cons_zero, List.set_cons_succ, i64_w, i32_w]
          rfl
        refine take_ (i := 4) (N := some 31) (v := ?_) (a' := ?_) (HS.pre 11 5) rfl rfl (by kernel_rfl) (fun _ _ _ h => h) (Or.inl ⟨by rfl, ?_⟩) hHeld ?_ ?_
        rotate_left
        · rintro w' ⟨s0, s1, s2, s3, s4, s5, s6, s7, s8⟩
          go_simp
          with_reducible rfl
        rotate_left
        · simp only [Act.put, List.setIfInBounds_toArray, List.set_cons_zero, List.set_cons_succ, i64_w, i32_w]
          rfl
        refine pure_ (i := 5) (N := some 32) (v := ?_) (a' := ?_) (HS.pre 11 6) rfl rfl (by kernel_rfl) (fun _ _ _ h => h) (Or.inl ⟨by rfl, ?_⟩) ?_ ?_
        rotate_left
        · intro w'
          go_simp
          with_reducible rfl
        rotate_left
        · simp only [Act.put, List.setIfInBounds_toArray, List.set_cons_zero, List.set_cons_succ, i64_w, i32_w]
          rfl
        refine pure_ (i := 6) (N := some 33) (v := ?_) (a' := ?_) (HS.pre 11 7) rfl rfl (by kernel_rfl) (fun _ _ _ h => h) (Or.inl ⟨by rfl, ?_⟩) ?_ ?_
        rotate_left
        · intro w'
          go_simp
          with_reducible rfl
        rotate_left
        · simp only [Act.put, List.setIfInBounds_toArray, List.set_cons_zero, List.set_cons_succ, i64_w, i32_w]
          rfl
        refine pure_ (i := 7) (N := some 34) (v := undef) (a' := ?_) (HS.pre 11 8) rfl rfl (by kernel_rfl) (fun _ _ _ h => h) (Or.inr ⟨by rfl, rfl⟩) ?_ ?_
        rotate_left
        · simp only [Act.put, List.setIfInBounds_toArray, List.set_cons_zero, List.set_cons_succ, i64_w, i32_w]
          rfl
        refine pure_ (i := 8) (N := some 35) (v := undef) (a' := ?_) (HS.pre 11 9) rfl rfl (by kernel_rfl) (fun _ _ _ h => h) (Or.inr ⟨by rfl, rfl⟩) ?_ ?_
        rotate_left
        · simp only [Act.put, List.setIfInBounds_toArray, List.set_cons_zero, List.set_cons_succ, i64_w, i32_w]
          rfl
        refine pure_ (i := 9) (N := some 36) (v := undef) (a' := ?_) (HS.pre 11 10) rfl rfl (by kernel_rfl) (fun _ _ _ h => h) (Or.inr ⟨by rfl, rfl⟩) ?_ ?_
        rotate_left
        · simp only [Act.put, List.setIfInBounds_toArray, List.set_cons_zero, List.set_cons_succ, i64_w, i32_w]
          rfl
        refine pure_ (i := 10) (N := some 37) (v := ?_) (a' := ?_) (HS.pre 11 11) rfl rfl (by kernel_rfl) (fun _ _ _ h => h) (Or.inl ⟨by rfl, ?_⟩) ?_ ?_
        rotate_left
        · intro w'
          go_simp
          with_reducible rfl
        rotate_left
        · simp only [Act.put, List.setIfInBounds_toArray, List.set_cons_zero, List.set_cons_succ, i64_w, i32_w]
          rfl
        refine done_ (by kernel_rfl) ?_
        have HBX := hHeld.2.2.2.2.2.2.2.1
        clear hHeld
        go_wp2
        go_ret
        exact ⟨rfl, HBX.out⟩
      · have bg : decide (mostF s < (wl.length : Int)) = false := decide_eq_false hgr
        have bg' : decide ((wl.length : Int) ≤ mostF s) = true := decide_eq_true (by omega)
        have BG := Aside0.mk bg'
        clear hgr bg'
        obtain ⟨an, han⟩ : ∃ x, x = wl.any (odd1 s (fineOf wl)) := ⟨_, rfl⟩
        have HAN : Aside0 (∀ W, W.heap[gi]? = some (.cells #[.int .u8 s, .int .u8 sh, .int .i64 m, .slice A3 gs.length c3] 24 (0, 0)) → W.heap[gw]? = some (.cells #[.slice A0 wl.length c0] 35 (0, 0)) → Kd.C k38 W A0 wl.length wl → Calls Try.prog 18 #[.slice A0 wl.length c0, .func (.func 19) #[] #[.pointer (some ⟨gi, 0, none⟩), .pointer (some ⟨gw, 0, none⟩)]] W fun e w' => e = .returned (.bool an) ∧ Below W.heap.size W w') := ⟨fun W h1 h2 h3 => by rw [han]; exact HCF.contains_calls (odd1 s (fineOf wl)) 19 #[.pointer (some ⟨gi, 0, none⟩), .pointer (some ⟨gw, 0, none⟩)] (enters_of Try.func19 (by kernel_rfl) rfl) A0 c0 wl W (pred1 s sh m A3 gs.length c3 gi gw A0 wl c0 W h1 h2 h3) h3 HWM.out⟩
        have HA := Aside0.mk han
        clear han
        cases an with
        | true =>
          obtain rfl : r = 8 := by rw [HV2.out, if_neg]; intro h; have := List.all_eq_true.1 h l[kk] (List.getElem_mem hlt); rw [← HE.out] at this; unfold winOk at this; rw [← HA.out] at this; simp at this
          refine start_ (n := 11) (S := fun w' => w'.cell? ⟨gi, 0, none⟩ = some (.int .u8 s) ∧ w'.cell? ⟨gi, 1, none⟩ = some (.int .u8 sh) ∧ w'.cell? ⟨gi, 2, none⟩ = some (.int .i64 m) ∧ w'.cell? ⟨gi, 3, none⟩ = some (.slice A3 gs.length c3) ∧ w'.cell? ⟨gw, 0, none⟩ = some (.slice A0 wl.length c0) ∧ Aside0 (w'.heap[gi]? = some (.cells #[.int .u8 s, .int .u8 sh, .int .i64 m, .slice A3 gs.length c3] 24 (0, 0))) ∧ Aside0 (w'.heap[gw]? = some (.cells #[.slice A0 wl.length c0] 35 (0, 0))) ∧ Aside0 (Below w.heap.size w w') ∧ Aside0 (Kd.C k38 w' A0 wl.length wl)) (ds := []) #[false, false, false, false, false, false, false, false, false, false, false] (by kernel_rfl) rfl rfl ⟨qi0, qi1, qi2, qi3, qw0, ⟨BI.out⟩, ⟨BW.out⟩, ⟨below_drew1 HZ.out⟩, ⟨Kd.C_drew HCW.out⟩⟩ (fun hHeld => ?_)
          refine take_ (i := 0) (N := some 27) (v := ?_) (a' := ?_) (HS.pre 11 1) rfl rfl (by kernel_rfl) (fun _ _ _ h => h) (Or.inl ⟨by rfl, ?_⟩) hHeld ?_ ?_
          rotate_left
          · rintro w' ⟨s0, s1, s2, s3, s4, s5, s6, s7, s8⟩
            go_simp
            with_reducible rfl
          rotate_left
          · simp only [Act.put, List.setIfInBounds_toArray, List.set_cons_zero, List.set_cons_succ, i64_w, i32_w]
            rfl
          refine pure_ (i := 1) (N := some 28) (v := ?_) (a' := ?_) (HS.pre 11 2) rfl rfl (by kernel_rfl) (fun _ _ _ h => h) (Or.inl ⟨by rfl, ?_⟩) ?_ ?_
          rotate_left
          · intro w'
            go_simp
            with_reducible rfl
          rotate_left
          · simp only [Act.put, List.setIfInBounds_toArray, List.set_cons_zero, List.set_cons_succ, i64_w, i32_w]
            rfl
          refine take_ (i := 2) (N := some 29) (v := ?_) (a' := ?_) (HS.pre 11 3) rfl rfl (by kernel_rfl) (fun _ _ _ h => h) (Or.inl ⟨by rfl, ?_⟩) hHeld ?_ ?_
          rotate_left
          · rintro w' ⟨s0, s1, s2, s3, s4, s5, s6, s7, s8⟩
            go_simp
            with_reducible rfl
          rotate_left
          · simp only [Act.put, List.setIfInBounds_toArray, List.set_cons_zero, List.set_cons_succ, i64_w, i32_w]
            rfl
          refine one_ (i := 3) (N := some 30) (HS.pre 11 4) rfl rfl (by kernel_rfl) (by decide) (fun K hK => ?_)
          refine goes_ Try.func17 (by kernel_rfl) rfl #[.agg #[.int .u8 s, .int .u8 sh, .int .i64 m, .slice A3 gs.length c3]] (by rfl) rfl rfl (by simp only [List.map_toArray, List.map_cons, List.map_nil]; rfl) ?_
          with_reducible refine (sizes_calls' s sh m A3 gs.length c3 _).mono ?_
          rintro e w3 ⟨rfl, hb⟩
          refine ⟨_, rfl, ?_⟩
          refine hK.out _ _ ⟨pw_cell_below hb hHeld.1, pw_cell_below hb hHeld.2.1, pw_cell_below hb hHeld.2.2.1, pw_cell_below hb hHeld.2.2.2.1, pw_cell_below hb hHeld.2.2.2.2.1, ⟨blk_below hHeld.2.2.2.2.2.1.out hb⟩, ⟨blk_below hHeld.2.2.2.2.2.2.1.out hb⟩, ⟨below_step hHeld.2.2.2.2.2.2.2.1.out hb⟩, ⟨Kd.C_below hHeld.2.2.2.2.2.2.2.2.out hb⟩⟩ (fun hHeld => ?_)
          clear hK K
          refine norm_ (a' := ?_) ?_ ?_
          rotate_left
          · show Act.put _ (some 30) _ = _
            simp only [Act.put, List.setIfInBounds_toArray, List.set_cons_zero, List.set_cons_succ, i64_w, i32_w]
            rfl
          refine take_ (i := 4) (N := some 31) (v := ?_) (a' := ?_) (HS.pre 11 5) rfl rfl (by kernel_rfl) (fun _ _ _ h => h) (Or.inl ⟨by rfl, ?_⟩) hHeld ?_ ?_
          rotate_left
          · rintro w' ⟨s0, s1, s2, s3, s4, s5, s6, s7, s8⟩
            go_simp
            with_reducible rfl
          rotate_left
          · simp only [Act.put, List.setIfInBounds_toArray, List.set_cons_zero, List.set_cons_succ, i64_w, i32_w]
            rfl
          refine pure_ (i := 5) (N := some 32) (v := ?_) (a' := ?_) (HS.pre 11 6) rfl rfl (by kernel_rfl) (fun _ _ _ h => h) (Or.inl ⟨by rfl, ?_⟩) ?_ ?_
          rotate_left
          · intro w'
            go_simp
            with_reducible rfl
          rotate_left
          · simp only [Act.put, List.setIfInBounds_toArray, List.set_cons_zero, List.set_cons_succ, i64_w, i32_w]
            rfl
          refine pure_ (i := 6) (N := some 33) (v := ?_) (a' := ?_) (HS.pre 11 7) rfl rfl (by kernel_rfl) (fun _ _ _ h => h) (Or.inl ⟨by rfl, ?_⟩) ?_ ?_
          rotate_left
          · intro w'
            go_simp
            with_reducible rfl
          rotate_left
          · simp only [Act.put, List.setIfInBounds_toArray, List.set_cons_zero, List.set_cons_succ, i64_w, i32_w]
            rfl
          refine pure_ (i := 8) (N := some 35) (v := ?_) (a' := ?_) #[true, true, true, true, true, true, true, false, true, false, false] rfl rfl (by kernel_rfl) (fun _ _ _ h => h) (Or.inl ⟨by rfl, ?_⟩) ?_ ?_
          rotate_left
          · intro w'
            go_simp
            with_reducible rfl
          rotate_left
          · simp only [Act.put, List.setIfInBounds_toArray, List.set_cons_zero, List.set_cons_succ, i64_w, i32_w]
            rfl
          refine take_ (i := 7) (N := some 34) (v := ?_) (a' := ?_) (HS.pre 11 9) rfl rfl (by kernel_rfl) (fun _ _ _ h => h) (Or.inl ⟨by rfl, ?_⟩) hHeld ?_ ?_
          rotate_left
          · rintro w' ⟨s0, s1, s2, s3, s4, s5, s6, s7, s8⟩
            go_simp
            with_reducible rfl
          rotate_left
          · simp only [Act.put, List.setIfInBounds_toArray, List.set_cons_zero, List.set_cons_succ, i64_w, i32_w]
            rfl
          refine one_ (i := 9) (N := some 36) (HS.pre 11 10) rfl rfl (by kernel_rfl) (by decide) (fun K hK => ?_)
          refine goes_ Try.func18 (by kernel_rfl) rfl #[.slice A0 wl.length c0, .func (.func 19) #[] #[.pointer (some ⟨gi, 0, none⟩), .pointer (some ⟨gw, 0, none⟩)]] (by rfl) rfl rfl (by simp only [List.map_toArray, List.map_cons, List.map_nil]; rfl) ?_
          with_reducible refine (HAN.out _ hHeld.2.2.2.2.2.1.out hHeld.2.2.2.2.2.2.1.out hHeld.2.2.2.2.2.2.2.2.out).mono ?_
          rintro e w4 ⟨rfl, hb⟩
          refine ⟨_, rfl, ?_⟩
          refine hK.out _ _ ⟨pw_cell_below hb hHeld.1, pw_cell_below hb hHeld.2.1, pw_cell_below hb hHeld.2.2.1, pw_cell_below hb hHeld.2.2.2.1, pw_cell_below hb hHeld.2.2.2.2.1, ⟨blk_below hHeld.2.2.2.2.2.1.out hb⟩, ⟨blk_below hHeld.2.2.2.2.2.2.1.out hb⟩, ⟨below_step hHeld.2.2.2.2.2.2.2.1.out hb⟩, ⟨Kd.C_below hHeld.2.2.2.2.2.2.2.2.out hb⟩⟩ (fun hHeld => ?_)
          clear hK K
          refine norm_ (a' := ?_) ?_ ?_
          rotate_left
          · show Act.put _ (some 36) _ = _
            simp only [Act.put, List.setIfInBounds_toArray, List.set_cons_zero, List.set_cons_succ, i64_w, i32_w]
            rfl
          refine pure_ (i := 10) (N := some 37) (v := ?_) (a' := ?_) (HS.pre 11 11) rfl rfl (by kernel_rfl) (fun _ _ _ h => h) (Or.inl ⟨by rfl, ?_⟩) ?_ ?_
          rotate_left
          · intro w'
            go_simp
            with_reducible rfl
          rotate_left
          · simp only [Act.put, List.setIfInBounds_toArray, List.set_cons_zero, List.set_cons_succ, i64_w, i32_w]
            rfl
          refine done_ (by kernel_rfl) ?_
          have HBX := hHeld.2.2.2.2.2.2.2.1
          clear hHeld
          go_wp2
          go_ret
          exact ⟨rfl, by repeat (with_reducible first | exact HBX.out | apply below_drew1 | apply pw_below_drewN)⟩
        | false =>
          refine start_ (n := 11) (S := fun w' => w'.cell? ⟨gi, 0, none⟩ = some (.int .u8 s) ∧ w'.cell? ⟨gi, 1, none⟩ = some (.int .u8 sh) ∧ w'.cell? ⟨gi, 2, none⟩ = some (.int .i64 m) ∧ w'.cell? ⟨gi, 3, none⟩ = some (.slice A3 gs.length c3) ∧ w'.cell? ⟨gw, 0, none⟩ = some (.slice A0 wl.length c0) ∧ Aside0 (w'.heap[gi]? = some (.cells #[.int .u8 s, .int .u8 sh, .int .i64 m, .slice A3 gs.length c3] 24 (0, 0))) ∧ Aside0 (w'.heap[gw]? = some (.cells #[.slice A0 wl.length c0] 35 (0, 0))) ∧ Aside0 (Below w.heap.size w w') ∧ Aside0 (Kd.C k38 w' A0 wl.length wl)) (ds := []) #[false, false, false, false, false, false, false, false, false, false, false] (by kernel_rfl) rfl rfl ⟨qi0, qi1, qi2, qi3, qw0, ⟨BI.out⟩, ⟨BW.out⟩, ⟨below_drew1 HZ.out⟩, ⟨Kd.C_drew HCW.out⟩⟩ (fun hHeld => ?_)
          refine take_ (i := 0) (N := some 27) (v := ?_) (a' := ?_) (HS.pre 11 1) rfl rfl (by kernel_rfl) (fun _ _ _ h => h) (Or.inl ⟨by rfl, ?_⟩) hHeld ?_ ?_
          rotate_left
          · rintro w' ⟨s0, s1, s2, s3, s4, s5, s6, s7, s8⟩
            go_simp
            with_reducible rfl
          rotate_left
          · simp only [Act.put, List.setIfInBounds_toArray, List.set_cons_zero, List.set_cons_succ, i64_w, i32_w]
            rfl
          refine pure_ (i := 1) (N := some 28) (v := ?_) (a' := ?_) (HS.pre 11 2) rfl rfl (by kernel_rfl) (fun _ _ _ h => h) (Or.inl ⟨by rfl, ?_⟩) ?_ ?_
          rotate_left
          · intro w'
            go_simp
            with_reducible rfl
          rotate_left
          · simp only [Act.put, List.setIfInBounds_toArray, List.set_cons_zero, List.set_cons_succ, i64_w, i32_w]
            rfl
          refine take_ (i := 2) (N := some 29) (v := ?_) (a' := ?_) (HS.pre 11 3) rfl rfl (by kernel_rfl) (fun _ _ _ h => h) (Or.inl ⟨by rfl, ?_⟩) hHeld ?_ ?_
          rotate_left
          · rintro w' ⟨s0, s1, s2, s3, s4, s5, s6, s7, s8⟩
            go_simp
            with_reducible rfl
          rotate_left
          · simp only [Act.put, List.setIfInBounds_toArray, List.set_cons_zero, List.set_cons_succ, i64_w, i32_w]
            rfl
          refine one_ (i := 3) (N := some 30) (HS.pre 11 4) rfl rfl (by kernel_rfl) (by decide) (fun K hK => ?_)
          refine goes_ Try.func17 (by kernel_rfl) rfl #[.agg #[.int .u8 s, .int .u8 sh, .int .i64 m, .slice A3 gs.length c3]] (by rfl) rfl rfl (by simp only [List.map_toArray, List.map_cons, List.map_nil]; rfl) ?_
          with_reducible refine (sizes_calls' s sh m A3 gs.length c3 _).mono ?_
          rintro e w3 ⟨rfl, hb⟩
          refine ⟨_, rfl, ?_⟩
          refine hK.out _ _ ⟨pw_cell_below hb hHeld.1, pw_cell_below hb hHeld.2.1, pw_cell_below hb hHeld.2.2.1, pw_cell_below hb hHeld.2.2.2.1, pw_cell_below hb hHeld.2.2.2.2.1, ⟨blk_below hHeld.2.2.2.2.2.1.out hb⟩, ⟨blk_below hHeld.2.2.2.2.2.2.1.out hb⟩, ⟨below_step hHeld.2.2.2.2.2.2.2.1.out hb⟩, ⟨Kd.C_below hHeld.2.2.2.2.2.2.2.2.out hb⟩⟩ (fun hHeld => ?_)
          clear hK K
          refine norm_ (a' := ?_) ?_ ?_
          rotate_left
          · show Act.put _ (some 30) _ = _
            simp only [Act.put, List.setIfInBounds_toArray, List.set_cons_zero, List.set_cons_succ, i64_w, i32_w]
            rfl
          refine take_ (i := 4) (N := some 31) (v := ?_) (a' := ?_) (HS.pre 11 5) rfl rfl (by kernel_rfl) (fun _ _ _ h => h) (Or.inl ⟨by rfl, ?_⟩) hHeld ?_ ?_
          rotate_left
          · rintro w' ⟨s0, s1, s2, s3, s4, s5, s6, s7, s8⟩
            go_simp
            with_reducible rfl
          rotate_left
          · simp only [Act.put, List.setIfInBounds_toArray, List.set_cons_zero, List.set_cons_succ, i64_w, i32_w]
            rfl
          refine pure_ (i := 5) (N := some 32) (v := ?_) (a' := ?_) (HS.pre 11 6) rfl rfl (by kernel_rfl) (fun _ _ _ h => h) (Or.inl ⟨by rfl, ?_⟩) ?_ ?_
          rotate_left
          · intro w'
            go_simp
            with_reducible rfl
          rotate_left
          · simp only [Act.put, List.setIfInBounds_toArray, List.set_cons_zero, List.set_cons_succ, i64_w, i32_w]
            rfl
          refine pure_ (i := 6) (N := some 33) (v := ?_) (a' := ?_) (HS.pre 11 7) rfl rfl (by kernel_rfl) (fun _ _ _ h => h) (Or.inl ⟨by rfl, ?_⟩) ?_ ?_
          rotate_left
          · intro w'
            go_simp
            with_reducible rfl
          rotate_left
          · simp only [Act.put, List.setIfInBounds_toArray, List.set_cons_zero, List.set_cons_succ, i64_w, i32_w]
            rfl
          refine pure_ (i := 8) (N := some 35) (v := ?_) (a' := ?_) #[true, true, true, true, true, true, true, false, true, false, false] rfl rfl (by kernel_rfl) (fun _ _ _ h => h) (Or.inl ⟨by rfl, ?_⟩) ?_ ?_
          rotate_left
          · intro w'
            go_simp
            with_reducible rfl
          rotate_left
          · simp only [Act.put, List.setIfInBounds_toArray, List.set_cons_zero, List.set_cons_succ, i64_w, i32_w]
            rfl
          refine take_ (i := 7) (N := some 34) (v := ?_) (a' := ?_) (HS.pre 11 9) rfl rfl (by kernel_rfl) (fun _ _ _ h => h) (Or.inl ⟨by rfl, ?_⟩) hHeld ?_ ?_
          rotate_left
          · rintro w' ⟨s0, s1, s2, s3, s4, s5, s6, s7, s8⟩
            go_simp
            with_reducible rfl
          rotate_left
          · simp only [Act.put, List.setIfInBounds_toArray, List.set_cons_zero, List.set_cons_succ, i64_w, i32_w]
            rfl
          refine one_ (i := 9) (N := some 36) (HS.pre 11 10) rfl rfl (by kernel_rfl) (by decide) (fun K hK => ?_)
          refine goes_ Try.func18 (by kernel_rfl) rfl #[.slice A0 wl.length c0, .func (.func 19) #[] #[.pointer (some ⟨gi, 0, none⟩), .pointer (some ⟨gw, 0, none⟩)]] (by rfl) rfl rfl (by simp only [List.map_toArray, List.map_cons, List.map_nil]; rfl) ?_
          with_reducible refine (HAN.out _ hHeld.2.2.2.2.2.1.out hHeld.2.2.2.2.2.2.1.out hHeld.2.2.2.2.2.2.2.2.out).mono ?_
          rintro e w4 ⟨rfl, hb⟩
          refine ⟨_, rfl, ?_⟩
          refine hK.out _ _ ⟨pw_cell_below hb hHeld.1, pw_cell_below hb hHeld.2.1, pw_cell_below hb hHeld.2.2.1, pw_cell_below hb hHeld.2.2.2.1, pw_cell_below hb hHeld.2.2.2.2.1, ⟨blk_below hHeld.2.2.2.2.2.1.out hb⟩, ⟨blk_below hHeld.2.2.2.2.2.2.1.out hb⟩, ⟨below_step hHeld.2.2.2.2.2.2.2.1.out hb⟩, ⟨Kd.C_below hHeld.2.2.2.2.2.2.2.2.out hb⟩⟩ (fun hHeld => ?_)
          clear hK K
          refine norm_ (a' := ?_) ?_ ?_
          rotate_left
          · show Act.put _ (some 36) _ = _
            simp only [Act.put, List.setIfInBounds_toArray, List.set_cons_zero, List.set_cons_succ, i64_w, i32_w]
            rfl
          refine pure_ (i := 10) (N := some 37) (v := ?_) (a' := ?_) (HS.pre 11 11) rfl rfl (by kernel_rfl) (fun _ _ _ h => h) (Or.inl ⟨by rfl, ?_⟩) ?_ ?_
          rotate_left
          · intro w'
            go_simp
            with_reducible rfl
          rotate_left
          · simp only [Act.put, List.setIfInBounds_toArray, List.set_cons_zero, List.set_cons_succ, i64_w, i32_w]
            rfl
          refine done_ (by kernel_rfl) ?_
          have HBX := hHeld.2.2.2.2.2.2.2.1
          have BIX := hHeld.2.2.2.2.2.1
          clear hHeld
          go_wp2
          go_roundg (l.length - (kk + 1))
          case measure => omega
          case rel =>
            refine ⟨kk + 1, by omega, by omega, by have := HLM.out; congr 1; unfold wrap64; omega, ⟨by repeat (with_reducible first | exact HBX.out | apply below_drew1 | apply pw_below_drewN)⟩, ⟨BIX.out⟩, ⟨?_⟩⟩
            rw [all_take_succ _ l kk hlt, OK.out, ← HE.out]
            unfold winOk
            rw [BG.out, ← HA.out]
            rfl
    · have hltz : ¬ (kk : Int) < (l.length : Int) := by omega
      obtain rfl : kk = l.length := by omega
      obtain rfl : r = 0 := by rw [HV2.out, if_pos]; have := OK.out; rwa [List.take_length] at this
      go_wp2
      go_ret
      exact ⟨rfl, HB.out⟩
end Go.Proofs.Ytdhcgfdnhlhapaa.HS
end
section
/- tnsbits.Put's closure: so many bits of a number behind the bits so far. -/
namespace Go.Proofs.Ytdhcgfdnhlhapaa.HS
open Go.RowKit Go.Shelf Go.Proofs.YtdhcgfdnhlhapaaW.PrintWords Go.Proofs.YtdhcgfdnhlhapaaW.PrintLast Go.Proofs.YtdhcgfdnhlhapaaW.PrintMore Go.Proofs.Ytdhcgfdnhlhapaa.K
set_option linter.unusedVariables false
set_option linter.unusedSimpArgs false

theorem pow_dvd (k m : Nat) (h : k ≤ m) : (2 : Int) ^ k ∣ 2 ^ m := ⟨2 ^ (m - k), by rw [← Int.pow_add, show k + (m - k) = m by omega]⟩
theorem and_mask (n : Int) (k : Nat) (hk : k ≤ 62) : bits BinOp.and IntKind.i64 n (2 ^ k - 1) = n % 2 ^ k := by
  have hp : (2 : Nat) ^ k ≤ 2 ^ 62 := Nat.pow_le_pow_right (by omega) hk
  have hp0 : 0 < (2 : Nat) ^ k := Nat.two_pow_pos k
  have hc : ((2 : Int) ^ k) = (((2 : Nat) ^ k : Nat) : Int) := by simp
  have hd : (2 : Int) ^ 64 % 2 ^ k = 0 := Int.emod_eq_zero_of_dvd (pow_dvd k 64 (by omega))
  show IntKind.i64.wrap ((BitVec.ofInt 64 n &&& BitVec.ofInt 64 (2 ^ k - 1)).toNat : Int) = _
  have h1 : (BitVec.ofInt 64 (2 ^ k - 1)).toNat = 2 ^ k - 1 := by
    rw [BitVec.toNat_ofInt, hc, Int.emod_eq_of_lt (by omega) (by simp; omega)]
    omega
  have h2 : ((BitVec.ofInt 64 n).toNat : Int) = n % 2 ^ 64 := by
    rw [BitVec.toNat_ofInt]
    have := Int.emod_nonneg n (show ((2 : Int) ^ 64) ≠ 0 by decide)
    simp
    omega
  rw [BitVec.toNat_and, h1, Nat.and_two_pow_sub_one_eq_mod]
  have h3 : (((BitVec.ofInt 64 n).toNat % 2 ^ k : Nat) : Int) = n % 2 ^ k := by
    push_cast
    rw [h2]
    exact Int.emod_emod_of_dvd n (pow_dvd k 64 (by omega))
  rw [h3, IntKind.wrap_i64]
  have h4 := Int.emod_nonneg n (show ((2 : Int) ^ k) ≠ 0 by rw [hc]; omega)
  have h5 := Int.emod_lt_of_pos n (show 0 < ((2 : Int) ^ k) by rw [hc]; omega)
  omega
/-- Between two statements of Put: the bits so far, in their box; the numbers of bits. -/
def PutW (w0 : World) (B X : Nat) (s : Int) (W : World) (xs : List Int) (A : Option Addr) (c : Nat) : Prop :=
  (w0.heap.size ≤ B ∧ w0.heap.size ≤ X ∧ B ≠ X) ∧ Below w0.heap.size w0 W ∧ W.heap[X]? = some (.cells #[.int .i64 (numF s), .int .i64 (lenF s), .int .i64 (ordF s), .int .i64 (mostF s), .int .i64 (topF s)] 51 (0, 0)) ∧
  W.heap[B]? = some (.cells #[.slice A xs.length c] 32 (0, 0)) ∧ Kd.R (Kd.int .u8) 5 W w0.heap.size (fun _ => True) (.slice A xs.length c) xs
section
variable {w0 : World} {B X : Nat} {s : Int} {W W1 : World} {xs : List Int} {A : Option Addr} {c : Nat}
theorem PutW.below (h : PutW w0 B X s W xs A c) (hb : Below W.heap.size W W1) : PutW w0 B X s W1 xs A c := by
  obtain ⟨hd, h1, h2, h3, h4⟩ := h
  exact ⟨hd, below_step h1 hb, blk_below h2 hb, blk_below h3 hb, Kd.R_below h4 hb⟩
theorem PutW.put {ys : List Int} {A1 : Option Addr} {c1 : Nat} (h : PutW w0 B X s W xs A c) (hb : Below W.heap.size W W1) (hr : Kd.R (Kd.int .u8) 5 W1 W.heap.size (fun _ => True) (.slice A1 ys.length c1) ys) : PutW w0 B X s (W1.setCell ⟨B, 0, none⟩ (.slice A1 ys.length c1)) ys A1 c1 := by
  have hb0 := h.2.1.size
  obtain ⟨hd, h1, h2, h3, h4⟩ := h.below hb
  exact ⟨hd, below_set h1 hd.1, blk_far h2 (Ne.symm hd.2.2) _, blk_put h3 0 _ rfl, Kd.R_set (Kd.R_lower hr hb0) h3 (by decide) 0 _⟩
end
theorem size_cases {size : Int} (h0 : 1 ≤ size) (h1 : size ≤ 6) : size = 1 ∨ size = 2 ∨ size = 3 ∨ size = 4 ∨ size = 5 ∨ size = 6 := by omega
theorem run_shl1 {size : Int} (h0 : 1 ≤ size) (h1 : size ≤ 6) (W : World) : (Op.shift BinOp.shl IntKind.i64 1 IntKind.i64 size).run Try.prog W = .ok (.int .i64 (2 ^ size.toNat)) W := by
  rcases size_cases h0 h1 with rfl | rfl | rfl | rfl | rfl | rfl <;> kernel_rfl
set_option maxHeartbeats 4000000 in
set_option maxRecDepth 100000 in
theorem put1_calls {w0 : World} {B X : Nat} {s : Int} {W : World} {xs : List Int} {A : Option Addr} {c : Nat} (n size : Int) (ys : List Int) (h : PutW w0 B X s W xs A c) (h0 : 1 ≤ size) (h1 : size ≤ 6) (hl : xs.length ≤ 100000000) (hy : ys = xs ++ HA.bitsOf (n % 2 ^ size.toNat) size.toNat) :
    Calls Try.prog 22 #[.int .i64 n, .int .i64 size, .pointer (some ⟨B, 0, none⟩)] W fun e w' => e = .returned (.tuple #[]) ∧ KeepBut W w' B none ∧ ∃ A' c', PutW w0 B X s w' ys A' c' := by
  have HP := Aside0.mk h
  obtain ⟨_, hlc, hC⟩ := Kd.R_reads' h.2.2.2.2
  have HC := Aside0.mk hC
  have HLC := Aside0.mk hlc
  have qB : W.cell? ⟨B, 0, none⟩ = some (.slice A xs.length c) := (blk_cell h.2.2.2.1 0).trans rfl
  have fB : W.frozen? ⟨B, 0, none⟩ = false := blk_frozen h.2.2.2.1 0
  have hp : (2 : Int) ^ size.toNat ≤ 64 ∧ 2 ≤ (2 : Int) ^ size.toNat := by rcases size_cases h0 h1 with rfl | rfl | rfl | rfl | rfl | rfl <;> decide
  have hm0 := Int.emod_nonneg n (show (2 : Int) ^ size.toNat ≠ 0 by omega)
  have hm1 := Int.emod_lt_of_pos n (show 0 < (2 : Int) ^ size.toNat by omega)
  have HPUT : Aside0 (bits_Put.f xs (n % 2 ^ size.toNat) size = some (ys, 0)) := ⟨by rw [hy]; exact SP.put_ok xs _ size (by omega) (by omega) hm0 hm1 hl⟩
  have HM := Aside0.mk (and_mask n size.toNat (by omega))
  have hsh := run_shl1 h0 h1
  have hw : IntKind.i64.wrap (2 ^ size.toNat - 1) = 2 ^ size.toNat - 1 := by rw [IntKind.wrap_i64]; omega
  have ham := HM.out
  clear h hlc hC hp hm0 hm1 h0 h1 hl hy
  go_enter Try.func22, Try.ntmps22
  go_wp2
  refine start_ (n := 12) (S := fun w' => w'.cell? ⟨B, 0, none⟩ = some (.slice A xs.length c) ∧ w'.frozen? ⟨B, 0, none⟩ = false ∧ Aside0 (Below W.heap.size W w')) (ds := [11]) #[false, false, false, false, false, false, false, false, false, false, false, false] (by kernel_rfl) rfl rfl ⟨qB, fB, ⟨below_drew1 (Below.refl _ _)⟩⟩ (fun hHeld => ?_)
  refine pure_ (i := 1) (N := some 7) (v := ?_) (a' := ?_) #[false, true, false, false, false, false, false, false, false, false, false, false] rfl rfl (by kernel_rfl) (fun _ _ _ h => h) (Or.inl ⟨by rfl, ?_⟩) ?_ ?_
  rotate_left
  · intro w'
    go_simp
    with_reducible rfl
  rotate_left
  · simp only [Act.put, List.setIfInBounds_toArray, List.set_cons_zero, List.set_cons_succ, i64_w, i32_w]
    rfl
  refine pure_ (i := 2) (N := some 8) (v := ?_) (a' := ?_) #[false, true, true, false, false, false, false, false, false, false, false, false] rfl rfl (by kernel_rfl) (fun _ _ _ h => h) (Or.inl ⟨by rfl, ?_⟩) ?_ ?_
  rotate_left
  · intro w'
    go_simp
    with_reducible rfl
  rotate_left
  · simp only [Act.put, List.setIfInBounds_toArray, List.set_cons_zero, List.set_cons_succ, i64_w, i32_w]
    rfl
  refine pure_ (i := 3) (N := some 9) (v := ?_) (a' := ?_) #[false, true, true, true, false, false, false, false, false, false, false, false] rfl rfl (by kernel_rfl) (fun _ _ _ h => h) (Or.inl ⟨by rfl, ?_⟩) ?_ ?_
  rotate_left
  · intro w'
    go_simp
    with_reducible rfl
  rotate_left
  · simp only [Act.put, List.setIfInBounds_toArray, List.set_cons_zero, List.set_cons_succ, i64_w, i32_w]
    rfl
  refine pure_ (i := 4) (N := some 10) (v := ?_) (a' := ?_) #[false, true, true, true, true, false, false, false, false, false, false, false] rfl rfl (by kernel_rfl) (fun _ _ _ h => h) (Or.inl ⟨by rfl, ?_⟩) ?_ ?_
  rotate_left
  · intro w'
    go_simp
    with_reducible rfl
  rotate_left
  · simp only [Act.put, List.setIfInBounds_toArray, List.set_cons_zero, List.set_cons_succ, i64_w, i32_w]
    rfl
  refine pure_ (i := 5) (N := some 11) (v := ?_) (a' := ?_) #[false, true, true, true, true, true, false, false, false, false, false, false] rfl rfl (by kernel_rfl) (fun _ _ _ h => h) (Or.inl ⟨by rfl, ?_⟩) ?_ ?_
  rotate_left
  · intro w'
    go_simp
    with_reducible rfl
  rotate_left
  · simp only [Act.put, List.setIfInBounds_toArray, List.set_cons_zero, List.set_cons_succ, i64_w, i32_w]
    rfl
  refine pure_ (i := 6) (N := some 12) (v := ?_) (a' := ?_) #[false, true, true, true, true, true, true, false, false, false, false, false] rfl rfl (by kernel_rfl) (fun _ _ _ h => h) (Or.inl ⟨by rfl, ?_⟩) ?_ ?_
  rotate_left
  · intro w'
    go_simp
    with_reducible rfl
  rotate_left
  · simp only [Act.put, List.setIfInBounds_toArray, List.set_cons_zero, List.set_cons_succ, i64_w, i32_w]
    rfl
  refine take_ (i := 0) (N := some 6) (v := ?_) (a' := ?_) (HS.pre 12 7) rfl rfl (by kernel_rfl) (fun _ _ _ h => h) (Or.inl ⟨by rfl, ?_⟩) hHeld ?_ ?_
  rotate_left
  · rintro w' ⟨s0, s1, s2⟩
    go_simp
    with_reducible rfl
  rotate_left
  · simp only [Act.put, List.setIfInBounds_toArray, List.set_cons_zero, List.set_cons_succ, i64_w, i32_w]
    rfl
  refine one_ (i := 7) (N := some 13) (HS.pre 12 8) rfl rfl (by kernel_rfl) (by decide) (fun K hK => ?_)
  refine goes_ Try.func23 (by kernel_rfl) rfl #[.slice A xs.length c, .int .i64 (n % 2 ^ size.toNat), .int .i64 size] (by rfl) rfl rfl (by simp only [List.map_toArray, List.map_cons, List.map_nil]; rfl) ?_
  with_reducible refine (bits_Put.calls A c xs (n % 2 ^ size.toNat) size ys 0 _ (Kd.C_below HC.out hHeld.2.2.out) HLC.out HPUT.out).mono ?_
  rintro e w3 ⟨v3, rfl, ho, hb⟩
  obtain ⟨A3, c3, rfl⟩ := Kd.R_slice ho
  have HO3 := Aside0.mk (Kd.R_lower ho hHeld.2.2.out.size)
  clear ho
  refine ⟨_, rfl, ?_⟩
  refine hK.out _ _ ⟨pw_cell_below hb hHeld.1, (hb.frozen (p := ⟨B, 0, none⟩) (World.block_lt_of_cell? _ _ hHeld.1)).trans hHeld.2.1, ⟨below_step hHeld.2.2.out hb⟩⟩ (fun hHeld => ?_)
  clear hK K
  refine norm_ (a' := ?_) ?_ ?_
  rotate_left
  · show Act.put _ (some 13) _ = _
    simp only [Act.put, List.setIfInBounds_toArray, List.set_cons_zero, List.set_cons_succ, i64_w, i32_w]
    rfl
  refine pure_ (i := 8) (N := some 5) (v := ?_) (a' := ?_) (HS.pre 12 9) rfl rfl (by kernel_rfl) (fun _ _ _ h => h) (Or.inl ⟨by rfl, ?_⟩) ?_ ?_
  rotate_left
  · intro w'
    go_simp
    with_reducible rfl
  rotate_left
  · simp only [Act.put, List.setIfInBounds_toArray, List.set_cons_zero, List.set_cons_succ, i64_w, i32_w]
    rfl
  refine pure_ (i := 9) (N := some 14) (v := ?_) (a' := ?_) (HS.pre 12 10) rfl rfl (by kernel_rfl) (fun _ _ _ h => h) (Or.inl ⟨by rfl, ?_⟩) ?_ ?_
  rotate_left
  · intro w'
    go_simp
    with_reducible rfl
  rotate_left
  · simp only [Act.put, List.setIfInBounds_toArray, List.set_cons_zero, List.set_cons_succ, i64_w, i32_w]
    rfl
  refine pure_ (i := 10) (N := some 15) (v := ?_) (a' := ?_) (HS.pre 12 11) rfl rfl (by kernel_rfl) (fun _ _ _ h => h) (Or.inl ⟨by rfl, ?_⟩) ?_ ?_
  rotate_left
  · intro w'
    go_simp
    with_reducible rfl
  rotate_left
  · simp only [Act.put, List.setIfInBounds_toArray, List.set_cons_zero, List.set_cons_succ, i64_w, i32_w]
    rfl
  refine last_ (i := 11) (N := none) (HS.pre 12 12) rfl rfl (by kernel_rfl) (by decide) (fun K hK => ?_)
  refine skip_ (w1 := ?_) (by rfl) rfl ?_ ?_
  rotate_left
  · go_simp
    rfl
  refine hK.out _ _ ?_
  clear hK K
  refine done_ (by kernel_rfl) ?_
  go_wp2
  go_end0
  have hb := hHeld.2.2.out
  exact ⟨rfl, (KeepBut.of_below hb _ _).set_ 0 _, _, _, HP.out.put hb HO3.out⟩
end Go.Proofs.Ytdhcgfdnhlhapaa.HS
end
section
/- tnsbits.Put: filters as bits, behind the bits so far. -/
namespace Go.Proofs.Ytdhcgfdnhlhapaa.HS
open Go.RowKit Go.Shelf Go.Proofs.YtdhcgfdnhlhapaaW.PrintWords Go.Proofs.YtdhcgfdnhlhapaaW.PrintLast Go.Proofs.YtdhcgfdnhlhapaaW.PrintMore Go.Proofs.Ytdhcgfdnhlhapaa.K
set_option linter.unusedVariables false
set_option linter.unusedSimpArgs false

theorem tnsOk_ok {s sh m : Int} {gs : List Int} {l : List (List Filt)} (h : tnsOk s sh m gs l = true) : SP.someS s sh m gs = true ∧ (l.length : Int) = manyF s ∧ ∀ w ∈ l, winOk s w = true := by
  unfold tnsOk at h
  simp only [Bool.and_eq_true, beq_iff_eq] at h
  exact ⟨h.1.1, h.1.2, fun w hw => List.all_eq_true.1 h.2 w hw⟩
theorem tnsBits_le {s sh m : Int} {gs : List Int} {l : List (List Filt)} (h : tnsOk s sh m gs l = true) : (tnsBits s l).length ≤ 1488 := by
  obtain ⟨_, h1, h2⟩ := tnsOk_ok h
  have h3 := flat_le (winBits s) 186 l (fun w hw => winBits_le (h2 w hw))
  have h4 : l.length ≤ 8 := by unfold manyF at h1; split at h1 <;> omega
  have : 186 * l.length ≤ 186 * 8 := Nat.mul_le_mul_left 186 h4
  unfold tnsBits
  omega
section
variable {w0 : World} {B X g : Nat} {s : Int} {W : World} {xs : List Int} {A : Option Addr} {c : Nat} {t : TypeId} {z0 z1 z2 z3 z4 : Value}
theorem PutW.start (hd : w0.heap.size ≤ B ∧ w0.heap.size ≤ X ∧ B ≠ X) (hb : Below w0.heap.size w0 W) (bX : W.heap[X]? = some (.cells #[z0, z1, z2, z3, z4] 51 (0, 0))) (bB : W.heap[B]? = some (.cells #[.slice A xs.length c] 32 (0, 0)))
    (hr : Kd.R (Kd.int .u8) 5 W w0.heap.size (fun _ => True) (.slice A xs.length c) xs) :
    PutW w0 B X s (((((W.setCell ⟨X, 0, none⟩ (.int .i64 (numF s))).setCell ⟨X, 1, none⟩ (.int .i64 (lenF s))).setCell ⟨X, 2, none⟩ (.int .i64 (ordF s))).setCell ⟨X, 3, none⟩ (.int .i64 (mostF s))).setCell ⟨X, 4, none⟩ (.int .i64 (topF s))) xs A c := by
  have b1 := blk_put bX 0 (.int .i64 (numF s)) rfl
  have b2 := blk_put b1 1 (.int .i64 (lenF s)) rfl
  have b3 := blk_put b2 2 (.int .i64 (ordF s)) rfl
  have b4 := blk_put b3 3 (.int .i64 (mostF s)) rfl
  have b5 := blk_put b4 4 (.int .i64 (topF s)) rfl
  refine ⟨hd, below_set (below_set (below_set (below_set (below_set hb hd.2.1) hd.2.1) hd.2.1) hd.2.1) hd.2.1, b5, ?_, ?_⟩
  · exact blk_far (blk_far (blk_far (blk_far (blk_far bB hd.2.2 _) hd.2.2 _) hd.2.2 _) hd.2.2 _) hd.2.2 _
  · exact Kd.R_set (Kd.R_set (Kd.R_set (Kd.R_set (Kd.R_set hr bX (by decide) 0 _) b1 (by decide) 1 _) b2 (by decide) 2 _) b3 (by decide) 3 _) b4 (by decide) 4 _
theorem PutW.far {j : Nat} {cells : Array Value} (h : PutW w0 B X s W xs A c) (hg : W.heap[g]? = some (.cells cells t (0, 0))) (ht : 5 ≠ t) (h0 : w0.heap.size ≤ g) (n1 : B ≠ g) (n2 : X ≠ g) (u : Value) : PutW w0 B X s (W.setCell ⟨g, j, none⟩ u) xs A c := by
  obtain ⟨hd, h1, h2, h3, h4⟩ := h
  exact ⟨hd, below_set h1 h0, blk_far h2 n2 _, blk_far h3 n1 _, Kd.R_set h4 hg (fun q hq => by
    rcases List.mem_cons.1 hq with rfl | hq
    · exact ht
    · cases hq) j _⟩
theorem PutW.far5 {v0 v1 v2 v3 v4 : Value} (h : PutW w0 B X s W xs A c) (hg : W.heap[g]? = some (.cells #[z0, z1, z2, z3, z4] t (0, 0))) (ht : 5 ≠ t) (h0 : w0.heap.size ≤ g) (n1 : B ≠ g) (n2 : X ≠ g) :
    PutW w0 B X s (((((W.setCell ⟨g, 0, none⟩ v0).setCell ⟨g, 1, none⟩ v1).setCell ⟨g, 2, none⟩ v2).setCell ⟨g, 3, none⟩ v3).setCell ⟨g, 4, none⟩ v4) xs A c ∧
    (((((W.setCell ⟨g, 0, none⟩ v0).setCell ⟨g, 1, none⟩ v1).setCell ⟨g, 2, none⟩ v2).setCell ⟨g, 3, none⟩ v3).setCell ⟨g, 4, none⟩ v4).heap[g]? = some (.cells #[v0, v1, v2, v3, v4] t (0, 0)) := by
  have b1 := blk_put hg 0 v0 rfl
  have b2 := blk_put b1 1 v1 rfl
  have b3 := blk_put b2 2 v2 rfl
  have b4 := blk_put b3 3 v3 rfl
  have b5 := blk_put b4 4 v4 rfl
  exact ⟨((((h.far hg ht h0 n1 n2 v0).far b1 ht h0 n1 n2 v1).far b2 ht h0 n1 n2 v2).far b3 ht h0 n1 n2 v3).far b4 ht h0 n1 n2 v4, b5⟩
theorem PutW.drewN (h : PutW w0 B X s W xs A c) (n : Nat) : PutW w0 B X s (W.drewN n) xs A c := h.below (pw_below_drewN (Below.refl _ _) n)
theorem PutW.len {T : List Int} {rest : List Int} (hT : T.length ≤ 2000000) (h : xs ++ rest = T) : xs.length ≤ 100000000 := by
  rw [← h, List.length_append] at hT
  omega
end
theorem put2_calls {w0 : World} {B X : Nat} {s : Int} {W : World} {xs : List Int} {A : Option Addr} {c : Nat} (n size : Int) (ys : List Int) (h : PutW w0 B X s W xs A c) (h0 : 1 ≤ size) (h1 : size ≤ 6) (hl : xs.length ≤ 100000000) (hy : ys = xs ++ bitsM n size) :
    Calls Try.prog 22 #[.int .i64 n, .int .i64 size, .pointer (some ⟨B, 0, none⟩)] W fun e w' => e = .returned (.tuple #[]) ∧ KeepBut W w' B none ∧ ∃ A' c', PutW w0 B X s w' ys A' c' := put1_calls n size ys h h0 h1 hl hy
theorem flat_drop {α : Type} (f : α → List Int) (l : List α) (k : Nat) (h : k < l.length) : (l.drop k).flatMap f = f l[k] ++ (l.drop (k + 1)).flatMap f := by
  rw [List.drop_eq_getElem_cons h, List.flatMap_cons]
theorem bit_f (b : Bool) : tnsbits_bit.f b = some (b2i b) := by cases b <;> rfl
theorem wide_f (b : Bool) : tnsbits_wide.f b = some (wideS b) := by cases b <;> rfl
set_option maxHeartbeats 16000000 in
set_option maxRecDepth 100000 in
theorem put_calls (A0 : Option Addr) (c0 : Nat) (l0 : List Int) (s sh m : Int) (A3 : Option Addr) (c3 : Nat) (gs : List Int) (A1 : Option Addr) (c1 : Nat) (l : List (List Filt)) (w : World) (hl0 : l0.length ≤ 1000000) (hb0 : gs.length ≤ 17592186044416) (hr0 : Kd.C (Kd.int .u8) w A0 l0.length l0) (hc0 : l0.length ≤ c0) (hr3 : Kd.C (Kd.int .i64) w A3 gs.length gs) (hc3 : gs.length ≤ c3) (hr1 : Kd.C (Kd.slice 38 k38) w A1 l.length l) :
    Calls Try.prog 11 #[.slice A0 l0.length c0, .agg #[.int .u8 s, .int .u8 sh, .int .i64 m, .slice A3 gs.length c3], .slice A1 l.length c1] w fun e w' => ∃ v, e = .returned (.tuple #[v, .int .i64 (if tnsOk s sh m gs l = true then 0 else 8)]) ∧ Kd.R (Kd.int .u8) 5 w' w.heap.size (fun _ => True) v (if tnsOk s sh m gs l = true then l0 ++ tnsBits s l else []) ∧ Below w.heap.size w w' := by
  have HR0 := Aside0.mk hr0
  have HC0 := Aside0.mk hc0
  have HR3 := Aside0.mk hr3
  have HC3 := Aside0.mk hc3
  have HL := Aside0.mk hr1
  have HLM := Aside0.mk (Kd.C_max hr1)
  have HB0 := Aside0.mk hb0
  clear hr0 hc0 hr3 hc3 hr1 hb0
  obtain ⟨ok, hok⟩ : ∃ b, b = tnsOk s sh m gs l := ⟨_, rfl⟩
  rw [← hok]
  have HOK := Aside0.mk hok.symm
  have HCK : Aside0 (∀ W, Kd.C (Kd.int .i64) W A3 gs.length gs → Kd.C (Kd.slice 38 k38) W A1 l.length l → Calls Try.prog 10 #[.agg #[.int .u8 s, .int .u8 sh, .int .i64 m, .slice A3 gs.length c3], .slice A1 l.length c1] W fun e w' => e = .returned (.int .i64 (if ok = true then 0 else 8)) ∧ Below W.heap.size W w') := ⟨fun W h1 h2 => by rw [hok]; exact check_calls s sh m A3 c3 gs A1 c1 l W HB0.out h1 HC3.out h2⟩
  clear hok
  cases ok with
  | false =>
    have HCF : Aside0 (∀ W, Kd.C (Kd.int .i64) W A3 gs.length gs → Kd.C (Kd.slice 38 k38) W A1 l.length l → Calls Try.prog 10 #[.agg #[.int .u8 s, .int .u8 sh, .int .i64 m, .slice A3 gs.length c3], .slice A1 l.length c1] W fun e w' => e = .returned (.int .i64 8) ∧ Below W.heap.size W w') := HCK
    show Calls _ _ _ _ fun e w' => ∃ v, e = .returned (.tuple #[v, .int .i64 8]) ∧ Kd.R (Kd.int .u8) 5 w' w.heap.size (fun _ => True) v [] ∧ Below w.heap.size w w'
    clear HCK
    have HB : Aside0 (Below w.heap.size w w) := ⟨Below.refl _ _⟩
    go_enter Try.func11, Try.ntmps11
    go_wp2_with (first | ((with_reducible refine gate_dst (N := 3) rfl ?_); refine box_event ?hg (N := 3) ?hd (cs := #[.slice A0 l0.length c0]) (t := 32) ?hr ?_; (case hd => rfl); (case hg => rfl); (case hr => first | (go_simp; done) | (go_simp; rfl)); intro gB hg wx1 hbox hb; have HG_gB : Aside0 (w.heap.size ≤ gB) := ⟨by rw [hg]; exact HB.out.size⟩; have BK_gB := Aside0.mk hbox; replace HB := Aside0.mk (below_step HB.out hb); clear hg hbox hb; have hq_gB_0 : wx1.cell? ⟨gB, 0, none⟩ = some (.slice A0 l0.length c0) := (blk_cell BK_gB.out 0).trans rfl; have hf_gB_0 : wx1.frozen? ⟨gB, 0, none⟩ = false := blk_frozen BK_gB.out 0) | ((with_reducible refine gate_dst (N := 4) rfl ?_); refine box_event ?hg (N := 4) ?hd (cs := #[.int .u8 s, .int .u8 sh, .int .i64 m, .slice A3 gs.length c3]) (t := 24) ?hr ?_; (case hd => rfl); (case hg => rfl); (case hr => first | (go_simp; done) | (go_simp; rfl)); intro gi hg wx2 hbox hb; have HG_gi : Aside0 (w.heap.size ≤ gi) := ⟨by rw [hg]; exact HB.out.size⟩; have NE_gB_gi : Aside0 (gB ≠ gi) := ⟨by rw [hg]; exact Nat.ne_of_lt (blk_lt BK_gB.out)⟩; have na_gB_gi : gB ≠ gi := NE_gB_gi.out; have nb_gB_gi : gi ≠ gB := Ne.symm NE_gB_gi.out; replace BK_gB := Aside0.mk (blk_below BK_gB.out hb); have BK_gi := Aside0.mk hbox; replace HB := Aside0.mk (below_step HB.out hb); clear hg hbox hb; clear hq_gB_0 hf_gB_0; have hq_gB_0 : wx2.cell? ⟨gB, 0, none⟩ = some (.slice A0 l0.length c0) := (blk_cell BK_gB.out 0).trans rfl; have hf_gB_0 : wx2.frozen? ⟨gB, 0, none⟩ = false := blk_frozen BK_gB.out 0; have hq_gi_0 : wx2.cell? ⟨gi, 0, none⟩ = some (.int .u8 s) := (blk_cell BK_gi.out 0).trans rfl; have hf_gi_0 : wx2.frozen? ⟨gi, 0, none⟩ = false := blk_frozen BK_gi.out 0; have hq_gi_1 : wx2.cell? ⟨gi, 1, none⟩ = some (.int .u8 sh) := (blk_cell BK_gi.out 1).trans rfl; have hf_gi_1 : wx2.frozen? ⟨gi, 1, none⟩ = false := blk_frozen BK_gi.out 1; have hq_gi_2 : wx2.cell? ⟨gi, 2, none⟩ = some (.int .i64 m) := (blk_cell BK_gi.out 2).trans rfl; have hf_gi_2 : wx2.frozen? ⟨gi, 2, none⟩ = false := blk_frozen BK_gi.out 2; have hq_gi_3 : wx2.cell? ⟨gi, 3, none⟩ = some (.slice A3 gs.length c3) := (blk_cell BK_gi.out 3).trans rfl; have hf_gi_3 : wx2.frozen? ⟨gi, 3, none⟩ = false := blk_frozen BK_gi.out 3) | (go_at_call 10; refine (HCF.out _ (Kd.C_below HR3.out HB.out) (Kd.C_below HL.out HB.out)).mono ?_; rintro e wx3 ⟨rfl, hb⟩; replace BK_gB := Aside0.mk (blk_below BK_gB.out hb); replace BK_gi := Aside0.mk (blk_below BK_gi.out hb); replace HB := Aside0.mk (below_step HB.out hb); clear hb; clear hq_gB_0 hf_gB_0 hq_gi_0 hf_gi_0 hq_gi_1 hf_gi_1 hq_gi_2 hf_gi_2 hq_gi_3 hf_gi_3; have hq_gB_0 : wx3.cell? ⟨gB, 0, none⟩ = some (.slice A0 l0.length c0) := (blk_cell BK_gB.out 0).trans rfl; have hf_gB_0 : wx3.frozen? ⟨gB, 0, none⟩ = false := blk_frozen BK_gB.out 0; have hq_gi_0 : wx3.cell? ⟨gi, 0, none⟩ = some (.int .u8 s) := (blk_cell BK_gi.out 0).trans rfl; have hf_gi_0 : wx3.frozen? ⟨gi, 0, none⟩ = false := blk_frozen BK_gi.out 0; have hq_gi_1 : wx3.cell? ⟨gi, 1, none⟩ = some (.int .u8 sh) := (blk_cell BK_gi.out 1).trans rfl; have hf_gi_1 : wx3.frozen? ⟨gi, 1, none⟩ = false := blk_frozen BK_gi.out 1; have hq_gi_2 : wx3.cell? ⟨gi, 2, none⟩ = some (.int .i64 m) := (blk_cell BK_gi.out 2).trans rfl; have hf_gi_2 : wx3.frozen? ⟨gi, 2, none⟩ = false := blk_frozen BK_gi.out 2; have hq_gi_3 : wx3.cell? ⟨gi, 3, none⟩ = some (.slice A3 gs.length c3) := (blk_cell BK_gi.out 3).trans rfl; have hf_gi_3 : wx3.frozen? ⟨gi, 3, none⟩ = false := blk_frozen BK_gi.out 3))
    go_ret2
    exact ⟨_, rfl, Kd.R_nil _ _ _ _ _, HB.out⟩
  | true =>
    have HCF : Aside0 (∀ W, Kd.C (Kd.int .i64) W A3 gs.length gs → Kd.C (Kd.slice 38 k38) W A1 l.length l → Calls Try.prog 10 #[.agg #[.int .u8 s, .int .u8 sh, .int .i64 m, .slice A3 gs.length c3], .slice A1 l.length c1] W fun e w' => e = .returned (.int .i64 0) ∧ Below W.heap.size W w') := HCK
    show Calls _ _ _ _ fun e w' => ∃ v, e = .returned (.tuple #[v, .int .i64 0]) ∧ Kd.R (Kd.int .u8) 5 w' w.heap.size (fun _ => True) v (l0 ++ tnsBits s l) ∧ Below w.heap.size w w'
    have HW := Aside0.mk (tnsOk_ok HOK.out).2.2
    obtain ⟨T, hT⟩ : ∃ T, T = l0 ++ tnsBits s l := ⟨_, rfl⟩
    have HTL : Aside0 (T.length ≤ 2000000) := ⟨by have := tnsBits_le HOK.out; rw [hT, List.length_append]; omega⟩
    rw [← hT]
    have HT := Aside0.mk hT
    clear hT HCK
    have HCL : Aside0 (slices_Clone_byte_byte.f l0 = some l0) := ⟨by unfold slices_Clone_byte_byte.f; rw [if_pos (by omega)]⟩
    clear hl0
    have HB : Aside0 (Below w.heap.size w w) := ⟨Below.refl _ _⟩
    go_enter Try.func11, Try.ntmps11
    go_wp2_with (first | ((with_reducible refine gate_dst (N := 3) rfl ?_); refine box_event ?hg (N := 3) ?hd (cs := #[.slice A0 l0.length c0]) (t := 32) ?hr ?_; (case hd => rfl); (case hg => rfl); (case hr => first | (go_simp; done) | (go_simp; rfl)); intro gB hg wx1 hbox hb; have HG_gB : Aside0 (w.heap.size ≤ gB) := ⟨by rw [hg]; exact HB.out.size⟩; have BK_gB := Aside0.mk hbox; replace HB := Aside0.mk (below_step HB.out hb); clear hg hbox hb; have hq_gB_0 : wx1.cell? ⟨gB, 0, none⟩ = some (.slice A0 l0.length c0) := (blk_cell BK_gB.out 0).trans rfl; have hf_gB_0 : wx1.frozen? ⟨gB, 0, none⟩ = false := blk_frozen BK_gB.out 0) | ((with_reducible refine gate_dst (N := 4) rfl ?_); refine box_event ?hg (N := 4) ?hd (cs := #[.int .u8 s, .int .u8 sh, .int .i64 m, .slice A3 gs.length c3]) (t := 24) ?hr ?_; (case hd => rfl); (case hg => rfl); (case hr => first | (go_simp; done) | (go_simp; rfl)); intro gi hg wx2 hbox hb; have HG_gi : Aside0 (w.heap.size ≤ gi) := ⟨by rw [hg]; exact HB.out.size⟩; have NE_gB_gi : Aside0 (gB ≠ gi) := ⟨by rw [hg]; exact Nat.ne_of_lt (blk_lt BK_gB.out)⟩; have na_gB_gi : gB ≠ gi := NE_gB_gi.out; have nb_gB_gi : gi ≠ gB := Ne.symm NE_gB_gi.out; replace BK_gB := Aside0.mk (blk_below BK_gB.out hb); have BK_gi := Aside0.mk hbox; replace HB := Aside0.mk (below_step HB.out hb); clear hg hbox hb; clear hq_gB_0 hf_gB_0; have hq_gB_0 : wx2.cell? ⟨gB, 0, none⟩ = some (.slice A0 l0.length c0) := (blk_cell BK_gB.out 0).trans rfl; have hf_gB_0 : wx2.frozen? ⟨gB, 0, none⟩ = false := blk_frozen BK_gB.out 0; have hq_gi_0 : wx2.cell? ⟨gi, 0, none⟩ = some (.int .u8 s) := (blk_cell BK_gi.out 0).trans rfl; have hf_gi_0 : wx2.frozen? ⟨gi, 0, none⟩ = false := blk_frozen BK_gi.out 0; have hq_gi_1 : wx2.cell? ⟨gi, 1, none⟩ = some (.int .u8 sh) := (blk_cell BK_gi.out 1).trans rfl; have hf_gi_1 : wx2.frozen? ⟨gi, 1, none⟩ = false := blk_frozen BK_gi.out 1; have hq_gi_2 : wx2.cell? ⟨gi, 2, none⟩ = some (.int .i64 m) := (blk_cell BK_gi.out 2).trans rfl; have hf_gi_2 : wx2.frozen? ⟨gi, 2, none⟩ = false := blk_frozen BK_gi.out 2; have hq_gi_3 : wx2.cell? ⟨gi, 3, none⟩ = some (.slice A3 gs.length c3) := (blk_cell BK_gi.out 3).trans rfl; have hf_gi_3 : wx2.frozen? ⟨gi, 3, none⟩ = false := blk_frozen BK_gi.out 3) | (go_at_call 10; refine (HCF.out _ (Kd.C_below HR3.out HB.out) (Kd.C_below HL.out HB.out)).mono ?_; rintro e wx3 ⟨rfl, hb⟩; replace BK_gB := Aside0.mk (blk_below BK_gB.out hb); replace BK_gi := Aside0.mk (blk_below BK_gi.out hb); replace HB := Aside0.mk (below_step HB.out hb); clear hb; clear hq_gB_0 hf_gB_0 hq_gi_0 hf_gi_0 hq_gi_1 hf_gi_1 hq_gi_2 hf_gi_2 hq_gi_3 hf_gi_3; have hq_gB_0 : wx3.cell? ⟨gB, 0, none⟩ = some (.slice A0 l0.length c0) := (blk_cell BK_gB.out 0).trans rfl; have hf_gB_0 : wx3.frozen? ⟨gB, 0, none⟩ = false := blk_frozen BK_gB.out 0; have hq_gi_0 : wx3.cell? ⟨gi, 0, none⟩ = some (.int .u8 s) := (blk_cell BK_gi.out 0).trans rfl; have hf_gi_0 : wx3.frozen? ⟨gi, 0, none⟩ = false := blk_frozen BK_gi.out 0; have hq_gi_1 : wx3.cell? ⟨gi, 1, none⟩ = some (.int .u8 sh) := (blk_cell BK_gi.out 1).trans rfl; have hf_gi_1 : wx3.frozen? ⟨gi, 1, none⟩ = false := blk_frozen BK_gi.out 1; have hq_gi_2 : wx3.cell? ⟨gi, 2, none⟩ = some (.int .i64 m) := (blk_cell BK_gi.out 2).trans rfl; have hf_gi_2 : wx3.frozen? ⟨gi, 2, none⟩ = false := blk_frozen BK_gi.out 2; have hq_gi_3 : wx3.cell? ⟨gi, 3, none⟩ = some (.slice A3 gs.length c3) := (blk_cell BK_gi.out 3).trans rfl; have hf_gi_3 : wx3.frozen? ⟨gi, 3, none⟩ = false := blk_frozen BK_gi.out 3) | (go_at_call 21; refine (slices_Clone_byte_byte.calls A0 c0 l0 l0 _ (Kd.C_below HR0.out HB.out) HC0.out HCL.out).mono ?_; rintro e wx4 ⟨v1, rfl, ho, hb⟩; replace BK_gB := Aside0.mk (blk_below BK_gB.out hb); replace BK_gi := Aside0.mk (blk_below BK_gi.out hb); have HBold := HB; replace HB := Aside0.mk (below_step HB.out hb); obtain ⟨A5, c5, rfl⟩ := Kd.R_slice ho; have HO := Aside0.mk (Kd.R_lower ho HBold.out.size); clear ho; clear hb; clear hq_gB_0 hf_gB_0 hq_gi_0 hf_gi_0 hq_gi_1 hf_gi_1 hq_gi_2 hf_gi_2 hq_gi_3 hf_gi_3; have hq_gB_0 : wx4.cell? ⟨gB, 0, none⟩ = some (.slice A0 l0.length c0) := (blk_cell BK_gB.out 0).trans rfl; have hf_gB_0 : wx4.frozen? ⟨gB, 0, none⟩ = false := blk_frozen BK_gB.out 0; have hq_gi_0 : wx4.cell? ⟨gi, 0, none⟩ = some (.int .u8 s) := (blk_cell BK_gi.out 0).trans rfl; have hf_gi_0 : wx4.frozen? ⟨gi, 0, none⟩ = false := blk_frozen BK_gi.out 0; have hq_gi_1 : wx4.cell? ⟨gi, 1, none⟩ = some (.int .u8 sh) := (blk_cell BK_gi.out 1).trans rfl; have hf_gi_1 : wx4.frozen? ⟨gi, 1, none⟩ = false := blk_frozen BK_gi.out 1; have hq_gi_2 : wx4.cell? ⟨gi, 2, none⟩ = some (.int .i64 m) := (blk_cell BK_gi.out 2).trans rfl; have hf_gi_2 : wx4.frozen? ⟨gi, 2, none⟩ = false := blk_frozen BK_gi.out 2; have hq_gi_3 : wx4.cell? ⟨gi, 3, none⟩ = some (.slice A3 gs.length c3) := (blk_cell BK_gi.out 3).trans rfl; have hf_gi_3 : wx4.frozen? ⟨gi, 3, none⟩ = false := blk_frozen BK_gi.out 3; replace HO := Aside0.mk (Kd.R_set HO.out BK_gB.out (by decide) 0 (.slice A5 l0.length c5)); replace BK_gi := Aside0.mk (blk_far (p := ⟨gB, 0, none⟩) BK_gi.out (Ne.symm NE_gB_gi.out) (.slice A5 l0.length c5)); replace BK_gB := Aside0.mk (blk_put BK_gB.out 0 (.slice A5 l0.length c5) rfl); replace HB := Aside0.mk (below_set (j := 0) (v := .slice A5 l0.length c5) HB.out HG_gB.out)) | (go_at_call 17; refine (sizes_calls' s sh m A3 gs.length c3 _).mono ?_; rintro e wx5 ⟨rfl, hb⟩; replace BK_gB := Aside0.mk (blk_below BK_gB.out hb); replace BK_gi := Aside0.mk (blk_below BK_gi.out hb); replace HO := Aside0.mk (Kd.R_below HO.out hb); replace HB := Aside0.mk (below_step HB.out hb); clear hb; clear hq_gB_0 hf_gB_0 hq_gi_0 hf_gi_0 hq_gi_1 hf_gi_1 hq_gi_2 hf_gi_2 hq_gi_3 hf_gi_3; have hq_gB_0 : wx5.cell? ⟨gB, 0, none⟩ = some (.slice A5 l0.length c5) := (blk_cell BK_gB.out 0).trans rfl; have hf_gB_0 : wx5.frozen? ⟨gB, 0, none⟩ = false := blk_frozen BK_gB.out 0; have hq_gi_0 : wx5.cell? ⟨gi, 0, none⟩ = some (.int .u8 s) := (blk_cell BK_gi.out 0).trans rfl; have hf_gi_0 : wx5.frozen? ⟨gi, 0, none⟩ = false := blk_frozen BK_gi.out 0; have hq_gi_1 : wx5.cell? ⟨gi, 1, none⟩ = some (.int .u8 sh) := (blk_cell BK_gi.out 1).trans rfl; have hf_gi_1 : wx5.frozen? ⟨gi, 1, none⟩ = false := blk_frozen BK_gi.out 1; have hq_gi_2 : wx5.cell? ⟨gi, 2, none⟩ = some (.int .i64 m) := (blk_cell BK_gi.out 2).trans rfl; have hf_gi_2 : wx5.frozen? ⟨gi, 2, none⟩ = false := blk_frozen BK_gi.out 2; have hq_gi_3 : wx5.cell? ⟨gi, 3, none⟩ = some (.slice A3 gs.length c3) := (blk_cell BK_gi.out 3).trans rfl; have hf_gi_3 : wx5.frozen? ⟨gi, 3, none⟩ = false := blk_frozen BK_gi.out 3) | ((with_reducible refine gate_dst (N := 10) rfl ?_); refine box_event ?hg (N := 10) ?hd (cs := #[.int .i64 0, .int .i64 0, .int .i64 0, .int .i64 0, .int .i64 0]) (t := 51) ?hr ?_; (case hd => rfl); (case hg => rfl); (case hr => first | (go_simp; done) | (go_simp; rfl)); intro gX hg wx6 hbox hb; have HG_gX : Aside0 (w.heap.size ≤ gX) := ⟨by rw [hg]; exact HB.out.size⟩; have NE_gB_gX : Aside0 (gB ≠ gX) := ⟨by rw [hg]; exact Nat.ne_of_lt (blk_lt BK_gB.out)⟩; have na_gB_gX : gB ≠ gX := NE_gB_gX.out; have nb_gB_gX : gX ≠ gB := Ne.symm NE_gB_gX.out; replace BK_gB := Aside0.mk (blk_below BK_gB.out hb); have NE_gi_gX : Aside0 (gi ≠ gX) := ⟨by rw [hg]; exact Nat.ne_of_lt (blk_lt BK_gi.out)⟩; have na_gi_gX : gi ≠ gX := NE_gi_gX.out; have nb_gi_gX : gX ≠ gi := Ne.symm NE_gi_gX.out; replace BK_gi := Aside0.mk (blk_below BK_gi.out hb); replace HO := Aside0.mk (Kd.R_below HO.out hb); have BK_gX := Aside0.mk hbox; replace HB := Aside0.mk (below_step HB.out hb); clear hg hbox hb; clear hq_gB_0 hf_gB_0 hq_gi_0 hf_gi_0 hq_gi_1 hf_gi_1 hq_gi_2 hf_gi_2 hq_gi_3 hf_gi_3; have hq_gB_0 : wx6.cell? ⟨gB, 0, none⟩ = some (.slice A5 l0.length c5) := (blk_cell BK_gB.out 0).trans rfl; have hf_gB_0 : wx6.frozen? ⟨gB, 0, none⟩ = false := blk_frozen BK_gB.out 0; have hq_gi_0 : wx6.cell? ⟨gi, 0, none⟩ = some (.int .u8 s) := (blk_cell BK_gi.out 0).trans rfl; have hf_gi_0 : wx6.frozen? ⟨gi, 0, none⟩ = false := blk_frozen BK_gi.out 0; have hq_gi_1 : wx6.cell? ⟨gi, 1, none⟩ = some (.int .u8 sh) := (blk_cell BK_gi.out 1).trans rfl; have hf_gi_1 : wx6.frozen? ⟨gi, 1, none⟩ = false := blk_frozen BK_gi.out 1; have hq_gi_2 : wx6.cell? ⟨gi, 2, none⟩ = some (.int .i64 m) := (blk_cell BK_gi.out 2).trans rfl; have hf_gi_2 : wx6.frozen? ⟨gi, 2, none⟩ = false := blk_frozen BK_gi.out 2; have hq_gi_3 : wx6.cell? ⟨gi, 3, none⟩ = some (.slice A3 gs.length c3) := (blk_cell BK_gi.out 3).trans rfl; have hf_gi_3 : wx6.frozen? ⟨gi, 3, none⟩ = false := blk_frozen BK_gi.out 3; have hq_gX_0 : wx6.cell? ⟨gX, 0, none⟩ = some (.int .i64 0) := (blk_cell BK_gX.out 0).trans rfl; have hf_gX_0 : wx6.frozen? ⟨gX, 0, none⟩ = false := blk_frozen BK_gX.out 0; have hq_gX_1 : wx6.cell? ⟨gX, 1, none⟩ = some (.int .i64 0) := (blk_cell BK_gX.out 1).trans rfl; have hf_gX_1 : wx6.frozen? ⟨gX, 1, none⟩ = false := blk_frozen BK_gX.out 1; have hq_gX_2 : wx6.cell? ⟨gX, 2, none⟩ = some (.int .i64 0) := (blk_cell BK_gX.out 2).trans rfl; have hf_gX_2 : wx6.frozen? ⟨gX, 2, none⟩ = false := blk_frozen BK_gX.out 2; have hq_gX_3 : wx6.cell? ⟨gX, 3, none⟩ = some (.int .i64 0) := (blk_cell BK_gX.out 3).trans rfl; have hf_gX_3 : wx6.frozen? ⟨gX, 3, none⟩ = false := blk_frozen BK_gX.out 3; have hq_gX_4 : wx6.cell? ⟨gX, 4, none⟩ = some (.int .i64 0) := (blk_cell BK_gX.out 4).trans rfl; have hf_gX_4 : wx6.frozen? ⟨gX, 4, none⟩ = false := blk_frozen BK_gX.out 4))
    have HP : Aside0 (PutW w gB gX s (((((wx6.setCell ⟨gX, 0, none⟩ (.int .i64 (numF s))).setCell ⟨gX, 1, none⟩ (.int .i64 (lenF s))).setCell ⟨gX, 2, none⟩ (.int .i64 (ordF s))).setCell ⟨gX, 3, none⟩ (.int .i64 (mostF s))).setCell ⟨gX, 4, none⟩ (.int .i64 (topF s))) l0 A5 c5) := ⟨PutW.start ⟨HG_gB.out, HG_gX.out, NE_gB_gX.out⟩ HB.out BK_gX.out BK_gB.out HO.out⟩
    generalize (((((wx6.setCell ⟨gX, 0, none⟩ (.int .i64 (numF s))).setCell ⟨gX, 1, none⟩ (.int .i64 (lenF s))).setCell ⟨gX, 2, none⟩ (.int .i64 (ordF s))).setCell ⟨gX, 3, none⟩ (.int .i64 (mostF s))).setCell ⟨gX, 4, none⟩ (.int .i64 (topF s))) = wz at HP ⊢
    have HQ : Aside0 (l0 ++ (l.drop 0).flatMap (winBits s) = T) := ⟨HT.out.symm⟩
    have HBX := NE_gB_gX
    clear hq_gB_0 hf_gB_0 hq_gi_0 hf_gi_0 hq_gi_1 hf_gi_1 hq_gi_2 hf_gi_2 hq_gi_3 hf_gi_3 hq_gX_0 hf_gX_0 hq_gX_1 hf_gX_1 hq_gX_2 hf_gX_2 hq_gX_3 hf_gX_3 hq_gX_4 hf_gX_4 na_gB_gi na_gB_gX na_gi_gX nb_gB_gi nb_gB_gX nb_gi_gX BK_gB BK_gi BK_gX HO HB HBold
    go_loopg [32] l.length (fun gg s32 wr => ∃ kk xs A c, kk ≤ l.length ∧ l.length - kk ≤ gg ∧ s32 = .int .i64 (kk : Nat) ∧ Aside0 (PutW w gB gX s wr xs A c) ∧ Aside0 (xs ++ (l.drop kk).flatMap (winBits s) = T))
    case atStart => exact ⟨0, l0, A5, c5, Nat.zero_le _, by omega, rfl, HP, HQ⟩
    case round =>
      clear HP HQ
      obtain ⟨kk, xs, A, c, hkk, hg, rfl, HP, HQ⟩ := hrel
      by_cases hlt : kk < l.length
      · have hltz : (kk : Int) < (l.length : Int) := by omega
        obtain ⟨ad, A2, c2, rfl, qe0, hlw, hCW⟩ := at_L7 HL.out (kk : Int) (by omega) hltz
        rw [Int.toNat_natCast] at qe0
        have qe := pw_cell_below HP.out.2.1 qe0
        clear qe0
        have HE := Aside0.mk (rdL_at l kk hlt)
        generalize rd_L7 l (kk : Int) = wl at qe hlw hCW HE
        have HCW := Aside0.mk hCW
        have HWM := Aside0.mk (Kd.C_max hCW)
        clear hCW hlw
        have HWO : Aside0 (winOk s wl = true) := ⟨HW.out wl (by rw [HE.out]; exact List.getElem_mem hlt)⟩
        have HQ1 : Aside0 ((xs ++ bitsM (wl.length : Int) (numF s)) ++ (fineBits wl ++ (wl.flatMap (filtBits s) ++ (l.drop (kk + 1)).flatMap (winBits s))) = T) := ⟨by rw [← HQ.out, flat_drop _ l kk hlt, ← HE.out]; unfold winBits; simp only [List.append_assoc]⟩
        obtain ⟨y1, hy1⟩ : ∃ y, y = xs ++ bitsM (wl.length : Int) (numF s) := ⟨_, rfl⟩
        rw [← hy1] at HQ1
        have HY1 := Aside0.mk hy1
        clear hy1
        have qx0 : wr.cell? ⟨gX, 0, none⟩ = some (.int .i64 (numF s)) := (blk_cell HP.out.2.2.1 0).trans rfl
        have qx1 : wr.cell? ⟨gX, 1, none⟩ = some (.int .i64 (lenF s)) := (blk_cell HP.out.2.2.1 1).trans rfl
        have qx2 : wr.cell? ⟨gX, 2, none⟩ = some (.int .i64 (ordF s)) := (blk_cell HP.out.2.2.1 2).trans rfl
        by_cases hz : wl.length = 0
        case pos =>
          have hz1 : decide (0 < wl.length) = false := decide_eq_false (by omega)
          have HZ := Aside0.mk hz
          clear hz
          go_wp2_with (first | (go_at_call 22; (with_reducible refine (put2_calls ((wl.length : Int)) (numF s) y1 HP.out (by have := numF_rng s; omega) (by have := numF_rng s; omega) (PutW.len HTL.out HQ.out) HY1.out).mono ?_); rintro e wp1 ⟨rfl, hk, A_wp1, c_wp1, hP⟩; have HP_wp1 := Aside0.mk hP; clear hk hP; clear qx0 qx1 qx2; have qx0 : wp1.cell? ⟨gX, 0, none⟩ = some (.int .i64 (numF s)) := (blk_cell HP_wp1.out.2.2.1 0).trans rfl; have qx1 : wp1.cell? ⟨gX, 1, none⟩ = some (.int .i64 (lenF s)) := (blk_cell HP_wp1.out.2.2.1 1).trans rfl; have qx2 : wp1.cell? ⟨gX, 2, none⟩ = some (.int .i64 (ordF s)) := (blk_cell HP_wp1.out.2.2.1 2).trans rfl))
          have HP2 : Aside0 (∃ A c, PutW w gB gX s wp1 y1 A c) := ⟨_, _, HP_wp1.out⟩
          have HQ2 : Aside0 (y1 ++ ((wl.drop 0).flatMap (filtBits s) ++ (l.drop (kk + 1)).flatMap (winBits s)) = T) := ⟨by have := HQ1.out; rwa [show fineBits wl = [] from if_pos HZ.out] at this⟩
          clear HP_wp1 HY1 HQ1 HP HQ HZ hz1 qx0 qx1 qx2 qe
          obtain ⟨Ai, ci, hPi⟩ := HP2.out
          have HPi := Aside0.mk hPi
          clear hPi HP2
          go_loopg [54] wl.length (fun gg s54 wr => ∃ jj xs A c, jj ≤ wl.length ∧ wl.length - jj ≤ gg ∧ s54 = .int .i64 (jj : Nat) ∧ Aside0 (PutW w gB gX s wr xs A c) ∧ Aside0 (xs ++ ((wl.drop jj).flatMap (filtBits s) ++ (l.drop (kk + 1)).flatMap (winBits s)) = T))
          case atStart => exact ⟨0, y1, Ai, ci, Nat.zero_le _, by omega, rfl, HPi, HQ2⟩
          case round =>
            clear HPi HQ2
            obtain ⟨jj, xj, Aj, cj, hjj, hgj, rfl, HP, HQ⟩ := hrel
            by_cases hlt2 : jj < wl.length
            · have hltz2 : (jj : Int) < (wl.length : Int) := by omega
              obtain ⟨ad2, A4, c4, hsm, p0, p1, p2, p3, p4, hl4, hC4⟩ := at_T38 HCW.out (jj : Int) (by omega) hltz2
              cases hsm
              rw [Int.toNat_natCast] at p0 p1 p2 p3 p4
              have HF := Aside0.mk (show rd_T38 wl (jj : Int) = wl[jj] from by unfold rd_T38; rw [Int.toNat_natCast, List.getD_eq_getElem?_getD, List.getElem?_eq_getElem hlt2, Option.getD_some])
              generalize rd_T38 wl (jj : Int) = f at p0 p1 p2 p3 p4 hl4 hC4 HF
              have qe0 := pw_cell_below HP.out.2.1 p0
              have qe1 := pw_cell_below HP.out.2.1 p1
              have qe2 := pw_cell_below HP.out.2.1 p2
              have qe3 := pw_cell_below HP.out.2.1 p3
              have qe4 := pw_cell_below HP.out.2.1 p4
              have HC4 := Aside0.mk hC4
              have HM4 := Aside0.mk (Kd.C_max hC4)
              clear p0 p1 p2 p3 p4 hl4 hC4
              obtain ⟨wd, hwd⟩ : ∃ x, x = wideS f.f3 := ⟨_, rfl⟩
              have hwr := wideS_rng f.f3
              rw [← hwd] at hwr
              obtain ⟨hw3, hw4⟩ := hwr
              have HWF : Aside0 (tnsbits_wide.f f.f3 = some wd) := ⟨by rw [wide_f, hwd]⟩
              obtain ⟨nb, hnb⟩ : ∃ x, x = narrowS f := ⟨_, rfl⟩
              have HFIT : Aside0 (∀ W, Kd.C (Kd.int .i64) W A4 f.f4.length f.f4 → Calls Try.prog 26 #[.slice A4 f.f4.length c4, .int .i64 (wd - 1)] W fun e w' => e = .returned (.bool nb) ∧ Below W.heap.size W w') := ⟨fun W h => by rw [hnb]; unfold narrowS; rw [← hwd]; exact fit_calls A4 c4 f.f4 (wd - 1) (by omega) W h⟩
              have HNB := Aside0.mk hnb
              have HWD := Aside0.mk hwd
              clear hwd hnb
              have hbn := b2i_rng nb
              obtain ⟨hb0, hb1⟩ := hbn
              have HB : Aside0 (Below w.heap.size w wr) := ⟨HP.out.2.1⟩
              have HQ1 : Aside0 (xj ++ (bitsM f.f0 (lenF s) ++ (bitsM f.f1 (ordF s) ++ (tailBits f ++ ((wl.drop (jj + 1)).flatMap (filtBits s) ++ (l.drop (kk + 1)).flatMap (winBits s))))) = T) := ⟨by have := HQ.out; rw [flat_drop _ wl jj hlt2, ← HF.out, show filtBits s f = bitsM f.f0 (lenF s) ++ (bitsM f.f1 (ordF s) ++ tailBits f) from rfl] at this; simpa only [List.append_assoc] using this⟩
              obtain ⟨z1, hz1⟩ : ∃ y, y = xj ++ bitsM (f.f0) (lenF s) := ⟨_, rfl⟩
              have HY_z1 := Aside0.mk hz1
              have HQ2 : Aside0 (z1 ++ (bitsM f.f1 (ordF s) ++ (tailBits f ++ ((wl.drop (jj + 1)).flatMap (filtBits s) ++ (l.drop (kk + 1)).flatMap (winBits s)))) = T) := ⟨by rw [hz1]; simpa only [List.append_assoc] using HQ1.out⟩
              obtain ⟨z2, hz2⟩ : ∃ y, y = z1 ++ bitsM (f.f1) (ordF s) := ⟨_, rfl⟩
              have HY_z2 := Aside0.mk hz2
              have HQ3 : Aside0 (z2 ++ (tailBits f ++ ((wl.drop (jj + 1)).flatMap (filtBits s) ++ (l.drop (kk + 1)).flatMap (winBits s))) = T) := ⟨by rw [hz2]; simpa only [List.append_assoc] using HQ2.out⟩
              clear hz1 hz2
              have qx0 : wr.cell? ⟨gX, 0, none⟩ = some (.int .i64 (numF s)) := (blk_cell HP.out.2.2.1 0).trans rfl
              have qx1 : wr.cell? ⟨gX, 1, none⟩ = some (.int .i64 (lenF s)) := (blk_cell HP.out.2.2.1 1).trans rfl
              have qx2 : wr.cell? ⟨gX, 2, none⟩ = some (.int .i64 (ordF s)) := (blk_cell HP.out.2.2.1 2).trans rfl
              by_cases hord : f.f1 = 0
              case pos =>
                have bo : (f.f1 == 0) = true := beq_iff_eq.mpr hord
                have HORD := Aside0.mk hord
                clear hord
                go_wp2_with (first | ((with_reducible refine gate_dst (N := 14) rfl ?_); refine box_event ?hg (N := 14) ?hd (cs := #[.int .i64 0, .int .i64 0, .bool false, .bool false, .slice none 0 0]) (t := 38) ?hr ?_; (case hd => rfl); (case hg => rfl); (case hr => first | (go_simp; done) | (go_simp; rfl)); intro gf hg wx1 hbox hb; have HG_gf : Aside0 (w.heap.size ≤ gf) := ⟨by rw [hg]; exact HB.out.size⟩; have BK_gf := Aside0.mk hbox; replace HB := Aside0.mk (below_step HB.out hb); have HPb := Aside0.mk (HP.out.below hb); have NEB : Aside0 (gB ≠ gf) := ⟨by rw [hg]; exact Nat.ne_of_lt (blk_lt HP.out.2.2.2.1)⟩; have NEX : Aside0 (gX ≠ gf) := ⟨by rw [hg]; exact Nat.ne_of_lt (blk_lt HP.out.2.2.1)⟩; have nb1 := NEB.out; have nb2 := Ne.symm NEB.out; have nx1 := NEX.out; have nx2 := Ne.symm NEX.out; clear qx0 qx1 qx2; have qx1 : wx1.cell? ⟨gX, 1, none⟩ = some (.int .i64 (lenF s)) := (blk_cell HPb.out.2.2.1 1).trans rfl; have qe0' := pw_cell_below hb qe0; have qe1' := pw_cell_below hb qe1; have qe2' := pw_cell_below hb qe2; have qe3' := pw_cell_below hb qe3; have qe4' := pw_cell_below hb qe4; clear qe0 qe1 qe2 qe3 qe4; clear hg hbox hb; have hq_gf_0 : wx1.cell? ⟨gf, 0, none⟩ = some (.int .i64 0) := (blk_cell BK_gf.out 0).trans rfl; have hf_gf_0 : wx1.frozen? ⟨gf, 0, none⟩ = false := blk_frozen BK_gf.out 0; have hq_gf_1 : wx1.cell? ⟨gf, 1, none⟩ = some (.int .i64 0) := (blk_cell BK_gf.out 1).trans rfl; have hf_gf_1 : wx1.frozen? ⟨gf, 1, none⟩ = false := blk_frozen BK_gf.out 1; have hq_gf_2 : wx1.cell? ⟨gf, 2, none⟩ = some (.bool false) := (blk_cell BK_gf.out 2).trans rfl; have hf_gf_2 : wx1.frozen? ⟨gf, 2, none⟩ = false := blk_frozen BK_gf.out 2; have hq_gf_3 : wx1.cell? ⟨gf, 3, none⟩ = some (.bool false) := (blk_cell BK_gf.out 3).trans rfl; have hf_gf_3 : wx1.frozen? ⟨gf, 3, none⟩ = false := blk_frozen BK_gf.out 3; have hq_gf_4 : wx1.cell? ⟨gf, 4, none⟩ = some (.slice none 0 0) := (blk_cell BK_gf.out 4).trans rfl; have hf_gf_4 : wx1.frozen? ⟨gf, 4, none⟩ = false := blk_frozen BK_gf.out 4) | (go_at_call 22; (with_reducible refine (put2_calls (f.f0) (lenF s) z1 (HPb.out.far5 (v0 := .int .i64 f.f0) (v1 := .int .i64 f.f1) (v2 := .bool f.f2) (v3 := .bool f.f3) (v4 := .slice A4 f.f4.length c4) BK_gf.out (by decide) HG_gf.out NEB.out NEX.out).1 (by have := lenF_rng s; omega) (by have := lenF_rng s; omega) (PutW.len HTL.out HQ.out) HY_z1.out).mono ?_); rintro e wp5 ⟨rfl, hk, A_wp5, c_wp5, hP⟩; have hF := (HPb.out.far5 (v0 := .int .i64 f.f0) (v1 := .int .i64 f.f1) (v2 := .bool f.f2) (v3 := .bool f.f3) (v4 := .slice A4 f.f4.length c4) BK_gf.out (by decide) HG_gf.out NEB.out NEX.out).2; have BF := Aside0.mk ((hk.2 gf (blk_lt hF) (Ne.symm NEB.out) (by simp)).trans hF); clear hF HPb BK_gf; have HP_wp5 := Aside0.mk hP; clear hk hP; clear qx1 qe0' qe1' qe2' qe3' qe4' hq_gf_0 hf_gf_0 hq_gf_1 hf_gf_1 hq_gf_2 hf_gf_2 hq_gf_3 hf_gf_3 hq_gf_4 hf_gf_4; have qx0 : wp5.cell? ⟨gX, 0, none⟩ = some (.int .i64 (numF s)) := (blk_cell HP_wp5.out.2.2.1 0).trans rfl; have qx1 : wp5.cell? ⟨gX, 1, none⟩ = some (.int .i64 (lenF s)) := (blk_cell HP_wp5.out.2.2.1 1).trans rfl; have qx2 : wp5.cell? ⟨gX, 2, none⟩ = some (.int .i64 (ordF s)) := (blk_cell HP_wp5.out.2.2.1 2).trans rfl; have qg0 : wp5.cell? ⟨gf, 0, none⟩ = some (.int .i64 f.f0) := (blk_cell BF.out 0).trans rfl; have qg1 : wp5.cell? ⟨gf, 1, none⟩ = some (.int .i64 f.f1) := (blk_cell BF.out 1).trans rfl; have qg2 : wp5.cell? ⟨gf, 2, none⟩ = some (.bool f.f2) := (blk_cell BF.out 2).trans rfl; have qg3 : wp5.cell? ⟨gf, 3, none⟩ = some (.bool f.f3) := (blk_cell BF.out 3).trans rfl; have qg4 : wp5.cell? ⟨gf, 4, none⟩ = some (.slice A4 f.f4.length c4) := (blk_cell BF.out 4).trans rfl) | (go_at_call 22; (with_reducible refine (put2_calls (f.f1) (ordF s) z2 HP_wp5.out (by have := ordF_rng s; omega) (by have := ordF_rng s; omega) (PutW.len HTL.out HQ2.out) HY_z2.out).mono ?_); rintro e wp6 ⟨rfl, hk, A_wp6, c_wp6, hP⟩; replace BF := Aside0.mk ((hk.2 gf (blk_lt BF.out) (Ne.symm NEB.out) (by simp)).trans BF.out); have HP_wp6 := Aside0.mk hP; clear hk hP; clear qx0 qx1 qx2 qg0 qg1 qg2 qg3 qg4; have qx0 : wp6.cell? ⟨gX, 0, none⟩ = some (.int .i64 (numF s)) := (blk_cell HP_wp6.out.2.2.1 0).trans rfl; have qx1 : wp6.cell? ⟨gX, 1, none⟩ = some (.int .i64 (lenF s)) := (blk_cell HP_wp6.out.2.2.1 1).trans rfl; have qx2 : wp6.cell? ⟨gX, 2, none⟩ = some (.int .i64 (ordF s)) := (blk_cell HP_wp6.out.2.2.1 2).trans rfl; have qg0 : wp6.cell? ⟨gf, 0, none⟩ = some (.int .i64 f.f0) := (blk_cell BF.out 0).trans rfl; have qg1 : wp6.cell? ⟨gf, 1, none⟩ = some (.int .i64 f.f1) := (blk_cell BF.out 1).trans rfl; have qg2 : wp6.cell? ⟨gf, 2, none⟩ = some (.bool f.f2) := (blk_cell BF.out 2).trans rfl; have qg3 : wp6.cell? ⟨gf, 3, none⟩ = some (.bool f.f3) := (blk_cell BF.out 3).trans rfl; have qg4 : wp6.cell? ⟨gf, 4, none⟩ = some (.slice A4 f.f4.length c4) := (blk_cell BF.out 4).trans rfl))
                go_roundg (wl.length - (jj + 1))
                case measure => omega
                case rel => exact ⟨jj + 1, z2, _, _, by omega, by omega, by have := HWM.out; congr 1; unfold wrap64; omega, HP_wp6, ⟨by have := HQ3.out; rwa [show tailBits f = [] from if_pos HORD.out] at this⟩⟩
              case neg =>
                have bo : (f.f1 == 0) = false := beq_eq_false_iff_ne.mpr hord
                have HORD := Aside0.mk hord
                clear hord
                have HQ4 : Aside0 (z2 ++ (bitsM (b2i f.f2) 1 ++ (bitsM (b2i nb) 1 ++ (coefsBits f f.f4 ++ ((wl.drop (jj + 1)).flatMap (filtBits s) ++ (l.drop (kk + 1)).flatMap (winBits s))))) = T) := ⟨by have := HQ3.out; rw [show tailBits f = bitsM (b2i f.f2) 1 ++ (bitsM (b2i (narrowS f)) 1 ++ coefsBits f f.f4) from if_neg HORD.out, ← HNB.out] at this; simpa only [List.append_assoc] using this⟩
                obtain ⟨z3, hz3⟩ : ∃ y, y = z2 ++ bitsM (b2i f.f2) (1) := ⟨_, rfl⟩
                have HY_z3 := Aside0.mk hz3
                have HQ5 : Aside0 (z3 ++ (bitsM (b2i nb) 1 ++ (coefsBits f f.f4 ++ ((wl.drop (jj + 1)).flatMap (filtBits s) ++ (l.drop (kk + 1)).flatMap (winBits s)))) = T) := ⟨by rw [hz3]; simpa only [List.append_assoc] using HQ4.out⟩
                obtain ⟨z4, hz4⟩ : ∃ y, y = z3 ++ bitsM (b2i nb) (1) := ⟨_, rfl⟩
                have HY_z4 := Aside0.mk hz4
                have HQ6 : Aside0 (z4 ++ (coefsBits f f.f4 ++ ((wl.drop (jj + 1)).flatMap (filtBits s) ++ (l.drop (kk + 1)).flatMap (winBits s))) = T) := ⟨by rw [hz4]; simpa only [List.append_assoc] using HQ5.out⟩
                clear hz3 hz4
                go_wp2_with (first | ((with_reducible refine gate_dst (N := 14) rfl ?_); refine box_event ?hg (N := 14) ?hd (cs := #[.int .i64 0, .int .i64 0, .bool false, .bool false, .slice none 0 0]) (t := 38) ?hr ?_; (case hd => rfl); (case hg => rfl); (case hr => first | (go_simp; done) | (go_simp; rfl)); intro gf hg wx1 hbox hb; have HG_gf : Aside0 (w.heap.size ≤ gf) := ⟨by rw [hg]; exact HB.out.size⟩; have BK_gf := Aside0.mk hbox; replace HB := Aside0.mk (below_step HB.out hb); have HPb := Aside0.mk (HP.out.below hb); have NEB : Aside0 (gB ≠ gf) := ⟨by rw [hg]; exact Nat.ne_of_lt (blk_lt HP.out.2.2.2.1)⟩; have NEX : Aside0 (gX ≠ gf) := ⟨by rw [hg]; exact Nat.ne_of_lt (blk_lt HP.out.2.2.1)⟩; have nb1 := NEB.out; have nb2 := Ne.symm NEB.out; have nx1 := NEX.out; have nx2 := Ne.symm NEX.out; clear qx0 qx1 qx2; have qx1 : wx1.cell? ⟨gX, 1, none⟩ = some (.int .i64 (lenF s)) := (blk_cell HPb.out.2.2.1 1).trans rfl; have qe0' := pw_cell_below hb qe0; have qe1' := pw_cell_below hb qe1; have qe2' := pw_cell_below hb qe2; have qe3' := pw_cell_below hb qe3; have qe4' := pw_cell_below hb qe4; clear qe0 qe1 qe2 qe3 qe4; clear hg hbox hb; have hq_gf_0 : wx1.cell? ⟨gf, 0, none⟩ = some (.int .i64 0) := (blk_cell BK_gf.out 0).trans rfl; have hf_gf_0 : wx1.frozen? ⟨gf, 0, none⟩ = false := blk_frozen BK_gf.out 0; have hq_gf_1 : wx1.cell? ⟨gf, 1, none⟩ = some (.int .i64 0) := (blk_cell BK_gf.out 1).trans rfl; have hf_gf_1 : wx1.frozen? ⟨gf, 1, none⟩ = false := blk_frozen BK_gf.out 1; have hq_gf_2 : wx1.cell? ⟨gf, 2, none⟩ = some (.bool false) := (blk_cell BK_gf.out 2).trans rfl; have hf_gf_2 : wx1.frozen? ⟨gf, 2, none⟩ = false := blk_frozen BK_gf.out 2; have hq_gf_3 : wx1.cell? ⟨gf, 3, none⟩ = some (.bool false) := (blk_cell BK_gf.out 3).trans rfl; have hf_gf_3 : wx1.frozen? ⟨gf, 3, none⟩ = false := blk_frozen BK_gf.out 3; have hq_gf_4 : wx1.cell? ⟨gf, 4, none⟩ = some (.slice none 0 0) := (blk_cell BK_gf.out 4).trans rfl; have hf_gf_4 : wx1.frozen? ⟨gf, 4, none⟩ = false := blk_frozen BK_gf.out 4) | (go_at_call 22; (with_reducible refine (put2_calls (f.f0) (lenF s) z1 (HPb.out.far5 (v0 := .int .i64 f.f0) (v1 := .int .i64 f.f1) (v2 := .bool f.f2) (v3 := .bool f.f3) (v4 := .slice A4 f.f4.length c4) BK_gf.out (by decide) HG_gf.out NEB.out NEX.out).1 (by have := lenF_rng s; omega) (by have := lenF_rng s; omega) (PutW.len HTL.out HQ.out) HY_z1.out).mono ?_); rintro e wp5 ⟨rfl, hk, A_wp5, c_wp5, hP⟩; have hF := (HPb.out.far5 (v0 := .int .i64 f.f0) (v1 := .int .i64 f.f1) (v2 := .bool f.f2) (v3 := .bool f.f3) (v4 := .slice A4 f.f4.length c4) BK_gf.out (by decide) HG_gf.out NEB.out NEX.out).2; have BF := Aside0.mk ((hk.2 gf (blk_lt hF) (Ne.symm NEB.out) (by simp)).trans hF); clear hF HPb BK_gf; have HP_wp5 := Aside0.mk hP; clear hk hP; clear qx1 qe0' qe1' qe2' qe3' qe4' hq_gf_0 hf_gf_0 hq_gf_1 hf_gf_1 hq_gf_2 hf_gf_2 hq_gf_3 hf_gf_3 hq_gf_4 hf_gf_4; have qx0 : wp5.cell? ⟨gX, 0, none⟩ = some (.int .i64 (numF s)) := (blk_cell HP_wp5.out.2.2.1 0).trans rfl; have qx1 : wp5.cell? ⟨gX, 1, none⟩ = some (.int .i64 (lenF s)) := (blk_cell HP_wp5.out.2.2.1 1).trans rfl; have qx2 : wp5.cell? ⟨gX, 2, none⟩ = some (.int .i64 (ordF s)) := (blk_cell HP_wp5.out.2.2.1 2).trans rfl; have qg0 : wp5.cell? ⟨gf, 0, none⟩ = some (.int .i64 f.f0) := (blk_cell BF.out 0).trans rfl; have qg1 : wp5.cell? ⟨gf, 1, none⟩ = some (.int .i64 f.f1) := (blk_cell BF.out 1).trans rfl; have qg2 : wp5.cell? ⟨gf, 2, none⟩ = some (.bool f.f2) := (blk_cell BF.out 2).trans rfl; have qg3 : wp5.cell? ⟨gf, 3, none⟩ = some (.bool f.f3) := (blk_cell BF.out 3).trans rfl; have qg4 : wp5.cell? ⟨gf, 4, none⟩ = some (.slice A4 f.f4.length c4) := (blk_cell BF.out 4).trans rfl) | (go_at_call 22; (with_reducible refine (put2_calls (f.f1) (ordF s) z2 HP_wp5.out (by have := ordF_rng s; omega) (by have := ordF_rng s; omega) (PutW.len HTL.out HQ2.out) HY_z2.out).mono ?_); rintro e wp6 ⟨rfl, hk, A_wp6, c_wp6, hP⟩; replace BF := Aside0.mk ((hk.2 gf (blk_lt BF.out) (Ne.symm NEB.out) (by simp)).trans BF.out); have HP_wp6 := Aside0.mk hP; clear hk hP; clear qx0 qx1 qx2 qg0 qg1 qg2 qg3 qg4; have qx0 : wp6.cell? ⟨gX, 0, none⟩ = some (.int .i64 (numF s)) := (blk_cell HP_wp6.out.2.2.1 0).trans rfl; have qx1 : wp6.cell? ⟨gX, 1, none⟩ = some (.int .i64 (lenF s)) := (blk_cell HP_wp6.out.2.2.1 1).trans rfl; have qx2 : wp6.cell? ⟨gX, 2, none⟩ = some (.int .i64 (ordF s)) := (blk_cell HP_wp6.out.2.2.1 2).trans rfl; have qg0 : wp6.cell? ⟨gf, 0, none⟩ = some (.int .i64 f.f0) := (blk_cell BF.out 0).trans rfl; have qg1 : wp6.cell? ⟨gf, 1, none⟩ = some (.int .i64 f.f1) := (blk_cell BF.out 1).trans rfl; have qg2 : wp6.cell? ⟨gf, 2, none⟩ = some (.bool f.f2) := (blk_cell BF.out 2).trans rfl; have qg3 : wp6.cell? ⟨gf, 3, none⟩ = some (.bool f.f3) := (blk_cell BF.out 3).trans rfl; have qg4 : wp6.cell? ⟨gf, 4, none⟩ = some (.slice A4 f.f4.length c4) := (blk_cell BF.out 4).trans rfl) | (go_at_call 25; (with_reducible refine (tnsbits_wide.calls f.f3 wd _ HWF.out).mono ?_); rintro e w' ⟨rfl, ⟨nd, rfl⟩⟩) | (go_at_call 26; refine (HFIT.out _ (Kd.C_below HC4.out (pw_below_drewN HP_wp6.out.2.1 _))).mono ?_; rintro e w7 ⟨rfl, hb⟩; have HP7 := Aside0.mk ((HP_wp6.out.drewN _).below hb); have BF7 := Aside0.mk (blk_below (blk_drewN BF.out _) hb); clear hb qg0 qg1 qg2 qg3 qg4 qx0 qx1 qx2; have qg0 : w7.cell? ⟨gf, 0, none⟩ = some (.int .i64 f.f0) := (blk_cell BF7.out 0).trans rfl; have qg1 : w7.cell? ⟨gf, 1, none⟩ = some (.int .i64 f.f1) := (blk_cell BF7.out 1).trans rfl; have qg2 : w7.cell? ⟨gf, 2, none⟩ = some (.bool f.f2) := (blk_cell BF7.out 2).trans rfl; have qg3 : w7.cell? ⟨gf, 3, none⟩ = some (.bool f.f3) := (blk_cell BF7.out 3).trans rfl; have qg4 : w7.cell? ⟨gf, 4, none⟩ = some (.slice A4 f.f4.length c4) := (blk_cell BF7.out 4).trans rfl; have qx0 : w7.cell? ⟨gX, 0, none⟩ = some (.int .i64 (numF s)) := (blk_cell HP7.out.2.2.1 0).trans rfl; have qx1 : w7.cell? ⟨gX, 1, none⟩ = some (.int .i64 (lenF s)) := (blk_cell HP7.out.2.2.1 1).trans rfl; have qx2 : w7.cell? ⟨gX, 2, none⟩ = some (.int .i64 (ordF s)) := (blk_cell HP7.out.2.2.1 2).trans rfl) | (go_at_call 22; (with_reducible refine (put2_calls (b2i f.f2) (1) z3 (HP7.out.drewN _) (by omega) (by omega) (PutW.len HTL.out HQ4.out) HY_z3.out).mono ?_); rintro e wp8 ⟨rfl, hk, A_wp8, c_wp8, hP⟩; have BF8 := Aside0.mk ((hk.2 gf (blk_lt BF7.out) (Ne.symm NEB.out) (by simp)).trans BF7.out); have HP_wp8 := Aside0.mk hP; clear hk hP; clear qx0 qx1 qx2 qg0 qg1 qg2 qg3 qg4; have qx0 : wp8.cell? ⟨gX, 0, none⟩ = some (.int .i64 (numF s)) := (blk_cell HP_wp8.out.2.2.1 0).trans rfl; have qx1 : wp8.cell? ⟨gX, 1, none⟩ = some (.int .i64 (lenF s)) := (blk_cell HP_wp8.out.2.2.1 1).trans rfl; have qx2 : wp8.cell? ⟨gX, 2, none⟩ = some (.int .i64 (ordF s)) := (blk_cell HP_wp8.out.2.2.1 2).trans rfl; have qg0 : wp8.cell? ⟨gf, 0, none⟩ = some (.int .i64 f.f0) := (blk_cell BF8.out 0).trans rfl; have qg1 : wp8.cell? ⟨gf, 1, none⟩ = some (.int .i64 f.f1) := (blk_cell BF8.out 1).trans rfl; have qg2 : wp8.cell? ⟨gf, 2, none⟩ = some (.bool f.f2) := (blk_cell BF8.out 2).trans rfl; have qg3 : wp8.cell? ⟨gf, 3, none⟩ = some (.bool f.f3) := (blk_cell BF8.out 3).trans rfl; have qg4 : wp8.cell? ⟨gf, 4, none⟩ = some (.slice A4 f.f4.length c4) := (blk_cell BF8.out 4).trans rfl) | (go_at_call 22; (with_reducible refine (put2_calls (b2i nb) (1) z4 (HP_wp8.out.drewN _) (by omega) (by omega) (PutW.len HTL.out HQ5.out) HY_z4.out).mono ?_); rintro e wp9 ⟨rfl, hk, A_wp9, c_wp9, hP⟩; have BF9 := Aside0.mk ((hk.2 gf (blk_lt BF8.out) (Ne.symm NEB.out) (by simp)).trans BF8.out); have HP_wp9 := Aside0.mk hP; clear hk hP; clear qx0 qx1 qx2 qg0 qg1 qg2 qg3 qg4; have qx0 : wp9.cell? ⟨gX, 0, none⟩ = some (.int .i64 (numF s)) := (blk_cell HP_wp9.out.2.2.1 0).trans rfl; have qx1 : wp9.cell? ⟨gX, 1, none⟩ = some (.int .i64 (lenF s)) := (blk_cell HP_wp9.out.2.2.1 1).trans rfl; have qx2 : wp9.cell? ⟨gX, 2, none⟩ = some (.int .i64 (ordF s)) := (blk_cell HP_wp9.out.2.2.1 2).trans rfl; have qg0 : wp9.cell? ⟨gf, 0, none⟩ = some (.int .i64 f.f0) := (blk_cell BF9.out 0).trans rfl; have qg1 : wp9.cell? ⟨gf, 1, none⟩ = some (.int .i64 f.f1) := (blk_cell BF9.out 1).trans rfl; have qg2 : wp9.cell? ⟨gf, 2, none⟩ = some (.bool f.f2) := (blk_cell BF9.out 2).trans rfl; have qg3 : wp9.cell? ⟨gf, 3, none⟩ = some (.bool f.f3) := (blk_cell BF9.out 3).trans rfl; have qg4 : wp9.cell? ⟨gf, 4, none⟩ = some (.slice A4 f.f4.length c4) := (blk_cell BF9.out 4).trans rfl) | (go_at_call 24; (with_reducible refine (tnsbits_bit.calls f.f2 (b2i f.f2) _ (bit_f _)).mono ?_); rintro e w' ⟨rfl, ⟨nd, rfl⟩⟩) | (go_at_call 24; (with_reducible refine (tnsbits_bit.calls nb (b2i nb) _ (bit_f _)).mono ?_); rintro e w' ⟨rfl, ⟨nd, rfl⟩⟩))
                have HQ7 : Aside0 (z4 ++ (coefsBits f (f.f4.drop 0) ++ ((wl.drop (jj + 1)).flatMap (filtBits s) ++ (l.drop (kk + 1)).flatMap (winBits s))) = T) := HQ6
                clear HP HQ HQ1 HQ2 HQ3 HQ4 HQ5 HQ6 HY_z1 HY_z2 HY_z3 HY_z4 HP_wp5 HP_wp6 HP7 HP_wp8 BF BF7 BF8 BF9 HB qx0 qx1 qx2 qg0 qg1 qg2 qg3 qg4
                go_loopg [93] f.f4.length (fun gg s93 wr => ∃ ii xs A c, ii ≤ f.f4.length ∧ f.f4.length - ii ≤ gg ∧ s93 = .int .i64 (ii : Nat) ∧ Aside0 (PutW w gB gX s wr xs A c) ∧ Aside0 (xs ++ (coefsBits f (f.f4.drop ii) ++ ((wl.drop (jj + 1)).flatMap (filtBits s) ++ (l.drop (kk + 1)).flatMap (winBits s))) = T))
                case atStart => exact ⟨0, z4, _, _, Nat.zero_le _, by omega, rfl, HP_wp9, HQ7⟩
                case round =>
                  clear HP_wp9 HQ7
                  obtain ⟨ii, xi, Ac, cc, hii, hgi, rfl, HP, HQ⟩ := hrel
                  by_cases hlt3 : ii < f.f4.length
                  · have hltz3 : (ii : Int) < (f.f4.length : Int) := by omega
                    obtain ⟨ad4, rfl, hcell⟩ := Kd.at_int HC4.out (ii : Int) (by omega) hltz3
                    rw [Int.toNat_natCast] at hcell
                    have qc := pw_cell_below HP.out.2.1 hcell
                    clear hcell
                    have HR := Aside0.mk (show rd f.f4 (ii : Int) = f.f4[ii] from by unfold rd; rw [Int.toNat_natCast, List.getD_eq_getElem?_getD, List.getElem?_eq_getElem hlt3, Option.getD_some])
                    generalize rd f.f4 (ii : Int) = n at qc HR
                    obtain ⟨z5, hz5⟩ : ∃ y, y = xi ++ bitsM (n) (wd - b2i nb) := ⟨_, rfl⟩
                    have HY_z5 := Aside0.mk hz5
                    have HQ8 : Aside0 (z5 ++ (coefsBits f (f.f4.drop (ii + 1)) ++ ((wl.drop (jj + 1)).flatMap (filtBits s) ++ (l.drop (kk + 1)).flatMap (winBits s))) = T) := ⟨by have := HQ.out; unfold coefsBits at this ⊢; rw [flat_drop _ f.f4 ii hlt3, ← HR.out, ← HNB.out, ← HWD.out] at this; rw [hz5, ← HNB.out, ← HWD.out]; simpa only [List.append_assoc] using this⟩
                    clear hz5
                    go_wp2_with (first | (go_at_call 22; (with_reducible refine (put2_calls (n) (wd - b2i nb) z5 (HP.out.drewN _) (by omega) (by omega) (PutW.len HTL.out HQ.out) HY_z5.out).mono ?_); rintro e wpc ⟨rfl, hk, A_wpc, c_wpc, hP⟩; have HP_wpc := Aside0.mk hP; clear hk hP) | (go_at_call 24; (with_reducible refine (tnsbits_bit.calls nb (b2i nb) _ (bit_f _)).mono ?_); rintro e w' ⟨rfl, ⟨nd, rfl⟩⟩))
                    go_roundg (f.f4.length - (ii + 1))
                    case measure => omega
                    case rel => exact ⟨ii + 1, z5, _, _, by omega, by omega, by have := HM4.out; congr 1; unfold wrap64; omega, HP_wpc, HQ8⟩
                  · have hltz3 : ¬ (ii : Int) < (f.f4.length : Int) := by omega
                    obtain rfl : ii = f.f4.length := by omega
                    go_wp2
                    go_roundg (wl.length - (jj + 1))
                    case measure => omega
                    case rel => exact ⟨jj + 1, xi, _, _, by omega, by omega, by have := HWM.out; congr 1; unfold wrap64; omega, HP, ⟨by have := HQ.out; rwa [List.drop_of_length_le (Nat.le_refl _), show coefsBits f [] = [] from rfl, List.nil_append] at this⟩⟩
            · have hltz2 : ¬ (jj : Int) < (wl.length : Int) := by omega
              obtain rfl : jj = wl.length := by omega
              go_wp2
              go_roundg (l.length - (kk + 1))
              case measure => omega
              case rel => exact ⟨kk + 1, xj, _, _, by omega, by omega, by have := HLM.out; congr 1; unfold wrap64; omega, HP, ⟨by have := HQ.out; rwa [List.drop_of_length_le (Nat.le_refl _), List.flatMap_nil, List.nil_append] at this⟩⟩
        case neg =>
          have hz1 : decide (0 < wl.length) = true := decide_eq_true (by omega)
          have hz2 : (0 : Int) < (wl.length : Int) := by omega
          have hz3 : 1 ≤ wl.length := by omega
          have HZ := Aside0.mk hz
          clear hz
          obtain ⟨ade, A6, c6, rfl, p0, p1, p2, p3, p4, hl6, hC6⟩ := at_T38 HCW.out 0 (by omega) hz2
          have QF : Aside0 (w.cell? ⟨ade.block, ade.off + 3, none⟩ = some (.bool (fineOf wl))) := ⟨by rw [show ade.add ((0 : Int).toNat * 5) = ade by simp [Addr.add]] at p3; exact p3⟩
          clear p0 p1 p2 p3 p4 hl6 hC6
          obtain ⟨y2, hy2⟩ : ∃ y, y = y1 ++ bitsM (b2i (fineOf wl)) 1 := ⟨_, rfl⟩
          have HY2 := Aside0.mk hy2
          have HQ2 : Aside0 (y2 ++ ((wl.drop 0).flatMap (filtBits s) ++ (l.drop (kk + 1)).flatMap (winBits s)) = T) := ⟨by have := HQ1.out; rw [show fineBits wl = bitsM (b2i (fineOf wl)) 1 from if_neg HZ.out] at this; rw [hy2, List.append_assoc]; exact this⟩
          clear hy2
          go_wp2_with (first | (go_at_call 22; (with_reducible refine (put2_calls ((wl.length : Int)) (numF s) y1 HP.out (by have := numF_rng s; omega) (by have := numF_rng s; omega) (PutW.len HTL.out HQ.out) HY1.out).mono ?_); rintro e wp1 ⟨rfl, hk, A_wp1, c_wp1, hP⟩; have HP_wp1 := Aside0.mk hP; clear hk hP; clear qx0 qx1 qx2; have qx0 : wp1.cell? ⟨gX, 0, none⟩ = some (.int .i64 (numF s)) := (blk_cell HP_wp1.out.2.2.1 0).trans rfl; have qx1 : wp1.cell? ⟨gX, 1, none⟩ = some (.int .i64 (lenF s)) := (blk_cell HP_wp1.out.2.2.1 1).trans rfl; have qx2 : wp1.cell? ⟨gX, 2, none⟩ = some (.int .i64 (ordF s)) := (blk_cell HP_wp1.out.2.2.1 2).trans rfl; have qfine := pw_cell_below HP_wp1.out.2.1 QF.out) | (go_at_call 22; (with_reducible refine (put2_calls (b2i (fineOf wl)) (1) y2 (HP_wp1.out.drewN _) (by omega) (by omega) (PutW.len HTL.out HQ1.out) HY2.out).mono ?_); rintro e wp2 ⟨rfl, hk, A_wp2, c_wp2, hP⟩; have HP_wp2 := Aside0.mk hP; clear hk hP; clear qx0 qx1 qx2; have qx0 : wp2.cell? ⟨gX, 0, none⟩ = some (.int .i64 (numF s)) := (blk_cell HP_wp2.out.2.2.1 0).trans rfl; have qx1 : wp2.cell? ⟨gX, 1, none⟩ = some (.int .i64 (lenF s)) := (blk_cell HP_wp2.out.2.2.1 1).trans rfl; have qx2 : wp2.cell? ⟨gX, 2, none⟩ = some (.int .i64 (ordF s)) := (blk_cell HP_wp2.out.2.2.1 2).trans rfl) | (go_at_call 24; (with_reducible refine (tnsbits_bit.calls (fineOf wl) (b2i (fineOf wl)) _ (bit_f _)).mono ?_); rintro e w' ⟨rfl, ⟨nd, rfl⟩⟩))
          have HP2 : Aside0 (∃ A c, PutW w gB gX s wp2 y2 A c) := ⟨_, _, HP_wp2.out⟩
          clear HP_wp1 HP_wp2 HY1 HY2 HQ1 HP HQ HZ hz1 hz2 hz3 QF qfine qx0 qx1 qx2 qe
          obtain ⟨Ai, ci, hPi⟩ := HP2.out
          have HPi := Aside0.mk hPi
          clear hPi HP2
          go_loopg [54] wl.length (fun gg s54 wr => ∃ jj xs A c, jj ≤ wl.length ∧ wl.length - jj ≤ gg ∧ s54 = .int .i64 (jj : Nat) ∧ Aside0 (PutW w gB gX s wr xs A c) ∧ Aside0 (xs ++ ((wl.drop jj).flatMap (filtBits s) ++ (l.drop (kk + 1)).flatMap (winBits s)) = T))
          case atStart => exact ⟨0, y2, Ai, ci, Nat.zero_le _, by omega, rfl, HPi, HQ2⟩
          case round =>
            clear HPi HQ2
            obtain ⟨jj, xj, Aj, cj, hjj, hgj, rfl, HP, HQ⟩ := hrel
            by_cases hlt2 : jj < wl.length
            · have hltz2 : (jj : Int) < (wl.length : Int) := by omega
              obtain ⟨ad2, A4, c4, hsm, p0, p1, p2, p3, p4, hl4, hC4⟩ := at_T38 HCW.out (jj : Int) (by omega) hltz2
              cases hsm
              rw [Int.toNat_natCast] at p0 p1 p2 p3 p4
              have HF := Aside0.mk (show rd_T38 wl (jj : Int) = wl[jj] from by unfold rd_T38; rw [Int.toNat_natCast, List.getD_eq_getElem?_getD, List.getElem?_eq_getElem hlt2, Option.getD_some])
              generalize rd_T38 wl (jj : Int) = f at p0 p1 p2 p3 p4 hl4 hC4 HF
              have qe0 := pw_cell_below HP.out.2.1 p0
              have qe1 := pw_cell_below HP.out.2.1 p1
              have qe2 := pw_cell_below HP.out.2.1 p2
              have qe3 := pw_cell_below HP.out.2.1 p3
              have qe4 := pw_cell_below HP.out.2.1 p4
              have HC4 := Aside0.mk hC4
              have HM4 := Aside0.mk (Kd.C_max hC4)
              clear p0 p1 p2 p3 p4 hl4 hC4
              obtain ⟨wd, hwd⟩ : ∃ x, x = wideS f.f3 := ⟨_, rfl⟩
              have hwr := wideS_rng f.f3
              rw [← hwd] at hwr
              obtain ⟨hw3, hw4⟩ := hwr
              have HWF : Aside0 (tnsbits_wide.f f.f3 = some wd) := ⟨by rw [wide_f, hwd]⟩
              obtain ⟨nb, hnb⟩ : ∃ x, x = narrowS f := ⟨_, rfl⟩
              have HFIT : Aside0 (∀ W, Kd.C (Kd.int .i64) W A4 f.f4.length f.f4 → Calls Try.prog 26 #[.slice A4 f.f4.length c4, .int .i64 (wd - 1)] W fun e w' => e = .returned (.bool nb) ∧ Below W.heap.size W w') := ⟨fun W h => by rw [hnb]; unfold narrowS; rw [← hwd]; exact fit_calls A4 c4 f.f4 (wd - 1) (by omega) W h⟩
              have HNB := Aside0.mk hnb
              have HWD := Aside0.mk hwd
              clear hwd hnb
              have hbn := b2i_rng nb
              obtain ⟨hb0, hb1⟩ := hbn
              have HB : Aside0 (Below w.heap.size w wr) := ⟨HP.out.2.1⟩
              have HQ1 : Aside0 (xj ++ (bitsM f.f0 (lenF s) ++ (bitsM f.f1 (ordF s) ++ (tailBits f ++ ((wl.drop (jj + 1)).flatMap (filtBits s) ++ (l.drop (kk + 1)).flatMap (winBits s))))) = T) := ⟨by have := HQ.out; rw [flat_drop _ wl jj hlt2, ← HF.out, show filtBits s f = bitsM f.f0 (lenF s) ++ (bitsM f.f1 (ordF s) ++ tailBits f) from rfl] at this; simpa only [List.append_assoc] using this⟩
              obtain ⟨z1, hz1⟩ : ∃ y, y = xj ++ bitsM (f.f0) (lenF s) := ⟨_, rfl⟩
              have HY_z1 := Aside0.mk hz1
              have HQ2 : Aside0 (z1 ++ (bitsM f.f1 (ordF s) ++ (tailBits f ++ ((wl.drop (jj + 1)).flatMap (filtBits s) ++ (l.drop (kk + 1)).flatMap (winBits s)))) = T) := ⟨by rw [hz1]; simpa only [List.append_assoc] using HQ1.out⟩
              obtain ⟨z2, hz2⟩ : ∃ y, y = z1 ++ bitsM (f.f1) (ordF s) := ⟨_, rfl⟩
              have HY_z2 := Aside0.mk hz2
              have HQ3 : Aside0 (z2 ++ (tailBits f ++ ((wl.drop (jj + 1)).flatMap (filtBits s) ++ (l.drop (kk + 1)).flatMap (winBits s))) = T) := ⟨by rw [hz2]; simpa only [List.append_assoc] using HQ2.out⟩
              clear hz1 hz2
              have qx0 : wr.cell? ⟨gX, 0, none⟩ = some (.int .i64 (numF s)) := (blk_cell HP.out.2.2.1 0).trans rfl
              have qx1 : wr.cell? ⟨gX, 1, none⟩ = some (.int .i64 (lenF s)) := (blk_cell HP.out.2.2.1 1).trans rfl
              have qx2 : wr.cell? ⟨gX, 2, none⟩ = some (.int .i64 (ordF s)) := (blk_cell HP.out.2.2.1 2).trans rfl
              by_cases hord : f.f1 = 0
              case pos =>
                have bo : (f.f1 == 0) = true := beq_iff_eq.mpr hord
                have HORD := Aside0.mk hord
                clear hord
                go_wp2_with (first | ((with_reducible refine gate_dst (N := 14) rfl ?_); refine box_event ?hg (N := 14) ?hd (cs := #[.int .i64 0, .int .i64 0, .bool false, .bool false, .slice none 0 0]) (t := 38) ?hr ?_; (case hd => rfl); (case hg => rfl); (case hr => first | (go_simp; done) | (go_simp; rfl)); intro gf hg wx1 hbox hb; have HG_gf : Aside0 (w.heap.size ≤ gf) := ⟨by rw [hg]; exact HB.out.size⟩; have BK_gf := Aside0.mk hbox; replace HB := Aside0.mk (below_step HB.out hb); have HPb := Aside0.mk (HP.out.below hb); have NEB : Aside0 (gB ≠ gf) := ⟨by rw [hg]; exact Nat.ne_of_lt (blk_lt HP.out.2.2.2.1)⟩; have NEX : Aside0 (gX ≠ gf) := ⟨by rw [hg]; exact Nat.ne_of_lt (blk_lt HP.out.2.2.1)⟩; have nb1 := NEB.out; have nb2 := Ne.symm NEB.out; have nx1 := NEX.out; have nx2 := Ne.symm NEX.out; clear qx0 qx1 qx2; have qx1 : wx1.cell? ⟨gX, 1, none⟩ = some (.int .i64 (lenF s)) := (blk_cell HPb.out.2.2.1 1).trans rfl; have qe0' := pw_cell_below hb qe0; have qe1' := pw_cell_below hb qe1; have qe2' := pw_cell_below hb qe2; have qe3' := pw_cell_below hb qe3; have qe4' := pw_cell_below hb qe4; clear qe0 qe1 qe2 qe3 qe4; clear hg hbox hb; have hq_gf_0 : wx1.cell? ⟨gf, 0, none⟩ = some (.int .i64 0) := (blk_cell BK_gf.out 0).trans rfl; have hf_gf_0 : wx1.frozen? ⟨gf, 0, none⟩ = false := blk_frozen BK_gf.out 0; have hq_gf_1 : wx1.cell? ⟨gf, 1, none⟩ = some (.int .i64 0) := (blk_cell BK_gf.out 1).trans rfl; have hf_gf_1 : wx1.frozen? ⟨gf, 1, none⟩ = false := blk_frozen BK_gf.out 1; have hq_gf_2 : wx1.cell? ⟨gf, 2, none⟩ = some (.bool false) := (blk_cell BK_gf.out 2).trans rfl; have hf_gf_2 : wx1.frozen? ⟨gf, 2, none⟩ = false := blk_frozen BK_gf.out 2; have hq_gf_3 : wx1.cell? ⟨gf, 3, none⟩ = some (.bool false) := (blk_cell BK_gf.out 3).trans rfl; have hf_gf_3 : wx1.frozen? ⟨gf, 3, none⟩ = false := blk_frozen BK_gf.out 3; have hq_gf_4 : wx1.cell? ⟨gf, 4, none⟩ = some (.slice none 0 0) := (blk_cell BK_gf.out 4).trans rfl; have hf_gf_4 : wx1.frozen? ⟨gf, 4, none⟩ = false := blk_frozen BK_gf.out 4) | (go_at_call 22; (with_reducible refine (put2_calls (f.f0) (lenF s) z1 (HPb.out.far5 (v0 := .int .i64 f.f0) (v1 := .int .i64 f.f1) (v2 := .bool f.f2) (v3 := .bool f.f3) (v4 := .slice A4 f.f4.length c4) BK_gf.out (by decide) HG_gf.out NEB.out NEX.out).1 (by have := lenF_rng s; omega) (by have := lenF_rng s; omega) (PutW.len HTL.out HQ.out) HY_z1.out).mono ?_); rintro e wp5 ⟨rfl, hk, A_wp5, c_wp5, hP⟩; have hF := (HPb.out.far5 (v0 := .int .i64 f.f0) (v1 := .int .i64 f.f1) (v2 := .bool f.f2) (v3 := .bool f.f3) (v4 := .slice A4 f.f4.length c4) BK_gf.out (by decide) HG_gf.out NEB.out NEX.out).2; have BF := Aside0.mk ((hk.2 gf (blk_lt hF) (Ne.symm NEB.out) (by simp)).trans hF); clear hF HPb BK_gf; have HP_wp5 := Aside0.mk hP; clear hk hP; clear qx1 qe0' qe1' qe2' qe3' qe4' hq_gf_0 hf_gf_0 hq_gf_1 hf_gf_1 hq_gf_2 hf_gf_2 hq_gf_3 hf_gf_3 hq_gf_4 hf_gf_4; have qx0 : wp5.cell? ⟨gX, 0, none⟩ = some (.int .i64 (numF s)) := (blk_cell HP_wp5.out.2.2.1 0).trans rfl; have qx1 : wp5.cell? ⟨gX, 1, none⟩ = some (.int .i64 (lenF s)) := (blk_cell HP_wp5.out.2.2.1 1).trans rfl; have qx2 : wp5.cell? ⟨gX, 2, none⟩ = some (.int .i64 (ordF s)) := (blk_cell HP_wp5.out.2.2.1 2).trans rfl; have qg0 : wp5.cell? ⟨gf, 0, none⟩ = some (.int .i64 f.f0) := (blk_cell BF.out 0).trans rfl; have qg1 : wp5.cell? ⟨gf, 1, none⟩ = some (.int .i64 f.f1) := (blk_cell BF.out 1).trans rfl; have qg2 : wp5.cell? ⟨gf, 2, none⟩ = some (.bool f.f2) := (blk_cell BF.out 2).trans rfl; have qg3 : wp5.cell? ⟨gf, 3, none⟩ = some (.bool f.f3) := (blk_cell BF.out 3).trans rfl; have qg4 : wp5.cell? ⟨gf, 4, none⟩ = some (.slice A4 f.f4.length c4) := (blk_cell BF.out 4).trans rfl) | (go_at_call 22; (with_reducible refine (put2_calls (f.f1) (ordF s) z2 HP_wp5.out (by have := ordF_rng s; omega) (by have := ordF_rng s; omega) (PutW.len HTL.out HQ2.out) HY_z2.out).mono ?_); rintro e wp6 ⟨rfl, hk, A_wp6, c_wp6, hP⟩; replace BF := Aside0.mk ((hk.2 gf (blk_lt BF.out) (Ne.symm NEB.out) (by simp)).trans BF.out); have HP_wp6 := Aside0.mk hP; clear hk hP; clear qx0 qx1 qx2 qg0 qg1 qg2 qg3 qg4; have qx0 : wp6.cell? ⟨gX, 0, none⟩ = some (.int .i64 (numF s)) := (blk_cell HP_wp6.out.2.2.1 0).trans rfl; have qx1 : wp6.cell? ⟨gX, 1, none⟩ = some (.int .i64 (lenF s)) := (blk_cell HP_wp6.out.2.2.1 1).trans rfl; have qx2 : wp6.cell? ⟨gX, 2, none⟩ = some (.int .i64 (ordF s)) := (blk_cell HP_wp6.out.2.2.1 2).trans rfl; have qg0 : wp6.cell? ⟨gf, 0, none⟩ = some (.int .i64 f.f0) := (blk_cell BF.out 0).trans rfl; have qg1 : wp6.cell? ⟨gf, 1, none⟩ = some (.int .i64 f.f1) := (blk_cell BF.out 1).trans rfl; have qg2 : wp6.cell? ⟨gf, 2, none⟩ = some (.bool f.f2) := (blk_cell BF.out 2).trans rfl; have qg3 : wp6.cell? ⟨gf, 3, none⟩ = some (.bool f.f3) := (blk_cell BF.out 3).trans rfl; have qg4 : wp6.cell? ⟨gf, 4, none⟩ = some (.slice A4 f.f4.length c4) := (blk_cell BF.out 4).trans rfl))
                go_roundg (wl.length - (jj + 1))
                case measure => omega
                case rel => exact ⟨jj + 1, z2, _, _, by omega, by omega, by have := HWM.out; congr 1; unfold wrap64; omega, HP_wp6, ⟨by have := HQ3.out; rwa [show tailBits f = [] from if_pos HORD.out] at this⟩⟩
              case neg =>
                have bo : (f.f1 == 0) = false := beq_eq_false_iff_ne.mpr hord
                have HORD := Aside0.mk hord
                clear hord
                have HQ4 : Aside0 (z2 ++ (bitsM (b2i f.f2) 1 ++ (bitsM (b2i nb) 1 ++ (coefsBits f f.f4 ++ ((wl.drop (jj + 1)).flatMap (filtBits s) ++ (l.drop (kk + 1)).flatMap (winBits s))))) = T) := ⟨by have := HQ3.out; rw [show tailBits f = bitsM (b2i f.f2) 1 ++ (bitsM (b2i (narrowS f)) 1 ++ coefsBits f f.f4) from if_neg HORD.out, ← HNB.out] at this; simpa only [List.append_assoc] using this⟩
                obtain ⟨z3, hz3⟩ : ∃ y, y = z2 ++ bitsM (b2i f.f2) (1) := ⟨_, rfl⟩
                have HY_z3 := Aside0.mk hz3
                have HQ5 : Aside0 (z3 ++ (bitsM (b2i nb) 1 ++ (coefsBits f f.f4 ++ ((wl.drop (jj + 1)).flatMap (filtBits s) ++ (l.drop (kk + 1)).flatMap (winBits s)))) = T) := ⟨by rw [hz3]; simpa only [List.append_assoc] using HQ4.out⟩
                obtain ⟨z4, hz4⟩ : ∃ y, y = z3 ++ bitsM (b2i nb) (1) := ⟨_, rfl⟩
                have HY_z4 := Aside0.mk hz4
                have HQ6 : Aside0 (z4 ++ (coefsBits f f.f4 ++ ((wl.drop (jj + 1)).flatMap (filtBits s) ++ (l.drop (kk + 1)).flatMap (winBits s))) = T) := ⟨by rw [hz4]; simpa only [List.append_assoc] using HQ5.out⟩
                clear hz3 hz4
                go_wp2_with (first | ((with_reducible refine gate_dst (N := 14) rfl ?_); refine box_event ?hg (N := 14) ?hd (cs := #[.int .i64 0, .int .i64 0, .bool false, .bool false, .slice none 0 0]) (t := 38) ?hr ?_; (case hd => rfl); (case hg => rfl); (case hr => first | (go_simp; done) | (go_simp; rfl)); intro gf hg wx1 hbox hb; have HG_gf : Aside0 (w.heap.size ≤ gf) := ⟨by rw [hg]; exact HB.out.size⟩; have BK_gf := Aside0.mk hbox; replace HB := Aside0.mk (below_step HB.out hb); have HPb := Aside0.mk (HP.out.below hb); have NEB : Aside0 (gB ≠ gf) := ⟨by rw [hg]; exact Nat.ne_of_lt (blk_lt HP.out.2.2.2.1)⟩; have NEX : Aside0 (gX ≠ gf) := ⟨by rw [hg]; exact Nat.ne_of_lt (blk_lt HP.out.2.2.1)⟩; have nb1 := NEB.out; have nb2 := Ne.symm NEB.out; have nx1 := NEX.out; have nx2 := Ne.symm NEX.out; clear qx0 qx1 qx2; have qx1 : wx1.cell? ⟨gX, 1, none⟩ = some (.int .i64 (lenF s)) := (blk_cell HPb.out.2.2.1 1).trans rfl; have qe0' := pw_cell_below hb qe0; have qe1' := pw_cell_below hb qe1; have qe2' := pw_cell_below hb qe2; have qe3' := pw_cell_below hb qe3; have qe4' := pw_cell_below hb qe4; clear qe0 qe1 qe2 qe3 qe4; clear hg hbox hb; have hq_gf_0 : wx1.cell? ⟨gf, 0, none⟩ = some (.int .i64 0) := (blk_cell BK_gf.out 0).trans rfl; have hf_gf_0 : wx1.frozen? ⟨gf, 0, none⟩ = false := blk_frozen BK_gf.out 0; have hq_gf_1 : wx1.cell? ⟨gf, 1, none⟩ = some (.int .i64 0) := (blk_cell BK_gf.out 1).trans rfl; have hf_gf_1 : wx1.frozen? ⟨gf, 1, none⟩ = false := blk_frozen BK_gf.out 1; have hq_gf_2 : wx1.cell? ⟨gf, 2, none⟩ = some (.bool false) := (blk_cell BK_gf.out 2).trans rfl; have hf_gf_2 : wx1.frozen? ⟨gf, 2, none⟩ = false := blk_frozen BK_gf.out 2; have hq_gf_3 : wx1.cell? ⟨gf, 3, none⟩ = some (.bool false) := (blk_cell BK_gf.out 3).trans rfl; have hf_gf_3 : wx1.frozen? ⟨gf, 3, none⟩ = false := blk_frozen BK_gf.out 3; have hq_gf_4 : wx1.cell? ⟨gf, 4, none⟩ = some (.slice none 0 0) := (blk_cell BK_gf.out 4).trans rfl; have hf_gf_4 : wx1.frozen? ⟨gf, 4, none⟩ = false := blk_frozen BK_gf.out 4) | (go_at_call 22; (with_reducible refine (put2_calls (f.f0) (lenF s) z1 (HPb.out.far5 (v0 := .int .i64 f.f0) (v1 := .int .i64 f.f1) (v2 := .bool f.f2) (v3 := .bool f.f3) (v4 := .slice A4 f.f4.length c4) BK_gf.out (by decide) HG_gf.out NEB.out NEX.out).1 (by have := lenF_rng s; omega) (by have := lenF_rng s; omega) (PutW.len HTL.out HQ.out) HY_z1.out).mono ?_); rintro e wp5 ⟨rfl, hk, A_wp5, c_wp5, hP⟩; have hF := (HPb.out.far5 (v0 := .int .i64 f.f0) (v1 := .int .i64 f.f1) (v2 := .bool f.f2) (v3 := .bool f.f3) (v4 := .slice A4 f.f4.length c4) BK_gf.out (by decide) HG_gf.out NEB.out NEX.out).2; have BF := Aside0.mk ((hk.2 gf (blk_lt hF) (Ne.symm NEB.out) (by simp)).trans hF); clear hF HPb BK_gf; have HP_wp5 := Aside0.mk hP; clear hk hP; clear qx1 qe0' qe1' qe2' qe3' qe4' hq_gf_0 hf_gf_0 hq_gf_1 hf_gf_1 hq_gf_2 hf_gf_2 hq_gf_3 hf_gf_3 hq_gf_4 hf_gf_4; have qx0 : wp5.cell? ⟨gX, 0, none⟩ = some (.int .i64 (numF s)) := (blk_cell HP_wp5.out.2.2.1 0).trans rfl; have qx1 : wp5.cell? ⟨gX, 1, none⟩ = some (.int .i64 (lenF s)) := (blk_cell HP_wp5.out.2.2.1 1).trans rfl; have qx2 : wp5.cell? ⟨gX, 2, none⟩ = some (.int .i64 (ordF s)) := (blk_cell HP_wp5.out.2.2.1 2).trans rfl; have qg0 : wp5.cell? ⟨gf, 0, none⟩ = some (.int .i64 f.f0) := (blk_cell BF.out 0).trans rfl; have qg1 : wp5.cell? ⟨gf, 1, none⟩ = some (.int .i64 f.f1) := (blk_cell BF.out 1).trans rfl; have qg2 : wp5.cell? ⟨gf, 2, none⟩ = some (.bool f.f2) := (blk_cell BF.out 2).trans rfl; have qg3 : wp5.cell? ⟨gf, 3, none⟩ = some (.bool f.f3) := (blk_cell BF.out 3).trans rfl; have qg4 : wp5.cell? ⟨gf, 4, none⟩ = some (.slice A4 f.f4.length c4) := (blk_cell BF.out 4).trans rfl) | (go_at_call 22; (with_reducible refine (put2_calls (f.f1) (ordF s) z2 HP_wp5.out (by have := ordF_rng s; omega) (by have := ordF_rng s; omega) (PutW.len HTL.out HQ2.out) HY_z2.out).mono ?_); rintro e wp6 ⟨rfl, hk, A_wp6, c_wp6, hP⟩; replace BF := Aside0.mk ((hk.2 gf (blk_lt BF.out) (Ne.symm NEB.out) (by simp)).trans BF.out); have HP_wp6 := Aside0.mk hP; clear hk hP; clear qx0 qx1 qx2 qg0 qg1 qg2 qg3 qg4; have qx0 : wp6.cell? ⟨gX, 0, none⟩ = some (.int .i64 (numF s)) := (blk_cell HP_wp6.out.2.2.1 0).trans rfl; have qx1 : wp6.cell? ⟨gX, 1, none⟩ = some (.int .i64 (lenF s)) := (blk_cell HP_wp6.out.2.2.1 1).trans rfl; have qx2 : wp6.cell? ⟨gX, 2, none⟩ = some (.int .i64 (ordF s)) := (blk_cell HP_wp6.out.2.2.1 2).trans rfl; have qg0 : wp6.cell? ⟨gf, 0, none⟩ = some (.int .i64 f.f0) := (blk_cell BF.out 0).trans rfl; have qg1 : wp6.cell? ⟨gf, 1, none⟩ = some (.int .i64 f.f1) := (blk_cell BF.out 1).trans rfl; have qg2 : wp6.cell? ⟨gf, 2, none⟩ = some (.bool f.f2) := (blk_cell BF.out 2).trans rfl; have qg3 : wp6.cell? ⟨gf, 3, none⟩ = some (.bool f.f3) := (blk_cell BF.out 3).trans rfl; have qg4 : wp6.cell? ⟨gf, 4, none⟩ = some (.slice A4 f.f4.length c4) := (blk_cell BF.out 4).trans rfl) | (go_at_call 25; (with_reducible refine (tnsbits_wide.calls f.f3 wd _ HWF.out).mono ?_); rintro e w' ⟨rfl, ⟨nd, rfl⟩⟩) | (go_at_call 26; refine (HFIT.out _ (Kd.C_below HC4.out (pw_below_drewN HP_wp6.out.2.1 _))).mono ?_; rintro e w7 ⟨rfl, hb⟩; have HP7 := Aside0.mk ((HP_wp6.out.drewN _).below hb); have BF7 := Aside0.mk (blk_below (blk_drewN BF.out _) hb); clear hb qg0 qg1 qg2 qg3 qg4 qx0 qx1 qx2; have qg0 : w7.cell? ⟨gf, 0, none⟩ = some (.int .i64 f.f0) := (blk_cell BF7.out 0).trans rfl; have qg1 : w7.cell? ⟨gf, 1, none⟩ = some (.int .i64 f.f1) := (blk_cell BF7.out 1).trans rfl; have qg2 : w7.cell? ⟨gf, 2, none⟩ = some (.bool f.f2) := (blk_cell BF7.out 2).trans rfl; have qg3 : w7.cell? ⟨gf, 3, none⟩ = some (.bool f.f3) := (blk_cell BF7.out 3).trans rfl; have qg4 : w7.cell? ⟨gf, 4, none⟩ = some (.slice A4 f.f4.length c4) := (blk_cell BF7.out 4).trans rfl; have qx0 : w7.cell? ⟨gX, 0, none⟩ = some (.int .i64 (numF s)) := (blk_cell HP7.out.2.2.1 0).trans rfl; have qx1 : w7.cell? ⟨gX, 1, none⟩ = some (.int .i64 (lenF s)) := (blk_cell HP7.out.2.2.1 1).trans rfl; have qx2 : w7.cell? ⟨gX, 2, none⟩ = some (.int .i64 (ordF s)) := (blk_cell HP7.out.2.2.1 2).trans rfl) | (go_at_call 22; (with_reducible refine (put2_calls (b2i f.f2) (1) z3 (HP7.out.drewN _) (by omega) (by omega) (PutW.len HTL.out HQ4.out) HY_z3.out).mono ?_); rintro e wp8 ⟨rfl, hk, A_wp8, c_wp8, hP⟩; have BF8 := Aside0.mk ((hk.2 gf (blk_lt BF7.out) (Ne.symm NEB.out) (by simp)).trans BF7.out); have HP_wp8 := Aside0.mk hP; clear hk hP; clear qx0 qx1 qx2 qg0 qg1 qg2 qg3 qg4; have qx0 : wp8.cell? ⟨gX, 0, none⟩ = some (.int .i64 (numF s)) := (blk_cell HP_wp8.out.2.2.1 0).trans rfl; have qx1 : wp8.cell? ⟨gX, 1, none⟩ = some (.int .i64 (lenF s)) := (blk_cell HP_wp8.out.2.2.1 1).trans rfl; have qx2 : wp8.cell? ⟨gX, 2, none⟩ = some (.int .i64 (ordF s)) := (blk_cell HP_wp8.out.2.2.1 2).trans rfl; have qg0 : wp8.cell? ⟨gf, 0, none⟩ = some (.int .i64 f.f0) := (blk_cell BF8.out 0).trans rfl; have qg1 : wp8.cell? ⟨gf, 1, none⟩ = some (.int .i64 f.f1) := (blk_cell BF8.out 1).trans rfl; have qg2 : wp8.cell? ⟨gf, 2, none⟩ = some (.bool f.f2) := (blk_cell BF8.out 2).trans rfl; have qg3 : wp8.cell? ⟨gf, 3, none⟩ = some (.bool f.f3) := (blk_cell BF8.out 3).trans rfl; have qg4 : wp8.cell? ⟨gf, 4, none⟩ = some (.slice A4 f.f4.length c4) := (blk_cell BF8.out 4).trans rfl) | (go_at_call 22; (with_reducible refine (put2_calls (b2i nb) (1) z4 (HP_wp8.out.drewN _) (by omega) (by omega) (PutW.len HTL.out HQ5.out) HY_z4.out).mono ?_); rintro e wp9 ⟨rfl, hk, A_wp9, c_wp9, hP⟩; have BF9 := Aside0.mk ((hk.2 gf (blk_lt BF8.out) (Ne.symm NEB.out) (by simp)).trans BF8.out); have HP_wp9 := Aside0.mk hP; clear hk hP; clear qx0 qx1 qx2 qg0 qg1 qg2 qg3 qg4; have qx0 : wp9.cell? ⟨gX, 0, none⟩ = some (.int .i64 (numF s)) := (blk_cell HP_wp9.out.2.2.1 0).trans rfl; have qx1 : wp9.cell? ⟨gX, 1, none⟩ = some (.int .i64 (lenF s)) := (blk_cell HP_wp9.out.2.2.1 1).trans rfl; have qx2 : wp9.cell? ⟨gX, 2, none⟩ = some (.int .i64 (ordF s)) := (blk_cell HP_wp9.out.2.2.1 2).trans rfl; have qg0 : wp9.cell? ⟨gf, 0, none⟩ = some (.int .i64 f.f0) := (blk_cell BF9.out 0).trans rfl; have qg1 : wp9.cell? ⟨gf, 1, none⟩ = some (.int .i64 f.f1) := (blk_cell BF9.out 1).trans rfl; have qg2 : wp9.cell? ⟨gf, 2, none⟩ = some (.bool f.f2) := (blk_cell BF9.out 2).trans rfl; have qg3 : wp9.cell? ⟨gf, 3, none⟩ = some (.bool f.f3) := (blk_cell BF9.out 3).trans rfl; have qg4 : wp9.cell? ⟨gf, 4, none⟩ = some (.slice A4 f.f4.length c4) := (blk_cell BF9.out 4).trans rfl) | (go_at_call 24; (with_reducible refine (tnsbits_bit.calls f.f2 (b2i f.f2) _ (bit_f _)).mono ?_); rintro e w' ⟨rfl, ⟨nd, rfl⟩⟩) | (go_at_call 24; (with_reducible refine (tnsbits_bit.calls nb (b2i nb) _ (bit_f _)).mono ?_); rintro e w' ⟨rfl, ⟨nd, rfl⟩⟩))
                have HQ7 : Aside0 (z4 ++ (coefsBits f (f.f4.drop 0) ++ ((wl.drop (jj + 1)).flatMap (filtBits s) ++ (l.drop (kk + 1)).flatMap (winBits s))) = T) := HQ6
                clear HP HQ HQ1 HQ2 HQ3 HQ4 HQ5 HQ6 HY_z1 HY_z2 HY_z3 HY_z4 HP_wp5 HP_wp6 HP7 HP_wp8 BF BF7 BF8 BF9 HB qx0 qx1 qx2 qg0 qg1 qg2 qg3 qg4
                go_loopg [93] f.f4.length (fun gg s93 wr => ∃ ii xs A c, ii ≤ f.f4.length ∧ f.f4.length - ii ≤ gg ∧ s93 = .int .i64 (ii : Nat) ∧ Aside0 (PutW w gB gX s wr xs A c) ∧ Aside0 (xs ++ (coefsBits f (f.f4.drop ii) ++ ((wl.drop (jj + 1)).flatMap (filtBits s) ++ (l.drop (kk + 1)).flatMap (winBits s))) = T))
                case atStart => exact ⟨0, z4, _, _, Nat.zero_le _, by omega, rfl, HP_wp9, HQ7⟩
                case round =>
                  clear HP_wp9 HQ7
                  obtain ⟨ii, xi, Ac, cc, hii, hgi, rfl, HP, HQ⟩ := hrel
                  by_cases hlt3 : ii < f.f4.length
                  · have hltz3 : (ii : Int) < (f.f4.length : Int) := by omega
                    obtain ⟨ad4, rfl, hcell⟩ := Kd.at_int HC4.out (ii : Int) (by omega) hltz3
                    rw [Int.toNat_natCast] at hcell
                    have qc := pw_cell_below HP.out.2.1 hcell
                    clear hcell
                    have HR := Aside0.mk (show rd f.f4 (ii : Int) = f.f4[ii] from by unfold rd; rw [Int.toNat_natCast, List.getD_eq_getElem?_getD, List.getElem?_eq_getElem hlt3, Option.getD_some])
                    generalize rd f.f4 (ii : Int) = n at qc HR
                    obtain ⟨z5, hz5⟩ : ∃ y, y = xi ++ bitsM (n) (wd - b2i nb) := ⟨_, rfl⟩
                    have HY_z5 := Aside0.mk hz5
                    have HQ8 : Aside0 (z5 ++ (coefsBits f (f.f4.drop (ii + 1)) ++ ((wl.drop (jj + 1)).flatMap (filtBits s) ++ (l.drop (kk + 1)).flatMap (winBits s))) = T) := ⟨by have := HQ.out; unfold coefsBits at this ⊢; rw [flat_drop _ f.f4 ii hlt3, ← HR.out, ← HNB.out, ← HWD.out] at this; rw [hz5, ← HNB.out, ← HWD.out]; simpa only [List.append_assoc] using this⟩
                    clear hz5
                    go_wp2_with (first | (go_at_call 22; (with_reducible refine (put2_calls (n) (wd - b2i nb) z5 (HP.out.drewN _) (by omega) (by omega) (PutW.len HTL.out HQ.out) HY_z5.out).mono ?_); rintro e wpc ⟨rfl, hk, A_wpc, c_wpc, hP⟩; have HP_wpc := Aside0.mk hP; clear hk hP) | (go_at_call 24; (with_reducible refine (tnsbits_bit.calls nb (b2i nb) _ (bit_f _)).mono ?_); rintro e w' ⟨rfl, ⟨nd, rfl⟩⟩))
                    go_roundg (f.f4.length - (ii + 1))
                    case measure => omega
                    case rel => exact ⟨ii + 1, z5, _, _, by omega, by omega, by have := HM4.out; congr 1; unfold wrap64; omega, HP_wpc, HQ8⟩
                  · have hltz3 : ¬ (ii : Int) < (f.f4.length : Int) := by omega
                    obtain rfl : ii = f.f4.length := by omega
                    go_wp2
                    go_roundg (wl.length - (jj + 1))
                    case measure => omega
                    case rel => exact ⟨jj + 1, xi, _, _, by omega, by omega, by have := HWM.out; congr 1; unfold wrap64; omega, HP, ⟨by have := HQ.out; rwa [List.drop_of_length_le (Nat.le_refl _), show coefsBits f [] = [] from rfl, List.nil_append] at this⟩⟩
            · have hltz2 : ¬ (jj : Int) < (wl.length : Int) := by omega
              obtain rfl : jj = wl.length := by omega
              go_wp2
              go_roundg (l.length - (kk + 1))
              case measure => omega
              case rel => exact ⟨kk + 1, xj, _, _, by omega, by omega, by have := HLM.out; congr 1; unfold wrap64; omega, HP, ⟨by have := HQ.out; rwa [List.drop_of_length_le (Nat.le_refl _), List.flatMap_nil, List.nil_append] at this⟩⟩
      · have hltz : ¬ (kk : Int) < (l.length : Int) := by omega
        obtain rfl : kk = l.length := by omega
        have hqB : wr.cell? ⟨gB, 0, none⟩ = some (.slice A xs.length c) := (blk_cell HP.out.2.2.2.1 0).trans rfl
        obtain rfl : xs = T := by have := HQ.out; simpa using this
        go_wp2
        go_ret2
        exact ⟨_, rfl, HP.out.2.2.2.2, HP.out.2.1⟩
end Go.Proofs.Ytdhcgfdnhlhapaa.HS
end
section
-- Written for this claim by this session's own wip/hook.py (it runs the kit's print and takes some functions' contracts as given texts of this session's).
namespace Go.Proofs.Ytdhcgfdnhlhapaa.K
open Go.RowKit Go.Proofs.YtdhcgfdnhlhapaaW.PrintWords Go.Proofs.YtdhcgfdnhlhapaaW.PrintLast Go.Proofs.YtdhcgfdnhlhapaaW.PrintMore
attribute [local go_sem] max2_int min2_int max_two min_two max_three min_three max_four min_four   -- for this text's walks alone
set_option linter.unusedVariables false
set_option linter.unusedSimpArgs false

/-! ### tnsbits_Put: function 11: GIVEN BY HAND -/
-- IMPORT Derived.Test.YtdhcgfdnhlhapaaHS5

def tnsbits_Put.f (l0 : List Int) (a1_0 : Int) (a1_1 : Int) (a1_2 : Int) (l1_3 : List Int) (l2 : List (List (S38))) : Option (List Int × Int) := if l0.length ≤ 1000000 ∧ l1_3.length ≤ 17592186044416 then some (if HS.tnsOk a1_0 a1_1 a1_2 l1_3 l2 = true then (l0 ++ HS.tnsBits a1_0 l2, 0) else ([], 8)) else none
set_option maxHeartbeats 8000000 in
set_option maxRecDepth 100000 in
theorem tnsbits_Put.calls (A0 : Option Addr) (c0 : Nat) (l0 : List Int) (a1_0 : Int) (a1_1 : Int) (a1_2 : Int) (A1_3 : Option Addr) (c1_3 : Nat) (l1_3 : List Int) (A2 : Option Addr) (c2 : Nat) (l2 : List (List (S38))) (r1 : List Int) (r2 : Int) (w : World) (hr0 : Kd.C (Kd.int .u8) w A0 l0.length l0) (hc0 : l0.length ≤ c0) (hr1_3 : Kd.C (Kd.int .i64) w A1_3 l1_3.length l1_3) (hc1_3 : l1_3.length ≤ c1_3) (hr2 : Kd.C (Kd.slice 38 k38) w A2 l2.length l2) (hc2 : l2.length ≤ c2) (h : tnsbits_Put.f l0 a1_0 a1_1 a1_2 l1_3 l2 = some (r1, r2)) :
    Calls Try.prog 11 #[.slice A0 l0.length c0, .agg #[.int .u8 a1_0, .int .u8 a1_1, .int .i64 a1_2, .slice A1_3 l1_3.length c1_3], .slice A2 l2.length c2] w fun e w' => ∃ v0_ : Value, e = .returned (.tuple #[v0_, .int .i64 r2]) ∧ Kd.R (Kd.int .u8) 5 w' w.heap.size (fun _ => True) v0_ r1 ∧ Below w.heap.size w w' := by
  unfold tnsbits_Put.f at h
  by_cases hb : l0.length ≤ 1000000 ∧ l1_3.length ≤ 17592186044416
  case neg => rw [if_neg hb] at h; cases h
  rw [if_pos hb] at h
  refine (HS.put_calls A0 c0 l0 a1_0 a1_1 a1_2 A1_3 c1_3 l1_3 A2 c2 l2 w hb.1 hb.2 hr0 hc0 hr1_3 hc1_3 hr2).mono ?_
  rintro e w' ⟨v, rfl, hr, hbel⟩
  by_cases hk : HS.tnsOk a1_0 a1_1 a1_2 l1_3 l2 = true
  · rw [if_pos hk] at h hr
    obtain ⟨rfl, rfl⟩ : l0 ++ HS.tnsBits a1_0 l2 = r1 ∧ 0 = r2 := by simpa using h
    exact ⟨v, by rw [if_pos hk], hr, hbel⟩
  · rw [if_neg hk] at h hr
    obtain ⟨rfl, rfl⟩ : [] = r1 ∧ 8 = r2 := by simpa using h
    exact ⟨v, by rw [if_neg hk], hr, hbel⟩

end Go.Proofs.Ytdhcgfdnhlhapaa.K
end
section
-- Written for this claim by this session's own wip/hook.py (it runs the kit's print and takes some functions' contracts as given texts of this session's).
namespace Go.Proofs.Ytdhcgfdnhlhapaa.K
open Go.RowKit Go.Proofs.YtdhcgfdnhlhapaaW.PrintWords Go.Proofs.YtdhcgfdnhlhapaaW.PrintLast Go.Proofs.YtdhcgfdnhlhapaaW.PrintMore
attribute [local go_sem] max2_int min2_int max_two min_two max_three min_three max_four min_four   -- for this text's walks alone
set_option linter.unusedVariables false
set_option linter.unusedSimpArgs false

/-! ### reedpipelaw21_long: function 12 -/
def reedpipelaw21_long.f  : Option (Int × Int × Int × List Int) := some (0, 0, 0, (([1] : List Int)))
set_option maxHeartbeats 8000000 in
set_option maxRecDepth 100000 in
theorem reedpipelaw21_long.calls  (r1 : Int) (r2 : Int) (r3 : Int) (r4 : List Int) (w : World) (h : reedpipelaw21_long.f  = some (r1, r2, r3, r4)) :
    Calls Try.prog 12 #[] w fun e w' => ∃ v3_ : Value, e = .returned (.agg #[.int .u8 r1, .int .u8 r2, .int .i64 r3, v3_]) ∧ Kd.R (Kd.int .i64) 3 w' w.heap.size (fun _ => True) v3_ r4 ∧ Below w.heap.size w w' := by
  have hu24 := Try.underlying24
  have HB := Aside0.mk (Below.refl w.heap.size w)
  have H : (some (0, 0, 0, (([1] : List Int)))) = some (r1, r2, r3, r4) := h
  clear h
  obtain ⟨y125, hy125⟩ : ∃ y_ : List Int, y_ = (([1] : List Int)) := ⟨_, rfl⟩
  replace H : (some (0, 0, 0, y125)) = some (r1, r2, r3, r4) := by first | (rw [hy125]; with_reducible exact H) | (have H2_ := (Option.bind_some _ _).symm.trans H; rw [hy125]; with_reducible exact H2_) | (have H2_ := (Option.bind_some _ _).symm.trans H; with_reducible exact H2_) | with_reducible exact H | (rw [hy125]; exact H) | exact H
  have Ny125 := Aside0.mk hy125
  clear hy125
  simp only [Option.some.injEq, Prod.mk.injEq] at H
  obtain ⟨rfl, rfl, rfl, rfl⟩ := H
  go_enter Try.func12, Try.ntmps12
  go_wp2_with (first | ((with_reducible refine gate_dst (N := 0) rfl ?_); refine box_event ?hg (N := 0) ?hd (cs := #[.int .u8 0, .int .u8 0, .int .i64 0, .slice none 0 0]) (t := 24) ?hr ?_; (case hd => rfl); (case hg => rfl); (case hr => first | (go_simp; done) | (go_simp; rfl)); intro gb124 hg w1 hbox hb; have n0_ := Aside0.mk (below_step (by repeat (first | (with_reducible first | exact HB.out | apply below_alloc | apply pw_below_drewN | apply below_drew1) | exact HB.out)) hb); have n1_ := Aside0.mk (hbox); have n2_ := Aside0.mk ((by rw [hg]; exact (below_size (by repeat (first | (with_reducible first | exact HB.out | apply below_alloc | apply pw_below_drewN | apply below_drew1) | exact HB.out))) : w.heap.size ≤ gb124)); have n3_ := Aside0.mk ((by rw [hg]; exact (below_size (by repeat (first | (with_reducible first | exact HB.out | apply below_alloc | apply pw_below_drewN | apply below_drew1) | exact HB.out))) : w.heap.size ≤ gb124)); clear HB; have HB := n0_; have BK124 := n1_; have GW124 := n2_; have GE124 := n3_; clear n0_ n1_ n2_ n3_; clear hb hbox hg) | ((with_reducible refine gate_dst (N := 1) rfl ?_); refine Kd.R_lit (Kd.int .i64) _ 3 ?hg (N := 1) ?hd (xs := ([1] : List Int)) (inner := [.int .i64 1]) (ok := fun _ => True) (okp := fun _ => True) ?hr ?hp (fun _ hk => hk) trivial (Below.refl _ _) (Nat.le_refl _) (by simp) ?_; (case hd => rfl); (case hg => rfl); (case hr => first | (go_simp; done) | (go_simp; rfl)); (case hp => exact (Reps.one (show Kd.M (Kd.int .i64) _ _ _ 1 [.int .i64 1] from rfl) (Reps.none _ _))); intro v126 w2 ho3 hb hg_ hnew_; clear hg_ hnew_; (first | rw [← Ny125.out] at ho3 | (simp only [Int.reduceToNat] at ho3; rw [← Ny125.out] at ho3)); have n0_ := Aside0.mk (Kd.R_lower ho3 (below_size (by repeat (first | (with_reducible first | exact HB.out | apply below_alloc | apply pw_below_drewN | apply below_drew1 | refine below_set ?_ GE124.out) | exact HB.out)))); have n1_ := Aside0.mk (blk_below (g := gb124) (o := .cells #[.int .u8 0, .int .u8 0, .int .i64 0, .slice none 0 0] 24 (0, 0)) (by (with_reducible repeat (first | refine blk_drewN ?_ _ | refine blk_drew ?_ | refine blk_alloc ?_ _)); exact BK124.out) hb); have n2_ := Aside0.mk (below_step (by repeat (first | (with_reducible first | exact HB.out | apply below_alloc | apply pw_below_drewN | apply below_drew1 | refine below_set ?_ GE124.out) | exact HB.out)) hb); clear BK124; clear HB; have HO127 := n0_; have BK124 := n1_; have HB := n2_; clear n0_ n1_ n2_; clear hb ho3; obtain ⟨Ao4, co4, eo4⟩ := Kd.R_slice HO127.out; subst eo4; have hcz5_0 : w2.cell? ⟨gb124, 0, none⟩ = some (.int .u8 0) := (blk_cell BK124.out 0).trans rfl; have hcz5_1 : w2.cell? ⟨gb124, 1, none⟩ = some (.int .u8 0) := (blk_cell BK124.out 1).trans rfl; have hcz5_2 : w2.cell? ⟨gb124, 2, none⟩ = some (.int .i64 0) := (blk_cell BK124.out 2).trans rfl; have hcz5_3 : w2.cell? ⟨gb124, 3, none⟩ = some (.slice none 0 0) := (blk_cell BK124.out 3).trans rfl; have hfz5_0 := blk_frozen BK124.out 0; have hfz5_1 := blk_frozen BK124.out 1; have hfz5_2 := blk_frozen BK124.out 2; have hfz5_3 := blk_frozen BK124.out 3))
  refine bodyPost_ret (results_cell_row rfl _ _ gb124 24 #[.int .u8 0, .int .u8 0, .int .i64 0, .slice Ao4 y125.length co4] (0, 0) _ rfl (by (with_reducible repeat (first | refine blk_drewN ?_ _ | refine blk_drew ?_ | refine blk_alloc ?_ _)); refine blk_put (cs := #[.int .u8 0, .int .u8 0, .int .i64 0, .slice none 0 0]) ?_ 3 _ rfl; (with_reducible repeat (first | refine blk_drewN ?_ _ | refine blk_drew ?_ | refine blk_alloc ?_ _)); refine blk_put (cs := #[.int .u8 0, .int .u8 0, .int .i64 0, .slice none 0 0]) ?_ 2 _ rfl; (with_reducible repeat (first | refine blk_drewN ?_ _ | refine blk_drew ?_ | refine blk_alloc ?_ _)); refine blk_put (cs := #[.int .u8 0, .int .u8 0, .int .i64 0, .slice none 0 0]) ?_ 1 _ rfl; (with_reducible repeat (first | refine blk_drewN ?_ _ | refine blk_drew ?_ | refine blk_alloc ?_ _)); refine blk_put (cs := #[.int .u8 0, .int .u8 0, .int .i64 0, .slice none 0 0]) ?_ 0 _ rfl; (with_reducible repeat (first | refine blk_drewN ?_ _ | refine blk_drew ?_ | refine blk_alloc ?_ _)); exact BK124.out) Try.underlying24 rfl (by kernel_rfl)) rfl ?_
  exact ⟨_, by first | rfl | (simp [errW_none, errW_some] <;> rfl) | (simp [*, errW_none, errW_some] <;> rfl), by (with_reducible repeat (first | apply Kd.R_alloc | apply Kd.R_drewN | apply Kd.R_drew)); exact Kd.R_mono (Kd.R_far (p := ⟨gb124, 3, none⟩) (Kd.R_far (p := ⟨gb124, 2, none⟩) (Kd.R_far (p := ⟨gb124, 1, none⟩) (Kd.R_far (p := ⟨gb124, 0, none⟩) (Kd.R_types HO127.out BK124.out (by decide)) (fun _ hk => hk.2) (.int .u8 0)) (fun _ hk => hk.2) (.int .u8 0)) (fun _ hk => hk.2) (.int .i64 0)) (fun _ hk => hk.2) (.slice Ao4 y125.length co4)) (fun _ hk => trivial), by repeat (first | (with_reducible first | exact HB.out | apply below_alloc | apply pw_below_drewN | apply below_drew1 | refine below_set ?_ GE124.out) | exact HB.out)⟩

end Go.Proofs.Ytdhcgfdnhlhapaa.K
end
