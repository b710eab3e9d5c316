/- tns.predict's contract: what its two arrays hold, round by round. -/
import Derived.Test.YtapaahhegjlbgaaKx30
import Derived.Test.YtapaahhegjlbgaaKx31
import Derived.Test.YtapaahhegjlbgaaHD
import Derived.Test.YtapaahhegjlbgaaHC
import Derived.Test.YtapaahhegjlbgaaWMore
import Derived.Deep.QuietTactic
import Derived.BigQuiet
import Derived.BigRegion
namespace Go.Proofs.Ytapaahhegjlbgaa.HE
open Go.RowKit Go.Shelf Go.Proofs.YtapaahhegjlbgaaW.PrintWords Go.Proofs.YtapaahhegjlbgaaW.PrintLast Go.Proofs.YtapaahhegjlbgaaW.PrintMore Go.Proofs.Ytapaahhegjlbgaa.K
set_option linter.unusedVariables false

/-- The inner loop, d rounds from its end: of coefficient m. -/
def inner (k : Int) (ys : List Int) (m : Nat) : Nat → List Int → Option (List Int)
  | 0, xs => some xs
  | d + 1, xs => (tns_rounded.f 100 (wrap64 (k * rd ys ((m - 1 - (m - (d + 1)) : Nat) : Int))) 20).bind fun q => inner k ys m d (xs.set (m - (d + 1)) (wrap64 (rd ys ((m - (d + 1) : Nat) : Int) + q)))
/-- The outer loop, d rounds from its end. -/
def outer (fine : Bool) (l : List Int) : Nat → List Int → Option (List Int)
  | 0, xs => some xs
  | d + 1, xs => (tns_mirror.f 100 (rd l ((l.length - (d + 1) : Nat) : Int)) fine).bind fun k => (inner k xs (l.length - (d + 1)) (l.length - (d + 1)) xs).bind fun zs => outer fine l d (zs.set (l.length - (d + 1)) k)
def predictS (fine : Bool) (l : List Int) : Option (List Int) := (outer fine l l.length (List.replicate 12 0)).map (·.take l.length)
set_option maxHeartbeats 8000000 in
set_option maxRecDepth 100000 in
theorem predict_calls (a0 : Int) (a2 a3 : Bool) (A4 : Option Addr) (c4 : Nat) (l : List Int) (r : List Int) (w : World) (hr : Kd.C (Kd.int .i64) w A4 l.length l) (hc : l.length ≤ c4) (h2 : l.length ≤ 12) (h : predictS a3 l = some r) :
    Calls Try.prog 22 #[.agg #[.int .i64 a0, .int .i64 (l.length : Int), .bool a2, .bool a3, .slice A4 l.length c4]] w fun e w' => ∃ v, e = .returned v ∧ Kd.R (Kd.int .i64) 52 w' w.heap.size (fun _ => True) v r ∧ Below w.heap.size w w' := by
  unfold predictS at h
  obtain ⟨zs, h3, h4⟩ := Option.map_eq_some_iff.1 h
  have HO := Aside0.mk h3
  have HZ := Aside0.mk h4
  have HR := Aside0.mk hr
  have HL := Aside0.mk h2
  have HCC := Aside0.mk hc
  clear h h3 h4 hr h2 hc
  go_enter Try.func22, Try.ntmps22
  go_wp2_with (first | ((with_reducible refine gate_dst (N := 1) rfl ?_); refine box_event ?hg (N := 1) ?hd (cs := #[.int .i64 a0, .int .i64 (l.length : Int), .bool a2, .bool a3, .slice A4 l.length c4]) (t := 24) ?hr ?_; (case hd => rfl); (case hg => rfl); (case hr => first | (go_simp; done) | (go_simp; rfl)); intro gf hg w1 hbox hb; have GF := Aside0.mk (show w.heap.size ≤ gf by rw [hg]; exact Nat.le_refl _); have BF := Aside0.mk hbox; have HB1 := Aside0.mk hb; clear hg hbox hb) | ((with_reducible refine gate_dst (N := 3) rfl ?_); refine box_event ?hg (N := 3) ?hd (cs := HD.arr (List.replicate 12 0)) (t := 52) ?hr ?_; (case hd => rfl); (case hg => rfl); (case hr => first | (go_simp; done) | (go_simp; rfl)); intro ga hg w2 hbox hb; have GA := Aside0.mk (show w.heap.size ≤ ga by rw [hg]; exact HB1.out.size); have NFA := Aside0.mk (show gf ≠ ga by rw [hg]; exact Nat.ne_of_lt (blk_lt BF.out)); replace BF := Aside0.mk (blk_below BF.out hb); have BA := Aside0.mk hbox; have HB2 := Aside0.mk (below_step HB1.out hb); clear hg hbox hb) | ((with_reducible refine gate_dst (N := 4) rfl ?_); refine box_event ?hg (N := 4) ?hd (cs := HD.arr (List.replicate 12 0)) (t := 52) ?hr ?_; (case hd => rfl); (case hg => rfl); (case hr => first | (go_simp; done) | (go_simp; rfl)); intro gb hg w3 hbox hb; have GB := Aside0.mk (show w.heap.size ≤ gb by rw [hg]; exact HB2.out.size); have NFB := Aside0.mk (show gf ≠ gb by rw [hg]; exact Nat.ne_of_lt (blk_lt BF.out)); have NAB := Aside0.mk (show ga ≠ gb by rw [hg]; exact Nat.ne_of_lt (blk_lt BA.out)); replace BF := Aside0.mk (blk_below BF.out hb); replace BA := Aside0.mk (blk_below BA.out hb); have BB := Aside0.mk hbox; have HB := Aside0.mk (below_step HB2.out hb); clear hg hbox hb; have hq0 : w3.cell? ⟨gf, 0, none⟩ = some (.int .i64 a0) := (blk_cell BF.out 0).trans rfl; have hq1 : w3.cell? ⟨gf, 1, none⟩ = some (.int .i64 (l.length : Int)) := (blk_cell BF.out 1).trans rfl; have hq2 : w3.cell? ⟨gf, 2, none⟩ = some (.bool a2) := (blk_cell BF.out 2).trans rfl; have hq3 : w3.cell? ⟨gf, 3, none⟩ = some (.bool a3) := (blk_cell BF.out 3).trans rfl; have hq4 : w3.cell? ⟨gf, 4, none⟩ = some (.slice A4 l.length c4) := (blk_cell BF.out 4).trans rfl))
  go_loopg [5, 6, 7, 8, 12] l.length (fun gg _ _ _ _ s12 wr => ∃ (m : Nat) (xs ys : List Int), m ≤ l.length ∧ l.length - m ≤ gg ∧ s12 = .int .i64 m ∧ Aside0 (xs.length = 12) ∧ Aside0 (ys.length = 12) ∧ Aside0 (outer a3 l (l.length - m) xs = some zs) ∧ Aside0 (wr.heap[gf]? = some (.cells #[.int .i64 a0, .int .i64 (l.length : Int), .bool a2, .bool a3, .slice A4 l.length c4] 24 (0, 0))) ∧ Aside0 (wr.heap[ga]? = some (.cells (HD.arr xs) 52 (0, 0))) ∧ Aside0 (wr.heap[gb]? = some (.cells (HD.arr ys) 52 (0, 0))) ∧ Aside0 (Below w.heap.size w wr))
  case atStart => exact ⟨0, _, _, Nat.zero_le _, by omega, rfl, ⟨by simp⟩, ⟨by simp⟩, ⟨HO.out⟩, BF, BA, BB, HB⟩
  case round =>
    clear hq0 hq1 hq2 hq3 hq4 BF BA BB HB HO
    obtain ⟨m, xs, ys, hm, hg, rfl, LX, LY, HO, BF, BA, BB, HB⟩ := hrel
    have hq0 : wr.cell? ⟨gf, 0, none⟩ = some (.int .i64 a0) := (blk_cell BF.out 0).trans rfl
    have hq1 : wr.cell? ⟨gf, 1, none⟩ = some (.int .i64 (l.length : Int)) := (blk_cell BF.out 1).trans rfl
    have hq2 : wr.cell? ⟨gf, 2, none⟩ = some (.bool a2) := (blk_cell BF.out 2).trans rfl
    have hq3 : wr.cell? ⟨gf, 3, none⟩ = some (.bool a3) := (blk_cell BF.out 3).trans rfl
    have hq4 : wr.cell? ⟨gf, 4, none⟩ = some (.slice A4 l.length c4) := (blk_cell BF.out 4).trans rfl
    by_cases hlt : m < l.length
    · have hltz : (m : Int) < (l.length : Int) := by omega
      obtain ⟨ad, rfl, hcell⟩ := Kd.at_int (Kd.C_below HR.out HB.out) (m : Int) (by omega) hltz
      rw [Int.toNat_natCast] at hcell
      have HO2 := HO.out
      obtain ⟨d, hd⟩ : ∃ d, l.length - m = d + 1 := ⟨l.length - m - 1, by omega⟩
      rw [hd] at HO2
      simp only [outer] at HO2
      rw [show l.length - (d + 1) = m by omega] at HO2
      obtain ⟨k, hk, HO3⟩ := Option.bind_eq_some_iff.1 HO2
      obtain ⟨z2, hi, HO4⟩ := Option.bind_eq_some_iff.1 HO3
      have HK := Aside0.mk hk
      have HI := Aside0.mk hi
      have HO5 := Aside0.mk HO4
      have HD1 := Aside0.mk hd
      clear HO HO2 HO3 HO4 hk hi hd
      obtain ⟨c, hcq⟩ : ∃ c, rd l (m : Int) = c := ⟨_, rfl⟩
      rw [hcq] at hcell HK
      clear hcq
      go_wp2_with (first | (go_at_call 30; refine (tns_mirror.calls 100 _ _ k _ HK.out).mono ?_; rintro e w4 ⟨rfl, hb⟩; have BF4 := Aside0.mk (blk_below BF.out hb); have BA4 := Aside0.mk (blk_below BA.out hb); have BB4 := Aside0.mk (blk_below BB.out hb); have HB4 := Aside0.mk (below_step HB.out hb); clear hb) | ((with_reducible refine gate_dst (N := 21) rfl ?_); refine wpList_load_row rfl 52 (.tmp 3) rfl ga rfl 52 (HD.arr xs) (0, 0) _ BA4.out Try.underlying52 rfl (by rw [HD.arr_size, LX.out]; kernel_rfl) ?_) | ((with_reducible refine gate_store (t := 52) (p := 4) rfl ?_); go_loud (refine wpList_store_row rfl 52 (.tmp 4) (.tmp 21) rfl gb (HD.arr xs) rfl rfl 52 (HD.arr ys) BB4.out (by rw [HD.arr_size, LX.out]; kernel_rfl) (by rw [HD.arr_size, HD.arr_size, LX.out, LY.out]) (HD.arr_one xs) ?_; generalize hw5 : w4.setRow gb (HD.arr xs) = w5; have BF5 : Aside0 (w5.heap[gf]? = some (.cells #[.int .i64 a0, .int .i64 (l.length : Int), .bool a2, .bool a3, .slice (some ad) l.length c4] 24 (0, 0))) := ⟨by rw [← hw5]; rw [setRow_other w4 gb gf _ NFB.out]; exact BF4.out⟩; have BA5 : Aside0 (w5.heap[ga]? = some (.cells (HD.arr xs) 52 (0, 0))) := ⟨by rw [← hw5]; rw [setRow_other w4 gb ga _ NAB.out]; exact BA4.out⟩; have BB5 : Aside0 (w5.heap[gb]? = some (.cells (HD.arr xs) 52 (0, 0))) := ⟨by rw [← hw5]; exact setRow_heap w4 gb _ _ _ _ BB4.out⟩; have HB5 : Aside0 (Below w.heap.size w w5) := ⟨by rw [← hw5]; exact below_setRow HB4.out GB.out _⟩; clear hw5)))
      go_loopg [8, 23] m (fun g2 _ s23 wr2 => ∃ (i : Nat) (vs : List Int), i ≤ m ∧ m - i ≤ g2 ∧ s23 = .int .i64 i ∧ Aside0 (vs.length = 12) ∧ Aside0 (inner k xs m (m - i) vs = some z2) ∧ Aside0 (wr2.heap[gf]? = some (.cells #[.int .i64 a0, .int .i64 (l.length : Int), .bool a2, .bool a3, .slice (some ad) l.length c4] 24 (0, 0))) ∧ Aside0 (wr2.heap[ga]? = some (.cells (HD.arr vs) 52 (0, 0))) ∧ Aside0 (wr2.heap[gb]? = some (.cells (HD.arr xs) 52 (0, 0))) ∧ Aside0 (Below w.heap.size w wr2))
      case atStart => exact ⟨0, xs, Nat.zero_le _, by omega, rfl, LX, HI, BF5, BA5, BB5, HB5⟩
      case round =>
        clear hq0 hq1 hq2 hq3 hq4 BF5 BA5 BB5 HB5 HI hcell
        obtain ⟨i, vs, hi, hg2, rfl, LV, HI, BF, BA, BB, HB⟩ := hrel
        by_cases hlt2 : i < m
        · have hltz2 : (i : Int) < (m : Int) := by omega
          have HI2 := HI.out
          obtain ⟨e, he⟩ : ∃ e, m - i = e + 1 := ⟨m - i - 1, by omega⟩
          rw [he] at HI2
          simp only [inner] at HI2
          rw [show m - (e + 1) = i by omega] at HI2
          obtain ⟨q, hq, HI3⟩ := Option.bind_eq_some_iff.1 HI2
          have HE1 := Aside0.mk he
          have HQ := Aside0.mk hq
          have HI4 := Aside0.mk HI3
          clear HI HI2 HI3 hq he
          have hm12 : m < 12 := by have := HL.out; omega
          have hix : wrap64 (wrap64 ((m : Int) - 1) - (i : Int)) = ((m - 1 - i : Nat) : Int) := by unfold wrap64; omega
          have g1 : wr.cell? ⟨gb, i, none⟩ = some (.int .i64 (rd xs (i : Int))) := HD.arr_cell BB.out i (by have := LX.out; omega)
          have g2 : wr.cell? ⟨gb, m - 1 - i, none⟩ = some (.int .i64 (rd xs ((m - 1 - i : Nat) : Int))) := HD.arr_cell BB.out (m - 1 - i) (by have := LX.out; omega)
          have g3 : wr.cell? ⟨ga, i, none⟩ = some (.int .i64 (rd vs (i : Int))) := HD.arr_cell BA.out i (by have := LV.out; omega)
          have f3 : wr.frozen? ⟨ga, i, none⟩ = false := blk_frozen BA.out i
          obtain ⟨x1, hx1⟩ : ∃ x, rd xs (i : Int) = x := ⟨_, rfl⟩
          obtain ⟨x2, hx2⟩ : ∃ x, rd xs ((m - 1 - i : Nat) : Int) = x := ⟨_, rfl⟩
          rw [hx1] at g1 HI4
          rw [hx2] at g2 HQ
          clear hx1 hx2
          have i12 : (i : Int) < 12 := by omega
          have j12 : ((m - 1 - i : Nat) : Int) < 12 := by omega
          obtain ⟨jj, hjj⟩ : ∃ jj : Nat, jj = m - 1 - i := ⟨_, rfl⟩
          rw [← hjj] at hix g2 j12
          clear hjj
          have hix2 : IntKind.i64.wrap (IntKind.i64.wrap ((m : Int) - 1) - (i : Int)) = (jj : Int) := by rw [i64_w, i64_w]; exact hix
          have HQ2 : Aside0 (tns_rounded.f 100 (IntKind.i64.wrap (k * x2)) 20 = some q) := ⟨by rw [i64_w]; exact HQ.out⟩
          go_wp2_with fail
          go_region_with (go_at_call 31; refine (tns_rounded.calls 100 _ 20 q _ HQ2.out).mono ?_; rintro e w6 ⟨rfl, ⟨nd, rfl⟩⟩)
          all_goals
            go_wp2
            go_roundg (m - (i + 1))
            case measure => omega
            case rel =>
              refine ⟨i + 1, vs.set i (wrap64 (x1 + q)), by omega, by omega, ?_, ⟨by rw [List.length_set]; exact LV.out⟩, ⟨?_⟩, ⟨blk_far (blk_drewN BF.out _) NFA.out _⟩, ⟨HD.arr_put (blk_drewN BA.out _) i _⟩, ⟨blk_far (blk_drewN BB.out _) (Ne.symm NAB.out) _⟩, ⟨below_set (pw_below_drewN HB.out _) GA.out⟩⟩
              · first | (congr 1; done) | (congr 1; unfold wrap64; omega) | (congr 1; rw [i64_w]; unfold wrap64; omega)
              · rw [show m - (i + 1) = e by have := HE1.out; omega]
                exact HI4.out
        · obtain rfl : i = m := by omega
          have hv : vs = z2 := by
            have := HI.out
            rw [Nat.sub_self] at this
            simpa [inner] using this
          subst hv
          have g3 : wr.cell? ⟨ga, i, none⟩ = some (.int .i64 (rd vs (i : Int))) := HD.arr_cell BA.out i (by have := LV.out; have := HL.out; omega)
          have f3 : wr.frozen? ⟨ga, i, none⟩ = false := blk_frozen BA.out i
          have i12 : (i : Int) < 12 := by have := HL.out; omega
          generalize rd vs (i : Int) = x3 at g3
          clear HI
          go_wp2
          go_roundg (l.length - (i + 1))
          case measure => omega
          case rel =>
            refine ⟨i + 1, vs.set i k, xs, by omega, by omega, ?_, ⟨by rw [List.length_set]; exact LV.out⟩, LX, ⟨?_⟩, ⟨blk_far BF.out NFA.out _⟩, ⟨HD.arr_put BA.out i _⟩, ⟨blk_far BB.out (Ne.symm NAB.out) _⟩, ⟨below_set HB.out GA.out⟩⟩
            · first | (congr 1; done) | (congr 1; unfold wrap64; omega) | (congr 1; rw [i64_w]; unfold wrap64; omega)
            · rw [show l.length - (i + 1) = d by have := HD1.out; omega]
              exact HO5.out
    · obtain rfl : m = l.length := by omega
      have hv : xs = zs := by
        have := HO.out
        rw [Nat.sub_self] at this
        simpa [outer] using this
      subst hv
      have l12 : (l.length : Int) ≤ 12 := by have := HL.out; omega
      go_wp2
      go_ret
      refine ⟨_, rfl, ?_, HB.out⟩
      rw [← HZ.out]
      have := HD.arr_R BA.out GA.out l.length (by rw [LX.out]; exact HL.out) (by rw [LX.out]; first | done | decide) (fun _ => True) trivial
      rw [LX.out] at this
      exact this
end Go.Proofs.Ytapaahhegjlbgaa.HE
