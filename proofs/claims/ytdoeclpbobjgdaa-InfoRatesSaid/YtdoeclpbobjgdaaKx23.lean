-- Written for this claim by this session's own wip/hook.py (it runs the kit's print and takes some functions' contracts as given texts of this session's).
import Derived.Test.YtdoeclpbobjgdaaSPA
import Derived.Test.YtdoeclpbobjgdaaKx0
import Derived.Test.YtdoeclpbobjgdaaKx12
import Derived.Test.YtdoeclpbobjgdaaKx15
import Derived.Test.YtdoeclpbobjgdaaKx37
namespace Go.Proofs.Ytdoeclpbobjgdaa.K
open Go.RowKit Go.Proofs.YtdoeclpbobjgdaaW.PrintWords Go.Proofs.YtdoeclpbobjgdaaW.PrintLast Go.Proofs.YtdoeclpbobjgdaaW.PrintMore
attribute [local go_sem] max2_int min2_int max_two min_two max_three min_three max_four min_four   -- for this text's walks alone
set_option linter.unusedVariables false
set_option linter.unusedSimpArgs false

/-! ### info_Put: function 23: GIVEN BY HAND -/
-- IMPORT Derived.Test.YtdoeclpbobjgdaaSPA
/-- Where the closure's bits stand, and the windows' record. -/
def PutC (w0 : World) (B I : Nat) (cs : Array Value) (W : World) (xs : List Int) : Prop :=
  w0.heap.size ≤ B ∧ B ≠ I ∧ Below w0.heap.size w0 W ∧ W.heap[I]? = some (.cells cs 24 (0, 0)) ∧ ∃ A c, W.heap[B]? = some (.cells #[.slice A xs.length c] 42 (0, 0)) ∧ xs.length ≤ c ∧ Kd.C (Kd.int .u8) W A xs.length xs
def PutR (w0 : World) (B I : Nat) (cs : Array Value) (W : World) (xs : List Int) : Prop :=
  w0.heap.size ≤ B ∧ B ≠ I ∧ Below w0.heap.size w0 W ∧ W.heap[I]? = some (.cells cs 24 (0, 0)) ∧ ∃ A c, W.heap[B]? = some (.cells #[.slice A xs.length c] 42 (0, 0)) ∧ Kd.R (Kd.int .u8) 5 W w0.heap.size (fun _ => True) (.slice A xs.length c) xs
theorem PutR.c {w0 : World} {B I : Nat} {cs : Array Value} {W : World} {xs : List Int} (h : PutR w0 B I cs W xs) : PutC w0 B I cs W xs := by
  obtain ⟨h1, h2, h3, h4, A, c, h5, h6⟩ := h
  obtain ⟨_, hc, hr⟩ := Kd.R_reads' h6
  exact ⟨h1, h2, h3, h4, A, c, h5, hc, hr⟩
theorem PutR.below {w0 : World} {B I : Nat} {cs : Array Value} {W W1 : World} {xs : List Int} (h : PutR w0 B I cs W xs) (hb : Below W.heap.size W W1) : PutR w0 B I cs W1 xs := by
  obtain ⟨h1, h2, h3, h4, A, c, h5, h6⟩ := h
  exact ⟨h1, h2, below_step h3 hb, blk_below h4 hb, A, c, blk_below h5 hb, Kd.R_below h6 hb⟩
theorem PutC.i {w0 : World} {B I : Nat} {cs : Array Value} {W : World} {xs : List Int} (h : PutC w0 B I cs W xs) (j : Nat) : W.cell? ⟨I, j, none⟩ = cs[j]? := blk_cell h.2.2.2.1 j
set_option maxHeartbeats 4000000 in
set_option maxRecDepth 100000 in
theorem info_Put.put (w0 : World) (B I : Nat) (cs : Array Value) (W : World) (xs : List Int) (n size : Int) (h0 : 0 ≤ size) (h1 : size ≤ 31) (h2 : 0 ≤ n) (h3 : n < 2 ^ size.toNat) (hl : xs.length ≤ 100000000) (h : PutC w0 B I cs W xs) :
    Calls Try.prog 36 #[.int .i64 n, .int .i64 size, .pointer (some ⟨B, 0, none⟩)] W fun e W' => e = .returned (.tuple #[]) ∧ PutR w0 B I cs W' (xs ++ HA.bitsOf n size.toNat) := by
  obtain ⟨hB, hne, hbel, hI, A, c, hb, hlc, hC⟩ := h
  have HP := Aside0.mk (SP.put_ok xs n size h0 h1 h2 h3 hl)
  obtain ⟨r, hr⟩ : ∃ r, r = xs ++ HA.bitsOf n size.toNat := ⟨_, rfl⟩
  rw [← hr] at HP
  have HR := Aside0.mk hr
  have HC := Aside0.mk hC
  have HI := Aside0.mk hI
  have HW := Aside0.mk hbel
  have HBL := Aside0.mk hb
  have HNE := Aside0.mk hne
  have HG := Aside0.mk hB
  rw [← hr]
  have hq : W.cell? ⟨B, 0, none⟩ = some (.slice A xs.length c) := (blk_cell hb 0).trans rfl
  clear hr hC hI hbel hb hne hB h0 h1 h2 h3 hl
  go_enter Try.func36, Try.ntmps36
  go_wp2_with (first | ((with_reducible refine gate_callee (f := 37) rfl ?_); refine goesL_ (some 9) rfl rfl Try.func37 (by kernel_rfl) rfl #[.slice A xs.length c, .int .i64 n, .int .i64 size] rfl (by (try simp only [List.map_toArray, List.map_cons, List.map_nil]); first | done | rfl) ?_; (with_reducible refine (bits_Put.calls A c xs n size r 0 _ HC.out hlc HP.out).mono ?_); rintro e w1 ⟨v1, rfl, ho, hb1⟩; refine ⟨_, rfl, ?_⟩; obtain ⟨A1, c1, rfl, hl1, hc1⟩ := Kd.R_reads ho; have HO1 := Aside0.mk ho; have HBL1 := Aside0.mk (blk_below HBL.out hb1); have HW1 := Aside0.mk (below_step HW.out hb1); have HI1 := Aside0.mk (blk_below HI.out hb1); have hf1 : w1.frozen? ⟨B, 0, none⟩ = false := blk_frozen HBL1.out 0; have hq1 : w1.cell? ⟨B, 0, none⟩ = some (.slice A xs.length c) := (blk_cell HBL1.out 0).trans rfl; clear ho hb1 hc1 hl1))
  go_end0
  have hs := blk_set HBL1.out 0 (.slice A1 r.length c1)
  refine ⟨rfl, HG.out, HNE.out, below_set HW1.out HG.out, blk_far HI1.out (Ne.symm HNE.out) _, A1, c1, by simpa using hs, ?_⟩
  exact Kd.R_mono (Kd.R_set (Kd.R_lower HO1.out HW.out.size) HBL1.out (by decide) 0 _) (fun _ _ => trivial)

def info_Put.f (l0 : List Int) (a1 : Int) (a2_0 : Int) (a2_1 : Int) (a2_2 : Int) (l2_3 : List Int) : Option (List Int × Int) := if 0 ≤ a2_0 ∧ 0 ≤ a2_1 ∧ l0.length ≤ 1000000 ∧ l2_3.length ≤ 1000 then some (if SP.checkS a1 a2_0 a2_1 a2_2 l2_3 = 0 then (l0 ++ HP.infoBits a2_0 a2_1 a2_2 l2_3, 0) else ([], SP.checkS a1 a2_0 a2_1 a2_2 l2_3)) else none
set_option maxHeartbeats 8000000 in
set_option maxRecDepth 100000 in
theorem info_Put.calls (A0 : Option Addr) (c0 : Nat) (l0 : List Int) (a1 : Int) (a2_0 : Int) (a2_1 : Int) (a2_2 : Int) (A2_3 : Option Addr) (c2_3 : Nat) (l2_3 : List Int) (r1 : List Int) (r2 : Int) (w : World) (hr0 : Kd.C (Kd.int .u8) w A0 l0.length l0) (hc0 : l0.length ≤ c0) (hr2_3 : Kd.C (Kd.int .i64) w A2_3 l2_3.length l2_3) (hc2_3 : l2_3.length ≤ c2_3) (h : info_Put.f l0 a1 a2_0 a2_1 a2_2 l2_3 = some (r1, r2)) :
    Calls Try.prog 23 #[.slice A0 l0.length c0, .int .i64 a1, .agg #[.int .u8 a2_0, .int .u8 a2_1, .int .i64 a2_2, .slice A2_3 l2_3.length c2_3]] w fun e w' => ∃ v0_ : Value, e = .returned (.tuple #[v0_, .int .i64 r2]) ∧ Kd.R (Kd.int .u8) 5 w' w.heap.size (fun _ => True) v0_ r1 ∧ Below w.heap.size w w' := by
  unfold info_Put.f at h
  by_cases hcond : 0 ≤ a2_0 ∧ 0 ≤ a2_1 ∧ l0.length ≤ 1000000 ∧ l2_3.length ≤ 1000
  case neg => rw [if_neg hcond] at h; cases h
  rw [if_pos hcond] at h
  obtain ⟨hu0, hu1, hlx, hlg⟩ := hcond
  have HLX := Aside0.mk hlx
  have HLG := Aside0.mk hlg
  have HR0 := Aside0.mk hr0
  have HC0L := Aside0.mk hc0
  have HR2 := Aside0.mk hr2_3
  have HC2L := Aside0.mk hc2_3
  clear hr0 hc0 hr2_3 hc2_3
  have HK := Aside0.mk (SP.check_f a1 a2_0 a2_1 a2_2 l2_3 (by omega) 1001 (by omega))
  by_cases hk : SP.checkS a1 a2_0 a2_1 a2_2 l2_3 = 0
  case neg =>
    rw [if_neg hk] at h
    obtain ⟨rfl, rfl⟩ : [] = r1 ∧ SP.checkS a1 a2_0 a2_1 a2_2 l2_3 = r2 := by simpa using h
    obtain ⟨q, hq⟩ : ∃ q, q = SP.checkS a1 a2_0 a2_1 a2_2 l2_3 := ⟨_, rfl⟩
    rw [← hq] at HK hk ⊢
    have bq : (q != 0) = true := bne_iff_ne.mpr hk
    clear hq hk h
    go_enter Try.func23, Try.ntmps23
    go_wp2_with (first | ((with_reducible refine gate_callee (f := 15) rfl ?_); refine goesL_ (some 17) rfl rfl Try.func15 (by kernel_rfl) rfl #[.int .i64 a1, .agg #[.int .u8 a2_0, .int .u8 a2_1, .int .i64 a2_2, .slice A2_3 l2_3.length c2_3]] rfl (by (try simp only [List.map_toArray, List.map_cons, List.map_nil]); first | done | rfl) ?_; (with_reducible refine (info_Check.calls 1001 a1 a2_0 a2_1 a2_2 A2_3 c2_3 l2_3 q _ (by (with_reducible repeat (first | apply Kd.C_alloc | apply Kd.C_drewN | apply Kd.C_drew)); exact HR2.out) HC2L.out HK.out).mono ?_); rintro e w1 ⟨rfl, hb⟩; refine ⟨_, rfl, ?_⟩; have HB1 := Aside0.mk (below_step (below_alloc (below_alloc (Below.refl _ _) _) _) hb); clear hb))
    go_ret2
    exact ⟨_, rfl, Kd.R_nil _ _ _ _ _, HB1.out⟩
  rw [if_pos hk] at h
  obtain ⟨rfl, rfl⟩ : l0 ++ HP.infoBits a2_0 a2_1 a2_2 l2_3 = r1 ∧ 0 = r2 := by simpa using h
  obtain ⟨_, _, hs3, hp1, hm0, hm40, hm15, hio⟩ := SP.checkS_ok hk
  have HSOME := Aside0.mk (SP.infoOk_some (by assumption) (by assumption) hio)
  rw [hk] at HK
  clear hk h hio
  by_cases hsq : a2_0 = 2
  · subst hsq
    replace hm15 := hm15 rfl
    go_enter Try.func23, Try.ntmps23
    go_wp2_with (first | ((with_reducible refine gate_dst (N := 3) rfl ?_); refine box_event ?hg (N := 3) ?hd (cs := #[.slice A0 l0.length c0]) (t := 42) ?hr ?_; (case hd => rfl); (case hg => rfl); (case hr => first | (go_simp; done) | (go_simp; rfl)); intro gb hg wb hbox hb; have HGB := Aside0.mk hg; have BK1 := Aside0.mk hbox; have HB1 := Aside0.mk hb; clear hg hbox hb) | ((with_reducible refine gate_dst (N := 5) rfl ?_); refine box_event ?hg (N := 5) ?hd (cs := #[.int .u8 2, .int .u8 a2_1, .int .i64 a2_2, .slice A2_3 l2_3.length c2_3]) (t := 24) ?hr ?_; (case hd => rfl); (case hg => rfl); (case hr => first | (go_simp; done) | (go_simp; rfl)); intro gi hg wi hbox hb; have HNE := Aside0.mk (show gb ≠ gi by rw [hg]; exact Nat.ne_of_lt (blk_lt BK1.out)); have BK2 := Aside0.mk hbox; have HB2 := Aside0.mk (below_step HB1.out hb); replace BK1 := Aside0.mk (blk_below BK1.out hb); have hq0 : wi.cell? ⟨gi, 0, none⟩ = some (.int .u8 2) := (blk_cell BK2.out 0).trans rfl; have hq1 : wi.cell? ⟨gi, 1, none⟩ = some (.int .u8 a2_1) := (blk_cell BK2.out 1).trans rfl; have hq2 : wi.cell? ⟨gi, 2, none⟩ = some (.int .i64 a2_2) := (blk_cell BK2.out 2).trans rfl; have hq3 : wi.cell? ⟨gi, 3, none⟩ = some (.slice A2_3 l2_3.length c2_3) := (blk_cell BK2.out 3).trans rfl; clear hg hbox hb) | ((with_reducible refine gate_callee (f := 15) rfl ?_); refine goesL_ (some 17) rfl rfl Try.func15 (by kernel_rfl) rfl #[.int .i64 a1, .agg #[.int .u8 2, .int .u8 a2_1, .int .i64 a2_2, .slice A2_3 l2_3.length c2_3]] rfl (by (try simp only [List.map_toArray, List.map_cons, List.map_nil]); first | done | rfl) ?_; (with_reducible refine (info_Check.calls 1001 a1 2 a2_1 a2_2 A2_3 c2_3 l2_3 0 _ (Kd.C_below HR2.out HB2.out) HC2L.out HK.out).mono ?_); rintro e w1 ⟨rfl, hb⟩; refine ⟨_, rfl, ?_⟩; have HC0 : Aside0 (PutC w gb gi #[.int .u8 2, .int .u8 a2_1, .int .i64 a2_2, .slice A2_3 l2_3.length c2_3] w1 l0) := ⟨by rw [HGB.out]; exact Nat.le_refl _, HNE.out, below_step HB2.out hb, blk_below BK2.out hb, A0, c0, blk_below BK1.out hb, HC0L.out, Kd.C_below (Kd.C_below HR0.out HB2.out) hb⟩; clear hb hq0 hq1 hq2 hq3; have hq0 : w1.cell? ⟨gi, 0, none⟩ = some (.int .u8 2) := (HC0.out.i 0).trans rfl; have hq1 : w1.cell? ⟨gi, 1, none⟩ = some (.int .u8 a2_1) := (HC0.out.i 1).trans rfl; have hq2 : w1.cell? ⟨gi, 2, none⟩ = some (.int .i64 a2_2) := (HC0.out.i 2).trans rfl; have hq3 : w1.cell? ⟨gi, 3, none⟩ = some (.slice A2_3 l2_3.length c2_3) := (HC0.out.i 3).trans rfl))
    refine (info_Put.put w gb gi _ _ l0 0 1 (by decide) (by decide) (by omega) (by rw [show (2 : Int) ^ (1 : Int).toNat = 2 from rfl]; omega) (by have := HLX.out; omega) HC0.out).mono ?_
    rintro e W1 ⟨rfl, hs⟩
    clear hq0 hq1 hq2 hq3
    obtain ⟨x1, hx⟩ : ∃ x, x = l0 ++ HA.bitsOf 0 1 := ⟨_, rfl⟩
    have HS1 : Aside0 (PutR w gb gi #[.int .u8 2, .int .u8 a2_1, .int .i64 a2_2, .slice A2_3 l2_3.length c2_3] W1 x1) := ⟨by rw [hx]; exact hs⟩
    have HX1 := Aside0.mk hx
    have HLX1 : Aside0 (x1.length ≤ 1000000 + 10) := ⟨by have := HLX.out; rw [hx, List.length_append, HA.bitsOf_length]; omega⟩
    clear hs hx
    have hq0 : W1.cell? ⟨gi, 0, none⟩ = some (.int .u8 2) := (HS1.out.c.i 0).trans rfl
    have hq1 : W1.cell? ⟨gi, 1, none⟩ = some (.int .u8 a2_1) := (HS1.out.c.i 1).trans rfl
    have hq2 : W1.cell? ⟨gi, 2, none⟩ = some (.int .i64 a2_2) := (HS1.out.c.i 2).trans rfl
    have hq3 : W1.cell? ⟨gi, 3, none⟩ = some (.slice A2_3 l2_3.length c2_3) := (HS1.out.c.i 3).trans rfl
    go_wp2_with fail
    refine (info_Put.put w gb gi _ _ x1 2 2 (by decide) (by decide) (by omega) (by rw [show (2 : Int) ^ (2 : Int).toNat = 4 from rfl]; omega) (by have := HLX1.out; omega) HS1.out.c).mono ?_
    rintro e W2 ⟨rfl, hs⟩
    clear hq0 hq1 hq2 hq3
    obtain ⟨x2, hx⟩ : ∃ x, x = x1 ++ HA.bitsOf 2 2 := ⟨_, rfl⟩
    have HS2 : Aside0 (PutR w gb gi #[.int .u8 2, .int .u8 a2_1, .int .i64 a2_2, .slice A2_3 l2_3.length c2_3] W2 x2) := ⟨by rw [hx]; exact hs⟩
    have HX2 := Aside0.mk hx
    have HLX2 : Aside0 (x2.length ≤ 1000000 + 20) := ⟨by have := HLX1.out; rw [hx, List.length_append, HA.bitsOf_length]; omega⟩
    clear hs hx
    have hq0 : W2.cell? ⟨gi, 0, none⟩ = some (.int .u8 2) := (HS2.out.c.i 0).trans rfl
    have hq1 : W2.cell? ⟨gi, 1, none⟩ = some (.int .u8 a2_1) := (HS2.out.c.i 1).trans rfl
    have hq2 : W2.cell? ⟨gi, 2, none⟩ = some (.int .i64 a2_2) := (HS2.out.c.i 2).trans rfl
    have hq3 : W2.cell? ⟨gi, 3, none⟩ = some (.slice A2_3 l2_3.length c2_3) := (HS2.out.c.i 3).trans rfl
    go_wp2_with fail
    refine (info_Put.put w gb gi _ _ x2 a2_1 1 (by decide) (by decide) (by omega) (by rw [show (2 : Int) ^ (1 : Int).toNat = 2 from rfl]; omega) (by have := HLX2.out; omega) HS2.out.c).mono ?_
    rintro e W3 ⟨rfl, hs⟩
    clear hq0 hq1 hq2 hq3
    obtain ⟨x3, hx⟩ : ∃ x, x = x2 ++ HA.bitsOf a2_1 1 := ⟨_, rfl⟩
    have HS3 : Aside0 (PutR w gb gi #[.int .u8 2, .int .u8 a2_1, .int .i64 a2_2, .slice A2_3 l2_3.length c2_3] W3 x3) := ⟨by rw [hx]; exact hs⟩
    have HX3 := Aside0.mk hx
    have HLX3 : Aside0 (x3.length ≤ 1000000 + 30) := ⟨by have := HLX2.out; rw [hx, List.length_append, HA.bitsOf_length]; omega⟩
    clear hs hx
    have hq0 : W3.cell? ⟨gi, 0, none⟩ = some (.int .u8 2) := (HS3.out.c.i 0).trans rfl
    have hq1 : W3.cell? ⟨gi, 1, none⟩ = some (.int .u8 a2_1) := (HS3.out.c.i 1).trans rfl
    have hq2 : W3.cell? ⟨gi, 2, none⟩ = some (.int .i64 a2_2) := (HS3.out.c.i 2).trans rfl
    have hq3 : W3.cell? ⟨gi, 3, none⟩ = some (.slice A2_3 l2_3.length c2_3) := (HS3.out.c.i 3).trans rfl
    go_wp2_with fail
    refine (info_Put.put w gb gi _ _ x3 a2_2 4 (by decide) (by decide) (by omega) (by rw [show (2 : Int) ^ (4 : Int).toNat = 16 from rfl]; omega) (by have := HLX3.out; omega) HS3.out.c).mono ?_
    rintro e W4 ⟨rfl, hs⟩
    clear hq0 hq1 hq2 hq3
    obtain ⟨x4, hx⟩ : ∃ x, x = x3 ++ HA.bitsOf a2_2 4 := ⟨_, rfl⟩
    have HS4 : Aside0 (PutR w gb gi #[.int .u8 2, .int .u8 a2_1, .int .i64 a2_2, .slice A2_3 l2_3.length c2_3] W4 x4) := ⟨by rw [hx]; exact hs⟩
    have HX4 := Aside0.mk hx
    have HLX4 : Aside0 (x4.length ≤ 1000000 + 40) := ⟨by have := HLX3.out; rw [hx, List.length_append, HA.bitsOf_length]; omega⟩
    clear hs hx
    have hq0 : W4.cell? ⟨gi, 0, none⟩ = some (.int .u8 2) := (HS4.out.c.i 0).trans rfl
    have hq1 : W4.cell? ⟨gi, 1, none⟩ = some (.int .u8 a2_1) := (HS4.out.c.i 1).trans rfl
    have hq2 : W4.cell? ⟨gi, 2, none⟩ = some (.int .i64 a2_2) := (HS4.out.c.i 2).trans rfl
    have hq3 : W4.cell? ⟨gi, 3, none⟩ = some (.slice A2_3 l2_3.length c2_3) := (HS4.out.c.i 3).trans rfl
    clear hq0 hq1 hq2 hq3
    go_wp2_with fail
    go_loopw [10] (fun v W => ∃ j : Nat, j ≤ 7 ∧ v = .int .i64 ((j : Int) + 1) ∧ Aside0 (PutR w gb gi #[.int .u8 2, .int .u8 a2_1, .int .i64 a2_2, .slice A2_3 l2_3.length c2_3] W (x4 ++ HA.upto (HP.groupBit l2_3) j))) (fun v _ => (8 - intOf v).toNat)
    case atStart => exact ⟨0, by omega, by simp, ⟨by simpa [HA.upto] using HS4.out⟩⟩
    case round =>
      obtain ⟨j, hj, rfl, HSj⟩ := hrel
      have hq0 : wr.cell? ⟨gi, 0, none⟩ = some (.int .u8 2) := (HSj.out.c.i 0).trans rfl
      have hq1 : wr.cell? ⟨gi, 1, none⟩ = some (.int .u8 a2_1) := (HSj.out.c.i 1).trans rfl
      have hq2 : wr.cell? ⟨gi, 2, none⟩ = some (.int .i64 a2_2) := (HSj.out.c.i 2).trans rfl
      have hq3 : wr.cell? ⟨gi, 3, none⟩ = some (.slice A2_3 l2_3.length c2_3) := (HSj.out.c.i 3).trans rfl
      by_cases hlt : j < 7
      · have bl : decide ((j : Int) + 1 < 8) = true := decide_eq_true (by omega)
        have HG0 : Aside0 (info_Group.f 1010 2 a2_1 a2_2 l2_3 (j : Int) = some ((HP.groupOf l2_3 (j : Int) : Int), 0)) := ⟨by
          rw [SP.group_f 2 a2_1 a2_2 l2_3 (by have := HLG.out; omega) (j : Int) 1010 (by have := HLG.out; omega)]
          unfold SP.groupS
          rw [if_pos HSOME.out, if_pos rfl, if_neg (by omega)]⟩
        have HG1 : Aside0 (info_Group.f 1010 2 a2_1 a2_2 l2_3 ((j : Int) + 1) = some ((HP.groupOf l2_3 ((j : Int) + 1) : Int), 0)) := ⟨by
          rw [SP.group_f 2 a2_1 a2_2 l2_3 (by have := HLG.out; omega) ((j : Int) + 1) 1010 (by have := HLG.out; omega)]
          unfold SP.groupS
          rw [if_pos HSOME.out, if_pos rfl, if_neg (by omega)]⟩
        by_cases heq : HP.groupOf l2_3 (j : Int) = HP.groupOf l2_3 ((j : Int) + 1)
        · have HEQ := Aside0.mk heq
          clear heq
          have be : ((HP.groupOf l2_3 (j : Int) : Int) == (HP.groupOf l2_3 ((j : Int) + 1) : Int)) = true := by rw [HEQ.out]; exact beq_self_eq_true _
          go_wp2_with fail
          refine (info_Group.calls 1010 2 a2_1 a2_2 A2_3 c2_3 l2_3 ((j : Int)) (HP.groupOf l2_3 ((j : Int)) : Int) 0 _ (Kd.C_below HR2.out HSj.out.2.2.1) HC2L.out HG0.out).mono ?_
          rintro e W5 ⟨rfl, hb⟩
          have HS5 := Aside0.mk (HSj.out.below hb)
          clear hb hq0 hq1 hq2 hq3
          have hq0 : W5.cell? ⟨gi, 0, none⟩ = some (.int .u8 2) := (HS5.out.c.i 0).trans rfl
          have hq1 : W5.cell? ⟨gi, 1, none⟩ = some (.int .u8 a2_1) := (HS5.out.c.i 1).trans rfl
          have hq2 : W5.cell? ⟨gi, 2, none⟩ = some (.int .i64 a2_2) := (HS5.out.c.i 2).trans rfl
          have hq3 : W5.cell? ⟨gi, 3, none⟩ = some (.slice A2_3 l2_3.length c2_3) := (HS5.out.c.i 3).trans rfl
          go_wp2_with fail
          refine (info_Group.calls 1010 2 a2_1 a2_2 A2_3 c2_3 l2_3 ((j : Int) + 1) (HP.groupOf l2_3 ((j : Int) + 1) : Int) 0 _ (Kd.C_below HR2.out HS5.out.2.2.1) HC2L.out HG1.out).mono ?_
          rintro e W6 ⟨rfl, hb⟩
          have HS6 := Aside0.mk (HS5.out.below hb)
          clear hb hq0 hq1 hq2 hq3
          have hq0 : W6.cell? ⟨gi, 0, none⟩ = some (.int .u8 2) := (HS6.out.c.i 0).trans rfl
          have hq1 : W6.cell? ⟨gi, 1, none⟩ = some (.int .u8 a2_1) := (HS6.out.c.i 1).trans rfl
          have hq2 : W6.cell? ⟨gi, 2, none⟩ = some (.int .i64 a2_2) := (HS6.out.c.i 2).trans rfl
          have hq3 : W6.cell? ⟨gi, 3, none⟩ = some (.slice A2_3 l2_3.length c2_3) := (HS6.out.c.i 3).trans rfl
          go_wp2_with fail
          refine (info_Put.put w gb gi _ _ (x4 ++ HA.upto (HP.groupBit l2_3) j) 1 1 (by decide) (by decide) (by decide) (by decide) (by have := HLX4.out; simp [HA.upto_length]; omega) HS6.out.c).mono ?_
          rintro e W7 ⟨rfl, hs⟩
          have HS7 := Aside0.mk hs
          clear hs hq0 hq1 hq2 hq3
          go_wp2
          go_roundw
          case rel => exact ⟨j + 1, by omega, by congr 1, ⟨by
            have hs := HS7.out
            rw [show HA.bitsOf 1 (1 : Int).toNat = [1] from by decide] at hs
            rw [HA.upto_succ, ← List.append_assoc, show HP.groupBit l2_3 j = 1 from by unfold HP.groupBit; rw [if_pos HEQ.out]]
            exact hs⟩⟩
          case measure => simp [intOf]; omega
        · have HEQ := Aside0.mk heq
          clear heq
          have be : ((HP.groupOf l2_3 (j : Int) : Int) == (HP.groupOf l2_3 ((j : Int) + 1) : Int)) = false := by exact beq_eq_false_iff_ne.mpr (fun e => HEQ.out (by exact_mod_cast e))
          go_wp2_with fail
          refine (info_Group.calls 1010 2 a2_1 a2_2 A2_3 c2_3 l2_3 ((j : Int)) (HP.groupOf l2_3 ((j : Int)) : Int) 0 _ (Kd.C_below HR2.out HSj.out.2.2.1) HC2L.out HG0.out).mono ?_
          rintro e W5 ⟨rfl, hb⟩
          have HS5 := Aside0.mk (HSj.out.below hb)
          clear hb hq0 hq1 hq2 hq3
          have hq0 : W5.cell? ⟨gi, 0, none⟩ = some (.int .u8 2) := (HS5.out.c.i 0).trans rfl
          have hq1 : W5.cell? ⟨gi, 1, none⟩ = some (.int .u8 a2_1) := (HS5.out.c.i 1).trans rfl
          have hq2 : W5.cell? ⟨gi, 2, none⟩ = some (.int .i64 a2_2) := (HS5.out.c.i 2).trans rfl
          have hq3 : W5.cell? ⟨gi, 3, none⟩ = some (.slice A2_3 l2_3.length c2_3) := (HS5.out.c.i 3).trans rfl
          go_wp2_with fail
          refine (info_Group.calls 1010 2 a2_1 a2_2 A2_3 c2_3 l2_3 ((j : Int) + 1) (HP.groupOf l2_3 ((j : Int) + 1) : Int) 0 _ (Kd.C_below HR2.out HS5.out.2.2.1) HC2L.out HG1.out).mono ?_
          rintro e W6 ⟨rfl, hb⟩
          have HS6 := Aside0.mk (HS5.out.below hb)
          clear hb hq0 hq1 hq2 hq3
          have hq0 : W6.cell? ⟨gi, 0, none⟩ = some (.int .u8 2) := (HS6.out.c.i 0).trans rfl
          have hq1 : W6.cell? ⟨gi, 1, none⟩ = some (.int .u8 a2_1) := (HS6.out.c.i 1).trans rfl
          have hq2 : W6.cell? ⟨gi, 2, none⟩ = some (.int .i64 a2_2) := (HS6.out.c.i 2).trans rfl
          have hq3 : W6.cell? ⟨gi, 3, none⟩ = some (.slice A2_3 l2_3.length c2_3) := (HS6.out.c.i 3).trans rfl
          go_wp2_with fail
          refine (info_Put.put w gb gi _ _ (x4 ++ HA.upto (HP.groupBit l2_3) j) 0 1 (by decide) (by decide) (by decide) (by decide) (by have := HLX4.out; simp [HA.upto_length]; omega) HS6.out.c).mono ?_
          rintro e W7 ⟨rfl, hs⟩
          have HS7 := Aside0.mk hs
          clear hs hq0 hq1 hq2 hq3
          go_wp2
          go_roundw
          case rel => exact ⟨j + 1, by omega, by congr 1, ⟨by
            have hs := HS7.out
            rw [show HA.bitsOf 0 (1 : Int).toNat = [0] from by decide] at hs
            rw [HA.upto_succ, ← List.append_assoc, show HP.groupBit l2_3 j = 0 from by unfold HP.groupBit; rw [if_neg HEQ.out]]
            exact hs⟩⟩
          case measure => simp [intOf]; omega
      · obtain rfl : j = 7 := by omega
        obtain ⟨_, _, hbel, _, A5, c5, hb5, hr5⟩ := HSj.out
        obtain ⟨y, hy⟩ : ∃ y, y = x4 ++ HA.upto (HP.groupBit l2_3) 7 := ⟨_, rfl⟩
        rw [← hy] at hb5 hr5
        have HY := Aside0.mk hy
        have hqb : wr.cell? ⟨gb, 0, none⟩ = some (.slice A5 y.length c5) := (blk_cell hb5 0).trans rfl
        have HR5 := Aside0.mk hr5
        have HB5 := Aside0.mk hbel
        clear hr5 hbel hb5 HSj hy
        go_wp2
        go_ret2
        refine ⟨_, rfl, ?_, HB5.out⟩
        have e : l0 ++ HP.infoBits 2 a2_1 a2_2 l2_3 = y := by
          rw [HY.out, HX4.out, HX3.out, HX2.out, HX1.out]
          unfold HP.infoBits HP.headBits
          rw [if_pos rfl, if_pos rfl]
          simp only [List.append_assoc]
        rw [e]
        exact HR5.out
  · have bs : (a2_0 != 2) = true := bne_iff_ne.mpr hsq
    clear hm15
    go_enter Try.func23, Try.ntmps23
    go_wp2_with (first | ((with_reducible refine gate_dst (N := 3) rfl ?_); refine box_event ?hg (N := 3) ?hd (cs := #[.slice A0 l0.length c0]) (t := 42) ?hr ?_; (case hd => rfl); (case hg => rfl); (case hr => first | (go_simp; done) | (go_simp; rfl)); intro gb hg wb hbox hb; have HGB := Aside0.mk hg; have BK1 := Aside0.mk hbox; have HB1 := Aside0.mk hb; clear hg hbox hb) | ((with_reducible refine gate_dst (N := 5) rfl ?_); refine box_event ?hg (N := 5) ?hd (cs := #[.int .u8 a2_0, .int .u8 a2_1, .int .i64 a2_2, .slice A2_3 l2_3.length c2_3]) (t := 24) ?hr ?_; (case hd => rfl); (case hg => rfl); (case hr => first | (go_simp; done) | (go_simp; rfl)); intro gi hg wi hbox hb; have HNE := Aside0.mk (show gb ≠ gi by rw [hg]; exact Nat.ne_of_lt (blk_lt BK1.out)); have BK2 := Aside0.mk hbox; have HB2 := Aside0.mk (below_step HB1.out hb); replace BK1 := Aside0.mk (blk_below BK1.out hb); have hq0 : wi.cell? ⟨gi, 0, none⟩ = some (.int .u8 a2_0) := (blk_cell BK2.out 0).trans rfl; have hq1 : wi.cell? ⟨gi, 1, none⟩ = some (.int .u8 a2_1) := (blk_cell BK2.out 1).trans rfl; have hq2 : wi.cell? ⟨gi, 2, none⟩ = some (.int .i64 a2_2) := (blk_cell BK2.out 2).trans rfl; have hq3 : wi.cell? ⟨gi, 3, none⟩ = some (.slice A2_3 l2_3.length c2_3) := (blk_cell BK2.out 3).trans rfl; clear hg hbox hb) | ((with_reducible refine gate_callee (f := 15) rfl ?_); refine goesL_ (some 17) rfl rfl Try.func15 (by kernel_rfl) rfl #[.int .i64 a1, .agg #[.int .u8 a2_0, .int .u8 a2_1, .int .i64 a2_2, .slice A2_3 l2_3.length c2_3]] rfl (by (try simp only [List.map_toArray, List.map_cons, List.map_nil]); first | done | rfl) ?_; (with_reducible refine (info_Check.calls 1001 a1 a2_0 a2_1 a2_2 A2_3 c2_3 l2_3 0 _ (Kd.C_below HR2.out HB2.out) HC2L.out HK.out).mono ?_); rintro e w1 ⟨rfl, hb⟩; refine ⟨_, rfl, ?_⟩; have HC0 : Aside0 (PutC w gb gi #[.int .u8 a2_0, .int .u8 a2_1, .int .i64 a2_2, .slice A2_3 l2_3.length c2_3] w1 l0) := ⟨by rw [HGB.out]; exact Nat.le_refl _, HNE.out, below_step HB2.out hb, blk_below BK2.out hb, A0, c0, blk_below BK1.out hb, HC0L.out, Kd.C_below (Kd.C_below HR0.out HB2.out) hb⟩; clear hb hq0 hq1 hq2 hq3; have hq0 : w1.cell? ⟨gi, 0, none⟩ = some (.int .u8 a2_0) := (HC0.out.i 0).trans rfl; have hq1 : w1.cell? ⟨gi, 1, none⟩ = some (.int .u8 a2_1) := (HC0.out.i 1).trans rfl; have hq2 : w1.cell? ⟨gi, 2, none⟩ = some (.int .i64 a2_2) := (HC0.out.i 2).trans rfl; have hq3 : w1.cell? ⟨gi, 3, none⟩ = some (.slice A2_3 l2_3.length c2_3) := (HC0.out.i 3).trans rfl))
    refine (info_Put.put w gb gi _ _ l0 0 1 (by decide) (by decide) (by omega) (by rw [show (2 : Int) ^ (1 : Int).toNat = 2 from rfl]; omega) (by have := HLX.out; omega) HC0.out).mono ?_
    rintro e W1 ⟨rfl, hs⟩
    clear hq0 hq1 hq2 hq3
    obtain ⟨x1, hx⟩ : ∃ x, x = l0 ++ HA.bitsOf 0 1 := ⟨_, rfl⟩
    have HS1 : Aside0 (PutR w gb gi #[.int .u8 a2_0, .int .u8 a2_1, .int .i64 a2_2, .slice A2_3 l2_3.length c2_3] W1 x1) := ⟨by rw [hx]; exact hs⟩
    have HX1 := Aside0.mk hx
    have HLX1 : Aside0 (x1.length ≤ 1000000 + 10) := ⟨by have := HLX.out; rw [hx, List.length_append, HA.bitsOf_length]; omega⟩
    clear hs hx
    have hq0 : W1.cell? ⟨gi, 0, none⟩ = some (.int .u8 a2_0) := (HS1.out.c.i 0).trans rfl
    have hq1 : W1.cell? ⟨gi, 1, none⟩ = some (.int .u8 a2_1) := (HS1.out.c.i 1).trans rfl
    have hq2 : W1.cell? ⟨gi, 2, none⟩ = some (.int .i64 a2_2) := (HS1.out.c.i 2).trans rfl
    have hq3 : W1.cell? ⟨gi, 3, none⟩ = some (.slice A2_3 l2_3.length c2_3) := (HS1.out.c.i 3).trans rfl
    go_wp2_with fail
    refine (info_Put.put w gb gi _ _ x1 a2_0 2 (by decide) (by decide) (by omega) (by rw [show (2 : Int) ^ (2 : Int).toNat = 4 from rfl]; omega) (by have := HLX1.out; omega) HS1.out.c).mono ?_
    rintro e W2 ⟨rfl, hs⟩
    clear hq0 hq1 hq2 hq3
    obtain ⟨x2, hx⟩ : ∃ x, x = x1 ++ HA.bitsOf a2_0 2 := ⟨_, rfl⟩
    have HS2 : Aside0 (PutR w gb gi #[.int .u8 a2_0, .int .u8 a2_1, .int .i64 a2_2, .slice A2_3 l2_3.length c2_3] W2 x2) := ⟨by rw [hx]; exact hs⟩
    have HX2 := Aside0.mk hx
    have HLX2 : Aside0 (x2.length ≤ 1000000 + 20) := ⟨by have := HLX1.out; rw [hx, List.length_append, HA.bitsOf_length]; omega⟩
    clear hs hx
    have hq0 : W2.cell? ⟨gi, 0, none⟩ = some (.int .u8 a2_0) := (HS2.out.c.i 0).trans rfl
    have hq1 : W2.cell? ⟨gi, 1, none⟩ = some (.int .u8 a2_1) := (HS2.out.c.i 1).trans rfl
    have hq2 : W2.cell? ⟨gi, 2, none⟩ = some (.int .i64 a2_2) := (HS2.out.c.i 2).trans rfl
    have hq3 : W2.cell? ⟨gi, 3, none⟩ = some (.slice A2_3 l2_3.length c2_3) := (HS2.out.c.i 3).trans rfl
    go_wp2_with fail
    refine (info_Put.put w gb gi _ _ x2 a2_1 1 (by decide) (by decide) (by omega) (by rw [show (2 : Int) ^ (1 : Int).toNat = 2 from rfl]; omega) (by have := HLX2.out; omega) HS2.out.c).mono ?_
    rintro e W3 ⟨rfl, hs⟩
    clear hq0 hq1 hq2 hq3
    obtain ⟨x3, hx⟩ : ∃ x, x = x2 ++ HA.bitsOf a2_1 1 := ⟨_, rfl⟩
    have HS3 : Aside0 (PutR w gb gi #[.int .u8 a2_0, .int .u8 a2_1, .int .i64 a2_2, .slice A2_3 l2_3.length c2_3] W3 x3) := ⟨by rw [hx]; exact hs⟩
    have HX3 := Aside0.mk hx
    have HLX3 : Aside0 (x3.length ≤ 1000000 + 30) := ⟨by have := HLX2.out; rw [hx, List.length_append, HA.bitsOf_length]; omega⟩
    clear hs hx
    have hq0 : W3.cell? ⟨gi, 0, none⟩ = some (.int .u8 a2_0) := (HS3.out.c.i 0).trans rfl
    have hq1 : W3.cell? ⟨gi, 1, none⟩ = some (.int .u8 a2_1) := (HS3.out.c.i 1).trans rfl
    have hq2 : W3.cell? ⟨gi, 2, none⟩ = some (.int .i64 a2_2) := (HS3.out.c.i 2).trans rfl
    have hq3 : W3.cell? ⟨gi, 3, none⟩ = some (.slice A2_3 l2_3.length c2_3) := (HS3.out.c.i 3).trans rfl
    go_wp2_with fail
    refine (info_Put.put w gb gi _ _ x3 a2_2 6 (by decide) (by decide) (by omega) (by rw [show (2 : Int) ^ (6 : Int).toNat = 64 from rfl]; omega) (by have := HLX3.out; omega) HS3.out.c).mono ?_
    rintro e W4 ⟨rfl, hs⟩
    clear hq0 hq1 hq2 hq3
    obtain ⟨x4, hx⟩ : ∃ x, x = x3 ++ HA.bitsOf a2_2 6 := ⟨_, rfl⟩
    have HS4 : Aside0 (PutR w gb gi #[.int .u8 a2_0, .int .u8 a2_1, .int .i64 a2_2, .slice A2_3 l2_3.length c2_3] W4 x4) := ⟨by rw [hx]; exact hs⟩
    have HX4 := Aside0.mk hx
    have HLX4 : Aside0 (x4.length ≤ 1000000 + 40) := ⟨by have := HLX3.out; rw [hx, List.length_append, HA.bitsOf_length]; omega⟩
    clear hs hx
    have hq0 : W4.cell? ⟨gi, 0, none⟩ = some (.int .u8 a2_0) := (HS4.out.c.i 0).trans rfl
    have hq1 : W4.cell? ⟨gi, 1, none⟩ = some (.int .u8 a2_1) := (HS4.out.c.i 1).trans rfl
    have hq2 : W4.cell? ⟨gi, 2, none⟩ = some (.int .i64 a2_2) := (HS4.out.c.i 2).trans rfl
    have hq3 : W4.cell? ⟨gi, 3, none⟩ = some (.slice A2_3 l2_3.length c2_3) := (HS4.out.c.i 3).trans rfl
    go_wp2_with fail
    refine (info_Put.put w gb gi _ _ x4 0 1 (by decide) (by decide) (by omega) (by rw [show (2 : Int) ^ (1 : Int).toNat = 2 from rfl]; omega) (by have := HLX4.out; omega) HS4.out.c).mono ?_
    rintro e W5 ⟨rfl, hs⟩
    clear hq0 hq1 hq2 hq3
    obtain ⟨x5, hx⟩ : ∃ x, x = x4 ++ HA.bitsOf 0 1 := ⟨_, rfl⟩
    have HS5 : Aside0 (PutR w gb gi #[.int .u8 a2_0, .int .u8 a2_1, .int .i64 a2_2, .slice A2_3 l2_3.length c2_3] W5 x5) := ⟨by rw [hx]; exact hs⟩
    have HX5 := Aside0.mk hx
    have HLX5 : Aside0 (x5.length ≤ 1000000 + 50) := ⟨by have := HLX4.out; rw [hx, List.length_append, HA.bitsOf_length]; omega⟩
    clear hs hx
    have hq0 : W5.cell? ⟨gi, 0, none⟩ = some (.int .u8 a2_0) := (HS5.out.c.i 0).trans rfl
    have hq1 : W5.cell? ⟨gi, 1, none⟩ = some (.int .u8 a2_1) := (HS5.out.c.i 1).trans rfl
    have hq2 : W5.cell? ⟨gi, 2, none⟩ = some (.int .i64 a2_2) := (HS5.out.c.i 2).trans rfl
    have hq3 : W5.cell? ⟨gi, 3, none⟩ = some (.slice A2_3 l2_3.length c2_3) := (HS5.out.c.i 3).trans rfl
    obtain ⟨_, _, hbel, _, A5, c5, hb5, hr5⟩ := HS5.out
    have hqb : W5.cell? ⟨gb, 0, none⟩ = some (.slice A5 x5.length c5) := (blk_cell hb5 0).trans rfl
    have HR5 := Aside0.mk hr5
    have HB5 := Aside0.mk hbel
    clear hr5 hbel hb5
    go_wp2
    go_ret2
    refine ⟨_, rfl, ?_, HB5.out⟩
    have e : l0 ++ HP.infoBits a2_0 a2_1 a2_2 l2_3 = x5 := by
      rw [HX5.out, HX4.out, HX3.out, HX2.out, HX1.out]
      unfold HP.infoBits HP.headBits
      rw [if_neg hsq, if_neg hsq]
      simp only [List.append_assoc]
    rw [e]
    exact HR5.out

end Go.Proofs.Ytdoeclpbobjgdaa.K
