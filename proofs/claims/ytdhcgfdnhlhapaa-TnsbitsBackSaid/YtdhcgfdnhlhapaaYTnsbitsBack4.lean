/- Texts of this session for the law TnsbitsBack, packed by wip/merge.py: part 4 of 5. Each section is one text; the law's own sentence stands over its section. -/
import Derived.Deep.QuietTactic
import Derived.Test.YtdhcgfdnhlhapaaWWords
import Derived.Deep.Slices
import Derived.ChangeArms
import Derived.ChangeOld
import Derived.Carry
import Derived.ChangeSlices
import Derived.WideShapes
import Derived.Test.YtdhcgfdnhlhapaaProg
import Derived.KernelRfl
import Derived.Test.YtdhcgfdnhlhapaaYTnsbitsBack1
import Derived.Test.YtdhcgfdnhlhapaaYTnsbitsBack2
import Derived.Test.YtdhcgfdnhlhapaaYTnsbitsBack3
section
/- tnsbits.Get: the filters of some bits. -/
namespace Go.Proofs.Ytdhcgfdnhlhapaa.HS
open Go.RowKit Go.Shelf Go.Proofs.YtdhcgfdnhlhapaaW.PrintWords Go.Proofs.YtdhcgfdnhlhapaaW.PrintLast Go.Proofs.YtdhcgfdnhlhapaaW.PrintMore Go.Proofs.Ytdhcgfdnhlhapaa.K
set_option linter.unusedVariables false
set_option linter.unusedSimpArgs false

theorem getN_rng {b : List Int} (hb : ∀ y ∈ b, 0 ≤ y ∧ y ≤ 255) {st : Int × Int} {size n q e : Int} (h0 : 0 ≤ size) (h1 : size ≤ 6) (h : SG.getN b st size = (n, q, e)) : 0 ≤ n ∧ n < 2 ^ size.toNat ∧ n ≤ 63 ∧ (n ≠ 0 → e = 0) := by
  obtain ⟨k, rfl⟩ := Int.eq_ofNat_of_zero_le h0
  have hk := SG.getN_bounds hb st k
  rw [h] at hk
  simp only [Int.toNat_natCast]
  have hp : (2 : Int) ^ k ≤ 64 := by
    rcases (show k = 0 ∨ k = 1 ∨ k = 2 ∨ k = 3 ∨ k = 4 ∨ k = 5 ∨ k = 6 by omega) with rfl | rfl | rfl | rfl | rfl | rfl | rfl <;> decide
  refine ⟨hk.1, hk.2, by have := hk.2; show n ≤ 63; have : n < 2 ^ k := hk.2; omega, fun hn => ?_⟩
  unfold SG.getN at h
  split at h
  · have hs := SG.getS_bounds hb st.1 k
    rw [h] at hs
    refine Classical.byContradiction fun he => ?_
    have := hs.2.2.2.2.2 he
    simp only [Prod.mk.injEq] at this
    exact hn this.1
  · simp only [Prod.mk.injEq] at h
    exact absurd h.1.symm hn
theorem getFilts_succ {b : List Int} {s : Int} {fine : Bool} {k : Nat} {acc : List Filt} {odd : Bool} {st : Int × Int} {av nx1 e1 ov nx2 e2 : Int} (ha : SG.getN b st (lenF s) = (av, nx1, e1)) (ho : SG.getN b (nx1, e1) (ordF s) = (ov, nx2, e2)) (h12 : ¬ 12 < ov) :
    getFilts b s fine (k + 1) acc odd st = getFilts b s fine k (acc ++ [(getTail b av ov fine (nx2, e2)).1]) (odd || (getTail b av ov fine (nx2, e2)).2.1) (getTail b av ov fine (nx2, e2)).2.2 := by
  simp only [getFilts, ha, ho, if_neg h12]
theorem getFilts_bad {b : List Int} {s : Int} {fine : Bool} {k : Nat} {acc : List Filt} {odd : Bool} {st : Int × Int} {av nx1 e1 ov nx2 e2 : Int} (ha : SG.getN b st (lenF s) = (av, nx1, e1)) (ho : SG.getN b (nx1, e1) (ordF s) = (ov, nx2, e2)) (h12 : 12 < ov) :
    getFilts b s fine (k + 1) acc odd st = none := by
  simp only [getFilts, ha, ho, if_pos h12]
theorem getTail_zero (b : List Int) (av : Int) (fine : Bool) (st : Int × Int) : getTail b av 0 fine st = (⟨av, 0, false, fine, []⟩, false, st) := if_pos rfl
theorem getTail_some {b : List Int} {av ov : Int} {fine : Bool} {st : Int × Int} {dv nx3 e3 nv nx4 e4 nx5 e5 : Int} {cs : List Int} (h0 : ¬ ov = 0) (hd : SG.getN b st 1 = (dv, nx3, e3)) (hn : SG.getN b (nx3, e3) 1 = (nv, nx4, e4)) (hc : getCoefs b (wideS fine - nv) ov.toNat [] (nx4, e4) = (cs, nx5, e5)) :
    getTail b av ov fine st = (⟨av, ov, dv == 1, fine, cs⟩, nv == 0 && fitS cs (wideS fine - nv - 1), nx5, e5) := by
  simp only [getTail, if_neg h0, hd, hn, hc]
def getStep (b : List Int) (s : Int) (k : Nat) (acc : List (List Filt)) : Option (List Filt × Bool × Int × Int) → Option (List (List Filt) × Bool × Int × Int)
  | none => none
  | some r => getWins b s k (acc ++ [r.1]) r.2.1 r.2.2
theorem getWins_succ {b : List Int} {s : Int} {k : Nat} {acc : List (List Filt)} {odd : Bool} {st : Int × Int} {mv nx1 e1 : Int} (hm : SG.getN b st (numF s) = (mv, nx1, e1)) :
    getWins b s (k + 1) acc odd st = getStep b s k acc (getFilts b s ((if 0 < mv then SG.getN b (nx1, e1) 1 else (0, nx1, e1)).1 == 1) mv.toNat [] odd (if 0 < mv then SG.getN b (nx1, e1) 1 else (0, nx1, e1)).2) := by
  simp only [getWins, hm]
  rfl
theorem sgn_wrap64 {n sz : Int} (h0 : 2 ≤ sz) (h1 : sz ≤ 4) (hn0 : 0 ≤ n) (hn1 : n ≤ 63) : wrap64 (n - wrap64 (n / 2 ^ (sz.toNat - 1) * 2 ^ sz.toNat)) = sgn n sz := by
  unfold sgn wrap64
  rcases (show sz = 2 ∨ sz = 3 ∨ sz = 4 by omega) with rfl | rfl | rfl
  · have e1 : (2 : Int) ^ ((2 : Int) - 1).toNat = 2 := by decide
    have e2 : (2 : Int) ^ (2 : Int).toNat = 4 := by decide
    have e3 : (2 : Int) ^ ((2 : Int).toNat - 1) = 2 := by decide
    rw [e1, e2, e3]; omega
  · have e1 : (2 : Int) ^ ((3 : Int) - 1).toNat = 4 := by decide
    have e2 : (2 : Int) ^ (3 : Int).toNat = 8 := by decide
    have e3 : (2 : Int) ^ ((3 : Int).toNat - 1) = 4 := by decide
    rw [e1, e2, e3]; omega
  · have e1 : (2 : Int) ^ ((4 : Int) - 1).toNat = 8 := by decide
    have e2 : (2 : Int) ^ (4 : Int).toNat = 16 := by decide
    have e3 : (2 : Int) ^ ((4 : Int).toNat - 1) = 8 := by decide
    rw [e1, e2, e3]; omega
theorem sgn_wrap {n sz : Int} (h0 : 2 ≤ sz) (h1 : sz ≤ 4) (hn0 : 0 ≤ n) (hn1 : n ≤ 63) : 0 ≤ n / 2 ^ (sz - 1).toNat ∧ n / 2 ^ (sz - 1).toNat ≤ 63 ∧ IntKind.i64.wrap (n / 2 ^ (sz - 1).toNat * 2 ^ sz.toNat) = n / 2 ^ (sz - 1).toNat * 2 ^ sz.toNat ∧ IntKind.i64.wrap (n - n / 2 ^ (sz - 1).toNat * 2 ^ sz.toNat) = sgn n sz := by
  rw [IntKind.wrap_i64, IntKind.wrap_i64]
  unfold sgn
  rcases (show sz = 2 ∨ sz = 3 ∨ sz = 4 by omega) with rfl | rfl | rfl
  · have e1 : (2 : Int) ^ ((2 : Int) - 1).toNat = 2 := by decide
    have e2 : (2 : Int) ^ (2 : Int).toNat = 4 := by decide
    rw [e1, e2]; omega
  · have e1 : (2 : Int) ^ ((3 : Int) - 1).toNat = 4 := by decide
    have e2 : (2 : Int) ^ (3 : Int).toNat = 8 := by decide
    rw [e1, e2]; omega
  · have e1 : (2 : Int) ^ ((4 : Int) - 1).toNat = 8 := by decide
    have e2 : (2 : Int) ^ (4 : Int).toNat = 16 := by decide
    rw [e1, e2]; omega
theorem get_res {W : World} {M E : Nat} {nx e : Int} (hM : W.cell? ⟨M, 0, none⟩ = some (.int .i64 nx)) (hE : W.cell? ⟨E, 0, none⟩ = some (.int .i64 e)) (tmps : Array Value) {v : Value}
    (h6 : tmps.getD 6 undef = v) (h7 : tmps.getD 7 undef = .pointer (some ⟨M, 0, none⟩)) (h8 : tmps.getD 8 undef = .pointer (some ⟨E, 0, none⟩)) : (results Try.f13 tmps).run Try.prog W = .ok (.tuple #[v, .int .i64 nx, .int .i64 e]) W := by
  have h6' : tmps[6]?.getD undef = v := by simpa using h6
  have h7' : tmps[7]?.getD undef = .pointer (some ⟨M, 0, none⟩) := by simpa using h7
  have h8' : tmps[8]?.getD undef = .pointer (some ⟨E, 0, none⟩) := by simpa using h8
  have hm : (loadVar 3 ⟨M, 0, none⟩).run Try.prog W = .ok (.int .i64 nx) W := by simp [loadVar, go_sem, hM]
  have he : (loadVar 28 ⟨E, 0, none⟩).run Try.prog W = .ok (.int .i64 e) W := by simp [loadVar, go_sem, hE]
  simp [results, Try.results13, h6', h7', h8', asAddr, hm, he]
theorem get_fin {W : World} {M E : Nat} {nx e : Int} {a : Act} {K : Ending → World → Prop} {v : Value} (hM : W.cell? ⟨M, 0, none⟩ = some (.int .i64 nx)) (hE : W.cell? ⟨E, 0, none⟩ = some (.int .i64 e))
    (h6 : a.tmps.getD 6 undef = v) (h7 : a.tmps.getD 7 undef = .pointer (some ⟨M, 0, none⟩)) (h8 : a.tmps.getD 8 undef = .pointer (some ⟨E, 0, none⟩)) (hd : a.defers = []) (hK : K (.returned (.tuple #[v, .int .i64 nx, .int .i64 e])) W) :
    bodyPost Try.prog Try.f13 K .ret a W := bodyPost_ret (get_res hM hE _ h6 h7 h8) hd hK
theorem GetT.start {w0 : World} {B M E X : Nat} {A : Option Addr} {c : Nat} {b : List Int} {s : Int} {W : World} {nx e : Int} {z0 z1 z2 z3 z4 : Value} (hd : w0.heap.size ≤ B ∧ w0.heap.size ≤ M ∧ w0.heap.size ≤ E ∧ w0.heap.size ≤ X ∧ B ≠ M ∧ B ≠ E ∧ M ≠ E ∧ B ≠ X ∧ M ≠ X ∧ E ≠ X) (hb : Below w0.heap.size w0 W)
    (hB : W.heap[B]? = some (.cells #[.slice A b.length c] 32 (0, 0))) (hM : W.heap[M]? = some (.cells #[.int .i64 nx] 3 (0, 0))) (hE : W.heap[E]? = some (.cells #[.int .i64 e] 28 (0, 0))) (bX : W.heap[X]? = some (.cells #[z0, z1, z2, z3, z4] 51 (0, 0))) :
    GetT w0 B M E X A c b s (((((W.setCell ⟨X, 0, none⟩ (.int .i64 (numF s))).setCell ⟨X, 1, none⟩ (.int .i64 (lenF s))).setCell ⟨X, 2, none⟩ (.int .i64 (ordF s))).setCell ⟨X, 3, none⟩ (.int .i64 (mostF s))).setCell ⟨X, 4, none⟩ (.int .i64 (topF s))) nx e := by
  have b1 := blk_put bX 0 (.int .i64 (numF s)) rfl
  have b2 := blk_put b1 1 (.int .i64 (lenF s)) rfl
  have b3 := blk_put b2 2 (.int .i64 (ordF s)) rfl
  have b4 := blk_put b3 3 (.int .i64 (mostF s)) rfl
  have b5 := blk_put b4 4 (.int .i64 (topF s)) rfl
  obtain ⟨h1, h2, h3, h4, n1, n2, n3, n4, n5, n6⟩ := hd
  exact ⟨⟨h1, h2, h3, h4, n1, n2, n3, n4, n5, n6⟩, below_set (below_set (below_set (below_set (below_set hb h4) h4) h4) h4) h4, blk_far (blk_far (blk_far (blk_far (blk_far hB n4 _) n4 _) n4 _) n4 _) n4 _, blk_far (blk_far (blk_far (blk_far (blk_far hM n5 _) n5 _) n5 _) n5 _) n5 _, blk_far (blk_far (blk_far (blk_far (blk_far hE n6 _) n6 _) n6 _) n6 _) n6 _, b5⟩
set_option maxHeartbeats 16000000 in
set_option maxRecDepth 100000 in
theorem tget_calls (A0 : Option Addr) (c0 : Nat) (b : List Int) (p s sh m : Int) (A3 : Option Addr) (c3 : Nat) (gs : List Int) (w : World) (hb01 : ∀ y ∈ b, 0 ≤ y ∧ y ≤ 255) (hbl : b.length ≤ 100000000) (hb0 : gs.length ≤ 17592186044416) (hr0 : Kd.C (Kd.int .u8) w A0 b.length b) (hc0 : b.length ≤ c0) (hr3 : Kd.C (Kd.int .i64) w A3 gs.length gs) (hc3 : gs.length ≤ c3) :
    Calls Try.prog 13 #[.slice A0 b.length c0, .int .i64 p, .agg #[.int .u8 s, .int .u8 sh, .int .i64 m, .slice A3 gs.length c3]] w fun e w' => ∃ v, e = .returned (.tuple #[v, .int .i64 (getTns b p s sh m gs).2.1, .int .i64 (getTns b p s sh m gs).2.2]) ∧ Kd.R (Kd.slice 38 k38) 35 w' w.heap.size (fun _ => True) v (getTns b p s sh m gs).1 ∧ Below w.heap.size w w' := by
  have HR3 := Aside0.mk hr3
  have HC3 := Aside0.mk hc3
  have HR0 := Aside0.mk hr0
  have HC0 := Aside0.mk hc0
  have HB01 := Aside0.mk hb01
  have HWN : Aside0 (info_Windows.f (gs.length + 1) s sh m gs = some (SP.windowsS s sh m gs)) := ⟨SP.windows_f s sh m gs hb0 (gs.length + 1) (by omega)⟩
  obtain ⟨R, hR⟩ : ∃ r, r = getTns b p s sh m gs := ⟨_, rfl⟩
  rw [← hR]
  obtain ⟨R1, R2, R3⟩ := R
  have HRR := Aside0.mk hR
  clear hr3 hc3 hr0 hc0 hb0 hb01 hR
  by_cases hs : SP.someS s sh m gs = true
  case neg =>
    obtain ⟨rfl, rfl, rfl⟩ : R1 = [] ∧ R2 = 0 ∧ R3 = 8 := by have := HRR.out; unfold getTns at this; rw [if_neg hs] at this; simpa using this
    have HWB : Aside0 (info_Windows.f (gs.length + 1) s sh m gs = some (0, 8)) := ⟨by rw [HWN.out]; unfold SP.windowsS; rw [if_neg hs]⟩
    clear hs HWN HRR
    have HB : Aside0 (Below w.heap.size w w) := ⟨Below.refl _ _⟩
    go_enter Try.func13, Try.ntmps13
    go_wp2_with (first | ((with_reducible refine gate_dst (N := 3) rfl ?_); refine box_event ?hg (N := 3) ?hd (cs := #[.slice A0 b.length c0]) (t := 32) ?hr ?_; (case hd => rfl); (case hg => rfl); (case hr => first | (go_simp; done) | (go_simp; rfl)); intro gB hg wx1 hbox hb; have HG_gB : Aside0 (w.heap.size ≤ gB) := ⟨by rw [hg]; exact HB.out.size⟩; have BK_gB := Aside0.mk hbox; replace HB := Aside0.mk (below_step HB.out hb); clear hg hbox hb; have hq_gB_0 : wx1.cell? ⟨gB, 0, none⟩ = some (.slice A0 b.length c0) := (blk_cell BK_gB.out 0).trans rfl; have hf_gB_0 : wx1.frozen? ⟨gB, 0, none⟩ = false := blk_frozen BK_gB.out 0) | ((with_reducible refine gate_dst (N := 5) rfl ?_); refine box_event ?hg (N := 5) ?hd (cs := #[.int .u8 s, .int .u8 sh, .int .i64 m, .slice A3 gs.length c3]) (t := 24) ?hr ?_; (case hd => rfl); (case hg => rfl); (case hr => first | (go_simp; done) | (go_simp; rfl)); intro gi hg wx2 hbox hb; have HG_gi : Aside0 (w.heap.size ≤ gi) := ⟨by rw [hg]; exact HB.out.size⟩; have NE_gB_gi : Aside0 (gB ≠ gi) := ⟨by rw [hg]; exact Nat.ne_of_lt (blk_lt BK_gB.out)⟩; have na_gB_gi : gB ≠ gi := NE_gB_gi.out; have nb_gB_gi : gi ≠ gB := Ne.symm NE_gB_gi.out; replace BK_gB := Aside0.mk (blk_below BK_gB.out hb); have BK_gi := Aside0.mk hbox; replace HB := Aside0.mk (below_step HB.out hb); clear hg hbox hb; clear hq_gB_0 hf_gB_0; have hq_gB_0 : wx2.cell? ⟨gB, 0, none⟩ = some (.slice A0 b.length c0) := (blk_cell BK_gB.out 0).trans rfl; have hf_gB_0 : wx2.frozen? ⟨gB, 0, none⟩ = false := blk_frozen BK_gB.out 0; have hq_gi_0 : wx2.cell? ⟨gi, 0, none⟩ = some (.int .u8 s) := (blk_cell BK_gi.out 0).trans rfl; have hf_gi_0 : wx2.frozen? ⟨gi, 0, none⟩ = false := blk_frozen BK_gi.out 0; have hq_gi_1 : wx2.cell? ⟨gi, 1, none⟩ = some (.int .u8 sh) := (blk_cell BK_gi.out 1).trans rfl; have hf_gi_1 : wx2.frozen? ⟨gi, 1, none⟩ = false := blk_frozen BK_gi.out 1; have hq_gi_2 : wx2.cell? ⟨gi, 2, none⟩ = some (.int .i64 m) := (blk_cell BK_gi.out 2).trans rfl; have hf_gi_2 : wx2.frozen? ⟨gi, 2, none⟩ = false := blk_frozen BK_gi.out 2; have hq_gi_3 : wx2.cell? ⟨gi, 3, none⟩ = some (.slice A3 gs.length c3) := (blk_cell BK_gi.out 3).trans rfl; have hf_gi_3 : wx2.frozen? ⟨gi, 3, none⟩ = false := blk_frozen BK_gi.out 3) | ((with_reducible refine gate_dst (N := 7) rfl ?_); refine box_event ?hg (N := 7) ?hd (cs := #[.int .i64 0]) (t := 3) ?hr ?_; (case hd => rfl); (case hg => rfl); (case hr => first | (go_simp; done) | (go_simp; rfl)); intro gM hg wx3 hbox hb; have HG_gM : Aside0 (w.heap.size ≤ gM) := ⟨by rw [hg]; exact HB.out.size⟩; have NE_gB_gM : Aside0 (gB ≠ gM) := ⟨by rw [hg]; exact Nat.ne_of_lt (blk_lt BK_gB.out)⟩; have na_gB_gM : gB ≠ gM := NE_gB_gM.out; have nb_gB_gM : gM ≠ gB := Ne.symm NE_gB_gM.out; replace BK_gB := Aside0.mk (blk_below BK_gB.out hb); have NE_gi_gM : Aside0 (gi ≠ gM) := ⟨by rw [hg]; exact Nat.ne_of_lt (blk_lt BK_gi.out)⟩; have na_gi_gM : gi ≠ gM := NE_gi_gM.out; have nb_gi_gM : gM ≠ gi := Ne.symm NE_gi_gM.out; replace BK_gi := Aside0.mk (blk_below BK_gi.out hb); have BK_gM := Aside0.mk hbox; replace HB := Aside0.mk (below_step HB.out hb); clear hg hbox hb; clear hq_gB_0 hf_gB_0 hq_gi_0 hf_gi_0 hq_gi_1 hf_gi_1 hq_gi_2 hf_gi_2 hq_gi_3 hf_gi_3; have hq_gB_0 : wx3.cell? ⟨gB, 0, none⟩ = some (.slice A0 b.length c0) := (blk_cell BK_gB.out 0).trans rfl; have hf_gB_0 : wx3.frozen? ⟨gB, 0, none⟩ = false := blk_frozen BK_gB.out 0; have hq_gi_0 : wx3.cell? ⟨gi, 0, none⟩ = some (.int .u8 s) := (blk_cell BK_gi.out 0).trans rfl; have hf_gi_0 : wx3.frozen? ⟨gi, 0, none⟩ = false := blk_frozen BK_gi.out 0; have hq_gi_1 : wx3.cell? ⟨gi, 1, none⟩ = some (.int .u8 sh) := (blk_cell BK_gi.out 1).trans rfl; have hf_gi_1 : wx3.frozen? ⟨gi, 1, none⟩ = false := blk_frozen BK_gi.out 1; have hq_gi_2 : wx3.cell? ⟨gi, 2, none⟩ = some (.int .i64 m) := (blk_cell BK_gi.out 2).trans rfl; have hf_gi_2 : wx3.frozen? ⟨gi, 2, none⟩ = false := blk_frozen BK_gi.out 2; have hq_gi_3 : wx3.cell? ⟨gi, 3, none⟩ = some (.slice A3 gs.length c3) := (blk_cell BK_gi.out 3).trans rfl; have hf_gi_3 : wx3.frozen? ⟨gi, 3, none⟩ = false := blk_frozen BK_gi.out 3; have hq_gM_0 : wx3.cell? ⟨gM, 0, none⟩ = some (.int .i64 0) := (blk_cell BK_gM.out 0).trans rfl; have hf_gM_0 : wx3.frozen? ⟨gM, 0, none⟩ = false := blk_frozen BK_gM.out 0) | ((with_reducible refine gate_dst (N := 8) rfl ?_); refine box_event ?hg (N := 8) ?hd (cs := #[.int .i64 0]) (t := 28) ?hr ?_; (case hd => rfl); (case hg => rfl); (case hr => first | (go_simp; done) | (go_simp; rfl)); intro gE hg wx4 hbox hb; have HG_gE : Aside0 (w.heap.size ≤ gE) := ⟨by rw [hg]; exact HB.out.size⟩; have NE_gB_gE : Aside0 (gB ≠ gE) := ⟨by rw [hg]; exact Nat.ne_of_lt (blk_lt BK_gB.out)⟩; have na_gB_gE : gB ≠ gE := NE_gB_gE.out; have nb_gB_gE : gE ≠ gB := Ne.symm NE_gB_gE.out; replace BK_gB := Aside0.mk (blk_below BK_gB.out hb); have NE_gi_gE : Aside0 (gi ≠ gE) := ⟨by rw [hg]; exact Nat.ne_of_lt (blk_lt BK_gi.out)⟩; have na_gi_gE : gi ≠ gE := NE_gi_gE.out; have nb_gi_gE : gE ≠ gi := Ne.symm NE_gi_gE.out; replace BK_gi := Aside0.mk (blk_below BK_gi.out hb); have NE_gM_gE : Aside0 (gM ≠ gE) := ⟨by rw [hg]; exact Nat.ne_of_lt (blk_lt BK_gM.out)⟩; have na_gM_gE : gM ≠ gE := NE_gM_gE.out; have nb_gM_gE : gE ≠ gM := Ne.symm NE_gM_gE.out; replace BK_gM := Aside0.mk (blk_below BK_gM.out hb); have BK_gE := Aside0.mk hbox; replace HB := Aside0.mk (below_step HB.out hb); clear hg hbox hb; clear hq_gB_0 hf_gB_0 hq_gi_0 hf_gi_0 hq_gi_1 hf_gi_1 hq_gi_2 hf_gi_2 hq_gi_3 hf_gi_3 hq_gM_0 hf_gM_0; have hq_gB_0 : wx4.cell? ⟨gB, 0, none⟩ = some (.slice A0 b.length c0) := (blk_cell BK_gB.out 0).trans rfl; have hf_gB_0 : wx4.frozen? ⟨gB, 0, none⟩ = false := blk_frozen BK_gB.out 0; have hq_gi_0 : wx4.cell? ⟨gi, 0, none⟩ = some (.int .u8 s) := (blk_cell BK_gi.out 0).trans rfl; have hf_gi_0 : wx4.frozen? ⟨gi, 0, none⟩ = false := blk_frozen BK_gi.out 0; have hq_gi_1 : wx4.cell? ⟨gi, 1, none⟩ = some (.int .u8 sh) := (blk_cell BK_gi.out 1).trans rfl; have hf_gi_1 : wx4.frozen? ⟨gi, 1, none⟩ = false := blk_frozen BK_gi.out 1; have hq_gi_2 : wx4.cell? ⟨gi, 2, none⟩ = some (.int .i64 m) := (blk_cell BK_gi.out 2).trans rfl; have hf_gi_2 : wx4.frozen? ⟨gi, 2, none⟩ = false := blk_frozen BK_gi.out 2; have hq_gi_3 : wx4.cell? ⟨gi, 3, none⟩ = some (.slice A3 gs.length c3) := (blk_cell BK_gi.out 3).trans rfl; have hf_gi_3 : wx4.frozen? ⟨gi, 3, none⟩ = false := blk_frozen BK_gi.out 3; have hq_gM_0 : wx4.cell? ⟨gM, 0, none⟩ = some (.int .i64 0) := (blk_cell BK_gM.out 0).trans rfl; have hf_gM_0 : wx4.frozen? ⟨gM, 0, none⟩ = false := blk_frozen BK_gM.out 0; have hq_gE_0 : wx4.cell? ⟨gE, 0, none⟩ = some (.int .i64 0) := (blk_cell BK_gE.out 0).trans rfl; have hf_gE_0 : wx4.frozen? ⟨gE, 0, none⟩ = false := blk_frozen BK_gE.out 0) | (go_at_call 9; refine (info_Windows.calls (gs.length + 1) s sh m A3 c3 gs 0 8 _ (Kd.C_below HR3.out HB.out) HC3.out HWB.out).mono ?_; rintro e wx5 ⟨rfl, hb⟩; replace BK_gB := Aside0.mk (blk_below BK_gB.out hb); replace BK_gi := Aside0.mk (blk_below BK_gi.out hb); replace BK_gM := Aside0.mk (blk_below BK_gM.out hb); replace BK_gE := Aside0.mk (blk_below BK_gE.out hb); replace HB := Aside0.mk (below_step HB.out hb); clear hb; clear hq_gB_0 hf_gB_0 hq_gi_0 hf_gi_0 hq_gi_1 hf_gi_1 hq_gi_2 hf_gi_2 hq_gi_3 hf_gi_3 hq_gM_0 hf_gM_0 hq_gE_0 hf_gE_0; have hq_gB_0 : wx5.cell? ⟨gB, 0, none⟩ = some (.slice A0 b.length c0) := (blk_cell BK_gB.out 0).trans rfl; have hf_gB_0 : wx5.frozen? ⟨gB, 0, none⟩ = false := blk_frozen BK_gB.out 0; have hq_gi_0 : wx5.cell? ⟨gi, 0, none⟩ = some (.int .u8 s) := (blk_cell BK_gi.out 0).trans rfl; have hf_gi_0 : wx5.frozen? ⟨gi, 0, none⟩ = false := blk_frozen BK_gi.out 0; have hq_gi_1 : wx5.cell? ⟨gi, 1, none⟩ = some (.int .u8 sh) := (blk_cell BK_gi.out 1).trans rfl; have hf_gi_1 : wx5.frozen? ⟨gi, 1, none⟩ = false := blk_frozen BK_gi.out 1; have hq_gi_2 : wx5.cell? ⟨gi, 2, none⟩ = some (.int .i64 m) := (blk_cell BK_gi.out 2).trans rfl; have hf_gi_2 : wx5.frozen? ⟨gi, 2, none⟩ = false := blk_frozen BK_gi.out 2; have hq_gi_3 : wx5.cell? ⟨gi, 3, none⟩ = some (.slice A3 gs.length c3) := (blk_cell BK_gi.out 3).trans rfl; have hf_gi_3 : wx5.frozen? ⟨gi, 3, none⟩ = false := blk_frozen BK_gi.out 3; have hq_gM_0 : wx5.cell? ⟨gM, 0, none⟩ = some (.int .i64 0) := (blk_cell BK_gM.out 0).trans rfl; have hf_gM_0 : wx5.frozen? ⟨gM, 0, none⟩ = false := blk_frozen BK_gM.out 0; have hq_gE_0 : wx5.cell? ⟨gE, 0, none⟩ = some (.int .i64 0) := (blk_cell BK_gE.out 0).trans rfl; have hf_gE_0 : wx5.frozen? ⟨gE, 0, none⟩ = false := blk_frozen BK_gE.out 0; replace BK_gB := Aside0.mk (blk_far (p := ⟨gE, 0, none⟩) BK_gB.out NE_gB_gE.out (.int .i64 8)); replace BK_gi := Aside0.mk (blk_far (p := ⟨gE, 0, none⟩) BK_gi.out NE_gi_gE.out (.int .i64 8)); replace BK_gM := Aside0.mk (blk_far (p := ⟨gE, 0, none⟩) BK_gM.out NE_gM_gE.out (.int .i64 8)); replace BK_gE := Aside0.mk (blk_put BK_gE.out 0 (.int .i64 8) rfl); replace HB := Aside0.mk (below_set (j := 0) (v := .int .i64 8) HB.out HG_gE.out)))
    generalize (wx5.setCell ⟨gE, 0, none⟩ (.int .i64 8)) = wz at HB BK_gM BK_gE ⊢
    clear hq_gB_0 hf_gB_0 hq_gi_0 hf_gi_0 hq_gi_1 hf_gi_1 hq_gi_2 hf_gi_2 hq_gi_3 hf_gi_3 hq_gM_0 hf_gM_0 hq_gE_0 hf_gE_0 BK_gB BK_gi
    have qM := (blk_cell BK_gM.out 0).trans rfl
    have fM := blk_frozen BK_gM.out 0
    have qE : wz.cell? ⟨gE, 0, none⟩ = some (.int .i64 8) := (blk_cell BK_gE.out 0).trans rfl
    have fE := blk_frozen BK_gE.out 0
    refine start_ (n := 4) (S := fun w' => w'.cell? ⟨gE, 0, none⟩ = some (.int .i64 8)) (ds := [3]) #[false, false, false, false] (by kernel_rfl) rfl rfl (qE) (fun hHeld => ?_)
    refine pure_ (i := 1) (N := some 6) (v := ?_) (a' := ?_) #[false, true, false, false] rfl rfl (by kernel_rfl) (fun _ _ _ h => h) (Or.inl ⟨by rfl, ?_⟩) ?_ ?_
    rotate_left
    · intro w'
      go_simp
      with_reducible rfl
    rotate_left
    · simp only [Act.put, List.setIfInBounds_toArray, List.set_cons_zero, List.set_cons_succ, i64_w, i32_w]
      rfl
    refine take_ (i := 0) (N := some 27) (v := ?_) (a' := ?_) #[true, true, false, false] rfl rfl (by kernel_rfl) (fun _ _ _ h => h) (Or.inl ⟨by rfl, ?_⟩) hHeld ?_ ?_
    rotate_left
    · intro w' s0
      go_simp
      with_reducible rfl
    rotate_left
    · simp only [Act.put, List.setIfInBounds_toArray, List.set_cons_zero, List.set_cons_succ, i64_w, i32_w]
      rfl
    refine one_ (i := 2) (N := none) #[true, true, true, false] rfl rfl (by kernel_rfl) (by decide) (fun K hK => ?_)
    refine skip_ (w1 := ?_) (by rfl) rfl ?_ ?_
    rotate_left
    · go_simp
      rfl
    refine hK.out _ _ ((by go_simp)) (fun hHeld => ?_)
    clear hK K
    refine last_ (i := 3) (N := none) #[true, true, true, true] rfl rfl (by kernel_rfl) (by decide) (fun K hK => ?_)
    refine skip_ (w1 := ?_) (by rfl) rfl ?_ ?_
    rotate_left
    · go_simp
      rfl
    refine hK.out _ _ ?_
    clear hK K
    refine done_ (by kernel_rfl) ?_
    go_wp2
    refine get_fin (M := gM) (E := gE) (nx := 0) (e := 8) ((blk_cell (blk_far (blk_put (blk_drew BK_gM.out) 0 _ rfl) NE_gM_gE.out _) 0).trans rfl) ((blk_cell (blk_put (blk_far (blk_drew BK_gE.out) (Ne.symm NE_gM_gE.out) _) 0 _ rfl) 0).trans rfl) rfl rfl rfl rfl ?_
    exact ⟨_, rfl, Kd.R_nil _ _ _ _ _, below_set (below_set (below_drew1 HB.out) HG_gM.out) HG_gE.out⟩
  have HRR2 : Aside0 ((R1, R2, R3) = getEnd (getWins b s (manyF s).toNat [] false (p, 0))) := ⟨by have := HRR.out; unfold getTns at this; rwa [if_pos hs] at this⟩
  have HWB : Aside0 (info_Windows.f (gs.length + 1) s sh m gs = some (manyF s, 0)) := ⟨by rw [HWN.out]; unfold SP.windowsS; rw [if_pos hs]; rfl⟩
  clear hs HWN HRR
  obtain ⟨N, hN⟩ : ∃ n : Nat, (n : Int) = manyF s ∧ n ≤ 8 := ⟨(manyF s).toNat, by unfold manyF; split <;> decide, by unfold manyF; split <;> decide⟩
  rw [← hN.1] at HWB HRR2
  rw [Int.toNat_natCast] at HRR2
  have hN8 := hN.2
  clear hN
  obtain ⟨RES, hres⟩ : ∃ r, r = getWins b s N [] false (p, 0) := ⟨_, rfl⟩
  rw [← hres] at HRR2
  have HW0 := Aside0.mk hres.symm
  clear hres
  have HB : Aside0 (Below w.heap.size w w) := ⟨Below.refl _ _⟩
  go_enter Try.func13, Try.ntmps13
  go_wp2_with (first | ((with_reducible refine gate_dst (N := 3) rfl ?_); refine box_event ?hg (N := 3) ?hd (cs := #[.slice A0 b.length c0]) (t := 32) ?hr ?_; (case hd => rfl); (case hg => rfl); (case hr => first | (go_simp; done) | (go_simp; rfl)); intro gB hg wx1 hbox hb; have HG_gB : Aside0 (w.heap.size ≤ gB) := ⟨by rw [hg]; exact HB.out.size⟩; have BK_gB := Aside0.mk hbox; replace HB := Aside0.mk (below_step HB.out hb); clear hg hbox hb; have hq_gB_0 : wx1.cell? ⟨gB, 0, none⟩ = some (.slice A0 b.length c0) := (blk_cell BK_gB.out 0).trans rfl; have hf_gB_0 : wx1.frozen? ⟨gB, 0, none⟩ = false := blk_frozen BK_gB.out 0) | ((with_reducible refine gate_dst (N := 5) rfl ?_); refine box_event ?hg (N := 5) ?hd (cs := #[.int .u8 s, .int .u8 sh, .int .i64 m, .slice A3 gs.length c3]) (t := 24) ?hr ?_; (case hd => rfl); (case hg => rfl); (case hr => first | (go_simp; done) | (go_simp; rfl)); intro gi hg wx2 hbox hb; have HG_gi : Aside0 (w.heap.size ≤ gi) := ⟨by rw [hg]; exact HB.out.size⟩; have NE_gB_gi : Aside0 (gB ≠ gi) := ⟨by rw [hg]; exact Nat.ne_of_lt (blk_lt BK_gB.out)⟩; have na_gB_gi : gB ≠ gi := NE_gB_gi.out; have nb_gB_gi : gi ≠ gB := Ne.symm NE_gB_gi.out; replace BK_gB := Aside0.mk (blk_below BK_gB.out hb); have BK_gi := Aside0.mk hbox; replace HB := Aside0.mk (below_step HB.out hb); clear hg hbox hb; clear hq_gB_0 hf_gB_0; have hq_gB_0 : wx2.cell? ⟨gB, 0, none⟩ = some (.slice A0 b.length c0) := (blk_cell BK_gB.out 0).trans rfl; have hf_gB_0 : wx2.frozen? ⟨gB, 0, none⟩ = false := blk_frozen BK_gB.out 0; have hq_gi_0 : wx2.cell? ⟨gi, 0, none⟩ = some (.int .u8 s) := (blk_cell BK_gi.out 0).trans rfl; have hf_gi_0 : wx2.frozen? ⟨gi, 0, none⟩ = false := blk_frozen BK_gi.out 0; have hq_gi_1 : wx2.cell? ⟨gi, 1, none⟩ = some (.int .u8 sh) := (blk_cell BK_gi.out 1).trans rfl; have hf_gi_1 : wx2.frozen? ⟨gi, 1, none⟩ = false := blk_frozen BK_gi.out 1; have hq_gi_2 : wx2.cell? ⟨gi, 2, none⟩ = some (.int .i64 m) := (blk_cell BK_gi.out 2).trans rfl; have hf_gi_2 : wx2.frozen? ⟨gi, 2, none⟩ = false := blk_frozen BK_gi.out 2; have hq_gi_3 : wx2.cell? ⟨gi, 3, none⟩ = some (.slice A3 gs.length c3) := (blk_cell BK_gi.out 3).trans rfl; have hf_gi_3 : wx2.frozen? ⟨gi, 3, none⟩ = false := blk_frozen BK_gi.out 3) | ((with_reducible refine gate_dst (N := 7) rfl ?_); refine box_event ?hg (N := 7) ?hd (cs := #[.int .i64 0]) (t := 3) ?hr ?_; (case hd => rfl); (case hg => rfl); (case hr => first | (go_simp; done) | (go_simp; rfl)); intro gM hg wx3 hbox hb; have HG_gM : Aside0 (w.heap.size ≤ gM) := ⟨by rw [hg]; exact HB.out.size⟩; have NE_gB_gM : Aside0 (gB ≠ gM) := ⟨by rw [hg]; exact Nat.ne_of_lt (blk_lt BK_gB.out)⟩; have na_gB_gM : gB ≠ gM := NE_gB_gM.out; have nb_gB_gM : gM ≠ gB := Ne.symm NE_gB_gM.out; replace BK_gB := Aside0.mk (blk_below BK_gB.out hb); have NE_gi_gM : Aside0 (gi ≠ gM) := ⟨by rw [hg]; exact Nat.ne_of_lt (blk_lt BK_gi.out)⟩; have na_gi_gM : gi ≠ gM := NE_gi_gM.out; have nb_gi_gM : gM ≠ gi := Ne.symm NE_gi_gM.out; replace BK_gi := Aside0.mk (blk_below BK_gi.out hb); have BK_gM := Aside0.mk hbox; replace HB := Aside0.mk (below_step HB.out hb); clear hg hbox hb; clear hq_gB_0 hf_gB_0 hq_gi_0 hf_gi_0 hq_gi_1 hf_gi_1 hq_gi_2 hf_gi_2 hq_gi_3 hf_gi_3; have hq_gB_0 : wx3.cell? ⟨gB, 0, none⟩ = some (.slice A0 b.length c0) := (blk_cell BK_gB.out 0).trans rfl; have hf_gB_0 : wx3.frozen? ⟨gB, 0, none⟩ = false := blk_frozen BK_gB.out 0; have hq_gi_0 : wx3.cell? ⟨gi, 0, none⟩ = some (.int .u8 s) := (blk_cell BK_gi.out 0).trans rfl; have hf_gi_0 : wx3.frozen? ⟨gi, 0, none⟩ = false := blk_frozen BK_gi.out 0; have hq_gi_1 : wx3.cell? ⟨gi, 1, none⟩ = some (.int .u8 sh) := (blk_cell BK_gi.out 1).trans rfl; have hf_gi_1 : wx3.frozen? ⟨gi, 1, none⟩ = false := blk_frozen BK_gi.out 1; have hq_gi_2 : wx3.cell? ⟨gi, 2, none⟩ = some (.int .i64 m) := (blk_cell BK_gi.out 2).trans rfl; have hf_gi_2 : wx3.frozen? ⟨gi, 2, none⟩ = false := blk_frozen BK_gi.out 2; have hq_gi_3 : wx3.cell? ⟨gi, 3, none⟩ = some (.slice A3 gs.length c3) := (blk_cell BK_gi.out 3).trans rfl; have hf_gi_3 : wx3.frozen? ⟨gi, 3, none⟩ = false := blk_frozen BK_gi.out 3; have hq_gM_0 : wx3.cell? ⟨gM, 0, none⟩ = some (.int .i64 0) := (blk_cell BK_gM.out 0).trans rfl; have hf_gM_0 : wx3.frozen? ⟨gM, 0, none⟩ = false := blk_frozen BK_gM.out 0) | ((with_reducible refine gate_dst (N := 8) rfl ?_); refine box_event ?hg (N := 8) ?hd (cs := #[.int .i64 0]) (t := 28) ?hr ?_; (case hd => rfl); (case hg => rfl); (case hr => first | (go_simp; done) | (go_simp; rfl)); intro gE hg wx4 hbox hb; have HG_gE : Aside0 (w.heap.size ≤ gE) := ⟨by rw [hg]; exact HB.out.size⟩; have NE_gB_gE : Aside0 (gB ≠ gE) := ⟨by rw [hg]; exact Nat.ne_of_lt (blk_lt BK_gB.out)⟩; have na_gB_gE : gB ≠ gE := NE_gB_gE.out; have nb_gB_gE : gE ≠ gB := Ne.symm NE_gB_gE.out; replace BK_gB := Aside0.mk (blk_below BK_gB.out hb); have NE_gi_gE : Aside0 (gi ≠ gE) := ⟨by rw [hg]; exact Nat.ne_of_lt (blk_lt BK_gi.out)⟩; have na_gi_gE : gi ≠ gE := NE_gi_gE.out; have nb_gi_gE : gE ≠ gi := Ne.symm NE_gi_gE.out; replace BK_gi := Aside0.mk (blk_below BK_gi.out hb); have NE_gM_gE : Aside0 (gM ≠ gE) := ⟨by rw [hg]; exact Nat.ne_of_lt (blk_lt BK_gM.out)⟩; have na_gM_gE : gM ≠ gE := NE_gM_gE.out; have nb_gM_gE : gE ≠ gM := Ne.symm NE_gM_gE.out; replace BK_gM := Aside0.mk (blk_below BK_gM.out hb); have BK_gE := Aside0.mk hbox; replace HB := Aside0.mk (below_step HB.out hb); clear hg hbox hb; clear hq_gB_0 hf_gB_0 hq_gi_0 hf_gi_0 hq_gi_1 hf_gi_1 hq_gi_2 hf_gi_2 hq_gi_3 hf_gi_3 hq_gM_0 hf_gM_0; have hq_gB_0 : wx4.cell? ⟨gB, 0, none⟩ = some (.slice A0 b.length c0) := (blk_cell BK_gB.out 0).trans rfl; have hf_gB_0 : wx4.frozen? ⟨gB, 0, none⟩ = false := blk_frozen BK_gB.out 0; have hq_gi_0 : wx4.cell? ⟨gi, 0, none⟩ = some (.int .u8 s) := (blk_cell BK_gi.out 0).trans rfl; have hf_gi_0 : wx4.frozen? ⟨gi, 0, none⟩ = false := blk_frozen BK_gi.out 0; have hq_gi_1 : wx4.cell? ⟨gi, 1, none⟩ = some (.int .u8 sh) := (blk_cell BK_gi.out 1).trans rfl; have hf_gi_1 : wx4.frozen? ⟨gi, 1, none⟩ = false := blk_frozen BK_gi.out 1; have hq_gi_2 : wx4.cell? ⟨gi, 2, none⟩ = some (.int .i64 m) := (blk_cell BK_gi.out 2).trans rfl; have hf_gi_2 : wx4.frozen? ⟨gi, 2, none⟩ = false := blk_frozen BK_gi.out 2; have hq_gi_3 : wx4.cell? ⟨gi, 3, none⟩ = some (.slice A3 gs.length c3) := (blk_cell BK_gi.out 3).trans rfl; have hf_gi_3 : wx4.frozen? ⟨gi, 3, none⟩ = false := blk_frozen BK_gi.out 3; have hq_gM_0 : wx4.cell? ⟨gM, 0, none⟩ = some (.int .i64 0) := (blk_cell BK_gM.out 0).trans rfl; have hf_gM_0 : wx4.frozen? ⟨gM, 0, none⟩ = false := blk_frozen BK_gM.out 0; have hq_gE_0 : wx4.cell? ⟨gE, 0, none⟩ = some (.int .i64 0) := (blk_cell BK_gE.out 0).trans rfl; have hf_gE_0 : wx4.frozen? ⟨gE, 0, none⟩ = false := blk_frozen BK_gE.out 0) | (go_at_call 9; refine (info_Windows.calls (gs.length + 1) s sh m A3 c3 gs (N : Int) 0 _ (Kd.C_below HR3.out HB.out) HC3.out HWB.out).mono ?_; rintro e wx5 ⟨rfl, hb⟩; replace BK_gB := Aside0.mk (blk_below BK_gB.out hb); replace BK_gi := Aside0.mk (blk_below BK_gi.out hb); replace BK_gM := Aside0.mk (blk_below BK_gM.out hb); replace BK_gE := Aside0.mk (blk_below BK_gE.out hb); replace HB := Aside0.mk (below_step HB.out hb); clear hb; clear hq_gB_0 hf_gB_0 hq_gi_0 hf_gi_0 hq_gi_1 hf_gi_1 hq_gi_2 hf_gi_2 hq_gi_3 hf_gi_3 hq_gM_0 hf_gM_0 hq_gE_0 hf_gE_0; have hq_gB_0 : wx5.cell? ⟨gB, 0, none⟩ = some (.slice A0 b.length c0) := (blk_cell BK_gB.out 0).trans rfl; have hf_gB_0 : wx5.frozen? ⟨gB, 0, none⟩ = false := blk_frozen BK_gB.out 0; have hq_gi_0 : wx5.cell? ⟨gi, 0, none⟩ = some (.int .u8 s) := (blk_cell BK_gi.out 0).trans rfl; have hf_gi_0 : wx5.frozen? ⟨gi, 0, none⟩ = false := blk_frozen BK_gi.out 0; have hq_gi_1 : wx5.cell? ⟨gi, 1, none⟩ = some (.int .u8 sh) := (blk_cell BK_gi.out 1).trans rfl; have hf_gi_1 : wx5.frozen? ⟨gi, 1, none⟩ = false := blk_frozen BK_gi.out 1; have hq_gi_2 : wx5.cell? ⟨gi, 2, none⟩ = some (.int .i64 m) := (blk_cell BK_gi.out 2).trans rfl; have hf_gi_2 : wx5.frozen? ⟨gi, 2, none⟩ = false := blk_frozen BK_gi.out 2; have hq_gi_3 : wx5.cell? ⟨gi, 3, none⟩ = some (.slice A3 gs.length c3) := (blk_cell BK_gi.out 3).trans rfl; have hf_gi_3 : wx5.frozen? ⟨gi, 3, none⟩ = false := blk_frozen BK_gi.out 3; have hq_gM_0 : wx5.cell? ⟨gM, 0, none⟩ = some (.int .i64 0) := (blk_cell BK_gM.out 0).trans rfl; have hf_gM_0 : wx5.frozen? ⟨gM, 0, none⟩ = false := blk_frozen BK_gM.out 0; have hq_gE_0 : wx5.cell? ⟨gE, 0, none⟩ = some (.int .i64 0) := (blk_cell BK_gE.out 0).trans rfl; have hf_gE_0 : wx5.frozen? ⟨gE, 0, none⟩ = false := blk_frozen BK_gE.out 0; replace BK_gB := Aside0.mk (blk_far (p := ⟨gE, 0, none⟩) BK_gB.out NE_gB_gE.out (.int .i64 0)); replace BK_gi := Aside0.mk (blk_far (p := ⟨gE, 0, none⟩) BK_gi.out NE_gi_gE.out (.int .i64 0)); replace BK_gM := Aside0.mk (blk_far (p := ⟨gE, 0, none⟩) BK_gM.out NE_gM_gE.out (.int .i64 0)); replace BK_gE := Aside0.mk (blk_put BK_gE.out 0 (.int .i64 0) rfl); replace HB := Aside0.mk (below_set (j := 0) (v := .int .i64 0) HB.out HG_gE.out); replace BK_gB := Aside0.mk (blk_far (p := ⟨gM, 0, none⟩) BK_gB.out NE_gB_gM.out (.int .i64 p)); replace BK_gi := Aside0.mk (blk_far (p := ⟨gM, 0, none⟩) BK_gi.out NE_gi_gM.out (.int .i64 p)); replace BK_gE := Aside0.mk (blk_far (p := ⟨gM, 0, none⟩) BK_gE.out (Ne.symm NE_gM_gE.out) (.int .i64 p)); replace BK_gM := Aside0.mk (blk_put BK_gM.out 0 (.int .i64 p) rfl); replace HB := Aside0.mk (below_set (j := 0) (v := .int .i64 p) HB.out HG_gM.out)) | (go_at_call 17; refine (sizes_calls' s sh m A3 gs.length c3 _).mono ?_; rintro e wx6 ⟨rfl, hb⟩; replace BK_gB := Aside0.mk (blk_below BK_gB.out hb); replace BK_gi := Aside0.mk (blk_below BK_gi.out hb); replace BK_gM := Aside0.mk (blk_below BK_gM.out hb); replace BK_gE := Aside0.mk (blk_below BK_gE.out hb); replace HB := Aside0.mk (below_step HB.out hb); clear hb; clear hq_gB_0 hf_gB_0 hq_gi_0 hf_gi_0 hq_gi_1 hf_gi_1 hq_gi_2 hf_gi_2 hq_gi_3 hf_gi_3 hq_gM_0 hf_gM_0 hq_gE_0 hf_gE_0; have hq_gB_0 : wx6.cell? ⟨gB, 0, none⟩ = some (.slice A0 b.length c0) := (blk_cell BK_gB.out 0).trans rfl; have hf_gB_0 : wx6.frozen? ⟨gB, 0, none⟩ = false := blk_frozen BK_gB.out 0; have hq_gi_0 : wx6.cell? ⟨gi, 0, none⟩ = some (.int .u8 s) := (blk_cell BK_gi.out 0).trans rfl; have hf_gi_0 : wx6.frozen? ⟨gi, 0, none⟩ = false := blk_frozen BK_gi.out 0; have hq_gi_1 : wx6.cell? ⟨gi, 1, none⟩ = some (.int .u8 sh) := (blk_cell BK_gi.out 1).trans rfl; have hf_gi_1 : wx6.frozen? ⟨gi, 1, none⟩ = false := blk_frozen BK_gi.out 1; have hq_gi_2 : wx6.cell? ⟨gi, 2, none⟩ = some (.int .i64 m) := (blk_cell BK_gi.out 2).trans rfl; have hf_gi_2 : wx6.frozen? ⟨gi, 2, none⟩ = false := blk_frozen BK_gi.out 2; have hq_gi_3 : wx6.cell? ⟨gi, 3, none⟩ = some (.slice A3 gs.length c3) := (blk_cell BK_gi.out 3).trans rfl; have hf_gi_3 : wx6.frozen? ⟨gi, 3, none⟩ = false := blk_frozen BK_gi.out 3; have hq_gM_0 : wx6.cell? ⟨gM, 0, none⟩ = some (.int .i64 p) := (blk_cell BK_gM.out 0).trans rfl; have hf_gM_0 : wx6.frozen? ⟨gM, 0, none⟩ = false := blk_frozen BK_gM.out 0; have hq_gE_0 : wx6.cell? ⟨gE, 0, none⟩ = some (.int .i64 0) := (blk_cell BK_gE.out 0).trans rfl; have hf_gE_0 : wx6.frozen? ⟨gE, 0, none⟩ = false := blk_frozen BK_gE.out 0) | ((with_reducible refine gate_dst (N := 11) rfl ?_); refine box_event ?hg (N := 11) ?hd (cs := #[.int .i64 0, .int .i64 0, .int .i64 0, .int .i64 0, .int .i64 0]) (t := 51) ?hr ?_; (case hd => rfl); (case hg => rfl); (case hr => first | (go_simp; done) | (go_simp; rfl)); intro gX hg wx7 hbox hb; have HG_gX : Aside0 (w.heap.size ≤ gX) := ⟨by rw [hg]; exact HB.out.size⟩; have NE_gB_gX : Aside0 (gB ≠ gX) := ⟨by rw [hg]; exact Nat.ne_of_lt (blk_lt BK_gB.out)⟩; have na_gB_gX : gB ≠ gX := NE_gB_gX.out; have nb_gB_gX : gX ≠ gB := Ne.symm NE_gB_gX.out; replace BK_gB := Aside0.mk (blk_below BK_gB.out hb); have NE_gi_gX : Aside0 (gi ≠ gX) := ⟨by rw [hg]; exact Nat.ne_of_lt (blk_lt BK_gi.out)⟩; have na_gi_gX : gi ≠ gX := NE_gi_gX.out; have nb_gi_gX : gX ≠ gi := Ne.symm NE_gi_gX.out; replace BK_gi := Aside0.mk (blk_below BK_gi.out hb); have NE_gM_gX : Aside0 (gM ≠ gX) := ⟨by rw [hg]; exact Nat.ne_of_lt (blk_lt BK_gM.out)⟩; have na_gM_gX : gM ≠ gX := NE_gM_gX.out; have nb_gM_gX : gX ≠ gM := Ne.symm NE_gM_gX.out; replace BK_gM := Aside0.mk (blk_below BK_gM.out hb); have NE_gE_gX : Aside0 (gE ≠ gX) := ⟨by rw [hg]; exact Nat.ne_of_lt (blk_lt BK_gE.out)⟩; have na_gE_gX : gE ≠ gX := NE_gE_gX.out; have nb_gE_gX : gX ≠ gE := Ne.symm NE_gE_gX.out; replace BK_gE := Aside0.mk (blk_below BK_gE.out hb); have BK_gX := Aside0.mk hbox; replace HB := Aside0.mk (below_step HB.out hb); clear hg hbox hb; clear hq_gB_0 hf_gB_0 hq_gi_0 hf_gi_0 hq_gi_1 hf_gi_1 hq_gi_2 hf_gi_2 hq_gi_3 hf_gi_3 hq_gM_0 hf_gM_0 hq_gE_0 hf_gE_0; have hq_gB_0 : wx7.cell? ⟨gB, 0, none⟩ = some (.slice A0 b.length c0) := (blk_cell BK_gB.out 0).trans rfl; have hf_gB_0 : wx7.frozen? ⟨gB, 0, none⟩ = false := blk_frozen BK_gB.out 0; have hq_gi_0 : wx7.cell? ⟨gi, 0, none⟩ = some (.int .u8 s) := (blk_cell BK_gi.out 0).trans rfl; have hf_gi_0 : wx7.frozen? ⟨gi, 0, none⟩ = false := blk_frozen BK_gi.out 0; have hq_gi_1 : wx7.cell? ⟨gi, 1, none⟩ = some (.int .u8 sh) := (blk_cell BK_gi.out 1).trans rfl; have hf_gi_1 : wx7.frozen? ⟨gi, 1, none⟩ = false := blk_frozen BK_gi.out 1; have hq_gi_2 : wx7.cell? ⟨gi, 2, none⟩ = some (.int .i64 m) := (blk_cell BK_gi.out 2).trans rfl; have hf_gi_2 : wx7.frozen? ⟨gi, 2, none⟩ = false := blk_frozen BK_gi.out 2; have hq_gi_3 : wx7.cell? ⟨gi, 3, none⟩ = some (.slice A3 gs.length c3) := (blk_cell BK_gi.out 3).trans rfl; have hf_gi_3 : wx7.frozen? ⟨gi, 3, none⟩ = false := blk_frozen BK_gi.out 3; have hq_gM_0 : wx7.cell? ⟨gM, 0, none⟩ = some (.int .i64 p) := (blk_cell BK_gM.out 0).trans rfl; have hf_gM_0 : wx7.frozen? ⟨gM, 0, none⟩ = false := blk_frozen BK_gM.out 0; have hq_gE_0 : wx7.cell? ⟨gE, 0, none⟩ = some (.int .i64 0) := (blk_cell BK_gE.out 0).trans rfl; have hf_gE_0 : wx7.frozen? ⟨gE, 0, none⟩ = false := blk_frozen BK_gE.out 0; have hq_gX_0 : wx7.cell? ⟨gX, 0, none⟩ = some (.int .i64 0) := (blk_cell BK_gX.out 0).trans rfl; have hf_gX_0 : wx7.frozen? ⟨gX, 0, none⟩ = false := blk_frozen BK_gX.out 0; have hq_gX_1 : wx7.cell? ⟨gX, 1, none⟩ = some (.int .i64 0) := (blk_cell BK_gX.out 1).trans rfl; have hf_gX_1 : wx7.frozen? ⟨gX, 1, none⟩ = false := blk_frozen BK_gX.out 1; have hq_gX_2 : wx7.cell? ⟨gX, 2, none⟩ = some (.int .i64 0) := (blk_cell BK_gX.out 2).trans rfl; have hf_gX_2 : wx7.frozen? ⟨gX, 2, none⟩ = false := blk_frozen BK_gX.out 2; have hq_gX_3 : wx7.cell? ⟨gX, 3, none⟩ = some (.int .i64 0) := (blk_cell BK_gX.out 3).trans rfl; have hf_gX_3 : wx7.frozen? ⟨gX, 3, none⟩ = false := blk_frozen BK_gX.out 3; have hq_gX_4 : wx7.cell? ⟨gX, 4, none⟩ = some (.int .i64 0) := (blk_cell BK_gX.out 4).trans rfl; have hf_gX_4 : wx7.frozen? ⟨gX, 4, none⟩ = false := blk_frozen BK_gX.out 4))
  have HL : Aside0 (LL w gB gM gE gX A0 c0 b s (.slice none 0 0) [] (((((wx7.setCell ⟨gX, 0, none⟩ (.int .i64 (numF s))).setCell ⟨gX, 1, none⟩ (.int .i64 (lenF s))).setCell ⟨gX, 2, none⟩ (.int .i64 (ordF s))).setCell ⟨gX, 3, none⟩ (.int .i64 (mostF s))).setCell ⟨gX, 4, none⟩ (.int .i64 (topF s))) p 0) := ⟨GetT.start ⟨HG_gB.out, HG_gM.out, HG_gE.out, HG_gX.out, NE_gB_gM.out, NE_gB_gE.out, NE_gM_gE.out, NE_gB_gX.out, NE_gM_gX.out, NE_gE_gX.out⟩ HB.out BK_gB.out BK_gM.out BK_gE.out BK_gX.out, Kd.R_nil _ _ _ _ _⟩
  generalize (((((wx7.setCell ⟨gX, 0, none⟩ (.int .i64 (numF s))).setCell ⟨gX, 1, none⟩ (.int .i64 (lenF s))).setCell ⟨gX, 2, none⟩ (.int .i64 (ordF s))).setCell ⟨gX, 3, none⟩ (.int .i64 (mostF s))).setCell ⟨gX, 4, none⟩ (.int .i64 (topF s))) = wz at HL ⊢
  clear hq_gB_0 hf_gB_0 hq_gi_0 hf_gi_0 hq_gi_1 hf_gi_1 hq_gi_2 hf_gi_2 hq_gi_3 hf_gi_3 hq_gM_0 hf_gM_0 hq_gE_0 hf_gE_0 hq_gX_0 hf_gX_0 hq_gX_1 hf_gX_1 hq_gX_2 hf_gX_2 hq_gX_3 hf_gX_3 hq_gX_4 hf_gX_4 BK_gB BK_gM BK_gE BK_gX BK_gi HB
  have HGET : Aside0 (∀ W nx e size n nx' e1, SG.getN b (nx, e) size = (n, nx', e1) → GetT w gB gM gE gX A0 c0 b s W nx e → Calls Try.prog 27 #[.int .i64 size, .pointer (some ⟨gE, 0, none⟩), .pointer (some ⟨gB, 0, none⟩), .pointer (some ⟨gM, 0, none⟩)] W fun e' W' => e' = .returned (.int .i64 n) ∧ GetT w gB gM gE gX A0 c0 b s W' nx' e1 ∧ Stay2 gM gE W W') := ⟨fun W nx e size n nx' e1 hn h => get_calls' w gB gM gE gX A0 c0 b s HB01.out (by omega) HC0.out HR0.out W nx e size n nx' e1 hn h⟩
  go_loopg [6, 12, 33] N (fun gg s6 s12 s33 wr => ∃ kk vl ls odd nx e, kk ≤ N ∧ N - kk ≤ gg ∧ s6 = vl ∧ s12 = .bool odd ∧ s33 = .int .i64 (kk : Nat) ∧ Aside0 (LL w gB gM gE gX A0 c0 b s vl ls wr nx e) ∧ Aside0 (getWins b s (N - kk) ls odd (nx, e) = RES) ∧ Aside0 (ls.length ≤ kk))
  case atStart => exact ⟨0, _, [], false, p, 0, Nat.zero_le _, by omega, rfl, rfl, rfl, HL, HW0, ⟨Nat.le_refl _⟩⟩
  case round =>
    clear HL HW0
    obtain ⟨kk, vl, ls, odd, nx, e, hkk, hgk, h6, rfl, rfl, HL, HWI, HLS⟩ := hrel
    obtain rfl : vl = _ := h6.symm
    by_cases hlt : kk < N
    · have hltz : (kk : Int) < (N : Int) := by omega
      obtain ⟨mv, nx1, e1, hHM⟩ : ∃ n_ x_ e_, SG.getN b (nx, e) (numF s) = (n_, x_, e_) := ⟨_, _, _, rfl⟩
      have HM := Aside0.mk hHM
      obtain ⟨HM0, HM2, HM1, HMe⟩ := getN_rng HB01.out (by have := numF_rng s; omega) (by have := numF_rng s; omega) hHM
      have HME := Aside0.mk HMe
      have HMP := Aside0.mk HM2
      clear hHM HMe HM2
      have HWI2 := Aside0.mk ((show N - kk = (N - (kk + 1)) + 1 by omega) ▸ HWI.out)
      replace HWI2 := Aside0.mk ((getWins_succ HM.out).symm.trans HWI2.out)
      clear HWI
      have qx0 := HL.out.1.qX0
      have qx1 := HL.out.1.qX1
      have qx2 := HL.out.1.qX2
      have HLg := Aside0.mk HL.out.1
      by_cases hm0 : 0 < mv
      case neg =>
        obtain rfl : mv = 0 := by omega
        have HWI3 : Aside0 (getWins b s (N - (kk + 1)) (ls ++ [[]]) odd (nx1, e1) = RES) := ⟨by have := HWI2.out; simpa [getFilts, getStep] using this⟩
        clear hm0 HM0 HM1 HWI2
        go_wp2_with (first | (go_at_call 27; (with_reducible refine (HGET.out _ (nx) (e) (numF s) (0) (nx1) (e1) HM.out HLg.out).mono ?_); rintro e' W_HM ⟨rfl, hG, hst⟩; have HL1 := Aside0.mk (HL.out.stay hG hst); clear qx0 qx1 qx2; clear hG hst))
        have HW1 := Aside0.mk HL1.out.toW
        generalize W_HM.heap.size = NB at HW1
        go_loopg [6, 12, 13, 47] 0 (fun gg s6 s12 s13 s47 wr => s6 = vl ∧ s12 = .bool odd ∧ s13 = .slice none 0 0 ∧ s47 = .int .i64 0 ∧ Aside0 (LW w gB gM gE gX A0 c0 b s NB NB vl ls (.slice none 0 0) [] wr nx1 e1))
        case atStart => exact ⟨rfl, rfl, rfl, rfl, HW1⟩
        case round =>
          clear HW1 HL1
          obtain ⟨h6, rfl, rfl, rfl, HW1⟩ := hrel
          obtain rfl : vl = _ := h6.symm
          go_wp2_with (first | ((with_reducible refine gate_builtin (b := .append) (xs := #[.tmp 117, .tmp 119]) rfl ?_); at_builtin; refine LW.appL HW1.out (by have := HLS.out; omega) rfl (.tmp 117) (.tmp 119) rfl rfl rfl ?_; intro v1 w1 hLL; have HL2 := Aside0.mk hLL; clear hLL))
          go_roundg (N - (kk + 1))
          case measure => omega
          case rel => exact ⟨kk + 1, _, _, odd, nx1, e1, by omega, by omega, rfl, rfl, by first | go_num | (congr 1; unfold wrap64; omega), HL2, HWI3, ⟨by rw [List.length_append, List.length_singleton]; have := HLS.out; omega⟩⟩
      case pos =>
        obtain ⟨fv, nx2, e2, hHF⟩ : ∃ n_ x_ e_, SG.getN b (nx1, e1) (1) = (n_, x_, e_) := ⟨_, _, _, rfl⟩
        have HF := Aside0.mk hHF
        obtain ⟨HF0, HF2, HF1, HFe⟩ := getN_rng HB01.out (by decide) (by decide) hHF
        have HFE := Aside0.mk HFe
        have HFP := Aside0.mk HF2
        clear hHF HFe HF2
        obtain ⟨fine, hfi⟩ : ∃ x, (fv == 1) = x := ⟨_, rfl⟩
        obtain ⟨M, rfl⟩ := Int.eq_ofNat_of_zero_le HM0
        obtain ⟨RF, hRF⟩ : ∃ r, r = getFilts b s fine M [] odd (nx2, e2) := ⟨_, rfl⟩
        have HWI3 : Aside0 (getStep b s (N - (kk + 1)) ls RF = RES) := ⟨by have := HWI2.out; rw [if_pos hm0] at this; simp only [HF.out, hfi, Int.toNat_natCast] at this; rw [hRF]; exact this⟩
        have HFI := Aside0.mk hRF.symm
        clear hRF HWI2
        have bm : decide (0 < M) = true := decide_eq_true (by omega)
        have hM1 : 1 ≤ M := by omega
        have hM63 : M ≤ 63 := by omega
        clear hm0 HM0 HM1
        go_wp2_with (first | (go_at_call 27; (with_reducible refine (HGET.out _ (nx) (e) (numF s) ((M : Int)) (nx1) (e1) HM.out HLg.out).mono ?_); rintro e' W_HM ⟨rfl, hG, hst⟩; have HL1 := Aside0.mk (HL.out.stay hG hst); have HL1g := Aside0.mk hG; clear qx0 qx1 qx2; have qx0 := hG.qX0; have qx1 := hG.qX1; have qx2 := hG.qX2; clear hG hst) | (go_at_call 27; (with_reducible refine (HGET.out _ (nx1) (e1) (1) (fv) (nx2) (e2) HF.out HL1g.out).mono ?_); rintro e' W_HF ⟨rfl, hG, hst⟩; have HL2 := Aside0.mk (HL1.out.stay hG hst); clear qx0 qx1 qx2; clear hG hst))
        have HW1 := Aside0.mk HL2.out.toW
        generalize W_HF.heap.size = NB at HW1
        clear HL HL1 HL2 HLg HL1g HF HM HF0 HF1 bm hfi
        go_loopg [6, 12, 13, 47] M (fun gg s6 s12 s13 s47 wr => ∃ jj N2 vw ws odd nx e, jj ≤ M ∧ M - jj ≤ gg ∧ s6 = vl ∧ s13 = vw ∧ s12 = .bool odd ∧ s47 = .int .i64 (jj : Nat) ∧ Aside0 (LW w gB gM gE gX A0 c0 b s NB N2 vl ls vw ws wr nx e) ∧ Aside0 (getFilts b s fine (M - jj) ws odd (nx, e) = RF) ∧ Aside0 (ws.length ≤ jj))
        case atStart => exact ⟨0, NB, _, [], odd, nx2, e2, Nat.zero_le _, by omega, rfl, rfl, rfl, rfl, HW1, HFI, ⟨Nat.le_refl _⟩⟩
        case round =>
          clear HW1 HFI
          obtain ⟨jj, N2o, vw, ws, od, nx, e, hjj, hgj, h6, h13, rfl, rfl, HW1, HFI, HWS⟩ := hrel
          obtain rfl : vw = _ := h13.symm
          obtain rfl : vl = _ := h6.symm
          by_cases hlt2 : jj < M
          · have hltz2 : (jj : Int) < (M : Int) := by omega
            have HW2 := Aside0.mk HW1.out.up
            generalize hN2 : wr.heap.size = N2 at HW2
            have HN2 := Aside0.mk hN2
            clear hN2 HW1
            obtain ⟨av, nx1, e1, hHA⟩ : ∃ n_ x_ e_, SG.getN b (nx, e) (lenF s) = (n_, x_, e_) := ⟨_, _, _, rfl⟩
            have HA := Aside0.mk hHA
            obtain ⟨HA0, HA2, HA1, HAe⟩ := getN_rng HB01.out (by have := lenF_rng s; omega) (by have := lenF_rng s; omega) hHA
            have HAE := Aside0.mk HAe
            have HAP := Aside0.mk HA2
            clear hHA HAe HA2
            obtain ⟨ov, nx2, e2, hHO⟩ : ∃ n_ x_ e_, SG.getN b (nx1, e1) (ordF s) = (n_, x_, e_) := ⟨_, _, _, rfl⟩
            have HO := Aside0.mk hHO
            obtain ⟨HO0, HO2, HO1, HOe⟩ := getN_rng HB01.out (by have := ordF_rng s; omega) (by have := ordF_rng s; omega) hHO
            have HOE := Aside0.mk HOe
            have HOP := Aside0.mk HO2
            clear hHO HOe HO2
            have HFI2 := Aside0.mk ((show M - jj = (M - (jj + 1)) + 1 by omega) ▸ HFI.out)
            clear HFI
            have qx0 := HW2.out.1.qX0
            have qx1 := HW2.out.1.qX1
            have qx2 := HW2.out.1.qX2
            clear qx0
            go_wp2
            have HL_ := Aside0.mk HW2.out.drew
            refine start_ (n := 12) (S := fun w' => w'.cell? ⟨gX, 1, none⟩ = some (.int .i64 (lenF s)) ∧ w'.cell? ⟨gX, 2, none⟩ = some (.int .i64 (ordF s))) (ds := [11]) #[false, false, false, false, false, false, false, false, false, false, false, false] (by kernel_rfl) rfl rfl ⟨qx1, qx2⟩ (fun hHeld => ?_)
            refine pure_ (i := 0) (N := some 49) (v := ?_) (a' := ?_) (HS.pre 12 1) rfl rfl (by kernel_rfl) (fun _ _ _ h => h) (Or.inl ⟨by rfl, ?_⟩) ?_ ?_
            rotate_left
            · intro w'
              go_simp
              with_reducible rfl
            rotate_left
            · simp only [Act.put, List.setIfInBounds_toArray, List.set_cons_zero, List.set_cons_succ, i64_w, i32_w]
              rfl
            refine pure_ (i := 1) (N := some 50) (v := ?_) (a' := ?_) (HS.pre 12 2) rfl rfl (by kernel_rfl) (fun _ _ _ h => h) (Or.inl ⟨by rfl, ?_⟩) ?_ ?_
            rotate_left
            · intro w'
              go_simp
              with_reducible rfl
            rotate_left
            · simp only [Act.put, List.setIfInBounds_toArray, List.set_cons_zero, List.set_cons_succ, i64_w, i32_w]
              rfl
            refine pure_ (i := 2) (N := some 51) (v := ?_) (a' := ?_) (HS.pre 12 3) rfl rfl (by kernel_rfl) (fun _ _ _ h => h) (Or.inl ⟨by rfl, ?_⟩) ?_ ?_
            rotate_left
            · intro w'
              go_simp
              with_reducible rfl
            rotate_left
            · simp only [Act.put, List.setIfInBounds_toArray, List.set_cons_zero, List.set_cons_succ, i64_w, i32_w]
              rfl
            refine pure_ (i := 5) (N := some 54) (v := ?_) (a' := ?_) #[true, true, true, false, false, true, false, false, false, false, false, false] rfl rfl (by kernel_rfl) (fun _ _ _ h => h) (Or.inl ⟨by rfl, ?_⟩) ?_ ?_
            rotate_left
            · intro w'
              go_simp
              with_reducible rfl
            rotate_left
            · simp only [Act.put, List.setIfInBounds_toArray, List.set_cons_zero, List.set_cons_succ, i64_w, i32_w]
              rfl
            refine pure_ (i := 6) (N := some 55) (v := ?_) (a' := ?_) #[true, true, true, false, false, true, true, false, false, false, false, false] rfl rfl (by kernel_rfl) (fun _ _ _ h => h) (Or.inl ⟨by rfl, ?_⟩) ?_ ?_
            rotate_left
            · intro w'
              go_simp
              with_reducible rfl
            rotate_left
            · simp only [Act.put, List.setIfInBounds_toArray, List.set_cons_zero, List.set_cons_succ, i64_w, i32_w]
              rfl
            refine take_ (i := 3) (N := some 52) (v := ?_) (a' := ?_) #[true, true, true, true, false, true, true, false, false, false, false, false] rfl rfl (by kernel_rfl) (fun _ _ _ h => h) (Or.inl ⟨by rfl, ?_⟩) hHeld ?_ ?_
            rotate_left
            · rintro w' ⟨s0, s1⟩
              go_simp
              with_reducible rfl
            rotate_left
            · simp only [Act.put, List.setIfInBounds_toArray, List.set_cons_zero, List.set_cons_succ, i64_w, i32_w]
              rfl
            refine take_ (i := 7) (N := some 56) (v := ?_) (a' := ?_) #[true, true, true, true, false, true, true, true, false, false, false, false] rfl rfl (by kernel_rfl) (fun _ _ _ h => h) (Or.inl ⟨by rfl, ?_⟩) hHeld ?_ ?_
            rotate_left
            · rintro w' ⟨s0, s1⟩
              go_simp
              with_reducible rfl
            rotate_left
            · simp only [Act.put, List.setIfInBounds_toArray, List.set_cons_zero, List.set_cons_succ, i64_w, i32_w]
              rfl
            refine join_ (σ := Nat) 1 (HS.pre 12 11) (fun g => [(53, .int .i64 av), (57, .int .i64 ov), (58, .agg #[.int .i64 av, .int .i64 ov, .bool false, .bool fine, .slice none 0 0]), (16, .pointer (some ⟨g, 0, none⟩))]) (fun g w' => LW w gB gM gE gX A0 c0 b s NB N2 vl ls vw ws w' nx2 e2 ∧ w'.heap[g]? = some (.cells #[.int .i64 0, .int .i64 0, .bool false, .bool false, .slice none 0 0] 38 (0, 0)) ∧ okT gB gM gE gX g ∧ N2 ≤ g) ?_ ?_
            rotate_left
            · intro hCont
              refine two_ (i := 4) (j := 10) (Ni := some 53) (Nj := some 16) (HS.pre 12 8) #[true, true, true, true, false, true, true, true, false, false, true, false] rfl rfl rfl rfl (by kernel_rfl) (by decide) (by decide) (fun K hK => ?_) (fun K hK => ?_)
              · skip
                refine goesV_ Try.func27 (by kernel_rfl) rfl #[.int .i64 (lenF s)] #[.pointer (some ⟨gE, 0, none⟩), .pointer (some ⟨gB, 0, none⟩), .pointer (some ⟨gM, 0, none⟩)] (by rfl) rfl rfl rfl (by simp only [List.map_toArray, List.map_cons, List.map_nil]; rfl) ?_
                refine (HGET.out _ nx e (lenF s) av nx1 e1 HA.out HL_.out.1).mono ?_
                rintro e3 w_4 ⟨rfl, hG, hst⟩
                have HL_4_ := Aside0.mk (HL_.out.stay hG hst)
                refine ⟨_, rfl, ?_⟩
                refine hK.out _ _ ⟨hG.qX1, hG.qX2⟩ (fun hHeld => ?_)
                clear hK K
                refine norm_ (a' := ?_) ?_ ?_
                rotate_left
                · show Act.put _ (some 53) _ = _
                  simp only [Act.put, List.setIfInBounds_toArray, List.set_cons_zero, List.set_cons_succ, i64_w, i32_w]
                  rfl
                refine two_ (i := 8) (j := 10) (Ni := some 57) (Nj := some 16) (HS.pre 12 9) #[true, true, true, true, true, true, true, true, false, false, true, false] rfl rfl rfl rfl (by kernel_rfl) (by decide) (by decide) (fun K hK => ?_) (fun K hK => ?_)
                · skip
                  refine goesV_ Try.func27 (by kernel_rfl) rfl #[.int .i64 (ordF s)] #[.pointer (some ⟨gE, 0, none⟩), .pointer (some ⟨gB, 0, none⟩), .pointer (some ⟨gM, 0, none⟩)] (by rfl) rfl rfl rfl (by simp only [List.map_toArray, List.map_cons, List.map_nil]; rfl) ?_
                  refine (HGET.out _ nx1 e1 (ordF s) ov nx2 e2 HO.out HL_4_.out.1).mono ?_
                  rintro e3 w_4_8 ⟨rfl, hG, hst⟩
                  have HL_4_8_ := Aside0.mk (HL_4_.out.stay hG hst)
                  refine ⟨_, rfl, ?_⟩
                  refine hK.out _ _ ⟨hG.qX1, hG.qX2⟩ (fun hHeld => ?_)
                  clear hK K
                  refine norm_ (a' := ?_) ?_ ?_
                  rotate_left
                  · show Act.put _ (some 57) _ = _
                    simp only [Act.put, List.setIfInBounds_toArray, List.set_cons_zero, List.set_cons_succ, i64_w, i32_w]
                    rfl
                  refine pure_ (i := 9) (N := some 58) (v := ?_) (a' := ?_) (HS.pre 12 10) rfl rfl (by kernel_rfl) (fun _ _ _ h => h) (Or.inl ⟨by rfl, ?_⟩) ?_ ?_
                  rotate_left
                  · intro w'
                    go_simp
                    with_reducible rfl
                  rotate_left
                  · simp only [Act.put, List.setIfInBounds_toArray, List.set_cons_zero, List.set_cons_succ, i64_w, i32_w]
                    rfl
                  refine one_ (i := 10) (N := some 16) (HS.pre 12 11) rfl rfl (by kernel_rfl) (by decide) (fun K hK => ?_)
                  refine value_ (w1 := ?_) (v := ?_) (by rfl) rfl ?_ ?_
                  rotate_left 2
                  · go_simp
                    constructor
                    · rfl
                    · rfl
                  have HL_4_8_10_ := Aside0.mk (HL_4_8_.out.alloc (.cells #[.int .i64 0, .int .i64 0, .bool false, .bool false, .slice none 0 0] 38))
                  have gb := Aside0.mk (blk_new w_4_8 (.cells #[.int .i64 0, .int .i64 0, .bool false, .bool false, .slice none 0 0] 38))
                  have gok := Aside0.mk HL_4_8_.out.fresh
                  have gN : Aside0 (N2 ≤ w_4_8.heap.size) := ⟨HL_4_8_.out.2.2.2.2.2⟩
                  refine hK.out _ _ ⟨HL_4_8_10_.out.1.qX1, HL_4_8_10_.out.1.qX2⟩ (fun hHeld => ?_)
                  clear hK K
                  refine norm_ (a' := ?_) ?_ ?_
                  rotate_left
                  · show Act.put _ (some 16) _ = _
                    simp only [Act.put, List.setIfInBounds_toArray, List.set_cons_zero, List.set_cons_succ, i64_w, i32_w]
                    rfl
                  exact norm_ (by simp only [putAll, Act.put, List.setIfInBounds_toArray, List.set_cons_zero, List.set_cons_succ]) (hCont w_4_8.heap.size _ ⟨HL_4_8_10_.out, gb.out, gok.out, gN.out⟩)
                · skip
                  refine value_ (w1 := ?_) (v := ?_) (by rfl) rfl ?_ ?_
                  rotate_left 2
                  · go_simp
                    constructor
                    · rfl
                    · rfl
                  have HL_4_10_ := Aside0.mk (HL_4_.out.alloc (.cells #[.int .i64 0, .int .i64 0, .bool false, .bool false, .slice none 0 0] 38))
                  have gb := Aside0.mk (blk_new w_4 (.cells #[.int .i64 0, .int .i64 0, .bool false, .bool false, .slice none 0 0] 38))
                  have gok := Aside0.mk HL_4_.out.fresh
                  have gN : Aside0 (N2 ≤ w_4.heap.size) := ⟨HL_4_.out.2.2.2.2.2⟩
                  refine hK.out _ _ ⟨HL_4_10_.out.1.qX1, HL_4_10_.out.1.qX2⟩ (fun hHeld => ?_)
                  clear hK K
                  refine norm_ (a' := ?_) ?_ ?_
                  rotate_left
                  · show Act.put _ (some 16) _ = _
                    simp only [Act.put, List.setIfInBounds_toArray, List.set_cons_zero, List.set_cons_succ, i64_w, i32_w]
                    rfl
                  refine one_ (i := 8) (N := some 57) #[true, true, true, true, true, true, true, true, true, false, true, false] rfl rfl (by kernel_rfl) (by decide) (fun K hK => ?_)
                  refine goesV_ Try.func27 (by kernel_rfl) rfl #[.int .i64 (ordF s)] #[.pointer (some ⟨gE, 0, none⟩), .pointer (some ⟨gB, 0, none⟩), .pointer (some ⟨gM, 0, none⟩)] (by rfl) rfl rfl rfl (by simp only [List.map_toArray, List.map_cons, List.map_nil]; rfl) ?_
                  refine (HGET.out _ nx1 e1 (ordF s) ov nx2 e2 HO.out HL_4_10_.out.1).mono ?_
                  rintro e3 w_4_10_8 ⟨rfl, hG, hst⟩
                  have HL_4_10_8_ := Aside0.mk (HL_4_10_.out.stay hG hst)
                  replace gb := Aside0.mk ((hst.2 _ gok.out.2.1 gok.out.2.2.1).trans gb.out)
                  refine ⟨_, rfl, ?_⟩
                  refine hK.out _ _ ⟨hG.qX1, hG.qX2⟩ (fun hHeld => ?_)
                  clear hK K
                  refine norm_ (a' := ?_) ?_ ?_
                  rotate_left
                  · show Act.put _ (some 57) _ = _
                    simp only [Act.put, List.setIfInBounds_toArray, List.set_cons_zero, List.set_cons_succ, i64_w, i32_w]
                    rfl
                  refine pure_ (i := 9) (N := some 58) (v := ?_) (a' := ?_) (HS.pre 12 11) rfl rfl (by kernel_rfl) (fun _ _ _ h => h) (Or.inl ⟨by rfl, ?_⟩) ?_ ?_
                  rotate_left
                  · intro w'
                    go_simp
                    with_reducible rfl
                  rotate_left
                  · simp only [Act.put, List.setIfInBounds_toArray, List.set_cons_zero, List.set_cons_succ, i64_w, i32_w]
                    rfl
                  exact norm_ (by simp only [putAll, Act.put, List.setIfInBounds_toArray, List.set_cons_zero, List.set_cons_succ]) (hCont w_4.heap.size _ ⟨HL_4_10_8_.out, gb.out, gok.out, gN.out⟩)
              · skip
                refine value_ (w1 := ?_) (v := ?_) (by rfl) rfl ?_ ?_
                rotate_left 2
                · go_simp
                  constructor
                  · rfl
                  · rfl
                have HL_10_ := Aside0.mk (HL_.out.alloc (.cells #[.int .i64 0, .int .i64 0, .bool false, .bool false, .slice none 0 0] 38))
                have gb := Aside0.mk (blk_new wr.drew (.cells #[.int .i64 0, .int .i64 0, .bool false, .bool false, .slice none 0 0] 38))
                have gok := Aside0.mk HL_.out.fresh
                have gN : Aside0 (N2 ≤ wr.drew.heap.size) := ⟨HL_.out.2.2.2.2.2⟩
                refine hK.out _ _ ⟨HL_10_.out.1.qX1, HL_10_.out.1.qX2⟩ (fun hHeld => ?_)
                clear hK K
                refine norm_ (a' := ?_) ?_ ?_
                rotate_left
                · show Act.put _ (some 16) _ = _
                  simp only [Act.put, List.setIfInBounds_toArray, List.set_cons_zero, List.set_cons_succ, i64_w, i32_w]
                  rfl
                refine one_ (i := 4) (N := some 53) #[true, true, true, true, true, true, true, true, false, false, true, false] rfl rfl (by kernel_rfl) (by decide) (fun K hK => ?_)
                refine goesV_ Try.func27 (by kernel_rfl) rfl #[.int .i64 (lenF s)] #[.pointer (some ⟨gE, 0, none⟩), .pointer (some ⟨gB, 0, none⟩), .pointer (some ⟨gM, 0, none⟩)] (by rfl) rfl rfl rfl (by simp only [List.map_toArray, List.map_cons, List.map_nil]; rfl) ?_
                refine (HGET.out _ nx e (lenF s) av nx1 e1 HA.out HL_10_.out.1).mono ?_
                rintro e3 w_10_4 ⟨rfl, hG, hst⟩
                have HL_10_4_ := Aside0.mk (HL_10_.out.stay hG hst)
                replace gb := Aside0.mk ((hst.2 _ gok.out.2.1 gok.out.2.2.1).trans gb.out)
                refine ⟨_, rfl, ?_⟩
                refine hK.out _ _ ⟨hG.qX1, hG.qX2⟩ (fun hHeld => ?_)
                clear hK K
                refine norm_ (a' := ?_) ?_ ?_
                rotate_left
                · show Act.put _ (some 53) _ = _
                  simp only [Act.put, List.setIfInBounds_toArray, List.set_cons_zero, List.set_cons_succ, i64_w, i32_w]
                  rfl
                refine one_ (i := 8) (N := some 57) #[true, true, true, true, true, true, true, true, true, false, true, false] rfl rfl (by kernel_rfl) (by decide) (fun K hK => ?_)
                refine goesV_ Try.func27 (by kernel_rfl) rfl #[.int .i64 (ordF s)] #[.pointer (some ⟨gE, 0, none⟩), .pointer (some ⟨gB, 0, none⟩), .pointer (some ⟨gM, 0, none⟩)] (by rfl) rfl rfl rfl (by simp only [List.map_toArray, List.map_cons, List.map_nil]; rfl) ?_
                refine (HGET.out _ nx1 e1 (ordF s) ov nx2 e2 HO.out HL_10_4_.out.1).mono ?_
                rintro e3 w_10_4_8 ⟨rfl, hG, hst⟩
                have HL_10_4_8_ := Aside0.mk (HL_10_4_.out.stay hG hst)
                replace gb := Aside0.mk ((hst.2 _ gok.out.2.1 gok.out.2.2.1).trans gb.out)
                refine ⟨_, rfl, ?_⟩
                refine hK.out _ _ ⟨hG.qX1, hG.qX2⟩ (fun hHeld => ?_)
                clear hK K
                refine norm_ (a' := ?_) ?_ ?_
                rotate_left
                · show Act.put _ (some 57) _ = _
                  simp only [Act.put, List.setIfInBounds_toArray, List.set_cons_zero, List.set_cons_succ, i64_w, i32_w]
                  rfl
                refine pure_ (i := 9) (N := some 58) (v := ?_) (a' := ?_) (HS.pre 12 11) rfl rfl (by kernel_rfl) (fun _ _ _ h => h) (Or.inl ⟨by rfl, ?_⟩) ?_ ?_
                rotate_left
                · intro w'
                  go_simp
                  with_reducible rfl
                rotate_left
                · simp only [Act.put, List.setIfInBounds_toArray, List.set_cons_zero, List.set_cons_succ, i64_w, i32_w]
                  rfl
                exact norm_ (by simp only [putAll, Act.put, List.setIfInBounds_toArray, List.set_cons_zero, List.set_cons_succ]) (hCont wr.heap.size _ ⟨HL_10_4_8_.out, gb.out, gok.out, gN.out⟩)
            rintro g wj ⟨hLW, hgb, hgok, hgN⟩
            have HLW := Aside0.mk hLW
            have HGB := Aside0.mk hgb
            have HGO := Aside0.mk hgok
            have HGN := Aside0.mk hgN
            have qg0 := (blk_cell hgb 0).trans rfl
            have qg1 := (blk_cell hgb 1).trans rfl
            have qg2 := (blk_cell hgb 2).trans rfl
            have qg3 := (blk_cell hgb 3).trans rfl
            have qg4 := (blk_cell hgb 4).trans rfl
            have fg0 := blk_frozen hgb 0
            have fg1 := blk_frozen hgb 1
            have fg2 := blk_frozen hgb 2
            have fg3 := blk_frozen hgb 3
            have fg4 := blk_frozen hgb 4
            have hHeld := And.intro hLW.1.qX1 hLW.1.qX2
            clear hLW hgb hgok hgN
            refine norm_ (a' := ?_) ?_ ?_
            rotate_left
            · simp only [putAll, Act.put, List.setIfInBounds_toArray, List.set_cons_zero, List.set_cons_succ]
              rfl
            refine last_ (i := 11) (N := none) (HS.pre 12 12) rfl rfl (by kernel_rfl) (by decide) (fun K hK => ?_)
            refine skip_ (w1 := ?_) (by rfl) rfl ?_ ?_
            rotate_left
            · go_simp
              rfl
            refine hK.out _ _ ?_
            clear hK K
            refine done_ (by kernel_rfl) ?_
            have h5 := LW.far5 (v0 := .int .i64 av) (v1 := .int .i64 ov) (v2 := .bool false) (v3 := .bool fine) (v4 := .slice none 0 0) HLW.out HGO.out HGN.out HGB.out
            have HC := Aside0.mk (h5.1.toC h5.2 HGO.out HGN.out)
            clear h5 hHeld HL_ HLW HGB HGO HGN HW2 HN2 qx1 qx2 qg0 fg0 qg1 fg1 qg2 fg2 qg3 fg3 qg4 fg4
            generalize (((((wj.setCell ⟨g, 0, none⟩ (.int .i64 av)).setCell ⟨g, 1, none⟩ (.int .i64 ov)).setCell ⟨g, 2, none⟩ (.bool false)).setCell ⟨g, 3, none⟩ (.bool fine)).setCell ⟨g, 4, none⟩ (.slice none 0 0)) = wf at HC ⊢
            generalize wf.heap.size = N3 at HC
            have qg0 : wf.cell? ⟨g, 0, none⟩ = some (.int .i64 av) := (HC.out.q 0).trans rfl
            have qg1 : wf.cell? ⟨g, 1, none⟩ = some (.int .i64 ov) := (HC.out.q 1).trans rfl
            have qg2 : wf.cell? ⟨g, 2, none⟩ = some (.bool false) := (HC.out.q 2).trans rfl
            have qg3 : wf.cell? ⟨g, 3, none⟩ = some (.bool fine) := (HC.out.q 3).trans rfl
            have qg4 : wf.cell? ⟨g, 4, none⟩ = some (.slice none 0 0) := (HC.out.q 4).trans rfl
            have qE := HC.out.1.1.qE
            have fE := HC.out.1.1.fE
            have qM := HC.out.1.1.qM
            have fM := HC.out.1.1.fM
            by_cases h12 : 12 < ov
            case pos =>
              obtain rfl : e2 = 0 := HOE.out (by omega)
              have b12 : decide (12 < ov) = true := decide_eq_true h12
              obtain rfl : RF = none := HFI2.out.symm.trans (getFilts_bad HA.out HO.out h12)
              obtain rfl : RES = none := HWI3.out.symm
              obtain ⟨rfl, rfl, rfl⟩ : R1 = [] ∧ R2 = 0 ∧ R3 = 8 := by have := HRR2.out; simpa [getEnd] using this
              clear h12 HA0 HA1 HO0 HO1
              go_wp2
              refine get_fin (M := gM) (E := gE) (nx := 0) (e := 8) ((blk_cell (blk_far (blk_put HC.out.1.1.2.2.2.1 0 _ rfl) NE_gM_gE.out _) 0).trans rfl) ((blk_cell (blk_put (blk_far HC.out.1.1.2.2.2.2.1 (Ne.symm NE_gM_gE.out) _) 0 _ rfl) 0).trans rfl) rfl rfl rfl rfl ?_
              exact ⟨_, rfl, Kd.R_nil _ _ _ _ _, below_set (below_set HC.out.1.1.2.1 HG_gM.out) HG_gE.out⟩
            have b12 : decide (12 < ov) = false := decide_eq_false h12
            have HFI3 := Aside0.mk ((getFilts_succ HA.out HO.out h12).symm.trans HFI2.out)
            have hov : ov ≤ 12 := by omega
            clear h12 HFI2 HA HO HA0 HA1 HO1 qM fM fE
            by_cases hov0 : ov = 0
            case pos =>
              subst hov0
              have HFI4 : Aside0 (getFilts b s fine (M - (jj + 1)) (ws ++ [⟨av, 0, false, fine, []⟩]) od (nx2, e2) = RF) := ⟨by have := HFI3.out; rw [getTail_zero] at this; simpa using this⟩
              clear HFI3 b12
              go_wp2_with (first | ((with_reducible refine gate_builtin (b := .append) (xs := #[.tmp 112, .tmp 114]) rfl ?_); at_builtin; refine LC.appW (f := ⟨av, 0, false, fine, []⟩) HC.out rfl (by have := HWS.out; omega) rfl (.tmp 112) (.tmp 114) rfl rfl rfl ?_; intro v1 w1 hLW; have HW3 := Aside0.mk hLW; clear hLW))
              go_roundg (M - (jj + 1))
              case measure => omega
              case rel => exact ⟨jj + 1, _, _, _, od, nx2, e2, by omega, by omega, rfl, rfl, rfl, by first | go_num | (congr 1; unfold wrap64; omega), HW3, HFI4, ⟨by rw [List.length_append, List.length_singleton]; have := HWS.out; omega⟩⟩
            have hov1 : 0 < ov := by omega
            have bo : decide (0 < ov) = true := decide_eq_true hov1
            obtain ⟨dv, nx3, e3, hHD⟩ : ∃ n_ x_ e_, SG.getN b (nx2, e2) (1) = (n_, x_, e_) := ⟨_, _, _, rfl⟩
            have HD := Aside0.mk hHD
            obtain ⟨HD0, HD2, HD1, HDe⟩ := getN_rng HB01.out (by decide) (by decide) hHD
            have HDE := Aside0.mk HDe
            have HDP := Aside0.mk HD2
            clear hHD HDe HD2
            obtain ⟨nv, nx4, e4, hHNW⟩ : ∃ n_ x_ e_, SG.getN b (nx3, e3) (1) = (n_, x_, e_) := ⟨_, _, _, rfl⟩
            have HNW := Aside0.mk hHNW
            obtain ⟨HNW0, HNW2, HNW1, HNWe⟩ := getN_rng HB01.out (by decide) (by decide) hHNW
            have HNWE := Aside0.mk HNWe
            have HNWP := Aside0.mk HNW2
            clear hHNW HNWe HNW2
            have hnv : nv ≤ 1 := by have := HNWP.out; simp at this; omega
            obtain ⟨sz, hsz⟩ : ∃ x, x = wideS fine - nv := ⟨_, rfl⟩
            have hwr := wideS_rng fine
            have hz2 : 2 ≤ sz := by omega
            have hz4 : sz ≤ 4 := by omega
            have HWF : Aside0 (tnsbits_wide.f fine = some (sz + nv)) := ⟨by rw [wide_f]; congr 1; omega⟩
            have HSZ := Aside0.mk hsz
            have HOV0 := Aside0.mk hov0
            clear hsz hwr hov0
            obtain ⟨O, rfl⟩ := Int.eq_ofNat_of_zero_le HO0
            obtain ⟨RC, hRC⟩ : ∃ r, r = getCoefs b sz O [] (nx4, e4) := ⟨_, rfl⟩
            have HRC := Aside0.mk hRC.symm
            have HRCX := Aside0.mk hRC.symm
            clear hRC
            obtain ⟨dn, hdn⟩ : ∃ x, (dv == 1) = x := ⟨_, rfl⟩
            have HDN := Aside0.mk hdn
            have fg2 := HC.out.f 2
            have HCg := Aside0.mk HC.out.1.1
            go_wp2_with (first | (go_at_call 27; (with_reducible refine (HGET.out _ (nx2) (e2) (1) (dv) (nx3) (e3) HD.out HCg.out).mono ?_); rintro e' W_HD ⟨rfl, hG, hst⟩; have HC1 := Aside0.mk (HC.out.stay hG hst); clear qg0 qg1 qg2 qg3 qg4; clear fg2 qE; have qg0 : W_HD.cell? ⟨g, 0, none⟩ = some (.int .i64 av) := (HC1.out.q 0).trans rfl; have qg1 : W_HD.cell? ⟨g, 1, none⟩ = some (.int .i64 (O : Int)) := (HC1.out.q 1).trans rfl; have qg2 : W_HD.cell? ⟨g, 2, none⟩ = some (.bool false) := (HC1.out.q 2).trans rfl; have qg3 : W_HD.cell? ⟨g, 3, none⟩ = some (.bool fine) := (HC1.out.q 3).trans rfl; have qg4 : W_HD.cell? ⟨g, 4, none⟩ = some (.slice none 0 0) := (HC1.out.q 4).trans rfl; have fg2 := HC1.out.f 2; have HC2g := Aside0.mk (HC1.out.put (j := 2) (u := .bool dn) (d0 := .int .i64 av) (d1 := .int .i64 (O : Int)) (d2 := .bool dn) (d3 := .bool fine) (db := .slice none 0 0) rfl).1.1; have HC2 := Aside0.mk (HC1.out.put (j := 2) (u := .bool dn) (d0 := .int .i64 av) (d1 := .int .i64 (O : Int)) (d2 := .bool dn) (d3 := .bool fine) (db := .slice none 0 0) rfl); clear hG hst) | (go_at_call 27; (with_reducible refine (HGET.out _ (nx3) (e3) (1) (nv) (nx4) (e4) HNW.out HC2g.out).mono ?_); rintro e' W_HNW ⟨rfl, hG, hst⟩; have HC3 := Aside0.mk (HC2.out.stay hG hst); clear qg0 qg1 qg2 qg3 qg4; clear fg2; have qg0 : W_HNW.cell? ⟨g, 0, none⟩ = some (.int .i64 av) := (HC3.out.q 0).trans rfl; have qg1 : W_HNW.cell? ⟨g, 1, none⟩ = some (.int .i64 (O : Int)) := (HC3.out.q 1).trans rfl; have qg2 : W_HNW.cell? ⟨g, 2, none⟩ = some (.bool dn) := (HC3.out.q 2).trans rfl; have qg3 : W_HNW.cell? ⟨g, 3, none⟩ = some (.bool fine) := (HC3.out.q 3).trans rfl; have qg4 : W_HNW.cell? ⟨g, 4, none⟩ = some (.slice none 0 0) := (HC3.out.q 4).trans rfl; clear hG hst) | (go_at_call 25; (with_reducible refine (tnsbits_wide.calls fine (sz + nv) _ HWF.out).mono ?_); rintro e' w' ⟨rfl, ⟨nd, rfl⟩⟩))
            have HC4 := Aside0.mk (HC3.out.drewN nd)
            skip
            clear HC HC1 HC2 HC3 bo b12 hdn HDE HDP HD0 HD1 HNWE HNWP qg0 qg1 qg2 qg3 qg4
            go_loopg [81] O (fun gg s81 wr => ∃ ii vc cs nx e, ii ≤ O ∧ O - ii ≤ gg ∧ s81 = .int .i64 (ii : Nat) ∧ Aside0 (LC w gB gM gE gX A0 c0 b s NB N2 N3 g vl ls vw ws (.int .i64 av) (.int .i64 (O : Int)) (.bool dn) (.bool fine) vc vc cs wr nx e) ∧ Aside0 (getCoefs b sz (O - ii) cs (nx, e) = RC) ∧ Aside0 (cs.length ≤ ii))
            case atStart => exact ⟨0, _, [], nx4, e4, Nat.zero_le _, by omega, rfl, HC4, HRC, ⟨Nat.le_refl _⟩⟩
            case round =>
              clear HC4 HRC
              obtain ⟨ii, vc, cs, nx, e, hii, hgi, rfl, HC, HRC, HCS⟩ := hrel
              by_cases hlt3 : ii < O
              · have hltz3 : (ii : Int) < (O : Int) := by omega
                obtain ⟨n, nx5, e5, hHN⟩ : ∃ n_ x_ e_, SG.getN b (nx, e) (sz) = (n_, x_, e_) := ⟨_, _, _, rfl⟩
                have HN := Aside0.mk hHN
                obtain ⟨HN0, HN2, HN1, HNe⟩ := getN_rng HB01.out (by omega) (by omega) hHN
                have HNE := Aside0.mk HNe
                have HNP := Aside0.mk HN2
                clear hHN HNe HN2
                have HRC2 : Aside0 (getCoefs b sz (O - (ii + 1)) (cs ++ [sgn n sz]) (nx5, e5) = RC) := ⟨by have := HRC.out; rw [show O - ii = (O - (ii + 1)) + 1 by omega] at this; simpa only [getCoefs, HN.out] using this⟩
                clear HRC
                obtain ⟨hs0, hs1, hs2, hs3⟩ := sgn_wrap hz2 hz4 HN0 HN1
                have HS2 := Aside0.mk hs2
                have HS3 := Aside0.mk hs3
                clear hs2 hs3
                have HCg := Aside0.mk HC.out.1.1
                go_wp2_with (first | (go_at_call 27; (with_reducible refine (HGET.out _ (nx) (e) (sz) (n) (nx5) (e5) HN.out HCg.out).mono ?_); rintro e' W_HN ⟨rfl, hG, hst⟩; have HC1 := Aside0.mk (HC.out.stay hG hst); clear hG hst))
                have qg4 : W_HN.cell? ⟨g, 4, none⟩ = some vc := (HC1.out.q 4).trans rfl
                have fg4 := HC1.out.f 4
                have hw1 : IntKind.i64.wrap (sz - 1) = sz - 1 := by rw [IntKind.wrap_i64]; omega
                have hz1 : 0 ≤ sz - 1 := by omega
                have hz64 : sz - 1 ≤ 64 := by omega
                have hz0 : 0 ≤ sz := by omega
                have hz65 : sz ≤ 64 := by omega
                have hs4 := sgn_wrap64 hz2 hz4 HN0 HN1
                skip
                have HCd := Aside0.mk (HC1.out.below (below_drew (Below.refl _ _)))
                obtain ⟨cs1, hcs1⟩ : ∃ l, l = cs ++ [sgn n sz] := ⟨_, rfl⟩
                have HCS1 := Aside0.mk hcs1
                rw [← hcs1] at HRC2
                clear hcs1
                refine start_ (n := 14) (S := fun w' => w'.cell? ⟨g, 4, none⟩ = some vc ∧ w'.frozen? ⟨g, 4, none⟩ = false) (ds := [13]) #[false, false, false, false, false, false, false, false, false, false, false, false, false, false] (by kernel_rfl) rfl rfl ⟨qg4, fg4⟩ (fun hHeld => ?_)
                refine pure_ (i := 0) (N := some 86) (v := ?_) (a' := ?_) (HS.pre 14 1) rfl rfl (by kernel_rfl) (fun _ _ _ h => h) (Or.inl ⟨by rfl, ?_⟩) ?_ ?_
                rotate_left
                · intro w'
                  go_simp
                  with_reducible rfl
                rotate_left
                · simp only [Act.put, List.setIfInBounds_toArray, List.set_cons_zero, List.set_cons_succ, i64_w, i32_w]
                  rfl
                refine pure_ (i := 2) (N := some 88) (v := ?_) (a' := ?_) #[true, false, true, false, false, false, false, false, false, false, false, false, false, false] rfl rfl (by kernel_rfl) (fun _ _ _ h => h) (Or.inl ⟨by rfl, ?_⟩) ?_ ?_
                rotate_left
                · intro w'
                  go_simp
                  with_reducible rfl
                rotate_left
                · simp only [Act.put, List.setIfInBounds_toArray, List.set_cons_zero, List.set_cons_succ, i64_w, i32_w]
                  rfl
                refine pure_ (i := 3) (N := some 89) (v := ?_) (a' := ?_) #[true, false, true, true, false, false, false, false, false, false, false, false, false, false] rfl rfl (by kernel_rfl) (fun _ _ _ h => h) (Or.inl ⟨by rfl, ?_⟩) ?_ ?_
                rotate_left
                · intro w'
                  go_simp
                  with_reducible rfl
                rotate_left
                · simp only [Act.put, List.setIfInBounds_toArray, List.set_cons_zero, List.set_cons_succ, i64_w, i32_w]
                  rfl
                refine pure_ (i := 4) (N := some 90) (v := ?_) (a' := ?_) #[true, false, true, true, true, false, false, false, false, false, false, false, false, false] rfl rfl (by kernel_rfl) (fun _ _ _ h => h) (Or.inl ⟨by rfl, ?_⟩) ?_ ?_
                rotate_left
                · intro w'
                  go_simp
                  with_reducible rfl
                rotate_left
                · simp only [Act.put, List.setIfInBounds_toArray, List.set_cons_zero, List.set_cons_succ, i64_w, i32_w]
                  rfl
                refine pure_ (i := 5) (N := some 91) (v := ?_) (a' := ?_) #[true, false, true, true, true, true, false, false, false, false, false, false, false, false] rfl rfl (by kernel_rfl) (fun _ _ _ h => h) (Or.inl ⟨by rfl, ?_⟩) ?_ ?_
                rotate_left
                · intro w'
                  go_simp
                  with_reducible rfl
                rotate_left
                · simp only [Act.put, List.setIfInBounds_toArray, List.set_cons_zero, List.set_cons_succ, i64_w, i32_w]
                  rfl
                refine pure_ (i := 6) (N := some 92) (v := ?_) (a' := ?_) #[true, false, true, true, true, true, true, false, false, false, false, false, false, false] rfl rfl (by kernel_rfl) (fun _ _ _ h => h) (Or.inl ⟨by rfl, ?_⟩) ?_ ?_
                rotate_left
                · intro w'
                  go_simp
                  with_reducible rfl
                rotate_left
                · simp only [Act.put, List.setIfInBounds_toArray, List.set_cons_zero, List.set_cons_succ, i64_w, i32_w]
                  rfl
                refine pure_ (i := 7) (N := some 93) (v := ?_) (a' := ?_) #[true, false, true, true, true, true, true, true, false, false, false, false, false, false] rfl rfl (by kernel_rfl) (fun _ _ _ h => h) (Or.inl ⟨by rfl, ?_⟩) ?_ ?_
                rotate_left
                · intro w'
                  go_simp
                  with_reducible rfl
                rotate_left
                · simp only [Act.put, List.setIfInBounds_toArray, List.set_cons_zero, List.set_cons_succ, i64_w, i32_w]
                  rfl
                refine pure_ (i := 8) (N := some 94) (v := ?_) (a' := ?_) #[true, false, true, true, true, true, true, true, true, false, false, false, false, false] rfl rfl (by kernel_rfl) (fun _ _ _ h => h) (Or.inl ⟨by rfl, ?_⟩) ?_ ?_
                rotate_left
                · intro w'
                  go_simp
                  with_reducible rfl
                rotate_left
                · simp only [Act.put, List.setIfInBounds_toArray, List.set_cons_zero, List.set_cons_succ, i64_w, i32_w]
                  rfl
                refine pure_ (i := 9) (N := some 95) (v := ?_) (a' := ?_) #[true, false, true, true, true, true, true, true, true, true, false, false, false, false] rfl rfl (by kernel_rfl) (fun _ _ _ h => h) (Or.inl ⟨by rfl, ?_⟩) ?_ ?_
                rotate_left
                · intro w'
                  go_simp
                  with_reducible rfl
                rotate_left
                · simp only [Act.put, List.setIfInBounds_toArray, List.set_cons_zero, List.set_cons_succ, i64_w, i32_w]
                  rfl
                refine take_ (i := 1) (N := some 87) (v := ?_) (a' := ?_) (HS.pre 14 10) rfl rfl (by kernel_rfl) (fun _ _ _ h => h) (Or.inl ⟨by rfl, ?_⟩) hHeld ?_ ?_
                rotate_left
                · rintro w' ⟨s0, s1⟩
                  go_simp
                  with_reducible rfl
                rotate_left
                · simp only [Act.put, List.setIfInBounds_toArray, List.set_cons_zero, List.set_cons_succ, i64_w, i32_w]
                  rfl
                refine one_ (i := 10) (N := some 96) (HS.pre 14 11) rfl rfl (by kernel_rfl) (by decide) (fun K hK => ?_)
                refine value_ (w1 := ?_) (v := ?_) (by rfl) rfl ?_ ?_
                rotate_left 2
                · go_simp
                  constructor
                  · rfl
                  · rfl
                show K _ (W_HN.drew.alloc (.cells #[.int .i64 (sgn n sz)] 3))
                refine hK.out _ _ ⟨pw_cell_below (below_alloc (Below.refl _ _) _) hHeld.1, ((below_alloc (Below.refl _ _) _).frozen (p := ⟨g, 4, none⟩) (World.block_lt_of_cell? _ _ hHeld.1)).trans hHeld.2⟩ (fun hHeld => ?_)
                clear hK K
                refine norm_ (a' := ?_) ?_ ?_
                rotate_left
                · show Act.put _ (some 96) _ = _
                  simp only [Act.put, List.setIfInBounds_toArray, List.set_cons_zero, List.set_cons_succ, i64_w, i32_w]
                  rfl
                refine one_ (i := 11) (N := some 97) (HS.pre 14 12) rfl rfl (by kernel_rfl) (by decide) (fun K hK => ?_)
                refine LC.appC (y := sgn n sz) HCd.out (by have := HCS.out; omega) (by rfl) (.tmp 87) (.tmp 96) rfl rfl rfl ?_
                intro v1 w1 hLC
                rw [← HCS1.out] at hLC
                obtain ⟨Av, cv, hv1⟩ := Kd.R_slice hLC.2.2.1
                subst hv1
                have HC5 := Aside0.mk hLC
                clear hLC
                refine hK.out _ _ ⟨(HC5.out.q 4).trans rfl, HC5.out.f 4⟩ (fun hHeld => ?_)
                clear hK K
                refine norm_ (a' := ?_) ?_ ?_
                rotate_left
                · show Act.put _ (some 97) _ = _
                  simp only [Act.put, List.setIfInBounds_toArray, List.set_cons_zero, List.set_cons_succ, i64_w, i32_w]
                  rfl
                refine pure_ (i := 12) (N := some 98) (v := ?_) (a' := ?_) (HS.pre 14 13) rfl rfl (by kernel_rfl) (fun _ _ _ h => h) (Or.inl ⟨by rfl, ?_⟩) ?_ ?_
                rotate_left
                · intro w'
                  go_simp
                  with_reducible rfl
                rotate_left
                · simp only [Act.put, List.setIfInBounds_toArray, List.set_cons_zero, List.set_cons_succ, i64_w, i32_w]
                  rfl
                refine last_ (i := 13) (N := none) (HS.pre 14 14) rfl rfl (by kernel_rfl) (by decide) (fun K hK => ?_)
                refine skip_ (w1 := ?_) (by rfl) rfl ?_ ?_
                rotate_left
                · go_simp
                  rfl
                refine hK.out _ _ ?_
                clear hK K
                refine done_ (by kernel_rfl) ?_
                have HC6 := Aside0.mk (HC5.out.put (j := 4) (u := .slice Av cs1.length cv) (d0 := .int .i64 av) (d1 := .int .i64 (O : Int)) (d2 := .bool dn) (d3 := .bool fine) (db := .slice Av cs1.length cv) rfl)
                clear hs4 hw1 hz1 hz64 hz0 hz65 hHeld qg4 fg4
                go_wp2
                go_roundg (O - (ii + 1))
                case measure => omega
                case rel => exact ⟨ii + 1, _, _, nx5, e5, by omega, by omega, by first | go_num | (congr 1; unfold wrap64; omega), HC6, HRC2, ⟨by rw [HCS1.out, List.length_append, List.length_singleton]; have := HCS.out; omega⟩⟩
              · have hltz3 : ¬ (ii : Int) < (O : Int) := by omega
                obtain rfl : O = ii := by omega
                obtain rfl : RC = (cs, nx, e) := by have := HRC.out; rw [Nat.sub_self] at this; simpa [getCoefs] using this.symm
                obtain ⟨Ac, cc, hvc⟩ := Kd.R_slice HC.out.2.2.1
                subst hvc
                have HCR := Aside0.mk (Kd.R_reads' HC.out.2.2.1).2.2
                have HFI4 : Aside0 (getFilts b s fine (M - (jj + 1)) (ws ++ [⟨av, (O : Int), dn, fine, cs⟩]) (od || (nv == 0 && fitS cs (sz - 1))) (nx, e) = RF) := ⟨by have := HFI3.out; rw [getTail_some (cs := cs) (nx5 := nx) (e5 := e) HOV0.out HD.out HNW.out (by rw [← HSZ.out, Int.toNat_natCast]; exact HRCX.out), HDN.out, ← HSZ.out] at this; exact this⟩
                clear HFI3 HRC HCS
                have qg0 : wr.cell? ⟨g, 0, none⟩ = some (.int .i64 av) := (HC.out.q 0).trans rfl
                have qg1 : wr.cell? ⟨g, 1, none⟩ = some (.int .i64 (O : Int)) := (HC.out.q 1).trans rfl
                have qg2 : wr.cell? ⟨g, 2, none⟩ = some (.bool dn) := (HC.out.q 2).trans rfl
                have qg3 : wr.cell? ⟨g, 3, none⟩ = some (.bool fine) := (HC.out.q 3).trans rfl
                have qg4 : wr.cell? ⟨g, 4, none⟩ = some (.slice Ac cs.length cc) := (HC.out.q 4).trans rfl
                cases od with
                | true =>
                  go_wp2_with (first | ((with_reducible refine gate_builtin (b := .append) (xs := #[.tmp 112, .tmp 114]) rfl ?_); at_builtin; refine LC.appW (f := ⟨av, (O : Int), dn, fine, cs⟩) HC.out rfl (by have := HWS.out; omega) rfl (.tmp 112) (.tmp 114) rfl rfl rfl ?_; intro v1 w1 hLW; have HW3 := Aside0.mk hLW; clear hLW))
                  go_roundg (M - (jj + 1))
                  case measure => omega
                  case rel => exact ⟨jj + 1, _, _, _, true, nx, e, by omega, by omega, rfl, rfl, rfl, by first | go_num | (congr 1; unfold wrap64; omega), HW3, HFI4, ⟨by rw [List.length_append, List.length_singleton]; have := HWS.out; omega⟩⟩
                | false =>
                  by_cases hn0 : nv = 0
                  case neg =>
                    have bn : (nv == 0) = false := beq_eq_false_iff_ne.mpr hn0
                    have HFI5 : Aside0 (getFilts b s fine (M - (jj + 1)) (ws ++ [⟨av, (O : Int), dn, fine, cs⟩]) false (nx, e) = RF) := ⟨by have := HFI4.out; rwa [bn] at this⟩
                    clear hn0 HFI4
                    go_wp2_with (first | ((with_reducible refine gate_builtin (b := .append) (xs := #[.tmp 112, .tmp 114]) rfl ?_); at_builtin; refine LC.appW (f := ⟨av, (O : Int), dn, fine, cs⟩) HC.out rfl (by have := HWS.out; omega) rfl (.tmp 112) (.tmp 114) rfl rfl rfl ?_; intro v1 w1 hLW; have HW3 := Aside0.mk hLW; clear hLW))
                    go_roundg (M - (jj + 1))
                    case measure => omega
                    case rel => exact ⟨jj + 1, _, _, _, false, nx, e, by omega, by omega, rfl, rfl, rfl, by first | go_num | (congr 1; unfold wrap64; omega), HW3, HFI5, ⟨by rw [List.length_append, List.length_singleton]; have := HWS.out; omega⟩⟩
                  have bn : (nv == 0) = true := beq_iff_eq.mpr hn0
                  obtain ⟨fo, hfo⟩ : ∃ x, x = fitS cs (sz - 1) := ⟨_, rfl⟩
                  have HFI5 : Aside0 (getFilts b s fine (M - (jj + 1)) (ws ++ [⟨av, (O : Int), dn, fine, cs⟩]) fo (nx, e) = RF) := ⟨by have := HFI4.out; rwa [bn, ← hfo] at this⟩
                  have HFT : Aside0 (∀ W, Kd.C (Kd.int .i64) W Ac cs.length cs → Calls Try.prog 26 #[.slice Ac cs.length cc, .int .i64 (sz - 1)] W fun e w' => e = .returned (.bool fo) ∧ Below W.heap.size W w') := ⟨fun W h => by rw [hfo]; exact fit_calls Ac cc cs (sz - 1) (by have := wideS_rng fine; have := HSZ.out; omega) W h⟩
                  clear hn0 HFI4 hfo
                  go_wp2_with (first | (go_at_call 26; (with_reducible refine (HFT.out _ HCR.out).mono ?_); rintro e' w7 ⟨rfl, hb⟩; have HC7 := Aside0.mk (HC.out.below hb); clear hb qg0 qg1 qg2 qg3 qg4; have qg0 : w7.cell? ⟨g, 0, none⟩ = some (.int .i64 av) := (HC7.out.q 0).trans rfl; have qg1 : w7.cell? ⟨g, 1, none⟩ = some (.int .i64 (O : Int)) := (HC7.out.q 1).trans rfl; have qg2 : w7.cell? ⟨g, 2, none⟩ = some (.bool dn) := (HC7.out.q 2).trans rfl; have qg3 : w7.cell? ⟨g, 3, none⟩ = some (.bool fine) := (HC7.out.q 3).trans rfl; have qg4 : w7.cell? ⟨g, 4, none⟩ = some (.slice Ac cs.length cc) := (HC7.out.q 4).trans rfl) | ((with_reducible refine gate_builtin (b := .append) (xs := #[.tmp 112, .tmp 114]) rfl ?_); at_builtin; refine LC.appW (f := ⟨av, (O : Int), dn, fine, cs⟩) HC7.out rfl (by have := HWS.out; omega) rfl (.tmp 112) (.tmp 114) rfl rfl rfl ?_; intro v1 w1 hLW; have HW3 := Aside0.mk hLW; clear hLW))
                  go_roundg (M - (jj + 1))
                  case measure => omega
                  case rel => exact ⟨jj + 1, _, _, _, fo, nx, e, by omega, by omega, rfl, rfl, rfl, by first | go_num | (congr 1; unfold wrap64; omega), HW3, HFI5, ⟨by rw [List.length_append, List.length_singleton]; have := HWS.out; omega⟩⟩
          · have hltz2 : ¬ (jj : Int) < (M : Int) := by omega
            obtain rfl : jj = M := by omega
            obtain rfl : RF = some (ws, od, nx, e) := by have := HFI.out; rw [Nat.sub_self] at this; simpa [getFilts] using this.symm
            obtain ⟨Aw, cw, hvw⟩ := Kd.R_slice HW1.out.2.2.1
            subst hvw
            go_wp2_with (first | ((with_reducible refine gate_builtin (b := .append) (xs := #[.tmp 117, .tmp 119]) rfl ?_); at_builtin; refine LW.appL HW1.out (by have := HLS.out; omega) rfl (.tmp 117) (.tmp 119) rfl rfl rfl ?_; intro v1 w1 hLL; have HL2 := Aside0.mk hLL; clear hLL))
            go_roundg (N - (kk + 1))
            case measure => omega
            case rel => exact ⟨kk + 1, _, _, od, nx, e, by omega, by omega, rfl, rfl, by first | go_num | (congr 1; unfold wrap64; omega), HL2, HWI3, ⟨by rw [List.length_append, List.length_singleton]; have := HLS.out; omega⟩⟩
    · have hltz : ¬ (kk : Int) < (N : Int) := by omega
      obtain rfl : kk = N := by omega
      obtain rfl : RES = some (ls, odd, nx, e) := by have := HWI.out; rw [Nat.sub_self] at this; simpa [getWins] using this.symm
      have qE := HL.out.1.qE
      have fE := HL.out.1.fE
      have qM := HL.out.1.qM
      have fM := HL.out.1.fM
      have hME := NE_gM_gE.out
      have hEM := Ne.symm hME
      by_cases he : e = 0
      case neg =>
        obtain ⟨rfl, rfl, rfl⟩ : R1 = [] ∧ R2 = 0 ∧ R3 = e := by have := HRR2.out; simp only [getEnd] at this; rw [if_pos he] at this; simpa using this
        have be : (R3 != 0) = true := bne_iff_ne.mpr he
        clear he
        go_wp2
        refine start_ (n := 4) (S := fun w' => w'.cell? ⟨gE, 0, none⟩ = some (.int .i64 R3)) (ds := [3]) #[false, false, false, false] (by kernel_rfl) rfl rfl (qE) (fun hHeld => ?_)
        refine pure_ (i := 1) (N := some 6) (v := ?_) (a' := ?_) #[false, true, false, false] rfl rfl (by kernel_rfl) (fun _ _ _ h => h) (Or.inl ⟨by rfl, ?_⟩) ?_ ?_
        rotate_left
        · intro w'
          go_simp
          with_reducible rfl
        rotate_left
        · simp only [Act.put, List.setIfInBounds_toArray, List.set_cons_zero, List.set_cons_succ, i64_w, i32_w]
          rfl
        refine take_ (i := 0) (N := some 125) (v := ?_) (a' := ?_) #[true, true, false, false] rfl rfl (by kernel_rfl) (fun _ _ _ h => h) (Or.inl ⟨by rfl, ?_⟩) hHeld ?_ ?_
        rotate_left
        · intro w' s0
          go_simp
          with_reducible rfl
        rotate_left
        · simp only [Act.put, List.setIfInBounds_toArray, List.set_cons_zero, List.set_cons_succ, i64_w, i32_w]
          rfl
        refine one_ (i := 2) (N := none) #[true, true, true, false] rfl rfl (by kernel_rfl) (by decide) (fun K hK => ?_)
        refine skip_ (w1 := ?_) (by rfl) rfl ?_ ?_
        rotate_left
        · go_simp
          rfl
        refine hK.out _ _ ((by go_simp)) (fun hHeld => ?_)
        clear hK K
        refine last_ (i := 3) (N := none) #[true, true, true, true] rfl rfl (by kernel_rfl) (by decide) (fun K hK => ?_)
        refine skip_ (w1 := ?_) (by rfl) rfl ?_ ?_
        rotate_left
        · go_simp
          rfl
        refine hK.out _ _ ?_
        clear hK K
        refine done_ (by kernel_rfl) ?_
        go_wp2
        refine get_fin (M := gM) (E := gE) (nx := 0) (e := R3) ((blk_cell (blk_far (blk_put (blk_drew HL.out.1.2.2.2.1) 0 _ rfl) NE_gM_gE.out _) 0).trans rfl) ((blk_cell (blk_put (blk_far (blk_drew HL.out.1.2.2.2.2.1) (Ne.symm NE_gM_gE.out) _) 0 _ rfl) 0).trans rfl) rfl rfl rfl rfl ?_
        exact ⟨_, rfl, Kd.R_nil _ _ _ _ _, below_set (below_set (below_drew1 HL.out.1.2.1) HG_gM.out) HG_gE.out⟩
      subst he
      cases odd with
      | true =>
        obtain ⟨rfl, rfl, rfl⟩ : R1 = [] ∧ R2 = 0 ∧ R3 = 8 := by have := HRR2.out; simpa [getEnd] using this
        go_wp2
        refine get_fin (M := gM) (E := gE) (nx := 0) (e := 8) ((blk_cell (blk_far (blk_put HL.out.1.2.2.2.1 0 _ rfl) NE_gM_gE.out _) 0).trans rfl) ((blk_cell (blk_put (blk_far HL.out.1.2.2.2.2.1 (Ne.symm NE_gM_gE.out) _) 0 _ rfl) 0).trans rfl) rfl rfl rfl rfl ?_
        exact ⟨_, rfl, Kd.R_nil _ _ _ _ _, below_set (below_set HL.out.1.2.1 HG_gM.out) HG_gE.out⟩
      | false =>
        obtain ⟨rfl, rfl, rfl⟩ : R1 = ls ∧ R2 = nx ∧ R3 = 0 := by have := HRR2.out; simpa [getEnd] using this
        go_wp2
        refine start_ (n := 5) (S := fun w' => w'.cell? ⟨gM, 0, none⟩ = some (.int .i64 R2)) (ds := [3, 4]) #[false, false, false, false, false] (by kernel_rfl) rfl rfl (qM) (fun hHeld => ?_)
        refine pure_ (i := 0) (N := some 128) (v := ?_) (a' := ?_) #[true, false, false, false, false] rfl rfl (by kernel_rfl) (fun _ _ _ h => h) (Or.inl ⟨by rfl, ?_⟩) ?_ ?_
        rotate_left
        · intro w'
          go_simp
          with_reducible rfl
        rotate_left
        · simp only [Act.put, List.setIfInBounds_toArray, List.set_cons_zero, List.set_cons_succ, i64_w, i32_w]
          rfl
        refine pure_ (i := 2) (N := some 6) (v := ?_) (a' := ?_) #[true, false, true, false, false] rfl rfl (by kernel_rfl) (fun _ _ _ h => h) (Or.inl ⟨by rfl, ?_⟩) ?_ ?_
        rotate_left
        · intro w'
          go_simp
          with_reducible rfl
        rotate_left
        · simp only [Act.put, List.setIfInBounds_toArray, List.set_cons_zero, List.set_cons_succ, i64_w, i32_w]
          rfl
        refine take_ (i := 1) (N := some 129) (v := ?_) (a' := ?_) #[true, true, true, false, false] rfl rfl (by kernel_rfl) (fun _ _ _ h => h) (Or.inl ⟨by rfl, ?_⟩) hHeld ?_ ?_
        rotate_left
        · intro w' s0
          go_simp
          with_reducible rfl
        rotate_left
        · simp only [Act.put, List.setIfInBounds_toArray, List.set_cons_zero, List.set_cons_succ, i64_w, i32_w]
          rfl
        refine last_ (i := 3) (N := none) #[true, true, true, true, false] rfl rfl (by kernel_rfl) (by decide) (fun K hK => ?_)
        refine skip_ (w1 := ?_) (by rfl) rfl ?_ ?_
        rotate_left
        · go_simp
          rfl
        refine hK.out _ _ ?_
        clear hK K
        refine last_ (i := 4) (N := none) #[true, true, true, true, true] rfl rfl (by kernel_rfl) (by decide) (fun K hK => ?_)
        refine skip_ (w1 := ?_) (by rfl) rfl ?_ ?_
        rotate_left
        · go_simp
          rfl
        refine hK.out _ _ ?_
        clear hK K
        refine done_ (by kernel_rfl) ?_
        go_wp2
        have HF := (HL.out.1.drew.setM R2).setE 0
        refine get_fin (M := gM) (E := gE) (nx := R2) (e := 0) HF.qM HF.qE rfl rfl rfl rfl ?_
        exact ⟨_, rfl, Kd.R_mono (Kd.R_far (p := ⟨gE, 0, none⟩) (Kd.R_far (p := ⟨gM, 0, none⟩) (Kd.R_drew HL.out.2) (fun k hk => hk.1.2.1) _) (fun k hk => hk.1.2.2.1) _) (fun _ _ => trivial), HF.2.1⟩
end Go.Proofs.Ytdhcgfdnhlhapaa.HS
end
section
-- Written for this claim by this session's own wip/hook.py (it runs the kit's print and takes some functions' contracts as given texts of this session's).
namespace Go.Proofs.Ytdhcgfdnhlhapaa.K
open Go.RowKit Go.Proofs.YtdhcgfdnhlhapaaW.PrintWords Go.Proofs.YtdhcgfdnhlhapaaW.PrintLast Go.Proofs.YtdhcgfdnhlhapaaW.PrintMore
attribute [local go_sem] max2_int min2_int max_two min_two max_three min_three max_four min_four   -- for this text's walks alone
set_option linter.unusedVariables false
set_option linter.unusedSimpArgs false

/-! ### tnsbits_Get: function 13: GIVEN BY HAND -/
-- IMPORT Derived.Test.YtdhcgfdnhlhapaaHS8

def tnsbits_Get.f (l0 : List Int) (a1 : Int) (a2_0 : Int) (a2_1 : Int) (a2_2 : Int) (l2_3 : List Int) : Option ((List (List (S38))) × Int × Int) := if (∀ y ∈ l0, 0 ≤ y ∧ y ≤ 255) ∧ l0.length ≤ 100000000 ∧ l2_3.length ≤ 17592186044416 then some (HS.getTns l0 a1 a2_0 a2_1 a2_2 l2_3) else none
set_option maxHeartbeats 8000000 in
set_option maxRecDepth 100000 in
theorem tnsbits_Get.calls (A0 : Option Addr) (c0 : Nat) (l0 : List Int) (a1 : Int) (a2_0 : Int) (a2_1 : Int) (a2_2 : Int) (A2_3 : Option Addr) (c2_3 : Nat) (l2_3 : List Int) (r1 : List (List (S38))) (r2 : Int) (r3 : Int) (w : World) (hr0 : Kd.C (Kd.int .u8) w A0 l0.length l0) (hc0 : l0.length ≤ c0) (hr2_3 : Kd.C (Kd.int .i64) w A2_3 l2_3.length l2_3) (hc2_3 : l2_3.length ≤ c2_3) (h : tnsbits_Get.f l0 a1 a2_0 a2_1 a2_2 l2_3 = some (r1, r2, r3)) :
    Calls Try.prog 13 #[.slice A0 l0.length c0, .int .i64 a1, .agg #[.int .u8 a2_0, .int .u8 a2_1, .int .i64 a2_2, .slice A2_3 l2_3.length c2_3]] w fun e w' => ∃ v0_ : Value, e = .returned (.tuple #[v0_, .int .i64 r2, .int .i64 r3]) ∧ Kd.R (Kd.slice 38 k38) 35 w' w.heap.size (fun _ => True) v0_ r1 ∧ Below w.heap.size w w' := by
  unfold tnsbits_Get.f at h
  by_cases hb : (∀ y ∈ l0, 0 ≤ y ∧ y ≤ 255) ∧ l0.length ≤ 100000000 ∧ l2_3.length ≤ 17592186044416
  case neg => rw [if_neg hb] at h; cases h
  rw [if_pos hb] at h
  refine (HS.tget_calls A0 c0 l0 a1 a2_0 a2_1 a2_2 A2_3 c2_3 l2_3 w hb.1 hb.2.1 hb.2.2 hr0 hc0 hr2_3 hc2_3).mono ?_
  rintro e w' ⟨v, rfl, hr, hbel⟩
  have h2 := Option.some.inj h
  rw [h2] at hr ⊢
  exact ⟨v, rfl, hr, hbel⟩

end Go.Proofs.Ytdhcgfdnhlhapaa.K
end
section
/- reedpiperef18.SameTns: whether two lists of lists of filters are the same. -/
namespace Go.Proofs.Ytdhcgfdnhlhapaa.HST
open Go.RowKit Go.Shelf Go.Proofs.YtdhcgfdnhlhapaaW.PrintWords Go.Proofs.YtdhcgfdnhlhapaaW.PrintLast Go.Proofs.YtdhcgfdnhlhapaaW.PrintMore Go.Proofs.Ytdhcgfdnhlhapaa.K
set_option linter.unusedVariables false
set_option linter.unusedSimpArgs false

abbrev Filt := S38
def sameF (x y : Filt) : Bool := x.f0 == y.f0 && (x.f1 == y.f1 && (x.f2 == y.f2 && (x.f3 == y.f3 && decide (x.f4 = y.f4))))
def sameW : List Filt → List Filt → Bool
  | [], [] => true
  | x :: r, y :: q => sameF x y && sameW r q
  | [], _ :: _ => false
  | _ :: _, [] => false
def sameL : List (List Filt) → List (List Filt) → Bool
  | [], [] => true
  | x :: r, y :: q => sameW x y && sameL r q
  | [], _ :: _ => false
  | _ :: _, [] => false
theorem sameF_refl (x : Filt) : sameF x x = true := by simp [sameF]
theorem sameF_eq {x y : Filt} (h : sameF x y = true) : x = y := by
  obtain ⟨a, b, c, d, e⟩ := x
  obtain ⟨a', b', c', d', e'⟩ := y
  simp only [sameF, Bool.and_eq_true, beq_iff_eq, decide_eq_true_eq] at h
  obtain ⟨rfl, rfl, rfl, rfl, rfl⟩ := h
  rfl
theorem sameW_refl : ∀ x : List Filt, sameW x x = true
  | [] => rfl
  | x :: r => by rw [sameW, sameF_refl, sameW_refl r]; rfl
theorem sameW_eq : ∀ {x y : List Filt}, sameW x y = true → x = y
  | [], [], _ => rfl
  | x :: r, y :: q, h => by
    rw [sameW, Bool.and_eq_true] at h
    rw [sameF_eq h.1, sameW_eq h.2]
  | [], _ :: _, h => by cases h
  | _ :: _, [], h => by cases h
theorem sameL_refl : ∀ x : List (List Filt), sameL x x = true
  | [] => rfl
  | x :: r => by rw [sameL, sameW_refl, sameL_refl r]; rfl
theorem sameL_eq : ∀ {x y : List (List Filt)}, sameL x y = true → x = y
  | [], [], _ => rfl
  | x :: r, y :: q, h => by
    rw [sameL, Bool.and_eq_true] at h
    rw [sameW_eq h.1, sameL_eq h.2]
  | [], _ :: _, h => by cases h
  | _ :: _, [], h => by cases h
theorem sameW_len {x y : List Filt} (h : x.length ≠ y.length) : sameW x y = false := Bool.eq_false_iff.2 (fun e => h (by rw [sameW_eq e]))
theorem sameL_len {x y : List (List Filt)} (h : x.length ≠ y.length) : sameL x y = false := Bool.eq_false_iff.2 (fun e => h (by rw [sameL_eq e]))
theorem sameL_drop (a b : List (List Filt)) (i : Nat) (ha : i < a.length) (hb : i < b.length) : sameL (a.drop i) (b.drop i) = (sameW a[i] b[i] && sameL (a.drop (i + 1)) (b.drop (i + 1))) := by
  rw [List.drop_eq_getElem_cons ha, List.drop_eq_getElem_cons hb, sameL]
theorem sameW_drop (a b : List Filt) (i : Nat) (ha : i < a.length) (hb : i < b.length) : sameW (a.drop i) (b.drop i) = (sameF a[i] b[i] && sameW (a.drop (i + 1)) (b.drop (i + 1))) := by
  rw [List.drop_eq_getElem_cons ha, List.drop_eq_getElem_cons hb, sameW]
theorem rdL_at (l : List (List Filt)) (k : Nat) (h : k < l.length) : rd_L7 l (k : Int) = l[k] := by
  unfold rd_L7
  rw [Int.toNat_natCast, List.getD_eq_getElem?_getD, List.getElem?_eq_getElem h, Option.getD_some]
theorem rdT_at (l : List Filt) (k : Nat) (h : k < l.length) : rd_T38 l (k : Int) = l[k] := by
  unfold rd_T38
  rw [Int.toNat_natCast, List.getD_eq_getElem?_getD, List.getElem?_eq_getElem h, Option.getD_some]
theorem add_block (a : Addr) (n : Nat) : (a.add n).block = a.block := by
  unfold Addr.add
  split <;> rfl
set_option maxHeartbeats 16000000 in
set_option maxRecDepth 100000 in
theorem same_calls (A0 : Option Addr) (c0 : Nat) (a : List (List Filt)) (A1 : Option Addr) (c1 : Nat) (b : List (List Filt)) (w : World) (hsm : ∀ x ∈ a, ∀ f ∈ x, f.f4.length ≤ 4611686018427387904) (ha : Kd.C (Kd.slice 38 k38) w A0 a.length a) (hb : Kd.C (Kd.slice 38 k38) w A1 b.length b) :
    Calls Try.prog 14 #[.slice A0 a.length c0, .slice A1 b.length c1] w fun e w' => e = .returned (.bool (sameL a b)) ∧ Below w.heap.size w w' := by
  have HSM := Aside0.mk hsm
  clear hsm
  have HA := Aside0.mk ha
  have HAM := Aside0.mk (Kd.C_max ha)
  have HBB := Aside0.mk hb
  clear ha hb
  obtain ⟨r, hr⟩ : ∃ r, r = sameL a b := ⟨_, rfl⟩
  rw [← hr]
  have HR := Aside0.mk hr
  clear hr
  by_cases hl : (a.length : Int) = b.length
  case neg =>
    obtain rfl : r = false := by rw [HR.out]; exact sameL_len (by omega)
    have bl : ((a.length : Int) != (b.length : Int)) = true := bne_iff_ne.mpr hl
    have bl2 : ((a.length : Int) == (b.length : Int)) = false := beq_eq_false_iff_ne.mpr hl
    clear hl
    go_enter Try.func14, Try.ntmps14
    go_wp2
    go_ret
    exact ⟨rfl, Below.refl _ _⟩
  have HLN : Aside0 (a.length = b.length) := ⟨by omega⟩
  have bl : ((a.length : Int) != (b.length : Int)) = false := bne_eq_false_iff_eq.mpr hl
  clear hl
  have HQ : Aside0 (sameL (a.drop 0) (b.drop 0) = r) := ⟨HR.out.symm⟩
  have HB : Aside0 (Below w.heap.size w w) := ⟨Below.refl _ _⟩
  go_enter Try.func14, Try.ntmps14
  go_wp2
  clear bl
  go_loopg [5] a.length (fun gg s5 wr => ∃ ii : Nat, ii ≤ a.length ∧ a.length - ii ≤ gg ∧ s5 = .int .i64 ii ∧ Aside0 (Below w.heap.size w wr) ∧ Aside0 (sameL (a.drop ii) (b.drop ii) = r))
  case atStart => exact ⟨0, Nat.zero_le _, by omega, rfl, HB, HQ⟩
  case round =>
    clear HB HQ
    obtain ⟨ii, hii, hgi, rfl, HB, HQ⟩ := hrel
    by_cases hlt : ii < a.length
    · have hltz : (ii : Int) < (a.length : Int) := by omega
      have hltb : (ii : Int) < (b.length : Int) := by have := HLN.out; omega
      have hltn : ii < b.length := by omega
      obtain ⟨ad, A2, c2, rfl, p1, h2a, hCa⟩ := at_L7 HA.out (ii : Int) (by omega) hltz
      obtain ⟨bd, A3, c3, rfl, p2, h2b, hCb⟩ := at_L7 HBB.out (ii : Int) (by omega) hltb
      rw [Int.toNat_natCast] at p1 p2
      have HEa := Aside0.mk (rdL_at a ii hlt)
      have HEb := Aside0.mk (rdL_at b ii hltn)
      generalize rd_L7 a (ii : Int) = x at p1 h2a hCa HEa
      generalize rd_L7 b (ii : Int) = y at p2 h2b hCb HEb
      have HCa := Aside0.mk hCa
      have HCb := Aside0.mk hCb
      have HXM := Aside0.mk (Kd.C_max hCa)
      have P1 := Aside0.mk p1
      have P2 := Aside0.mk p2
      clear hCa hCb h2a h2b p1 p2
      have HQ2 : Aside0 ((sameW x y && sameL (a.drop (ii + 1)) (b.drop (ii + 1))) = r) := ⟨by have := HQ.out; rwa [sameL_drop a b ii hlt hltn, ← HEa.out, ← HEb.out] at this⟩
      clear HQ
      have q1 := pw_cell_below HB.out P1.out
      have q2 := pw_cell_below HB.out P2.out
      by_cases hw : (x.length : Int) = y.length
      case neg =>
        obtain rfl : r = false := by rw [← HQ2.out, sameW_len (by omega)]; rfl
        have bw : ((x.length : Int) != (y.length : Int)) = true := bne_iff_ne.mpr hw
        clear hw HQ2
        go_wp2
        go_quiet (fail)
        go_wp2
        go_ret
        exact ⟨rfl, by repeat (with_reducible first | exact HB.out | apply below_drew1 | apply pw_below_drewN)⟩
      have HLW : Aside0 (x.length = y.length) := ⟨by omega⟩
      have bw : ((x.length : Int) != (y.length : Int)) = false := bne_eq_false_iff_eq.mpr hw
      clear hw
      go_wp2
      go_quiet (fail)
      go_wp2
      have HB1 : Aside0 (∃ W, Below w.heap.size w W) := ⟨w, Below.refl _ _⟩
      clear q1 q2 bw HB1
      go_loopg [6] x.length (fun gg s6 wr => ∃ jj : Nat, jj ≤ x.length ∧ x.length - jj ≤ gg ∧ s6 = .int .i64 jj ∧ Aside0 (Below w.heap.size w wr) ∧ Aside0 ((sameW (x.drop jj) (y.drop jj) && sameL (a.drop (ii + 1)) (b.drop (ii + 1))) = r))
      case atStart => exact ⟨0, Nat.zero_le _, by omega, rfl, ⟨by repeat (with_reducible first | exact HB.out | apply below_drew1 | apply pw_below_drewN)⟩, HQ2⟩
      case round =>
        clear HB HQ2
        obtain ⟨jj, hjj, hgj, rfl, HB, HQ⟩ := hrel
        have q1 := pw_cell_below HB.out P1.out
        by_cases hlt2 : jj < x.length
        · have hltz2 : (jj : Int) < (x.length : Int) := by omega
          have hltb2 : (jj : Int) < (y.length : Int) := by have := HLW.out; omega
          have hltn2 : jj < y.length := by omega
          have q2 := pw_cell_below HB.out P2.out
          obtain ⟨xd, A4, c4, hsx, x0, x1, x2, x3, x4, hx4, hCx⟩ := at_T38 HCa.out (jj : Int) (by omega) hltz2
          cases hsx
          obtain ⟨yd, A5, c5, hsy, y0, y1, y2, y3, y4, hy4, hCy⟩ := at_T38 HCb.out (jj : Int) (by omega) hltb2
          cases hsy
          rw [Int.toNat_natCast] at x0 x1 x2 x3 x4 y0 y1 y2 y3 y4
          have HFx := Aside0.mk (rdT_at x jj hlt2)
          have HFy := Aside0.mk (rdT_at y jj hltn2)
          generalize rd_T38 x (jj : Int) = f at x0 x1 x2 x3 x4 hx4 hCx HFx
          generalize rd_T38 y (jj : Int) = g at y0 y1 y2 y3 y4 hy4 hCy HFy
          have HCx := Aside0.mk hCx
          have HCy := Aside0.mk hCy
          have HCxl := Aside0.mk hx4
          have HCyl := Aside0.mk hy4
          have HFM := Aside0.mk (Kd.C_max hCx)
          have Xx0 := Aside0.mk x0
          have Xx1 := Aside0.mk x1
          have Xx2 := Aside0.mk x2
          have Xx3 := Aside0.mk x3
          have Xx4 := Aside0.mk x4
          have Xy0 := Aside0.mk y0
          have Xy1 := Aside0.mk y1
          have Xy2 := Aside0.mk y2
          have Xy3 := Aside0.mk y3
          have Xy4 := Aside0.mk y4
          clear hCx hCy hx4 hy4 x0 x1 x2 x3 x4 y0 y1 y2 y3 y4
          have e0 := pw_cell_below HB.out Xx0.out
          have e1 := pw_cell_below HB.out Xx1.out
          have e2 := pw_cell_below HB.out Xx2.out
          have e3 := pw_cell_below HB.out Xx3.out
          have e4 := pw_cell_below HB.out Xx4.out
          have HQ3 : Aside0 ((sameF f g && (sameW (x.drop (jj + 1)) (y.drop (jj + 1)) && sameL (a.drop (ii + 1)) (b.drop (ii + 1)))) = r) := ⟨by have := HQ.out; rwa [sameW_drop x y jj hlt2 hltn2, ← HFx.out, ← HFy.out, Bool.and_assoc] at this⟩
          clear HQ
          go_upto_region 12 with (first | ((with_reducible refine gate_dst (N := 7) rfl ?_); refine box_event ?hg (N := 7) ?hd (cs := #[.int .i64 0, .int .i64 0, .bool false, .bool false, .slice none 0 0]) (t := 38) ?hr ?_; (case hd => rfl); (case hg => rfl); (case hr => first | (go_simp; done) | (go_simp; rfl)); intro gx hg wx1 hbox hb; have HG_gx : Aside0 (w.heap.size ≤ gx) := ⟨by rw [hg]; exact HB.out.size⟩; have BK_gx := Aside0.mk hbox; replace HB := Aside0.mk (below_step HB.out hb); clear hg hbox hb; have hq_gx_0 : wx1.cell? ⟨gx, 0, none⟩ = some (.int .i64 0) := (blk_cell BK_gx.out 0).trans rfl; have hf_gx_0 : wx1.frozen? ⟨gx, 0, none⟩ = false := blk_frozen BK_gx.out 0; have hq_gx_1 : wx1.cell? ⟨gx, 1, none⟩ = some (.int .i64 0) := (blk_cell BK_gx.out 1).trans rfl; have hf_gx_1 : wx1.frozen? ⟨gx, 1, none⟩ = false := blk_frozen BK_gx.out 1; have hq_gx_2 : wx1.cell? ⟨gx, 2, none⟩ = some (.bool false) := (blk_cell BK_gx.out 2).trans rfl; have hf_gx_2 : wx1.frozen? ⟨gx, 2, none⟩ = false := blk_frozen BK_gx.out 2; have hq_gx_3 : wx1.cell? ⟨gx, 3, none⟩ = some (.bool false) := (blk_cell BK_gx.out 3).trans rfl; have hf_gx_3 : wx1.frozen? ⟨gx, 3, none⟩ = false := blk_frozen BK_gx.out 3; have hq_gx_4 : wx1.cell? ⟨gx, 4, none⟩ = some (.slice none 0 0) := (blk_cell BK_gx.out 4).trans rfl; have hf_gx_4 : wx1.frozen? ⟨gx, 4, none⟩ = false := blk_frozen BK_gx.out 4; clear q1 q2 e0 e1 e2 e3 e4; replace BK_gx := Aside0.mk (blk_put BK_gx.out 0 (.int .i64 f.f0) rfl); replace HB := Aside0.mk (below_set (j := 0) (v := .int .i64 f.f0) HB.out HG_gx.out); replace BK_gx := Aside0.mk (blk_put BK_gx.out 1 (.int .i64 f.f1) rfl); replace HB := Aside0.mk (below_set (j := 1) (v := .int .i64 f.f1) HB.out HG_gx.out); replace BK_gx := Aside0.mk (blk_put BK_gx.out 2 (.bool f.f2) rfl); replace HB := Aside0.mk (below_set (j := 2) (v := .bool f.f2) HB.out HG_gx.out); replace BK_gx := Aside0.mk (blk_put BK_gx.out 3 (.bool f.f3) rfl); replace HB := Aside0.mk (below_set (j := 3) (v := .bool f.f3) HB.out HG_gx.out); replace BK_gx := Aside0.mk (blk_put BK_gx.out 4 (.slice A4 f.f4.length c4) rfl); replace HB := Aside0.mk (below_set (j := 4) (v := .slice A4 f.f4.length c4) HB.out HG_gx.out)))
          generalize (((((wx1.setCell ⟨gx, 0, none⟩ (.int .i64 f.f0)).setCell ⟨gx, 1, none⟩ (.int .i64 f.f1)).setCell ⟨gx, 2, none⟩ (.bool f.f2)).setCell ⟨gx, 3, none⟩ (.bool f.f3)).setCell ⟨gx, 4, none⟩ (.slice A4 f.f4.length c4)) = wy at HB BK_gx ⊢
          clear hq_gx_0 hf_gx_0 hq_gx_1 hf_gx_1 hq_gx_2 hf_gx_2 hq_gx_3 hf_gx_3 hq_gx_4 hf_gx_4
          have q2 := pw_cell_below HB.out P2.out
          have f0 := pw_cell_below HB.out Xy0.out
          have f1 := pw_cell_below HB.out Xy1.out
          have f2 := pw_cell_below HB.out Xy2.out
          have f3 := pw_cell_below HB.out Xy3.out
          have f4 := pw_cell_below HB.out Xy4.out
          go_upto_region 13 with (first | ((with_reducible refine gate_dst (N := 8) rfl ?_); refine box_event ?hg (N := 8) ?hd (cs := #[.int .i64 0, .int .i64 0, .bool false, .bool false, .slice none 0 0]) (t := 38) ?hr ?_; (case hd => rfl); (case hg => rfl); (case hr => first | (go_simp; done) | (go_simp; rfl)); intro gy hg wx2 hbox hb; have HG_gy : Aside0 (w.heap.size ≤ gy) := ⟨by rw [hg]; exact HB.out.size⟩; have NE_gx_gy : Aside0 (gx ≠ gy) := ⟨by rw [hg]; exact Nat.ne_of_lt (blk_lt BK_gx.out)⟩; have na_gx_gy : gx ≠ gy := NE_gx_gy.out; have nb_gx_gy : gy ≠ gx := Ne.symm NE_gx_gy.out; replace BK_gx := Aside0.mk (blk_below BK_gx.out hb); have BK_gy := Aside0.mk hbox; replace HB := Aside0.mk (below_step HB.out hb); clear hg hbox hb; have hq_gx_0 : wx2.cell? ⟨gx, 0, none⟩ = some (.int .i64 f.f0) := (blk_cell BK_gx.out 0).trans rfl; have hf_gx_0 : wx2.frozen? ⟨gx, 0, none⟩ = false := blk_frozen BK_gx.out 0; have hq_gx_1 : wx2.cell? ⟨gx, 1, none⟩ = some (.int .i64 f.f1) := (blk_cell BK_gx.out 1).trans rfl; have hf_gx_1 : wx2.frozen? ⟨gx, 1, none⟩ = false := blk_frozen BK_gx.out 1; have hq_gx_2 : wx2.cell? ⟨gx, 2, none⟩ = some (.bool f.f2) := (blk_cell BK_gx.out 2).trans rfl; have hf_gx_2 : wx2.frozen? ⟨gx, 2, none⟩ = false := blk_frozen BK_gx.out 2; have hq_gx_3 : wx2.cell? ⟨gx, 3, none⟩ = some (.bool f.f3) := (blk_cell BK_gx.out 3).trans rfl; have hf_gx_3 : wx2.frozen? ⟨gx, 3, none⟩ = false := blk_frozen BK_gx.out 3; have hq_gx_4 : wx2.cell? ⟨gx, 4, none⟩ = some (.slice A4 f.f4.length c4) := (blk_cell BK_gx.out 4).trans rfl; have hf_gx_4 : wx2.frozen? ⟨gx, 4, none⟩ = false := blk_frozen BK_gx.out 4; have hq_gy_0 : wx2.cell? ⟨gy, 0, none⟩ = some (.int .i64 0) := (blk_cell BK_gy.out 0).trans rfl; have hf_gy_0 : wx2.frozen? ⟨gy, 0, none⟩ = false := blk_frozen BK_gy.out 0; have hq_gy_1 : wx2.cell? ⟨gy, 1, none⟩ = some (.int .i64 0) := (blk_cell BK_gy.out 1).trans rfl; have hf_gy_1 : wx2.frozen? ⟨gy, 1, none⟩ = false := blk_frozen BK_gy.out 1; have hq_gy_2 : wx2.cell? ⟨gy, 2, none⟩ = some (.bool false) := (blk_cell BK_gy.out 2).trans rfl; have hf_gy_2 : wx2.frozen? ⟨gy, 2, none⟩ = false := blk_frozen BK_gy.out 2; have hq_gy_3 : wx2.cell? ⟨gy, 3, none⟩ = some (.bool false) := (blk_cell BK_gy.out 3).trans rfl; have hf_gy_3 : wx2.frozen? ⟨gy, 3, none⟩ = false := blk_frozen BK_gy.out 3; have hq_gy_4 : wx2.cell? ⟨gy, 4, none⟩ = some (.slice none 0 0) := (blk_cell BK_gy.out 4).trans rfl; have hf_gy_4 : wx2.frozen? ⟨gy, 4, none⟩ = false := blk_frozen BK_gy.out 4; clear q2 f0 f1 f2 f3 f4; replace BK_gx := Aside0.mk (blk_far (p := ⟨gy, 0, none⟩) BK_gx.out NE_gx_gy.out (.int .i64 g.f0)); replace BK_gy := Aside0.mk (blk_put BK_gy.out 0 (.int .i64 g.f0) rfl); replace HB := Aside0.mk (below_set (j := 0) (v := .int .i64 g.f0) HB.out HG_gy.out); replace BK_gx := Aside0.mk (blk_far (p := ⟨gy, 1, none⟩) BK_gx.out NE_gx_gy.out (.int .i64 g.f1)); replace BK_gy := Aside0.mk (blk_put BK_gy.out 1 (.int .i64 g.f1) rfl); replace HB := Aside0.mk (below_set (j := 1) (v := .int .i64 g.f1) HB.out HG_gy.out); replace BK_gx := Aside0.mk (blk_far (p := ⟨gy, 2, none⟩) BK_gx.out NE_gx_gy.out (.bool g.f2)); replace BK_gy := Aside0.mk (blk_put BK_gy.out 2 (.bool g.f2) rfl); replace HB := Aside0.mk (below_set (j := 2) (v := .bool g.f2) HB.out HG_gy.out); replace BK_gx := Aside0.mk (blk_far (p := ⟨gy, 3, none⟩) BK_gx.out NE_gx_gy.out (.bool g.f3)); replace BK_gy := Aside0.mk (blk_put BK_gy.out 3 (.bool g.f3) rfl); replace HB := Aside0.mk (below_set (j := 3) (v := .bool g.f3) HB.out HG_gy.out); replace BK_gx := Aside0.mk (blk_far (p := ⟨gy, 4, none⟩) BK_gx.out NE_gx_gy.out (.slice A5 g.f4.length c5)); replace BK_gy := Aside0.mk (blk_put BK_gy.out 4 (.slice A5 g.f4.length c5) rfl); replace HB := Aside0.mk (below_set (j := 4) (v := .slice A5 g.f4.length c5) HB.out HG_gy.out)))
          generalize (((((wx2.setCell ⟨gy, 0, none⟩ (.int .i64 g.f0)).setCell ⟨gy, 1, none⟩ (.int .i64 g.f1)).setCell ⟨gy, 2, none⟩ (.bool g.f2)).setCell ⟨gy, 3, none⟩ (.bool g.f3)).setCell ⟨gy, 4, none⟩ (.slice A5 g.f4.length c5)) = wz at HB BK_gx BK_gy ⊢
          clear hq_gx_0 hf_gx_0 hq_gx_1 hf_gx_1 hq_gx_2 hf_gx_2 hq_gx_3 hf_gx_3 hq_gx_4 hf_gx_4 hq_gy_0 hf_gy_0 hq_gy_1 hf_gy_1 hq_gy_2 hf_gy_2 hq_gy_3 hf_gy_3 hq_gy_4 hf_gy_4 na_gx_gy nb_gx_gy
          have qx0 : wz.cell? ⟨gx, 0, none⟩ = some (.int .i64 f.f0) := (blk_cell BK_gx.out 0).trans rfl
          have qx1 : wz.cell? ⟨gx, 1, none⟩ = some (.int .i64 f.f1) := (blk_cell BK_gx.out 1).trans rfl
          have qx2 : wz.cell? ⟨gx, 2, none⟩ = some (.bool f.f2) := (blk_cell BK_gx.out 2).trans rfl
          have qx3 : wz.cell? ⟨gx, 3, none⟩ = some (.bool f.f3) := (blk_cell BK_gx.out 3).trans rfl
          have qx4 : wz.cell? ⟨gx, 4, none⟩ = some (.slice A4 f.f4.length c4) := (blk_cell BK_gx.out 4).trans rfl
          have qy0 : wz.cell? ⟨gy, 0, none⟩ = some (.int .i64 g.f0) := (blk_cell BK_gy.out 0).trans rfl
          have qy1 : wz.cell? ⟨gy, 1, none⟩ = some (.int .i64 g.f1) := (blk_cell BK_gy.out 1).trans rfl
          have qy2 : wz.cell? ⟨gy, 2, none⟩ = some (.bool g.f2) := (blk_cell BK_gy.out 2).trans rfl
          have qy3 : wz.cell? ⟨gy, 3, none⟩ = some (.bool g.f3) := (blk_cell BK_gy.out 3).trans rfl
          have qy4 : wz.cell? ⟨gy, 4, none⟩ = some (.slice A5 g.f4.length c5) := (blk_cell BK_gy.out 4).trans rfl
          by_cases h0 : f.f0 = g.f0
          case neg =>
            obtain rfl : r = false := by rw [← HQ3.out]; unfold sameF; rw [beq_eq_false_iff_ne.2 h0]; rfl
            have b0 : (f.f0 != g.f0) = true := bne_iff_ne.mpr h0
            clear h0 HQ3
            go_wp2
            go_ret
            exact ⟨rfl, by repeat (with_reducible first | exact HB.out | apply below_drew1 | apply pw_below_drewN)⟩
          have H0 := Aside0.mk h0
          have b0 : (f.f0 != g.f0) = false := bne_eq_false_iff_eq.mpr h0
          clear h0
          by_cases h1 : f.f1 = g.f1
          case neg =>
            obtain rfl : r = false := by rw [← HQ3.out]; unfold sameF; rw [beq_iff_eq.2 H0.out, beq_eq_false_iff_ne.2 h1]; rfl
            have b1 : (f.f1 != g.f1) = true := bne_iff_ne.mpr h1
            clear h1 HQ3
            go_wp2
            go_ret
            exact ⟨rfl, by repeat (with_reducible first | exact HB.out | apply below_drew1 | apply pw_below_drewN)⟩
          have H1 := Aside0.mk h1
          have b1 : (f.f1 != g.f1) = false := bne_eq_false_iff_eq.mpr h1
          clear h1
          by_cases h2 : f.f2 = g.f2
          case neg =>
            obtain rfl : r = false := by rw [← HQ3.out]; unfold sameF; rw [beq_iff_eq.2 H0.out, beq_iff_eq.2 H1.out, beq_eq_false_iff_ne.2 h2]; rfl
            clear HQ3
            cases hx : f.f2 <;> cases hy : g.f2
            · exact absurd (hx.trans hy.symm) h2
            · rw [hx] at qx2
              rw [hy] at qy2
              clear hx hy h2
              go_wp2
              go_ret
              exact ⟨rfl, by repeat (with_reducible first | exact HB.out | apply below_drew1 | apply pw_below_drewN)⟩
            · rw [hx] at qx2
              rw [hy] at qy2
              clear hx hy h2
              go_wp2
              go_ret
              exact ⟨rfl, by repeat (with_reducible first | exact HB.out | apply below_drew1 | apply pw_below_drewN)⟩
            · exact absurd (hx.trans hy.symm) h2
          have H2 := Aside0.mk h2
          rw [h2] at qx2
          clear h2
          by_cases h3 : f.f3 = g.f3
          case neg =>
            obtain rfl : r = false := by rw [← HQ3.out]; unfold sameF; rw [beq_iff_eq.2 H0.out, beq_iff_eq.2 H1.out, beq_iff_eq.2 H2.out, beq_eq_false_iff_ne.2 h3]; rfl
            clear HQ3
            cases hx : f.f3 <;> cases hy : g.f3
            · exact absurd (hx.trans hy.symm) h3
            · rw [hx] at qx3
              rw [hy] at qy3
              clear hx hy h3
              go_wp2
              go_ret
              exact ⟨rfl, by repeat (with_reducible first | exact HB.out | apply below_drew1 | apply pw_below_drewN)⟩
            · rw [hx] at qx3
              rw [hy] at qy3
              clear hx hy h3
              go_wp2
              go_ret
              exact ⟨rfl, by repeat (with_reducible first | exact HB.out | apply below_drew1 | apply pw_below_drewN)⟩
            · exact absurd (hx.trans hy.symm) h3
          have H3 := Aside0.mk h3
          rw [h3] at qx3
          clear h3
          obtain ⟨k, hk⟩ : ∃ k, k = f.f4.length + 1 := ⟨_, rfl⟩
          have HIN : Aside0 (reedpiperef06_Ints.f k f.f4 g.f4 = some (decide (f.f4 = g.f4))) := ⟨SP.ints_f f.f4 g.f4 (HSM.out x (by rw [HEa.out]; exact List.getElem_mem hlt) f (by rw [HFx.out]; exact List.getElem_mem hlt2)) k (by omega)⟩
          clear hk
          obtain ⟨eq, heq⟩ : ∃ z, z = decide (f.f4 = g.f4) := ⟨_, rfl⟩
          rw [← heq] at HIN
          have HEQ := Aside0.mk heq
          clear heq
          cases eq with
          | false =>
            obtain rfl : r = false := by rw [← HQ3.out]; unfold sameF; rw [← HEQ.out]; simp
            clear HQ3
            go_wp2_with (first | (go_at_call 29; (with_reducible refine (reedpiperef06_Ints.calls k A4 c4 f.f4 A5 c5 g.f4 false _ (Kd.C_below HCx.out HB.out) HCxl.out (Kd.C_below HCy.out HB.out) HCyl.out HIN.out).mono ?_); rintro e w' ⟨rfl, ⟨⟨nd, rfl⟩⟩⟩))
            go_ret
            exact ⟨rfl, by repeat (with_reducible first | exact HB.out | apply below_drew1 | apply pw_below_drewN)⟩
          | true =>
            have HQ4 : Aside0 ((sameW (x.drop (jj + 1)) (y.drop (jj + 1)) && sameL (a.drop (ii + 1)) (b.drop (ii + 1))) = r) := ⟨by have := HQ3.out; unfold sameF at this; rw [← HEQ.out, beq_iff_eq.2 H0.out, beq_iff_eq.2 H1.out, beq_iff_eq.2 H2.out, beq_iff_eq.2 H3.out] at this; simpa using this⟩
            go_wp2_with (first | (go_at_call 29; (with_reducible refine (reedpiperef06_Ints.calls k A4 c4 f.f4 A5 c5 g.f4 true _ (Kd.C_below HCx.out HB.out) HCxl.out (Kd.C_below HCy.out HB.out) HCyl.out HIN.out).mono ?_); rintro e w' ⟨rfl, ⟨⟨nd, rfl⟩⟩⟩))
            go_roundg (x.length - (jj + 1))
            case measure => omega
            case rel => exact ⟨jj + 1, by omega, by omega, by have := HXM.out; first | go_num | (congr 1; unfold wrap64; omega), ⟨by repeat (with_reducible first | exact HB.out | apply below_drew1 | apply pw_below_drewN)⟩, HQ4⟩
        · have hltz2 : ¬ (jj : Int) < (x.length : Int) := by omega
          obtain rfl : jj = x.length := by omega
          have HQ4 : Aside0 (sameL (a.drop (ii + 1)) (b.drop (ii + 1)) = r) := ⟨by have := HQ.out; rw [List.drop_of_length_le (Nat.le_refl _), List.drop_of_length_le (by rw [HLW.out]; exact Nat.le_refl _)] at this; simpa [sameW] using this⟩
          go_wp2
          go_roundg (a.length - (ii + 1))
          case measure => omega
          case rel => exact ⟨ii + 1, by omega, by omega, by have := HAM.out; first | go_num | (congr 1; unfold wrap64; omega), HB, HQ4⟩
    · have hltz : ¬ (ii : Int) < (a.length : Int) := by omega
      obtain rfl : ii = a.length := by omega
      obtain rfl : r = true := by have := HQ.out; rw [List.drop_of_length_le (Nat.le_refl _), List.drop_of_length_le (by rw [HLN.out]; exact Nat.le_refl _)] at this; simpa [sameL] using this.symm
      go_wp2
      go_ret
      exact ⟨rfl, HB.out⟩
end Go.Proofs.Ytdhcgfdnhlhapaa.HST
end
section
-- Written for this claim by this session's own wip/hook.py (it runs the kit's print and takes some functions' contracts as given texts of this session's).
namespace Go.Proofs.Ytdhcgfdnhlhapaa.K
open Go.RowKit Go.Proofs.YtdhcgfdnhlhapaaW.PrintWords Go.Proofs.YtdhcgfdnhlhapaaW.PrintLast Go.Proofs.YtdhcgfdnhlhapaaW.PrintMore
attribute [local go_sem] max2_int min2_int max_two min_two max_three min_three max_four min_four   -- for this text's walks alone
set_option linter.unusedVariables false
set_option linter.unusedSimpArgs false

/-! ### reedpiperef18_SameTns: function 14: GIVEN BY HAND -/
-- IMPORT Derived.Test.YtdhcgfdnhlhapaaHST

def reedpiperef18_SameTns.f (l0 : List (List (S38))) (l1 : List (List (S38))) : Option (Bool) := if (∀ x ∈ l0, ∀ f ∈ x, f.f4.length ≤ 4611686018427387904) then some (HST.sameL l0 l1) else none
set_option maxHeartbeats 8000000 in
set_option maxRecDepth 100000 in
theorem reedpiperef18_SameTns.calls (A0 : Option Addr) (c0 : Nat) (l0 : List (List (S38))) (A1 : Option Addr) (c1 : Nat) (l1 : List (List (S38))) (r : Bool) (w : World) (hr0 : Kd.C (Kd.slice 38 k38) w A0 l0.length l0) (hc0 : l0.length ≤ c0) (hr1 : Kd.C (Kd.slice 38 k38) w A1 l1.length l1) (hc1 : l1.length ≤ c1) (h : reedpiperef18_SameTns.f l0 l1 = some r) :
    Calls Try.prog 14 #[.slice A0 l0.length c0, .slice A1 l1.length c1] w fun e w' => e = .returned (.bool r) ∧ Below w.heap.size w w' := by
  unfold reedpiperef18_SameTns.f at h
  by_cases hb : (∀ x ∈ l0, ∀ f ∈ x, f.f4.length ≤ 4611686018427387904)
  case neg => rw [if_neg hb] at h; cases h
  rw [if_pos hb] at h
  obtain rfl := Option.some.inj h
  exact HST.same_calls A0 c0 l0 A1 c1 l1 w hb hr0 hr1

end Go.Proofs.Ytdhcgfdnhlhapaa.K
end
section
-- Written for this claim by this session's own wip/hook.py (it runs the kit's print and takes some functions' contracts as given texts of this session's).
namespace Go.Proofs.Ytdhcgfdnhlhapaa.K
open Go.RowKit Go.Proofs.YtdhcgfdnhlhapaaW.PrintWords Go.Proofs.YtdhcgfdnhlhapaaW.PrintLast Go.Proofs.YtdhcgfdnhlhapaaW.PrintMore
attribute [local go_sem] max2_int min2_int max_two min_two max_three min_three max_four min_four   -- for this text's walks alone
set_option linter.unusedVariables false
set_option linter.unusedSimpArgs false

/-! ### reedpipelaw21_TnsbitsBack: function 6 -/
mutual
def reedpipelaw21_TnsbitsBack.j0 : Nat → List (List (S38)) → List Int → List Int → Int → Bool → Bool → Int → Int → Int → List Int → Option (Bool)
  | 0, _, _, _, _, _, _, _, _, _, _ => none
  | k + 1, x1, x2, x3, x4, x11, x44, x256000, x256001, x256002, x256003 => if x44 = true then (some x11) else ((tnsbits_Put.f ([] : List Int) x256000 x256001 x256002 x256003 x1).bind fun bt258 => ((tnsbits_Check.f x256000 x256001 x256002 x256003 x1).bind fun t262 => (if ((bt258.2 == 0) != (t262 == 0)) = true then (some false) else (if bt258.2 = 0 then ((some (([] : List Int) : List Int)).bind fun y263 => (if y263.length + bt258.1.length < 140737488355328 then ((some (y263 ++ bt258.1 : List Int)).bind fun y266 => (if y266.length + x2.length < 140737488355328 then ((tnsbits_Get.f (y266 ++ x2) 0 x256000 x256001 x256002 x256003).bind fun bt272 => (if bt272.2.2 = 0 then ((reedpiperef18_SameTns.f bt272.1 x1).bind fun t277 => (if t277 = true then (if bt272.2.1 = (bt258.1.length : Int) then (reedpipelaw21_TnsbitsBack.j1 k x3 x4 x256000 x256001 x256002 x256003) else (some false)) else (some false))) else (some false))) else (none))) else (none))) else (reedpipelaw21_TnsbitsBack.j1 k x3 x4 x256000 x256001 x256002 x256003)))))
def reedpipelaw21_TnsbitsBack.j1 : Nat → List Int → Int → Int → Int → Int → List Int → Option (Bool)
  | 0, _, _, _, _, _, _ => none
  | k + 1, x3, x4, x256000, x256001, x256002, x256003 => (tnsbits_Get.f x3 x4 x256000 x256001 x256002 x256003).bind fun bt278 => (if bt278.2.2 = 0 then ((tnsbits_Put.f ([] : List Int) x256000 x256001 x256002 x256003 bt278.1).bind fun bt283 => (if bt283.2 = 0 then (if 0 ≤ x4 then (if x4 ≤ bt278.2.1 then (if bt278.2.1 ≤ (x3.length : Int) then (some ((strOfNums bt283.1).toList == (strOfNums ((x3.take (bt278.2.1 : Int).toNat).drop (x4 : Int).toNat)).toList)) else (none)) else (none)) else (none)) else (some false))) else (if (bt278.1.length : Int) = 0 then (some (bt278.2.1 == 0)) else (some false)))
end
def reedpipelaw21_TnsbitsBack.f (k : Nat) (a0_0 : Int) (a0_1 : Int) (a0_2 : Int) (l0_3 : List Int) (l1 : List (List (S38))) (l2 : List Int) (l3 : List Int) (a4 : Int) : Option (Bool) := (reedpipelaw21_alive.f).bind fun t256 => (if (l0_3.length : Int) > 1000 then (reedpipelaw21_TnsbitsBack.j0 k l1 l2 l3 a4 t256 true a0_0 a0_1 a0_2 l0_3) else ((reedpiperef21_Great.f k l1).bind fun t257 => (if t257 = true then (reedpipelaw21_TnsbitsBack.j0 k l1 l2 l3 a4 t256 true a0_0 a0_1 a0_2 l0_3) else (if (l2.length : Int) > 10000 then (reedpipelaw21_TnsbitsBack.j0 k l1 l2 l3 a4 t256 true a0_0 a0_1 a0_2 l0_3) else (if (l3.length : Int) > 10000 then (reedpipelaw21_TnsbitsBack.j0 k l1 l2 l3 a4 t256 true a0_0 a0_1 a0_2 l0_3) else (reedpipelaw21_TnsbitsBack.j0 k l1 l2 l3 a4 t256 (!t256) a0_0 a0_1 a0_2 l0_3))))))
theorem reedpipelaw21_TnsbitsBack.mono_l : ∀ k, (∀ y0 y1 y2 y3 y4 y5 y6 y7 y8 y9, LeO (reedpipelaw21_TnsbitsBack.j0 k y0 y1 y2 y3 y4 y5 y6 y7 y8 y9) (reedpipelaw21_TnsbitsBack.j0 (k + 1) y0 y1 y2 y3 y4 y5 y6 y7 y8 y9)) ∧ (∀ y0 y1 y2 y3 y4 y5, LeO (reedpipelaw21_TnsbitsBack.j1 k y0 y1 y2 y3 y4 y5) (reedpipelaw21_TnsbitsBack.j1 (k + 1) y0 y1 y2 y3 y4 y5))
  | 0 => ⟨fun _ _ _ _ _ _ _ _ _ _ r h => by simp [reedpipelaw21_TnsbitsBack.j0] at h, fun _ _ _ _ _ _ r h => by simp [reedpipelaw21_TnsbitsBack.j1] at h⟩
  | k + 1 => by
    obtain ⟨ih0, ih1⟩ := reedpipelaw21_TnsbitsBack.mono_l k
    refine ⟨?_, ?_⟩
    · intro y0 y1 y2 y3 y4 y5 y6 y7 y8 y9
      unfold reedpipelaw21_TnsbitsBack.j0
      repeat' first
      | (with_reducible exact ih0 _ _ _ _ _ _ _ _ _ _)
      | (with_reducible exact ih1 _ _ _ _ _ _)
      | (with_reducible exact reedpiperef21_Great.mono _ _)
      | (with_reducible exact LeO.refl _)
      | (with_reducible exact LeO.none _)
      | (with_reducible refine LeO.ite ?_ ?_)
      | (with_reducible refine LeO.bind ?_ (fun _ => ?_))
      | exact ih0 _ _ _ _ _ _ _ _ _ _
      | exact ih1 _ _ _ _ _ _
      | exact reedpiperef21_Great.mono _ _
      | exact LeO.none _
      | refine LeO.ite ?_ ?_
      | refine LeO.bind ?_ (fun _ => ?_)
    · intro y0 y1 y2 y3 y4 y5
      unfold reedpipelaw21_TnsbitsBack.j1
      repeat' first
      | (with_reducible exact ih0 _ _ _ _ _ _ _ _ _ _)
      | (with_reducible exact ih1 _ _ _ _ _ _)
      | (with_reducible exact reedpiperef21_Great.mono _ _)
      | (with_reducible exact LeO.refl _)
      | (with_reducible exact LeO.none _)
      | (with_reducible refine LeO.ite ?_ ?_)
      | (with_reducible refine LeO.bind ?_ (fun _ => ?_))
      | exact ih0 _ _ _ _ _ _ _ _ _ _
      | exact ih1 _ _ _ _ _ _
      | exact reedpiperef21_Great.mono _ _
      | exact LeO.none _
      | refine LeO.ite ?_ ?_
      | refine LeO.bind ?_ (fun _ => ?_)
theorem reedpipelaw21_TnsbitsBack.mono : ∀ a0 a1 a2 a3 a4 a5 a6 a7 k, LeO (reedpipelaw21_TnsbitsBack.f k a0 a1 a2 a3 a4 a5 a6 a7) (reedpipelaw21_TnsbitsBack.f (k + 1) a0 a1 a2 a3 a4 a5 a6 a7) := by
  intro a0 a1 a2 a3 a4 a5 a6 a7 k
  obtain ⟨ih0, ih1⟩ := reedpipelaw21_TnsbitsBack.mono_l k
  unfold reedpipelaw21_TnsbitsBack.f
  repeat' first
      | (with_reducible exact ih0 _ _ _ _ _ _ _ _ _ _)
      | (with_reducible exact ih1 _ _ _ _ _ _)
      | (with_reducible exact reedpiperef21_Great.mono _ _)
      | (with_reducible exact LeO.refl _)
      | (with_reducible exact LeO.none _)
      | (with_reducible refine LeO.ite ?_ ?_)
      | (with_reducible refine LeO.bind ?_ (fun _ => ?_))
      | exact ih0 _ _ _ _ _ _ _ _ _ _
      | exact ih1 _ _ _ _ _ _
      | exact reedpiperef21_Great.mono _ _
      | exact LeO.none _
      | refine LeO.ite ?_ ?_
      | refine LeO.bind ?_ (fun _ => ?_)
def reedpipelaw21_TnsbitsBack.T8 : Bool × List (List Nat × List Nat) := (true, [([], []), ([], []), ([0, 1], [0, 1]), ([], []), ([2, 3, 2], [2, 3]), ([], []), ([4, 5, 4], [4, 5]), ([6], [6]), ([7], [7]), ([7], [7]), ([7], [7]), ([8, 6, 0, 1, 2, 3, 4, 5, 6, 7, 8], [8]), ([9, 11, 0, 1, 2, 3, 4, 5, 6, 7, 8, 9, 11], [9]), ([10, 12, 0, 1, 2, 3, 4, 5, 6, 7, 8, 9, 10, 11, 12], [10])])
def reedpipelaw21_TnsbitsBack.B8 : List Nat := [0, 0, 3, 0, 15, 0, 63, 127, 255, 255, 255, 511, 3071, 8191]
theorem reedpipelaw21_TnsbitsBack.tab8 : rtab .any (opsOf Try.f6 8) = reedpipelaw21_TnsbitsBack.T8 := by kernel_rfl
theorem reedpipelaw21_TnsbitsBack.bits8 : waitsOk reedpipelaw21_TnsbitsBack.T8.2 reedpipelaw21_TnsbitsBack.B8 = true := by kernel_rfl
def reedpipelaw21_TnsbitsBack.T15 : Bool × List (List Nat × List Nat) := (true, [([], []), ([0], [0]), ([1], [1]), ([2], [2]), ([3, 2], [2, 3]), ([2], [2]), ([2], [2]), ([2], [2]), ([5, 6, 7, 2], [2, 5, 6, 7]), ([8, 2], [2, 8]), ([4, 9, 2], [2, 4, 9]), ([2, 10], [2, 10]), ([11, 2, 0, 1, 2, 3, 4, 5, 6, 7, 8, 9, 10, 11], [11])])
def reedpipelaw21_TnsbitsBack.B15 : List Nat := [0, 1, 3, 7, 15, 7, 7, 7, 231, 487, 1023, 2047, 4095]
theorem reedpipelaw21_TnsbitsBack.tab15 : rtab .any (opsOf Try.f6 15) = reedpipelaw21_TnsbitsBack.T15 := by kernel_rfl
theorem reedpipelaw21_TnsbitsBack.bits15 : waitsOk reedpipelaw21_TnsbitsBack.T15.2 reedpipelaw21_TnsbitsBack.B15 = true := by kernel_rfl
set_option maxHeartbeats 8000000 in
set_option maxRecDepth 100000 in
theorem reedpipelaw21_TnsbitsBack.calls (k : Nat) (a0_0 : Int) (a0_1 : Int) (a0_2 : Int) (A0_3 : Option Addr) (c0_3 : Nat) (l0_3 : List Int) (A1 : Option Addr) (c1 : Nat) (l1 : List (List (S38))) (A2 : Option Addr) (c2 : Nat) (l2 : List Int) (A3 : Option Addr) (c3 : Nat) (l3 : List Int) (a4 : Int) (r : Bool) (w : World) (hr0_3 : Kd.C (Kd.int .i64) w A0_3 l0_3.length l0_3) (hc0_3 : l0_3.length ≤ c0_3) (hr1 : Kd.C (Kd.slice 38 k38) w A1 l1.length l1) (hc1 : l1.length ≤ c1) (hr2 : Kd.C (Kd.int .u8) w A2 l2.length l2) (hc2 : l2.length ≤ c2) (hr3 : Kd.C (Kd.int .u8) w A3 l3.length l3) (hc3 : l3.length ≤ c3) (hr0 : Aside0 (r = true)) (h : reedpipelaw21_TnsbitsBack.f k  a0_0 a0_1 a0_2 l0_3 l1 l2 l3 a4 = some r) :
    Calls Try.prog 6 #[.agg #[.int .u8 a0_0, .int .u8 a0_1, .int .i64 a0_2, .slice A0_3 l0_3.length c0_3], .slice A1 l1.length c1, .slice A2 l2.length c2, .slice A3 l3.length c3, .int .i64 a4] w fun e w' => e = .returned (.bool r) ∧ Below w.heap.size w w' := by
  have hu24 := Try.underlying24
  have HR0_3 := Aside0.mk hr0_3
  have HC0_3 := Aside0.mk hc0_3
  clear hr0_3 hc0_3
  have HR1 := Aside0.mk hr1
  have HC1 := Aside0.mk hc1
  clear hr1 hc1
  have HR2 := Aside0.mk hr2
  have HC2 := Aside0.mk hc2
  clear hr2 hc2
  have HR3 := Aside0.mk hr3
  have HC3 := Aside0.mk hc3
  clear hr3 hc3
  have HB := Aside0.mk (Below.refl w.heap.size w)
  have H : ((reedpipelaw21_alive.f).bind fun t256 => (if (l0_3.length : Int) > 1000 then (reedpipelaw21_TnsbitsBack.j0 k l1 l2 l3 a4 t256 true a0_0 a0_1 a0_2 l0_3) else ((reedpiperef21_Great.f k l1).bind fun t257 => (if t257 = true then (reedpipelaw21_TnsbitsBack.j0 k l1 l2 l3 a4 t256 true a0_0 a0_1 a0_2 l0_3) else (if (l2.length : Int) > 10000 then (reedpipelaw21_TnsbitsBack.j0 k l1 l2 l3 a4 t256 true a0_0 a0_1 a0_2 l0_3) else (if (l3.length : Int) > 10000 then (reedpipelaw21_TnsbitsBack.j0 k l1 l2 l3 a4 t256 true a0_0 a0_1 a0_2 l0_3) else (reedpipelaw21_TnsbitsBack.j0 k l1 l2 l3 a4 t256 (!t256) a0_0 a0_1 a0_2 l0_3))))))) = some r := h
  clear h
  replace H := Option.bind_eq_some_iff.mp H
  obtain ⟨t256, A60, H⟩ := H
  replace H : (if (l0_3.length : Int) > 1000 then (reedpipelaw21_TnsbitsBack.j0 k l1 l2 l3 a4 t256 true a0_0 a0_1 a0_2 l0_3) else ((reedpiperef21_Great.f k l1).bind fun t257 => (if t257 = true then (reedpipelaw21_TnsbitsBack.j0 k l1 l2 l3 a4 t256 true a0_0 a0_1 a0_2 l0_3) else (if (l2.length : Int) > 10000 then (reedpipelaw21_TnsbitsBack.j0 k l1 l2 l3 a4 t256 true a0_0 a0_1 a0_2 l0_3) else (if (l3.length : Int) > 10000 then (reedpipelaw21_TnsbitsBack.j0 k l1 l2 l3 a4 t256 true a0_0 a0_1 a0_2 l0_3) else (reedpipelaw21_TnsbitsBack.j0 k l1 l2 l3 a4 t256 (!t256) a0_0 a0_1 a0_2 l0_3)))))) = some r := H
  have A6 := Aside0.mk A60
  clear A60
  have HC7 := Aside0.mk H
  clear H
  go_enter Try.func6, Try.ntmps6
  go_upto_region 2 with (first | ((with_reducible refine gate_dst (N := 5) rfl ?_); (try (refine gate_guard (by rfl) ?_; dsimp only)); refine box_event ?hg (N := 5) ?hd (cs := #[.int .u8 a0_0, .int .u8 a0_1, .int .i64 a0_2, .slice A0_3 l0_3.length c0_3]) (t := 24) ?hr ?_; (case hd => rfl); (case hg => rfl); (case hr => first | (go_simp; done) | (go_simp; rfl)); intro gb255 hg w8 hbox hb; have n0_ := Aside0.mk (below_step (by repeat (first | (with_reducible first | exact HB.out | apply below_alloc | apply pw_below_drewN | apply below_drew1) | exact HB.out)) hb); have n1_ := Aside0.mk (hbox); have n2_ := Aside0.mk ((by rw [hg]; exact (below_size (by repeat (first | (with_reducible first | exact HB.out | apply below_alloc | apply pw_below_drewN | apply below_drew1) | exact HB.out))) : w.heap.size ≤ gb255)); have n3_ := Aside0.mk ((by rw [hg]; exact (below_size (by repeat (first | (with_reducible first | exact HB.out | apply below_alloc | apply pw_below_drewN | apply below_drew1) | exact HB.out))) : w.heap.size ≤ gb255)); clear HB; have HB := n0_; have BK255 := n1_; have GW255 := n2_; have GE255 := n3_; clear n0_ n1_ n2_ n3_; clear hb hbox hg) | ((with_reducible refine gate_callee (f := 7) rfl ?_); refine goesL_ (some 22) rfl rfl Try.func7 (by kernel_rfl) rfl #[] rfl (by (try simp only [List.map_toArray, List.map_cons, List.map_nil]); first | done | rfl | (simp only [List.length_drop, List.length_take]; rfl)) ?_; (with_reducible refine (reedpipelaw21_alive.calls  t256 _ A6.out).mono ?_); rintro e w9 ⟨rfl, hb⟩; refine ⟨_, rfl, ?_⟩; have n0_ := Aside0.mk (blk_below (g := gb255) (o := .cells #[.int .u8 a0_0, .int .u8 a0_1, .int .i64 a0_2, .slice A0_3 l0_3.length c0_3] 24 (0, 0)) (by (with_reducible repeat (first | refine blk_drewN ?_ _ | refine blk_drew ?_ | refine blk_alloc ?_ _)); exact BK255.out) hb); have n1_ := Aside0.mk (below_step (by repeat (first | (with_reducible first | exact HB.out | apply below_alloc | apply pw_below_drewN | apply below_drew1 | refine below_set ?_ GE255.out) | exact HB.out)) hb); clear BK255; clear HB; have BK255 := n0_; have HB := n1_; clear n0_ n1_; (try clear hb); (try clear hb2); (try clear hk); (try clear hi)))
  (try simp only [Act.put, List.setIfInBounds_toArray, List.set_cons_zero, List.set_cons_succ])
  go_cut [44] (fun v44 wc => ∃ (kq : Nat) (x44_6 : Bool), v44 = .bool x44_6 ∧ Aside0 (reedpipelaw21_TnsbitsBack.j0 kq l1 l2 l3 a4 t256 x44_6 a0_0 a0_1 a0_2 l0_3 = some r) ∧ Aside0 (kq ≤ k) ∧ Aside0 (wc.heap[gb255]? = some (.cells #[.int .u8 a0_0, .int .u8 a0_1, .int .i64 a0_2, (.slice A0_3 l0_3.length c0_3)] 24 (0, 0))) ∧ Aside0 (Below w.heap.size w wc))
  case first =>
    have H := HC7.out
    clear HC7
    by_cases c10 : (l0_3.length : Int) > 1000
    · rw [if_pos c10] at H
      have c10b0 : decide (1000 < (l0_3.length : Int)) = true := decide_eq_true c10
      have c10b1 : decide (1000 < l0_3.length) = true := decide_eq_true (by omega)
      clear c10
      (first | rw [c10b0] | (simp only [i64_w, i32_w]; rw [c10b0]) | skip)
      have H' := Aside0.mk H
      clear H
      have hcz11_0 : w9.cell? ⟨gb255, 0, none⟩ = some (.int .u8 a0_0) := (blk_cell BK255.out 0).trans rfl
      have hcz11_1 : w9.cell? ⟨gb255, 1, none⟩ = some (.int .u8 a0_1) := (blk_cell BK255.out 1).trans rfl
      have hcz11_2 : w9.cell? ⟨gb255, 2, none⟩ = some (.int .i64 a0_2) := (blk_cell BK255.out 2).trans rfl
      have hcz11_3 : w9.cell? ⟨gb255, 3, none⟩ = some (.slice A0_3 l0_3.length c0_3) := (blk_cell BK255.out 3).trans rfl
      have hfz11_0 := blk_frozen BK255.out 0
      have hfz11_1 := blk_frozen BK255.out 1
      have hfz11_2 := blk_frozen BK255.out 2
      have hfz11_3 := blk_frozen BK255.out 3
      go_wp2
      go_meet
      case rel => exact ⟨_, (true), (by first | rfl | (simp; done) | (simp [*]; done)), H', ⟨by first | omega | exact Nat.le_refl _⟩, ⟨by (with_reducible repeat (first | refine blk_drewN ?_ _ | refine blk_drew ?_ | refine blk_alloc ?_ _)); exact BK255.out⟩, ⟨by repeat (first | (with_reducible first | exact HB.out | apply below_alloc | apply pw_below_drewN | apply below_drew1 | refine below_set ?_ GE255.out) | exact HB.out)⟩⟩
    · rw [if_neg c10] at H
      have c10b0 : decide (1000 < (l0_3.length : Int)) = false := decide_eq_false c10
      have c10b1 : decide (1000 < l0_3.length) = false := decide_eq_false (by omega)
      clear c10
      (first | rw [c10b0] | (simp only [i64_w, i32_w]; rw [c10b0]) | skip)
      replace H := Option.bind_eq_some_iff.mp H
      obtain ⟨t257, A120, H⟩ := H
      replace H : (if t257 = true then (reedpipelaw21_TnsbitsBack.j0 k l1 l2 l3 a4 t256 true a0_0 a0_1 a0_2 l0_3) else (if (l2.length : Int) > 10000 then (reedpipelaw21_TnsbitsBack.j0 k l1 l2 l3 a4 t256 true a0_0 a0_1 a0_2 l0_3) else (if (l3.length : Int) > 10000 then (reedpipelaw21_TnsbitsBack.j0 k l1 l2 l3 a4 t256 true a0_0 a0_1 a0_2 l0_3) else (reedpipelaw21_TnsbitsBack.j0 k l1 l2 l3 a4 t256 (!t256) a0_0 a0_1 a0_2 l0_3)))) = some r := H
      have A12 := Aside0.mk A120
      clear A120
      by_cases c13 : t257 = true
      · subst c13
        have H1 : (reedpipelaw21_TnsbitsBack.j0 k l1 l2 l3 a4 t256 true a0_0 a0_1 a0_2 l0_3) = some r := by rw [if_pos rfl] at H; exact H
        clear H
        have H := H1
        clear H1
        have H' := Aside0.mk H
        clear H
        have hcz14_0 : w9.cell? ⟨gb255, 0, none⟩ = some (.int .u8 a0_0) := (blk_cell BK255.out 0).trans rfl
        have hcz14_1 : w9.cell? ⟨gb255, 1, none⟩ = some (.int .u8 a0_1) := (blk_cell BK255.out 1).trans rfl
        have hcz14_2 : w9.cell? ⟨gb255, 2, none⟩ = some (.int .i64 a0_2) := (blk_cell BK255.out 2).trans rfl
        have hcz14_3 : w9.cell? ⟨gb255, 3, none⟩ = some (.slice A0_3 l0_3.length c0_3) := (blk_cell BK255.out 3).trans rfl
        have hfz14_0 := blk_frozen BK255.out 0
        have hfz14_1 := blk_frozen BK255.out 1
        have hfz14_2 := blk_frozen BK255.out 2
        have hfz14_3 := blk_frozen BK255.out 3
        go_wp2_with (first | (go_at_call 8; (with_reducible refine (reedpiperef21_Great.calls k _ _ l1 true _ ?side1 ?side2 A12.out).mono ?_); (case side1 => repeat (first | exact (Kd.C_below HR1.out HB.out) | (with_reducible refine Kd.C_alloc ?_ _) | (with_reducible refine Kd.C_drewN ?_ _) | (with_reducible refine Kd.C_drew ?_))); (case side2 => exact HC1.out); rintro e w15 ⟨rfl, hb⟩; have n0_ := Aside0.mk (blk_below (g := gb255) (o := .cells #[.int .u8 a0_0, .int .u8 a0_1, .int .i64 a0_2, .slice A0_3 l0_3.length c0_3] 24 (0, 0)) (by (with_reducible repeat (first | refine blk_drewN ?_ _ | refine blk_drew ?_ | refine blk_alloc ?_ _)); exact BK255.out) hb); have n1_ := Aside0.mk (below_step (by repeat (first | (with_reducible first | exact HB.out | apply below_alloc | apply pw_below_drewN | apply below_drew1 | refine below_set ?_ GE255.out) | exact HB.out)) hb); clear BK255; clear HB; have BK255 := n0_; have HB := n1_; clear n0_ n1_; (try clear hb); (try clear hb2); (try clear hk); (try clear hi)))
        go_meet
        case rel => exact ⟨_, (true), (by first | rfl | (simp; done) | (simp [*]; done)), H', ⟨by first | omega | exact Nat.le_refl _⟩, ⟨by (with_reducible repeat (first | refine blk_drewN ?_ _ | refine blk_drew ?_ | refine blk_alloc ?_ _)); exact BK255.out⟩, ⟨by repeat (first | (with_reducible first | exact HB.out | apply below_alloc | apply pw_below_drewN | apply below_drew1 | refine below_set ?_ GE255.out) | exact HB.out)⟩⟩
      · replace c13 := Bool.eq_false_iff.mpr c13
        subst c13
        have H1 : (if (l2.length : Int) > 10000 then (reedpipelaw21_TnsbitsBack.j0 k l1 l2 l3 a4 t256 true a0_0 a0_1 a0_2 l0_3) else (if (l3.length : Int) > 10000 then (reedpipelaw21_TnsbitsBack.j0 k l1 l2 l3 a4 t256 true a0_0 a0_1 a0_2 l0_3) else (reedpipelaw21_TnsbitsBack.j0 k l1 l2 l3 a4 t256 (!t256) a0_0 a0_1 a0_2 l0_3))) = some r := by rw [if_neg (show ¬ (false = true) by decide)] at H; exact H
        clear H
        have H := H1
        clear H1
        by_cases c16 : (l2.length : Int) > 10000
        · rw [if_pos c16] at H
          have c16b0 : decide (10000 < (l2.length : Int)) = true := decide_eq_true c16
          have c16b1 : decide (10000 < l2.length) = true := decide_eq_true (by omega)
          clear c16
          have H' := Aside0.mk H
          clear H
          have hcz17_0 : w9.cell? ⟨gb255, 0, none⟩ = some (.int .u8 a0_0) := (blk_cell BK255.out 0).trans rfl
          have hcz17_1 : w9.cell? ⟨gb255, 1, none⟩ = some (.int .u8 a0_1) := (blk_cell BK255.out 1).trans rfl
          have hcz17_2 : w9.cell? ⟨gb255, 2, none⟩ = some (.int .i64 a0_2) := (blk_cell BK255.out 2).trans rfl
          have hcz17_3 : w9.cell? ⟨gb255, 3, none⟩ = some (.slice A0_3 l0_3.length c0_3) := (blk_cell BK255.out 3).trans rfl
          have hfz17_0 := blk_frozen BK255.out 0
          have hfz17_1 := blk_frozen BK255.out 1
          have hfz17_2 := blk_frozen BK255.out 2
          have hfz17_3 := blk_frozen BK255.out 3
          go_wp2_with (first | (go_at_call 8; (with_reducible refine (reedpiperef21_Great.calls k _ _ l1 false _ ?side1 ?side2 A12.out).mono ?_); (case side1 => repeat (first | exact (Kd.C_below HR1.out HB.out) | (with_reducible refine Kd.C_alloc ?_ _) | (with_reducible refine Kd.C_drewN ?_ _) | (with_reducible refine Kd.C_drew ?_))); (case side2 => exact HC1.out); rintro e w18 ⟨rfl, hb⟩; have n0_ := Aside0.mk (blk_below (g := gb255) (o := .cells #[.int .u8 a0_0, .int .u8 a0_1, .int .i64 a0_2, .slice A0_3 l0_3.length c0_3] 24 (0, 0)) (by (with_reducible repeat (first | refine blk_drewN ?_ _ | refine blk_drew ?_ | refine blk_alloc ?_ _)); exact BK255.out) hb); have n1_ := Aside0.mk (below_step (by repeat (first | (with_reducible first | exact HB.out | apply below_alloc | apply pw_below_drewN | apply below_drew1 | refine below_set ?_ GE255.out) | exact HB.out)) hb); clear BK255; clear HB; have BK255 := n0_; have HB := n1_; clear n0_ n1_; (try clear hb); (try clear hb2); (try clear hk); (try clear hi)))
          go_meet
          case rel => exact ⟨_, (true), (by first | rfl | (simp; done) | (simp [*]; done)), H', ⟨by first | omega | exact Nat.le_refl _⟩, ⟨by (with_reducible repeat (first | refine blk_drewN ?_ _ | refine blk_drew ?_ | refine blk_alloc ?_ _)); exact BK255.out⟩, ⟨by repeat (first | (with_reducible first | exact HB.out | apply below_alloc | apply pw_below_drewN | apply below_drew1 | refine below_set ?_ GE255.out) | exact HB.out)⟩⟩
        · rw [if_neg c16] at H
          have c16b0 : decide (10000 < (l2.length : Int)) = false := decide_eq_false c16
          have c16b1 : decide (10000 < l2.length) = false := decide_eq_false (by omega)
          clear c16
          by_cases c19 : (l3.length : Int) > 10000
          · rw [if_pos c19] at H
            have c19b0 : decide (10000 < (l3.length : Int)) = true := decide_eq_true c19
            have c19b1 : decide (10000 < l3.length) = true := decide_eq_true (by omega)
            clear c19
            have H' := Aside0.mk H
            clear H
            have hcz20_0 : w9.cell? ⟨gb255, 0, none⟩ = some (.int .u8 a0_0) := (blk_cell BK255.out 0).trans rfl
            have hcz20_1 : w9.cell? ⟨gb255, 1, none⟩ = some (.int .u8 a0_1) := (blk_cell BK255.out 1).trans rfl
            have hcz20_2 : w9.cell? ⟨gb255, 2, none⟩ = some (.int .i64 a0_2) := (blk_cell BK255.out 2).trans rfl
            have hcz20_3 : w9.cell? ⟨gb255, 3, none⟩ = some (.slice A0_3 l0_3.length c0_3) := (blk_cell BK255.out 3).trans rfl
            have hfz20_0 := blk_frozen BK255.out 0
            have hfz20_1 := blk_frozen BK255.out 1
            have hfz20_2 := blk_frozen BK255.out 2
            have hfz20_3 := blk_frozen BK255.out 3
            go_wp2_with (first | (go_at_call 8; (with_reducible refine (reedpiperef21_Great.calls k _ _ l1 false _ ?side1 ?side2 A12.out).mono ?_); (case side1 => repeat (first | exact (Kd.C_below HR1.out HB.out) | (with_reducible refine Kd.C_alloc ?_ _) | (with_reducible refine Kd.C_drewN ?_ _) | (with_reducible refine Kd.C_drew ?_))); (case side2 => exact HC1.out); rintro e w21 ⟨rfl, hb⟩; have n0_ := Aside0.mk (blk_below (g := gb255) (o := .cells #[.int .u8 a0_0, .int .u8 a0_1, .int .i64 a0_2, .slice A0_3 l0_3.length c0_3] 24 (0, 0)) (by (with_reducible repeat (first | refine blk_drewN ?_ _ | refine blk_drew ?_ | refine blk_alloc ?_ _)); exact BK255.out) hb); have n1_ := Aside0.mk (below_step (by repeat (first | (with_reducible first | exact HB.out | apply below_alloc | apply pw_below_drewN | apply below_drew1 | refine below_set ?_ GE255.out) | exact HB.out)) hb); clear BK255; clear HB; have BK255 := n0_; have HB := n1_; clear n0_ n1_; (try clear hb); (try clear hb2); (try clear hk); (try clear hi)))
            go_meet
            case rel => exact ⟨_, (true), (by first | rfl | (simp; done) | (simp [*]; done)), H', ⟨by first | omega | exact Nat.le_refl _⟩, ⟨by (with_reducible repeat (first | refine blk_drewN ?_ _ | refine blk_drew ?_ | refine blk_alloc ?_ _)); exact BK255.out⟩, ⟨by repeat (first | (with_reducible first | exact HB.out | apply below_alloc | apply pw_below_drewN | apply below_drew1 | refine below_set ?_ GE255.out) | exact HB.out)⟩⟩
          · rw [if_neg c19] at H
            have c19b0 : decide (10000 < (l3.length : Int)) = false := decide_eq_false c19
            have c19b1 : decide (10000 < l3.length) = false := decide_eq_false (by omega)
            clear c19
            have H' := Aside0.mk H
            clear H
            have hcz22_0 : w9.cell? ⟨gb255, 0, none⟩ = some (.int .u8 a0_0) := (blk_cell BK255.out 0).trans rfl
            have hcz22_1 : w9.cell? ⟨gb255, 1, none⟩ = some (.int .u8 a0_1) := (blk_cell BK255.out 1).trans rfl
            have hcz22_2 : w9.cell? ⟨gb255, 2, none⟩ = some (.int .i64 a0_2) := (blk_cell BK255.out 2).trans rfl
            have hcz22_3 : w9.cell? ⟨gb255, 3, none⟩ = some (.slice A0_3 l0_3.length c0_3) := (blk_cell BK255.out 3).trans rfl
            have hfz22_0 := blk_frozen BK255.out 0
            have hfz22_1 := blk_frozen BK255.out 1
            have hfz22_2 := blk_frozen BK255.out 2
            have hfz22_3 := blk_frozen BK255.out 3
            go_wp2_with (first | (go_at_call 8; (with_reducible refine (reedpiperef21_Great.calls k _ _ l1 false _ ?side1 ?side2 A12.out).mono ?_); (case side1 => repeat (first | exact (Kd.C_below HR1.out HB.out) | (with_reducible refine Kd.C_alloc ?_ _) | (with_reducible refine Kd.C_drewN ?_ _) | (with_reducible refine Kd.C_drew ?_))); (case side2 => exact HC1.out); rintro e w23 ⟨rfl, hb⟩; have n0_ := Aside0.mk (blk_below (g := gb255) (o := .cells #[.int .u8 a0_0, .int .u8 a0_1, .int .i64 a0_2, .slice A0_3 l0_3.length c0_3] 24 (0, 0)) (by (with_reducible repeat (first | refine blk_drewN ?_ _ | refine blk_drew ?_ | refine blk_alloc ?_ _)); exact BK255.out) hb); have n1_ := Aside0.mk (below_step (by repeat (first | (with_reducible first | exact HB.out | apply below_alloc | apply pw_below_drewN | apply below_drew1 | refine below_set ?_ GE255.out) | exact HB.out)) hb); clear BK255; clear HB; have BK255 := n0_; have HB := n1_; clear n0_ n1_; (try clear hb); (try clear hb2); (try clear hk); (try clear hi)))
            go_meet
            case rel => exact ⟨_, (!t256), (by first | rfl | (simp; done) | (simp [*]; done)), H', ⟨by first | omega | exact Nat.le_refl _⟩, ⟨by (with_reducible repeat (first | refine blk_drewN ?_ _ | refine blk_drew ?_ | refine blk_alloc ?_ _)); exact BK255.out⟩, ⟨by repeat (first | (with_reducible first | exact HB.out | apply below_alloc | apply pw_below_drewN | apply below_drew1 | refine below_set ?_ GE255.out) | exact HB.out)⟩⟩
  case rest =>
    clear HC7
    try clear c1
    try clear c2
    try clear p2
    try clear c3
    try clear c6
    try clear c7
    try clear c10
    try clear c10b0
    try clear c10b1
    try clear c13
    try clear c16
    try clear c16b0
    try clear c16b1
    try clear c19
    try clear c19b0
    try clear c19b1
    try clear hcz11_0
    try clear hcz11_1
    try clear hcz11_2
    try clear hcz11_3
    try clear hcz14_0
    try clear hcz14_1
    try clear hcz14_2
    try clear hcz14_3
    try clear hcz17_0
    try clear hcz17_1
    try clear hcz17_2
    try clear hcz17_3
    try clear hcz20_0
    try clear hcz20_1
    try clear hcz20_2
    try clear hcz20_3
    try clear hcz22_0
    try clear hcz22_1
    try clear hcz22_2
    try clear hcz22_3
    try clear hfz11_0
    try clear hfz11_1
    try clear hfz11_2
    try clear hfz11_3
    try clear hfz14_0
    try clear hfz14_1
    try clear hfz14_2
    try clear hfz14_3
    try clear hfz17_0
    try clear hfz17_1
    try clear hfz17_2
    try clear hfz17_3
    try clear hfz20_0
    try clear hfz20_1
    try clear hfz20_2
    try clear hfz20_3
    try clear hfz22_0
    try clear hfz22_1
    try clear hfz22_2
    try clear hfz22_3
    obtain ⟨kq, x44_6, rfl, HA, HJ6, BK255, HB⟩ := hcut
    cases kq with
    | zero => exact absurd HA.out (by simp [reedpipelaw21_TnsbitsBack.j0])
    | succ kj6 =>
      have H := HA.out
      clear HA
      simp only [reedpipelaw21_TnsbitsBack.j0] at H
      by_cases c24 : x44_6 = true
      · subst c24
        have H1 : (some t256) = some r := by rw [if_pos rfl] at H; exact H
        clear H
        have H := H1
        clear H1
        obtain rfl := Option.some.inj H
        go_wp2
        go_ret
        exact ⟨by first | rfl | (simp [errW_none, errW_some] <;> rfl) | (simp [*, errW_none, errW_some] <;> rfl), by repeat (first | (with_reducible first | exact HB.out | apply below_alloc | apply pw_below_drewN | apply below_drew1 | refine below_set ?_ GE255.out) | exact HB.out)⟩
      · replace c24 := Bool.eq_false_iff.mpr c24
        subst c24
        have H1 : ((tnsbits_Put.f ([] : List Int) a0_0 a0_1 a0_2 l0_3 l1).bind fun bt258 => ((tnsbits_Check.f a0_0 a0_1 a0_2 l0_3 l1).bind fun t262 => (if ((bt258.2 == 0) != (t262 == 0)) = true then (some false) else (if bt258.2 = 0 then ((some (([] : List Int) : List Int)).bind fun y263 => (if y263.length + bt258.1.length < 140737488355328 then ((some (y263 ++ bt258.1 : List Int)).bind fun y266 => (if y266.length + l2.length < 140737488355328 then ((tnsbits_Get.f (y266 ++ l2) 0 a0_0 a0_1 a0_2 l0_3).bind fun bt272 => (if bt272.2.2 = 0 then ((reedpiperef18_SameTns.f bt272.1 l1).bind fun t277 => (if t277 = true then (if bt272.2.1 = (bt258.1.length : Int) then (reedpipelaw21_TnsbitsBack.j1 kj6 l3 a4 a0_0 a0_1 a0_2 l0_3) else (some false)) else (some false))) else (some false))) else (none))) else (none))) else (reedpipelaw21_TnsbitsBack.j1 kj6 l3 a4 a0_0 a0_1 a0_2 l0_3))))) = some r := by rw [if_neg (show ¬ (false = true) by decide)] at H; exact H
        clear H
        have H := H1
        clear H1
        replace H := Option.bind_eq_some_iff.mp H
        obtain ⟨⟨t258, t261⟩, A250, H⟩ := H
        replace H : ((tnsbits_Check.f a0_0 a0_1 a0_2 l0_3 l1).bind fun t262 => (if ((t261 == 0) != (t262 == 0)) = true then (some false) else (if t261 = 0 then ((some (([] : List Int) : List Int)).bind fun y263 => (if y263.length + t258.length < 140737488355328 then ((some (y263 ++ t258 : List Int)).bind fun y266 => (if y266.length + l2.length < 140737488355328 then ((tnsbits_Get.f (y266 ++ l2) 0 a0_0 a0_1 a0_2 l0_3).bind fun bt272 => (if bt272.2.2 = 0 then ((reedpiperef18_SameTns.f bt272.1 l1).bind fun t277 => (if t277 = true then (if bt272.2.1 = (t258.length : Int) then (reedpipelaw21_TnsbitsBack.j1 kj6 l3 a4 a0_0 a0_1 a0_2 l0_3) else (some false)) else (some false))) else (some false))) else (none))) else (none))) else (reedpipelaw21_TnsbitsBack.j1 kj6 l3 a4 a0_0 a0_1 a0_2 l0_3)))) = some r := H
        have A25 := Aside0.mk A250
        clear A250
        replace H := Option.bind_eq_some_iff.mp H
        obtain ⟨t262, A260, H⟩ := H
        replace H : (if ((t261 == 0) != (t262 == 0)) = true then (some false) else (if t261 = 0 then ((some (([] : List Int) : List Int)).bind fun y263 => (if y263.length + t258.length < 140737488355328 then ((some (y263 ++ t258 : List Int)).bind fun y266 => (if y266.length + l2.length < 140737488355328 then ((tnsbits_Get.f (y266 ++ l2) 0 a0_0 a0_1 a0_2 l0_3).bind fun bt272 => (if bt272.2.2 = 0 then ((reedpiperef18_SameTns.f bt272.1 l1).bind fun t277 => (if t277 = true then (if bt272.2.1 = (t258.length : Int) then (reedpipelaw21_TnsbitsBack.j1 kj6 l3 a4 a0_0 a0_1 a0_2 l0_3) else (some false)) else (some false))) else (some false))) else (none))) else (none))) else (reedpipelaw21_TnsbitsBack.j1 kj6 l3 a4 a0_0 a0_1 a0_2 l0_3))) = some r := H
        have A26 := Aside0.mk A260
        clear A260
        by_cases c27 : ((t261 == 0) != (t262 == 0)) = true
        · exfalso
          rw [if_pos c27, hr0.out] at H
          cases H
        · rw [if_neg c27] at H
          have c27b0 : ((t261 == 0) != (t262 == 0)) = false := by simpa using c27
          (try (have c27b1 : decide ((t261 == 0) = (t262 == 0)) = true := by simpa using c27))
          (try (have c27b2 : ((t261 == 0) == (t262 == 0)) = true := by simpa using c27))
          clear c27
          have HC32 := Aside0.mk H
          clear H
          have hcz33_0 : wc.cell? ⟨gb255, 0, none⟩ = some (.int .u8 a0_0) := (blk_cell BK255.out 0).trans rfl
          have hcz33_1 : wc.cell? ⟨gb255, 1, none⟩ = some (.int .u8 a0_1) := (blk_cell BK255.out 1).trans rfl
          have hcz33_2 : wc.cell? ⟨gb255, 2, none⟩ = some (.int .i64 a0_2) := (blk_cell BK255.out 2).trans rfl
          have hcz33_3 : wc.cell? ⟨gb255, 3, none⟩ = some (.slice A0_3 l0_3.length c0_3) := (blk_cell BK255.out 3).trans rfl
          have hfz33_0 := blk_frozen BK255.out 0
          have hfz33_1 := blk_frozen BK255.out 1
          have hfz33_2 := blk_frozen BK255.out 2
          have hfz33_3 := blk_frozen BK255.out 3
          go_upto_if 60 with (first | ((with_reducible refine gate_callee (f := 11) rfl ?_); refine goesL_ (some 49) rfl rfl Try.func11 (by kernel_rfl) rfl #[.slice none 0 0, .agg #[.int .u8 a0_0, .int .u8 a0_1, .int .i64 a0_2, .slice A0_3 l0_3.length c0_3], .slice A1 l1.length c1] rfl (by (try simp only [List.map_toArray, List.map_cons, List.map_nil]); first | done | rfl | (simp only [List.length_drop, List.length_take]; rfl)) ?_; (refine (tnsbits_Put.calls _ _ ([] : List Int) a0_0 a0_1 a0_2 _ _ l0_3 _ _ l1 t258 t261 _ ?side1 ?side2 ?side3 ?side4 ?side5 ?side6 A25.out).mono ?_); (case side1 => exact Kd.C_nil _ _); (case side2 => exact Nat.le_refl _); (case side3 => repeat (first | exact (Kd.C_below HR0_3.out HB.out) | (with_reducible refine Kd.C_alloc ?_ _) | (with_reducible refine Kd.C_drewN ?_ _) | (with_reducible refine Kd.C_drew ?_))); (case side4 => exact HC0_3.out); (case side5 => repeat (first | exact (Kd.C_below HR1.out HB.out) | (with_reducible refine Kd.C_alloc ?_ _) | (with_reducible refine Kd.C_drewN ?_ _) | (with_reducible refine Kd.C_drew ?_))); (case side6 => exact HC1.out); rintro e w34 ⟨v259, rfl, ho0, hb⟩; refine ⟨_, rfl, ?_⟩; have n0_ := Aside0.mk (Kd.R_lower ho0 (below_size (by repeat (first | (with_reducible first | exact HB.out | apply below_alloc | apply pw_below_drewN | apply below_drew1 | refine below_set ?_ GE255.out) | exact HB.out)))); have n1_ := Aside0.mk (blk_below (g := gb255) (o := .cells #[.int .u8 a0_0, .int .u8 a0_1, .int .i64 a0_2, .slice A0_3 l0_3.length c0_3] 24 (0, 0)) (by (with_reducible repeat (first | refine blk_drewN ?_ _ | refine blk_drew ?_ | refine blk_alloc ?_ _)); exact BK255.out) hb); have n2_ := Aside0.mk (below_step (by repeat (first | (with_reducible first | exact HB.out | apply below_alloc | apply pw_below_drewN | apply below_drew1 | refine below_set ?_ GE255.out) | exact HB.out)) hb); clear BK255; clear HB; have HO260 := n0_; have BK255 := n1_; have HB := n2_; clear n0_ n1_ n2_; (try clear hb); (try clear hb2); (try clear hk); (try clear hi); (try clear ho0); have hcz35_0 : w34.cell? ⟨gb255, 0, none⟩ = some (.int .u8 a0_0) := (blk_cell BK255.out 0).trans rfl; have hcz35_1 : w34.cell? ⟨gb255, 1, none⟩ = some (.int .u8 a0_1) := (blk_cell BK255.out 1).trans rfl; have hcz35_2 : w34.cell? ⟨gb255, 2, none⟩ = some (.int .i64 a0_2) := (blk_cell BK255.out 2).trans rfl; have hcz35_3 : w34.cell? ⟨gb255, 3, none⟩ = some (.slice A0_3 l0_3.length c0_3) := (blk_cell BK255.out 3).trans rfl; have hfz35_0 := blk_frozen BK255.out 0; have hfz35_1 := blk_frozen BK255.out 1; have hfz35_2 := blk_frozen BK255.out 2; have hfz35_3 := blk_frozen BK255.out 3) | ((with_reducible refine gate_callee (f := 10) rfl ?_); refine goesL_ (some 56) rfl rfl Try.func10 (by kernel_rfl) rfl #[.agg #[.int .u8 a0_0, .int .u8 a0_1, .int .i64 a0_2, .slice A0_3 l0_3.length c0_3], .slice A1 l1.length c1] rfl (by (try simp only [List.map_toArray, List.map_cons, List.map_nil]); first | done | rfl | (simp only [List.length_drop, List.length_take]; rfl)) ?_; (with_reducible refine (tnsbits_Check.calls a0_0 a0_1 a0_2 _ _ l0_3 _ _ l1 t262 _ ?side1 ?side2 ?side3 ?side4 A26.out).mono ?_); (case side1 => repeat (first | exact (Kd.C_below HR0_3.out HB.out) | (with_reducible refine Kd.C_alloc ?_ _) | (with_reducible refine Kd.C_drewN ?_ _) | (with_reducible refine Kd.C_drew ?_))); (case side2 => exact HC0_3.out); (case side3 => repeat (first | exact (Kd.C_below HR1.out HB.out) | (with_reducible refine Kd.C_alloc ?_ _) | (with_reducible refine Kd.C_drewN ?_ _) | (with_reducible refine Kd.C_drew ?_))); (case side4 => exact HC1.out); rintro e w36 ⟨rfl, hb⟩; refine ⟨_, rfl, ?_⟩; have n0_ := Aside0.mk (Kd.R_below (by (with_reducible repeat (first | apply Kd.R_alloc | apply Kd.R_drewN | apply Kd.R_drew)); exact HO260.out) hb); have n1_ := Aside0.mk (blk_below (g := gb255) (o := .cells #[.int .u8 a0_0, .int .u8 a0_1, .int .i64 a0_2, .slice A0_3 l0_3.length c0_3] 24 (0, 0)) (by (with_reducible repeat (first | refine blk_drewN ?_ _ | refine blk_drew ?_ | refine blk_alloc ?_ _)); exact BK255.out) hb); have n2_ := Aside0.mk (below_step (by repeat (first | (with_reducible first | exact HB.out | apply below_alloc | apply pw_below_drewN | apply below_drew1 | refine below_set ?_ GE255.out) | exact HB.out)) hb); clear HO260; clear BK255; clear HB; have HO260 := n0_; have BK255 := n1_; have HB := n2_; clear n0_ n1_ n2_; (try clear hb); (try clear hb2); (try clear hk); (try clear hi)))
          (try simp only [Act.put, List.setIfInBounds_toArray, List.set_cons_zero, List.set_cons_succ])
          go_cut [] (fun wc => ∃ (kq : Nat), Aside0 (reedpipelaw21_TnsbitsBack.j1 kq l3 a4 a0_0 a0_1 a0_2 l0_3 = some r) ∧ Aside0 (kq ≤ kj6) ∧ Aside0 (wc.heap[gb255]? = some (.cells #[.int .u8 a0_0, .int .u8 a0_1, .int .i64 a0_2, (.slice A0_3 l0_3.length c0_3)] 24 (0, 0))) ∧ Aside0 (Below w.heap.size w wc))
          case first =>
            have H := HC32.out
            clear HC32
            by_cases c37 : t261 = 0
            · rw [if_pos c37] at H
              have c37b0 : (t261 == 0) = true := beq_iff_eq.mpr c37
              have c37b1 : (t261 != 0) = false := bne_eq_false_iff_eq.mpr c37
              clear c37
              (first | rw [c37b0] | (simp only [i64_w, i32_w]; rw [c37b0]) | skip)
              obtain ⟨y263, hy263⟩ : ∃ y_ : List Int, y_ = (([] : List Int)) := ⟨_, rfl⟩
              replace H : (if y263.length + t258.length < 140737488355328 then ((some (y263 ++ t258 : List Int)).bind fun y266 => (if y266.length + l2.length < 140737488355328 then ((tnsbits_Get.f (y266 ++ l2) 0 a0_0 a0_1 a0_2 l0_3).bind fun bt272 => (if bt272.2.2 = 0 then ((reedpiperef18_SameTns.f bt272.1 l1).bind fun t277 => (if t277 = true then (if bt272.2.1 = (t258.length : Int) then (reedpipelaw21_TnsbitsBack.j1 kj6 l3 a4 a0_0 a0_1 a0_2 l0_3) else (some false)) else (some false))) else (some false))) else (none))) else (none)) = some r := by first | (rw [hy263]; with_reducible exact H) | (have H2_ := (Option.bind_some _ _).symm.trans H; rw [hy263]; with_reducible exact H2_) | (have H2_ := (Option.bind_some _ _).symm.trans H; with_reducible exact H2_) | with_reducible exact H | (rw [hy263]; exact H) | exact H
              have Ny263 := Aside0.mk hy263
              clear hy263
              by_cases c38 : y263.length + t258.length < 140737488355328
              · rw [if_pos c38] at H
                have LMc38 := Aside0.mk c38
                clear c38
                obtain ⟨y266, hy266⟩ : ∃ y_ : List Int, y_ = (y263 ++ t258) := ⟨_, rfl⟩
                replace H : (if y266.length + l2.length < 140737488355328 then ((tnsbits_Get.f (y266 ++ l2) 0 a0_0 a0_1 a0_2 l0_3).bind fun bt272 => (if bt272.2.2 = 0 then ((reedpiperef18_SameTns.f bt272.1 l1).bind fun t277 => (if t277 = true then (if bt272.2.1 = (t258.length : Int) then (reedpipelaw21_TnsbitsBack.j1 kj6 l3 a4 a0_0 a0_1 a0_2 l0_3) else (some false)) else (some false))) else (some false))) else (none)) = some r := by first | (rw [hy266]; with_reducible exact H) | (have H2_ := (Option.bind_some _ _).symm.trans H; rw [hy266]; with_reducible exact H2_) | (have H2_ := (Option.bind_some _ _).symm.trans H; with_reducible exact H2_) | with_reducible exact H | (rw [hy266]; exact H) | exact H
                have Ny266 := Aside0.mk hy266
                clear hy266
                by_cases c39 : y266.length + l2.length < 140737488355328
                · rw [if_pos c39] at H
                  have LMc39 := Aside0.mk c39
                  clear c39
                  obtain ⟨y269, hy269⟩ : ∃ y_ : List Int, y_ = (y266 ++ l2) := ⟨_, rfl⟩
                  replace H : ((tnsbits_Get.f y269 0 a0_0 a0_1 a0_2 l0_3).bind fun bt272 => (if bt272.2.2 = 0 then ((reedpiperef18_SameTns.f bt272.1 l1).bind fun t277 => (if t277 = true then (if bt272.2.1 = (t258.length : Int) then (reedpipelaw21_TnsbitsBack.j1 kj6 l3 a4 a0_0 a0_1 a0_2 l0_3) else (some false)) else (some false))) else (some false))) = some r := by first | (rw [hy269]; with_reducible exact H) | (have H2_ := (Option.bind_some _ _).symm.trans H; rw [hy269]; with_reducible exact H2_) | (have H2_ := (Option.bind_some _ _).symm.trans H; with_reducible exact H2_) | with_reducible exact H | (rw [hy269]; exact H) | exact H
                  have Ny269 := Aside0.mk hy269
                  clear hy269
                  replace H := Option.bind_eq_some_iff.mp H
                  obtain ⟨⟨t272, t275, t276⟩, A400, H⟩ := H
                  replace H : (if t276 = 0 then ((reedpiperef18_SameTns.f t272 l1).bind fun t277 => (if t277 = true then (if t275 = (t258.length : Int) then (reedpipelaw21_TnsbitsBack.j1 kj6 l3 a4 a0_0 a0_1 a0_2 l0_3) else (some false)) else (some false))) else (some false)) = some r := H
                  have A40 := Aside0.mk A400
                  clear A400
                  by_cases c41 : t276 = 0
                  · rw [if_pos c41] at H
                    have c41b0 : (t276 == 0) = true := beq_iff_eq.mpr c41
                    have c41b1 : (t276 != 0) = false := bne_eq_false_iff_eq.mpr c41
                    clear c41
                    replace H := Option.bind_eq_some_iff.mp H
                    obtain ⟨t277, A420, H⟩ := H
                    replace H : (if t277 = true then (if t275 = (t258.length : Int) then (reedpipelaw21_TnsbitsBack.j1 kj6 l3 a4 a0_0 a0_1 a0_2 l0_3) else (some false)) else (some false)) = some r := H
                    have A42 := Aside0.mk A420
                    clear A420
                    by_cases c43 : t277 = true
                    · subst c43
                      have H1 : (if t275 = (t258.length : Int) then (reedpipelaw21_TnsbitsBack.j1 kj6 l3 a4 a0_0 a0_1 a0_2 l0_3) else (some false)) = some r := by rw [if_pos rfl] at H; exact H
                      clear H
                      have H := H1
                      clear H1
                      by_cases c44 : t275 = (t258.length : Int)
                      · rw [if_pos c44] at H
                        have c44b0 : (t275 == (t258.length : Int)) = true := beq_iff_eq.mpr c44
                        have c44b1 : (t275 != (t258.length : Int)) = false := bne_eq_false_iff_eq.mpr c44
                        clear c44
                        have H' := Aside0.mk H
                        clear H
                        try go_wp2
                        have n0_ := Aside0.mk (Kd.R_drew HO260.out)
                        have n1_ := Aside0.mk (blk_drew BK255.out)
                        have n2_ := Aside0.mk (below_drew1 HB.out)
                        clear HO260
                        clear BK255
                        clear HB
                        have HO260 := n0_
                        have BK255 := n1_
                        have HB := n2_
                        clear n0_ n1_ n2_
                        refine start_ (n := 14) (S := fun w' => w'.cell? ⟨gb255, 0, none⟩ = some (.int .u8 a0_0) ∧ w'.cell? ⟨gb255, 1, none⟩ = some (.int .u8 a0_1) ∧ w'.cell? ⟨gb255, 2, none⟩ = some (.int .i64 a0_2) ∧ w'.cell? ⟨gb255, 3, none⟩ = some (.slice A0_3 l0_3.length c0_3)) (ds := []) #[false, false, false, false, false, false, false, false, false, false, false, false, false, false] (by kernel_rfl) rfl rfl ⟨(blk_cell BK255.out 0).trans rfl, (blk_cell BK255.out 1).trans rfl, (blk_cell BK255.out 2).trans rfl, (blk_cell BK255.out 3).trans rfl⟩ (fun hHeld => ?_); refine with_tabW reedpipelaw21_TnsbitsBack.tab8 reedpipelaw21_TnsbitsBack.bits8 (fun HT_ HW_ => ?_)
                        generalize w36.drew = w45 at HO260 BK255 HB hHeld ⊢
                        refine pure_ (i := 1) (N := some 63) (v := ?_) (a' := ?_) #[false, true, false, false, false, false, false, false, false, false, false, false, false, false] rfl rfl (any_of HT_.out (by kernel_rfl)) (fun _ _ _ h => h) (Or.inl ⟨by rfl, ?_⟩) ?_ ?_
                        rotate_left
                        · intro w'
                          go_simp
                          with_reducible rfl
                        rotate_left
                        · simp only [Act.put, List.setIfInBounds_toArray, List.set_cons_zero, List.set_cons_succ, i64_w, i32_w]
                          rfl
                        refine pure_ (i := 3) (N := some 65) (v := ?_) (a' := ?_) #[false, true, false, true, false, false, false, false, false, false, false, false, false, false] rfl rfl (any_of HT_.out (by kernel_rfl)) (fun _ _ _ h => h) (Or.inl ⟨by rfl, ?_⟩) ?_ ?_
                        rotate_left
                        · intro w'
                          go_simp
                          with_reducible rfl
                        rotate_left
                        · simp only [Act.put, List.setIfInBounds_toArray, List.set_cons_zero, List.set_cons_succ, i64_w, i32_w]
                          rfl
                        refine take_ (i := 5) (N := some 67) (v := ?_) (a' := ?_) #[false, true, false, true, false, true, false, false, false, false, false, false, false, false] rfl rfl (take_ofW HT_.out HW_.out (by kernel_rfl)) (fun _ _ _ h => h) (Or.inl ⟨by rfl, ?_⟩) hHeld ?_ ?_
                        rotate_left
                        · rintro w' ⟨s0, s1, s2, s3⟩
                          go_simp
                          with_reducible rfl
                        rotate_left
                        · simp only [Act.put, List.setIfInBounds_toArray, List.set_cons_zero, List.set_cons_succ, i64_w, i32_w]
                          rfl
                        refine one_ (i := 0) (N := some 62) #[true, true, false, true, false, true, false, false, false, false, false, false, false, false] rfl rfl (one_of HT_.out (by kernel_rfl)) (by decide) (fun K hK => ?_)
                        refine Kd.R_lit_step (Kd.int .u8) _ 5 ?hg (N := 62) ?hd (xs := ([] : List Int)) (inner := []) (ok := fun _ => True) (okp := fun _ => True) ?hr ?hp (fun _ hk => hk) trivial (Below.refl _ _) (Nat.le_refl _) (by simp) ?_; (case hd => rfl); (case hg => rfl); (case hr => first | (go_simp; done) | (go_simp; rfl)); (case hp => exact (Reps.none _ _))
                        intro v264 w46 ho47 hb hg_ hnew_
                        clear hg_ hnew_
                        (first | rw [← Ny263.out] at ho47 | (simp only [Int.reduceToNat] at ho47; rw [← Ny263.out] at ho47))
                        have n0_ := Aside0.mk (Kd.R_elder' (by (with_reducible repeat (first | apply Kd.R_alloc | apply Kd.R_drewN | apply Kd.R_drew)); exact HO260.out) (Kd.R_base ho47) hb)
                        have n1_ := Aside0.mk (Kd.R_lower (Kd.R_new' ho47 (Kd.R_lt (by (with_reducible repeat (first | apply Kd.R_alloc | apply Kd.R_drewN | apply Kd.R_drew)); exact HO260.out))) (below_size (by repeat (first | (with_reducible first | exact HB.out | apply below_alloc | apply pw_below_drewN | apply below_drew1 | refine below_set ?_ GE255.out) | exact HB.out))))
                        have n2_ := Aside0.mk (blk_below (g := gb255) (o := .cells #[.int .u8 a0_0, .int .u8 a0_1, .int .i64 a0_2, .slice A0_3 l0_3.length c0_3] 24 (0, 0)) (by (with_reducible repeat (first | refine blk_drewN ?_ _ | refine blk_drew ?_ | refine blk_alloc ?_ _)); exact BK255.out) hb)
                        have n3_ := Aside0.mk (below_step (by repeat (first | (with_reducible first | exact HB.out | apply below_alloc | apply pw_below_drewN | apply below_drew1 | refine below_set ?_ GE255.out) | exact HB.out)) hb)
                        clear HO260
                        clear BK255
                        clear HB
                        have HO260 := n0_
                        have HO265 := n1_
                        have BK255 := n2_
                        have HB := n3_
                        clear n0_ n1_ n2_ n3_
                        clear hb ho47
                        obtain ⟨Ao49, co49, eo49⟩ := Kd.R_slice HO260.out
                        (first | subst eo49 | (injection eo49 with f1_ f2_ f3_; have f4_ := f1_.symm; have f5_ := f3_.symm; clear f1_ f2_ f3_; subst f4_; subst f5_))
                        refine hK.out _ _ ⟨(blk_cell BK255.out 0).trans rfl, (blk_cell BK255.out 1).trans rfl, (blk_cell BK255.out 2).trans rfl, (blk_cell BK255.out 3).trans rfl⟩ (fun hHeld => ?_)
                        clear hK K
                        refine norm_ (a' := ?_) ?_ ?_
                        rotate_left
                        · show Act.put _ (some 62) _ = _
                          simp only [Act.put, List.setIfInBounds_toArray, List.set_cons_zero, List.set_cons_succ, i64_w, i32_w]
                          rfl
                        refine one_ (i := 2) (N := some 64) #[true, true, true, true, false, true, false, false, false, false, false, false, false, false] rfl rfl (one_of HT_.out (by kernel_rfl)) (by decide) (fun K hK => ?_)
                        refine Kd.R_append_rows_step (Kd.int .u8) (w0 := w) w.heap.size (by rfl) (.tmp 62) (.tmp 63) 32 5 (.int .u8 0) 1 rfl Try.underlying32 info5 rfl (by decide) (by omega) v264 y263 t258 _ _ _ (fun k_ => some k_ ≠ (.slice Ao49 t258.length co49 : Value).ownBlock) (fun _ => False) rfl rfl ?aO ?aR (fun _ _ h => h) (fun _ h => h.elim) ?aF ?aB ?aS ?aL ?_
                        (case aR => repeat (first | exact (Kd.R_reads' HO260.out).2.2 | (with_reducible refine Kd.C_alloc ?_ _) | (with_reducible refine Kd.C_drewN ?_ _) | (with_reducible refine Kd.C_drew ?_)))
                        (case aB => exact (by repeat (first | (with_reducible first | exact HB.out | apply below_alloc | apply pw_below_drewN | apply below_drew1 | refine below_set ?_ GE255.out) | exact HB.out)))
                        (case aF => exact (fun k_ hk => Kd.fresh' (Kd.R_lt (by (with_reducible repeat (first | apply Kd.R_alloc | apply Kd.R_drewN | apply Kd.R_drew)); exact HO260.out)) k_ hk))
                        (case aO => exact (by (with_reducible repeat (first | apply Kd.R_alloc | apply Kd.R_drewN | apply Kd.R_drew)); exact Kd.R_mono HO265.out (fun _ hk => hk.2)))
                        (case aS => exact (below_size (by repeat (first | (with_reducible first | exact HB.out | apply below_alloc | apply pw_below_drewN | apply below_drew1 | refine below_set ?_ GE255.out) | exact HB.out))))
                        (case aL => have := LMc38.out; omega)
                        intro v267 w48 ho hb hg hat
                        rw [← Ny266.out] at ho
                        have n0_ := Aside0.mk (blk_grown (g := gb255) (o := .cells #[.int .u8 a0_0, .int .u8 a0_1, .int .i64 a0_2, .slice A0_3 l0_3.length c0_3] 24 (0, 0)) (by (with_reducible repeat (first | refine blk_drewN ?_ _ | refine blk_drew ?_ | refine blk_alloc ?_ _)); exact BK255.out) hg (Kd.R_ne HO265.out BK255.out (by decide)))
                        have n1_ := Aside0.mk (Kd.R_after (ok := (fun _ => True)) (by (with_reducible repeat (first | apply Kd.R_alloc | apply Kd.R_drewN | apply Kd.R_drew)); exact HO260.out) hg hat)
                        have n2_ := Aside0.mk (hb)
                        have n3_ := Aside0.mk (ho)
                        clear BK255
                        clear HO260
                        clear HB
                        clear HO265
                        have BK255 := n0_
                        have HO260 := n1_
                        have HB := n2_
                        have HO268 := n3_
                        clear n0_ n1_ n2_ n3_
                        clear ho hb hg hat
                        refine hK.out _ _ ⟨(blk_cell BK255.out 0).trans rfl, (blk_cell BK255.out 1).trans rfl, (blk_cell BK255.out 2).trans rfl, (blk_cell BK255.out 3).trans rfl⟩ (fun hHeld => ?_)
                        clear hK K
                        refine norm_ (a' := ?_) ?_ ?_
                        rotate_left
                        · show Act.put _ (some 64) _ = _
                          simp only [Act.put, List.setIfInBounds_toArray, List.set_cons_zero, List.set_cons_succ, i64_w, i32_w]
                          rfl
                        refine one_ (i := 4) (N := some 66) #[true, true, true, true, true, true, false, false, false, false, false, false, false, false] rfl rfl (one_of HT_.out (by kernel_rfl)) (by decide) (fun K hK => ?_)
                        refine Kd.R_append_rows_step (Kd.int .u8) (w0 := w) w.heap.size (by rfl) (.tmp 64) (.tmp 65) 32 5 (.int .u8 0) 1 rfl Try.underlying32 info5 rfl (by decide) (by omega) v267 y266 l2 _ _ _ (fun k_ => some k_ ≠ (.slice Ao49 t258.length co49 : Value).ownBlock) (fun _ => False) rfl rfl ?aO ?aR (fun _ _ h => h) (fun _ h => h.elim) ?aF ?aB ?aS ?aL ?_
                        (case aR => repeat (first | exact (Kd.C_below HR2.out HB.out) | (with_reducible refine Kd.C_alloc ?_ _) | (with_reducible refine Kd.C_drewN ?_ _) | (with_reducible refine Kd.C_drew ?_)))
                        (case aB => exact (by repeat (first | (with_reducible first | exact HB.out | apply below_alloc | apply pw_below_drewN | apply below_drew1 | refine below_set ?_ GE255.out) | exact HB.out)))
                        (case aF => exact (fun k_ hk => Kd.fresh' (Kd.R_lt (by (with_reducible repeat (first | apply Kd.R_alloc | apply Kd.R_drewN | apply Kd.R_drew)); exact HO260.out)) k_ hk))
                        (case aO => exact (by (with_reducible repeat (first | apply Kd.R_alloc | apply Kd.R_drewN | apply Kd.R_drew)); exact HO268.out))
                        (case aS => exact (below_size (by repeat (first | (with_reducible first | exact HB.out | apply below_alloc | apply pw_below_drewN | apply below_drew1 | refine below_set ?_ GE255.out) | exact HB.out))))
                        (case aL => have := LMc39.out; omega)
                        intro v270 w50 ho hb hg hat
                        rw [← Ny269.out] at ho
                        have n0_ := Aside0.mk (blk_grown (g := gb255) (o := .cells #[.int .u8 a0_0, .int .u8 a0_1, .int .i64 a0_2, .slice A0_3 l0_3.length c0_3] 24 (0, 0)) (by (with_reducible repeat (first | refine blk_drewN ?_ _ | refine blk_drew ?_ | refine blk_alloc ?_ _)); exact BK255.out) hg (Kd.R_ne HO268.out BK255.out (by decide)))
                        have n1_ := Aside0.mk (Kd.R_after (ok := (fun _ => True)) (by (with_reducible repeat (first | apply Kd.R_alloc | apply Kd.R_drewN | apply Kd.R_drew)); exact HO260.out) hg hat)
                        have n2_ := Aside0.mk (hb)
                        have n3_ := Aside0.mk (ho)
                        clear BK255
                        clear HO260
                        clear HB
                        clear HO268
                        have BK255 := n0_
                        have HO260 := n1_
                        have HB := n2_
                        have HO271 := n3_
                        clear n0_ n1_ n2_ n3_
                        clear ho hb hg hat
                        obtain ⟨Ao51, co51, eo51⟩ := Kd.R_slice HO271.out
                        (first | subst eo51 | (injection eo51 with f1_ f2_ f3_; have f4_ := f1_.symm; have f5_ := f3_.symm; clear f1_ f2_ f3_; subst f4_; subst f5_))
                        refine hK.out _ _ ⟨(blk_cell BK255.out 0).trans rfl, (blk_cell BK255.out 1).trans rfl, (blk_cell BK255.out 2).trans rfl, (blk_cell BK255.out 3).trans rfl⟩ (fun hHeld => ?_)
                        clear hK K
                        refine norm_ (a' := ?_) ?_ ?_
                        rotate_left
                        · show Act.put _ (some 66) _ = _
                          simp only [Act.put, List.setIfInBounds_toArray, List.set_cons_zero, List.set_cons_succ, i64_w, i32_w]
                          rfl
                        refine one_ (i := 6) (N := some 68) #[true, true, true, true, true, true, true, false, false, false, false, false, false, false] rfl rfl (one_of HT_.out (by kernel_rfl)) (by decide) (fun K hK => ?_)
                        refine goes_ Try.func13 (by kernel_rfl) rfl #[.slice Ao51 y269.length co51, .int .i64 0, .agg #[.int .u8 a0_0, .int .u8 a0_1, .int .i64 a0_2, .slice A0_3 l0_3.length c0_3]] (by rfl) rfl rfl (by (try simp only [List.map_toArray, List.map_cons, List.map_nil]); first | done | rfl | (simp only [List.length_drop, List.length_take]; rfl)) ?_
                        with_reducible refine (tnsbits_Get.calls _ _ y269 0 a0_0 a0_1 a0_2 _ _ l0_3 t272 t275 t276 _ ?side1 ?side2 ?side3 ?side4 A40.out).mono ?_
                        (case side1 => repeat (first | exact (Kd.R_reads' HO271.out).2.2 | (with_reducible refine Kd.C_alloc ?_ _) | (with_reducible refine Kd.C_drewN ?_ _) | (with_reducible refine Kd.C_drew ?_)))
                        (case side2 => exact (Kd.R_reads' HO271.out).2.1)
                        (case side3 => repeat (first | exact (Kd.C_below HR0_3.out HB.out) | (with_reducible refine Kd.C_alloc ?_ _) | (with_reducible refine Kd.C_drewN ?_ _) | (with_reducible refine Kd.C_drew ?_)))
                        (case side4 => exact HC0_3.out)
                        rintro e w52 ⟨v273, rfl, ho0, hb⟩
                        refine ⟨_, rfl, ?_⟩
                        have n0_ := Aside0.mk (Kd.R_below (by (with_reducible repeat (first | apply Kd.R_alloc | apply Kd.R_drewN | apply Kd.R_drew)); exact HO260.out) hb)
                        have n1_ := Aside0.mk (Kd.R_below (by (with_reducible repeat (first | apply Kd.R_alloc | apply Kd.R_drewN | apply Kd.R_drew)); exact HO271.out) hb)
                        have n2_ := Aside0.mk (Kd.R_lower ho0 (below_size (by repeat (first | (with_reducible first | exact HB.out | apply below_alloc | apply pw_below_drewN | apply below_drew1 | refine below_set ?_ GE255.out) | exact HB.out))))
                        have n3_ := Aside0.mk (blk_below (g := gb255) (o := .cells #[.int .u8 a0_0, .int .u8 a0_1, .int .i64 a0_2, .slice A0_3 l0_3.length c0_3] 24 (0, 0)) (by (with_reducible repeat (first | refine blk_drewN ?_ _ | refine blk_drew ?_ | refine blk_alloc ?_ _)); exact BK255.out) hb)
                        have n4_ := Aside0.mk (below_step (by repeat (first | (with_reducible first | exact HB.out | apply below_alloc | apply pw_below_drewN | apply below_drew1 | refine below_set ?_ GE255.out) | exact HB.out)) hb)
                        clear HO260
                        clear HO271
                        clear BK255
                        clear HB
                        have HO260 := n0_
                        have HO271 := n1_
                        have HO274 := n2_
                        have BK255 := n3_
                        have HB := n4_
                        clear n0_ n1_ n2_ n3_ n4_
                        (try clear hb)
                        (try clear hb2)
                        (try clear hk)
                        (try clear hi)
                        (try clear ho0)
                        refine hK.out _ _ ⟨(blk_cell BK255.out 0).trans rfl, (blk_cell BK255.out 1).trans rfl, (blk_cell BK255.out 2).trans rfl, (blk_cell BK255.out 3).trans rfl⟩ (fun hHeld => ?_)
                        clear hK K
                        refine norm_ (a' := ?_) ?_ ?_
                        rotate_left
                        · show Act.put _ (some 68) _ = _
                          simp only [Act.put, List.setIfInBounds_toArray, List.set_cons_zero, List.set_cons_succ, i64_w, i32_w]
                          rfl
                        refine pure_ (i := 7) (N := some 61) (v := ?_) (a' := ?_) #[true, true, true, true, true, true, true, true, false, false, false, false, false, false] rfl rfl (any_of HT_.out (by kernel_rfl)) (fun _ _ _ h => h) (Or.inl ⟨by rfl, ?_⟩) ?_ ?_
                        rotate_left
                        · intro w'
                          go_simp
                          with_reducible rfl
                        rotate_left
                        · simp only [Act.put, List.setIfInBounds_toArray, List.set_cons_zero, List.set_cons_succ, i64_w, i32_w]
                          rfl
                        refine pure_ (i := 8) (N := some 69) (v := ?_) (a' := ?_) #[true, true, true, true, true, true, true, true, true, false, false, false, false, false] rfl rfl (any_of HT_.out (by kernel_rfl)) (fun _ _ _ h => h) (Or.inl ⟨by rfl, ?_⟩) ?_ ?_
                        rotate_left
                        · intro w'
                          go_simp
                          with_reducible rfl
                        rotate_left
                        · simp only [Act.put, List.setIfInBounds_toArray, List.set_cons_zero, List.set_cons_succ, i64_w, i32_w]
                          rfl
                        refine pure_ (i := 9) (N := some 70) (v := ?_) (a' := ?_) #[true, true, true, true, true, true, true, true, true, true, false, false, false, false] rfl rfl (any_of HT_.out (by kernel_rfl)) (fun _ _ _ h => h) (Or.inl ⟨by rfl, ?_⟩) ?_ ?_
                        rotate_left
                        · intro w'
                          go_simp
                          with_reducible rfl
                        rotate_left
                        · simp only [Act.put, List.setIfInBounds_toArray, List.set_cons_zero, List.set_cons_succ, i64_w, i32_w]
                          rfl
                        refine pure_ (i := 10) (N := some 71) (v := ?_) (a' := ?_) #[true, true, true, true, true, true, true, true, true, true, true, false, false, false] rfl rfl (any_of HT_.out (by kernel_rfl)) (fun _ _ _ h => h) (Or.inl ⟨by rfl, ?_⟩) ?_ ?_
                        rotate_left
                        · intro w'
                          go_simp
                          with_reducible rfl
                        rotate_left
                        · simp only [Act.put, List.setIfInBounds_toArray, List.set_cons_zero, List.set_cons_succ, i64_w, i32_w]
                          rfl
                        refine pure_ (i := 11) (N := some 14) (v := ?_) (a' := ?_) #[true, true, true, true, true, true, true, true, true, true, true, true, false, false] rfl rfl (any_of HT_.out (by kernel_rfl)) (fun _ _ _ h => h) (Or.inl ⟨by rfl, ?_⟩) ?_ ?_
                        rotate_left
                        · intro w'
                          go_simp
                          with_reducible rfl
                        rotate_left
                        · simp only [Act.put, List.setIfInBounds_toArray, List.set_cons_zero, List.set_cons_succ, i64_w, i32_w]
                          rfl
                        refine pure_ (i := 12) (N := some 15) (v := ?_) (a' := ?_) #[true, true, true, true, true, true, true, true, true, true, true, true, true, false] rfl rfl (any_of HT_.out (by kernel_rfl)) (fun _ _ _ h => h) (Or.inl ⟨by rfl, ?_⟩) ?_ ?_
                        rotate_left
                        · intro w'
                          go_simp
                          with_reducible rfl
                        rotate_left
                        · simp only [Act.put, List.setIfInBounds_toArray, List.set_cons_zero, List.set_cons_succ, i64_w, i32_w]
                          rfl
                        refine pure_ (i := 13) (N := some 16) (v := ?_) (a' := ?_) #[true, true, true, true, true, true, true, true, true, true, true, true, true, true] rfl rfl (any_of HT_.out (by kernel_rfl)) (fun _ _ _ h => h) (Or.inl ⟨by rfl, ?_⟩) ?_ ?_
                        rotate_left
                        · intro w'
                          go_simp
                          with_reducible rfl
                        rotate_left
                        · simp only [Act.put, List.setIfInBounds_toArray, List.set_cons_zero, List.set_cons_succ, i64_w, i32_w]
                          rfl
                        refine done_ (done_of HT_.out (by kernel_rfl)) ?_
                        obtain ⟨Ao53, co53, eo53⟩ := Kd.R_slice HO274.out
                        subst eo53
                        try go_wp2_with (first | (go_at_call 14; (with_reducible refine (reedpiperef18_SameTns.calls _ _ t272 _ _ l1 true _ ?side1 ?side2 ?side3 ?side4 A42.out).mono ?_); (case side1 => repeat (first | exact (Kd.R_reads' HO274.out).2.2 | (with_reducible refine Kd.C_alloc ?_ _) | (with_reducible refine Kd.C_drewN ?_ _) | (with_reducible refine Kd.C_drew ?_))); (case side2 => exact (Kd.R_reads' HO274.out).2.1); (case side3 => repeat (first | exact (Kd.C_below HR1.out HB.out) | (with_reducible refine Kd.C_alloc ?_ _) | (with_reducible refine Kd.C_drewN ?_ _) | (with_reducible refine Kd.C_drew ?_))); (case side4 => exact HC1.out); rintro e w54 ⟨rfl, hb⟩; have n0_ := Aside0.mk (Kd.R_below (by (with_reducible repeat (first | apply Kd.R_alloc | apply Kd.R_drewN | apply Kd.R_drew)); exact HO260.out) hb); have n1_ := Aside0.mk (Kd.R_below (by (with_reducible repeat (first | apply Kd.R_alloc | apply Kd.R_drewN | apply Kd.R_drew)); exact HO271.out) hb); have n2_ := Aside0.mk (Kd.R_below (by (with_reducible repeat (first | apply Kd.R_alloc | apply Kd.R_drewN | apply Kd.R_drew)); exact HO274.out) hb); have n3_ := Aside0.mk (blk_below (g := gb255) (o := .cells #[.int .u8 a0_0, .int .u8 a0_1, .int .i64 a0_2, .slice A0_3 l0_3.length c0_3] 24 (0, 0)) (by (with_reducible repeat (first | refine blk_drewN ?_ _ | refine blk_drew ?_ | refine blk_alloc ?_ _)); exact BK255.out) hb); have n4_ := Aside0.mk (below_step (by repeat (first | (with_reducible first | exact HB.out | apply below_alloc | apply pw_below_drewN | apply below_drew1 | refine below_set ?_ GE255.out) | exact HB.out)) hb); clear HO260; clear HO271; clear HO274; clear BK255; clear HB; have HO260 := n0_; have HO271 := n1_; have HO274 := n2_; have BK255 := n3_; have HB := n4_; clear n0_ n1_ n2_ n3_ n4_; (try clear hb); (try clear hb2); (try clear hk); (try clear hi)))
                        go_meet
                        case rel => exact ⟨_, H', ⟨by have := HJ6.out; first | omega | exact Nat.le_refl _⟩, ⟨by (with_reducible repeat (first | refine blk_drewN ?_ _ | refine blk_drew ?_ | refine blk_alloc ?_ _)); exact BK255.out⟩, ⟨by repeat (first | (with_reducible first | exact HB.out | apply below_alloc | apply pw_below_drewN | apply below_drew1 | refine below_set ?_ GE255.out) | exact HB.out)⟩⟩
                      · exfalso
                        rw [if_neg c44, hr0.out] at H
                        cases H
                    · exfalso
                      rw [if_neg c43, hr0.out] at H
                      cases H
                  · exfalso
                    rw [if_neg c41, hr0.out] at H
                    cases H
                · rw [if_neg c39] at H
                  exact absurd H (by simp)
              · rw [if_neg c38] at H
                exact absurd H (by simp)
            · rw [if_neg c37] at H
              have c37b0 : (t261 == 0) = false := beq_eq_false_iff_ne.mpr c37
              have c37b1 : (t261 != 0) = true := bne_iff_ne.mpr c37
              (first | rw [c37b0] | (simp only [i64_w, i32_w]; rw [c37b0]) | skip)
              have H' := Aside0.mk H
              clear H
              go_wp2
              go_meet
              case rel => exact ⟨_, H', ⟨by have := HJ6.out; first | omega | exact Nat.le_refl _⟩, ⟨by (with_reducible repeat (first | refine blk_drewN ?_ _ | refine blk_drew ?_ | refine blk_alloc ?_ _)); exact BK255.out⟩, ⟨by repeat (first | (with_reducible first | exact HB.out | apply below_alloc | apply pw_below_drewN | apply below_drew1 | refine below_set ?_ GE255.out) | exact HB.out)⟩⟩
          case rest =>
            clear HC32
            try clear c1
            try clear p2
            try clear c3
            try clear c4
            try clear c13
            try clear c37
            try clear c37b0
            try clear c37b1
            try clear c38
            try clear c39
            try clear c41
            try clear c41b0
            try clear c41b1
            try clear c43
            obtain ⟨kq, HA, HJ31, BK255, HB⟩ := hcut
            cases kq with
            | zero => exact absurd HA.out (by simp [reedpipelaw21_TnsbitsBack.j1])
            | succ kj31 =>
              have H := HA.out
              clear HA
              simp only [reedpipelaw21_TnsbitsBack.j1] at H
              replace H := Option.bind_eq_some_iff.mp H
              obtain ⟨⟨t278, t281, t282⟩, A830, H⟩ := H
              replace H : (if t282 = 0 then ((tnsbits_Put.f ([] : List Int) a0_0 a0_1 a0_2 l0_3 t278).bind fun bt283 => (if bt283.2 = 0 then (if 0 ≤ a4 then (if a4 ≤ t281 then (if t281 ≤ (l3.length : Int) then (some ((strOfNums bt283.1).toList == (strOfNums ((l3.take (t281 : Int).toNat).drop (a4 : Int).toNat)).toList)) else (none)) else (none)) else (none)) else (some false))) else (if (t278.length : Int) = 0 then (some (t281 == 0)) else (some false))) = some r := H
              have A83 := Aside0.mk A830
              clear A830
              by_cases c84 : t282 = 0
              · rw [if_pos c84] at H
                have c84b0 : (t282 == 0) = true := beq_iff_eq.mpr c84
                have c84b1 : (t282 != 0) = false := bne_eq_false_iff_eq.mpr c84
                clear c84
                replace H := Option.bind_eq_some_iff.mp H
                obtain ⟨⟨t283, t286⟩, A850, H⟩ := H
                replace H : (if t286 = 0 then (if 0 ≤ a4 then (if a4 ≤ t281 then (if t281 ≤ (l3.length : Int) then (some ((strOfNums t283).toList == (strOfNums ((l3.take (t281 : Int).toNat).drop (a4 : Int).toNat)).toList)) else (none)) else (none)) else (none)) else (some false)) = some r := H
                have A85 := Aside0.mk A850
                clear A850
                by_cases c86 : t286 = 0
                · rw [if_pos c86] at H
                  have c86b0 : (t286 == 0) = true := beq_iff_eq.mpr c86
                  have c86b1 : (t286 != 0) = false := bne_eq_false_iff_eq.mpr c86
                  clear c86
                  by_cases c87 : 0 ≤ a4
                  · rw [if_pos c87] at H
                    have c87b0 := eq_true c87
                    have c87b1 : decide (0 ≤ a4) = true := decide_eq_true c87
                    clear c87
                    by_cases c88 : a4 ≤ t281
                    · rw [if_pos c88] at H
                      have c88b0 := eq_true c88
                      have c88b1 : decide (a4 ≤ t281) = true := decide_eq_true c88
                      clear c88
                      by_cases c89 : t281 ≤ (l3.length : Int)
                      · rw [if_pos c89] at H
                        have c89b0 := eq_true c89
                        have c89b1 : decide (t281 ≤ (l3.length : Int)) = true := decide_eq_true c89
                        clear c89
                        obtain rfl := Option.some.inj H
                        have hcz90_0 : wc.cell? ⟨gb255, 0, none⟩ = some (.int .u8 a0_0) := (blk_cell BK255.out 0).trans rfl
                        have hcz90_1 : wc.cell? ⟨gb255, 1, none⟩ = some (.int .u8 a0_1) := (blk_cell BK255.out 1).trans rfl
                        have hcz90_2 : wc.cell? ⟨gb255, 2, none⟩ = some (.int .i64 a0_2) := (blk_cell BK255.out 2).trans rfl
                        have hcz90_3 : wc.cell? ⟨gb255, 3, none⟩ = some (.slice A0_3 l0_3.length c0_3) := (blk_cell BK255.out 3).trans rfl
                        have hfz90_0 := blk_frozen BK255.out 0
                        have hfz90_1 := blk_frozen BK255.out 1
                        have hfz90_2 := blk_frozen BK255.out 2
                        have hfz90_3 := blk_frozen BK255.out 3
                        try go_wp2_with (first | ((with_reducible refine gate_callee (f := 13) rfl ?_); refine goesL_ (some 90) rfl rfl Try.func13 (by kernel_rfl) rfl #[.slice A3 l3.length c3, .int .i64 a4, .agg #[.int .u8 a0_0, .int .u8 a0_1, .int .i64 a0_2, .slice A0_3 l0_3.length c0_3]] rfl (by (try simp only [List.map_toArray, List.map_cons, List.map_nil]); first | done | rfl | (simp only [List.length_drop, List.length_take]; rfl)) ?_; (with_reducible refine (tnsbits_Get.calls _ _ l3 a4 a0_0 a0_1 a0_2 _ _ l0_3 t278 t281 t282 _ ?side1 ?side2 ?side3 ?side4 A83.out).mono ?_); (case side1 => repeat (first | exact (Kd.C_below HR3.out HB.out) | (with_reducible refine Kd.C_alloc ?_ _) | (with_reducible refine Kd.C_drewN ?_ _) | (with_reducible refine Kd.C_drew ?_))); (case side2 => exact HC3.out); (case side3 => repeat (first | exact (Kd.C_below HR0_3.out HB.out) | (with_reducible refine Kd.C_alloc ?_ _) | (with_reducible refine Kd.C_drewN ?_ _) | (with_reducible refine Kd.C_drew ?_))); (case side4 => exact HC0_3.out); rintro e w91 ⟨v279, rfl, ho0, hb⟩; refine ⟨_, rfl, ?_⟩; have n0_ := Aside0.mk (Kd.R_lower ho0 (below_size (by repeat (first | (with_reducible first | exact HB.out | apply below_alloc | apply pw_below_drewN | apply below_drew1 | refine below_set ?_ GE255.out) | exact HB.out)))); have n1_ := Aside0.mk (blk_below (g := gb255) (o := .cells #[.int .u8 a0_0, .int .u8 a0_1, .int .i64 a0_2, .slice A0_3 l0_3.length c0_3] 24 (0, 0)) (by (with_reducible repeat (first | refine blk_drewN ?_ _ | refine blk_drew ?_ | refine blk_alloc ?_ _)); exact BK255.out) hb); have n2_ := Aside0.mk (below_step (by repeat (first | (with_reducible first | exact HB.out | apply below_alloc | apply pw_below_drewN | apply below_drew1 | refine below_set ?_ GE255.out) | exact HB.out)) hb); clear BK255; clear HB; have HO280 := n0_; have BK255 := n1_; have HB := n2_; clear n0_ n1_ n2_; (try clear hb); (try clear hb2); (try clear hk); (try clear hi); (try clear ho0); have hcz92_0 : w91.cell? ⟨gb255, 0, none⟩ = some (.int .u8 a0_0) := (blk_cell BK255.out 0).trans rfl; have hcz92_1 : w91.cell? ⟨gb255, 1, none⟩ = some (.int .u8 a0_1) := (blk_cell BK255.out 1).trans rfl; have hcz92_2 : w91.cell? ⟨gb255, 2, none⟩ = some (.int .i64 a0_2) := (blk_cell BK255.out 2).trans rfl; have hcz92_3 : w91.cell? ⟨gb255, 3, none⟩ = some (.slice A0_3 l0_3.length c0_3) := (blk_cell BK255.out 3).trans rfl; have hfz92_0 := blk_frozen BK255.out 0; have hfz92_1 := blk_frozen BK255.out 1; have hfz92_2 := blk_frozen BK255.out 2; have hfz92_3 := blk_frozen BK255.out 3; obtain ⟨Ao93, co93, eo93⟩ := Kd.R_slice HO280.out; subst eo93) | ((with_reducible refine gate_callee (f := 11) rfl ?_); refine goesL_ (some 106) rfl rfl Try.func11 (by kernel_rfl) rfl #[.slice none 0 0, .agg #[.int .u8 a0_0, .int .u8 a0_1, .int .i64 a0_2, .slice A0_3 l0_3.length c0_3], .slice Ao93 t278.length co93] rfl (by (try simp only [List.map_toArray, List.map_cons, List.map_nil]); first | done | rfl | (simp only [List.length_drop, List.length_take]; rfl)) ?_; (refine (tnsbits_Put.calls _ _ ([] : List Int) a0_0 a0_1 a0_2 _ _ l0_3 _ _ t278 t283 t286 _ ?side1 ?side2 ?side3 ?side4 ?side5 ?side6 A85.out).mono ?_); (case side1 => exact Kd.C_nil _ _); (case side2 => exact Nat.le_refl _); (case side3 => repeat (first | exact (Kd.C_below HR0_3.out HB.out) | (with_reducible refine Kd.C_alloc ?_ _) | (with_reducible refine Kd.C_drewN ?_ _) | (with_reducible refine Kd.C_drew ?_))); (case side4 => exact HC0_3.out); (case side5 => repeat (first | exact (Kd.R_reads' HO280.out).2.2 | (with_reducible refine Kd.C_alloc ?_ _) | (with_reducible refine Kd.C_drewN ?_ _) | (with_reducible refine Kd.C_drew ?_))); (case side6 => exact (Kd.R_reads' HO280.out).2.1); rintro e w94 ⟨v284, rfl, ho0, hb⟩; refine ⟨_, rfl, ?_⟩; have n0_ := Aside0.mk (Kd.R_below (by (with_reducible repeat (first | apply Kd.R_alloc | apply Kd.R_drewN | apply Kd.R_drew)); exact HO280.out) hb); have n1_ := Aside0.mk (Kd.R_lower ho0 (below_size (by repeat (first | (with_reducible first | exact HB.out | apply below_alloc | apply pw_below_drewN | apply below_drew1 | refine below_set ?_ GE255.out) | exact HB.out)))); have n2_ := Aside0.mk (blk_below (g := gb255) (o := .cells #[.int .u8 a0_0, .int .u8 a0_1, .int .i64 a0_2, .slice A0_3 l0_3.length c0_3] 24 (0, 0)) (by (with_reducible repeat (first | refine blk_drewN ?_ _ | refine blk_drew ?_ | refine blk_alloc ?_ _)); exact BK255.out) hb); have n3_ := Aside0.mk (below_step (by repeat (first | (with_reducible first | exact HB.out | apply below_alloc | apply pw_below_drewN | apply below_drew1 | refine below_set ?_ GE255.out) | exact HB.out)) hb); clear HO280; clear BK255; clear HB; have HO280 := n0_; have HO285 := n1_; have BK255 := n2_; have HB := n3_; clear n0_ n1_ n2_ n3_; (try clear hb); (try clear hb2); (try clear hk); (try clear hi); (try clear ho0)))
                        have n0_ := Aside0.mk (Kd.R_drew HO280.out)
                        have n1_ := Aside0.mk (Kd.R_drew HO285.out)
                        have n2_ := Aside0.mk (blk_drew BK255.out)
                        have n3_ := Aside0.mk (below_drew1 HB.out)
                        clear HO280
                        clear HO285
                        clear BK255
                        clear HB
                        have HO280 := n0_
                        have HO285 := n1_
                        have BK255 := n2_
                        have HB := n3_
                        clear n0_ n1_ n2_ n3_
                        obtain ⟨i096, hi096, _, hsz96, _⟩ := info_parts info5
                        obtain ⟨A96, hcut96, hA96, hC96⟩ := print_mid_of (P := Try.prog) (Value.int .u8) 0 32 5 .i64 .i64 Try.underlying32 hi096 hsz96 A3 c3 l3 a4 t281 (of_decide_eq_true (by first | (with_reducible assumption) | assumption)) (by first | omega | exact of_decide_eq_true (by first | (with_reducible assumption) | assumption)) (of_decide_eq_true (by first | (with_reducible assumption) | assumption)) HC3.out
                        have HR287 := Aside0.mk (Kd.C_of_reads (h1 := fun _ => rfl) (hA96 _ (Kd.reads_of_C HR3.out)))
                        have HC287 := Aside0.mk hC96
                        clear hA96 hC96 hi096 hsz96
                        have hLQ98 : Aside0 (((l3.take (t281 : Int).toNat).drop (a4 : Int).toNat).length = t281.toNat - a4.toNat) := ⟨by have := of_decide_eq_true (p := (t281 : Int) ≤ (l3.length : Int)) (by assumption); rw [List.length_drop, List.length_take]; omega⟩
                        refine start_ (n := 13) (S := fun w' => (convert 32 9 (v284)).run Try.prog w' = .ok (.string (strOfNums t283)) w' ∧ (convert 32 9 (.slice A96 (t281.toNat - a4.toNat) (c3 - a4.toNat))).run Try.prog w' = .ok (.string (strOfNums ((l3.take (t281 : Int).toNat).drop (a4 : Int).toNat))) w') (ds := []) #[false, false, false, false, false, false, false, false, false, false, false, false, false] (by kernel_rfl) rfl rfl ⟨own_string (P := Try.prog) Try.underlying32 Try.underlying5 Try.underlying9 (Kd.own_of_R (by first | (with_reducible exact HO285.out) | ((with_reducible repeat (first | apply Kd.R_drewN | apply Kd.R_drew | apply Kd.R_alloc)); exact HO285.out) | exact HO285.out)), (HA.cv_len hLQ98.out (Kd.C_string (P := Try.prog) (A := A96) (c := (c3 - a4.toNat)) Try.underlying32 Try.underlying5 Try.underlying9 (by first | (with_reducible exact (Kd.C_below HR287.out HB.out)) | ((with_reducible repeat (first | apply Kd.C_drewN | apply Kd.C_drew | apply Kd.C_alloc)); exact (Kd.C_below HR287.out HB.out)) | exact (Kd.C_below HR287.out HB.out))))⟩ (fun hHeld => ?_); refine with_tabW reedpipelaw21_TnsbitsBack.tab15 reedpipelaw21_TnsbitsBack.bits15 (fun HT_ HW_ => ?_)
                        generalize w94.drew = w95 at HO280 HO285 BK255 HB HR287 hHeld ⊢
                        refine pure_ (i := 0) (N := some 109) (v := ?_) (a' := ?_) #[true, false, false, false, false, false, false, false, false, false, false, false, false] rfl rfl (any_of HT_.out (by kernel_rfl)) (fun _ _ _ h => h) (Or.inl ⟨by rfl, ?_⟩) ?_ ?_
                        rotate_left
                        · intro w'
                          go_simp
                          with_reducible rfl
                        rotate_left
                        · simp only [Act.put, List.setIfInBounds_toArray, List.set_cons_zero, List.set_cons_succ, i64_w, i32_w]
                          rfl
                        refine pure_ (i := 1) (N := some 110) (v := ?_) (a' := ?_) #[true, true, false, false, false, false, false, false, false, false, false, false, false] rfl rfl (any_of HT_.out (by kernel_rfl)) (fun _ _ _ h => h) (Or.inl ⟨by rfl, ?_⟩) ?_ ?_
                        rotate_left
                        · intro w'
                          go_simp
                          with_reducible rfl
                        rotate_left
                        · simp only [Act.put, List.setIfInBounds_toArray, List.set_cons_zero, List.set_cons_succ, i64_w, i32_w]
                          rfl
                        refine pure_ (i := 2) (N := some 111) (v := ?_) (a' := ?_) #[true, true, true, false, false, false, false, false, false, false, false, false, false] rfl rfl (any_of HT_.out (by kernel_rfl)) (fun _ _ _ h => h) (Or.inl ⟨by rfl, ?_⟩) ?_ ?_
                        rotate_left
                        · intro w'
                          go_simp
                          with_reducible rfl
                        rotate_left
                        · simp only [Act.put, List.setIfInBounds_toArray, List.set_cons_zero, List.set_cons_succ, i64_w, i32_w]
                          rfl
                        refine pure_ (i := 3) (N := some 112) (v := ?_) (a' := ?_) #[true, true, true, true, false, false, false, false, false, false, false, false, false] rfl rfl (any_of HT_.out (by kernel_rfl)) (fun _ _ _ h => h) (Or.inl ⟨by rfl, ?_⟩) ?_ ?_
                        rotate_left
                        · intro w'
                          go_simp
                          with_reducible rfl
                        rotate_left
                        · simp only [Act.put, List.setIfInBounds_toArray, List.set_cons_zero, List.set_cons_succ, i64_w, i32_w]
                          rfl
                        refine pure_ (i := 5) (N := some 114) (v := ?_) (a' := ?_) #[true, true, true, true, false, true, false, false, false, false, false, false, false] rfl rfl (any_of HT_.out (by kernel_rfl)) (fun _ _ _ h => h) (Or.inl ⟨by rfl, ?_⟩) ?_ ?_
                        rotate_left
                        · intro w'
                          go_simp
                          with_reducible rfl
                        rotate_left
                        · simp only [Act.put, List.setIfInBounds_toArray, List.set_cons_zero, List.set_cons_succ, i64_w, i32_w]
                          rfl
                        refine pure_ (i := 6) (N := some 115) (v := ?_) (a' := ?_) #[true, true, true, true, false, true, true, false, false, false, false, false, false] rfl rfl (any_of HT_.out (by kernel_rfl)) (fun _ _ _ h => h) (Or.inl ⟨by rfl, ?_⟩) ?_ ?_
                        rotate_left
                        · intro w'
                          go_simp
                          with_reducible rfl
                        rotate_left
                        · simp only [Act.put, List.setIfInBounds_toArray, List.set_cons_zero, List.set_cons_succ, i64_w, i32_w]
                          rfl
                        refine pure_ (i := 7) (N := some 116) (v := ?_) (a' := ?_) #[true, true, true, true, false, true, true, true, false, false, false, false, false] rfl rfl (any_of HT_.out (by kernel_rfl)) (fun _ _ _ h => h) (Or.inl ⟨by rfl, ?_⟩) ?_ ?_
                        rotate_left
                        · intro w'
                          go_simp
                          with_reducible rfl
                        rotate_left
                        · simp only [Act.put, List.setIfInBounds_toArray, List.set_cons_zero, List.set_cons_succ, i64_w, i32_w]
                          rfl
                        refine pure_ (i := 8) (N := some 117) (v := ?_) (a' := ?_) #[true, true, true, true, false, true, true, true, true, false, false, false, false] rfl rfl (any_of HT_.out (by kernel_rfl)) (fun _ _ _ h => h) (Or.inl ⟨by rfl, ?_⟩) ?_ ?_
                        rotate_left
                        · intro w'
                          go_simp
                          with_reducible rfl
                        rotate_left
                        · simp only [Act.put, List.setIfInBounds_toArray, List.set_cons_zero, List.set_cons_succ, i64_w, i32_w]
                          rfl
                        refine take_ (i := 4) (N := some 113) (v := ?_) (a' := ?_) #[true, true, true, true, true, true, true, true, true, false, false, false, false] rfl rfl (take_ofW HT_.out HW_.out (by kernel_rfl)) (fun _ _ _ h => h) (Or.inl ⟨by rfl, ?_⟩) hHeld ?_ ?_
                        rotate_left
                        · rintro w' ⟨s0, s1⟩
                          go_simp
                          with_reducible rfl
                        rotate_left
                        · simp only [Act.put, List.setIfInBounds_toArray, List.set_cons_zero, List.set_cons_succ, i64_w, i32_w]
                          rfl
                        refine take_ (i := 9) (N := some 118) (v := ?_) (a' := ?_) #[true, true, true, true, true, true, true, true, true, true, false, false, false] rfl rfl (take_ofW HT_.out HW_.out (by kernel_rfl)) (fun _ _ _ h => h) (Or.inl ⟨by rfl, ?_⟩) hHeld ?_ ?_
                        rotate_left
                        · rintro w' ⟨s0, s1⟩
                          go_simp
                          with_reducible rfl
                        rotate_left
                        · simp only [Act.put, List.setIfInBounds_toArray, List.set_cons_zero, List.set_cons_succ, i64_w, i32_w]
                          rfl
                        refine pure_ (i := 10) (N := some 119) (v := ?_) (a' := ?_) #[true, true, true, true, true, true, true, true, true, true, true, false, false] rfl rfl (any_of HT_.out (by kernel_rfl)) (fun _ _ _ h => h) (Or.inl ⟨by rfl, ?_⟩) ?_ ?_
                        rotate_left
                        · intro w'
                          go_simp
                          with_reducible rfl
                        rotate_left
                        · simp only [Act.put, List.setIfInBounds_toArray, List.set_cons_zero, List.set_cons_succ, i64_w, i32_w]
                          rfl
                        refine pure_ (i := 11) (N := some 120) (v := ?_) (a' := ?_) #[true, true, true, true, true, true, true, true, true, true, true, true, false] rfl rfl (any_of HT_.out (by kernel_rfl)) (fun _ _ _ h => h) (Or.inl ⟨by rfl, ?_⟩) ?_ ?_
                        rotate_left
                        · intro w'
                          go_simp
                          with_reducible rfl
                        rotate_left
                        · simp only [Act.put, List.setIfInBounds_toArray, List.set_cons_zero, List.set_cons_succ, i64_w, i32_w]
                          rfl
                        refine pure_ (i := 12) (N := some 10) (v := ?_) (a' := ?_) #[true, true, true, true, true, true, true, true, true, true, true, true, true] rfl rfl (any_of HT_.out (by kernel_rfl)) (fun _ _ _ h => h) (Or.inl ⟨by rfl, ?_⟩) ?_ ?_
                        rotate_left
                        · intro w'
                          go_simp
                          with_reducible rfl
                        rotate_left
                        · simp only [Act.put, List.setIfInBounds_toArray, List.set_cons_zero, List.set_cons_succ, i64_w, i32_w]
                          rfl
                        refine done_ (done_of HT_.out (by kernel_rfl)) ?_
                        try go_wp2
                        go_ret
                        exact ⟨by first | rfl | (simp [errW_none, errW_some] <;> rfl) | (simp [*, errW_none, errW_some] <;> rfl), by repeat (first | (with_reducible first | exact HB.out | apply below_alloc | apply pw_below_drewN | apply below_drew1 | refine below_set ?_ GE255.out) | exact HB.out)⟩
                      · rw [if_neg c89] at H
                        exact absurd H (by simp)
                    · rw [if_neg c88] at H
                      exact absurd H (by simp)
                  · rw [if_neg c87] at H
                    exact absurd H (by simp)
                · exfalso
                  rw [if_neg c86, hr0.out] at H
                  cases H
              · rw [if_neg c84] at H
                have c84b0 : (t282 == 0) = false := beq_eq_false_iff_ne.mpr c84
                have c84b1 : (t282 != 0) = true := bne_iff_ne.mpr c84
                by_cases c106 : (t278.length : Int) = 0
                · rw [if_pos c106] at H
                  have c106b0 : ((t278.length : Int) == 0) = true := beq_iff_eq.mpr c106
                  have c106b1 : ((t278.length : Int) != 0) = false := bne_eq_false_iff_eq.mpr c106
                  clear c106
                  obtain rfl := Option.some.inj H
                  have hcz107_0 : wc.cell? ⟨gb255, 0, none⟩ = some (.int .u8 a0_0) := (blk_cell BK255.out 0).trans rfl
                  have hcz107_1 : wc.cell? ⟨gb255, 1, none⟩ = some (.int .u8 a0_1) := (blk_cell BK255.out 1).trans rfl
                  have hcz107_2 : wc.cell? ⟨gb255, 2, none⟩ = some (.int .i64 a0_2) := (blk_cell BK255.out 2).trans rfl
                  have hcz107_3 : wc.cell? ⟨gb255, 3, none⟩ = some (.slice A0_3 l0_3.length c0_3) := (blk_cell BK255.out 3).trans rfl
                  have hfz107_0 := blk_frozen BK255.out 0
                  have hfz107_1 := blk_frozen BK255.out 1
                  have hfz107_2 := blk_frozen BK255.out 2
                  have hfz107_3 := blk_frozen BK255.out 3
                  go_wp2_with (first | ((with_reducible refine gate_callee (f := 13) rfl ?_); refine goesL_ (some 90) rfl rfl Try.func13 (by kernel_rfl) rfl #[.slice A3 l3.length c3, .int .i64 a4, .agg #[.int .u8 a0_0, .int .u8 a0_1, .int .i64 a0_2, .slice A0_3 l0_3.length c0_3]] rfl (by (try simp only [List.map_toArray, List.map_cons, List.map_nil]); first | done | rfl | (simp only [List.length_drop, List.length_take]; rfl)) ?_; (with_reducible refine (tnsbits_Get.calls _ _ l3 a4 a0_0 a0_1 a0_2 _ _ l0_3 t278 t281 t282 _ ?side1 ?side2 ?side3 ?side4 A83.out).mono ?_); (case side1 => repeat (first | exact (Kd.C_below HR3.out HB.out) | (with_reducible refine Kd.C_alloc ?_ _) | (with_reducible refine Kd.C_drewN ?_ _) | (with_reducible refine Kd.C_drew ?_))); (case side2 => exact HC3.out); (case side3 => repeat (first | exact (Kd.C_below HR0_3.out HB.out) | (with_reducible refine Kd.C_alloc ?_ _) | (with_reducible refine Kd.C_drewN ?_ _) | (with_reducible refine Kd.C_drew ?_))); (case side4 => exact HC0_3.out); rintro e w108 ⟨v279, rfl, ho0, hb⟩; refine ⟨_, rfl, ?_⟩; have n0_ := Aside0.mk (Kd.R_lower ho0 (below_size (by repeat (first | (with_reducible first | exact HB.out | apply below_alloc | apply pw_below_drewN | apply below_drew1 | refine below_set ?_ GE255.out) | exact HB.out)))); have n1_ := Aside0.mk (blk_below (g := gb255) (o := .cells #[.int .u8 a0_0, .int .u8 a0_1, .int .i64 a0_2, .slice A0_3 l0_3.length c0_3] 24 (0, 0)) (by (with_reducible repeat (first | refine blk_drewN ?_ _ | refine blk_drew ?_ | refine blk_alloc ?_ _)); exact BK255.out) hb); have n2_ := Aside0.mk (below_step (by repeat (first | (with_reducible first | exact HB.out | apply below_alloc | apply pw_below_drewN | apply below_drew1 | refine below_set ?_ GE255.out) | exact HB.out)) hb); clear BK255; clear HB; have HO280 := n0_; have BK255 := n1_; have HB := n2_; clear n0_ n1_ n2_; (try clear hb); (try clear hb2); (try clear hk); (try clear hi); (try clear ho0); obtain ⟨Ao109, co109, eo109⟩ := Kd.R_slice HO280.out; subst eo109))
                  go_ret
                  exact ⟨by first | rfl | (simp [errW_none, errW_some] <;> rfl) | (simp [*, errW_none, errW_some] <;> rfl), by repeat (first | (with_reducible first | exact HB.out | apply below_alloc | apply pw_below_drewN | apply below_drew1 | refine below_set ?_ GE255.out) | exact HB.out)⟩
                · exfalso
                  rw [if_neg c106, hr0.out] at H
                  cases H
end Go.Proofs.Ytdhcgfdnhlhapaa.K
end
section
/- Filters as bits: what the printed functions of the laws tell, without rounds: greatness, lengths of bits. -/
namespace Go.Proofs.Ytdhcgfdnhlhapaa.HS
open Go.RowKit Go.Proofs.YtdhcgfdnhlhapaaW.PrintWords Go.Proofs.YtdhcgfdnhlhapaaW.PrintLast Go.Proofs.YtdhcgfdnhlhapaaW.PrintMore Go.Proofs.Ytdhcgfdnhlhapaa.HA Go.Proofs.Ytdhcgfdnhlhapaa.HP Go.Proofs.Ytdhcgfdnhlhapaa.K
set_option linter.unusedVariables false

theorem great_l3 (l : List (List Filt)) (i : Nat) (hi : i < l.length) (hb : i ≤ 100000) (hw : l[i].length ≤ 20) (K0 : Nat) (P : Prop) (hcont : ∀ k, K0 < k → ∃ r, reedpiperef18_Great.l2 k (wrap64 ((i : Int) + 1)) 0 0 0 0 [] [] [] l [] = some r ∧ (r = false → P)) :
    ∀ (d k j : Nat), l[i].length - j = d → j ≤ l[i].length → K0 + d + 1 < k → ∃ r, reedpiperef18_Great.l3 k (i : Int) (j : Int) 0 0 0 0 [] [] [] l [] = some r ∧ (r = false → P) := by
  intro d
  induction d with
  | zero =>
    intro k j hd hj hk
    obtain ⟨k, rfl⟩ : ∃ m, k = m + 1 := ⟨k - 1, by omega⟩
    simp only [reedpiperef18_Great.l3]
    rw [if_pos (by omega), if_pos (by omega), rdL_at l i hi, if_neg (by omega)]
    exact hcont k (by omega)
  | succ d ih =>
    intro k j hd hj hk
    obtain ⟨k, rfl⟩ : ∃ m, k = m + 1 := ⟨k - 1, by omega⟩
    simp only [reedpiperef18_Great.l3]
    rw [if_pos (by omega), if_pos (by omega), rdL_at l i hi, if_pos (by omega), if_pos (by omega)]
    by_cases h : (((rd_T38 l[i] (j : Int)).f4).length : Int) > 100
    · rw [if_pos h]
      exact ⟨true, rfl, fun h => by cases h⟩
    · rw [if_neg h, wrap_succ j (by omega)]
      exact ih k (j + 1) (by omega) (by omega) (by omega)
theorem great_l2 (l : List (List Filt)) (hl : l.length ≤ 40) : ∀ (d k i : Nat), l.length - i = d → i ≤ l.length → 23 * d + 2 < k →
    ∃ r, reedpiperef18_Great.l2 k (i : Int) 0 0 0 0 [] [] [] l [] = some r ∧ (r = false → ∀ j, i ≤ j → ∀ h : j < l.length, (l[j]'h).length ≤ 20) := by
  intro d
  induction d with
  | zero =>
    intro k i hd hi hk
    obtain ⟨k, rfl⟩ : ∃ m, k = m + 1 := ⟨k - 1, by omega⟩
    simp only [reedpiperef18_Great.l2]
    rw [if_neg (by omega)]
    exact ⟨false, rfl, fun _ j hj h => by omega⟩
  | succ d ih =>
    intro k i hd hi hk
    obtain ⟨k, rfl⟩ : ∃ m, k = m + 1 := ⟨k - 1, by omega⟩
    have hlt : i < l.length := by omega
    simp only [reedpiperef18_Great.l2]
    rw [if_pos (by omega), if_pos (by omega), rdL_at l i hlt]
    by_cases h : ((l[i].length : Nat) : Int) > 20
    · rw [if_pos h]
      exact ⟨true, rfl, fun h => by cases h⟩
    · rw [if_neg h]
      have hk2 : l[i].length ≤ 20 := by omega
      have h0 := great_l3 l i hlt (by omega) hk2 (23 * d + 2) (∀ j, i ≤ j → ∀ h : j < l.length, (l[j]'h).length ≤ 20) (fun k hk => by
        rw [wrap_succ i (by omega)]
        obtain ⟨r, h1, h2⟩ := ih k (i + 1) (by omega) (by omega) (by omega)
        refine ⟨r, h1, fun h3 j hj hj2 => ?_⟩
        rcases Nat.lt_or_ge i j with h4 | h4
        · exact h2 h3 j h4 hj2
        · obtain rfl : j = i := by omega
          exact hk2) l[i].length k 0 (by omega) (by omega) (by omega)
      exact h0
theorem great_f (l : List (List Filt)) (k : Nat) (hk : 1000 ≤ k) : ∃ r, reedpiperef21_Great.f k l = some r ∧ (r = false → l.length ≤ 40 ∧ ∀ w ∈ l, w.length ≤ 20) := by
  unfold reedpiperef21_Great.f reedpiperef18_Great.f
  obtain ⟨k, rfl⟩ : ∃ m, k = m + 3 := ⟨k - 3, by omega⟩
  rw [if_neg (by simp), if_neg (by simp), if_neg (by simp)]
  by_cases h : (l.length : Int) > 40
  · rw [if_pos h]
    simp only [reedpiperef18_Great.j0, if_true]
    exact ⟨true, rfl, fun h => by cases h⟩
  · rw [if_neg h]
    have h40 : l.length ≤ 40 := by omega
    obtain ⟨r, h1, h2⟩ := great_l2 l h40 l.length k 0 (by omega) (by omega) (by omega)
    refine ⟨r, ?_, fun h3 => ⟨h40, fun w hw => ?_⟩⟩
    · simp only [reedpiperef18_Great.j0, reedpiperef18_Great.l0, reedpiperef18_Great.l1]
      simp only [List.length_nil]
      rw [if_neg (by simp), if_neg (by simp), if_neg (by simp)]
      rw [show ((0 : Nat) : Int) = 0 from rfl] at h1
      rw [h1]
      rfl
    · obtain ⟨j, hj, rfl⟩ := List.getElem_of_mem hw
      exact h2 h3 j (by omega) hj
/-! ### how many bits -/
theorem flat_ge {α : Type} (f : α → List Int) (m : Nat) : ∀ (l : List α), (∀ x ∈ l, m ≤ (f x).length) → m * l.length ≤ (l.flatMap f).length
  | [], _ => by simp
  | x :: r, h => by
    have h1 := h x List.mem_cons_self
    have h2 := flat_ge f m r (fun y hy => h y (List.mem_cons_of_mem _ hy))
    rw [List.flatMap_cons, List.length_append, List.length_cons, Nat.mul_succ]
    omega
theorem filtBits_ge (s : Int) (f : Filt) : 7 ≤ (filtBits s f).length := by
  unfold filtBits lenF ordF
  rw [List.length_append, List.length_append, bitsM_length, bitsM_length]
  split <;> simp <;> omega
theorem winBits_ge (s : Int) (w : List Filt) : (numF s).toNat + 7 * w.length ≤ (winBits s w).length := by
  have := flat_ge (filtBits s) 7 w (fun f _ => filtBits_ge s f)
  unfold winBits
  rw [List.length_append, List.length_append, bitsM_length]
  omega
def manyL : List (List Filt) → Nat
  | [] => 0
  | w :: r => w.length + manyL r
theorem tnsBits_ge (s : Int) : ∀ l : List (List Filt), (numF s).toNat * l.length + 7 * manyL l ≤ (tnsBits s l).length
  | [] => by simp [manyL]
  | w :: r => by
    have h1 := winBits_ge s w
    have h2 := tnsBits_ge s r
    unfold tnsBits at h2 ⊢
    rw [List.flatMap_cons, List.length_append, List.length_cons, manyL, Nat.mul_succ]
    omega
theorem manyL_le (l : List (List Filt)) (h : ∀ w ∈ l, w.length ≤ 20) : manyL l ≤ 20 * l.length := by
  induction l with
  | nil => simp [manyL]
  | cons w r ih =>
    have h1 := h w List.mem_cons_self
    have h2 := ih (fun x hx => h x (List.mem_cons_of_mem _ hx))
    rw [manyL, List.length_cons]
    omega
theorem winBits_nil (s : Int) : (winBits s []).length = (numF s).toNat := by
  unfold winBits fineBits
  simp [bitsM_length]
theorem tnsBits_none (s : Int) : ∀ n : Nat, (tnsBits s (List.replicate n [])).length = (numF s).toNat * n
  | 0 => by simp [tnsBits]
  | n + 1 => by
    have := tnsBits_none s n
    unfold tnsBits at this ⊢
    rw [List.replicate_succ, List.flatMap_cons, List.length_append, winBits_nil, this, Nat.mul_succ]
    omega
theorem winOk_nil (s : Int) : winOk s [] = true := by
  have := mostF_rng s
  unfold winOk
  simp
  omega
theorem tnsOk_none {s sh m : Int} {gs : List Int} (h : SP.someS s sh m gs = true) : tnsOk s sh m gs (List.replicate (manyF s).toNat []) = true := by
  unfold tnsOk
  rw [h]
  have h2 : (((List.replicate (manyF s).toNat ([] : List Filt)).length : Nat) : Int) = manyF s := by
    rw [List.length_replicate]
    unfold manyF
    split <;> decide
  rw [beq_iff_eq.2 h2, List.all_eq_true.2]
  · rfl
  · intro w hw
    rw [List.eq_of_mem_replicate hw]
    exact winOk_nil s
/-! ### what the printed words for Check and Put are -/
theorem check_f (s sh m : Int) (gs : List Int) (l : List (List Filt)) (hg : gs.length ≤ 17592186044416) : tnsbits_Check.f s sh m gs l = some (if tnsOk s sh m gs l = true then 0 else 8) := by
  unfold tnsbits_Check.f
  rw [if_pos hg]
theorem put_f (xs : List Int) (s sh m : Int) (gs : List Int) (l : List (List Filt)) (hx : xs.length ≤ 1000000) (hg : gs.length ≤ 17592186044416) : tnsbits_Put.f xs s sh m gs l = some (if tnsOk s sh m gs l = true then (xs ++ tnsBits s l, 0) else ([], 8)) := by
  unfold tnsbits_Put.f
  rw [if_pos ⟨hx, hg⟩]
end Go.Proofs.Ytdhcgfdnhlhapaa.HS
end
section
/- Filters as bits: they are got as they were put, and put as these bits when got: plain lists and numbers. -/
namespace Go.Proofs.Ytdhcgfdnhlhapaa.HS
open Go.RowKit Go.Proofs.YtdhcgfdnhlhapaaW.PrintWords Go.Proofs.YtdhcgfdnhlhapaaW.PrintLast Go.Proofs.YtdhcgfdnhlhapaaW.PrintMore Go.Proofs.Ytdhcgfdnhlhapaa.HA Go.Proofs.Ytdhcgfdnhlhapaa.HP Go.Proofs.Ytdhcgfdnhlhapaa.K
set_option linter.unusedVariables false

theorem fitS_iff (l : List Int) (size : Int) : fitS l size = true ↔ ∀ c ∈ l, -halfOf size ≤ c ∧ c < halfOf size := by
  unfold fitS
  rw [Bool.not_eq_true', List.any_eq_false]
  refine ⟨fun h c hc => ?_, fun h c hc => ?_⟩
  · have := h c hc
    unfold odd at this
    simp at this
    omega
  · have := h c hc
    unfold odd
    simp
    omega
theorem sz_cases {sz : Int} (h0 : 2 ≤ sz) (h1 : sz ≤ 4) : sz = 2 ∨ sz = 3 ∨ sz = 4 := by omega
theorem sgn_mod {c sz : Int} (h0 : 2 ≤ sz) (h1 : sz ≤ 4) (hc : -halfOf sz ≤ c ∧ c < halfOf sz) : sgn (c % 2 ^ sz.toNat) sz = c := by
  unfold sgn
  unfold halfOf at hc
  rcases sz_cases h0 h1 with rfl | rfl | rfl
  · rw [show (2 : Int) ^ ((2 : Int) - 1).toNat = 2 by decide] at hc
    rw [show (2 : Int) ^ ((2 : Int) - 1).toNat = 2 by decide, show (2 : Int) ^ (2 : Int).toNat = 4 by decide]; omega
  · rw [show (2 : Int) ^ ((3 : Int) - 1).toNat = 4 by decide] at hc
    rw [show (2 : Int) ^ ((3 : Int) - 1).toNat = 4 by decide, show (2 : Int) ^ (3 : Int).toNat = 8 by decide]; omega
  · rw [show (2 : Int) ^ ((4 : Int) - 1).toNat = 8 by decide] at hc
    rw [show (2 : Int) ^ ((4 : Int) - 1).toNat = 8 by decide, show (2 : Int) ^ (4 : Int).toNat = 16 by decide]; omega
theorem mod_sgn {n sz : Int} (h0 : 2 ≤ sz) (h1 : sz ≤ 4) (hn : 0 ≤ n ∧ n < 2 ^ sz.toNat) : sgn n sz % 2 ^ sz.toNat = n ∧ -halfOf sz ≤ sgn n sz ∧ sgn n sz < halfOf sz := by
  unfold sgn halfOf
  rcases sz_cases h0 h1 with rfl | rfl | rfl
  · rw [show (2 : Int) ^ (2 : Int).toNat = 4 by decide] at hn
    rw [show (2 : Int) ^ ((2 : Int) - 1).toNat = 2 by decide, show (2 : Int) ^ (2 : Int).toNat = 4 by decide]; omega
  · rw [show (2 : Int) ^ (3 : Int).toNat = 8 by decide] at hn
    rw [show (2 : Int) ^ ((3 : Int) - 1).toNat = 4 by decide, show (2 : Int) ^ (3 : Int).toNat = 8 by decide]; omega
  · rw [show (2 : Int) ^ (4 : Int).toNat = 16 by decide] at hn
    rw [show (2 : Int) ^ ((4 : Int) - 1).toNat = 8 by decide, show (2 : Int) ^ (4 : Int).toNat = 16 by decide]; omega
/-! ### got as put -/
theorem getN_at {X pre post : List Int} {n size p : Int} (hx : X = pre ++ (bitsM n size ++ post)) (hp : p = (pre.length : Int)) (h0 : 0 ≤ size) (h1 : size ≤ 31) : SG.getN X (p, 0) size = (n % 2 ^ size.toNat, p + size, 0) := by
  obtain ⟨k, rfl⟩ := Int.eq_ofNat_of_zero_le h0
  have hpow : (0 : Int) < 2 ^ k := Int.pow_pos (by omega)
  subst hp
  unfold SG.getN
  rw [if_pos rfl, hx, ← List.append_assoc]
  unfold bitsM
  simp only [Int.toNat_natCast]
  rw [SG.getS_put pre post _ k (by omega) (Int.emod_nonneg _ (by omega)) (Int.emod_lt_of_pos _ hpow)]
  simp
theorem getN_at' {X pre post : List Int} {n size p : Int} (hx : X = pre ++ (bitsM n size ++ post)) (hp : p = (pre.length : Int)) (h0 : 0 ≤ size) (h1 : size ≤ 31) (hn0 : 0 ≤ n) (hn1 : n < 2 ^ size.toNat) : SG.getN X (p, 0) size = (n, p + size, 0) := by
  rw [getN_at hx hp h0 h1, Int.emod_eq_of_lt hn0 hn1]
theorem bitsM_len {n size : Int} (h : 0 ≤ size) : ((bitsM n size).length : Int) = size := by rw [bitsM_length]; omega
theorem coefs_put {X : List Int} {sz : Int} (h0 : 2 ≤ sz) (h1 : sz ≤ 4) (post : List Int) : ∀ (cs acc pre : List Int) (p : Int), X = pre ++ (cs.flatMap (fun c => bitsM c sz) ++ post) → p = (pre.length : Int) → (∀ c ∈ cs, -halfOf sz ≤ c ∧ c < halfOf sz) →
    getCoefs X sz cs.length acc (p, 0) = (acc ++ cs, p + sz * cs.length, 0)
  | [], acc, pre, p, hx, hp, hc => by simp [getCoefs]
  | c :: cs, acc, pre, p, hx, hp, hc => by
    have hx' : X = pre ++ (bitsM c sz ++ (cs.flatMap (fun c => bitsM c sz) ++ post)) := by rw [hx, List.flatMap_cons, List.append_assoc]
    have ih := coefs_put (X := X) h0 h1 post cs (acc ++ [c]) (pre ++ bitsM c sz) (p + sz) (by rw [hx', List.append_assoc]) (by rw [List.length_append, Int.natCast_add, bitsM_len (by omega), hp]) (fun d hd => hc d (List.mem_cons_of_mem _ hd))
    simp only [getCoefs, List.length_cons]
    rw [getN_at hx' hp (by omega) (by omega)]
    simp only
    rw [sgn_mod h0 h1 (hc c List.mem_cons_self), ih, List.append_assoc]
    congr 2
    rw [Int.natCast_add, Int.mul_add]
    omega
theorem coefs_len (f : Filt) (l : List Int) : ((coefsBits f l).length : Int) = (wideS f.f3 - b2i (narrowS f)) * l.length := by
  have hw := wideS_rng f.f3
  have hb := b2i_rng (narrowS f)
  unfold coefsBits
  induction l with
  | nil => simp
  | cons c l ih =>
    rw [List.flatMap_cons, List.length_append, Int.natCast_add, ih, bitsM_len (by omega), List.length_cons, Int.natCast_add, Int.mul_add]
    omega
theorem tail_put {X : List Int} {s : Int} {f : Filt} (hf : filtRight s f = true) (post pre : List Int) (p : Int) (hx : X = pre ++ (tailBits f ++ post)) (hp : p = (pre.length : Int)) :
    getTail X f.f0 f.f1 f.f3 (p, 0) = (f, false, p + (tailBits f).length, 0) := by
  obtain ⟨g0, g1, g2, g3, g4⟩ := rightS_le hf
  have hfit : fitS f.f4 (wideS f.f3) = true := by
    unfold filtRight rightS at hf
    simp only [Bool.and_eq_true] at hf
    exact hf.2
  have hw := wideS_rng f.f3
  have hb := b2i_rng (narrowS f)
  obtain ⟨len, order, down, fine, co⟩ := f
  simp only at *
  unfold getTail
  by_cases ho : order = 0
  · subst ho
    rw [if_pos rfl]
    have hd := g4 (by omega)
    have hc : co = [] := List.eq_nil_of_length_eq_zero (by omega)
    subst hd hc
    unfold tailBits
    simp
  · rw [if_neg ho]
    obtain ⟨F, hF⟩ : ∃ F : Filt, F = ⟨len, order, down, fine, co⟩ := ⟨_, rfl⟩
    rw [← hF] at hx hb ⊢
    have e3 : F.f3 = fine := by rw [hF]
    have e4 : F.f4 = co := by rw [hF]
    have ht : tailBits F = bitsM (b2i F.f2) 1 ++ (bitsM (b2i (narrowS F)) 1 ++ coefsBits F F.f4) := if_neg (by rw [hF]; exact ho)
    have hx1 : X = pre ++ (bitsM (b2i F.f2) 1 ++ (bitsM (b2i (narrowS F)) 1 ++ (coefsBits F F.f4 ++ post))) := by rw [hx, ht]; simp only [List.append_assoc]
    have hx2 : X = (pre ++ bitsM (b2i F.f2) 1) ++ (bitsM (b2i (narrowS F)) 1 ++ (coefsBits F F.f4 ++ post)) := by rw [hx1]; simp only [List.append_assoc]
    have hx3 : X = ((pre ++ bitsM (b2i F.f2) 1) ++ bitsM (b2i (narrowS F)) 1) ++ (coefsBits F F.f4 ++ post) := by rw [hx2]; simp only [List.append_assoc]
    have hb2 := b2i_rng F.f2
    have e1 : ((1 : Int)).toNat = 1 := rfl
    have hg1 := getN_at' hx1 hp (by decide) (by decide) hb2.1 (by rw [e1]; omega)
    have hl1 : p + 1 = ((pre ++ bitsM (b2i F.f2) 1).length : Int) := by rw [List.length_append, Int.natCast_add, bitsM_len (by decide), hp]
    have hg2 := getN_at' hx2 hl1 (by decide) (by decide) hb.1 (by rw [e1]; omega)
    have hl2 : p + 1 + 1 = (((pre ++ bitsM (b2i F.f2) 1) ++ bitsM (b2i (narrowS F)) 1).length : Int) := by rw [List.length_append, Int.natCast_add, bitsM_len (by decide), ← hl1]
    have hsz0 : 2 ≤ wideS F.f3 - b2i (narrowS F) := by rw [e3]; omega
    have hsz1 : wideS F.f3 - b2i (narrowS F) ≤ 4 := by rw [e3]; omega
    have hin : ∀ c ∈ F.f4, -halfOf (wideS F.f3 - b2i (narrowS F)) ≤ c ∧ c < halfOf (wideS F.f3 - b2i (narrowS F)) := by
      cases hn : narrowS F with
      | true => exact (fitS_iff _ _).1 hn
      | false =>
        rw [show wideS F.f3 - b2i false = wideS F.f3 by show wideS F.f3 - 0 = _; omega]
        rw [e3, e4]
        exact (fitS_iff _ _).1 hfit
    have hg3 := coefs_put (X := X) hsz0 hsz1 post F.f4 [] _ _ hx3 hl2 hin
    have hco : order.toNat = F.f4.length := by rw [e4]; omega
    simp only [hg1, hg2]
    rw [← e3, hco, hg3]
    simp only [List.nil_append]
    have hdn : (b2i F.f2 == 1) = F.f2 := by cases F.f2 <;> rfl
    have hod : ((b2i (narrowS F) == 0) && fitS F.f4 (wideS F.f3 - b2i (narrowS F) - 1)) = false := by
      cases hn : narrowS F with
      | true => rfl
      | false =>
        have : fitS F.f4 (wideS F.f3 - 0 - 1) = false := by rw [show wideS F.f3 - 0 - 1 = wideS F.f3 - 1 by omega]; exact hn
        show ((0 : Int) == 0 && fitS F.f4 (wideS F.f3 - 0 - 1)) = false
        rw [this]
        rfl
    rw [hdn, hod]
    have hlen : ((tailBits F).length : Int) = 1 + (1 + (wideS F.f3 - b2i (narrowS F)) * F.f4.length) := by
      rw [ht, List.length_append, List.length_append, Int.natCast_add, Int.natCast_add, bitsM_len (by decide), bitsM_len (by decide), coefs_len]
    rw [hlen]
    refine Prod.ext ?_ (Prod.ext rfl (Prod.ext ?_ rfl))
    · rw [hF]
    · simp only
      omega
theorem filts_put {X : List Int} {s : Int} {fine : Bool} (post : List Int) : ∀ (w acc : List Filt) (pre : List Int) (p : Int), X = pre ++ (w.flatMap (filtBits s) ++ post) → p = (pre.length : Int) → (∀ f ∈ w, filtRight s f = true ∧ f.f3 = fine) →
    getFilts X s fine w.length acc false (p, 0) = some (acc ++ w, false, p + (w.flatMap (filtBits s)).length, 0)
  | [], acc, pre, p, hx, hp, hf => by simp [getFilts]
  | f :: w, acc, pre, p, hx, hp, hf => by
    obtain ⟨hr, h3⟩ := hf f List.mem_cons_self
    have hl := lenF_rng s
    have ho := ordF_rng s
    obtain ⟨g0, g1, g2, g3, g4⟩ := rightS_le hr
    have hlen : f.f0 < 2 ^ (lenF s).toNat ∧ f.f1 < 2 ^ (ordF s).toNat := by
      unfold filtRight rightS at hr
      simp only [Bool.and_eq_true, decide_eq_true_eq] at hr
      obtain ⟨⟨⟨⟨⟨⟨_, h2⟩, _⟩, h4⟩, _⟩, _⟩, _⟩ := hr
      unfold lenF ordF
      by_cases hs : s = 2
      · simp only [if_pos hs] at h2 h4 ⊢
        exact ⟨by rw [show (2 : Int) ^ (4 : Int).toNat = 16 by decide]; omega, by rw [show (2 : Int) ^ (3 : Int).toNat = 8 by decide]; omega⟩
      · simp only [if_neg hs] at h2 h4 ⊢
        exact ⟨by rw [show (2 : Int) ^ (6 : Int).toNat = 64 by decide]; omega, by rw [show (2 : Int) ^ (5 : Int).toNat = 32 by decide]; omega⟩
    have hx1 : X = pre ++ (bitsM f.f0 (lenF s) ++ (bitsM f.f1 (ordF s) ++ (tailBits f ++ (w.flatMap (filtBits s) ++ post)))) := by rw [hx, List.flatMap_cons]; unfold filtBits; simp only [List.append_assoc]
    have hx2 : X = (pre ++ bitsM f.f0 (lenF s)) ++ (bitsM f.f1 (ordF s) ++ (tailBits f ++ (w.flatMap (filtBits s) ++ post))) := by rw [hx1]; simp only [List.append_assoc]
    have hx3 : X = ((pre ++ bitsM f.f0 (lenF s)) ++ bitsM f.f1 (ordF s)) ++ (tailBits f ++ (w.flatMap (filtBits s) ++ post)) := by rw [hx2]; simp only [List.append_assoc]
    have hx4 : X = (((pre ++ bitsM f.f0 (lenF s)) ++ bitsM f.f1 (ordF s)) ++ tailBits f) ++ (w.flatMap (filtBits s) ++ post) := by rw [hx3]; simp only [List.append_assoc]
    have hl1 : p + lenF s = ((pre ++ bitsM f.f0 (lenF s)).length : Int) := by rw [List.length_append, Int.natCast_add, bitsM_len (by omega), hp]
    have hl2 : p + lenF s + ordF s = (((pre ++ bitsM f.f0 (lenF s)) ++ bitsM f.f1 (ordF s)).length : Int) := by rw [List.length_append, Int.natCast_add, bitsM_len (by omega), ← hl1]
    have hl3 : p + lenF s + ordF s + (tailBits f).length = ((((pre ++ bitsM f.f0 (lenF s)) ++ bitsM f.f1 (ordF s)) ++ tailBits f).length : Int) := by rw [List.length_append, Int.natCast_add, ← hl2]
    have ha := getN_at' hx1 hp (by omega) (by omega) g0 hlen.1
    have hb := getN_at' hx2 hl1 (by omega) (by omega) g1 hlen.2
    have ht := tail_put hr _ _ _ hx3 hl2
    have ih := filts_put post w (acc ++ [f]) _ _ hx4 hl3 (fun g hg => hf g (List.mem_cons_of_mem _ hg))
    simp only [getFilts, List.length_cons, ha, hb]
    rw [if_neg (by omega), ← h3, ht]
    simp only [Bool.or_self]
    rw [h3, ih, List.append_assoc]
    have e : (((f :: w).flatMap (filtBits s)).length : Int) = lenF s + ordF s + (tailBits f).length + (w.flatMap (filtBits s)).length := by
      rw [List.flatMap_cons]
      unfold filtBits
      simp only [List.length_append, Int.natCast_add]
      rw [bitsM_len (by omega), bitsM_len (by omega)]
      omega
    rw [e]
    simp only [List.singleton_append]
    congr 4
    omega
theorem wins_put {X : List Int} {s : Int} (post : List Int) : ∀ (l acc : List (List Filt)) (pre : List Int) (p : Int), X = pre ++ (tnsBits s l ++ post) → p = (pre.length : Int) → (∀ w ∈ l, winOk s w = true) →
    getWins X s l.length acc false (p, 0) = some (acc ++ l, false, p + (tnsBits s l).length, 0)
  | [], acc, pre, p, hx, hp, hf => by simp [getWins, tnsBits]
  | w :: l, acc, pre, p, hx, hp, hf => by
    obtain ⟨hm, hw⟩ := winOk_le (hf w List.mem_cons_self)
    have hn := numF_rng s
    have hlen : (w.length : Int) < 2 ^ (numF s).toNat := by
      unfold mostF at hm
      unfold numF
      by_cases hs : s = 2
      · simp only [if_pos hs] at hm ⊢
        rw [show (2 : Int) ^ (1 : Int).toNat = 2 by decide]; omega
      · simp only [if_neg hs] at hm ⊢
        rw [show (2 : Int) ^ (2 : Int).toNat = 4 by decide]; omega
    have hx0 : X = pre ++ (bitsM (w.length : Int) (numF s) ++ (fineBits w ++ (w.flatMap (filtBits s) ++ (tnsBits s l ++ post)))) := by
      rw [hx]; unfold tnsBits; rw [List.flatMap_cons]; unfold winBits; simp only [List.append_assoc]
    have hl1 : p + numF s = ((pre ++ bitsM (w.length : Int) (numF s)).length : Int) := by rw [List.length_append, Int.natCast_add, bitsM_len (by omega), hp]
    have ha := getN_at' hx0 hp (by omega) (by omega) (by omega) hlen
    have etot : ((tnsBits s (w :: l)).length : Int) = numF s + (fineBits w).length + (w.flatMap (filtBits s)).length + (tnsBits s l).length := by
      unfold tnsBits
      rw [List.flatMap_cons]
      unfold winBits
      simp only [List.length_append, Int.natCast_add]
      rw [bitsM_len (by omega)]
      omega
    simp only [getWins, List.length_cons, ha]
    by_cases hz : w.length = 0
    · have hw0 : w = [] := List.eq_nil_of_length_eq_zero hz
      have hx1 : X = (pre ++ bitsM (w.length : Int) (numF s)) ++ (tnsBits s l ++ post) := by
        rw [hx0, hw0]
        unfold fineBits
        simp
      have ih := wins_put post l (acc ++ [w]) _ _ hx1 hl1 (fun g hg => hf g (List.mem_cons_of_mem _ hg))
      rw [if_neg (by omega), etot]
      subst hw0
      simp only [List.length_nil]
      simp only [getFilts, show ((0 : Nat) : Int).toNat = 0 from rfl]
      rw [ih, List.append_assoc]
      unfold fineBits
      simp
      omega
    · have hx1 : X = (pre ++ bitsM (w.length : Int) (numF s)) ++ (bitsM (b2i (fineOf w)) 1 ++ (w.flatMap (filtBits s) ++ (tnsBits s l ++ post))) := by
        rw [hx0, show fineBits w = bitsM (b2i (fineOf w)) 1 from if_neg hz]; simp only [List.append_assoc]
      have hx2 : X = ((pre ++ bitsM (w.length : Int) (numF s)) ++ bitsM (b2i (fineOf w)) 1) ++ (w.flatMap (filtBits s) ++ (tnsBits s l ++ post)) := by rw [hx1]; simp only [List.append_assoc]
      have hx3 : X = (((pre ++ bitsM (w.length : Int) (numF s)) ++ bitsM (b2i (fineOf w)) 1) ++ w.flatMap (filtBits s)) ++ (tnsBits s l ++ post) := by rw [hx2]; simp only [List.append_assoc]
      have hbr := b2i_rng (fineOf w)
      have hb := getN_at' hx1 hl1 (by decide) (by decide) hbr.1 (by rw [show ((1 : Int)).toNat = 1 from rfl]; omega)
      have hl2 : p + numF s + 1 = (((pre ++ bitsM (w.length : Int) (numF s)) ++ bitsM (b2i (fineOf w)) 1).length : Int) := by rw [List.length_append, Int.natCast_add, bitsM_len (by decide), ← hl1]
      have hl3 : p + numF s + 1 + (w.flatMap (filtBits s)).length = ((((pre ++ bitsM (w.length : Int) (numF s)) ++ bitsM (b2i (fineOf w)) 1) ++ w.flatMap (filtBits s)).length : Int) := by rw [List.length_append, Int.natCast_add, ← hl2]
      have hfs := filts_put (fine := fineOf w) (tnsBits s l ++ post) w [] _ _ hx2 hl2 (fun f hf => hw f hf)
      have ih := wins_put post l (acc ++ [w]) _ _ hx3 hl3 (fun g hg => hf g (List.mem_cons_of_mem _ hg))
      rw [if_pos (by omega), hb, etot]
      simp only
      have hdn : (b2i (fineOf w) == 1) = fineOf w := by cases fineOf w <;> rfl
      rw [hdn, Int.toNat_natCast, hfs]
      simp only [List.nil_append]
      rw [ih, List.append_assoc]
      have ef : ((fineBits w).length : Int) = 1 := by rw [show fineBits w = bitsM (b2i (fineOf w)) 1 from if_neg hz, bitsM_len (by decide)]
      rw [ef]
      simp only [List.singleton_append]
      congr 4
      omega
theorem get_put {s sh m : Int} {gs : List Int} {l : List (List Filt)} (h : tnsOk s sh m gs l = true) (post : List Int) : getTns (tnsBits s l ++ post) 0 s sh m gs = (l, ((tnsBits s l).length : Int), 0) := by
  obtain ⟨h1, h2, h3⟩ := tnsOk_ok h
  have hw := wins_put (X := tnsBits s l ++ post) (s := s) post l [] [] 0 (by simp) (by simp) h3
  unfold getTns
  rw [if_pos h1, ← h2, Int.toNat_natCast, hw]
  simp [getEnd]
end Go.Proofs.Ytdhcgfdnhlhapaa.HS
end
section
/- Filters as bits: what is got is put as these bits. -/
namespace Go.Proofs.Ytdhcgfdnhlhapaa.HS
open Go.RowKit Go.Proofs.YtdhcgfdnhlhapaaW.PrintWords Go.Proofs.YtdhcgfdnhlhapaaW.PrintLast Go.Proofs.YtdhcgfdnhlhapaaW.PrintMore Go.Proofs.Ytdhcgfdnhlhapaa.HA Go.Proofs.Ytdhcgfdnhlhapaa.HP Go.Proofs.Ytdhcgfdnhlhapaa.K
set_option linter.unusedVariables false

/-- These bits stand from p on ahead of q. -/
def Seg (b : List Int) (p q : Int) (l : List Int) : Prop := 0 ≤ p ∧ p ≤ q ∧ q ≤ b.length ∧ (b.drop p.toNat).take (q - p).toNat = l
theorem Seg.append {b : List Int} {p q r : Int} {l l' : List Int} (h : Seg b p q l) (h' : Seg b q r l') : Seg b p r (l ++ l') := by
  obtain ⟨h1, h2, h3, rfl⟩ := h
  obtain ⟨h4, h5, h6, rfl⟩ := h'
  refine ⟨h1, by omega, h6, ?_⟩
  have e : (r - p).toNat = (q - p).toNat + (r - q).toNat := by omega
  rw [e, List.take_add, List.drop_drop, show p.toNat + (q - p).toNat = q.toNat by omega]
theorem Seg.nil {b : List Int} {p : Int} (h0 : 0 ≤ p) (h1 : p ≤ b.length) : Seg b p p [] := ⟨h0, Int.le_refl _, h1, by simp⟩
section
variable {b : List Int} (hb : ∀ y ∈ b, 0 ≤ y ∧ y ≤ 255)
include hb
theorem getN_back {p e size n q : Int} (h : SG.getN b (p, e) size = (n, q, 0)) : e = 0 ∧ 0 ≤ n ∧ n < 2 ^ size.toNat ∧ 0 ≤ size ∧ Seg b p q (bitsOf n size.toNat) := by
  unfold SG.getN at h
  by_cases he : e = 0
  · rw [if_pos he] at h
    obtain ⟨h1, h2, h3, h4, h5, h6, h7, h8⟩ := SG.getS_ok hb h
    exact ⟨he, h6, h7, h2, h1, by omega, h5, by rw [h4, show p + size - p = size by omega]; exact h8⟩
  · rw [if_neg he] at h
    simp only [Prod.mk.injEq] at h
    exact absurd h.2.2 he
omit hb in
theorem bitsM_of {n size : Int} (h0 : 0 ≤ n) (h1 : n < 2 ^ size.toNat) : bitsM n size = bitsOf n size.toNat := by
  unfold bitsM
  rw [Int.emod_eq_of_lt h0 h1]
theorem coefs_back {sz : Int} (h0 : 2 ≤ sz) (h1 : sz ≤ 4) : ∀ (k : Nat) (acc : List Int) (p e : Int) (cs' : List Int) (q : Int), getCoefs b sz k acc (p, e) = (cs', q, 0) →
    e = 0 ∧ ∃ cs, cs' = acc ++ cs ∧ cs.length = k ∧ (∀ c ∈ cs, -halfOf sz ≤ c ∧ c < halfOf sz) ∧ (0 ≤ p → p ≤ b.length → Seg b p q (cs.flatMap (fun c => bitsM c sz)))
  | 0, acc, p, e, cs', q, h => by
    simp only [getCoefs, Prod.mk.injEq] at h
    obtain ⟨rfl, rfl, rfl⟩ := h
    exact ⟨rfl, [], by simp, rfl, by simp, fun h2 h3 => Seg.nil h2 h3⟩
  | k + 1, acc, p, e, cs', q, h => by
    simp only [getCoefs] at h
    obtain ⟨n, q1, e1, hn⟩ : ∃ n x e', SG.getN b (p, e) sz = (n, x, e') := ⟨_, _, _, rfl⟩
    rw [hn] at h
    obtain ⟨he, cs, hc, hl, hr, hs⟩ := coefs_back h0 h1 k _ _ _ _ _ h
    subst he
    obtain ⟨he2, hn0, hn1, hz0, hseg⟩ := getN_back hb hn
    obtain ⟨hm1, hm2, hm3⟩ := mod_sgn h0 h1 ⟨hn0, hn1⟩
    refine ⟨he2, sgn n sz :: cs, by rw [hc, List.append_assoc]; rfl, by rw [List.length_cons, hl], fun c hc2 => ?_, fun hp0 hp1 => ?_⟩
    · rcases List.mem_cons.1 hc2 with rfl | hc2
      · exact ⟨hm2, hm3⟩
      · exact hr c hc2
    · rw [List.flatMap_cons]
      have e1 : bitsM (sgn n sz) sz = bitsOf n sz.toNat := by unfold bitsM; rw [hm1]
      rw [e1]
      exact hseg.append (hs (by have := hseg.1; have := hseg.2.1; omega) hseg.2.2.1)
theorem tail_back {len order p e q : Int} {fine : Bool} {f : Filt} (ho0 : 0 ≤ order) (h : getTail b len order fine (p, e) = (f, false, q, 0)) :
    e = 0 ∧ f.f0 = len ∧ f.f1 = order ∧ f.f3 = fine ∧ (f.f4.length : Int) = order ∧ (order = 0 → f.f2 = false) ∧ fitS f.f4 (wideS fine) = true ∧ (0 ≤ p → p ≤ b.length → Seg b p q (tailBits f)) := by
  unfold getTail at h
  by_cases h0 : order = 0
  · rw [if_pos h0] at h
    simp only [Prod.mk.injEq] at h
    obtain ⟨rfl, _, rfl, rfl⟩ := h
    refine ⟨rfl, rfl, rfl, rfl, by rw [h0]; rfl, fun _ => rfl, rfl, fun hp0 hp1 => ?_⟩
    unfold tailBits
    rw [if_pos h0]
    exact Seg.nil hp0 hp1
  · rw [if_neg h0] at h
    obtain ⟨dv, q1, e1, hd⟩ : ∃ n x e', SG.getN b (p, e) 1 = (n, x, e') := ⟨_, _, _, rfl⟩
    simp only [hd] at h
    obtain ⟨nv, q2, e2, hn⟩ : ∃ n x e', SG.getN b (q1, e1) 1 = (n, x, e') := ⟨_, _, _, rfl⟩
    simp only [hn] at h
    obtain ⟨cs, q3, e3, hc⟩ : ∃ n x e', getCoefs b (wideS fine - nv) order.toNat [] (q2, e2) = (n, x, e') := ⟨_, _, _, rfl⟩
    simp only [hc, Prod.mk.injEq] at h
    obtain ⟨hf, hod, rfl, rfl⟩ := h
    subst hf
    have hw := wideS_rng fine
    have hnr := SG.getN_bounds hb (q1, e1) 1
    rw [show ((1 : Nat) : Int) = 1 from rfl, hn] at hnr
    have hnv : nv = 0 ∨ nv = 1 := by
      have h1 : 0 ≤ nv := hnr.1
      have h2 : nv < 2 ^ 1 := hnr.2
      omega
    obtain ⟨he2, cs2, hc2, hl2, hr2, hs2⟩ := coefs_back hb (by omega) (by omega) _ _ _ _ _ _ hc
    simp only [List.nil_append] at hc2
    subst hc2 he2
    obtain ⟨he1, hn0, hn1, _, hsegn⟩ := getN_back hb hn
    subst he1
    obtain ⟨he0, hd0, hd1, _, hsegd⟩ := getN_back hb hd
    have e1 : ((1 : Int)).toNat = 1 := rfl
    rw [e1] at hd1 hsegd hn1 hsegn
    obtain ⟨F, hF⟩ : ∃ F : Filt, F = ⟨len, order, dv == 1, fine, cs⟩ := ⟨_, rfl⟩
    have hnar : narrowS F = (nv == 1) ∧ fitS cs (wideS fine) = true ∧ wideS fine - b2i (narrowS F) = wideS fine - nv := by
      have e4 : F.f4 = cs := by rw [hF]
      have e3 : F.f3 = fine := by rw [hF]
      rcases hnv with rfl | rfl
      · have hfit : fitS cs (wideS fine - 1) = false := by
          have : fitS cs (wideS fine - 0 - 1) = false := by simpa using hod
          rwa [show wideS fine - 0 - 1 = wideS fine - 1 by omega] at this
        have hn' : narrowS F = false := by unfold narrowS; rw [e3, e4]; exact hfit
        refine ⟨by rw [hn']; rfl, (fitS_iff _ _).2 (by rw [show wideS fine - 0 = wideS fine by omega] at hr2; exact hr2), by rw [hn']; rfl⟩
      · have hfit : fitS cs (wideS fine - 1) = true := (fitS_iff _ _).2 hr2
        have hn' : narrowS F = true := by unfold narrowS; rw [e3, e4]; exact hfit
        refine ⟨by rw [hn']; rfl, (fitS_iff _ _).2 (fun c hc => ?_), by rw [hn']; rfl⟩
        have h3 := hr2 c hc
        unfold halfOf at h3 ⊢
        cases fine with
        | true =>
          rw [show (2 : Int) ^ (wideS true - 1 - 1).toNat = 4 by decide] at h3
          rw [show (2 : Int) ^ (wideS true - 1).toNat = 8 by decide]
          omega
        | false =>
          rw [show (2 : Int) ^ (wideS false - 1 - 1).toNat = 2 by decide] at h3
          rw [show (2 : Int) ^ (wideS false - 1).toNat = 4 by decide]
          omega
    refine ⟨he0, rfl, rfl, rfl, by rw [hl2]; omega, fun hz => absurd hz h0, hnar.2.1, fun hp0 hp1 => ?_⟩
    rw [← hF]
    have ht : tailBits F = bitsM (b2i F.f2) 1 ++ (bitsM (b2i (narrowS F)) 1 ++ coefsBits F F.f4) := if_neg (by rw [hF]; exact h0)
    rw [ht]
    have hb1 : bitsM (b2i F.f2) 1 = bitsOf dv 1 := by
      rw [hF]
      have hdv : dv = 0 ∨ dv = 1 := by omega
      rcases hdv with rfl | rfl <;> rfl
    have hb2 : bitsM (b2i (narrowS F)) 1 = bitsOf nv 1 := by
      rw [hnar.1]
      rcases hnv with rfl | rfl <;> rfl
    have hb3 : coefsBits F F.f4 = cs.flatMap (fun c => bitsM c (wideS fine - nv)) := by
      unfold coefsBits
      rw [show F.f3 = fine by rw [hF], show F.f4 = cs by rw [hF], hnar.2.2]
    rw [hb1, hb2, hb3]
    exact hsegd.append (hsegn.append (hs2 (by have := hsegn.1; have := hsegn.2.1; omega) hsegn.2.2.1))
theorem filts_back {s : Int} {fine : Bool} : ∀ (k : Nat) (acc : List Filt) (odd : Bool) (p e : Int) (w' : List Filt) (q : Int), getFilts b s fine k acc odd (p, e) = some (w', false, q, 0) →
    e = 0 ∧ odd = false ∧ ∃ w, w' = acc ++ w ∧ w.length = k ∧ (∀ f ∈ w, filtRight s f = true ∧ f.f3 = fine) ∧ (0 ≤ p → p ≤ b.length → Seg b p q (w.flatMap (filtBits s)))
  | 0, acc, odd, p, e, w', q, h => by
    simp only [getFilts, Option.some.injEq, Prod.mk.injEq] at h
    obtain ⟨rfl, rfl, rfl, rfl⟩ := h
    exact ⟨rfl, rfl, [], by simp, rfl, by simp, fun h2 h3 => Seg.nil h2 h3⟩
  | k + 1, acc, odd, p, e, w', q, h => by
    simp only [getFilts] at h
    obtain ⟨av, q1, e1, ha⟩ : ∃ n x e', SG.getN b (p, e) (lenF s) = (n, x, e') := ⟨_, _, _, rfl⟩
    simp only [ha] at h
    obtain ⟨ov, q2, e2, ho⟩ : ∃ n x e', SG.getN b (q1, e1) (ordF s) = (n, x, e') := ⟨_, _, _, rfl⟩
    simp only [ho] at h
    by_cases h12 : 12 < ov
    · rw [if_pos h12] at h
      cases h
    · rw [if_neg h12] at h
      obtain ⟨f, od, q3, e3, ht⟩ : ∃ f od x e', getTail b av ov fine (q2, e2) = (f, od, x, e') := ⟨_, _, _, _, rfl⟩
      rw [ht] at h
      obtain ⟨he3, hod, w, hw, hl, hr, hs⟩ := filts_back k _ _ _ _ _ _ h
      simp only at he3 hod hs
      subst he3
      obtain ⟨rfl, rfl⟩ : odd = false ∧ od = false := by simpa using hod
      have hlr := lenF_rng s
      have hor := ordF_rng s
      have hob := SG.getN_bounds hb (q1, e1) (ordF s).toNat
      rw [Int.toNat_of_nonneg (by omega), ho] at hob
      have ho0 : 0 ≤ ov := hob.1
      obtain ⟨he2, g0, g1, g3, g4, g2, gf, gs⟩ := tail_back hb ho0 ht
      subst he2
      obtain ⟨he1, _, ho1, _, hsego⟩ := getN_back hb ho
      subst he1
      obtain ⟨he0, ha0, ha1, _, hsega⟩ := getN_back hb ha
      refine ⟨he0, rfl, f :: w, by rw [hw, List.append_assoc]; rfl, by rw [List.length_cons, hl], fun g hg => ?_, fun hp0 hp1 => ?_⟩
      · rcases List.mem_cons.1 hg with rfl | hg
        · refine ⟨?_, g3⟩
          unfold filtRight rightS
          rw [g0, g1, g3, gf, beq_iff_eq.2 g4]
          have hd : (decide (0 < ov) || !g.f2) = true := by
            by_cases hz : ov = 0
            · rw [g2 hz]; simp
            · rw [decide_eq_true (by omega)]; rfl
          rw [hd, decide_eq_true ha0, decide_eq_true ho0]
          unfold lenF at ha1
          unfold ordF at ho1
          by_cases h2 : s = 2
          · simp only [if_pos h2] at ha1 ho1 ⊢
            rw [show (2 : Int) ^ (4 : Int).toNat = 16 by decide] at ha1
            rw [show (2 : Int) ^ (3 : Int).toNat = 8 by decide] at ho1
            rw [decide_eq_true ha1, decide_eq_true (show ov ≤ 7 by omega)]
            rfl
          · simp only [if_neg h2] at ha1 ho1 ⊢
            rw [show (2 : Int) ^ (6 : Int).toNat = 64 by decide] at ha1
            rw [decide_eq_true ha1, decide_eq_true (show ov ≤ 12 by omega)]
            rfl
        · exact hr g hg
      · rw [List.flatMap_cons]
        unfold filtBits
        rw [g0, g1, bitsM_of ha0 ha1, bitsM_of ho0 ho1, List.append_assoc, List.append_assoc]
        have h2 := gs (by have := hsego.1; have := hsego.2.1; omega) hsego.2.2.1
        exact hsega.append (hsego.append (h2.append (hs (by have := h2.1; have := h2.2.1; omega) h2.2.2.1)))
omit hb in
theorem fineOf_of {w : List Filt} {fine : Bool} (h : ∀ f ∈ w, f.f3 = fine) (hl : 0 < w.length) : fineOf w = fine := by
  cases w with
  | nil => simp at hl
  | cons f w => exact h f List.mem_cons_self
omit hb in
theorem winOk_of {s : Int} {w : List Filt} {fine : Bool} (hm : (w.length : Int) ≤ mostF s) (h : ∀ f ∈ w, filtRight s f = true ∧ f.f3 = fine) : winOk s w = true := by
  unfold winOk
  rw [decide_eq_true hm, Bool.true_and, Bool.not_eq_true', List.any_eq_false]
  intro f hf
  obtain ⟨h1, h2⟩ := h f hf
  unfold odd1
  rw [h1, h2, fineOf_of (fun g hg => (h g hg).2) (List.length_pos_of_mem hf)]
  simp
theorem wins_back {s : Int} : ∀ (k : Nat) (acc : List (List Filt)) (odd : Bool) (p e : Int) (l' : List (List Filt)) (q : Int), getWins b s k acc odd (p, e) = some (l', false, q, 0) →
    e = 0 ∧ odd = false ∧ ∃ l, l' = acc ++ l ∧ l.length = k ∧ (∀ w ∈ l, winOk s w = true) ∧ (0 < k → 0 ≤ p ∧ p ≤ b.length) ∧ (0 ≤ p → p ≤ b.length → Seg b p q (tnsBits s l))
  | 0, acc, odd, p, e, l', q, h => by
    simp only [getWins, Option.some.injEq, Prod.mk.injEq] at h
    obtain ⟨rfl, rfl, rfl, rfl⟩ := h
    exact ⟨rfl, rfl, [], by simp, rfl, by simp, fun h => absurd h (Nat.lt_irrefl _), fun h2 h3 => Seg.nil h2 h3⟩
  | k + 1, acc, odd, p, e, l', q, h => by
    simp only [getWins] at h
    obtain ⟨mv, q1, e1, hm⟩ : ∃ n x e', SG.getN b (p, e) (numF s) = (n, x, e') := ⟨_, _, _, rfl⟩
    simp only [hm] at h
    have hnr := numF_rng s
    have hmb := SG.getN_bounds hb (p, e) (numF s).toNat
    rw [Int.toNat_of_nonneg (by omega), hm] at hmb
    have hm0 : 0 ≤ mv := hmb.1
    have hm1 : mv < 2 ^ (numF s).toNat := hmb.2
    have hmost : mv ≤ mostF s := by
      unfold numF at hm1
      unfold mostF
      by_cases h2 : s = 2
      · simp only [if_pos h2] at hm1 ⊢
        rw [show (2 : Int) ^ (1 : Int).toNat = 2 by decide] at hm1
        omega
      · simp only [if_neg h2] at hm1 ⊢
        rw [show (2 : Int) ^ (2 : Int).toNat = 4 by decide] at hm1
        omega
    by_cases hz : 0 < mv
    · rw [if_pos hz] at h
      obtain ⟨fv, q2, e2, hf⟩ : ∃ n x e', SG.getN b (q1, e1) 1 = (n, x, e') := ⟨_, _, _, rfl⟩
      simp only [hf] at h
      rcases hg : getFilts b s (fv == 1) mv.toNat [] odd (q2, e2) with _ | ⟨w0, od, q3, e3⟩
      · rw [hg] at h
        cases h
      · rw [hg] at h
        simp only at h
        obtain ⟨he3, hod, l, hl, hlen, hok, _, hs⟩ := wins_back k _ _ _ _ _ _ h
        subst he3 hod
        obtain ⟨he2, hod2, w, hw, hwl, hwr, hws⟩ := filts_back hb _ _ _ _ _ _ _ hg
        simp only [List.nil_append] at hw
        subst hw he2
        obtain ⟨he1, hf0, hf1, _, hsegf⟩ := getN_back hb hf
        subst he1
        obtain ⟨he0, _, _, _, hsegm⟩ := getN_back hb hm
        have hwlen : (w0.length : Int) = mv := by omega
        refine ⟨he0, hod2, w0 :: l, by rw [hl, List.append_assoc]; rfl, by rw [List.length_cons, hlen], fun g hg2 => ?_, fun _ => ⟨hsegm.1, by have := hsegm.2.1; have := hsegm.2.2.1; omega⟩, fun hp0 hp1 => ?_⟩
        · rcases List.mem_cons.1 hg2 with rfl | hg2
          · exact winOk_of (by omega) hwr
          · exact hok g hg2
        · unfold tnsBits at hs ⊢
          rw [List.flatMap_cons]
          unfold winBits
          rw [show fineBits w0 = bitsM (b2i (fineOf w0)) 1 from if_neg (by omega), fineOf_of (fun g hg => (hwr g hg).2) (by omega), hwlen, bitsM_of hm0 hm1]
          have hfv : fv = 0 ∨ fv = 1 := by
            rw [show ((1 : Int)).toNat = 1 from rfl] at hf1
            omega
          have hbf : bitsM (b2i (fv == 1)) 1 = bitsOf fv 1 := by rcases hfv with rfl | rfl <;> rfl
          rw [hbf, List.append_assoc, List.append_assoc]
          have h2 := hws (by have := hsegf.1; have := hsegf.2.1; omega) hsegf.2.2.1
          exact hsegm.append (hsegf.append (h2.append (hs (by have := h2.1; have := h2.2.1; omega) h2.2.2.1)))
    · obtain rfl : mv = 0 := by omega
      rw [if_neg hz] at h
      simp only [Int.toNat_zero, getFilts] at h
      obtain ⟨he1, hod, l, hl, hlen, hok, _, hs⟩ := wins_back k _ _ _ _ _ _ h
      subst he1
      obtain ⟨he0, _, _, _, hsegm⟩ := getN_back hb hm
      refine ⟨he0, hod, [] :: l, by rw [hl, List.append_assoc]; rfl, by rw [List.length_cons, hlen], fun g hg2 => ?_, fun _ => ⟨hsegm.1, by have := hsegm.2.1; have := hsegm.2.2.1; omega⟩, fun hp0 hp1 => ?_⟩
      · rcases List.mem_cons.1 hg2 with rfl | hg2
        · exact winOk_of (fine := true) (by simp; omega) (by simp)
        · exact hok g hg2
      · unfold tnsBits at hs ⊢
        rw [List.flatMap_cons]
        have e : winBits s [] = bitsOf 0 (numF s).toNat := by
          unfold winBits fineBits
          simp only [List.length_nil, if_true, List.flatMap_nil, List.append_nil]
          exact bitsM_of (Int.le_refl _) hm1
        rw [e]
        exact hsegm.append (hs (by have := hsegm.1; have := hsegm.2.1; omega) hsegm.2.2.1)
theorem put_got {s sh m p q : Int} {gs : List Int} {l : List (List Filt)} (h : getTns b p s sh m gs = (l, q, 0)) : 0 ≤ p ∧ p ≤ q ∧ q ≤ b.length ∧ tnsOk s sh m gs l = true ∧ (b.take q.toNat).drop p.toNat = tnsBits s l := by
  unfold getTns at h
  by_cases hs : SP.someS s sh m gs = true
  · rw [if_pos hs] at h
    rcases hg : getWins b s (manyF s).toNat [] false (p, 0) with _ | ⟨l0, od, q0, e0⟩
    · rw [hg] at h
      simp [getEnd] at h
    · rw [hg] at h
      simp only [getEnd] at h
      by_cases he : e0 = 0
      · rw [if_neg (by simpa using he)] at h
        cases od with
        | true => simp at h
        | false =>
          simp only [Bool.false_eq_true, if_false, Prod.mk.injEq, and_true] at h
          obtain ⟨rfl, rfl⟩ := h
          subst he
          obtain ⟨_, _, l1, hl, hlen, hok, hp, hseg⟩ := wins_back hb _ _ _ _ _ _ _ hg
          simp only [List.nil_append] at hl
          subst hl
          have hm : 1 ≤ manyF s := by unfold manyF; split <;> decide
          obtain ⟨hp0, hp1⟩ := hp (by omega)
          obtain ⟨h1, h2, h3, h4⟩ := hseg hp0 hp1
          refine ⟨h1, h2, h3, ?_, ?_⟩
          · unfold tnsOk
            rw [hs, beq_iff_eq.2 (show ((l0.length : Nat) : Int) = manyF s by omega), List.all_eq_true.2 hok]
            rfl
          · rw [← h4, List.drop_take, show q0.toNat - p.toNat = (q0 - p).toNat by omega]
      · rw [if_pos he] at h
        simp only [Prod.mk.injEq] at h
        exact absurd h.2.2 he
  · rw [if_neg hs] at h
    simp at h
end
theorem get_bad {b : List Int} {p s sh m : Int} {gs : List Int} {l : List (List Filt)} {q e : Int} (h : getTns b p s sh m gs = (l, q, e)) (he : e ≠ 0) : l = [] ∧ q = 0 := by
  unfold getTns at h
  by_cases hs : SP.someS s sh m gs = true
  · rw [if_pos hs] at h
    rcases hg : getWins b s (manyF s).toNat [] false (p, 0) with _ | ⟨l0, od, q0, e0⟩
    · rw [hg] at h
      simp only [getEnd, Prod.mk.injEq] at h
      exact ⟨h.1.symm, h.2.1.symm⟩
    · rw [hg] at h
      simp only [getEnd] at h
      by_cases he0 : e0 = 0
      · rw [if_neg (by simpa using he0)] at h
        cases od with
        | true =>
          simp only [if_true, Prod.mk.injEq] at h
          exact ⟨h.1.symm, h.2.1.symm⟩
        | false =>
          simp only [Bool.false_eq_true, if_false, Prod.mk.injEq] at h
          exact absurd h.2.2.symm he
      · rw [if_pos he0] at h
        simp only [Prod.mk.injEq] at h
        exact ⟨h.1.symm, h.2.1.symm⟩
  · rw [if_neg hs] at h
    simp only [Prod.mk.injEq] at h
    exact ⟨h.1.symm, h.2.1.symm⟩
end Go.Proofs.Ytdhcgfdnhlhapaa.HS
end
section
/- The law TnsbitsBack of the chapter on filters as bits: filters are got as they were put, whatever stands behind, and put as these bits when got; for every input. -/
namespace Go.Proofs.Ytdhcgfdnhlhapaa.Wk
open Go.RowKit Go.Proofs.Ytdhcgfdnhlhapaa.K Go.Proofs.Ytdhcgfdnhlhapaa.HS Go.Proofs.Ytdhcgfdnhlhapaa.HP Go.Proofs.YtdhcgfdnhlhapaaW.PrintWords Go.Proofs.YtdhcgfdnhlhapaaW.PrintLast Go.Proofs.YtdhcgfdnhlhapaaW.PrintMore
set_option linter.unusedVariables false

theorem back_alive : reedpipelaw21_alive.f = some true := by decide +kernel
theorem back_small {s sh m : Int} {gs : List Int} {l : List (List Filt)} (h : tnsOk s sh m gs l = true) : ∀ x ∈ l, ∀ f ∈ x, f.f4.length ≤ 4611686018427387904 := by
  obtain ⟨_, _, h3⟩ := tnsOk_ok h
  intro x hx f hf
  obtain ⟨h4, _⟩ := (winOk_le (h3 x hx)).2 f hf
  obtain ⟨_, _, h5, h6, _⟩ := rightS_le h4
  omega
theorem get_f (b : List Int) (hb : ∀ y ∈ b, 0 ≤ y ∧ y ≤ 255) (hl : b.length ≤ 100000000) (p s sh m : Int) (gs : List Int) (hg : gs.length ≤ 17592186044416) : tnsbits_Get.f b p s sh m gs = some (getTns b p s sh m gs) := by
  unfold tnsbits_Get.f
  rw [if_pos ⟨hb, hl, hg⟩]
theorem back_j1 (k : Nat) (hk : 0 < k) (b : List Int) (hb : ∀ y ∈ b, 0 ≤ y ∧ y ≤ 255) (hl : b.length ≤ 10000) (p s sh m : Int) (gs : List Int) (hgs : gs.length ≤ 1000) : reedpipelaw21_TnsbitsBack.j1 k b p s sh m gs = some true := by
  obtain ⟨k, rfl⟩ : ∃ m, k = m + 1 := ⟨k - 1, by omega⟩
  simp only [reedpipelaw21_TnsbitsBack.j1]
  rw [get_f b hb (by omega) p s sh m gs (by omega)]
  obtain ⟨l, q, e, hg⟩ : ∃ l q e, getTns b p s sh m gs = (l, q, e) := ⟨_, _, _, rfl⟩
  rw [hg]
  simp only [Option.bind_some]
  by_cases he : e = 0
  · subst he
    obtain ⟨h0, h1, h2, h3, h4⟩ := put_got hb hg
    rw [if_pos rfl, put_f [] s sh m gs l (by simp) (by omega), if_pos h3]
    simp only [Option.bind_some]
    rw [if_pos trivial, if_pos h0, if_pos h1, if_pos h2, List.nil_append, h4]
    simp
  · obtain ⟨rfl, rfl⟩ := get_bad hg he
    rw [if_neg he]
    simp
theorem tnsBits_01 (s : Int) (l : List (List Filt)) : ∀ y ∈ tnsBits s l, 0 ≤ y ∧ y ≤ 255 := by
  have h01 : ∀ n size : Int, ∀ y ∈ bitsM n size, 0 ≤ y ∧ y ≤ 255 := fun n size y hy => by have := SG.bitsOf_01 _ _ y hy; omega
  intro y hy
  unfold tnsBits at hy
  obtain ⟨w, _, hy⟩ := List.mem_flatMap.1 hy
  unfold winBits at hy
  rcases List.mem_append.1 hy with hy | hy
  · exact h01 _ _ y hy
  · rcases List.mem_append.1 hy with hy | hy
    · unfold fineBits at hy
      split at hy
      · cases hy
      · exact h01 _ _ y hy
    · obtain ⟨f, _, hy⟩ := List.mem_flatMap.1 hy
      unfold filtBits at hy
      rcases List.mem_append.1 hy with hy | hy
      · exact h01 _ _ y hy
      · rcases List.mem_append.1 hy with hy | hy
        · exact h01 _ _ y hy
        · unfold tailBits at hy
          split at hy
          · cases hy
          · rcases List.mem_append.1 hy with hy | hy
            · exact h01 _ _ y hy
            · rcases List.mem_append.1 hy with hy | hy
              · exact h01 _ _ y hy
              · unfold coefsBits at hy
                obtain ⟨n, _, hy⟩ := List.mem_flatMap.1 hy
                exact h01 _ _ y hy
theorem back_true (s sh m : Int) (gs : List Int) (l : List (List Filt)) (x b : List Int) (p : Int) (hx : ∀ y ∈ x, 0 ≤ y ∧ y ≤ 255) (hb : ∀ y ∈ b, 0 ≤ y ∧ y ≤ 255) : reedpipelaw21_TnsbitsBack.f 3000 s sh m gs l x b p = some true := by
  unfold reedpipelaw21_TnsbitsBack.f
  rw [back_alive]
  simp only [Option.bind_some]
  have stop : reedpipelaw21_TnsbitsBack.j0 3000 l x b p true true s sh m gs = some true := by
    simp only [reedpipelaw21_TnsbitsBack.j0, if_true]
  by_cases h1 : (gs.length : Int) > 1000
  · rw [if_pos h1]; exact stop
  · rw [if_neg h1]
    obtain ⟨r, hr, hsmall⟩ := great_f l 3000 (by omega)
    rw [hr]
    simp only [Option.bind_some]
    by_cases h2 : r = true
    · rw [if_pos h2]; exact stop
    · rw [if_neg h2]
      by_cases h3 : (x.length : Int) > 10000
      · rw [if_pos h3]; exact stop
      · rw [if_neg h3]
        by_cases h4 : (b.length : Int) > 10000
        · rw [if_pos h4]; exact stop
        · rw [if_neg h4]
          simp only [reedpipelaw21_TnsbitsBack.j0, Bool.not_true, Bool.false_eq_true, if_false]
          rw [put_f [] s sh m gs l (by simp) (by omega), check_f s sh m gs l (by omega)]
          simp only [Option.bind_some]
          by_cases hok : tnsOk s sh m gs l = true
          · rw [if_pos hok, if_pos hok]
            simp only [List.nil_append, if_true, List.length_nil]
            have hmost := tnsBits_le hok
            rw [if_neg (by simp), if_pos (by omega), if_pos (by omega), get_f _ (fun y hy => (List.mem_append.1 hy).elim (tnsBits_01 s l y) (hx y)) (by rw [List.length_append]; omega) 0 s sh m gs (by omega), get_put hok x]
            simp only [Option.bind_some]
            have hsame : reedpiperef18_SameTns.f l l = some true := by
              unfold reedpiperef18_SameTns.f
              rw [if_pos (back_small hok), HST.sameL_refl]
            rw [if_pos trivial, hsame]
            simp only [Option.bind_some, if_true]
            exact back_j1 2999 (by omega) b hb (by omega) p s sh m gs (by omega)
          · rw [if_neg hok, if_neg hok]
            simp only
            rw [if_neg (by decide), if_neg (by decide)]
            exact back_j1 2999 (by omega) b hb (by omega) p s sh m gs (by omega)
theorem TnsbitsBack (W : World) (s_0 sh_0 m_0 : Int) (A_0 : Option Addr) (c_0 : Nat) (l_0 : List Int) (A_1 : Option Addr) (c_1 : Nat) (l_1 : List (List Filt)) (A_2 : Option Addr) (c_2 : Nat) (l_2 : List Int) (A_3 : Option Addr) (c_3 : Nat) (l_3 : List Int) (a4 : Int)
    (hc_0 : l_0.length ≤ c_0) (hr_0 : Kd.C (Kd.int .i64) W A_0 l_0.length l_0) (ws_0 : 0 ≤ s_0 ∧ s_0 ≤ 255) (wsh_0 : 0 ≤ sh_0 ∧ sh_0 ≤ 255) (wm_0 : -9223372036854775808 ≤ m_0 ∧ m_0 ≤ 9223372036854775807) (wl_0 : ∀ y ∈ l_0, -9223372036854775808 ≤ y ∧ y ≤ 9223372036854775807)
    (hc_1 : l_1.length ≤ c_1) (hr_1 : Kd.C (Kd.slice 38 k38) W A_1 l_1.length l_1) (wl_1 : ∀ g ∈ l_1, ∀ x ∈ g, (-9223372036854775808 ≤ x.f0 ∧ x.f0 ≤ 9223372036854775807) ∧ (-9223372036854775808 ≤ x.f1 ∧ x.f1 ≤ 9223372036854775807) ∧ ∀ y ∈ x.f4, -9223372036854775808 ≤ y ∧ y ≤ 9223372036854775807)
    (hc_2 : l_2.length ≤ c_2) (hr_2 : Kd.C (Kd.int .u8) W A_2 l_2.length l_2) (wl_2 : ∀ y ∈ l_2, 0 ≤ y ∧ y ≤ 255) (hc_3 : l_3.length ≤ c_3) (hr_3 : Kd.C (Kd.int .u8) W A_3 l_3.length l_3) (wl_3 : ∀ y ∈ l_3, 0 ≤ y ∧ y ≤ 255) (w4 : (Lit.int .i64 a4).wf = true) :
    Calls Try.prog 6 #[.agg #[.int .u8 s_0, .int .u8 sh_0, .int .i64 m_0, .slice A_0 l_0.length c_0], .slice A_1 l_1.length c_1, .slice A_2 l_2.length c_2, .slice A_3 l_3.length c_3, .int .i64 a4] W fun e w' => e = .returned (.bool true) ∧ Below W.heap.size W w' := by
  exact reedpipelaw21_TnsbitsBack.calls 3000 s_0 sh_0 m_0 A_0 c_0 l_0 A_1 c_1 l_1 A_2 c_2 l_2 A_3 c_3 l_3 a4 true W hr_0 hc_0 hr_1 hc_1 hr_2 hc_2 hr_3 hc_3 ⟨rfl⟩ (back_true s_0 sh_0 m_0 l_0 l_1 l_2 l_3 a4 wl_2 wl_3)
end Go.Proofs.Ytdhcgfdnhlhapaa.Wk
end
section
/- From what a row reads to the kinds of the walks: any type of whole numbers, bools, slices and structs of these. It imports no program. -/
namespace Go.Proofs.Ytdhcgfdnhlhapaa.HR
open Go.RowKit Go.ChangeShapes Go.WideShapes Go.Proofs.YtdhcgfdnhlhapaaW.PrintWords

/-- Whatever reads as data of type t is of kind d. -/
def Opens {α : Type} (P : Program) (t : TypeId) (d : Kd α) (ok : α → Prop) : Prop :=
  ∀ (H : Type) (enc : TypeId × Value → H) (W : World) (fuel : Nat) (cs : List Value) (x : DataW H × List MemPlace), DataW.trod enc P W 0 (fun _ => true) true fuel t cs = some x → ∃ a, ok a ∧ d.K W a cs

theorem Opens.imp {α : Type} {P : Program} {t : TypeId} {d : Kd α} {ok ok' : α → Prop} (h : Opens P t d ok) (hi : ∀ a, ok a → ok' a) : Opens P t d ok' := fun H enc W fuel cs x hx => by
  obtain ⟨a, ha, hK⟩ := h H enc W fuel cs x hx
  exact ⟨a, hi a ha, hK⟩
theorem opens_int {P : Program} {t : TypeId} {k : IntKind} (ht : P.underlying t = some (.int k)) : Opens P t (Kd.int k) (fun n => (Lit.int k n).wf = true) := by
  intro H enc W fuel cs x hx
  obtain ⟨n, rfl, _, hw⟩ := DataW.trod_int ht hx
  exact ⟨n, hw, rfl⟩
theorem opens_bool {P : Program} {t : TypeId} (ht : P.underlying t = some .bool) : Opens P t Kd.bool (fun _ => True) := by
  intro H enc W fuel cs x hx
  obtain ⟨b, rfl, _⟩ := DataW.trod_bool ht hx
  exact ⟨b, trivial, rfl⟩
theorem opens_slice {α : Type} {P : Program} {t e : TypeId} {d : Kd α} {ok : α → Prop} (ht : P.underlying t = some (.slice e)) (hs : P.cellsOf e = d.sz) (h : Opens P e d ok) : Opens P t (Kd.slice e d) (fun xs => ∀ x ∈ xs, ok x) := by
  intro H enc W fuel cs x hx
  rcases Go.Deep.open_slice ht hx with ⟨rfl, _⟩ | ⟨a, len, cap, m, n, D, Pl, rfl, _, hl, hcap, hm, _, hel⟩
  · exact ⟨[], by simp, none, 0, rfl, Nat.le_refl _, rfl, by simp, fun h => absurd h (by simp)⟩
  · have hlm : len ≤ m := by rw [hm]; simp; exact hl
    have key : ∀ k, k ≤ len → ∃ xs : List α, xs.length = k ∧ (∀ x ∈ xs, ok x) ∧ ∀ j p, xs[j]? = some p → ∃ c, c.length = d.sz ∧ d.K W p c ∧ ∀ i u, c[i]? = some u → W.cell? (a.add (j * d.sz + i)) = some u := by
      intro k
      induction k with
      | zero => exact fun _ => ⟨[], rfl, by simp, fun j p hj => by simp at hj⟩
      | succ k ih =>
        intro hk
        obtain ⟨xs, hxl, hxo, hxc⟩ := ih (by omega)
        obtain ⟨cs', hc1, hc2⟩ := hel k (by omega)
        obtain ⟨p, hp, hK⟩ := h H enc W n cs' _ hc2
        refine ⟨xs ++ [p], by simp [hxl], ?_, ?_⟩
        · intro x hx
          rcases List.mem_append.1 hx with hx | hx
          · exact hxo x hx
          · rw [List.mem_singleton.1 hx]; exact hp
        · intro j q hj
          rcases Nat.lt_or_ge j k with hjk | hjk
          · rw [List.getElem?_append_left (by omega)] at hj
            exact hxc j q hj
          · rw [List.getElem?_append_right (by omega)] at hj
            have hj0 : j - xs.length = 0 := by
              rcases Nat.eq_zero_or_pos (j - xs.length) with h0 | h0
              · exact h0
              · rw [List.getElem?_eq_none (by simp; omega)] at hj
                cases hj
            rw [hj0] at hj
            obtain rfl : p = q := by simpa using hj
            obtain rfl : j = k := by omega
            refine ⟨cs', d.K_len hK, hK, fun i u hu => ?_⟩
            obtain ⟨_, hlen, hcells⟩ := World.cells?_some hc1
            obtain ⟨hi, rfl⟩ := List.getElem?_eq_some_iff.1 hu
            have := hcells i (by omega)
            rw [hs, Go.Deep.add_add] at this
            rw [this]
            exact hu
    obtain ⟨xs, hxl, hxo, hxc⟩ := key len (Nat.le_refl _)
    subst hxl
    have hmx : xs.length ≤ 9223372036854775807 := by unfold maxLen at hcap; omega
    exact ⟨xs, hxo, some a, cap, rfl, hl, rfl, hmx, fun _ => ⟨a, rfl, hxc⟩⟩

/-! ### structs, field by field: their types and where their cells begin -/
def OpensFs {α : Type} (P : Program) (fs : List (TypeId × Nat)) (off : Nat) (d : Kd α) (ok : α → Prop) : Prop :=
  ∀ (H : Type) (enc : TypeId × Value → H) (W : World) (n : Nat) (cs : List Value), (∀ f ∈ fs, ∃ x, DataW.trod enc P W 0 (fun _ => true) true n f.1 ((cs.drop f.2).take (P.cellsOf f.1)) = some x) → cs.length = off + d.sz → ∃ a, ok a ∧ d.K W a (cs.drop off)
theorem opensFs_one {α : Type} {P : Program} {t : TypeId} {off : Nat} {d : Kd α} {ok : α → Prop} (hs : P.cellsOf t = d.sz) (h : Opens P t d ok) : OpensFs P [(t, off)] off d ok := by
  intro H enc W n cs hf hl
  obtain ⟨x, hx⟩ := hf (t, off) List.mem_cons_self
  simp only at hx
  rw [hs, List.take_of_length_le (by rw [List.length_drop]; omega)] at hx
  exact h H enc W n _ x hx
theorem opensFs_cons {α β : Type} {P : Program} {t : TypeId} {fs : List (TypeId × Nat)} {off : Nat} (off2 : Nat) {a : Kd α} {b : Kd β} {ok : α → Prop} {okb : β → Prop} (hs : P.cellsOf t = a.sz) (ho2 : off2 = off + a.sz) (h : Opens P t a ok) (hb : OpensFs P fs off2 b okb) :
    OpensFs P ((t, off) :: fs) off (Kd.pair a b) (fun x => ok x.1 ∧ okb x.2) := by
  intro H enc W n cs hf hl
  obtain ⟨x, hx⟩ := hf (t, off) List.mem_cons_self
  simp only at hx
  rw [hs] at hx
  obtain ⟨p, hp, hK⟩ := h H enc W n _ x hx
  have hsz : (Kd.pair a b).sz = a.sz + b.sz := rfl
  obtain ⟨q, hq, hKq⟩ := hb H enc W n cs (fun g hg => hf g (List.mem_cons_of_mem _ hg)) (by rw [hl, hsz, ho2]; omega)
  refine ⟨(p, q), ⟨hp, hq⟩, (cs.drop off).take a.sz, cs.drop off2, ?_, hK, hKq⟩
  rw [ho2, ← List.drop_drop, List.take_append_drop]
theorem opens_struct {α : Type} {P : Program} {t : TypeId} {fs : Array Field} {l : List (TypeId × Nat)} {d : Kd α} {ok : α → Prop} (ht : P.underlying t = some (.struct fs)) (hfs : fs.toList.map (fun f => (f.type, f.offset)) = l) (hs : P.cellsOf t = d.sz) (h : OpensFs P l 0 d ok) : Opens P t d ok := by
  intro H enc W fuel cs x hx
  obtain ⟨xs, n, _, _, hl, hxl, hf⟩ := DataW.trod_struct ht hx
  have := h H enc W n cs (fun f hm => by
    rw [← hfs] at hm
    obtain ⟨g, hg, rfl⟩ := List.mem_map.1 hm
    obtain ⟨i, hi, rfl⟩ := List.getElem_of_mem hg
    have hi2 : i < fs.size := by simpa using hi
    refine ⟨xs[i], ?_⟩
    simp only
    rw [hf i fs.toList[i] (by simp [hi2]), List.getElem?_eq_getElem]) (by omega)
  simpa using this
theorem opens_iso {α β : Type} {P : Program} {t : TypeId} {d : Kd α} {ok : α → Prop} (f : β → α) (g : α → β) (hfg : ∀ a, f (g a) = a) (h : Opens P t d ok) : Opens P t (Kd.iso d f) (fun b => ok (f b)) := by
  intro H enc W fuel cs x hx
  obtain ⟨a, ha, hK⟩ := h H enc W fuel cs x hx
  exact ⟨g a, by show ok (f (g a)); rw [hfg]; exact ha, by show d.K W (f (g a)) cs; rw [hfg]; exact hK⟩
/-- What an argument reads as. -/
theorem Opens.arg {α : Type} {P : Program} {t : TypeId} {d : Kd α} {ok : α → Prop} (h : Opens P t d ok) {H : Type} {enc : TypeId × Value → H} {W : World} {v : Value} {x : DataW H} {ps : List MemPlace} (ht : DataW.Trod enc P W 0 (fun _ => true) true t v x ps) : ∃ a, ok a ∧ d.K W a v.cells.toList := by
  obtain ⟨fuel, hf⟩ := ht
  exact h H enc W fuel _ _ hf
end Go.Proofs.Ytdhcgfdnhlhapaa.HR
end
section
/- How windows' infos are read. -/
namespace Go.Proofs.Ytdhcgfdnhlhapaa.HI
open Go.RowKit Go.ChangeShapes Go.WideShapes Go.Proofs.YtdhcgfdnhlhapaaW.PrintWords Go.Proofs.Ytdhcgfdnhlhapaa.HR

def kInfo : Kd (Int × Int × Int × List Int) := Kd.pair (Kd.int .u8) (Kd.pair (Kd.int .u8) (Kd.pair (Kd.int .i64) (Kd.slice 3 (Kd.int .i64))))
theorem opens_ints : Opens Try.prog 22 (Kd.slice 3 (Kd.int .i64)) (fun xs => ∀ x ∈ xs, (Lit.int .i64 x).wf = true) := opens_slice Try.underlying22 (by kernel_rfl) (opens_int Try.underlying3)
theorem opens_info : Opens Try.prog 24 kInfo (fun x => (Lit.int .u8 x.1).wf = true ∧ (Lit.int .u8 x.2.1).wf = true ∧ (Lit.int .i64 x.2.2.1).wf = true ∧ ∀ y ∈ x.2.2.2, (Lit.int .i64 y).wf = true) := by
  exact opens_struct Try.underlying24 (l := [(5, 0), (5, 1), (3, 2), (22, 3)]) rfl (by kernel_rfl)
    (opensFs_cons 1 (by kernel_rfl) rfl (opens_int Try.underlying5) (opensFs_cons 2 (by kernel_rfl) rfl (opens_int Try.underlying5) (opensFs_cons 3 (by kernel_rfl) rfl (opens_int Try.underlying3) (opensFs_one (by kernel_rfl) opens_ints))))
theorem wf_u8 {x : Int} (h : (Lit.int .u8 x).wf = true) : 0 ≤ x ∧ x ≤ 255 := by
  simp only [Lit.wf, Bool.and_eq_true, decide_eq_true_eq] at h
  exact h
theorem wf_i64 {x : Int} (h : (Lit.int .i64 x).wf = true) : -9223372036854775808 ≤ x ∧ x ≤ 9223372036854775807 := by
  simp only [Lit.wf, Bool.and_eq_true, decide_eq_true_eq] at h
  exact h
theorem open_info {H : Type} {enc : TypeId × Value → H} {W : World} {v : Value} {x : DataW H} {ps : List MemPlace} {r : Reach} {b0 : Nat} (hv : Value.okWide Try.prog W r b0 24 v) (h : DataW.Trod enc Try.prog W 0 (fun _ => true) true 24 v x ps) :
    ∃ (s sh m : Int) (A : Option Addr) (c : Nat) (l : List Int), v = .agg #[.int .u8 s, .int .u8 sh, .int .i64 m, .slice A l.length c] ∧ l.length ≤ c ∧ Kd.C (Kd.int .i64) W A l.length l ∧ (0 ≤ s ∧ s ≤ 255) ∧ (0 ≤ sh ∧ sh ≤ 255) ∧ (-9223372036854775808 ≤ m ∧ m ≤ 9223372036854775807) ∧ ∀ y ∈ l, -9223372036854775808 ≤ y ∧ y ≤ 9223372036854775807 := by
  unfold Value.okWide at hv
  rw [Try.underlying24] at hv
  obtain ⟨cs, rfl, _, _⟩ := hv
  obtain ⟨⟨s, sh, m, l⟩, ⟨w1, w2, w3, w4⟩, hK⟩ := opens_info.arg h
  obtain ⟨_, _, he, rfl, ⟨_, _, rfl, rfl, ⟨_, _, rfl, rfl, ⟨A, c, rfl, hl, hC⟩⟩⟩⟩ := hK
  refine ⟨s, sh, m, A, c, l, ?_, hl, hC, wf_u8 w1, wf_u8 w2, wf_i64 w3, fun y hy => wf_i64 (w4 y hy)⟩
  congr 1
  apply Array.toList_inj.1
  exact he
end Go.Proofs.Ytdhcgfdnhlhapaa.HI
end
section
/- How bytes are read. -/
namespace Go.Proofs.Ytdhcgfdnhlhapaa.HI
open Go.RowKit Go.ChangeShapes Go.WideShapes Go.Proofs.YtdhcgfdnhlhapaaW.PrintWords Go.Proofs.Ytdhcgfdnhlhapaa.HR

theorem slice_value {W : World} {v : Value} {r : Reach} {b0 : Nat} {t e : TypeId} (ht : Try.prog.underlying t = some (.slice e)) (hv : Value.okWide Try.prog W r b0 t v) : ∃ A n c, v = .slice A n c := by
  unfold Value.okWide at hv
  rw [ht] at hv
  unfold Cell.okWide at hv
  rw [ht] at hv
  revert hv
  cases v <;> simp [Cell.ok, ht]
theorem opens_bytes : Opens Try.prog 32 (Kd.slice 5 (Kd.int .u8)) (fun xs => ∀ x ∈ xs, (Lit.int .u8 x).wf = true) := opens_slice Try.underlying32 (by kernel_rfl) (opens_int Try.underlying5)
theorem open_bytes {H : Type} {enc : TypeId × Value → H} {W : World} {v : Value} {x : DataW H} {ps : List MemPlace} {r : Reach} {b0 : Nat} (hv : Value.okWide Try.prog W r b0 32 v) (h : DataW.Trod enc Try.prog W 0 (fun _ => true) true 32 v x ps) :
    ∃ (A : Option Addr) (c : Nat) (l : List Int), v = .slice A l.length c ∧ l.length ≤ c ∧ Kd.C (Kd.int .u8) W A l.length l ∧ ∀ y ∈ l, 0 ≤ y ∧ y ≤ 255 := by
  obtain ⟨A0, n0, c0, rfl⟩ := slice_value Try.underlying32 hv
  obtain ⟨l, wl, A, c, he, hl, hC⟩ := opens_bytes.arg h
  have he' : Value.slice A0 n0 c0 = .slice A l.length c := by simpa [Value.cells] using he
  exact ⟨A, c, l, he', hl, hC, fun y hy => wf_u8 (wl y hy)⟩
end Go.Proofs.Ytdhcgfdnhlhapaa.HI
end
