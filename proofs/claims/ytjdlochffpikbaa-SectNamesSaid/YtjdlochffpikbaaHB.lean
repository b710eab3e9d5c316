/- bits.each's iterator, and slices.AppendSeq over it: contracts. -/
import Derived.Test.YtjdlochffpikbaaHA
import Derived.Test.YtjdlochffpikbaaProg
import Derived.RangeFuncNested
import Derived.RangeFuncBound
import Derived.RangeFuncCalls
import Derived.RangeFuncLeaves
import Derived.RangeFuncBox
import Derived.Shelf.Abstract
import Derived.Shelf.RegionOpen
import Derived.WalkKit
import Derived.OwnWalkIn
import Derived.TacticsInMore
import Derived.LoopNIn
import Derived.LoopIn
import Derived.Maps.AppendAt
import Derived.Outline
namespace Go.Proofs.Ytjdlochffpikbaa.HB
open Go.RowKit Go.Shelf Go.Proofs.YtjdlochffpikbaaW.PrintWords Go.Proofs.Ytjdlochffpikbaa.HA
attribute [local go_sem] Oper.semAt_some
set_option linter.unusedVariables false

theorem infoByte : (Try.prog.info? 5).map (fun i => (i.zero, i.size, i.bytes)) = some (some (.int .u8 0), 1, 1) := by kernel_rfl

/-- What a round keeps: the two boxes that the iterator reads. -/
def Kq (Bz Bn : Nat) (W W' : World) : Prop := W'.heap[Bz]? = W.heap[Bz]? ∧ W'.heap[Bn]? = W.heap[Bn]?
theorem kq_trans {Bz Bn : Nat} {X Y Z : World} (h : Kq Bz Bn X Y) (k : Kq Bz Bn Y Z) : Kq Bz Bn X Z := ⟨k.1.trans h.1, k.2.trans h.2⟩
theorem kq_put {Bz Bn : Nat} {w : World} (hz : Bz < w.heap.size) (hn : Bn < w.heap.size) (W : World) (l : Nat) (o o' : Obj) (hl : w.heap.size ≤ l) (_ : W.heap[l]? = some o) (_ : o.isCells = false) (_ : o.isWalk = false) : Kq Bz Bn W (W.putObj l o') := by
  have hk := grownBy_putObj' W l o'
  have h0 : l < W.heap.size := (Array.getElem?_eq_some_iff.1 (by assumption)).1
  exact ⟨hk.block _ (by omega) (fun e => by cases e; omega), hk.block _ (by omega) (fun e => by cases e; omega)⟩

set_option maxRecDepth 100000 in
set_option maxHeartbeats 2000000 in
/-- The iterator's body: for every loop body that keeps the two boxes. -/
theorem each1_in (F : Fence) (q : Nat) (h7 : F.fn 39) (hro : F.round = none) (hn : 1 ≤ q) (l Bz Bn : Nat) (n : Int) (size : Nat) (hs : size ≤ 31) (h0n : 0 ≤ n) (h1n : n ≤ 2147483647) (J Jx : List Int → World → Prop)
    (hY : ∀ pre x W, J pre W → pre.length < size → YieldAt F (q - 1) Try.prog l #[.int .u8 x] W fun e W' =>
      (e = .returned (.bool true) ∧ J (pre ++ [x]) W' ∧ Kq Bz Bn W W') ∨ (e = .returned (.bool false) ∧ Jx (pre ++ [x]) W'))
    (W : World) (hBz : Boxed W Bz 3 (.int .i64 size)) (hBn : Boxed W Bn 3 (.int .i64 n)) (h0 : J [] W) :
    CallsIn F q Try.prog 39 #[.func (.yield l) #[] #[], .pointer (some ⟨Bz, 0, none⟩), .pointer (some ⟨Bn, 0, none⟩)] W fun e W' => (∃ v, e = .returned v) ∧
      ((∃ ys, ys = bitsOf n size ∧ J ys W') ∨ (∃ pre, (∃ k, k ≤ size ∧ pre = upto (bitAt n size) k) ∧ Jx pre W')) := by
  refine callsIn_of_wp Try.func39 rfl h7 ?_ hro
  simp only [Try.ntmps39, List.size_toArray, List.length_cons, List.length_nil, Nat.reduceAdd, Nat.reduceSub, Array.replicate_succ, Array.replicate_zero, List.push_toArray, List.append_toArray, List.nil_append, List.cons_append]
  have hcz := hBz.cell
  have hcn := hBn.cell
  gi_wp2
  gi_loopw [4] (fun i wr => ∃ k : Nat, k ≤ size ∧ i = .int .i64 ((size : Int) - 1 - k) ∧ J (upto (bitAt n size) k) wr ∧ Aside0 (Boxed wr Bz 3 (.int .i64 size)) ∧ Aside0 (Boxed wr Bn 3 (.int .i64 n)))
    (fun i _ => (intOf i + 1).toNat)
  case atStart => exact ⟨0, Nat.zero_le _, by simp, h0, ⟨hBz⟩, ⟨hBn⟩⟩
  case round =>
    clear hcz hcn
    obtain ⟨k, hk, rfl, hJs, hz, hnn⟩ := hrel
    have hcz := hz.out.cell
    have hcn := hnn.out.cell
    by_cases hlt : k < size
    · obtain ⟨fn, tmps, assign, body, hy, hR⟩ := hY _ (bits BinOp.and IntKind.i64 (n / 2 ^ (size - 1 - k)) 1 % 256) wr hJs (by rw [upto_length]; exact hlt)
      have hb := Aside0.mk (bit_said n size k h0n (by omega))
      gi_wp2
      refine hR.mono ?_
      rintro e W3 (⟨rfl, hJ3, hk3⟩ | ⟨rfl, hJx3⟩)
      · rw [hb.out, ← upto_succ] at hJ3
        have hz3 : Aside0 (Boxed W3 Bz 3 (.int .i64 size)) := ⟨hk3.1.trans hz.out⟩
        have hn3 : Aside0 (Boxed W3 Bn 3 (.int .i64 n)) := ⟨hk3.2.trans hnn.out⟩
        clear hk3 hcz hcn
        gi_wp2
        go_roundw
        case rel => exact ⟨k + 1, by omega, by congr 1; omega, hJ3, hz3, hn3⟩
        case measure => simp [intOf]; omega
      · rw [hb.out, ← upto_succ] at hJx3
        gi_wp2
        refine bodyPost_ret (results_none rfl _ _ _) rfl ?_
        exact ⟨⟨_, rfl⟩, .inr ⟨_, ⟨k + 1, by omega, rfl⟩, hJx3⟩⟩
    · obtain rfl : k = size := by omega
      gi_wp2
      go_end0
      exact ⟨⟨_, rfl⟩, .inl ⟨_, rfl, hJs⟩⟩

set_option maxRecDepth 100000 in
set_option maxHeartbeats 1000000 in
/-- each(n, size): both are boxed; the function value captures the boxes. -/
theorem each_calls (n size : Int) (w : World) :
    Calls Try.prog 31 #[.int .i64 n, .int .i64 size] w fun e w' => e = .returned (.func (.func 39) #[] #[.pointer (some ⟨w.heap.size + 1, 0, none⟩), .pointer (some ⟨w.heap.size, 0, none⟩)]) ∧ w' = (w.alloc (.cells #[.int .i64 n] 3)).alloc (.cells #[.int .i64 size] 3) := by
  go_enter Try.func31, Try.ntmps31
  go_wp2
  go_ret
  exact ⟨rfl, rfl⟩

/-- It hands back a value that stops: all of the bits; or a part. -/
theorem each_stops (F : Fence) (q : Nat) (h7 : F.fn 39) (hro : F.round = none) (hn : 1 ≤ q) (Bz Bn : Nat) (n : Int) (size : Nat) (hs : size ≤ 31) (h0n : 0 ≤ n) (h1n : n ≤ 2147483647) (w : World)
    (hcz : Boxed w Bz 3 (.int .i64 size)) (hcn : Boxed w Bn 3 (.int .i64 n)) :
    SeqStopsK F q Try.prog 39 #[.pointer (some ⟨Bz, 0, none⟩), .pointer (some ⟨Bn, 0, none⟩)] (fun x : Int => #[Value.int .u8 x]) (Kq Bz Bn) (fun ys => ys = bitsOf n size) (fun pre => ∃ k, k ≤ size ∧ pre = upto (bitAt n size) k) size w := fun l J Jx W hW _ _ hY h0 =>
  each1_in F q h7 hro hn l Bz Bn n size hs h0n h1n J Jx hY W ((hW.block _ hcz.lt).trans hcz) ((hW.block _ hcn.lt).trans hcn) h0

set_option maxRecDepth 100000 in
set_option maxHeartbeats 2000000 in
/-- slices.AppendSeq over it: a row of bytes that the caller owns, the bits behind it. -/
theorem appendSeq_calls (w : World) (n₀ : Nat) (hn₀ : n₀ ≤ w.heap.size) (v0 : Value) (xs : List Int) (hrow0 : w.ownsRow n₀ 5 1 v0 xs.length (xs.map (Value.int .u8))) (hlen : xs.length + 31 ≤ 140737488355328)
    (Bz Bn : Nat) (n : Int) (size : Nat) (hs : size ≤ 31) (h0n : 0 ≤ n) (h1n : n ≤ 2147483647) (hcz : Boxed w Bz 3 (.int .i64 size)) (hcn : Boxed w Bn 3 (.int .i64 n)) :
    Calls Try.prog 29 #[v0, .func (.func 39) #[] #[.pointer (some ⟨Bz, 0, none⟩), .pointer (some ⟨Bn, 0, none⟩)]] w fun e w' =>
      ∃ v, e = .returned v ∧ w'.ownsRow n₀ 5 1 v (xs ++ bitsOf n size).length ((xs ++ bitsOf n size).map (Value.int .u8)) ∧ Below n₀ w w' := by
  refine (callsIn_wide (n := 4)).1 ?_
  have hro : Fence.wide.round = none := rfl
  have h1 : 1 ≤ 4 := by omega
  obtain ⟨i0, hi, hz0, hz1, hz2⟩ := info_parts infoByte
  have H0 := Aside0.mk hrow0
  clear hrow0
  refine callsIn_of_wp_marks Try.func29 rfl trivial ?_ hro
  simp only [Try.ntmps29, List.size_toArray, List.length_cons, List.length_nil, Nat.reduceAdd, Nat.reduceSub, Array.replicate_succ, Array.replicate_zero, List.push_toArray, List.append_toArray, List.nil_append, List.cons_append]
  obtain ⟨A0, c0, rfl⟩ := own_slice H0.out
  gi_wp2
  have bO := Boxed.new w 28 (.slice A0 xs.length c0)
  have hB0 : Below n₀ w (w.alloc (.cells #[.slice A0 xs.length c0] 28)) := (Below.refl _ w).alloc hn₀ _
  refine wpIn_rangeFunc_ownG hro h1 (gf := 39) (lb := #[.pointer (some ⟨Bz, 0, none⟩), .pointer (some ⟨Bn, 0, none⟩)]) rfl trivial (enters_of Try.func39 (by kernel_rfl) rfl)
    (each_stops Fence.wide (4 - 1) trivial hro (by omega) Bz Bn n size hs h0n h1n _ (hcz.alloc _) (hcn.alloc _)) kq_trans (kq_put (by have := hcz.lt; simp; omega) (by have := hcn.lt; simp; omega)) (Below.refl _ _) (fun _ => rfl)
    (fun pre W => (∃ v, Boxed W w.heap.size 28 v ∧ W.ownsRow n₀ 5 1 v (xs ++ pre).length ((xs ++ pre).map (Value.int .u8)) ∧ True) ∧ Boxed W Bz 3 (.int .i64 size) ∧ Boxed W Bn 3 (.int .i64 n) ∧ Below n₀ w W)
    (fun _ _ _ => False)
    (OwnFrom.and (Own.from (holdsRow_own n₀ w.heap.size 28 5 1 (fun pre => (xs ++ pre).length) (fun pre => (xs ++ pre).map (Value.int .u8)) (fun _ _ => True)) _) (OwnFrom.and (Own.from (boxed_own Bz 3 (fun _ => .int .i64 size)) _) (OwnFrom.and (Own.from (boxed_own Bn 3 (fun _ => .int .i64 n)) _) (ownFrom_below hn₀ (by simp; omega)))))
    (fun _ _ _ _ _ hs _ _ => hs)
    ⟨⟨_, bO, by simpa using H0.out.alloc _, trivial⟩, hcz.alloc _, hcn.alloc _, hB0⟩
    (fun x => { tmps := #[.slice A0 xs.length c0, .func (.func 39) #[] #[.pointer (some ⟨Bz, 0, none⟩), .pointer (some ⟨Bn, 0, none⟩)], .pointer (some ⟨w.heap.size, 0, none⟩), undef, .slice none 0 0, .int .u8 x, .func (.func 39) #[] #[.pointer (some ⟨Bz, 0, none⟩), .pointer (some ⟨Bn, 0, none⟩)], .int .u8 x, undef, undef, undef, undef, undef], defers := [] }) ?assign ?body ?done ?stop
  case assign =>
    intro l x W K hK
    gi_wp2
    exact hK
  case body =>
    rintro l pre x W ⟨⟨v, hv, hrow, _⟩, hbz, hbn, hB⟩ hlt
    have hc := hv.cell
    have HR := Aside0.mk hrow
    have HBZ := Aside0.mk hbz
    have HBN := Aside0.mk hbn
    clear hbz hbn
    have hpl : (xs ++ pre).length ≤ xs.length + 30 := by simp; omega
    clear hrow
    obtain ⟨ys, hys⟩ : ∃ ys, ys = xs ++ pre := ⟨_, rfl⟩
    rw [← hys] at HR hpl
    have HY : Aside0 (xs ++ (pre ++ [x]) = ys ++ [x]) := ⟨by rw [hys]; simp⟩
    clear hys
    gi_wp2_with (gi_at_builtin; refine wpListIn_append_own _ rfl _ _ 28 rfl n₀ 5 i0 (.int .u8 0) 1 1 Try.underlying28 hi hz0 hz1 hz2 rfl (by decide) _ _ _ rfl (HR.out.alloc _) ⟨W.heap.size, 0, none⟩ 1 1 [.int .u8 x] rfl rfl (cell_one_new _ _ _) (by simp [Value.oneCell']) ?c3 ?c4 ?c5 ?_; (case c3 => unfold maxLen; omega); (case c4 => omega); (case c5 => have := hB.size; simp; omega); intro v' w1 hown' hgrow _; obtain ⟨g', cap', rfl⟩ := ownsRow_succ hown'; obtain ⟨hv1, hv2, hr2, hk2, hb2⟩ := hv.appended (by decide) HR.out (by have := hB.size; omega) hn₀ hown' hgrow; have hc1 := hv1.cell; have hf1 := hv1.frozen; have hz1 := Aside0.mk (((HBZ.out.alloc _).kept hgrow (HBZ.out.not_row (by decide) HR.out)).other (B' := w.heap.size) (by have := hcz.lt; omega) (.slice (some ⟨g', 0, none⟩) (ys.length + 1) cap')); have hn1 := Aside0.mk (((HBN.out.alloc _).kept hgrow (HBN.out.not_row (by decide) HR.out)).other (B' := w.heap.size) (by have := hcn.lt; omega) (.slice (some ⟨g', 0, none⟩) (ys.length + 1) cap')))
    exact ⟨hk2.from _, ⟨hz1.out.trans HBZ.out.symm, hn1.out.trans HBN.out.symm⟩, ⟨⟨_, hv2, by rw [HY.out]; simpa using hr2, trivial⟩, hz1.out, hn1.out, hB.trans hb2⟩⟩
  case done =>
    rintro D ys W hD rfl ⟨⟨v, hv, hrow, _⟩, hbz, hbn, hB⟩ hK
    have hc := hv.cell
    have HR := Aside0.mk hrow
    clear hrow
    gi_wp2
    refine ⟨by simp, .inl ⟨_, _, rfl, run_takeDeferred hK, ?_⟩⟩
    exact ⟨_, results_tmp rfl _ _ _, v, rfl, ownsRow_putObj HR.out _ hK rfl, hB.trans (belowK_b hn₀ W D _ _ (by simp at hD; omega) hK rfl rfl)⟩
  case stop =>
    rintro D c pre W _ _ h _
    exact h.elim
end Go.Proofs.Ytjdlochffpikbaa.HB
