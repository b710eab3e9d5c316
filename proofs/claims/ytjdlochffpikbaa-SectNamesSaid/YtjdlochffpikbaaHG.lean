/- sect.fields's iterator (it writes a box of its own), a range over such a one, and the marks that ranges leave. -/
import Derived.Test.YtjdlochffpikbaaHB
import Derived.Test.YtjdlochffpikbaaHP
namespace Go.Proofs.Ytjdlochffpikbaa.HG
open Go.RowKit Go.Shelf Go.Proofs.YtjdlochffpikbaaW.PrintWords Go.Proofs.Ytjdlochffpikbaa.HA Go.Proofs.Ytjdlochffpikbaa.HB
attribute [local go_sem] Oper.semAt_some
set_option linter.unusedVariables false

/-! ### marks -/
def mark (D : Nat) : Deferred := { target := .collected D, args := #[] }
def Marks (B : Nat) (ds : List Nat) (W : World) : Prop := ds.Nodup ∧ ∀ D ∈ ds, B ≤ D ∧ W.heap[D]? = some (.deferred (some []))
theorem Marks.nil (B : Nat) (W : World) : Marks B [] W := ⟨List.nodup_nil, by simp⟩
theorem Marks.cons {B D : Nat} {ds : List Nat} {W : World} (h : Marks B ds W) (hB : B ≤ D) (hD : W.heap[D]? = some (.deferred (some []))) (hn : D ∉ ds) : Marks B (D :: ds) W :=
  ⟨List.nodup_cons.2 ⟨hn, h.1⟩, fun E hE => by
    rcases List.mem_cons.1 hE with rfl | hE
    · exact ⟨hB, hD⟩
    · exact h.2 E hE⟩
theorem Marks.move {B : Nat} {ds : List Nat} {W W1 : World} (h : Marks B ds W) (hk : ∀ (k : Nat) (o : Obj), W.heap[k]? = some o → o.isCells = false → W1.heap[k]? = some o) : Marks B ds W1 := ⟨h.1, fun D hD => ⟨(h.2 D hD).1, hk D _ (h.2 D hD).2 rfl⟩⟩
theorem Marks.lt {B D : Nat} {ds : List Nat} {W : World} (h : Marks B ds W) (hD : D ∈ ds) : D < W.heap.size := blk_lt (h.2 D hD).2
/-- The marks' blocks are shut. -/
structure Shut (B : Nat) (ds : List Nat) (W W' : World) : Prop where
  size : W'.heap.size = W.heap.size
  same : ∀ k, k ∉ ds → W'.heap[k]? = W.heap[k]?
  below : Below B W W'
theorem leaves_marks {F : Fence} {n : Nat} {P : Program} {fn : Func} {tmps : Array Value} {R : Ending → World → Prop} {B : Nat} : ∀ (ds : List Nat) (W : World), Marks B ds W → (∀ W', Shut B ds W W' → LeavesIn F n P fn tmps R [] .returning W') → LeavesInM F n P fn tmps R (ds.map mark) .returning W
  | [], W, _, h => h W ⟨rfl, fun _ _ => rfl, Below.refl _ _⟩
  | D :: ds, W, hm, h => by
    obtain ⟨hnd, hall⟩ := hm
    obtain ⟨hnm, hnd⟩ := List.nodup_cons.1 hnd
    obtain ⟨hBD, hD⟩ := hall D List.mem_cons_self
    refine ⟨by simp, .inl ⟨D, _, rfl, run_takeDeferred hD, ?_⟩⟩
    refine leaves_marks ds _ ⟨hnd, fun E hE => ⟨(hall E (List.mem_cons_of_mem _ hE)).1, ?_⟩⟩ (fun W' hs => h W' ?_)
    · rw [World.putObj_heap_other (fun e : E = D => hnm (by rw [← e]; exact hE))]
      exact (hall E (List.mem_cons_of_mem _ hE)).2
    · refine ⟨hs.size.trans (by simp), fun k hk => ?_, ?_⟩
      · rw [List.mem_cons, not_or] at hk
        rw [hs.same k hk.2, World.putObj_heap_other hk.1]
      · exact (show Below B W (W.putObj D (.deferred none)) from ⟨rfl, rfl, rfl, by simp, fun i hi => World.putObj_heap_other (by omega)⟩).trans hs.below
theorem Shut.R {α : Type} {d : Kd α} {e base B : Nat} {ok : Nat → Prop} {ds : List Nat} {W W' : World} {v : Value} {xs : List α} (hs : Shut B ds W W') (hm : Marks B ds W) (h : d.R e W base ok v xs) : d.R e W' base ok v xs := by
  refine Kd.R_mono (Kd.R_move (Kd.R_bound h) (fun k hk => hs.same k (fun hin => ?_))) (fun _ hk => hk.1)
  obtain ⟨_, _, _, _, _, cells, hc⟩ := hk
  rw [(hm.2 k hin).2] at hc
  cases hc

/-! ### a range over an iterator that writes a box of its own; the body never leaves -/
section
variable {F : Fence} {n : Nat} {P : Program}
/-- What a range's iterator owes: it yields ys, one behind the other; between two rounds it may write the block Pn. -/
def SeqOwn (F : Fence) (n : Nat) (P : Program) (gf : Nat) (lb : Array Value) (ys : List Int) (Kp : World → World → Prop) (Pn : Nat) (Ini : World → Prop) : Prop :=
  ∀ (l : Nat) (J : Nat → World → Prop) (W : World), (∀ k A v, J k A → J k (A.setCell ⟨Pn, 0, none⟩ v)) →
    (∀ k x W1, J k W1 → ys[k]? = some x → YieldAt F (n - 1) P l #[.int .i64 x] W1 fun e W' => e = .returned (.bool true) ∧ J (k + 1) W' ∧ Kp W1 W') →
    J 0 W → Ini W → CallsIn F n P gf (#[.func (.yield l) #[] #[]] ++ lb) W fun e W' => (∃ v, e = .returned v) ∧ J ys.length W'
theorem range_own {g : Operand} {p : Tmp} {assign body : Code} {Q : Exit → Act → World → Prop} {a : Act} {w : World}
    (hro : F.round = none) (h1 : 1 ≤ n) {gf : Nat} {lb : Array Value} (hg : a.eval g = .func (.func gf) #[] lb) (hFg : F.fn gf) (eg : ∀ args w, (callFunc gf args).run P w = .ok (.enter gf args) w)
    {ys : List Int} {Kp : World → World → Prop} {Pn : Nat} {Ini : World → Prop} (hseq : SeqOwn F (n - 1) P gf lb ys Kp Pn Ini) (hP : Pn < w.heap.size)
    (hKt : ∀ {A B C : World}, Kp A B → Kp B C → Kp A C) (hKb : ∀ (W : World) (l : Nat) (o : Obj), w.heap.size ≤ l → Kp W (W.putObj l o)) (hIni : ∀ o1 o2, Ini ((w.alloc o1).alloc o2))
    (I : Nat → World → Prop) (hI : OwnFrom w.heap.size I) (hIp : ∀ k A v, I k A → I k (A.setCell ⟨Pn, 0, none⟩ v)) (h0 : I 0 w) (a₁ : Int → Act)
    (hassign : ∀ (l : Nat) (x : Int) (W : World) (K : Act → World → Prop), K (a₁ x) W → assign.wpIn (F.inRound l) (n - 1 - 1) P (Exit.then K (fun _ _ _ => False)) { tmps := (#[p].zip #[Value.int .i64 x]).foldl (fun t (p, v) => t.setIfInBounds p v) a.tmps, defers := [] } W)
    (hbody : ∀ (l k : Nat) (x : Int) (W : World), I k W → ys[k]? = some x → body.wpIn (F.inRound l) (n - 1 - 1) P (Exit.then (fun _ W' => KeepsFrom w.heap.size W W' ∧ Kp W W' ∧ I (k + 1) W') (fun _ _ _ => False)) (a₁ x) W)
    (hdone : ∀ (D : Nat) (W : World), w.heap.size ≤ D → I ys.length W → W.heap[D]? = some (.deferred (some [])) → Q .normal { a with defers := mark D :: a.defers } W) :
    (Code.rangeFunc g #[p] assign body).wpIn F n P Q a w := by
  refine wpIn_rangeFunc ?_
  intro fn hfn
  rw [hro]
  obtain ⟨rc, hrc⟩ : ∃ rc : LoopState → Loop, rc = fun st => { state := st, pending := none, fn, tmps := a.tmps, params := #[p], assign, body, defers := w.heap.size } := ⟨_, rfl⟩
  obtain ⟨V, hV⟩ : ∃ V, (w.alloc (.deferred (some []))).alloc (.loop (rc .ready)) = V := ⟨_, rfl⟩
  have hsz : V.heap.size = w.heap.size + 2 := by rw [← hV]; simp
  have hL : V.heap[w.heap.size + 1]? = some (.loop (rc .ready)) := by
    rw [← hV]
    have := World.alloc_heap_new (w.alloc (.deferred (some []))) (.loop (rc .ready))
    rwa [World.size_alloc] at this
  have hK : V.heap[w.heap.size]? = some (.deferred (some [])) := by
    rw [← hV]
    exact (Below.heap_alloc _ _ _ (by simp)).trans (World.alloc_heap_new w _)
  have hI0 : I 0 V := by rw [← hV]; exact hI.alloc _ (hI.alloc _ h0)
  refine ⟨w.heap.size + 1, [mark w.heap.size], V, { target := .fn (.func gf) lb, args := #[.func (.yield (w.heap.size + 1)) #[] #[]] }, V, gf, #[.func (.yield (w.heap.size + 1)) #[] #[]] ++ lb, V, ?_, ?_, ?_, ?_, fun _ => h1, ?_⟩
  · rw [← hV, hrc]
    exact run_enterLoop_outer _ _ _ _ _
  · simp only [resolve, hg]
    simp [go_sem]
  · intro f' hf'
    simp [Target.leads] at hf'
    subst hf'
    exact hFg
  · simp [invoke, go_sem, eg]
  -- between two rounds: the caller's own, the record ready, the block for deferred calls open
  refine (hseq (w.heap.size + 1) (fun k W => I k W ∧ W.heap[w.heap.size + 1]? = some (.loop (rc .ready)) ∧ W.heap[w.heap.size]? = some (.deferred (some []))) V ?_ ?_ ⟨hI0, hL, hK⟩ (by rw [← hV]; exact hIni _ _)).mono ?_
  · rintro k A v ⟨h1, h2, h3⟩
    exact ⟨hIp k A v h1, (Below.heap_setCell A _ v _ (show w.heap.size + 1 ≠ Pn by omega)).trans h2, (Below.heap_setCell A _ v _ (show w.heap.size ≠ Pn by omega)).trans h3⟩
  · rintro k x W ⟨hi, hl, hk⟩ hx
    have hlt := blk_lt hl
    have hy := run_yield (P := P) (args := #[.int .i64 x]) hl (by rw [hrc]; rfl)
    rw [hrc] at hy
    refine ⟨fn, _, assign, body, hy, roundIn_of_wpIn hfn (hassign _ x W _ ?_)⟩
    refine ⟨_, run_beginRound hl (by rw [hrc]), ?_⟩
    obtain ⟨U, hU⟩ : ∃ U, W.putObj (w.heap.size + 1) (.loop { rc .ready with state := .busy }) = U := ⟨_, rfl⟩
    rw [hU]
    have hlU : U.heap[w.heap.size + 1]? = some (.loop { rc .ready with state := .busy }) := by rw [← hU]; exact World.putObj_heap_same hlt
    have hkU : U.heap[w.heap.size]? = some (.deferred (some [])) := by rw [← hU]; exact (World.putObj_heap_other (by omega)).trans hk
    have hiU : I k U := by rw [← hU]; exact hI.putObj _ hi (by omega) hl rfl
    have hpU : Kp W U := by rw [← hU]; exact hKb _ _ _ (by omega)
    refine wpIn_mono (hbody _ k x U hiU hx) ?_
    rintro e a3 W3 hp
    cases e with
    | normal =>
      obtain ⟨hk3, hp3, hi3⟩ := hp
      have hl3 := hk3.same _ _ (by omega) hlU rfl
      have hd3 := hk3.same _ _ (Nat.le_refl _) hkU rfl
      have hr := run_endRound (P := P) none hl3
      refine ⟨_, _, hr, rfl, ⟨hI.putObj _ hi3 (by omega) hl3 rfl, ?_, (World.putObj_heap_other (by omega)).trans hd3⟩, hKt (hKt hpU hp3) (hKb _ _ _ (by omega))⟩
      rw [World.putObj_heap_same (blk_lt hl3), hrc]
      rfl
    | ret => exact hp.elim
    | exit id => exact hp.elim
    | goto t => exact hp.elim
    | panic ch => exact hp.elim
    | outgrown => exact hp.elim
  · rintro e W2 ⟨⟨v, rfl⟩, hi, hl, hk⟩
    have hr := run_endLoop (P := P) hl (by rw [hrc]; simp)
    have hp : (rc .ready).pending = none := by rw [hrc]
    rw [hp] at hr
    exact ⟨none, _, hr, hdone w.heap.size _ (Nat.le_refl _) (hI.putObj _ hi (by omega) hl rfl) ((World.putObj_heap_other (by omega)).trans hk)⟩
end

/-! ### sect.fields -/
/-- A length's fields: so many of the greatest number, and what is left. -/
def fieldsOf (n most : Int) : List Int := List.replicate (n / most).toNat most ++ [n % most]
theorem fieldsOf_length (n most : Int) : (fieldsOf n most).length = (n / most).toNat + 1 := by simp [fieldsOf]
theorem fieldsOf_at (n most : Int) (j : Nat) (h : j < (n / most).toNat) : (fieldsOf n most)[j]? = some most := by
  unfold fieldsOf
  rw [List.getElem?_append_left (by simpa using h), List.getElem?_replicate, if_pos h]
theorem fieldsOf_last (n most : Int) : (fieldsOf n most)[(n / most).toNat]? = some (n % most) := by
  unfold fieldsOf
  rw [List.getElem?_append_right (by simp)]
  simp
def boxInt (W : World) (B : Nat) : Nat := match W.cell? ⟨B, 0, none⟩ with | some (.int _ n) => n.toNat | _ => 0
theorem boxInt_of {W : World} {B : Nat} {t : TypeId} {c : Int} (h : Boxed W B t (.int .i64 c)) : boxInt W B = c.toNat := by unfold boxInt; rw [h.cell]
set_option maxRecDepth 100000 in
set_option maxHeartbeats 2000000 in
theorem fields1_in (F : Fence) (q : Nat) (h7 : F.fn 32) (hro : F.round = none) (hn : 1 ≤ q) (Bm Bn : Nat) (n most : Int) (h0n : 0 ≤ n) (h1n : n ≤ 1000000) (h0m : 1 ≤ most) (h1m : most ≤ 1000) (hne : Bm ≠ Bn) :
    SeqOwn F q Try.prog 32 #[.pointer (some ⟨Bn, 0, none⟩), .pointer (some ⟨Bm, 0, none⟩)] (fieldsOf n most) (Kq Bm Bn) Bn (fun W => Boxed W Bm 3 (.int .i64 most) ∧ Boxed W Bn 3 (.int .i64 n)) := by
  intro l J W hJ hY h0 ⟨hBm, hBn⟩
  refine callsIn_of_wp Try.func32 rfl h7 ?_ hro
  simp only [Try.ntmps32, List.size_toArray, List.length_cons, List.length_nil, Nat.reduceAdd, Nat.reduceSub, Array.replicate_succ, Array.replicate_zero, List.push_toArray, List.append_toArray, List.nil_append, List.cons_append]
  gi_wp2
  gi_loopw [4] (fun _ wr => ∃ (j : Nat) (c : Int), Aside0 (c = n - j * most) ∧ 0 ≤ c ∧ c ≤ 1000000 ∧ Aside0 (J j wr) ∧ Aside0 (Boxed wr Bm 3 (.int .i64 most)) ∧ Aside0 (Boxed wr Bn 3 (.int .i64 c)))
    (fun _ wr => boxInt wr Bn)
  case atStart => exact ⟨0, n, ⟨by simp⟩, h0n, h1n, ⟨h0⟩, ⟨hBm⟩, ⟨hBn⟩⟩
  case round =>
    obtain ⟨j, c, hc, hc0, hc1, hJs, hm, hnn⟩ := hrel
    have hcm := hm.out.cell
    have hcn := hnn.out.cell
    by_cases hge : most ≤ c
    · have hx : (fieldsOf n most)[j]? = some most := by
        refine fieldsOf_at n most j ?_
        have h2 : ((j : Int) + 1) * most ≤ n := by rw [Int.add_mul]; have := hc.out; omega
        have h3 : (j : Int) + 1 ≤ n / most := (Int.le_ediv_iff_mul_le (by omega)).2 h2
        omega
      obtain ⟨fn, tmps, assign, body, hy, hR⟩ := hY j most wr hJs.out hx
      have HBI := Aside0.mk (boxInt_of hnn.out)
      gi_wp2
      refine hR.mono ?_
      rintro e W3 ⟨rfl, hJ3, hk3⟩
      have hm3 : Boxed W3 Bm 3 (.int .i64 most) := hk3.1.trans hm.out
      have hn3 : Boxed W3 Bn 3 (.int .i64 c) := hk3.2.trans hnn.out
      have hcm3 := hm3.cell
      have hcn3 := hn3.cell
      have hfn3 := hn3.frozen
      have HM3 := Aside0.mk hm3
      have HN3 := Aside0.mk hn3
      have HJ3 := Aside0.mk hJ3
      clear hcm hcn hm3 hn3 hJ3 hk3 hy hR hx
      gi_wp2
      go_roundw
      case rel => exact ⟨j + 1, c - most, ⟨by rw [hc.out]; rw [Int.natCast_add, Int.add_mul]; omega⟩, by omega, by omega, ⟨hJ _ _ _ HJ3.out⟩, ⟨HM3.out.other hne _⟩, ⟨HN3.out.set _⟩⟩
      case measure =>
        rw [boxInt_of (HN3.out.set (.int .i64 (c - most))), HBI.out]
        omega
    · have hjq : j = (n / most).toNat := by
        have h2 : n / most = (j : Int) := by
          rw [Int.ediv_eq_iff_of_pos (by omega)]
          have := hc.out
          omega
        omega
      have hcq : c = n % most := by
        have h3 := Int.emod_add_mul_ediv n most
        have h2 : n / most = (j : Int) := by
          rw [Int.ediv_eq_iff_of_pos (by omega)]
          have := hc.out
          omega
        rw [h2, Int.mul_comm] at h3
        have := hc.out
        omega
      have hx : (fieldsOf n most)[j]? = some c := by rw [hjq, hcq]; exact fieldsOf_last n most
      obtain ⟨fn, tmps, assign, body, hy, hR⟩ := hY j c wr hJs.out hx
      have HQ := Aside0.mk hjq
      clear hjq hcq hx
      gi_wp2
      refine hR.mono ?_
      rintro e W3 ⟨rfl, hJ3, hk3⟩
      have HJ3 := Aside0.mk hJ3
      clear hJ3 hk3 hy hR
      gi_wp2
      go_end0
      refine ⟨⟨_, rfl⟩, ?_⟩
      rw [fieldsOf_length, ← HQ.out]
      exact HJ3.out
set_option maxRecDepth 100000 in
set_option maxHeartbeats 1000000 in
theorem fields_calls (n most : Int) (w : World) :
    Calls Try.prog 20 #[.int .i64 n, .int .i64 most] w fun e w' => e = .returned (.func (.func 32) #[] #[.pointer (some ⟨w.heap.size, 0, none⟩), .pointer (some ⟨w.heap.size + 1, 0, none⟩)]) ∧ w' = (w.alloc (.cells #[.int .i64 n] 3)).alloc (.cells #[.int .i64 most] 3) := by
  go_enter Try.func20, Try.ntmps20
  go_wp2
  go_ret
  exact ⟨rfl, rfl⟩
end Go.Proofs.Ytjdlochffpikbaa.HG
