/- Texts of this session for the law SectNothing, packed by wip/merge.py: part 2 of 2. Each section is one text; the law's own sentence stands over its section. -/
import Derived.Test.YtjdlochffpikbaaWWords
import Derived.Deep.Slices
import Derived.ChangeArms
import Derived.ChangeOld
import Derived.Carry
import Derived.ChangeSlices
import Derived.WideShapes
import Derived.Test.YtjdlochffpikbaaProg
import Derived.KernelRfl
import Derived.Test.YtjdlochffpikbaaRows
import Derived.WalkKit
import Derived.ProofKit
import Derived.OpenShut
import Derived.ShutString
import Derived.Below
import Derived.SizedLaws
import Derived.Test.YtjdlochffpikbaaYSectNothing1
section
-- Written for this claim by this session's own wip/hook.py (it runs the kit's print and takes some functions' contracts as given texts of this session's).
namespace Go.Proofs.Ytjdlochffpikbaa.K
open Go.RowKit Go.Proofs.YtjdlochffpikbaaW.PrintWords Go.Proofs.YtjdlochffpikbaaW.PrintLast Go.Proofs.YtjdlochffpikbaaW.PrintMore
attribute [local go_sem] max2_int min2_int max_two min_two max_three min_three max_four min_four   -- for this text's walks alone
set_option linter.unusedVariables false
set_option linter.unusedSimpArgs false

/-! ### sect_Put: function 9: GIVEN BY HAND -/
-- IMPORT Derived.Test.YtjdlochffpikbaaSSA
-- IMPORT Derived.Test.YtjdlochffpikbaaHG
open Go.Shelf HG HB SS
attribute [local go_sem] Oper.semAt_some
/-- Between two statements: the box of the bits and their row, the windows' record, the size's box, the marks. -/
def PutS (w0 : World) (B I Z : Nat) (cs : Array Value) (sz : Int) (W : World) (xs : List Int) (A : Option Addr) (c : Nat) (ds : List Nat) : Prop :=
  (w0.heap.size ≤ B ∧ w0.heap.size ≤ I ∧ w0.heap.size ≤ Z ∧ B ≠ I ∧ B ≠ Z ∧ I ≠ Z) ∧ Below w0.heap.size w0 W ∧ W.heap[I]? = some (.cells cs 24 (0, 0)) ∧ W.heap[Z]? = some (.cells #[.int .i64 sz] 3 (0, 0)) ∧
  W.heap[B]? = some (.cells #[.slice A xs.length c] 28 (0, 0)) ∧ Kd.R (Kd.int .u8) 5 W w0.heap.size (fun _ => True) (.slice A xs.length c) xs ∧ Marks w0.heap.size ds W
section
variable {w0 : World} {B I Z : Nat} {cs : Array Value} {sz : Int} {W W1 : World} {xs : List Int} {A : Option Addr} {c : Nat} {ds : List Nat}
theorem marks_below {b : Nat} (h : Marks b ds W) (hb : Below W.heap.size W W1) : Marks b ds W1 := h.move (fun k o hk _ => (hb.block k (blk_lt hk)).trans hk)
theorem marks_set {b g j : Nat} {u : Value} (h : Marks b ds W) : Marks b ds (W.setCell ⟨g, j, none⟩ u) := h.move (fun k o hk ho => (KeepsOthers.setCell _ _ _).same k o hk ho)
theorem keeps_below {b : Nat} (hb : Below W.heap.size W W1) : KeepsFrom b W W1 := ⟨hb.size, fun k o _ hk _ => (hb.block k (blk_lt hk)).trans hk⟩
theorem PutS.below (h : PutS w0 B I Z cs sz W xs A c ds) (hb : Below W.heap.size W W1) : PutS w0 B I Z cs sz W1 xs A c ds := by
  obtain ⟨hd, h1, h2, h3, h4, h5, h6⟩ := h
  exact ⟨hd, below_step h1 hb, blk_below h2 hb, blk_below h3 hb, blk_below h4 hb, Kd.R_below h5 hb, marks_below h6 hb⟩
theorem PutS.alloc (h : PutS w0 B I Z cs sz W xs A c ds) (o : Obj) : PutS w0 B I Z cs sz (W.alloc o) xs A c ds := h.below (below_alloc (Below.refl _ _) o)
theorem PutS.put1 {ys : List Int} {A1 : Option Addr} {c1 : Nat} (h : PutS w0 B I Z cs sz W xs A c ds) (hb : Below W.heap.size W W1) (hr : Kd.R (Kd.int .u8) 5 W1 W.heap.size (fun _ => True) (.slice A1 ys.length c1) ys) : PutS w0 B I Z cs sz (W1.setCell ⟨B, 0, none⟩ (.slice A1 ys.length c1)) ys A1 c1 ds := by
  have hb0 := h.2.1.size
  obtain ⟨hd, h1, h2, h3, h4, h5, h6⟩ := h.below hb
  exact ⟨hd, below_set h1 hd.1, blk_far h2 (Ne.symm hd.2.2.2.1) _, blk_far h3 (Ne.symm hd.2.2.2.2.1) _, blk_put h4 0 _ rfl, Kd.R_set (Kd.R_lower hr hb0) h4 (by decide) 0 _, marks_set h6⟩
theorem PutS.qB (h : PutS w0 B I Z cs sz W xs A c ds) : W.cell? ⟨B, 0, none⟩ = some (.slice A xs.length c) := (blk_cell h.2.2.2.2.1 0).trans rfl
theorem PutS.fB (h : PutS w0 B I Z cs sz W xs A c ds) : W.frozen? ⟨B, 0, none⟩ = false := blk_frozen h.2.2.2.2.1 0
theorem PutS.qZ (h : PutS w0 B I Z cs sz W xs A c ds) : W.cell? ⟨Z, 0, none⟩ = some (.int .i64 sz) := (blk_cell h.2.2.2.1 0).trans rfl
theorem sect_Put.start {w w2 w3 : World} {b : List Int} {A0 : Option Addr} {c0 : Nat} (hlt : w.heap.size < w2.heap.size) (h2 : Below w.heap.size w w2) (hB : w2.heap[w.heap.size]? = some (.cells #[.slice A0 b.length c0] 28 (0, 0))) (hI : w2.heap[w.heap.size + 1]? = some (.cells cs 24 (0, 0)))
    (hb : Below (w2.alloc (.cells #[.int .i64 sz] 3)).heap.size (w2.alloc (.cells #[.int .i64 sz] 3)) w3) (hr : Kd.R (Kd.int .u8) 5 w3 (w2.alloc (.cells #[.int .i64 sz] 3)).heap.size (fun _ => True) (.slice A b.length c) b) :
    PutS w w.heap.size (w.heap.size + 1) w2.heap.size cs sz (w3.setCell ⟨w.heap.size, 0, none⟩ (.slice A b.length c)) b A c [] := by
  have hI2 := blk_lt hI
  have hBw : Below w.heap.size w w3 := below_step (below_alloc h2 _) hb
  have b1 := blk_below (blk_alloc hB (.cells #[.int .i64 sz] 3)) hb
  have b2 := blk_below (blk_alloc hI (.cells #[.int .i64 sz] 3)) hb
  have b3 := blk_below (blk_new w2 (.cells #[.int .i64 sz] 3)) hb
  refine ⟨⟨Nat.le_refl _, by omega, by omega, by omega, by omega, by omega⟩, below_set hBw (Nat.le_refl _), blk_far b2 (by simp) _, blk_far b3 (by simp; omega) _, blk_put b1 0 _ rfl, Kd.R_set (Kd.R_lower hr (by simp; omega)) b1 (by decide) 0 _, Marks.nil _ _⟩
/-- bits.Put on the bits so far. -/
theorem sect_Put.put {n size : Int} {ys : List Int} (h : PutS w0 B I Z cs sz W xs A c ds) (hs0 : 0 ≤ size) (hs1 : size ≤ 31) (hn0 : 0 ≤ n) (hn1 : n < 2 ^ size.toNat) (hl : xs.length ≤ 100000000) (hy : ys = xs ++ HA.bitsOf n size.toNat) :
    Calls Try.prog 19 #[.slice A xs.length c, .int .i64 n, .int .i64 size] W fun e w1 => ∃ A1 c1, e = .returned (.tuple #[.slice A1 ys.length c1, .int .i64 0]) ∧ Below W.heap.size W w1 ∧ PutS w0 B I Z cs sz w1 xs A c ds ∧ PutS w0 B I Z cs sz (w1.setCell ⟨B, 0, none⟩ (.slice A1 ys.length c1)) ys A1 c1 ds := by
  subst hy
  obtain ⟨_, hlc, hC⟩ := Kd.R_reads' h.2.2.2.2.2.1
  refine (bits_Put.calls A c xs n size _ 0 W hC hlc (SP.put_ok xs n size hs0 hs1 hn0 hn1 hl)).mono ?_
  rintro e w1 ⟨v1, rfl, ho, hb⟩
  obtain ⟨A1, c1, rfl⟩ := Kd.R_slice ho
  exact ⟨A1, c1, rfl, hb, h.below hb, h.put1 hb ho⟩
/-- What a range over a length's fields keeps. -/
def RngI (w0 : World) (B I Z : Nat) (cs : Array Value) (sz : Int) (size hs Pn Pm : Nat) (x0 fs : List Int) (ds : List Nat) (k : Nat) (W : World) : Prop :=
  (∃ A c, PutS w0 B I Z cs sz W (x0 ++ (fs.take k).flatMap (fun x => HA.bitsOf x size)) A c ds) ∧ (∃ v, Boxed W Pn 3 v) ∧ (∃ v, Boxed W Pm 3 v) ∧ w0.heap.size ≤ hs ∧ (B ≠ Pn ∧ I ≠ Pn ∧ Z ≠ Pn ∧ B ≠ Pm ∧ Pm ≠ Pn ∧ w0.heap.size ≤ Pn) ∧ ∀ D ∈ ds, D < hs
section
variable {w0 : World} {B I Z : Nat} {cs : Array Value} {sz : Int} {size hs Pn Pm : Nat} {x0 fs : List Int} {ds : List Nat}
theorem cells_ne {W : World} {k r : Nat} {t : TypeId} {cells : Array Value} {o : Obj} (hk : W.heap[k]? = some (.cells cells t (0, 0))) (hr : W.heap[r]? = some o) (ho : o.isCells = false) : k ≠ r := by
  rintro rfl
  rw [hk] at hr
  cases hr
  cases ho
theorem rng_own : OwnFrom hs (RngI w0 B I Z cs sz size hs Pn Pm x0 fs ds) := by
  rintro k W W' row ⟨⟨A, c, hP⟩, ⟨vn, hn⟩, ⟨vm, hm⟩, hw, hd, hds⟩ hg hr
  have keep : ∀ (g : Nat) (t : TypeId) (cells : Array Value), W.heap[g]? = some (.cells cells t (0, 0)) → W'.heap[g]? = some (.cells cells t (0, 0)) := fun g t cells h =>
    (hg.block g (blk_lt h) (fun e => by obtain ⟨_, o, ho, hc⟩ := hr g e.symm; exact cells_ne h ho hc rfl)).trans h
  obtain ⟨hdd, h1, h2, h3, h4, h5, h6⟩ := hP
  refine ⟨⟨A, c, hdd, h1.grown hg h1.size (fun g e => by have := (hr g e).1; omega), keep _ _ _ h2, keep _ _ _ h3, keep _ _ _ h4, ?_, h6.1, fun D hD => ⟨(h6.2 D hD).1, ?_⟩⟩, ⟨vn, keep _ _ _ hn⟩, ⟨vm, keep _ _ _ hm⟩, hw, hd, hds⟩
  · refine Kd.R_mono (Kd.R_move (Kd.R_bound h5) (fun g hg2 => ?_)) (fun _ hk => hk.1)
    obtain ⟨_, _, hlt, _, _, cells, hc⟩ := hg2
    exact hg.block g hlt (fun e => by obtain ⟨_, o, ho, hc2⟩ := hr g e.symm; exact cells_ne hc ho hc2 rfl)
  · have hlt := hds D hD
    exact (hg.block D (blk_lt (h6.2 D hD).2) (fun e => by have := (hr D e.symm).1; omega)).trans (h6.2 D hD).2
theorem PutS.far {W : World} {xs : List Int} {A : Option Addr} {c : Nat} {g j : Nat} {t : TypeId} {u : Value} {cells : Array Value} (h : PutS w0 B I Z cs sz W xs A c ds) (hg : W.heap[g]? = some (.cells cells t (0, 0))) (ht : 5 ≠ t) (h0 : w0.heap.size ≤ g) (n1 : B ≠ g) (n2 : I ≠ g) (n3 : Z ≠ g) : PutS w0 B I Z cs sz (W.setCell ⟨g, j, none⟩ u) xs A c ds := by
  obtain ⟨hd, h1, h2, h3, h4, h5, h6⟩ := h
  exact ⟨hd, below_set h1 h0, blk_far h2 n2 _, blk_far h3 n3 _, blk_far h4 n1 _, Kd.R_set h5 hg (fun q hq => by
    rcases List.mem_cons.1 hq with rfl | hq
    · exact ht
    · cases hq) j _, marks_set h6⟩
theorem rng_set (k : Nat) (W : World) (v : Value) (h : RngI w0 B I Z cs sz size hs Pn Pm x0 fs ds k W) : RngI w0 B I Z cs sz size hs Pn Pm x0 fs ds k (W.setCell ⟨Pn, 0, none⟩ v) := by
  obtain ⟨⟨A, c, hP⟩, ⟨vn, hn⟩, ⟨vm, hm⟩, hw, hd, hds⟩ := h
  exact ⟨⟨A, c, hP.far hn (by decide) hd.2.2.2.2.2 hd.1 hd.2.1 hd.2.2.1⟩, ⟨v, hn.set v⟩, ⟨vm, hm.other hd.2.2.2.2.1 v⟩, hw, hd, hds⟩
theorem flat_len (size : Nat) (l : List Int) : (l.flatMap (fun x => HA.bitsOf x size)).length = size * l.length := by
  induction l with
  | nil => rfl
  | cons x l ih => rw [List.flatMap_cons, List.length_append, ih, HA.bitsOf_length, List.length_cons, Nat.mul_succ]; omega
theorem SS_take (g : List SS.Sec) (j : Nat) (h : j < g.length) : g.take (j + 1) = g.take j ++ [rd_T49 g (j : Int)] := by
  unfold rd_T49
  rw [Int.toNat_natCast, List.getD_eq_getElem?_getD, List.getElem?_eq_getElem h, Option.getD_some]
  exact List.take_succ_eq_append_getElem h
theorem SL_take (l : List (List SS.Sec)) (i : Nat) (h : i < l.length) : l.take (i + 1) = l.take i ++ [rd_L4 l (i : Int)] := by
  unfold rd_L4
  rw [Int.toNat_natCast, List.getD_eq_getElem?_getD, List.getElem?_eq_getElem h, Option.getD_some]
  exact List.take_succ_eq_append_getElem h
theorem take_one {fs : List Int} {k : Nat} {x : Int} (h : fs[k]? = some x) : fs.take (k + 1) = fs.take k ++ [x] := by
  rw [List.take_add_one, h]
  rfl
end
end
def IO (w : World) (B I Z : Nat) (cs : Array Value) (most size s : Int) (A2 : Option Addr) (c2 : Nat) (l2 : List (List SS.Sec)) (l0 : List Int) (a : Act) (W : World) : Prop := ∃ (i : Nat) (xs : List Int) (A : Option Addr) (c : Nat) (ds : List Nat) (u : Nat → Value), a = { tmps := List.toArray (u 0 :: u 1 :: u 2 :: .pointer (some ⟨B, 0, none⟩) :: u 4 :: u 5 :: u 6 :: u 7 :: u 8 :: .pointer (some ⟨Z, 0, none⟩) :: .int .i64 most :: u 11 :: u 12 :: u 13 :: u 14 :: u 15 :: u 16 :: u 17 :: u 18 :: u 19 :: u 20 :: u 21 :: u 22 :: u 23 :: u 24 :: u 25 :: u 26 :: u 27 :: u 28 :: u 29 :: u 30 :: u 31 :: .slice A2 l2.length c2 :: .int .i64 (l2.length : Int) :: .int .i64 (i : Int) :: u 35 :: u 36 :: u 37 :: u 38 :: u 39 :: u 40 :: u 41 :: u 42 :: u 43 :: u 44 :: u 45 :: u 46 :: u 47 :: u 48 :: u 49 :: u 50 :: u 51 :: u 52 :: u 53 :: u 54 :: u 55 :: u 56 :: u 57 :: u 58 :: u 59 :: u 60 :: u 61 :: u 62 :: u 63 :: u 64 :: u 65 :: []), defers := ds.map HG.mark } ∧ i ≤ l2.length ∧ Aside0 (xs = l0 ++ SS.secsBits s (l2.take i)) ∧ Aside0 (xs.length ≤ 1000000 + 30000 * i) ∧ Aside0 (PutS w B I Z cs size W xs A c ds)
theorem IO.mk (w : World) (B I Z : Nat) (cs : Array Value) (most size s : Int) (A2 : Option Addr) (c2 : Nat) (l2 : List (List SS.Sec)) (l0 : List Int) {a : Act} {W : World} (i : Nat) {xs : List Int} {A : Option Addr} {c : Nat} {ds : List Nat} (ha : a = { tmps := List.toArray ((fun k => a.tmps.getD k undef) 0 :: (fun k => a.tmps.getD k undef) 1 :: (fun k => a.tmps.getD k undef) 2 :: .pointer (some ⟨B, 0, none⟩) :: (fun k => a.tmps.getD k undef) 4 :: (fun k => a.tmps.getD k undef) 5 :: (fun k => a.tmps.getD k undef) 6 :: (fun k => a.tmps.getD k undef) 7 :: (fun k => a.tmps.getD k undef) 8 :: .pointer (some ⟨Z, 0, none⟩) :: .int .i64 most :: (fun k => a.tmps.getD k undef) 11 :: (fun k => a.tmps.getD k undef) 12 :: (fun k => a.tmps.getD k undef) 13 :: (fun k => a.tmps.getD k undef) 14 :: (fun k => a.tmps.getD k undef) 15 :: (fun k => a.tmps.getD k undef) 16 :: (fun k => a.tmps.getD k undef) 17 :: (fun k => a.tmps.getD k undef) 18 :: (fun k => a.tmps.getD k undef) 19 :: (fun k => a.tmps.getD k undef) 20 :: (fun k => a.tmps.getD k undef) 21 :: (fun k => a.tmps.getD k undef) 22 :: (fun k => a.tmps.getD k undef) 23 :: (fun k => a.tmps.getD k undef) 24 :: (fun k => a.tmps.getD k undef) 25 :: (fun k => a.tmps.getD k undef) 26 :: (fun k => a.tmps.getD k undef) 27 :: (fun k => a.tmps.getD k undef) 28 :: (fun k => a.tmps.getD k undef) 29 :: (fun k => a.tmps.getD k undef) 30 :: (fun k => a.tmps.getD k undef) 31 :: .slice A2 l2.length c2 :: .int .i64 (l2.length : Int) :: .int .i64 (i : Int) :: (fun k => a.tmps.getD k undef) 35 :: (fun k => a.tmps.getD k undef) 36 :: (fun k => a.tmps.getD k undef) 37 :: (fun k => a.tmps.getD k undef) 38 :: (fun k => a.tmps.getD k undef) 39 :: (fun k => a.tmps.getD k undef) 40 :: (fun k => a.tmps.getD k undef) 41 :: (fun k => a.tmps.getD k undef) 42 :: (fun k => a.tmps.getD k undef) 43 :: (fun k => a.tmps.getD k undef) 44 :: (fun k => a.tmps.getD k undef) 45 :: (fun k => a.tmps.getD k undef) 46 :: (fun k => a.tmps.getD k undef) 47 :: (fun k => a.tmps.getD k undef) 48 :: (fun k => a.tmps.getD k undef) 49 :: (fun k => a.tmps.getD k undef) 50 :: (fun k => a.tmps.getD k undef) 51 :: (fun k => a.tmps.getD k undef) 52 :: (fun k => a.tmps.getD k undef) 53 :: (fun k => a.tmps.getD k undef) 54 :: (fun k => a.tmps.getD k undef) 55 :: (fun k => a.tmps.getD k undef) 56 :: (fun k => a.tmps.getD k undef) 57 :: (fun k => a.tmps.getD k undef) 58 :: (fun k => a.tmps.getD k undef) 59 :: (fun k => a.tmps.getD k undef) 60 :: (fun k => a.tmps.getD k undef) 61 :: (fun k => a.tmps.getD k undef) 62 :: (fun k => a.tmps.getD k undef) 63 :: (fun k => a.tmps.getD k undef) 64 :: (fun k => a.tmps.getD k undef) 65 :: []), defers := ds.map HG.mark }) (h1 : i ≤ l2.length) (h2 : xs = l0 ++ SS.secsBits s (l2.take i)) (h3 : xs.length ≤ 1000000 + 30000 * i) (h4 : PutS w B I Z cs size W xs A c ds) : IO w B I Z cs most size s A2 c2 l2 l0 a W := ⟨i, xs, A, c, ds, fun k => a.tmps.getD k undef, ha, h1, ⟨h2⟩, ⟨h3⟩, ⟨h4⟩⟩
def II (w : World) (B I Z : Nat) (cs : Array Value) (most size s : Int) (A2 : Option Addr) (c2 : Nat) (l2 : List (List SS.Sec)) (l0 : List Int) (i : Nat) (Ag : Option Addr) (cg : Nat) (g : List SS.Sec) (xs : List Int) (a : Act) (W : World) : Prop := ∃ (j : Nat) (ys : List Int) (A : Option Addr) (c : Nat) (ds : List Nat) (u : Nat → Value), a = { tmps := List.toArray (u 0 :: u 1 :: u 2 :: .pointer (some ⟨B, 0, none⟩) :: u 4 :: u 5 :: u 6 :: u 7 :: u 8 :: .pointer (some ⟨Z, 0, none⟩) :: .int .i64 most :: u 11 :: u 12 :: u 13 :: u 14 :: u 15 :: u 16 :: u 17 :: u 18 :: u 19 :: u 20 :: u 21 :: u 22 :: u 23 :: u 24 :: u 25 :: u 26 :: u 27 :: u 28 :: u 29 :: u 30 :: u 31 :: .slice A2 l2.length c2 :: .int .i64 (l2.length : Int) :: .int .i64 (i : Int) :: u 35 :: u 36 :: u 37 :: .slice Ag g.length cg :: .int .i64 (g.length : Int) :: .int .i64 (j : Int) :: u 41 :: u 42 :: u 43 :: u 44 :: u 45 :: u 46 :: u 47 :: u 48 :: u 49 :: u 50 :: u 51 :: u 52 :: u 53 :: u 54 :: u 55 :: u 56 :: u 57 :: u 58 :: u 59 :: u 60 :: u 61 :: u 62 :: u 63 :: u 64 :: u 65 :: []), defers := ds.map HG.mark } ∧ j ≤ g.length ∧ Aside0 (ys = xs ++ SS.grpBits s (g.take j)) ∧ Aside0 (ys.length ≤ xs.length + 600 * j) ∧ Aside0 (PutS w B I Z cs size W ys A c ds)
theorem II.mk (w : World) (B I Z : Nat) (cs : Array Value) (most size s : Int) (A2 : Option Addr) (c2 : Nat) (l2 : List (List SS.Sec)) (l0 : List Int) (i : Nat) (Ag : Option Addr) (cg : Nat) (g : List SS.Sec) (xs : List Int) {a : Act} {W : World} (j : Nat) {ys : List Int} {A : Option Addr} {c : Nat} {ds : List Nat} (ha : a = { tmps := List.toArray ((fun k => a.tmps.getD k undef) 0 :: (fun k => a.tmps.getD k undef) 1 :: (fun k => a.tmps.getD k undef) 2 :: .pointer (some ⟨B, 0, none⟩) :: (fun k => a.tmps.getD k undef) 4 :: (fun k => a.tmps.getD k undef) 5 :: (fun k => a.tmps.getD k undef) 6 :: (fun k => a.tmps.getD k undef) 7 :: (fun k => a.tmps.getD k undef) 8 :: .pointer (some ⟨Z, 0, none⟩) :: .int .i64 most :: (fun k => a.tmps.getD k undef) 11 :: (fun k => a.tmps.getD k undef) 12 :: (fun k => a.tmps.getD k undef) 13 :: (fun k => a.tmps.getD k undef) 14 :: (fun k => a.tmps.getD k undef) 15 :: (fun k => a.tmps.getD k undef) 16 :: (fun k => a.tmps.getD k undef) 17 :: (fun k => a.tmps.getD k undef) 18 :: (fun k => a.tmps.getD k undef) 19 :: (fun k => a.tmps.getD k undef) 20 :: (fun k => a.tmps.getD k undef) 21 :: (fun k => a.tmps.getD k undef) 22 :: (fun k => a.tmps.getD k undef) 23 :: (fun k => a.tmps.getD k undef) 24 :: (fun k => a.tmps.getD k undef) 25 :: (fun k => a.tmps.getD k undef) 26 :: (fun k => a.tmps.getD k undef) 27 :: (fun k => a.tmps.getD k undef) 28 :: (fun k => a.tmps.getD k undef) 29 :: (fun k => a.tmps.getD k undef) 30 :: (fun k => a.tmps.getD k undef) 31 :: .slice A2 l2.length c2 :: .int .i64 (l2.length : Int) :: .int .i64 (i : Int) :: (fun k => a.tmps.getD k undef) 35 :: (fun k => a.tmps.getD k undef) 36 :: (fun k => a.tmps.getD k undef) 37 :: .slice Ag g.length cg :: .int .i64 (g.length : Int) :: .int .i64 (j : Int) :: (fun k => a.tmps.getD k undef) 41 :: (fun k => a.tmps.getD k undef) 42 :: (fun k => a.tmps.getD k undef) 43 :: (fun k => a.tmps.getD k undef) 44 :: (fun k => a.tmps.getD k undef) 45 :: (fun k => a.tmps.getD k undef) 46 :: (fun k => a.tmps.getD k undef) 47 :: (fun k => a.tmps.getD k undef) 48 :: (fun k => a.tmps.getD k undef) 49 :: (fun k => a.tmps.getD k undef) 50 :: (fun k => a.tmps.getD k undef) 51 :: (fun k => a.tmps.getD k undef) 52 :: (fun k => a.tmps.getD k undef) 53 :: (fun k => a.tmps.getD k undef) 54 :: (fun k => a.tmps.getD k undef) 55 :: (fun k => a.tmps.getD k undef) 56 :: (fun k => a.tmps.getD k undef) 57 :: (fun k => a.tmps.getD k undef) 58 :: (fun k => a.tmps.getD k undef) 59 :: (fun k => a.tmps.getD k undef) 60 :: (fun k => a.tmps.getD k undef) 61 :: (fun k => a.tmps.getD k undef) 62 :: (fun k => a.tmps.getD k undef) 63 :: (fun k => a.tmps.getD k undef) 64 :: (fun k => a.tmps.getD k undef) 65 :: []), defers := ds.map HG.mark }) (h1 : j ≤ g.length) (h2 : ys = xs ++ SS.grpBits s (g.take j)) (h3 : ys.length ≤ xs.length + 600 * j) (h4 : PutS w B I Z cs size W ys A c ds) : II w B I Z cs most size s A2 c2 l2 l0 i Ag cg g xs a W := ⟨j, ys, A, c, ds, fun k => a.tmps.getD k undef, ha, h1, ⟨h2⟩, ⟨h3⟩, ⟨h4⟩⟩

def sect_Put.f (l0 : List Int) (a1_0 : Int) (a1_1 : Int) (a1_2 : Int) (l1_3 : List Int) (l2 : List (List (S49))) : Option (List Int × Int) := if 0 ≤ a1_0 ∧ 0 ≤ a1_1 ∧ l0.length ≤ 1000000 ∧ l1_3.length ≤ 1000 ∧ l2.length ≤ 1000 ∧ (∀ g ∈ l2, g.length ≤ 1000) then some (if SS.secsOk a1_0 a1_1 a1_2 l1_3 l2 = true then (l0 ++ SS.secsBits a1_0 l2, 0) else ([], 8)) else none
set_option maxHeartbeats 8000000 in
set_option maxRecDepth 100000 in
theorem sect_Put.calls (A0 : Option Addr) (c0 : Nat) (l0 : List Int) (a1_0 : Int) (a1_1 : Int) (a1_2 : Int) (A1_3 : Option Addr) (c1_3 : Nat) (l1_3 : List Int) (A2 : Option Addr) (c2 : Nat) (l2 : List (List (S49))) (r1 : List Int) (r2 : Int) (w : World) (hr0 : Kd.C (Kd.int .u8) w A0 l0.length l0) (hc0 : l0.length ≤ c0) (hr1_3 : Kd.C (Kd.int .i64) w A1_3 l1_3.length l1_3) (hc1_3 : l1_3.length ≤ c1_3) (hr2 : Kd.C (Kd.slice 49 k49) w A2 l2.length l2) (hc2 : l2.length ≤ c2) (h : sect_Put.f l0 a1_0 a1_1 a1_2 l1_3 l2 = some (r1, r2)) :
    Calls Try.prog 9 #[.slice A0 l0.length c0, .agg #[.int .u8 a1_0, .int .u8 a1_1, .int .i64 a1_2, .slice A1_3 l1_3.length c1_3], .slice A2 l2.length c2] w fun e w' => ∃ v0_ : Value, e = .returned (.tuple #[v0_, .int .i64 r2]) ∧ Kd.R (Kd.int .u8) 5 w' w.heap.size (fun _ => True) v0_ r1 ∧ Below w.heap.size w w' := by
  unfold sect_Put.f at h
  by_cases hcond : 0 ≤ a1_0 ∧ 0 ≤ a1_1 ∧ l0.length ≤ 1000000 ∧ l1_3.length ≤ 1000 ∧ l2.length ≤ 1000 ∧ ∀ g ∈ l2, g.length ≤ 1000
  case neg => rw [if_neg hcond] at h; cases h
  rw [if_pos hcond] at h
  obtain ⟨hu0, hu1, hlx, hlg, hll, hlm⟩ := hcond
  have HR0 := Aside0.mk hr0
  have HC0 := Aside0.mk hc0
  have HR1 := Aside0.mk hr1_3
  have HC1 := Aside0.mk hc1_3
  have HR2 := Aside0.mk hr2
  have HC2 := Aside0.mk hc2
  have HLX := Aside0.mk hlx
  have HLL := Aside0.mk hll
  clear hr0 hc0 hr1_3 hc1_3 hr2 hc2
  have HK : Aside0 (sect_Check.f 1100000 a1_0 a1_1 a1_2 l1_3 l2 = some (if SS.secsOk a1_0 a1_1 a1_2 l1_3 l2 = true then 0 else 8)) := ⟨SS.check_f a1_0 a1_1 a1_2 l1_3 l2 (by omega) (by omega) 1000 hlm (by omega) 1100000 (by
    have : (1000 + 3) * l2.length ≤ 1003 * 1000 := Nat.mul_le_mul_left 1003 hll
    omega)⟩
  clear hlx hlg hll hlm
  by_cases hk : SS.secsOk a1_0 a1_1 a1_2 l1_3 l2 = true
  case neg =>
    rw [if_neg hk] at h HK
    obtain ⟨rfl, rfl⟩ : [] = r1 ∧ 8 = r2 := by simpa using h
    clear hk h
    go_enter Try.func9, Try.ntmps9
    go_wp2_with (first | (go_at_call 15; refine (sect_Check.calls 1100000 a1_0 a1_1 a1_2 A1_3 c1_3 l1_3 A2 c2 l2 8 _ (by (with_reducible repeat (first | apply Kd.C_alloc | apply Kd.C_drewN | apply Kd.C_drew)); exact HR1.out) HC1.out (by (with_reducible repeat (first | apply Kd.C_alloc | apply Kd.C_drewN | apply Kd.C_drew)); exact HR2.out) HC2.out HK.out).mono ?_; rintro e w1 ⟨rfl, hb⟩; have HB1 := Aside0.mk (below_step (below_alloc (below_alloc (Below.refl _ _) _) _) hb); clear hb))
    go_ret2
    exact ⟨_, rfl, Kd.R_nil _ _ _ _ _, HB1.out⟩
  rw [if_pos hk] at h HK
  obtain ⟨rfl, rfl⟩ : l0 ++ SS.secsBits a1_0 l2 = r1 ∧ 0 = r2 := by simpa using h
  have HOK := Aside0.mk (SS.secsOk_ok hk)
  clear hk h
  refine (callsIn_wide (n := 4)).1 ?_
  have hro : Fence.wide.round = none := rfl
  have h1 : 1 ≤ 4 := by omega
  refine callsIn_of_wp_marks Try.func9 rfl trivial ?_ hro
  simp only [Try.ntmps9, List.size_toArray, List.length_cons, List.length_nil, Nat.reduceAdd, Nat.reduceSub, Array.replicate_succ, Array.replicate_zero, List.push_toArray, List.append_toArray, List.nil_append, List.cons_append]
  have HP0 : Aside0 (bits_Put.f l0 0 0 = some (l0, 0)) := ⟨by
    have := SP.put_ok l0 0 0 (by omega) (by omega) (by omega) (by decide) (by have := HLX.out; omega)
    rw [this, show HA.bitsOf 0 (0 : Int).toNat = [] from rfl, List.append_nil]⟩
  have HFD := Aside0.mk (SS.field_f a1_0 a1_1 a1_2 l1_3)
  obtain ⟨most, hmost⟩ : ∃ x, x = SS.mostS a1_0 := ⟨_, rfl⟩
  obtain ⟨size, hsize⟩ : ∃ x, x = SS.sizeS a1_0 := ⟨_, rfl⟩
  rw [← hmost, ← hsize] at HFD
  have HMO := Aside0.mk hmost
  have HSI := Aside0.mk hsize
  clear hmost hsize
  gi_wp2_with (first | (refine ⟨trivial, ?_⟩; gi_at_call 15; refine (callsIn_wide.2 (sect_Check.calls 1100000 a1_0 a1_1 a1_2 A1_3 c1_3 l1_3 A2 c2 l2 0 _ (by (with_reducible repeat (first | apply Kd.C_alloc | apply Kd.C_drewN | apply Kd.C_drew)); exact HR1.out) HC1.out (by (with_reducible repeat (first | apply Kd.C_alloc | apply Kd.C_drewN | apply Kd.C_drew)); exact HR2.out) HC2.out HK.out)).mono ?_; rintro e w1 ⟨rfl, hb⟩; have HB1 := Aside0.mk (below_step (below_alloc (below_alloc (Below.refl _ _) _) _) hb); have BB1 : Aside0 (w1.heap[w.heap.size]? = some (.cells #[.slice A0 l0.length c0] 28 (0, 0))) := ⟨blk_below (blk_alloc (blk_new w _) _) hb⟩; have BI1 : Aside0 (w1.heap[w.heap.size + 1]? = some (.cells #[.int .u8 a1_0, .int .u8 a1_1, .int .i64 a1_2, .slice A1_3 l1_3.length c1_3] 24 (0, 0))) := ⟨blk_below (by have := blk_new (w.alloc (.cells #[.slice A0 l0.length c0] 28)) (.cells #[.int .u8 a1_0, .int .u8 a1_1, .int .i64 a1_2, .slice A1_3 l1_3.length c1_3] 24); rwa [World.size_alloc] at this) hb⟩; clear hb; have hi0 : w1.cell? ⟨w.heap.size + 1, 0, none⟩ = some (.int .u8 a1_0) := (blk_cell BI1.out 0).trans rfl; have hi1 : w1.cell? ⟨w.heap.size + 1, 1, none⟩ = some (.int .u8 a1_1) := (blk_cell BI1.out 1).trans rfl; have hi2 : w1.cell? ⟨w.heap.size + 1, 2, none⟩ = some (.int .i64 a1_2) := (blk_cell BI1.out 2).trans rfl; have hi3 : w1.cell? ⟨w.heap.size + 1, 3, none⟩ = some (.slice A1_3 l1_3.length c1_3) := (blk_cell BI1.out 3).trans rfl) | (refine ⟨trivial, ?_⟩; gi_at_call 18; refine (callsIn_wide.2 (sect_field.calls a1_0 a1_1 a1_2 A1_3 c1_3 l1_3 (size : Int) most _ (Kd.C_below HR1.out HB1.out) HC1.out HFD.out)).mono ?_; rintro e w2 ⟨rfl, hb⟩; have HB2 := Aside0.mk (below_step HB1.out hb); have BB2 := Aside0.mk (blk_below BB1.out hb); have BI2 := Aside0.mk (blk_below BI1.out hb); clear hb hi0 hi1 hi2 hi3 BB1 BI1 HB1; have hqB : w2.cell? ⟨w.heap.size, 0, none⟩ = some (.slice A0 l0.length c0) := (blk_cell BB2.out 0).trans rfl; have HLT := Aside0.mk (blk_lt BB2.out); have hlt2 := HLT.out) | (refine ⟨trivial, ?_⟩; gi_at_call 19; refine (callsIn_wide.2 (bits_Put.calls A0 c0 l0 0 0 l0 0 _ (Kd.C_alloc (Kd.C_below HR0.out HB2.out) _) HC0.out HP0.out)).mono ?_; rintro e w3 ⟨v3, rfl, ho, hb⟩; obtain ⟨A3, c3, rfl⟩ := Kd.R_slice ho; have HS : Aside0 (PutS w w.heap.size (w.heap.size + 1) w2.heap.size #[.int .u8 a1_0, .int .u8 a1_1, .int .i64 a1_2, .slice A1_3 l1_3.length c1_3] (size : Int) (w3.setCell ⟨w.heap.size, 0, none⟩ (.slice A3 l0.length c3)) l0 A3 c3 []) := ⟨sect_Put.start HLT.out HB2.out BB2.out BI2.out hb ho⟩; have hqB3 : w3.cell? ⟨w.heap.size, 0, none⟩ = some (.slice A0 l0.length c0) := (blk_cell (blk_below (blk_alloc BB2.out _) hb) 0).trans rfl; have hfB3 : w3.frozen? ⟨w.heap.size, 0, none⟩ = false := blk_frozen (blk_below (blk_alloc BB2.out _) hb) 0; clear hb ho hqB))
  generalize w3.setCell ⟨w.heap.size, 0, none⟩ (.slice A3 l0.length c3) = W at HS ⊢
  generalize w2.heap.size = Z at HS ⊢
  generalize hI : w.heap.size + 1 = I at HS ⊢
  generalize hB : w.heap.size = B at HS ⊢
  clear hqB3 hfB3 hlt2 hI hB
  refine wpIn_loop (IO w B I Z #[.int .u8 a1_0, .int .u8 a1_1, .int .i64 a1_2, .slice A1_3 l1_3.length c1_3] most (size : Int) a1_0 A2 c2 l2 l0) (fun a _ => l2.length - (intOf (a.tmps.getD 34 undef)).toNat) (IO.mk w B I Z #[.int .u8 a1_0, .int .u8 a1_1, .int .i64 a1_2, .slice A1_3 l1_3.length c1_3] most (size : Int) a1_0 A2 c2 l2 l0 0 rfl (Nat.zero_le _) (by simp [SS.secsBits]) (by have := HLX.out; omega) HS.out) ?_
  rintro a W ⟨i, xs, A, c, ds, u, rfl, hi, HXS, HXL, HS⟩
  by_cases hlt : i < l2.length
  · have hltz : (i : Int) < (l2.length : Int) := by omega
    obtain ⟨ad, Ag, cg, rfl, hcell0, hlcg, hCg⟩ := at_L4 HR2.out (i : Int) (by omega) hltz
    rw [Int.toNat_natCast] at hcell0
    have hcell := pw_cell_below HS.out.2.1 hcell0
    clear hcell0
    obtain ⟨g, hg⟩ : ∃ g, g = rd_L4 l2 (i : Int) := ⟨_, rfl⟩
    rw [← hg] at hcell hlcg hCg
    have HGE := Aside0.mk hg
    have HGC := Aside0.mk hCg
    have HLCG := Aside0.mk hlcg
    have HGM : Aside0 (g ∈ l2) := ⟨by
      rw [hg]
      unfold rd_L4
      rw [Int.toNat_natCast, List.getD_eq_getElem?_getD, List.getElem?_eq_getElem hlt, Option.getD_some]
      exact List.getElem_mem _⟩
    have HGO := Aside0.mk (HOK.out.2.2.2 g HGM.out)
    have HI8 : Aside0 (i ≤ 8) := ⟨by have := HOK.out.2.2.1; omega⟩
    have HM40 := Aside0.mk (SS.someS_max HOK.out.1)
    have HGL : Aside0 (g.length ≤ 40) := ⟨by have := SS.grpOk_len g _ HGO.out; have := HM40.out; omega⟩
    have hg40 := HGL.out
    clear hg hlcg hCg
    gi_wp2
    clear hcell
    refine wpIn_loop (II w B I Z #[.int .u8 a1_0, .int .u8 a1_1, .int .i64 a1_2, .slice A1_3 l1_3.length c1_3] most (size : Int) a1_0 (some ad) c2 l2 l0 i Ag cg g xs) (fun a _ => g.length - (intOf (a.tmps.getD 40 undef)).toNat) (II.mk w B I Z #[.int .u8 a1_0, .int .u8 a1_1, .int .i64 a1_2, .slice A1_3 l1_3.length c1_3] most (size : Int) a1_0 (some ad) c2 l2 l0 i Ag cg g xs 0 rfl (Nat.zero_le _) (by simp [SS.grpBits]) (by omega) HS.out) ?_
    rintro a2 W2 ⟨j, ys, A', c', es, t, rfl, hj, HYS, HYL, HS2⟩
    by_cases hlt2 : j < g.length
    · have hltz2 : (j : Int) < (g.length : Int) := by omega
      have HYM : Aside0 (ys.length ≤ 2000000) := ⟨by have := HYL.out; have := HXL.out; have := HI8.out; omega⟩
      obtain ⟨ad2, rfl, hs0, hs1⟩ := at_T49 HGC.out (j : Int) (by omega) hltz2
      rw [Int.toNat_natCast] at hs0 hs1
      replace hs0 := pw_cell_below HS2.out.2.1 hs0
      replace hs1 := pw_cell_below HS2.out.2.1 hs1
      obtain ⟨x, hx⟩ : ∃ x, x = rd_T49 g (j : Int) := ⟨_, rfl⟩
      rw [← hx] at hs0 hs1
      have HX := Aside0.mk hx
      have hxm : x ∈ g := by
        rw [hx]
        unfold rd_T49
        rw [Int.toNat_natCast, List.getD_eq_getElem?_getD, List.getElem?_eq_getElem hlt2, Option.getD_some]
        exact List.getElem_mem _
      obtain ⟨hxl0, hxl1, hxb0, hxb1⟩ := SS.grpOk_mem g _ HGO.out x hxm
      clear hx hxm
      obtain ⟨bk, hbk⟩ : ∃ b, b = x.f0 := ⟨_, rfl⟩
      obtain ⟨ln, hln⟩ : ∃ b, b = x.f1 := ⟨_, rfl⟩
      rw [← hbk] at hs0 hxb0 hxb1
      rw [← hln] at hs1 hxl0 hxl1
      have hln40 : ln ≤ 40 := by have := HM40.out; omega
      have HBK := Aside0.mk hbk
      have HLN := Aside0.mk hln
      obtain ⟨y1, hy1⟩ : ∃ y, y = ys ++ HA.bitsOf bk (4 : Int).toNat := ⟨_, rfl⟩
      have HY1 := Aside0.mk hy1
      have hqB := HS2.out.qB
      have hqB2 := (HS2.out.alloc (.cells #[.int .i64 bk, .int .i64 ln] 49)).qB
      have hltB : B < W2.heap.size := blk_lt HS2.out.2.2.2.2.1
      have hneB : ¬ B = W2.heap.size := by omega
      have hneB2 : ¬ W2.heap.size = B := by omega
      clear hbk hln hy1 hxl1
      gi_wp2_with (first | (refine ⟨trivial, ?_⟩; gi_at_call 19; refine (callsIn_wide.2 (sect_Put.put (HS2.out.alloc _) (by decide) (by decide) hxb0 (by show bk < 16; omega) (by have := HYM.out; omega) HY1.out)).mono ?_; rintro e w4 ⟨A4, c4, rfl, hb, hs, hs'⟩; have HB4 := Aside0.mk hb; have HS4 := Aside0.mk hs'; have hqB4 := hs.qB; have hfB4 := hs.fB; have hq1 : w4.cell? ⟨W2.heap.size, 1, none⟩ = some (.int .i64 ln) := (blk_cell (blk_below (blk_new W2 (.cells #[.int .i64 bk, .int .i64 ln] 49)) hb) 1).trans rfl; clear hb hs hs' hqB hqB2))
      generalize w4.setCell ⟨B, 0, none⟩ (.slice A4 y1.length c4) = X at HS4 ⊢
      clear hs0 hs1 hqB4 hfB4 hq1 hneB hneB2 hltB HB4
      refine ⟨trivial, (callsIn_wide.2 (HG.fields_calls ln most X)).mono ?_⟩
      rintro e w5 ⟨rfl, rfl⟩
      have hmost : most = if a1_0 = 2 then 7 else 31 := HMO.out
      have hsize : size = if a1_0 = 2 then 3 else 5 := HSI.out
      have hp0 : 1 ≤ most ∧ most ≤ 31 ∧ size ≤ 5 ∧ (most < 2 ^ size) := by rw [hmost, hsize]; split <;> decide
      obtain ⟨hp1, hp2, hp3, hp4⟩ := hp0
      have HP4 := Aside0.mk hp4
      obtain ⟨fs, hfs⟩ : ∃ fs, fs = HG.fieldsOf ln most := ⟨_, rfl⟩
      have hfl : fs.length ≤ 41 := by
        have := SS.fieldsOf_len ln most (by omega) (by omega)
        rw [hfs]
        omega
      have HFS := Aside0.mk hfs
      have HFM : Aside0 (∀ v ∈ fs, 0 ≤ v ∧ v ≤ most) := ⟨by rw [hfs]; exact SS.fieldsOf_mem ln most (by omega) (by omega)⟩
      have hY1 : y1.length = ys.length + 4 := by rw [HY1.out, List.length_append, HA.bitsOf_length]; rfl
      have hseq := HG.fields1_in Fence.wide (4 - 1) trivial hro (by omega) (X.heap.size + 1) X.heap.size ln most (by omega) (by omega) (by omega) (by omega) (by omega)
      rw [← hfs] at hseq
      have bX := blk_new X (.cells #[.int .i64 ln] 3)
      have bX2 := blk_new (X.alloc (.cells #[.int .i64 ln] 3)) (.cells #[.int .i64 most] 3)
      rw [World.size_alloc] at bX2
      have hV0 : RngI w B I Z #[.int .u8 a1_0, .int .u8 a1_1, .int .i64 a1_2, .slice A1_3 l1_3.length c1_3] (size : Int) size (X.heap.size + 2) X.heap.size (X.heap.size + 1) y1 fs es 0 ((X.alloc (.cells #[.int .i64 ln] 3)).alloc (.cells #[.int .i64 most] 3)) := by
        have hx := HS4.out
        refine ⟨⟨A4, c4, by simpa using (hx.alloc _).alloc _⟩, ⟨_, blk_alloc bX _⟩, ⟨_, bX2⟩, by have := hx.2.1.size; omega, ⟨?_, ?_, ?_, ?_, by omega, hx.2.1.size⟩, fun D hD => by have := hx.2.2.2.2.2.2.lt hD; omega⟩
        · have := blk_lt hx.2.2.2.2.1; omega
        · have := blk_lt hx.2.2.1; omega
        · have := blk_lt hx.2.2.2.1; omega
        · have := blk_lt hx.2.2.2.2.1; omega
      clear hfs hmost hsize
      gi_wp2
      apply HG.range_own hro h1 (gf := 32) (lb := #[.pointer (some ⟨X.heap.size, 0, none⟩), .pointer (some ⟨X.heap.size + 1, 0, none⟩)]) rfl trivial (enters_of Try.func32 (by kernel_rfl) rfl) hseq (I := RngI w B I Z #[.int .u8 a1_0, .int .u8 a1_1, .int .i64 a1_2, .slice A1_3 l1_3.length c1_3] (size : Int) size (X.heap.size + 2) X.heap.size (X.heap.size + 1) y1 fs es)
      case hP => simp; omega
      case hKt => exact fun h k => HB.kq_trans h k
      case hKb => exact fun W l o hl => ⟨World.putObj_heap_other (by simp at hl; omega), World.putObj_heap_other (by simp at hl; omega)⟩
      case hIni => exact fun o1 o2 => ⟨blk_alloc (blk_alloc bX2 _) _, blk_alloc (blk_alloc (blk_alloc bX _) _) _⟩
      case hI => simp only [World.size_alloc]; exact rng_own
      case hIp => exact rng_set
      case h0 => exact hV0
      case hassign =>
        intro l v Wb K hK
        gi_wp2
        exact hK
      case hbody =>
        rintro l k v Wb hI hv
        obtain ⟨⟨Ab, cb, hP⟩, ⟨vn, hn⟩, ⟨vm, hm⟩, hw, hd, hds⟩ := hI
        obtain ⟨hv0, hv1⟩ := HFM.out v (List.mem_of_getElem? hv)
        have HV := Aside0.mk hv
        have hk := (List.getElem?_eq_some_iff.1 hv).1
        obtain ⟨z, hz⟩ : ∃ z, z = y1 ++ (fs.take k).flatMap (fun x => HA.bitsOf x size) := ⟨_, rfl⟩
        have hzl : z.length ≤ 3000000 := by
          have h2 := flat_len size (fs.take k)
          have h3 : (fs.take k).length ≤ 41 := by rw [List.length_take]; omega
          have h4 : size * (fs.take k).length ≤ 5 * 41 := Nat.mul_le_mul hp3 h3
          rw [hz, List.length_append, h2]
          have := HYM.out
          omega
        rw [← hz] at hP
        have HZ := Aside0.mk hz
        have HPP := Aside0.mk hP
        have HN := Aside0.mk hn
        have HMM := Aside0.mk hm
        have hqB := hP.qB
        have hqZ := hP.qZ
        obtain ⟨z1, hz1⟩ : ∃ y, y = z ++ HA.bitsOf v (size : Int).toNat := ⟨_, rfl⟩
        have HZ1 := Aside0.mk hz1
        clear hv hz hP hn hm hz1 hV0 bX bX2
        gi_wp2_with (first | (refine ⟨trivial, ?_⟩; gi_at_call 19; refine (CallsIn.inRound l (callsIn_wide.2 (sect_Put.put HPP.out (by omega) (by omega) hv0 (by have := HP4.out; rw [Int.toNat_natCast]; omega) (by omega) HZ1.out))).mono ?_; rintro e w6 ⟨A6, c6, rfl, hb, hs, hs'⟩; have HB6 := Aside0.mk hb; have HS6 := Aside0.mk hs'; have hqB6 := hs.qB; have hfB6 := hs.fB; clear hb hs hs' hqB hqZ))
        obtain ⟨d1, d2, d3, d4, d5, d6⟩ := hd
        refine ⟨(keeps_below HB6.out).trans ((KeepsOthers.setCell _ _ _).from _), ⟨?_, ?_⟩, ⟨A6, c6, ?_⟩, ⟨vn, ?_⟩, ⟨vm, ?_⟩, hw, ⟨d1, d2, d3, d4, d5, d6⟩, hds⟩
        · exact (Below.heap_setCell _ _ _ _ (Ne.symm d4)).trans (HB6.out.block _ (blk_lt HMM.out))
        · exact (Below.heap_setCell _ _ _ _ (Ne.symm d1)).trans (HB6.out.block _ (blk_lt HN.out))
        · have e : y1 ++ (fs.take (k + 1)).flatMap (fun x => HA.bitsOf x size) = z1 := by
            rw [HZ1.out, HZ.out, take_one HV.out, List.flatMap_append, List.append_assoc]
            simp
          rw [e]
          exact HS6.out
        · exact (Below.heap_setCell _ _ _ _ (Ne.symm d1)).trans (blk_below HN.out HB6.out)
        · exact (Below.heap_setCell _ _ _ _ (Ne.symm d4)).trans (blk_below HMM.out HB6.out)
      case hdone =>
        rintro D Wd hD ⟨⟨Ad, cd, hP⟩, _, _, hw, hd, hds⟩ hK
        have HPD := Aside0.mk hP
        have HKD := Aside0.mk hK
        have hD2 : X.heap.size + 2 ≤ D := by simpa using hD
        have HDS := Aside0.mk hds
        clear hP hK hV0 bX bX2 hD hds
        gi_wp2
        refine ⟨II.mk w B I Z #[.int .u8 a1_0, .int .u8 a1_1, .int .i64 a1_2, .slice A1_3 l1_3.length c1_3] most (size : Int) a1_0 (some ad) c2 l2 l0 i (some ad2) cg g xs (j + 1) (ds := D :: es) rfl (by omega) ?_ ?_ ⟨HPD.out.1, HPD.out.2.1, HPD.out.2.2.1, HPD.out.2.2.2.1, HPD.out.2.2.2.2.1, HPD.out.2.2.2.2.2.1, HPD.out.2.2.2.2.2.2.cons (by omega) HKD.out (fun hm => by have := HDS.out D hm; omega)⟩, ?_⟩
        · rw [List.take_of_length_le (Nat.le_refl _), HY1.out, HYS.out, SS_take g j hlt2, ← HX.out]
          unfold SS.grpBits
          rw [List.flatMap_append]
          simp only [List.flatMap_cons, List.flatMap_nil, List.append_nil, SS.secBits, SS.lenBits]
          rw [← HBK.out, ← HLN.out, ← HMO.out, ← HSI.out, ← HFS.out]
          simp only [List.append_assoc]
          rfl
        · rw [List.length_append, List.take_of_length_le (Nat.le_refl _), flat_len, hY1]
          have h4 : size * fs.length ≤ 5 * 41 := Nat.mul_le_mul hp3 hfl
          have := HYL.out
          omega
        · simp [intOf]
          omega
    · obtain rfl : j = g.length := by omega
      have hi8 := HI8.out
      gi_wp2
      refine ⟨IO.mk w B I Z #[.int .u8 a1_0, .int .u8 a1_1, .int .i64 a1_2, .slice A1_3 l1_3.length c1_3] most (size : Int) a1_0 (some ad) c2 l2 l0 (i + 1) (ds := es) rfl (by omega) ?_ ?_ HS2.out, ?_⟩
      · rw [HYS.out, HXS.out, List.take_of_length_le (Nat.le_refl _), SL_take l2 i hlt, ← HGE.out]
        unfold SS.secsBits
        rw [List.flatMap_append]
        simp only [List.flatMap_cons, List.flatMap_nil, List.append_nil, List.append_assoc]
      · have := HYL.out
        have := HXL.out
        omega
      · simp [intOf]
        omega
  · obtain rfl : i = l2.length := by omega
    have hqB := HS.out.qB
    gi_wp2
    refine HG.leaves_marks ds _ HS.out.2.2.2.2.2.2 (fun W' hs => ?_)
    have e : l0 ++ SS.secsBits a1_0 l2 = xs := by rw [HXS.out, List.take_of_length_le (Nat.le_refl _)]
    rw [e]
    exact ⟨_, results_tmp2 rfl _ _ _, _, rfl, hs.R HS.out.2.2.2.2.2.2 HS.out.2.2.2.2.2.1, HS.out.2.1.trans hs.below⟩

end Go.Proofs.Ytjdlochffpikbaa.K
end
section
-- Written for this claim by this session's own wip/hook.py (it runs the kit's print and takes some functions' contracts as given texts of this session's).
namespace Go.Proofs.Ytjdlochffpikbaa.K
open Go.RowKit Go.Proofs.YtjdlochffpikbaaW.PrintWords Go.Proofs.YtjdlochffpikbaaW.PrintLast Go.Proofs.YtjdlochffpikbaaW.PrintMore
attribute [local go_sem] max2_int min2_int max_two min_two max_three min_three max_four min_four   -- for this text's walks alone
set_option linter.unusedVariables false
set_option linter.unusedSimpArgs false

/-! ### reedpipelaw19_long: function 12 -/
def reedpipelaw19_long.f  : Option (Int × Int × Int × List Int) := some (0, 0, 3, (([1] : List Int)))
set_option maxHeartbeats 8000000 in
set_option maxRecDepth 100000 in
theorem reedpipelaw19_long.calls  (r1 : Int) (r2 : Int) (r3 : Int) (r4 : List Int) (w : World) (h : reedpipelaw19_long.f  = some (r1, r2, r3, r4)) :
    Calls Try.prog 12 #[] w fun e w' => ∃ v3_ : Value, e = .returned (.agg #[.int .u8 r1, .int .u8 r2, .int .i64 r3, v3_]) ∧ Kd.R (Kd.int .i64) 3 w' w.heap.size (fun _ => True) v3_ r4 ∧ Below w.heap.size w w' := by
  have hu24 := Try.underlying24
  have HB := Aside0.mk (Below.refl w.heap.size w)
  have H : (some (0, 0, 3, (([1] : List Int)))) = some (r1, r2, r3, r4) := h
  clear h
  obtain ⟨y131, hy131⟩ : ∃ y_ : List Int, y_ = (([1] : List Int)) := ⟨_, rfl⟩
  replace H : (some (0, 0, 3, y131)) = some (r1, r2, r3, r4) := by first | (rw [hy131]; with_reducible exact H) | (have H2_ := (Option.bind_some _ _).symm.trans H; rw [hy131]; with_reducible exact H2_) | (have H2_ := (Option.bind_some _ _).symm.trans H; with_reducible exact H2_) | with_reducible exact H | (rw [hy131]; exact H) | exact H
  have Ny131 := Aside0.mk hy131
  clear hy131
  simp only [Option.some.injEq, Prod.mk.injEq] at H
  obtain ⟨rfl, rfl, rfl, rfl⟩ := H
  go_enter Try.func12, Try.ntmps12
  go_wp2_with (first | ((with_reducible refine gate_dst (N := 0) rfl ?_); refine box_event ?hg (N := 0) ?hd (cs := #[.int .u8 0, .int .u8 0, .int .i64 0, .slice none 0 0]) (t := 24) ?hr ?_; (case hd => rfl); (case hg => rfl); (case hr => first | (go_simp; done) | (go_simp; rfl)); intro gb130 hg w1 hbox hb; have n0_ := Aside0.mk (below_step (by repeat (first | (with_reducible first | exact HB.out | apply below_alloc | apply pw_below_drewN | apply below_drew1) | exact HB.out)) hb); have n1_ := Aside0.mk (hbox); have n2_ := Aside0.mk ((by rw [hg]; exact (below_size (by repeat (first | (with_reducible first | exact HB.out | apply below_alloc | apply pw_below_drewN | apply below_drew1) | exact HB.out))) : w.heap.size ≤ gb130)); have n3_ := Aside0.mk ((by rw [hg]; exact (below_size (by repeat (first | (with_reducible first | exact HB.out | apply below_alloc | apply pw_below_drewN | apply below_drew1) | exact HB.out))) : w.heap.size ≤ gb130)); clear HB; have HB := n0_; have BK130 := n1_; have GW130 := n2_; have GE130 := n3_; clear n0_ n1_ n2_ n3_; clear hb hbox hg) | ((with_reducible refine gate_dst (N := 1) rfl ?_); refine Kd.R_lit (Kd.int .i64) _ 3 ?hg (N := 1) ?hd (xs := ([1] : List Int)) (inner := [.int .i64 1]) (ok := fun _ => True) (okp := fun _ => True) ?hr ?hp (fun _ hk => hk) trivial (Below.refl _ _) (Nat.le_refl _) (by simp) ?_; (case hd => rfl); (case hg => rfl); (case hr => first | (go_simp; done) | (go_simp; rfl)); (case hp => exact (Reps.one (show Kd.M (Kd.int .i64) _ _ _ 1 [.int .i64 1] from rfl) (Reps.none _ _))); intro v132 w2 ho3 hb hg_ hnew_; clear hg_ hnew_; (first | rw [← Ny131.out] at ho3 | (simp only [Int.reduceToNat] at ho3; rw [← Ny131.out] at ho3)); have n0_ := Aside0.mk (Kd.R_lower ho3 (below_size (by repeat (first | (with_reducible first | exact HB.out | apply below_alloc | apply pw_below_drewN | apply below_drew1 | refine below_set ?_ GE130.out) | exact HB.out)))); have n1_ := Aside0.mk (blk_below (g := gb130) (o := .cells #[.int .u8 0, .int .u8 0, .int .i64 0, .slice none 0 0] 24 (0, 0)) (by (with_reducible repeat (first | refine blk_drewN ?_ _ | refine blk_drew ?_ | refine blk_alloc ?_ _)); exact BK130.out) hb); have n2_ := Aside0.mk (below_step (by repeat (first | (with_reducible first | exact HB.out | apply below_alloc | apply pw_below_drewN | apply below_drew1 | refine below_set ?_ GE130.out) | exact HB.out)) hb); clear BK130; clear HB; have HO133 := n0_; have BK130 := n1_; have HB := n2_; clear n0_ n1_ n2_; clear hb ho3; obtain ⟨Ao4, co4, eo4⟩ := Kd.R_slice HO133.out; subst eo4; have hcz5_0 : w2.cell? ⟨gb130, 0, none⟩ = some (.int .u8 0) := (blk_cell BK130.out 0).trans rfl; have hcz5_1 : w2.cell? ⟨gb130, 1, none⟩ = some (.int .u8 0) := (blk_cell BK130.out 1).trans rfl; have hcz5_2 : w2.cell? ⟨gb130, 2, none⟩ = some (.int .i64 0) := (blk_cell BK130.out 2).trans rfl; have hcz5_3 : w2.cell? ⟨gb130, 3, none⟩ = some (.slice none 0 0) := (blk_cell BK130.out 3).trans rfl; have hfz5_0 := blk_frozen BK130.out 0; have hfz5_1 := blk_frozen BK130.out 1; have hfz5_2 := blk_frozen BK130.out 2; have hfz5_3 := blk_frozen BK130.out 3))
  refine bodyPost_ret (results_cell_row rfl _ _ gb130 24 #[.int .u8 0, .int .u8 0, .int .i64 3, .slice Ao4 y131.length co4] (0, 0) _ rfl (by (with_reducible repeat (first | refine blk_drewN ?_ _ | refine blk_drew ?_ | refine blk_alloc ?_ _)); refine blk_put (cs := #[.int .u8 0, .int .u8 0, .int .i64 3, .slice none 0 0]) ?_ 3 _ rfl; (with_reducible repeat (first | refine blk_drewN ?_ _ | refine blk_drew ?_ | refine blk_alloc ?_ _)); refine blk_put (cs := #[.int .u8 0, .int .u8 0, .int .i64 0, .slice none 0 0]) ?_ 2 _ rfl; (with_reducible repeat (first | refine blk_drewN ?_ _ | refine blk_drew ?_ | refine blk_alloc ?_ _)); refine blk_put (cs := #[.int .u8 0, .int .u8 0, .int .i64 0, .slice none 0 0]) ?_ 1 _ rfl; (with_reducible repeat (first | refine blk_drewN ?_ _ | refine blk_drew ?_ | refine blk_alloc ?_ _)); refine blk_put (cs := #[.int .u8 0, .int .u8 0, .int .i64 0, .slice none 0 0]) ?_ 0 _ rfl; (with_reducible repeat (first | refine blk_drewN ?_ _ | refine blk_drew ?_ | refine blk_alloc ?_ _)); exact BK130.out) Try.underlying24 rfl (by kernel_rfl)) rfl ?_
  exact ⟨_, by first | rfl | (simp [errW_none, errW_some] <;> rfl) | (simp [*, errW_none, errW_some] <;> rfl), by (with_reducible repeat (first | apply Kd.R_alloc | apply Kd.R_drewN | apply Kd.R_drew)); exact Kd.R_mono (Kd.R_far (p := ⟨gb130, 3, none⟩) (Kd.R_far (p := ⟨gb130, 2, none⟩) (Kd.R_far (p := ⟨gb130, 1, none⟩) (Kd.R_far (p := ⟨gb130, 0, none⟩) (Kd.R_types HO133.out BK130.out (by decide)) (fun _ hk => hk.2) (.int .u8 0)) (fun _ hk => hk.2) (.int .u8 0)) (fun _ hk => hk.2) (.int .i64 3)) (fun _ hk => hk.2) (.slice Ao4 y131.length co4)) (fun _ hk => trivial), by repeat (first | (with_reducible first | exact HB.out | apply below_alloc | apply pw_below_drewN | apply below_drew1 | refine below_set ?_ GE130.out) | exact HB.out)⟩

end Go.Proofs.Ytjdlochffpikbaa.K
end
section
-- Written for this claim by this session's own wip/hook.py (it runs the kit's print and takes some functions' contracts as given texts of this session's).
namespace Go.Proofs.Ytjdlochffpikbaa.K
open Go.RowKit Go.Proofs.YtjdlochffpikbaaW.PrintWords Go.Proofs.YtjdlochffpikbaaW.PrintLast Go.Proofs.YtjdlochffpikbaaW.PrintMore
attribute [local go_sem] max2_int min2_int max_two min_two max_three min_three max_four min_four   -- for this text's walks alone
set_option linter.unusedVariables false
set_option linter.unusedSimpArgs false

/-! ### reedpipelaw19_alive: function 7 -/
def reedpipelaw19_alive.f  : Option (Bool) := (reedpipelaw19_long.f).bind fun bt134 => ((sect_Put.f ([] : List Int) bt134.1 bt134.2.1 bt134.2.2.1 bt134.2.2.2 (([(([(⟨2, 3⟩ : S49)] : List (S49)))] : List (List (S49))))).bind fun bt146 => ((sect_Put.f ([] : List Int) 2 0 7 (([8] : List Int)) (([(([(⟨11, 7⟩ : S49)] : List (S49)))] : List (List (S49))))).bind fun bt159 => (if bt146.2 = 0 then (if (strOfNums bt146.1).toList = ([0, 0, 1, 0, 0, 0, 0, 1, 1] : List UInt8) then (if bt159.2 = 0 then (some ((strOfNums bt159.1).toList == ([1, 0, 1, 1, 1, 1, 1, 0, 0, 0] : List UInt8))) else (some false)) else (some false)) else (some false))))
set_option maxHeartbeats 8000000 in
set_option maxRecDepth 100000 in
theorem reedpipelaw19_alive.calls  (r : Bool) (w : World) (h : reedpipelaw19_alive.f  = some r) :
    Calls Try.prog 7 #[] w fun e w' => e = .returned (.bool r) ∧ Below w.heap.size w w' := by
  have hu49 := Try.underlying49
  have hu24 := Try.underlying24
  have HB := Aside0.mk (Below.refl w.heap.size w)
  have H : ((reedpipelaw19_long.f).bind fun bt134 => ((sect_Put.f ([] : List Int) bt134.1 bt134.2.1 bt134.2.2.1 bt134.2.2.2 (([(([(⟨2, 3⟩ : S49)] : List (S49)))] : List (List (S49))))).bind fun bt146 => ((sect_Put.f ([] : List Int) 2 0 7 (([8] : List Int)) (([(([(⟨11, 7⟩ : S49)] : List (S49)))] : List (List (S49))))).bind fun bt159 => (if bt146.2 = 0 then (if (strOfNums bt146.1).toList = ([0, 0, 1, 0, 0, 0, 0, 1, 1] : List UInt8) then (if bt159.2 = 0 then (some ((strOfNums bt159.1).toList == ([1, 0, 1, 1, 1, 1, 1, 0, 0, 0] : List UInt8))) else (some false)) else (some false)) else (some false))))) = some r := h
  clear h
  replace H := Option.bind_eq_some_iff.mp H
  obtain ⟨⟨t134, t135, t136, t137⟩, A10, H⟩ := H
  replace H : ((sect_Put.f ([] : List Int) t134 t135 t136 t137 (([(([(⟨2, 3⟩ : S49)] : List (S49)))] : List (List (S49))))).bind fun bt146 => ((sect_Put.f ([] : List Int) 2 0 7 (([8] : List Int)) (([(([(⟨11, 7⟩ : S49)] : List (S49)))] : List (List (S49))))).bind fun bt159 => (if bt146.2 = 0 then (if (strOfNums bt146.1).toList = ([0, 0, 1, 0, 0, 0, 0, 1, 1] : List UInt8) then (if bt159.2 = 0 then (some ((strOfNums bt159.1).toList == ([1, 0, 1, 1, 1, 1, 1, 0, 0, 0] : List UInt8))) else (some false)) else (some false)) else (some false)))) = some r := H
  have A1 := Aside0.mk A10
  clear A10
  obtain ⟨y140, hy140⟩ : ∃ y_ : List (S49), y_ = (([(⟨2, 3⟩ : S49)] : List (S49))) := ⟨_, rfl⟩
  replace H : ((sect_Put.f ([] : List Int) t134 t135 t136 t137 (([y140] : List (List (S49))))).bind fun bt146 => ((sect_Put.f ([] : List Int) 2 0 7 (([8] : List Int)) (([(([(⟨11, 7⟩ : S49)] : List (S49)))] : List (List (S49))))).bind fun bt159 => (if bt146.2 = 0 then (if (strOfNums bt146.1).toList = ([0, 0, 1, 0, 0, 0, 0, 1, 1] : List UInt8) then (if bt159.2 = 0 then (some ((strOfNums bt159.1).toList == ([1, 0, 1, 1, 1, 1, 1, 0, 0, 0] : List UInt8))) else (some false)) else (some false)) else (some false)))) = some r := by first | (rw [hy140]; with_reducible exact H) | (have H2_ := (Option.bind_some _ _).symm.trans H; rw [hy140]; with_reducible exact H2_) | (have H2_ := (Option.bind_some _ _).symm.trans H; with_reducible exact H2_) | with_reducible exact H | (rw [hy140]; exact H) | exact H
  have Ny140 := Aside0.mk hy140
  clear hy140
  obtain ⟨y143, hy143⟩ : ∃ y_ : List (List (S49)), y_ = (([y140] : List (List (S49)))) := ⟨_, rfl⟩
  replace H : ((sect_Put.f ([] : List Int) t134 t135 t136 t137 y143).bind fun bt146 => ((sect_Put.f ([] : List Int) 2 0 7 (([8] : List Int)) (([(([(⟨11, 7⟩ : S49)] : List (S49)))] : List (List (S49))))).bind fun bt159 => (if bt146.2 = 0 then (if (strOfNums bt146.1).toList = ([0, 0, 1, 0, 0, 0, 0, 1, 1] : List UInt8) then (if bt159.2 = 0 then (some ((strOfNums bt159.1).toList == ([1, 0, 1, 1, 1, 1, 1, 0, 0, 0] : List UInt8))) else (some false)) else (some false)) else (some false)))) = some r := by first | (rw [hy143]; with_reducible exact H) | (have H2_ := (Option.bind_some _ _).symm.trans H; rw [hy143]; with_reducible exact H2_) | (have H2_ := (Option.bind_some _ _).symm.trans H; with_reducible exact H2_) | with_reducible exact H | (rw [hy143]; exact H) | exact H
  have Ny143 := Aside0.mk hy143
  clear hy143
  replace H := Option.bind_eq_some_iff.mp H
  obtain ⟨⟨t146, t149⟩, A20, H⟩ := H
  replace H : ((sect_Put.f ([] : List Int) 2 0 7 (([8] : List Int)) (([(([(⟨11, 7⟩ : S49)] : List (S49)))] : List (List (S49))))).bind fun bt159 => (if t149 = 0 then (if (strOfNums t146).toList = ([0, 0, 1, 0, 0, 0, 0, 1, 1] : List UInt8) then (if bt159.2 = 0 then (some ((strOfNums bt159.1).toList == ([1, 0, 1, 1, 1, 1, 1, 0, 0, 0] : List UInt8))) else (some false)) else (some false)) else (some false))) = some r := H
  have A2 := Aside0.mk A20
  clear A20
  obtain ⟨y150, hy150⟩ : ∃ y_ : List Int, y_ = (([8] : List Int)) := ⟨_, rfl⟩
  replace H : ((sect_Put.f ([] : List Int) 2 0 7 y150 (([(([(⟨11, 7⟩ : S49)] : List (S49)))] : List (List (S49))))).bind fun bt159 => (if t149 = 0 then (if (strOfNums t146).toList = ([0, 0, 1, 0, 0, 0, 0, 1, 1] : List UInt8) then (if bt159.2 = 0 then (some ((strOfNums bt159.1).toList == ([1, 0, 1, 1, 1, 1, 1, 0, 0, 0] : List UInt8))) else (some false)) else (some false)) else (some false))) = some r := by first | (rw [hy150]; with_reducible exact H) | (have H2_ := (Option.bind_some _ _).symm.trans H; rw [hy150]; with_reducible exact H2_) | (have H2_ := (Option.bind_some _ _).symm.trans H; with_reducible exact H2_) | with_reducible exact H | (rw [hy150]; exact H) | exact H
  have Ny150 := Aside0.mk hy150
  clear hy150
  obtain ⟨y153, hy153⟩ : ∃ y_ : List (S49), y_ = (([(⟨11, 7⟩ : S49)] : List (S49))) := ⟨_, rfl⟩
  replace H : ((sect_Put.f ([] : List Int) 2 0 7 y150 (([y153] : List (List (S49))))).bind fun bt159 => (if t149 = 0 then (if (strOfNums t146).toList = ([0, 0, 1, 0, 0, 0, 0, 1, 1] : List UInt8) then (if bt159.2 = 0 then (some ((strOfNums bt159.1).toList == ([1, 0, 1, 1, 1, 1, 1, 0, 0, 0] : List UInt8))) else (some false)) else (some false)) else (some false))) = some r := by first | (rw [hy153]; with_reducible exact H) | (have H2_ := (Option.bind_some _ _).symm.trans H; rw [hy153]; with_reducible exact H2_) | (have H2_ := (Option.bind_some _ _).symm.trans H; with_reducible exact H2_) | with_reducible exact H | (rw [hy153]; exact H) | exact H
  have Ny153 := Aside0.mk hy153
  clear hy153
  obtain ⟨y156, hy156⟩ : ∃ y_ : List (List (S49)), y_ = (([y153] : List (List (S49)))) := ⟨_, rfl⟩
  replace H : ((sect_Put.f ([] : List Int) 2 0 7 y150 y156).bind fun bt159 => (if t149 = 0 then (if (strOfNums t146).toList = ([0, 0, 1, 0, 0, 0, 0, 1, 1] : List UInt8) then (if bt159.2 = 0 then (some ((strOfNums bt159.1).toList == ([1, 0, 1, 1, 1, 1, 1, 0, 0, 0] : List UInt8))) else (some false)) else (some false)) else (some false))) = some r := by first | (rw [hy156]; with_reducible exact H) | (have H2_ := (Option.bind_some _ _).symm.trans H; rw [hy156]; with_reducible exact H2_) | (have H2_ := (Option.bind_some _ _).symm.trans H; with_reducible exact H2_) | with_reducible exact H | (rw [hy156]; exact H) | exact H
  have Ny156 := Aside0.mk hy156
  clear hy156
  replace H := Option.bind_eq_some_iff.mp H
  obtain ⟨⟨t159, t162⟩, A30, H⟩ := H
  replace H : (if t149 = 0 then (if (strOfNums t146).toList = ([0, 0, 1, 0, 0, 0, 0, 1, 1] : List UInt8) then (if t162 = 0 then (some ((strOfNums t159).toList == ([1, 0, 1, 1, 1, 1, 1, 0, 0, 0] : List UInt8))) else (some false)) else (some false)) else (some false)) = some r := H
  have A3 := Aside0.mk A30
  clear A30
  by_cases c4 : t149 = 0
  · rw [if_pos c4] at H
    have c4b0 : (t149 == 0) = true := beq_iff_eq.mpr c4
    have c4b1 : (t149 != 0) = false := bne_eq_false_iff_eq.mpr c4
    clear c4
    by_cases c5 : (strOfNums t146).toList = ([0, 0, 1, 0, 0, 0, 0, 1, 1] : List UInt8)
    · rw [if_pos c5] at H
      have c5b0 : ((strOfNums t146).toList == ([0, 0, 1, 0, 0, 0, 0, 1, 1] : List UInt8)) = true := beq_iff_eq.mpr c5
      have c5b1 : ((strOfNums t146).toList != ([0, 0, 1, 0, 0, 0, 0, 1, 1] : List UInt8)) = false := bne_eq_false_iff_eq.mpr c5
      clear c5
      by_cases c6 : t162 = 0
      · rw [if_pos c6] at H
        have c6b0 : (t162 == 0) = true := beq_iff_eq.mpr c6
        have c6b1 : (t162 != 0) = false := bne_eq_false_iff_eq.mpr c6
        clear c6
        obtain rfl := Option.some.inj H
        go_enter Try.func7, Try.ntmps7
        go_wp2_with (first | ((with_reducible refine gate_callee (f := 12) rfl ?_); refine goesL_ (some 6) rfl rfl Try.func12 (by kernel_rfl) rfl #[] rfl (by (try simp only [List.map_toArray, List.map_cons, List.map_nil]); first | done | rfl | (simp only [List.length_drop, List.length_take]; rfl)) ?_; (with_reducible refine (reedpipelaw19_long.calls  t134 t135 t136 t137 _ A1.out).mono ?_); rintro e w7 ⟨v138, rfl, ho0, hb⟩; refine ⟨_, rfl, ?_⟩; have n0_ := Aside0.mk (Kd.R_lower ho0 (below_size (by repeat (first | (with_reducible first | exact HB.out | apply below_alloc | apply pw_below_drewN | apply below_drew1) | exact HB.out)))); have n1_ := Aside0.mk (below_step (by repeat (first | (with_reducible first | exact HB.out | apply below_alloc | apply pw_below_drewN | apply below_drew1) | exact HB.out)) hb); clear HB; have HO139 := n0_; have HB := n1_; clear n0_ n1_; (try clear hb); (try clear hb2); (try clear hk); (try clear hi); (try clear ho0)) | ((with_reducible refine gate_dst (N := 8) rfl ?_); refine Kd.R_lit k49 _ 49 ?hg (N := 8) ?hd (xs := ([(⟨2, 3⟩ : S49)] : List (S49))) (inner := [.int .i64 2, .int .i64 3]) (ok := fun _ => True) (okp := fun _ => True) ?hr ?hp (fun _ hk => hk) trivial (Below.refl _ _) (Nat.le_refl _) (by simp) ?_; (case hd => rfl); (case hg => rfl); (case hr => first | (go_simp; done) | (go_simp; rfl)); (case hp => exact (Reps.c2 (show Kd.M k49 _ _ _ (⟨2, 3⟩ : S49) [.int .i64 2, .int .i64 3] from (k49_mkM _ _ _ (⟨2, 3⟩ : S49) )) (Reps.none _ _))); intro v141 w8 ho9 hb hg_ hnew_; clear hg_ hnew_; (first | rw [← Ny140.out] at ho9 | (simp only [Int.reduceToNat] at ho9; rw [← Ny140.out] at ho9)); have n0_ := Aside0.mk (Kd.R_below (by (with_reducible repeat (first | apply Kd.R_alloc | apply Kd.R_drewN | apply Kd.R_drew)); exact HO139.out) hb); have n1_ := Aside0.mk (Kd.R_lower ho9 (below_size (by repeat (first | (with_reducible first | exact HB.out | apply below_alloc | apply pw_below_drewN | apply below_drew1) | exact HB.out)))); have n2_ := Aside0.mk (below_step (by repeat (first | (with_reducible first | exact HB.out | apply below_alloc | apply pw_below_drewN | apply below_drew1) | exact HB.out)) hb); clear HO139; clear HB; have HO139 := n0_; have HO142 := n1_; have HB := n2_; clear n0_ n1_ n2_; clear hb ho9; obtain ⟨Ao10, co10, eo10⟩ := Kd.R_slice HO142.out; subst eo10) | ((with_reducible refine gate_dst (N := 9) rfl ?_); refine Kd.N_lit (Kd.slice 49 k49) _ 32 ?hg (N' := 9) ?hd (xs := ([y140] : List (List (S49)))) (inner := [.slice Ao10 y140.length co10]) (ok := (fun k_ => some k_ ≠ (v138 : Value).ownBlock)) (okp := (fun k_ => some k_ ≠ (v138 : Value).ownBlock)) ?hr ?hp (fun _ hk => hk) ((show ∀ k_, w8.heap.size ≤ k_ → (fun k_ => some k_ ≠ (v138 : Value).ownBlock) k_ from fun k_ hk => Kd.fresh' (Kd.R_lt (by (with_reducible repeat (first | apply Kd.R_alloc | apply Kd.R_drewN | apply Kd.R_drew)); exact HO139.out)) k_ hk) _ (Nat.le_refl _)) (Below.refl _ _) (Nat.le_refl _) (by simp) ?_; (case hd => rfl); (case hg => rfl); (case hr => first | (go_simp; done) | (go_simp; rfl)); (case hp => exact (Reps.one (show Kd.FK (Kd.slice 49 k49) _ _ y140 [.slice Ao10 y140.length co10] from (Kd.FK_slice_mk (Kd.R_reads' (Kd.R_mono (ok' := (fun k_ => some k_ ≠ (v138 : Value).ownBlock)) (Kd.R_apart' (HO142.out) (Kd.R_typed HO139.out) (by decide)) (fun k_ hk => hk.2))).2.1 (Kd.R_F (Kd.R_mono (ok' := (fun k_ => some k_ ≠ (v138 : Value).ownBlock)) (Kd.R_apart' (HO142.out) (Kd.R_typed HO139.out) (by decide)) (fun k_ hk => hk.2))))) (Reps.none _ _))); intro v144 w11 ho12 hb hg_ hnew_; clear hg_ hnew_; (first | rw [← Ny143.out] at ho12 | (simp only [Int.reduceToNat] at ho12; rw [← Ny143.out] at ho12)); have n0_ := Aside0.mk (Kd.R_below (by (with_reducible repeat (first | apply Kd.R_alloc | apply Kd.R_drewN | apply Kd.R_drew)); exact HO139.out) hb); have n1_ := Aside0.mk (Kd.N_lower ho12 (below_size (by repeat (first | (with_reducible first | exact HB.out | apply below_alloc | apply pw_below_drewN | apply below_drew1) | exact HB.out)))); have n2_ := Aside0.mk (below_step (by repeat (first | (with_reducible first | exact HB.out | apply below_alloc | apply pw_below_drewN | apply below_drew1) | exact HB.out)) hb); clear HO139; clear HB; clear HO142; have HO139 := n0_; have HO145 := n1_; have HB := n2_; clear n0_ n1_ n2_; clear hb ho12; obtain ⟨Ao13, co13, eo13⟩ := Kd.R_slice HO139.out; subst eo13; obtain ⟨Ao14, co14, eo14⟩ := Kd.N_slice HO145.out; subst eo14) | ((with_reducible refine gate_callee (f := 9) rfl ?_); refine goesL_ (some 10) rfl rfl Try.func9 (by kernel_rfl) rfl #[.slice none 0 0, .agg #[.int .u8 t134, .int .u8 t135, .int .i64 t136, .slice Ao13 t137.length co13], .slice Ao14 y143.length co14] rfl (by (try simp only [List.map_toArray, List.map_cons, List.map_nil]); first | done | rfl | (simp only [List.length_drop, List.length_take]; rfl)) ?_; (refine (sect_Put.calls _ _ ([] : List Int) t134 t135 t136 _ _ t137 _ _ y143 t146 t149 _ ?side1 ?side2 ?side3 ?side4 ?side5 ?side6 A2.out).mono ?_); (case side1 => exact Kd.C_nil _ _); (case side2 => exact Nat.le_refl _); (case side3 => repeat (first | exact (Kd.R_reads' HO139.out).2.2 | (with_reducible refine Kd.C_alloc ?_ _) | (with_reducible refine Kd.C_drewN ?_ _) | (with_reducible refine Kd.C_drew ?_))); (case side4 => exact (Kd.R_reads' HO139.out).2.1); (case side5 => repeat (first | exact (Kd.N_reads' HO145.out).2.2 | (with_reducible refine Kd.C_alloc ?_ _) | (with_reducible refine Kd.C_drewN ?_ _) | (with_reducible refine Kd.C_drew ?_))); (case side6 => exact (Kd.N_reads' HO145.out).2.1); rintro e w15 ⟨v147, rfl, ho0, hb⟩; refine ⟨_, rfl, ?_⟩; have n0_ := Aside0.mk (Kd.R_below (by (with_reducible repeat (first | apply Kd.R_alloc | apply Kd.R_drewN | apply Kd.R_drew)); exact HO139.out) hb); have n1_ := Aside0.mk (Kd.N_elder' (by (with_reducible repeat (first | apply Kd.N_alloc | apply Kd.N_drewN | apply Kd.N_drew)); exact HO145.out) (Kd.R_base ho0) hb); have n2_ := Aside0.mk (Kd.R_lower ho0 (below_size (by repeat (first | (with_reducible first | exact HB.out | apply below_alloc | apply pw_below_drewN | apply below_drew1) | exact HB.out)))); have n3_ := Aside0.mk (below_step (by repeat (first | (with_reducible first | exact HB.out | apply below_alloc | apply pw_below_drewN | apply below_drew1) | exact HB.out)) hb); clear HO139; clear HO145; clear HB; have HO139 := n0_; have HO145 := n1_; have HO148 := n2_; have HB := n3_; clear n0_ n1_ n2_ n3_; (try clear hb); (try clear hb2); (try clear hk); (try clear hi); (try clear ho0)) | ((with_reducible refine gate_dst (N := 14) rfl ?_); refine Kd.R_lit (Kd.int .i64) _ 3 ?hg (N := 14) ?hd (xs := ([8] : List Int)) (inner := [.int .i64 8]) (ok := fun _ => True) (okp := fun _ => True) ?hr ?hp (fun _ hk => hk) trivial (Below.refl _ _) (Nat.le_refl _) (by simp) ?_; (case hd => rfl); (case hg => rfl); (case hr => first | (go_simp; done) | (go_simp; rfl)); (case hp => exact (Reps.one (show Kd.M (Kd.int .i64) _ _ _ 8 [.int .i64 8] from rfl) (Reps.none _ _))); intro v151 w16 ho17 hb hg_ hnew_; clear hg_ hnew_; (first | rw [← Ny150.out] at ho17 | (simp only [Int.reduceToNat] at ho17; rw [← Ny150.out] at ho17)); have n0_ := Aside0.mk (Kd.R_elder' (by (with_reducible repeat (first | apply Kd.R_alloc | apply Kd.R_drewN | apply Kd.R_drew)); exact HO139.out) (Kd.R_base ho17) hb); have n1_ := Aside0.mk (Kd.N_elder' (by (with_reducible repeat (first | apply Kd.N_alloc | apply Kd.N_drewN | apply Kd.N_drew)); exact HO145.out) (Kd.R_base ho17) hb); have n2_ := Aside0.mk (Kd.R_below (by (with_reducible repeat (first | apply Kd.R_alloc | apply Kd.R_drewN | apply Kd.R_drew)); exact HO148.out) hb); have n3_ := Aside0.mk (Kd.R_lower (Kd.R_new' ho17 (Kd.R_lt (by (with_reducible repeat (first | apply Kd.R_alloc | apply Kd.R_drewN | apply Kd.R_drew)); exact HO139.out))) (below_size (by repeat (first | (with_reducible first | exact HB.out | apply below_alloc | apply pw_below_drewN | apply below_drew1) | exact HB.out)))); have n4_ := Aside0.mk (below_step (by repeat (first | (with_reducible first | exact HB.out | apply below_alloc | apply pw_below_drewN | apply below_drew1) | exact HB.out)) hb); clear HO139; clear HO145; clear HO148; clear HB; have HO139 := n0_; have HO145 := n1_; have HO148 := n2_; have HO152 := n3_; have HB := n4_; clear n0_ n1_ n2_ n3_ n4_; clear hb ho17; obtain ⟨Ao18, co18, eo18⟩ := Kd.R_slice HO152.out; subst eo18) | ((with_reducible refine gate_dst (N := 17) rfl ?_); refine Kd.R_lit k49 _ 49 ?hg (N := 17) ?hd (xs := ([(⟨11, 7⟩ : S49)] : List (S49))) (inner := [.int .i64 11, .int .i64 7]) (ok := fun _ => True) (okp := fun _ => True) ?hr ?hp (fun _ hk => hk) trivial (Below.refl _ _) (Nat.le_refl _) (by simp) ?_; (case hd => rfl); (case hg => rfl); (case hr => first | (go_simp; done) | (go_simp; rfl)); (case hp => exact (Reps.c2 (show Kd.M k49 _ _ _ (⟨11, 7⟩ : S49) [.int .i64 11, .int .i64 7] from (k49_mkM _ _ _ (⟨11, 7⟩ : S49) )) (Reps.none _ _))); intro v154 w19 ho20 hb hg_ hnew_; clear hg_ hnew_; (first | rw [← Ny153.out] at ho20 | (simp only [Int.reduceToNat] at ho20; rw [← Ny153.out] at ho20)); have n0_ := Aside0.mk (Kd.R_below (by (with_reducible repeat (first | apply Kd.R_alloc | apply Kd.R_drewN | apply Kd.R_drew)); exact HO139.out) hb); have n1_ := Aside0.mk (Kd.N_elder' (by (with_reducible repeat (first | apply Kd.N_alloc | apply Kd.N_drewN | apply Kd.N_drew)); exact HO145.out) (Kd.R_base ho20) hb); have n2_ := Aside0.mk (Kd.R_below (by (with_reducible repeat (first | apply Kd.R_alloc | apply Kd.R_drewN | apply Kd.R_drew)); exact HO148.out) hb); have n3_ := Aside0.mk (Kd.R_below (by (with_reducible repeat (first | apply Kd.R_alloc | apply Kd.R_drewN | apply Kd.R_drew)); exact HO152.out) hb); have n4_ := Aside0.mk (Kd.R_lower ho20 (below_size (by repeat (first | (with_reducible first | exact HB.out | apply below_alloc | apply pw_below_drewN | apply below_drew1) | exact HB.out)))); have n5_ := Aside0.mk (below_step (by repeat (first | (with_reducible first | exact HB.out | apply below_alloc | apply pw_below_drewN | apply below_drew1) | exact HB.out)) hb); clear HO139; clear HO145; clear HO148; clear HO152; clear HB; have HO139 := n0_; have HO145 := n1_; have HO148 := n2_; have HO152 := n3_; have HO155 := n4_; have HB := n5_; clear n0_ n1_ n2_ n3_ n4_ n5_; clear hb ho20; obtain ⟨Ao21, co21, eo21⟩ := Kd.R_slice HO155.out; subst eo21) | ((with_reducible refine gate_dst (N := 18) rfl ?_); refine Kd.N_lit (Kd.slice 49 k49) _ 32 ?hg (N' := 18) ?hd (xs := ([y153] : List (List (S49)))) (inner := [.slice Ao21 y153.length co21]) (ok := (fun k_ => some k_ ≠ (.slice Ao13 t137.length co13 : Value).ownBlock ∧ some k_ ≠ (.slice Ao14 y143.length co14 : Value).ownBlock ∧ some k_ ≠ (v147 : Value).ownBlock ∧ some k_ ≠ (.slice Ao18 y150.length co18 : Value).ownBlock)) (okp := (fun k_ => some k_ ≠ (.slice Ao13 t137.length co13 : Value).ownBlock ∧ some k_ ≠ (.slice Ao14 y143.length co14 : Value).ownBlock ∧ some k_ ≠ (v147 : Value).ownBlock ∧ some k_ ≠ (.slice Ao18 y150.length co18 : Value).ownBlock)) ?hr ?hp (fun _ hk => hk) ((show ∀ k_, w19.heap.size ≤ k_ → (fun k_ => some k_ ≠ (.slice Ao13 t137.length co13 : Value).ownBlock ∧ some k_ ≠ (.slice Ao14 y143.length co14 : Value).ownBlock ∧ some k_ ≠ (v147 : Value).ownBlock ∧ some k_ ≠ (.slice Ao18 y150.length co18 : Value).ownBlock) k_ from fun k_ hk => ⟨Kd.fresh' (Kd.R_lt (by (with_reducible repeat (first | apply Kd.R_alloc | apply Kd.R_drewN | apply Kd.R_drew)); exact HO139.out)) k_ hk, Kd.fresh' (Kd.N_lt (by (with_reducible repeat (first | apply Kd.N_alloc | apply Kd.N_drewN | apply Kd.N_drew)); exact HO145.out)) k_ hk, Kd.fresh' (Kd.R_lt (by (with_reducible repeat (first | apply Kd.R_alloc | apply Kd.R_drewN | apply Kd.R_drew)); exact HO148.out)) k_ hk, Kd.fresh' (Kd.R_lt (by (with_reducible repeat (first | apply Kd.R_alloc | apply Kd.R_drewN | apply Kd.R_drew)); exact HO152.out)) k_ hk⟩) _ (Nat.le_refl _)) (Below.refl _ _) (Nat.le_refl _) (by simp) ?_; (case hd => rfl); (case hg => rfl); (case hr => first | (go_simp; done) | (go_simp; rfl)); (case hp => exact (Reps.one (show Kd.FK (Kd.slice 49 k49) _ _ y153 [.slice Ao21 y153.length co21] from (Kd.FK_slice_mk (Kd.R_reads' (Kd.R_mono (ok' := (fun k_ => some k_ ≠ (.slice Ao13 t137.length co13 : Value).ownBlock ∧ some k_ ≠ (.slice Ao14 y143.length co14 : Value).ownBlock ∧ some k_ ≠ (v147 : Value).ownBlock ∧ some k_ ≠ (.slice Ao18 y150.length co18 : Value).ownBlock)) (Kd.R_apart' (Kd.R_apart' (Kd.R_apart' (Kd.R_apart' (HO155.out) (Kd.R_typed HO139.out) (by decide)) (Kd.N_typed HO145.out) (by decide)) (Kd.R_typed HO148.out) (by decide)) (Kd.R_typed HO152.out) (by decide)) (fun k_ hk => ⟨hk.1.1.1.2, ⟨hk.1.1.2, ⟨hk.1.2, hk.2⟩⟩⟩))).2.1 (Kd.R_F (Kd.R_mono (ok' := (fun k_ => some k_ ≠ (.slice Ao13 t137.length co13 : Value).ownBlock ∧ some k_ ≠ (.slice Ao14 y143.length co14 : Value).ownBlock ∧ some k_ ≠ (v147 : Value).ownBlock ∧ some k_ ≠ (.slice Ao18 y150.length co18 : Value).ownBlock)) (Kd.R_apart' (Kd.R_apart' (Kd.R_apart' (Kd.R_apart' (HO155.out) (Kd.R_typed HO139.out) (by decide)) (Kd.N_typed HO145.out) (by decide)) (Kd.R_typed HO148.out) (by decide)) (Kd.R_typed HO152.out) (by decide)) (fun k_ hk => ⟨hk.1.1.1.2, ⟨hk.1.1.2, ⟨hk.1.2, hk.2⟩⟩⟩))))) (Reps.none _ _))); intro v157 w22 ho23 hb hg_ hnew_; clear hg_ hnew_; (first | rw [← Ny156.out] at ho23 | (simp only [Int.reduceToNat] at ho23; rw [← Ny156.out] at ho23)); have n0_ := Aside0.mk (Kd.R_below (by (with_reducible repeat (first | apply Kd.R_alloc | apply Kd.R_drewN | apply Kd.R_drew)); exact HO139.out) hb); have n1_ := Aside0.mk (Kd.N_elder' (by (with_reducible repeat (first | apply Kd.N_alloc | apply Kd.N_drewN | apply Kd.N_drew)); exact HO145.out) (Kd.N_base ho23) hb); have n2_ := Aside0.mk (Kd.R_below (by (with_reducible repeat (first | apply Kd.R_alloc | apply Kd.R_drewN | apply Kd.R_drew)); exact HO148.out) hb); have n3_ := Aside0.mk (Kd.R_below (by (with_reducible repeat (first | apply Kd.R_alloc | apply Kd.R_drewN | apply Kd.R_drew)); exact HO152.out) hb); have n4_ := Aside0.mk (Kd.N_lower ho23 (below_size (by repeat (first | (with_reducible first | exact HB.out | apply below_alloc | apply pw_below_drewN | apply below_drew1) | exact HB.out)))); have n5_ := Aside0.mk (below_step (by repeat (first | (with_reducible first | exact HB.out | apply below_alloc | apply pw_below_drewN | apply below_drew1) | exact HB.out)) hb); clear HO139; clear HO145; clear HO148; clear HO152; clear HB; clear HO155; have HO139 := n0_; have HO145 := n1_; have HO148 := n2_; have HO152 := n3_; have HO158 := n4_; have HB := n5_; clear n0_ n1_ n2_ n3_ n4_ n5_; clear hb ho23; obtain ⟨Ao24, co24, eo24⟩ := Kd.N_slice HO158.out; subst eo24) | ((with_reducible refine gate_callee (f := 9) rfl ?_); refine goesL_ (some 19) rfl rfl Try.func9 (by kernel_rfl) rfl #[.slice none 0 0, .agg #[.int .u8 2, .int .u8 0, .int .i64 7, .slice Ao18 y150.length co18], .slice Ao24 y156.length co24] rfl (by (try simp only [List.map_toArray, List.map_cons, List.map_nil]); first | done | rfl | (simp only [List.length_drop, List.length_take]; rfl)) ?_; (refine (sect_Put.calls _ _ ([] : List Int) 2 0 7 _ _ y150 _ _ y156 t159 t162 _ ?side1 ?side2 ?side3 ?side4 ?side5 ?side6 A3.out).mono ?_); (case side1 => exact Kd.C_nil _ _); (case side2 => exact Nat.le_refl _); (case side3 => repeat (first | exact (Kd.R_reads' HO152.out).2.2 | (with_reducible refine Kd.C_alloc ?_ _) | (with_reducible refine Kd.C_drewN ?_ _) | (with_reducible refine Kd.C_drew ?_))); (case side4 => exact (Kd.R_reads' HO152.out).2.1); (case side5 => repeat (first | exact (Kd.N_reads' HO158.out).2.2 | (with_reducible refine Kd.C_alloc ?_ _) | (with_reducible refine Kd.C_drewN ?_ _) | (with_reducible refine Kd.C_drew ?_))); (case side6 => exact (Kd.N_reads' HO158.out).2.1); rintro e w25 ⟨v160, rfl, ho0, hb⟩; refine ⟨_, rfl, ?_⟩; have n0_ := Aside0.mk (Kd.R_below (by (with_reducible repeat (first | apply Kd.R_alloc | apply Kd.R_drewN | apply Kd.R_drew)); exact HO139.out) hb); have n1_ := Aside0.mk (Kd.N_elder' (by (with_reducible repeat (first | apply Kd.N_alloc | apply Kd.N_drewN | apply Kd.N_drew)); exact HO145.out) (Kd.R_base ho0) hb); have n2_ := Aside0.mk (Kd.R_elder' (by (with_reducible repeat (first | apply Kd.R_alloc | apply Kd.R_drewN | apply Kd.R_drew)); exact HO148.out) (Kd.R_base ho0) hb); have n3_ := Aside0.mk (Kd.R_below (by (with_reducible repeat (first | apply Kd.R_alloc | apply Kd.R_drewN | apply Kd.R_drew)); exact HO152.out) hb); have n4_ := Aside0.mk (Kd.N_elder' (by (with_reducible repeat (first | apply Kd.N_alloc | apply Kd.N_drewN | apply Kd.N_drew)); exact HO158.out) (Kd.R_base ho0) hb); have n5_ := Aside0.mk (Kd.R_lower (Kd.R_new' ho0 (Kd.R_lt (by (with_reducible repeat (first | apply Kd.R_alloc | apply Kd.R_drewN | apply Kd.R_drew)); exact HO148.out))) (below_size (by repeat (first | (with_reducible first | exact HB.out | apply below_alloc | apply pw_below_drewN | apply below_drew1) | exact HB.out)))); have n6_ := Aside0.mk (below_step (by repeat (first | (with_reducible first | exact HB.out | apply below_alloc | apply pw_below_drewN | apply below_drew1) | exact HB.out)) hb); clear HO139; clear HO145; clear HO148; clear HO152; clear HO158; clear HB; have HO139 := n0_; have HO145 := n1_; have HO148 := n2_; have HO152 := n3_; have HO158 := n4_; have HO161 := n5_; have HB := n6_; clear n0_ n1_ n2_ n3_ n4_ n5_ n6_; (try clear hb); (try clear hb2); (try clear hk); (try clear hi); (try clear ho0); have hcv26 := own_string (P := Try.prog) Try.underlying28 Try.underlying5 Try.underlying9 (Kd.own_of_R HO148.out); have hcv27 := own_string (P := Try.prog) Try.underlying28 Try.underlying5 Try.underlying9 (Kd.own_of_R HO161.out)))
        go_ret
        exact ⟨by first | rfl | (simp [errW_none, errW_some] <;> rfl) | (simp [*, errW_none, errW_some] <;> rfl), by repeat (first | (with_reducible first | exact HB.out | apply below_alloc | apply pw_below_drewN | apply below_drew1) | exact HB.out)⟩
      · rw [if_neg c6] at H
        have c6b0 : (t162 == 0) = false := beq_eq_false_iff_ne.mpr c6
        have c6b1 : (t162 != 0) = true := bne_iff_ne.mpr c6
        obtain rfl := Option.some.inj H
        go_enter Try.func7, Try.ntmps7
        go_wp2_with (first | ((with_reducible refine gate_callee (f := 12) rfl ?_); refine goesL_ (some 6) rfl rfl Try.func12 (by kernel_rfl) rfl #[] rfl (by (try simp only [List.map_toArray, List.map_cons, List.map_nil]); first | done | rfl | (simp only [List.length_drop, List.length_take]; rfl)) ?_; (with_reducible refine (reedpipelaw19_long.calls  t134 t135 t136 t137 _ A1.out).mono ?_); rintro e w28 ⟨v138, rfl, ho0, hb⟩; refine ⟨_, rfl, ?_⟩; have n0_ := Aside0.mk (Kd.R_lower ho0 (below_size (by repeat (first | (with_reducible first | exact HB.out | apply below_alloc | apply pw_below_drewN | apply below_drew1) | exact HB.out)))); have n1_ := Aside0.mk (below_step (by repeat (first | (with_reducible first | exact HB.out | apply below_alloc | apply pw_below_drewN | apply below_drew1) | exact HB.out)) hb); clear HB; have HO139 := n0_; have HB := n1_; clear n0_ n1_; (try clear hb); (try clear hb2); (try clear hk); (try clear hi); (try clear ho0)) | ((with_reducible refine gate_dst (N := 8) rfl ?_); refine Kd.R_lit k49 _ 49 ?hg (N := 8) ?hd (xs := ([(⟨2, 3⟩ : S49)] : List (S49))) (inner := [.int .i64 2, .int .i64 3]) (ok := fun _ => True) (okp := fun _ => True) ?hr ?hp (fun _ hk => hk) trivial (Below.refl _ _) (Nat.le_refl _) (by simp) ?_; (case hd => rfl); (case hg => rfl); (case hr => first | (go_simp; done) | (go_simp; rfl)); (case hp => exact (Reps.c2 (show Kd.M k49 _ _ _ (⟨2, 3⟩ : S49) [.int .i64 2, .int .i64 3] from (k49_mkM _ _ _ (⟨2, 3⟩ : S49) )) (Reps.none _ _))); intro v141 w29 ho30 hb hg_ hnew_; clear hg_ hnew_; (first | rw [← Ny140.out] at ho30 | (simp only [Int.reduceToNat] at ho30; rw [← Ny140.out] at ho30)); have n0_ := Aside0.mk (Kd.R_below (by (with_reducible repeat (first | apply Kd.R_alloc | apply Kd.R_drewN | apply Kd.R_drew)); exact HO139.out) hb); have n1_ := Aside0.mk (Kd.R_lower ho30 (below_size (by repeat (first | (with_reducible first | exact HB.out | apply below_alloc | apply pw_below_drewN | apply below_drew1) | exact HB.out)))); have n2_ := Aside0.mk (below_step (by repeat (first | (with_reducible first | exact HB.out | apply below_alloc | apply pw_below_drewN | apply below_drew1) | exact HB.out)) hb); clear HO139; clear HB; have HO139 := n0_; have HO142 := n1_; have HB := n2_; clear n0_ n1_ n2_; clear hb ho30; obtain ⟨Ao31, co31, eo31⟩ := Kd.R_slice HO142.out; subst eo31) | ((with_reducible refine gate_dst (N := 9) rfl ?_); refine Kd.N_lit (Kd.slice 49 k49) _ 32 ?hg (N' := 9) ?hd (xs := ([y140] : List (List (S49)))) (inner := [.slice Ao31 y140.length co31]) (ok := (fun k_ => some k_ ≠ (v138 : Value).ownBlock)) (okp := (fun k_ => some k_ ≠ (v138 : Value).ownBlock)) ?hr ?hp (fun _ hk => hk) ((show ∀ k_, w29.heap.size ≤ k_ → (fun k_ => some k_ ≠ (v138 : Value).ownBlock) k_ from fun k_ hk => Kd.fresh' (Kd.R_lt (by (with_reducible repeat (first | apply Kd.R_alloc | apply Kd.R_drewN | apply Kd.R_drew)); exact HO139.out)) k_ hk) _ (Nat.le_refl _)) (Below.refl _ _) (Nat.le_refl _) (by simp) ?_; (case hd => rfl); (case hg => rfl); (case hr => first | (go_simp; done) | (go_simp; rfl)); (case hp => exact (Reps.one (show Kd.FK (Kd.slice 49 k49) _ _ y140 [.slice Ao31 y140.length co31] from (Kd.FK_slice_mk (Kd.R_reads' (Kd.R_mono (ok' := (fun k_ => some k_ ≠ (v138 : Value).ownBlock)) (Kd.R_apart' (HO142.out) (Kd.R_typed HO139.out) (by decide)) (fun k_ hk => hk.2))).2.1 (Kd.R_F (Kd.R_mono (ok' := (fun k_ => some k_ ≠ (v138 : Value).ownBlock)) (Kd.R_apart' (HO142.out) (Kd.R_typed HO139.out) (by decide)) (fun k_ hk => hk.2))))) (Reps.none _ _))); intro v144 w32 ho33 hb hg_ hnew_; clear hg_ hnew_; (first | rw [← Ny143.out] at ho33 | (simp only [Int.reduceToNat] at ho33; rw [← Ny143.out] at ho33)); have n0_ := Aside0.mk (Kd.R_below (by (with_reducible repeat (first | apply Kd.R_alloc | apply Kd.R_drewN | apply Kd.R_drew)); exact HO139.out) hb); have n1_ := Aside0.mk (Kd.N_lower ho33 (below_size (by repeat (first | (with_reducible first | exact HB.out | apply below_alloc | apply pw_below_drewN | apply below_drew1) | exact HB.out)))); have n2_ := Aside0.mk (below_step (by repeat (first | (with_reducible first | exact HB.out | apply below_alloc | apply pw_below_drewN | apply below_drew1) | exact HB.out)) hb); clear HO139; clear HB; clear HO142; have HO139 := n0_; have HO145 := n1_; have HB := n2_; clear n0_ n1_ n2_; clear hb ho33; obtain ⟨Ao34, co34, eo34⟩ := Kd.R_slice HO139.out; subst eo34; obtain ⟨Ao35, co35, eo35⟩ := Kd.N_slice HO145.out; subst eo35) | ((with_reducible refine gate_callee (f := 9) rfl ?_); refine goesL_ (some 10) rfl rfl Try.func9 (by kernel_rfl) rfl #[.slice none 0 0, .agg #[.int .u8 t134, .int .u8 t135, .int .i64 t136, .slice Ao34 t137.length co34], .slice Ao35 y143.length co35] rfl (by (try simp only [List.map_toArray, List.map_cons, List.map_nil]); first | done | rfl | (simp only [List.length_drop, List.length_take]; rfl)) ?_; (refine (sect_Put.calls _ _ ([] : List Int) t134 t135 t136 _ _ t137 _ _ y143 t146 t149 _ ?side1 ?side2 ?side3 ?side4 ?side5 ?side6 A2.out).mono ?_); (case side1 => exact Kd.C_nil _ _); (case side2 => exact Nat.le_refl _); (case side3 => repeat (first | exact (Kd.R_reads' HO139.out).2.2 | (with_reducible refine Kd.C_alloc ?_ _) | (with_reducible refine Kd.C_drewN ?_ _) | (with_reducible refine Kd.C_drew ?_))); (case side4 => exact (Kd.R_reads' HO139.out).2.1); (case side5 => repeat (first | exact (Kd.N_reads' HO145.out).2.2 | (with_reducible refine Kd.C_alloc ?_ _) | (with_reducible refine Kd.C_drewN ?_ _) | (with_reducible refine Kd.C_drew ?_))); (case side6 => exact (Kd.N_reads' HO145.out).2.1); rintro e w36 ⟨v147, rfl, ho0, hb⟩; refine ⟨_, rfl, ?_⟩; have n0_ := Aside0.mk (Kd.R_below (by (with_reducible repeat (first | apply Kd.R_alloc | apply Kd.R_drewN | apply Kd.R_drew)); exact HO139.out) hb); have n1_ := Aside0.mk (Kd.N_elder' (by (with_reducible repeat (first | apply Kd.N_alloc | apply Kd.N_drewN | apply Kd.N_drew)); exact HO145.out) (Kd.R_base ho0) hb); have n2_ := Aside0.mk (Kd.R_lower ho0 (below_size (by repeat (first | (with_reducible first | exact HB.out | apply below_alloc | apply pw_below_drewN | apply below_drew1) | exact HB.out)))); have n3_ := Aside0.mk (below_step (by repeat (first | (with_reducible first | exact HB.out | apply below_alloc | apply pw_below_drewN | apply below_drew1) | exact HB.out)) hb); clear HO139; clear HO145; clear HB; have HO139 := n0_; have HO145 := n1_; have HO148 := n2_; have HB := n3_; clear n0_ n1_ n2_ n3_; (try clear hb); (try clear hb2); (try clear hk); (try clear hi); (try clear ho0)) | ((with_reducible refine gate_dst (N := 14) rfl ?_); refine Kd.R_lit (Kd.int .i64) _ 3 ?hg (N := 14) ?hd (xs := ([8] : List Int)) (inner := [.int .i64 8]) (ok := fun _ => True) (okp := fun _ => True) ?hr ?hp (fun _ hk => hk) trivial (Below.refl _ _) (Nat.le_refl _) (by simp) ?_; (case hd => rfl); (case hg => rfl); (case hr => first | (go_simp; done) | (go_simp; rfl)); (case hp => exact (Reps.one (show Kd.M (Kd.int .i64) _ _ _ 8 [.int .i64 8] from rfl) (Reps.none _ _))); intro v151 w37 ho38 hb hg_ hnew_; clear hg_ hnew_; (first | rw [← Ny150.out] at ho38 | (simp only [Int.reduceToNat] at ho38; rw [← Ny150.out] at ho38)); have n0_ := Aside0.mk (Kd.R_elder' (by (with_reducible repeat (first | apply Kd.R_alloc | apply Kd.R_drewN | apply Kd.R_drew)); exact HO139.out) (Kd.R_base ho38) hb); have n1_ := Aside0.mk (Kd.N_elder' (by (with_reducible repeat (first | apply Kd.N_alloc | apply Kd.N_drewN | apply Kd.N_drew)); exact HO145.out) (Kd.R_base ho38) hb); have n2_ := Aside0.mk (Kd.R_below (by (with_reducible repeat (first | apply Kd.R_alloc | apply Kd.R_drewN | apply Kd.R_drew)); exact HO148.out) hb); have n3_ := Aside0.mk (Kd.R_lower (Kd.R_new' ho38 (Kd.R_lt (by (with_reducible repeat (first | apply Kd.R_alloc | apply Kd.R_drewN | apply Kd.R_drew)); exact HO139.out))) (below_size (by repeat (first | (with_reducible first | exact HB.out | apply below_alloc | apply pw_below_drewN | apply below_drew1) | exact HB.out)))); have n4_ := Aside0.mk (below_step (by repeat (first | (with_reducible first | exact HB.out | apply below_alloc | apply pw_below_drewN | apply below_drew1) | exact HB.out)) hb); clear HO139; clear HO145; clear HO148; clear HB; have HO139 := n0_; have HO145 := n1_; have HO148 := n2_; have HO152 := n3_; have HB := n4_; clear n0_ n1_ n2_ n3_ n4_; clear hb ho38; obtain ⟨Ao39, co39, eo39⟩ := Kd.R_slice HO152.out; subst eo39) | ((with_reducible refine gate_dst (N := 17) rfl ?_); refine Kd.R_lit k49 _ 49 ?hg (N := 17) ?hd (xs := ([(⟨11, 7⟩ : S49)] : List (S49))) (inner := [.int .i64 11, .int .i64 7]) (ok := fun _ => True) (okp := fun _ => True) ?hr ?hp (fun _ hk => hk) trivial (Below.refl _ _) (Nat.le_refl _) (by simp) ?_; (case hd => rfl); (case hg => rfl); (case hr => first | (go_simp; done) | (go_simp; rfl)); (case hp => exact (Reps.c2 (show Kd.M k49 _ _ _ (⟨11, 7⟩ : S49) [.int .i64 11, .int .i64 7] from (k49_mkM _ _ _ (⟨11, 7⟩ : S49) )) (Reps.none _ _))); intro v154 w40 ho41 hb hg_ hnew_; clear hg_ hnew_; (first | rw [← Ny153.out] at ho41 | (simp only [Int.reduceToNat] at ho41; rw [← Ny153.out] at ho41)); have n0_ := Aside0.mk (Kd.R_below (by (with_reducible repeat (first | apply Kd.R_alloc | apply Kd.R_drewN | apply Kd.R_drew)); exact HO139.out) hb); have n1_ := Aside0.mk (Kd.N_elder' (by (with_reducible repeat (first | apply Kd.N_alloc | apply Kd.N_drewN | apply Kd.N_drew)); exact HO145.out) (Kd.R_base ho41) hb); have n2_ := Aside0.mk (Kd.R_below (by (with_reducible repeat (first | apply Kd.R_alloc | apply Kd.R_drewN | apply Kd.R_drew)); exact HO148.out) hb); have n3_ := Aside0.mk (Kd.R_below (by (with_reducible repeat (first | apply Kd.R_alloc | apply Kd.R_drewN | apply Kd.R_drew)); exact HO152.out) hb); have n4_ := Aside0.mk (Kd.R_lower ho41 (below_size (by repeat (first | (with_reducible first | exact HB.out | apply below_alloc | apply pw_below_drewN | apply below_drew1) | exact HB.out)))); have n5_ := Aside0.mk (below_step (by repeat (first | (with_reducible first | exact HB.out | apply below_alloc | apply pw_below_drewN | apply below_drew1) | exact HB.out)) hb); clear HO139; clear HO145; clear HO148; clear HO152; clear HB; have HO139 := n0_; have HO145 := n1_; have HO148 := n2_; have HO152 := n3_; have HO155 := n4_; have HB := n5_; clear n0_ n1_ n2_ n3_ n4_ n5_; clear hb ho41; obtain ⟨Ao42, co42, eo42⟩ := Kd.R_slice HO155.out; subst eo42) | ((with_reducible refine gate_dst (N := 18) rfl ?_); refine Kd.N_lit (Kd.slice 49 k49) _ 32 ?hg (N' := 18) ?hd (xs := ([y153] : List (List (S49)))) (inner := [.slice Ao42 y153.length co42]) (ok := (fun k_ => some k_ ≠ (.slice Ao34 t137.length co34 : Value).ownBlock ∧ some k_ ≠ (.slice Ao35 y143.length co35 : Value).ownBlock ∧ some k_ ≠ (v147 : Value).ownBlock ∧ some k_ ≠ (.slice Ao39 y150.length co39 : Value).ownBlock)) (okp := (fun k_ => some k_ ≠ (.slice Ao34 t137.length co34 : Value).ownBlock ∧ some k_ ≠ (.slice Ao35 y143.length co35 : Value).ownBlock ∧ some k_ ≠ (v147 : Value).ownBlock ∧ some k_ ≠ (.slice Ao39 y150.length co39 : Value).ownBlock)) ?hr ?hp (fun _ hk => hk) ((show ∀ k_, w40.heap.size ≤ k_ → (fun k_ => some k_ ≠ (.slice Ao34 t137.length co34 : Value).ownBlock ∧ some k_ ≠ (.slice Ao35 y143.length co35 : Value).ownBlock ∧ some k_ ≠ (v147 : Value).ownBlock ∧ some k_ ≠ (.slice Ao39 y150.length co39 : Value).ownBlock) k_ from fun k_ hk => ⟨Kd.fresh' (Kd.R_lt (by (with_reducible repeat (first | apply Kd.R_alloc | apply Kd.R_drewN | apply Kd.R_drew)); exact HO139.out)) k_ hk, Kd.fresh' (Kd.N_lt (by (with_reducible repeat (first | apply Kd.N_alloc | apply Kd.N_drewN | apply Kd.N_drew)); exact HO145.out)) k_ hk, Kd.fresh' (Kd.R_lt (by (with_reducible repeat (first | apply Kd.R_alloc | apply Kd.R_drewN | apply Kd.R_drew)); exact HO148.out)) k_ hk, Kd.fresh' (Kd.R_lt (by (with_reducible repeat (first | apply Kd.R_alloc | apply Kd.R_drewN | apply Kd.R_drew)); exact HO152.out)) k_ hk⟩) _ (Nat.le_refl _)) (Below.refl _ _) (Nat.le_refl _) (by simp) ?_; (case hd => rfl); (case hg => rfl); (case hr => first | (go_simp; done) | (go_simp; rfl)); (case hp => exact (Reps.one (show Kd.FK (Kd.slice 49 k49) _ _ y153 [.slice Ao42 y153.length co42] from (Kd.FK_slice_mk (Kd.R_reads' (Kd.R_mono (ok' := (fun k_ => some k_ ≠ (.slice Ao34 t137.length co34 : Value).ownBlock ∧ some k_ ≠ (.slice Ao35 y143.length co35 : Value).ownBlock ∧ some k_ ≠ (v147 : Value).ownBlock ∧ some k_ ≠ (.slice Ao39 y150.length co39 : Value).ownBlock)) (Kd.R_apart' (Kd.R_apart' (Kd.R_apart' (Kd.R_apart' (HO155.out) (Kd.R_typed HO139.out) (by decide)) (Kd.N_typed HO145.out) (by decide)) (Kd.R_typed HO148.out) (by decide)) (Kd.R_typed HO152.out) (by decide)) (fun k_ hk => ⟨hk.1.1.1.2, ⟨hk.1.1.2, ⟨hk.1.2, hk.2⟩⟩⟩))).2.1 (Kd.R_F (Kd.R_mono (ok' := (fun k_ => some k_ ≠ (.slice Ao34 t137.length co34 : Value).ownBlock ∧ some k_ ≠ (.slice Ao35 y143.length co35 : Value).ownBlock ∧ some k_ ≠ (v147 : Value).ownBlock ∧ some k_ ≠ (.slice Ao39 y150.length co39 : Value).ownBlock)) (Kd.R_apart' (Kd.R_apart' (Kd.R_apart' (Kd.R_apart' (HO155.out) (Kd.R_typed HO139.out) (by decide)) (Kd.N_typed HO145.out) (by decide)) (Kd.R_typed HO148.out) (by decide)) (Kd.R_typed HO152.out) (by decide)) (fun k_ hk => ⟨hk.1.1.1.2, ⟨hk.1.1.2, ⟨hk.1.2, hk.2⟩⟩⟩))))) (Reps.none _ _))); intro v157 w43 ho44 hb hg_ hnew_; clear hg_ hnew_; (first | rw [← Ny156.out] at ho44 | (simp only [Int.reduceToNat] at ho44; rw [← Ny156.out] at ho44)); have n0_ := Aside0.mk (Kd.R_below (by (with_reducible repeat (first | apply Kd.R_alloc | apply Kd.R_drewN | apply Kd.R_drew)); exact HO139.out) hb); have n1_ := Aside0.mk (Kd.N_elder' (by (with_reducible repeat (first | apply Kd.N_alloc | apply Kd.N_drewN | apply Kd.N_drew)); exact HO145.out) (Kd.N_base ho44) hb); have n2_ := Aside0.mk (Kd.R_below (by (with_reducible repeat (first | apply Kd.R_alloc | apply Kd.R_drewN | apply Kd.R_drew)); exact HO148.out) hb); have n3_ := Aside0.mk (Kd.R_below (by (with_reducible repeat (first | apply Kd.R_alloc | apply Kd.R_drewN | apply Kd.R_drew)); exact HO152.out) hb); have n4_ := Aside0.mk (Kd.N_lower ho44 (below_size (by repeat (first | (with_reducible first | exact HB.out | apply below_alloc | apply pw_below_drewN | apply below_drew1) | exact HB.out)))); have n5_ := Aside0.mk (below_step (by repeat (first | (with_reducible first | exact HB.out | apply below_alloc | apply pw_below_drewN | apply below_drew1) | exact HB.out)) hb); clear HO139; clear HO145; clear HO148; clear HO152; clear HB; clear HO155; have HO139 := n0_; have HO145 := n1_; have HO148 := n2_; have HO152 := n3_; have HO158 := n4_; have HB := n5_; clear n0_ n1_ n2_ n3_ n4_ n5_; clear hb ho44; obtain ⟨Ao45, co45, eo45⟩ := Kd.N_slice HO158.out; subst eo45) | ((with_reducible refine gate_callee (f := 9) rfl ?_); refine goesL_ (some 19) rfl rfl Try.func9 (by kernel_rfl) rfl #[.slice none 0 0, .agg #[.int .u8 2, .int .u8 0, .int .i64 7, .slice Ao39 y150.length co39], .slice Ao45 y156.length co45] rfl (by (try simp only [List.map_toArray, List.map_cons, List.map_nil]); first | done | rfl | (simp only [List.length_drop, List.length_take]; rfl)) ?_; (refine (sect_Put.calls _ _ ([] : List Int) 2 0 7 _ _ y150 _ _ y156 t159 t162 _ ?side1 ?side2 ?side3 ?side4 ?side5 ?side6 A3.out).mono ?_); (case side1 => exact Kd.C_nil _ _); (case side2 => exact Nat.le_refl _); (case side3 => repeat (first | exact (Kd.R_reads' HO152.out).2.2 | (with_reducible refine Kd.C_alloc ?_ _) | (with_reducible refine Kd.C_drewN ?_ _) | (with_reducible refine Kd.C_drew ?_))); (case side4 => exact (Kd.R_reads' HO152.out).2.1); (case side5 => repeat (first | exact (Kd.N_reads' HO158.out).2.2 | (with_reducible refine Kd.C_alloc ?_ _) | (with_reducible refine Kd.C_drewN ?_ _) | (with_reducible refine Kd.C_drew ?_))); (case side6 => exact (Kd.N_reads' HO158.out).2.1); rintro e w46 ⟨v160, rfl, ho0, hb⟩; refine ⟨_, rfl, ?_⟩; have n0_ := Aside0.mk (Kd.R_below (by (with_reducible repeat (first | apply Kd.R_alloc | apply Kd.R_drewN | apply Kd.R_drew)); exact HO139.out) hb); have n1_ := Aside0.mk (Kd.N_elder' (by (with_reducible repeat (first | apply Kd.N_alloc | apply Kd.N_drewN | apply Kd.N_drew)); exact HO145.out) (Kd.R_base ho0) hb); have n2_ := Aside0.mk (Kd.R_elder' (by (with_reducible repeat (first | apply Kd.R_alloc | apply Kd.R_drewN | apply Kd.R_drew)); exact HO148.out) (Kd.R_base ho0) hb); have n3_ := Aside0.mk (Kd.R_below (by (with_reducible repeat (first | apply Kd.R_alloc | apply Kd.R_drewN | apply Kd.R_drew)); exact HO152.out) hb); have n4_ := Aside0.mk (Kd.N_elder' (by (with_reducible repeat (first | apply Kd.N_alloc | apply Kd.N_drewN | apply Kd.N_drew)); exact HO158.out) (Kd.R_base ho0) hb); have n5_ := Aside0.mk (Kd.R_lower (Kd.R_new' ho0 (Kd.R_lt (by (with_reducible repeat (first | apply Kd.R_alloc | apply Kd.R_drewN | apply Kd.R_drew)); exact HO148.out))) (below_size (by repeat (first | (with_reducible first | exact HB.out | apply below_alloc | apply pw_below_drewN | apply below_drew1) | exact HB.out)))); have n6_ := Aside0.mk (below_step (by repeat (first | (with_reducible first | exact HB.out | apply below_alloc | apply pw_below_drewN | apply below_drew1) | exact HB.out)) hb); clear HO139; clear HO145; clear HO148; clear HO152; clear HO158; clear HB; have HO139 := n0_; have HO145 := n1_; have HO148 := n2_; have HO152 := n3_; have HO158 := n4_; have HO161 := n5_; have HB := n6_; clear n0_ n1_ n2_ n3_ n4_ n5_ n6_; (try clear hb); (try clear hb2); (try clear hk); (try clear hi); (try clear ho0); have hcv47 := own_string (P := Try.prog) Try.underlying28 Try.underlying5 Try.underlying9 (Kd.own_of_R HO148.out)))
        go_ret
        exact ⟨by first | rfl | (simp [errW_none, errW_some] <;> rfl) | (simp [*, errW_none, errW_some] <;> rfl), by repeat (first | (with_reducible first | exact HB.out | apply below_alloc | apply pw_below_drewN | apply below_drew1) | exact HB.out)⟩
    · rw [if_neg c5] at H
      have c5b0 : ((strOfNums t146).toList == ([0, 0, 1, 0, 0, 0, 0, 1, 1] : List UInt8)) = false := beq_eq_false_iff_ne.mpr c5
      have c5b1 : ((strOfNums t146).toList != ([0, 0, 1, 0, 0, 0, 0, 1, 1] : List UInt8)) = true := bne_iff_ne.mpr c5
      obtain rfl := Option.some.inj H
      go_enter Try.func7, Try.ntmps7
      go_wp2_with (first | ((with_reducible refine gate_callee (f := 12) rfl ?_); refine goesL_ (some 6) rfl rfl Try.func12 (by kernel_rfl) rfl #[] rfl (by (try simp only [List.map_toArray, List.map_cons, List.map_nil]); first | done | rfl | (simp only [List.length_drop, List.length_take]; rfl)) ?_; (with_reducible refine (reedpipelaw19_long.calls  t134 t135 t136 t137 _ A1.out).mono ?_); rintro e w48 ⟨v138, rfl, ho0, hb⟩; refine ⟨_, rfl, ?_⟩; have n0_ := Aside0.mk (Kd.R_lower ho0 (below_size (by repeat (first | (with_reducible first | exact HB.out | apply below_alloc | apply pw_below_drewN | apply below_drew1) | exact HB.out)))); have n1_ := Aside0.mk (below_step (by repeat (first | (with_reducible first | exact HB.out | apply below_alloc | apply pw_below_drewN | apply below_drew1) | exact HB.out)) hb); clear HB; have HO139 := n0_; have HB := n1_; clear n0_ n1_; (try clear hb); (try clear hb2); (try clear hk); (try clear hi); (try clear ho0)) | ((with_reducible refine gate_dst (N := 8) rfl ?_); refine Kd.R_lit k49 _ 49 ?hg (N := 8) ?hd (xs := ([(⟨2, 3⟩ : S49)] : List (S49))) (inner := [.int .i64 2, .int .i64 3]) (ok := fun _ => True) (okp := fun _ => True) ?hr ?hp (fun _ hk => hk) trivial (Below.refl _ _) (Nat.le_refl _) (by simp) ?_; (case hd => rfl); (case hg => rfl); (case hr => first | (go_simp; done) | (go_simp; rfl)); (case hp => exact (Reps.c2 (show Kd.M k49 _ _ _ (⟨2, 3⟩ : S49) [.int .i64 2, .int .i64 3] from (k49_mkM _ _ _ (⟨2, 3⟩ : S49) )) (Reps.none _ _))); intro v141 w49 ho50 hb hg_ hnew_; clear hg_ hnew_; (first | rw [← Ny140.out] at ho50 | (simp only [Int.reduceToNat] at ho50; rw [← Ny140.out] at ho50)); have n0_ := Aside0.mk (Kd.R_below (by (with_reducible repeat (first | apply Kd.R_alloc | apply Kd.R_drewN | apply Kd.R_drew)); exact HO139.out) hb); have n1_ := Aside0.mk (Kd.R_lower ho50 (below_size (by repeat (first | (with_reducible first | exact HB.out | apply below_alloc | apply pw_below_drewN | apply below_drew1) | exact HB.out)))); have n2_ := Aside0.mk (below_step (by repeat (first | (with_reducible first | exact HB.out | apply below_alloc | apply pw_below_drewN | apply below_drew1) | exact HB.out)) hb); clear HO139; clear HB; have HO139 := n0_; have HO142 := n1_; have HB := n2_; clear n0_ n1_ n2_; clear hb ho50; obtain ⟨Ao51, co51, eo51⟩ := Kd.R_slice HO142.out; subst eo51) | ((with_reducible refine gate_dst (N := 9) rfl ?_); refine Kd.N_lit (Kd.slice 49 k49) _ 32 ?hg (N' := 9) ?hd (xs := ([y140] : List (List (S49)))) (inner := [.slice Ao51 y140.length co51]) (ok := (fun k_ => some k_ ≠ (v138 : Value).ownBlock)) (okp := (fun k_ => some k_ ≠ (v138 : Value).ownBlock)) ?hr ?hp (fun _ hk => hk) ((show ∀ k_, w49.heap.size ≤ k_ → (fun k_ => some k_ ≠ (v138 : Value).ownBlock) k_ from fun k_ hk => Kd.fresh' (Kd.R_lt (by (with_reducible repeat (first | apply Kd.R_alloc | apply Kd.R_drewN | apply Kd.R_drew)); exact HO139.out)) k_ hk) _ (Nat.le_refl _)) (Below.refl _ _) (Nat.le_refl _) (by simp) ?_; (case hd => rfl); (case hg => rfl); (case hr => first | (go_simp; done) | (go_simp; rfl)); (case hp => exact (Reps.one (show Kd.FK (Kd.slice 49 k49) _ _ y140 [.slice Ao51 y140.length co51] from (Kd.FK_slice_mk (Kd.R_reads' (Kd.R_mono (ok' := (fun k_ => some k_ ≠ (v138 : Value).ownBlock)) (Kd.R_apart' (HO142.out) (Kd.R_typed HO139.out) (by decide)) (fun k_ hk => hk.2))).2.1 (Kd.R_F (Kd.R_mono (ok' := (fun k_ => some k_ ≠ (v138 : Value).ownBlock)) (Kd.R_apart' (HO142.out) (Kd.R_typed HO139.out) (by decide)) (fun k_ hk => hk.2))))) (Reps.none _ _))); intro v144 w52 ho53 hb hg_ hnew_; clear hg_ hnew_; (first | rw [← Ny143.out] at ho53 | (simp only [Int.reduceToNat] at ho53; rw [← Ny143.out] at ho53)); have n0_ := Aside0.mk (Kd.R_below (by (with_reducible repeat (first | apply Kd.R_alloc | apply Kd.R_drewN | apply Kd.R_drew)); exact HO139.out) hb); have n1_ := Aside0.mk (Kd.N_lower ho53 (below_size (by repeat (first | (with_reducible first | exact HB.out | apply below_alloc | apply pw_below_drewN | apply below_drew1) | exact HB.out)))); have n2_ := Aside0.mk (below_step (by repeat (first | (with_reducible first | exact HB.out | apply below_alloc | apply pw_below_drewN | apply below_drew1) | exact HB.out)) hb); clear HO139; clear HB; clear HO142; have HO139 := n0_; have HO145 := n1_; have HB := n2_; clear n0_ n1_ n2_; clear hb ho53; obtain ⟨Ao54, co54, eo54⟩ := Kd.R_slice HO139.out; subst eo54; obtain ⟨Ao55, co55, eo55⟩ := Kd.N_slice HO145.out; subst eo55) | ((with_reducible refine gate_callee (f := 9) rfl ?_); refine goesL_ (some 10) rfl rfl Try.func9 (by kernel_rfl) rfl #[.slice none 0 0, .agg #[.int .u8 t134, .int .u8 t135, .int .i64 t136, .slice Ao54 t137.length co54], .slice Ao55 y143.length co55] rfl (by (try simp only [List.map_toArray, List.map_cons, List.map_nil]); first | done | rfl | (simp only [List.length_drop, List.length_take]; rfl)) ?_; (refine (sect_Put.calls _ _ ([] : List Int) t134 t135 t136 _ _ t137 _ _ y143 t146 t149 _ ?side1 ?side2 ?side3 ?side4 ?side5 ?side6 A2.out).mono ?_); (case side1 => exact Kd.C_nil _ _); (case side2 => exact Nat.le_refl _); (case side3 => repeat (first | exact (Kd.R_reads' HO139.out).2.2 | (with_reducible refine Kd.C_alloc ?_ _) | (with_reducible refine Kd.C_drewN ?_ _) | (with_reducible refine Kd.C_drew ?_))); (case side4 => exact (Kd.R_reads' HO139.out).2.1); (case side5 => repeat (first | exact (Kd.N_reads' HO145.out).2.2 | (with_reducible refine Kd.C_alloc ?_ _) | (with_reducible refine Kd.C_drewN ?_ _) | (with_reducible refine Kd.C_drew ?_))); (case side6 => exact (Kd.N_reads' HO145.out).2.1); rintro e w56 ⟨v147, rfl, ho0, hb⟩; refine ⟨_, rfl, ?_⟩; have n0_ := Aside0.mk (Kd.R_below (by (with_reducible repeat (first | apply Kd.R_alloc | apply Kd.R_drewN | apply Kd.R_drew)); exact HO139.out) hb); have n1_ := Aside0.mk (Kd.N_elder' (by (with_reducible repeat (first | apply Kd.N_alloc | apply Kd.N_drewN | apply Kd.N_drew)); exact HO145.out) (Kd.R_base ho0) hb); have n2_ := Aside0.mk (Kd.R_lower ho0 (below_size (by repeat (first | (with_reducible first | exact HB.out | apply below_alloc | apply pw_below_drewN | apply below_drew1) | exact HB.out)))); have n3_ := Aside0.mk (below_step (by repeat (first | (with_reducible first | exact HB.out | apply below_alloc | apply pw_below_drewN | apply below_drew1) | exact HB.out)) hb); clear HO139; clear HO145; clear HB; have HO139 := n0_; have HO145 := n1_; have HO148 := n2_; have HB := n3_; clear n0_ n1_ n2_ n3_; (try clear hb); (try clear hb2); (try clear hk); (try clear hi); (try clear ho0)) | ((with_reducible refine gate_dst (N := 14) rfl ?_); refine Kd.R_lit (Kd.int .i64) _ 3 ?hg (N := 14) ?hd (xs := ([8] : List Int)) (inner := [.int .i64 8]) (ok := fun _ => True) (okp := fun _ => True) ?hr ?hp (fun _ hk => hk) trivial (Below.refl _ _) (Nat.le_refl _) (by simp) ?_; (case hd => rfl); (case hg => rfl); (case hr => first | (go_simp; done) | (go_simp; rfl)); (case hp => exact (Reps.one (show Kd.M (Kd.int .i64) _ _ _ 8 [.int .i64 8] from rfl) (Reps.none _ _))); intro v151 w57 ho58 hb hg_ hnew_; clear hg_ hnew_; (first | rw [← Ny150.out] at ho58 | (simp only [Int.reduceToNat] at ho58; rw [← Ny150.out] at ho58)); have n0_ := Aside0.mk (Kd.R_elder' (by (with_reducible repeat (first | apply Kd.R_alloc | apply Kd.R_drewN | apply Kd.R_drew)); exact HO139.out) (Kd.R_base ho58) hb); have n1_ := Aside0.mk (Kd.N_elder' (by (with_reducible repeat (first | apply Kd.N_alloc | apply Kd.N_drewN | apply Kd.N_drew)); exact HO145.out) (Kd.R_base ho58) hb); have n2_ := Aside0.mk (Kd.R_below (by (with_reducible repeat (first | apply Kd.R_alloc | apply Kd.R_drewN | apply Kd.R_drew)); exact HO148.out) hb); have n3_ := Aside0.mk (Kd.R_lower (Kd.R_new' ho58 (Kd.R_lt (by (with_reducible repeat (first | apply Kd.R_alloc | apply Kd.R_drewN | apply Kd.R_drew)); exact HO139.out))) (below_size (by repeat (first | (with_reducible first | exact HB.out | apply below_alloc | apply pw_below_drewN | apply below_drew1) | exact HB.out)))); have n4_ := Aside0.mk (below_step (by repeat (first | (with_reducible first | exact HB.out | apply below_alloc | apply pw_below_drewN | apply below_drew1) | exact HB.out)) hb); clear HO139; clear HO145; clear HO148; clear HB; have HO139 := n0_; have HO145 := n1_; have HO148 := n2_; have HO152 := n3_; have HB := n4_; clear n0_ n1_ n2_ n3_ n4_; clear hb ho58; obtain ⟨Ao59, co59, eo59⟩ := Kd.R_slice HO152.out; subst eo59) | ((with_reducible refine gate_dst (N := 17) rfl ?_); refine Kd.R_lit k49 _ 49 ?hg (N := 17) ?hd (xs := ([(⟨11, 7⟩ : S49)] : List (S49))) (inner := [.int .i64 11, .int .i64 7]) (ok := fun _ => True) (okp := fun _ => True) ?hr ?hp (fun _ hk => hk) trivial (Below.refl _ _) (Nat.le_refl _) (by simp) ?_; (case hd => rfl); (case hg => rfl); (case hr => first | (go_simp; done) | (go_simp; rfl)); (case hp => exact (Reps.c2 (show Kd.M k49 _ _ _ (⟨11, 7⟩ : S49) [.int .i64 11, .int .i64 7] from (k49_mkM _ _ _ (⟨11, 7⟩ : S49) )) (Reps.none _ _))); intro v154 w60 ho61 hb hg_ hnew_; clear hg_ hnew_; (first | rw [← Ny153.out] at ho61 | (simp only [Int.reduceToNat] at ho61; rw [← Ny153.out] at ho61)); have n0_ := Aside0.mk (Kd.R_below (by (with_reducible repeat (first | apply Kd.R_alloc | apply Kd.R_drewN | apply Kd.R_drew)); exact HO139.out) hb); have n1_ := Aside0.mk (Kd.N_elder' (by (with_reducible repeat (first | apply Kd.N_alloc | apply Kd.N_drewN | apply Kd.N_drew)); exact HO145.out) (Kd.R_base ho61) hb); have n2_ := Aside0.mk (Kd.R_below (by (with_reducible repeat (first | apply Kd.R_alloc | apply Kd.R_drewN | apply Kd.R_drew)); exact HO148.out) hb); have n3_ := Aside0.mk (Kd.R_below (by (with_reducible repeat (first | apply Kd.R_alloc | apply Kd.R_drewN | apply Kd.R_drew)); exact HO152.out) hb); have n4_ := Aside0.mk (Kd.R_lower ho61 (below_size (by repeat (first | (with_reducible first | exact HB.out | apply below_alloc | apply pw_below_drewN | apply below_drew1) | exact HB.out)))); have n5_ := Aside0.mk (below_step (by repeat (first | (with_reducible first | exact HB.out | apply below_alloc | apply pw_below_drewN | apply below_drew1) | exact HB.out)) hb); clear HO139; clear HO145; clear HO148; clear HO152; clear HB; have HO139 := n0_; have HO145 := n1_; have HO148 := n2_; have HO152 := n3_; have HO155 := n4_; have HB := n5_; clear n0_ n1_ n2_ n3_ n4_ n5_; clear hb ho61; obtain ⟨Ao62, co62, eo62⟩ := Kd.R_slice HO155.out; subst eo62) | ((with_reducible refine gate_dst (N := 18) rfl ?_); refine Kd.N_lit (Kd.slice 49 k49) _ 32 ?hg (N' := 18) ?hd (xs := ([y153] : List (List (S49)))) (inner := [.slice Ao62 y153.length co62]) (ok := (fun k_ => some k_ ≠ (.slice Ao54 t137.length co54 : Value).ownBlock ∧ some k_ ≠ (.slice Ao55 y143.length co55 : Value).ownBlock ∧ some k_ ≠ (v147 : Value).ownBlock ∧ some k_ ≠ (.slice Ao59 y150.length co59 : Value).ownBlock)) (okp := (fun k_ => some k_ ≠ (.slice Ao54 t137.length co54 : Value).ownBlock ∧ some k_ ≠ (.slice Ao55 y143.length co55 : Value).ownBlock ∧ some k_ ≠ (v147 : Value).ownBlock ∧ some k_ ≠ (.slice Ao59 y150.length co59 : Value).ownBlock)) ?hr ?hp (fun _ hk => hk) ((show ∀ k_, w60.heap.size ≤ k_ → (fun k_ => some k_ ≠ (.slice Ao54 t137.length co54 : Value).ownBlock ∧ some k_ ≠ (.slice Ao55 y143.length co55 : Value).ownBlock ∧ some k_ ≠ (v147 : Value).ownBlock ∧ some k_ ≠ (.slice Ao59 y150.length co59 : Value).ownBlock) k_ from fun k_ hk => ⟨Kd.fresh' (Kd.R_lt (by (with_reducible repeat (first | apply Kd.R_alloc | apply Kd.R_drewN | apply Kd.R_drew)); exact HO139.out)) k_ hk, Kd.fresh' (Kd.N_lt (by (with_reducible repeat (first | apply Kd.N_alloc | apply Kd.N_drewN | apply Kd.N_drew)); exact HO145.out)) k_ hk, Kd.fresh' (Kd.R_lt (by (with_reducible repeat (first | apply Kd.R_alloc | apply Kd.R_drewN | apply Kd.R_drew)); exact HO148.out)) k_ hk, Kd.fresh' (Kd.R_lt (by (with_reducible repeat (first | apply Kd.R_alloc | apply Kd.R_drewN | apply Kd.R_drew)); exact HO152.out)) k_ hk⟩) _ (Nat.le_refl _)) (Below.refl _ _) (Nat.le_refl _) (by simp) ?_; (case hd => rfl); (case hg => rfl); (case hr => first | (go_simp; done) | (go_simp; rfl)); (case hp => exact (Reps.one (show Kd.FK (Kd.slice 49 k49) _ _ y153 [.slice Ao62 y153.length co62] from (Kd.FK_slice_mk (Kd.R_reads' (Kd.R_mono (ok' := (fun k_ => some k_ ≠ (.slice Ao54 t137.length co54 : Value).ownBlock ∧ some k_ ≠ (.slice Ao55 y143.length co55 : Value).ownBlock ∧ some k_ ≠ (v147 : Value).ownBlock ∧ some k_ ≠ (.slice Ao59 y150.length co59 : Value).ownBlock)) (Kd.R_apart' (Kd.R_apart' (Kd.R_apart' (Kd.R_apart' (HO155.out) (Kd.R_typed HO139.out) (by decide)) (Kd.N_typed HO145.out) (by decide)) (Kd.R_typed HO148.out) (by decide)) (Kd.R_typed HO152.out) (by decide)) (fun k_ hk => ⟨hk.1.1.1.2, ⟨hk.1.1.2, ⟨hk.1.2, hk.2⟩⟩⟩))).2.1 (Kd.R_F (Kd.R_mono (ok' := (fun k_ => some k_ ≠ (.slice Ao54 t137.length co54 : Value).ownBlock ∧ some k_ ≠ (.slice Ao55 y143.length co55 : Value).ownBlock ∧ some k_ ≠ (v147 : Value).ownBlock ∧ some k_ ≠ (.slice Ao59 y150.length co59 : Value).ownBlock)) (Kd.R_apart' (Kd.R_apart' (Kd.R_apart' (Kd.R_apart' (HO155.out) (Kd.R_typed HO139.out) (by decide)) (Kd.N_typed HO145.out) (by decide)) (Kd.R_typed HO148.out) (by decide)) (Kd.R_typed HO152.out) (by decide)) (fun k_ hk => ⟨hk.1.1.1.2, ⟨hk.1.1.2, ⟨hk.1.2, hk.2⟩⟩⟩))))) (Reps.none _ _))); intro v157 w63 ho64 hb hg_ hnew_; clear hg_ hnew_; (first | rw [← Ny156.out] at ho64 | (simp only [Int.reduceToNat] at ho64; rw [← Ny156.out] at ho64)); have n0_ := Aside0.mk (Kd.R_below (by (with_reducible repeat (first | apply Kd.R_alloc | apply Kd.R_drewN | apply Kd.R_drew)); exact HO139.out) hb); have n1_ := Aside0.mk (Kd.N_elder' (by (with_reducible repeat (first | apply Kd.N_alloc | apply Kd.N_drewN | apply Kd.N_drew)); exact HO145.out) (Kd.N_base ho64) hb); have n2_ := Aside0.mk (Kd.R_below (by (with_reducible repeat (first | apply Kd.R_alloc | apply Kd.R_drewN | apply Kd.R_drew)); exact HO148.out) hb); have n3_ := Aside0.mk (Kd.R_below (by (with_reducible repeat (first | apply Kd.R_alloc | apply Kd.R_drewN | apply Kd.R_drew)); exact HO152.out) hb); have n4_ := Aside0.mk (Kd.N_lower ho64 (below_size (by repeat (first | (with_reducible first | exact HB.out | apply below_alloc | apply pw_below_drewN | apply below_drew1) | exact HB.out)))); have n5_ := Aside0.mk (below_step (by repeat (first | (with_reducible first | exact HB.out | apply below_alloc | apply pw_below_drewN | apply below_drew1) | exact HB.out)) hb); clear HO139; clear HO145; clear HO148; clear HO152; clear HB; clear HO155; have HO139 := n0_; have HO145 := n1_; have HO148 := n2_; have HO152 := n3_; have HO158 := n4_; have HB := n5_; clear n0_ n1_ n2_ n3_ n4_ n5_; clear hb ho64; obtain ⟨Ao65, co65, eo65⟩ := Kd.N_slice HO158.out; subst eo65) | ((with_reducible refine gate_callee (f := 9) rfl ?_); refine goesL_ (some 19) rfl rfl Try.func9 (by kernel_rfl) rfl #[.slice none 0 0, .agg #[.int .u8 2, .int .u8 0, .int .i64 7, .slice Ao59 y150.length co59], .slice Ao65 y156.length co65] rfl (by (try simp only [List.map_toArray, List.map_cons, List.map_nil]); first | done | rfl | (simp only [List.length_drop, List.length_take]; rfl)) ?_; (refine (sect_Put.calls _ _ ([] : List Int) 2 0 7 _ _ y150 _ _ y156 t159 t162 _ ?side1 ?side2 ?side3 ?side4 ?side5 ?side6 A3.out).mono ?_); (case side1 => exact Kd.C_nil _ _); (case side2 => exact Nat.le_refl _); (case side3 => repeat (first | exact (Kd.R_reads' HO152.out).2.2 | (with_reducible refine Kd.C_alloc ?_ _) | (with_reducible refine Kd.C_drewN ?_ _) | (with_reducible refine Kd.C_drew ?_))); (case side4 => exact (Kd.R_reads' HO152.out).2.1); (case side5 => repeat (first | exact (Kd.N_reads' HO158.out).2.2 | (with_reducible refine Kd.C_alloc ?_ _) | (with_reducible refine Kd.C_drewN ?_ _) | (with_reducible refine Kd.C_drew ?_))); (case side6 => exact (Kd.N_reads' HO158.out).2.1); rintro e w66 ⟨v160, rfl, ho0, hb⟩; refine ⟨_, rfl, ?_⟩; have n0_ := Aside0.mk (Kd.R_below (by (with_reducible repeat (first | apply Kd.R_alloc | apply Kd.R_drewN | apply Kd.R_drew)); exact HO139.out) hb); have n1_ := Aside0.mk (Kd.N_elder' (by (with_reducible repeat (first | apply Kd.N_alloc | apply Kd.N_drewN | apply Kd.N_drew)); exact HO145.out) (Kd.R_base ho0) hb); have n2_ := Aside0.mk (Kd.R_elder' (by (with_reducible repeat (first | apply Kd.R_alloc | apply Kd.R_drewN | apply Kd.R_drew)); exact HO148.out) (Kd.R_base ho0) hb); have n3_ := Aside0.mk (Kd.R_below (by (with_reducible repeat (first | apply Kd.R_alloc | apply Kd.R_drewN | apply Kd.R_drew)); exact HO152.out) hb); have n4_ := Aside0.mk (Kd.N_elder' (by (with_reducible repeat (first | apply Kd.N_alloc | apply Kd.N_drewN | apply Kd.N_drew)); exact HO158.out) (Kd.R_base ho0) hb); have n5_ := Aside0.mk (Kd.R_lower (Kd.R_new' ho0 (Kd.R_lt (by (with_reducible repeat (first | apply Kd.R_alloc | apply Kd.R_drewN | apply Kd.R_drew)); exact HO148.out))) (below_size (by repeat (first | (with_reducible first | exact HB.out | apply below_alloc | apply pw_below_drewN | apply below_drew1) | exact HB.out)))); have n6_ := Aside0.mk (below_step (by repeat (first | (with_reducible first | exact HB.out | apply below_alloc | apply pw_below_drewN | apply below_drew1) | exact HB.out)) hb); clear HO139; clear HO145; clear HO148; clear HO152; clear HO158; clear HB; have HO139 := n0_; have HO145 := n1_; have HO148 := n2_; have HO152 := n3_; have HO158 := n4_; have HO161 := n5_; have HB := n6_; clear n0_ n1_ n2_ n3_ n4_ n5_ n6_; (try clear hb); (try clear hb2); (try clear hk); (try clear hi); (try clear ho0); have hcv67 := own_string (P := Try.prog) Try.underlying28 Try.underlying5 Try.underlying9 (Kd.own_of_R HO148.out)))
      go_ret
      exact ⟨by first | rfl | (simp [errW_none, errW_some] <;> rfl) | (simp [*, errW_none, errW_some] <;> rfl), by repeat (first | (with_reducible first | exact HB.out | apply below_alloc | apply pw_below_drewN | apply below_drew1) | exact HB.out)⟩
  · rw [if_neg c4] at H
    have c4b0 : (t149 == 0) = false := beq_eq_false_iff_ne.mpr c4
    have c4b1 : (t149 != 0) = true := bne_iff_ne.mpr c4
    obtain rfl := Option.some.inj H
    go_enter Try.func7, Try.ntmps7
    go_wp2_with (first | ((with_reducible refine gate_callee (f := 12) rfl ?_); refine goesL_ (some 6) rfl rfl Try.func12 (by kernel_rfl) rfl #[] rfl (by (try simp only [List.map_toArray, List.map_cons, List.map_nil]); first | done | rfl | (simp only [List.length_drop, List.length_take]; rfl)) ?_; (with_reducible refine (reedpipelaw19_long.calls  t134 t135 t136 t137 _ A1.out).mono ?_); rintro e w68 ⟨v138, rfl, ho0, hb⟩; refine ⟨_, rfl, ?_⟩; have n0_ := Aside0.mk (Kd.R_lower ho0 (below_size (by repeat (first | (with_reducible first | exact HB.out | apply below_alloc | apply pw_below_drewN | apply below_drew1) | exact HB.out)))); have n1_ := Aside0.mk (below_step (by repeat (first | (with_reducible first | exact HB.out | apply below_alloc | apply pw_below_drewN | apply below_drew1) | exact HB.out)) hb); clear HB; have HO139 := n0_; have HB := n1_; clear n0_ n1_; (try clear hb); (try clear hb2); (try clear hk); (try clear hi); (try clear ho0)) | ((with_reducible refine gate_dst (N := 8) rfl ?_); refine Kd.R_lit k49 _ 49 ?hg (N := 8) ?hd (xs := ([(⟨2, 3⟩ : S49)] : List (S49))) (inner := [.int .i64 2, .int .i64 3]) (ok := fun _ => True) (okp := fun _ => True) ?hr ?hp (fun _ hk => hk) trivial (Below.refl _ _) (Nat.le_refl _) (by simp) ?_; (case hd => rfl); (case hg => rfl); (case hr => first | (go_simp; done) | (go_simp; rfl)); (case hp => exact (Reps.c2 (show Kd.M k49 _ _ _ (⟨2, 3⟩ : S49) [.int .i64 2, .int .i64 3] from (k49_mkM _ _ _ (⟨2, 3⟩ : S49) )) (Reps.none _ _))); intro v141 w69 ho70 hb hg_ hnew_; clear hg_ hnew_; (first | rw [← Ny140.out] at ho70 | (simp only [Int.reduceToNat] at ho70; rw [← Ny140.out] at ho70)); have n0_ := Aside0.mk (Kd.R_below (by (with_reducible repeat (first | apply Kd.R_alloc | apply Kd.R_drewN | apply Kd.R_drew)); exact HO139.out) hb); have n1_ := Aside0.mk (Kd.R_lower ho70 (below_size (by repeat (first | (with_reducible first | exact HB.out | apply below_alloc | apply pw_below_drewN | apply below_drew1) | exact HB.out)))); have n2_ := Aside0.mk (below_step (by repeat (first | (with_reducible first | exact HB.out | apply below_alloc | apply pw_below_drewN | apply below_drew1) | exact HB.out)) hb); clear HO139; clear HB; have HO139 := n0_; have HO142 := n1_; have HB := n2_; clear n0_ n1_ n2_; clear hb ho70; obtain ⟨Ao71, co71, eo71⟩ := Kd.R_slice HO142.out; subst eo71) | ((with_reducible refine gate_dst (N := 9) rfl ?_); refine Kd.N_lit (Kd.slice 49 k49) _ 32 ?hg (N' := 9) ?hd (xs := ([y140] : List (List (S49)))) (inner := [.slice Ao71 y140.length co71]) (ok := (fun k_ => some k_ ≠ (v138 : Value).ownBlock)) (okp := (fun k_ => some k_ ≠ (v138 : Value).ownBlock)) ?hr ?hp (fun _ hk => hk) ((show ∀ k_, w69.heap.size ≤ k_ → (fun k_ => some k_ ≠ (v138 : Value).ownBlock) k_ from fun k_ hk => Kd.fresh' (Kd.R_lt (by (with_reducible repeat (first | apply Kd.R_alloc | apply Kd.R_drewN | apply Kd.R_drew)); exact HO139.out)) k_ hk) _ (Nat.le_refl _)) (Below.refl _ _) (Nat.le_refl _) (by simp) ?_; (case hd => rfl); (case hg => rfl); (case hr => first | (go_simp; done) | (go_simp; rfl)); (case hp => exact (Reps.one (show Kd.FK (Kd.slice 49 k49) _ _ y140 [.slice Ao71 y140.length co71] from (Kd.FK_slice_mk (Kd.R_reads' (Kd.R_mono (ok' := (fun k_ => some k_ ≠ (v138 : Value).ownBlock)) (Kd.R_apart' (HO142.out) (Kd.R_typed HO139.out) (by decide)) (fun k_ hk => hk.2))).2.1 (Kd.R_F (Kd.R_mono (ok' := (fun k_ => some k_ ≠ (v138 : Value).ownBlock)) (Kd.R_apart' (HO142.out) (Kd.R_typed HO139.out) (by decide)) (fun k_ hk => hk.2))))) (Reps.none _ _))); intro v144 w72 ho73 hb hg_ hnew_; clear hg_ hnew_; (first | rw [← Ny143.out] at ho73 | (simp only [Int.reduceToNat] at ho73; rw [← Ny143.out] at ho73)); have n0_ := Aside0.mk (Kd.R_below (by (with_reducible repeat (first | apply Kd.R_alloc | apply Kd.R_drewN | apply Kd.R_drew)); exact HO139.out) hb); have n1_ := Aside0.mk (Kd.N_lower ho73 (below_size (by repeat (first | (with_reducible first | exact HB.out | apply below_alloc | apply pw_below_drewN | apply below_drew1) | exact HB.out)))); have n2_ := Aside0.mk (below_step (by repeat (first | (with_reducible first | exact HB.out | apply below_alloc | apply pw_below_drewN | apply below_drew1) | exact HB.out)) hb); clear HO139; clear HB; clear HO142; have HO139 := n0_; have HO145 := n1_; have HB := n2_; clear n0_ n1_ n2_; clear hb ho73; obtain ⟨Ao74, co74, eo74⟩ := Kd.R_slice HO139.out; subst eo74; obtain ⟨Ao75, co75, eo75⟩ := Kd.N_slice HO145.out; subst eo75) | ((with_reducible refine gate_callee (f := 9) rfl ?_); refine goesL_ (some 10) rfl rfl Try.func9 (by kernel_rfl) rfl #[.slice none 0 0, .agg #[.int .u8 t134, .int .u8 t135, .int .i64 t136, .slice Ao74 t137.length co74], .slice Ao75 y143.length co75] rfl (by (try simp only [List.map_toArray, List.map_cons, List.map_nil]); first | done | rfl | (simp only [List.length_drop, List.length_take]; rfl)) ?_; (refine (sect_Put.calls _ _ ([] : List Int) t134 t135 t136 _ _ t137 _ _ y143 t146 t149 _ ?side1 ?side2 ?side3 ?side4 ?side5 ?side6 A2.out).mono ?_); (case side1 => exact Kd.C_nil _ _); (case side2 => exact Nat.le_refl _); (case side3 => repeat (first | exact (Kd.R_reads' HO139.out).2.2 | (with_reducible refine Kd.C_alloc ?_ _) | (with_reducible refine Kd.C_drewN ?_ _) | (with_reducible refine Kd.C_drew ?_))); (case side4 => exact (Kd.R_reads' HO139.out).2.1); (case side5 => repeat (first | exact (Kd.N_reads' HO145.out).2.2 | (with_reducible refine Kd.C_alloc ?_ _) | (with_reducible refine Kd.C_drewN ?_ _) | (with_reducible refine Kd.C_drew ?_))); (case side6 => exact (Kd.N_reads' HO145.out).2.1); rintro e w76 ⟨v147, rfl, ho0, hb⟩; refine ⟨_, rfl, ?_⟩; have n0_ := Aside0.mk (Kd.R_below (by (with_reducible repeat (first | apply Kd.R_alloc | apply Kd.R_drewN | apply Kd.R_drew)); exact HO139.out) hb); have n1_ := Aside0.mk (Kd.N_elder' (by (with_reducible repeat (first | apply Kd.N_alloc | apply Kd.N_drewN | apply Kd.N_drew)); exact HO145.out) (Kd.R_base ho0) hb); have n2_ := Aside0.mk (Kd.R_lower ho0 (below_size (by repeat (first | (with_reducible first | exact HB.out | apply below_alloc | apply pw_below_drewN | apply below_drew1) | exact HB.out)))); have n3_ := Aside0.mk (below_step (by repeat (first | (with_reducible first | exact HB.out | apply below_alloc | apply pw_below_drewN | apply below_drew1) | exact HB.out)) hb); clear HO139; clear HO145; clear HB; have HO139 := n0_; have HO145 := n1_; have HO148 := n2_; have HB := n3_; clear n0_ n1_ n2_ n3_; (try clear hb); (try clear hb2); (try clear hk); (try clear hi); (try clear ho0)) | ((with_reducible refine gate_dst (N := 14) rfl ?_); refine Kd.R_lit (Kd.int .i64) _ 3 ?hg (N := 14) ?hd (xs := ([8] : List Int)) (inner := [.int .i64 8]) (ok := fun _ => True) (okp := fun _ => True) ?hr ?hp (fun _ hk => hk) trivial (Below.refl _ _) (Nat.le_refl _) (by simp) ?_; (case hd => rfl); (case hg => rfl); (case hr => first | (go_simp; done) | (go_simp; rfl)); (case hp => exact (Reps.one (show Kd.M (Kd.int .i64) _ _ _ 8 [.int .i64 8] from rfl) (Reps.none _ _))); intro v151 w77 ho78 hb hg_ hnew_; clear hg_ hnew_; (first | rw [← Ny150.out] at ho78 | (simp only [Int.reduceToNat] at ho78; rw [← Ny150.out] at ho78)); have n0_ := Aside0.mk (Kd.R_elder' (by (with_reducible repeat (first | apply Kd.R_alloc | apply Kd.R_drewN | apply Kd.R_drew)); exact HO139.out) (Kd.R_base ho78) hb); have n1_ := Aside0.mk (Kd.N_elder' (by (with_reducible repeat (first | apply Kd.N_alloc | apply Kd.N_drewN | apply Kd.N_drew)); exact HO145.out) (Kd.R_base ho78) hb); have n2_ := Aside0.mk (Kd.R_below (by (with_reducible repeat (first | apply Kd.R_alloc | apply Kd.R_drewN | apply Kd.R_drew)); exact HO148.out) hb); have n3_ := Aside0.mk (Kd.R_lower (Kd.R_new' ho78 (Kd.R_lt (by (with_reducible repeat (first | apply Kd.R_alloc | apply Kd.R_drewN | apply Kd.R_drew)); exact HO139.out))) (below_size (by repeat (first | (with_reducible first | exact HB.out | apply below_alloc | apply pw_below_drewN | apply below_drew1) | exact HB.out)))); have n4_ := Aside0.mk (below_step (by repeat (first | (with_reducible first | exact HB.out | apply below_alloc | apply pw_below_drewN | apply below_drew1) | exact HB.out)) hb); clear HO139; clear HO145; clear HO148; clear HB; have HO139 := n0_; have HO145 := n1_; have HO148 := n2_; have HO152 := n3_; have HB := n4_; clear n0_ n1_ n2_ n3_ n4_; clear hb ho78; obtain ⟨Ao79, co79, eo79⟩ := Kd.R_slice HO152.out; subst eo79) | ((with_reducible refine gate_dst (N := 17) rfl ?_); refine Kd.R_lit k49 _ 49 ?hg (N := 17) ?hd (xs := ([(⟨11, 7⟩ : S49)] : List (S49))) (inner := [.int .i64 11, .int .i64 7]) (ok := fun _ => True) (okp := fun _ => True) ?hr ?hp (fun _ hk => hk) trivial (Below.refl _ _) (Nat.le_refl _) (by simp) ?_; (case hd => rfl); (case hg => rfl); (case hr => first | (go_simp; done) | (go_simp; rfl)); (case hp => exact (Reps.c2 (show Kd.M k49 _ _ _ (⟨11, 7⟩ : S49) [.int .i64 11, .int .i64 7] from (k49_mkM _ _ _ (⟨11, 7⟩ : S49) )) (Reps.none _ _))); intro v154 w80 ho81 hb hg_ hnew_; clear hg_ hnew_; (first | rw [← Ny153.out] at ho81 | (simp only [Int.reduceToNat] at ho81; rw [← Ny153.out] at ho81)); have n0_ := Aside0.mk (Kd.R_below (by (with_reducible repeat (first | apply Kd.R_alloc | apply Kd.R_drewN | apply Kd.R_drew)); exact HO139.out) hb); have n1_ := Aside0.mk (Kd.N_elder' (by (with_reducible repeat (first | apply Kd.N_alloc | apply Kd.N_drewN | apply Kd.N_drew)); exact HO145.out) (Kd.R_base ho81) hb); have n2_ := Aside0.mk (Kd.R_below (by (with_reducible repeat (first | apply Kd.R_alloc | apply Kd.R_drewN | apply Kd.R_drew)); exact HO148.out) hb); have n3_ := Aside0.mk (Kd.R_below (by (with_reducible repeat (first | apply Kd.R_alloc | apply Kd.R_drewN | apply Kd.R_drew)); exact HO152.out) hb); have n4_ := Aside0.mk (Kd.R_lower ho81 (below_size (by repeat (first | (with_reducible first | exact HB.out | apply below_alloc | apply pw_below_drewN | apply below_drew1) | exact HB.out)))); have n5_ := Aside0.mk (below_step (by repeat (first | (with_reducible first | exact HB.out | apply below_alloc | apply pw_below_drewN | apply below_drew1) | exact HB.out)) hb); clear HO139; clear HO145; clear HO148; clear HO152; clear HB; have HO139 := n0_; have HO145 := n1_; have HO148 := n2_; have HO152 := n3_; have HO155 := n4_; have HB := n5_; clear n0_ n1_ n2_ n3_ n4_ n5_; clear hb ho81; obtain ⟨Ao82, co82, eo82⟩ := Kd.R_slice HO155.out; subst eo82) | ((with_reducible refine gate_dst (N := 18) rfl ?_); refine Kd.N_lit (Kd.slice 49 k49) _ 32 ?hg (N' := 18) ?hd (xs := ([y153] : List (List (S49)))) (inner := [.slice Ao82 y153.length co82]) (ok := (fun k_ => some k_ ≠ (.slice Ao74 t137.length co74 : Value).ownBlock ∧ some k_ ≠ (.slice Ao75 y143.length co75 : Value).ownBlock ∧ some k_ ≠ (v147 : Value).ownBlock ∧ some k_ ≠ (.slice Ao79 y150.length co79 : Value).ownBlock)) (okp := (fun k_ => some k_ ≠ (.slice Ao74 t137.length co74 : Value).ownBlock ∧ some k_ ≠ (.slice Ao75 y143.length co75 : Value).ownBlock ∧ some k_ ≠ (v147 : Value).ownBlock ∧ some k_ ≠ (.slice Ao79 y150.length co79 : Value).ownBlock)) ?hr ?hp (fun _ hk => hk) ((show ∀ k_, w80.heap.size ≤ k_ → (fun k_ => some k_ ≠ (.slice Ao74 t137.length co74 : Value).ownBlock ∧ some k_ ≠ (.slice Ao75 y143.length co75 : Value).ownBlock ∧ some k_ ≠ (v147 : Value).ownBlock ∧ some k_ ≠ (.slice Ao79 y150.length co79 : Value).ownBlock) k_ from fun k_ hk => ⟨Kd.fresh' (Kd.R_lt (by (with_reducible repeat (first | apply Kd.R_alloc | apply Kd.R_drewN | apply Kd.R_drew)); exact HO139.out)) k_ hk, Kd.fresh' (Kd.N_lt (by (with_reducible repeat (first | apply Kd.N_alloc | apply Kd.N_drewN | apply Kd.N_drew)); exact HO145.out)) k_ hk, Kd.fresh' (Kd.R_lt (by (with_reducible repeat (first | apply Kd.R_alloc | apply Kd.R_drewN | apply Kd.R_drew)); exact HO148.out)) k_ hk, Kd.fresh' (Kd.R_lt (by (with_reducible repeat (first | apply Kd.R_alloc | apply Kd.R_drewN | apply Kd.R_drew)); exact HO152.out)) k_ hk⟩) _ (Nat.le_refl _)) (Below.refl _ _) (Nat.le_refl _) (by simp) ?_; (case hd => rfl); (case hg => rfl); (case hr => first | (go_simp; done) | (go_simp; rfl)); (case hp => exact (Reps.one (show Kd.FK (Kd.slice 49 k49) _ _ y153 [.slice Ao82 y153.length co82] from (Kd.FK_slice_mk (Kd.R_reads' (Kd.R_mono (ok' := (fun k_ => some k_ ≠ (.slice Ao74 t137.length co74 : Value).ownBlock ∧ some k_ ≠ (.slice Ao75 y143.length co75 : Value).ownBlock ∧ some k_ ≠ (v147 : Value).ownBlock ∧ some k_ ≠ (.slice Ao79 y150.length co79 : Value).ownBlock)) (Kd.R_apart' (Kd.R_apart' (Kd.R_apart' (Kd.R_apart' (HO155.out) (Kd.R_typed HO139.out) (by decide)) (Kd.N_typed HO145.out) (by decide)) (Kd.R_typed HO148.out) (by decide)) (Kd.R_typed HO152.out) (by decide)) (fun k_ hk => ⟨hk.1.1.1.2, ⟨hk.1.1.2, ⟨hk.1.2, hk.2⟩⟩⟩))).2.1 (Kd.R_F (Kd.R_mono (ok' := (fun k_ => some k_ ≠ (.slice Ao74 t137.length co74 : Value).ownBlock ∧ some k_ ≠ (.slice Ao75 y143.length co75 : Value).ownBlock ∧ some k_ ≠ (v147 : Value).ownBlock ∧ some k_ ≠ (.slice Ao79 y150.length co79 : Value).ownBlock)) (Kd.R_apart' (Kd.R_apart' (Kd.R_apart' (Kd.R_apart' (HO155.out) (Kd.R_typed HO139.out) (by decide)) (Kd.N_typed HO145.out) (by decide)) (Kd.R_typed HO148.out) (by decide)) (Kd.R_typed HO152.out) (by decide)) (fun k_ hk => ⟨hk.1.1.1.2, ⟨hk.1.1.2, ⟨hk.1.2, hk.2⟩⟩⟩))))) (Reps.none _ _))); intro v157 w83 ho84 hb hg_ hnew_; clear hg_ hnew_; (first | rw [← Ny156.out] at ho84 | (simp only [Int.reduceToNat] at ho84; rw [← Ny156.out] at ho84)); have n0_ := Aside0.mk (Kd.R_below (by (with_reducible repeat (first | apply Kd.R_alloc | apply Kd.R_drewN | apply Kd.R_drew)); exact HO139.out) hb); have n1_ := Aside0.mk (Kd.N_elder' (by (with_reducible repeat (first | apply Kd.N_alloc | apply Kd.N_drewN | apply Kd.N_drew)); exact HO145.out) (Kd.N_base ho84) hb); have n2_ := Aside0.mk (Kd.R_below (by (with_reducible repeat (first | apply Kd.R_alloc | apply Kd.R_drewN | apply Kd.R_drew)); exact HO148.out) hb); have n3_ := Aside0.mk (Kd.R_below (by (with_reducible repeat (first | apply Kd.R_alloc | apply Kd.R_drewN | apply Kd.R_drew)); exact HO152.out) hb); have n4_ := Aside0.mk (Kd.N_lower ho84 (below_size (by repeat (first | (with_reducible first | exact HB.out | apply below_alloc | apply pw_below_drewN | apply below_drew1) | exact HB.out)))); have n5_ := Aside0.mk (below_step (by repeat (first | (with_reducible first | exact HB.out | apply below_alloc | apply pw_below_drewN | apply below_drew1) | exact HB.out)) hb); clear HO139; clear HO145; clear HO148; clear HO152; clear HB; clear HO155; have HO139 := n0_; have HO145 := n1_; have HO148 := n2_; have HO152 := n3_; have HO158 := n4_; have HB := n5_; clear n0_ n1_ n2_ n3_ n4_ n5_; clear hb ho84; obtain ⟨Ao85, co85, eo85⟩ := Kd.N_slice HO158.out; subst eo85) | ((with_reducible refine gate_callee (f := 9) rfl ?_); refine goesL_ (some 19) rfl rfl Try.func9 (by kernel_rfl) rfl #[.slice none 0 0, .agg #[.int .u8 2, .int .u8 0, .int .i64 7, .slice Ao79 y150.length co79], .slice Ao85 y156.length co85] rfl (by (try simp only [List.map_toArray, List.map_cons, List.map_nil]); first | done | rfl | (simp only [List.length_drop, List.length_take]; rfl)) ?_; (refine (sect_Put.calls _ _ ([] : List Int) 2 0 7 _ _ y150 _ _ y156 t159 t162 _ ?side1 ?side2 ?side3 ?side4 ?side5 ?side6 A3.out).mono ?_); (case side1 => exact Kd.C_nil _ _); (case side2 => exact Nat.le_refl _); (case side3 => repeat (first | exact (Kd.R_reads' HO152.out).2.2 | (with_reducible refine Kd.C_alloc ?_ _) | (with_reducible refine Kd.C_drewN ?_ _) | (with_reducible refine Kd.C_drew ?_))); (case side4 => exact (Kd.R_reads' HO152.out).2.1); (case side5 => repeat (first | exact (Kd.N_reads' HO158.out).2.2 | (with_reducible refine Kd.C_alloc ?_ _) | (with_reducible refine Kd.C_drewN ?_ _) | (with_reducible refine Kd.C_drew ?_))); (case side6 => exact (Kd.N_reads' HO158.out).2.1); rintro e w86 ⟨v160, rfl, ho0, hb⟩; refine ⟨_, rfl, ?_⟩; have n0_ := Aside0.mk (Kd.R_below (by (with_reducible repeat (first | apply Kd.R_alloc | apply Kd.R_drewN | apply Kd.R_drew)); exact HO139.out) hb); have n1_ := Aside0.mk (Kd.N_elder' (by (with_reducible repeat (first | apply Kd.N_alloc | apply Kd.N_drewN | apply Kd.N_drew)); exact HO145.out) (Kd.R_base ho0) hb); have n2_ := Aside0.mk (Kd.R_elder' (by (with_reducible repeat (first | apply Kd.R_alloc | apply Kd.R_drewN | apply Kd.R_drew)); exact HO148.out) (Kd.R_base ho0) hb); have n3_ := Aside0.mk (Kd.R_below (by (with_reducible repeat (first | apply Kd.R_alloc | apply Kd.R_drewN | apply Kd.R_drew)); exact HO152.out) hb); have n4_ := Aside0.mk (Kd.N_elder' (by (with_reducible repeat (first | apply Kd.N_alloc | apply Kd.N_drewN | apply Kd.N_drew)); exact HO158.out) (Kd.R_base ho0) hb); have n5_ := Aside0.mk (Kd.R_lower (Kd.R_new' ho0 (Kd.R_lt (by (with_reducible repeat (first | apply Kd.R_alloc | apply Kd.R_drewN | apply Kd.R_drew)); exact HO148.out))) (below_size (by repeat (first | (with_reducible first | exact HB.out | apply below_alloc | apply pw_below_drewN | apply below_drew1) | exact HB.out)))); have n6_ := Aside0.mk (below_step (by repeat (first | (with_reducible first | exact HB.out | apply below_alloc | apply pw_below_drewN | apply below_drew1) | exact HB.out)) hb); clear HO139; clear HO145; clear HO148; clear HO152; clear HO158; clear HB; have HO139 := n0_; have HO145 := n1_; have HO148 := n2_; have HO152 := n3_; have HO158 := n4_; have HO161 := n5_; have HB := n6_; clear n0_ n1_ n2_ n3_ n4_ n5_ n6_; (try clear hb); (try clear hb2); (try clear hk); (try clear hi); (try clear ho0)))
    go_ret
    exact ⟨by first | rfl | (simp [errW_none, errW_some] <;> rfl) | (simp [*, errW_none, errW_some] <;> rfl), by repeat (first | (with_reducible first | exact HB.out | apply below_alloc | apply pw_below_drewN | apply below_drew1) | exact HB.out)⟩

end Go.Proofs.Ytjdlochffpikbaa.K
end
section
-- Written for this claim by this session's own wip/hook.py (it runs the kit's print and takes some functions' contracts as given texts of this session's).
namespace Go.Proofs.Ytjdlochffpikbaa.K
open Go.RowKit Go.Proofs.YtjdlochffpikbaaW.PrintWords Go.Proofs.YtjdlochffpikbaaW.PrintLast Go.Proofs.YtjdlochffpikbaaW.PrintMore
attribute [local go_sem] max2_int min2_int max_two min_two max_three min_three max_four min_four   -- for this text's walks alone
set_option linter.unusedVariables false
set_option linter.unusedSimpArgs false

/-! ### reedpiperef19_Great: function 8 -/
mutual
def reedpiperef19_Great.l0 : Nat → List (List (S49)) → Int → Option (Bool)
  | 0, _, _ => none
  | k + 1, x0, x3 => if x3 < (x0.length : Int) then (reedpiperef19_Great.j1 k x0 x3 (decide (x3 < 100))) else (reedpiperef19_Great.j1 k x0 x3 false)
def reedpiperef19_Great.j1 : Nat → List (List (S49)) → Int → Bool → Option (Bool)
  | 0, _, _, _ => none
  | k + 1, x0, x3, x11 => if x11 = true then (if 0 ≤ x3 then (if x3 < (x0.length : Int) then (if ((rd_L4 x0 x3).length : Int) > 200 then (some true) else (reedpiperef19_Great.l0 k x0 (wrap64 (x3 + 1)))) else (none)) else (none)) else (some (decide ((x0.length : Int) > 100)))
end
def reedpiperef19_Great.f (k : Nat) (l0 : List (List (S49))) : Option (Bool) := reedpiperef19_Great.l0 k l0 0
theorem reedpiperef19_Great.mono_l : ∀ k, (∀ y0 y1, LeO (reedpiperef19_Great.l0 k y0 y1) (reedpiperef19_Great.l0 (k + 1) y0 y1)) ∧ (∀ y0 y1 y2, LeO (reedpiperef19_Great.j1 k y0 y1 y2) (reedpiperef19_Great.j1 (k + 1) y0 y1 y2))
  | 0 => ⟨fun _ _ r h => by simp [reedpiperef19_Great.l0] at h, fun _ _ _ r h => by simp [reedpiperef19_Great.j1] at h⟩
  | k + 1 => by
    obtain ⟨ih0, ih1⟩ := reedpiperef19_Great.mono_l k
    refine ⟨?_, ?_⟩
    · intro y0 y1
      unfold reedpiperef19_Great.l0
      repeat' first
      | (with_reducible exact ih0 _ _)
      | (with_reducible exact ih1 _ _ _)
      | (with_reducible exact LeO.refl _)
      | (with_reducible exact LeO.none _)
      | (with_reducible refine LeO.ite ?_ ?_)
      | (with_reducible refine LeO.bind ?_ (fun _ => ?_))
      | exact ih0 _ _
      | exact ih1 _ _ _
      | exact LeO.none _
      | refine LeO.ite ?_ ?_
      | refine LeO.bind ?_ (fun _ => ?_)
    · intro y0 y1 y2
      unfold reedpiperef19_Great.j1
      repeat' first
      | (with_reducible exact ih0 _ _)
      | (with_reducible exact ih1 _ _ _)
      | (with_reducible exact LeO.refl _)
      | (with_reducible exact LeO.none _)
      | (with_reducible refine LeO.ite ?_ ?_)
      | (with_reducible refine LeO.bind ?_ (fun _ => ?_))
      | exact ih0 _ _
      | exact ih1 _ _ _
      | exact LeO.none _
      | refine LeO.ite ?_ ?_
      | refine LeO.bind ?_ (fun _ => ?_)
theorem reedpiperef19_Great.mono : ∀ a0 k, LeO (reedpiperef19_Great.f k a0) (reedpiperef19_Great.f (k + 1) a0) := by
  intro a0 k
  obtain ⟨ih0, ih1⟩ := reedpiperef19_Great.mono_l k
  unfold reedpiperef19_Great.f
  repeat' first
      | (with_reducible exact ih0 _ _)
      | (with_reducible exact ih1 _ _ _)
      | (with_reducible exact LeO.refl _)
      | (with_reducible exact LeO.none _)
      | (with_reducible refine LeO.ite ?_ ?_)
      | (with_reducible refine LeO.bind ?_ (fun _ => ?_))
      | exact ih0 _ _
      | exact ih1 _ _ _
      | exact LeO.none _
      | refine LeO.ite ?_ ?_
      | refine LeO.bind ?_ (fun _ => ?_)
set_option maxHeartbeats 8000000 in
set_option maxRecDepth 100000 in
theorem reedpiperef19_Great.calls (k : Nat) (A0 : Option Addr) (c0 : Nat) (l0 : List (List (S49))) (r : Bool) (w : World) (hr0 : Kd.C (Kd.slice 49 k49) w A0 l0.length l0) (hc0 : l0.length ≤ c0) (h : reedpiperef19_Great.f k l0 = some r) :
    Calls Try.prog 8 #[.slice A0 l0.length c0] w fun e w' => e = .returned (.bool r) ∧ Drawn0 w w' := by
  have HR0 := Aside0.mk hr0
  have HC0 := Aside0.mk hc0
  clear hr0 hc0
  have H : (reedpiperef19_Great.l0 k l0 0) = some r := h
  clear h
  have H' := Aside0.mk H
  clear H
  go_enter Try.func8, Try.ntmps8
  go_wp2
  go_loopg [3] k (fun kq v3 w' => ∃ (x3_1 : Int), v3 = .int .i64 x3_1 ∧ Aside0 (reedpiperef19_Great.l0 kq l0 x3_1 = some r) ∧ Aside0 (kq ≤ k) ∧ Drawn0 w w')
  case atStart => exact ⟨(0), (by first | rfl | (simp; done) | (simp [*]; done)), H', ⟨Nat.le_refl _⟩, by repeat (first | exact Drawn0.refl _ | apply Drawn0.step)⟩
  case round =>
    clear H'
    obtain ⟨x3_1, rfl, HA, HK1, ⟨m1, rfl⟩⟩ := hrel
    cases gk with
    | zero => exact absurd HA.out (by simp [reedpiperef19_Great.l0])
    | succ k1 =>
      have H := HA.out
      clear HA
      simp only [reedpiperef19_Great.l0] at H
      have HC2 := Aside0.mk H
      clear H
      go_upto_region 2 with (fail)
      go_cut [11] (fun v11 wc => ∃ (kq : Nat) (x11_1 : Bool), v11 = .bool x11_1 ∧ Aside0 (reedpiperef19_Great.j1 kq l0 x3_1 x11_1 = some r) ∧ Aside0 (kq ≤ k1) ∧ Drawn0 w wc)
      case first =>
        have H := HC2.out
        clear HC2
        by_cases c3 : x3_1 < (l0.length : Int)
        · rw [if_pos c3] at H
          have c3b0 : decide (x3_1 < (l0.length : Int)) = true := decide_eq_true c3
          clear c3
          (first | rw [c3b0] | (simp only [i64_w, i32_w]; rw [c3b0]) | skip)
          have H' := Aside0.mk H
          clear H
          go_wp2
          go_meet
          case rel => exact ⟨_, (decide (x3_1 < 100)), (by first | rfl | (simp; done) | (simp [*]; done)), H', ⟨by have := HK1.out; first | omega | exact Nat.le_refl _⟩, by repeat (first | exact Drawn0.refl _ | apply Drawn0.step)⟩
        · rw [if_neg c3] at H
          have c3b0 : decide (x3_1 < (l0.length : Int)) = false := decide_eq_false c3
          clear c3
          (first | rw [c3b0] | (simp only [i64_w, i32_w]; rw [c3b0]) | skip)
          have H' := Aside0.mk H
          clear H
          go_wp2
          go_meet
          case rel => exact ⟨_, (false), (by first | rfl | (simp; done) | (simp [*]; done)), H', ⟨by have := HK1.out; first | omega | exact Nat.le_refl _⟩, by repeat (first | exact Drawn0.refl _ | apply Drawn0.step)⟩
      case rest =>
        clear HC2
        try clear p2
        try clear c3
        try clear c3b0
        obtain ⟨kq, x11_1, rfl, HA, HJ1, ⟨mc1, rfl⟩⟩ := hcut
        cases kq with
        | zero => exact absurd HA.out (by simp [reedpiperef19_Great.j1])
        | succ kj1 =>
          have H := HA.out
          clear HA
          simp only [reedpiperef19_Great.j1] at H
          by_cases c4 : x11_1 = true
          · subst c4
            have H1 : (if 0 ≤ x3_1 then (if x3_1 < (l0.length : Int) then (if ((rd_L4 l0 x3_1).length : Int) > 200 then (some true) else (reedpiperef19_Great.l0 kj1 l0 (wrap64 (x3_1 + 1)))) else (none)) else (none)) = some r := by rw [if_pos rfl] at H; exact H
            clear H
            have H := H1
            clear H1
            by_cases c5 : 0 ≤ x3_1
            · rw [if_pos c5] at H
              have c5b0 : decide (0 ≤ x3_1) = true := decide_eq_true c5
              clear c5
              by_cases c6 : x3_1 < (l0.length : Int)
              · rw [if_pos c6] at H
                have c6b0 : decide (x3_1 < (l0.length : Int)) = true := decide_eq_true c6
                clear c6
                by_cases c7 : ((rd_L4 l0 x3_1).length : Int) > 200
                · rw [if_pos c7] at H
                  have c7b0 : decide (200 < ((rd_L4 l0 x3_1).length : Int)) = true := decide_eq_true c7
                  have c7b1 : decide (200 < (rd_L4 l0 x3_1).length) = true := decide_eq_true (by omega)
                  clear c7
                  obtain rfl := Option.some.inj H
                  have p163 : 0 ≤ (x3_1 : Int) := of_decide_eq_true (by first | (with_reducible assumption) | assumption)
                  have q163 : x3_1 < (l0.length : Int) := of_decide_eq_true (by first | (with_reducible assumption) | assumption)
                  obtain ⟨ad163, A163_0, c163_0, e163, hx163_0, hl163_0, hi163_0⟩ := at_L4 HR0.out x3_1 p163 q163
                  cases e163
                  have HR163_0 := Aside0.mk hi163_0
                  have HC163_0 := Aside0.mk hl163_0
                  clear hi163_0 hl163_0
                  replace p163 := eq_true p163
                  replace q163 := eq_true q163
                  go_wp2
                  go_ret
                  exact ⟨by first | rfl | (simp; done) | (simp [*]; done), by repeat (first | exact Drawn0.refl _ | apply Drawn0.step)⟩
                · rw [if_neg c7] at H
                  have c7b0 : decide (200 < ((rd_L4 l0 x3_1).length : Int)) = false := decide_eq_false c7
                  have c7b1 : decide (200 < (rd_L4 l0 x3_1).length) = false := decide_eq_false (by omega)
                  clear c7
                  have H' := Aside0.mk H
                  clear H
                  have p163 : 0 ≤ (x3_1 : Int) := of_decide_eq_true (by first | (with_reducible assumption) | assumption)
                  have q163 : x3_1 < (l0.length : Int) := of_decide_eq_true (by first | (with_reducible assumption) | assumption)
                  obtain ⟨ad163, A163_0, c163_0, e163, hx163_0, hl163_0, hi163_0⟩ := at_L4 HR0.out x3_1 p163 q163
                  cases e163
                  have HR163_0 := Aside0.mk hi163_0
                  have HC163_0 := Aside0.mk hl163_0
                  clear hi163_0 hl163_0
                  replace p163 := eq_true p163
                  replace q163 := eq_true q163
                  go_wp2
                  go_roundg kj1
                  case measure => have := HK1.out; have := HJ1.out; omega
                  case rel => exact ⟨(wrap64 (x3_1 + 1)), (by first | rfl | (simp; done) | (simp [*]; done)), H', ⟨by have := HK1.out; have := HJ1.out; omega⟩, by repeat (first | exact Drawn0.refl _ | apply Drawn0.step)⟩
              · rw [if_neg c6] at H
                exact absurd H (by simp)
            · rw [if_neg c5] at H
              exact absurd H (by simp)
          · replace c4 := Bool.eq_false_iff.mpr c4
            subst c4
            have H1 : (some (decide ((l0.length : Int) > 100))) = some r := by rw [if_neg (show ¬ (false = true) by decide)] at H; exact H
            clear H
            have H := H1
            clear H1
            obtain rfl := Option.some.inj H
            go_wp2
            go_ret
            exact ⟨by first | rfl | (simp; done) | (simp [*]; done), by repeat (first | exact Drawn0.refl _ | apply Drawn0.step)⟩

end Go.Proofs.Ytjdlochffpikbaa.K
end
section
-- Written for this claim by this session's own wip/hook.py (it runs the kit's print and takes some functions' contracts as given texts of this session's).
namespace Go.Proofs.Ytjdlochffpikbaa.K
open Go.RowKit Go.Proofs.YtjdlochffpikbaaW.PrintWords Go.Proofs.YtjdlochffpikbaaW.PrintLast Go.Proofs.YtjdlochffpikbaaW.PrintMore
attribute [local go_sem] max2_int min2_int max_two min_two max_three min_three max_four min_four   -- for this text's walks alone
set_option linter.unusedVariables false
set_option linter.unusedSimpArgs false

/-! ### reedpipelaw19_SectNothing: function 3 -/
mutual
def reedpipelaw19_SectNothing.j0 : Nat → List (List (S49)) → Bool → Bool → Int → Int → Int → List Int → Option (Bool)
  | 0, _, _, _, _, _, _, _ => none
  | k + 1, x1, x5, x27, x165000, x165001, x165002, x165003 => if x27 = true then (some x5) else ((sect_Put.f ([] : List Int) x165000 x165001 x165002 x165003 x1).bind fun bt167 => (if bt167.2 = 0 then (if x165000 = 2 then (reedpipelaw19_SectNothing.j1 k x1 bt167.1 7 x165000 x165001 x165002 x165003) else (reedpipelaw19_SectNothing.j1 k x1 bt167.1 9 x165000 x165001 x165002 x165003)) else (some ((bt167.1.length : Int) == 0))))
def reedpipelaw19_SectNothing.j1 : Nat → List (List (S49)) → List Int → Int → Int → Int → Int → List Int → Option (Bool)
  | 0, _, _, _, _, _, _, _ => none
  | k + 1, x1, x6, x8, x165000, x165001, x165002, x165003 => reedpipelaw19_SectNothing.l0 k x1 x6 x8 0 0 x165000 x165001 x165002 x165003
def reedpipelaw19_SectNothing.l0 : Nat → List (List (S49)) → List Int → Int → Int → Int → Int → Int → Int → List Int → Option (Bool)
  | 0, _, _, _, _, _, _, _, _, _ => none
  | k + 1, x1, x6, x8, x9, x10, x165000, x165001, x165002, x165003 => if x10 < (x1.length : Int) then (if 0 ≤ x10 then (reedpipelaw19_SectNothing.l0 k x1 x6 x8 (wrap64 (x9 + ((rd_L4 x1 x10).length : Int))) (wrap64 (x10 + 1)) x165000 x165001 x165002 x165003) else (none)) else ((info_Windows.f k x165000 x165001 x165002 x165003).bind fun bt172 => ((sect_Put.f x6 x165000 x165001 x165002 x165003 x1).bind fun bt174 => (if bt172.2 = 0 then (if ((decide (x165002 > 0)) == (decide ((x6.length : Int) > 0))) = true then (if (x6.length : Int) ≥ (wrap64 (x8 * x9)) then (if bt174.2 = 0 then (if (strOfNums x6).size + (strOfNums x6).size ≤ 9223372036854775807 then (some ((strOfNums bt174.1).toList == ((strOfNums x6) ++ (strOfNums x6)).toList)) else (none)) else (some false)) else (some false)) else (some false)) else (some false))))
end
def reedpipelaw19_SectNothing.f (k : Nat) (a0_0 : Int) (a0_1 : Int) (a0_2 : Int) (l0_3 : List Int) (l1 : List (List (S49))) : Option (Bool) := (reedpipelaw19_alive.f).bind fun t165 => (if (l0_3.length : Int) > 1000 then (reedpipelaw19_SectNothing.j0 k l1 t165 true a0_0 a0_1 a0_2 l0_3) else ((reedpiperef19_Great.f k l1).bind fun t166 => (if t166 = true then (reedpipelaw19_SectNothing.j0 k l1 t165 true a0_0 a0_1 a0_2 l0_3) else (reedpipelaw19_SectNothing.j0 k l1 t165 (!t165) a0_0 a0_1 a0_2 l0_3))))
theorem reedpipelaw19_SectNothing.mono_l : ∀ k, (∀ y0 y1 y2 y3 y4 y5 y6, LeO (reedpipelaw19_SectNothing.j0 k y0 y1 y2 y3 y4 y5 y6) (reedpipelaw19_SectNothing.j0 (k + 1) y0 y1 y2 y3 y4 y5 y6)) ∧ (∀ y0 y1 y2 y3 y4 y5 y6, LeO (reedpipelaw19_SectNothing.j1 k y0 y1 y2 y3 y4 y5 y6) (reedpipelaw19_SectNothing.j1 (k + 1) y0 y1 y2 y3 y4 y5 y6)) ∧ (∀ y0 y1 y2 y3 y4 y5 y6 y7 y8, LeO (reedpipelaw19_SectNothing.l0 k y0 y1 y2 y3 y4 y5 y6 y7 y8) (reedpipelaw19_SectNothing.l0 (k + 1) y0 y1 y2 y3 y4 y5 y6 y7 y8))
  | 0 => ⟨fun _ _ _ _ _ _ _ r h => by simp [reedpipelaw19_SectNothing.j0] at h, fun _ _ _ _ _ _ _ r h => by simp [reedpipelaw19_SectNothing.j1] at h, fun _ _ _ _ _ _ _ _ _ r h => by simp [reedpipelaw19_SectNothing.l0] at h⟩
  | k + 1 => by
    obtain ⟨ih0, ih1, ih2⟩ := reedpipelaw19_SectNothing.mono_l k
    refine ⟨?_, ?_, ?_⟩
    · intro y0 y1 y2 y3 y4 y5 y6
      unfold reedpipelaw19_SectNothing.j0
      repeat' first
      | (with_reducible exact ih0 _ _ _ _ _ _ _)
      | (with_reducible exact ih1 _ _ _ _ _ _ _)
      | (with_reducible exact ih2 _ _ _ _ _ _ _ _ _)
      | (with_reducible exact info_Windows.mono _ _ _ _ _)
      | (with_reducible exact reedpiperef19_Great.mono _ _)
      | (with_reducible exact LeO.refl _)
      | (with_reducible exact LeO.none _)
      | (with_reducible refine LeO.ite ?_ ?_)
      | (with_reducible refine LeO.bind ?_ (fun _ => ?_))
      | exact ih0 _ _ _ _ _ _ _
      | exact ih1 _ _ _ _ _ _ _
      | exact ih2 _ _ _ _ _ _ _ _ _
      | exact info_Windows.mono _ _ _ _ _
      | exact reedpiperef19_Great.mono _ _
      | exact LeO.none _
      | refine LeO.ite ?_ ?_
      | refine LeO.bind ?_ (fun _ => ?_)
    · intro y0 y1 y2 y3 y4 y5 y6
      unfold reedpipelaw19_SectNothing.j1
      repeat' first
      | (with_reducible exact ih0 _ _ _ _ _ _ _)
      | (with_reducible exact ih1 _ _ _ _ _ _ _)
      | (with_reducible exact ih2 _ _ _ _ _ _ _ _ _)
      | (with_reducible exact info_Windows.mono _ _ _ _ _)
      | (with_reducible exact reedpiperef19_Great.mono _ _)
      | (with_reducible exact LeO.refl _)
      | (with_reducible exact LeO.none _)
      | (with_reducible refine LeO.ite ?_ ?_)
      | (with_reducible refine LeO.bind ?_ (fun _ => ?_))
      | exact ih0 _ _ _ _ _ _ _
      | exact ih1 _ _ _ _ _ _ _
      | exact ih2 _ _ _ _ _ _ _ _ _
      | exact info_Windows.mono _ _ _ _ _
      | exact reedpiperef19_Great.mono _ _
      | exact LeO.none _
      | refine LeO.ite ?_ ?_
      | refine LeO.bind ?_ (fun _ => ?_)
    · intro y0 y1 y2 y3 y4 y5 y6 y7 y8
      unfold reedpipelaw19_SectNothing.l0
      repeat' first
      | (with_reducible exact ih0 _ _ _ _ _ _ _)
      | (with_reducible exact ih1 _ _ _ _ _ _ _)
      | (with_reducible exact ih2 _ _ _ _ _ _ _ _ _)
      | (with_reducible exact info_Windows.mono _ _ _ _ _)
      | (with_reducible exact reedpiperef19_Great.mono _ _)
      | (with_reducible exact LeO.refl _)
      | (with_reducible exact LeO.none _)
      | (with_reducible refine LeO.ite ?_ ?_)
      | (with_reducible refine LeO.bind ?_ (fun _ => ?_))
      | exact ih0 _ _ _ _ _ _ _
      | exact ih1 _ _ _ _ _ _ _
      | exact ih2 _ _ _ _ _ _ _ _ _
      | exact info_Windows.mono _ _ _ _ _
      | exact reedpiperef19_Great.mono _ _
      | exact LeO.none _
      | refine LeO.ite ?_ ?_
      | refine LeO.bind ?_ (fun _ => ?_)
theorem reedpipelaw19_SectNothing.mono : ∀ a0 a1 a2 a3 a4 k, LeO (reedpipelaw19_SectNothing.f k a0 a1 a2 a3 a4) (reedpipelaw19_SectNothing.f (k + 1) a0 a1 a2 a3 a4) := by
  intro a0 a1 a2 a3 a4 k
  obtain ⟨ih0, ih1, ih2⟩ := reedpipelaw19_SectNothing.mono_l k
  unfold reedpipelaw19_SectNothing.f
  repeat' first
      | (with_reducible exact ih0 _ _ _ _ _ _ _)
      | (with_reducible exact ih1 _ _ _ _ _ _ _)
      | (with_reducible exact ih2 _ _ _ _ _ _ _ _ _)
      | (with_reducible exact info_Windows.mono _ _ _ _ _)
      | (with_reducible exact reedpiperef19_Great.mono _ _)
      | (with_reducible exact LeO.refl _)
      | (with_reducible exact LeO.none _)
      | (with_reducible refine LeO.ite ?_ ?_)
      | (with_reducible refine LeO.bind ?_ (fun _ => ?_))
      | exact ih0 _ _ _ _ _ _ _
      | exact ih1 _ _ _ _ _ _ _
      | exact ih2 _ _ _ _ _ _ _ _ _
      | exact info_Windows.mono _ _ _ _ _
      | exact reedpiperef19_Great.mono _ _
      | exact LeO.none _
      | refine LeO.ite ?_ ?_
      | refine LeO.bind ?_ (fun _ => ?_)
set_option maxHeartbeats 8000000 in
set_option maxRecDepth 100000 in
theorem reedpipelaw19_SectNothing.calls (k : Nat) (a0_0 : Int) (a0_1 : Int) (a0_2 : Int) (A0_3 : Option Addr) (c0_3 : Nat) (l0_3 : List Int) (A1 : Option Addr) (c1 : Nat) (l1 : List (List (S49))) (r : Bool) (w : World) (hr0_3 : Kd.C (Kd.int .i64) w A0_3 l0_3.length l0_3) (hc0_3 : l0_3.length ≤ c0_3) (hr1 : Kd.C (Kd.slice 49 k49) w A1 l1.length l1) (hc1 : l1.length ≤ c1) (h : reedpipelaw19_SectNothing.f k a0_0 a0_1 a0_2 l0_3 l1 = some r) :
    Calls Try.prog 3 #[.agg #[.int .u8 a0_0, .int .u8 a0_1, .int .i64 a0_2, .slice A0_3 l0_3.length c0_3], .slice A1 l1.length c1] w fun e w' => e = .returned (.bool r) ∧ Below w.heap.size w w' := by
  have hu24 := Try.underlying24
  have HR0_3 := Aside0.mk hr0_3
  have HC0_3 := Aside0.mk hc0_3
  clear hr0_3 hc0_3
  have HR1 := Aside0.mk hr1
  have HC1 := Aside0.mk hc1
  clear hr1 hc1
  have HB := Aside0.mk (Below.refl w.heap.size w)
  have H : ((reedpipelaw19_alive.f).bind fun t165 => (if (l0_3.length : Int) > 1000 then (reedpipelaw19_SectNothing.j0 k l1 t165 true a0_0 a0_1 a0_2 l0_3) else ((reedpiperef19_Great.f k l1).bind fun t166 => (if t166 = true then (reedpipelaw19_SectNothing.j0 k l1 t165 true a0_0 a0_1 a0_2 l0_3) else (reedpipelaw19_SectNothing.j0 k l1 t165 (!t165) a0_0 a0_1 a0_2 l0_3))))) = some r := h
  clear h
  replace H := Option.bind_eq_some_iff.mp H
  obtain ⟨t165, A30, H⟩ := H
  replace H : (if (l0_3.length : Int) > 1000 then (reedpipelaw19_SectNothing.j0 k l1 t165 true a0_0 a0_1 a0_2 l0_3) else ((reedpiperef19_Great.f k l1).bind fun t166 => (if t166 = true then (reedpipelaw19_SectNothing.j0 k l1 t165 true a0_0 a0_1 a0_2 l0_3) else (reedpipelaw19_SectNothing.j0 k l1 t165 (!t165) a0_0 a0_1 a0_2 l0_3)))) = some r := H
  have A3 := Aside0.mk A30
  clear A30
  have HC4 := Aside0.mk H
  clear H
  go_enter Try.func3, Try.ntmps3
  go_upto_region 2 with (first | ((with_reducible refine gate_dst (N := 2) rfl ?_); (try (refine gate_guard (by rfl) ?_; dsimp only)); refine box_event ?hg (N := 2) ?hd (cs := #[.int .u8 a0_0, .int .u8 a0_1, .int .i64 a0_2, .slice A0_3 l0_3.length c0_3]) (t := 24) ?hr ?_; (case hd => rfl); (case hg => rfl); (case hr => first | (go_simp; done) | (go_simp; rfl)); intro gb164 hg w5 hbox hb; have n0_ := Aside0.mk (below_step (by repeat (first | (with_reducible first | exact HB.out | apply below_alloc | apply pw_below_drewN | apply below_drew1) | exact HB.out)) hb); have n1_ := Aside0.mk (hbox); have n2_ := Aside0.mk ((by rw [hg]; exact (below_size (by repeat (first | (with_reducible first | exact HB.out | apply below_alloc | apply pw_below_drewN | apply below_drew1) | exact HB.out))) : w.heap.size ≤ gb164)); have n3_ := Aside0.mk ((by rw [hg]; exact (below_size (by repeat (first | (with_reducible first | exact HB.out | apply below_alloc | apply pw_below_drewN | apply below_drew1) | exact HB.out))) : w.heap.size ≤ gb164)); clear HB; have HB := n0_; have BK164 := n1_; have GW164 := n2_; have GE164 := n3_; clear n0_ n1_ n2_ n3_; clear hb hbox hg) | ((with_reducible refine gate_callee (f := 7) rfl ?_); refine goesL_ (some 15) rfl rfl Try.func7 (by kernel_rfl) rfl #[] rfl (by (try simp only [List.map_toArray, List.map_cons, List.map_nil]); first | done | rfl | (simp only [List.length_drop, List.length_take]; rfl)) ?_; (with_reducible refine (reedpipelaw19_alive.calls  t165 _ A3.out).mono ?_); rintro e w6 ⟨rfl, hb⟩; refine ⟨_, rfl, ?_⟩; have n0_ := Aside0.mk (blk_below (g := gb164) (o := .cells #[.int .u8 a0_0, .int .u8 a0_1, .int .i64 a0_2, .slice A0_3 l0_3.length c0_3] 24 (0, 0)) (by (with_reducible repeat (first | refine blk_drewN ?_ _ | refine blk_drew ?_ | refine blk_alloc ?_ _)); exact BK164.out) hb); have n1_ := Aside0.mk (below_step (by repeat (first | (with_reducible first | exact HB.out | apply below_alloc | apply pw_below_drewN | apply below_drew1 | refine below_set ?_ GE164.out) | exact HB.out)) hb); clear BK164; clear HB; have BK164 := n0_; have HB := n1_; clear n0_ n1_; (try clear hb); (try clear hb2); (try clear hk); (try clear hi)))
  (try simp only [Act.put, List.setIfInBounds_toArray, List.set_cons_zero, List.set_cons_succ])
  go_cut [27] (fun v27 wc => ∃ (kq : Nat) (x27_3 : Bool), v27 = .bool x27_3 ∧ Aside0 (reedpipelaw19_SectNothing.j0 kq l1 t165 x27_3 a0_0 a0_1 a0_2 l0_3 = some r) ∧ Aside0 (kq ≤ k) ∧ Aside0 (wc.heap[gb164]? = some (.cells #[.int .u8 a0_0, .int .u8 a0_1, .int .i64 a0_2, (.slice A0_3 l0_3.length c0_3)] 24 (0, 0))) ∧ Aside0 (Below w.heap.size w wc))
  case first =>
    have H := HC4.out
    clear HC4
    by_cases c7 : (l0_3.length : Int) > 1000
    · rw [if_pos c7] at H
      have c7b0 : decide (1000 < (l0_3.length : Int)) = true := decide_eq_true c7
      have c7b1 : decide (1000 < l0_3.length) = true := decide_eq_true (by omega)
      clear c7
      (first | rw [c7b0] | (simp only [i64_w, i32_w]; rw [c7b0]) | skip)
      have H' := Aside0.mk H
      clear H
      have hcz8_0 : w6.cell? ⟨gb164, 0, none⟩ = some (.int .u8 a0_0) := (blk_cell BK164.out 0).trans rfl
      have hcz8_1 : w6.cell? ⟨gb164, 1, none⟩ = some (.int .u8 a0_1) := (blk_cell BK164.out 1).trans rfl
      have hcz8_2 : w6.cell? ⟨gb164, 2, none⟩ = some (.int .i64 a0_2) := (blk_cell BK164.out 2).trans rfl
      have hcz8_3 : w6.cell? ⟨gb164, 3, none⟩ = some (.slice A0_3 l0_3.length c0_3) := (blk_cell BK164.out 3).trans rfl
      have hfz8_0 := blk_frozen BK164.out 0
      have hfz8_1 := blk_frozen BK164.out 1
      have hfz8_2 := blk_frozen BK164.out 2
      have hfz8_3 := blk_frozen BK164.out 3
      go_wp2
      go_meet
      case rel => exact ⟨_, (true), (by first | rfl | (simp; done) | (simp [*]; done)), H', ⟨by first | omega | exact Nat.le_refl _⟩, ⟨by (with_reducible repeat (first | refine blk_drewN ?_ _ | refine blk_drew ?_ | refine blk_alloc ?_ _)); exact BK164.out⟩, ⟨by repeat (first | (with_reducible first | exact HB.out | apply below_alloc | apply pw_below_drewN | apply below_drew1 | refine below_set ?_ GE164.out) | exact HB.out)⟩⟩
    · rw [if_neg c7] at H
      have c7b0 : decide (1000 < (l0_3.length : Int)) = false := decide_eq_false c7
      have c7b1 : decide (1000 < l0_3.length) = false := decide_eq_false (by omega)
      clear c7
      (first | rw [c7b0] | (simp only [i64_w, i32_w]; rw [c7b0]) | skip)
      replace H := Option.bind_eq_some_iff.mp H
      obtain ⟨t166, A90, H⟩ := H
      replace H : (if t166 = true then (reedpipelaw19_SectNothing.j0 k l1 t165 true a0_0 a0_1 a0_2 l0_3) else (reedpipelaw19_SectNothing.j0 k l1 t165 (!t165) a0_0 a0_1 a0_2 l0_3)) = some r := H
      have A9 := Aside0.mk A90
      clear A90
      by_cases c10 : t166 = true
      · subst c10
        have H1 : (reedpipelaw19_SectNothing.j0 k l1 t165 true a0_0 a0_1 a0_2 l0_3) = some r := by rw [if_pos rfl] at H; exact H
        clear H
        have H := H1
        clear H1
        have H' := Aside0.mk H
        clear H
        have hcz11_0 : w6.cell? ⟨gb164, 0, none⟩ = some (.int .u8 a0_0) := (blk_cell BK164.out 0).trans rfl
        have hcz11_1 : w6.cell? ⟨gb164, 1, none⟩ = some (.int .u8 a0_1) := (blk_cell BK164.out 1).trans rfl
        have hcz11_2 : w6.cell? ⟨gb164, 2, none⟩ = some (.int .i64 a0_2) := (blk_cell BK164.out 2).trans rfl
        have hcz11_3 : w6.cell? ⟨gb164, 3, none⟩ = some (.slice A0_3 l0_3.length c0_3) := (blk_cell BK164.out 3).trans rfl
        have hfz11_0 := blk_frozen BK164.out 0
        have hfz11_1 := blk_frozen BK164.out 1
        have hfz11_2 := blk_frozen BK164.out 2
        have hfz11_3 := blk_frozen BK164.out 3
        go_wp2_with (first | (go_at_call 8; (with_reducible refine (reedpiperef19_Great.calls k _ _ l1 true _ ?side1 ?side2 A9.out).mono ?_); (case side1 => repeat (first | exact (Kd.C_below HR1.out HB.out) | (with_reducible refine Kd.C_alloc ?_ _) | (with_reducible refine Kd.C_drewN ?_ _) | (with_reducible refine Kd.C_drew ?_))); (case side2 => exact HC1.out); rintro e w' ⟨rfl, ⟨nd, rfl⟩⟩))
        go_meet
        case rel => exact ⟨_, (true), (by first | rfl | (simp; done) | (simp [*]; done)), H', ⟨by first | omega | exact Nat.le_refl _⟩, ⟨by (with_reducible repeat (first | refine blk_drewN ?_ _ | refine blk_drew ?_ | refine blk_alloc ?_ _)); exact BK164.out⟩, ⟨by repeat (first | (with_reducible first | exact HB.out | apply below_alloc | apply pw_below_drewN | apply below_drew1 | refine below_set ?_ GE164.out) | exact HB.out)⟩⟩
      · replace c10 := Bool.eq_false_iff.mpr c10
        subst c10
        have H1 : (reedpipelaw19_SectNothing.j0 k l1 t165 (!t165) a0_0 a0_1 a0_2 l0_3) = some r := by rw [if_neg (show ¬ (false = true) by decide)] at H; exact H
        clear H
        have H := H1
        clear H1
        have H' := Aside0.mk H
        clear H
        have hcz12_0 : w6.cell? ⟨gb164, 0, none⟩ = some (.int .u8 a0_0) := (blk_cell BK164.out 0).trans rfl
        have hcz12_1 : w6.cell? ⟨gb164, 1, none⟩ = some (.int .u8 a0_1) := (blk_cell BK164.out 1).trans rfl
        have hcz12_2 : w6.cell? ⟨gb164, 2, none⟩ = some (.int .i64 a0_2) := (blk_cell BK164.out 2).trans rfl
        have hcz12_3 : w6.cell? ⟨gb164, 3, none⟩ = some (.slice A0_3 l0_3.length c0_3) := (blk_cell BK164.out 3).trans rfl
        have hfz12_0 := blk_frozen BK164.out 0
        have hfz12_1 := blk_frozen BK164.out 1
        have hfz12_2 := blk_frozen BK164.out 2
        have hfz12_3 := blk_frozen BK164.out 3
        go_wp2_with (first | (go_at_call 8; (with_reducible refine (reedpiperef19_Great.calls k _ _ l1 false _ ?side1 ?side2 A9.out).mono ?_); (case side1 => repeat (first | exact (Kd.C_below HR1.out HB.out) | (with_reducible refine Kd.C_alloc ?_ _) | (with_reducible refine Kd.C_drewN ?_ _) | (with_reducible refine Kd.C_drew ?_))); (case side2 => exact HC1.out); rintro e w' ⟨rfl, ⟨nd, rfl⟩⟩))
        go_meet
        case rel => exact ⟨_, (!t165), (by first | rfl | (simp; done) | (simp [*]; done)), H', ⟨by first | omega | exact Nat.le_refl _⟩, ⟨by (with_reducible repeat (first | refine blk_drewN ?_ _ | refine blk_drew ?_ | refine blk_alloc ?_ _)); exact BK164.out⟩, ⟨by repeat (first | (with_reducible first | exact HB.out | apply below_alloc | apply pw_below_drewN | apply below_drew1 | refine below_set ?_ GE164.out) | exact HB.out)⟩⟩
  case rest =>
    clear HC4
    try clear c1
    try clear p2
    try clear c3
    try clear c7
    try clear c7b0
    try clear c7b1
    try clear c10
    try clear hcz11_0
    try clear hcz11_1
    try clear hcz11_2
    try clear hcz11_3
    try clear hcz12_0
    try clear hcz12_1
    try clear hcz12_2
    try clear hcz12_3
    try clear hcz8_0
    try clear hcz8_1
    try clear hcz8_2
    try clear hcz8_3
    try clear hfz11_0
    try clear hfz11_1
    try clear hfz11_2
    try clear hfz11_3
    try clear hfz12_0
    try clear hfz12_1
    try clear hfz12_2
    try clear hfz12_3
    try clear hfz8_0
    try clear hfz8_1
    try clear hfz8_2
    try clear hfz8_3
    obtain ⟨kq, x27_3, rfl, HA, HJ3, BK164, HB⟩ := hcut
    cases kq with
    | zero => exact absurd HA.out (by simp [reedpipelaw19_SectNothing.j0])
    | succ kj3 =>
      have H := HA.out
      clear HA
      simp only [reedpipelaw19_SectNothing.j0] at H
      by_cases c13 : x27_3 = true
      · subst c13
        have H1 : (some t165) = some r := by rw [if_pos rfl] at H; exact H
        clear H
        have H := H1
        clear H1
        obtain rfl := Option.some.inj H
        go_wp2
        go_ret
        exact ⟨by first | rfl | (simp [errW_none, errW_some] <;> rfl) | (simp [*, errW_none, errW_some] <;> rfl), by repeat (first | (with_reducible first | exact HB.out | apply below_alloc | apply pw_below_drewN | apply below_drew1 | refine below_set ?_ GE164.out) | exact HB.out)⟩
      · replace c13 := Bool.eq_false_iff.mpr c13
        subst c13
        have H1 : ((sect_Put.f ([] : List Int) a0_0 a0_1 a0_2 l0_3 l1).bind fun bt167 => (if bt167.2 = 0 then (if a0_0 = 2 then (reedpipelaw19_SectNothing.j1 kj3 l1 bt167.1 7 a0_0 a0_1 a0_2 l0_3) else (reedpipelaw19_SectNothing.j1 kj3 l1 bt167.1 9 a0_0 a0_1 a0_2 l0_3)) else (some ((bt167.1.length : Int) == 0)))) = some r := by rw [if_neg (show ¬ (false = true) by decide)] at H; exact H
        clear H
        have H := H1
        clear H1
        replace H := Option.bind_eq_some_iff.mp H
        obtain ⟨⟨t167, t170⟩, A140, H⟩ := H
        replace H : (if t170 = 0 then (if a0_0 = 2 then (reedpipelaw19_SectNothing.j1 kj3 l1 t167 7 a0_0 a0_1 a0_2 l0_3) else (reedpipelaw19_SectNothing.j1 kj3 l1 t167 9 a0_0 a0_1 a0_2 l0_3)) else (some ((t167.length : Int) == 0))) = some r := H
        have A14 := Aside0.mk A140
        clear A140
        by_cases c15 : t170 = 0
        · rw [if_pos c15] at H
          have c15b0 : (t170 == 0) = true := beq_iff_eq.mpr c15
          have c15b1 : (t170 != 0) = false := bne_eq_false_iff_eq.mpr c15
          clear c15
          have HC16 := Aside0.mk H
          clear H
          have hcz17_0 : wc.cell? ⟨gb164, 0, none⟩ = some (.int .u8 a0_0) := (blk_cell BK164.out 0).trans rfl
          have hcz17_1 : wc.cell? ⟨gb164, 1, none⟩ = some (.int .u8 a0_1) := (blk_cell BK164.out 1).trans rfl
          have hcz17_2 : wc.cell? ⟨gb164, 2, none⟩ = some (.int .i64 a0_2) := (blk_cell BK164.out 2).trans rfl
          have hcz17_3 : wc.cell? ⟨gb164, 3, none⟩ = some (.slice A0_3 l0_3.length c0_3) := (blk_cell BK164.out 3).trans rfl
          have hfz17_0 := blk_frozen BK164.out 0
          have hfz17_1 := blk_frozen BK164.out 1
          have hfz17_2 := blk_frozen BK164.out 2
          have hfz17_3 := blk_frozen BK164.out 3
          go_upto_if 42 with (first | ((with_reducible refine gate_callee (f := 9) rfl ?_); refine goesL_ (some 32) rfl rfl Try.func9 (by kernel_rfl) rfl #[.slice none 0 0, .agg #[.int .u8 a0_0, .int .u8 a0_1, .int .i64 a0_2, .slice A0_3 l0_3.length c0_3], .slice A1 l1.length c1] rfl (by (try simp only [List.map_toArray, List.map_cons, List.map_nil]); first | done | rfl | (simp only [List.length_drop, List.length_take]; rfl)) ?_; (refine (sect_Put.calls _ _ ([] : List Int) a0_0 a0_1 a0_2 _ _ l0_3 _ _ l1 t167 t170 _ ?side1 ?side2 ?side3 ?side4 ?side5 ?side6 A14.out).mono ?_); (case side1 => exact Kd.C_nil _ _); (case side2 => exact Nat.le_refl _); (case side3 => repeat (first | exact (Kd.C_below HR0_3.out HB.out) | (with_reducible refine Kd.C_alloc ?_ _) | (with_reducible refine Kd.C_drewN ?_ _) | (with_reducible refine Kd.C_drew ?_))); (case side4 => exact HC0_3.out); (case side5 => repeat (first | exact (Kd.C_below HR1.out HB.out) | (with_reducible refine Kd.C_alloc ?_ _) | (with_reducible refine Kd.C_drewN ?_ _) | (with_reducible refine Kd.C_drew ?_))); (case side6 => exact HC1.out); rintro e w18 ⟨v168, rfl, ho0, hb⟩; refine ⟨_, rfl, ?_⟩; have n0_ := Aside0.mk (Kd.R_lower ho0 (below_size (by repeat (first | (with_reducible first | exact HB.out | apply below_alloc | apply pw_below_drewN | apply below_drew1 | refine below_set ?_ GE164.out) | exact HB.out)))); have n1_ := Aside0.mk (blk_below (g := gb164) (o := .cells #[.int .u8 a0_0, .int .u8 a0_1, .int .i64 a0_2, .slice A0_3 l0_3.length c0_3] 24 (0, 0)) (by (with_reducible repeat (first | refine blk_drewN ?_ _ | refine blk_drew ?_ | refine blk_alloc ?_ _)); exact BK164.out) hb); have n2_ := Aside0.mk (below_step (by repeat (first | (with_reducible first | exact HB.out | apply below_alloc | apply pw_below_drewN | apply below_drew1 | refine below_set ?_ GE164.out) | exact HB.out)) hb); clear BK164; clear HB; have HO169 := n0_; have BK164 := n1_; have HB := n2_; clear n0_ n1_ n2_; (try clear hb); (try clear hb2); (try clear hk); (try clear hi); (try clear ho0); have hcz19_0 : w18.cell? ⟨gb164, 0, none⟩ = some (.int .u8 a0_0) := (blk_cell BK164.out 0).trans rfl; have hcz19_1 : w18.cell? ⟨gb164, 1, none⟩ = some (.int .u8 a0_1) := (blk_cell BK164.out 1).trans rfl; have hcz19_2 : w18.cell? ⟨gb164, 2, none⟩ = some (.int .i64 a0_2) := (blk_cell BK164.out 2).trans rfl; have hcz19_3 : w18.cell? ⟨gb164, 3, none⟩ = some (.slice A0_3 l0_3.length c0_3) := (blk_cell BK164.out 3).trans rfl; have hfz19_0 := blk_frozen BK164.out 0; have hfz19_1 := blk_frozen BK164.out 1; have hfz19_2 := blk_frozen BK164.out 2; have hfz19_3 := blk_frozen BK164.out 3))
          (try simp only [Act.put, List.setIfInBounds_toArray, List.set_cons_zero, List.set_cons_succ])
          go_cut [8] (fun v8 wc => ∃ (kq : Nat) (x8_15 : Int), v8 = .int .i64 x8_15 ∧ Aside0 (reedpipelaw19_SectNothing.j1 kq l1 t167 x8_15 a0_0 a0_1 a0_2 l0_3 = some r) ∧ Aside0 (kq ≤ kj3) ∧ Aside0 (Kd.R (Kd.int .u8) 5 wc w.heap.size (fun _ => True) v168 t167) ∧ Aside0 (wc.heap[gb164]? = some (.cells #[.int .u8 a0_0, .int .u8 a0_1, .int .i64 a0_2, (.slice A0_3 l0_3.length c0_3)] 24 (0, 0))) ∧ Aside0 (Below w.heap.size w wc))
          case first =>
            have H := HC16.out
            clear HC16
            by_cases c20 : a0_0 = 2
            · rw [if_pos c20] at H
              have c20b0 : (a0_0 == 2) = true := beq_iff_eq.mpr c20
              have c20b1 : (a0_0 != 2) = false := bne_eq_false_iff_eq.mpr c20
              clear c20
              (first | rw [c20b0] | (simp only [i64_w, i32_w]; rw [c20b0]) | skip)
              have H' := Aside0.mk H
              clear H
              go_wp2
              go_meet
              case rel => exact ⟨_, (7), (by first | rfl | (simp; done) | (simp [*]; done)), H', ⟨by have := HJ3.out; first | omega | exact Nat.le_refl _⟩, ⟨by (with_reducible repeat (first | apply Kd.R_alloc | apply Kd.R_drewN | apply Kd.R_drew)); exact HO169.out⟩, ⟨by (with_reducible repeat (first | refine blk_drewN ?_ _ | refine blk_drew ?_ | refine blk_alloc ?_ _)); exact BK164.out⟩, ⟨by repeat (first | (with_reducible first | exact HB.out | apply below_alloc | apply pw_below_drewN | apply below_drew1 | refine below_set ?_ GE164.out) | exact HB.out)⟩⟩
            · rw [if_neg c20] at H
              have c20b0 : (a0_0 == 2) = false := beq_eq_false_iff_ne.mpr c20
              have c20b1 : (a0_0 != 2) = true := bne_iff_ne.mpr c20
              (first | rw [c20b0] | (simp only [i64_w, i32_w]; rw [c20b0]) | skip)
              have H' := Aside0.mk H
              clear H
              go_wp2
              go_meet
              case rel => exact ⟨_, (9), (by first | rfl | (simp; done) | (simp [*]; done)), H', ⟨by have := HJ3.out; first | omega | exact Nat.le_refl _⟩, ⟨by (with_reducible repeat (first | apply Kd.R_alloc | apply Kd.R_drewN | apply Kd.R_drew)); exact HO169.out⟩, ⟨by (with_reducible repeat (first | refine blk_drewN ?_ _ | refine blk_drew ?_ | refine blk_alloc ?_ _)); exact BK164.out⟩, ⟨by repeat (first | (with_reducible first | exact HB.out | apply below_alloc | apply pw_below_drewN | apply below_drew1 | refine below_set ?_ GE164.out) | exact HB.out)⟩⟩
          case rest =>
            clear HC16
            try clear c1
            try clear c2
            try clear p2
            try clear c3
            try clear c7
            try clear c7b0
            try clear c7b1
            try clear c9
            try clear c10
            try clear c13
            try clear c15
            try clear c15b0
            try clear c15b1
            try clear c20
            try clear c20b0
            try clear c20b1
            try clear hcz11_0
            try clear hcz11_1
            try clear hcz11_2
            try clear hcz11_3
            try clear hcz12_0
            try clear hcz12_1
            try clear hcz12_2
            try clear hcz12_3
            try clear hcz17_0
            try clear hcz17_1
            try clear hcz17_2
            try clear hcz17_3
            try clear hcz19_0
            try clear hcz19_1
            try clear hcz19_2
            try clear hcz19_3
            try clear hcz8_0
            try clear hcz8_1
            try clear hcz8_2
            try clear hcz8_3
            try clear hfz11_0
            try clear hfz11_1
            try clear hfz11_2
            try clear hfz11_3
            try clear hfz12_0
            try clear hfz12_1
            try clear hfz12_2
            try clear hfz12_3
            try clear hfz17_0
            try clear hfz17_1
            try clear hfz17_2
            try clear hfz17_3
            try clear hfz19_0
            try clear hfz19_1
            try clear hfz19_2
            try clear hfz19_3
            try clear hfz8_0
            try clear hfz8_1
            try clear hfz8_2
            try clear hfz8_3
            try clear p2
            obtain ⟨kq, x8_15, rfl, HA, HJ15, HO_6, BK164, HB⟩ := hcut
            cases kq with
            | zero => exact absurd HA.out (by simp [reedpipelaw19_SectNothing.j1])
            | succ kj15 =>
              have H := HA.out
              clear HA
              simp only [reedpipelaw19_SectNothing.j1] at H
              have H' := Aside0.mk H
              clear H
              go_wp2
              go_loopg [9, 10] kj15 (fun kq v9 v10 w' => ∃ (x9_3 : Int) (x10_3 : Int), v9 = .int .i64 x9_3 ∧ v10 = .int .i64 x10_3 ∧ Aside0 (reedpipelaw19_SectNothing.l0 kq l1 t167 x8_15 x9_3 x10_3 a0_0 a0_1 a0_2 l0_3 = some r) ∧ Aside0 (kq ≤ kj15) ∧ Aside0 (Kd.R (Kd.int .u8) 5 w' w.heap.size (fun _ => True) v168 t167) ∧ Aside0 (w'.heap[gb164]? = some (.cells #[.int .u8 a0_0, .int .u8 a0_1, .int .i64 a0_2, (.slice A0_3 l0_3.length c0_3)] 24 (0, 0))) ∧ Aside0 (Below w.heap.size w w'))
              case atStart => exact ⟨(0), (0), (by first | rfl | (simp; done) | (simp [*]; done)), (by first | rfl | (simp; done) | (simp [*]; done)), H', ⟨Nat.le_refl _⟩, ⟨by (with_reducible repeat (first | apply Kd.R_alloc | apply Kd.R_drewN | apply Kd.R_drew)); exact HO_6.out⟩, ⟨by (with_reducible repeat (first | refine blk_drewN ?_ _ | refine blk_drew ?_ | refine blk_alloc ?_ _)); exact BK164.out⟩, ⟨by repeat (first | (with_reducible first | exact HB.out | apply below_alloc | apply pw_below_drewN | apply below_drew1 | refine below_set ?_ GE164.out) | exact HB.out)⟩⟩
              case round =>
                clear H'
                try clear c1
                try clear c2
                try clear p2
                try clear c3
                try clear c7
                try clear c7b0
                try clear c7b1
                try clear c9
                try clear c10
                try clear c13
                try clear c15
                try clear c15b0
                try clear c15b1
                try clear c20
                try clear c20b0
                try clear c20b1
                try clear hcz11_0
                try clear hcz11_1
                try clear hcz11_2
                try clear hcz11_3
                try clear hcz12_0
                try clear hcz12_1
                try clear hcz12_2
                try clear hcz12_3
                try clear hcz17_0
                try clear hcz17_1
                try clear hcz17_2
                try clear hcz17_3
                try clear hcz19_0
                try clear hcz19_1
                try clear hcz19_2
                try clear hcz19_3
                try clear hcz8_0
                try clear hcz8_1
                try clear hcz8_2
                try clear hcz8_3
                try clear hfz11_0
                try clear hfz11_1
                try clear hfz11_2
                try clear hfz11_3
                try clear hfz12_0
                try clear hfz12_1
                try clear hfz12_2
                try clear hfz12_3
                try clear hfz17_0
                try clear hfz17_1
                try clear hfz17_2
                try clear hfz17_3
                try clear hfz19_0
                try clear hfz19_1
                try clear hfz19_2
                try clear hfz19_3
                try clear hfz8_0
                try clear hfz8_1
                try clear hfz8_2
                try clear hfz8_3
                try clear p2
                obtain ⟨x9_3, x10_3, rfl, rfl, HA, HK3, HO_6, BK164, HB⟩ := hrel
                cases gk with
                | zero => exact absurd HA.out (by simp [reedpipelaw19_SectNothing.l0])
                | succ k3 =>
                  have H := HA.out
                  clear HA
                  simp only [reedpipelaw19_SectNothing.l0] at H
                  by_cases c21 : x10_3 < (l1.length : Int)
                  · rw [if_pos c21] at H
                    have c21b0 : decide (x10_3 < (l1.length : Int)) = true := decide_eq_true c21
                    clear c21
                    by_cases c22 : 0 ≤ x10_3
                    · rw [if_pos c22] at H
                      have c22b0 : decide (0 ≤ x10_3) = true := decide_eq_true c22
                      clear c22
                      have H' := Aside0.mk H
                      clear H
                      have p171 : 0 ≤ (x10_3 : Int) := of_decide_eq_true (by first | (with_reducible assumption) | assumption)
                      have q171 : x10_3 < (l1.length : Int) := of_decide_eq_true (by first | (with_reducible assumption) | assumption)
                      obtain ⟨ad171, A171_0, c171_0, e171, hx171_0, hl171_0, hi171_0⟩ := at_L4 HR1.out x10_3 p171 q171
                      cases e171
                      replace hx171_0 := (HB.out.cell (World.block_lt_of_cell? w _ hx171_0)).trans hx171_0
                      have HR171_0 := Aside0.mk hi171_0
                      have HC171_0 := Aside0.mk hl171_0
                      clear hi171_0 hl171_0
                      replace p171 := eq_true p171
                      replace q171 := eq_true q171
                      go_wp2
                      go_roundg k3
                      case measure => have := HJ3.out; have := HJ15.out; have := HK3.out; omega
                      case rel => exact ⟨(wrap64 (x9_3 + ((rd_L4 l1 x10_3).length : Int))), (wrap64 (x10_3 + 1)), (by first | rfl | (simp; done) | (simp [*]; done)), (by first | rfl | (simp; done) | (simp [*]; done)), H', ⟨by have := HJ3.out; have := HJ15.out; have := HK3.out; omega⟩, ⟨by (with_reducible repeat (first | apply Kd.R_alloc | apply Kd.R_drewN | apply Kd.R_drew)); exact HO_6.out⟩, ⟨by (with_reducible repeat (first | refine blk_drewN ?_ _ | refine blk_drew ?_ | refine blk_alloc ?_ _)); exact BK164.out⟩, ⟨by repeat (first | (with_reducible first | exact HB.out | apply below_alloc | apply pw_below_drewN | apply below_drew1 | refine below_set ?_ GE164.out) | exact HB.out)⟩⟩
                    · rw [if_neg c22] at H
                      exact absurd H (by simp)
                  · rw [if_neg c21] at H
                    have c21b0 : decide (x10_3 < (l1.length : Int)) = false := decide_eq_false c21
                    clear c21
                    replace H := Option.bind_eq_some_iff.mp H
                    obtain ⟨⟨t172, t173⟩, A230, H⟩ := H
                    replace H : ((sect_Put.f t167 a0_0 a0_1 a0_2 l0_3 l1).bind fun bt174 => (if t173 = 0 then (if ((decide (a0_2 > 0)) == (decide ((t167.length : Int) > 0))) = true then (if (t167.length : Int) ≥ (wrap64 (x8_15 * x9_3)) then (if bt174.2 = 0 then (if (strOfNums t167).size + (strOfNums t167).size ≤ 9223372036854775807 then (some ((strOfNums bt174.1).toList == ((strOfNums t167) ++ (strOfNums t167)).toList)) else (none)) else (some false)) else (some false)) else (some false)) else (some false))) = some r := H
                    have A23 := Aside0.mk A230
                    clear A230
                    replace H := Option.bind_eq_some_iff.mp H
                    obtain ⟨⟨t174, t177⟩, A240, H⟩ := H
                    replace H : (if t173 = 0 then (if ((decide (a0_2 > 0)) == (decide ((t167.length : Int) > 0))) = true then (if (t167.length : Int) ≥ (wrap64 (x8_15 * x9_3)) then (if t177 = 0 then (if (strOfNums t167).size + (strOfNums t167).size ≤ 9223372036854775807 then (some ((strOfNums t174).toList == ((strOfNums t167) ++ (strOfNums t167)).toList)) else (none)) else (some false)) else (some false)) else (some false)) else (some false)) = some r := H
                    have A24 := Aside0.mk A240
                    clear A240
                    by_cases c25 : t173 = 0
                    · rw [if_pos c25] at H
                      have c25b0 : (t173 == 0) = true := beq_iff_eq.mpr c25
                      have c25b1 : (t173 != 0) = false := bne_eq_false_iff_eq.mpr c25
                      clear c25
                      by_cases c26 : ((decide (a0_2 > 0)) == (decide ((t167.length : Int) > 0))) = true
                      · rw [if_pos c26] at H
                        have c26i : (0 < a0_2 ↔ 0 < t167.length) = True := eq_true (by simpa using c26)
                        have c26b0 : ((decide (a0_2 > 0)) == (decide ((t167.length : Int) > 0))) = true := c26
                        (try (have c26b1 : decide ((decide (a0_2 > 0)) = (decide ((t167.length : Int) > 0))) = true := by simpa using c26))
                        (try (have c26b2 : ((decide (a0_2 > 0)) == (decide ((t167.length : Int) > 0))) = true := by simpa using c26))
                        clear c26
                        by_cases c27 : (t167.length : Int) ≥ (wrap64 (x8_15 * x9_3))
                        · rw [if_pos c27] at H
                          have c27b0 : decide ((wrap64 (x8_15 * x9_3)) ≤ (t167.length : Int)) = true := decide_eq_true c27
                          clear c27
                          by_cases c28 : t177 = 0
                          · rw [if_pos c28] at H
                            have c28b0 : (t177 == 0) = true := beq_iff_eq.mpr c28
                            have c28b1 : (t177 != 0) = false := bne_eq_false_iff_eq.mpr c28
                            clear c28
                            by_cases c29 : (strOfNums t167).size + (strOfNums t167).size ≤ 9223372036854775807
                            · rw [if_pos c29] at H
                              have c29b0 := eq_true c29
                              have c29b1 : decide ((strOfNums t167).size + (strOfNums t167).size ≤ 9223372036854775807) = true := decide_eq_true c29
                              try have c29b2 : (9223372036854775807 < (strOfNums t167).size + (strOfNums t167).size) = False := eq_false (Nat.not_lt.2 c29)
                              obtain rfl := Option.some.inj H
                              have hcz30_0 : wr.cell? ⟨gb164, 0, none⟩ = some (.int .u8 a0_0) := (blk_cell BK164.out 0).trans rfl
                              have hcz30_1 : wr.cell? ⟨gb164, 1, none⟩ = some (.int .u8 a0_1) := (blk_cell BK164.out 1).trans rfl
                              have hcz30_2 : wr.cell? ⟨gb164, 2, none⟩ = some (.int .i64 a0_2) := (blk_cell BK164.out 2).trans rfl
                              have hcz30_3 : wr.cell? ⟨gb164, 3, none⟩ = some (.slice A0_3 l0_3.length c0_3) := (blk_cell BK164.out 3).trans rfl
                              have hfz30_0 := blk_frozen BK164.out 0
                              have hfz30_1 := blk_frozen BK164.out 1
                              have hfz30_2 := blk_frozen BK164.out 2
                              have hfz30_3 := blk_frozen BK164.out 3
                              go_wp2_with (first | ((with_reducible refine gate_callee (f := 10) rfl ?_); refine goesL_ (some 58) rfl rfl Try.func10 (by kernel_rfl) rfl #[.agg #[.int .u8 a0_0, .int .u8 a0_1, .int .i64 a0_2, .slice A0_3 l0_3.length c0_3]] rfl (by (try simp only [List.map_toArray, List.map_cons, List.map_nil]); first | done | rfl | (simp only [List.length_drop, List.length_take]; rfl)) ?_; (with_reducible refine (info_Windows.calls k3 a0_0 a0_1 a0_2 _ _ l0_3 t172 t173 _ ?side1 ?side2 A23.out).mono ?_); (case side1 => repeat (first | exact (Kd.C_below HR0_3.out HB.out) | (with_reducible refine Kd.C_alloc ?_ _) | (with_reducible refine Kd.C_drewN ?_ _) | (with_reducible refine Kd.C_drew ?_))); (case side2 => exact HC0_3.out); rintro e w31 ⟨rfl, hb⟩; refine ⟨_, rfl, ?_⟩; have n0_ := Aside0.mk (Kd.R_below (by (with_reducible repeat (first | apply Kd.R_alloc | apply Kd.R_drewN | apply Kd.R_drew)); exact HO_6.out) hb); have n1_ := Aside0.mk (blk_below (g := gb164) (o := .cells #[.int .u8 a0_0, .int .u8 a0_1, .int .i64 a0_2, .slice A0_3 l0_3.length c0_3] 24 (0, 0)) (by (with_reducible repeat (first | refine blk_drewN ?_ _ | refine blk_drew ?_ | refine blk_alloc ?_ _)); exact BK164.out) hb); have n2_ := Aside0.mk (below_step (by repeat (first | (with_reducible first | exact HB.out | apply below_alloc | apply pw_below_drewN | apply below_drew1 | refine below_set ?_ GE164.out) | exact HB.out)) hb); clear HO_6; clear BK164; clear HB; have HO_6 := n0_; have BK164 := n1_; have HB := n2_; clear n0_ n1_ n2_; (try clear hb); (try clear hb2); (try clear hk); (try clear hi); have hcz32_0 : w31.cell? ⟨gb164, 0, none⟩ = some (.int .u8 a0_0) := (blk_cell BK164.out 0).trans rfl; have hcz32_1 : w31.cell? ⟨gb164, 1, none⟩ = some (.int .u8 a0_1) := (blk_cell BK164.out 1).trans rfl; have hcz32_2 : w31.cell? ⟨gb164, 2, none⟩ = some (.int .i64 a0_2) := (blk_cell BK164.out 2).trans rfl; have hcz32_3 : w31.cell? ⟨gb164, 3, none⟩ = some (.slice A0_3 l0_3.length c0_3) := (blk_cell BK164.out 3).trans rfl; have hfz32_0 := blk_frozen BK164.out 0; have hfz32_1 := blk_frozen BK164.out 1; have hfz32_2 := blk_frozen BK164.out 2; have hfz32_3 := blk_frozen BK164.out 3; obtain ⟨Ao33, co33, eo33⟩ := Kd.R_slice HO_6.out; subst eo33) | ((with_reducible refine gate_callee (f := 9) rfl ?_); refine goesL_ (some 65) rfl rfl Try.func9 (by kernel_rfl) rfl #[.slice Ao33 t167.length co33, .agg #[.int .u8 a0_0, .int .u8 a0_1, .int .i64 a0_2, .slice A0_3 l0_3.length c0_3], .slice A1 l1.length c1] rfl (by (try simp only [List.map_toArray, List.map_cons, List.map_nil]); first | done | rfl | (simp only [List.length_drop, List.length_take]; rfl)) ?_; (with_reducible refine (sect_Put.calls _ _ t167 a0_0 a0_1 a0_2 _ _ l0_3 _ _ l1 t174 t177 _ ?side1 ?side2 ?side3 ?side4 ?side5 ?side6 A24.out).mono ?_); (case side1 => repeat (first | exact (Kd.R_reads' HO_6.out).2.2 | (with_reducible refine Kd.C_alloc ?_ _) | (with_reducible refine Kd.C_drewN ?_ _) | (with_reducible refine Kd.C_drew ?_))); (case side2 => exact (Kd.R_reads' HO_6.out).2.1); (case side3 => repeat (first | exact (Kd.C_below HR0_3.out HB.out) | (with_reducible refine Kd.C_alloc ?_ _) | (with_reducible refine Kd.C_drewN ?_ _) | (with_reducible refine Kd.C_drew ?_))); (case side4 => exact HC0_3.out); (case side5 => repeat (first | exact (Kd.C_below HR1.out HB.out) | (with_reducible refine Kd.C_alloc ?_ _) | (with_reducible refine Kd.C_drewN ?_ _) | (with_reducible refine Kd.C_drew ?_))); (case side6 => exact HC1.out); rintro e w34 ⟨v175, rfl, ho0, hb⟩; refine ⟨_, rfl, ?_⟩; have n0_ := Aside0.mk (Kd.R_elder' (by (with_reducible repeat (first | apply Kd.R_alloc | apply Kd.R_drewN | apply Kd.R_drew)); exact HO_6.out) (Kd.R_base ho0) hb); have n1_ := Aside0.mk (Kd.R_lower (Kd.R_new' ho0 (Kd.R_lt (by (with_reducible repeat (first | apply Kd.R_alloc | apply Kd.R_drewN | apply Kd.R_drew)); exact HO_6.out))) (below_size (by repeat (first | (with_reducible first | exact HB.out | apply below_alloc | apply pw_below_drewN | apply below_drew1 | refine below_set ?_ GE164.out) | exact HB.out)))); have n2_ := Aside0.mk (blk_below (g := gb164) (o := .cells #[.int .u8 a0_0, .int .u8 a0_1, .int .i64 a0_2, .slice A0_3 l0_3.length c0_3] 24 (0, 0)) (by (with_reducible repeat (first | refine blk_drewN ?_ _ | refine blk_drew ?_ | refine blk_alloc ?_ _)); exact BK164.out) hb); have n3_ := Aside0.mk (below_step (by repeat (first | (with_reducible first | exact HB.out | apply below_alloc | apply pw_below_drewN | apply below_drew1 | refine below_set ?_ GE164.out) | exact HB.out)) hb); clear HO_6; clear BK164; clear HB; have HO_6 := n0_; have HO176 := n1_; have BK164 := n2_; have HB := n3_; clear n0_ n1_ n2_ n3_; (try clear hb); (try clear hb2); (try clear hk); (try clear hi); (try clear ho0); have hcz35_0 : w34.cell? ⟨gb164, 0, none⟩ = some (.int .u8 a0_0) := (blk_cell BK164.out 0).trans rfl; have hcz35_1 : w34.cell? ⟨gb164, 1, none⟩ = some (.int .u8 a0_1) := (blk_cell BK164.out 1).trans rfl; have hcz35_2 : w34.cell? ⟨gb164, 2, none⟩ = some (.int .i64 a0_2) := (blk_cell BK164.out 2).trans rfl; have hcz35_3 : w34.cell? ⟨gb164, 3, none⟩ = some (.slice A0_3 l0_3.length c0_3) := (blk_cell BK164.out 3).trans rfl; have hfz35_0 := blk_frozen BK164.out 0; have hfz35_1 := blk_frozen BK164.out 1; have hfz35_2 := blk_frozen BK164.out 2; have hfz35_3 := blk_frozen BK164.out 3; have hcv36 := own_string (P := Try.prog) Try.underlying28 Try.underlying5 Try.underlying9 (Kd.own_of_R HO176.out); have hcv37 := own_string (P := Try.prog) Try.underlying28 Try.underlying5 Try.underlying9 (Kd.own_of_R HO_6.out); have hcv38 := own_string (P := Try.prog) Try.underlying28 Try.underlying5 Try.underlying9 (Kd.own_of_R HO_6.out)))
                              go_ret
                              exact ⟨by first | rfl | (simp [errW_none, errW_some] <;> rfl) | (simp [*, errW_none, errW_some] <;> rfl), by repeat (first | (with_reducible first | exact HB.out | apply below_alloc | apply pw_below_drewN | apply below_drew1 | refine below_set ?_ GE164.out) | exact HB.out)⟩
                            · rw [if_neg c29] at H
                              exact absurd H (by simp)
                          · rw [if_neg c28] at H
                            have c28b0 : (t177 == 0) = false := beq_eq_false_iff_ne.mpr c28
                            have c28b1 : (t177 != 0) = true := bne_iff_ne.mpr c28
                            obtain rfl := Option.some.inj H
                            have hcz39_0 : wr.cell? ⟨gb164, 0, none⟩ = some (.int .u8 a0_0) := (blk_cell BK164.out 0).trans rfl
                            have hcz39_1 : wr.cell? ⟨gb164, 1, none⟩ = some (.int .u8 a0_1) := (blk_cell BK164.out 1).trans rfl
                            have hcz39_2 : wr.cell? ⟨gb164, 2, none⟩ = some (.int .i64 a0_2) := (blk_cell BK164.out 2).trans rfl
                            have hcz39_3 : wr.cell? ⟨gb164, 3, none⟩ = some (.slice A0_3 l0_3.length c0_3) := (blk_cell BK164.out 3).trans rfl
                            have hfz39_0 := blk_frozen BK164.out 0
                            have hfz39_1 := blk_frozen BK164.out 1
                            have hfz39_2 := blk_frozen BK164.out 2
                            have hfz39_3 := blk_frozen BK164.out 3
                            go_wp2_with (first | ((with_reducible refine gate_callee (f := 10) rfl ?_); refine goesL_ (some 58) rfl rfl Try.func10 (by kernel_rfl) rfl #[.agg #[.int .u8 a0_0, .int .u8 a0_1, .int .i64 a0_2, .slice A0_3 l0_3.length c0_3]] rfl (by (try simp only [List.map_toArray, List.map_cons, List.map_nil]); first | done | rfl | (simp only [List.length_drop, List.length_take]; rfl)) ?_; (with_reducible refine (info_Windows.calls k3 a0_0 a0_1 a0_2 _ _ l0_3 t172 t173 _ ?side1 ?side2 A23.out).mono ?_); (case side1 => repeat (first | exact (Kd.C_below HR0_3.out HB.out) | (with_reducible refine Kd.C_alloc ?_ _) | (with_reducible refine Kd.C_drewN ?_ _) | (with_reducible refine Kd.C_drew ?_))); (case side2 => exact HC0_3.out); rintro e w40 ⟨rfl, hb⟩; refine ⟨_, rfl, ?_⟩; have n0_ := Aside0.mk (Kd.R_below (by (with_reducible repeat (first | apply Kd.R_alloc | apply Kd.R_drewN | apply Kd.R_drew)); exact HO_6.out) hb); have n1_ := Aside0.mk (blk_below (g := gb164) (o := .cells #[.int .u8 a0_0, .int .u8 a0_1, .int .i64 a0_2, .slice A0_3 l0_3.length c0_3] 24 (0, 0)) (by (with_reducible repeat (first | refine blk_drewN ?_ _ | refine blk_drew ?_ | refine blk_alloc ?_ _)); exact BK164.out) hb); have n2_ := Aside0.mk (below_step (by repeat (first | (with_reducible first | exact HB.out | apply below_alloc | apply pw_below_drewN | apply below_drew1 | refine below_set ?_ GE164.out) | exact HB.out)) hb); clear HO_6; clear BK164; clear HB; have HO_6 := n0_; have BK164 := n1_; have HB := n2_; clear n0_ n1_ n2_; (try clear hb); (try clear hb2); (try clear hk); (try clear hi); have hcz41_0 : w40.cell? ⟨gb164, 0, none⟩ = some (.int .u8 a0_0) := (blk_cell BK164.out 0).trans rfl; have hcz41_1 : w40.cell? ⟨gb164, 1, none⟩ = some (.int .u8 a0_1) := (blk_cell BK164.out 1).trans rfl; have hcz41_2 : w40.cell? ⟨gb164, 2, none⟩ = some (.int .i64 a0_2) := (blk_cell BK164.out 2).trans rfl; have hcz41_3 : w40.cell? ⟨gb164, 3, none⟩ = some (.slice A0_3 l0_3.length c0_3) := (blk_cell BK164.out 3).trans rfl; have hfz41_0 := blk_frozen BK164.out 0; have hfz41_1 := blk_frozen BK164.out 1; have hfz41_2 := blk_frozen BK164.out 2; have hfz41_3 := blk_frozen BK164.out 3; obtain ⟨Ao42, co42, eo42⟩ := Kd.R_slice HO_6.out; subst eo42) | ((with_reducible refine gate_callee (f := 9) rfl ?_); refine goesL_ (some 65) rfl rfl Try.func9 (by kernel_rfl) rfl #[.slice Ao42 t167.length co42, .agg #[.int .u8 a0_0, .int .u8 a0_1, .int .i64 a0_2, .slice A0_3 l0_3.length c0_3], .slice A1 l1.length c1] rfl (by (try simp only [List.map_toArray, List.map_cons, List.map_nil]); first | done | rfl | (simp only [List.length_drop, List.length_take]; rfl)) ?_; (with_reducible refine (sect_Put.calls _ _ t167 a0_0 a0_1 a0_2 _ _ l0_3 _ _ l1 t174 t177 _ ?side1 ?side2 ?side3 ?side4 ?side5 ?side6 A24.out).mono ?_); (case side1 => repeat (first | exact (Kd.R_reads' HO_6.out).2.2 | (with_reducible refine Kd.C_alloc ?_ _) | (with_reducible refine Kd.C_drewN ?_ _) | (with_reducible refine Kd.C_drew ?_))); (case side2 => exact (Kd.R_reads' HO_6.out).2.1); (case side3 => repeat (first | exact (Kd.C_below HR0_3.out HB.out) | (with_reducible refine Kd.C_alloc ?_ _) | (with_reducible refine Kd.C_drewN ?_ _) | (with_reducible refine Kd.C_drew ?_))); (case side4 => exact HC0_3.out); (case side5 => repeat (first | exact (Kd.C_below HR1.out HB.out) | (with_reducible refine Kd.C_alloc ?_ _) | (with_reducible refine Kd.C_drewN ?_ _) | (with_reducible refine Kd.C_drew ?_))); (case side6 => exact HC1.out); rintro e w43 ⟨v175, rfl, ho0, hb⟩; refine ⟨_, rfl, ?_⟩; have n0_ := Aside0.mk (Kd.R_elder' (by (with_reducible repeat (first | apply Kd.R_alloc | apply Kd.R_drewN | apply Kd.R_drew)); exact HO_6.out) (Kd.R_base ho0) hb); have n1_ := Aside0.mk (Kd.R_lower (Kd.R_new' ho0 (Kd.R_lt (by (with_reducible repeat (first | apply Kd.R_alloc | apply Kd.R_drewN | apply Kd.R_drew)); exact HO_6.out))) (below_size (by repeat (first | (with_reducible first | exact HB.out | apply below_alloc | apply pw_below_drewN | apply below_drew1 | refine below_set ?_ GE164.out) | exact HB.out)))); have n2_ := Aside0.mk (blk_below (g := gb164) (o := .cells #[.int .u8 a0_0, .int .u8 a0_1, .int .i64 a0_2, .slice A0_3 l0_3.length c0_3] 24 (0, 0)) (by (with_reducible repeat (first | refine blk_drewN ?_ _ | refine blk_drew ?_ | refine blk_alloc ?_ _)); exact BK164.out) hb); have n3_ := Aside0.mk (below_step (by repeat (first | (with_reducible first | exact HB.out | apply below_alloc | apply pw_below_drewN | apply below_drew1 | refine below_set ?_ GE164.out) | exact HB.out)) hb); clear HO_6; clear BK164; clear HB; have HO_6 := n0_; have HO176 := n1_; have BK164 := n2_; have HB := n3_; clear n0_ n1_ n2_ n3_; (try clear hb); (try clear hb2); (try clear hk); (try clear hi); (try clear ho0); have hcz44_0 : w43.cell? ⟨gb164, 0, none⟩ = some (.int .u8 a0_0) := (blk_cell BK164.out 0).trans rfl; have hcz44_1 : w43.cell? ⟨gb164, 1, none⟩ = some (.int .u8 a0_1) := (blk_cell BK164.out 1).trans rfl; have hcz44_2 : w43.cell? ⟨gb164, 2, none⟩ = some (.int .i64 a0_2) := (blk_cell BK164.out 2).trans rfl; have hcz44_3 : w43.cell? ⟨gb164, 3, none⟩ = some (.slice A0_3 l0_3.length c0_3) := (blk_cell BK164.out 3).trans rfl; have hfz44_0 := blk_frozen BK164.out 0; have hfz44_1 := blk_frozen BK164.out 1; have hfz44_2 := blk_frozen BK164.out 2; have hfz44_3 := blk_frozen BK164.out 3))
                            go_ret
                            exact ⟨by first | rfl | (simp [errW_none, errW_some] <;> rfl) | (simp [*, errW_none, errW_some] <;> rfl), by repeat (first | (with_reducible first | exact HB.out | apply below_alloc | apply pw_below_drewN | apply below_drew1 | refine below_set ?_ GE164.out) | exact HB.out)⟩
                        · rw [if_neg c27] at H
                          have c27b0 : decide ((wrap64 (x8_15 * x9_3)) ≤ (t167.length : Int)) = false := decide_eq_false c27
                          clear c27
                          obtain rfl := Option.some.inj H
                          have hcz45_0 : wr.cell? ⟨gb164, 0, none⟩ = some (.int .u8 a0_0) := (blk_cell BK164.out 0).trans rfl
                          have hcz45_1 : wr.cell? ⟨gb164, 1, none⟩ = some (.int .u8 a0_1) := (blk_cell BK164.out 1).trans rfl
                          have hcz45_2 : wr.cell? ⟨gb164, 2, none⟩ = some (.int .i64 a0_2) := (blk_cell BK164.out 2).trans rfl
                          have hcz45_3 : wr.cell? ⟨gb164, 3, none⟩ = some (.slice A0_3 l0_3.length c0_3) := (blk_cell BK164.out 3).trans rfl
                          have hfz45_0 := blk_frozen BK164.out 0
                          have hfz45_1 := blk_frozen BK164.out 1
                          have hfz45_2 := blk_frozen BK164.out 2
                          have hfz45_3 := blk_frozen BK164.out 3
                          go_wp2_with (first | ((with_reducible refine gate_callee (f := 10) rfl ?_); refine goesL_ (some 58) rfl rfl Try.func10 (by kernel_rfl) rfl #[.agg #[.int .u8 a0_0, .int .u8 a0_1, .int .i64 a0_2, .slice A0_3 l0_3.length c0_3]] rfl (by (try simp only [List.map_toArray, List.map_cons, List.map_nil]); first | done | rfl | (simp only [List.length_drop, List.length_take]; rfl)) ?_; (with_reducible refine (info_Windows.calls k3 a0_0 a0_1 a0_2 _ _ l0_3 t172 t173 _ ?side1 ?side2 A23.out).mono ?_); (case side1 => repeat (first | exact (Kd.C_below HR0_3.out HB.out) | (with_reducible refine Kd.C_alloc ?_ _) | (with_reducible refine Kd.C_drewN ?_ _) | (with_reducible refine Kd.C_drew ?_))); (case side2 => exact HC0_3.out); rintro e w46 ⟨rfl, hb⟩; refine ⟨_, rfl, ?_⟩; have n0_ := Aside0.mk (Kd.R_below (by (with_reducible repeat (first | apply Kd.R_alloc | apply Kd.R_drewN | apply Kd.R_drew)); exact HO_6.out) hb); have n1_ := Aside0.mk (blk_below (g := gb164) (o := .cells #[.int .u8 a0_0, .int .u8 a0_1, .int .i64 a0_2, .slice A0_3 l0_3.length c0_3] 24 (0, 0)) (by (with_reducible repeat (first | refine blk_drewN ?_ _ | refine blk_drew ?_ | refine blk_alloc ?_ _)); exact BK164.out) hb); have n2_ := Aside0.mk (below_step (by repeat (first | (with_reducible first | exact HB.out | apply below_alloc | apply pw_below_drewN | apply below_drew1 | refine below_set ?_ GE164.out) | exact HB.out)) hb); clear HO_6; clear BK164; clear HB; have HO_6 := n0_; have BK164 := n1_; have HB := n2_; clear n0_ n1_ n2_; (try clear hb); (try clear hb2); (try clear hk); (try clear hi); have hcz47_0 : w46.cell? ⟨gb164, 0, none⟩ = some (.int .u8 a0_0) := (blk_cell BK164.out 0).trans rfl; have hcz47_1 : w46.cell? ⟨gb164, 1, none⟩ = some (.int .u8 a0_1) := (blk_cell BK164.out 1).trans rfl; have hcz47_2 : w46.cell? ⟨gb164, 2, none⟩ = some (.int .i64 a0_2) := (blk_cell BK164.out 2).trans rfl; have hcz47_3 : w46.cell? ⟨gb164, 3, none⟩ = some (.slice A0_3 l0_3.length c0_3) := (blk_cell BK164.out 3).trans rfl; have hfz47_0 := blk_frozen BK164.out 0; have hfz47_1 := blk_frozen BK164.out 1; have hfz47_2 := blk_frozen BK164.out 2; have hfz47_3 := blk_frozen BK164.out 3; obtain ⟨Ao48, co48, eo48⟩ := Kd.R_slice HO_6.out; subst eo48) | ((with_reducible refine gate_callee (f := 9) rfl ?_); refine goesL_ (some 65) rfl rfl Try.func9 (by kernel_rfl) rfl #[.slice Ao48 t167.length co48, .agg #[.int .u8 a0_0, .int .u8 a0_1, .int .i64 a0_2, .slice A0_3 l0_3.length c0_3], .slice A1 l1.length c1] rfl (by (try simp only [List.map_toArray, List.map_cons, List.map_nil]); first | done | rfl | (simp only [List.length_drop, List.length_take]; rfl)) ?_; (with_reducible refine (sect_Put.calls _ _ t167 a0_0 a0_1 a0_2 _ _ l0_3 _ _ l1 t174 t177 _ ?side1 ?side2 ?side3 ?side4 ?side5 ?side6 A24.out).mono ?_); (case side1 => repeat (first | exact (Kd.R_reads' HO_6.out).2.2 | (with_reducible refine Kd.C_alloc ?_ _) | (with_reducible refine Kd.C_drewN ?_ _) | (with_reducible refine Kd.C_drew ?_))); (case side2 => exact (Kd.R_reads' HO_6.out).2.1); (case side3 => repeat (first | exact (Kd.C_below HR0_3.out HB.out) | (with_reducible refine Kd.C_alloc ?_ _) | (with_reducible refine Kd.C_drewN ?_ _) | (with_reducible refine Kd.C_drew ?_))); (case side4 => exact HC0_3.out); (case side5 => repeat (first | exact (Kd.C_below HR1.out HB.out) | (with_reducible refine Kd.C_alloc ?_ _) | (with_reducible refine Kd.C_drewN ?_ _) | (with_reducible refine Kd.C_drew ?_))); (case side6 => exact HC1.out); rintro e w49 ⟨v175, rfl, ho0, hb⟩; refine ⟨_, rfl, ?_⟩; have n0_ := Aside0.mk (Kd.R_elder' (by (with_reducible repeat (first | apply Kd.R_alloc | apply Kd.R_drewN | apply Kd.R_drew)); exact HO_6.out) (Kd.R_base ho0) hb); have n1_ := Aside0.mk (Kd.R_lower (Kd.R_new' ho0 (Kd.R_lt (by (with_reducible repeat (first | apply Kd.R_alloc | apply Kd.R_drewN | apply Kd.R_drew)); exact HO_6.out))) (below_size (by repeat (first | (with_reducible first | exact HB.out | apply below_alloc | apply pw_below_drewN | apply below_drew1 | refine below_set ?_ GE164.out) | exact HB.out)))); have n2_ := Aside0.mk (blk_below (g := gb164) (o := .cells #[.int .u8 a0_0, .int .u8 a0_1, .int .i64 a0_2, .slice A0_3 l0_3.length c0_3] 24 (0, 0)) (by (with_reducible repeat (first | refine blk_drewN ?_ _ | refine blk_drew ?_ | refine blk_alloc ?_ _)); exact BK164.out) hb); have n3_ := Aside0.mk (below_step (by repeat (first | (with_reducible first | exact HB.out | apply below_alloc | apply pw_below_drewN | apply below_drew1 | refine below_set ?_ GE164.out) | exact HB.out)) hb); clear HO_6; clear BK164; clear HB; have HO_6 := n0_; have HO176 := n1_; have BK164 := n2_; have HB := n3_; clear n0_ n1_ n2_ n3_; (try clear hb); (try clear hb2); (try clear hk); (try clear hi); (try clear ho0); have hcz50_0 : w49.cell? ⟨gb164, 0, none⟩ = some (.int .u8 a0_0) := (blk_cell BK164.out 0).trans rfl; have hcz50_1 : w49.cell? ⟨gb164, 1, none⟩ = some (.int .u8 a0_1) := (blk_cell BK164.out 1).trans rfl; have hcz50_2 : w49.cell? ⟨gb164, 2, none⟩ = some (.int .i64 a0_2) := (blk_cell BK164.out 2).trans rfl; have hcz50_3 : w49.cell? ⟨gb164, 3, none⟩ = some (.slice A0_3 l0_3.length c0_3) := (blk_cell BK164.out 3).trans rfl; have hfz50_0 := blk_frozen BK164.out 0; have hfz50_1 := blk_frozen BK164.out 1; have hfz50_2 := blk_frozen BK164.out 2; have hfz50_3 := blk_frozen BK164.out 3))
                          go_ret
                          exact ⟨by first | rfl | (simp [errW_none, errW_some] <;> rfl) | (simp [*, errW_none, errW_some] <;> rfl), by repeat (first | (with_reducible first | exact HB.out | apply below_alloc | apply pw_below_drewN | apply below_drew1 | refine below_set ?_ GE164.out) | exact HB.out)⟩
                      · rw [if_neg c26] at H
                        have c26i : (0 < a0_2 ↔ 0 < t167.length) = False := eq_false (by simpa using c26)
                        have c26b0 : ((decide (a0_2 > 0)) == (decide ((t167.length : Int) > 0))) = false := by simpa using c26
                        (try (have c26b1 : decide ((decide (a0_2 > 0)) = (decide ((t167.length : Int) > 0))) = false := by simpa using c26))
                        (try (have c26b2 : ((decide (a0_2 > 0)) == (decide ((t167.length : Int) > 0))) = false := by simpa using c26))
                        (try (have c26b3 : ¬ ((decide (a0_2 > 0)) = (decide ((t167.length : Int) > 0))) := by simpa using c26))
                        clear c26
                        obtain rfl := Option.some.inj H
                        have hcz51_0 : wr.cell? ⟨gb164, 0, none⟩ = some (.int .u8 a0_0) := (blk_cell BK164.out 0).trans rfl
                        have hcz51_1 : wr.cell? ⟨gb164, 1, none⟩ = some (.int .u8 a0_1) := (blk_cell BK164.out 1).trans rfl
                        have hcz51_2 : wr.cell? ⟨gb164, 2, none⟩ = some (.int .i64 a0_2) := (blk_cell BK164.out 2).trans rfl
                        have hcz51_3 : wr.cell? ⟨gb164, 3, none⟩ = some (.slice A0_3 l0_3.length c0_3) := (blk_cell BK164.out 3).trans rfl
                        have hfz51_0 := blk_frozen BK164.out 0
                        have hfz51_1 := blk_frozen BK164.out 1
                        have hfz51_2 := blk_frozen BK164.out 2
                        have hfz51_3 := blk_frozen BK164.out 3
                        go_wp2_with (first | ((with_reducible refine gate_callee (f := 10) rfl ?_); refine goesL_ (some 58) rfl rfl Try.func10 (by kernel_rfl) rfl #[.agg #[.int .u8 a0_0, .int .u8 a0_1, .int .i64 a0_2, .slice A0_3 l0_3.length c0_3]] rfl (by (try simp only [List.map_toArray, List.map_cons, List.map_nil]); first | done | rfl | (simp only [List.length_drop, List.length_take]; rfl)) ?_; (with_reducible refine (info_Windows.calls k3 a0_0 a0_1 a0_2 _ _ l0_3 t172 t173 _ ?side1 ?side2 A23.out).mono ?_); (case side1 => repeat (first | exact (Kd.C_below HR0_3.out HB.out) | (with_reducible refine Kd.C_alloc ?_ _) | (with_reducible refine Kd.C_drewN ?_ _) | (with_reducible refine Kd.C_drew ?_))); (case side2 => exact HC0_3.out); rintro e w52 ⟨rfl, hb⟩; refine ⟨_, rfl, ?_⟩; have n0_ := Aside0.mk (Kd.R_below (by (with_reducible repeat (first | apply Kd.R_alloc | apply Kd.R_drewN | apply Kd.R_drew)); exact HO_6.out) hb); have n1_ := Aside0.mk (blk_below (g := gb164) (o := .cells #[.int .u8 a0_0, .int .u8 a0_1, .int .i64 a0_2, .slice A0_3 l0_3.length c0_3] 24 (0, 0)) (by (with_reducible repeat (first | refine blk_drewN ?_ _ | refine blk_drew ?_ | refine blk_alloc ?_ _)); exact BK164.out) hb); have n2_ := Aside0.mk (below_step (by repeat (first | (with_reducible first | exact HB.out | apply below_alloc | apply pw_below_drewN | apply below_drew1 | refine below_set ?_ GE164.out) | exact HB.out)) hb); clear HO_6; clear BK164; clear HB; have HO_6 := n0_; have BK164 := n1_; have HB := n2_; clear n0_ n1_ n2_; (try clear hb); (try clear hb2); (try clear hk); (try clear hi); have hcz53_0 : w52.cell? ⟨gb164, 0, none⟩ = some (.int .u8 a0_0) := (blk_cell BK164.out 0).trans rfl; have hcz53_1 : w52.cell? ⟨gb164, 1, none⟩ = some (.int .u8 a0_1) := (blk_cell BK164.out 1).trans rfl; have hcz53_2 : w52.cell? ⟨gb164, 2, none⟩ = some (.int .i64 a0_2) := (blk_cell BK164.out 2).trans rfl; have hcz53_3 : w52.cell? ⟨gb164, 3, none⟩ = some (.slice A0_3 l0_3.length c0_3) := (blk_cell BK164.out 3).trans rfl; have hfz53_0 := blk_frozen BK164.out 0; have hfz53_1 := blk_frozen BK164.out 1; have hfz53_2 := blk_frozen BK164.out 2; have hfz53_3 := blk_frozen BK164.out 3; obtain ⟨Ao54, co54, eo54⟩ := Kd.R_slice HO_6.out; subst eo54) | ((with_reducible refine gate_callee (f := 9) rfl ?_); refine goesL_ (some 65) rfl rfl Try.func9 (by kernel_rfl) rfl #[.slice Ao54 t167.length co54, .agg #[.int .u8 a0_0, .int .u8 a0_1, .int .i64 a0_2, .slice A0_3 l0_3.length c0_3], .slice A1 l1.length c1] rfl (by (try simp only [List.map_toArray, List.map_cons, List.map_nil]); first | done | rfl | (simp only [List.length_drop, List.length_take]; rfl)) ?_; (with_reducible refine (sect_Put.calls _ _ t167 a0_0 a0_1 a0_2 _ _ l0_3 _ _ l1 t174 t177 _ ?side1 ?side2 ?side3 ?side4 ?side5 ?side6 A24.out).mono ?_); (case side1 => repeat (first | exact (Kd.R_reads' HO_6.out).2.2 | (with_reducible refine Kd.C_alloc ?_ _) | (with_reducible refine Kd.C_drewN ?_ _) | (with_reducible refine Kd.C_drew ?_))); (case side2 => exact (Kd.R_reads' HO_6.out).2.1); (case side3 => repeat (first | exact (Kd.C_below HR0_3.out HB.out) | (with_reducible refine Kd.C_alloc ?_ _) | (with_reducible refine Kd.C_drewN ?_ _) | (with_reducible refine Kd.C_drew ?_))); (case side4 => exact HC0_3.out); (case side5 => repeat (first | exact (Kd.C_below HR1.out HB.out) | (with_reducible refine Kd.C_alloc ?_ _) | (with_reducible refine Kd.C_drewN ?_ _) | (with_reducible refine Kd.C_drew ?_))); (case side6 => exact HC1.out); rintro e w55 ⟨v175, rfl, ho0, hb⟩; refine ⟨_, rfl, ?_⟩; have n0_ := Aside0.mk (Kd.R_elder' (by (with_reducible repeat (first | apply Kd.R_alloc | apply Kd.R_drewN | apply Kd.R_drew)); exact HO_6.out) (Kd.R_base ho0) hb); have n1_ := Aside0.mk (Kd.R_lower (Kd.R_new' ho0 (Kd.R_lt (by (with_reducible repeat (first | apply Kd.R_alloc | apply Kd.R_drewN | apply Kd.R_drew)); exact HO_6.out))) (below_size (by repeat (first | (with_reducible first | exact HB.out | apply below_alloc | apply pw_below_drewN | apply below_drew1 | refine below_set ?_ GE164.out) | exact HB.out)))); have n2_ := Aside0.mk (blk_below (g := gb164) (o := .cells #[.int .u8 a0_0, .int .u8 a0_1, .int .i64 a0_2, .slice A0_3 l0_3.length c0_3] 24 (0, 0)) (by (with_reducible repeat (first | refine blk_drewN ?_ _ | refine blk_drew ?_ | refine blk_alloc ?_ _)); exact BK164.out) hb); have n3_ := Aside0.mk (below_step (by repeat (first | (with_reducible first | exact HB.out | apply below_alloc | apply pw_below_drewN | apply below_drew1 | refine below_set ?_ GE164.out) | exact HB.out)) hb); clear HO_6; clear BK164; clear HB; have HO_6 := n0_; have HO176 := n1_; have BK164 := n2_; have HB := n3_; clear n0_ n1_ n2_ n3_; (try clear hb); (try clear hb2); (try clear hk); (try clear hi); (try clear ho0); have hcz56_0 : w55.cell? ⟨gb164, 0, none⟩ = some (.int .u8 a0_0) := (blk_cell BK164.out 0).trans rfl; have hcz56_1 : w55.cell? ⟨gb164, 1, none⟩ = some (.int .u8 a0_1) := (blk_cell BK164.out 1).trans rfl; have hcz56_2 : w55.cell? ⟨gb164, 2, none⟩ = some (.int .i64 a0_2) := (blk_cell BK164.out 2).trans rfl; have hcz56_3 : w55.cell? ⟨gb164, 3, none⟩ = some (.slice A0_3 l0_3.length c0_3) := (blk_cell BK164.out 3).trans rfl; have hfz56_0 := blk_frozen BK164.out 0; have hfz56_1 := blk_frozen BK164.out 1; have hfz56_2 := blk_frozen BK164.out 2; have hfz56_3 := blk_frozen BK164.out 3))
                        go_ret
                        exact ⟨by first | rfl | (simp [errW_none, errW_some] <;> rfl) | (simp [*, errW_none, errW_some] <;> rfl), by repeat (first | (with_reducible first | exact HB.out | apply below_alloc | apply pw_below_drewN | apply below_drew1 | refine below_set ?_ GE164.out) | exact HB.out)⟩
                    · rw [if_neg c25] at H
                      have c25b0 : (t173 == 0) = false := beq_eq_false_iff_ne.mpr c25
                      have c25b1 : (t173 != 0) = true := bne_iff_ne.mpr c25
                      obtain rfl := Option.some.inj H
                      have hcz57_0 : wr.cell? ⟨gb164, 0, none⟩ = some (.int .u8 a0_0) := (blk_cell BK164.out 0).trans rfl
                      have hcz57_1 : wr.cell? ⟨gb164, 1, none⟩ = some (.int .u8 a0_1) := (blk_cell BK164.out 1).trans rfl
                      have hcz57_2 : wr.cell? ⟨gb164, 2, none⟩ = some (.int .i64 a0_2) := (blk_cell BK164.out 2).trans rfl
                      have hcz57_3 : wr.cell? ⟨gb164, 3, none⟩ = some (.slice A0_3 l0_3.length c0_3) := (blk_cell BK164.out 3).trans rfl
                      have hfz57_0 := blk_frozen BK164.out 0
                      have hfz57_1 := blk_frozen BK164.out 1
                      have hfz57_2 := blk_frozen BK164.out 2
                      have hfz57_3 := blk_frozen BK164.out 3
                      go_wp2_with (first | ((with_reducible refine gate_callee (f := 10) rfl ?_); refine goesL_ (some 58) rfl rfl Try.func10 (by kernel_rfl) rfl #[.agg #[.int .u8 a0_0, .int .u8 a0_1, .int .i64 a0_2, .slice A0_3 l0_3.length c0_3]] rfl (by (try simp only [List.map_toArray, List.map_cons, List.map_nil]); first | done | rfl | (simp only [List.length_drop, List.length_take]; rfl)) ?_; (with_reducible refine (info_Windows.calls k3 a0_0 a0_1 a0_2 _ _ l0_3 t172 t173 _ ?side1 ?side2 A23.out).mono ?_); (case side1 => repeat (first | exact (Kd.C_below HR0_3.out HB.out) | (with_reducible refine Kd.C_alloc ?_ _) | (with_reducible refine Kd.C_drewN ?_ _) | (with_reducible refine Kd.C_drew ?_))); (case side2 => exact HC0_3.out); rintro e w58 ⟨rfl, hb⟩; refine ⟨_, rfl, ?_⟩; have n0_ := Aside0.mk (Kd.R_below (by (with_reducible repeat (first | apply Kd.R_alloc | apply Kd.R_drewN | apply Kd.R_drew)); exact HO_6.out) hb); have n1_ := Aside0.mk (blk_below (g := gb164) (o := .cells #[.int .u8 a0_0, .int .u8 a0_1, .int .i64 a0_2, .slice A0_3 l0_3.length c0_3] 24 (0, 0)) (by (with_reducible repeat (first | refine blk_drewN ?_ _ | refine blk_drew ?_ | refine blk_alloc ?_ _)); exact BK164.out) hb); have n2_ := Aside0.mk (below_step (by repeat (first | (with_reducible first | exact HB.out | apply below_alloc | apply pw_below_drewN | apply below_drew1 | refine below_set ?_ GE164.out) | exact HB.out)) hb); clear HO_6; clear BK164; clear HB; have HO_6 := n0_; have BK164 := n1_; have HB := n2_; clear n0_ n1_ n2_; (try clear hb); (try clear hb2); (try clear hk); (try clear hi); have hcz59_0 : w58.cell? ⟨gb164, 0, none⟩ = some (.int .u8 a0_0) := (blk_cell BK164.out 0).trans rfl; have hcz59_1 : w58.cell? ⟨gb164, 1, none⟩ = some (.int .u8 a0_1) := (blk_cell BK164.out 1).trans rfl; have hcz59_2 : w58.cell? ⟨gb164, 2, none⟩ = some (.int .i64 a0_2) := (blk_cell BK164.out 2).trans rfl; have hcz59_3 : w58.cell? ⟨gb164, 3, none⟩ = some (.slice A0_3 l0_3.length c0_3) := (blk_cell BK164.out 3).trans rfl; have hfz59_0 := blk_frozen BK164.out 0; have hfz59_1 := blk_frozen BK164.out 1; have hfz59_2 := blk_frozen BK164.out 2; have hfz59_3 := blk_frozen BK164.out 3; obtain ⟨Ao60, co60, eo60⟩ := Kd.R_slice HO_6.out; subst eo60) | ((with_reducible refine gate_callee (f := 9) rfl ?_); refine goesL_ (some 65) rfl rfl Try.func9 (by kernel_rfl) rfl #[.slice Ao60 t167.length co60, .agg #[.int .u8 a0_0, .int .u8 a0_1, .int .i64 a0_2, .slice A0_3 l0_3.length c0_3], .slice A1 l1.length c1] rfl (by (try simp only [List.map_toArray, List.map_cons, List.map_nil]); first | done | rfl | (simp only [List.length_drop, List.length_take]; rfl)) ?_; (with_reducible refine (sect_Put.calls _ _ t167 a0_0 a0_1 a0_2 _ _ l0_3 _ _ l1 t174 t177 _ ?side1 ?side2 ?side3 ?side4 ?side5 ?side6 A24.out).mono ?_); (case side1 => repeat (first | exact (Kd.R_reads' HO_6.out).2.2 | (with_reducible refine Kd.C_alloc ?_ _) | (with_reducible refine Kd.C_drewN ?_ _) | (with_reducible refine Kd.C_drew ?_))); (case side2 => exact (Kd.R_reads' HO_6.out).2.1); (case side3 => repeat (first | exact (Kd.C_below HR0_3.out HB.out) | (with_reducible refine Kd.C_alloc ?_ _) | (with_reducible refine Kd.C_drewN ?_ _) | (with_reducible refine Kd.C_drew ?_))); (case side4 => exact HC0_3.out); (case side5 => repeat (first | exact (Kd.C_below HR1.out HB.out) | (with_reducible refine Kd.C_alloc ?_ _) | (with_reducible refine Kd.C_drewN ?_ _) | (with_reducible refine Kd.C_drew ?_))); (case side6 => exact HC1.out); rintro e w61 ⟨v175, rfl, ho0, hb⟩; refine ⟨_, rfl, ?_⟩; have n0_ := Aside0.mk (Kd.R_elder' (by (with_reducible repeat (first | apply Kd.R_alloc | apply Kd.R_drewN | apply Kd.R_drew)); exact HO_6.out) (Kd.R_base ho0) hb); have n1_ := Aside0.mk (Kd.R_lower (Kd.R_new' ho0 (Kd.R_lt (by (with_reducible repeat (first | apply Kd.R_alloc | apply Kd.R_drewN | apply Kd.R_drew)); exact HO_6.out))) (below_size (by repeat (first | (with_reducible first | exact HB.out | apply below_alloc | apply pw_below_drewN | apply below_drew1 | refine below_set ?_ GE164.out) | exact HB.out)))); have n2_ := Aside0.mk (blk_below (g := gb164) (o := .cells #[.int .u8 a0_0, .int .u8 a0_1, .int .i64 a0_2, .slice A0_3 l0_3.length c0_3] 24 (0, 0)) (by (with_reducible repeat (first | refine blk_drewN ?_ _ | refine blk_drew ?_ | refine blk_alloc ?_ _)); exact BK164.out) hb); have n3_ := Aside0.mk (below_step (by repeat (first | (with_reducible first | exact HB.out | apply below_alloc | apply pw_below_drewN | apply below_drew1 | refine below_set ?_ GE164.out) | exact HB.out)) hb); clear HO_6; clear BK164; clear HB; have HO_6 := n0_; have HO176 := n1_; have BK164 := n2_; have HB := n3_; clear n0_ n1_ n2_ n3_; (try clear hb); (try clear hb2); (try clear hk); (try clear hi); (try clear ho0)))
                      go_ret
                      exact ⟨by first | rfl | (simp [errW_none, errW_some] <;> rfl) | (simp [*, errW_none, errW_some] <;> rfl), by repeat (first | (with_reducible first | exact HB.out | apply below_alloc | apply pw_below_drewN | apply below_drew1 | refine below_set ?_ GE164.out) | exact HB.out)⟩
        · rw [if_neg c15] at H
          have c15b0 : (t170 == 0) = false := beq_eq_false_iff_ne.mpr c15
          have c15b1 : (t170 != 0) = true := bne_iff_ne.mpr c15
          obtain rfl := Option.some.inj H
          have hcz62_0 : wc.cell? ⟨gb164, 0, none⟩ = some (.int .u8 a0_0) := (blk_cell BK164.out 0).trans rfl
          have hcz62_1 : wc.cell? ⟨gb164, 1, none⟩ = some (.int .u8 a0_1) := (blk_cell BK164.out 1).trans rfl
          have hcz62_2 : wc.cell? ⟨gb164, 2, none⟩ = some (.int .i64 a0_2) := (blk_cell BK164.out 2).trans rfl
          have hcz62_3 : wc.cell? ⟨gb164, 3, none⟩ = some (.slice A0_3 l0_3.length c0_3) := (blk_cell BK164.out 3).trans rfl
          have hfz62_0 := blk_frozen BK164.out 0
          have hfz62_1 := blk_frozen BK164.out 1
          have hfz62_2 := blk_frozen BK164.out 2
          have hfz62_3 := blk_frozen BK164.out 3
          go_wp2_with (first | ((with_reducible refine gate_callee (f := 9) rfl ?_); refine goesL_ (some 32) rfl rfl Try.func9 (by kernel_rfl) rfl #[.slice none 0 0, .agg #[.int .u8 a0_0, .int .u8 a0_1, .int .i64 a0_2, .slice A0_3 l0_3.length c0_3], .slice A1 l1.length c1] rfl (by (try simp only [List.map_toArray, List.map_cons, List.map_nil]); first | done | rfl | (simp only [List.length_drop, List.length_take]; rfl)) ?_; (refine (sect_Put.calls _ _ ([] : List Int) a0_0 a0_1 a0_2 _ _ l0_3 _ _ l1 t167 t170 _ ?side1 ?side2 ?side3 ?side4 ?side5 ?side6 A14.out).mono ?_); (case side1 => exact Kd.C_nil _ _); (case side2 => exact Nat.le_refl _); (case side3 => repeat (first | exact (Kd.C_below HR0_3.out HB.out) | (with_reducible refine Kd.C_alloc ?_ _) | (with_reducible refine Kd.C_drewN ?_ _) | (with_reducible refine Kd.C_drew ?_))); (case side4 => exact HC0_3.out); (case side5 => repeat (first | exact (Kd.C_below HR1.out HB.out) | (with_reducible refine Kd.C_alloc ?_ _) | (with_reducible refine Kd.C_drewN ?_ _) | (with_reducible refine Kd.C_drew ?_))); (case side6 => exact HC1.out); rintro e w63 ⟨v168, rfl, ho0, hb⟩; refine ⟨_, rfl, ?_⟩; have n0_ := Aside0.mk (Kd.R_lower ho0 (below_size (by repeat (first | (with_reducible first | exact HB.out | apply below_alloc | apply pw_below_drewN | apply below_drew1 | refine below_set ?_ GE164.out) | exact HB.out)))); have n1_ := Aside0.mk (blk_below (g := gb164) (o := .cells #[.int .u8 a0_0, .int .u8 a0_1, .int .i64 a0_2, .slice A0_3 l0_3.length c0_3] 24 (0, 0)) (by (with_reducible repeat (first | refine blk_drewN ?_ _ | refine blk_drew ?_ | refine blk_alloc ?_ _)); exact BK164.out) hb); have n2_ := Aside0.mk (below_step (by repeat (first | (with_reducible first | exact HB.out | apply below_alloc | apply pw_below_drewN | apply below_drew1 | refine below_set ?_ GE164.out) | exact HB.out)) hb); clear BK164; clear HB; have HO169 := n0_; have BK164 := n1_; have HB := n2_; clear n0_ n1_ n2_; (try clear hb); (try clear hb2); (try clear hk); (try clear hi); (try clear ho0); obtain ⟨Ao64, co64, eo64⟩ := Kd.R_slice HO169.out; subst eo64))
          go_ret
          exact ⟨by first | rfl | (simp [errW_none, errW_some] <;> rfl) | (simp [*, errW_none, errW_some] <;> rfl), by repeat (first | (with_reducible first | exact HB.out | apply below_alloc | apply pw_below_drewN | apply below_drew1 | refine below_set ?_ GE164.out) | exact HB.out)⟩

end Go.Proofs.Ytjdlochffpikbaa.K
end
section
/- Sections in plain words: how large lists may be; how many bits. -/
namespace Go.Proofs.Ytjdlochffpikbaa.SS
open Go.RowKit Go.Proofs.YtjdlochffpikbaaW.PrintWords Go.Proofs.YtjdlochffpikbaaW.PrintLast Go.Proofs.YtjdlochffpikbaaW.PrintMore Go.Proofs.Ytjdlochffpikbaa.HA Go.Proofs.Ytjdlochffpikbaa.HP Go.Proofs.Ytjdlochffpikbaa.HG Go.Proofs.Ytjdlochffpikbaa.K
set_option linter.unusedVariables false

theorem L_mem (l : List (List Sec)) (i : Nat) (h : i < l.length) : rd_L4 l (i : Int) = l[i] := by
  unfold rd_L4
  rw [Int.toNat_natCast, List.getD_eq_getElem?_getD, List.getElem?_eq_getElem h, Option.getD_some]
theorem great_l0 (l : List (List Sec)) : ∀ (d k i : Nat), 100 - i = d → i ≤ 100 → i ≤ l.length → (∀ j, j < i → ∀ h : j < l.length, (l[j]'h).length ≤ 200) → 2 * d + 2 < k →
    ∃ r, reedpiperef19_Great.l0 k l (i : Int) = some r ∧ (r = false → l.length ≤ 100 ∧ ∀ j, ∀ h : j < l.length, (l[j]'h).length ≤ 200) := by
  intro d
  induction d with
  | zero =>
    intro k i hd hi hil hj hk
    obtain ⟨k, rfl⟩ : ∃ m, k = m + 2 := ⟨k - 2, by omega⟩
    obtain rfl : i = 100 := by omega
    simp only [reedpiperef19_Great.l0, reedpiperef19_Great.j1]
    rw [decide_eq_false (show ¬ ((100 : Nat) : Int) < 100 by omega)]
    simp only [Bool.false_eq_true, if_false]
    refine ⟨decide ((l.length : Int) > 100), by split <;> rfl, fun h => ?_⟩
    have h2 : ¬ ((l.length : Int) > 100) := of_decide_eq_false h
    exact ⟨by omega, fun j h => hj j (by omega) h⟩
  | succ d ih =>
    intro k i hd hi hil hj hk
    obtain ⟨k, rfl⟩ : ∃ m, k = m + 2 := ⟨k - 2, by omega⟩
    simp only [reedpiperef19_Great.l0, reedpiperef19_Great.j1]
    by_cases hlt : i < l.length
    · rw [if_pos (by omega), if_pos (by rw [decide_eq_true (show (i : Int) < 100 by omega)]), if_pos (by omega), if_pos (by omega), L_mem l i hlt]
      by_cases hg : ((l[i].length : Nat) : Int) > 200
      · rw [if_pos hg]
        exact ⟨true, rfl, fun h => by cases h⟩
      · rw [if_neg hg, wrap_succ i (by omega)]
        refine ih k (i + 1) (by omega) (by omega) (by omega) (fun j hj2 h => ?_) (by omega)
        rcases Nat.lt_or_ge j i with h3 | h3
        · exact hj j h3 h
        · obtain rfl : j = i := by omega
          omega
    · rw [if_neg (by omega), if_neg (by simp)]
      refine ⟨decide ((l.length : Int) > 100), rfl, fun h => ?_⟩
      have h2 : ¬ ((l.length : Int) > 100) := of_decide_eq_false h
      exact ⟨by omega, fun j h => hj j (by omega) h⟩
theorem great_f (l : List (List Sec)) (k : Nat) (hk : 300 < k) : ∃ r, reedpiperef19_Great.f k l = some r ∧ (r = false → l.length ≤ 100 ∧ ∀ g ∈ l, g.length ≤ 200) := by
  obtain ⟨r, h1, h2⟩ := great_l0 l 100 k 0 (by omega) (by omega) (by omega) (fun j hj => by omega) (by omega)
  refine ⟨r, h1, fun h => ⟨(h2 h).1, fun g hg => ?_⟩⟩
  obtain ⟨j, hj, rfl⟩ := List.getElem_of_mem hg
  exact (h2 h).2 j hj
/-! ### how many bits -/
def leastS (s : Int) : Int := if s = 2 then 7 else 9
theorem flat_len (size : Nat) (l : List Int) : (l.flatMap (fun x => bitsOf x size)).length = size * l.length := by
  induction l with
  | nil => rfl
  | cons x l ih => rw [List.flatMap_cons, List.length_append, ih, bitsOf_length, List.length_cons, Nat.mul_succ]; omega
theorem secBits_least (s : Int) (x : Sec) : leastS s ≤ ((secBits s x).length : Int) := by
  unfold secBits lenBits leastS
  rw [List.length_append, bitsOf_length, flat_len, fieldsOf_length]
  have : sizeS s ≤ sizeS s * ((x.f1 / mostS s).toNat + 1) := by
    have := Nat.mul_le_mul_left (sizeS s) (Nat.le_add_left 1 (x.f1 / mostS s).toNat)
    omega
  unfold sizeS at this ⊢
  split at this <;> rename_i h <;> simp only [h, if_true, if_false] <;> omega
theorem grpBits_least (s : Int) : ∀ g : List Sec, leastS s * (g.length : Int) ≤ ((grpBits s g).length : Int)
  | [] => by simp [grpBits]
  | x :: g => by
    have ih := grpBits_least s g
    have h := secBits_least s x
    unfold grpBits at ih ⊢
    rw [List.flatMap_cons, List.length_append, List.length_cons]
    have : leastS s * ((g.length + 1 : Nat) : Int) = leastS s * (g.length : Int) + leastS s := by rw [Int.natCast_add, Int.mul_add]; omega
    rw [this]
    omega
def manyS (l : List (List Sec)) : Int := (l.map (fun g => (g.length : Int))).sum
theorem secsBits_least (s : Int) : ∀ l : List (List Sec), leastS s * manyS l ≤ ((secsBits s l).length : Int)
  | [] => by simp [secsBits, manyS]
  | g :: l => by
    have ih := secsBits_least s l
    have h := grpBits_least s g
    unfold secsBits manyS at *
    rw [List.flatMap_cons, List.length_append, List.map_cons, List.sum_cons, Int.mul_add]
    omega
theorem many_bound (N : Nat) : ∀ l : List (List Sec), (∀ g ∈ l, g.length ≤ N) → 0 ≤ manyS l ∧ manyS l ≤ (N : Int) * (l.length : Int)
  | [], _ => by simp [manyS]
  | g :: l, h => by
    have ih := many_bound N l (fun x hx => h x (List.mem_cons_of_mem _ hx))
    have hg := h g List.mem_cons_self
    unfold manyS at *
    rw [List.map_cons, List.sum_cons, List.length_cons, Int.natCast_add, Int.mul_add]
    omega
theorem secsBits_some {s sh m : Int} {gs : List Int} {l : List (List Sec)} (h : secsOk s sh m gs l = true) : m > 0 ↔ (((secsBits s l).length : Nat) : Int) > 0 := by
  obtain ⟨h1, h2, h3, h4⟩ := secsOk_ok h
  obtain ⟨_, _, hm0, _⟩ := someS_max h1
  obtain ⟨_, _, _, hgp⟩ := SP.someS_all h1
  have hle : 7 ≤ leastS s := by unfold leastS; split <;> omega
  constructor
  · intro hm
    have hlp : 0 < l.length := by omega
    obtain ⟨g, r, rfl⟩ : ∃ g r, l = g :: r := by
      cases l with
      | nil => simp at hlp
      | cons g r => exact ⟨g, r, rfl⟩
    have hg := h4 g List.mem_cons_self
    obtain ⟨x, q, rfl⟩ : ∃ x q, g = x :: q := by
      cases g with
      | nil => simp [grpOk] at hg; omega
      | cons x q => exact ⟨x, q, rfl⟩
    have := secBits_least s x
    unfold secsBits grpBits
    rw [List.flatMap_cons, List.length_append, List.flatMap_cons, List.length_append]
    omega
  · intro hb
    rcases Int.lt_or_le 0 m with h5 | h5
    · exact h5
    · exfalso
      obtain rfl : m = 0 := by omega
      have : secsBits s l = [] := by
        unfold secsBits
        rw [List.flatMap_eq_nil_iff]
        intro g hg
        have h6 := grpOk_len g 0 (h4 g hg)
        have : g = [] := List.eq_nil_of_length_eq_zero (by omega)
        rw [this]
        rfl
      rw [this] at hb
      simp at hb
theorem put_f (b : List Int) (s sh m : Int) (gs : List Int) (l : List (List Sec)) (hs : 0 ≤ s) (hsh : 0 ≤ sh) (hb : b.length ≤ 1000000) (hgs : gs.length ≤ 1000) (hl : l.length ≤ 1000) (hg : ∀ g ∈ l, g.length ≤ 1000) :
    sect_Put.f b s sh m gs l = some (if secsOk s sh m gs l = true then (b ++ secsBits s l, 0) else ([], 8)) := by
  unfold sect_Put.f
  rw [if_pos ⟨hs, hsh, hb, hgs, hl, hg⟩]
theorem strOfNums_append (a b : List Int) : strOfNums (a ++ b) = strOfNums a ++ strOfNums b := by
  unfold strOfNums
  rw [List.map_append]
  apply ByteArray.ext
  rw [ByteArray.data_append]
  simp
theorem secBits_most {s : Int} {x : Sec} (h0 : 0 ≤ x.f1) (h1 : x.f1 ≤ 40) : (secBits s x).length ≤ 209 := by
  unfold secBits lenBits
  rw [List.length_append, bitsOf_length, flat_len, fieldsOf_length]
  have h2 : (x.f1 / mostS s).toNat ≤ 40 := by
    have : x.f1 / mostS s ≤ x.f1 := Int.ediv_le_self _ h0
    omega
  have h3 : sizeS s ≤ 5 := by unfold sizeS; split <;> omega
  have h4 : sizeS s * ((x.f1 / mostS s).toNat + 1) ≤ 5 * 41 := Nat.mul_le_mul h3 (by omega)
  omega
theorem grpBits_most (s : Int) : ∀ (g : List Sec) (N : Nat), (∀ x ∈ g, 0 ≤ x.f1 ∧ x.f1 ≤ 40) → (grpBits s g).length ≤ 209 * g.length
  | [], _, _ => by simp [grpBits]
  | x :: g, N, h => by
    have ih := grpBits_most s g N (fun y hy => h y (List.mem_cons_of_mem _ hy))
    have hx := h x List.mem_cons_self
    have := secBits_most (s := s) hx.1 hx.2
    unfold grpBits at *
    rw [List.flatMap_cons, List.length_append, List.length_cons]
    omega
theorem secsBits_most {s sh m : Int} {gs : List Int} {l : List (List Sec)} (h : secsOk s sh m gs l = true) : (secsBits s l).length ≤ 67000 := by
  obtain ⟨h1, h2, h3, h4⟩ := secsOk_ok h
  obtain ⟨_, _, hm0, hm, _⟩ := someS_max h1
  have key : ∀ l : List (List Sec), (∀ g ∈ l, grpOk m g = true) → (secsBits s l).length ≤ 8360 * l.length := by
    intro l
    induction l with
    | nil => intro _; simp [secsBits]
    | cons g l ih =>
      intro h4
      have ih := ih (fun x hx => h4 x (List.mem_cons_of_mem _ hx))
      have hg := h4 g List.mem_cons_self
      have h5 := grpOk_len g m hg
      have h6 := grpBits_most s g 0 (fun x hx => by have := grpOk_mem g m hg x hx; omega)
      unfold secsBits at *
      rw [List.flatMap_cons, List.length_append, List.length_cons]
      omega
  have := key l h4
  omega
end Go.Proofs.Ytjdlochffpikbaa.SS
end
section
/- The law SectNothing of the sections' chapter: where nothing is sent there are no bits; each section takes at least so many; sections put behind one another; for every input. -/
namespace Go.Proofs.Ytjdlochffpikbaa.Wk
open Go.RowKit Go.Proofs.Ytjdlochffpikbaa.K Go.Proofs.Ytjdlochffpikbaa.SS Go.Proofs.Ytjdlochffpikbaa.HP Go.Proofs.YtjdlochffpikbaaW.PrintWords Go.Proofs.YtjdlochffpikbaaW.PrintLast Go.Proofs.YtjdlochffpikbaaW.PrintMore
set_option linter.unusedVariables false

theorem nothing_alive : reedpipelaw19_alive.f = some true := by decide +kernel
theorem nothing_l0 (l : List (List Sec)) (hl : l.length ≤ 100) (hg : ∀ g ∈ l, g.length ≤ 200) (s sh m : Int) (gs : List Int) (hs : 0 ≤ s) (hsh : 0 ≤ sh) (hgs : gs.length ≤ 1000) (hok : secsOk s sh m gs l = true) :
    ∀ (d k i : Nat) (x9 : Int), l.length - i = d → i ≤ l.length → 1010 + d < k → 0 ≤ x9 → x9 ≤ 200 * i → x9 + manyS (l.drop i) = manyS l →
    reedpipelaw19_SectNothing.l0 k l (secsBits s l) (leastS s) x9 (i : Int) s sh m gs = some true := by
  have hmost := secsBits_most hok
  have hleast := secsBits_least s l
  have hmany := many_bound 200 l hg
  intro d
  induction d with
  | zero =>
    intro k i x9 hd hi hk h0 h1 h2
    obtain ⟨k, rfl⟩ : ∃ m, k = m + 1 := ⟨k - 1, by omega⟩
    simp only [reedpipelaw19_SectNothing.l0]
    rw [if_neg (by omega), SP.windows_f s sh m gs (by omega) k (by omega), put_f _ s sh m gs l hs hsh (by omega) hgs (by omega) (fun g h => by have := hg g h; omega)]
    obtain ⟨hsome, _⟩ := secsOk_ok hok
    unfold SP.windowsS
    rw [if_pos hsome, if_pos hok]
    simp only [Option.bind_some, if_true]
    have hx : x9 = manyS l := by
      rw [List.drop_of_length_le (by omega)] at h2
      simpa [manyS] using h2
    have hp := secsBits_some hok
    have e1 : (decide (m > 0) == decide (((secsBits s l).length : Int) > 0)) = true := by
      rw [beq_iff_eq, decide_eq_decide]
      exact hp
    have hle9 : leastS s ≤ 9 ∧ 7 ≤ leastS s := by unfold leastS; split <;> omega
    have hmul : leastS s * x9 = leastS s * manyS l := by rw [hx]
    have hm20 : manyS l ≤ 20000 := by omega
    have hw : wrap64 (leastS s * x9) = leastS s * x9 := by
      rw [wrap_id _ (by rw [hmul]; have := Int.mul_nonneg (show 0 ≤ leastS s by omega) hmany.1; omega) (by rw [hmul]; have := hleast; omega)]
    rw [if_pos e1, hw, if_pos (by rw [hmul]; exact hleast), strOfNums_size, if_pos (by omega), strOfNums_append]
    simp
  | succ d ih =>
    intro k i x9 hd hi hk h0 h1 h2
    obtain ⟨k, rfl⟩ : ∃ m, k = m + 1 := ⟨k - 1, by omega⟩
    simp only [reedpipelaw19_SectNothing.l0]
    have hgm := L_mem l i (by omega)
    have hgl := hg _ (List.getElem_mem (show i < l.length by omega))
    rw [if_pos (by omega), if_pos (by omega), wrap_succ i (by omega), hgm, wrap_id _ (by omega) (by omega)]
    refine ih k (i + 1) _ (by omega) (by omega) (by omega) (by omega) (by omega) ?_
    rw [drop_L l i (by omega), hgm] at h2
    unfold manyS at h2 ⊢
    rw [List.map_cons, List.sum_cons] at h2
    omega
theorem nothing_true (s sh m : Int) (gs : List Int) (l : List (List Sec)) (hs : 0 ≤ s) (hsh : 0 ≤ sh) : reedpipelaw19_SectNothing.f 2000 s sh m gs l = some true := by
  unfold reedpipelaw19_SectNothing.f
  rw [nothing_alive]
  simp only [Option.bind_some]
  have stop : reedpipelaw19_SectNothing.j0 2000 l true true s sh m gs = some true := by
    simp only [reedpipelaw19_SectNothing.j0, if_true]
  by_cases h1 : (gs.length : Int) > 1000
  · rw [if_pos h1]; exact stop
  · rw [if_neg h1]
    obtain ⟨r, hr, hsmall⟩ := great_f l 2000 (by omega)
    rw [hr]
    simp only [Option.bind_some]
    by_cases h2 : r = true
    · rw [if_pos h2]; exact stop
    · rw [if_neg h2]
      obtain ⟨hl, hg⟩ := hsmall (by simpa using h2)
      simp only [reedpipelaw19_SectNothing.j0, Bool.not_true, Bool.false_eq_true, if_false]
      rw [put_f [] s sh m gs l hs hsh (by simp) (by omega) (by omega) (fun g h => by have := hg g h; omega)]
      simp only [Option.bind_some]
      by_cases hok : secsOk s sh m gs l = true
      · rw [if_pos hok]
        simp only [List.nil_append, if_true, reedpipelaw19_SectNothing.j1]
        have := nothing_l0 l hl hg s sh m gs hs hsh (by omega) hok l.length 1998 0 0 (by omega) (by omega) (by omega) (by omega) (by omega) (by simp)
        unfold leastS at this
        by_cases h3 : s = 2
        · rw [if_pos h3] at this ⊢
          exact this
        · rw [if_neg h3] at this ⊢
          exact this
      · rw [if_neg hok]
        simp
theorem SectNothing (W : World) (s_0 sh_0 m_0 : Int) (A_0 : Option Addr) (c_0 : Nat) (l_0 : List Int) (A_1 : Option Addr) (c_1 : Nat) (l_1 : List (List Sec))
    (hc_0 : l_0.length ≤ c_0) (hr_0 : Kd.C (Kd.int .i64) W A_0 l_0.length l_0) (ws_0 : 0 ≤ s_0 ∧ s_0 ≤ 255) (wsh_0 : 0 ≤ sh_0 ∧ sh_0 ≤ 255) (wm_0 : -9223372036854775808 ≤ m_0 ∧ m_0 ≤ 9223372036854775807) (wl_0 : ∀ y ∈ l_0, -9223372036854775808 ≤ y ∧ y ≤ 9223372036854775807)
    (hc_1 : l_1.length ≤ c_1) (hr_1 : Kd.C (Kd.slice 49 k49) W A_1 l_1.length l_1) (wl_1 : ∀ g ∈ l_1, ∀ x ∈ g, (-9223372036854775808 ≤ x.f0 ∧ x.f0 ≤ 9223372036854775807) ∧ (-9223372036854775808 ≤ x.f1 ∧ x.f1 ≤ 9223372036854775807)) :
    Calls Try.prog 3 #[.agg #[.int .u8 s_0, .int .u8 sh_0, .int .i64 m_0, .slice A_0 l_0.length c_0], .slice A_1 l_1.length c_1] W fun e w' => e = .returned (.bool true) ∧ Below W.heap.size W w' := by
  exact reedpipelaw19_SectNothing.calls 2000 s_0 sh_0 m_0 A_0 c_0 l_0 A_1 c_1 l_1 true W hr_0 hc_0 hr_1 hc_1 (nothing_true s_0 sh_0 m_0 l_0 l_1 ws_0.1 wsh_0.1)
end Go.Proofs.Ytjdlochffpikbaa.Wk
end
section
/- From what a row reads to the kinds of the walks: any type of whole numbers, bools, slices and structs of these. It imports no program. -/
namespace Go.Proofs.Ytjdlochffpikbaa.HR
open Go.RowKit Go.ChangeShapes Go.WideShapes Go.Proofs.YtjdlochffpikbaaW.PrintWords

/-- Whatever reads as data of type t is of kind d. -/
def Opens {α : Type} (P : Program) (t : TypeId) (d : Kd α) (ok : α → Prop) : Prop :=
  ∀ (H : Type) (enc : TypeId × Value → H) (W : World) (fuel : Nat) (cs : List Value) (x : DataW H × List MemPlace), DataW.trod enc P W 0 (fun _ => true) true fuel t cs = some x → ∃ a, ok a ∧ d.K W a cs

theorem Opens.imp {α : Type} {P : Program} {t : TypeId} {d : Kd α} {ok ok' : α → Prop} (h : Opens P t d ok) (hi : ∀ a, ok a → ok' a) : Opens P t d ok' := fun H enc W fuel cs x hx => by
  obtain ⟨a, ha, hK⟩ := h H enc W fuel cs x hx
  exact ⟨a, hi a ha, hK⟩
theorem opens_int {P : Program} {t : TypeId} {k : IntKind} (ht : P.underlying t = some (.int k)) : Opens P t (Kd.int k) (fun n => (Lit.int k n).wf = true) := by
  intro H enc W fuel cs x hx
  obtain ⟨n, rfl, _, hw⟩ := DataW.trod_int ht hx
  exact ⟨n, hw, rfl⟩
theorem opens_bool {P : Program} {t : TypeId} (ht : P.underlying t = some .bool) : Opens P t Kd.bool (fun _ => True) := by
  intro H enc W fuel cs x hx
  obtain ⟨b, rfl, _⟩ := DataW.trod_bool ht hx
  exact ⟨b, trivial, rfl⟩
theorem opens_slice {α : Type} {P : Program} {t e : TypeId} {d : Kd α} {ok : α → Prop} (ht : P.underlying t = some (.slice e)) (hs : P.cellsOf e = d.sz) (h : Opens P e d ok) : Opens P t (Kd.slice e d) (fun xs => ∀ x ∈ xs, ok x) := by
  intro H enc W fuel cs x hx
  rcases Go.Deep.open_slice ht hx with ⟨rfl, _⟩ | ⟨a, len, cap, m, n, D, Pl, rfl, _, hl, hcap, hm, _, hel⟩
  · exact ⟨[], by simp, none, 0, rfl, Nat.le_refl _, rfl, by simp, fun h => absurd h (by simp)⟩
  · have hlm : len ≤ m := by rw [hm]; simp; exact hl
    have key : ∀ k, k ≤ len → ∃ xs : List α, xs.length = k ∧ (∀ x ∈ xs, ok x) ∧ ∀ j p, xs[j]? = some p → ∃ c, c.length = d.sz ∧ d.K W p c ∧ ∀ i u, c[i]? = some u → W.cell? (a.add (j * d.sz + i)) = some u := by
      intro k
      induction k with
      | zero => exact fun _ => ⟨[], rfl, by simp, fun j p hj => by simp at hj⟩
      | succ k ih =>
        intro hk
        obtain ⟨xs, hxl, hxo, hxc⟩ := ih (by omega)
        obtain ⟨cs', hc1, hc2⟩ := hel k (by omega)
        obtain ⟨p, hp, hK⟩ := h H enc W n cs' _ hc2
        refine ⟨xs ++ [p], by simp [hxl], ?_, ?_⟩
        · intro x hx
          rcases List.mem_append.1 hx with hx | hx
          · exact hxo x hx
          · rw [List.mem_singleton.1 hx]; exact hp
        · intro j q hj
          rcases Nat.lt_or_ge j k with hjk | hjk
          · rw [List.getElem?_append_left (by omega)] at hj
            exact hxc j q hj
          · rw [List.getElem?_append_right (by omega)] at hj
            have hj0 : j - xs.length = 0 := by
              rcases Nat.eq_zero_or_pos (j - xs.length) with h0 | h0
              · exact h0
              · rw [List.getElem?_eq_none (by simp; omega)] at hj
                cases hj
            rw [hj0] at hj
            obtain rfl : p = q := by simpa using hj
            obtain rfl : j = k := by omega
            refine ⟨cs', d.K_len hK, hK, fun i u hu => ?_⟩
            obtain ⟨_, hlen, hcells⟩ := World.cells?_some hc1
            obtain ⟨hi, rfl⟩ := List.getElem?_eq_some_iff.1 hu
            have := hcells i (by omega)
            rw [hs, Go.Deep.add_add] at this
            rw [this]
            exact hu
    obtain ⟨xs, hxl, hxo, hxc⟩ := key len (Nat.le_refl _)
    subst hxl
    have hmx : xs.length ≤ 9223372036854775807 := by unfold maxLen at hcap; omega
    exact ⟨xs, hxo, some a, cap, rfl, hl, rfl, hmx, fun _ => ⟨a, rfl, hxc⟩⟩

/-! ### structs, field by field: their types and where their cells begin -/
def OpensFs {α : Type} (P : Program) (fs : List (TypeId × Nat)) (off : Nat) (d : Kd α) (ok : α → Prop) : Prop :=
  ∀ (H : Type) (enc : TypeId × Value → H) (W : World) (n : Nat) (cs : List Value), (∀ f ∈ fs, ∃ x, DataW.trod enc P W 0 (fun _ => true) true n f.1 ((cs.drop f.2).take (P.cellsOf f.1)) = some x) → cs.length = off + d.sz → ∃ a, ok a ∧ d.K W a (cs.drop off)
theorem opensFs_one {α : Type} {P : Program} {t : TypeId} {off : Nat} {d : Kd α} {ok : α → Prop} (hs : P.cellsOf t = d.sz) (h : Opens P t d ok) : OpensFs P [(t, off)] off d ok := by
  intro H enc W n cs hf hl
  obtain ⟨x, hx⟩ := hf (t, off) List.mem_cons_self
  simp only at hx
  rw [hs, List.take_of_length_le (by rw [List.length_drop]; omega)] at hx
  exact h H enc W n _ x hx
theorem opensFs_cons {α β : Type} {P : Program} {t : TypeId} {fs : List (TypeId × Nat)} {off : Nat} (off2 : Nat) {a : Kd α} {b : Kd β} {ok : α → Prop} {okb : β → Prop} (hs : P.cellsOf t = a.sz) (ho2 : off2 = off + a.sz) (h : Opens P t a ok) (hb : OpensFs P fs off2 b okb) :
    OpensFs P ((t, off) :: fs) off (Kd.pair a b) (fun x => ok x.1 ∧ okb x.2) := by
  intro H enc W n cs hf hl
  obtain ⟨x, hx⟩ := hf (t, off) List.mem_cons_self
  simp only at hx
  rw [hs] at hx
  obtain ⟨p, hp, hK⟩ := h H enc W n _ x hx
  have hsz : (Kd.pair a b).sz = a.sz + b.sz := rfl
  obtain ⟨q, hq, hKq⟩ := hb H enc W n cs (fun g hg => hf g (List.mem_cons_of_mem _ hg)) (by rw [hl, hsz, ho2]; omega)
  refine ⟨(p, q), ⟨hp, hq⟩, (cs.drop off).take a.sz, cs.drop off2, ?_, hK, hKq⟩
  rw [ho2, ← List.drop_drop, List.take_append_drop]
theorem opens_struct {α : Type} {P : Program} {t : TypeId} {fs : Array Field} {l : List (TypeId × Nat)} {d : Kd α} {ok : α → Prop} (ht : P.underlying t = some (.struct fs)) (hfs : fs.toList.map (fun f => (f.type, f.offset)) = l) (hs : P.cellsOf t = d.sz) (h : OpensFs P l 0 d ok) : Opens P t d ok := by
  intro H enc W fuel cs x hx
  obtain ⟨xs, n, _, _, hl, hxl, hf⟩ := DataW.trod_struct ht hx
  have := h H enc W n cs (fun f hm => by
    rw [← hfs] at hm
    obtain ⟨g, hg, rfl⟩ := List.mem_map.1 hm
    obtain ⟨i, hi, rfl⟩ := List.getElem_of_mem hg
    have hi2 : i < fs.size := by simpa using hi
    refine ⟨xs[i], ?_⟩
    simp only
    rw [hf i fs.toList[i] (by simp [hi2]), List.getElem?_eq_getElem]) (by omega)
  simpa using this
theorem opens_iso {α β : Type} {P : Program} {t : TypeId} {d : Kd α} {ok : α → Prop} (f : β → α) (g : α → β) (hfg : ∀ a, f (g a) = a) (h : Opens P t d ok) : Opens P t (Kd.iso d f) (fun b => ok (f b)) := by
  intro H enc W fuel cs x hx
  obtain ⟨a, ha, hK⟩ := h H enc W fuel cs x hx
  exact ⟨g a, by show ok (f (g a)); rw [hfg]; exact ha, by show d.K W (f (g a)) cs; rw [hfg]; exact hK⟩
/-- What an argument reads as. -/
theorem Opens.arg {α : Type} {P : Program} {t : TypeId} {d : Kd α} {ok : α → Prop} (h : Opens P t d ok) {H : Type} {enc : TypeId × Value → H} {W : World} {v : Value} {x : DataW H} {ps : List MemPlace} (ht : DataW.Trod enc P W 0 (fun _ => true) true t v x ps) : ∃ a, ok a ∧ d.K W a v.cells.toList := by
  obtain ⟨fuel, hf⟩ := ht
  exact h H enc W fuel _ _ hf
end Go.Proofs.Ytjdlochffpikbaa.HR
end
section
/- How windows' infos are read. -/
namespace Go.Proofs.Ytjdlochffpikbaa.HI
open Go.RowKit Go.ChangeShapes Go.WideShapes Go.Proofs.YtjdlochffpikbaaW.PrintWords Go.Proofs.Ytjdlochffpikbaa.HR

def kInfo : Kd (Int × Int × Int × List Int) := Kd.pair (Kd.int .u8) (Kd.pair (Kd.int .u8) (Kd.pair (Kd.int .i64) (Kd.slice 3 (Kd.int .i64))))
theorem opens_ints : Opens Try.prog 22 (Kd.slice 3 (Kd.int .i64)) (fun xs => ∀ x ∈ xs, (Lit.int .i64 x).wf = true) := opens_slice Try.underlying22 (by kernel_rfl) (opens_int Try.underlying3)
theorem opens_info : Opens Try.prog 24 kInfo (fun x => (Lit.int .u8 x.1).wf = true ∧ (Lit.int .u8 x.2.1).wf = true ∧ (Lit.int .i64 x.2.2.1).wf = true ∧ ∀ y ∈ x.2.2.2, (Lit.int .i64 y).wf = true) := by
  exact opens_struct Try.underlying24 (l := [(5, 0), (5, 1), (3, 2), (22, 3)]) rfl (by kernel_rfl)
    (opensFs_cons 1 (by kernel_rfl) rfl (opens_int Try.underlying5) (opensFs_cons 2 (by kernel_rfl) rfl (opens_int Try.underlying5) (opensFs_cons 3 (by kernel_rfl) rfl (opens_int Try.underlying3) (opensFs_one (by kernel_rfl) opens_ints))))
theorem wf_u8 {x : Int} (h : (Lit.int .u8 x).wf = true) : 0 ≤ x ∧ x ≤ 255 := by
  simp only [Lit.wf, Bool.and_eq_true, decide_eq_true_eq] at h
  exact h
theorem wf_i64 {x : Int} (h : (Lit.int .i64 x).wf = true) : -9223372036854775808 ≤ x ∧ x ≤ 9223372036854775807 := by
  simp only [Lit.wf, Bool.and_eq_true, decide_eq_true_eq] at h
  exact h
theorem open_info {H : Type} {enc : TypeId × Value → H} {W : World} {v : Value} {x : DataW H} {ps : List MemPlace} {r : Reach} {b0 : Nat} (hv : Value.okWide Try.prog W r b0 24 v) (h : DataW.Trod enc Try.prog W 0 (fun _ => true) true 24 v x ps) :
    ∃ (s sh m : Int) (A : Option Addr) (c : Nat) (l : List Int), v = .agg #[.int .u8 s, .int .u8 sh, .int .i64 m, .slice A l.length c] ∧ l.length ≤ c ∧ Kd.C (Kd.int .i64) W A l.length l ∧ (0 ≤ s ∧ s ≤ 255) ∧ (0 ≤ sh ∧ sh ≤ 255) ∧ (-9223372036854775808 ≤ m ∧ m ≤ 9223372036854775807) ∧ ∀ y ∈ l, -9223372036854775808 ≤ y ∧ y ≤ 9223372036854775807 := by
  unfold Value.okWide at hv
  rw [Try.underlying24] at hv
  obtain ⟨cs, rfl, _, _⟩ := hv
  obtain ⟨⟨s, sh, m, l⟩, ⟨w1, w2, w3, w4⟩, hK⟩ := opens_info.arg h
  obtain ⟨_, _, he, rfl, ⟨_, _, rfl, rfl, ⟨_, _, rfl, rfl, ⟨A, c, rfl, hl, hC⟩⟩⟩⟩ := hK
  refine ⟨s, sh, m, A, c, l, ?_, hl, hC, wf_u8 w1, wf_u8 w2, wf_i64 w3, fun y hy => wf_i64 (w4 y hy)⟩
  congr 1
  apply Array.toList_inj.1
  exact he
end Go.Proofs.Ytjdlochffpikbaa.HI
end
section
/- How bytes are read. -/
namespace Go.Proofs.Ytjdlochffpikbaa.HI
open Go.RowKit Go.ChangeShapes Go.WideShapes Go.Proofs.YtjdlochffpikbaaW.PrintWords Go.Proofs.Ytjdlochffpikbaa.HR

theorem slice_value {W : World} {v : Value} {r : Reach} {b0 : Nat} {t e : TypeId} (ht : Try.prog.underlying t = some (.slice e)) (hv : Value.okWide Try.prog W r b0 t v) : ∃ A n c, v = .slice A n c := by
  unfold Value.okWide at hv
  rw [ht] at hv
  unfold Cell.okWide at hv
  rw [ht] at hv
  revert hv
  cases v <;> simp [Cell.ok, ht]
theorem opens_bytes : Opens Try.prog 28 (Kd.slice 5 (Kd.int .u8)) (fun xs => ∀ x ∈ xs, (Lit.int .u8 x).wf = true) := opens_slice Try.underlying28 (by kernel_rfl) (opens_int Try.underlying5)
theorem open_bytes {H : Type} {enc : TypeId × Value → H} {W : World} {v : Value} {x : DataW H} {ps : List MemPlace} {r : Reach} {b0 : Nat} (hv : Value.okWide Try.prog W r b0 28 v) (h : DataW.Trod enc Try.prog W 0 (fun _ => true) true 28 v x ps) :
    ∃ (A : Option Addr) (c : Nat) (l : List Int), v = .slice A l.length c ∧ l.length ≤ c ∧ Kd.C (Kd.int .u8) W A l.length l ∧ ∀ y ∈ l, 0 ≤ y ∧ y ≤ 255 := by
  obtain ⟨A0, n0, c0, rfl⟩ := slice_value Try.underlying28 hv
  obtain ⟨l, wl, A, c, he, hl, hC⟩ := opens_bytes.arg h
  have he' : Value.slice A0 n0 c0 = .slice A l.length c := by simpa [Value.cells] using he
  exact ⟨A, c, l, he', hl, hC, fun y hy => wf_u8 (wl y hy)⟩
end Go.Proofs.Ytjdlochffpikbaa.HI
end
section
/- How lists of sections are read. -/
namespace Go.Proofs.Ytjdlochffpikbaa.HI
open Go.RowKit Go.ChangeShapes Go.WideShapes Go.Proofs.YtjdlochffpikbaaW.PrintWords Go.Proofs.Ytjdlochffpikbaa.HR Go.Proofs.Ytjdlochffpikbaa.K

theorem opens_section : Opens Try.prog 49 k49 (fun x => (Lit.int .i64 x.f0).wf = true ∧ (Lit.int .i64 x.f1).wf = true) := by
  refine opens_iso (fun x : S49 => (x.f0, x.f1)) (fun p => ⟨p.1, p.2⟩) (fun _ => rfl) (ok := fun p => (Lit.int .i64 p.1).wf = true ∧ (Lit.int .i64 p.2).wf = true) ?_
  exact opens_struct Try.underlying49 (l := [(3, 0), (3, 1)]) rfl (by kernel_rfl) (opensFs_cons 1 (by kernel_rfl) rfl (opens_int Try.underlying3) (opensFs_one (by kernel_rfl) (opens_int Try.underlying3)))
theorem opens_sections : Opens Try.prog 25 (Kd.slice 32 (Kd.slice 49 k49)) (fun l => ∀ g ∈ l, ∀ x ∈ g, (Lit.int .i64 x.f0).wf = true ∧ (Lit.int .i64 x.f1).wf = true) :=
  opens_slice Try.underlying25 (by kernel_rfl) (opens_slice Try.underlying32 (by kernel_rfl) opens_section)
theorem open_sections {H : Type} {enc : TypeId × Value → H} {W : World} {v : Value} {x : DataW H} {ps : List MemPlace} {r : Reach} {b0 : Nat} (hv : Value.okWide Try.prog W r b0 25 v) (h : DataW.Trod enc Try.prog W 0 (fun _ => true) true 25 v x ps) :
    ∃ (A : Option Addr) (c : Nat) (l : List (List S49)), v = .slice A l.length c ∧ l.length ≤ c ∧ Kd.C (Kd.slice 49 k49) W A l.length l ∧ ∀ g ∈ l, ∀ x ∈ g, (-9223372036854775808 ≤ x.f0 ∧ x.f0 ≤ 9223372036854775807) ∧ (-9223372036854775808 ≤ x.f1 ∧ x.f1 ≤ 9223372036854775807) := by
  obtain ⟨A0, n0, c0, rfl⟩ := slice_value Try.underlying25 hv
  obtain ⟨l, wl, A, c, he, hl, hC⟩ := opens_sections.arg h
  have he' : Value.slice A0 n0 c0 = .slice A l.length c := by simpa [Value.cells] using he
  exact ⟨A, c, l, he', hl, hC, fun g hg y hy => ⟨wf_i64 (wl g hg y hy).1, wf_i64 (wl g hg y hy).2⟩⟩
end Go.Proofs.Ytjdlochffpikbaa.HI
end
section
/- The row of the law SectNothing: out of its walk. -/
namespace Go.Proofs.Ytjdlochffpikbaa.sectNothing
open Go.ChangeShapes Go.WideShapes Go.ChangeAt Go.RowKit
open Go.ChangeMaps (open_string shut_string)
set_option linter.unusedVariables false
theorem own : ownKnob Try.prog.godebug = none := by kernel_rfl
theorem laidOut : laidOutB Try.prog = true := by kernel_rfl
set_option maxRecDepth 100000 in
theorem lifted (os : Os) (started : os.Started) (H : Type) (enc : TypeId × Value → H) :
    ReturnsInHanded {} Try.checked os 3 .any (Rows.sectNothingSpec.pre6 enc Try.prog Try.f3 Rows.sectNothingRow.domain false) (Rows.sectNothingSpec.post enc Try.prog Try.f3 false true false false) := by
  refine returnsInHanded_of_change_sized (C := Try.checked) own started (by kernel_rfl) Try.func3
    (ChangeSpec.witness6 (enc := enc) (C := Try.checked) false ⟨#[], #[.agg #[.int .u8 0, .int .u8 0, .int .i64 0, .slice none 0 0], .slice none 0 0], []⟩ 8 (by kernel_rfl) (by kernel_rfl) (by kernel_rfl) (by kernel_rfl)) ?_
  intro W base args ds gs before hval0 hW hcnd hsz0 _
  have hval : ∀ (j : Nat) t v, Try.f3.params[j]? = some t → args[j]? = some v → Value.okWide Try.prog W .any base t v := hval0
  have hW' := hW
  obtain ⟨p, q, hA0, hV, rfl, hfz, hnd⟩ := hW
  have hA : DataW.TrodAll enc Try.prog W 0 (fun _ => true) true Try.f3.params.toList args.toList ds p := hA0
  rw [Try.params3] at hA hval
  obtain ⟨v0, vs0, d0, ds0, p0, q0, hargs, rfl, rfl, h0, r0⟩ := trodAll_cons hA
  obtain ⟨v1, vs1, d1, ds1, p1, q1, rfl, rfl, rfl, h1, r1⟩ := trodAll_cons r0
  obtain ⟨rfl, rfl, rfl⟩ := trodAll_nil r1
  obtain rfl : args = #[v0, v1] := by cases args; simp_all
  obtain ⟨rfl, rfl⟩ := trodVars_none hV
  have k0 := h0
  have lt0 : ∀ x ∈ p0, x.block < W.heap.size := by obtain ⟨m, hm⟩ := k0; exact DataW.trod_lt m _ _ _ hm
  obtain ⟨s_0, sh_0, m_0, A_0, c_0, l_0, rfl, hc_0, hr_0, ws_0, wsh_0, wm_0, wl_0⟩ := HI.open_info (hval 0 24 v0 rfl rfl) h0
  have k1 := h1
  have lt1 : ∀ x ∈ p1, x.block < W.heap.size := by obtain ⟨m, hm⟩ := k1; exact DataW.trod_lt m _ _ _ hm
  obtain ⟨A_1, c_1, l_1, rfl, hc_1, hr_1, wl_1⟩ := HI.open_sections (hval 1 25 v1 rfl rfl) h1
  refine (Wk.SectNothing W s_0 sh_0 m_0 A_0 c_0 l_0 A_1 c_1 l_1 hc_0 hr_0 ws_0 wsh_0 wm_0 wl_0 hc_1 hr_1 wl_1).mono fun e W' ⟨he, bel⟩ => ?_
  subst he
  exact ⟨_, rfl, _, _, _, [], _, [], hW', trodAll_mk1 (shut_bool Try.underlying4 _), (trodAll_cons_mk (Below.trod laidOut (by kernel_rfl) (of_decide_eq_true (by kernel_rfl)) k0 bel lt0) (trodAll_cons_mk (Below.trod laidOut (by kernel_rfl) (of_decide_eq_true (by kernel_rfl)) k1 bel lt1) trodAll_mk0)), rfl, bel.frame _, fun h => by cases h⟩
theorem over : Rows.sectNothingRow.holds Try.pinned (OpenSpec.ofChange Rows.sectNothingSpec) :=
  OpenClaim.holds_of_wide 3 Try.f3 rfl rfl rfl rfl rfl rfl rfl ⟨rfl, rfl, rfl, rfl, rfl⟩ rfl rfl rfl rfl rfl (by kernel_rfl) Try.func3 (by kernel_rfl)
    (of_decide_eq_true (by kernel_rfl)) (by unfold Func.isWrapper; first | (rw [if_pos (by decide +kernel)]; kernel_rfl) | (rw [if_neg (by decide +kernel)]; exact ⟨rfl, rfl⟩))
    (fun os started H enc _ => lifted os started H enc)
theorem proved : Rows.SectNothingSaid := over
#print axioms proved
end Go.Proofs.Ytjdlochffpikbaa.sectNothing
namespace Go.Proofs.Ytjdlochffpikbaa
/-- The row, under a short name, for the claim. -/
theorem sectNothing_holds : Rows.SectNothingSaid := sectNothing.proved
end Go.Proofs.Ytjdlochffpikbaa
end
