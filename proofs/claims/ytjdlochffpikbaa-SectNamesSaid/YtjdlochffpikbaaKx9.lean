-- Written for this claim by this session's own wip/hook.py (it runs the kit's print and takes some functions' contracts as given texts of this session's).
import Derived.Test.YtjdlochffpikbaaSSA
import Derived.Test.YtjdlochffpikbaaHG
import Derived.Test.YtjdlochffpikbaaKx0
import Derived.Test.YtjdlochffpikbaaKx15
import Derived.Test.YtjdlochffpikbaaKx18
import Derived.Test.YtjdlochffpikbaaKx19
namespace Go.Proofs.Ytjdlochffpikbaa.K
open Go.RowKit Go.Proofs.YtjdlochffpikbaaW.PrintWords Go.Proofs.YtjdlochffpikbaaW.PrintLast Go.Proofs.YtjdlochffpikbaaW.PrintMore
attribute [local go_sem] max2_int min2_int max_two min_two max_three min_three max_four min_four   -- for this text's walks alone
set_option linter.unusedVariables false
set_option linter.unusedSimpArgs false

/-! ### sect_Put: function 9: GIVEN BY HAND -/
-- IMPORT Derived.Test.YtjdlochffpikbaaSSA
-- IMPORT Derived.Test.YtjdlochffpikbaaHG
open Go.Shelf HG HB SS
attribute [local go_sem] Oper.semAt_some
/-- Between two statements: the box of the bits and their row, the windows' record, the size's box, the marks. -/
def PutS (w0 : World) (B I Z : Nat) (cs : Array Value) (sz : Int) (W : World) (xs : List Int) (A : Option Addr) (c : Nat) (ds : List Nat) : Prop :=
  (w0.heap.size ≤ B ∧ w0.heap.size ≤ I ∧ w0.heap.size ≤ Z ∧ B ≠ I ∧ B ≠ Z ∧ I ≠ Z) ∧ Below w0.heap.size w0 W ∧ W.heap[I]? = some (.cells cs 24 (0, 0)) ∧ W.heap[Z]? = some (.cells #[.int .i64 sz] 3 (0, 0)) ∧
  W.heap[B]? = some (.cells #[.slice A xs.length c] 28 (0, 0)) ∧ Kd.R (Kd.int .u8) 5 W w0.heap.size (fun _ => True) (.slice A xs.length c) xs ∧ Marks w0.heap.size ds W
section
variable {w0 : World} {B I Z : Nat} {cs : Array Value} {sz : Int} {W W1 : World} {xs : List Int} {A : Option Addr} {c : Nat} {ds : List Nat}
theorem marks_below {b : Nat} (h : Marks b ds W) (hb : Below W.heap.size W W1) : Marks b ds W1 := h.move (fun k o hk _ => (hb.block k (blk_lt hk)).trans hk)
theorem marks_set {b g j : Nat} {u : Value} (h : Marks b ds W) : Marks b ds (W.setCell ⟨g, j, none⟩ u) := h.move (fun k o hk ho => (KeepsOthers.setCell _ _ _).same k o hk ho)
theorem keeps_below {b : Nat} (hb : Below W.heap.size W W1) : KeepsFrom b W W1 := ⟨hb.size, fun k o _ hk _ => (hb.block k (blk_lt hk)).trans hk⟩
theorem PutS.below (h : PutS w0 B I Z cs sz W xs A c ds) (hb : Below W.heap.size W W1) : PutS w0 B I Z cs sz W1 xs A c ds := by
  obtain ⟨hd, h1, h2, h3, h4, h5, h6⟩ := h
  exact ⟨hd, below_step h1 hb, blk_below h2 hb, blk_below h3 hb, blk_below h4 hb, Kd.R_below h5 hb, marks_below h6 hb⟩
theorem PutS.alloc (h : PutS w0 B I Z cs sz W xs A c ds) (o : Obj) : PutS w0 B I Z cs sz (W.alloc o) xs A c ds := h.below (below_alloc (Below.refl _ _) o)
theorem PutS.put1 {ys : List Int} {A1 : Option Addr} {c1 : Nat} (h : PutS w0 B I Z cs sz W xs A c ds) (hb : Below W.heap.size W W1) (hr : Kd.R (Kd.int .u8) 5 W1 W.heap.size (fun _ => True) (.slice A1 ys.length c1) ys) : PutS w0 B I Z cs sz (W1.setCell ⟨B, 0, none⟩ (.slice A1 ys.length c1)) ys A1 c1 ds := by
  have hb0 := h.2.1.size
  obtain ⟨hd, h1, h2, h3, h4, h5, h6⟩ := h.below hb
  exact ⟨hd, below_set h1 hd.1, blk_far h2 (Ne.symm hd.2.2.2.1) _, blk_far h3 (Ne.symm hd.2.2.2.2.1) _, blk_put h4 0 _ rfl, Kd.R_set (Kd.R_lower hr hb0) h4 (by decide) 0 _, marks_set h6⟩
theorem PutS.qB (h : PutS w0 B I Z cs sz W xs A c ds) : W.cell? ⟨B, 0, none⟩ = some (.slice A xs.length c) := (blk_cell h.2.2.2.2.1 0).trans rfl
theorem PutS.fB (h : PutS w0 B I Z cs sz W xs A c ds) : W.frozen? ⟨B, 0, none⟩ = false := blk_frozen h.2.2.2.2.1 0
theorem PutS.qZ (h : PutS w0 B I Z cs sz W xs A c ds) : W.cell? ⟨Z, 0, none⟩ = some (.int .i64 sz) := (blk_cell h.2.2.2.1 0).trans rfl
theorem sect_Put.start {w w2 w3 : World} {b : List Int} {A0 : Option Addr} {c0 : Nat} (hlt : w.heap.size < w2.heap.size) (h2 : Below w.heap.size w w2) (hB : w2.heap[w.heap.size]? = some (.cells #[.slice A0 b.length c0] 28 (0, 0))) (hI : w2.heap[w.heap.size + 1]? = some (.cells cs 24 (0, 0)))
    (hb : Below (w2.alloc (.cells #[.int .i64 sz] 3)).heap.size (w2.alloc (.cells #[.int .i64 sz] 3)) w3) (hr : Kd.R (Kd.int .u8) 5 w3 (w2.alloc (.cells #[.int .i64 sz] 3)).heap.size (fun _ => True) (.slice A b.length c) b) :
    PutS w w.heap.size (w.heap.size + 1) w2.heap.size cs sz (w3.setCell ⟨w.heap.size, 0, none⟩ (.slice A b.length c)) b A c [] := by
  have hI2 := blk_lt hI
  have hBw : Below w.heap.size w w3 := below_step (below_alloc h2 _) hb
  have b1 := blk_below (blk_alloc hB (.cells #[.int .i64 sz] 3)) hb
  have b2 := blk_below (blk_alloc hI (.cells #[.int .i64 sz] 3)) hb
  have b3 := blk_below (blk_new w2 (.cells #[.int .i64 sz] 3)) hb
  refine ⟨⟨Nat.le_refl _, by omega, by omega, by omega, by omega, by omega⟩, below_set hBw (Nat.le_refl _), blk_far b2 (by simp) _, blk_far b3 (by simp; omega) _, blk_put b1 0 _ rfl, Kd.R_set (Kd.R_lower hr (by simp; omega)) b1 (by decide) 0 _, Marks.nil _ _⟩
/-- bits.Put on the bits so far. -/
theorem sect_Put.put {n size : Int} {ys : List Int} (h : PutS w0 B I Z cs sz W xs A c ds) (hs0 : 0 ≤ size) (hs1 : size ≤ 31) (hn0 : 0 ≤ n) (hn1 : n < 2 ^ size.toNat) (hl : xs.length ≤ 100000000) (hy : ys = xs ++ HA.bitsOf n size.toNat) :
    Calls Try.prog 19 #[.slice A xs.length c, .int .i64 n, .int .i64 size] W fun e w1 => ∃ A1 c1, e = .returned (.tuple #[.slice A1 ys.length c1, .int .i64 0]) ∧ Below W.heap.size W w1 ∧ PutS w0 B I Z cs sz w1 xs A c ds ∧ PutS w0 B I Z cs sz (w1.setCell ⟨B, 0, none⟩ (.slice A1 ys.length c1)) ys A1 c1 ds := by
  subst hy
  obtain ⟨_, hlc, hC⟩ := Kd.R_reads' h.2.2.2.2.2.1
  refine (bits_Put.calls A c xs n size _ 0 W hC hlc (SP.put_ok xs n size hs0 hs1 hn0 hn1 hl)).mono ?_
  rintro e w1 ⟨v1, rfl, ho, hb⟩
  obtain ⟨A1, c1, rfl⟩ := Kd.R_slice ho
  exact ⟨A1, c1, rfl, hb, h.below hb, h.put1 hb ho⟩
/-- What a range over a length's fields keeps. -/
def RngI (w0 : World) (B I Z : Nat) (cs : Array Value) (sz : Int) (size hs Pn Pm : Nat) (x0 fs : List Int) (ds : List Nat) (k : Nat) (W : World) : Prop :=
  (∃ A c, PutS w0 B I Z cs sz W (x0 ++ (fs.take k).flatMap (fun x => HA.bitsOf x size)) A c ds) ∧ (∃ v, Boxed W Pn 3 v) ∧ (∃ v, Boxed W Pm 3 v) ∧ w0.heap.size ≤ hs ∧ (B ≠ Pn ∧ I ≠ Pn ∧ Z ≠ Pn ∧ B ≠ Pm ∧ Pm ≠ Pn ∧ w0.heap.size ≤ Pn) ∧ ∀ D ∈ ds, D < hs
section
variable {w0 : World} {B I Z : Nat} {cs : Array Value} {sz : Int} {size hs Pn Pm : Nat} {x0 fs : List Int} {ds : List Nat}
theorem cells_ne {W : World} {k r : Nat} {t : TypeId} {cells : Array Value} {o : Obj} (hk : W.heap[k]? = some (.cells cells t (0, 0))) (hr : W.heap[r]? = some o) (ho : o.isCells = false) : k ≠ r := by
  rintro rfl
  rw [hk] at hr
  cases hr
  cases ho
theorem rng_own : OwnFrom hs (RngI w0 B I Z cs sz size hs Pn Pm x0 fs ds) := by
  rintro k W W' row ⟨⟨A, c, hP⟩, ⟨vn, hn⟩, ⟨vm, hm⟩, hw, hd, hds⟩ hg hr
  have keep : ∀ (g : Nat) (t : TypeId) (cells : Array Value), W.heap[g]? = some (.cells cells t (0, 0)) → W'.heap[g]? = some (.cells cells t (0, 0)) := fun g t cells h =>
    (hg.block g (blk_lt h) (fun e => by obtain ⟨_, o, ho, hc⟩ := hr g e.symm; exact cells_ne h ho hc rfl)).trans h
  obtain ⟨hdd, h1, h2, h3, h4, h5, h6⟩ := hP
  refine ⟨⟨A, c, hdd, h1.grown hg h1.size (fun g e => by have := (hr g e).1; omega), keep _ _ _ h2, keep _ _ _ h3, keep _ _ _ h4, ?_, h6.1, fun D hD => ⟨(h6.2 D hD).1, ?_⟩⟩, ⟨vn, keep _ _ _ hn⟩, ⟨vm, keep _ _ _ hm⟩, hw, hd, hds⟩
  · refine Kd.R_mono (Kd.R_move (Kd.R_bound h5) (fun g hg2 => ?_)) (fun _ hk => hk.1)
    obtain ⟨_, _, hlt, _, _, cells, hc⟩ := hg2
    exact hg.block g hlt (fun e => by obtain ⟨_, o, ho, hc2⟩ := hr g e.symm; exact cells_ne hc ho hc2 rfl)
  · have hlt := hds D hD
    exact (hg.block D (blk_lt (h6.2 D hD).2) (fun e => by have := (hr D e.symm).1; omega)).trans (h6.2 D hD).2
theorem PutS.far {W : World} {xs : List Int} {A : Option Addr} {c : Nat} {g j : Nat} {t : TypeId} {u : Value} {cells : Array Value} (h : PutS w0 B I Z cs sz W xs A c ds) (hg : W.heap[g]? = some (.cells cells t (0, 0))) (ht : 5 ≠ t) (h0 : w0.heap.size ≤ g) (n1 : B ≠ g) (n2 : I ≠ g) (n3 : Z ≠ g) : PutS w0 B I Z cs sz (W.setCell ⟨g, j, none⟩ u) xs A c ds := by
  obtain ⟨hd, h1, h2, h3, h4, h5, h6⟩ := h
  exact ⟨hd, below_set h1 h0, blk_far h2 n2 _, blk_far h3 n3 _, blk_far h4 n1 _, Kd.R_set h5 hg (fun q hq => by
    rcases List.mem_cons.1 hq with rfl | hq
    · exact ht
    · cases hq) j _, marks_set h6⟩
theorem rng_set (k : Nat) (W : World) (v : Value) (h : RngI w0 B I Z cs sz size hs Pn Pm x0 fs ds k W) : RngI w0 B I Z cs sz size hs Pn Pm x0 fs ds k (W.setCell ⟨Pn, 0, none⟩ v) := by
  obtain ⟨⟨A, c, hP⟩, ⟨vn, hn⟩, ⟨vm, hm⟩, hw, hd, hds⟩ := h
  exact ⟨⟨A, c, hP.far hn (by decide) hd.2.2.2.2.2 hd.1 hd.2.1 hd.2.2.1⟩, ⟨v, hn.set v⟩, ⟨vm, hm.other hd.2.2.2.2.1 v⟩, hw, hd, hds⟩
theorem flat_len (size : Nat) (l : List Int) : (l.flatMap (fun x => HA.bitsOf x size)).length = size * l.length := by
  induction l with
  | nil => rfl
  | cons x l ih => rw [List.flatMap_cons, List.length_append, ih, HA.bitsOf_length, List.length_cons, Nat.mul_succ]; omega
theorem SS_take (g : List SS.Sec) (j : Nat) (h : j < g.length) : g.take (j + 1) = g.take j ++ [rd_T49 g (j : Int)] := by
  unfold rd_T49
  rw [Int.toNat_natCast, List.getD_eq_getElem?_getD, List.getElem?_eq_getElem h, Option.getD_some]
  exact List.take_succ_eq_append_getElem h
theorem SL_take (l : List (List SS.Sec)) (i : Nat) (h : i < l.length) : l.take (i + 1) = l.take i ++ [rd_L4 l (i : Int)] := by
  unfold rd_L4
  rw [Int.toNat_natCast, List.getD_eq_getElem?_getD, List.getElem?_eq_getElem h, Option.getD_some]
  exact List.take_succ_eq_append_getElem h
theorem take_one {fs : List Int} {k : Nat} {x : Int} (h : fs[k]? = some x) : fs.take (k + 1) = fs.take k ++ [x] := by
  rw [List.take_add_one, h]
  rfl
end
end
def IO (w : World) (B I Z : Nat) (cs : Array Value) (most size s : Int) (A2 : Option Addr) (c2 : Nat) (l2 : List (List SS.Sec)) (l0 : List Int) (a : Act) (W : World) : Prop := ∃ (i : Nat) (xs : List Int) (A : Option Addr) (c : Nat) (ds : List Nat) (u : Nat → Value), a = { tmps := List.toArray (u 0 :: u 1 :: u 2 :: .pointer (some ⟨B, 0, none⟩) :: u 4 :: u 5 :: u 6 :: u 7 :: u 8 :: .pointer (some ⟨Z, 0, none⟩) :: .int .i64 most :: u 11 :: u 12 :: u 13 :: u 14 :: u 15 :: u 16 :: u 17 :: u 18 :: u 19 :: u 20 :: u 21 :: u 22 :: u 23 :: u 24 :: u 25 :: u 26 :: u 27 :: u 28 :: u 29 :: u 30 :: u 31 :: .slice A2 l2.length c2 :: .int .i64 (l2.length : Int) :: .int .i64 (i : Int) :: u 35 :: u 36 :: u 37 :: u 38 :: u 39 :: u 40 :: u 41 :: u 42 :: u 43 :: u 44 :: u 45 :: u 46 :: u 47 :: u 48 :: u 49 :: u 50 :: u 51 :: u 52 :: u 53 :: u 54 :: u 55 :: u 56 :: u 57 :: u 58 :: u 59 :: u 60 :: u 61 :: u 62 :: u 63 :: u 64 :: u 65 :: []), defers := ds.map HG.mark } ∧ i ≤ l2.length ∧ Aside0 (xs = l0 ++ SS.secsBits s (l2.take i)) ∧ Aside0 (xs.length ≤ 1000000 + 30000 * i) ∧ Aside0 (PutS w B I Z cs size W xs A c ds)
theorem IO.mk (w : World) (B I Z : Nat) (cs : Array Value) (most size s : Int) (A2 : Option Addr) (c2 : Nat) (l2 : List (List SS.Sec)) (l0 : List Int) {a : Act} {W : World} (i : Nat) {xs : List Int} {A : Option Addr} {c : Nat} {ds : List Nat} (ha : a = { tmps := List.toArray ((fun k => a.tmps.getD k undef) 0 :: (fun k => a.tmps.getD k undef) 1 :: (fun k => a.tmps.getD k undef) 2 :: .pointer (some ⟨B, 0, none⟩) :: (fun k => a.tmps.getD k undef) 4 :: (fun k => a.tmps.getD k undef) 5 :: (fun k => a.tmps.getD k undef) 6 :: (fun k => a.tmps.getD k undef) 7 :: (fun k => a.tmps.getD k undef) 8 :: .pointer (some ⟨Z, 0, none⟩) :: .int .i64 most :: (fun k => a.tmps.getD k undef) 11 :: (fun k => a.tmps.getD k undef) 12 :: (fun k => a.tmps.getD k undef) 13 :: (fun k => a.tmps.getD k undef) 14 :: (fun k => a.tmps.getD k undef) 15 :: (fun k => a.tmps.getD k undef) 16 :: (fun k => a.tmps.getD k undef) 17 :: (fun k => a.tmps.getD k undef) 18 :: (fun k => a.tmps.getD k undef) 19 :: (fun k => a.tmps.getD k undef) 20 :: (fun k => a.tmps.getD k undef) 21 :: (fun k => a.tmps.getD k undef) 22 :: (fun k => a.tmps.getD k undef) 23 :: (fun k => a.tmps.getD k undef) 24 :: (fun k => a.tmps.getD k undef) 25 :: (fun k => a.tmps.getD k undef) 26 :: (fun k => a.tmps.getD k undef) 27 :: (fun k => a.tmps.getD k undef) 28 :: (fun k => a.tmps.getD k undef) 29 :: (fun k => a.tmps.getD k undef) 30 :: (fun k => a.tmps.getD k undef) 31 :: .slice A2 l2.length c2 :: .int .i64 (l2.length : Int) :: .int .i64 (i : Int) :: (fun k => a.tmps.getD k undef) 35 :: (fun k => a.tmps.getD k undef) 36 :: (fun k => a.tmps.getD k undef) 37 :: (fun k => a.tmps.getD k undef) 38 :: (fun k => a.tmps.getD k undef) 39 :: (fun k => a.tmps.getD k undef) 40 :: (fun k => a.tmps.getD k undef) 41 :: (fun k => a.tmps.getD k undef) 42 :: (fun k => a.tmps.getD k undef) 43 :: (fun k => a.tmps.getD k undef) 44 :: (fun k => a.tmps.getD k undef) 45 :: (fun k => a.tmps.getD k undef) 46 :: (fun k => a.tmps.getD k undef) 47 :: (fun k => a.tmps.getD k undef) 48 :: (fun k => a.tmps.getD k undef) 49 :: (fun k => a.tmps.getD k undef) 50 :: (fun k => a.tmps.getD k undef) 51 :: (fun k => a.tmps.getD k undef) 52 :: (fun k => a.tmps.getD k undef) 53 :: (fun k => a.tmps.getD k undef) 54 :: (fun k => a.tmps.getD k undef) 55 :: (fun k => a.tmps.getD k undef) 56 :: (fun k => a.tmps.getD k undef) 57 :: (fun k => a.tmps.getD k undef) 58 :: (fun k => a.tmps.getD k undef) 59 :: (fun k => a.tmps.getD k undef) 60 :: (fun k => a.tmps.getD k undef) 61 :: (fun k => a.tmps.getD k undef) 62 :: (fun k => a.tmps.getD k undef) 63 :: (fun k => a.tmps.getD k undef) 64 :: (fun k => a.tmps.getD k undef) 65 :: []), defers := ds.map HG.mark }) (h1 : i ≤ l2.length) (h2 : xs = l0 ++ SS.secsBits s (l2.take i)) (h3 : xs.length ≤ 1000000 + 30000 * i) (h4 : PutS w B I Z cs size W xs A c ds) : IO w B I Z cs most size s A2 c2 l2 l0 a W := ⟨i, xs, A, c, ds, fun k => a.tmps.getD k undef, ha, h1, ⟨h2⟩, ⟨h3⟩, ⟨h4⟩⟩
def II (w : World) (B I Z : Nat) (cs : Array Value) (most size s : Int) (A2 : Option Addr) (c2 : Nat) (l2 : List (List SS.Sec)) (l0 : List Int) (i : Nat) (Ag : Option Addr) (cg : Nat) (g : List SS.Sec) (xs : List Int) (a : Act) (W : World) : Prop := ∃ (j : Nat) (ys : List Int) (A : Option Addr) (c : Nat) (ds : List Nat) (u : Nat → Value), a = { tmps := List.toArray (u 0 :: u 1 :: u 2 :: .pointer (some ⟨B, 0, none⟩) :: u 4 :: u 5 :: u 6 :: u 7 :: u 8 :: .pointer (some ⟨Z, 0, none⟩) :: .int .i64 most :: u 11 :: u 12 :: u 13 :: u 14 :: u 15 :: u 16 :: u 17 :: u 18 :: u 19 :: u 20 :: u 21 :: u 22 :: u 23 :: u 24 :: u 25 :: u 26 :: u 27 :: u 28 :: u 29 :: u 30 :: u 31 :: .slice A2 l2.length c2 :: .int .i64 (l2.length : Int) :: .int .i64 (i : Int) :: u 35 :: u 36 :: u 37 :: .slice Ag g.length cg :: .int .i64 (g.length : Int) :: .int .i64 (j : Int) :: u 41 :: u 42 :: u 43 :: u 44 :: u 45 :: u 46 :: u 47 :: u 48 :: u 49 :: u 50 :: u 51 :: u 52 :: u 53 :: u 54 :: u 55 :: u 56 :: u 57 :: u 58 :: u 59 :: u 60 :: u 61 :: u 62 :: u 63 :: u 64 :: u 65 :: []), defers := ds.map HG.mark } ∧ j ≤ g.length ∧ Aside0 (ys = xs ++ SS.grpBits s (g.take j)) ∧ Aside0 (ys.length ≤ xs.length + 600 * j) ∧ Aside0 (PutS w B I Z cs size W ys A c ds)
theorem II.mk (w : World) (B I Z : Nat) (cs : Array Value) (most size s : Int) (A2 : Option Addr) (c2 : Nat) (l2 : List (List SS.Sec)) (l0 : List Int) (i : Nat) (Ag : Option Addr) (cg : Nat) (g : List SS.Sec) (xs : List Int) {a : Act} {W : World} (j : Nat) {ys : List Int} {A : Option Addr} {c : Nat} {ds : List Nat} (ha : a = { tmps := List.toArray ((fun k => a.tmps.getD k undef) 0 :: (fun k => a.tmps.getD k undef) 1 :: (fun k => a.tmps.getD k undef) 2 :: .pointer (some ⟨B, 0, none⟩) :: (fun k => a.tmps.getD k undef) 4 :: (fun k => a.tmps.getD k undef) 5 :: (fun k => a.tmps.getD k undef) 6 :: (fun k => a.tmps.getD k undef) 7 :: (fun k => a.tmps.getD k undef) 8 :: .pointer (some ⟨Z, 0, none⟩) :: .int .i64 most :: (fun k => a.tmps.getD k undef) 11 :: (fun k => a.tmps.getD k undef) 12 :: (fun k => a.tmps.getD k undef) 13 :: (fun k => a.tmps.getD k undef) 14 :: (fun k => a.tmps.getD k undef) 15 :: (fun k => a.tmps.getD k undef) 16 :: (fun k => a.tmps.getD k undef) 17 :: (fun k => a.tmps.getD k undef) 18 :: (fun k => a.tmps.getD k undef) 19 :: (fun k => a.tmps.getD k undef) 20 :: (fun k => a.tmps.getD k undef) 21 :: (fun k => a.tmps.getD k undef) 22 :: (fun k => a.tmps.getD k undef) 23 :: (fun k => a.tmps.getD k undef) 24 :: (fun k => a.tmps.getD k undef) 25 :: (fun k => a.tmps.getD k undef) 26 :: (fun k => a.tmps.getD k undef) 27 :: (fun k => a.tmps.getD k undef) 28 :: (fun k => a.tmps.getD k undef) 29 :: (fun k => a.tmps.getD k undef) 30 :: (fun k => a.tmps.getD k undef) 31 :: .slice A2 l2.length c2 :: .int .i64 (l2.length : Int) :: .int .i64 (i : Int) :: (fun k => a.tmps.getD k undef) 35 :: (fun k => a.tmps.getD k undef) 36 :: (fun k => a.tmps.getD k undef) 37 :: .slice Ag g.length cg :: .int .i64 (g.length : Int) :: .int .i64 (j : Int) :: (fun k => a.tmps.getD k undef) 41 :: (fun k => a.tmps.getD k undef) 42 :: (fun k => a.tmps.getD k undef) 43 :: (fun k => a.tmps.getD k undef) 44 :: (fun k => a.tmps.getD k undef) 45 :: (fun k => a.tmps.getD k undef) 46 :: (fun k => a.tmps.getD k undef) 47 :: (fun k => a.tmps.getD k undef) 48 :: (fun k => a.tmps.getD k undef) 49 :: (fun k => a.tmps.getD k undef) 50 :: (fun k => a.tmps.getD k undef) 51 :: (fun k => a.tmps.getD k undef) 52 :: (fun k => a.tmps.getD k undef) 53 :: (fun k => a.tmps.getD k undef) 54 :: (fun k => a.tmps.getD k undef) 55 :: (fun k => a.tmps.getD k undef) 56 :: (fun k => a.tmps.getD k undef) 57 :: (fun k => a.tmps.getD k undef) 58 :: (fun k => a.tmps.getD k undef) 59 :: (fun k => a.tmps.getD k undef) 60 :: (fun k => a.tmps.getD k undef) 61 :: (fun k => a.tmps.getD k undef) 62 :: (fun k => a.tmps.getD k undef) 63 :: (fun k => a.tmps.getD k undef) 64 :: (fun k => a.tmps.getD k undef) 65 :: []), defers := ds.map HG.mark }) (h1 : j ≤ g.length) (h2 : ys = xs ++ SS.grpBits s (g.take j)) (h3 : ys.length ≤ xs.length + 600 * j) (h4 : PutS w B I Z cs size W ys A c ds) : II w B I Z cs most size s A2 c2 l2 l0 i Ag cg g xs a W := ⟨j, ys, A, c, ds, fun k => a.tmps.getD k undef, ha, h1, ⟨h2⟩, ⟨h3⟩, ⟨h4⟩⟩

def sect_Put.f (l0 : List Int) (a1_0 : Int) (a1_1 : Int) (a1_2 : Int) (l1_3 : List Int) (l2 : List (List (S49))) : Option (List Int × Int) := if 0 ≤ a1_0 ∧ 0 ≤ a1_1 ∧ l0.length ≤ 1000000 ∧ l1_3.length ≤ 1000 ∧ l2.length ≤ 1000 ∧ (∀ g ∈ l2, g.length ≤ 1000) then some (if SS.secsOk a1_0 a1_1 a1_2 l1_3 l2 = true then (l0 ++ SS.secsBits a1_0 l2, 0) else ([], 8)) else none
set_option maxHeartbeats 8000000 in
set_option maxRecDepth 100000 in
theorem sect_Put.calls (A0 : Option Addr) (c0 : Nat) (l0 : List Int) (a1_0 : Int) (a1_1 : Int) (a1_2 : Int) (A1_3 : Option Addr) (c1_3 : Nat) (l1_3 : List Int) (A2 : Option Addr) (c2 : Nat) (l2 : List (List (S49))) (r1 : List Int) (r2 : Int) (w : World) (hr0 : Kd.C (Kd.int .u8) w A0 l0.length l0) (hc0 : l0.length ≤ c0) (hr1_3 : Kd.C (Kd.int .i64) w A1_3 l1_3.length l1_3) (hc1_3 : l1_3.length ≤ c1_3) (hr2 : Kd.C (Kd.slice 49 k49) w A2 l2.length l2) (hc2 : l2.length ≤ c2) (h : sect_Put.f l0 a1_0 a1_1 a1_2 l1_3 l2 = some (r1, r2)) :
    Calls Try.prog 9 #[.slice A0 l0.length c0, .agg #[.int .u8 a1_0, .int .u8 a1_1, .int .i64 a1_2, .slice A1_3 l1_3.length c1_3], .slice A2 l2.length c2] w fun e w' => ∃ v0_ : Value, e = .returned (.tuple #[v0_, .int .i64 r2]) ∧ Kd.R (Kd.int .u8) 5 w' w.heap.size (fun _ => True) v0_ r1 ∧ Below w.heap.size w w' := by
  unfold sect_Put.f at h
  by_cases hcond : 0 ≤ a1_0 ∧ 0 ≤ a1_1 ∧ l0.length ≤ 1000000 ∧ l1_3.length ≤ 1000 ∧ l2.length ≤ 1000 ∧ ∀ g ∈ l2, g.length ≤ 1000
  case neg => rw [if_neg hcond] at h; cases h
  rw [if_pos hcond] at h
  obtain ⟨hu0, hu1, hlx, hlg, hll, hlm⟩ := hcond
  have HR0 := Aside0.mk hr0
  have HC0 := Aside0.mk hc0
  have HR1 := Aside0.mk hr1_3
  have HC1 := Aside0.mk hc1_3
  have HR2 := Aside0.mk hr2
  have HC2 := Aside0.mk hc2
  have HLX := Aside0.mk hlx
  have HLL := Aside0.mk hll
  clear hr0 hc0 hr1_3 hc1_3 hr2 hc2
  have HK : Aside0 (sect_Check.f 1100000 a1_0 a1_1 a1_2 l1_3 l2 = some (if SS.secsOk a1_0 a1_1 a1_2 l1_3 l2 = true then 0 else 8)) := ⟨SS.check_f a1_0 a1_1 a1_2 l1_3 l2 (by omega) (by omega) 1000 hlm (by omega) 1100000 (by
    have : (1000 + 3) * l2.length ≤ 1003 * 1000 := Nat.mul_le_mul_left 1003 hll
    omega)⟩
  clear hlx hlg hll hlm
  by_cases hk : SS.secsOk a1_0 a1_1 a1_2 l1_3 l2 = true
  case neg =>
    rw [if_neg hk] at h HK
    obtain ⟨rfl, rfl⟩ : [] = r1 ∧ 8 = r2 := by simpa using h
    clear hk h
    go_enter Try.func9, Try.ntmps9
    go_wp2_with (first | (go_at_call 15; refine (sect_Check.calls 1100000 a1_0 a1_1 a1_2 A1_3 c1_3 l1_3 A2 c2 l2 8 _ (by (with_reducible repeat (first | apply Kd.C_alloc | apply Kd.C_drewN | apply Kd.C_drew)); exact HR1.out) HC1.out (by (with_reducible repeat (first | apply Kd.C_alloc | apply Kd.C_drewN | apply Kd.C_drew)); exact HR2.out) HC2.out HK.out).mono ?_; rintro e w1 ⟨rfl, hb⟩; have HB1 := Aside0.mk (below_step (below_alloc (below_alloc (Below.refl _ _) _) _) hb); clear hb))
    go_ret2
    exact ⟨_, rfl, Kd.R_nil _ _ _ _ _, HB1.out⟩
  rw [if_pos hk] at h HK
  obtain ⟨rfl, rfl⟩ : l0 ++ SS.secsBits a1_0 l2 = r1 ∧ 0 = r2 := by simpa using h
  have HOK := Aside0.mk (SS.secsOk_ok hk)
  clear hk h
  refine (callsIn_wide (n := 4)).1 ?_
  have hro : Fence.wide.round = none := rfl
  have h1 : 1 ≤ 4 := by omega
  refine callsIn_of_wp_marks Try.func9 rfl trivial ?_ hro
  simp only [Try.ntmps9, List.size_toArray, List.length_cons, List.length_nil, Nat.reduceAdd, Nat.reduceSub, Array.replicate_succ, Array.replicate_zero, List.push_toArray, List.append_toArray, List.nil_append, List.cons_append]
  have HP0 : Aside0 (bits_Put.f l0 0 0 = some (l0, 0)) := ⟨by
    have := SP.put_ok l0 0 0 (by omega) (by omega) (by omega) (by decide) (by have := HLX.out; omega)
    rw [this, show HA.bitsOf 0 (0 : Int).toNat = [] from rfl, List.append_nil]⟩
  have HFD := Aside0.mk (SS.field_f a1_0 a1_1 a1_2 l1_3)
  obtain ⟨most, hmost⟩ : ∃ x, x = SS.mostS a1_0 := ⟨_, rfl⟩
  obtain ⟨size, hsize⟩ : ∃ x, x = SS.sizeS a1_0 := ⟨_, rfl⟩
  rw [← hmost, ← hsize] at HFD
  have HMO := Aside0.mk hmost
  have HSI := Aside0.mk hsize
  clear hmost hsize
  gi_wp2_with (first | (refine ⟨trivial, ?_⟩; gi_at_call 15; refine (callsIn_wide.2 (sect_Check.calls 1100000 a1_0 a1_1 a1_2 A1_3 c1_3 l1_3 A2 c2 l2 0 _ (by (with_reducible repeat (first | apply Kd.C_alloc | apply Kd.C_drewN | apply Kd.C_drew)); exact HR1.out) HC1.out (by (with_reducible repeat (first | apply Kd.C_alloc | apply Kd.C_drewN | apply Kd.C_drew)); exact HR2.out) HC2.out HK.out)).mono ?_; rintro e w1 ⟨rfl, hb⟩; have HB1 := Aside0.mk (below_step (below_alloc (below_alloc (Below.refl _ _) _) _) hb); have BB1 : Aside0 (w1.heap[w.heap.size]? = some (.cells #[.slice A0 l0.length c0] 28 (0, 0))) := ⟨blk_below (blk_alloc (blk_new w _) _) hb⟩; have BI1 : Aside0 (w1.heap[w.heap.size + 1]? = some (.cells #[.int .u8 a1_0, .int .u8 a1_1, .int .i64 a1_2, .slice A1_3 l1_3.length c1_3] 24 (0, 0))) := ⟨blk_below (by have := blk_new (w.alloc (.cells #[.slice A0 l0.length c0] 28)) (.cells #[.int .u8 a1_0, .int .u8 a1_1, .int .i64 a1_2, .slice A1_3 l1_3.length c1_3] 24); rwa [World.size_alloc] at this) hb⟩; clear hb; have hi0 : w1.cell? ⟨w.heap.size + 1, 0, none⟩ = some (.int .u8 a1_0) := (blk_cell BI1.out 0).trans rfl; have hi1 : w1.cell? ⟨w.heap.size + 1, 1, none⟩ = some (.int .u8 a1_1) := (blk_cell BI1.out 1).trans rfl; have hi2 : w1.cell? ⟨w.heap.size + 1, 2, none⟩ = some (.int .i64 a1_2) := (blk_cell BI1.out 2).trans rfl; have hi3 : w1.cell? ⟨w.heap.size + 1, 3, none⟩ = some (.slice A1_3 l1_3.length c1_3) := (blk_cell BI1.out 3).trans rfl) | (refine ⟨trivial, ?_⟩; gi_at_call 18; refine (callsIn_wide.2 (sect_field.calls a1_0 a1_1 a1_2 A1_3 c1_3 l1_3 (size : Int) most _ (Kd.C_below HR1.out HB1.out) HC1.out HFD.out)).mono ?_; rintro e w2 ⟨rfl, hb⟩; have HB2 := Aside0.mk (below_step HB1.out hb); have BB2 := Aside0.mk (blk_below BB1.out hb); have BI2 := Aside0.mk (blk_below BI1.out hb); clear hb hi0 hi1 hi2 hi3 BB1 BI1 HB1; have hqB : w2.cell? ⟨w.heap.size, 0, none⟩ = some (.slice A0 l0.length c0) := (blk_cell BB2.out 0).trans rfl; have HLT := Aside0.mk (blk_lt BB2.out); have hlt2 := HLT.out) | (refine ⟨trivial, ?_⟩; gi_at_call 19; refine (callsIn_wide.2 (bits_Put.calls A0 c0 l0 0 0 l0 0 _ (Kd.C_alloc (Kd.C_below HR0.out HB2.out) _) HC0.out HP0.out)).mono ?_; rintro e w3 ⟨v3, rfl, ho, hb⟩; obtain ⟨A3, c3, rfl⟩ := Kd.R_slice ho; have HS : Aside0 (PutS w w.heap.size (w.heap.size + 1) w2.heap.size #[.int .u8 a1_0, .int .u8 a1_1, .int .i64 a1_2, .slice A1_3 l1_3.length c1_3] (size : Int) (w3.setCell ⟨w.heap.size, 0, none⟩ (.slice A3 l0.length c3)) l0 A3 c3 []) := ⟨sect_Put.start HLT.out HB2.out BB2.out BI2.out hb ho⟩; have hqB3 : w3.cell? ⟨w.heap.size, 0, none⟩ = some (.slice A0 l0.length c0) := (blk_cell (blk_below (blk_alloc BB2.out _) hb) 0).trans rfl; have hfB3 : w3.frozen? ⟨w.heap.size, 0, none⟩ = false := blk_frozen (blk_below (blk_alloc BB2.out _) hb) 0; clear hb ho hqB))
  generalize w3.setCell ⟨w.heap.size, 0, none⟩ (.slice A3 l0.length c3) = W at HS ⊢
  generalize w2.heap.size = Z at HS ⊢
  generalize hI : w.heap.size + 1 = I at HS ⊢
  generalize hB : w.heap.size = B at HS ⊢
  clear hqB3 hfB3 hlt2 hI hB
  refine wpIn_loop (IO w B I Z #[.int .u8 a1_0, .int .u8 a1_1, .int .i64 a1_2, .slice A1_3 l1_3.length c1_3] most (size : Int) a1_0 A2 c2 l2 l0) (fun a _ => l2.length - (intOf (a.tmps.getD 34 undef)).toNat) (IO.mk w B I Z #[.int .u8 a1_0, .int .u8 a1_1, .int .i64 a1_2, .slice A1_3 l1_3.length c1_3] most (size : Int) a1_0 A2 c2 l2 l0 0 rfl (Nat.zero_le _) (by simp [SS.secsBits]) (by have := HLX.out; omega) HS.out) ?_
  rintro a W ⟨i, xs, A, c, ds, u, rfl, hi, HXS, HXL, HS⟩
  by_cases hlt : i < l2.length
  · have hltz : (i : Int) < (l2.length : Int) := by omega
    obtain ⟨ad, Ag, cg, rfl, hcell0, hlcg, hCg⟩ := at_L4 HR2.out (i : Int) (by omega) hltz
    rw [Int.toNat_natCast] at hcell0
    have hcell := pw_cell_below HS.out.2.1 hcell0
    clear hcell0
    obtain ⟨g, hg⟩ : ∃ g, g = rd_L4 l2 (i : Int) := ⟨_, rfl⟩
    rw [← hg] at hcell hlcg hCg
    have HGE := Aside0.mk hg
    have HGC := Aside0.mk hCg
    have HLCG := Aside0.mk hlcg
    have HGM : Aside0 (g ∈ l2) := ⟨by
      rw [hg]
      unfold rd_L4
      rw [Int.toNat_natCast, List.getD_eq_getElem?_getD, List.getElem?_eq_getElem hlt, Option.getD_some]
      exact List.getElem_mem _⟩
    have HGO := Aside0.mk (HOK.out.2.2.2 g HGM.out)
    have HI8 : Aside0 (i ≤ 8) := ⟨by have := HOK.out.2.2.1; omega⟩
    have HM40 := Aside0.mk (SS.someS_max HOK.out.1)
    have HGL : Aside0 (g.length ≤ 40) := ⟨by have := SS.grpOk_len g _ HGO.out; have := HM40.out; omega⟩
    have hg40 := HGL.out
    clear hg hlcg hCg
    gi_wp2
    clear hcell
    refine wpIn_loop (II w B I Z #[.int .u8 a1_0, .int .u8 a1_1, .int .i64 a1_2, .slice A1_3 l1_3.length c1_3] most (size : Int) a1_0 (some ad) c2 l2 l0 i Ag cg g xs) (fun a _ => g.length - (intOf (a.tmps.getD 40 undef)).toNat) (II.mk w B I Z #[.int .u8 a1_0, .int .u8 a1_1, .int .i64 a1_2, .slice A1_3 l1_3.length c1_3] most (size : Int) a1_0 (some ad) c2 l2 l0 i Ag cg g xs 0 rfl (Nat.zero_le _) (by simp [SS.grpBits]) (by omega) HS.out) ?_
    rintro a2 W2 ⟨j, ys, A', c', es, t, rfl, hj, HYS, HYL, HS2⟩
    by_cases hlt2 : j < g.length
    · have hltz2 : (j : Int) < (g.length : Int) := by omega
      have HYM : Aside0 (ys.length ≤ 2000000) := ⟨by have := HYL.out; have := HXL.out; have := HI8.out; omega⟩
      obtain ⟨ad2, rfl, hs0, hs1⟩ := at_T49 HGC.out (j : Int) (by omega) hltz2
      rw [Int.toNat_natCast] at hs0 hs1
      replace hs0 := pw_cell_below HS2.out.2.1 hs0
      replace hs1 := pw_cell_below HS2.out.2.1 hs1
      obtain ⟨x, hx⟩ : ∃ x, x = rd_T49 g (j : Int) := ⟨_, rfl⟩
      rw [← hx] at hs0 hs1
      have HX := Aside0.mk hx
      have hxm : x ∈ g := by
        rw [hx]
        unfold rd_T49
        rw [Int.toNat_natCast, List.getD_eq_getElem?_getD, List.getElem?_eq_getElem hlt2, Option.getD_some]
        exact List.getElem_mem _
      obtain ⟨hxl0, hxl1, hxb0, hxb1⟩ := SS.grpOk_mem g _ HGO.out x hxm
      clear hx hxm
      obtain ⟨bk, hbk⟩ : ∃ b, b = x.f0 := ⟨_, rfl⟩
      obtain ⟨ln, hln⟩ : ∃ b, b = x.f1 := ⟨_, rfl⟩
      rw [← hbk] at hs0 hxb0 hxb1
      rw [← hln] at hs1 hxl0 hxl1
      have hln40 : ln ≤ 40 := by have := HM40.out; omega
      have HBK := Aside0.mk hbk
      have HLN := Aside0.mk hln
      obtain ⟨y1, hy1⟩ : ∃ y, y = ys ++ HA.bitsOf bk (4 : Int).toNat := ⟨_, rfl⟩
      have HY1 := Aside0.mk hy1
      have hqB := HS2.out.qB
      have hqB2 := (HS2.out.alloc (.cells #[.int .i64 bk, .int .i64 ln] 49)).qB
      have hltB : B < W2.heap.size := blk_lt HS2.out.2.2.2.2.1
      have hneB : ¬ B = W2.heap.size := by omega
      have hneB2 : ¬ W2.heap.size = B := by omega
      clear hbk hln hy1 hxl1
      gi_wp2_with (first | (refine ⟨trivial, ?_⟩; gi_at_call 19; refine (callsIn_wide.2 (sect_Put.put (HS2.out.alloc _) (by decide) (by decide) hxb0 (by show bk < 16; omega) (by have := HYM.out; omega) HY1.out)).mono ?_; rintro e w4 ⟨A4, c4, rfl, hb, hs, hs'⟩; have HB4 := Aside0.mk hb; have HS4 := Aside0.mk hs'; have hqB4 := hs.qB; have hfB4 := hs.fB; have hq1 : w4.cell? ⟨W2.heap.size, 1, none⟩ = some (.int .i64 ln) := (blk_cell (blk_below (blk_new W2 (.cells #[.int .i64 bk, .int .i64 ln] 49)) hb) 1).trans rfl; clear hb hs hs' hqB hqB2))
      generalize w4.setCell ⟨B, 0, none⟩ (.slice A4 y1.length c4) = X at HS4 ⊢
      clear hs0 hs1 hqB4 hfB4 hq1 hneB hneB2 hltB HB4
      refine ⟨trivial, (callsIn_wide.2 (HG.fields_calls ln most X)).mono ?_⟩
      rintro e w5 ⟨rfl, rfl⟩
      have hmost : most = if a1_0 = 2 then 7 else 31 := HMO.out
      have hsize : size = if a1_0 = 2 then 3 else 5 := HSI.out
      have hp0 : 1 ≤ most ∧ most ≤ 31 ∧ size ≤ 5 ∧ (most < 2 ^ size) := by rw [hmost, hsize]; split <;> decide
      obtain ⟨hp1, hp2, hp3, hp4⟩ := hp0
      have HP4 := Aside0.mk hp4
      obtain ⟨fs, hfs⟩ : ∃ fs, fs = HG.fieldsOf ln most := ⟨_, rfl⟩
      have hfl : fs.length ≤ 41 := by
        have := SS.fieldsOf_len ln most (by omega) (by omega)
        rw [hfs]
        omega
      have HFS := Aside0.mk hfs
      have HFM : Aside0 (∀ v ∈ fs, 0 ≤ v ∧ v ≤ most) := ⟨by rw [hfs]; exact SS.fieldsOf_mem ln most (by omega) (by omega)⟩
      have hY1 : y1.length = ys.length + 4 := by rw [HY1.out, List.length_append, HA.bitsOf_length]; rfl
      have hseq := HG.fields1_in Fence.wide (4 - 1) trivial hro (by omega) (X.heap.size + 1) X.heap.size ln most (by omega) (by omega) (by omega) (by omega) (by omega)
      rw [← hfs] at hseq
      have bX := blk_new X (.cells #[.int .i64 ln] 3)
      have bX2 := blk_new (X.alloc (.cells #[.int .i64 ln] 3)) (.cells #[.int .i64 most] 3)
      rw [World.size_alloc] at bX2
      have hV0 : RngI w B I Z #[.int .u8 a1_0, .int .u8 a1_1, .int .i64 a1_2, .slice A1_3 l1_3.length c1_3] (size : Int) size (X.heap.size + 2) X.heap.size (X.heap.size + 1) y1 fs es 0 ((X.alloc (.cells #[.int .i64 ln] 3)).alloc (.cells #[.int .i64 most] 3)) := by
        have hx := HS4.out
        refine ⟨⟨A4, c4, by simpa using (hx.alloc _).alloc _⟩, ⟨_, blk_alloc bX _⟩, ⟨_, bX2⟩, by have := hx.2.1.size; omega, ⟨?_, ?_, ?_, ?_, by omega, hx.2.1.size⟩, fun D hD => by have := hx.2.2.2.2.2.2.lt hD; omega⟩
        · have := blk_lt hx.2.2.2.2.1; omega
        · have := blk_lt hx.2.2.1; omega
        · have := blk_lt hx.2.2.2.1; omega
        · have := blk_lt hx.2.2.2.2.1; omega
      clear hfs hmost hsize
      gi_wp2
      apply HG.range_own hro h1 (gf := 32) (lb := #[.pointer (some ⟨X.heap.size, 0, none⟩), .pointer (some ⟨X.heap.size + 1, 0, none⟩)]) rfl trivial (enters_of Try.func32 (by kernel_rfl) rfl) hseq (I := RngI w B I Z #[.int .u8 a1_0, .int .u8 a1_1, .int .i64 a1_2, .slice A1_3 l1_3.length c1_3] (size : Int) size (X.heap.size + 2) X.heap.size (X.heap.size + 1) y1 fs es)
      case hP => simp; omega
      case hKt => exact fun h k => HB.kq_trans h k
      case hKb => exact fun W l o hl => ⟨World.putObj_heap_other (by simp at hl; omega), World.putObj_heap_other (by simp at hl; omega)⟩
      case hIni => exact fun o1 o2 => ⟨blk_alloc (blk_alloc bX2 _) _, blk_alloc (blk_alloc (blk_alloc bX _) _) _⟩
      case hI => simp only [World.size_alloc]; exact rng_own
      case hIp => exact rng_set
      case h0 => exact hV0
      case hassign =>
        intro l v Wb K hK
        gi_wp2
        exact hK
      case hbody =>
        rintro l k v Wb hI hv
        obtain ⟨⟨Ab, cb, hP⟩, ⟨vn, hn⟩, ⟨vm, hm⟩, hw, hd, hds⟩ := hI
        obtain ⟨hv0, hv1⟩ := HFM.out v (List.mem_of_getElem? hv)
        have HV := Aside0.mk hv
        have hk := (List.getElem?_eq_some_iff.1 hv).1
        obtain ⟨z, hz⟩ : ∃ z, z = y1 ++ (fs.take k).flatMap (fun x => HA.bitsOf x size) := ⟨_, rfl⟩
        have hzl : z.length ≤ 3000000 := by
          have h2 := flat_len size (fs.take k)
          have h3 : (fs.take k).length ≤ 41 := by rw [List.length_take]; omega
          have h4 : size * (fs.take k).length ≤ 5 * 41 := Nat.mul_le_mul hp3 h3
          rw [hz, List.length_append, h2]
          have := HYM.out
          omega
        rw [← hz] at hP
        have HZ := Aside0.mk hz
        have HPP := Aside0.mk hP
        have HN := Aside0.mk hn
        have HMM := Aside0.mk hm
        have hqB := hP.qB
        have hqZ := hP.qZ
        obtain ⟨z1, hz1⟩ : ∃ y, y = z ++ HA.bitsOf v (size : Int).toNat := ⟨_, rfl⟩
        have HZ1 := Aside0.mk hz1
        clear hv hz hP hn hm hz1 hV0 bX bX2
        gi_wp2_with (first | (refine ⟨trivial, ?_⟩; gi_at_call 19; refine (CallsIn.inRound l (callsIn_wide.2 (sect_Put.put HPP.out (by omega) (by omega) hv0 (by have := HP4.out; rw [Int.toNat_natCast]; omega) (by omega) HZ1.out))).mono ?_; rintro e w6 ⟨A6, c6, rfl, hb, hs, hs'⟩; have HB6 := Aside0.mk hb; have HS6 := Aside0.mk hs'; have hqB6 := hs.qB; have hfB6 := hs.fB; clear hb hs hs' hqB hqZ))
        obtain ⟨d1, d2, d3, d4, d5, d6⟩ := hd
        refine ⟨(keeps_below HB6.out).trans ((KeepsOthers.setCell _ _ _).from _), ⟨?_, ?_⟩, ⟨A6, c6, ?_⟩, ⟨vn, ?_⟩, ⟨vm, ?_⟩, hw, ⟨d1, d2, d3, d4, d5, d6⟩, hds⟩
        · exact (Below.heap_setCell _ _ _ _ (Ne.symm d4)).trans (HB6.out.block _ (blk_lt HMM.out))
        · exact (Below.heap_setCell _ _ _ _ (Ne.symm d1)).trans (HB6.out.block _ (blk_lt HN.out))
        · have e : y1 ++ (fs.take (k + 1)).flatMap (fun x => HA.bitsOf x size) = z1 := by
            rw [HZ1.out, HZ.out, take_one HV.out, List.flatMap_append, List.append_assoc]
            simp
          rw [e]
          exact HS6.out
        · exact (Below.heap_setCell _ _ _ _ (Ne.symm d1)).trans (blk_below HN.out HB6.out)
        · exact (Below.heap_setCell _ _ _ _ (Ne.symm d4)).trans (blk_below HMM.out HB6.out)
      case hdone =>
        rintro D Wd hD ⟨⟨Ad, cd, hP⟩, _, _, hw, hd, hds⟩ hK
        have HPD := Aside0.mk hP
        have HKD := Aside0.mk hK
        have hD2 : X.heap.size + 2 ≤ D := by simpa using hD
        have HDS := Aside0.mk hds
        clear hP hK hV0 bX bX2 hD hds
        gi_wp2
        refine ⟨II.mk w B I Z #[.int .u8 a1_0, .int .u8 a1_1, .int .i64 a1_2, .slice A1_3 l1_3.length c1_3] most (size : Int) a1_0 (some ad) c2 l2 l0 i (some ad2) cg g xs (j + 1) (ds := D :: es) rfl (by omega) ?_ ?_ ⟨HPD.out.1, HPD.out.2.1, HPD.out.2.2.1, HPD.out.2.2.2.1, HPD.out.2.2.2.2.1, HPD.out.2.2.2.2.2.1, HPD.out.2.2.2.2.2.2.cons (by omega) HKD.out (fun hm => by have := HDS.out D hm; omega)⟩, ?_⟩
        · rw [List.take_of_length_le (Nat.le_refl _), HY1.out, HYS.out, SS_take g j hlt2, ← HX.out]
          unfold SS.grpBits
          rw [List.flatMap_append]
          simp only [List.flatMap_cons, List.flatMap_nil, List.append_nil, SS.secBits, SS.lenBits]
          rw [← HBK.out, ← HLN.out, ← HMO.out, ← HSI.out, ← HFS.out]
          simp only [List.append_assoc]
          rfl
        · rw [List.length_append, List.take_of_length_le (Nat.le_refl _), flat_len, hY1]
          have h4 : size * fs.length ≤ 5 * 41 := Nat.mul_le_mul hp3 hfl
          have := HYL.out
          omega
        · simp [intOf]
          omega
    · obtain rfl : j = g.length := by omega
      have hi8 := HI8.out
      gi_wp2
      refine ⟨IO.mk w B I Z #[.int .u8 a1_0, .int .u8 a1_1, .int .i64 a1_2, .slice A1_3 l1_3.length c1_3] most (size : Int) a1_0 (some ad) c2 l2 l0 (i + 1) (ds := es) rfl (by omega) ?_ ?_ HS2.out, ?_⟩
      · rw [HYS.out, HXS.out, List.take_of_length_le (Nat.le_refl _), SL_take l2 i hlt, ← HGE.out]
        unfold SS.secsBits
        rw [List.flatMap_append]
        simp only [List.flatMap_cons, List.flatMap_nil, List.append_nil, List.append_assoc]
      · have := HYL.out
        have := HXL.out
        omega
      · simp [intOf]
        omega
  · obtain rfl : i = l2.length := by omega
    have hqB := HS.out.qB
    gi_wp2
    refine HG.leaves_marks ds _ HS.out.2.2.2.2.2.2 (fun W' hs => ?_)
    have e : l0 ++ SS.secsBits a1_0 l2 = xs := by rw [HXS.out, List.take_of_length_le (Nat.le_refl _)]
    rw [e]
    exact ⟨_, results_tmp2 rfl _ _ _, _, rfl, hs.R HS.out.2.2.2.2.2.2 HS.out.2.2.2.2.2.1, HS.out.2.1.trans hs.below⟩

end Go.Proofs.Ytjdlochffpikbaa.K
