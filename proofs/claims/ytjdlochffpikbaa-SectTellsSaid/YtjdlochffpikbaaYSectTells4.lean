/- Texts of this session for the law SectTells, packed by wip/merge.py: part 4 of 4. Each section is one text; the law's own sentence stands over its section. -/
import Derived.Test.YtjdlochffpikbaaWWords
import Derived.Deep.Slices
import Derived.ChangeArms
import Derived.ChangeOld
import Derived.Carry
import Derived.ChangeSlices
import Derived.WideShapes
import Derived.Test.YtjdlochffpikbaaProg
import Derived.KernelRfl
import Derived.Test.YtjdlochffpikbaaRows
import Derived.WalkKit
import Derived.ProofKit
import Derived.OpenShut
import Derived.ShutString
import Derived.Below
import Derived.SizedLaws
import Derived.Test.YtjdlochffpikbaaYSectTells1
import Derived.Test.YtjdlochffpikbaaYSectTells2
import Derived.Test.YtjdlochffpikbaaYSectTells3
section
-- Written for this claim by this session's own wip/hook.py (it runs the kit's print and takes some functions' contracts as given texts of this session's).
namespace Go.Proofs.Ytjdlochffpikbaa.K
open Go.RowKit Go.Proofs.YtjdlochffpikbaaW.PrintWords Go.Proofs.YtjdlochffpikbaaW.PrintLast Go.Proofs.YtjdlochffpikbaaW.PrintMore
attribute [local go_sem] max2_int min2_int max_two min_two max_three min_three max_four min_four   -- for this text's walks alone
set_option linter.unusedVariables false
set_option linter.unusedSimpArgs false

/-! ### sect_Put: function 9: GIVEN BY HAND -/
-- IMPORT Derived.Test.YtjdlochffpikbaaSSA
-- IMPORT Derived.Test.YtjdlochffpikbaaHG
open Go.Shelf HG HB SS
attribute [local go_sem] Oper.semAt_some
/-- Between two statements: the box of the bits and their row, the windows' record, the size's box, the marks. -/
def PutS (w0 : World) (B I Z : Nat) (cs : Array Value) (sz : Int) (W : World) (xs : List Int) (A : Option Addr) (c : Nat) (ds : List Nat) : Prop :=
  (w0.heap.size ≤ B ∧ w0.heap.size ≤ I ∧ w0.heap.size ≤ Z ∧ B ≠ I ∧ B ≠ Z ∧ I ≠ Z) ∧ Below w0.heap.size w0 W ∧ W.heap[I]? = some (.cells cs 24 (0, 0)) ∧ W.heap[Z]? = some (.cells #[.int .i64 sz] 3 (0, 0)) ∧
  W.heap[B]? = some (.cells #[.slice A xs.length c] 28 (0, 0)) ∧ Kd.R (Kd.int .u8) 5 W w0.heap.size (fun _ => True) (.slice A xs.length c) xs ∧ Marks w0.heap.size ds W
section
variable {w0 : World} {B I Z : Nat} {cs : Array Value} {sz : Int} {W W1 : World} {xs : List Int} {A : Option Addr} {c : Nat} {ds : List Nat}
theorem marks_below {b : Nat} (h : Marks b ds W) (hb : Below W.heap.size W W1) : Marks b ds W1 := h.move (fun k o hk _ => (hb.block k (blk_lt hk)).trans hk)
theorem marks_set {b g j : Nat} {u : Value} (h : Marks b ds W) : Marks b ds (W.setCell ⟨g, j, none⟩ u) := h.move (fun k o hk ho => (KeepsOthers.setCell _ _ _).same k o hk ho)
theorem keeps_below {b : Nat} (hb : Below W.heap.size W W1) : KeepsFrom b W W1 := ⟨hb.size, fun k o _ hk _ => (hb.block k (blk_lt hk)).trans hk⟩
theorem PutS.below (h : PutS w0 B I Z cs sz W xs A c ds) (hb : Below W.heap.size W W1) : PutS w0 B I Z cs sz W1 xs A c ds := by
  obtain ⟨hd, h1, h2, h3, h4, h5, h6⟩ := h
  exact ⟨hd, below_step h1 hb, blk_below h2 hb, blk_below h3 hb, blk_below h4 hb, Kd.R_below h5 hb, marks_below h6 hb⟩
theorem PutS.alloc (h : PutS w0 B I Z cs sz W xs A c ds) (o : Obj) : PutS w0 B I Z cs sz (W.alloc o) xs A c ds := h.below (below_alloc (Below.refl _ _) o)
theorem PutS.put1 {ys : List Int} {A1 : Option Addr} {c1 : Nat} (h : PutS w0 B I Z cs sz W xs A c ds) (hb : Below W.heap.size W W1) (hr : Kd.R (Kd.int .u8) 5 W1 W.heap.size (fun _ => True) (.slice A1 ys.length c1) ys) : PutS w0 B I Z cs sz (W1.setCell ⟨B, 0, none⟩ (.slice A1 ys.length c1)) ys A1 c1 ds := by
  have hb0 := h.2.1.size
  obtain ⟨hd, h1, h2, h3, h4, h5, h6⟩ := h.below hb
  exact ⟨hd, below_set h1 hd.1, blk_far h2 (Ne.symm hd.2.2.2.1) _, blk_far h3 (Ne.symm hd.2.2.2.2.1) _, blk_put h4 0 _ rfl, Kd.R_set (Kd.R_lower hr hb0) h4 (by decide) 0 _, marks_set h6⟩
theorem PutS.qB (h : PutS w0 B I Z cs sz W xs A c ds) : W.cell? ⟨B, 0, none⟩ = some (.slice A xs.length c) := (blk_cell h.2.2.2.2.1 0).trans rfl
theorem PutS.fB (h : PutS w0 B I Z cs sz W xs A c ds) : W.frozen? ⟨B, 0, none⟩ = false := blk_frozen h.2.2.2.2.1 0
theorem PutS.qZ (h : PutS w0 B I Z cs sz W xs A c ds) : W.cell? ⟨Z, 0, none⟩ = some (.int .i64 sz) := (blk_cell h.2.2.2.1 0).trans rfl
theorem sect_Put.start {w w2 w3 : World} {b : List Int} {A0 : Option Addr} {c0 : Nat} (hlt : w.heap.size < w2.heap.size) (h2 : Below w.heap.size w w2) (hB : w2.heap[w.heap.size]? = some (.cells #[.slice A0 b.length c0] 28 (0, 0))) (hI : w2.heap[w.heap.size + 1]? = some (.cells cs 24 (0, 0)))
    (hb : Below (w2.alloc (.cells #[.int .i64 sz] 3)).heap.size (w2.alloc (.cells #[.int .i64 sz] 3)) w3) (hr : Kd.R (Kd.int .u8) 5 w3 (w2.alloc (.cells #[.int .i64 sz] 3)).heap.size (fun _ => True) (.slice A b.length c) b) :
    PutS w w.heap.size (w.heap.size + 1) w2.heap.size cs sz (w3.setCell ⟨w.heap.size, 0, none⟩ (.slice A b.length c)) b A c [] := by
  have hI2 := blk_lt hI
  have hBw : Below w.heap.size w w3 := below_step (below_alloc h2 _) hb
  have b1 := blk_below (blk_alloc hB (.cells #[.int .i64 sz] 3)) hb
  have b2 := blk_below (blk_alloc hI (.cells #[.int .i64 sz] 3)) hb
  have b3 := blk_below (blk_new w2 (.cells #[.int .i64 sz] 3)) hb
  refine ⟨⟨Nat.le_refl _, by omega, by omega, by omega, by omega, by omega⟩, below_set hBw (Nat.le_refl _), blk_far b2 (by simp) _, blk_far b3 (by simp; omega) _, blk_put b1 0 _ rfl, Kd.R_set (Kd.R_lower hr (by simp; omega)) b1 (by decide) 0 _, Marks.nil _ _⟩
/-- bits.Put on the bits so far. -/
theorem sect_Put.put {n size : Int} {ys : List Int} (h : PutS w0 B I Z cs sz W xs A c ds) (hs0 : 0 ≤ size) (hs1 : size ≤ 31) (hn0 : 0 ≤ n) (hn1 : n < 2 ^ size.toNat) (hl : xs.length ≤ 100000000) (hy : ys = xs ++ HA.bitsOf n size.toNat) :
    Calls Try.prog 19 #[.slice A xs.length c, .int .i64 n, .int .i64 size] W fun e w1 => ∃ A1 c1, e = .returned (.tuple #[.slice A1 ys.length c1, .int .i64 0]) ∧ Below W.heap.size W w1 ∧ PutS w0 B I Z cs sz w1 xs A c ds ∧ PutS w0 B I Z cs sz (w1.setCell ⟨B, 0, none⟩ (.slice A1 ys.length c1)) ys A1 c1 ds := by
  subst hy
  obtain ⟨_, hlc, hC⟩ := Kd.R_reads' h.2.2.2.2.2.1
  refine (bits_Put.calls A c xs n size _ 0 W hC hlc (SP.put_ok xs n size hs0 hs1 hn0 hn1 hl)).mono ?_
  rintro e w1 ⟨v1, rfl, ho, hb⟩
  obtain ⟨A1, c1, rfl⟩ := Kd.R_slice ho
  exact ⟨A1, c1, rfl, hb, h.below hb, h.put1 hb ho⟩
/-- What a range over a length's fields keeps. -/
def RngI (w0 : World) (B I Z : Nat) (cs : Array Value) (sz : Int) (size hs Pn Pm : Nat) (x0 fs : List Int) (ds : List Nat) (k : Nat) (W : World) : Prop :=
  (∃ A c, PutS w0 B I Z cs sz W (x0 ++ (fs.take k).flatMap (fun x => HA.bitsOf x size)) A c ds) ∧ (∃ v, Boxed W Pn 3 v) ∧ (∃ v, Boxed W Pm 3 v) ∧ w0.heap.size ≤ hs ∧ (B ≠ Pn ∧ I ≠ Pn ∧ Z ≠ Pn ∧ B ≠ Pm ∧ Pm ≠ Pn ∧ w0.heap.size ≤ Pn) ∧ ∀ D ∈ ds, D < hs
section
variable {w0 : World} {B I Z : Nat} {cs : Array Value} {sz : Int} {size hs Pn Pm : Nat} {x0 fs : List Int} {ds : List Nat}
theorem cells_ne {W : World} {k r : Nat} {t : TypeId} {cells : Array Value} {o : Obj} (hk : W.heap[k]? = some (.cells cells t (0, 0))) (hr : W.heap[r]? = some o) (ho : o.isCells = false) : k ≠ r := by
  rintro rfl
  rw [hk] at hr
  cases hr
  cases ho
theorem rng_own : OwnFrom hs (RngI w0 B I Z cs sz size hs Pn Pm x0 fs ds) := by
  rintro k W W' row ⟨⟨A, c, hP⟩, ⟨vn, hn⟩, ⟨vm, hm⟩, hw, hd, hds⟩ hg hr
  have keep : ∀ (g : Nat) (t : TypeId) (cells : Array Value), W.heap[g]? = some (.cells cells t (0, 0)) → W'.heap[g]? = some (.cells cells t (0, 0)) := fun g t cells h =>
    (hg.block g (blk_lt h) (fun e => by obtain ⟨_, o, ho, hc⟩ := hr g e.symm; exact cells_ne h ho hc rfl)).trans h
  obtain ⟨hdd, h1, h2, h3, h4, h5, h6⟩ := hP
  refine ⟨⟨A, c, hdd, h1.grown hg h1.size (fun g e => by have := (hr g e).1; omega), keep _ _ _ h2, keep _ _ _ h3, keep _ _ _ h4, ?_, h6.1, fun D hD => ⟨(h6.2 D hD).1, ?_⟩⟩, ⟨vn, keep _ _ _ hn⟩, ⟨vm, keep _ _ _ hm⟩, hw, hd, hds⟩
  · refine Kd.R_mono (Kd.R_move (Kd.R_bound h5) (fun g hg2 => ?_)) (fun _ hk => hk.1)
    obtain ⟨_, _, hlt, _, _, cells, hc⟩ := hg2
    exact hg.block g hlt (fun e => by obtain ⟨_, o, ho, hc2⟩ := hr g e.symm; exact cells_ne hc ho hc2 rfl)
  · have hlt := hds D hD
    exact (hg.block D (blk_lt (h6.2 D hD).2) (fun e => by have := (hr D e.symm).1; omega)).trans (h6.2 D hD).2
theorem PutS.far {W : World} {xs : List Int} {A : Option Addr} {c : Nat} {g j : Nat} {t : TypeId} {u : Value} {cells : Array Value} (h : PutS w0 B I Z cs sz W xs A c ds) (hg : W.heap[g]? = some (.cells cells t (0, 0))) (ht : 5 ≠ t) (h0 : w0.heap.size ≤ g) (n1 : B ≠ g) (n2 : I ≠ g) (n3 : Z ≠ g) : PutS w0 B I Z cs sz (W.setCell ⟨g, j, none⟩ u) xs A c ds := by
  obtain ⟨hd, h1, h2, h3, h4, h5, h6⟩ := h
  exact ⟨hd, below_set h1 h0, blk_far h2 n2 _, blk_far h3 n3 _, blk_far h4 n1 _, Kd.R_set h5 hg (fun q hq => by
    rcases List.mem_cons.1 hq with rfl | hq
    · exact ht
    · cases hq) j _, marks_set h6⟩
theorem rng_set (k : Nat) (W : World) (v : Value) (h : RngI w0 B I Z cs sz size hs Pn Pm x0 fs ds k W) : RngI w0 B I Z cs sz size hs Pn Pm x0 fs ds k (W.setCell ⟨Pn, 0, none⟩ v) := by
  obtain ⟨⟨A, c, hP⟩, ⟨vn, hn⟩, ⟨vm, hm⟩, hw, hd, hds⟩ := h
  exact ⟨⟨A, c, hP.far hn (by decide) hd.2.2.2.2.2 hd.1 hd.2.1 hd.2.2.1⟩, ⟨v, hn.set v⟩, ⟨vm, hm.other hd.2.2.2.2.1 v⟩, hw, hd, hds⟩
theorem flat_len (size : Nat) (l : List Int) : (l.flatMap (fun x => HA.bitsOf x size)).length = size * l.length := by
  induction l with
  | nil => rfl
  | cons x l ih => rw [List.flatMap_cons, List.length_append, ih, HA.bitsOf_length, List.length_cons, Nat.mul_succ]; omega
theorem SS_take (g : List SS.Sec) (j : Nat) (h : j < g.length) : g.take (j + 1) = g.take j ++ [rd_T49 g (j : Int)] := by
  unfold rd_T49
  rw [Int.toNat_natCast, List.getD_eq_getElem?_getD, List.getElem?_eq_getElem h, Option.getD_some]
  exact List.take_succ_eq_append_getElem h
theorem SL_take (l : List (List SS.Sec)) (i : Nat) (h : i < l.length) : l.take (i + 1) = l.take i ++ [rd_L4 l (i : Int)] := by
  unfold rd_L4
  rw [Int.toNat_natCast, List.getD_eq_getElem?_getD, List.getElem?_eq_getElem h, Option.getD_some]
  exact List.take_succ_eq_append_getElem h
theorem take_one {fs : List Int} {k : Nat} {x : Int} (h : fs[k]? = some x) : fs.take (k + 1) = fs.take k ++ [x] := by
  rw [List.take_add_one, h]
  rfl
end
end
def IO (w : World) (B I Z : Nat) (cs : Array Value) (most size s : Int) (A2 : Option Addr) (c2 : Nat) (l2 : List (List SS.Sec)) (l0 : List Int) (a : Act) (W : World) : Prop := ∃ (i : Nat) (xs : List Int) (A : Option Addr) (c : Nat) (ds : List Nat) (u : Nat → Value), a = { tmps := List.toArray (u 0 :: u 1 :: u 2 :: .pointer (some ⟨B, 0, none⟩) :: u 4 :: u 5 :: u 6 :: u 7 :: u 8 :: .pointer (some ⟨Z, 0, none⟩) :: .int .i64 most :: u 11 :: u 12 :: u 13 :: u 14 :: u 15 :: u 16 :: u 17 :: u 18 :: u 19 :: u 20 :: u 21 :: u 22 :: u 23 :: u 24 :: u 25 :: u 26 :: u 27 :: u 28 :: u 29 :: u 30 :: u 31 :: .slice A2 l2.length c2 :: .int .i64 (l2.length : Int) :: .int .i64 (i : Int) :: u 35 :: u 36 :: u 37 :: u 38 :: u 39 :: u 40 :: u 41 :: u 42 :: u 43 :: u 44 :: u 45 :: u 46 :: u 47 :: u 48 :: u 49 :: u 50 :: u 51 :: u 52 :: u 53 :: u 54 :: u 55 :: u 56 :: u 57 :: u 58 :: u 59 :: u 60 :: u 61 :: u 62 :: u 63 :: u 64 :: u 65 :: []), defers := ds.map HG.mark } ∧ i ≤ l2.length ∧ Aside0 (xs = l0 ++ SS.secsBits s (l2.take i)) ∧ Aside0 (xs.length ≤ 1000000 + 30000 * i) ∧ Aside0 (PutS w B I Z cs size W xs A c ds)
theorem IO.mk (w : World) (B I Z : Nat) (cs : Array Value) (most size s : Int) (A2 : Option Addr) (c2 : Nat) (l2 : List (List SS.Sec)) (l0 : List Int) {a : Act} {W : World} (i : Nat) {xs : List Int} {A : Option Addr} {c : Nat} {ds : List Nat} (ha : a = { tmps := List.toArray ((fun k => a.tmps.getD k undef) 0 :: (fun k => a.tmps.getD k undef) 1 :: (fun k => a.tmps.getD k undef) 2 :: .pointer (some ⟨B, 0, none⟩) :: (fun k => a.tmps.getD k undef) 4 :: (fun k => a.tmps.getD k undef) 5 :: (fun k => a.tmps.getD k undef) 6 :: (fun k => a.tmps.getD k undef) 7 :: (fun k => a.tmps.getD k undef) 8 :: .pointer (some ⟨Z, 0, none⟩) :: .int .i64 most :: (fun k => a.tmps.getD k undef) 11 :: (fun k => a.tmps.getD k undef) 12 :: (fun k => a.tmps.getD k undef) 13 :: (fun k => a.tmps.getD k undef) 14 :: (fun k => a.tmps.getD k undef) 15 :: (fun k => a.tmps.getD k undef) 16 :: (fun k => a.tmps.getD k undef) 17 :: (fun k => a.tmps.getD k undef) 18 :: (fun k => a.tmps.getD k undef) 19 :: (fun k => a.tmps.getD k undef) 20 :: (fun k => a.tmps.getD k undef) 21 :: (fun k => a.tmps.getD k undef) 22 :: (fun k => a.tmps.getD k undef) 23 :: (fun k => a.tmps.getD k undef) 24 :: (fun k => a.tmps.getD k undef) 25 :: (fun k => a.tmps.getD k undef) 26 :: (fun k => a.tmps.getD k undef) 27 :: (fun k => a.tmps.getD k undef) 28 :: (fun k => a.tmps.getD k undef) 29 :: (fun k => a.tmps.getD k undef) 30 :: (fun k => a.tmps.getD k undef) 31 :: .slice A2 l2.length c2 :: .int .i64 (l2.length : Int) :: .int .i64 (i : Int) :: (fun k => a.tmps.getD k undef) 35 :: (fun k => a.tmps.getD k undef) 36 :: (fun k => a.tmps.getD k undef) 37 :: (fun k => a.tmps.getD k undef) 38 :: (fun k => a.tmps.getD k undef) 39 :: (fun k => a.tmps.getD k undef) 40 :: (fun k => a.tmps.getD k undef) 41 :: (fun k => a.tmps.getD k undef) 42 :: (fun k => a.tmps.getD k undef) 43 :: (fun k => a.tmps.getD k undef) 44 :: (fun k => a.tmps.getD k undef) 45 :: (fun k => a.tmps.getD k undef) 46 :: (fun k => a.tmps.getD k undef) 47 :: (fun k => a.tmps.getD k undef) 48 :: (fun k => a.tmps.getD k undef) 49 :: (fun k => a.tmps.getD k undef) 50 :: (fun k => a.tmps.getD k undef) 51 :: (fun k => a.tmps.getD k undef) 52 :: (fun k => a.tmps.getD k undef) 53 :: (fun k => a.tmps.getD k undef) 54 :: (fun k => a.tmps.getD k undef) 55 :: (fun k => a.tmps.getD k undef) 56 :: (fun k => a.tmps.getD k undef) 57 :: (fun k => a.tmps.getD k undef) 58 :: (fun k => a.tmps.getD k undef) 59 :: (fun k => a.tmps.getD k undef) 60 :: (fun k => a.tmps.getD k undef) 61 :: (fun k => a.tmps.getD k undef) 62 :: (fun k => a.tmps.getD k undef) 63 :: (fun k => a.tmps.getD k undef) 64 :: (fun k => a.tmps.getD k undef) 65 :: []), defers := ds.map HG.mark }) (h1 : i ≤ l2.length) (h2 : xs = l0 ++ SS.secsBits s (l2.take i)) (h3 : xs.length ≤ 1000000 + 30000 * i) (h4 : PutS w B I Z cs size W xs A c ds) : IO w B I Z cs most size s A2 c2 l2 l0 a W := ⟨i, xs, A, c, ds, fun k => a.tmps.getD k undef, ha, h1, ⟨h2⟩, ⟨h3⟩, ⟨h4⟩⟩
def II (w : World) (B I Z : Nat) (cs : Array Value) (most size s : Int) (A2 : Option Addr) (c2 : Nat) (l2 : List (List SS.Sec)) (l0 : List Int) (i : Nat) (Ag : Option Addr) (cg : Nat) (g : List SS.Sec) (xs : List Int) (a : Act) (W : World) : Prop := ∃ (j : Nat) (ys : List Int) (A : Option Addr) (c : Nat) (ds : List Nat) (u : Nat → Value), a = { tmps := List.toArray (u 0 :: u 1 :: u 2 :: .pointer (some ⟨B, 0, none⟩) :: u 4 :: u 5 :: u 6 :: u 7 :: u 8 :: .pointer (some ⟨Z, 0, none⟩) :: .int .i64 most :: u 11 :: u 12 :: u 13 :: u 14 :: u 15 :: u 16 :: u 17 :: u 18 :: u 19 :: u 20 :: u 21 :: u 22 :: u 23 :: u 24 :: u 25 :: u 26 :: u 27 :: u 28 :: u 29 :: u 30 :: u 31 :: .slice A2 l2.length c2 :: .int .i64 (l2.length : Int) :: .int .i64 (i : Int) :: u 35 :: u 36 :: u 37 :: .slice Ag g.length cg :: .int .i64 (g.length : Int) :: .int .i64 (j : Int) :: u 41 :: u 42 :: u 43 :: u 44 :: u 45 :: u 46 :: u 47 :: u 48 :: u 49 :: u 50 :: u 51 :: u 52 :: u 53 :: u 54 :: u 55 :: u 56 :: u 57 :: u 58 :: u 59 :: u 60 :: u 61 :: u 62 :: u 63 :: u 64 :: u 65 :: []), defers := ds.map HG.mark } ∧ j ≤ g.length ∧ Aside0 (ys = xs ++ SS.grpBits s (g.take j)) ∧ Aside0 (ys.length ≤ xs.length + 600 * j) ∧ Aside0 (PutS w B I Z cs size W ys A c ds)
theorem II.mk (w : World) (B I Z : Nat) (cs : Array Value) (most size s : Int) (A2 : Option Addr) (c2 : Nat) (l2 : List (List SS.Sec)) (l0 : List Int) (i : Nat) (Ag : Option Addr) (cg : Nat) (g : List SS.Sec) (xs : List Int) {a : Act} {W : World} (j : Nat) {ys : List Int} {A : Option Addr} {c : Nat} {ds : List Nat} (ha : a = { tmps := List.toArray ((fun k => a.tmps.getD k undef) 0 :: (fun k => a.tmps.getD k undef) 1 :: (fun k => a.tmps.getD k undef) 2 :: .pointer (some ⟨B, 0, none⟩) :: (fun k => a.tmps.getD k undef) 4 :: (fun k => a.tmps.getD k undef) 5 :: (fun k => a.tmps.getD k undef) 6 :: (fun k => a.tmps.getD k undef) 7 :: (fun k => a.tmps.getD k undef) 8 :: .pointer (some ⟨Z, 0, none⟩) :: .int .i64 most :: (fun k => a.tmps.getD k undef) 11 :: (fun k => a.tmps.getD k undef) 12 :: (fun k => a.tmps.getD k undef) 13 :: (fun k => a.tmps.getD k undef) 14 :: (fun k => a.tmps.getD k undef) 15 :: (fun k => a.tmps.getD k undef) 16 :: (fun k => a.tmps.getD k undef) 17 :: (fun k => a.tmps.getD k undef) 18 :: (fun k => a.tmps.getD k undef) 19 :: (fun k => a.tmps.getD k undef) 20 :: (fun k => a.tmps.getD k undef) 21 :: (fun k => a.tmps.getD k undef) 22 :: (fun k => a.tmps.getD k undef) 23 :: (fun k => a.tmps.getD k undef) 24 :: (fun k => a.tmps.getD k undef) 25 :: (fun k => a.tmps.getD k undef) 26 :: (fun k => a.tmps.getD k undef) 27 :: (fun k => a.tmps.getD k undef) 28 :: (fun k => a.tmps.getD k undef) 29 :: (fun k => a.tmps.getD k undef) 30 :: (fun k => a.tmps.getD k undef) 31 :: .slice A2 l2.length c2 :: .int .i64 (l2.length : Int) :: .int .i64 (i : Int) :: (fun k => a.tmps.getD k undef) 35 :: (fun k => a.tmps.getD k undef) 36 :: (fun k => a.tmps.getD k undef) 37 :: .slice Ag g.length cg :: .int .i64 (g.length : Int) :: .int .i64 (j : Int) :: (fun k => a.tmps.getD k undef) 41 :: (fun k => a.tmps.getD k undef) 42 :: (fun k => a.tmps.getD k undef) 43 :: (fun k => a.tmps.getD k undef) 44 :: (fun k => a.tmps.getD k undef) 45 :: (fun k => a.tmps.getD k undef) 46 :: (fun k => a.tmps.getD k undef) 47 :: (fun k => a.tmps.getD k undef) 48 :: (fun k => a.tmps.getD k undef) 49 :: (fun k => a.tmps.getD k undef) 50 :: (fun k => a.tmps.getD k undef) 51 :: (fun k => a.tmps.getD k undef) 52 :: (fun k => a.tmps.getD k undef) 53 :: (fun k => a.tmps.getD k undef) 54 :: (fun k => a.tmps.getD k undef) 55 :: (fun k => a.tmps.getD k undef) 56 :: (fun k => a.tmps.getD k undef) 57 :: (fun k => a.tmps.getD k undef) 58 :: (fun k => a.tmps.getD k undef) 59 :: (fun k => a.tmps.getD k undef) 60 :: (fun k => a.tmps.getD k undef) 61 :: (fun k => a.tmps.getD k undef) 62 :: (fun k => a.tmps.getD k undef) 63 :: (fun k => a.tmps.getD k undef) 64 :: (fun k => a.tmps.getD k undef) 65 :: []), defers := ds.map HG.mark }) (h1 : j ≤ g.length) (h2 : ys = xs ++ SS.grpBits s (g.take j)) (h3 : ys.length ≤ xs.length + 600 * j) (h4 : PutS w B I Z cs size W ys A c ds) : II w B I Z cs most size s A2 c2 l2 l0 i Ag cg g xs a W := ⟨j, ys, A, c, ds, fun k => a.tmps.getD k undef, ha, h1, ⟨h2⟩, ⟨h3⟩, ⟨h4⟩⟩

def sect_Put.f (l0 : List Int) (a1_0 : Int) (a1_1 : Int) (a1_2 : Int) (l1_3 : List Int) (l2 : List (List (S49))) : Option (List Int × Int) := if 0 ≤ a1_0 ∧ 0 ≤ a1_1 ∧ l0.length ≤ 1000000 ∧ l1_3.length ≤ 1000 ∧ l2.length ≤ 1000 ∧ (∀ g ∈ l2, g.length ≤ 1000) then some (if SS.secsOk a1_0 a1_1 a1_2 l1_3 l2 = true then (l0 ++ SS.secsBits a1_0 l2, 0) else ([], 8)) else none
set_option maxHeartbeats 8000000 in
set_option maxRecDepth 100000 in
theorem sect_Put.calls (A0 : Option Addr) (c0 : Nat) (l0 : List Int) (a1_0 : Int) (a1_1 : Int) (a1_2 : Int) (A1_3 : Option Addr) (c1_3 : Nat) (l1_3 : List Int) (A2 : Option Addr) (c2 : Nat) (l2 : List (List (S49))) (r1 : List Int) (r2 : Int) (w : World) (hr0 : Kd.C (Kd.int .u8) w A0 l0.length l0) (hc0 : l0.length ≤ c0) (hr1_3 : Kd.C (Kd.int .i64) w A1_3 l1_3.length l1_3) (hc1_3 : l1_3.length ≤ c1_3) (hr2 : Kd.C (Kd.slice 49 k49) w A2 l2.length l2) (hc2 : l2.length ≤ c2) (h : sect_Put.f l0 a1_0 a1_1 a1_2 l1_3 l2 = some (r1, r2)) :
    Calls Try.prog 9 #[.slice A0 l0.length c0, .agg #[.int .u8 a1_0, .int .u8 a1_1, .int .i64 a1_2, .slice A1_3 l1_3.length c1_3], .slice A2 l2.length c2] w fun e w' => ∃ v0_ : Value, e = .returned (.tuple #[v0_, .int .i64 r2]) ∧ Kd.R (Kd.int .u8) 5 w' w.heap.size (fun _ => True) v0_ r1 ∧ Below w.heap.size w w' := by
  unfold sect_Put.f at h
  by_cases hcond : 0 ≤ a1_0 ∧ 0 ≤ a1_1 ∧ l0.length ≤ 1000000 ∧ l1_3.length ≤ 1000 ∧ l2.length ≤ 1000 ∧ ∀ g ∈ l2, g.length ≤ 1000
  case neg => rw [if_neg hcond] at h; cases h
  rw [if_pos hcond] at h
  obtain ⟨hu0, hu1, hlx, hlg, hll, hlm⟩ := hcond
  have HR0 := Aside0.mk hr0
  have HC0 := Aside0.mk hc0
  have HR1 := Aside0.mk hr1_3
  have HC1 := Aside0.mk hc1_3
  have HR2 := Aside0.mk hr2
  have HC2 := Aside0.mk hc2
  have HLX := Aside0.mk hlx
  have HLL := Aside0.mk hll
  clear hr0 hc0 hr1_3 hc1_3 hr2 hc2
  have HK : Aside0 (sect_Check.f 1100000 a1_0 a1_1 a1_2 l1_3 l2 = some (if SS.secsOk a1_0 a1_1 a1_2 l1_3 l2 = true then 0 else 8)) := ⟨SS.check_f a1_0 a1_1 a1_2 l1_3 l2 (by omega) (by omega) 1000 hlm (by omega) 1100000 (by
    have : (1000 + 3) * l2.length ≤ 1003 * 1000 := Nat.mul_le_mul_left 1003 hll
    omega)⟩
  clear hlx hlg hll hlm
  by_cases hk : SS.secsOk a1_0 a1_1 a1_2 l1_3 l2 = true
  case neg =>
    rw [if_neg hk] at h HK
    obtain ⟨rfl, rfl⟩ : [] = r1 ∧ 8 = r2 := by simpa using h
    clear hk h
    go_enter Try.func9, Try.ntmps9
    go_wp2_with (first | (go_at_call 15; refine (sect_Check.calls 1100000 a1_0 a1_1 a1_2 A1_3 c1_3 l1_3 A2 c2 l2 8 _ (by (with_reducible repeat (first | apply Kd.C_alloc | apply Kd.C_drewN | apply Kd.C_drew)); exact HR1.out) HC1.out (by (with_reducible repeat (first | apply Kd.C_alloc | apply Kd.C_drewN | apply Kd.C_drew)); exact HR2.out) HC2.out HK.out).mono ?_; rintro e w1 ⟨rfl, hb⟩; have HB1 := Aside0.mk (below_step (below_alloc (below_alloc (Below.refl _ _) _) _) hb); clear hb))
    go_ret2
    exact ⟨_, rfl, Kd.R_nil _ _ _ _ _, HB1.out⟩
  rw [if_pos hk] at h HK
  obtain ⟨rfl, rfl⟩ : l0 ++ SS.secsBits a1_0 l2 = r1 ∧ 0 = r2 := by simpa using h
  have HOK := Aside0.mk (SS.secsOk_ok hk)
  clear hk h
  refine (callsIn_wide (n := 4)).1 ?_
  have hro : Fence.wide.round = none := rfl
  have h1 : 1 ≤ 4 := by omega
  refine callsIn_of_wp_marks Try.func9 rfl trivial ?_ hro
  simp only [Try.ntmps9, List.size_toArray, List.length_cons, List.length_nil, Nat.reduceAdd, Nat.reduceSub, Array.replicate_succ, Array.replicate_zero, List.push_toArray, List.append_toArray, List.nil_append, List.cons_append]
  have HP0 : Aside0 (bits_Put.f l0 0 0 = some (l0, 0)) := ⟨by
    have := SP.put_ok l0 0 0 (by omega) (by omega) (by omega) (by decide) (by have := HLX.out; omega)
    rw [this, show HA.bitsOf 0 (0 : Int).toNat = [] from rfl, List.append_nil]⟩
  have HFD := Aside0.mk (SS.field_f a1_0 a1_1 a1_2 l1_3)
  obtain ⟨most, hmost⟩ : ∃ x, x = SS.mostS a1_0 := ⟨_, rfl⟩
  obtain ⟨size, hsize⟩ : ∃ x, x = SS.sizeS a1_0 := ⟨_, rfl⟩
  rw [← hmost, ← hsize] at HFD
  have HMO := Aside0.mk hmost
  have HSI := Aside0.mk hsize
  clear hmost hsize
  gi_wp2_with (first | (refine ⟨trivial, ?_⟩; gi_at_call 15; refine (callsIn_wide.2 (sect_Check.calls 1100000 a1_0 a1_1 a1_2 A1_3 c1_3 l1_3 A2 c2 l2 0 _ (by (with_reducible repeat (first | apply Kd.C_alloc | apply Kd.C_drewN | apply Kd.C_drew)); exact HR1.out) HC1.out (by (with_reducible repeat (first | apply Kd.C_alloc | apply Kd.C_drewN | apply Kd.C_drew)); exact HR2.out) HC2.out HK.out)).mono ?_; rintro e w1 ⟨rfl, hb⟩; have HB1 := Aside0.mk (below_step (below_alloc (below_alloc (Below.refl _ _) _) _) hb); have BB1 : Aside0 (w1.heap[w.heap.size]? = some (.cells #[.slice A0 l0.length c0] 28 (0, 0))) := ⟨blk_below (blk_alloc (blk_new w _) _) hb⟩; have BI1 : Aside0 (w1.heap[w.heap.size + 1]? = some (.cells #[.int .u8 a1_0, .int .u8 a1_1, .int .i64 a1_2, .slice A1_3 l1_3.length c1_3] 24 (0, 0))) := ⟨blk_below (by have := blk_new (w.alloc (.cells #[.slice A0 l0.length c0] 28)) (.cells #[.int .u8 a1_0, .int .u8 a1_1, .int .i64 a1_2, .slice A1_3 l1_3.length c1_3] 24); rwa [World.size_alloc] at this) hb⟩; clear hb; have hi0 : w1.cell? ⟨w.heap.size + 1, 0, none⟩ = some (.int .u8 a1_0) := (blk_cell BI1.out 0).trans rfl; have hi1 : w1.cell? ⟨w.heap.size + 1, 1, none⟩ = some (.int .u8 a1_1) := (blk_cell BI1.out 1).trans rfl; have hi2 : w1.cell? ⟨w.heap.size + 1, 2, none⟩ = some (.int .i64 a1_2) := (blk_cell BI1.out 2).trans rfl; have hi3 : w1.cell? ⟨w.heap.size + 1, 3, none⟩ = some (.slice A1_3 l1_3.length c1_3) := (blk_cell BI1.out 3).trans rfl) | (refine ⟨trivial, ?_⟩; gi_at_call 18; refine (callsIn_wide.2 (sect_field.calls a1_0 a1_1 a1_2 A1_3 c1_3 l1_3 (size : Int) most _ (Kd.C_below HR1.out HB1.out) HC1.out HFD.out)).mono ?_; rintro e w2 ⟨rfl, hb⟩; have HB2 := Aside0.mk (below_step HB1.out hb); have BB2 := Aside0.mk (blk_below BB1.out hb); have BI2 := Aside0.mk (blk_below BI1.out hb); clear hb hi0 hi1 hi2 hi3 BB1 BI1 HB1; have hqB : w2.cell? ⟨w.heap.size, 0, none⟩ = some (.slice A0 l0.length c0) := (blk_cell BB2.out 0).trans rfl; have HLT := Aside0.mk (blk_lt BB2.out); have hlt2 := HLT.out) | (refine ⟨trivial, ?_⟩; gi_at_call 19; refine (callsIn_wide.2 (bits_Put.calls A0 c0 l0 0 0 l0 0 _ (Kd.C_alloc (Kd.C_below HR0.out HB2.out) _) HC0.out HP0.out)).mono ?_; rintro e w3 ⟨v3, rfl, ho, hb⟩; obtain ⟨A3, c3, rfl⟩ := Kd.R_slice ho; have HS : Aside0 (PutS w w.heap.size (w.heap.size + 1) w2.heap.size #[.int .u8 a1_0, .int .u8 a1_1, .int .i64 a1_2, .slice A1_3 l1_3.length c1_3] (size : Int) (w3.setCell ⟨w.heap.size, 0, none⟩ (.slice A3 l0.length c3)) l0 A3 c3 []) := ⟨sect_Put.start HLT.out HB2.out BB2.out BI2.out hb ho⟩; have hqB3 : w3.cell? ⟨w.heap.size, 0, none⟩ = some (.slice A0 l0.length c0) := (blk_cell (blk_below (blk_alloc BB2.out _) hb) 0).trans rfl; have hfB3 : w3.frozen? ⟨w.heap.size, 0, none⟩ = false := blk_frozen (blk_below (blk_alloc BB2.out _) hb) 0; clear hb ho hqB))
  generalize w3.setCell ⟨w.heap.size, 0, none⟩ (.slice A3 l0.length c3) = W at HS ⊢
  generalize w2.heap.size = Z at HS ⊢
  generalize hI : w.heap.size + 1 = I at HS ⊢
  generalize hB : w.heap.size = B at HS ⊢
  clear hqB3 hfB3 hlt2 hI hB
  refine wpIn_loop (IO w B I Z #[.int .u8 a1_0, .int .u8 a1_1, .int .i64 a1_2, .slice A1_3 l1_3.length c1_3] most (size : Int) a1_0 A2 c2 l2 l0) (fun a _ => l2.length - (intOf (a.tmps.getD 34 undef)).toNat) (IO.mk w B I Z #[.int .u8 a1_0, .int .u8 a1_1, .int .i64 a1_2, .slice A1_3 l1_3.length c1_3] most (size : Int) a1_0 A2 c2 l2 l0 0 rfl (Nat.zero_le _) (by simp [SS.secsBits]) (by have := HLX.out; omega) HS.out) ?_
  rintro a W ⟨i, xs, A, c, ds, u, rfl, hi, HXS, HXL, HS⟩
  by_cases hlt : i < l2.length
  · have hltz : (i : Int) < (l2.length : Int) := by omega
    obtain ⟨ad, Ag, cg, rfl, hcell0, hlcg, hCg⟩ := at_L4 HR2.out (i : Int) (by omega) hltz
    rw [Int.toNat_natCast] at hcell0
    have hcell := pw_cell_below HS.out.2.1 hcell0
    clear hcell0
    obtain ⟨g, hg⟩ : ∃ g, g = rd_L4 l2 (i : Int) := ⟨_, rfl⟩
    rw [← hg] at hcell hlcg hCg
    have HGE := Aside0.mk hg
    have HGC := Aside0.mk hCg
    have HLCG := Aside0.mk hlcg
    have HGM : Aside0 (g ∈ l2) := ⟨by
      rw [hg]
      unfold rd_L4
      rw [Int.toNat_natCast, List.getD_eq_getElem?_getD, List.getElem?_eq_getElem hlt, Option.getD_some]
      exact List.getElem_mem _⟩
    have HGO := Aside0.mk (HOK.out.2.2.2 g HGM.out)
    have HI8 : Aside0 (i ≤ 8) := ⟨by have := HOK.out.2.2.1; omega⟩
    have HM40 := Aside0.mk (SS.someS_max HOK.out.1)
    have HGL : Aside0 (g.length ≤ 40) := ⟨by have := SS.grpOk_len g _ HGO.out; have := HM40.out; omega⟩
    have hg40 := HGL.out
    clear hg hlcg hCg
    gi_wp2
    clear hcell
    refine wpIn_loop (II w B I Z #[.int .u8 a1_0, .int .u8 a1_1, .int .i64 a1_2, .slice A1_3 l1_3.length c1_3] most (size : Int) a1_0 (some ad) c2 l2 l0 i Ag cg g xs) (fun a _ => g.length - (intOf (a.tmps.getD 40 undef)).toNat) (II.mk w B I Z #[.int .u8 a1_0, .int .u8 a1_1, .int .i64 a1_2, .slice A1_3 l1_3.length c1_3] most (size : Int) a1_0 (some ad) c2 l2 l0 i Ag cg g xs 0 rfl (Nat.zero_le _) (by simp [SS.grpBits]) (by omega) HS.out) ?_
    rintro a2 W2 ⟨j, ys, A', c', es, t, rfl, hj, HYS, HYL, HS2⟩
    by_cases hlt2 : j < g.length
    · have hltz2 : (j : Int) < (g.length : Int) := by omega
      have HYM : Aside0 (ys.length ≤ 2000000) := ⟨by have := HYL.out; have := HXL.out; have := HI8.out; omega⟩
      obtain ⟨ad2, rfl, hs0, hs1⟩ := at_T49 HGC.out (j : Int) (by omega) hltz2
      rw [Int.toNat_natCast] at hs0 hs1
      replace hs0 := pw_cell_below HS2.out.2.1 hs0
      replace hs1 := pw_cell_below HS2.out.2.1 hs1
      obtain ⟨x, hx⟩ : ∃ x, x = rd_T49 g (j : Int) := ⟨_, rfl⟩
      rw [← hx] at hs0 hs1
      have HX := Aside0.mk hx
      have hxm : x ∈ g := by
        rw [hx]
        unfold rd_T49
        rw [Int.toNat_natCast, List.getD_eq_getElem?_getD, List.getElem?_eq_getElem hlt2, Option.getD_some]
        exact List.getElem_mem _
      obtain ⟨hxl0, hxl1, hxb0, hxb1⟩ := SS.grpOk_mem g _ HGO.out x hxm
      clear hx hxm
      obtain ⟨bk, hbk⟩ : ∃ b, b = x.f0 := ⟨_, rfl⟩
      obtain ⟨ln, hln⟩ : ∃ b, b = x.f1 := ⟨_, rfl⟩
      rw [← hbk] at hs0 hxb0 hxb1
      rw [← hln] at hs1 hxl0 hxl1
      have hln40 : ln ≤ 40 := by have := HM40.out; omega
      have HBK := Aside0.mk hbk
      have HLN := Aside0.mk hln
      obtain ⟨y1, hy1⟩ : ∃ y, y = ys ++ HA.bitsOf bk (4 : Int).toNat := ⟨_, rfl⟩
      have HY1 := Aside0.mk hy1
      have hqB := HS2.out.qB
      have hqB2 := (HS2.out.alloc (.cells #[.int .i64 bk, .int .i64 ln] 49)).qB
      have hltB : B < W2.heap.size := blk_lt HS2.out.2.2.2.2.1
      have hneB : ¬ B = W2.heap.size := by omega
      have hneB2 : ¬ W2.heap.size = B := by omega
      clear hbk hln hy1 hxl1
      gi_wp2_with (first | (refine ⟨trivial, ?_⟩; gi_at_call 19; refine (callsIn_wide.2 (sect_Put.put (HS2.out.alloc _) (by decide) (by decide) hxb0 (by show bk < 16; omega) (by have := HYM.out; omega) HY1.out)).mono ?_; rintro e w4 ⟨A4, c4, rfl, hb, hs, hs'⟩; have HB4 := Aside0.mk hb; have HS4 := Aside0.mk hs'; have hqB4 := hs.qB; have hfB4 := hs.fB; have hq1 : w4.cell? ⟨W2.heap.size, 1, none⟩ = some (.int .i64 ln) := (blk_cell (blk_below (blk_new W2 (.cells #[.int .i64 bk, .int .i64 ln] 49)) hb) 1).trans rfl; clear hb hs hs' hqB hqB2))
      generalize w4.setCell ⟨B, 0, none⟩ (.slice A4 y1.length c4) = X at HS4 ⊢
      clear hs0 hs1 hqB4 hfB4 hq1 hneB hneB2 hltB HB4
      refine ⟨trivial, (callsIn_wide.2 (HG.fields_calls ln most X)).mono ?_⟩
      rintro e w5 ⟨rfl, rfl⟩
      have hmost : most = if a1_0 = 2 then 7 else 31 := HMO.out
      have hsize : size = if a1_0 = 2 then 3 else 5 := HSI.out
      have hp0 : 1 ≤ most ∧ most ≤ 31 ∧ size ≤ 5 ∧ (most < 2 ^ size) := by rw [hmost, hsize]; split <;> decide
      obtain ⟨hp1, hp2, hp3, hp4⟩ := hp0
      have HP4 := Aside0.mk hp4
      obtain ⟨fs, hfs⟩ : ∃ fs, fs = HG.fieldsOf ln most := ⟨_, rfl⟩
      have hfl : fs.length ≤ 41 := by
        have := SS.fieldsOf_len ln most (by omega) (by omega)
        rw [hfs]
        omega
      have HFS := Aside0.mk hfs
      have HFM : Aside0 (∀ v ∈ fs, 0 ≤ v ∧ v ≤ most) := ⟨by rw [hfs]; exact SS.fieldsOf_mem ln most (by omega) (by omega)⟩
      have hY1 : y1.length = ys.length + 4 := by rw [HY1.out, List.length_append, HA.bitsOf_length]; rfl
      have hseq := HG.fields1_in Fence.wide (4 - 1) trivial hro (by omega) (X.heap.size + 1) X.heap.size ln most (by omega) (by omega) (by omega) (by omega) (by omega)
      rw [← hfs] at hseq
      have bX := blk_new X (.cells #[.int .i64 ln] 3)
      have bX2 := blk_new (X.alloc (.cells #[.int .i64 ln] 3)) (.cells #[.int .i64 most] 3)
      rw [World.size_alloc] at bX2
      have hV0 : RngI w B I Z #[.int .u8 a1_0, .int .u8 a1_1, .int .i64 a1_2, .slice A1_3 l1_3.length c1_3] (size : Int) size (X.heap.size + 2) X.heap.size (X.heap.size + 1) y1 fs es 0 ((X.alloc (.cells #[.int .i64 ln] 3)).alloc (.cells #[.int .i64 most] 3)) := by
        have hx := HS4.out
        refine ⟨⟨A4, c4, by simpa using (hx.alloc _).alloc _⟩, ⟨_, blk_alloc bX _⟩, ⟨_, bX2⟩, by have := hx.2.1.size; omega, ⟨?_, ?_, ?_, ?_, by omega, hx.2.1.size⟩, fun D hD => by have := hx.2.2.2.2.2.2.lt hD; omega⟩
        · have := blk_lt hx.2.2.2.2.1; omega
        · have := blk_lt hx.2.2.1; omega
        · have := blk_lt hx.2.2.2.1; omega
        · have := blk_lt hx.2.2.2.2.1; omega
      clear hfs hmost hsize
      gi_wp2
      apply HG.range_own hro h1 (gf := 32) (lb := #[.pointer (some ⟨X.heap.size, 0, none⟩), .pointer (some ⟨X.heap.size + 1, 0, none⟩)]) rfl trivial (enters_of Try.func32 (by kernel_rfl) rfl) hseq (I := RngI w B I Z #[.int .u8 a1_0, .int .u8 a1_1, .int .i64 a1_2, .slice A1_3 l1_3.length c1_3] (size : Int) size (X.heap.size + 2) X.heap.size (X.heap.size + 1) y1 fs es)
      case hP => simp; omega
      case hKt => exact fun h k => HB.kq_trans h k
      case hKb => exact fun W l o hl => ⟨World.putObj_heap_other (by simp at hl; omega), World.putObj_heap_other (by simp at hl; omega)⟩
      case hIni => exact fun o1 o2 => ⟨blk_alloc (blk_alloc bX2 _) _, blk_alloc (blk_alloc (blk_alloc bX _) _) _⟩
      case hI => simp only [World.size_alloc]; exact rng_own
      case hIp => exact rng_set
      case h0 => exact hV0
      case hassign =>
        intro l v Wb K hK
        gi_wp2
        exact hK
      case hbody =>
        rintro l k v Wb hI hv
        obtain ⟨⟨Ab, cb, hP⟩, ⟨vn, hn⟩, ⟨vm, hm⟩, hw, hd, hds⟩ := hI
        obtain ⟨hv0, hv1⟩ := HFM.out v (List.mem_of_getElem? hv)
        have HV := Aside0.mk hv
        have hk := (List.getElem?_eq_some_iff.1 hv).1
        obtain ⟨z, hz⟩ : ∃ z, z = y1 ++ (fs.take k).flatMap (fun x => HA.bitsOf x size) := ⟨_, rfl⟩
        have hzl : z.length ≤ 3000000 := by
          have h2 := flat_len size (fs.take k)
          have h3 : (fs.take k).length ≤ 41 := by rw [List.length_take]; omega
          have h4 : size * (fs.take k).length ≤ 5 * 41 := Nat.mul_le_mul hp3 h3
          rw [hz, List.length_append, h2]
          have := HYM.out
          omega
        rw [← hz] at hP
        have HZ := Aside0.mk hz
        have HPP := Aside0.mk hP
        have HN := Aside0.mk hn
        have HMM := Aside0.mk hm
        have hqB := hP.qB
        have hqZ := hP.qZ
        obtain ⟨z1, hz1⟩ : ∃ y, y = z ++ HA.bitsOf v (size : Int).toNat := ⟨_, rfl⟩
        have HZ1 := Aside0.mk hz1
        clear hv hz hP hn hm hz1 hV0 bX bX2
        gi_wp2_with (first | (refine ⟨trivial, ?_⟩; gi_at_call 19; refine (CallsIn.inRound l (callsIn_wide.2 (sect_Put.put HPP.out (by omega) (by omega) hv0 (by have := HP4.out; rw [Int.toNat_natCast]; omega) (by omega) HZ1.out))).mono ?_; rintro e w6 ⟨A6, c6, rfl, hb, hs, hs'⟩; have HB6 := Aside0.mk hb; have HS6 := Aside0.mk hs'; have hqB6 := hs.qB; have hfB6 := hs.fB; clear hb hs hs' hqB hqZ))
        obtain ⟨d1, d2, d3, d4, d5, d6⟩ := hd
        refine ⟨(keeps_below HB6.out).trans ((KeepsOthers.setCell _ _ _).from _), ⟨?_, ?_⟩, ⟨A6, c6, ?_⟩, ⟨vn, ?_⟩, ⟨vm, ?_⟩, hw, ⟨d1, d2, d3, d4, d5, d6⟩, hds⟩
        · exact (Below.heap_setCell _ _ _ _ (Ne.symm d4)).trans (HB6.out.block _ (blk_lt HMM.out))
        · exact (Below.heap_setCell _ _ _ _ (Ne.symm d1)).trans (HB6.out.block _ (blk_lt HN.out))
        · have e : y1 ++ (fs.take (k + 1)).flatMap (fun x => HA.bitsOf x size) = z1 := by
            rw [HZ1.out, HZ.out, take_one HV.out, List.flatMap_append, List.append_assoc]
            simp
          rw [e]
          exact HS6.out
        · exact (Below.heap_setCell _ _ _ _ (Ne.symm d1)).trans (blk_below HN.out HB6.out)
        · exact (Below.heap_setCell _ _ _ _ (Ne.symm d4)).trans (blk_below HMM.out HB6.out)
      case hdone =>
        rintro D Wd hD ⟨⟨Ad, cd, hP⟩, _, _, hw, hd, hds⟩ hK
        have HPD := Aside0.mk hP
        have HKD := Aside0.mk hK
        have hD2 : X.heap.size + 2 ≤ D := by simpa using hD
        have HDS := Aside0.mk hds
        clear hP hK hV0 bX bX2 hD hds
        gi_wp2
        refine ⟨II.mk w B I Z #[.int .u8 a1_0, .int .u8 a1_1, .int .i64 a1_2, .slice A1_3 l1_3.length c1_3] most (size : Int) a1_0 (some ad) c2 l2 l0 i (some ad2) cg g xs (j + 1) (ds := D :: es) rfl (by omega) ?_ ?_ ⟨HPD.out.1, HPD.out.2.1, HPD.out.2.2.1, HPD.out.2.2.2.1, HPD.out.2.2.2.2.1, HPD.out.2.2.2.2.2.1, HPD.out.2.2.2.2.2.2.cons (by omega) HKD.out (fun hm => by have := HDS.out D hm; omega)⟩, ?_⟩
        · rw [List.take_of_length_le (Nat.le_refl _), HY1.out, HYS.out, SS_take g j hlt2, ← HX.out]
          unfold SS.grpBits
          rw [List.flatMap_append]
          simp only [List.flatMap_cons, List.flatMap_nil, List.append_nil, SS.secBits, SS.lenBits]
          rw [← HBK.out, ← HLN.out, ← HMO.out, ← HSI.out, ← HFS.out]
          simp only [List.append_assoc]
          rfl
        · rw [List.length_append, List.take_of_length_le (Nat.le_refl _), flat_len, hY1]
          have h4 : size * fs.length ≤ 5 * 41 := Nat.mul_le_mul hp3 hfl
          have := HYL.out
          omega
        · simp [intOf]
          omega
    · obtain rfl : j = g.length := by omega
      have hi8 := HI8.out
      gi_wp2
      refine ⟨IO.mk w B I Z #[.int .u8 a1_0, .int .u8 a1_1, .int .i64 a1_2, .slice A1_3 l1_3.length c1_3] most (size : Int) a1_0 (some ad) c2 l2 l0 (i + 1) (ds := es) rfl (by omega) ?_ ?_ HS2.out, ?_⟩
      · rw [HYS.out, HXS.out, List.take_of_length_le (Nat.le_refl _), SL_take l2 i hlt, ← HGE.out]
        unfold SS.secsBits
        rw [List.flatMap_append]
        simp only [List.flatMap_cons, List.flatMap_nil, List.append_nil, List.append_assoc]
      · have := HYL.out
        have := HXL.out
        omega
      · simp [intOf]
        omega
  · obtain rfl : i = l2.length := by omega
    have hqB := HS.out.qB
    gi_wp2
    refine HG.leaves_marks ds _ HS.out.2.2.2.2.2.2 (fun W' hs => ?_)
    have e : l0 ++ SS.secsBits a1_0 l2 = xs := by rw [HXS.out, List.take_of_length_le (Nat.le_refl _)]
    rw [e]
    exact ⟨_, results_tmp2 rfl _ _ _, _, rfl, hs.R HS.out.2.2.2.2.2.2 HS.out.2.2.2.2.2.1, HS.out.2.1.trans hs.below⟩

end Go.Proofs.Ytjdlochffpikbaa.K
end
section
/- Sections in plain words: how large lists may be; how many bits. -/
namespace Go.Proofs.Ytjdlochffpikbaa.SS
open Go.RowKit Go.Proofs.YtjdlochffpikbaaW.PrintWords Go.Proofs.YtjdlochffpikbaaW.PrintLast Go.Proofs.YtjdlochffpikbaaW.PrintMore Go.Proofs.Ytjdlochffpikbaa.HA Go.Proofs.Ytjdlochffpikbaa.HP Go.Proofs.Ytjdlochffpikbaa.HG Go.Proofs.Ytjdlochffpikbaa.K
set_option linter.unusedVariables false

theorem L_mem (l : List (List Sec)) (i : Nat) (h : i < l.length) : rd_L4 l (i : Int) = l[i] := by
  unfold rd_L4
  rw [Int.toNat_natCast, List.getD_eq_getElem?_getD, List.getElem?_eq_getElem h, Option.getD_some]
theorem great_l0 (l : List (List Sec)) : ∀ (d k i : Nat), 100 - i = d → i ≤ 100 → i ≤ l.length → (∀ j, j < i → ∀ h : j < l.length, (l[j]'h).length ≤ 200) → 2 * d + 2 < k →
    ∃ r, reedpiperef19_Great.l0 k l (i : Int) = some r ∧ (r = false → l.length ≤ 100 ∧ ∀ j, ∀ h : j < l.length, (l[j]'h).length ≤ 200) := by
  intro d
  induction d with
  | zero =>
    intro k i hd hi hil hj hk
    obtain ⟨k, rfl⟩ : ∃ m, k = m + 2 := ⟨k - 2, by omega⟩
    obtain rfl : i = 100 := by omega
    simp only [reedpiperef19_Great.l0, reedpiperef19_Great.j1]
    rw [decide_eq_false (show ¬ ((100 : Nat) : Int) < 100 by omega)]
    simp only [Bool.false_eq_true, if_false]
    refine ⟨decide ((l.length : Int) > 100), by split <;> rfl, fun h => ?_⟩
    have h2 : ¬ ((l.length : Int) > 100) := of_decide_eq_false h
    exact ⟨by omega, fun j h => hj j (by omega) h⟩
  | succ d ih =>
    intro k i hd hi hil hj hk
    obtain ⟨k, rfl⟩ : ∃ m, k = m + 2 := ⟨k - 2, by omega⟩
    simp only [reedpiperef19_Great.l0, reedpiperef19_Great.j1]
    by_cases hlt : i < l.length
    · rw [if_pos (by omega), if_pos (by rw [decide_eq_true (show (i : Int) < 100 by omega)]), if_pos (by omega), if_pos (by omega), L_mem l i hlt]
      by_cases hg : ((l[i].length : Nat) : Int) > 200
      · rw [if_pos hg]
        exact ⟨true, rfl, fun h => by cases h⟩
      · rw [if_neg hg, wrap_succ i (by omega)]
        refine ih k (i + 1) (by omega) (by omega) (by omega) (fun j hj2 h => ?_) (by omega)
        rcases Nat.lt_or_ge j i with h3 | h3
        · exact hj j h3 h
        · obtain rfl : j = i := by omega
          omega
    · rw [if_neg (by omega), if_neg (by simp)]
      refine ⟨decide ((l.length : Int) > 100), rfl, fun h => ?_⟩
      have h2 : ¬ ((l.length : Int) > 100) := of_decide_eq_false h
      exact ⟨by omega, fun j h => hj j (by omega) h⟩
theorem great_f (l : List (List Sec)) (k : Nat) (hk : 300 < k) : ∃ r, reedpiperef19_Great.f k l = some r ∧ (r = false → l.length ≤ 100 ∧ ∀ g ∈ l, g.length ≤ 200) := by
  obtain ⟨r, h1, h2⟩ := great_l0 l 100 k 0 (by omega) (by omega) (by omega) (fun j hj => by omega) (by omega)
  refine ⟨r, h1, fun h => ⟨(h2 h).1, fun g hg => ?_⟩⟩
  obtain ⟨j, hj, rfl⟩ := List.getElem_of_mem hg
  exact (h2 h).2 j hj
/-! ### how many bits -/
def leastS (s : Int) : Int := if s = 2 then 7 else 9
theorem flat_len (size : Nat) (l : List Int) : (l.flatMap (fun x => bitsOf x size)).length = size * l.length := by
  induction l with
  | nil => rfl
  | cons x l ih => rw [List.flatMap_cons, List.length_append, ih, bitsOf_length, List.length_cons, Nat.mul_succ]; omega
theorem secBits_least (s : Int) (x : Sec) : leastS s ≤ ((secBits s x).length : Int) := by
  unfold secBits lenBits leastS
  rw [List.length_append, bitsOf_length, flat_len, fieldsOf_length]
  have : sizeS s ≤ sizeS s * ((x.f1 / mostS s).toNat + 1) := by
    have := Nat.mul_le_mul_left (sizeS s) (Nat.le_add_left 1 (x.f1 / mostS s).toNat)
    omega
  unfold sizeS at this ⊢
  split at this <;> rename_i h <;> simp only [h, if_true, if_false] <;> omega
theorem grpBits_least (s : Int) : ∀ g : List Sec, leastS s * (g.length : Int) ≤ ((grpBits s g).length : Int)
  | [] => by simp [grpBits]
  | x :: g => by
    have ih := grpBits_least s g
    have h := secBits_least s x
    unfold grpBits at ih ⊢
    rw [List.flatMap_cons, List.length_append, List.length_cons]
    have : leastS s * ((g.length + 1 : Nat) : Int) = leastS s * (g.length : Int) + leastS s := by rw [Int.natCast_add, Int.mul_add]; omega
    rw [this]
    omega
def manyS (l : List (List Sec)) : Int := (l.map (fun g => (g.length : Int))).sum
theorem secsBits_least (s : Int) : ∀ l : List (List Sec), leastS s * manyS l ≤ ((secsBits s l).length : Int)
  | [] => by simp [secsBits, manyS]
  | g :: l => by
    have ih := secsBits_least s l
    have h := grpBits_least s g
    unfold secsBits manyS at *
    rw [List.flatMap_cons, List.length_append, List.map_cons, List.sum_cons, Int.mul_add]
    omega
theorem many_bound (N : Nat) : ∀ l : List (List Sec), (∀ g ∈ l, g.length ≤ N) → 0 ≤ manyS l ∧ manyS l ≤ (N : Int) * (l.length : Int)
  | [], _ => by simp [manyS]
  | g :: l, h => by
    have ih := many_bound N l (fun x hx => h x (List.mem_cons_of_mem _ hx))
    have hg := h g List.mem_cons_self
    unfold manyS at *
    rw [List.map_cons, List.sum_cons, List.length_cons, Int.natCast_add, Int.mul_add]
    omega
theorem secsBits_some {s sh m : Int} {gs : List Int} {l : List (List Sec)} (h : secsOk s sh m gs l = true) : m > 0 ↔ (((secsBits s l).length : Nat) : Int) > 0 := by
  obtain ⟨h1, h2, h3, h4⟩ := secsOk_ok h
  obtain ⟨_, _, hm0, _⟩ := someS_max h1
  obtain ⟨_, _, _, hgp⟩ := SP.someS_all h1
  have hle : 7 ≤ leastS s := by unfold leastS; split <;> omega
  constructor
  · intro hm
    have hlp : 0 < l.length := by omega
    obtain ⟨g, r, rfl⟩ : ∃ g r, l = g :: r := by
      cases l with
      | nil => simp at hlp
      | cons g r => exact ⟨g, r, rfl⟩
    have hg := h4 g List.mem_cons_self
    obtain ⟨x, q, rfl⟩ : ∃ x q, g = x :: q := by
      cases g with
      | nil => simp [grpOk] at hg; omega
      | cons x q => exact ⟨x, q, rfl⟩
    have := secBits_least s x
    unfold secsBits grpBits
    rw [List.flatMap_cons, List.length_append, List.flatMap_cons, List.length_append]
    omega
  · intro hb
    rcases Int.lt_or_le 0 m with h5 | h5
    · exact h5
    · exfalso
      obtain rfl : m = 0 := by omega
      have : secsBits s l = [] := by
        unfold secsBits
        rw [List.flatMap_eq_nil_iff]
        intro g hg
        have h6 := grpOk_len g 0 (h4 g hg)
        have : g = [] := List.eq_nil_of_length_eq_zero (by omega)
        rw [this]
        rfl
      rw [this] at hb
      simp at hb
theorem put_f (b : List Int) (s sh m : Int) (gs : List Int) (l : List (List Sec)) (hs : 0 ≤ s) (hsh : 0 ≤ sh) (hb : b.length ≤ 1000000) (hgs : gs.length ≤ 1000) (hl : l.length ≤ 1000) (hg : ∀ g ∈ l, g.length ≤ 1000) :
    sect_Put.f b s sh m gs l = some (if secsOk s sh m gs l = true then (b ++ secsBits s l, 0) else ([], 8)) := by
  unfold sect_Put.f
  rw [if_pos ⟨hs, hsh, hb, hgs, hl, hg⟩]
theorem strOfNums_append (a b : List Int) : strOfNums (a ++ b) = strOfNums a ++ strOfNums b := by
  unfold strOfNums
  rw [List.map_append]
  apply ByteArray.ext
  rw [ByteArray.data_append]
  simp
theorem secBits_most {s : Int} {x : Sec} (h0 : 0 ≤ x.f1) (h1 : x.f1 ≤ 40) : (secBits s x).length ≤ 209 := by
  unfold secBits lenBits
  rw [List.length_append, bitsOf_length, flat_len, fieldsOf_length]
  have h2 : (x.f1 / mostS s).toNat ≤ 40 := by
    have : x.f1 / mostS s ≤ x.f1 := Int.ediv_le_self _ h0
    omega
  have h3 : sizeS s ≤ 5 := by unfold sizeS; split <;> omega
  have h4 : sizeS s * ((x.f1 / mostS s).toNat + 1) ≤ 5 * 41 := Nat.mul_le_mul h3 (by omega)
  omega
theorem grpBits_most (s : Int) : ∀ (g : List Sec) (N : Nat), (∀ x ∈ g, 0 ≤ x.f1 ∧ x.f1 ≤ 40) → (grpBits s g).length ≤ 209 * g.length
  | [], _, _ => by simp [grpBits]
  | x :: g, N, h => by
    have ih := grpBits_most s g N (fun y hy => h y (List.mem_cons_of_mem _ hy))
    have hx := h x List.mem_cons_self
    have := secBits_most (s := s) hx.1 hx.2
    unfold grpBits at *
    rw [List.flatMap_cons, List.length_append, List.length_cons]
    omega
theorem secsBits_most {s sh m : Int} {gs : List Int} {l : List (List Sec)} (h : secsOk s sh m gs l = true) : (secsBits s l).length ≤ 67000 := by
  obtain ⟨h1, h2, h3, h4⟩ := secsOk_ok h
  obtain ⟨_, _, hm0, hm, _⟩ := someS_max h1
  have key : ∀ l : List (List Sec), (∀ g ∈ l, grpOk m g = true) → (secsBits s l).length ≤ 8360 * l.length := by
    intro l
    induction l with
    | nil => intro _; simp [secsBits]
    | cons g l ih =>
      intro h4
      have ih := ih (fun x hx => h4 x (List.mem_cons_of_mem _ hx))
      have hg := h4 g List.mem_cons_self
      have h5 := grpOk_len g m hg
      have h6 := grpBits_most s g 0 (fun x hx => by have := grpOk_mem g m hg x hx; omega)
      unfold secsBits at *
      rw [List.flatMap_cons, List.length_append, List.length_cons]
      omega
  have := key l h4
  omega
end Go.Proofs.Ytjdlochffpikbaa.SS
end
section
/- bits.Get without rounds: the number of some bits; what was put is got. -/
namespace Go.Proofs.Ytjdlochffpikbaa.SG
open Go.RowKit Go.Proofs.YtjdlochffpikbaaW.PrintWords Go.Proofs.YtjdlochffpikbaaW.PrintLast Go.Proofs.YtjdlochffpikbaaW.PrintMore Go.Proofs.Ytjdlochffpikbaa.HA Go.Proofs.Ytjdlochffpikbaa.HP Go.Proofs.Ytjdlochffpikbaa.K
set_option linter.unusedVariables false

theorem or_bit (n b : Int) (h0 : 0 ≤ n) (h1 : n ≤ 4611686018427387903) (hb0 : 0 ≤ b) (hb : b ≤ 1) : Go.bits .or .i64 (n * 2) b = n * 2 + b := by
  obtain ⟨a, rfl⟩ := Int.eq_ofNat_of_zero_le h0
  obtain ⟨c, rfl⟩ := Int.eq_ofNat_of_zero_le hb0
  have e1 : (BitVec.ofInt 64 ((a : Int) * 2)).toNat = 2 * a := by
    rw [show (a : Int) * 2 = ((2 * a : Nat) : Int) by omega, BitVec.ofInt_natCast, BitVec.toNat_ofNat]; exact Nat.mod_eq_of_lt (by omega)
  have e2 : (BitVec.ofInt 64 (c : Int)).toNat = c := by
    rw [BitVec.ofInt_natCast, BitVec.toNat_ofNat]; exact Nat.mod_eq_of_lt (by omega)
  show IntKind.i64.wrap ((BitVec.ofInt 64 ((a : Int) * 2) ||| BitVec.ofInt 64 (c : Int)).toNat : Int) = _
  have e3 := Nat.two_pow_add_eq_or_of_lt (i := 1) (b := c) (by omega) a
  rw [BitVec.toNat_or, e1, e2, show 2 * a = 2 ^ 1 * a from rfl, ← e3, IntKind.wrap_i64]
  omega

/-- The number whose bits stand behind n's. -/
def numFrom (n : Int) : List Int → Int
  | [] => n
  | x :: l => numFrom (n * 2 + x) l
def numOf (l : List Int) : Int := numFrom 0 l
def bitsOk (l : List Int) : Bool := l.all (fun x => decide (x ≤ 1))
theorem get_l0 (b : List Int) (hb : ∀ y ∈ b, 0 ≤ y ∧ y ≤ 255) (p size : Nat) (hs : size ≤ 31) (hl : p + size ≤ b.length) (hbl : b.length ≤ 4611686018427387904) : ∀ (d k i : Nat) (n : Int), size - i = d → i ≤ size → d < k → 0 ≤ n → n < 2 ^ i →
    bits_Get.l0 k b (p : Int) (size : Int) n (size : Int) (i : Int) = some (if bitsOk ((b.drop (p + i)).take d) = true then (numFrom n ((b.drop (p + i)).take d), ((p + size : Nat) : Int), 0) else (0, 0, 8)) := by
  intro d
  induction d with
  | zero =>
    intro k i n hd hi hk h0 h1
    obtain ⟨k, rfl⟩ : ∃ m, k = m + 1 := ⟨k - 1, by omega⟩
    simp only [bits_Get.l0]
    rw [if_neg (by omega), wrap_id _ (by omega) (by omega)]
    simp [bitsOk, numFrom]
  | succ d ih =>
    intro k i n hd hi hk h0 h1
    obtain ⟨k, rfl⟩ : ∃ m, k = m + 1 := ⟨k - 1, by omega⟩
    simp only [bits_Get.l0]
    have hw : wrap64 ((p : Int) + (i : Int)) = ((p + i : Nat) : Int) := by rw [wrap_id _ (by omega) (by omega)]; omega
    rw [hw, if_pos (by omega), if_pos (by omega), if_pos (by omega), drop_at b (p + i) (by omega), List.take_succ_cons]
    have hr : 0 ≤ rd b ((p + i : Nat) : Int) ∧ rd b ((p + i : Nat) : Int) ≤ 255 := by rw [rd_at b (p + i) (by omega)]; exact hb _ (List.getElem_mem _)
    have h31 : (2 : Int) ^ i ≤ 2147483648 := by
      have h31 : (2 : Int) ^ i ≤ 2 ^ 31 := by exact_mod_cast Nat.pow_le_pow_right (by omega) (show i ≤ 31 by omega)
      simpa using h31
    by_cases hx : rd b ((p + i : Nat) : Int) > 1
    · rw [if_pos hx, if_neg]
      simp only [bitsOk, List.all_cons, Bool.and_eq_true, decide_eq_true_eq]
      intro h
      omega
    · rw [if_neg hx, wrap_id (n * 2) (by omega) (by omega), wrap_id (rd b ((p + i : Nat) : Int)) (by omega) (by omega), or_bit n _ h0 (by omega) hr.1 (by omega), wrap_succ i (by omega)]
      rw [ih k (i + 1) (n * 2 + rd b ((p + i : Nat) : Int)) (by omega) (by omega) (by omega) (by omega) (by rw [Int.pow_succ]; omega)]
      rw [show p + (i + 1) = p + i + 1 by omega]
      have e1 : decide (rd b ((p + i : Nat) : Int) ≤ 1) = true := decide_eq_true (by omega)
      simp only [bitsOk, List.all_cons, e1, Bool.true_and, numFrom]
      rfl
def getS (b : List Int) (p size : Int) : Int × Int × Int :=
  if size < 0 ∨ size > 31 ∨ p < 0 ∨ p > b.length then (0, 0, 2) else if (b.length : Int) - p < size then (0, 0, 5)
  else if bitsOk ((b.drop p.toNat).take size.toNat) = true then (numOf ((b.drop p.toNat).take size.toNat), p + size, 0) else (0, 0, 8)
theorem get_f (b : List Int) (hb : ∀ y ∈ b, 0 ≤ y ∧ y ≤ 255) (hbl : b.length ≤ 4611686018427387904) (p size : Int) (k : Nat) (hk : 40 < k) : bits_Get.f k b p size = some (getS b p size) := by
  unfold bits_Get.f getS
  obtain ⟨k, rfl⟩ : ∃ m, k = m + 1 := ⟨k - 1, by omega⟩
  have hz : bits_sized.f size = some (decide (0 ≤ size ∧ size ≤ 31)) := by
    unfold bits_sized.f
    by_cases h0 : size ≥ 0
    · rw [if_pos h0]
      simp [h0]
    · rw [if_neg h0]
      simp
      omega
  rw [hz]
  simp only [Option.bind_some, decide_eq_true_eq]
  by_cases h1 : 0 ≤ size ∧ size ≤ 31
  · rw [if_pos h1]
    by_cases h2 : p < 0
    · rw [if_pos h2, if_pos (Or.inr (Or.inr (Or.inl h2)))]
      simp only [bits_Get.j0, if_true]
    · rw [if_neg h2]
      by_cases h3 : p > b.length
      · rw [decide_eq_true h3, if_pos (Or.inr (Or.inr (Or.inr h3)))]
        simp only [bits_Get.j0, if_true]
      · rw [decide_eq_false h3, if_neg (by omega)]
        simp only [bits_Get.j0, Bool.false_eq_true, if_false]
        rw [wrap_id _ (by omega) (by omega)]
        by_cases h4 : (b.length : Int) - p < size
        · rw [if_pos h4, if_pos h4]
        · rw [if_neg h4, if_neg h4]
          obtain ⟨q, rfl⟩ := Int.eq_ofNat_of_zero_le (show 0 ≤ p by omega)
          obtain ⟨s, rfl⟩ := Int.eq_ofNat_of_zero_le h1.1
          have := get_l0 b hb q s (by omega) (by omega) hbl s k 0 0 (by omega) (by omega) (by omega) (by omega) (by decide)
          simp only [Nat.add_zero] at this
          rw [show ((0 : Nat) : Int) = 0 from rfl] at this
          rw [this]
          simp only [Int.toNat_natCast, numOf]
          rw [Int.natCast_add]
  · rw [if_neg h1, if_pos (by omega)]
    simp only [bits_Get.j0, if_true]

/-! ### numbers and their bits -/
theorem numFrom_append (n : Int) (l r : List Int) : numFrom n (l ++ r) = numFrom (numFrom n l) r := by
  induction l generalizing n with
  | nil => rfl
  | cons x l ih => exact ih _
theorem numFrom_bounds (l : List Int) (h : ∀ x ∈ l, 0 ≤ x ∧ x ≤ 1) : ∀ n : Int, 0 ≤ n → n * 2 ^ l.length ≤ numFrom n l ∧ numFrom n l < (n + 1) * 2 ^ l.length := by
  induction l with
  | nil => intro n h0; simp [numFrom]; omega
  | cons x l ih =>
    intro n h0
    have hx := h x List.mem_cons_self
    obtain ⟨i1, i2⟩ := ih (fun y hy => h y (List.mem_cons_of_mem _ hy)) (n * 2 + x) (by omega)
    have hp : (0 : Int) < 2 ^ l.length := Int.pow_pos (by omega)
    simp only [numFrom, List.length_cons, Int.pow_succ]
    constructor
    · refine Int.le_trans ?_ i1
      have : n * (2 ^ l.length * 2) = (n * 2) * 2 ^ l.length := by rw [Int.mul_comm (2 ^ l.length) 2, ← Int.mul_assoc]
      rw [this]
      exact Int.mul_le_mul_of_nonneg_right (by omega) (by omega)
    · refine Int.lt_of_lt_of_le i2 ?_
      have : (n + 1) * (2 ^ l.length * 2) = ((n + 1) * 2) * 2 ^ l.length := by rw [Int.mul_comm (2 ^ l.length) 2, ← Int.mul_assoc]
      rw [this]
      exact Int.mul_le_mul_of_nonneg_right (by omega) (by omega)
theorem numOf_bounds (l : List Int) (h : ∀ x ∈ l, 0 ≤ x ∧ x ≤ 1) : 0 ≤ numOf l ∧ numOf l < 2 ^ l.length := by
  have := numFrom_bounds l h 0 (by omega)
  unfold numOf
  omega
theorem bitsOf_succ (n : Int) (s : Nat) : bitsOf n (s + 1) = bitsOf (n / 2) s ++ [n % 2] := by
  unfold bitsOf
  rw [upto_succ]
  congr 1
  · unfold upto
    apply List.map_congr_left
    intro j hj
    have hj : j < s := List.mem_range.1 hj
    unfold bitAt
    rw [show s + 1 - 1 - j = (s - 1 - j) + 1 by omega, Int.pow_succ, Int.mul_comm, Int.ediv_ediv_of_nonneg (by omega : (0:Int) ≤ 2)]
  · unfold bitAt
    simp
theorem numOf_bitsOf (s : Nat) : ∀ n : Int, 0 ≤ n → n < 2 ^ s → numOf (bitsOf n s) = n := by
  induction s with
  | zero =>
    intro n h0 h1
    simp at h1
    obtain rfl : n = 0 := by omega
    rfl
  | succ s ih =>
    intro n h0 h1
    rw [Int.pow_succ] at h1
    have := ih (n / 2) (by omega) (by omega)
    rw [bitsOf_succ]
    unfold numOf at this ⊢
    rw [numFrom_append, this]
    simp only [numFrom]
    omega
theorem bitsOf_numOf (l : List Int) (h : ∀ x ∈ l, 0 ≤ x ∧ x ≤ 1) : bitsOf (numOf l) l.length = l := by
  induction hl : l.length generalizing l with
  | zero =>
    have : l = [] := List.eq_nil_of_length_eq_zero hl
    subst this
    rfl
  | succ s ih =>
    have hne : l ≠ [] := by intro e; subst e; cases hl
    obtain ⟨r, x, rfl⟩ : ∃ r x, l = r ++ [x] := ⟨l.dropLast, l.getLast hne, (List.dropLast_concat_getLast hne).symm⟩
    have hx := h x (by simp)
    have hr : r.length = s := by simpa using hl
    have hi := ih r (fun y hy => h y (by simp [hy])) hr
    rw [bitsOf_succ]
    have e : numOf (r ++ [x]) = numOf r * 2 + x := by
      unfold numOf
      rw [numFrom_append]
      rfl
    rw [e, show (numOf r * 2 + x) / 2 = numOf r by omega, show (numOf r * 2 + x) % 2 = x by omega, hi]
theorem bitsOf_01 (n : Int) (s : Nat) : ∀ x ∈ bitsOf n s, 0 ≤ x ∧ x ≤ 1 := by
  intro x hx
  unfold bitsOf upto at hx
  obtain ⟨j, _, rfl⟩ := List.mem_map.1 hx
  unfold bitAt
  omega
theorem bitsOk_of {l : List Int} (h : ∀ x ∈ l, 0 ≤ x ∧ x ≤ 1) : bitsOk l = true := by
  unfold bitsOk
  rw [List.all_eq_true]
  intro x hx
  exact decide_eq_true (h x hx).2
/-- What was put is got. -/
theorem getS_put (pre post : List Int) (n : Int) (s : Nat) (hs : s ≤ 31) (h0 : 0 ≤ n) (h1 : n < 2 ^ s) : getS (pre ++ bitsOf n s ++ post) (pre.length : Int) (s : Int) = (n, ((pre.length + s : Nat) : Int), 0) := by
  have hl := bitsOf_length n s
  have e : ((pre ++ bitsOf n s ++ post).drop pre.length).take s = bitsOf n s := by
    rw [List.append_assoc, List.drop_left]
    conv => lhs; arg 1; rw [← hl]
    exact List.take_left
  unfold getS
  simp only [Int.toNat_natCast]
  rw [if_neg (by simp only [List.length_append]; omega), if_neg (by simp only [List.length_append]; omega), e, bitsOk_of (bitsOf_01 n s), if_pos rfl, numOf_bitsOf s n h0 h1]
  simp
/-- What is got when all is well: the bits that stand there are the number's. -/
theorem getS_ok {b : List Int} (hb : ∀ y ∈ b, 0 ≤ y ∧ y ≤ 255) {p size n q : Int} (h : getS b p size = (n, q, 0)) : 0 ≤ p ∧ 0 ≤ size ∧ size ≤ 31 ∧ q = p + size ∧ q ≤ b.length ∧ 0 ≤ n ∧ n < 2 ^ size.toNat ∧ (b.drop p.toNat).take size.toNat = bitsOf n size.toNat := by
  unfold getS at h
  split at h
  · simp at h
  · next h1 =>
    split at h
    · simp at h
    · next h2 =>
      split at h
      · next h3 =>
        simp only [Prod.mk.injEq, and_true] at h
        obtain ⟨rfl, rfl⟩ := h
        have h01 : ∀ x ∈ (b.drop p.toNat).take size.toNat, 0 ≤ x ∧ x ≤ 1 := by
          intro x hx
          refine ⟨(hb x (List.mem_of_mem_drop (List.mem_of_mem_take hx))).1, ?_⟩
          unfold bitsOk at h3
          simpa using List.all_eq_true.1 h3 x hx
        have hlen : ((b.drop p.toNat).take size.toNat).length = size.toNat := by
          rw [List.length_take, List.length_drop]
          omega
        have hbd := numOf_bounds _ h01
        have hbo := bitsOf_numOf _ h01
        rw [hlen] at hbd hbo
        exact ⟨by omega, by omega, by omega, rfl, by omega, hbd.1, hbd.2, hbo.symm⟩
      · simp at h
/-- Whatever is got is a number of so many bits. -/
theorem getS_bounds {b : List Int} (hb : ∀ y ∈ b, 0 ≤ y ∧ y ≤ 255) (p : Int) (s : Nat) : 0 ≤ (getS b p s).1 ∧ (getS b p s).1 < 2 ^ s ∧ 0 ≤ (getS b p s).2.1 ∧ (getS b p s).2.1 ≤ b.length ∧ ((getS b p s).2.2 = 0 ∨ (getS b p s).2.2 = 2 ∨ (getS b p s).2.2 = 5 ∨ (getS b p s).2.2 = 8) ∧ ((getS b p s).2.2 ≠ 0 → getS b p s = (0, 0, (getS b p s).2.2)) := by
  have hp : (0 : Int) < 2 ^ s := Int.pow_pos (by omega)
  rcases hg : getS b p s with ⟨n, q, e⟩
  by_cases he : e = 0
  · subst he
    obtain ⟨h1, h2, h3, h4, h5, h6, h7, _⟩ := getS_ok hb hg
    simp only [Int.toNat_natCast] at h7
    exact ⟨h6, h7, by show 0 ≤ q; omega, h5, Or.inl rfl, fun h => absurd rfl h⟩
  · unfold getS at hg
    split at hg
    · simp only [Prod.mk.injEq] at hg
      obtain ⟨rfl, rfl, rfl⟩ := hg
      exact ⟨Int.le_refl _, hp, Int.le_refl _, Int.natCast_nonneg _, by simp, fun _ => rfl⟩
    · split at hg
      · simp only [Prod.mk.injEq] at hg
        obtain ⟨rfl, rfl, rfl⟩ := hg
        exact ⟨Int.le_refl _, hp, Int.le_refl _, Int.natCast_nonneg _, by simp, fun _ => rfl⟩
      · split at hg
        · simp only [Prod.mk.injEq] at hg
          exact absurd hg.2.2.symm he
        · simp only [Prod.mk.injEq] at hg
          obtain ⟨rfl, rfl, rfl⟩ := hg
          exact ⟨Int.le_refl _, hp, Int.le_refl _, Int.natCast_nonneg _, by simp, fun _ => rfl⟩
end Go.Proofs.Ytjdlochffpikbaa.SG
end
section
/- sect.Get without rounds; sections are got as they were put, and put as these bits when got. -/
namespace Go.Proofs.Ytjdlochffpikbaa.SS
open Go.RowKit Go.Proofs.YtjdlochffpikbaaW.PrintWords Go.Proofs.YtjdlochffpikbaaW.PrintLast Go.Proofs.YtjdlochffpikbaaW.PrintMore Go.Proofs.Ytjdlochffpikbaa.HA Go.Proofs.Ytjdlochffpikbaa.HP Go.Proofs.Ytjdlochffpikbaa.HG Go.Proofs.Ytjdlochffpikbaa.K Go.Proofs.Ytjdlochffpikbaa.SG
set_option linter.unusedVariables false

def lenS (b : List Int) (size most left : Int) : Nat → Int → Int → Int × Int × Int
  | 0, p, acc => (0, 0, 99)
  | f + 1, p, acc =>
    if (getS b p size).2.2 = 0 then
      (if acc + (getS b p size).1 > left then (0, 0, 8)
       else if (getS b p size).1 = most then lenS b size most left f (getS b p size).2.1 (acc + (getS b p size).1)
       else if acc + (getS b p size).1 = 0 then (0, 0, 8) else (acc + (getS b p size).1, (getS b p size).2.1, 0))
    else (0, 0, (getS b p size).2.2)
/-- What follows, where no error has been met. -/
def cont {α β : Type} (r : α × Int × Int) (R : α → Int → List β × Int × Int) : List β × Int × Int := if r.2.2 = 0 then R r.1 r.2.1 else ([], 0, r.2.2)
theorem cont_ok {α β : Type} (a : α) (q : Int) (R : α → Int → List β × Int × Int) : cont (a, q, 0) R = R a q := rfl
theorem cont_8 {α β : Type} (a : α) (q : Int) (R : α → Int → List β × Int × Int) : cont (a, q, 8) R = ([], 0, 8) := rfl
theorem cont_cont {α β γ : Type} (r : α × Int × Int) (R : α → Int → List β × Int × Int) (T : List β → Int → List γ × Int × Int) : cont r (fun a q => cont (R a q) T) = cont (cont r R) T := by
  obtain ⟨a, q, e⟩ := r
  by_cases he : e = 0
  · subst he; rfl
  · unfold cont; rw [if_neg he, if_neg he]; simp only; rw [if_neg he]
theorem cont_bad {α β : Type} {a : α} {q e : Int} (he : e ≠ 0) (R : α → Int → List β × Int × Int) : cont (a, q, e) R = ([], 0, e) := by unfold cont; rw [if_neg he]
def grpS (b : List Int) (size most : Int) : Nat → Int → Int → List Sec → List Sec × Int × Int
  | 0, left, p, acc => ([], 0, 99)
  | f + 1, left, p, acc =>
    if left > 0 then
      (if (getS b p 4).2.2 = 0 then
        (if (getS b p 4).1 > 11 ∧ (getS b p 4).1 ≠ 13 then ([], 0, 8)
         else cont (lenS b size most left 50 (getS b p 4).2.1 0) (fun len q => grpS b size most f (left - len) q (acc ++ [⟨(getS b p 4).1, len⟩])))
       else ([], 0, (getS b p 4).2.2))
    else (acc, p, 0)
def readS (b : List Int) (size most m : Int) : Nat → Int → List (List Sec) → List (List Sec) × Int × Int
  | 0, p, acc => (acc, p, 0)
  | n + 1, p, acc => cont (grpS b size most 50 m p []) (fun g q => readS b size most m n q (acc ++ [g]))
def getSect (b : List Int) (p s sh m : Int) (gs : List Int) : List (List Sec) × Int × Int :=
  if SP.someS s sh m gs = true then (if (getS b p 0).2.2 = 0 then readS b (sizeS s) (mostS s) m gs.length (getS b p 0).2.1 [] else ([], 0, (getS b p 0).2.2)) else ([], 0, 8)

theorem lenS_ok {b : List Int} (hb : ∀ y ∈ b, 0 ≤ y ∧ y ≤ 255) {size : Nat} {most left : Int} : ∀ (f : Nat) (p acc len q : Int), 0 ≤ acc → lenS b size most left f p acc = (len, q, 0) → 1 ≤ len ∧ len ≤ left ∧ acc ≤ len
  | 0, p, acc, len, q, h0, h => by simp [lenS] at h
  | f + 1, p, acc, len, q, h0, h => by
    have hn := (getS_bounds hb p size).1
    unfold lenS at h
    split at h
    · split at h
      · simp at h
      · split at h
        · have := lenS_ok hb f _ _ len q (by omega) h
          omega
        · split at h
          · simp at h
          · simp only [Prod.mk.injEq, and_true] at h
            omega
    · next he =>
      simp only [Prod.mk.injEq] at h
      exact absurd h.2.2 he
theorem lenS_bad {b : List Int} {size most left : Int} : ∀ (f : Nat) (p acc len q e : Int), lenS b size most left f p acc = (len, q, e) → e ≠ 0 → len = 0 ∧ q = 0
  | 0, p, acc, len, q, e, h, he => by simp only [lenS, Prod.mk.injEq] at h; exact ⟨h.1.symm, h.2.1.symm⟩
  | f + 1, p, acc, len, q, e, h, he => by
    unfold lenS at h
    split at h
    · split at h
      · simp only [Prod.mk.injEq] at h; exact ⟨h.1.symm, h.2.1.symm⟩
      · split at h
        · exact lenS_bad f _ _ len q e h he
        · split at h
          · simp only [Prod.mk.injEq] at h; exact ⟨h.1.symm, h.2.1.symm⟩
          · simp only [Prod.mk.injEq] at h; exact absurd h.2.2.symm he
    · simp only [Prod.mk.injEq] at h; exact ⟨h.1.symm, h.2.1.symm⟩
theorem size_most (s : Int) : (mostS s) + 1 = 2 ^ (sizeS s) ∧ 7 ≤ mostS s ∧ mostS s ≤ 31 ∧ sizeS s ≤ 5 ∧ 3 ≤ sizeS s := by
  unfold mostS sizeS
  split <;> decide

section
variable (b : List Int) (hb : ∀ y ∈ b, 0 ≤ y ∧ y ≤ 255) (hbl : b.length ≤ 4611686018427387904) (s sh m : Int) (gs : List Int)
include hb hbl
theorem get_l2 (out : List (List Sec)) (g : List Sec) (hg : g.length ≤ 1000) (left : Int) (hl0 : 0 ≤ left) (hl : left ≤ 40) (io ii book : Int) (hk0 : 0 ≤ book) (hk1 : book ≤ 11 ∨ book = 13) (K0 : Nat) (R : Int → Int → List (List Sec) × Int × Int)
    (h1 : ∀ k, K0 < k → ∀ len q, 1 ≤ len → len ≤ left → sect_Get.l1 k b out q (sizeS s : Int) (mostS s) (g ++ [⟨book, len⟩]) (left - len) io ii s sh m gs = some (R len q)) :
    ∀ (f k : Nat) (p acc : Int), 0 ≤ acc → acc ≤ left → 41 - acc ≤ (f : Int) → K0 + f + 50 < k →
    sect_Get.l2 k b out p (sizeS s : Int) (mostS s) g left (mostS s) io ii s sh m gs book acc = some (cont (lenS b (sizeS s : Int) (mostS s) left f p acc) R) := by
  intro f
  obtain ⟨hsm, hm7, hm31, hs5, hs3⟩ := size_most s
  induction f with
  | zero => intro k p acc h0 h2 hf; omega
  | succ f ih =>
    intro k p acc h0 h2 hf hk
    obtain ⟨k, rfl⟩ : ∃ m, k = m + 2 := ⟨k - 2, by omega⟩
    have hn := getS_bounds hb p (sizeS s)
    rw [sect_Get.l2, if_pos rfl, get_f b hb hbl p (sizeS s : Int) (k + 1) (by omega)]
    simp only [Option.bind_some, lenS]
    by_cases he : (getS b p (sizeS s : Int)).2.2 = 0
    · rw [if_pos he, if_pos he]
      have hnm : (getS b p (sizeS s : Int)).1 ≤ mostS s := by omega
      rw [wrap_id _ (by omega) (by omega)]
      by_cases hgt : acc + (getS b p (sizeS s : Int)).1 > left
      · rw [if_pos hgt, if_pos hgt, cont_8]
      · rw [if_neg hgt, if_neg hgt]
        by_cases hm : (getS b p (sizeS s : Int)).1 = mostS s
        · rw [if_pos hm, hm]
          exact ih (k + 1) _ _ (by omega) (by omega) (by omega) (by omega)
        · rw [if_neg hm, sect_Get.l2, if_neg hm]
          have hr := right_f (⟨book, acc + (getS b p (sizeS s : Int)).1⟩ : Sec) left
          simp only at hr
          rw [hr]
          simp only [Option.bind_some]
          by_cases hz : acc + (getS b p (sizeS s : Int)).1 = 0
          · rw [if_pos hz, cont_8]
            have : secRight (⟨book, acc + (getS b p (sizeS s : Int)).1⟩ : Sec) left = false := by
              unfold secRight
              rw [hz]
              rfl
            rw [this]
            rfl
          · rw [if_neg hz]
            have : secRight (⟨book, acc + (getS b p (sizeS s : Int)).1⟩ : Sec) left = true := by
              unfold secRight
              simp only [Bool.and_eq_true, Bool.or_eq_true, decide_eq_true_eq, beq_iff_eq]
              omega
            rw [this, if_pos rfl, if_pos (by omega), wrap_id _ (by omega) (by omega), h1 k (by omega) _ _ (by omega) (by omega), cont_ok]
    · rw [if_neg he, if_neg he, cont_bad he]
theorem get_l1 (out : List (List Sec)) (hout : out.length ≤ 100000) (io ii : Int) (K0 : Nat) (R : List Sec → Int → List (List Sec) × Int × Int)
    (h0 : ∀ k, K0 < k → ∀ g q, sect_Get.l0 k b (out ++ [g]) q (sizeS s : Int) (mostS s) io (wrap64 (ii + 1)) s sh m gs = some (R g q)) :
    ∀ (f k : Nat) (left p : Int) (g : List Sec), 0 ≤ left → left ≤ 40 → left < (f : Int) → g.length + left ≤ 900 → K0 + 120 * f + 50 < k →
    sect_Get.l1 k b out p (sizeS s : Int) (mostS s) g left io ii s sh m gs = some (cont (grpS b (sizeS s : Int) (mostS s) f left p g) R) := by
  intro f
  induction f with
  | zero => intro k left p g hl0 hl hf; omega
  | succ f ih =>
    intro k left p g hl0 hl hf hg hk
    obtain ⟨k, rfl⟩ : ∃ m, k = m + 2 := ⟨k - 2, by omega⟩
    rw [sect_Get.l1]
    by_cases hp : left > 0
    · have hn := getS_bounds hb p 4
      rw [show (((4 : Nat) : Int)) = 4 from rfl] at hn
      rw [if_pos hp, get_f b hb hbl p 4 (k + 1) (by omega)]
      simp only [Option.bind_some, grpS]
      rw [if_pos hp]
      by_cases he : (getS b p 4).2.2 = 0
      · rw [if_pos he, if_pos he]
        have hn16 : (getS b p 4).1 < 16 := by have := hn.2.1; omega
        by_cases h11 : (getS b p 4).1 > 11
        · rw [if_pos h11, sect_Get.j2]
          by_cases h13 : (getS b p 4).1 = 13
          · rw [if_neg (by rw [h13]; simp), if_neg (by rw [h13]; simp)]
            have := get_l2 b hb hbl s sh m gs out g (by omega) left hl0 hl io ii (getS b p 4).1 hn.1 (Or.inr h13) (K0 + 120 * f + 50)
              (fun len q => cont (grpS b (sizeS s : Int) (mostS s) f (left - len) q (g ++ [⟨(getS b p 4).1, len⟩])) R)
              (fun k' hk' len q hlen hle => ih k' (left - len) q _ (by omega) (by omega) (by omega) (by rw [List.length_append, List.length_singleton]; omega) hk') 50 k (getS b p 4).2.1 0 (by omega) (by omega) (by omega) (by omega)
            rw [this]
            exact congrArg some (cont_cont _ _ _)
          · rw [if_pos (by rw [bne_iff_ne]; exact h13), if_pos ⟨h11, h13⟩, cont_8]
        · rw [if_neg h11, sect_Get.j2, if_neg (by simp), if_neg (fun h => h11 h.1)]
          have := get_l2 b hb hbl s sh m gs out g (by omega) left hl0 hl io ii (getS b p 4).1 hn.1 (Or.inl (by omega)) (K0 + 120 * f + 50)
            (fun len q => cont (grpS b (sizeS s : Int) (mostS s) f (left - len) q (g ++ [⟨(getS b p 4).1, len⟩])) R)
            (fun k' hk' len q hlen hle => ih k' (left - len) q _ (by omega) (by omega) (by omega) (by rw [List.length_append, List.length_singleton]; omega) hk') 50 k (getS b p 4).2.1 0 (by omega) (by omega) (by omega) (by omega)
          rw [this]
          exact congrArg some (cont_cont _ _ _)
      · rw [if_neg he, if_neg he, cont_bad he]
    · rw [if_neg hp, if_pos (by omega), h0 (k + 1) (by omega)]
      simp only [grpS]
      rw [if_neg hp, cont_ok]
theorem get_l0 (hm0 : 0 ≤ m) (hm : m ≤ 40) (ng : Nat) (hng : ng ≤ 1000) : ∀ (d k i : Nat) (p : Int) (out : List (List Sec)), ng - i = d → i ≤ ng → out.length = i → 7000 * d + 10 < k →
    sect_Get.l0 k b out p (sizeS s : Int) (mostS s) (ng : Int) (i : Int) s sh m gs = some (readS b (sizeS s : Int) (mostS s) m d p out) := by
  intro d
  induction d with
  | zero =>
    intro k i p out hd hi ho hk
    obtain ⟨k, rfl⟩ : ∃ m, k = m + 1 := ⟨k - 1, by omega⟩
    rw [sect_Get.l0, if_neg (by omega)]
    rfl
  | succ d ih =>
    intro k i p out hd hi ho hk
    obtain ⟨k, rfl⟩ : ∃ m, k = m + 1 := ⟨k - 1, by omega⟩
    rw [sect_Get.l0, if_pos (by omega)]
    have := get_l1 b hb hbl s sh m gs out (by omega) (ng : Int) (i : Int) (7000 * d + 10) (fun g q => readS b (sizeS s : Int) (mostS s) m d q (out ++ [g]))
      (fun k' hk' g q => by rw [wrap_succ i (by omega)]; exact ih k' (i + 1) q _ (by omega) (by omega) (by rw [List.length_append, List.length_singleton]; omega) hk') 50 k m p [] hm0 hm (by omega) (by simp; omega) (by omega)
    rw [this]
    simp only [readS]
theorem getSect_f (p : Int) (hgs : gs.length ≤ 1000) (k : Nat) (hk : 57000 + gs.length < k) : sect_Get.f k b p s sh m gs = some (getSect b p s sh m gs) := by
  unfold sect_Get.f getSect
  rw [SP.windows_f s sh m gs (by omega) k (by omega)]
  unfold SP.windowsS
  by_cases h : SP.someS s sh m gs = true
  · obtain ⟨_, _, hm0, hm, _⟩ := someS_max h
    obtain ⟨_, _, h8, _⟩ := SP.someS_all h
    rw [if_pos h, if_pos h]
    simp only [Option.bind_some, if_true]
    rw [get_f b hb hbl p 0 k (by omega)]
    simp only [Option.bind_some]
    by_cases he : (getS b p 0).2.2 = 0
    · rw [if_pos he, if_pos he, field_f]
      simp only [Option.bind_some]
      have := get_l0 b hb hbl s sh m gs hm0 hm gs.length (by omega) gs.length k 0 (getS b p 0).2.1 [] (by omega) (by omega) rfl (by omega)
      exact this
    · rw [if_neg he, if_neg he]
  · rw [if_neg h, if_neg h]
    simp only [Option.bind_some]
    rfl
end
/-! ### two equal lists are the same -/
theorem same_refl (l : List (List Sec)) (N : Nat) (hN : ∀ g ∈ l, g.length ≤ N) (hN2 : N ≤ 1000000) (hl : l.length ≤ 1000000) (k : Nat) (hk : (N + 3) * l.length + 3 < k) : reedpiperef18_SameSections.f k l l = some true := by
  unfold reedpiperef18_SameSections.f
  rw [if_pos rfl]
  have l1 : ∀ (i : Nat) (hi : i < l.length) (K0 : Nat), (∀ k, K0 < k → reedpiperef18_SameSections.l0 k l l (wrap64 ((i : Int) + 1)) = some true) → ∀ (d k j : Nat), l[i].length - j = d → j ≤ l[i].length → K0 + d + 1 < k → reedpiperef18_SameSections.l1 k l l (i : Int) (j : Int) = some true := by
    intro i hi K0 h0 d
    have hgl := hN _ (List.getElem_mem hi)
    induction d with
    | zero =>
      intro k j hd hj hk
      obtain ⟨k, rfl⟩ : ∃ m, k = m + 1 := ⟨k - 1, by omega⟩
      rw [reedpiperef18_SameSections.l1, L_mem l i hi, if_pos (by omega), if_pos (by omega), if_neg (by omega)]
      exact h0 k (by omega)
    | succ d ih =>
      intro k j hd hj hk
      obtain ⟨k, rfl⟩ : ∃ m, k = m + 1 := ⟨k - 1, by omega⟩
      rw [reedpiperef18_SameSections.l1, L_mem l i hi, if_pos (by omega), if_pos (by omega), if_pos (by omega), if_pos (by omega), if_pos (by omega), if_pos (by omega), if_neg (by simp), wrap_succ j (by omega)]
      exact ih k (j + 1) (by omega) (by omega) (by omega)
  have l0 : ∀ (d k i : Nat), l.length - i = d → i ≤ l.length → (N + 3) * d + 1 < k → reedpiperef18_SameSections.l0 k l l (i : Int) = some true := by
    intro d
    induction d with
    | zero =>
      intro k i hd hi hk
      obtain ⟨k, rfl⟩ : ∃ m, k = m + 1 := ⟨k - 1, by omega⟩
      rw [reedpiperef18_SameSections.l0, if_neg (by omega)]
    | succ d ih =>
      intro k i hd hi hk
      obtain ⟨k, rfl⟩ : ∃ m, k = m + 1 := ⟨k - 1, by omega⟩
      have hgl := hN _ (List.getElem_mem (show i < l.length by omega))
      have he : (N + 3) * (d + 1) = (N + 3) * d + (N + 3) := Nat.mul_succ _ _
      rw [reedpiperef18_SameSections.l0, if_pos (by omega), if_pos (by omega), if_pos (by omega), if_pos rfl]
      have := l1 i (by omega) ((N + 3) * d + 1) (fun k' hk' => by rw [wrap_succ i (by omega)]; exact ih k' (i + 1) (by omega) (by omega) hk') _ k 0 rfl (by omega) (by omega)
      exact this
  exact l0 l.length k 0 (by omega) (by omega) (by omega)
end Go.Proofs.Ytjdlochffpikbaa.SS
end
section
/- Sections are got as they were put, and put as these bits when got: in plain words. -/
namespace Go.Proofs.Ytjdlochffpikbaa.SS
open Go.RowKit Go.Proofs.YtjdlochffpikbaaW.PrintWords Go.Proofs.YtjdlochffpikbaaW.PrintLast Go.Proofs.YtjdlochffpikbaaW.PrintMore Go.Proofs.Ytjdlochffpikbaa.HA Go.Proofs.Ytjdlochffpikbaa.HP Go.Proofs.Ytjdlochffpikbaa.HG Go.Proofs.Ytjdlochffpikbaa.K Go.Proofs.Ytjdlochffpikbaa.SG
set_option linter.unusedVariables false

theorem fields_step {n most : Int} (h1 : 1 ≤ most) (h : most ≤ n) : fieldsOf n most = most :: fieldsOf (n - most) most := by
  unfold fieldsOf
  have e1 : (n - most) / most = n / most - 1 := by
    have := Int.add_mul_ediv_right n (-1) (show most ≠ 0 by omega)
    rw [show n - most = n + (-1) * most by omega, this]
    omega
  have e2 : (n - most) % most = n % most := by
    have := Int.sub_emod_right n most
    exact this
  have h3 : 1 ≤ n / most := (Int.le_ediv_iff_mul_le (by omega)).2 (by omega)
  rw [e1, e2, show (n / most).toNat = (n / most - 1).toNat + 1 by omega, List.replicate_succ]
  rfl
theorem fields_base {n most : Int} (h0 : 0 ≤ n) (h : n < most) : fieldsOf n most = [n] := by
  unfold fieldsOf
  rw [Int.ediv_eq_zero_of_lt h0 h, Int.emod_eq_of_lt h0 h]
  rfl
section
variable (s : Int)
theorem getS_at {X pre post : List Int} {n : Int} {z : Nat} {p : Int} (hx : X = pre ++ bitsOf n z ++ post) (hp : p = (pre.length : Int)) (hz : z ≤ 31) (h0 : 0 ≤ n) (h1 : n < 2 ^ z) : getS X p (z : Int) = (n, p + (z : Int), 0) := by
  subst hx
  subst hp
  rw [getS_put pre post n z hz h0 h1, Int.natCast_add]
theorem len_put (post : List Int) (left : Int) : ∀ (f : Nat) (n acc p : Int) (X pre : List Int), X = pre ++ lenBits s n ++ post → p = (pre.length : Int) → 0 ≤ n → 0 ≤ acc → acc + n ≤ left → 1 ≤ acc + n → n < (f : Int) →
    lenS X (sizeS s : Int) (mostS s) left f p acc = (acc + n, p + ((lenBits s n).length : Int), 0) := by
  intro f
  obtain ⟨hsm, hm7, hm31, hs5, hs3⟩ := size_most s
  induction f with
  | zero => intro n acc p X pre hx hp h0 ha hl h1 hf; omega
  | succ f ih =>
    intro n acc p X pre hx hp h0 ha hl h1 hf
    unfold lenS
    by_cases hge : mostS s ≤ n
    · have e : lenBits s n = bitsOf (mostS s) (sizeS s) ++ lenBits s (n - mostS s) := by
        unfold lenBits
        rw [fields_step (by omega) hge]
        rfl
      rw [e] at hx ⊢
      have hg := getS_at (X := X) (pre := pre) (n := mostS s) (p := p) (z := sizeS s) (post := lenBits s (n - mostS s) ++ post) (by rw [hx]; simp only [List.append_assoc]) hp (by omega) (by omega) (by omega)
      rw [hg]
      simp only
      rw [if_pos trivial, if_neg (by omega), if_pos trivial, ih (n - mostS s) (acc + mostS s) _ X (pre ++ bitsOf (mostS s) (sizeS s)) (by rw [hx]; simp only [List.append_assoc]) (by rw [List.length_append, bitsOf_length, hp]; omega) (by omega) (by omega) (by omega) (by omega) (by omega)]
      rw [List.length_append, bitsOf_length]
      simp only [Prod.mk.injEq, and_true]
      omega
    · have e : lenBits s n = bitsOf n (sizeS s) := by
        unfold lenBits
        rw [fields_base h0 (by omega)]
        simp
      rw [e] at hx ⊢
      have hg := getS_at (X := X) (pre := pre) (z := sizeS s) hx hp (by omega) h0 (by omega)
      rw [hg]
      simp only
      rw [if_pos trivial, if_neg (by omega), if_neg (by omega), if_neg (by omega), bitsOf_length]
theorem grp_put (post : List Int) : ∀ (g : List Sec) (f : Nat) (left p : Int) (acc : List Sec) (X pre : List Int), X = pre ++ grpBits s g ++ post → p = (pre.length : Int) → grpOk left g = true → left < (f : Int) → left ≤ 40 →
    grpS X (sizeS s : Int) (mostS s) f left p acc = (acc ++ g, p + ((grpBits s g).length : Int), 0) := by
  intro g
  induction g with
  | nil =>
    intro f left p acc X pre hx hp hok hf hl
    obtain rfl : left = 0 := by simpa [grpOk] using hok
    obtain ⟨f, rfl⟩ : ∃ m, f = m + 1 := ⟨f - 1, by omega⟩
    simp [grpS, grpBits]
  | cons x g ih =>
    intro f left p acc X pre hx hp hok hf hl
    simp only [grpOk, Bool.and_eq_true] at hok
    obtain ⟨hr, hok⟩ := hok
    obtain ⟨h1, h2, h3, h4⟩ := secRight_le hr
    have hbk : x.f0 ≤ 11 ∨ x.f0 = 13 := by
      unfold secRight at hr
      simp only [Bool.and_eq_true, Bool.or_eq_true, decide_eq_true_eq, beq_iff_eq] at hr
      exact hr.2
    obtain ⟨f, rfl⟩ : ∃ m, f = m + 1 := ⟨f - 1, by omega⟩
    have e : grpBits s (x :: g) = bitsOf x.f0 4 ++ lenBits s x.f1 ++ grpBits s g := by
      unfold grpBits
      rw [List.flatMap_cons]
      rfl
    rw [e] at hx ⊢
    have hg := getS_at (X := X) (pre := pre) (z := 4) (n := x.f0) (p := p) (post := lenBits s x.f1 ++ grpBits s g ++ post) (by rw [hx]; simp only [List.append_assoc]) hp (by omega) h3 (by omega)
    have hlen := len_put s (grpBits s g ++ post) left 50 x.f1 0 (p + 4) X (pre ++ bitsOf x.f0 4) (by rw [hx]; simp only [List.append_assoc]) (by rw [List.length_append, bitsOf_length, hp]; omega) (by omega) (by omega) (by omega) (by omega) (by omega)
    rw [show (((4 : Nat) : Int)) = 4 from rfl] at hg
    unfold grpS
    rw [if_pos (by omega), hg]
    simp only
    rw [if_pos trivial, if_neg (by omega), hlen, cont_ok, Int.zero_add, ih f (left - x.f1) _ _ X (pre ++ bitsOf x.f0 4 ++ lenBits s x.f1) (by rw [hx]; simp only [List.append_assoc]) (by rw [List.length_append, List.length_append, bitsOf_length, hp]; omega) hok (by omega) (by omega)]
    simp only [List.length_append, bitsOf_length, List.append_assoc, Prod.mk.injEq, and_true]
    exact ⟨rfl, by omega⟩
theorem read_put (post : List Int) (m : Int) (hm : m ≤ 40) : ∀ (l : List (List Sec)) (p : Int) (out : List (List Sec)) (X pre : List Int), X = pre ++ secsBits s l ++ post → p = (pre.length : Int) → (∀ g ∈ l, grpOk m g = true) →
    readS X (sizeS s : Int) (mostS s) m l.length p out = (out ++ l, p + ((secsBits s l).length : Int), 0) := by
  intro l
  induction l with
  | nil => intro p out X pre hx hp h; simp [readS, secsBits]
  | cons g l ih =>
    intro p out X pre hx hp h
    have e : secsBits s (g :: l) = grpBits s g ++ secsBits s l := by
      unfold secsBits
      rw [List.flatMap_cons]
    rw [e] at hx ⊢
    have hg := grp_put s (secsBits s l ++ post) g 50 m p [] X pre (by rw [hx]; simp only [List.append_assoc]) hp (h g List.mem_cons_self) (by omega) hm
    rw [List.length_cons, readS, hg, cont_ok, ih _ _ X (pre ++ grpBits s g) (by rw [hx]; simp only [List.append_assoc]) (by rw [List.length_append, hp]; omega) (fun x hx => h x (List.mem_cons_of_mem _ hx))]
    simp only [List.nil_append, List.length_append, List.append_assoc, Prod.mk.injEq, and_true]
    exact ⟨rfl, by omega⟩
end
theorem get_put {s sh m : Int} {gs : List Int} {l : List (List Sec)} (h : secsOk s sh m gs l = true) (post : List Int) : getSect (secsBits s l ++ post) 0 s sh m gs = (l, ((secsBits s l).length : Int), 0) := by
  obtain ⟨h1, h2, h3, h4⟩ := secsOk_ok h
  obtain ⟨_, _, hm0, hm, _⟩ := someS_max h1
  unfold getSect
  have hg : getS (secsBits s l ++ post) 0 0 = (0, 0, 0) := by
    unfold getS
    rw [if_neg (by simp only [List.length_append]; omega), if_neg (by simp only [List.length_append]; omega), if_pos (by rfl)]
    rfl
  rw [if_pos h1, hg]
  simp only
  rw [if_pos trivial, ← h2, read_put s post m hm l 0 [] (secsBits s l ++ post) [] rfl rfl h4]
  simp
/-! ### back -/
section
variable {b : List Int} (hb : ∀ y ∈ b, 0 ≤ y ∧ y ≤ 255) (s : Int)
include hb
theorem len_back (left : Int) : ∀ (f : Nat) (p acc len q : Int), 0 ≤ acc → lenS b (sizeS s : Int) (mostS s) left f p acc = (len, q, 0) → 0 ≤ p ∧ p ≤ q ∧ q ≤ b.length ∧ acc ≤ len ∧ (b.drop p.toNat).take (q - p).toNat = lenBits s (len - acc) := by
  intro f
  obtain ⟨hsm, hm7, hm31, hs5, hs3⟩ := size_most s
  induction f with
  | zero => intro p acc len q h0 h; simp [lenS] at h
  | succ f ih =>
    intro p acc len q h0 h
    unfold lenS at h
    obtain ⟨n, q1, e1, hg⟩ : ∃ n q e, getS b p (sizeS s : Int) = (n, q, e) := ⟨_, _, _, rfl⟩
    rw [hg] at h
    simp only at h
    split at h
    · next he =>
      subst he
      obtain ⟨g1, g2, g3, g4, g5, g6, g7, g8⟩ := getS_ok hb hg
      rw [Int.toNat_natCast] at g7 g8
      split at h
      · simp at h
      · split at h
        · next hm =>
          subst hm
          obtain ⟨i1, i2, i3, i4, i5⟩ := ih q1 (acc + mostS s) len q (by omega) h
          refine ⟨g1, by omega, i3, by omega, ?_⟩
          have e : lenBits s (len - acc) = bitsOf (mostS s) (sizeS s) ++ lenBits s (len - (acc + mostS s)) := by
            unfold lenBits
            rw [fields_step (by omega) (by omega), show len - acc - mostS s = len - (acc + mostS s) by omega]
            rfl
          rw [e, show (q - p).toNat = sizeS s + (q - q1).toNat by omega, List.take_add, List.drop_drop, g8, show p.toNat + sizeS s = q1.toNat by omega, i5]
        · split at h
          · simp at h
          · simp only [Prod.mk.injEq, and_true] at h
            obtain ⟨rfl, rfl⟩ := h
            refine ⟨g1, by omega, g5, by omega, ?_⟩
            have e : lenBits s (acc + n - acc) = bitsOf n (sizeS s) := by
              unfold lenBits
              rw [show acc + n - acc = n by omega, fields_base g6 (by omega)]
              simp
            rw [e, show (q1 - p).toNat = sizeS s by omega, g8]
    · next he =>
      simp only [Prod.mk.injEq] at h
      exact absurd h.2.2 he
theorem grp_back : ∀ (f : Nat) (left p : Int) (acc g' : List Sec) (q : Int), 0 ≤ left → 0 ≤ p → p ≤ b.length → grpS b (sizeS s : Int) (mostS s) f left p acc = (g', q, 0) → ∃ g, g' = acc ++ g ∧ grpOk left g = true ∧ p ≤ q ∧ q ≤ b.length ∧ (b.drop p.toNat).take (q - p).toNat = grpBits s g := by
  intro f
  induction f with
  | zero => intro left p acc g' q h0 hp0 hp1 h; simp [grpS] at h
  | succ f ih =>
    intro left p acc g' q h0 hp0 hp1 h
    unfold grpS at h
    split at h
    · next hl =>
      obtain ⟨n, q1, e1, hg⟩ : ∃ n q e, getS b p 4 = (n, q, e) := ⟨_, _, _, rfl⟩
      rw [hg] at h
      simp only at h
      split at h
      · next he =>
        subst he
        obtain ⟨g1, g2, g3, g4, g5, g6, g7, g8⟩ := getS_ok hb hg
        split at h
        · simp at h
        · next hbk =>
          obtain ⟨len, q2, e2, hlen⟩ : ∃ n q e, lenS b (sizeS s : Int) (mostS s) left 50 q1 0 = (n, q, e) := ⟨_, _, _, rfl⟩
          rw [hlen] at h
          by_cases he2 : e2 = 0
          · subst he2
            rw [cont_ok] at h
            obtain ⟨a1, a2, a3⟩ := lenS_ok hb 50 q1 0 len q2 (by omega) hlen
            obtain ⟨b1, b2, b3, b4, b5⟩ := len_back hb s left 50 q1 0 len q2 (by omega) hlen
            obtain ⟨g, hgg, hok, c1, c2, c3⟩ := ih (left - len) q2 _ g' q (by omega) (by omega) b3 h
            refine ⟨⟨n, len⟩ :: g, by rw [hgg]; simp, ?_, by omega, c2, ?_⟩
            · have h7 : n < 16 := by simpa using g7
              simp only [grpOk, Bool.and_eq_true]
              refine ⟨?_, hok⟩
              unfold secRight
              simp only [Bool.and_eq_true, Bool.or_eq_true, decide_eq_true_eq, beq_iff_eq]
              omega
            · have e : grpBits s (⟨n, len⟩ :: g) = bitsOf n 4 ++ lenBits s len ++ grpBits s g := by
                unfold grpBits
                rw [List.flatMap_cons]
                rfl
              have g8' : (b.drop p.toNat).take 4 = bitsOf n 4 := g8
              rw [e, show (q - p).toNat = 4 + ((q2 - q1).toNat + (q - q2).toNat) by omega, List.take_add, List.drop_drop, g8', List.take_add, List.drop_drop, show p.toNat + 4 = q1.toNat by omega, b5, show q1.toNat + (q2 - q1).toNat = q2.toNat by omega, c3, Int.sub_zero, List.append_assoc]
          · rw [cont_bad he2] at h
            simp only [Prod.mk.injEq] at h
            exact absurd h.2.2 he2
      · next he =>
        simp only [Prod.mk.injEq] at h
        exact absurd h.2.2 he
    · next hl =>
      simp only [Prod.mk.injEq, and_true] at h
      obtain ⟨rfl, rfl⟩ := h
      obtain rfl : left = 0 := by omega
      exact ⟨[], by simp, rfl, Int.le_refl _, hp1, by simp [grpBits]⟩
theorem read_back (m : Int) (hm : 0 ≤ m) : ∀ (n : Nat) (p : Int) (out l' : List (List Sec)) (q : Int), 0 ≤ p → p ≤ b.length → readS b (sizeS s : Int) (mostS s) m n p out = (l', q, 0) → ∃ l, l' = out ++ l ∧ l.length = n ∧ (∀ g ∈ l, grpOk m g = true) ∧ p ≤ q ∧ q ≤ b.length ∧ (b.drop p.toNat).take (q - p).toNat = secsBits s l := by
  intro n
  induction n with
  | zero =>
    intro p out l' q hp0 hp1 h
    simp only [readS, Prod.mk.injEq, and_true] at h
    obtain ⟨rfl, rfl⟩ := h
    exact ⟨[], by simp, rfl, by simp, Int.le_refl _, hp1, by simp [secsBits]⟩
  | succ n ih =>
    intro p out l' q hp0 hp1 h
    unfold readS at h
    obtain ⟨g', q1, e1, hg⟩ : ∃ n q e, grpS b (sizeS s : Int) (mostS s) 50 m p [] = (n, q, e) := ⟨_, _, _, rfl⟩
    rw [hg] at h
    by_cases he : e1 = 0
    · subst he
      rw [cont_ok] at h
      obtain ⟨g, hgg, hok, c1, c2, c3⟩ := grp_back hb s 50 m p [] g' q1 hm hp0 hp1 hg
      obtain ⟨l, hl, hn, hall, d1, d2, d3⟩ := ih q1 _ l' q (by omega) c2 h
      rw [List.nil_append] at hgg
      subst hgg
      refine ⟨g' :: l, by rw [hl]; simp, by simp [hn], fun x hx => ?_, by omega, d2, ?_⟩
      · rcases List.mem_cons.1 hx with rfl | hx
        · exact hok
        · exact hall x hx
      · have e : secsBits s (g' :: l) = grpBits s g' ++ secsBits s l := by
          unfold secsBits
          rw [List.flatMap_cons]
        rw [e, show (q - p).toNat = (q1 - p).toNat + (q - q1).toNat by omega, List.take_add, List.drop_drop, c3, show p.toNat + (q1 - p).toNat = q1.toNat by omega, d3]
    · rw [cont_bad he] at h
      simp only [Prod.mk.injEq] at h
      exact absurd h.2.2 he
theorem put_got {sh m p q : Int} {gs : List Int} {l : List (List Sec)} (h : getSect b p s sh m gs = (l, q, 0)) : 0 ≤ p ∧ p ≤ q ∧ q ≤ b.length ∧ secsOk s sh m gs l = true ∧ (b.take q.toNat).drop p.toNat = secsBits s l := by
  unfold getSect at h
  split at h
  · next h1 =>
    obtain ⟨_, _, hm0, hm, _⟩ := someS_max h1
    obtain ⟨n, q1, e1, hg⟩ : ∃ n q e, getS b p 0 = (n, q, e) := ⟨_, _, _, rfl⟩
    rw [hg] at h
    simp only at h
    split at h
    · next he =>
      subst he
      obtain ⟨g1, g2, g3, g4, g5, g6, g7, g8⟩ := getS_ok hb hg
      obtain ⟨l', hl, hn, hall, d1, d2, d3⟩ := read_back hb s m hm0 gs.length q1 [] l q (by omega) g5 h
      rw [List.nil_append] at hl
      subst hl
      obtain rfl : q1 = p := by omega
      refine ⟨g1, d1, d2, ?_, ?_⟩
      · unfold secsOk
        rw [h1, hn]
        simp only [decide_true, Bool.and_self, Bool.true_and]
        exact List.all_eq_true.2 hall
      · rw [List.drop_take, show q.toNat - q1.toNat = (q - q1).toNat by omega, d3]
    · next he =>
      simp only [Prod.mk.injEq] at h
      exact absurd h.2.2 he
  · simp at h
end
theorem grpS_bad {b : List Int} {size most : Int} : ∀ (f : Nat) (left p : Int) (acc g : List Sec) (q e : Int), grpS b size most f left p acc = (g, q, e) → e ≠ 0 → g = [] ∧ q = 0
  | 0, left, p, acc, g, q, e, h, he => by simp only [grpS, Prod.mk.injEq] at h; exact ⟨h.1.symm, h.2.1.symm⟩
  | f + 1, left, p, acc, g, q, e, h, he => by
    unfold grpS at h
    split at h
    · split at h
      · split at h
        · simp only [Prod.mk.injEq] at h; exact ⟨h.1.symm, h.2.1.symm⟩
        · obtain ⟨len, q2, e2, hlen⟩ : ∃ n q e, lenS b size most left 50 (getS b p 4).2.1 0 = (n, q, e) := ⟨_, _, _, rfl⟩
          rw [hlen] at h
          by_cases he2 : e2 = 0
          · subst he2
            rw [cont_ok] at h
            exact grpS_bad f _ _ _ g q e h he
          · rw [cont_bad he2] at h
            simp only [Prod.mk.injEq] at h; exact ⟨h.1.symm, h.2.1.symm⟩
      · simp only [Prod.mk.injEq] at h; exact ⟨h.1.symm, h.2.1.symm⟩
    · simp only [Prod.mk.injEq] at h
      exact absurd h.2.2.symm he
theorem readS_bad {b : List Int} {size most m : Int} : ∀ (n : Nat) (p : Int) (out l : List (List Sec)) (q e : Int), readS b size most m n p out = (l, q, e) → e ≠ 0 → l = [] ∧ q = 0
  | 0, p, out, l, q, e, h, he => by simp only [readS, Prod.mk.injEq] at h; exact absurd h.2.2.symm he
  | n + 1, p, out, l, q, e, h, he => by
    unfold readS at h
    obtain ⟨g', q1, e1, hg⟩ : ∃ n q e, grpS b size most 50 m p [] = (n, q, e) := ⟨_, _, _, rfl⟩
    rw [hg] at h
    by_cases he1 : e1 = 0
    · subst he1
      rw [cont_ok] at h
      exact readS_bad n _ _ l q e h he
    · rw [cont_bad he1] at h
      simp only [Prod.mk.injEq] at h; exact ⟨h.1.symm, h.2.1.symm⟩
theorem get_bad {b : List Int} {p s sh m : Int} {gs : List Int} {l : List (List Sec)} {q e : Int} (h : getSect b p s sh m gs = (l, q, e)) (he : e ≠ 0) : l = [] ∧ q = 0 := by
  unfold getSect at h
  split at h
  · split at h
    · exact readS_bad _ _ _ _ _ _ h he
    · simp only [Prod.mk.injEq] at h; exact ⟨h.1.symm, h.2.1.symm⟩
  · simp only [Prod.mk.injEq] at h; exact ⟨h.1.symm, h.2.1.symm⟩
end Go.Proofs.Ytjdlochffpikbaa.SS
end
section
/- What the reference's printed functions of the windows' measures tell, without rounds (as in SPB, for a seat with fewer functions). -/
namespace Go.Proofs.Ytjdlochffpikbaa.SP
open Go.RowKit Go.Proofs.YtjdlochffpikbaaW.PrintWords Go.Proofs.YtjdlochffpikbaaW.PrintLast Go.Proofs.YtjdlochffpikbaaW.PrintMore Go.Proofs.Ytjdlochffpikbaa.HA Go.Proofs.Ytjdlochffpikbaa.HP Go.Proofs.Ytjdlochffpikbaa.K
set_option linter.unusedVariables false

theorem refOffsets_few : ∀ r : Fin 12, ∀ s : Bool, reedpiperef06_Offsets.f 70 (r.val : Int) s = some (bandOffsets (r.val : Int) s) := by decide +kernel
theorem refOffsets_f (rate : Int) (s : Bool) (h0 : 0 ≤ rate) (h1 : rate ≤ 11) (k : Nat) (hk : 70 ≤ k) : reedpiperef06_Offsets.f k rate s = some (bandOffsets rate s) := by
  have h := refOffsets_few ⟨rate.toNat, by omega⟩ s
  simp only [Int.toNat_of_nonneg h0] at h
  exact at_rounds (g := fun k => reedpiperef06_Offsets.f k rate s) (reedpiperef06_Offsets.mono rate s) hk h
theorem refMany_f (rate : Int) (s : Bool) (k : Nat) (hk : 70 ≤ k) : reedpiperef06_Many.f k rate s = some (manyS rate s) := by
  unfold reedpiperef06_Many.f reedpiperef06_Told.f manyS
  by_cases h : rate < 0
  · rw [if_pos h, if_pos (Or.inl h)]
    rfl
  · rw [if_neg h]
    by_cases h2 : rate > 11
    · rw [if_pos h2, if_pos (Or.inr h2)]
      rfl
    · rw [if_neg h2, if_neg (by omega), refOffsets_f rate s (by omega) (by omega) k hk]
      have hl := bandOffsets_length rate s
      simp only [Option.bind_some, if_true]
      rw [wrap_id _ (by omega) (by omega)]
      rfl
theorem may_l0 (gs : List Int) (hb : gs.length ≤ 17592186044416) (a b c : Int) : ∀ (d k i : Nat) (left : Int), gs.length - i = d → i ≤ gs.length → d < k → 0 ≤ left → left ≤ 8 →
    reedpiperef10_May.l0 k left (i : Int) a b c gs = some ((gs.drop i).all (fun g => decide (1 ≤ g) && decide (g ≤ 8)) && ((gs.drop i).sum == left)) := by
  intro d
  induction d with
  | zero =>
    intro k i left hd hi hk h0 h1
    obtain ⟨k, rfl⟩ : ∃ m, k = m + 1 := ⟨k - 1, by omega⟩
    simp only [reedpiperef10_May.l0]
    rw [if_neg (by omega), List.drop_of_length_le (by omega)]
    simp only [List.all_nil, List.sum_nil, Bool.true_and]
    congr 1
    rw [Bool.eq_iff_iff, beq_iff_eq, beq_iff_eq]
    omega
  | succ d ih =>
    intro k i left hd hi hk h0 h1
    obtain ⟨k, rfl⟩ : ∃ m, k = m + 1 := ⟨k - 1, by omega⟩
    simp only [reedpiperef10_May.l0]
    rw [if_pos (by omega), if_pos (by omega), drop_at gs i (by omega)]
    simp only [List.all_cons, List.sum_cons]
    by_cases g1 : rd gs (i : Int) < 1
    · rw [if_pos g1, decide_eq_false (show ¬ 1 ≤ rd gs (i : Int) by omega)]
      simp
    · rw [if_neg g1, decide_eq_true (show 1 ≤ rd gs (i : Int) by omega)]
      by_cases g2 : rd gs (i : Int) > left
      · rw [if_pos g2]
        congr 1
        cases hall : (gs.drop (i + 1)).all (fun g => decide (1 ≤ g) && decide (g ≤ 8)) with
        | false => simp
        | true =>
          have := sum_ge_length _ hall
          rw [show ((rd gs (i : Int) + (gs.drop (i + 1)).sum == left) = false) from beq_eq_false_iff_ne.mpr (by omega)]
          simp
      · rw [if_neg g2, wrap_succ i (by omega), wrap_id (left - rd gs (i : Int)) (by omega) (by omega), ih k (i + 1) _ (by omega) (by omega) (by omega) (by omega) (by omega), decide_eq_true (show rd gs (i : Int) ≤ 8 by omega)]
        congr 1
        simp only [Bool.true_and]
        congr 1
        rw [Bool.eq_iff_iff, beq_iff_eq, beq_iff_eq]
        omega
theorem may_f (rate seq shape max : Int) (gs : List Int) (hb : gs.length ≤ 17592186044416) (h0 : 0 ≤ rate) (h1 : rate ≤ 11) (k : Nat) (hk : gs.length + 80 < k) : reedpiperef10_May.f k rate seq shape max gs = some (infoOk (bandMany rate (seq == 2)) seq shape max gs) := by
  unfold reedpiperef10_May.f
  rw [refMany_f rate (seq == 2) k (by omega)]
  have hm : manyS rate (seq == 2) = (bandMany rate (seq == 2), 0) := by unfold manyS; rw [if_neg (by omega)]
  rw [hm]
  obtain ⟨k, rfl⟩ : ∃ m, k = m + 1 := ⟨k - 1, by omega⟩
  simp only [Option.bind_some, reedpiperef10_May.j0]
  unfold infoOk
  by_cases h1 : seq > 3
  · rw [if_pos h1, decide_eq_false (show ¬ seq ≤ 3 by omega)]
    simp
  · rw [if_neg h1, decide_eq_true (show seq ≤ 3 by omega)]
    by_cases h2 : shape > 1
    · rw [if_pos h2, decide_eq_false (show ¬ shape ≤ 1 by omega)]
      simp
    · rw [if_neg h2, decide_eq_true (show shape ≤ 1 by omega)]
      by_cases h3 : max < 0
      · rw [if_pos h3, decide_eq_false (show ¬ 0 ≤ max by omega)]
        simp
      · rw [if_neg h3, decide_eq_true (show 0 ≤ max by omega)]
        by_cases h4 : max > bandMany rate (seq == 2)
        · rw [decide_eq_true h4, decide_eq_false (show ¬ max ≤ bandMany rate (seq == 2) by omega)]
          simp
        · rw [decide_eq_false h4, decide_eq_true (show max ≤ bandMany rate (seq == 2) by omega)]
          simp only [Bool.false_eq_true, if_false, Bool.true_and]
          by_cases hs : seq = 2
          · rw [if_pos hs, if_pos hs]
            have := may_l0 gs hb seq shape max gs.length k 0 8 (by omega) (by omega) (by omega) (by omega) (by omega)
            simpa [groupsOk] using this
          · rw [if_neg hs, if_neg hs]
            cases gs with
            | nil => simp
            | cons g gs =>
              cases gs with
              | nil => simp [rd]
              | cons g2 gs =>
                rw [if_neg (by simp; omega)]
                simp
theorem some_l0 (seq shape max : Int) (gs : List Int) (hb : gs.length ≤ 17592186044416) : ∀ (d k : Nat) (r : Int), 11 - r = (d : Int) - 1 → 0 ≤ r → gs.length + 100 + d < k →
    reedpiperef10_Some.l0 k r seq shape max gs = some (if r ≤ 11 then someS seq shape max gs else false) := by
  intro d
  induction d with
  | zero =>
    intro k r hd h0 hk
    obtain ⟨k, rfl⟩ : ∃ m, k = m + 1 := ⟨k - 1, by omega⟩
    simp only [reedpiperef10_Some.l0]
    rw [if_neg (by omega), if_neg (by omega)]
  | succ d ih =>
    intro k r hd h0 hk
    obtain ⟨k, rfl⟩ : ∃ m, k = m + 1 := ⟨k - 1, by omega⟩
    simp only [reedpiperef10_Some.l0]
    rw [if_pos (by omega), if_pos (by omega), may_f r seq shape max gs hb h0 (by omega) k (by omega)]
    simp only [Option.bind_some]
    by_cases hm : infoOk (bandMany r (seq == 2)) seq shape max gs = true
    · rw [if_pos hm, infoOk_some h0 (by omega) hm]
    · rw [if_neg hm, wrap_id (r + 1) (by omega) (by omega), ih k (r + 1) (by omega) (by omega) (by omega)]
      by_cases h11 : r + 1 ≤ 11
      · rw [if_pos h11]
      · rw [if_neg h11]
        obtain rfl : r = 11 := by omega
        unfold someS
        simp at hm
        rw [hm]
theorem refSome_f (seq shape max : Int) (gs : List Int) (hb : gs.length ≤ 17592186044416) (k : Nat) (hk : gs.length + 120 < k) : reedpiperef10_Some.f k seq shape max gs = some (someS seq shape max gs) := by
  unfold reedpiperef10_Some.f
  have := some_l0 seq shape max gs hb 12 k 0 (by omega) (by omega) (by omega)
  rw [this, if_pos (by omega)]
end Go.Proofs.Ytjdlochffpikbaa.SP
end
section
/- The reference's sections, without rounds: bits. -/
namespace Go.Proofs.Ytjdlochffpikbaa.SS
open Go.RowKit Go.Proofs.YtjdlochffpikbaaW.PrintWords Go.Proofs.YtjdlochffpikbaaW.PrintLast Go.Proofs.YtjdlochffpikbaaW.PrintMore Go.Proofs.Ytjdlochffpikbaa.HA Go.Proofs.Ytjdlochffpikbaa.HP Go.Proofs.Ytjdlochffpikbaa.HG Go.Proofs.Ytjdlochffpikbaa.K Go.Proofs.Ytjdlochffpikbaa.SG
set_option linter.unusedVariables false

theorem two_f (s : Int) (k : Nat) (hk : 40 ≤ k) : reedpiperef01_Two.f k (sizeS s : Int) = some (mostS s + 1) := by
  have h3 : reedpiperef01_Two.f 40 3 = some 8 := by decide +kernel
  have h5 : reedpiperef01_Two.f 40 5 = some 32 := by decide +kernel
  unfold sizeS mostS
  split
  · exact at_rounds (g := fun k => reedpiperef01_Two.f k 3) (reedpiperef01_Two.mono 3) hk h3
  · exact at_rounds (g := fun k => reedpiperef01_Two.f k 5) (reedpiperef01_Two.mono 5) hk h5
theorem refBits_f : ∀ (z : Nat) (n : Int) (k : Nat), z ≤ 31 → 0 ≤ n → n ≤ 9223372036854775807 → z < k → reedpiperef01_Bits.f k n (z : Int) = some (bitsOf n z) := by
  intro z
  induction z with
  | zero =>
    intro n k hz h0 h1 hk
    obtain ⟨k, rfl⟩ : ∃ m, k = m + 1 := ⟨k - 1, by omega⟩
    rw [reedpiperef01_Bits.f, if_pos (by omega)]
    rfl
  | succ z ih =>
    intro n k hz h0 h1 hk
    obtain ⟨k, rfl⟩ : ∃ m, k = m + 1 := ⟨k - 1, by omega⟩
    rw [reedpiperef01_Bits.f, if_neg (by omega), Int.tdiv_eq_ediv_of_nonneg h0, Int.tmod_eq_emod_of_nonneg h0, wrap_id (n / 2) (by omega) (by omega), show ((z + 1 : Nat) : Int) - 1 = (z : Int) by omega, wrap_id (z : Int) (by omega) (by omega), ih (n / 2) k (by omega) (by omega) (by omega) (by omega)]
    simp only [Option.bind_some]
    rw [if_pos (by rw [bitsOf_length]; omega), bitsOf_succ, show n % 2 % 256 = n % 2 by omega]
theorem lenBits_length (s n : Int) (h0 : 0 ≤ n) (h1 : n ≤ 40) : (lenBits s n).length ≤ 205 := by
  unfold lenBits
  rw [flat_len, fieldsOf_length]
  have h2 : (n / mostS s).toNat ≤ 40 := by
    have : n / mostS s ≤ n := Int.ediv_le_self _ h0
    omega
  have h3 : sizeS s ≤ 5 := by unfold sizeS; split <;> omega
  have h4 : sizeS s * ((n / mostS s).toNat + 1) ≤ 5 * 41 := Nat.mul_le_mul h3 (by omega)
  omega
theorem refLen_f (s : Int) : ∀ (f k : Nat) (n : Int), 0 ≤ n → n ≤ 40 → n < (f : Int) → 50 + f < k → reedpiperef19_lenBits.f k n (sizeS s : Int) = some (lenBits s n) := by
  intro f
  obtain ⟨hsm, hm7, hm31, hs5, hs3⟩ := size_most s
  induction f with
  | zero => intro k n h0 h40 h1; omega
  | succ f ih =>
    intro k n h0 h40 h1 hk
    obtain ⟨k, rfl⟩ : ∃ m, k = m + 1 := ⟨k - 1, by omega⟩
    rw [reedpiperef19_lenBits.f, two_f s k (by omega)]
    simp only [Option.bind_some]
    rw [show mostS s + 1 - 1 = mostS s by omega, wrap_id (mostS s) (by omega) (by omega)]
    by_cases h : n < mostS s
    · rw [if_pos h, refBits_f _ n k (by omega) h0 (by omega) (by omega)]
      simp only [Option.bind_some]
      unfold lenBits
      rw [fields_base h0 h]
      simp
    · rw [if_neg h, refBits_f _ (mostS s) k (by omega) (by omega) (by omega) (by omega), wrap_id (n - mostS s) (by omega) (by omega), ih k (n - mostS s) (by omega) (by omega) (by omega) (by omega)]
      simp only [Option.bind_some]
      have := lenBits_length s (n - mostS s) (by omega) (by omega)
      rw [if_pos (by rw [bitsOf_length]; omega)]
      unfold lenBits
      rw [fields_step (by omega) (show mostS s ≤ n by omega), List.flatMap_cons]
theorem rsize_f (s sh m : Int) (gs : List Int) : reedpiperef19_size.f s sh m gs = some (sizeS s : Int) := by
  unfold reedpiperef19_size.f sizeS
  split <;> rfl
theorem rd_mem (g : List Sec) (j : Nat) (h : j < g.length) : rd_T49 g (j : Int) ∈ g := by
  have : rd_T49 g (j : Int) ∈ g.drop j := by rw [drop_S g j h]; exact List.mem_cons_self
  exact List.mem_of_mem_drop this
theorem rbits_l1 (l : List (List Sec)) (s sh m : Int) (gs : List Int) (i : Nat) (hi : i < l.length) (hil : i ≤ 1000000) (hlen : l[i].length ≤ 1000000) (hg : ∀ x ∈ l[i], 0 ≤ x.f1 ∧ x.f1 ≤ 40 ∧ 0 ≤ x.f0 ∧ x.f0 ≤ 13) (fin : List Int) (hfin : fin.length ≤ 1000000) (K0 : Nat) (res : List Int)
    (h0 : ∀ k, K0 < k → reedpiperef19_Bits.l0 k l fin (wrap64 ((i : Int) + 1)) s sh m gs = some res) :
    ∀ (d k j : Nat) (acc : List Int), l[i].length - j = d → j ≤ l[i].length → acc ++ grpBits s (l[i].drop j) = fin → K0 + d + 200 < k → reedpiperef19_Bits.l1 k l acc (i : Int) (j : Int) s sh m gs = some res := by
  intro d
  obtain ⟨hsm, hm7, hm31, hs5, hs3⟩ := size_most s
  induction d with
  | zero =>
    intro k j acc hd hj hacc hk
    obtain ⟨k, rfl⟩ : ∃ m, k = m + 1 := ⟨k - 1, by omega⟩
    rw [List.drop_of_length_le (by omega)] at hacc
    have hacc' : acc = fin := by simpa [grpBits] using hacc
    rw [reedpiperef19_Bits.l1, L_mem l i hi, if_pos (by omega), if_pos (by omega), if_neg (by omega), hacc']
    exact h0 k (by omega)
  | succ d ih =>
    intro k j acc hd hj hacc hk
    obtain ⟨k, rfl⟩ : ∃ m, k = m + 1 := ⟨k - 1, by omega⟩
    have hx := hg _ (rd_mem l[i] j (by omega))
    have hl := congrArg List.length hacc
    rw [drop_S l[i] j (by omega)] at hacc hl
    have e : ∀ x g, grpBits s (x :: g) = bitsOf x.f0 4 ++ lenBits s x.f1 ++ grpBits s g := by
      intro x g
      unfold grpBits
      rw [List.flatMap_cons]
      rfl
    rw [e] at hacc hl
    simp only [List.length_append, bitsOf_length] at hl
    have hb := refBits_f 4 (rd_T49 l[i] (j : Int)).f0 k (by omega) (by omega) (by omega) (by omega)
    rw [show (((4 : Nat) : Int)) = 4 from rfl] at hb
    rw [reedpiperef19_Bits.l1, L_mem l i hi, if_pos (by omega), if_pos (by omega), if_pos (by omega), if_pos (by omega), hb]
    simp only [Option.bind_some]
    rw [if_pos (by rw [bitsOf_length]; omega), rsize_f]
    simp only [Option.bind_some]
    rw [refLen_f s 41 k _ (by omega) (by omega) (by omega) (by omega)]
    simp only [Option.bind_some]
    rw [if_pos (by rw [List.length_append, bitsOf_length]; omega), wrap_succ j (by omega)]
    exact ih k (j + 1) _ (by omega) (by omega) (by rw [← hacc]; simp only [List.append_assoc]) (by omega)
theorem rbits_l0 (l : List (List Sec)) (hl : l.length ≤ 1000) (hl2 : ∀ g ∈ l, g.length ≤ 40 ∧ ∀ x ∈ g, 0 ≤ x.f1 ∧ x.f1 ≤ 40 ∧ 0 ≤ x.f0 ∧ x.f0 ≤ 13) (s sh m : Int) (gs : List Int) (fin : List Int) (hfin : fin.length ≤ 1000000) :
    ∀ (d k i : Nat) (acc : List Int), l.length - i = d → i ≤ l.length → acc ++ secsBits s (l.drop i) = fin → 300 * d + 1 < k → reedpiperef19_Bits.l0 k l acc (i : Int) s sh m gs = some fin := by
  intro d
  induction d with
  | zero =>
    intro k i acc hd hi hacc hk
    obtain ⟨k, rfl⟩ : ∃ m, k = m + 1 := ⟨k - 1, by omega⟩
    rw [List.drop_of_length_le (by omega)] at hacc
    have hacc' : acc = fin := by simpa [secsBits] using hacc
    rw [reedpiperef19_Bits.l0, if_neg (by omega), hacc']
  | succ d ih =>
    intro k i acc hd hi hacc hk
    obtain ⟨k, rfl⟩ : ∃ m, k = m + 1 := ⟨k - 1, by omega⟩
    have hgl := hl2 _ (List.getElem_mem (show i < l.length by omega))
    have e : secsBits s (l.drop i) = grpBits s (l[i]'(by omega)) ++ secsBits s (l.drop (i + 1)) := by
      rw [List.drop_eq_getElem_cons (show i < l.length by omega)]
      unfold secsBits
      rw [List.flatMap_cons]
    rw [e, ← List.append_assoc] at hacc
    have hlen := congrArg List.length hacc
    rw [List.length_append] at hlen
    rw [reedpiperef19_Bits.l0, if_pos (by omega)]
    have := rbits_l1 l s sh m gs i (by omega) (by omega) (by omega) hgl.2 (acc ++ grpBits s (l[i]'(by omega))) (by omega) (300 * d + 1) fin (fun k' hk' => by rw [wrap_succ i (by omega)]; exact ih k' (i + 1) _ (by omega) (by omega) hacc hk')
      (l[i]'(by omega)).length k 0 acc (by omega) (by omega) (by rw [List.drop_zero]) (by omega)
    exact this
theorem may_l1 (l : List (List Sec)) (s sh m : Int) (gs : List Int) (i : Nat) (hi : i < l.length) (hil : i ≤ 1000000) (hlen : l[i].length ≤ 1000000) (K0 : Nat) (res : Bool) (h0 : ∀ k, K0 < k → reedpiperef18_MaySections.l0 k l (wrap64 ((i : Int) + 1)) s sh m gs = some res) :
    ∀ (d k j : Nat) (left : Int), l[i].length - j = d → j ≤ l[i].length → K0 + d + 1 < k → 0 ≤ left → left ≤ 1000000 →
    reedpiperef18_MaySections.l1 k l (i : Int) left (j : Int) s sh m gs = some (grpOk left (l[i].drop j) && res) := by
  intro d
  induction d with
  | zero =>
    intro k j left hd hj hk hl0 hl1
    obtain ⟨k, rfl⟩ : ∃ m, k = m + 1 := ⟨k - 1, by omega⟩
    rw [reedpiperef18_MaySections.l1, L_mem l i hi, if_pos (by omega), if_pos (by omega), if_neg (by omega), List.drop_of_length_le (by omega)]
    unfold grpOk
    by_cases h : left = 0
    · rw [if_pos h, h0 k (by omega), h]
      simp
    · rw [if_neg h]
      simp [h]
  | succ d ih =>
    intro k j left hd hj hk hl0 hl1
    obtain ⟨k, rfl⟩ : ∃ m, k = m + 1 := ⟨k - 1, by omega⟩
    rw [reedpiperef18_MaySections.l1, L_mem l i hi, if_pos (by omega), if_pos (by omega), if_pos (by omega), if_pos (by omega), drop_S l[i] j (by omega)]
    simp only [grpOk]
    by_cases hr : secRight (rd_T49 l[i] (j : Int)) left = true
    · have h2 : (rd_T49 l[i] (j : Int)).f0 ≤ 11 ∨ (rd_T49 l[i] (j : Int)).f0 = 13 := by
        unfold secRight at hr
        simp only [Bool.and_eq_true, Bool.or_eq_true, decide_eq_true_eq, beq_iff_eq] at hr
        exact hr.2
      have h1 := secRight_le hr
      rw [if_neg (by omega), if_neg (by omega), if_neg (by omega), if_neg (by omega), if_neg (by omega), wrap_succ j (by omega), wrap_id _ (by omega) (by omega), ih k (j + 1) _ (by omega) (by omega) (by omega) (by omega) (by omega)]
      simp only [hr, Bool.true_and]
    · have hr' : ¬ (1 ≤ (rd_T49 l[i] (j : Int)).f1 ∧ (rd_T49 l[i] (j : Int)).f1 ≤ left ∧ 0 ≤ (rd_T49 l[i] (j : Int)).f0 ∧ ((rd_T49 l[i] (j : Int)).f0 ≤ 11 ∨ (rd_T49 l[i] (j : Int)).f0 = 13)) := by
        intro h
        apply hr
        unfold secRight
        simp only [Bool.and_eq_true, Bool.or_eq_true, decide_eq_true_eq, beq_iff_eq]
        exact ⟨⟨⟨h.1, h.2.1⟩, h.2.2.1⟩, h.2.2.2⟩
      have hr2 : secRight (rd_T49 l[i] (j : Int)) left = false := by simpa using hr
      rw [hr2, Bool.false_and, Bool.false_and]
      by_cases c1 : (rd_T49 l[i] (j : Int)).f1 < 1
      · rw [if_pos c1]
      · rw [if_neg c1]
        by_cases c2 : (rd_T49 l[i] (j : Int)).f1 > left
        · rw [if_pos c2]
        · rw [if_neg c2]
          by_cases c3 : (rd_T49 l[i] (j : Int)).f0 < 0
          · rw [if_pos c3]
          · rw [if_neg c3]
            by_cases c4 : (rd_T49 l[i] (j : Int)).f0 = 12
            · rw [if_pos c4]
            · rw [if_neg c4, if_pos (by omega)]
theorem may_l0 (l : List (List Sec)) (hl : l.length ≤ 1000000) (m : Int) (hm0 : 0 ≤ m) (hm : m ≤ 1000000) (s sh : Int) (gs : List Int) (N : Nat) (hN : ∀ g ∈ l, g.length ≤ N) (hN2 : N ≤ 1000000) :
    ∀ (d k i : Nat), l.length - i = d → i ≤ l.length → (N + 3) * d + 1 < k → reedpiperef18_MaySections.l0 k l (i : Int) s sh m gs = some ((l.drop i).all (grpOk m)) := by
  intro d
  induction d with
  | zero =>
    intro k i hd hi hk
    obtain ⟨k, rfl⟩ : ∃ m, k = m + 1 := ⟨k - 1, by omega⟩
    rw [reedpiperef18_MaySections.l0, if_neg (by omega), List.drop_of_length_le (by omega)]
    rfl
  | succ d ih =>
    intro k i hd hi hk
    obtain ⟨k, rfl⟩ : ∃ m, k = m + 1 := ⟨k - 1, by omega⟩
    have hgl := hN _ (List.getElem_mem (show i < l.length by omega))
    have he : (N + 3) * (d + 1) = (N + 3) * d + (N + 3) := Nat.mul_succ _ _
    rw [reedpiperef18_MaySections.l0, if_pos (by omega), List.drop_eq_getElem_cons (show i < l.length by omega)]
    have := may_l1 l s sh m gs i (by omega) (by omega) (by omega) ((N + 3) * d + 1) ((l.drop (i + 1)).all (grpOk m)) (fun k' hk' => by rw [wrap_succ i (by omega)]; exact ih k' (i + 1) (by omega) (by omega) hk')
      (l[i]'(by omega)).length k 0 m (by omega) (by omega) (by omega) hm0 hm
    rw [show ((0 : Nat) : Int) = 0 from rfl, List.drop_zero] at this
    rw [this]
    simp only [List.all_cons]
theorem rcheck_f (s sh m : Int) (gs : List Int) (l : List (List Sec)) (hgs : gs.length ≤ 17592186044416) (hl : l.length ≤ 1000000) (N : Nat) (hN : ∀ g ∈ l, g.length ≤ N) (hN2 : N ≤ 1000000) (k : Nat) (hk : gs.length + (N + 3) * l.length + 200 < k) :
    reedpiperef19_Check.f k s sh m gs l = some (if secsOk s sh m gs l = true then 0 else 8) := by
  unfold reedpiperef19_Check.f secsOk
  rw [SP.refSome_f s sh m gs hgs k (by omega)]
  simp only [Option.bind_some]
  by_cases h : SP.someS s sh m gs = true
  · obtain ⟨_, _, hm0, hm, _⟩ := someS_max h
    rw [if_pos h, h]
    simp only [Bool.true_and]
    unfold reedpiperef18_MaySections.f
    by_cases h2 : (l.length : Int) = (gs.length : Int)
    · rw [if_pos h2, decide_eq_true (show l.length = gs.length by omega)]
      have := may_l0 l hl m hm0 (by omega) s sh gs N hN hN2 l.length k 0 (by omega) (by omega) (by omega)
      rw [show ((0 : Nat) : Int) = 0 from rfl, List.drop_zero] at this
      rw [this]
      simp only [Option.bind_some, Bool.true_and]
      split <;> rfl
    · rw [if_neg h2, decide_eq_false (show ¬ l.length = gs.length by omega)]
      rfl
  · rw [if_neg h]
    simp at h
    rw [h]
    rfl
theorem rput_f (b : List Int) (s sh m : Int) (gs : List Int) (l : List (List Sec)) (hb : b.length ≤ 1000000) (hgs : gs.length ≤ 1000) (hl : l.length ≤ 1000) (N : Nat) (hN2 : N ≤ 1000) (hg : ∀ g ∈ l, g.length ≤ N) (k : Nat) (hk : gs.length + (N + 3) * l.length + 3000 < k) :
    reedpiperef19_Put.f k b s sh m gs l = some (if secsOk s sh m gs l = true then (b ++ secsBits s l, 0) else ([], 8)) := by
  unfold reedpiperef19_Put.f
  rw [rcheck_f s sh m gs l (by omega) (by omega) N hg (by omega) k (by omega)]
  simp only [Option.bind_some]
  by_cases h : secsOk s sh m gs l = true
  · obtain ⟨h1, h2, h3, h4⟩ := secsOk_ok h
    obtain ⟨_, _, hm0, hm, _⟩ := someS_max h1
    have hmost := secsBits_most h
    rw [if_pos h, if_pos h, if_pos rfl, if_pos (by simp; omega)]
    unfold reedpiperef19_Bits.f
    have := rbits_l0 l (by omega) (fun g hg => by
      have h5 := grpOk_len g m (h4 g hg)
      refine ⟨by omega, fun x hx => ?_⟩
      have := grpOk_mem g m (h4 g hg) x hx
      omega) s sh m gs (secsBits s l) (by omega) l.length k 0 [] (by omega) (by omega) (by rw [List.drop_zero, List.nil_append]) (by omega)
    rw [show ((0 : Nat) : Int) = 0 from rfl] at this
    rw [this]
    simp only [Option.bind_some, List.nil_append]
    rw [if_pos (by omega)]
  · rw [if_neg h, if_neg h, if_neg (by decide)]
end Go.Proofs.Ytjdlochffpikbaa.SS
end
section
/- The reference's sections, without rounds: got. -/
namespace Go.Proofs.Ytjdlochffpikbaa.SS
open Go.RowKit Go.Proofs.YtjdlochffpikbaaW.PrintWords Go.Proofs.YtjdlochffpikbaaW.PrintLast Go.Proofs.YtjdlochffpikbaaW.PrintMore Go.Proofs.Ytjdlochffpikbaa.HA Go.Proofs.Ytjdlochffpikbaa.HP Go.Proofs.Ytjdlochffpikbaa.HG Go.Proofs.Ytjdlochffpikbaa.K Go.Proofs.Ytjdlochffpikbaa.SG
set_option linter.unusedVariables false

section
variable (b : List Int) (hb : ∀ y ∈ b, 0 ≤ y ∧ y ≤ 255) (hbl : b.length ≤ 4611686018427387904)
include hb hbl
theorem rget_l0 (p size : Nat) (hs : size ≤ 31) (hl : p + size ≤ b.length) : ∀ (d k i : Nat) (n : Int), size - i = d → i ≤ size → d < k → 0 ≤ n → n < 2 ^ i →
    reedpiperef01_Get.l0 k b (p : Int) (size : Int) n ((p + i : Nat) : Int) = some (if bitsOk ((b.drop (p + i)).take d) = true then (numFrom n ((b.drop (p + i)).take d), ((p + size : Nat) : Int), 0) else (0, 0, 8)) := by
  have hw : wrap64 ((p : Int) + (size : Int)) = ((p + size : Nat) : Int) := by rw [wrap_id _ (by omega) (by omega)]; omega
  intro d
  induction d with
  | zero =>
    intro k i n hd hi hk h0 h1
    obtain ⟨k, rfl⟩ : ∃ m, k = m + 1 := ⟨k - 1, by omega⟩
    rw [reedpiperef01_Get.l0, hw, if_neg (by omega)]
    simp [bitsOk, numFrom]
  | succ d ih =>
    intro k i n hd hi hk h0 h1
    obtain ⟨k, rfl⟩ : ∃ m, k = m + 1 := ⟨k - 1, by omega⟩
    rw [reedpiperef01_Get.l0, hw, if_pos (by omega), if_pos (by omega), if_pos (by omega), drop_at b (p + i) (by omega), List.take_succ_cons]
    have hr : 0 ≤ rd b ((p + i : Nat) : Int) ∧ rd b ((p + i : Nat) : Int) ≤ 255 := by rw [rd_at b (p + i) (by omega)]; exact hb _ (List.getElem_mem _)
    have h31 : (2 : Int) ^ i ≤ 2147483648 := by
      have h31 : (2 : Int) ^ i ≤ 2 ^ 31 := by exact_mod_cast Nat.pow_le_pow_right (by omega) (show i ≤ 31 by omega)
      simpa using h31
    by_cases hx : rd b ((p + i : Nat) : Int) > 1
    · rw [if_neg (by omega), if_neg (by omega), if_neg]
      simp only [bitsOk, List.all_cons, Bool.and_eq_true, decide_eq_true_eq]
      intro h
      omega
    · have hstep : reedpiperef01_Get.l0 k b (p : Int) (size : Int) (wrap64 (wrap64 (2 * n) + wrap64 (rd b ((p + i : Nat) : Int)))) (wrap64 (((p + i : Nat) : Int) + 1)) = some (if bitsOk (rd b ((p + i : Nat) : Int) :: ((b.drop (p + i + 1)).take d)) = true then (numFrom n (rd b ((p + i : Nat) : Int) :: ((b.drop (p + i + 1)).take d)), ((p + size : Nat) : Int), 0) else (0, 0, 8)) := by
        rw [wrap_id (2 * n) (by omega) (by omega), wrap_id (rd b ((p + i : Nat) : Int)) (by omega) (by omega), wrap_id (2 * n + rd b ((p + i : Nat) : Int)) (by omega) (by omega), wrap_succ (p + i) (by omega)]
        have := ih k (i + 1) (n * 2 + rd b ((p + i : Nat) : Int)) (by omega) (by omega) (by omega) (by omega) (by rw [Int.pow_succ]; omega)
        rw [show p + (i + 1) = p + i + 1 by omega] at this
        rw [show 2 * n + rd b ((p + i : Nat) : Int) = n * 2 + rd b ((p + i : Nat) : Int) by omega, this]
        have e1 : decide (rd b ((p + i : Nat) : Int) ≤ 1) = true := decide_eq_true (by omega)
        simp only [bitsOk, List.all_cons, e1, Bool.true_and, numFrom]
        rfl
      by_cases hz : rd b ((p + i : Nat) : Int) = 0
      · rw [if_pos hz]; exact hstep
      · rw [if_neg hz, if_pos (by omega)]; exact hstep
theorem rget_f (p size : Int) (k : Nat) (hk : 40 < k) : reedpiperef01_Get.f k b p size = some (getS b p size) := by
  unfold reedpiperef01_Get.f getS
  obtain ⟨k, rfl⟩ : ∃ m, k = m + 1 := ⟨k - 1, by omega⟩
  by_cases h1 : size < 0
  · rw [if_pos h1, if_pos (Or.inl h1)]
    simp only [reedpiperef01_Get.j0, if_true]
  · rw [if_neg h1]
    by_cases h1b : size > 31
    · rw [if_pos h1b, if_pos (Or.inr (Or.inl h1b))]
      simp only [reedpiperef01_Get.j0, if_true]
    · rw [if_neg h1b]
      by_cases h2 : p < 0
      · rw [if_pos h2, if_pos (Or.inr (Or.inr (Or.inl h2)))]
        simp only [reedpiperef01_Get.j0, if_true]
      · rw [if_neg h2]
        by_cases h3 : p > b.length
        · rw [decide_eq_true h3, if_pos (Or.inr (Or.inr (Or.inr h3)))]
          simp only [reedpiperef01_Get.j0, if_true]
        · rw [decide_eq_false h3, if_neg (by omega)]
          simp only [reedpiperef01_Get.j0, Bool.false_eq_true, if_false]
          rw [wrap_id _ (by omega) (by omega)]
          by_cases h4 : (b.length : Int) - p < size
          · rw [if_pos (by omega), if_pos h4]
          · rw [if_neg (by omega), if_neg h4]
            obtain ⟨q, rfl⟩ := Int.eq_ofNat_of_zero_le (show 0 ≤ p by omega)
            obtain ⟨s, rfl⟩ := Int.eq_ofNat_of_zero_le (show 0 ≤ size by omega)
            have := rget_l0 b hb hbl q s (by omega) (by omega) s k 0 0 (by omega) (by omega) (by omega) (by omega) (by decide)
            simp only [Nat.add_zero] at this
            rw [this]
            simp only [Int.toNat_natCast, numOf]
            rw [Int.natCast_add]
omit hb hbl
def ret1 (book : Int) (r : Int × Int × Int) : Int × Int × Int × Int := if r.2.2 = 0 then (book, r.1, r.2.1, 0) else (0, 0, 0, r.2.2)
def oneS (b : List Int) (s p left : Int) : Int × Int × Int × Int :=
  if (getS b p 4).2.2 = 0 then (if (getS b p 4).1 > 11 ∧ (getS b p 4).1 ≠ 13 then (0, 0, 0, 8) else ret1 (getS b p 4).1 (lenS b (sizeS s) (mostS s) left 50 (getS b p 4).2.1 0)) else (0, 0, 0, (getS b p 4).2.2)
include hb hbl
theorem one_l0 (s left : Int) (hl0 : 0 ≤ left) (hl : left ≤ 40) (book : Int) : ∀ (f k : Nat) (p acc : Int), 0 ≤ acc → acc ≤ left → 41 - acc ≤ (f : Int) → f + 50 < k →
    reedpiperef19_one.l0 k b p (sizeS s : Int) left (mostS s) book acc = some (ret1 book (lenS b (sizeS s : Int) (mostS s) left f p acc)) := by
  intro f
  obtain ⟨hsm, hm7, hm31, hs5, hs3⟩ := size_most s
  induction f with
  | zero => intro k p acc h0 h2 hf; omega
  | succ f ih =>
    intro k p acc h0 h2 hf hk
    obtain ⟨k, rfl⟩ : ∃ m, k = m + 1 := ⟨k - 1, by omega⟩
    have hn := getS_bounds hb p (sizeS s)
    rw [reedpiperef19_one.l0, rget_f b hb hbl p (sizeS s : Int) k (by omega)]
    simp only [Option.bind_some, lenS]
    by_cases he : (getS b p (sizeS s : Int)).2.2 = 0
    · rw [if_pos he, if_pos he]
      have hnm : (getS b p (sizeS s : Int)).1 ≤ mostS s := by omega
      rw [wrap_id _ (by omega) (by omega)]
      by_cases hgt : acc + (getS b p (sizeS s : Int)).1 > left
      · rw [if_pos hgt, if_pos hgt]; rfl
      · rw [if_neg hgt, if_neg hgt]
        by_cases hm : (getS b p (sizeS s : Int)).1 = mostS s
        · rw [if_neg (by omega), if_pos hm, hm]
          exact ih k _ _ (by omega) (by omega) (by omega) (by omega)
        · rw [if_pos (by omega), if_neg hm]
          by_cases hz : acc + (getS b p (sizeS s : Int)).1 = 0
          · rw [if_pos hz, if_pos hz]; rfl
          · rw [if_neg hz, if_neg hz]; rfl
    · rw [if_neg he, if_neg he]
      unfold ret1
      rw [if_neg he]
theorem one_f (s p left : Int) (hl0 : 0 ≤ left) (hl : left ≤ 40) (k : Nat) (hk : 200 < k) : reedpiperef19_one.f k b p (sizeS s : Int) left = some (oneS b s p left) := by
  obtain ⟨hsm, hm7, hm31, hs5, hs3⟩ := size_most s
  obtain ⟨k, rfl⟩ : ∃ m, k = m + 1 := ⟨k - 1, by omega⟩
  unfold reedpiperef19_one.f oneS
  rw [two_f s _ (by omega), rget_f b hb hbl p 4 _ (by omega)]
  simp only [Option.bind_some]
  rw [show mostS s + 1 - 1 = mostS s by omega, wrap_id (mostS s) (by omega) (by omega)]
  by_cases he : (getS b p 4).2.2 = 0
  · rw [if_pos he, if_pos he]
    by_cases h12 : (getS b p 4).1 = 12
    · rw [if_pos h12, if_pos (by omega)]
      simp only [reedpiperef19_one.j0, if_true]
    · rw [if_neg h12]
      by_cases h13 : (getS b p 4).1 > 13
      · rw [decide_eq_true h13, if_pos (by omega)]
        simp only [reedpiperef19_one.j0, if_true]
      · rw [decide_eq_false h13, if_neg (by omega)]
        simp only [reedpiperef19_one.j0, Bool.false_eq_true, if_false]
        exact one_l0 b hb hbl s left hl0 hl _ 50 k _ 0 (by omega) (by omega) (by omega) (by omega)
  · rw [if_neg he, if_neg he]
theorem read_l1 (s sh m : Int) (gs : List Int) (out : List (List Sec)) (hout : out.length ≤ 100000) (ii : Int) (K0 : Nat) (R : List Sec → Int → List (List Sec) × Int × Int)
    (h0 : ∀ k, K0 < k → ∀ g q, reedpiperef19_Read.l0 k b q (out ++ [g]) (wrap64 (ii + 1)) s sh m gs = some (R g q)) :
    ∀ (f k : Nat) (left p : Int) (g : List Sec), 0 ≤ left → left ≤ 40 → left < (f : Int) → g.length + left ≤ 900 → K0 + f + 300 < k →
    reedpiperef19_Read.l1 k b p out ii g left s sh m gs = some (cont (grpS b (sizeS s : Int) (mostS s) f left p g) R) := by
  intro f
  induction f with
  | zero => intro k left p g hl0 hl hf; omega
  | succ f ih =>
    intro k left p g hl0 hl hf hg hk
    obtain ⟨k, rfl⟩ : ∃ m, k = m + 1 := ⟨k - 1, by omega⟩
    rw [reedpiperef19_Read.l1]
    by_cases hp : left > 0
    · rw [if_pos hp, rsize_f]
      simp only [Option.bind_some]
      rw [one_f b hb hbl s p left hl0 hl k (by omega)]
      simp only [Option.bind_some, grpS]
      rw [if_pos hp]
      unfold oneS
      by_cases he : (getS b p 4).2.2 = 0
      · rw [if_pos he, if_pos he]
        by_cases hbk : (getS b p 4).1 > 11 ∧ (getS b p 4).1 ≠ 13
        · rw [if_pos hbk, if_pos hbk, if_neg (by decide), cont_8]
        · rw [if_neg hbk, if_neg hbk]
          obtain ⟨len, q2, e2, hlen⟩ : ∃ n q e, lenS b (sizeS s : Int) (mostS s) left 50 (getS b p 4).2.1 0 = (n, q, e) := ⟨_, _, _, rfl⟩
          rw [hlen]
          unfold ret1
          by_cases he2 : e2 = 0
          · subst he2
            obtain ⟨a1, a2, a3⟩ := lenS_ok hb 50 _ 0 len q2 (by omega) hlen
            rw [cont_ok, if_pos rfl, if_pos rfl, if_pos (by omega)]
            simp only
            rw [wrap_id (left - len) (by omega) (by omega)]
            exact ih k (left - len) q2 _ (by omega) (by omega) (by omega) (by rw [List.length_append, List.length_singleton]; omega) (by omega)
          · rw [cont_bad he2, if_neg he2, if_neg he2, cont_bad he2]
      · rw [if_neg he, if_neg he, if_neg he, cont_bad he]
    · rw [if_neg hp, if_pos (by omega), h0 k (by omega)]
      simp only [grpS]
      rw [if_neg hp, cont_ok]
theorem read_l0 (s sh m : Int) (gs : List Int) (hm0 : 0 ≤ m) (hm : m ≤ 40) (hng : gs.length ≤ 1000) : ∀ (d k i : Nat) (p : Int) (out : List (List Sec)), gs.length - i = d → i ≤ gs.length → out.length = i → 400 * d + 10 < k →
    reedpiperef19_Read.l0 k b p out (i : Int) s sh m gs = some (readS b (sizeS s : Int) (mostS s) m d p out) := by
  intro d
  induction d with
  | zero =>
    intro k i p out hd hi ho hk
    obtain ⟨k, rfl⟩ : ∃ m, k = m + 1 := ⟨k - 1, by omega⟩
    rw [reedpiperef19_Read.l0, if_neg (by omega)]
    rfl
  | succ d ih =>
    intro k i p out hd hi ho hk
    obtain ⟨k, rfl⟩ : ∃ m, k = m + 1 := ⟨k - 1, by omega⟩
    rw [reedpiperef19_Read.l0, if_pos (by omega)]
    have := read_l1 b hb hbl s sh m gs out (by omega) (i : Int) (400 * d + 10) (fun g q => readS b (sizeS s : Int) (mostS s) m d q (out ++ [g]))
      (fun k' hk' g q => by rw [wrap_succ i (by omega)]; exact ih k' (i + 1) q _ (by omega) (by omega) (by rw [List.length_append, List.length_singleton]; omega) hk') 50 k m p [] hm0 hm (by omega) (by simp; omega) (by omega)
    rw [this]
    simp only [readS]
theorem rgetSect_f (s sh m : Int) (gs : List Int) (p : Int) (hgs : gs.length ≤ 1000) (k : Nat) (hk : 10000 + gs.length < k) : reedpiperef19_Get.f k b p s sh m gs = some (getSect b p s sh m gs) := by
  unfold reedpiperef19_Get.f getSect
  rw [SP.refSome_f s sh m gs (by omega) k (by omega)]
  simp only [Option.bind_some]
  by_cases h : SP.someS s sh m gs = true
  · obtain ⟨_, _, hm0, hm, _⟩ := someS_max h
    obtain ⟨_, _, h8, _⟩ := SP.someS_all h
    rw [if_pos h, if_pos h]
    obtain ⟨k, rfl⟩ : ∃ m, k = m + 1 := ⟨k - 1, by omega⟩
    have hr : reedpiperef19_Read.f (k + 1) b p s sh m gs = some (if p < 0 ∨ p > b.length then ([], 0, 2) else readS b (sizeS s) (mostS s) m gs.length p []) := by
      unfold reedpiperef19_Read.f
      by_cases h2 : p < 0
      · rw [if_pos h2, if_pos (Or.inl h2)]
        simp only [reedpiperef19_Read.j0, if_true]
      · rw [if_neg h2]
        by_cases h3 : p > b.length
        · rw [decide_eq_true h3, if_pos (Or.inr h3)]
          simp only [reedpiperef19_Read.j0, if_true]
        · rw [decide_eq_false h3, if_neg (by omega)]
          simp only [reedpiperef19_Read.j0, Bool.false_eq_true, if_false]
          exact read_l0 b hb hbl s sh m gs hm0 hm hgs gs.length k 0 p [] (by omega) (by omega) rfl (by omega)
    rw [hr]
    simp only [Option.bind_some]
    have hg : getS b p 0 = if p < 0 ∨ p > b.length then (0, 0, 2) else (0, p, 0) := by
      unfold getS
      by_cases h2 : p < 0 ∨ p > b.length
      · rw [if_pos h2, if_pos (by omega)]
      · rw [if_neg h2, if_neg (by omega), if_neg (by omega), show (0 : Int).toNat = 0 from rfl, List.take_zero, if_pos (by rfl), Int.add_zero]
        rfl
    rw [hg]
    by_cases h2 : p < 0 ∨ p > b.length
    · rw [if_pos h2, if_pos h2, if_neg (by decide)]
    · rw [if_neg h2, if_neg h2, if_pos rfl]
  · rw [if_neg h, if_neg h]
end
end Go.Proofs.Ytjdlochffpikbaa.SS
end
section
/- The document's answers and the program's are the same, at any rounds. -/
namespace Go.Proofs.Ytjdlochffpikbaa.SS
open Go.RowKit Go.Proofs.YtjdlochffpikbaaW.PrintWords Go.Proofs.YtjdlochffpikbaaW.PrintLast Go.Proofs.YtjdlochffpikbaaW.PrintMore Go.Proofs.Ytjdlochffpikbaa.HA Go.Proofs.Ytjdlochffpikbaa.HP Go.Proofs.Ytjdlochffpikbaa.HG Go.Proofs.Ytjdlochffpikbaa.K Go.Proofs.Ytjdlochffpikbaa.SG
set_option linter.unusedVariables false

theorem put_bounds {b : List Int} {s sh m : Int} {gs : List Int} {l : List (List Sec)} {r : List Int × Int} (h : sect_Put.f b s sh m gs l = some r) :
    b.length ≤ 1000000 ∧ gs.length ≤ 1000 ∧ l.length ≤ 1000 ∧ (∀ g ∈ l, g.length ≤ 1000) ∧ r = if secsOk s sh m gs l = true then (b ++ secsBits s l, 0) else ([], 8) := by
  unfold sect_Put.f at h
  split at h
  · next hc => exact ⟨hc.2.2.1, hc.2.2.2.1, hc.2.2.2.2.1, hc.2.2.2.2.2, (Option.some.inj h).symm⟩
  · cases h
theorem puts_eq {k : Nat} {b : List Int} {s sh m : Int} {gs : List Int} {l : List (List Sec)} {r q : List Int × Int} (h1 : sect_Put.f b s sh m gs l = some r) (h2 : reedpiperef19_Put.f k b s sh m gs l = some q) : r = q := by
  obtain ⟨hb, hgs, hl, hg, hr⟩ := put_bounds h1
  have hm : (1000 + 3) * l.length ≤ 1003 * 1000 := Nat.mul_le_mul_left 1003 hl
  have h3 := at_rounds (g := fun k => reedpiperef19_Put.f k b s sh m gs l) (reedpiperef19_Put.mono b s sh m gs l) (Nat.le_max_left k 2000000) h2
  rw [rput_f b s sh m gs l hb hgs hl 1000 (by omega) hg _ (by omega)] at h3
  exact hr.trans (Option.some.inj h3)
theorem checks_eq {k k2 : Nat} {b : List Int} {s sh m : Int} {gs : List Int} {l : List (List Sec)} {r : List Int × Int} {x y : Int} (h1 : sect_Put.f b s sh m gs l = some r) (h2 : sect_Check.f k s sh m gs l = some x) (h3 : reedpiperef19_Check.f k2 s sh m gs l = some y) : x = y := by
  obtain ⟨hb, hgs, hl, hg, hr⟩ := put_bounds h1
  have hm : (1000 + 3) * l.length ≤ 1003 * 1000 := Nat.mul_le_mul_left 1003 hl
  have h4 := at_rounds (g := fun k => sect_Check.f k s sh m gs l) (sect_Check.mono s sh m gs l) (Nat.le_max_left k 2000000) h2
  have h5 := at_rounds (g := fun k => reedpiperef19_Check.f k s sh m gs l) (reedpiperef19_Check.mono s sh m gs l) (Nat.le_max_left k2 2000000) h3
  rw [check_f s sh m gs l (by omega) (by omega) 1000 hg (by omega) _ (by omega)] at h4
  rw [rcheck_f s sh m gs l (by omega) (by omega) 1000 hg (by omega) _ (by omega)] at h5
  exact (Option.some.inj h4).symm.trans (Option.some.inj h5)
end Go.Proofs.Ytjdlochffpikbaa.SS
end
section
/- The document's sections and the program's are the same, at any rounds. -/
namespace Go.Proofs.Ytjdlochffpikbaa.SS
open Go.RowKit Go.Proofs.YtjdlochffpikbaaW.PrintWords Go.Proofs.YtjdlochffpikbaaW.PrintLast Go.Proofs.YtjdlochffpikbaaW.PrintMore Go.Proofs.Ytjdlochffpikbaa.HA Go.Proofs.Ytjdlochffpikbaa.HP Go.Proofs.Ytjdlochffpikbaa.HG Go.Proofs.Ytjdlochffpikbaa.K Go.Proofs.Ytjdlochffpikbaa.SG
set_option linter.unusedVariables false

theorem back_small {s sh m : Int} {gs : List Int} {l : List (List Sec)} (h : secsOk s sh m gs l = true) : l.length ≤ 8 ∧ ∀ g ∈ l, g.length ≤ 40 := by
  obtain ⟨h1, h2, h3, h4⟩ := secsOk_ok h
  obtain ⟨_, _, hm0, hm, _⟩ := someS_max h1
  exact ⟨h3, fun g hg => by have := grpOk_len g m (h4 g hg); omega⟩
theorem same_got {b : List Int} {p s sh m : Int} {gs : List Int} (hb : ∀ y ∈ b, 0 ≤ y ∧ y ≤ 255) (k : Nat) (hk : 1000 < k) : reedpiperef18_SameSections.f k (getSect b p s sh m gs).1 (getSect b p s sh m gs).1 = some true := by
  obtain ⟨v, q, e, hv⟩ : ∃ v q e, getSect b p s sh m gs = (v, q, e) := ⟨_, _, _, rfl⟩
  rw [hv]
  by_cases he : e = 0
  · subst he
    obtain ⟨_, _, _, h3, _⟩ := put_got hb s hv
    obtain ⟨h5, h6⟩ := back_small h3
    exact same_refl v 40 h6 (by omega) (by omega) k (by
      have : (40 + 3) * v.length ≤ 43 * 8 := Nat.mul_le_mul_left 43 h5
      omega)
  · obtain ⟨rfl, rfl⟩ := get_bad hv he
    exact same_refl [] 0 (by simp) (by omega) (by simp) k (by simp; omega)
theorem gets_eq {k k2 : Nat} {b : List Int} {p s sh m : Int} {gs : List Int} {l : List (List Sec)} {r : List Int × Int} {x y : List (List Sec) × Int × Int} (hb : ∀ y ∈ b, 0 ≤ y ∧ y ≤ 255) (h1 : sect_Put.f b s sh m gs l = some r)
    (h2 : sect_Get.f k b p s sh m gs = some x) (h3 : reedpiperef19_Get.f k2 b p s sh m gs = some y) : x = getSect b p s sh m gs ∧ y = getSect b p s sh m gs := by
  obtain ⟨hbl, hgs, hl, hg, hr⟩ := put_bounds h1
  have h4 := at_rounds (g := fun k => sect_Get.f k b p s sh m gs) (sect_Get.mono b p s sh m gs) (Nat.le_max_left k 2000000) h2
  have h5 := at_rounds (g := fun k => reedpiperef19_Get.f k b p s sh m gs) (reedpiperef19_Get.mono b p s sh m gs) (Nat.le_max_left k2 2000000) h3
  rw [getSect_f b hb (by omega) s sh m gs p hgs _ (by omega)] at h4
  rw [rgetSect_f b hb (by omega) s sh m gs p hgs _ (by omega)] at h5
  exact ⟨(Option.some.inj h4).symm, (Option.some.inj h5).symm⟩
theorem gets_same {k k2 k3 : Nat} {b : List Int} {p s sh m : Int} {gs : List Int} {l : List (List Sec)} {r : List Int × Int} {x y : List (List Sec) × Int × Int} {t : Bool} (hb : ∀ y ∈ b, 0 ≤ y ∧ y ≤ 255) (h1 : sect_Put.f b s sh m gs l = some r)
    (h2 : sect_Get.f k b p s sh m gs = some x) (h3 : reedpiperef19_Get.f k2 b p s sh m gs = some y) (h4 : reedpiperef18_SameSections.f k3 x.1 y.1 = some t) : t = true := by
  obtain ⟨rfl, rfl⟩ := gets_eq hb h1 h2 h3
  have h5 := at_rounds (g := fun k => reedpiperef18_SameSections.f k (getSect b p s sh m gs).1 (getSect b p s sh m gs).1) (reedpiperef18_SameSections.mono _ _) (Nat.le_max_left k3 2000000) h4
  rw [same_got hb _ (by omega)] at h5
  exact (Option.some.inj h5).symm
end Go.Proofs.Ytjdlochffpikbaa.SS
end
section
-- Written for this claim by this session's own wip/hook.py (it runs the kit's print and takes some functions' contracts as given texts of this session's).
namespace Go.Proofs.Ytjdlochffpikbaa.K
open Go.RowKit Go.Proofs.YtjdlochffpikbaaW.PrintWords Go.Proofs.YtjdlochffpikbaaW.PrintLast Go.Proofs.YtjdlochffpikbaaW.PrintMore
attribute [local go_sem] max2_int min2_int max_two min_two max_three min_three max_four min_four   -- for this text's walks alone
set_option linter.unusedVariables false
set_option linter.unusedSimpArgs false

-- IMPORT Derived.Test.YtjdlochffpikbaaSSU
/-! ### reedpipelaw19_SectTells: function 5 -/
def reedpipelaw19_SectTells.j0 : Nat → List Int → Int → List (List (S49)) → Bool → Int → Int → Int → List Int → Option (Bool)
  | 0, _, _, _, _, _, _, _, _ => none
  | k + 1, x0, x1, x3, x32, x387000, x387001, x387002, x387003 => if x32 = true then (some true) else ((sect_Put.f x0 x387000 x387001 x387002 x387003 x3).bind fun bt388 => ((reedpiperef19_Put.f k x0 x387000 x387001 x387002 x387003 x3).bind fun bt392 => ((sect_Get.f k x0 x1 x387000 x387001 x387002 x387003).bind fun bt396 => ((reedpiperef19_Get.f k x0 x1 x387000 x387001 x387002 x387003).bind fun bt401 => ((sect_Check.f k x387000 x387001 x387002 x387003 x3).bind fun t406 => ((reedpiperef19_Check.f k x387000 x387001 x387002 x387003 x3).bind fun t407 => (if t406 = t407 then (if (strOfNums bt388.1).toList = (strOfNums bt392.1).toList then (if bt388.2 = bt392.2 then ((reedpiperef18_SameSections.f k bt396.1 bt401.1).bind fun t408 => (if t408 = true then (if bt396.2.1 = bt401.2.1 then (if bt396.2.2 = bt401.2.2 then (some ((strOfNums x0).toList == (strOfNums x0).toList)) else (some false)) else (some false)) else (some false))) else (some false)) else (some false)) else (some false))))))))
def reedpipelaw19_SectTells.f (k : Nat) (l0 : List Int) (a1 : Int) (a2_0 : Int) (a2_1 : Int) (a2_2 : Int) (l2_3 : List Int) (l3 : List (List (S49))) : Option (Bool) := if (l0.length : Int) > 10000 then (reedpipelaw19_SectTells.j0 k l0 a1 l3 true a2_0 a2_1 a2_2 l2_3) else (if (l2_3.length : Int) > 1000 then (reedpipelaw19_SectTells.j0 k l0 a1 l3 true a2_0 a2_1 a2_2 l2_3) else ((reedpiperef19_Great.f k l3).bind fun t387 => (reedpipelaw19_SectTells.j0 k l0 a1 l3 t387 a2_0 a2_1 a2_2 l2_3)))
theorem reedpipelaw19_SectTells.mono_l : ∀ k, (∀ y0 y1 y2 y3 y4 y5 y6 y7, LeO (reedpipelaw19_SectTells.j0 k y0 y1 y2 y3 y4 y5 y6 y7) (reedpipelaw19_SectTells.j0 (k + 1) y0 y1 y2 y3 y4 y5 y6 y7))
  | 0 => fun _ _ _ _ _ _ _ _ r h => by simp [reedpipelaw19_SectTells.j0] at h
  | k + 1 => by
    have ih0 := reedpipelaw19_SectTells.mono_l k
    · intro y0 y1 y2 y3 y4 y5 y6 y7
      unfold reedpipelaw19_SectTells.j0
      repeat' first
      | (with_reducible exact ih0 _ _ _ _ _ _ _ _)
      | (with_reducible exact reedpiperef18_SameSections.mono _ _ _)
      | (with_reducible exact reedpiperef19_Check.mono _ _ _ _ _ _)
      | (with_reducible exact reedpiperef19_Get.mono _ _ _ _ _ _ _)
      | (with_reducible exact reedpiperef19_Great.mono _ _)
      | (with_reducible exact reedpiperef19_Put.mono _ _ _ _ _ _ _)
      | (with_reducible exact sect_Check.mono _ _ _ _ _ _)
      | (with_reducible exact sect_Get.mono _ _ _ _ _ _ _)
      | (with_reducible exact LeO.refl _)
      | (with_reducible exact LeO.none _)
      | (with_reducible refine LeO.ite ?_ ?_)
      | (with_reducible refine LeO.bind ?_ (fun _ => ?_))
      | exact ih0 _ _ _ _ _ _ _ _
      | exact reedpiperef18_SameSections.mono _ _ _
      | exact reedpiperef19_Check.mono _ _ _ _ _ _
      | exact reedpiperef19_Get.mono _ _ _ _ _ _ _
      | exact reedpiperef19_Great.mono _ _
      | exact reedpiperef19_Put.mono _ _ _ _ _ _ _
      | exact sect_Check.mono _ _ _ _ _ _
      | exact sect_Get.mono _ _ _ _ _ _ _
      | exact LeO.none _
      | refine LeO.ite ?_ ?_
      | refine LeO.bind ?_ (fun _ => ?_)
theorem reedpipelaw19_SectTells.mono : ∀ a0 a1 a2 a3 a4 a5 a6 k, LeO (reedpipelaw19_SectTells.f k a0 a1 a2 a3 a4 a5 a6) (reedpipelaw19_SectTells.f (k + 1) a0 a1 a2 a3 a4 a5 a6) := by
  intro a0 a1 a2 a3 a4 a5 a6 k
  have ih0 := reedpipelaw19_SectTells.mono_l k
  unfold reedpipelaw19_SectTells.f
  repeat' first
      | (with_reducible exact ih0 _ _ _ _ _ _ _ _)
      | (with_reducible exact reedpiperef18_SameSections.mono _ _ _)
      | (with_reducible exact reedpiperef19_Check.mono _ _ _ _ _ _)
      | (with_reducible exact reedpiperef19_Get.mono _ _ _ _ _ _ _)
      | (with_reducible exact reedpiperef19_Great.mono _ _)
      | (with_reducible exact reedpiperef19_Put.mono _ _ _ _ _ _ _)
      | (with_reducible exact sect_Check.mono _ _ _ _ _ _)
      | (with_reducible exact sect_Get.mono _ _ _ _ _ _ _)
      | (with_reducible exact LeO.refl _)
      | (with_reducible exact LeO.none _)
      | (with_reducible refine LeO.ite ?_ ?_)
      | (with_reducible refine LeO.bind ?_ (fun _ => ?_))
      | exact ih0 _ _ _ _ _ _ _ _
      | exact reedpiperef18_SameSections.mono _ _ _
      | exact reedpiperef19_Check.mono _ _ _ _ _ _
      | exact reedpiperef19_Get.mono _ _ _ _ _ _ _
      | exact reedpiperef19_Great.mono _ _
      | exact reedpiperef19_Put.mono _ _ _ _ _ _ _
      | exact sect_Check.mono _ _ _ _ _ _
      | exact sect_Get.mono _ _ _ _ _ _ _
      | exact LeO.none _
      | refine LeO.ite ?_ ?_
      | refine LeO.bind ?_ (fun _ => ?_)
def reedpipelaw19_SectTells.T8 : Bool × List (List Nat × List Nat) := (true, [([], []), ([], []), ([0, 1], [0, 1]), ([], []), ([], []), ([3, 4, 2], [3, 4]), ([2, 5], [2, 5]), ([6, 5], [6]), ([7], [7]), ([8, 7], [7, 8]), ([7], [7]), ([10, 7], [7, 10]), ([9, 11, 7], [7, 9, 11]), ([7, 12], [7, 12]), ([13, 7], [13]), ([14], [14]), ([14], [14]), ([15, 16, 14], [14, 15, 16]), ([14, 17], [14, 17]), ([18, 14], [18]), ([19], [19]), ([19], [19]), ([20, 21, 19, 19], [19, 20, 21]), ([19, 22], [19, 22]), ([23, 22], [23]), ([24], [24]), ([24], [24]), ([25, 26, 24], [24, 25, 26]), ([24, 27], [24, 27]), ([28, 24], [28]), ([29], [29]), ([29], [29]), ([30, 31, 29], [29, 30, 31]), ([29, 32], [29, 32]), ([33, 29], [33]), ([34], [34]), ([35, 34], [34, 35]), ([34], [34]), ([36, 37, 34], [34, 36, 37]), ([34, 38], [34, 38]), ([39, 34, 0, 1, 2, 3, 4, 5, 6, 7, 8, 9, 10, 11, 12, 13, 14, 15, 16, 17, 18, 19, 20, 21, 22, 23, 24, 25, 26, 27, 28, 29, 30, 31, 32, 33, 34, 35, 36, 37, 38, 39], [39])])
def reedpipelaw19_SectTells.B8 : List Nat := [0, 0, 3, 0, 0, 31, 63, 127, 255, 511, 255, 1279, 4095, 8191, 16383, 32767, 32767, 131071, 262143, 524287, 1048575, 1048575, 4194303, 8388607, 16777215, 33554431, 33554431, 134217727, 268435455, 536870911, 1073741823, 1073741823, 4294967295, 8589934591, 17179869183, 34359738367, 68719476735, 34359738367, 274877906943, 549755813887, 1099511627775]
theorem reedpipelaw19_SectTells.tab8 : rtab .any (opsOf Try.f5 8) = reedpipelaw19_SectTells.T8 := by kernel_rfl
theorem reedpipelaw19_SectTells.bits8 : waitsOk reedpipelaw19_SectTells.T8.2 reedpipelaw19_SectTells.B8 = true := by kernel_rfl
set_option maxHeartbeats 8000000 in
set_option maxRecDepth 100000 in
theorem reedpipelaw19_SectTells.calls (k : Nat) (A0 : Option Addr) (c0 : Nat) (l0 : List Int) (a1 : Int) (a2_0 : Int) (a2_1 : Int) (a2_2 : Int) (A2_3 : Option Addr) (c2_3 : Nat) (l2_3 : List Int) (A3 : Option Addr) (c3 : Nat) (l3 : List (List (S49))) (r : Bool) (w : World) (hr0 : Kd.C (Kd.int .u8) w A0 l0.length l0) (hc0 : l0.length ≤ c0) (hr2_3 : Kd.C (Kd.int .i64) w A2_3 l2_3.length l2_3) (hc2_3 : l2_3.length ≤ c2_3) (hr3 : Kd.C (Kd.slice 49 k49) w A3 l3.length l3) (hc3 : l3.length ≤ c3) (hb0 : ∀ y ∈ l0, 0 ≤ y ∧ y ≤ 255) (h : reedpipelaw19_SectTells.f k l0  a1 a2_0 a2_1 a2_2 l2_3 l3 = some r) :
    Calls Try.prog 5 #[.slice A0 l0.length c0, .int .i64 a1, .agg #[.int .u8 a2_0, .int .u8 a2_1, .int .i64 a2_2, .slice A2_3 l2_3.length c2_3], .slice A3 l3.length c3] w fun e w' => e = .returned (.bool r) ∧ Below w.heap.size w w' := by
  have hu24 := Try.underlying24
  have HR0 := Aside0.mk hr0
  have HC0 := Aside0.mk hc0
  clear hr0 hc0
  have HR2_3 := Aside0.mk hr2_3
  have HC2_3 := Aside0.mk hc2_3
  clear hr2_3 hc2_3
  have HR3 := Aside0.mk hr3
  have HC3 := Aside0.mk hc3
  clear hr3 hc3
  have HB := Aside0.mk (Below.refl w.heap.size w)
  have H : (if (l0.length : Int) > 10000 then (reedpipelaw19_SectTells.j0 k l0 a1 l3 true a2_0 a2_1 a2_2 l2_3) else (if (l2_3.length : Int) > 1000 then (reedpipelaw19_SectTells.j0 k l0 a1 l3 true a2_0 a2_1 a2_2 l2_3) else ((reedpiperef19_Great.f k l3).bind fun t387 => (reedpipelaw19_SectTells.j0 k l0 a1 l3 t387 a2_0 a2_1 a2_2 l2_3)))) = some r := h
  clear h
  have HC5 := Aside0.mk H
  clear H
  go_enter Try.func5, Try.ntmps5
  go_upto_region 1 with (first | ((with_reducible refine gate_dst (N := 6) rfl ?_); (try (refine gate_guard (by rfl) ?_; dsimp only)); refine box_event ?hg (N := 6) ?hd (cs := #[.int .u8 a2_0, .int .u8 a2_1, .int .i64 a2_2, .slice A2_3 l2_3.length c2_3]) (t := 24) ?hr ?_; (case hd => rfl); (case hg => rfl); (case hr => first | (go_simp; done) | (go_simp; rfl)); intro gb386 hg w6 hbox hb; have n0_ := Aside0.mk (below_step (by repeat (first | (with_reducible first | exact HB.out | apply below_alloc | apply pw_below_drewN | apply below_drew1) | exact HB.out)) hb); have n1_ := Aside0.mk (hbox); have n2_ := Aside0.mk ((by rw [hg]; exact (below_size (by repeat (first | (with_reducible first | exact HB.out | apply below_alloc | apply pw_below_drewN | apply below_drew1) | exact HB.out))) : w.heap.size ≤ gb386)); have n3_ := Aside0.mk ((by rw [hg]; exact (below_size (by repeat (first | (with_reducible first | exact HB.out | apply below_alloc | apply pw_below_drewN | apply below_drew1) | exact HB.out))) : w.heap.size ≤ gb386)); clear HB; have HB := n0_; have BK386 := n1_; have GW386 := n2_; have GE386 := n3_; clear n0_ n1_ n2_ n3_; clear hb hbox hg))
  (try simp only [Act.put, List.setIfInBounds_toArray, List.set_cons_zero, List.set_cons_succ])
  go_cut [32] (fun v32 wc => ∃ (kq : Nat) (x32_4 : Bool), v32 = .bool x32_4 ∧ Aside0 (reedpipelaw19_SectTells.j0 kq l0 a1 l3 x32_4 a2_0 a2_1 a2_2 l2_3 = some r) ∧ Aside0 (kq ≤ k) ∧ Aside0 (wc.heap[gb386]? = some (.cells #[.int .u8 a2_0, .int .u8 a2_1, .int .i64 a2_2, (.slice A2_3 l2_3.length c2_3)] 24 (0, 0))) ∧ Aside0 (Below w.heap.size w wc))
  case first =>
    have H := HC5.out
    clear HC5
    by_cases c7 : (l0.length : Int) > 10000
    · rw [if_pos c7] at H
      have c7b0 : decide (10000 < (l0.length : Int)) = true := decide_eq_true c7
      have c7b1 : decide (10000 < l0.length) = true := decide_eq_true (by omega)
      clear c7
      (first | rw [c7b0] | (simp only [i64_w, i32_w]; rw [c7b0]) | skip)
      have H' := Aside0.mk H
      clear H
      go_wp2
      go_meet
      case rel => exact ⟨_, (true), (by first | rfl | (simp; done) | (simp [*]; done)), H', ⟨by first | omega | exact Nat.le_refl _⟩, ⟨by (with_reducible repeat (first | refine blk_drewN ?_ _ | refine blk_drew ?_ | refine blk_alloc ?_ _)); exact BK386.out⟩, ⟨by repeat (first | (with_reducible first | exact HB.out | apply below_alloc | apply pw_below_drewN | apply below_drew1 | refine below_set ?_ GE386.out) | exact HB.out)⟩⟩
    · rw [if_neg c7] at H
      have c7b0 : decide (10000 < (l0.length : Int)) = false := decide_eq_false c7
      have c7b1 : decide (10000 < l0.length) = false := decide_eq_false (by omega)
      clear c7
      (first | rw [c7b0] | (simp only [i64_w, i32_w]; rw [c7b0]) | skip)
      by_cases c8 : (l2_3.length : Int) > 1000
      · rw [if_pos c8] at H
        have c8b0 : decide (1000 < (l2_3.length : Int)) = true := decide_eq_true c8
        have c8b1 : decide (1000 < l2_3.length) = true := decide_eq_true (by omega)
        clear c8
        have H' := Aside0.mk H
        clear H
        have hcz9_0 : w6.cell? ⟨gb386, 0, none⟩ = some (.int .u8 a2_0) := (blk_cell BK386.out 0).trans rfl
        have hcz9_1 : w6.cell? ⟨gb386, 1, none⟩ = some (.int .u8 a2_1) := (blk_cell BK386.out 1).trans rfl
        have hcz9_2 : w6.cell? ⟨gb386, 2, none⟩ = some (.int .i64 a2_2) := (blk_cell BK386.out 2).trans rfl
        have hcz9_3 : w6.cell? ⟨gb386, 3, none⟩ = some (.slice A2_3 l2_3.length c2_3) := (blk_cell BK386.out 3).trans rfl
        have hfz9_0 := blk_frozen BK386.out 0
        have hfz9_1 := blk_frozen BK386.out 1
        have hfz9_2 := blk_frozen BK386.out 2
        have hfz9_3 := blk_frozen BK386.out 3
        go_wp2
        go_meet
        case rel => exact ⟨_, (true), (by first | rfl | (simp; done) | (simp [*]; done)), H', ⟨by first | omega | exact Nat.le_refl _⟩, ⟨by (with_reducible repeat (first | refine blk_drewN ?_ _ | refine blk_drew ?_ | refine blk_alloc ?_ _)); exact BK386.out⟩, ⟨by repeat (first | (with_reducible first | exact HB.out | apply below_alloc | apply pw_below_drewN | apply below_drew1 | refine below_set ?_ GE386.out) | exact HB.out)⟩⟩
      · rw [if_neg c8] at H
        have c8b0 : decide (1000 < (l2_3.length : Int)) = false := decide_eq_false c8
        have c8b1 : decide (1000 < l2_3.length) = false := decide_eq_false (by omega)
        clear c8
        replace H := Option.bind_eq_some_iff.mp H
        obtain ⟨t387, A100, H⟩ := H
        replace H : (reedpipelaw19_SectTells.j0 k l0 a1 l3 t387 a2_0 a2_1 a2_2 l2_3) = some r := H
        have A10 := Aside0.mk A100
        clear A100
        have H' := Aside0.mk H
        clear H
        have hcz11_0 : w6.cell? ⟨gb386, 0, none⟩ = some (.int .u8 a2_0) := (blk_cell BK386.out 0).trans rfl
        have hcz11_1 : w6.cell? ⟨gb386, 1, none⟩ = some (.int .u8 a2_1) := (blk_cell BK386.out 1).trans rfl
        have hcz11_2 : w6.cell? ⟨gb386, 2, none⟩ = some (.int .i64 a2_2) := (blk_cell BK386.out 2).trans rfl
        have hcz11_3 : w6.cell? ⟨gb386, 3, none⟩ = some (.slice A2_3 l2_3.length c2_3) := (blk_cell BK386.out 3).trans rfl
        have hfz11_0 := blk_frozen BK386.out 0
        have hfz11_1 := blk_frozen BK386.out 1
        have hfz11_2 := blk_frozen BK386.out 2
        have hfz11_3 := blk_frozen BK386.out 3
        go_wp2_with (first | (go_at_call 8; (with_reducible refine (reedpiperef19_Great.calls k _ _ l3 t387 _ ?side1 ?side2 A10.out).mono ?_); (case side1 => repeat (first | exact (Kd.C_below HR3.out HB.out) | (with_reducible refine Kd.C_alloc ?_ _) | (with_reducible refine Kd.C_drewN ?_ _) | (with_reducible refine Kd.C_drew ?_))); (case side2 => exact HC3.out); rintro e w' ⟨rfl, ⟨nd, rfl⟩⟩))
        go_meet
        case rel => exact ⟨_, (t387), (by first | rfl | (simp; done) | (simp [*]; done)), H', ⟨by first | omega | exact Nat.le_refl _⟩, ⟨by (with_reducible repeat (first | refine blk_drewN ?_ _ | refine blk_drew ?_ | refine blk_alloc ?_ _)); exact BK386.out⟩, ⟨by repeat (first | (with_reducible first | exact HB.out | apply below_alloc | apply pw_below_drewN | apply below_drew1 | refine below_set ?_ GE386.out) | exact HB.out)⟩⟩
  case rest =>
    clear HC5
    try clear c2
    try clear p2
    try clear c3
    try clear c5
    try clear c7
    try clear c7b0
    try clear c7b1
    try clear c8
    try clear c8b0
    try clear c8b1
    try clear hcz11_0
    try clear hcz11_1
    try clear hcz11_2
    try clear hcz11_3
    try clear hcz9_0
    try clear hcz9_1
    try clear hcz9_2
    try clear hcz9_3
    try clear hfz11_0
    try clear hfz11_1
    try clear hfz11_2
    try clear hfz11_3
    try clear hfz9_0
    try clear hfz9_1
    try clear hfz9_2
    try clear hfz9_3
    obtain ⟨kq, x32_4, rfl, HA, HJ4, BK386, HB⟩ := hcut
    cases kq with
    | zero => exact absurd HA.out (by simp [reedpipelaw19_SectTells.j0])
    | succ kj4 =>
      have H := HA.out
      clear HA
      simp only [reedpipelaw19_SectTells.j0] at H
      by_cases c12 : x32_4 = true
      · subst c12
        have H1 : (some true) = some r := by rw [if_pos rfl] at H; exact H
        clear H
        have H := H1
        clear H1
        obtain rfl := Option.some.inj H
        go_wp2
        go_ret
        exact ⟨by first | rfl | (simp [errW_none, errW_some] <;> rfl) | (simp [*, errW_none, errW_some] <;> rfl), by repeat (first | (with_reducible first | exact HB.out | apply below_alloc | apply pw_below_drewN | apply below_drew1 | refine below_set ?_ GE386.out) | exact HB.out)⟩
      · replace c12 := Bool.eq_false_iff.mpr c12
        subst c12
        have H1 : ((sect_Put.f l0 a2_0 a2_1 a2_2 l2_3 l3).bind fun bt388 => ((reedpiperef19_Put.f kj4 l0 a2_0 a2_1 a2_2 l2_3 l3).bind fun bt392 => ((sect_Get.f kj4 l0 a1 a2_0 a2_1 a2_2 l2_3).bind fun bt396 => ((reedpiperef19_Get.f kj4 l0 a1 a2_0 a2_1 a2_2 l2_3).bind fun bt401 => ((sect_Check.f kj4 a2_0 a2_1 a2_2 l2_3 l3).bind fun t406 => ((reedpiperef19_Check.f kj4 a2_0 a2_1 a2_2 l2_3 l3).bind fun t407 => (if t406 = t407 then (if (strOfNums bt388.1).toList = (strOfNums bt392.1).toList then (if bt388.2 = bt392.2 then ((reedpiperef18_SameSections.f kj4 bt396.1 bt401.1).bind fun t408 => (if t408 = true then (if bt396.2.1 = bt401.2.1 then (if bt396.2.2 = bt401.2.2 then (some ((strOfNums l0).toList == (strOfNums l0).toList)) else (some false)) else (some false)) else (some false))) else (some false)) else (some false)) else (some false)))))))) = some r := by rw [if_neg (show ¬ (false = true) by decide)] at H; exact H
        clear H
        have H := H1
        clear H1
        replace H := Option.bind_eq_some_iff.mp H
        obtain ⟨⟨t388, t391⟩, A130, H⟩ := H
        replace H : ((reedpiperef19_Put.f kj4 l0 a2_0 a2_1 a2_2 l2_3 l3).bind fun bt392 => ((sect_Get.f kj4 l0 a1 a2_0 a2_1 a2_2 l2_3).bind fun bt396 => ((reedpiperef19_Get.f kj4 l0 a1 a2_0 a2_1 a2_2 l2_3).bind fun bt401 => ((sect_Check.f kj4 a2_0 a2_1 a2_2 l2_3 l3).bind fun t406 => ((reedpiperef19_Check.f kj4 a2_0 a2_1 a2_2 l2_3 l3).bind fun t407 => (if t406 = t407 then (if (strOfNums t388).toList = (strOfNums bt392.1).toList then (if t391 = bt392.2 then ((reedpiperef18_SameSections.f kj4 bt396.1 bt401.1).bind fun t408 => (if t408 = true then (if bt396.2.1 = bt401.2.1 then (if bt396.2.2 = bt401.2.2 then (some ((strOfNums l0).toList == (strOfNums l0).toList)) else (some false)) else (some false)) else (some false))) else (some false)) else (some false)) else (some false))))))) = some r := H
        have A13 := Aside0.mk A130
        clear A130
        replace H := Option.bind_eq_some_iff.mp H
        obtain ⟨⟨t392, t395⟩, A140, H⟩ := H
        replace H : ((sect_Get.f kj4 l0 a1 a2_0 a2_1 a2_2 l2_3).bind fun bt396 => ((reedpiperef19_Get.f kj4 l0 a1 a2_0 a2_1 a2_2 l2_3).bind fun bt401 => ((sect_Check.f kj4 a2_0 a2_1 a2_2 l2_3 l3).bind fun t406 => ((reedpiperef19_Check.f kj4 a2_0 a2_1 a2_2 l2_3 l3).bind fun t407 => (if t406 = t407 then (if (strOfNums t388).toList = (strOfNums t392).toList then (if t391 = t395 then ((reedpiperef18_SameSections.f kj4 bt396.1 bt401.1).bind fun t408 => (if t408 = true then (if bt396.2.1 = bt401.2.1 then (if bt396.2.2 = bt401.2.2 then (some ((strOfNums l0).toList == (strOfNums l0).toList)) else (some false)) else (some false)) else (some false))) else (some false)) else (some false)) else (some false)))))) = some r := H
        have A14 := Aside0.mk A140
        clear A140
        replace H := Option.bind_eq_some_iff.mp H
        obtain ⟨⟨t396, t399, t400⟩, A150, H⟩ := H
        replace H : ((reedpiperef19_Get.f kj4 l0 a1 a2_0 a2_1 a2_2 l2_3).bind fun bt401 => ((sect_Check.f kj4 a2_0 a2_1 a2_2 l2_3 l3).bind fun t406 => ((reedpiperef19_Check.f kj4 a2_0 a2_1 a2_2 l2_3 l3).bind fun t407 => (if t406 = t407 then (if (strOfNums t388).toList = (strOfNums t392).toList then (if t391 = t395 then ((reedpiperef18_SameSections.f kj4 t396 bt401.1).bind fun t408 => (if t408 = true then (if t399 = bt401.2.1 then (if t400 = bt401.2.2 then (some ((strOfNums l0).toList == (strOfNums l0).toList)) else (some false)) else (some false)) else (some false))) else (some false)) else (some false)) else (some false))))) = some r := H
        have A15 := Aside0.mk A150
        clear A150
        replace H := Option.bind_eq_some_iff.mp H
        obtain ⟨⟨t401, t404, t405⟩, A160, H⟩ := H
        replace H : ((sect_Check.f kj4 a2_0 a2_1 a2_2 l2_3 l3).bind fun t406 => ((reedpiperef19_Check.f kj4 a2_0 a2_1 a2_2 l2_3 l3).bind fun t407 => (if t406 = t407 then (if (strOfNums t388).toList = (strOfNums t392).toList then (if t391 = t395 then ((reedpiperef18_SameSections.f kj4 t396 t401).bind fun t408 => (if t408 = true then (if t399 = t404 then (if t400 = t405 then (some ((strOfNums l0).toList == (strOfNums l0).toList)) else (some false)) else (some false)) else (some false))) else (some false)) else (some false)) else (some false)))) = some r := H
        have A16 := Aside0.mk A160
        clear A160
        replace H := Option.bind_eq_some_iff.mp H
        obtain ⟨t406, A170, H⟩ := H
        replace H : ((reedpiperef19_Check.f kj4 a2_0 a2_1 a2_2 l2_3 l3).bind fun t407 => (if t406 = t407 then (if (strOfNums t388).toList = (strOfNums t392).toList then (if t391 = t395 then ((reedpiperef18_SameSections.f kj4 t396 t401).bind fun t408 => (if t408 = true then (if t399 = t404 then (if t400 = t405 then (some ((strOfNums l0).toList == (strOfNums l0).toList)) else (some false)) else (some false)) else (some false))) else (some false)) else (some false)) else (some false))) = some r := H
        have A17 := Aside0.mk A170
        clear A170
        replace H := Option.bind_eq_some_iff.mp H
        obtain ⟨t407, A180, H⟩ := H
        replace H : (if t406 = t407 then (if (strOfNums t388).toList = (strOfNums t392).toList then (if t391 = t395 then ((reedpiperef18_SameSections.f kj4 t396 t401).bind fun t408 => (if t408 = true then (if t399 = t404 then (if t400 = t405 then (some ((strOfNums l0).toList == (strOfNums l0).toList)) else (some false)) else (some false)) else (some false))) else (some false)) else (some false)) else (some false)) = some r := H
        have A18 := Aside0.mk A180
        clear A180
        by_cases c19 : t406 = t407
        · rw [if_pos c19] at H
          have c19b0 : (t406 == t407) = true := beq_iff_eq.mpr c19
          have c19b1 : (t406 != t407) = false := bne_eq_false_iff_eq.mpr c19
          clear c19
          by_cases c20 : (strOfNums t388).toList = (strOfNums t392).toList
          · rw [if_pos c20] at H
            have c20b0 : ((strOfNums t388).toList == (strOfNums t392).toList) = true := beq_iff_eq.mpr c20
            have c20b1 : ((strOfNums t388).toList != (strOfNums t392).toList) = false := bne_eq_false_iff_eq.mpr c20
            clear c20
            by_cases c21 : t391 = t395
            · rw [if_pos c21] at H
              have c21b0 : (t391 == t395) = true := beq_iff_eq.mpr c21
              have c21b1 : (t391 != t395) = false := bne_eq_false_iff_eq.mpr c21
              clear c21
              replace H := Option.bind_eq_some_iff.mp H
              obtain ⟨t408, A220, H⟩ := H
              replace H : (if t408 = true then (if t399 = t404 then (if t400 = t405 then (some ((strOfNums l0).toList == (strOfNums l0).toList)) else (some false)) else (some false)) else (some false)) = some r := H
              have A22 := Aside0.mk A220
              clear A220
              by_cases c23 : t408 = true
              · subst c23
                have H1 : (if t399 = t404 then (if t400 = t405 then (some ((strOfNums l0).toList == (strOfNums l0).toList)) else (some false)) else (some false)) = some r := by rw [if_pos rfl] at H; exact H
                clear H
                have H := H1
                clear H1
                by_cases c24 : t399 = t404
                · rw [if_pos c24] at H
                  have c24b0 : (t399 == t404) = true := beq_iff_eq.mpr c24
                  have c24b1 : (t399 != t404) = false := bne_eq_false_iff_eq.mpr c24
                  clear c24
                  by_cases c25 : t400 = t405
                  · rw [if_pos c25] at H
                    have c25b0 : (t400 == t405) = true := beq_iff_eq.mpr c25
                    have c25b1 : (t400 != t405) = false := bne_eq_false_iff_eq.mpr c25
                    clear c25
                    obtain rfl := Option.some.inj H
                    have hcv26 := Kd.C_string (P := Try.prog) (A := A0) (c := c0) Try.underlying28 Try.underlying5 Try.underlying9 (Kd.C_below HR0.out HB.out)
                    have hcz27_0 : wc.cell? ⟨gb386, 0, none⟩ = some (.int .u8 a2_0) := (blk_cell BK386.out 0).trans rfl
                    have hcz27_1 : wc.cell? ⟨gb386, 1, none⟩ = some (.int .u8 a2_1) := (blk_cell BK386.out 1).trans rfl
                    have hcz27_2 : wc.cell? ⟨gb386, 2, none⟩ = some (.int .i64 a2_2) := (blk_cell BK386.out 2).trans rfl
                    have hcz27_3 : wc.cell? ⟨gb386, 3, none⟩ = some (.slice A2_3 l2_3.length c2_3) := (blk_cell BK386.out 3).trans rfl
                    have hfz27_0 := blk_frozen BK386.out 0
                    have hfz27_1 := blk_frozen BK386.out 1
                    have hfz27_2 := blk_frozen BK386.out 2
                    have hfz27_3 := blk_frozen BK386.out 3
                    try go_wp2_with (first | ((with_reducible refine gate_callee (f := 9) rfl ?_); refine goesL_ (some 39) rfl rfl Try.func9 (by kernel_rfl) rfl #[.slice A0 l0.length c0, .agg #[.int .u8 a2_0, .int .u8 a2_1, .int .i64 a2_2, .slice A2_3 l2_3.length c2_3], .slice A3 l3.length c3] rfl (by (try simp only [List.map_toArray, List.map_cons, List.map_nil]); first | done | rfl | (simp only [List.length_drop, List.length_take]; rfl)) ?_; (with_reducible refine (sect_Put.calls _ _ l0 a2_0 a2_1 a2_2 _ _ l2_3 _ _ l3 t388 t391 _ ?side1 ?side2 ?side3 ?side4 ?side5 ?side6 A13.out).mono ?_); (case side1 => repeat (first | exact (Kd.C_below HR0.out HB.out) | (with_reducible refine Kd.C_alloc ?_ _) | (with_reducible refine Kd.C_drewN ?_ _) | (with_reducible refine Kd.C_drew ?_))); (case side2 => exact HC0.out); (case side3 => repeat (first | exact (Kd.C_below HR2_3.out HB.out) | (with_reducible refine Kd.C_alloc ?_ _) | (with_reducible refine Kd.C_drewN ?_ _) | (with_reducible refine Kd.C_drew ?_))); (case side4 => exact HC2_3.out); (case side5 => repeat (first | exact (Kd.C_below HR3.out HB.out) | (with_reducible refine Kd.C_alloc ?_ _) | (with_reducible refine Kd.C_drewN ?_ _) | (with_reducible refine Kd.C_drew ?_))); (case side6 => exact HC3.out); rintro e w28 ⟨v389, rfl, ho0, hb⟩; refine ⟨_, rfl, ?_⟩; have n0_ := Aside0.mk (Kd.R_lower ho0 (below_size (by repeat (first | (with_reducible first | exact HB.out | apply below_alloc | apply pw_below_drewN | apply below_drew1 | refine below_set ?_ GE386.out) | exact HB.out)))); have n1_ := Aside0.mk (blk_below (g := gb386) (o := .cells #[.int .u8 a2_0, .int .u8 a2_1, .int .i64 a2_2, .slice A2_3 l2_3.length c2_3] 24 (0, 0)) (by (with_reducible repeat (first | refine blk_drewN ?_ _ | refine blk_drew ?_ | refine blk_alloc ?_ _)); exact BK386.out) hb); have n2_ := Aside0.mk (below_step (by repeat (first | (with_reducible first | exact HB.out | apply below_alloc | apply pw_below_drewN | apply below_drew1 | refine below_set ?_ GE386.out) | exact HB.out)) hb); clear BK386; clear HB; have HO390 := n0_; have BK386 := n1_; have HB := n2_; clear n0_ n1_ n2_; (try clear hb); (try clear hb2); (try clear hk); (try clear hi); (try clear ho0); have hcz29_0 : w28.cell? ⟨gb386, 0, none⟩ = some (.int .u8 a2_0) := (blk_cell BK386.out 0).trans rfl; have hcz29_1 : w28.cell? ⟨gb386, 1, none⟩ = some (.int .u8 a2_1) := (blk_cell BK386.out 1).trans rfl; have hcz29_2 : w28.cell? ⟨gb386, 2, none⟩ = some (.int .i64 a2_2) := (blk_cell BK386.out 2).trans rfl; have hcz29_3 : w28.cell? ⟨gb386, 3, none⟩ = some (.slice A2_3 l2_3.length c2_3) := (blk_cell BK386.out 3).trans rfl; have hfz29_0 := blk_frozen BK386.out 0; have hfz29_1 := blk_frozen BK386.out 1; have hfz29_2 := blk_frozen BK386.out 2; have hfz29_3 := blk_frozen BK386.out 3) | ((with_reducible refine gate_callee (f := 13) rfl ?_); refine goesL_ (some 46) rfl rfl Try.func13 (by kernel_rfl) rfl #[.slice A0 l0.length c0, .agg #[.int .u8 a2_0, .int .u8 a2_1, .int .i64 a2_2, .slice A2_3 l2_3.length c2_3], .slice A3 l3.length c3] rfl (by (try simp only [List.map_toArray, List.map_cons, List.map_nil]); first | done | rfl | (simp only [List.length_drop, List.length_take]; rfl)) ?_; (with_reducible refine (reedpiperef19_Put.calls kj4 _ _ l0 a2_0 a2_1 a2_2 _ _ l2_3 _ _ l3 t392 t395 _ ?side1 ?side2 ?side3 ?side4 ?side5 ?side6 A14.out).mono ?_); (case side1 => repeat (first | exact (Kd.C_below HR0.out HB.out) | (with_reducible refine Kd.C_alloc ?_ _) | (with_reducible refine Kd.C_drewN ?_ _) | (with_reducible refine Kd.C_drew ?_))); (case side2 => exact HC0.out); (case side3 => repeat (first | exact (Kd.C_below HR2_3.out HB.out) | (with_reducible refine Kd.C_alloc ?_ _) | (with_reducible refine Kd.C_drewN ?_ _) | (with_reducible refine Kd.C_drew ?_))); (case side4 => exact HC2_3.out); (case side5 => repeat (first | exact (Kd.C_below HR3.out HB.out) | (with_reducible refine Kd.C_alloc ?_ _) | (with_reducible refine Kd.C_drewN ?_ _) | (with_reducible refine Kd.C_drew ?_))); (case side6 => exact HC3.out); rintro e w30 ⟨v393, rfl, ho0, hb⟩; refine ⟨_, rfl, ?_⟩; have n0_ := Aside0.mk (Kd.R_elder' (by (with_reducible repeat (first | apply Kd.R_alloc | apply Kd.R_drewN | apply Kd.R_drew)); exact HO390.out) (Kd.R_base ho0) hb); have n1_ := Aside0.mk (Kd.R_lower (Kd.R_new' ho0 (Kd.R_lt (by (with_reducible repeat (first | apply Kd.R_alloc | apply Kd.R_drewN | apply Kd.R_drew)); exact HO390.out))) (below_size (by repeat (first | (with_reducible first | exact HB.out | apply below_alloc | apply pw_below_drewN | apply below_drew1 | refine below_set ?_ GE386.out) | exact HB.out)))); have n2_ := Aside0.mk (blk_below (g := gb386) (o := .cells #[.int .u8 a2_0, .int .u8 a2_1, .int .i64 a2_2, .slice A2_3 l2_3.length c2_3] 24 (0, 0)) (by (with_reducible repeat (first | refine blk_drewN ?_ _ | refine blk_drew ?_ | refine blk_alloc ?_ _)); exact BK386.out) hb); have n3_ := Aside0.mk (below_step (by repeat (first | (with_reducible first | exact HB.out | apply below_alloc | apply pw_below_drewN | apply below_drew1 | refine below_set ?_ GE386.out) | exact HB.out)) hb); clear HO390; clear BK386; clear HB; have HO390 := n0_; have HO394 := n1_; have BK386 := n2_; have HB := n3_; clear n0_ n1_ n2_ n3_; (try clear hb); (try clear hb2); (try clear hk); (try clear hi); (try clear ho0); have hcz31_0 : w30.cell? ⟨gb386, 0, none⟩ = some (.int .u8 a2_0) := (blk_cell BK386.out 0).trans rfl; have hcz31_1 : w30.cell? ⟨gb386, 1, none⟩ = some (.int .u8 a2_1) := (blk_cell BK386.out 1).trans rfl; have hcz31_2 : w30.cell? ⟨gb386, 2, none⟩ = some (.int .i64 a2_2) := (blk_cell BK386.out 2).trans rfl; have hcz31_3 : w30.cell? ⟨gb386, 3, none⟩ = some (.slice A2_3 l2_3.length c2_3) := (blk_cell BK386.out 3).trans rfl; have hfz31_0 := blk_frozen BK386.out 0; have hfz31_1 := blk_frozen BK386.out 1; have hfz31_2 := blk_frozen BK386.out 2; have hfz31_3 := blk_frozen BK386.out 3) | ((with_reducible refine gate_callee (f := 11) rfl ?_); refine goesL_ (some 53) rfl rfl Try.func11 (by kernel_rfl) rfl #[.slice A0 l0.length c0, .int .i64 a1, .agg #[.int .u8 a2_0, .int .u8 a2_1, .int .i64 a2_2, .slice A2_3 l2_3.length c2_3]] rfl (by (try simp only [List.map_toArray, List.map_cons, List.map_nil]); first | done | rfl | (simp only [List.length_drop, List.length_take]; rfl)) ?_; (with_reducible refine (sect_Get.calls kj4 _ _ l0 a1 a2_0 a2_1 a2_2 _ _ l2_3 t396 t399 t400 _ ?side1 ?side2 ?side3 ?side4 A15.out).mono ?_); (case side1 => repeat (first | exact (Kd.C_below HR0.out HB.out) | (with_reducible refine Kd.C_alloc ?_ _) | (with_reducible refine Kd.C_drewN ?_ _) | (with_reducible refine Kd.C_drew ?_))); (case side2 => exact HC0.out); (case side3 => repeat (first | exact (Kd.C_below HR2_3.out HB.out) | (with_reducible refine Kd.C_alloc ?_ _) | (with_reducible refine Kd.C_drewN ?_ _) | (with_reducible refine Kd.C_drew ?_))); (case side4 => exact HC2_3.out); rintro e w32 ⟨v397, rfl, ho0, hb⟩; refine ⟨_, rfl, ?_⟩; have n0_ := Aside0.mk (Kd.R_below (by (with_reducible repeat (first | apply Kd.R_alloc | apply Kd.R_drewN | apply Kd.R_drew)); exact HO390.out) hb); have n1_ := Aside0.mk (Kd.R_below (by (with_reducible repeat (first | apply Kd.R_alloc | apply Kd.R_drewN | apply Kd.R_drew)); exact HO394.out) hb); have n2_ := Aside0.mk (Kd.S_lower ho0 (below_size (by repeat (first | (with_reducible first | exact HB.out | apply below_alloc | apply pw_below_drewN | apply below_drew1 | refine below_set ?_ GE386.out) | exact HB.out)))); have n3_ := Aside0.mk (blk_below (g := gb386) (o := .cells #[.int .u8 a2_0, .int .u8 a2_1, .int .i64 a2_2, .slice A2_3 l2_3.length c2_3] 24 (0, 0)) (by (with_reducible repeat (first | refine blk_drewN ?_ _ | refine blk_drew ?_ | refine blk_alloc ?_ _)); exact BK386.out) hb); have n4_ := Aside0.mk (below_step (by repeat (first | (with_reducible first | exact HB.out | apply below_alloc | apply pw_below_drewN | apply below_drew1 | refine below_set ?_ GE386.out) | exact HB.out)) hb); clear HO390; clear HO394; clear BK386; clear HB; have HO390 := n0_; have HO394 := n1_; have HO398 := n2_; have BK386 := n3_; have HB := n4_; clear n0_ n1_ n2_ n3_ n4_; (try clear hb); (try clear hb2); (try clear hk); (try clear hi); (try clear ho0); have hcz33_0 : w32.cell? ⟨gb386, 0, none⟩ = some (.int .u8 a2_0) := (blk_cell BK386.out 0).trans rfl; have hcz33_1 : w32.cell? ⟨gb386, 1, none⟩ = some (.int .u8 a2_1) := (blk_cell BK386.out 1).trans rfl; have hcz33_2 : w32.cell? ⟨gb386, 2, none⟩ = some (.int .i64 a2_2) := (blk_cell BK386.out 2).trans rfl; have hcz33_3 : w32.cell? ⟨gb386, 3, none⟩ = some (.slice A2_3 l2_3.length c2_3) := (blk_cell BK386.out 3).trans rfl; have hfz33_0 := blk_frozen BK386.out 0; have hfz33_1 := blk_frozen BK386.out 1; have hfz33_2 := blk_frozen BK386.out 2; have hfz33_3 := blk_frozen BK386.out 3) | ((with_reducible refine gate_callee (f := 14) rfl ?_); refine goesL_ (some 61) rfl rfl Try.func14 (by kernel_rfl) rfl #[.slice A0 l0.length c0, .int .i64 a1, .agg #[.int .u8 a2_0, .int .u8 a2_1, .int .i64 a2_2, .slice A2_3 l2_3.length c2_3]] rfl (by (try simp only [List.map_toArray, List.map_cons, List.map_nil]); first | done | rfl | (simp only [List.length_drop, List.length_take]; rfl)) ?_; (with_reducible refine (reedpiperef19_Get.calls kj4 _ _ l0 a1 a2_0 a2_1 a2_2 _ _ l2_3 t401 t404 t405 _ ?side1 ?side2 ?side3 ?side4 A16.out).mono ?_); (case side1 => repeat (first | exact (Kd.C_below HR0.out HB.out) | (with_reducible refine Kd.C_alloc ?_ _) | (with_reducible refine Kd.C_drewN ?_ _) | (with_reducible refine Kd.C_drew ?_))); (case side2 => exact HC0.out); (case side3 => repeat (first | exact (Kd.C_below HR2_3.out HB.out) | (with_reducible refine Kd.C_alloc ?_ _) | (with_reducible refine Kd.C_drewN ?_ _) | (with_reducible refine Kd.C_drew ?_))); (case side4 => exact HC2_3.out); rintro e w34 ⟨v402, rfl, ho0, hb⟩; refine ⟨_, rfl, ?_⟩; have n0_ := Aside0.mk (Kd.R_below (by (with_reducible repeat (first | apply Kd.R_alloc | apply Kd.R_drewN | apply Kd.R_drew)); exact HO390.out) hb); have n1_ := Aside0.mk (Kd.R_below (by (with_reducible repeat (first | apply Kd.R_alloc | apply Kd.R_drewN | apply Kd.R_drew)); exact HO394.out) hb); have n2_ := Aside0.mk (Kd.S_elder' (by (with_reducible repeat (first | apply Kd.S_alloc | apply Kd.S_drewN | apply Kd.S_drew)); exact HO398.out) (Kd.S_base ho0) hb); have n3_ := Aside0.mk (Kd.S_lower (Kd.S_new' ho0 (Kd.S_lt (by (with_reducible repeat (first | apply Kd.S_alloc | apply Kd.S_drewN | apply Kd.S_drew)); exact HO398.out))) (below_size (by repeat (first | (with_reducible first | exact HB.out | apply below_alloc | apply pw_below_drewN | apply below_drew1 | refine below_set ?_ GE386.out) | exact HB.out)))); have n4_ := Aside0.mk (blk_below (g := gb386) (o := .cells #[.int .u8 a2_0, .int .u8 a2_1, .int .i64 a2_2, .slice A2_3 l2_3.length c2_3] 24 (0, 0)) (by (with_reducible repeat (first | refine blk_drewN ?_ _ | refine blk_drew ?_ | refine blk_alloc ?_ _)); exact BK386.out) hb); have n5_ := Aside0.mk (below_step (by repeat (first | (with_reducible first | exact HB.out | apply below_alloc | apply pw_below_drewN | apply below_drew1 | refine below_set ?_ GE386.out) | exact HB.out)) hb); clear HO390; clear HO394; clear HO398; clear BK386; clear HB; have HO390 := n0_; have HO394 := n1_; have HO398 := n2_; have HO403 := n3_; have BK386 := n4_; have HB := n5_; clear n0_ n1_ n2_ n3_ n4_ n5_; (try clear hb); (try clear hb2); (try clear hk); (try clear hi); (try clear ho0); obtain ⟨Ao35, co35, eo35⟩ := Kd.S_slice HO398.out; subst eo35; obtain ⟨Ao36, co36, eo36⟩ := Kd.S_slice HO403.out; subst eo36))
                    have n0_ := Aside0.mk (Kd.R_drew HO390.out)
                    have n1_ := Aside0.mk (Kd.R_drew HO394.out)
                    have n2_ := Aside0.mk (Kd.S_drew HO398.out)
                    have n3_ := Aside0.mk (Kd.S_drew HO403.out)
                    have n4_ := Aside0.mk (blk_drew BK386.out)
                    have n5_ := Aside0.mk (below_drew1 HB.out)
                    clear HO390
                    clear HO394
                    clear HO398
                    clear HO403
                    clear BK386
                    clear HB
                    have HO390 := n0_
                    have HO394 := n1_
                    have HO398 := n2_
                    have HO403 := n3_
                    have BK386 := n4_
                    have HB := n5_
                    clear n0_ n1_ n2_ n3_ n4_ n5_
                    refine start_ (n := 41) (S := fun w' => w'.cell? ⟨gb386, 0, none⟩ = some (.int .u8 a2_0) ∧ w'.cell? ⟨gb386, 1, none⟩ = some (.int .u8 a2_1) ∧ w'.cell? ⟨gb386, 2, none⟩ = some (.int .i64 a2_2) ∧ w'.cell? ⟨gb386, 3, none⟩ = some (.slice A2_3 l2_3.length c2_3) ∧ (convert 28 9 (v389)).run Try.prog w' = .ok (.string (strOfNums t388)) w' ∧ (convert 28 9 (v393)).run Try.prog w' = .ok (.string (strOfNums t392)) w' ∧ (convert 28 9 (.slice A0 l0.length c0)).run Try.prog w' = .ok (.string (strOfNums l0)) w') (ds := []) #[false, false, false, false, false, false, false, false, false, false, false, false, false, false, false, false, false, false, false, false, false, false, false, false, false, false, false, false, false, false, false, false, false, false, false, false, false, false, false, false, false] (by kernel_rfl) rfl rfl ⟨(blk_cell BK386.out 0).trans rfl, (blk_cell BK386.out 1).trans rfl, (blk_cell BK386.out 2).trans rfl, (blk_cell BK386.out 3).trans rfl, own_string (P := Try.prog) Try.underlying28 Try.underlying5 Try.underlying9 (Kd.own_of_R (by first | (with_reducible exact HO390.out) | ((with_reducible repeat (first | apply Kd.R_drewN | apply Kd.R_drew | apply Kd.R_alloc)); exact HO390.out) | exact HO390.out)), own_string (P := Try.prog) Try.underlying28 Try.underlying5 Try.underlying9 (Kd.own_of_R (by first | (with_reducible exact HO394.out) | ((with_reducible repeat (first | apply Kd.R_drewN | apply Kd.R_drew | apply Kd.R_alloc)); exact HO394.out) | exact HO394.out)), Kd.C_string (P := Try.prog) (A := A0) (c := c0) Try.underlying28 Try.underlying5 Try.underlying9 (by first | (with_reducible exact (Kd.C_below HR0.out HB.out)) | ((with_reducible repeat (first | apply Kd.C_drewN | apply Kd.C_drew | apply Kd.C_alloc)); exact (Kd.C_below HR0.out HB.out)) | exact (Kd.C_below HR0.out HB.out))⟩ (fun hHeld => ?_); refine with_tabW reedpipelaw19_SectTells.tab8 reedpipelaw19_SectTells.bits8 (fun HT_ HW_ => ?_)
                    generalize w34.drew = w37 at HO390 HO394 HO398 HO403 BK386 HB hHeld ⊢
                    refine pure_ (i := 1) (N := some 66) (v := ?_) (a' := ?_) #[false, true, false, false, false, false, false, false, false, false, false, false, false, false, false, false, false, false, false, false, false, false, false, false, false, false, false, false, false, false, false, false, false, false, false, false, false, false, false, false, false] rfl rfl (any_of HT_.out (by kernel_rfl)) (fun _ _ _ h => h) (Or.inl ⟨by rfl, ?_⟩) ?_ ?_
                    rotate_left
                    · intro w'
                      go_simp
                      with_reducible rfl
                    rotate_left
                    · simp only [Act.put, List.setIfInBounds_toArray, List.set_cons_zero, List.set_cons_succ, i64_w, i32_w]
                      rfl
                    refine pure_ (i := 4) (N := some 69) (v := ?_) (a' := ?_) #[false, true, false, false, true, false, false, false, false, false, false, false, false, false, false, false, false, false, false, false, false, false, false, false, false, false, false, false, false, false, false, false, false, false, false, false, false, false, false, false, false] rfl rfl (any_of HT_.out (by kernel_rfl)) (fun _ _ _ h => h) (Or.inl ⟨by rfl, ?_⟩) ?_ ?_
                    rotate_left
                    · intro w'
                      go_simp
                      with_reducible rfl
                    rotate_left
                    · simp only [Act.put, List.setIfInBounds_toArray, List.set_cons_zero, List.set_cons_succ, i64_w, i32_w]
                      rfl
                    refine take_ (i := 0) (N := some 65) (v := ?_) (a' := ?_) #[true, true, false, false, true, false, false, false, false, false, false, false, false, false, false, false, false, false, false, false, false, false, false, false, false, false, false, false, false, false, false, false, false, false, false, false, false, false, false, false, false] rfl rfl (take_ofW HT_.out HW_.out (by kernel_rfl)) (fun _ _ _ h => h) (Or.inl ⟨by rfl, ?_⟩) hHeld ?_ ?_
                    rotate_left
                    · rintro w' ⟨s0, s1, s2, s3, s4, s5, s6⟩
                      go_simp
                      with_reducible rfl
                    rotate_left
                    · simp only [Act.put, List.setIfInBounds_toArray, List.set_cons_zero, List.set_cons_succ, i64_w, i32_w]
                      rfl
                    refine take_ (i := 3) (N := some 68) (v := ?_) (a' := ?_) #[true, true, false, true, true, false, false, false, false, false, false, false, false, false, false, false, false, false, false, false, false, false, false, false, false, false, false, false, false, false, false, false, false, false, false, false, false, false, false, false, false] rfl rfl (take_ofW HT_.out HW_.out (by kernel_rfl)) (fun _ _ _ h => h) (Or.inl ⟨by rfl, ?_⟩) hHeld ?_ ?_
                    rotate_left
                    · rintro w' ⟨s0, s1, s2, s3, s4, s5, s6⟩
                      go_simp
                      with_reducible rfl
                    rotate_left
                    · simp only [Act.put, List.setIfInBounds_toArray, List.set_cons_zero, List.set_cons_succ, i64_w, i32_w]
                      rfl
                    refine one_ (i := 2) (N := some 67) #[true, true, true, true, true, false, false, false, false, false, false, false, false, false, false, false, false, false, false, false, false, false, false, false, false, false, false, false, false, false, false, false, false, false, false, false, false, false, false, false, false] rfl rfl (one_of HT_.out (by kernel_rfl)) (by decide) (fun K hK => ?_)
                    refine goes_ Try.func15 (by kernel_rfl) rfl #[.agg #[.int .u8 a2_0, .int .u8 a2_1, .int .i64 a2_2, .slice A2_3 l2_3.length c2_3], .slice A3 l3.length c3] (by rfl) rfl rfl (by (try simp only [List.map_toArray, List.map_cons, List.map_nil]); first | done | rfl | (simp only [List.length_drop, List.length_take]; rfl)) ?_
                    with_reducible refine (sect_Check.calls kj4 a2_0 a2_1 a2_2 _ _ l2_3 _ _ l3 t406 _ ?side1 ?side2 ?side3 ?side4 A17.out).mono ?_
                    (case side1 => repeat (first | exact (Kd.C_below HR2_3.out HB.out) | (with_reducible refine Kd.C_alloc ?_ _) | (with_reducible refine Kd.C_drewN ?_ _) | (with_reducible refine Kd.C_drew ?_)))
                    (case side2 => exact HC2_3.out)
                    (case side3 => repeat (first | exact (Kd.C_below HR3.out HB.out) | (with_reducible refine Kd.C_alloc ?_ _) | (with_reducible refine Kd.C_drewN ?_ _) | (with_reducible refine Kd.C_drew ?_)))
                    (case side4 => exact HC3.out)
                    rintro e w38 ⟨rfl, hb⟩
                    refine ⟨_, rfl, ?_⟩
                    have n0_ := Aside0.mk (Kd.R_below (by (with_reducible repeat (first | apply Kd.R_alloc | apply Kd.R_drewN | apply Kd.R_drew)); exact HO390.out) hb)
                    have n1_ := Aside0.mk (Kd.R_below (by (with_reducible repeat (first | apply Kd.R_alloc | apply Kd.R_drewN | apply Kd.R_drew)); exact HO394.out) hb)
                    have n2_ := Aside0.mk (Kd.S_below (by (with_reducible repeat (first | apply Kd.S_alloc | apply Kd.S_drewN | apply Kd.S_drew)); exact HO398.out) hb)
                    have n3_ := Aside0.mk (Kd.S_below (by (with_reducible repeat (first | apply Kd.S_alloc | apply Kd.S_drewN | apply Kd.S_drew)); exact HO403.out) hb)
                    have n4_ := Aside0.mk (blk_below (g := gb386) (o := .cells #[.int .u8 a2_0, .int .u8 a2_1, .int .i64 a2_2, .slice A2_3 l2_3.length c2_3] 24 (0, 0)) (by (with_reducible repeat (first | refine blk_drewN ?_ _ | refine blk_drew ?_ | refine blk_alloc ?_ _)); exact BK386.out) hb)
                    have n5_ := Aside0.mk (below_step (by repeat (first | (with_reducible first | exact HB.out | apply below_alloc | apply pw_below_drewN | apply below_drew1 | refine below_set ?_ GE386.out) | exact HB.out)) hb)
                    clear HO390
                    clear HO394
                    clear HO398
                    clear HO403
                    clear BK386
                    clear HB
                    have HO390 := n0_
                    have HO394 := n1_
                    have HO398 := n2_
                    have HO403 := n3_
                    have BK386 := n4_
                    have HB := n5_
                    clear n0_ n1_ n2_ n3_ n4_ n5_
                    (try clear hb)
                    (try clear hb2)
                    (try clear hk)
                    (try clear hi)
                    refine hK.out _ _ ⟨(blk_cell BK386.out 0).trans rfl, (blk_cell BK386.out 1).trans rfl, (blk_cell BK386.out 2).trans rfl, (blk_cell BK386.out 3).trans rfl, own_string (P := Try.prog) Try.underlying28 Try.underlying5 Try.underlying9 (Kd.own_of_R (by first | (with_reducible exact HO390.out) | ((with_reducible repeat (first | apply Kd.R_drewN | apply Kd.R_drew | apply Kd.R_alloc)); exact HO390.out) | exact HO390.out)), own_string (P := Try.prog) Try.underlying28 Try.underlying5 Try.underlying9 (Kd.own_of_R (by first | (with_reducible exact HO394.out) | ((with_reducible repeat (first | apply Kd.R_drewN | apply Kd.R_drew | apply Kd.R_alloc)); exact HO394.out) | exact HO394.out)), Kd.C_string (P := Try.prog) (A := A0) (c := c0) Try.underlying28 Try.underlying5 Try.underlying9 (by first | (with_reducible exact (Kd.C_below HR0.out HB.out)) | ((with_reducible repeat (first | apply Kd.C_drewN | apply Kd.C_drew | apply Kd.C_alloc)); exact (Kd.C_below HR0.out HB.out)) | exact (Kd.C_below HR0.out HB.out))⟩ (fun hHeld => ?_)
                    clear hK K
                    refine norm_ (a' := ?_) ?_ ?_
                    rotate_left
                    · show Act.put _ (some 67) _ = _
                      simp only [Act.put, List.setIfInBounds_toArray, List.set_cons_zero, List.set_cons_succ, i64_w, i32_w]
                      rfl
                    refine one_ (i := 5) (N := some 70) #[true, true, true, true, true, true, false, false, false, false, false, false, false, false, false, false, false, false, false, false, false, false, false, false, false, false, false, false, false, false, false, false, false, false, false, false, false, false, false, false, false] rfl rfl (one_of HT_.out (by kernel_rfl)) (by decide) (fun K hK => ?_)
                    refine goes_ Try.func16 (by kernel_rfl) rfl #[.agg #[.int .u8 a2_0, .int .u8 a2_1, .int .i64 a2_2, .slice A2_3 l2_3.length c2_3], .slice A3 l3.length c3] (by rfl) rfl rfl (by (try simp only [List.map_toArray, List.map_cons, List.map_nil]); first | done | rfl | (simp only [List.length_drop, List.length_take]; rfl)) ?_
                    with_reducible refine (reedpiperef19_Check.calls kj4 a2_0 a2_1 a2_2 _ _ l2_3 _ _ l3 t407 _ ?side1 ?side2 ?side3 ?side4 A18.out).mono ?_
                    (case side1 => repeat (first | exact (Kd.C_below HR2_3.out HB.out) | (with_reducible refine Kd.C_alloc ?_ _) | (with_reducible refine Kd.C_drewN ?_ _) | (with_reducible refine Kd.C_drew ?_)))
                    (case side2 => exact HC2_3.out)
                    (case side3 => repeat (first | exact (Kd.C_below HR3.out HB.out) | (with_reducible refine Kd.C_alloc ?_ _) | (with_reducible refine Kd.C_drewN ?_ _) | (with_reducible refine Kd.C_drew ?_)))
                    (case side4 => exact HC3.out)
                    rintro e w39 ⟨rfl, hb⟩
                    refine ⟨_, rfl, ?_⟩
                    have n0_ := Aside0.mk (Kd.R_below (by (with_reducible repeat (first | apply Kd.R_alloc | apply Kd.R_drewN | apply Kd.R_drew)); exact HO390.out) hb)
                    have n1_ := Aside0.mk (Kd.R_below (by (with_reducible repeat (first | apply Kd.R_alloc | apply Kd.R_drewN | apply Kd.R_drew)); exact HO394.out) hb)
                    have n2_ := Aside0.mk (Kd.S_below (by (with_reducible repeat (first | apply Kd.S_alloc | apply Kd.S_drewN | apply Kd.S_drew)); exact HO398.out) hb)
                    have n3_ := Aside0.mk (Kd.S_below (by (with_reducible repeat (first | apply Kd.S_alloc | apply Kd.S_drewN | apply Kd.S_drew)); exact HO403.out) hb)
                    have n4_ := Aside0.mk (blk_below (g := gb386) (o := .cells #[.int .u8 a2_0, .int .u8 a2_1, .int .i64 a2_2, .slice A2_3 l2_3.length c2_3] 24 (0, 0)) (by (with_reducible repeat (first | refine blk_drewN ?_ _ | refine blk_drew ?_ | refine blk_alloc ?_ _)); exact BK386.out) hb)
                    have n5_ := Aside0.mk (below_step (by repeat (first | (with_reducible first | exact HB.out | apply below_alloc | apply pw_below_drewN | apply below_drew1 | refine below_set ?_ GE386.out) | exact HB.out)) hb)
                    clear HO390
                    clear HO394
                    clear HO398
                    clear HO403
                    clear BK386
                    clear HB
                    have HO390 := n0_
                    have HO394 := n1_
                    have HO398 := n2_
                    have HO403 := n3_
                    have BK386 := n4_
                    have HB := n5_
                    clear n0_ n1_ n2_ n3_ n4_ n5_
                    (try clear hb)
                    (try clear hb2)
                    (try clear hk)
                    (try clear hi)
                    refine hK.out _ _ ⟨(blk_cell BK386.out 0).trans rfl, (blk_cell BK386.out 1).trans rfl, (blk_cell BK386.out 2).trans rfl, (blk_cell BK386.out 3).trans rfl, own_string (P := Try.prog) Try.underlying28 Try.underlying5 Try.underlying9 (Kd.own_of_R (by first | (with_reducible exact HO390.out) | ((with_reducible repeat (first | apply Kd.R_drewN | apply Kd.R_drew | apply Kd.R_alloc)); exact HO390.out) | exact HO390.out)), own_string (P := Try.prog) Try.underlying28 Try.underlying5 Try.underlying9 (Kd.own_of_R (by first | (with_reducible exact HO394.out) | ((with_reducible repeat (first | apply Kd.R_drewN | apply Kd.R_drew | apply Kd.R_alloc)); exact HO394.out) | exact HO394.out)), Kd.C_string (P := Try.prog) (A := A0) (c := c0) Try.underlying28 Try.underlying5 Try.underlying9 (by first | (with_reducible exact (Kd.C_below HR0.out HB.out)) | ((with_reducible repeat (first | apply Kd.C_drewN | apply Kd.C_drew | apply Kd.C_alloc)); exact (Kd.C_below HR0.out HB.out)) | exact (Kd.C_below HR0.out HB.out))⟩ (fun hHeld => ?_)
                    clear hK K
                    refine norm_ (a' := ?_) ?_ ?_
                    rotate_left
                    · show Act.put _ (some 70) _ = _
                      simp only [Act.put, List.setIfInBounds_toArray, List.set_cons_zero, List.set_cons_succ, i64_w, i32_w]
                      rfl
                    refine pure_ (i := 6) (N := some 71) (v := ?_) (a' := ?_) #[true, true, true, true, true, true, true, false, false, false, false, false, false, false, false, false, false, false, false, false, false, false, false, false, false, false, false, false, false, false, false, false, false, false, false, false, false, false, false, false, false] rfl rfl (any_of HT_.out (by kernel_rfl)) (fun _ _ _ h => h) (Or.inl ⟨by rfl, ?_⟩) ?_ ?_
                    rotate_left
                    · intro w'
                      go_simp
                      with_reducible rfl
                    rotate_left
                    · simp only [Act.put, List.setIfInBounds_toArray, List.set_cons_zero, List.set_cons_succ, i64_w, i32_w]
                      rfl
                    refine pure_ (i := 7) (N := some 72) (v := ?_) (a' := ?_) #[true, true, true, true, true, true, true, true, false, false, false, false, false, false, false, false, false, false, false, false, false, false, false, false, false, false, false, false, false, false, false, false, false, false, false, false, false, false, false, false, false] rfl rfl (any_of HT_.out (by kernel_rfl)) (fun _ _ _ h => h) (Or.inl ⟨by rfl, ?_⟩) ?_ ?_
                    rotate_left
                    · intro w'
                      go_simp
                      with_reducible rfl
                    rotate_left
                    · simp only [Act.put, List.setIfInBounds_toArray, List.set_cons_zero, List.set_cons_succ, i64_w, i32_w]
                      rfl
                    refine pure_ (i := 8) (N := some 73) (v := ?_) (a' := ?_) #[true, true, true, true, true, true, true, true, true, false, false, false, false, false, false, false, false, false, false, false, false, false, false, false, false, false, false, false, false, false, false, false, false, false, false, false, false, false, false, false, false] rfl rfl (any_of HT_.out (by kernel_rfl)) (fun _ _ _ h => h) (Or.inl ⟨by rfl, ?_⟩) ?_ ?_
                    rotate_left
                    · intro w'
                      go_simp
                      with_reducible rfl
                    rotate_left
                    · simp only [Act.put, List.setIfInBounds_toArray, List.set_cons_zero, List.set_cons_succ, i64_w, i32_w]
                      rfl
                    refine pure_ (i := 10) (N := some 75) (v := ?_) (a' := ?_) #[true, true, true, true, true, true, true, true, true, false, true, false, false, false, false, false, false, false, false, false, false, false, false, false, false, false, false, false, false, false, false, false, false, false, false, false, false, false, false, false, false] rfl rfl (any_of HT_.out (by kernel_rfl)) (fun _ _ _ h => h) (Or.inl ⟨by rfl, ?_⟩) ?_ ?_
                    rotate_left
                    · intro w'
                      go_simp
                      with_reducible rfl
                    rotate_left
                    · simp only [Act.put, List.setIfInBounds_toArray, List.set_cons_zero, List.set_cons_succ, i64_w, i32_w]
                      rfl
                    refine take_ (i := 9) (N := some 74) (v := ?_) (a' := ?_) #[true, true, true, true, true, true, true, true, true, true, true, false, false, false, false, false, false, false, false, false, false, false, false, false, false, false, false, false, false, false, false, false, false, false, false, false, false, false, false, false, false] rfl rfl (take_ofW HT_.out HW_.out (by kernel_rfl)) (fun _ _ _ h => h) (Or.inl ⟨by rfl, ?_⟩) hHeld ?_ ?_
                    rotate_left
                    · rintro w' ⟨s0, s1, s2, s3, s4, s5, s6⟩
                      go_simp
                      with_reducible rfl
                    rotate_left
                    · simp only [Act.put, List.setIfInBounds_toArray, List.set_cons_zero, List.set_cons_succ, i64_w, i32_w]
                      rfl
                    refine take_ (i := 11) (N := some 76) (v := ?_) (a' := ?_) #[true, true, true, true, true, true, true, true, true, true, true, true, false, false, false, false, false, false, false, false, false, false, false, false, false, false, false, false, false, false, false, false, false, false, false, false, false, false, false, false, false] rfl rfl (take_ofW HT_.out HW_.out (by kernel_rfl)) (fun _ _ _ h => h) (Or.inl ⟨by rfl, ?_⟩) hHeld ?_ ?_
                    rotate_left
                    · rintro w' ⟨s0, s1, s2, s3, s4, s5, s6⟩
                      go_simp
                      with_reducible rfl
                    rotate_left
                    · simp only [Act.put, List.setIfInBounds_toArray, List.set_cons_zero, List.set_cons_succ, i64_w, i32_w]
                      rfl
                    refine pure_ (i := 12) (N := some 77) (v := ?_) (a' := ?_) #[true, true, true, true, true, true, true, true, true, true, true, true, true, false, false, false, false, false, false, false, false, false, false, false, false, false, false, false, false, false, false, false, false, false, false, false, false, false, false, false, false] rfl rfl (any_of HT_.out (by kernel_rfl)) (fun _ _ _ h => h) (Or.inl ⟨by rfl, ?_⟩) ?_ ?_
                    rotate_left
                    · intro w'
                      go_simp
                      with_reducible rfl
                    rotate_left
                    · simp only [Act.put, List.setIfInBounds_toArray, List.set_cons_zero, List.set_cons_succ, i64_w, i32_w]
                      rfl
                    refine pure_ (i := 13) (N := some 78) (v := ?_) (a' := ?_) #[true, true, true, true, true, true, true, true, true, true, true, true, true, true, false, false, false, false, false, false, false, false, false, false, false, false, false, false, false, false, false, false, false, false, false, false, false, false, false, false, false] rfl rfl (any_of HT_.out (by kernel_rfl)) (fun _ _ _ h => h) (Or.inl ⟨by rfl, ?_⟩) ?_ ?_
                    rotate_left
                    · intro w'
                      go_simp
                      with_reducible rfl
                    rotate_left
                    · simp only [Act.put, List.setIfInBounds_toArray, List.set_cons_zero, List.set_cons_succ, i64_w, i32_w]
                      rfl
                    refine pure_ (i := 14) (N := some 79) (v := ?_) (a' := ?_) #[true, true, true, true, true, true, true, true, true, true, true, true, true, true, true, false, false, false, false, false, false, false, false, false, false, false, false, false, false, false, false, false, false, false, false, false, false, false, false, false, false] rfl rfl (any_of HT_.out (by kernel_rfl)) (fun _ _ _ h => h) (Or.inl ⟨by rfl, ?_⟩) ?_ ?_
                    rotate_left
                    · intro w'
                      go_simp
                      with_reducible rfl
                    rotate_left
                    · simp only [Act.put, List.setIfInBounds_toArray, List.set_cons_zero, List.set_cons_succ, i64_w, i32_w]
                      rfl
                    refine pure_ (i := 15) (N := some 80) (v := ?_) (a' := ?_) #[true, true, true, true, true, true, true, true, true, true, true, true, true, true, true, true, false, false, false, false, false, false, false, false, false, false, false, false, false, false, false, false, false, false, false, false, false, false, false, false, false] rfl rfl (any_of HT_.out (by kernel_rfl)) (fun _ _ _ h => h) (Or.inl ⟨by rfl, ?_⟩) ?_ ?_
                    rotate_left
                    · intro w'
                      go_simp
                      with_reducible rfl
                    rotate_left
                    · simp only [Act.put, List.setIfInBounds_toArray, List.set_cons_zero, List.set_cons_succ, i64_w, i32_w]
                      rfl
                    refine pure_ (i := 16) (N := some 81) (v := ?_) (a' := ?_) #[true, true, true, true, true, true, true, true, true, true, true, true, true, true, true, true, true, false, false, false, false, false, false, false, false, false, false, false, false, false, false, false, false, false, false, false, false, false, false, false, false] rfl rfl (any_of HT_.out (by kernel_rfl)) (fun _ _ _ h => h) (Or.inl ⟨by rfl, ?_⟩) ?_ ?_
                    rotate_left
                    · intro w'
                      go_simp
                      with_reducible rfl
                    rotate_left
                    · simp only [Act.put, List.setIfInBounds_toArray, List.set_cons_zero, List.set_cons_succ, i64_w, i32_w]
                      rfl
                    refine pure_ (i := 17) (N := some 82) (v := ?_) (a' := ?_) #[true, true, true, true, true, true, true, true, true, true, true, true, true, true, true, true, true, true, false, false, false, false, false, false, false, false, false, false, false, false, false, false, false, false, false, false, false, false, false, false, false] rfl rfl (any_of HT_.out (by kernel_rfl)) (fun _ _ _ h => h) (Or.inl ⟨by rfl, ?_⟩) ?_ ?_
                    rotate_left
                    · intro w'
                      go_simp
                      with_reducible rfl
                    rotate_left
                    · simp only [Act.put, List.setIfInBounds_toArray, List.set_cons_zero, List.set_cons_succ, i64_w, i32_w]
                      rfl
                    refine pure_ (i := 18) (N := some 83) (v := ?_) (a' := ?_) #[true, true, true, true, true, true, true, true, true, true, true, true, true, true, true, true, true, true, true, false, false, false, false, false, false, false, false, false, false, false, false, false, false, false, false, false, false, false, false, false, false] rfl rfl (any_of HT_.out (by kernel_rfl)) (fun _ _ _ h => h) (Or.inl ⟨by rfl, ?_⟩) ?_ ?_
                    rotate_left
                    · intro w'
                      go_simp
                      with_reducible rfl
                    rotate_left
                    · simp only [Act.put, List.setIfInBounds_toArray, List.set_cons_zero, List.set_cons_succ, i64_w, i32_w]
                      rfl
                    refine pure_ (i := 19) (N := some 84) (v := ?_) (a' := ?_) #[true, true, true, true, true, true, true, true, true, true, true, true, true, true, true, true, true, true, true, true, false, false, false, false, false, false, false, false, false, false, false, false, false, false, false, false, false, false, false, false, false] rfl rfl (any_of HT_.out (by kernel_rfl)) (fun _ _ _ h => h) (Or.inl ⟨by rfl, ?_⟩) ?_ ?_
                    rotate_left
                    · intro w'
                      go_simp
                      with_reducible rfl
                    rotate_left
                    · simp only [Act.put, List.setIfInBounds_toArray, List.set_cons_zero, List.set_cons_succ, i64_w, i32_w]
                      rfl
                    refine pure_ (i := 20) (N := some 85) (v := ?_) (a' := ?_) #[true, true, true, true, true, true, true, true, true, true, true, true, true, true, true, true, true, true, true, true, true, false, false, false, false, false, false, false, false, false, false, false, false, false, false, false, false, false, false, false, false] rfl rfl (any_of HT_.out (by kernel_rfl)) (fun _ _ _ h => h) (Or.inl ⟨by rfl, ?_⟩) ?_ ?_
                    rotate_left
                    · intro w'
                      go_simp
                      with_reducible rfl
                    rotate_left
                    · simp only [Act.put, List.setIfInBounds_toArray, List.set_cons_zero, List.set_cons_succ, i64_w, i32_w]
                      rfl
                    refine pure_ (i := 21) (N := some 86) (v := ?_) (a' := ?_) #[true, true, true, true, true, true, true, true, true, true, true, true, true, true, true, true, true, true, true, true, true, true, false, false, false, false, false, false, false, false, false, false, false, false, false, false, false, false, false, false, false] rfl rfl (any_of HT_.out (by kernel_rfl)) (fun _ _ _ h => h) (Or.inl ⟨by rfl, ?_⟩) ?_ ?_
                    rotate_left
                    · intro w'
                      go_simp
                      with_reducible rfl
                    rotate_left
                    · simp only [Act.put, List.setIfInBounds_toArray, List.set_cons_zero, List.set_cons_succ, i64_w, i32_w]
                      rfl
                    refine one_ (i := 22) (N := some 87) #[true, true, true, true, true, true, true, true, true, true, true, true, true, true, true, true, true, true, true, true, true, true, true, false, false, false, false, false, false, false, false, false, false, false, false, false, false, false, false, false, false] rfl rfl (one_of HT_.out (by kernel_rfl)) (by decide) (fun K hK => ?_)
                    refine goes_ Try.func17 (by kernel_rfl) rfl #[.slice Ao35 t396.length co35, .slice Ao36 t401.length co36] (by rfl) rfl rfl (by (try simp only [List.map_toArray, List.map_cons, List.map_nil]); first | done | rfl | (simp only [List.length_drop, List.length_take]; rfl)) ?_
                    with_reducible refine (reedpiperef18_SameSections.calls kj4 _ _ t396 _ _ t401 true _ ?side1 ?side2 ?side3 ?side4 A22.out).mono ?_
                    (case side1 => repeat (first | exact (Kd.S_reads' HO398.out).2.2 | (with_reducible refine Kd.C_alloc ?_ _) | (with_reducible refine Kd.C_drewN ?_ _) | (with_reducible refine Kd.C_drew ?_)))
                    (case side2 => exact (Kd.S_reads' HO398.out).2.1)
                    (case side3 => repeat (first | exact (Kd.S_reads' HO403.out).2.2 | (with_reducible refine Kd.C_alloc ?_ _) | (with_reducible refine Kd.C_drewN ?_ _) | (with_reducible refine Kd.C_drew ?_)))
                    (case side4 => exact (Kd.S_reads' HO403.out).2.1)
                    rintro e w' ⟨rfl, ⟨nd, rfl⟩⟩
                    refine ⟨_, rfl, ?_⟩
                    refine hK.out _ _ ⟨(blk_cell BK386.out 0).trans rfl, (blk_cell BK386.out 1).trans rfl, (blk_cell BK386.out 2).trans rfl, (blk_cell BK386.out 3).trans rfl, own_string (P := Try.prog) Try.underlying28 Try.underlying5 Try.underlying9 (Kd.own_of_R (by first | (with_reducible exact HO390.out) | ((with_reducible repeat (first | apply Kd.R_drewN | apply Kd.R_drew | apply Kd.R_alloc)); exact HO390.out) | exact HO390.out)), own_string (P := Try.prog) Try.underlying28 Try.underlying5 Try.underlying9 (Kd.own_of_R (by first | (with_reducible exact HO394.out) | ((with_reducible repeat (first | apply Kd.R_drewN | apply Kd.R_drew | apply Kd.R_alloc)); exact HO394.out) | exact HO394.out)), Kd.C_string (P := Try.prog) (A := A0) (c := c0) Try.underlying28 Try.underlying5 Try.underlying9 (by first | (with_reducible exact (Kd.C_below HR0.out HB.out)) | ((with_reducible repeat (first | apply Kd.C_drewN | apply Kd.C_drew | apply Kd.C_alloc)); exact (Kd.C_below HR0.out HB.out)) | exact (Kd.C_below HR0.out HB.out))⟩ (fun hHeld => ?_)
                    clear hK K
                    refine norm_ (a' := ?_) ?_ ?_
                    rotate_left
                    · show Act.put _ (some 87) _ = _
                      simp only [Act.put, List.setIfInBounds_toArray, List.set_cons_zero, List.set_cons_succ, i64_w, i32_w]
                      rfl
                    refine pure_ (i := 23) (N := some 88) (v := ?_) (a' := ?_) #[true, true, true, true, true, true, true, true, true, true, true, true, true, true, true, true, true, true, true, true, true, true, true, true, false, false, false, false, false, false, false, false, false, false, false, false, false, false, false, false, false] rfl rfl (any_of HT_.out (by kernel_rfl)) (fun _ _ _ h => h) (Or.inl ⟨by rfl, ?_⟩) ?_ ?_
                    rotate_left
                    · intro w'
                      go_simp
                      with_reducible rfl
                    rotate_left
                    · simp only [Act.put, List.setIfInBounds_toArray, List.set_cons_zero, List.set_cons_succ, i64_w, i32_w]
                      rfl
                    refine pure_ (i := 24) (N := some 89) (v := ?_) (a' := ?_) #[true, true, true, true, true, true, true, true, true, true, true, true, true, true, true, true, true, true, true, true, true, true, true, true, true, false, false, false, false, false, false, false, false, false, false, false, false, false, false, false, false] rfl rfl (any_of HT_.out (by kernel_rfl)) (fun _ _ _ h => h) (Or.inl ⟨by rfl, ?_⟩) ?_ ?_
                    rotate_left
                    · intro w'
                      go_simp
                      with_reducible rfl
                    rotate_left
                    · simp only [Act.put, List.setIfInBounds_toArray, List.set_cons_zero, List.set_cons_succ, i64_w, i32_w]
                      rfl
                    refine pure_ (i := 25) (N := some 90) (v := ?_) (a' := ?_) #[true, true, true, true, true, true, true, true, true, true, true, true, true, true, true, true, true, true, true, true, true, true, true, true, true, true, false, false, false, false, false, false, false, false, false, false, false, false, false, false, false] rfl rfl (any_of HT_.out (by kernel_rfl)) (fun _ _ _ h => h) (Or.inl ⟨by rfl, ?_⟩) ?_ ?_
                    rotate_left
                    · intro w'
                      go_simp
                      with_reducible rfl
                    rotate_left
                    · simp only [Act.put, List.setIfInBounds_toArray, List.set_cons_zero, List.set_cons_succ, i64_w, i32_w]
                      rfl
                    refine pure_ (i := 26) (N := some 91) (v := ?_) (a' := ?_) #[true, true, true, true, true, true, true, true, true, true, true, true, true, true, true, true, true, true, true, true, true, true, true, true, true, true, true, false, false, false, false, false, false, false, false, false, false, false, false, false, false] rfl rfl (any_of HT_.out (by kernel_rfl)) (fun _ _ _ h => h) (Or.inl ⟨by rfl, ?_⟩) ?_ ?_
                    rotate_left
                    · intro w'
                      go_simp
                      with_reducible rfl
                    rotate_left
                    · simp only [Act.put, List.setIfInBounds_toArray, List.set_cons_zero, List.set_cons_succ, i64_w, i32_w]
                      rfl
                    refine pure_ (i := 27) (N := some 92) (v := ?_) (a' := ?_) #[true, true, true, true, true, true, true, true, true, true, true, true, true, true, true, true, true, true, true, true, true, true, true, true, true, true, true, true, false, false, false, false, false, false, false, false, false, false, false, false, false] rfl rfl (any_of HT_.out (by kernel_rfl)) (fun _ _ _ h => h) (Or.inl ⟨by rfl, ?_⟩) ?_ ?_
                    rotate_left
                    · intro w'
                      go_simp
                      with_reducible rfl
                    rotate_left
                    · simp only [Act.put, List.setIfInBounds_toArray, List.set_cons_zero, List.set_cons_succ, i64_w, i32_w]
                      rfl
                    refine pure_ (i := 28) (N := some 93) (v := ?_) (a' := ?_) #[true, true, true, true, true, true, true, true, true, true, true, true, true, true, true, true, true, true, true, true, true, true, true, true, true, true, true, true, true, false, false, false, false, false, false, false, false, false, false, false, false] rfl rfl (any_of HT_.out (by kernel_rfl)) (fun _ _ _ h => h) (Or.inl ⟨by rfl, ?_⟩) ?_ ?_
                    rotate_left
                    · intro w'
                      go_simp
                      with_reducible rfl
                    rotate_left
                    · simp only [Act.put, List.setIfInBounds_toArray, List.set_cons_zero, List.set_cons_succ, i64_w, i32_w]
                      rfl
                    refine pure_ (i := 29) (N := some 94) (v := ?_) (a' := ?_) #[true, true, true, true, true, true, true, true, true, true, true, true, true, true, true, true, true, true, true, true, true, true, true, true, true, true, true, true, true, true, false, false, false, false, false, false, false, false, false, false, false] rfl rfl (any_of HT_.out (by kernel_rfl)) (fun _ _ _ h => h) (Or.inl ⟨by rfl, ?_⟩) ?_ ?_
                    rotate_left
                    · intro w'
                      go_simp
                      with_reducible rfl
                    rotate_left
                    · simp only [Act.put, List.setIfInBounds_toArray, List.set_cons_zero, List.set_cons_succ, i64_w, i32_w]
                      rfl
                    refine pure_ (i := 30) (N := some 95) (v := ?_) (a' := ?_) #[true, true, true, true, true, true, true, true, true, true, true, true, true, true, true, true, true, true, true, true, true, true, true, true, true, true, true, true, true, true, true, false, false, false, false, false, false, false, false, false, false] rfl rfl (any_of HT_.out (by kernel_rfl)) (fun _ _ _ h => h) (Or.inl ⟨by rfl, ?_⟩) ?_ ?_
                    rotate_left
                    · intro w'
                      go_simp
                      with_reducible rfl
                    rotate_left
                    · simp only [Act.put, List.setIfInBounds_toArray, List.set_cons_zero, List.set_cons_succ, i64_w, i32_w]
                      rfl
                    refine pure_ (i := 31) (N := some 96) (v := ?_) (a' := ?_) #[true, true, true, true, true, true, true, true, true, true, true, true, true, true, true, true, true, true, true, true, true, true, true, true, true, true, true, true, true, true, true, true, false, false, false, false, false, false, false, false, false] rfl rfl (any_of HT_.out (by kernel_rfl)) (fun _ _ _ h => h) (Or.inl ⟨by rfl, ?_⟩) ?_ ?_
                    rotate_left
                    · intro w'
                      go_simp
                      with_reducible rfl
                    rotate_left
                    · simp only [Act.put, List.setIfInBounds_toArray, List.set_cons_zero, List.set_cons_succ, i64_w, i32_w]
                      rfl
                    refine pure_ (i := 32) (N := some 97) (v := ?_) (a' := ?_) #[true, true, true, true, true, true, true, true, true, true, true, true, true, true, true, true, true, true, true, true, true, true, true, true, true, true, true, true, true, true, true, true, true, false, false, false, false, false, false, false, false] rfl rfl (any_of HT_.out (by kernel_rfl)) (fun _ _ _ h => h) (Or.inl ⟨by rfl, ?_⟩) ?_ ?_
                    rotate_left
                    · intro w'
                      go_simp
                      with_reducible rfl
                    rotate_left
                    · simp only [Act.put, List.setIfInBounds_toArray, List.set_cons_zero, List.set_cons_succ, i64_w, i32_w]
                      rfl
                    refine pure_ (i := 33) (N := some 98) (v := ?_) (a' := ?_) #[true, true, true, true, true, true, true, true, true, true, true, true, true, true, true, true, true, true, true, true, true, true, true, true, true, true, true, true, true, true, true, true, true, true, false, false, false, false, false, false, false] rfl rfl (any_of HT_.out (by kernel_rfl)) (fun _ _ _ h => h) (Or.inl ⟨by rfl, ?_⟩) ?_ ?_
                    rotate_left
                    · intro w'
                      go_simp
                      with_reducible rfl
                    rotate_left
                    · simp only [Act.put, List.setIfInBounds_toArray, List.set_cons_zero, List.set_cons_succ, i64_w, i32_w]
                      rfl
                    refine pure_ (i := 34) (N := some 99) (v := ?_) (a' := ?_) #[true, true, true, true, true, true, true, true, true, true, true, true, true, true, true, true, true, true, true, true, true, true, true, true, true, true, true, true, true, true, true, true, true, true, true, false, false, false, false, false, false] rfl rfl (any_of HT_.out (by kernel_rfl)) (fun _ _ _ h => h) (Or.inl ⟨by rfl, ?_⟩) ?_ ?_
                    rotate_left
                    · intro w'
                      go_simp
                      with_reducible rfl
                    rotate_left
                    · simp only [Act.put, List.setIfInBounds_toArray, List.set_cons_zero, List.set_cons_succ, i64_w, i32_w]
                      rfl
                    refine pure_ (i := 35) (N := some 100) (v := ?_) (a' := ?_) #[true, true, true, true, true, true, true, true, true, true, true, true, true, true, true, true, true, true, true, true, true, true, true, true, true, true, true, true, true, true, true, true, true, true, true, true, false, false, false, false, false] rfl rfl (any_of HT_.out (by kernel_rfl)) (fun _ _ _ h => h) (Or.inl ⟨by rfl, ?_⟩) ?_ ?_
                    rotate_left
                    · intro w'
                      go_simp
                      with_reducible rfl
                    rotate_left
                    · simp only [Act.put, List.setIfInBounds_toArray, List.set_cons_zero, List.set_cons_succ, i64_w, i32_w]
                      rfl
                    refine pure_ (i := 37) (N := some 102) (v := ?_) (a' := ?_) #[true, true, true, true, true, true, true, true, true, true, true, true, true, true, true, true, true, true, true, true, true, true, true, true, true, true, true, true, true, true, true, true, true, true, true, true, false, true, false, false, false] rfl rfl (any_of HT_.out (by kernel_rfl)) (fun _ _ _ h => h) (Or.inl ⟨by rfl, ?_⟩) ?_ ?_
                    rotate_left
                    · intro w'
                      go_simp
                      with_reducible rfl
                    rotate_left
                    · simp only [Act.put, List.setIfInBounds_toArray, List.set_cons_zero, List.set_cons_succ, i64_w, i32_w]
                      rfl
                    refine take_ (i := 36) (N := some 101) (v := ?_) (a' := ?_) #[true, true, true, true, true, true, true, true, true, true, true, true, true, true, true, true, true, true, true, true, true, true, true, true, true, true, true, true, true, true, true, true, true, true, true, true, true, true, false, false, false] rfl rfl (take_ofW HT_.out HW_.out (by kernel_rfl)) (fun _ _ _ h => h) (Or.inl ⟨by rfl, ?_⟩) hHeld ?_ ?_
                    rotate_left
                    · rintro w' ⟨s0, s1, s2, s3, s4, s5, s6⟩
                      go_simp
                      with_reducible rfl
                    rotate_left
                    · simp only [Act.put, List.setIfInBounds_toArray, List.set_cons_zero, List.set_cons_succ, i64_w, i32_w]
                      rfl
                    refine pure_ (i := 38) (N := some 103) (v := ?_) (a' := ?_) #[true, true, true, true, true, true, true, true, true, true, true, true, true, true, true, true, true, true, true, true, true, true, true, true, true, true, true, true, true, true, true, true, true, true, true, true, true, true, true, false, false] rfl rfl (any_of HT_.out (by kernel_rfl)) (fun _ _ _ h => h) (Or.inl ⟨by rfl, ?_⟩) ?_ ?_
                    rotate_left
                    · intro w'
                      go_simp
                      with_reducible rfl
                    rotate_left
                    · simp only [Act.put, List.setIfInBounds_toArray, List.set_cons_zero, List.set_cons_succ, i64_w, i32_w]
                      rfl
                    refine pure_ (i := 39) (N := some 104) (v := ?_) (a' := ?_) #[true, true, true, true, true, true, true, true, true, true, true, true, true, true, true, true, true, true, true, true, true, true, true, true, true, true, true, true, true, true, true, true, true, true, true, true, true, true, true, true, false] rfl rfl (any_of HT_.out (by kernel_rfl)) (fun _ _ _ h => h) (Or.inl ⟨by rfl, ?_⟩) ?_ ?_
                    rotate_left
                    · intro w'
                      go_simp
                      with_reducible rfl
                    rotate_left
                    · simp only [Act.put, List.setIfInBounds_toArray, List.set_cons_zero, List.set_cons_succ, i64_w, i32_w]
                      rfl
                    refine pure_ (i := 40) (N := some 8) (v := ?_) (a' := ?_) #[true, true, true, true, true, true, true, true, true, true, true, true, true, true, true, true, true, true, true, true, true, true, true, true, true, true, true, true, true, true, true, true, true, true, true, true, true, true, true, true, true] rfl rfl (any_of HT_.out (by kernel_rfl)) (fun _ _ _ h => h) (Or.inl ⟨by rfl, ?_⟩) ?_ ?_
                    rotate_left
                    · intro w'
                      go_simp
                      with_reducible rfl
                    rotate_left
                    · simp only [Act.put, List.setIfInBounds_toArray, List.set_cons_zero, List.set_cons_succ, i64_w, i32_w]
                      rfl
                    refine done_ (done_of HT_.out (by kernel_rfl)) ?_
                    try go_wp2
                    go_ret
                    exact ⟨by first | rfl | (simp [errW_none, errW_some] <;> rfl) | (simp [*, errW_none, errW_some] <;> rfl), by repeat (first | (with_reducible first | exact HB.out | apply below_alloc | apply pw_below_drewN | apply below_drew1 | refine below_set ?_ GE386.out) | exact HB.out)⟩
                  · exfalso
                    obtain ⟨e1, e2⟩ := SS.gets_eq hb0 A13.out A15.out A16.out
                    have e := e1.trans e2.symm
                    simp only [Prod.mk.injEq] at e
                    exact c25 e.2.2
                · exfalso
                  obtain ⟨e1, e2⟩ := SS.gets_eq hb0 A13.out A15.out A16.out
                  have e := e1.trans e2.symm
                  simp only [Prod.mk.injEq] at e
                  exact c24 e.2.1
              · exfalso
                exact c23 (SS.gets_same hb0 A13.out A15.out A16.out A22.out)
            · exfalso
              have e := SS.puts_eq A13.out A14.out
              simp only [Prod.mk.injEq] at e
              exact c21 e.2
          · exfalso
            have e := SS.puts_eq A13.out A14.out
            simp only [Prod.mk.injEq] at e
            exact c20 (by rw [e.1])
        · exfalso
          exact c19 (SS.checks_eq A13.out A17.out A18.out)
end Go.Proofs.Ytjdlochffpikbaa.K
end
section
/- The law SectTells of the sections' chapter: whether sections may be, their bits, and the sections of some bits are the document's; for every input. -/
namespace Go.Proofs.Ytjdlochffpikbaa.Wk
open Go.RowKit Go.Proofs.Ytjdlochffpikbaa.K Go.Proofs.Ytjdlochffpikbaa.SS Go.Proofs.Ytjdlochffpikbaa.HP Go.Proofs.YtjdlochffpikbaaW.PrintWords Go.Proofs.YtjdlochffpikbaaW.PrintLast Go.Proofs.YtjdlochffpikbaaW.PrintMore
set_option linter.unusedVariables false

theorem tells_true (b : List Int) (p s sh m : Int) (gs : List Int) (l : List (List Sec)) (hb : ∀ y ∈ b, 0 ≤ y ∧ y ≤ 255) (hs : 0 ≤ s) (hsh : 0 ≤ sh) : reedpipelaw19_SectTells.f 60000 b p s sh m gs l = some true := by
  unfold reedpipelaw19_SectTells.f
  have stop : reedpipelaw19_SectTells.j0 60000 b p l true s sh m gs = some true := by
    simp only [reedpipelaw19_SectTells.j0, if_true]
  by_cases h1 : (b.length : Int) > 10000
  · rw [if_pos h1]; exact stop
  · rw [if_neg h1]
    by_cases h2 : (gs.length : Int) > 1000
    · rw [if_pos h2]; exact stop
    · rw [if_neg h2]
      obtain ⟨r, hr, hsmall⟩ := great_f l 60000 (by omega)
      rw [hr]
      simp only [Option.bind_some]
      cases r with
      | true => exact stop
      | false =>
        obtain ⟨hl, hg⟩ := hsmall rfl
        have hk : (200 + 3) * l.length ≤ 203 * 100 := Nat.mul_le_mul_left 203 hl
        rw [reedpipelaw19_SectTells.j0, if_neg (by simp)]
        rw [put_f b s sh m gs l hs hsh (by omega) (by omega) (by omega) (fun g h => by have := hg g h; omega)]
        rw [rput_f b s sh m gs l (by omega) (by omega) (by omega) 200 (by omega) hg 59999 (by omega)]
        rw [getSect_f b hb (by omega) s sh m gs p (by omega) 59999 (by omega)]
        rw [rgetSect_f b hb (by omega) s sh m gs p (by omega) 59999 (by omega)]
        rw [check_f s sh m gs l (by omega) (by omega) 200 hg (by omega) 59999 (by omega)]
        rw [rcheck_f s sh m gs l (by omega) (by omega) 200 hg (by omega) 59999 (by omega)]
        simp only [Option.bind_some]
        have hsame := same_got (b := b) (p := p) (s := s) (sh := sh) (m := m) (gs := gs) hb 59999 (by omega)
        simp only [hsame, Option.bind_some, if_true, beq_self_eq_true]
theorem SectTells (W : World) (A_0 : Option Addr) (c_0 : Nat) (l_0 : List Int) (a1 s_2 sh_2 m_2 : Int) (A_2 : Option Addr) (c_2 : Nat) (l_2 : List Int) (A_3 : Option Addr) (c_3 : Nat) (l_3 : List (List Sec))
    (hc_0 : l_0.length ≤ c_0) (hr_0 : Kd.C (Kd.int .u8) W A_0 l_0.length l_0) (wl_0 : ∀ y ∈ l_0, 0 ≤ y ∧ y ≤ 255) (w1 : (Lit.int .i64 a1).wf = true)
    (hc_2 : l_2.length ≤ c_2) (hr_2 : Kd.C (Kd.int .i64) W A_2 l_2.length l_2) (ws_2 : 0 ≤ s_2 ∧ s_2 ≤ 255) (wsh_2 : 0 ≤ sh_2 ∧ sh_2 ≤ 255) (wm_2 : -9223372036854775808 ≤ m_2 ∧ m_2 ≤ 9223372036854775807) (wl_2 : ∀ y ∈ l_2, -9223372036854775808 ≤ y ∧ y ≤ 9223372036854775807)
    (hc_3 : l_3.length ≤ c_3) (hr_3 : Kd.C (Kd.slice 49 k49) W A_3 l_3.length l_3) (wl_3 : ∀ g ∈ l_3, ∀ x ∈ g, (-9223372036854775808 ≤ x.f0 ∧ x.f0 ≤ 9223372036854775807) ∧ (-9223372036854775808 ≤ x.f1 ∧ x.f1 ≤ 9223372036854775807)) :
    Calls Try.prog 5 #[.slice A_0 l_0.length c_0, .int .i64 a1, .agg #[.int .u8 s_2, .int .u8 sh_2, .int .i64 m_2, .slice A_2 l_2.length c_2], .slice A_3 l_3.length c_3] W fun e w' => e = .returned (.bool true) ∧ Below W.heap.size W w' := by
  exact reedpipelaw19_SectTells.calls 60000 A_0 c_0 l_0 a1 s_2 sh_2 m_2 A_2 c_2 l_2 A_3 c_3 l_3 true W hr_0 hc_0 hr_2 hc_2 hr_3 hc_3 wl_0 (tells_true l_0 a1 s_2 sh_2 m_2 l_2 l_3 wl_0 ws_2.1 wsh_2.1)
end Go.Proofs.Ytjdlochffpikbaa.Wk
end
section
/- From what a row reads to the kinds of the walks: any type of whole numbers, bools, slices and structs of these. It imports no program. -/
namespace Go.Proofs.Ytjdlochffpikbaa.HR
open Go.RowKit Go.ChangeShapes Go.WideShapes Go.Proofs.YtjdlochffpikbaaW.PrintWords

/-- Whatever reads as data of type t is of kind d. -/
def Opens {α : Type} (P : Program) (t : TypeId) (d : Kd α) (ok : α → Prop) : Prop :=
  ∀ (H : Type) (enc : TypeId × Value → H) (W : World) (fuel : Nat) (cs : List Value) (x : DataW H × List MemPlace), DataW.trod enc P W 0 (fun _ => true) true fuel t cs = some x → ∃ a, ok a ∧ d.K W a cs

theorem Opens.imp {α : Type} {P : Program} {t : TypeId} {d : Kd α} {ok ok' : α → Prop} (h : Opens P t d ok) (hi : ∀ a, ok a → ok' a) : Opens P t d ok' := fun H enc W fuel cs x hx => by
  obtain ⟨a, ha, hK⟩ := h H enc W fuel cs x hx
  exact ⟨a, hi a ha, hK⟩
theorem opens_int {P : Program} {t : TypeId} {k : IntKind} (ht : P.underlying t = some (.int k)) : Opens P t (Kd.int k) (fun n => (Lit.int k n).wf = true) := by
  intro H enc W fuel cs x hx
  obtain ⟨n, rfl, _, hw⟩ := DataW.trod_int ht hx
  exact ⟨n, hw, rfl⟩
theorem opens_bool {P : Program} {t : TypeId} (ht : P.underlying t = some .bool) : Opens P t Kd.bool (fun _ => True) := by
  intro H enc W fuel cs x hx
  obtain ⟨b, rfl, _⟩ := DataW.trod_bool ht hx
  exact ⟨b, trivial, rfl⟩
theorem opens_slice {α : Type} {P : Program} {t e : TypeId} {d : Kd α} {ok : α → Prop} (ht : P.underlying t = some (.slice e)) (hs : P.cellsOf e = d.sz) (h : Opens P e d ok) : Opens P t (Kd.slice e d) (fun xs => ∀ x ∈ xs, ok x) := by
  intro H enc W fuel cs x hx
  rcases Go.Deep.open_slice ht hx with ⟨rfl, _⟩ | ⟨a, len, cap, m, n, D, Pl, rfl, _, hl, hcap, hm, _, hel⟩
  · exact ⟨[], by simp, none, 0, rfl, Nat.le_refl _, rfl, by simp, fun h => absurd h (by simp)⟩
  · have hlm : len ≤ m := by rw [hm]; simp; exact hl
    have key : ∀ k, k ≤ len → ∃ xs : List α, xs.length = k ∧ (∀ x ∈ xs, ok x) ∧ ∀ j p, xs[j]? = some p → ∃ c, c.length = d.sz ∧ d.K W p c ∧ ∀ i u, c[i]? = some u → W.cell? (a.add (j * d.sz + i)) = some u := by
      intro k
      induction k with
      | zero => exact fun _ => ⟨[], rfl, by simp, fun j p hj => by simp at hj⟩
      | succ k ih =>
        intro hk
        obtain ⟨xs, hxl, hxo, hxc⟩ := ih (by omega)
        obtain ⟨cs', hc1, hc2⟩ := hel k (by omega)
        obtain ⟨p, hp, hK⟩ := h H enc W n cs' _ hc2
        refine ⟨xs ++ [p], by simp [hxl], ?_, ?_⟩
        · intro x hx
          rcases List.mem_append.1 hx with hx | hx
          · exact hxo x hx
          · rw [List.mem_singleton.1 hx]; exact hp
        · intro j q hj
          rcases Nat.lt_or_ge j k with hjk | hjk
          · rw [List.getElem?_append_left (by omega)] at hj
            exact hxc j q hj
          · rw [List.getElem?_append_right (by omega)] at hj
            have hj0 : j - xs.length = 0 := by
              rcases Nat.eq_zero_or_pos (j - xs.length) with h0 | h0
              · exact h0
              · rw [List.getElem?_eq_none (by simp; omega)] at hj
                cases hj
            rw [hj0] at hj
            obtain rfl : p = q := by simpa using hj
            obtain rfl : j = k := by omega
            refine ⟨cs', d.K_len hK, hK, fun i u hu => ?_⟩
            obtain ⟨_, hlen, hcells⟩ := World.cells?_some hc1
            obtain ⟨hi, rfl⟩ := List.getElem?_eq_some_iff.1 hu
            have := hcells i (by omega)
            rw [hs, Go.Deep.add_add] at this
            rw [this]
            exact hu
    obtain ⟨xs, hxl, hxo, hxc⟩ := key len (Nat.le_refl _)
    subst hxl
    have hmx : xs.length ≤ 9223372036854775807 := by unfold maxLen at hcap; omega
    exact ⟨xs, hxo, some a, cap, rfl, hl, rfl, hmx, fun _ => ⟨a, rfl, hxc⟩⟩

/-! ### structs, field by field: their types and where their cells begin -/
def OpensFs {α : Type} (P : Program) (fs : List (TypeId × Nat)) (off : Nat) (d : Kd α) (ok : α → Prop) : Prop :=
  ∀ (H : Type) (enc : TypeId × Value → H) (W : World) (n : Nat) (cs : List Value), (∀ f ∈ fs, ∃ x, DataW.trod enc P W 0 (fun _ => true) true n f.1 ((cs.drop f.2).take (P.cellsOf f.1)) = some x) → cs.length = off + d.sz → ∃ a, ok a ∧ d.K W a (cs.drop off)
theorem opensFs_one {α : Type} {P : Program} {t : TypeId} {off : Nat} {d : Kd α} {ok : α → Prop} (hs : P.cellsOf t = d.sz) (h : Opens P t d ok) : OpensFs P [(t, off)] off d ok := by
  intro H enc W n cs hf hl
  obtain ⟨x, hx⟩ := hf (t, off) List.mem_cons_self
  simp only at hx
  rw [hs, List.take_of_length_le (by rw [List.length_drop]; omega)] at hx
  exact h H enc W n _ x hx
theorem opensFs_cons {α β : Type} {P : Program} {t : TypeId} {fs : List (TypeId × Nat)} {off : Nat} (off2 : Nat) {a : Kd α} {b : Kd β} {ok : α → Prop} {okb : β → Prop} (hs : P.cellsOf t = a.sz) (ho2 : off2 = off + a.sz) (h : Opens P t a ok) (hb : OpensFs P fs off2 b okb) :
    OpensFs P ((t, off) :: fs) off (Kd.pair a b) (fun x => ok x.1 ∧ okb x.2) := by
  intro H enc W n cs hf hl
  obtain ⟨x, hx⟩ := hf (t, off) List.mem_cons_self
  simp only at hx
  rw [hs] at hx
  obtain ⟨p, hp, hK⟩ := h H enc W n _ x hx
  have hsz : (Kd.pair a b).sz = a.sz + b.sz := rfl
  obtain ⟨q, hq, hKq⟩ := hb H enc W n cs (fun g hg => hf g (List.mem_cons_of_mem _ hg)) (by rw [hl, hsz, ho2]; omega)
  refine ⟨(p, q), ⟨hp, hq⟩, (cs.drop off).take a.sz, cs.drop off2, ?_, hK, hKq⟩
  rw [ho2, ← List.drop_drop, List.take_append_drop]
theorem opens_struct {α : Type} {P : Program} {t : TypeId} {fs : Array Field} {l : List (TypeId × Nat)} {d : Kd α} {ok : α → Prop} (ht : P.underlying t = some (.struct fs)) (hfs : fs.toList.map (fun f => (f.type, f.offset)) = l) (hs : P.cellsOf t = d.sz) (h : OpensFs P l 0 d ok) : Opens P t d ok := by
  intro H enc W fuel cs x hx
  obtain ⟨xs, n, _, _, hl, hxl, hf⟩ := DataW.trod_struct ht hx
  have := h H enc W n cs (fun f hm => by
    rw [← hfs] at hm
    obtain ⟨g, hg, rfl⟩ := List.mem_map.1 hm
    obtain ⟨i, hi, rfl⟩ := List.getElem_of_mem hg
    have hi2 : i < fs.size := by simpa using hi
    refine ⟨xs[i], ?_⟩
    simp only
    rw [hf i fs.toList[i] (by simp [hi2]), List.getElem?_eq_getElem]) (by omega)
  simpa using this
theorem opens_iso {α β : Type} {P : Program} {t : TypeId} {d : Kd α} {ok : α → Prop} (f : β → α) (g : α → β) (hfg : ∀ a, f (g a) = a) (h : Opens P t d ok) : Opens P t (Kd.iso d f) (fun b => ok (f b)) := by
  intro H enc W fuel cs x hx
  obtain ⟨a, ha, hK⟩ := h H enc W fuel cs x hx
  exact ⟨g a, by show ok (f (g a)); rw [hfg]; exact ha, by show d.K W (f (g a)) cs; rw [hfg]; exact hK⟩
/-- What an argument reads as. -/
theorem Opens.arg {α : Type} {P : Program} {t : TypeId} {d : Kd α} {ok : α → Prop} (h : Opens P t d ok) {H : Type} {enc : TypeId × Value → H} {W : World} {v : Value} {x : DataW H} {ps : List MemPlace} (ht : DataW.Trod enc P W 0 (fun _ => true) true t v x ps) : ∃ a, ok a ∧ d.K W a v.cells.toList := by
  obtain ⟨fuel, hf⟩ := ht
  exact h H enc W fuel _ _ hf
end Go.Proofs.Ytjdlochffpikbaa.HR
end
section
/- How windows' infos are read. -/
namespace Go.Proofs.Ytjdlochffpikbaa.HI
open Go.RowKit Go.ChangeShapes Go.WideShapes Go.Proofs.YtjdlochffpikbaaW.PrintWords Go.Proofs.Ytjdlochffpikbaa.HR

def kInfo : Kd (Int × Int × Int × List Int) := Kd.pair (Kd.int .u8) (Kd.pair (Kd.int .u8) (Kd.pair (Kd.int .i64) (Kd.slice 3 (Kd.int .i64))))
theorem opens_ints : Opens Try.prog 22 (Kd.slice 3 (Kd.int .i64)) (fun xs => ∀ x ∈ xs, (Lit.int .i64 x).wf = true) := opens_slice Try.underlying22 (by kernel_rfl) (opens_int Try.underlying3)
theorem opens_info : Opens Try.prog 24 kInfo (fun x => (Lit.int .u8 x.1).wf = true ∧ (Lit.int .u8 x.2.1).wf = true ∧ (Lit.int .i64 x.2.2.1).wf = true ∧ ∀ y ∈ x.2.2.2, (Lit.int .i64 y).wf = true) := by
  exact opens_struct Try.underlying24 (l := [(5, 0), (5, 1), (3, 2), (22, 3)]) rfl (by kernel_rfl)
    (opensFs_cons 1 (by kernel_rfl) rfl (opens_int Try.underlying5) (opensFs_cons 2 (by kernel_rfl) rfl (opens_int Try.underlying5) (opensFs_cons 3 (by kernel_rfl) rfl (opens_int Try.underlying3) (opensFs_one (by kernel_rfl) opens_ints))))
theorem wf_u8 {x : Int} (h : (Lit.int .u8 x).wf = true) : 0 ≤ x ∧ x ≤ 255 := by
  simp only [Lit.wf, Bool.and_eq_true, decide_eq_true_eq] at h
  exact h
theorem wf_i64 {x : Int} (h : (Lit.int .i64 x).wf = true) : -9223372036854775808 ≤ x ∧ x ≤ 9223372036854775807 := by
  simp only [Lit.wf, Bool.and_eq_true, decide_eq_true_eq] at h
  exact h
theorem open_info {H : Type} {enc : TypeId × Value → H} {W : World} {v : Value} {x : DataW H} {ps : List MemPlace} {r : Reach} {b0 : Nat} (hv : Value.okWide Try.prog W r b0 24 v) (h : DataW.Trod enc Try.prog W 0 (fun _ => true) true 24 v x ps) :
    ∃ (s sh m : Int) (A : Option Addr) (c : Nat) (l : List Int), v = .agg #[.int .u8 s, .int .u8 sh, .int .i64 m, .slice A l.length c] ∧ l.length ≤ c ∧ Kd.C (Kd.int .i64) W A l.length l ∧ (0 ≤ s ∧ s ≤ 255) ∧ (0 ≤ sh ∧ sh ≤ 255) ∧ (-9223372036854775808 ≤ m ∧ m ≤ 9223372036854775807) ∧ ∀ y ∈ l, -9223372036854775808 ≤ y ∧ y ≤ 9223372036854775807 := by
  unfold Value.okWide at hv
  rw [Try.underlying24] at hv
  obtain ⟨cs, rfl, _, _⟩ := hv
  obtain ⟨⟨s, sh, m, l⟩, ⟨w1, w2, w3, w4⟩, hK⟩ := opens_info.arg h
  obtain ⟨_, _, he, rfl, ⟨_, _, rfl, rfl, ⟨_, _, rfl, rfl, ⟨A, c, rfl, hl, hC⟩⟩⟩⟩ := hK
  refine ⟨s, sh, m, A, c, l, ?_, hl, hC, wf_u8 w1, wf_u8 w2, wf_i64 w3, fun y hy => wf_i64 (w4 y hy)⟩
  congr 1
  apply Array.toList_inj.1
  exact he
end Go.Proofs.Ytjdlochffpikbaa.HI
end
section
/- How bytes are read. -/
namespace Go.Proofs.Ytjdlochffpikbaa.HI
open Go.RowKit Go.ChangeShapes Go.WideShapes Go.Proofs.YtjdlochffpikbaaW.PrintWords Go.Proofs.Ytjdlochffpikbaa.HR

theorem slice_value {W : World} {v : Value} {r : Reach} {b0 : Nat} {t e : TypeId} (ht : Try.prog.underlying t = some (.slice e)) (hv : Value.okWide Try.prog W r b0 t v) : ∃ A n c, v = .slice A n c := by
  unfold Value.okWide at hv
  rw [ht] at hv
  unfold Cell.okWide at hv
  rw [ht] at hv
  revert hv
  cases v <;> simp [Cell.ok, ht]
theorem opens_bytes : Opens Try.prog 28 (Kd.slice 5 (Kd.int .u8)) (fun xs => ∀ x ∈ xs, (Lit.int .u8 x).wf = true) := opens_slice Try.underlying28 (by kernel_rfl) (opens_int Try.underlying5)
theorem open_bytes {H : Type} {enc : TypeId × Value → H} {W : World} {v : Value} {x : DataW H} {ps : List MemPlace} {r : Reach} {b0 : Nat} (hv : Value.okWide Try.prog W r b0 28 v) (h : DataW.Trod enc Try.prog W 0 (fun _ => true) true 28 v x ps) :
    ∃ (A : Option Addr) (c : Nat) (l : List Int), v = .slice A l.length c ∧ l.length ≤ c ∧ Kd.C (Kd.int .u8) W A l.length l ∧ ∀ y ∈ l, 0 ≤ y ∧ y ≤ 255 := by
  obtain ⟨A0, n0, c0, rfl⟩ := slice_value Try.underlying28 hv
  obtain ⟨l, wl, A, c, he, hl, hC⟩ := opens_bytes.arg h
  have he' : Value.slice A0 n0 c0 = .slice A l.length c := by simpa [Value.cells] using he
  exact ⟨A, c, l, he', hl, hC, fun y hy => wf_u8 (wl y hy)⟩
end Go.Proofs.Ytjdlochffpikbaa.HI
end
section
/- How lists of sections are read. -/
namespace Go.Proofs.Ytjdlochffpikbaa.HI
open Go.RowKit Go.ChangeShapes Go.WideShapes Go.Proofs.YtjdlochffpikbaaW.PrintWords Go.Proofs.Ytjdlochffpikbaa.HR Go.Proofs.Ytjdlochffpikbaa.K

theorem opens_section : Opens Try.prog 49 k49 (fun x => (Lit.int .i64 x.f0).wf = true ∧ (Lit.int .i64 x.f1).wf = true) := by
  refine opens_iso (fun x : S49 => (x.f0, x.f1)) (fun p => ⟨p.1, p.2⟩) (fun _ => rfl) (ok := fun p => (Lit.int .i64 p.1).wf = true ∧ (Lit.int .i64 p.2).wf = true) ?_
  exact opens_struct Try.underlying49 (l := [(3, 0), (3, 1)]) rfl (by kernel_rfl) (opensFs_cons 1 (by kernel_rfl) rfl (opens_int Try.underlying3) (opensFs_one (by kernel_rfl) (opens_int Try.underlying3)))
theorem opens_sections : Opens Try.prog 25 (Kd.slice 32 (Kd.slice 49 k49)) (fun l => ∀ g ∈ l, ∀ x ∈ g, (Lit.int .i64 x.f0).wf = true ∧ (Lit.int .i64 x.f1).wf = true) :=
  opens_slice Try.underlying25 (by kernel_rfl) (opens_slice Try.underlying32 (by kernel_rfl) opens_section)
theorem open_sections {H : Type} {enc : TypeId × Value → H} {W : World} {v : Value} {x : DataW H} {ps : List MemPlace} {r : Reach} {b0 : Nat} (hv : Value.okWide Try.prog W r b0 25 v) (h : DataW.Trod enc Try.prog W 0 (fun _ => true) true 25 v x ps) :
    ∃ (A : Option Addr) (c : Nat) (l : List (List S49)), v = .slice A l.length c ∧ l.length ≤ c ∧ Kd.C (Kd.slice 49 k49) W A l.length l ∧ ∀ g ∈ l, ∀ x ∈ g, (-9223372036854775808 ≤ x.f0 ∧ x.f0 ≤ 9223372036854775807) ∧ (-9223372036854775808 ≤ x.f1 ∧ x.f1 ≤ 9223372036854775807) := by
  obtain ⟨A0, n0, c0, rfl⟩ := slice_value Try.underlying25 hv
  obtain ⟨l, wl, A, c, he, hl, hC⟩ := opens_sections.arg h
  have he' : Value.slice A0 n0 c0 = .slice A l.length c := by simpa [Value.cells] using he
  exact ⟨A, c, l, he', hl, hC, fun g hg y hy => ⟨wf_i64 (wl g hg y hy).1, wf_i64 (wl g hg y hy).2⟩⟩
end Go.Proofs.Ytjdlochffpikbaa.HI
end
section
/- The row of the law SectTells: out of its walk. -/
namespace Go.Proofs.Ytjdlochffpikbaa.sectTells
open Go.ChangeShapes Go.WideShapes Go.ChangeAt Go.RowKit
open Go.ChangeMaps (open_string shut_string)
set_option linter.unusedVariables false
theorem own : ownKnob Try.prog.godebug = none := by kernel_rfl
theorem laidOut : laidOutB Try.prog = true := by kernel_rfl
set_option maxRecDepth 100000 in
theorem lifted (os : Os) (started : os.Started) (H : Type) (enc : TypeId × Value → H) :
    ReturnsInHanded {} Try.checked os 5 .any (Rows.sectTellsSpec.pre6 enc Try.prog Try.f5 Rows.sectTellsRow.domain false) (Rows.sectTellsSpec.post enc Try.prog Try.f5 false true false false) := by
  refine returnsInHanded_of_change_sized (C := Try.checked) own started (by kernel_rfl) Try.func5
    (ChangeSpec.witness6 (enc := enc) (C := Try.checked) false ⟨#[], #[.slice none 0 0, .int .i64 0, .agg #[.int .u8 0, .int .u8 0, .int .i64 0, .slice none 0 0], .slice none 0 0], []⟩ 8 (by kernel_rfl) (by kernel_rfl) (by kernel_rfl) (by kernel_rfl)) ?_
  intro W base args ds gs before hval0 hW hcnd hsz0 _
  have hval : ∀ (j : Nat) t v, Try.f5.params[j]? = some t → args[j]? = some v → Value.okWide Try.prog W .any base t v := hval0
  have hW' := hW
  obtain ⟨p, q, hA0, hV, rfl, hfz, hnd⟩ := hW
  have hA : DataW.TrodAll enc Try.prog W 0 (fun _ => true) true Try.f5.params.toList args.toList ds p := hA0
  rw [Try.params5] at hA hval
  obtain ⟨v0, vs0, d0, ds0, p0, q0, hargs, rfl, rfl, h0, r0⟩ := trodAll_cons hA
  obtain ⟨v1, vs1, d1, ds1, p1, q1, rfl, rfl, rfl, h1, r1⟩ := trodAll_cons r0
  obtain ⟨v2, vs2, d2, ds2, p2, q2, rfl, rfl, rfl, h2, r2⟩ := trodAll_cons r1
  obtain ⟨v3, vs3, d3, ds3, p3, q3, rfl, rfl, rfl, h3, r3⟩ := trodAll_cons r2
  obtain ⟨rfl, rfl, rfl⟩ := trodAll_nil r3
  obtain rfl : args = #[v0, v1, v2, v3] := by cases args; simp_all
  obtain ⟨rfl, rfl⟩ := trodVars_none hV
  have k0 := h0
  have lt0 : ∀ x ∈ p0, x.block < W.heap.size := by obtain ⟨m, hm⟩ := k0; exact DataW.trod_lt m _ _ _ hm
  obtain ⟨A_0, c_0, l_0, rfl, hc_0, hr_0, wl_0⟩ := HI.open_bytes (hval 0 28 v0 rfl rfl) h0
  obtain ⟨a1, rfl, rfl, rfl, w1⟩ := open_int Try.underlying3 (hval 1 3 v1 rfl rfl) h1
  have k2 := h2
  have lt2 : ∀ x ∈ p2, x.block < W.heap.size := by obtain ⟨m, hm⟩ := k2; exact DataW.trod_lt m _ _ _ hm
  obtain ⟨s_2, sh_2, m_2, A_2, c_2, l_2, rfl, hc_2, hr_2, ws_2, wsh_2, wm_2, wl_2⟩ := HI.open_info (hval 2 24 v2 rfl rfl) h2
  have k3 := h3
  have lt3 : ∀ x ∈ p3, x.block < W.heap.size := by obtain ⟨m, hm⟩ := k3; exact DataW.trod_lt m _ _ _ hm
  obtain ⟨A_3, c_3, l_3, rfl, hc_3, hr_3, wl_3⟩ := HI.open_sections (hval 3 25 v3 rfl rfl) h3
  refine (Wk.SectTells W A_0 c_0 l_0 a1 s_2 sh_2 m_2 A_2 c_2 l_2 A_3 c_3 l_3 hc_0 hr_0 wl_0 w1 hc_2 hr_2 ws_2 wsh_2 wm_2 wl_2 hc_3 hr_3 wl_3).mono fun e W' ⟨he, bel⟩ => ?_
  subst he
  exact ⟨_, rfl, _, _, _, [], _, [], hW', trodAll_mk1 (shut_bool Try.underlying4 _), (trodAll_cons_mk (Below.trod laidOut (by kernel_rfl) (of_decide_eq_true (by kernel_rfl)) k0 bel lt0) (trodAll_cons_mk (shut_int Try.underlying3 w1) (trodAll_cons_mk (Below.trod laidOut (by kernel_rfl) (of_decide_eq_true (by kernel_rfl)) k2 bel lt2) (trodAll_cons_mk (Below.trod laidOut (by kernel_rfl) (of_decide_eq_true (by kernel_rfl)) k3 bel lt3) trodAll_mk0)))), rfl, bel.frame _, fun h => by cases h⟩
theorem over : Rows.sectTellsRow.holds Try.pinned (OpenSpec.ofChange Rows.sectTellsSpec) :=
  OpenClaim.holds_of_wide 5 Try.f5 rfl rfl rfl rfl rfl rfl rfl ⟨rfl, rfl, rfl, rfl, rfl⟩ rfl rfl rfl rfl rfl (by kernel_rfl) Try.func5 (by kernel_rfl)
    (of_decide_eq_true (by kernel_rfl)) (by unfold Func.isWrapper; first | (rw [if_pos (by decide +kernel)]; kernel_rfl) | (rw [if_neg (by decide +kernel)]; exact ⟨rfl, rfl⟩))
    (fun os started H enc _ => lifted os started H enc)
theorem proved : Rows.SectTellsSaid := over
#print axioms proved
end Go.Proofs.Ytjdlochffpikbaa.sectTells
namespace Go.Proofs.Ytjdlochffpikbaa
/-- The row, under a short name, for the claim. -/
theorem sectTells_holds : Rows.SectTellsSaid := sectTells.proved
end Go.Proofs.Ytjdlochffpikbaa
end
