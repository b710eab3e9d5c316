/- Words on arrays of whole numbers that lie in blocks of their own. -/
import Derived.Test.YtapaahhegjlbgaaWWords
import Derived.Test.YtapaahhegjlbgaaWLast
import Derived.Test.YtapaahhegjlbgaaProg
import Derived.Laws.Tables
import Derived.Laws.Rows
import Derived.Laws.CopyOwn
namespace Go.Proofs.Ytapaahhegjlbgaa.HD
open Go.RowKit Go.Proofs.YtapaahhegjlbgaaW.PrintWords
set_option linter.unusedVariables false

def arr (xs : List Int) : Array Value := (xs.map (Value.int .i64)).toArray
theorem arr_size (xs : List Int) : (arr xs).size = xs.length := by simp [arr]
theorem arr_get (xs : List Int) (i : Nat) (h : i < xs.length) : (arr xs)[i]? = some (.int .i64 (rd xs (i : Int))) := by
  unfold rd
  rw [Int.toNat_natCast, List.getD_eq_getElem?_getD, List.getElem?_eq_getElem h]
  simp [arr, h]
theorem arr_one (xs : List Int) : (arr xs).all (·.oneCell') = true := by
  simp [arr, Value.oneCell']
theorem arr_set (xs : List Int) (i : Nat) (x : Int) : (arr xs).setIfInBounds i (.int .i64 x) = arr (xs.set i x) := by
  simp [arr, List.map_set]
theorem arr_cell {W : World} {g : Nat} {t : TypeId} {xs : List Int} (h : W.heap[g]? = some (.cells (arr xs) t (0, 0))) (i : Nat) (hi : i < xs.length) : W.cell? ⟨g, i, none⟩ = some (.int .i64 (rd xs (i : Int))) :=
  (blk_cell h i).trans (arr_get xs i hi)
theorem arr_put {W : World} {g : Nat} {t : TypeId} {xs : List Int} (h : W.heap[g]? = some (.cells (arr xs) t (0, 0))) (i : Nat) (x : Int) : (W.setCell ⟨g, i, none⟩ (.int .i64 x)).heap[g]? = some (.cells (arr (xs.set i x)) t (0, 0)) :=
  blk_put h i _ (arr_set xs i x)
theorem arr_R {W : World} {g : Nat} {t : TypeId} {xs : List Int} (h : W.heap[g]? = some (.cells (arr xs) t (0, 0))) {base : Nat} (hb : base ≤ g) (n : Nat) (hn : n ≤ xs.length) (hl : xs.length ≤ maxLen) (ok : Nat → Prop) (hok : ok g) :
    Kd.R (Kd.int .i64) t W base ok (.slice (some ⟨g, 0, none⟩) n xs.length) (xs.take n) := by
  refine Kd.R_of_own (h1 := fun _ => rfl) ?_ (fun k hk => by simp [Value.ownBlock] at hk; subst hk; exact hok)
  refine ⟨by simp [encs], .inr ⟨g, xs.length, arr xs, ?_, hb, h, ?_, hl, by simp [arr_size], ?_⟩⟩
  · rw [List.length_take, Nat.min_eq_left hn]
  · rw [List.length_take]; omega
  · rw [List.length_take, Nat.mul_one, Nat.min_eq_left hn]
    simp [arr, encs, List.map_take]
end Go.Proofs.Ytapaahhegjlbgaa.HD
