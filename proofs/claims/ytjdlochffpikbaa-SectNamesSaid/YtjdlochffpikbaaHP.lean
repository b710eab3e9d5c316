/- Plain words on lists and numbers that the pure laws use. They import no program. -/
import Derived.Test.YtjdlochffpikbaaHA
namespace Go.Proofs.Ytjdlochffpikbaa.HP
open Go.RowKit Go.Proofs.YtjdlochffpikbaaW.PrintWords Go.Proofs.Ytjdlochffpikbaa.HA

theorem wrap_id (x : Int) (h0 : -9223372036854775808 ≤ x) (h1 : x ≤ 9223372036854775807) : wrap64 x = x := by
  unfold wrap64
  omega
theorem wrap_succ (i : Nat) (h : i ≤ 4611686018427387904) : wrap64 ((i : Int) + 1) = ((i + 1 : Nat) : Int) := by
  rw [wrap_id _ (by omega) (by omega)]
  omega
theorem rd_at (xs : List Int) (i : Nat) (h : i < xs.length) : rd xs (i : Int) = xs[i] := by
  unfold rd
  rw [Int.toNat_natCast, List.getD_eq_getElem?_getD, List.getElem?_eq_getElem h, Option.getD_some]
theorem drop_at (xs : List Int) (i : Nat) (h : i < xs.length) : xs.drop i = rd xs (i : Int) :: xs.drop (i + 1) := by
  rw [rd_at xs i h]
  exact List.drop_eq_getElem_cons h
theorem len_pos (xs : List Int) (i : Nat) (h : i < xs.length) : (i : Int) < (xs.length : Int) := by omega

/-! ### windows' groups -/
def groupsOk (gs : List Int) : Bool := gs.all (fun g => decide (1 ≤ g) && decide (g ≤ 8)) && gs.sum == 8
def infoOk (many seq shape max : Int) (gs : List Int) : Bool := decide (seq ≤ 3) && decide (shape ≤ 1) && decide (0 ≤ max) && decide (max ≤ many) && (if seq = 2 then groupsOk gs else gs == [1])
/-- The group of a window. -/
def groupOf : List Int → Int → Nat
  | [], _ => 0
  | g :: gs, w => if w < g then 0 else groupOf gs (w - g) + 1

theorem sum_ge_length : ∀ gs : List Int, (gs.all (fun g => decide (1 ≤ g) && decide (g ≤ 8))) = true → (gs.length : Int) ≤ gs.sum
  | [], _ => by simp
  | g :: gs, h => by
    simp only [List.all_cons, Bool.and_eq_true, decide_eq_true_eq] at h
    have := sum_ge_length gs (by simpa using h.2)
    simp only [List.length_cons, List.sum_cons]
    omega
theorem groupsOk_length {gs : List Int} (h : groupsOk gs = true) : gs.length ≤ 8 := by
  simp only [groupsOk, Bool.and_eq_true, beq_iff_eq] at h
  have := sum_ge_length gs h.1
  omega
theorem groupOf_lt : ∀ (gs : List Int) (w : Int), 0 ≤ w → w < gs.sum → groupOf gs w < gs.length
  | [], w, h0, h => by
    simp at h
    omega
  | g :: gs, w, h0, h => by
    unfold groupOf
    split
    · simp
    · have := groupOf_lt gs (w - g) (by omega) (by simp at h; omega)
      simp
      omega
/-- The bits of windows that may be. -/
def groupBit (gs : List Int) (w : Nat) : Int := if groupOf gs (w : Int) = groupOf gs ((w : Int) + 1) then 1 else 0
def headBits (seq shape max : Int) : List Int := bitsOf 0 1 ++ bitsOf seq 2 ++ bitsOf shape 1 ++ (if seq = 2 then bitsOf max 4 else bitsOf max 6)
def infoBits (seq shape max : Int) (gs : List Int) : List Int := headBits seq shape max ++ (if seq = 2 then upto (groupBit gs) 7 else bitsOf 0 1)
theorem bitsOf_zero : bitsOf 0 1 = [0] := by decide
theorem bitsOf_one : bitsOf 1 1 = [1] := by decide
end Go.Proofs.Ytjdlochffpikbaa.HP
