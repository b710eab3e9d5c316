/- Words of this session: bits of a number; lists by index. They import no program. -/
import Derived.WalkKit
import Derived.Test.YtjdlochffpikbaaWWords
import Derived.Test.YtjdlochffpikbaaWMore
namespace Go.Proofs.Ytjdlochffpikbaa.HA
open Go.RowKit Go.Proofs.YtjdlochffpikbaaW.PrintWords

theorem and_one (E : Int) (h0 : 0 ≤ E) (h1 : E ≤ 9223372036854775807) : bits BinOp.and IntKind.i64 E 1 = E % 2 := by
  obtain ⟨a, rfl⟩ := Int.eq_ofNat_of_zero_le h0
  have hx : a &&& 1 < 2 ^ 64 := Nat.and_lt_two_pow _ (by omega)
  have h1 : (BitVec.ofInt 64 (a : Int)).toNat = a := by
    rw [BitVec.ofInt_natCast, BitVec.toNat_ofNat]; exact Nat.mod_eq_of_lt (by omega)
  show IntKind.i64.wrap ((BitVec.ofInt 64 (a : Int) &&& BitVec.ofInt 64 1).toNat : Int) = _
  have h2 : (BitVec.ofInt 64 1).toNat = 1 := by decide
  rw [BitVec.toNat_and, h1, h2, Nat.and_one_is_mod, IntKind.wrap_i64]
  omega

/-- What has come when k rounds are over. -/
def upto {α : Type} (f : Nat → α) (k : Nat) : List α := (List.range k).map f
theorem upto_succ {α : Type} (f : Nat → α) (k : Nat) : upto f (k + 1) = upto f k ++ [f k] := by simp [upto, List.range_succ]
theorem upto_length {α : Type} (f : Nat → α) (k : Nat) : (upto f k).length = k := by simp [upto]

/-- Bit j of a number of so many bits, the highest first. -/
def bitAt (n : Int) (size : Nat) (j : Nat) : Int := n / 2 ^ (size - 1 - j) % 2
/-- All its bits. -/
def bitsOf (n : Int) (size : Nat) : List Int := upto (bitAt n size) size
theorem bitsOf_length (n : Int) (size : Nat) : (bitsOf n size).length = size := upto_length _ _
theorem bit_said (n : Int) (size j : Nat) (h0 : 0 ≤ n) (h1 : n ≤ 9223372036854775807) : bits BinOp.and IntKind.i64 (n / 2 ^ (size - 1 - j)) 1 % 256 = bitAt n size j := by
  have hp : (0 : Int) < 2 ^ (size - 1 - j) := Int.pow_pos (by omega)
  have h2 : 0 ≤ n / 2 ^ (size - 1 - j) := Int.ediv_nonneg h0 (by omega)
  have h3 : n / 2 ^ (size - 1 - j) ≤ n := Int.ediv_le_self _ h0
  rw [and_one _ h2 (by omega), bitAt]
  omega
end Go.Proofs.Ytjdlochffpikbaa.HA
