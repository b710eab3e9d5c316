/- What the printed functions of windows tell, without rounds: lists compared, bands, checks, groups. -/
import Derived.Test.YtjdlochffpikbaaKx10
import Derived.Test.YtjdlochffpikbaaKx19
import Derived.Test.YtjdlochffpikbaaKx21
import Derived.Test.YtjdlochffpikbaaKx22
import Derived.Test.YtjdlochffpikbaaKx33
import Derived.Test.YtjdlochffpikbaaKx40
import Derived.Test.YtjdlochffpikbaaKx41
import Derived.Test.YtjdlochffpikbaaKx46
import Derived.Test.YtjdlochffpikbaaHP
namespace Go.Proofs.Ytjdlochffpikbaa.SP
open Go.RowKit Go.Proofs.YtjdlochffpikbaaW.PrintWords Go.Proofs.YtjdlochffpikbaaW.PrintLast Go.Proofs.YtjdlochffpikbaaW.PrintMore Go.Proofs.Ytjdlochffpikbaa.HA Go.Proofs.Ytjdlochffpikbaa.HP Go.Proofs.Ytjdlochffpikbaa.K

/-! ### two lists of numbers -/
theorem equal_l0 (xs ys : List Int) (hl : xs.length = ys.length) (hb : xs.length ≤ 4611686018427387904) : ∀ (d k i : Nat), xs.length - i = d → i ≤ xs.length → d < k →
    slices_Equal_int_int.l0 k xs ys (xs.length : Int) (i : Int) = some (decide (xs.drop i = ys.drop i)) := by
  intro d
  induction d with
  | zero =>
    intro k i hd hi hk
    obtain ⟨k, rfl⟩ : ∃ m, k = m + 1 := ⟨k - 1, by omega⟩
    simp only [slices_Equal_int_int.l0]
    rw [if_neg (by omega), List.drop_of_length_le (by omega), List.drop_of_length_le (by omega)]
    simp
  | succ d ih =>
    intro k i hd hi hk
    obtain ⟨k, rfl⟩ : ∃ m, k = m + 1 := ⟨k - 1, by omega⟩
    simp only [slices_Equal_int_int.l0]
    rw [if_pos (by omega), if_pos (by omega), if_pos (by omega), if_pos (by omega), drop_at xs i (by omega), drop_at ys i (by omega)]
    by_cases h : rd xs (i : Int) = rd ys (i : Int)
    · rw [if_pos h, wrap_succ i (by omega), ih k (i + 1) (by omega) (by omega) (by omega)]
      simp [h]
    · rw [if_neg h]
      simp [h]
theorem equal_f (xs ys : List Int) (hb : xs.length ≤ 4611686018427387904) (k : Nat) (hk : xs.length < k) : slices_Equal_int_int.f k xs ys = some (decide (xs = ys)) := by
  unfold slices_Equal_int_int.f
  by_cases h : (xs.length : Int) = (ys.length : Int)
  · rw [if_pos h]
    have := equal_l0 xs ys (by omega) hb xs.length k 0 (by omega) (by omega) hk
    simpa using this
  · rw [if_neg h]
    have : xs ≠ ys := fun e => h (by rw [e])
    simp [this]
/-! ### groups -/
theorem grouped_l0 (gs : List Int) (hb : gs.length ≤ 17592186044416) (a b c : Int) : ∀ (d k i : Nat) (s : Int), gs.length - i = d → i ≤ gs.length → d < k → 0 ≤ s → s ≤ 8 * i →
    info_grouped.l0 k s gs (gs.length : Int) (i : Int) a b c gs = some ((gs.drop i).all (fun g => decide (1 ≤ g) && decide (g ≤ 8)) && (s + (gs.drop i).sum == 8) && decide (gs.length ≤ 8)) := by
  intro d
  induction d with
  | zero =>
    intro k i s hd hi hk h0 h1
    obtain ⟨k, rfl⟩ : ∃ m, k = m + 1 := ⟨k - 1, by omega⟩
    simp only [info_grouped.l0]
    rw [if_neg (by omega), List.drop_of_length_le (by omega)]
    by_cases h : s = 8
    · rw [if_pos h]
      simp [h]
      omega
    · rw [if_neg h]
      simp [h]
  | succ d ih =>
    intro k i s hd hi hk h0 h1
    obtain ⟨k, rfl⟩ : ∃ m, k = m + 1 := ⟨k - 1, by omega⟩
    simp only [info_grouped.l0]
    rw [if_pos (by omega), if_pos (by omega), if_pos (by omega), drop_at gs i (by omega)]
    by_cases g1 : rd gs (i : Int) < 1
    · rw [if_pos g1]
      simp
      intro h
      omega
    · rw [if_neg g1]
      by_cases g2 : rd gs (i : Int) > 8
      · rw [if_pos g2]
        simp
        intro h h2
        omega
      · rw [if_neg g2, wrap_succ i (by omega), wrap_id (s + rd gs (i : Int)) (by omega) (by omega), ih k (i + 1) (s + rd gs (i : Int)) (by omega) (by omega) (by omega) (by omega) (by omega)]
        have e1 : decide (1 ≤ rd gs (i : Int)) = true := decide_eq_true (by omega)
        have e2 : decide (rd gs (i : Int) ≤ 8) = true := decide_eq_true (by omega)
        simp only [List.all_cons, List.sum_cons, e1, e2, Bool.true_and, Int.add_assoc]
theorem grouped_f (seq a b : Int) (gs : List Int) (hb : gs.length ≤ 17592186044416) (k : Nat) (hk : gs.length < k) : info_grouped.f k seq a b gs = some (if seq = 2 then groupsOk gs else gs == [1]) := by
  unfold info_grouped.f
  by_cases h : seq = 2
  · rw [if_pos h, if_pos h]
    have := grouped_l0 gs hb seq a b gs.length k 0 0 (by omega) (by omega) hk (by omega) (by omega)
    simp only [List.drop_zero, Int.zero_add] at this
    rw [show ((0 : Nat) : Int) = 0 from rfl] at this
    rw [this]
    congr 1
    unfold groupsOk
    cases hg : (gs.all fun g => decide (1 ≤ g) && decide (g ≤ 8)) && (gs.sum == 8) with
    | false => rfl
    | true =>
      have := groupsOk_length (gs := gs) hg
      simp [this]
  · rw [if_neg h, if_neg h, equal_f gs [1] (by omega) k hk]
    simp only [Option.bind_some]
    congr 1
    by_cases e : gs = [1]
    · rw [decide_eq_true e, e]; rfl
    · rw [decide_eq_false e]; simp [e]

/-! ### bands, checks -/
def bandMany (rate : Int) (short : Bool) : Int := ((bandOffsets rate short).length : Int) - 1
def manyS (rate : Int) (short : Bool) : Int × Int := if rate < 0 ∨ rate > 11 then (0, 2) else (bandMany rate short, 0)
theorem bandFrom_length (kk lines by_ : Int) : ∀ (n : Nat) (a : Int), 1 ≤ (bandFrom kk lines by_ n a).length ∧ (bandFrom kk lines by_ n a).length ≤ n + 1
  | 0, a => by simp [bandFrom]
  | n + 1, a => by
    unfold bandFrom
    split
    · have := bandFrom_length kk lines by_ n (bandNext kk lines by_ a)
      simp
      omega
    · simp
theorem bandOffsets_length (rate : Int) (short : Bool) : 1 ≤ (bandOffsets rate short).length ∧ (bandOffsets rate short).length ≤ 65 := by
  unfold bandOffsets
  split <;> exact bandFrom_length _ _ _ _ _
theorem many_f (rate : Int) (short : Bool) : band_Many.f rate short = some (manyS rate short) := by
  unfold band_Many.f band_Offsets.f manyS
  have hl := bandOffsets_length rate short
  by_cases h : rate < 0 ∨ rate > 11
  · simp only [if_pos h, Option.bind_some]
    simp [mx, wrap64]
  · simp only [if_neg h, Option.bind_some]
    unfold bandMany
    rw [wrap_id _ (by omega) (by omega)]
    unfold mx
    rw [if_neg (by omega)]
def checkS (rate seq shape max : Int) (gs : List Int) : Int := if rate < 0 ∨ rate > 11 then 2 else if infoOk (bandMany rate (seq == 2)) seq shape max gs = true then 0 else 8
theorem check_f (rate seq shape max : Int) (gs : List Int) (hb : gs.length ≤ 17592186044416) (k : Nat) (hk : gs.length < k) : info_Check.f k rate seq shape max gs = some (checkS rate seq shape max gs) := by
  unfold info_Check.f checkS
  rw [many_f]
  unfold manyS
  by_cases h : rate < 0 ∨ rate > 11
  · simp only [if_pos h, Option.bind_some]
    rfl
  · simp only [if_neg h, Option.bind_some, if_true]
    rw [grouped_f seq shape max gs hb k hk]
    unfold infoOk
    by_cases h1 : seq > 3
    · rw [if_pos h1, decide_eq_false (show ¬ seq ≤ 3 by omega)]
      simp
    · rw [if_neg h1, decide_eq_true (show seq ≤ 3 by omega)]
      by_cases h2 : shape > 1
      · rw [if_pos h2, decide_eq_false (show ¬ shape ≤ 1 by omega)]
        simp
      · rw [if_neg h2, decide_eq_true (show shape ≤ 1 by omega)]
        by_cases h3 : max < 0
        · rw [if_pos h3, decide_eq_false (show ¬ 0 ≤ max by omega)]
          simp
        · rw [if_neg h3, decide_eq_true (show 0 ≤ max by omega)]
          by_cases h4 : max > bandMany rate (seq == 2)
          · rw [if_pos h4, decide_eq_false (show ¬ max ≤ bandMany rate (seq == 2) by omega)]
            simp
          · rw [if_neg h4, decide_eq_true (show max ≤ bandMany rate (seq == 2) by omega)]
            simp only [Option.bind_some, Bool.true_and]
            generalize (if seq = 2 then groupsOk gs else gs == [1]) = z
            cases z <;> rfl
theorem some_f (seq shape max : Int) (gs : List Int) (hb : gs.length ≤ 17592186044416) (k : Nat) (hk : gs.length < k) : info_some.f k seq shape max gs = some (infoOk (bandMany 11 (seq == 2)) seq shape max gs) := by
  unfold info_some.f
  rw [check_f 11 seq shape max gs hb k hk]
  simp only [Option.bind_some]
  unfold checkS
  rw [if_neg (by omega)]
  split <;> rename_i h
  · rw [h]; rfl
  · simp at h; rw [h]; rfl
def someS (seq shape max : Int) (gs : List Int) : Bool := infoOk (bandMany 11 (seq == 2)) seq shape max gs
def windowsS (seq shape max : Int) (gs : List Int) : Int × Int := if someS seq shape max gs = true then (if seq = 2 then 8 else 1, 0) else (0, 8)
theorem windows_f (seq shape max : Int) (gs : List Int) (hb : gs.length ≤ 17592186044416) (k : Nat) (hk : gs.length < k) : info_Windows.f k seq shape max gs = some (windowsS seq shape max gs) := by
  unfold info_Windows.f windowsS
  rw [some_f seq shape max gs hb k hk]
  simp only [Option.bind_some]
  show (if someS seq shape max gs = true then _ else _) = _
  split
  · split <;> rfl
  · rfl
theorem infoOk_groups {many seq shape max : Int} {gs : List Int} (h : infoOk many seq shape max gs = true) : (if seq = 2 then groupsOk gs else gs == [1]) = true := by
  unfold infoOk at h
  simp only [Bool.and_eq_true] at h
  exact h.2
def groupS (seq shape max : Int) (gs : List Int) (w : Int) : Int × Int := if someS seq shape max gs = true then (if w < 0 ∨ w ≥ (if seq = 2 then 8 else 1) then (0, 2) else ((groupOf gs w : Int), 0)) else (0, 8)
theorem someS_all {seq shape max : Int} {gs : List Int} (h : someS seq shape max gs = true) : gs.all (fun g => decide (1 ≤ g) && decide (g ≤ 8)) = true ∧ gs.sum = (if seq = 2 then 8 else 1) ∧ gs.length ≤ 8 ∧ 0 < gs.length := by
  have := infoOk_groups h
  by_cases h2 : seq = 2
  · rw [if_pos h2] at this ⊢
    have h8 := groupsOk_length this
    simp only [groupsOk, Bool.and_eq_true, beq_iff_eq] at this
    refine ⟨this.1, this.2, h8, ?_⟩
    cases gs with
    | nil => simp at this
    | cons => simp
  · rw [if_neg h2] at this ⊢
    have : gs = [1] := by simpa using this
    subst this
    simp
theorem bands_few : ∀ r : Fin 12, bandMany (r.val : Int) true ≤ 15 ∧ bandMany (r.val : Int) false ≤ 40 := by decide +kernel
theorem bandMany_le (rate : Int) (h0 : 0 ≤ rate) (h1 : rate ≤ 11) : bandMany rate true ≤ 15 ∧ bandMany rate false ≤ 40 := by
  have := bands_few ⟨rate.toNat, by omega⟩
  simpa [Int.toNat_of_nonneg h0] using this
/-- What a check that is passed tells of the numbers. -/
theorem checkS_ok {rate seq shape max : Int} {gs : List Int} (h : checkS rate seq shape max gs = 0) : 0 ≤ rate ∧ rate ≤ 11 ∧ seq ≤ 3 ∧ shape ≤ 1 ∧ 0 ≤ max ∧ max ≤ 40 ∧ (seq = 2 → max ≤ 15) ∧ infoOk (bandMany rate (seq == 2)) seq shape max gs = true := by
  unfold checkS at h
  by_cases hr : rate < 0 ∨ rate > 11
  · rw [if_pos hr] at h
    cases h
  · rw [if_neg hr] at h
    by_cases hi : infoOk (bandMany rate (seq == 2)) seq shape max gs = true
    · have hb := bandMany_le rate (by omega) (by omega)
      have hi2 := hi
      unfold infoOk at hi2
      simp only [Bool.and_eq_true, decide_eq_true_eq] at hi2
      obtain ⟨⟨⟨⟨h1, h2⟩, h3⟩, h4⟩, _⟩ := hi2
      refine ⟨by omega, by omega, h1, h2, h3, ?_, fun e => ?_, hi⟩
      · cases hs : (seq == 2) <;> rw [hs] at h4 <;> omega
      · rw [e] at h4
        have : ((2 : Int) == 2) = true := rfl
        rw [this] at h4
        omega
    · rw [if_neg hi] at h
      cases h
theorem bands_up : ∀ r : Fin 12, bandMany (r.val : Int) true ≤ bandMany 11 true ∧ bandMany (r.val : Int) false ≤ bandMany 11 false := by decide +kernel
theorem infoOk_some {rate seq shape max : Int} {gs : List Int} (h0 : 0 ≤ rate) (h1 : rate ≤ 11) (h : infoOk (bandMany rate (seq == 2)) seq shape max gs = true) : someS seq shape max gs = true := by
  have hb := bands_up ⟨rate.toNat, by omega⟩
  simp only [Int.toNat_of_nonneg h0] at hb
  unfold someS
  unfold infoOk at h ⊢
  simp only [Bool.and_eq_true, decide_eq_true_eq] at h ⊢
  obtain ⟨⟨⟨⟨h1, h2⟩, h3⟩, h4⟩, h5⟩ := h
  refine ⟨⟨⟨⟨h1, h2⟩, h3⟩, ?_⟩, h5⟩
  cases hs : (seq == 2) <;> rw [hs] at h4 <;> omega
theorem put_ok (xs : List Int) (n size : Int) (h0 : 0 ≤ size) (h1 : size ≤ 31) (h2 : 0 ≤ n) (h3 : n < 2 ^ size.toNat) (hl : xs.length ≤ 100000000) : bits_Put.f xs n size = some (xs ++ bitsOf n size.toNat, 0) := by
  unfold bits_Put.f
  rw [if_pos ⟨h0, h1, h2, h3⟩, if_pos (by omega)]
end Go.Proofs.Ytjdlochffpikbaa.SP
