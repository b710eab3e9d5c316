/- What tns' printed numbers are, without rounds: rounding, coefficients' mirrors, coefficients of prediction: the program's and the reference's. -/
import Derived.Test.YtapaahhegjlbgaaKx11
import Derived.Test.YtapaahhegjlbgaaKx21
import Derived.Test.YtapaahhegjlbgaaKx23
import Derived.Test.YtapaahhegjlbgaaKx24
import Derived.Test.YtapaahhegjlbgaaKx30
import Derived.Test.YtapaahhegjlbgaaKx31
import Derived.Test.YtapaahhegjlbgaaKx32
import Derived.Test.YtapaahhegjlbgaaKx33
import Derived.Test.YtapaahhegjlbgaaHE
import Derived.Test.YtapaahhegjlbgaaHA
namespace Go.Proofs.Ytapaahhegjlbgaa.SQ
open Go.RowKit Go.Proofs.YtapaahhegjlbgaaW.PrintWords Go.Proofs.YtapaahhegjlbgaaW.PrintLast Go.Proofs.YtapaahhegjlbgaaW.PrintMore Go.Proofs.Ytapaahhegjlbgaa.K
set_option linter.unusedVariables false

theorem wrap_id (x : Int) (h0 : -9223372036854775808 ≤ x) (h1 : x ≤ 9223372036854775807) : wrap64 x = x := by
  unfold wrap64
  omega
theorem wrap_succ (i : Nat) (h : i ≤ 4611686018427387904) : wrap64 ((i : Int) + 1) = ((i + 1 : Nat) : Int) := by
  rw [wrap_id _ (by omega) (by omega)]
  omega
theorem rd_at (xs : List Int) (i : Nat) (h : i < xs.length) : rd xs (i : Int) = xs[i] := by
  unfold rd
  rw [Int.toNat_natCast, List.getD_eq_getElem?_getD, List.getElem?_eq_getElem h, Option.getD_some]
theorem drop_at (xs : List Int) (i : Nat) (h : i < xs.length) : xs.drop i = rd xs (i : Int) :: xs.drop (i + 1) := by
  rw [rd_at xs i h]
  exact List.drop_eq_getElem_cons h
theorem and_one (E : Int) : bits BinOp.and IntKind.i64 E 1 = E % 2 := by
  show IntKind.i64.wrap ((BitVec.ofInt 64 E &&& BitVec.ofInt 64 1).toNat : Int) = _
  have h2 : (BitVec.ofInt 64 1).toNat = 1 := by decide
  rw [BitVec.toNat_and, h2, Nat.and_one_is_mod, BitVec.toNat_ofInt, IntKind.wrap_i64]
  omega
/-- Rounded off by 20 bits. -/
def rnd (x : Int) : Int := (x + 524288) / 1048576
theorem rounded_f (x : Int) (h0 : -4611686018427387904 ≤ x) (h1 : x ≤ 4611686018427387904) (k : Nat) (hk : 0 < k) : tns_rounded.f k x 20 = some (rnd x) := by
  obtain ⟨k, rfl⟩ : ∃ m, k = m + 1 := ⟨k - 1, by omega⟩
  unfold tns_rounded.f fix_Round.f
  rw [if_neg (by omega), if_neg (by omega), if_neg (by omega)]
  simp only [fix_Round.j0]
  rw [show decide ((20 : Int) > 62) = false from by decide]
  simp only [Bool.false_eq_true, if_false]
  rw [if_neg (by omega), if_pos (by omega), wrap_id (20 - 1) (by omega) (by omega), if_pos (by omega), and_one]
  have e1 : shr .i64 x 20 = x / 1048576 := rfl
  have e2 : shr .i64 x (20 - 1) = x / 524288 := rfl
  rw [e1, e2]
  simp only [Option.bind_some]
  rw [wrap_id _ (by omega) (by omega)]
  unfold rnd
  congr 1
  omega
theorem down_f (x : Int) (h0 : -4611686018427387904 ≤ x) (h1 : x ≤ 4611686018427387904) : reedpiperef03_Down.f x 20 = some (rnd x) := by
  unfold reedpiperef03_Down.f
  rw [if_neg (by omega), wrap_id (20 - 1) (by omega) (by omega), if_pos (by omega), if_pos (by omega)]
  have e1 : shr .i64 x 20 = x / 1048576 := rfl
  have e2 : shl .i64 (shr .i64 x 20) 20 = x / 1048576 * 1048576 := by
    rw [e1]
    show IntKind.i64.wrap (x / 1048576 * 1048576) = _
    rw [IntKind.wrap_i64]
    omega
  have e3 : shl .i64 1 (20 - 1) = 524288 := by
    show IntKind.i64.wrap 524288 = _
    rw [IntKind.wrap_i64]
    omega
  rw [e2, e3, e1, wrap_id _ (by omega) (by omega)]
  unfold rnd
  split
  · rw [wrap_id _ (by omega) (by omega)]
    congr 1
    omega
  · congr 1
    omega
set_option maxRecDepth 100000 in
theorem mirror_few : ∀ c : Fin 16, ∀ fine : Bool, tns_mirror.f 100 ((c.val : Int) - 8) fine = reedpiperef15_mirror.f 100 ((c.val : Int) - 8) fine ∧ (match tns_mirror.f 100 ((c.val : Int) - 8) fine with | some v => decide (-1048576 ≤ v) && decide (v ≤ 1048576) | none => false) = true := by decide +kernel
/-- What a coefficient stands for. -/
def mir (fine : Bool) (c : Int) : Int := (tns_mirror.f 100 c fine).getD 0
theorem mirror_f (fine : Bool) (c : Int) (h0 : -8 ≤ c) (h1 : c ≤ 7) : tns_mirror.f 100 c fine = some (mir fine c) ∧ reedpiperef15_mirror.f 100 c fine = some (mir fine c) ∧ -1048576 ≤ mir fine c ∧ mir fine c ≤ 1048576 := by
  have h := mirror_few ⟨(c + 8).toNat, by omega⟩ fine
  simp only [show (((c + 8).toNat : Nat) : Int) - 8 = c by omega] at h
  unfold mir
  rw [← h.1]
  cases hm : tns_mirror.f 100 c fine with
  | none => rw [hm] at h; simp at h
  | some v =>
    rw [hm] at h
    have h2 := h.2
    simp only [Bool.and_eq_true, decide_eq_true_eq] at h2
    exact ⟨rfl, rfl, h2.1, h2.2⟩
theorem refMirror_f (fine : Bool) (c : Int) (h0 : -8 ≤ c) (h1 : c ≤ 7) (k : Nat) (hk : 100 ≤ k) : reedpiperef15_mirror.f k c fine = some (mir fine c) :=
  at_rounds (g := fun k => reedpiperef15_mirror.f k c fine) (reedpiperef15_mirror.mono c fine) hk (mirror_f fine c h0 h1).2.1
/-! ### the coefficients of prediction -/
/-- The next ones, out of those ahead. -/
def stepC (k : Int) (a : List Int) (m : Nat) : List Int := (List.range m).map (fun (i : Nat) => rd a (i : Int) + rnd (k * rd a ((m - 1 - i : Nat) : Int))) ++ [k]
def coefs (fine : Bool) (l : List Int) : Nat → List Int
  | 0 => []
  | m + 1 => stepC (mir fine (rd l (m : Int))) (coefs fine l m) m
theorem coefs_length (fine : Bool) (l : List Int) : ∀ m, (coefs fine l m).length = m
  | 0 => rfl
  | m + 1 => by simp [coefs, stepC]
def okC (l : List Int) : Prop := ∀ c ∈ l, -8 ≤ c ∧ c ≤ 7
theorem okC_rd {l : List Int} (h : okC l) (i : Nat) (hi : i < l.length) : -8 ≤ rd l (i : Int) ∧ rd l (i : Int) ≤ 7 := by
  rw [rd_at l i hi]
  exact h _ (List.getElem_mem hi)
/-- How great they are after m steps. -/
def bnd : Nat → Int
  | 0 => 1048576
  | m + 1 => 2 * bnd m + 1
theorem bnd_le : ∀ m, m ≤ 12 → 1048576 ≤ bnd m ∧ bnd m ≤ 4294971391 := by decide
theorem rnd_bound (k b B : Int) (hB : 1 ≤ B) (k0 : -1048576 ≤ k) (k1 : k ≤ 1048576) (b0 : -B ≤ b) (b1 : b ≤ B) : -(B + 1) ≤ rnd (k * b) ∧ rnd (k * b) ≤ B + 1 ∧ -(1048576 * B) ≤ k * b ∧ k * b ≤ 1048576 * B := by
  have h1 : k * b ≤ 1048576 * B := by
    rcases Int.le_total 0 b with hb | hb
    · calc k * b ≤ 1048576 * b := Int.mul_le_mul_of_nonneg_right k1 hb
        _ ≤ 1048576 * B := by omega
    · have : k * b = (-k) * (-b) := by rw [Int.neg_mul_neg]
      rw [this]
      calc (-k) * (-b) ≤ 1048576 * (-b) := Int.mul_le_mul_of_nonneg_right (by omega) (by omega)
        _ ≤ 1048576 * B := by omega
  have h2 : -(1048576 * B) ≤ k * b := by
    rcases Int.le_total 0 b with hb | hb
    · have : (-k) * b ≤ 1048576 * b := Int.mul_le_mul_of_nonneg_right (by omega) hb
      rw [Int.neg_mul] at this
      omega
    · have : k * (-b) ≤ 1048576 * (-b) := Int.mul_le_mul_of_nonneg_right k1 (by omega)
      rw [Int.mul_neg] at this
      omega
  unfold rnd
  omega
theorem coefs_bound (fine : Bool) (l : List Int) (h : okC l) : ∀ m, m ≤ l.length → ∀ i : Nat, i < m → -bnd m ≤ rd (coefs fine l m) (i : Int) ∧ rd (coefs fine l m) (i : Int) ≤ bnd m := by
  intro m
  induction m with
  | zero => intro _ i hi; omega
  | succ m ih =>
    intro hm i hi
    have hk := mirror_f fine (rd l (m : Int)) (okC_rd h m (by omega)).1 (okC_rd h m (by omega)).2
    have hB : ∀ n, 1048576 ≤ bnd n := by
      intro n
      induction n with
      | zero => decide
      | succ n ih => simp only [bnd]; omega
    have hBm := hB m
    simp only [bnd]
    rw [rd_at _ i (by rw [coefs_length]; exact hi)]
    simp only [coefs, stepC]
    by_cases hlt : i < m
    · rw [List.getElem_append_left (by simpa using hlt)]
      simp only [List.getElem_map, List.getElem_range]
      have b1 := ih (by omega) i hlt
      have b2 := ih (by omega) (m - 1 - i) (by omega)
      have b3 := rnd_bound (mir fine (rd l (m : Int))) (rd (coefs fine l m) ((m - 1 - i : Nat) : Int)) (bnd m) (by omega) hk.2.2.1 hk.2.2.2 b2.1 b2.2
      omega
    · rw [List.getElem_append_right (by simp; omega)]
      simp
      omega
theorem take_set_succ (xs : List Int) (i : Nat) (v : Int) (h : i < xs.length) : (xs.set i v).take (i + 1) = xs.take i ++ [v] := by
  apply List.ext_getElem?
  intro j
  rw [List.getElem?_take]
  by_cases hj : j < i
  · rw [if_pos (by omega), List.getElem?_append_left (by simp; omega), List.getElem?_take, if_pos hj, List.getElem?_set_ne (by omega)]
  · by_cases hj2 : j = i
    · subst hj2
      rw [if_pos (by omega), List.getElem?_set_self h, List.getElem?_append_right (by rw [List.length_take]; omega)]
      simp [Nat.min_eq_left (Nat.le_of_lt h)]
    · rw [if_neg (by omega), List.getElem?_eq_none (by simp; omega)]
theorem drop_set_far (xs : List Int) (i m : Nat) (v : Int) (h : i < m) : (xs.set i v).drop m = xs.drop m := by
  apply List.ext_getElem?
  intro j
  rw [List.getElem?_drop, List.getElem?_drop, List.getElem?_set_ne (by omega)]
theorem inner_f (k : Int) (ys : List Int) (m : Nat) (B : Int) (hB : 1 ≤ B) (hB2 : B ≤ 4294971391) (k0 : -1048576 ≤ k) (k1 : k ≤ 1048576) (hy : ∀ i : Nat, i < m → -B ≤ rd ys (i : Int) ∧ rd ys (i : Int) ≤ B) :
    ∀ (d : Nat) (xs : List Int), d ≤ m → m ≤ xs.length → HE.inner k ys m d xs = some (xs.take (m - d) ++ (List.range' (m - d) d).map (fun (i : Nat) => rd ys (i : Int) + rnd (k * rd ys ((m - 1 - i : Nat) : Int))) ++ xs.drop m) := by
  intro d
  induction d with
  | zero =>
    intro xs hd hm
    simp [HE.inner]
  | succ d ih =>
    intro xs hd hm
    obtain ⟨i, hi⟩ : ∃ i, i = m - (d + 1) := ⟨_, rfl⟩
    simp only [HE.inner]
    rw [← hi]
    have b1 := hy i (by omega)
    have b2 := hy (m - 1 - i) (by omega)
    have b3 := rnd_bound k (rd ys ((m - 1 - i : Nat) : Int)) B hB k0 k1 b2.1 b2.2
    rw [wrap_id _ (by omega) (by omega), rounded_f _ (by omega) (by omega) 100 (by omega)]
    simp only [Option.bind_some]
    rw [wrap_id _ (by omega) (by omega), ih _ (by omega) (by simpa using hm), show m - d = i + 1 by omega, take_set_succ xs i _ (by omega), drop_set_far xs i m _ (by omega), List.range'_succ]
    simp
theorem outer_f (fine : Bool) (l : List Int) (h : okC l) (hl : l.length ≤ 12) : ∀ (d : Nat) (xs : List Int), d ≤ l.length → xs.length = 12 → xs.take (l.length - d) = coefs fine l (l.length - d) → ∃ zs, HE.outer fine l d xs = some zs ∧ zs.take l.length = coefs fine l l.length := by
  intro d
  induction d with
  | zero =>
    intro xs hd hx ht
    exact ⟨xs, rfl, by simpa using ht⟩
  | succ d ih =>
    intro xs hd hx ht
    obtain ⟨m, hm⟩ : ∃ m, m = l.length - (d + 1) := ⟨_, rfl⟩
    rw [← hm] at ht
    have hk := mirror_f fine (rd l (m : Int)) (okC_rd h m (by omega)).1 (okC_rd h m (by omega)).2
    have hb := bnd_le m (by omega)
    have hrd : ∀ i : Nat, i < m → rd xs (i : Int) = rd (coefs fine l m) (i : Int) := by
      intro i hi
      rw [← ht, rd_at _ i (by omega), rd_at _ i (by simp; omega), List.getElem_take]
    have hy : ∀ i : Nat, i < m → -bnd m ≤ rd xs (i : Int) ∧ rd xs (i : Int) ≤ bnd m := by
      intro i hi
      rw [hrd i hi]
      exact coefs_bound fine l h m (by omega) i hi
    simp only [HE.outer]
    rw [← hm, hk.1]
    simp only [Option.bind_some]
    rw [inner_f _ xs m (bnd m) (by omega) hb.2 hk.2.2.1 hk.2.2.2 hy m xs (by omega) (by omega)]
    simp only [Option.bind_some]
    refine ih _ (by omega) (by simp; omega) ?_
    rw [show l.length - d = m + 1 by omega, take_set_succ _ _ _ (by simp; omega)]
    simp only [coefs, stepC, Nat.sub_self, List.take_zero, List.nil_append]
    rw [List.take_append_of_le_length (by simp), List.take_of_length_le (by simp), List.range_eq_range']
    congr 1
    apply List.map_congr_left
    intro i hi
    have hi2 : i < m := by simpa using hi
    rw [hrd i hi2, hrd (m - 1 - i) (by omega)]
theorem predictS_f (fine : Bool) (l : List Int) (h : okC l) (hl : l.length ≤ 12) : HE.predictS fine l = some (coefs fine l l.length) := by
  unfold HE.predictS
  obtain ⟨zs, h1, h2⟩ := outer_f fine l h hl l.length (List.replicate 12 0) (by omega) (by simp) (by simp [coefs])
  rw [h1, Option.map_some, h2]
theorem same11_l0 (xs ys : List Int) (hl : xs.length = ys.length) (hb : xs.length ≤ 4611686018427387904) : ∀ (d k i : Nat), xs.length - i = d → i ≤ xs.length → d < k →
    reedpiperef11_Same.l0 k xs ys (i : Int) = some (decide (xs.drop i = ys.drop i)) := by
  intro d
  induction d with
  | zero =>
    intro k i hd hi hk
    obtain ⟨k, rfl⟩ : ∃ m, k = m + 1 := ⟨k - 1, by omega⟩
    simp only [reedpiperef11_Same.l0]
    rw [if_neg (by omega), List.drop_of_length_le (by omega), List.drop_of_length_le (by omega)]
    simp
  | succ d ih =>
    intro k i hd hi hk
    obtain ⟨k, rfl⟩ : ∃ m, k = m + 1 := ⟨k - 1, by omega⟩
    simp only [reedpiperef11_Same.l0]
    rw [if_pos (by omega), if_pos (by omega), if_pos (by omega), drop_at xs i (by omega), drop_at ys i (by omega)]
    by_cases h : rd xs (i : Int) = rd ys (i : Int)
    · rw [if_pos h, wrap_succ i (by omega), ih k (i + 1) (by omega) (by omega) (by omega)]
      simp [h]
    · rw [if_neg h]
      simp [h]
theorem same11_f (xs ys : List Int) (hb : xs.length ≤ 4611686018427387904) (k : Nat) (hk : xs.length < k) : reedpiperef11_Same.f k xs ys = some (decide (xs = ys)) := by
  unfold reedpiperef11_Same.f
  by_cases h : (xs.length : Int) = (ys.length : Int)
  · rw [if_pos h]
    have := same11_l0 xs ys (by omega) hb xs.length k 0 (by omega) (by omega) hk
    simpa using this
  · rw [if_neg h]
    have : xs ≠ ys := fun e => h (by rw [e])
    simp [this]

/-! ### groups -/
/-! ### the reference -/
def oddC (fine : Bool) (c : Int) : Bool := tns_check.oddC fine c
def checkF (len order : Int) (fine : Bool) (l : List Int) : Int := if order < 0 ∨ order > 12 ∨ (l.length : Int) ≠ order then 4 else if len < 0 ∨ len > 63 ∨ l.any (tns_check.oddC fine) = true then 2 else 0
theorem check_f (len order : Int) (down fine : Bool) (l : List Int) : tns_check.f len order down fine l = some (checkF len order fine l) := by
  unfold tns_check.f checkF
  generalize l.any (tns_check.oddC fine) = b
  cases b
  all_goals
    simp only [Bool.false_eq_true, or_false, or_true, if_true, if_false]
    repeat' split
    all_goals first | rfl | (exfalso; omega)
theorem refCheck_l0 (m : Int) (hm : 0 ≤ m ∧ m ≤ 100) (l : List Int) (hb : l.length ≤ 17592186044416) (a b : Int) (c e : Bool) : ∀ (d k i : Nat), l.length - i = d → i ≤ l.length → d < k →
    reedpiperef15_check.l0 k m (i : Int) a b c e l = some (if (l.drop i).any (fun x => decide (x < -m - 1) || decide (m < x)) = true then 2 else 0) := by
  intro d
  induction d with
  | zero =>
    intro k i hd hi hk
    obtain ⟨k, rfl⟩ : ∃ m, k = m + 1 := ⟨k - 1, by omega⟩
    simp only [reedpiperef15_check.l0]
    rw [if_neg (by omega), List.drop_of_length_le (by omega)]
    simp
  | succ d ih =>
    intro k i hd hi hk
    obtain ⟨k, rfl⟩ : ∃ m, k = m + 1 := ⟨k - 1, by omega⟩
    simp only [reedpiperef15_check.l0]
    rw [if_pos (by omega), if_pos (by omega), drop_at l i (by omega), List.any_cons, wrap_id (-m) (by omega) (by omega), wrap_id (-m - 1) (by omega) (by omega)]
    by_cases h1 : rd l (i : Int) < -m - 1
    · rw [if_pos h1, decide_eq_true h1]
      simp
    · rw [if_neg h1, decide_eq_false h1]
      by_cases h2 : rd l (i : Int) > m
      · rw [if_pos h2, decide_eq_true (show m < rd l (i : Int) from h2)]
        simp
      · rw [if_neg h2, decide_eq_false (show ¬ m < rd l (i : Int) from h2), wrap_succ i (by omega), ih k (i + 1) (by omega) (by omega) (by omega)]
        simp
theorem refCheck_f (len order : Int) (down fine : Bool) (l : List Int) (hb : l.length ≤ 17592186044416) (k : Nat) (hk : l.length + 10 < k) : reedpiperef15_check.f k len order down fine l = some (checkF len order fine l) := by
  obtain ⟨k, rfl⟩ : ∃ m, k = m + 1 := ⟨k - 1, by omega⟩
  obtain ⟨k, rfl⟩ : ∃ m, k = m + 1 := ⟨k - 1, by omega⟩
  obtain ⟨k, rfl⟩ : ∃ m, k = m + 1 := ⟨k - 1, by omega⟩
  have h7 := refCheck_l0 7 (by omega) l hb len order down true l.length k 0 (by omega) (by omega) (by omega)
  have h3 := refCheck_l0 3 (by omega) l hb len order down false l.length k 0 (by omega) (by omega) (by omega)
  have e7 : (fun x : Int => decide (x < -7 - 1) || decide (7 < x)) = tns_check.oddC true := by
    funext x
    simp [tns_check.oddC]
  have e3 : (fun x : Int => decide (x < -3 - 1) || decide (3 < x)) = tns_check.oddC false := by
    funext x
    simp [tns_check.oddC]
  rw [e7] at h7
  rw [e3] at h3
  simp only [List.drop_zero, Int.natCast_zero] at h7 h3
  unfold reedpiperef15_check.f checkF
  simp only [reedpiperef15_check.j0, reedpiperef15_check.j1, reedpiperef15_check.j2]
  cases fine
  all_goals
    simp only [Bool.false_eq_true, if_false, if_true, h3, h7]
    clear h3 h7 e3 e7
    generalize l.any (tns_check.oddC _) = b
    cases b
    all_goals
      simp only [Bool.false_eq_true, or_false, or_true, if_true, if_false, bne_iff_ne, decide_eq_true_eq]
      repeat' split
      all_goals first | rfl | (exfalso; omega)
theorem refCoefs_l1 (k : Int) (a : List Int) (m : Nat) (hm : m ≤ 12) (ha : a.length = m) (B : Int) (hB : 1 ≤ B) (hB2 : B ≤ 4294971391) (k0 : -1048576 ≤ k) (k1 : k ≤ 1048576) (hy : ∀ i : Nat, i < m → -B ≤ rd a (i : Int) ∧ rd a (i : Int) ≤ B) (x0 x1 : Int) (x2 x3 : Bool) (l : List Int) :
    ∀ (d K i : Nat), m - i = d → i ≤ m → reedpiperef15_Coefs.l1 (K + d + 1) a (m : Int) k ((List.range i).map (fun (i : Nat) => rd a (i : Int) + rnd (k * rd a ((m - 1 - i : Nat) : Int)))) (i : Int) x0 x1 x2 x3 l = reedpiperef15_Coefs.l0 K (stepC k a m) ((m + 1 : Nat) : Int) x0 x1 x2 x3 l := by
  intro d
  induction d with
  | zero =>
    intro K i hd hi
    obtain rfl : i = m := by omega
    simp only [reedpiperef15_Coefs.l1]
    rw [if_neg (by omega), if_pos (by simp; omega), wrap_succ i (by omega)]
    rfl
  | succ d ih =>
    intro K i hd hi
    obtain ⟨K1, hK1⟩ : ∃ K1, K1 = K + d + 1 := ⟨_, rfl⟩
    rw [show K + (d + 1) + 1 = K1 + 1 by omega]
    simp only [reedpiperef15_Coefs.l1]
    have b1 := hy i (by omega)
    have b2 := hy (m - 1 - i) (by omega)
    have b3 := rnd_bound k (rd a ((m - 1 - i : Nat) : Int)) B hB k0 k1 b2.1 b2.2
    rw [wrap_id ((m : Int) - 1) (by omega) (by omega), wrap_id ((m : Int) - 1 - (i : Int)) (by omega) (by omega), if_pos (by omega), if_pos (by omega), if_pos (by omega), if_pos (by omega), if_pos (by omega),
      show ((m : Int) - 1 - (i : Int)) = ((m - 1 - i : Nat) : Int) by omega, wrap_id (k * _) (by omega) (by omega), down_f _ (by omega) (by omega)]
    simp only [Option.bind_some]
    rw [if_pos (by simp; omega), wrap_id (rd a (i : Int) + _) (by omega) (by omega), wrap_succ i (by omega), ← ih K (i + 1) (by omega) (by omega), List.range_succ, List.map_append, ← hK1]
    rfl
theorem refCoefs_l0 (fine : Bool) (l : List Int) (h : okC l) (hl : l.length ≤ 12) (x0 x1 : Int) (x2 : Bool) : ∀ (d K m : Nat), l.length - m = d → m ≤ l.length → 300 + 20 * d < K → reedpiperef15_Coefs.l0 K (coefs fine l m) (m : Int) x0 x1 x2 fine l = some (coefs fine l l.length) := by
  intro d
  induction d with
  | zero =>
    intro K m hd hm hK
    obtain ⟨K, rfl⟩ : ∃ m, K = m + 1 := ⟨K - 1, by omega⟩
    obtain rfl : m = l.length := by omega
    simp only [reedpiperef15_Coefs.l0]
    rw [if_neg (by omega)]
  | succ d ih =>
    intro K m hd hm hK
    obtain ⟨K, rfl⟩ : ∃ m, K = m + 1 := ⟨K - 1, by omega⟩
    have hk := mirror_f fine (rd l (m : Int)) (okC_rd h m (by omega)).1 (okC_rd h m (by omega)).2
    have hb := bnd_le m (by omega)
    simp only [reedpiperef15_Coefs.l0]
    rw [if_pos (by omega), if_pos (by omega), refMirror_f fine _ (okC_rd h m (by omega)).1 (okC_rd h m (by omega)).2 K (by omega)]
    simp only [Option.bind_some]
    have := refCoefs_l1 (mir fine (rd l (m : Int))) (coefs fine l m) m (by omega) (coefs_length fine l m) (bnd m) (by omega) hb.2 hk.2.2.1 hk.2.2.2 (fun i hi => coefs_bound fine l h m (by omega) i hi) x0 x1 x2 fine l m (K - m - 1) 0 (by omega) (by omega)
    rw [show K - m - 1 + m + 1 = K by omega] at this
    rw [show reedpiperef15_Coefs.l1 K (coefs fine l m) (m : Int) (mir fine (rd l (m : Int))) [] 0 x0 x1 x2 fine l = _ from this]
    exact ih (K - m - 1) (m + 1) (by omega) (by omega) (by omega)
theorem refCoefs_f (fine : Bool) (l : List Int) (h : okC l) (hl : l.length ≤ 12) (x0 x1 : Int) (x2 : Bool) (K : Nat) (hK : 600 < K) : reedpiperef15_Coefs.f K x0 x1 x2 fine l = some (coefs fine l l.length) := by
  unfold reedpiperef15_Coefs.f
  exact refCoefs_l0 fine l h hl x0 x1 x2 l.length K 0 (by omega) (by omega) (by omega)
/-- What a filter that may be is like. -/
theorem checkF_ok {len order : Int} {fine : Bool} {l : List Int} (h : checkF len order fine l = 0) : (l.length : Int) = order ∧ l.length ≤ 12 ∧ okC l ∧ 0 ≤ len ∧ len ≤ 63 := by
  unfold checkF at h
  split at h
  · omega
  · next h1 =>
    split at h
    · omega
    · next h2 =>
      have h3 : l.any (tns_check.oddC fine) = false := by
        cases hq : l.any (tns_check.oddC fine) with
        | false => rfl
        | true => exact absurd (Or.inr (Or.inr hq)) h2
      refine ⟨by omega, by omega, fun c hc => ?_, by omega, by omega⟩
      have := List.any_eq_false.1 h3 c hc
      unfold tns_check.oddC at this
      cases fine <;> simp at this <;> omega
end Go.Proofs.Ytapaahhegjlbgaa.SQ
