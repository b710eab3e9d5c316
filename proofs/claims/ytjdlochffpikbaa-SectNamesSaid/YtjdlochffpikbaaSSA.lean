/- Sections in plain words: which may be, and their bits. -/
import Derived.Test.YtjdlochffpikbaaKx15
import Derived.Test.YtjdlochffpikbaaKx18
import Derived.Test.YtjdlochffpikbaaKx23
import Derived.Test.YtjdlochffpikbaaSPA
import Derived.Test.YtjdlochffpikbaaHG
namespace Go.Proofs.Ytjdlochffpikbaa.SS
open Go.RowKit Go.Proofs.YtjdlochffpikbaaW.PrintWords Go.Proofs.YtjdlochffpikbaaW.PrintLast Go.Proofs.YtjdlochffpikbaaW.PrintMore Go.Proofs.Ytjdlochffpikbaa.HA Go.Proofs.Ytjdlochffpikbaa.HP Go.Proofs.Ytjdlochffpikbaa.HG Go.Proofs.Ytjdlochffpikbaa.K
set_option linter.unusedVariables false

abbrev Sec := S49
def secRight (s : Sec) (left : Int) : Bool := decide (1 ≤ s.f1) && decide (s.f1 ≤ left) && decide (0 ≤ s.f0) && (decide (s.f0 ≤ 11) || s.f0 == 13)
def grpOk : Int → List Sec → Bool
  | left, [] => left == 0
  | left, s :: r => secRight s left && grpOk (left - s.f1) r
def secsOk (s sh m : Int) (gs : List Int) (l : List (List Sec)) : Bool := SP.someS s sh m gs && decide (l.length = gs.length) && l.all (grpOk m)
theorem right_f (s : Sec) (left : Int) : sect_right.f s.f0 s.f1 left = some (secRight s left) := by
  unfold sect_right.f secRight
  by_cases h1 : s.f1 ≥ 1
  · rw [if_pos h1]
    by_cases h2 : s.f1 ≤ left
    · rw [if_pos h2]
      by_cases h3 : s.f0 ≥ 0
      · rw [if_pos h3]
        by_cases h4 : s.f0 ≤ 11
        · rw [if_pos h4]
          simp [h2, h4]
          omega
        · rw [if_neg h4]
          simp [h2, h4]
          omega
      · rw [if_neg h3]
        simp
        omega
    · rw [if_neg h2]
      simp [h2]
  · rw [if_neg h1]
    simp
    omega
theorem drop_L (l : List (List Sec)) (i : Nat) (h : i < l.length) : l.drop i = rd_L4 l (i : Int) :: l.drop (i + 1) := by
  unfold rd_L4
  rw [Int.toNat_natCast, List.getD_eq_getElem?_getD, List.getElem?_eq_getElem h, Option.getD_some]
  exact List.drop_eq_getElem_cons h
theorem drop_S (g : List Sec) (i : Nat) (h : i < g.length) : g.drop i = rd_T49 g (i : Int) :: g.drop (i + 1) := by
  unfold rd_T49
  rw [Int.toNat_natCast, List.getD_eq_getElem?_getD, List.getElem?_eq_getElem h, Option.getD_some]
  exact List.drop_eq_getElem_cons h
theorem secRight_le {s : Sec} {left : Int} (h : secRight s left = true) : 1 ≤ s.f1 ∧ s.f1 ≤ left ∧ 0 ≤ s.f0 ∧ s.f0 ≤ 13 := by
  unfold secRight at h
  simp only [Bool.and_eq_true, Bool.or_eq_true, decide_eq_true_eq, beq_iff_eq] at h
  omega
theorem check_l1 (l : List (List Sec)) (m : Int) (g : List Sec) (hg : g.length ≤ 4611686018427387904) (i : Int) (n s sh : Int) (gs : List Int) (K0 : Nat) (res : Bool) (h0 : ∀ k, K0 < k → sect_Check.l0 k l n (wrap64 (i + 1)) s sh m gs = some (if res = true then 0 else 8)) :
    ∀ (d k j : Nat) (left : Int), g.length - j = d → j ≤ g.length → K0 + d + 1 < k → 0 ≤ left → left ≤ 1000000 →
    sect_Check.l1 k left l n i g (g.length : Int) (j : Int) s sh m gs = some (if (grpOk left (g.drop j) && res) = true then 0 else 8) := by
  intro d
  induction d with
  | zero =>
    intro k j left hd hj hk hl0 hl1
    obtain ⟨k, rfl⟩ : ∃ m, k = m + 1 := ⟨k - 1, by omega⟩
    simp only [sect_Check.l1]
    rw [if_neg (by omega), List.drop_of_length_le (by omega)]
    unfold grpOk
    by_cases h : left = 0
    · rw [if_pos h, h0 k (by omega), h]
      simp
    · rw [if_neg h]
      simp [h]
  | succ d ih =>
    intro k j left hd hj hk hl0 hl1
    obtain ⟨k, rfl⟩ : ∃ m, k = m + 1 := ⟨k - 1, by omega⟩
    simp only [sect_Check.l1]
    rw [if_pos (by omega), if_pos (by omega), if_pos (by omega), right_f, drop_S g j (by omega)]
    simp only [Option.bind_some, grpOk]
    by_cases hr : secRight (rd_T49 g (j : Int)) left = true
    · have := secRight_le hr
      rw [if_pos hr, wrap_succ j (by omega), wrap_id _ (by omega) (by omega), ih k (j + 1) _ (by omega) (by omega) (by omega) (by omega) (by omega)]
      simp only [hr, Bool.true_and]
    · rw [if_neg hr]
      simp at hr
      simp [hr]
theorem check_l0 (l : List (List Sec)) (hl : l.length ≤ 4611686018427387904) (m : Int) (hm0 : 0 ≤ m) (hm : m ≤ 1000000) (s sh : Int) (gs : List Int) (N : Nat) (hN : ∀ g ∈ l, g.length ≤ N) (hN2 : N ≤ 4611686018427387904) :
    ∀ (d k i : Nat), l.length - i = d → i ≤ l.length → (N + 3) * d + 1 < k → sect_Check.l0 k l (l.length : Int) (i : Int) s sh m gs = some (if ((l.drop i).all (grpOk m)) = true then 0 else 8) := by
  intro d
  induction d with
  | zero =>
    intro k i hd hi hk
    obtain ⟨k, rfl⟩ : ∃ m, k = m + 1 := ⟨k - 1, by omega⟩
    simp only [sect_Check.l0]
    rw [if_neg (by omega), List.drop_of_length_le (by omega)]
    rfl
  | succ d ih =>
    intro k i hd hi hk
    obtain ⟨k, rfl⟩ : ∃ m, k = m + 1 := ⟨k - 1, by omega⟩
    have hgm : rd_L4 l (i : Int) ∈ l := by
      unfold rd_L4
      rw [Int.toNat_natCast, List.getD_eq_getElem?_getD, List.getElem?_eq_getElem (by omega : i < l.length), Option.getD_some]
      exact List.getElem_mem _
    have hgl := hN _ hgm
    simp only [sect_Check.l0]
    rw [if_pos (by omega), if_pos (by omega), if_pos (by omega), drop_L l i (by omega)]
    have he : (N + 3) * (d + 1) = (N + 3) * d + (N + 3) := Nat.mul_succ _ _
    have := check_l1 l m (rd_L4 l (i : Int)) (by omega) (i : Int) (l.length : Int) s sh gs ((N + 3) * d + 1) ((l.drop (i + 1)).all (grpOk m)) (fun k' hk' => by rw [wrap_succ i (by omega)]; exact ih k' (i + 1) (by omega) (by omega) hk')
      (rd_L4 l (i : Int)).length k 0 m (by omega) (by omega) (by omega) hm0 hm
    rw [show ((0 : Nat) : Int) = 0 from rfl, List.drop_zero] at this
    rw [this]
    simp only [List.all_cons]
    rfl
theorem someS_max {s sh m : Int} {gs : List Int} (h : SP.someS s sh m gs = true) : s ≤ 3 ∧ sh ≤ 1 ∧ 0 ≤ m ∧ m ≤ 40 ∧ (s = 2 → m ≤ 15) := by
  have h2 : SP.checkS 11 s sh m gs = 0 := by
    unfold SP.checkS
    rw [if_neg (by omega), if_pos]
    exact h
  obtain ⟨_, _, h3, h4, h5, h6, h7, _⟩ := SP.checkS_ok h2
  exact ⟨h3, h4, h5, h6, h7⟩
theorem check_f (s sh m : Int) (gs : List Int) (l : List (List Sec)) (hgs : gs.length ≤ 17592186044416) (hl : l.length ≤ 4611686018427387904) (N : Nat) (hN : ∀ g ∈ l, g.length ≤ N) (hN2 : N ≤ 4611686018427387904) (k : Nat) (hk : gs.length + (N + 3) * l.length + 2 < k) :
    sect_Check.f k s sh m gs l = some (if secsOk s sh m gs l = true then 0 else 8) := by
  unfold sect_Check.f secsOk
  rw [SP.windows_f s sh m gs hgs k (by omega)]
  unfold SP.windowsS
  by_cases h : SP.someS s sh m gs = true
  · obtain ⟨_, _, hm0, hm, _⟩ := someS_max h
    rw [if_pos h, h]
    simp only [Option.bind_some, if_true, Bool.true_and]
    by_cases h2 : (l.length : Int) = (gs.length : Int)
    · rw [if_pos h2, decide_eq_true (show l.length = gs.length by omega)]
      have := check_l0 l hl m hm0 (by omega) s sh gs N hN hN2 l.length k 0 (by omega) (by omega) (by omega)
      rw [show ((0 : Nat) : Int) = 0 from rfl, List.drop_zero] at this
      rw [this]
      simp
    · rw [if_neg h2, decide_eq_false (show ¬ l.length = gs.length by omega)]
      rfl
  · rw [if_neg h]
    simp only [Option.bind_some]
    simp at h
    rw [h]
    rfl
/-! ### bits -/
def sizeS (s : Int) : Nat := if s = 2 then 3 else 5
def mostS (s : Int) : Int := if s = 2 then 7 else 31
theorem field_f (s sh m : Int) (gs : List Int) : sect_field.f s sh m gs = some ((sizeS s : Int), mostS s) := by
  unfold sect_field.f sizeS mostS
  split <;> rfl
def lenBits (s : Int) (n : Int) : List Int := (fieldsOf n (mostS s)).flatMap (fun x => bitsOf x (sizeS s))
def secBits (s : Int) (x : Sec) : List Int := bitsOf x.f0 4 ++ lenBits s x.f1
def grpBits (s : Int) (g : List Sec) : List Int := g.flatMap (secBits s)
def secsBits (s : Int) (l : List (List Sec)) : List Int := l.flatMap (grpBits s)
theorem grpOk_len : ∀ (g : List Sec) (left : Int), grpOk left g = true → (g.length : Int) ≤ left
  | [], left, h => by simp [grpOk] at h; simp; omega
  | s :: r, left, h => by
    simp only [grpOk, Bool.and_eq_true] at h
    have := grpOk_len r _ h.2
    have := secRight_le h.1
    simp
    omega
theorem grpOk_mem : ∀ (g : List Sec) (left : Int), grpOk left g = true → ∀ x ∈ g, 1 ≤ x.f1 ∧ x.f1 ≤ left ∧ 0 ≤ x.f0 ∧ x.f0 ≤ 13
  | [], left, h, x, hx => by cases hx
  | s :: r, left, h, x, hx => by
    simp only [grpOk, Bool.and_eq_true] at h
    have h1 := secRight_le h.1
    rcases List.mem_cons.1 hx with rfl | hx
    · exact h1
    · have := grpOk_mem r _ h.2 x hx
      omega
theorem secsOk_ok {s sh m : Int} {gs : List Int} {l : List (List Sec)} (h : secsOk s sh m gs l = true) : SP.someS s sh m gs = true ∧ l.length = gs.length ∧ l.length ≤ 8 ∧ ∀ g ∈ l, grpOk m g = true := by
  unfold secsOk at h
  simp only [Bool.and_eq_true, decide_eq_true_eq] at h
  obtain ⟨⟨h1, h2⟩, h3⟩ := h
  obtain ⟨_, _, h4, _⟩ := SP.someS_all h1
  exact ⟨h1, h2, by omega, fun g hg => List.all_eq_true.1 h3 g hg⟩
theorem fieldsOf_mem (n most : Int) (h0 : 0 ≤ n) (h1 : 1 ≤ most) : ∀ x ∈ fieldsOf n most, 0 ≤ x ∧ x ≤ most := by
  intro x hx
  unfold fieldsOf at hx
  rcases List.mem_append.1 hx with hx | hx
  · have := (List.mem_replicate.1 hx).2
    omega
  · have h2 := Int.emod_nonneg n (show most ≠ 0 by omega)
    have h3 := Int.emod_lt_of_pos n (show 0 < most by omega)
    rw [List.mem_singleton.1 hx]
    omega
theorem fieldsOf_len (n most : Int) (h0 : 0 ≤ n) (h1 : 1 ≤ most) : ((fieldsOf n most).length : Int) ≤ n + 1 := by
  rw [fieldsOf_length]
  have : n / most ≤ n := Int.ediv_le_self _ h0
  omega
end Go.Proofs.Ytjdlochffpikbaa.SS
