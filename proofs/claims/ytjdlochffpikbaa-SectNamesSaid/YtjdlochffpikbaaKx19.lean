-- Written for this claim by this session's own wip/hook.py (it runs the kit's print and takes some functions' contracts as given texts of this session's).
import Derived.Test.YtjdlochffpikbaaKx0
import Derived.Test.YtjdlochffpikbaaKx28
import Derived.Test.YtjdlochffpikbaaKx30
namespace Go.Proofs.Ytjdlochffpikbaa.K
open Go.RowKit Go.Proofs.YtjdlochffpikbaaW.PrintWords Go.Proofs.YtjdlochffpikbaaW.PrintLast Go.Proofs.YtjdlochffpikbaaW.PrintMore
attribute [local go_sem] max2_int min2_int max_two min_two max_three min_three max_four min_four   -- for this text's walks alone
set_option linter.unusedVariables false
set_option linter.unusedSimpArgs false

/-! ### bits_Put: function 19: GIVEN BY HAND -/
def bits_Put.f (l0 : List Int) (a1 : Int) (a2 : Int) : Option (List Int × Int) := if 0 ≤ a2 ∧ a2 ≤ 31 ∧ 0 ≤ a1 ∧ a1 < 2 ^ a2.toNat then (if l0.length < 140737488355297 then some (l0 ++ HA.bitsOf a1 a2.toNat, 0) else none) else some ([], 2)
set_option maxHeartbeats 8000000 in
set_option maxRecDepth 100000 in
theorem bits_Put.calls (A0 : Option Addr) (c0 : Nat) (l0 : List Int) (a1 : Int) (a2 : Int) (r1 : List Int) (r2 : Int) (w : World) (hr0 : Kd.C (Kd.int .u8) w A0 l0.length l0) (hc0 : l0.length ≤ c0) (h : bits_Put.f l0 a1 a2 = some (r1, r2)) :
    Calls Try.prog 19 #[.slice A0 l0.length c0, .int .i64 a1, .int .i64 a2] w fun e w' => ∃ v0_ : Value, e = .returned (.tuple #[v0_, .int .i64 r2]) ∧ Kd.R (Kd.int .u8) 5 w' w.heap.size (fun _ => True) v0_ r1 ∧ Below w.heap.size w w' := by
  unfold bits_Put.f at h
  have HR0 := Aside0.mk hr0
  clear hr0
  have HC0 := Aside0.mk hc0
  clear hc0
  by_cases hs : 0 ≤ a2 ∧ a2 ≤ 31
  · have HZ : Aside0 (bits_sized.f a2 = some true) := ⟨by unfold bits_sized.f; rw [if_pos (show a2 ≥ 0 from hs.1), decide_eq_true hs.2]⟩
    obtain ⟨hs0, hs1⟩ := hs
    by_cases hn : 0 ≤ a1
    · have b1 : decide (a1 < 0) = false := decide_eq_false (by omega)
      have hp : (0 : Int) < 2 ^ a2.toNat := Int.pow_pos (by omega)
      by_cases hq : a1 < 2 ^ a2.toNat
      · rw [if_pos ⟨hs0, hs1, hn, hq⟩] at h
        have hd : a1 / 2 ^ a2.toNat = 0 := Int.ediv_eq_zero_of_lt hn hq
        have b2 : ((a1 / 2 ^ a2.toNat) != 0) = false := by rw [hd]; rfl
        by_cases hl : l0.length < 140737488355297
        · rw [if_pos hl] at h
          obtain ⟨rfl, rfl⟩ : l0 ++ HA.bitsOf a1 a2.toNat = r1 ∧ 0 = r2 := by simpa using h
          have hp31 : (2 : Int) ^ a2.toNat ≤ 2147483648 := by
            have h31 : (2 : Int) ^ a2.toNat ≤ 2 ^ 31 := by exact_mod_cast Nat.pow_le_pow_right (by omega) (show a2.toNat ≤ 31 by omega)
            simpa using h31
          have hn31 : a1 ≤ 2147483647 := by omega
          obtain ⟨s, rfl⟩ := Int.eq_ofNat_of_zero_le hs0
          simp only [Int.toNat_natCast] at *
          have hs31 : s ≤ 31 := by omega
          have HCL : Aside0 (slices_Clone_byte_byte.f l0 = some l0) := ⟨by unfold slices_Clone_byte_byte.f; rw [if_pos (by omega)]⟩
          clear hp hq hd hp31 h
          go_enter Try.func19, Try.ntmps19
          go_wp2_with (first | ((with_reducible refine gate_callee (f := 28) rfl ?_); refine goesL_ (some 9) rfl rfl Try.func28 (by kernel_rfl) rfl #[.int .i64 s] rfl (by (try simp only [List.map_toArray, List.map_cons, List.map_nil]); first | done | rfl) ?_; (with_reducible refine (bits_sized.calls s true _ HZ.out).mono ?_); rintro e w' ⟨rfl, ⟨nd, rfl⟩⟩; refine ⟨_, rfl, ?_⟩) | ((with_reducible refine gate_callee (f := 30) rfl ?_); refine goesL_ (some 22) rfl rfl Try.func30 (by kernel_rfl) rfl #[.slice A0 l0.length c0] rfl (by (try simp only [List.map_toArray, List.map_cons, List.map_nil]); first | done | rfl) ?_; (with_reducible refine (slices_Clone_byte_byte.calls A0 c0 l0 l0 _ (by (with_reducible repeat (first | apply Kd.C_alloc | apply Kd.C_drewN | apply Kd.C_drew)); exact HR0.out) HC0.out HCL.out).mono ?_); rintro e w1 ⟨v1, rfl, ho, hb⟩; refine ⟨_, rfl, ?_⟩; have HO1 := Aside0.mk ho; have HB1 := Aside0.mk hb; clear ho hb) | ((with_reducible refine gate_callee (f := 31) rfl ?_); refine goesL_ (some 25) rfl rfl Try.func31 (by kernel_rfl) rfl #[.int .i64 a1, .int .i64 s] rfl (by (try simp only [List.map_toArray, List.map_cons, List.map_nil]); first | done | rfl) ?_; (with_reducible refine (HB.each_calls a1 s _).mono ?_); rintro e w2 ⟨rfl, rfl⟩; refine ⟨_, rfl, ?_⟩) | ((with_reducible refine gate_callee (f := 29) rfl ?_); refine goesL_ (some 26) rfl rfl Try.func29 (by kernel_rfl) rfl #[v1, .func (.func 39) #[] #[.pointer (some ⟨w1.heap.size + 1, 0, none⟩), .pointer (some ⟨w1.heap.size, 0, none⟩)]] rfl (by (try simp only [List.map_toArray, List.map_cons, List.map_nil]); first | done | rfl) ?_; (refine (HB.appendSeq_calls _ w.heap.size ?aS v1 l0 ?aO (by omega) (w1.heap.size + 1) w1.heap.size a1 s hs31 hn hn31 ?aZ ?aN).mono ?_); (case aS => have := HB1.out.size; simp; simp at this; omega); (case aO => exact Kd.own_of_R (Kd.R_alloc (Kd.R_alloc HO1.out _) _)); (case aZ => exact (by simpa using Boxed.new (w1.alloc (.cells #[.int .i64 a1] 3)) 3 (.int .i64 s))); (case aN => exact (Boxed.new w1 3 (.int .i64 a1)).alloc _); rintro e w3 ⟨v3, rfl, ho, hb⟩; refine ⟨_, rfl, ?_⟩; have HO3 := Aside0.mk ho; have HB3 := Aside0.mk hb; clear ho hb))
          go_ret2
          have hw1 : Below w.heap.size w w1 := (pw_below_drewN (Below.refl _ _) nd).trans HB1.out
          exact ⟨_, rfl, Kd.R_of_own HO3.out (fun _ _ => trivial), (below_alloc (below_alloc hw1 _) _).trans HB3.out⟩
        · rw [if_neg hl] at h
          cases h
      · rw [if_neg (by omega)] at h
        obtain ⟨rfl, rfl⟩ : [] = r1 ∧ 2 = r2 := by simpa using h
        have hd : 1 ≤ a1 / 2 ^ a2.toNat := by
          rw [Int.le_ediv_iff_mul_le hp]
          omega
        have b2 : ((a1 / 2 ^ a2.toNat) != 0) = true := by rw [bne_iff_ne]; omega
        clear hd hp hq
        go_enter Try.func19, Try.ntmps19
        go_wp2_with (first | ((with_reducible refine gate_callee (f := 28) rfl ?_); refine goesL_ (some 9) rfl rfl Try.func28 (by kernel_rfl) rfl #[.int .i64 a2] rfl (by (try simp only [List.map_toArray, List.map_cons, List.map_nil]); first | done | rfl) ?_; (with_reducible refine (bits_sized.calls a2 true _ HZ.out).mono ?_); rintro e w' ⟨rfl, ⟨nd, rfl⟩⟩; refine ⟨_, rfl, ?_⟩))
        go_ret2
        exact ⟨_, rfl, Kd.R_nil _ _ _ _ _, by repeat (first | exact Below.refl _ _ | apply pw_below_drewN)⟩
    · rw [if_neg (by omega)] at h
      obtain ⟨rfl, rfl⟩ : [] = r1 ∧ 2 = r2 := by simpa using h
      have b1 : decide (a1 < 0) = true := decide_eq_true (by omega)
      go_enter Try.func19, Try.ntmps19
      go_wp2_with (first | ((with_reducible refine gate_callee (f := 28) rfl ?_); refine goesL_ (some 9) rfl rfl Try.func28 (by kernel_rfl) rfl #[.int .i64 a2] rfl (by (try simp only [List.map_toArray, List.map_cons, List.map_nil]); first | done | rfl) ?_; (with_reducible refine (bits_sized.calls a2 true _ HZ.out).mono ?_); rintro e w' ⟨rfl, ⟨nd, rfl⟩⟩; refine ⟨_, rfl, ?_⟩))
      go_ret2
      exact ⟨_, rfl, Kd.R_nil _ _ _ _ _, by repeat (first | exact Below.refl _ _ | apply pw_below_drewN)⟩
  · have HZ : Aside0 (bits_sized.f a2 = some false) := ⟨by
      unfold bits_sized.f
      by_cases h0 : a2 ≥ 0
      · rw [if_pos h0, decide_eq_false (by omega)]
      · rw [if_neg h0]⟩
    rw [if_neg (by omega)] at h
    obtain ⟨rfl, rfl⟩ : [] = r1 ∧ 2 = r2 := by simpa using h
    go_enter Try.func19, Try.ntmps19
    go_wp2_with (first | ((with_reducible refine gate_callee (f := 28) rfl ?_); refine goesL_ (some 9) rfl rfl Try.func28 (by kernel_rfl) rfl #[.int .i64 a2] rfl (by (try simp only [List.map_toArray, List.map_cons, List.map_nil]); first | done | rfl) ?_; (with_reducible refine (bits_sized.calls a2 false _ HZ.out).mono ?_); rintro e w' ⟨rfl, ⟨nd, rfl⟩⟩; refine ⟨_, rfl, ?_⟩))
    go_ret2
    exact ⟨_, rfl, Kd.R_nil _ _ _ _ _, by repeat (first | exact Below.refl _ _ | apply pw_below_drewN)⟩

end Go.Proofs.Ytjdlochffpikbaa.K
