/- slices.IndexFunc and slices.ContainsFunc over whole numbers, with a predicate that only reads. -/
import Derived.Test.YtapaahhegjlbgaaWWords
import Derived.Test.YtapaahhegjlbgaaWMore
import Derived.Test.YtapaahhegjlbgaaProg
import Derived.Shelf.Abstract
import Derived.WalkKit
import Derived.Deep.LoopGhost
import Derived.Deep.Draws
import Derived.Outline
namespace Go.Proofs.Ytapaahhegjlbgaa.HC
open Go.RowKit Go.Shelf Go.Proofs.YtapaahhegjlbgaaW.PrintWords
set_option linter.unusedVariables false

/-- What a predicate owes: at each number it answers; it may draw. -/
def Pred (g : Nat) (lb : Array Value) (p : Int → Bool) (w : World) : Prop :=
  ∀ (x : Int) (q : Nat), Calls Try.prog g (#[.int .i64 x] ++ lb) (w.drewN q) fun e w' => e = .returned (.bool (p x)) ∧ ∃ q', w' = (w.drewN q).drewN q'
theorem any_take_succ (p : Int → Bool) (l : List Int) (k : Nat) (h : k < l.length) : (l.take (k + 1)).any p = ((l.take k).any p || p l[k]) := by
  rw [List.take_succ_eq_append_getElem h, List.any_append]
  simp
set_option maxHeartbeats 2000000 in
theorem index_calls (p : Int → Bool) (g : Nat) (lb : Array Value) (eg : ∀ args w, (callFunc g args).run Try.prog w = .ok (.enter g args) w) (A : Option Addr) (c : Nat) (l : List Int) (w : World)
    (hp : Pred g lb p w) (hc : Kd.C (Kd.int .i64) w A l.length l) (hl : l.length ≤ 9223372036854775807) :
    Calls Try.prog 45 #[.slice A l.length c, .func (.func g) #[] lb] w fun e w' => ∃ r, e = .returned (.int .i64 r) ∧ decide (0 ≤ r) = l.any p ∧ ∃ q, w' = w.drewN q := by
  have HC := Aside0.mk hc
  have HL := Aside0.mk hl
  have hpAt : ∀ (x : Int) (q : Nat), Calls Try.prog g (#[.int .i64 x] ++ lb) (w.drewN q) fun e w' => e = .returned (.bool (p x)) ∧ ∃ q', w' = (w.drewN q).drewN q' := hp
  clear hp hc hl
  go_enter Try.func45, Try.ntmps45
  go_wp2
  go_loopg [5, 8] l.length (fun gg _ s8 wr => ∃ kk q : Nat, kk ≤ l.length ∧ l.length - kk ≤ gg ∧ s8 = .int .i64 kk ∧ wr = w.drewN q ∧ Aside0 ((l.take kk).any p = false))
  case atStart => exact ⟨0, 0, Nat.zero_le _, by omega, rfl, rfl, ⟨by simp⟩⟩
  case round =>
    obtain ⟨kk, q, hkk, hg, rfl, rfl, NO⟩ := hrel
    by_cases hlt : kk < l.length
    · have hltz : (kk : Int) < (l.length : Int) := by omega
      obtain ⟨ad, rfl, hcell⟩ := Kd.at_int HC.out (kk : Int) (by omega) hltz
      rw [Int.toNat_natCast] at hcell
      have hcall := hpAt (rd l (kk : Int))
      have HR := Aside0.mk (show rd l (kk : Int) = l[kk] from by unfold rd; rw [Int.toNat_natCast, List.getD_eq_getElem?_getD, List.getElem?_eq_getElem hlt, Option.getD_some])
      generalize hy : rd l (kk : Int) = y at hcell hcall HR
      clear hy
      cases hq : p y with
      | true =>
        rw [hq] at hcall
        have HQ := Aside0.mk hq
        clear hq
        go_wp2_with (go_at_fn g; refine (hcall _).mono ?_; rintro e w' ⟨rfl, q', rfl⟩)
        go_ret
        refine ⟨_, rfl, ?_, _, rfl⟩
        rw [decide_eq_true (by omega)]
        refine (List.any_eq_true.2 ⟨l[kk], List.getElem_mem hlt, ?_⟩).symm
        rw [← HR.out]
        exact HQ.out
      | false =>
        rw [hq] at hcall
        have HQ := Aside0.mk hq
        clear hq
        go_wp2_with (go_at_fn g; refine (hcall _).mono ?_; rintro e w' ⟨rfl, q', rfl⟩)
        go_roundg (l.length - (kk + 1))
        case measure => omega
        case rel =>
          refine ⟨kk + 1, _, by omega, by omega, by have := HL.out; congr 1; unfold wrap64; omega, rfl, ⟨?_⟩⟩
          rw [any_take_succ p l kk hlt, NO.out, ← HR.out, HQ.out]
          rfl
    · have hltz : ¬ (kk : Int) < (l.length : Int) := by omega
      obtain rfl : kk = l.length := by omega
      go_wp2
      go_ret
      refine ⟨_, rfl, ?_, q, rfl⟩
      have := NO.out
      rw [List.take_length] at this
      rw [this]
      decide
set_option maxHeartbeats 1000000 in
theorem contains_calls (p : Int → Bool) (g : Nat) (lb : Array Value) (eg : ∀ args w, (callFunc g args).run Try.prog w = .ok (.enter g args) w) (A : Option Addr) (c : Nat) (l : List Int) (w : World)
    (hp : Pred g lb p w) (hc : Kd.C (Kd.int .i64) w A l.length l) (hl : l.length ≤ 9223372036854775807) :
    Calls Try.prog 29 #[.slice A l.length c, .func (.func g) #[] lb] w fun e w' => e = .returned (.bool (l.any p)) ∧ ∃ q, w' = w.drewN q := by
  have H := index_calls p g lb eg A c l w hp hc hl
  obtain ⟨b, hb⟩ : ∃ b, b = l.any p := ⟨_, rfl⟩
  rw [← hb] at H ⊢
  have HH := Aside0.mk H
  clear hp hc hl hb H
  go_enter Try.func29, Try.ntmps29
  go_wp2_with (go_at_call 45; refine HH.out.mono ?_; rintro e w' ⟨r, rfl, hb, q, rfl⟩)
  go_ret
  exact ⟨rfl, q, rfl⟩
end Go.Proofs.Ytapaahhegjlbgaa.HC
