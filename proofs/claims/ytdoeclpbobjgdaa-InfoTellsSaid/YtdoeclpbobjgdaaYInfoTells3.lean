/- Texts of this session for the law InfoTells, packed by wip/merge.py: part 3 of 3. Each section is one text; the law's own sentence stands over its section. -/
import Derived.Test.YtdoeclpbobjgdaaWWords
import Derived.Deep.Slices
import Derived.ChangeArms
import Derived.ChangeOld
import Derived.Carry
import Derived.ChangeSlices
import Derived.WideShapes
import Derived.Test.YtdoeclpbobjgdaaProg
import Derived.KernelRfl
import Derived.Test.YtdoeclpbobjgdaaRows
import Derived.WalkKit
import Derived.ProofKit
import Derived.OpenShut
import Derived.ShutString
import Derived.Below
import Derived.SizedLaws
import Derived.Test.YtdoeclpbobjgdaaYInfoTells1
import Derived.Test.YtdoeclpbobjgdaaYInfoTells2
section
-- Written for this claim by this session's own wip/hook.py (it runs the kit's print and takes some functions' contracts as given texts of this session's).
namespace Go.Proofs.Ytdoeclpbobjgdaa.K
open Go.RowKit Go.Proofs.YtdoeclpbobjgdaaW.PrintWords Go.Proofs.YtdoeclpbobjgdaaW.PrintLast Go.Proofs.YtdoeclpbobjgdaaW.PrintMore
attribute [local go_sem] max2_int min2_int max_two min_two max_three min_three max_four min_four   -- for this text's walks alone
set_option linter.unusedVariables false
set_option linter.unusedSimpArgs false

-- IMPORT Derived.Test.YtdoeclpbobjgdaaSPC
/-! ### reedpipelaw10_InfoTells: function 3 -/
mutual
def reedpipelaw10_InfoTells.j0 : Nat → Int → Int → Int → Int → Bool → Int → Int → Int → List Int → Int → Int → Int → List Int → Option (Bool)
  | 0, _, _, _, _, _, _, _, _, _, _, _, _, _ => none
  | k + 1, x0, x3, x4, x5, x35, x192000, x192001, x192002, x192003, x193000, x193001, x193002, x193003 => if x35 = true then (some true) else ((reedpiperef10_Twin.f x192000 x192001 x192002 x192003).bind fun bt193 => ((info_Windows.f k bt193.1 bt193.2.1 bt193.2.2.1 bt193.2.2.2).bind fun bt200 => ((reedpiperef10_Windows.f k x192000 x192001 x192002 x192003).bind fun bt202 => ((info_Group.f k bt193.1 bt193.2.1 bt193.2.2.1 bt193.2.2.2 x3).bind fun bt204 => ((reedpiperef10_Group.f k x192000 x192001 x192002 x192003 x3).bind fun bt206 => ((info_Twin.f bt193.1 bt193.2.1 bt193.2.2.1 bt193.2.2.2).bind fun bt208 => ((info_Check.f k x0 bt193.1 bt193.2.1 bt193.2.2.1 bt193.2.2.2).bind fun t215 => ((reedpiperef10_Check.f k x0 x192000 x192001 x192002 x192003).bind fun t216 => (if t215 = t216 then (if bt200.1 = bt202.1 then (if bt200.2 = bt202.2 then (if bt204.1 = bt206.1 then (if bt204.2 = bt206.2 then ((info_After.f x4 x5).bind fun t217 => ((reedpiperef10_After.f k x4 x5).bind fun t218 => (reedpipelaw10_InfoTells.j1 k (t217 == t218) x192000 x192001 x192002 x192003 x193000 x193001 x193002 x193003 bt193.1 bt193.2.1 bt193.2.2.1 bt193.2.2.2 bt208.1 bt208.2.1 bt208.2.2.1 bt208.2.2.2))) else (reedpipelaw10_InfoTells.j1 k false x192000 x192001 x192002 x192003 x193000 x193001 x193002 x193003 bt193.1 bt193.2.1 bt193.2.2.1 bt193.2.2.2 bt208.1 bt208.2.1 bt208.2.2.1 bt208.2.2.2)) else (reedpipelaw10_InfoTells.j1 k false x192000 x192001 x192002 x192003 x193000 x193001 x193002 x193003 bt193.1 bt193.2.1 bt193.2.2.1 bt193.2.2.2 bt208.1 bt208.2.1 bt208.2.2.1 bt208.2.2.2)) else (reedpipelaw10_InfoTells.j1 k false x192000 x192001 x192002 x192003 x193000 x193001 x193002 x193003 bt193.1 bt193.2.1 bt193.2.2.1 bt193.2.2.2 bt208.1 bt208.2.1 bt208.2.2.1 bt208.2.2.2)) else (reedpipelaw10_InfoTells.j1 k false x192000 x192001 x192002 x192003 x193000 x193001 x193002 x193003 bt193.1 bt193.2.1 bt193.2.2.1 bt193.2.2.2 bt208.1 bt208.2.1 bt208.2.2.1 bt208.2.2.2)) else (reedpipelaw10_InfoTells.j1 k false x192000 x192001 x192002 x192003 x193000 x193001 x193002 x193003 bt193.1 bt193.2.1 bt193.2.2.1 bt193.2.2.2 bt208.1 bt208.2.1 bt208.2.2.1 bt208.2.2.2))))))))))
def reedpipelaw10_InfoTells.j1 : Nat → Bool → Int → Int → Int → List Int → Int → Int → Int → List Int → Int → Int → Int → List Int → Int → Int → Int → List Int → Option (Bool)
  | 0, _, _, _, _, _, _, _, _, _, _, _, _, _, _, _, _, _ => none
  | k + 1, x23, x192000, x192001, x192002, x192003, x193000, x193001, x193002, x193003, x200000, x200001, x200002, x200003, x215000, x215001, x215002, x215003 => (info_Same.f k x192000 x192001 x192002 x192003 x193000 x193001 x193002 x193003).bind fun t219 => ((reedpiperef10_Same.f k x192000 x192001 x192002 x192003 x193000 x193001 x193002 x193003).bind fun t220 => (if (t219 == t220) = true then ((reedpiperef10_Same.f k x215000 x215001 x215002 x215003 x192000 x192001 x192002 x192003).bind fun t221 => (reedpipelaw10_InfoTells.j2 k x23 t221 x192000 x192001 x192002 x192003 x200000 x200001 x200002 x200003 x215000 x215001 x215002 x215003)) else (reedpipelaw10_InfoTells.j2 k x23 false x192000 x192001 x192002 x192003 x200000 x200001 x200002 x200003 x215000 x215001 x215002 x215003)))
def reedpipelaw10_InfoTells.j2 : Nat → Bool → Bool → Int → Int → Int → List Int → Int → Int → Int → List Int → Int → Int → Int → List Int → Option (Bool)
  | 0, _, _, _, _, _, _, _, _, _, _, _, _, _, _ => none
  | k + 1, x23, x24, x192000, x192001, x192002, x192003, x200000, x200001, x200002, x200003, x215000, x215001, x215002, x215003 => reedpipelaw10_InfoTells.l0 k x23 x24 0 x192000 x192001 x192002 x192003 x200000 x200001 x200002 x200003 x215000 x215001 x215002 x215003
def reedpipelaw10_InfoTells.l0 : Nat → Bool → Bool → Int → Int → Int → Int → List Int → Int → Int → Int → List Int → Int → Int → Int → List Int → Option (Bool)
  | 0, _, _, _, _, _, _, _, _, _, _, _, _, _, _, _ => none
  | k + 1, x23, x24, x25, x192000, x192001, x192002, x192003, x200000, x200001, x200002, x200003, x215000, x215001, x215002, x215003 => if x25 < (x215003.length : Int) then (if 0 ≤ x25 then (reedpipelaw10_InfoTells.l0 k x23 x24 (wrap64 (x25 + 1)) x192000 x192001 x192002 x192003 x200000 x200001 x200002 x200003 x215000 x215001 x215002 (x215003.set (x25 : Int).toNat (wrap64 ((rd x215003 x25) + 1)))) else (none)) else (if x23 = true then (if x24 = true then ((reedpiperef10_Same.f k x200000 x200001 x200002 x200003 x192000 x192001 x192002 x192003).bind fun t224 => (some t224)) else (some false)) else (some false))
end
def reedpipelaw10_InfoTells.f (k : Nat) (a0 : Int) (a1_0 : Int) (a1_1 : Int) (a1_2 : Int) (l1_3 : List Int) (a2_0 : Int) (a2_1 : Int) (a2_2 : Int) (l2_3 : List Int) (a3 : Int) (a4 : Int) (a5 : Int) : Option (Bool) := if (l1_3.length : Int) > 1000 then (reedpipelaw10_InfoTells.j0 k a0 a3 a4 a5 true a1_0 a1_1 a1_2 l1_3 a2_0 a2_1 a2_2 l2_3) else (reedpipelaw10_InfoTells.j0 k a0 a3 a4 a5 (decide ((l2_3.length : Int) > 1000)) a1_0 a1_1 a1_2 l1_3 a2_0 a2_1 a2_2 l2_3)
theorem reedpipelaw10_InfoTells.mono_l : ∀ k, (∀ y0 y1 y2 y3 y4 y5 y6 y7 y8 y9 y10 y11 y12, LeO (reedpipelaw10_InfoTells.j0 k y0 y1 y2 y3 y4 y5 y6 y7 y8 y9 y10 y11 y12) (reedpipelaw10_InfoTells.j0 (k + 1) y0 y1 y2 y3 y4 y5 y6 y7 y8 y9 y10 y11 y12)) ∧ (∀ y0 y1 y2 y3 y4 y5 y6 y7 y8 y9 y10 y11 y12 y13 y14 y15 y16, LeO (reedpipelaw10_InfoTells.j1 k y0 y1 y2 y3 y4 y5 y6 y7 y8 y9 y10 y11 y12 y13 y14 y15 y16) (reedpipelaw10_InfoTells.j1 (k + 1) y0 y1 y2 y3 y4 y5 y6 y7 y8 y9 y10 y11 y12 y13 y14 y15 y16)) ∧ (∀ y0 y1 y2 y3 y4 y5 y6 y7 y8 y9 y10 y11 y12 y13, LeO (reedpipelaw10_InfoTells.j2 k y0 y1 y2 y3 y4 y5 y6 y7 y8 y9 y10 y11 y12 y13) (reedpipelaw10_InfoTells.j2 (k + 1) y0 y1 y2 y3 y4 y5 y6 y7 y8 y9 y10 y11 y12 y13)) ∧ (∀ y0 y1 y2 y3 y4 y5 y6 y7 y8 y9 y10 y11 y12 y13 y14, LeO (reedpipelaw10_InfoTells.l0 k y0 y1 y2 y3 y4 y5 y6 y7 y8 y9 y10 y11 y12 y13 y14) (reedpipelaw10_InfoTells.l0 (k + 1) y0 y1 y2 y3 y4 y5 y6 y7 y8 y9 y10 y11 y12 y13 y14))
  | 0 => ⟨fun _ _ _ _ _ _ _ _ _ _ _ _ _ r h => by simp [reedpipelaw10_InfoTells.j0] at h, fun _ _ _ _ _ _ _ _ _ _ _ _ _ _ _ _ _ r h => by simp [reedpipelaw10_InfoTells.j1] at h, fun _ _ _ _ _ _ _ _ _ _ _ _ _ _ r h => by simp [reedpipelaw10_InfoTells.j2] at h, fun _ _ _ _ _ _ _ _ _ _ _ _ _ _ _ r h => by simp [reedpipelaw10_InfoTells.l0] at h⟩
  | k + 1 => by
    obtain ⟨ih0, ih1, ih2, ih3⟩ := reedpipelaw10_InfoTells.mono_l k
    refine ⟨?_, ?_, ?_, ?_⟩
    · intro y0 y1 y2 y3 y4 y5 y6 y7 y8 y9 y10 y11 y12
      unfold reedpipelaw10_InfoTells.j0
      repeat' first
      | (with_reducible exact ih0 _ _ _ _ _ _ _ _ _ _ _ _ _)
      | (with_reducible exact ih1 _ _ _ _ _ _ _ _ _ _ _ _ _ _ _ _ _)
      | (with_reducible exact ih2 _ _ _ _ _ _ _ _ _ _ _ _ _ _)
      | (with_reducible exact ih3 _ _ _ _ _ _ _ _ _ _ _ _ _ _ _)
      | (with_reducible exact info_Check.mono _ _ _ _ _ _)
      | (with_reducible exact info_Group.mono _ _ _ _ _ _)
      | (with_reducible exact info_Same.mono _ _ _ _ _ _ _ _ _)
      | (with_reducible exact info_Windows.mono _ _ _ _ _)
      | (with_reducible exact reedpiperef10_After.mono _ _ _)
      | (with_reducible exact reedpiperef10_Check.mono _ _ _ _ _ _)
      | (with_reducible exact reedpiperef10_Group.mono _ _ _ _ _ _)
      | (with_reducible exact reedpiperef10_Same.mono _ _ _ _ _ _ _ _ _)
      | (with_reducible exact reedpiperef10_Windows.mono _ _ _ _ _)
      | (with_reducible exact LeO.refl _)
      | (with_reducible exact LeO.none _)
      | (with_reducible refine LeO.ite ?_ ?_)
      | (with_reducible refine LeO.bind ?_ (fun _ => ?_))
      | exact ih0 _ _ _ _ _ _ _ _ _ _ _ _ _
      | exact ih1 _ _ _ _ _ _ _ _ _ _ _ _ _ _ _ _ _
      | exact ih2 _ _ _ _ _ _ _ _ _ _ _ _ _ _
      | exact ih3 _ _ _ _ _ _ _ _ _ _ _ _ _ _ _
      | exact info_Check.mono _ _ _ _ _ _
      | exact info_Group.mono _ _ _ _ _ _
      | exact info_Same.mono _ _ _ _ _ _ _ _ _
      | exact info_Windows.mono _ _ _ _ _
      | exact reedpiperef10_After.mono _ _ _
      | exact reedpiperef10_Check.mono _ _ _ _ _ _
      | exact reedpiperef10_Group.mono _ _ _ _ _ _
      | exact reedpiperef10_Same.mono _ _ _ _ _ _ _ _ _
      | exact reedpiperef10_Windows.mono _ _ _ _ _
      | exact LeO.none _
      | refine LeO.ite ?_ ?_
      | refine LeO.bind ?_ (fun _ => ?_)
    · intro y0 y1 y2 y3 y4 y5 y6 y7 y8 y9 y10 y11 y12 y13 y14 y15 y16
      unfold reedpipelaw10_InfoTells.j1
      repeat' first
      | (with_reducible exact ih0 _ _ _ _ _ _ _ _ _ _ _ _ _)
      | (with_reducible exact ih1 _ _ _ _ _ _ _ _ _ _ _ _ _ _ _ _ _)
      | (with_reducible exact ih2 _ _ _ _ _ _ _ _ _ _ _ _ _ _)
      | (with_reducible exact ih3 _ _ _ _ _ _ _ _ _ _ _ _ _ _ _)
      | (with_reducible exact info_Check.mono _ _ _ _ _ _)
      | (with_reducible exact info_Group.mono _ _ _ _ _ _)
      | (with_reducible exact info_Same.mono _ _ _ _ _ _ _ _ _)
      | (with_reducible exact info_Windows.mono _ _ _ _ _)
      | (with_reducible exact reedpiperef10_After.mono _ _ _)
      | (with_reducible exact reedpiperef10_Check.mono _ _ _ _ _ _)
      | (with_reducible exact reedpiperef10_Group.mono _ _ _ _ _ _)
      | (with_reducible exact reedpiperef10_Same.mono _ _ _ _ _ _ _ _ _)
      | (with_reducible exact reedpiperef10_Windows.mono _ _ _ _ _)
      | (with_reducible exact LeO.refl _)
      | (with_reducible exact LeO.none _)
      | (with_reducible refine LeO.ite ?_ ?_)
      | (with_reducible refine LeO.bind ?_ (fun _ => ?_))
      | exact ih0 _ _ _ _ _ _ _ _ _ _ _ _ _
      | exact ih1 _ _ _ _ _ _ _ _ _ _ _ _ _ _ _ _ _
      | exact ih2 _ _ _ _ _ _ _ _ _ _ _ _ _ _
      | exact ih3 _ _ _ _ _ _ _ _ _ _ _ _ _ _ _
      | exact info_Check.mono _ _ _ _ _ _
      | exact info_Group.mono _ _ _ _ _ _
      | exact info_Same.mono _ _ _ _ _ _ _ _ _
      | exact info_Windows.mono _ _ _ _ _
      | exact reedpiperef10_After.mono _ _ _
      | exact reedpiperef10_Check.mono _ _ _ _ _ _
      | exact reedpiperef10_Group.mono _ _ _ _ _ _
      | exact reedpiperef10_Same.mono _ _ _ _ _ _ _ _ _
      | exact reedpiperef10_Windows.mono _ _ _ _ _
      | exact LeO.none _
      | refine LeO.ite ?_ ?_
      | refine LeO.bind ?_ (fun _ => ?_)
    · intro y0 y1 y2 y3 y4 y5 y6 y7 y8 y9 y10 y11 y12 y13
      unfold reedpipelaw10_InfoTells.j2
      repeat' first
      | (with_reducible exact ih0 _ _ _ _ _ _ _ _ _ _ _ _ _)
      | (with_reducible exact ih1 _ _ _ _ _ _ _ _ _ _ _ _ _ _ _ _ _)
      | (with_reducible exact ih2 _ _ _ _ _ _ _ _ _ _ _ _ _ _)
      | (with_reducible exact ih3 _ _ _ _ _ _ _ _ _ _ _ _ _ _ _)
      | (with_reducible exact info_Check.mono _ _ _ _ _ _)
      | (with_reducible exact info_Group.mono _ _ _ _ _ _)
      | (with_reducible exact info_Same.mono _ _ _ _ _ _ _ _ _)
      | (with_reducible exact info_Windows.mono _ _ _ _ _)
      | (with_reducible exact reedpiperef10_After.mono _ _ _)
      | (with_reducible exact reedpiperef10_Check.mono _ _ _ _ _ _)
      | (with_reducible exact reedpiperef10_Group.mono _ _ _ _ _ _)
      | (with_reducible exact reedpiperef10_Same.mono _ _ _ _ _ _ _ _ _)
      | (with_reducible exact reedpiperef10_Windows.mono _ _ _ _ _)
      | (with_reducible exact LeO.refl _)
      | (with_reducible exact LeO.none _)
      | (with_reducible refine LeO.ite ?_ ?_)
      | (with_reducible refine LeO.bind ?_ (fun _ => ?_))
      | exact ih0 _ _ _ _ _ _ _ _ _ _ _ _ _
      | exact ih1 _ _ _ _ _ _ _ _ _ _ _ _ _ _ _ _ _
      | exact ih2 _ _ _ _ _ _ _ _ _ _ _ _ _ _
      | exact ih3 _ _ _ _ _ _ _ _ _ _ _ _ _ _ _
      | exact info_Check.mono _ _ _ _ _ _
      | exact info_Group.mono _ _ _ _ _ _
      | exact info_Same.mono _ _ _ _ _ _ _ _ _
      | exact info_Windows.mono _ _ _ _ _
      | exact reedpiperef10_After.mono _ _ _
      | exact reedpiperef10_Check.mono _ _ _ _ _ _
      | exact reedpiperef10_Group.mono _ _ _ _ _ _
      | exact reedpiperef10_Same.mono _ _ _ _ _ _ _ _ _
      | exact reedpiperef10_Windows.mono _ _ _ _ _
      | exact LeO.none _
      | refine LeO.ite ?_ ?_
      | refine LeO.bind ?_ (fun _ => ?_)
    · intro y0 y1 y2 y3 y4 y5 y6 y7 y8 y9 y10 y11 y12 y13 y14
      unfold reedpipelaw10_InfoTells.l0
      repeat' first
      | (with_reducible exact ih0 _ _ _ _ _ _ _ _ _ _ _ _ _)
      | (with_reducible exact ih1 _ _ _ _ _ _ _ _ _ _ _ _ _ _ _ _ _)
      | (with_reducible exact ih2 _ _ _ _ _ _ _ _ _ _ _ _ _ _)
      | (with_reducible exact ih3 _ _ _ _ _ _ _ _ _ _ _ _ _ _ _)
      | (with_reducible exact info_Check.mono _ _ _ _ _ _)
      | (with_reducible exact info_Group.mono _ _ _ _ _ _)
      | (with_reducible exact info_Same.mono _ _ _ _ _ _ _ _ _)
      | (with_reducible exact info_Windows.mono _ _ _ _ _)
      | (with_reducible exact reedpiperef10_After.mono _ _ _)
      | (with_reducible exact reedpiperef10_Check.mono _ _ _ _ _ _)
      | (with_reducible exact reedpiperef10_Group.mono _ _ _ _ _ _)
      | (with_reducible exact reedpiperef10_Same.mono _ _ _ _ _ _ _ _ _)
      | (with_reducible exact reedpiperef10_Windows.mono _ _ _ _ _)
      | (with_reducible exact LeO.refl _)
      | (with_reducible exact LeO.none _)
      | (with_reducible refine LeO.ite ?_ ?_)
      | (with_reducible refine LeO.bind ?_ (fun _ => ?_))
      | exact ih0 _ _ _ _ _ _ _ _ _ _ _ _ _
      | exact ih1 _ _ _ _ _ _ _ _ _ _ _ _ _ _ _ _ _
      | exact ih2 _ _ _ _ _ _ _ _ _ _ _ _ _ _
      | exact ih3 _ _ _ _ _ _ _ _ _ _ _ _ _ _ _
      | exact info_Check.mono _ _ _ _ _ _
      | exact info_Group.mono _ _ _ _ _ _
      | exact info_Same.mono _ _ _ _ _ _ _ _ _
      | exact info_Windows.mono _ _ _ _ _
      | exact reedpiperef10_After.mono _ _ _
      | exact reedpiperef10_Check.mono _ _ _ _ _ _
      | exact reedpiperef10_Group.mono _ _ _ _ _ _
      | exact reedpiperef10_Same.mono _ _ _ _ _ _ _ _ _
      | exact reedpiperef10_Windows.mono _ _ _ _ _
      | exact LeO.none _
      | refine LeO.ite ?_ ?_
      | refine LeO.bind ?_ (fun _ => ?_)
theorem reedpipelaw10_InfoTells.mono : ∀ a0 a1 a2 a3 a4 a5 a6 a7 a8 a9 a10 a11 k, LeO (reedpipelaw10_InfoTells.f k a0 a1 a2 a3 a4 a5 a6 a7 a8 a9 a10 a11) (reedpipelaw10_InfoTells.f (k + 1) a0 a1 a2 a3 a4 a5 a6 a7 a8 a9 a10 a11) := by
  intro a0 a1 a2 a3 a4 a5 a6 a7 a8 a9 a10 a11 k
  obtain ⟨ih0, ih1, ih2, ih3⟩ := reedpipelaw10_InfoTells.mono_l k
  unfold reedpipelaw10_InfoTells.f
  repeat' first
      | (with_reducible exact ih0 _ _ _ _ _ _ _ _ _ _ _ _ _)
      | (with_reducible exact ih1 _ _ _ _ _ _ _ _ _ _ _ _ _ _ _ _ _)
      | (with_reducible exact ih2 _ _ _ _ _ _ _ _ _ _ _ _ _ _)
      | (with_reducible exact ih3 _ _ _ _ _ _ _ _ _ _ _ _ _ _ _)
      | (with_reducible exact info_Check.mono _ _ _ _ _ _)
      | (with_reducible exact info_Group.mono _ _ _ _ _ _)
      | (with_reducible exact info_Same.mono _ _ _ _ _ _ _ _ _)
      | (with_reducible exact info_Windows.mono _ _ _ _ _)
      | (with_reducible exact reedpiperef10_After.mono _ _ _)
      | (with_reducible exact reedpiperef10_Check.mono _ _ _ _ _ _)
      | (with_reducible exact reedpiperef10_Group.mono _ _ _ _ _ _)
      | (with_reducible exact reedpiperef10_Same.mono _ _ _ _ _ _ _ _ _)
      | (with_reducible exact reedpiperef10_Windows.mono _ _ _ _ _)
      | (with_reducible exact LeO.refl _)
      | (with_reducible exact LeO.none _)
      | (with_reducible refine LeO.ite ?_ ?_)
      | (with_reducible refine LeO.bind ?_ (fun _ => ?_))
      | exact ih0 _ _ _ _ _ _ _ _ _ _ _ _ _
      | exact ih1 _ _ _ _ _ _ _ _ _ _ _ _ _ _ _ _ _
      | exact ih2 _ _ _ _ _ _ _ _ _ _ _ _ _ _
      | exact ih3 _ _ _ _ _ _ _ _ _ _ _ _ _ _ _
      | exact info_Check.mono _ _ _ _ _ _
      | exact info_Group.mono _ _ _ _ _ _
      | exact info_Same.mono _ _ _ _ _ _ _ _ _
      | exact info_Windows.mono _ _ _ _ _
      | exact reedpiperef10_After.mono _ _ _
      | exact reedpiperef10_Check.mono _ _ _ _ _ _
      | exact reedpiperef10_Group.mono _ _ _ _ _ _
      | exact reedpiperef10_Same.mono _ _ _ _ _ _ _ _ _
      | exact reedpiperef10_Windows.mono _ _ _ _ _
      | exact LeO.none _
      | refine LeO.ite ?_ ?_
      | refine LeO.bind ?_ (fun _ => ?_)
def reedpipelaw10_InfoTells.T9 : Bool × List (List Nat × List Nat) := (true, [([], []), ([], []), ([0, 1], [0, 1]), ([], []), ([], []), ([3, 4, 2], [3, 4]), ([2, 5], [2, 5]), ([6, 5], [6]), ([7], [7]), ([7], [7]), ([8, 9, 7], [7, 8, 9]), ([7, 10], [7, 10]), ([11, 7], [11]), ([12], [12]), ([12], [12]), ([13, 14, 12], [12, 13, 14]), ([12, 15], [12, 15]), ([16, 12], [16]), ([17], [17]), ([17], [17]), ([18, 19, 17], [17, 18, 19]), ([17, 20], [17, 20]), ([21, 17], [21]), ([22], [22]), ([22], [22]), ([23, 24, 22], [22, 23, 24]), ([22, 25], [22, 25]), ([26, 22], [26]), ([27], [27]), ([27], [27]), ([28, 29, 27, 27], [27, 28, 29]), ([27], [27]), ([27], [27]), ([31, 32, 30, 27], [27, 31, 32]), ([30, 33, 27], [27, 30, 33]), ([27, 34], [27, 34]), ([35, 33, 0, 1, 2, 3, 4, 5, 6, 7, 8, 9, 10, 11, 12, 13, 14, 15, 16, 17, 18, 19, 20, 21, 22, 23, 24, 25, 26, 27, 28, 29, 30, 31, 32, 33, 34, 35], [35])])
def reedpipelaw10_InfoTells.B9 : List Nat := [0, 0, 3, 0, 0, 31, 63, 127, 255, 255, 1023, 2047, 4095, 8191, 8191, 32767, 65535, 131071, 262143, 262143, 1048575, 2097151, 4194303, 8388607, 8388607, 33554431, 67108863, 134217727, 268435455, 268435455, 1073741823, 268435455, 268435455, 8589934591, 17179869183, 34359738367, 68719476735]
theorem reedpipelaw10_InfoTells.tab9 : rtab .any (opsOf Try.f3 9) = reedpipelaw10_InfoTells.T9 := by kernel_rfl
theorem reedpipelaw10_InfoTells.bits9 : waitsOk reedpipelaw10_InfoTells.T9.2 reedpipelaw10_InfoTells.B9 = true := by kernel_rfl
def reedpipelaw10_InfoTells.T10 : Bool × List (List Nat × List Nat) := (true, [([], []), ([], []), ([0, 1], [0, 1]), ([], []), ([], []), ([3, 4, 2], [3, 4]), ([2, 5], [2, 5]), ([6, 5], [6]), ([7], [7]), ([7], [7]), ([8, 9, 7, 7], [7, 8, 9]), ([7, 10], [7, 10]), ([11, 10, 0, 1, 2, 3, 4, 5, 6, 7, 8, 9, 10, 11], [11])])
def reedpipelaw10_InfoTells.B10 : List Nat := [0, 0, 3, 0, 0, 31, 63, 127, 255, 255, 1023, 2047, 4095]
theorem reedpipelaw10_InfoTells.tab10 : rtab .any (opsOf Try.f3 10) = reedpipelaw10_InfoTells.T10 := by kernel_rfl
theorem reedpipelaw10_InfoTells.bits10 : waitsOk reedpipelaw10_InfoTells.T10.2 reedpipelaw10_InfoTells.B10 = true := by kernel_rfl
set_option maxHeartbeats 8000000 in
set_option maxRecDepth 100000 in
theorem reedpipelaw10_InfoTells.calls (k : Nat) (a0 : Int) (a1_0 : Int) (a1_1 : Int) (a1_2 : Int) (A1_3 : Option Addr) (c1_3 : Nat) (l1_3 : List Int) (a2_0 : Int) (a2_1 : Int) (a2_2 : Int) (A2_3 : Option Addr) (c2_3 : Nat) (l2_3 : List Int) (a3 : Int) (a4 : Int) (a5 : Int) (r : Bool) (w : World) (hr1_3 : Kd.C (Kd.int .i64) w A1_3 l1_3.length l1_3) (hc1_3 : l1_3.length ≤ c1_3) (hr2_3 : Kd.C (Kd.int .i64) w A2_3 l2_3.length l2_3) (hc2_3 : l2_3.length ≤ c2_3) (h : reedpipelaw10_InfoTells.f k a0 a1_0 a1_1 a1_2 l1_3 a2_0 a2_1 a2_2 l2_3 a3 a4 a5 = some r) :
    Calls Try.prog 3 #[.int .i64 a0, .agg #[.int .u8 a1_0, .int .u8 a1_1, .int .i64 a1_2, .slice A1_3 l1_3.length c1_3], .agg #[.int .u8 a2_0, .int .u8 a2_1, .int .i64 a2_2, .slice A2_3 l2_3.length c2_3], .int .i64 a3, .int .u8 a4, .int .u8 a5] w fun e w' => e = .returned (.bool r) ∧ Below w.heap.size w w' := by
  have hu24 := Try.underlying24
  have HR1_3 := Aside0.mk hr1_3
  have HC1_3 := Aside0.mk hc1_3
  clear hr1_3 hc1_3
  have HR2_3 := Aside0.mk hr2_3
  have HC2_3 := Aside0.mk hc2_3
  clear hr2_3 hc2_3
  have HB := Aside0.mk (Below.refl w.heap.size w)
  have H : (if (l1_3.length : Int) > 1000 then (reedpipelaw10_InfoTells.j0 k a0 a3 a4 a5 true a1_0 a1_1 a1_2 l1_3 a2_0 a2_1 a2_2 l2_3) else (reedpipelaw10_InfoTells.j0 k a0 a3 a4 a5 (decide ((l2_3.length : Int) > 1000)) a1_0 a1_1 a1_2 l1_3 a2_0 a2_1 a2_2 l2_3)) = some r := h
  clear h
  have HC7 := Aside0.mk H
  clear H
  go_enter Try.func3, Try.ntmps3
  go_upto_region 1 with (first | ((with_reducible refine gate_dst (N := 7) rfl ?_); (try (refine gate_guard (by rfl) ?_; dsimp only)); refine box_event ?hg (N := 7) ?hd (cs := #[.int .u8 a1_0, .int .u8 a1_1, .int .i64 a1_2, .slice A1_3 l1_3.length c1_3]) (t := 24) ?hr ?_; (case hd => rfl); (case hg => rfl); (case hr => first | (go_simp; done) | (go_simp; rfl)); intro gb191 hg w8 hbox hb; have n0_ := Aside0.mk (below_step (by repeat (first | (with_reducible first | exact HB.out | apply below_alloc | apply pw_below_drewN | apply below_drew1) | exact HB.out)) hb); have n1_ := Aside0.mk (hbox); have n2_ := Aside0.mk ((by rw [hg]; exact (below_size (by repeat (first | (with_reducible first | exact HB.out | apply below_alloc | apply pw_below_drewN | apply below_drew1) | exact HB.out))) : w.heap.size ≤ gb191)); have n3_ := Aside0.mk ((by rw [hg]; exact (below_size (by repeat (first | (with_reducible first | exact HB.out | apply below_alloc | apply pw_below_drewN | apply below_drew1) | exact HB.out))) : w.heap.size ≤ gb191)); clear HB; have HB := n0_; have BK191 := n1_; have GW191 := n2_; have GE191 := n3_; clear n0_ n1_ n2_ n3_; clear hb hbox hg) | ((with_reducible refine gate_dst (N := 8) rfl ?_); (try (refine gate_guard (by rfl) ?_; dsimp only)); refine box_event ?hg (N := 8) ?hd (cs := #[.int .u8 a2_0, .int .u8 a2_1, .int .i64 a2_2, .slice A2_3 l2_3.length c2_3]) (t := 24) ?hr ?_; (case hd => rfl); (case hg => rfl); (case hr => first | (go_simp; done) | (go_simp; rfl)); intro gb192 hg w9 hbox hb; have n0_ := Aside0.mk (blk_below (g := gb191) (o := .cells #[.int .u8 a1_0, .int .u8 a1_1, .int .i64 a1_2, .slice A1_3 l1_3.length c1_3] 24 (0, 0)) (by (with_reducible repeat (first | refine blk_drewN ?_ _ | refine blk_drew ?_ | refine blk_alloc ?_ _)); exact BK191.out) hb); have n1_ := Aside0.mk (below_step (by repeat (first | (with_reducible first | exact HB.out | apply below_alloc | apply pw_below_drewN | apply below_drew1 | refine below_set ?_ GE191.out) | exact HB.out)) hb); have n2_ := Aside0.mk (hbox); have n3_ := Aside0.mk ((by rw [hg]; exact (below_size (by repeat (first | (with_reducible first | exact HB.out | apply below_alloc | apply pw_below_drewN | apply below_drew1 | refine below_set ?_ GE191.out) | exact HB.out))) : w.heap.size ≤ gb192)); have n4_ := Aside0.mk ((by rw [hg]; exact (below_size (by repeat (first | (with_reducible first | exact HB.out | apply below_alloc | apply pw_below_drewN | apply below_drew1 | refine below_set ?_ GE191.out) | exact HB.out))) : w.heap.size ≤ gb192)); have n5_ := Aside0.mk ((by rw [hg]; exact Nat.ne_of_lt (blk_lt (g := gb191) (o := .cells #[.int .u8 a1_0, .int .u8 a1_1, .int .i64 a1_2, .slice A1_3 l1_3.length c1_3] 24 (0, 0)) (by (with_reducible repeat (first | refine blk_drewN ?_ _ | refine blk_drew ?_ | refine blk_alloc ?_ _)); exact BK191.out)) : gb191 ≠ gb192)); have n6_ := Aside0.mk ((by rw [hg]; exact Nat.ne_of_gt (blk_lt (g := gb191) (o := .cells #[.int .u8 a1_0, .int .u8 a1_1, .int .i64 a1_2, .slice A1_3 l1_3.length c1_3] 24 (0, 0)) (by (with_reducible repeat (first | refine blk_drewN ?_ _ | refine blk_drew ?_ | refine blk_alloc ?_ _)); exact BK191.out)) : gb192 ≠ gb191)); clear BK191; clear HB; have BK191 := n0_; have HB := n1_; have BK192 := n2_; have GW192 := n3_; have GE192 := n4_; have NB191_192 := n5_; have NB192_191 := n6_; clear n0_ n1_ n2_ n3_ n4_ n5_ n6_; clear hb hbox hg))
  (try simp only [Act.put, List.setIfInBounds_toArray, List.set_cons_zero, List.set_cons_succ])
  go_cut [35] (fun v35 wc => ∃ (kq : Nat) (x35_6 : Bool), v35 = .bool x35_6 ∧ Aside0 (reedpipelaw10_InfoTells.j0 kq a0 a3 a4 a5 x35_6 a1_0 a1_1 a1_2 l1_3 a2_0 a2_1 a2_2 l2_3 = some r) ∧ Aside0 (kq ≤ k) ∧ Aside0 (wc.heap[gb191]? = some (.cells #[.int .u8 a1_0, .int .u8 a1_1, .int .i64 a1_2, (.slice A1_3 l1_3.length c1_3)] 24 (0, 0))) ∧ Aside0 (wc.heap[gb192]? = some (.cells #[.int .u8 a2_0, .int .u8 a2_1, .int .i64 a2_2, (.slice A2_3 l2_3.length c2_3)] 24 (0, 0))) ∧ Aside0 (Below w.heap.size w wc))
  case first =>
    have H := HC7.out
    clear HC7
    by_cases c10 : (l1_3.length : Int) > 1000
    · rw [if_pos c10] at H
      have c10b0 : decide (1000 < (l1_3.length : Int)) = true := decide_eq_true c10
      have c10b1 : decide (1000 < l1_3.length) = true := decide_eq_true (by omega)
      clear c10
      (first | rw [c10b0] | (simp only [i64_w, i32_w]; rw [c10b0]) | skip)
      have H' := Aside0.mk H
      clear H
      have hnb11 := NB191_192.out
      have hnc11 := NB192_191.out
      have hcz12_0 : w9.cell? ⟨gb191, 0, none⟩ = some (.int .u8 a1_0) := (blk_cell BK191.out 0).trans rfl
      have hcz12_1 : w9.cell? ⟨gb191, 1, none⟩ = some (.int .u8 a1_1) := (blk_cell BK191.out 1).trans rfl
      have hcz12_2 : w9.cell? ⟨gb191, 2, none⟩ = some (.int .i64 a1_2) := (blk_cell BK191.out 2).trans rfl
      have hcz12_3 : w9.cell? ⟨gb191, 3, none⟩ = some (.slice A1_3 l1_3.length c1_3) := (blk_cell BK191.out 3).trans rfl
      have hfz12_0 := blk_frozen BK191.out 0
      have hfz12_1 := blk_frozen BK191.out 1
      have hfz12_2 := blk_frozen BK191.out 2
      have hfz12_3 := blk_frozen BK191.out 3
      go_wp2
      go_meet
      case rel => exact ⟨_, (true), (by first | rfl | (simp; done) | (simp [*]; done)), H', ⟨by first | omega | exact Nat.le_refl _⟩, ⟨by (with_reducible repeat (first | refine blk_drewN ?_ _ | refine blk_drew ?_ | refine blk_alloc ?_ _)); exact BK191.out⟩, ⟨by (with_reducible repeat (first | refine blk_drewN ?_ _ | refine blk_drew ?_ | refine blk_alloc ?_ _)); exact BK192.out⟩, ⟨by repeat (first | (with_reducible first | exact HB.out | apply below_alloc | apply pw_below_drewN | apply below_drew1 | refine below_set ?_ GE191.out | refine below_set ?_ GE192.out) | exact HB.out)⟩⟩
    · rw [if_neg c10] at H
      have c10b0 : decide (1000 < (l1_3.length : Int)) = false := decide_eq_false c10
      have c10b1 : decide (1000 < l1_3.length) = false := decide_eq_false (by omega)
      clear c10
      (first | rw [c10b0] | (simp only [i64_w, i32_w]; rw [c10b0]) | skip)
      have H' := Aside0.mk H
      clear H
      have hnb13 := NB191_192.out
      have hnc13 := NB192_191.out
      have hcz14_0 : w9.cell? ⟨gb191, 0, none⟩ = some (.int .u8 a1_0) := (blk_cell BK191.out 0).trans rfl
      have hcz14_1 : w9.cell? ⟨gb191, 1, none⟩ = some (.int .u8 a1_1) := (blk_cell BK191.out 1).trans rfl
      have hcz14_2 : w9.cell? ⟨gb191, 2, none⟩ = some (.int .i64 a1_2) := (blk_cell BK191.out 2).trans rfl
      have hcz14_3 : w9.cell? ⟨gb191, 3, none⟩ = some (.slice A1_3 l1_3.length c1_3) := (blk_cell BK191.out 3).trans rfl
      have hfz14_0 := blk_frozen BK191.out 0
      have hfz14_1 := blk_frozen BK191.out 1
      have hfz14_2 := blk_frozen BK191.out 2
      have hfz14_3 := blk_frozen BK191.out 3
      have hcz15_0 : w9.cell? ⟨gb192, 0, none⟩ = some (.int .u8 a2_0) := (blk_cell BK192.out 0).trans rfl
      have hcz15_1 : w9.cell? ⟨gb192, 1, none⟩ = some (.int .u8 a2_1) := (blk_cell BK192.out 1).trans rfl
      have hcz15_2 : w9.cell? ⟨gb192, 2, none⟩ = some (.int .i64 a2_2) := (blk_cell BK192.out 2).trans rfl
      have hcz15_3 : w9.cell? ⟨gb192, 3, none⟩ = some (.slice A2_3 l2_3.length c2_3) := (blk_cell BK192.out 3).trans rfl
      have hfz15_0 := blk_frozen BK192.out 0
      have hfz15_1 := blk_frozen BK192.out 1
      have hfz15_2 := blk_frozen BK192.out 2
      have hfz15_3 := blk_frozen BK192.out 3
      go_wp2
      go_meet
      case rel => exact ⟨_, (decide ((l2_3.length : Int) > 1000)), (by first | rfl | (simp; done) | (simp [*]; done)), H', ⟨by first | omega | exact Nat.le_refl _⟩, ⟨by (with_reducible repeat (first | refine blk_drewN ?_ _ | refine blk_drew ?_ | refine blk_alloc ?_ _)); exact BK191.out⟩, ⟨by (with_reducible repeat (first | refine blk_drewN ?_ _ | refine blk_drew ?_ | refine blk_alloc ?_ _)); exact BK192.out⟩, ⟨by repeat (first | (with_reducible first | exact HB.out | apply below_alloc | apply pw_below_drewN | apply below_drew1 | refine below_set ?_ GE191.out | refine below_set ?_ GE192.out) | exact HB.out)⟩⟩
  case rest =>
    clear HC7
    try clear c1
    try clear c2
    try clear p2
    try clear c3
    try clear c10
    try clear c10b0
    try clear c10b1
    try clear c11
    try clear c13
    try clear hcz12_0
    try clear hcz12_1
    try clear hcz12_2
    try clear hcz12_3
    try clear hcz14_0
    try clear hcz14_1
    try clear hcz14_2
    try clear hcz14_3
    try clear hcz15_0
    try clear hcz15_1
    try clear hcz15_2
    try clear hcz15_3
    try clear hfz12_0
    try clear hfz12_1
    try clear hfz12_2
    try clear hfz12_3
    try clear hfz14_0
    try clear hfz14_1
    try clear hfz14_2
    try clear hfz14_3
    try clear hfz15_0
    try clear hfz15_1
    try clear hfz15_2
    try clear hfz15_3
    obtain ⟨kq, x35_6, rfl, HA, HJ6, BK191, BK192, HB⟩ := hcut
    cases kq with
    | zero => exact absurd HA.out (by simp [reedpipelaw10_InfoTells.j0])
    | succ kj6 =>
      have H := HA.out
      clear HA
      simp only [reedpipelaw10_InfoTells.j0] at H
      by_cases c16 : x35_6 = true
      · subst c16
        have H1 : (some true) = some r := by rw [if_pos rfl] at H; exact H
        clear H
        have H := H1
        clear H1
        obtain rfl := Option.some.inj H
        go_wp2
        go_ret
        exact ⟨by first | rfl | (simp [errW_none, errW_some] <;> rfl) | (simp [*, errW_none, errW_some] <;> rfl), by repeat (first | (with_reducible first | exact HB.out | apply below_alloc | apply pw_below_drewN | apply below_drew1 | refine below_set ?_ GE191.out | refine below_set ?_ GE192.out) | exact HB.out)⟩
      · replace c16 := Bool.eq_false_iff.mpr c16
        subst c16
        have H1 : ((reedpiperef10_Twin.f a1_0 a1_1 a1_2 l1_3).bind fun bt193 => ((info_Windows.f kj6 bt193.1 bt193.2.1 bt193.2.2.1 bt193.2.2.2).bind fun bt200 => ((reedpiperef10_Windows.f kj6 a1_0 a1_1 a1_2 l1_3).bind fun bt202 => ((info_Group.f kj6 bt193.1 bt193.2.1 bt193.2.2.1 bt193.2.2.2 a3).bind fun bt204 => ((reedpiperef10_Group.f kj6 a1_0 a1_1 a1_2 l1_3 a3).bind fun bt206 => ((info_Twin.f bt193.1 bt193.2.1 bt193.2.2.1 bt193.2.2.2).bind fun bt208 => ((info_Check.f kj6 a0 bt193.1 bt193.2.1 bt193.2.2.1 bt193.2.2.2).bind fun t215 => ((reedpiperef10_Check.f kj6 a0 a1_0 a1_1 a1_2 l1_3).bind fun t216 => (if t215 = t216 then (if bt200.1 = bt202.1 then (if bt200.2 = bt202.2 then (if bt204.1 = bt206.1 then (if bt204.2 = bt206.2 then ((info_After.f a4 a5).bind fun t217 => ((reedpiperef10_After.f kj6 a4 a5).bind fun t218 => (reedpipelaw10_InfoTells.j1 kj6 (t217 == t218) a1_0 a1_1 a1_2 l1_3 a2_0 a2_1 a2_2 l2_3 bt193.1 bt193.2.1 bt193.2.2.1 bt193.2.2.2 bt208.1 bt208.2.1 bt208.2.2.1 bt208.2.2.2))) else (reedpipelaw10_InfoTells.j1 kj6 false a1_0 a1_1 a1_2 l1_3 a2_0 a2_1 a2_2 l2_3 bt193.1 bt193.2.1 bt193.2.2.1 bt193.2.2.2 bt208.1 bt208.2.1 bt208.2.2.1 bt208.2.2.2)) else (reedpipelaw10_InfoTells.j1 kj6 false a1_0 a1_1 a1_2 l1_3 a2_0 a2_1 a2_2 l2_3 bt193.1 bt193.2.1 bt193.2.2.1 bt193.2.2.2 bt208.1 bt208.2.1 bt208.2.2.1 bt208.2.2.2)) else (reedpipelaw10_InfoTells.j1 kj6 false a1_0 a1_1 a1_2 l1_3 a2_0 a2_1 a2_2 l2_3 bt193.1 bt193.2.1 bt193.2.2.1 bt193.2.2.2 bt208.1 bt208.2.1 bt208.2.2.1 bt208.2.2.2)) else (reedpipelaw10_InfoTells.j1 kj6 false a1_0 a1_1 a1_2 l1_3 a2_0 a2_1 a2_2 l2_3 bt193.1 bt193.2.1 bt193.2.2.1 bt193.2.2.2 bt208.1 bt208.2.1 bt208.2.2.1 bt208.2.2.2)) else (reedpipelaw10_InfoTells.j1 kj6 false a1_0 a1_1 a1_2 l1_3 a2_0 a2_1 a2_2 l2_3 bt193.1 bt193.2.1 bt193.2.2.1 bt193.2.2.2 bt208.1 bt208.2.1 bt208.2.2.1 bt208.2.2.2)))))))))) = some r := by rw [if_neg (show ¬ (false = true) by decide)] at H; exact H
        clear H
        have H := H1
        clear H1
        replace H := Option.bind_eq_some_iff.mp H
        obtain ⟨⟨t193, t194, t195, t196⟩, A170, H⟩ := H
        replace H : ((info_Windows.f kj6 t193 t194 t195 t196).bind fun bt200 => ((reedpiperef10_Windows.f kj6 a1_0 a1_1 a1_2 l1_3).bind fun bt202 => ((info_Group.f kj6 t193 t194 t195 t196 a3).bind fun bt204 => ((reedpiperef10_Group.f kj6 a1_0 a1_1 a1_2 l1_3 a3).bind fun bt206 => ((info_Twin.f t193 t194 t195 t196).bind fun bt208 => ((info_Check.f kj6 a0 t193 t194 t195 t196).bind fun t215 => ((reedpiperef10_Check.f kj6 a0 a1_0 a1_1 a1_2 l1_3).bind fun t216 => (if t215 = t216 then (if bt200.1 = bt202.1 then (if bt200.2 = bt202.2 then (if bt204.1 = bt206.1 then (if bt204.2 = bt206.2 then ((info_After.f a4 a5).bind fun t217 => ((reedpiperef10_After.f kj6 a4 a5).bind fun t218 => (reedpipelaw10_InfoTells.j1 kj6 (t217 == t218) a1_0 a1_1 a1_2 l1_3 a2_0 a2_1 a2_2 l2_3 t193 t194 t195 t196 bt208.1 bt208.2.1 bt208.2.2.1 bt208.2.2.2))) else (reedpipelaw10_InfoTells.j1 kj6 false a1_0 a1_1 a1_2 l1_3 a2_0 a2_1 a2_2 l2_3 t193 t194 t195 t196 bt208.1 bt208.2.1 bt208.2.2.1 bt208.2.2.2)) else (reedpipelaw10_InfoTells.j1 kj6 false a1_0 a1_1 a1_2 l1_3 a2_0 a2_1 a2_2 l2_3 t193 t194 t195 t196 bt208.1 bt208.2.1 bt208.2.2.1 bt208.2.2.2)) else (reedpipelaw10_InfoTells.j1 kj6 false a1_0 a1_1 a1_2 l1_3 a2_0 a2_1 a2_2 l2_3 t193 t194 t195 t196 bt208.1 bt208.2.1 bt208.2.2.1 bt208.2.2.2)) else (reedpipelaw10_InfoTells.j1 kj6 false a1_0 a1_1 a1_2 l1_3 a2_0 a2_1 a2_2 l2_3 t193 t194 t195 t196 bt208.1 bt208.2.1 bt208.2.2.1 bt208.2.2.2)) else (reedpipelaw10_InfoTells.j1 kj6 false a1_0 a1_1 a1_2 l1_3 a2_0 a2_1 a2_2 l2_3 t193 t194 t195 t196 bt208.1 bt208.2.1 bt208.2.2.1 bt208.2.2.2))))))))) = some r := H
        have A17 := Aside0.mk A170
        clear A170
        replace H := Option.bind_eq_some_iff.mp H
        obtain ⟨⟨t200, t201⟩, A180, H⟩ := H
        replace H : ((reedpiperef10_Windows.f kj6 a1_0 a1_1 a1_2 l1_3).bind fun bt202 => ((info_Group.f kj6 t193 t194 t195 t196 a3).bind fun bt204 => ((reedpiperef10_Group.f kj6 a1_0 a1_1 a1_2 l1_3 a3).bind fun bt206 => ((info_Twin.f t193 t194 t195 t196).bind fun bt208 => ((info_Check.f kj6 a0 t193 t194 t195 t196).bind fun t215 => ((reedpiperef10_Check.f kj6 a0 a1_0 a1_1 a1_2 l1_3).bind fun t216 => (if t215 = t216 then (if t200 = bt202.1 then (if t201 = bt202.2 then (if bt204.1 = bt206.1 then (if bt204.2 = bt206.2 then ((info_After.f a4 a5).bind fun t217 => ((reedpiperef10_After.f kj6 a4 a5).bind fun t218 => (reedpipelaw10_InfoTells.j1 kj6 (t217 == t218) a1_0 a1_1 a1_2 l1_3 a2_0 a2_1 a2_2 l2_3 t193 t194 t195 t196 bt208.1 bt208.2.1 bt208.2.2.1 bt208.2.2.2))) else (reedpipelaw10_InfoTells.j1 kj6 false a1_0 a1_1 a1_2 l1_3 a2_0 a2_1 a2_2 l2_3 t193 t194 t195 t196 bt208.1 bt208.2.1 bt208.2.2.1 bt208.2.2.2)) else (reedpipelaw10_InfoTells.j1 kj6 false a1_0 a1_1 a1_2 l1_3 a2_0 a2_1 a2_2 l2_3 t193 t194 t195 t196 bt208.1 bt208.2.1 bt208.2.2.1 bt208.2.2.2)) else (reedpipelaw10_InfoTells.j1 kj6 false a1_0 a1_1 a1_2 l1_3 a2_0 a2_1 a2_2 l2_3 t193 t194 t195 t196 bt208.1 bt208.2.1 bt208.2.2.1 bt208.2.2.2)) else (reedpipelaw10_InfoTells.j1 kj6 false a1_0 a1_1 a1_2 l1_3 a2_0 a2_1 a2_2 l2_3 t193 t194 t195 t196 bt208.1 bt208.2.1 bt208.2.2.1 bt208.2.2.2)) else (reedpipelaw10_InfoTells.j1 kj6 false a1_0 a1_1 a1_2 l1_3 a2_0 a2_1 a2_2 l2_3 t193 t194 t195 t196 bt208.1 bt208.2.1 bt208.2.2.1 bt208.2.2.2)))))))) = some r := H
        have A18 := Aside0.mk A180
        clear A180
        replace H := Option.bind_eq_some_iff.mp H
        obtain ⟨⟨t202, t203⟩, A190, H⟩ := H
        replace H : ((info_Group.f kj6 t193 t194 t195 t196 a3).bind fun bt204 => ((reedpiperef10_Group.f kj6 a1_0 a1_1 a1_2 l1_3 a3).bind fun bt206 => ((info_Twin.f t193 t194 t195 t196).bind fun bt208 => ((info_Check.f kj6 a0 t193 t194 t195 t196).bind fun t215 => ((reedpiperef10_Check.f kj6 a0 a1_0 a1_1 a1_2 l1_3).bind fun t216 => (if t215 = t216 then (if t200 = t202 then (if t201 = t203 then (if bt204.1 = bt206.1 then (if bt204.2 = bt206.2 then ((info_After.f a4 a5).bind fun t217 => ((reedpiperef10_After.f kj6 a4 a5).bind fun t218 => (reedpipelaw10_InfoTells.j1 kj6 (t217 == t218) a1_0 a1_1 a1_2 l1_3 a2_0 a2_1 a2_2 l2_3 t193 t194 t195 t196 bt208.1 bt208.2.1 bt208.2.2.1 bt208.2.2.2))) else (reedpipelaw10_InfoTells.j1 kj6 false a1_0 a1_1 a1_2 l1_3 a2_0 a2_1 a2_2 l2_3 t193 t194 t195 t196 bt208.1 bt208.2.1 bt208.2.2.1 bt208.2.2.2)) else (reedpipelaw10_InfoTells.j1 kj6 false a1_0 a1_1 a1_2 l1_3 a2_0 a2_1 a2_2 l2_3 t193 t194 t195 t196 bt208.1 bt208.2.1 bt208.2.2.1 bt208.2.2.2)) else (reedpipelaw10_InfoTells.j1 kj6 false a1_0 a1_1 a1_2 l1_3 a2_0 a2_1 a2_2 l2_3 t193 t194 t195 t196 bt208.1 bt208.2.1 bt208.2.2.1 bt208.2.2.2)) else (reedpipelaw10_InfoTells.j1 kj6 false a1_0 a1_1 a1_2 l1_3 a2_0 a2_1 a2_2 l2_3 t193 t194 t195 t196 bt208.1 bt208.2.1 bt208.2.2.1 bt208.2.2.2)) else (reedpipelaw10_InfoTells.j1 kj6 false a1_0 a1_1 a1_2 l1_3 a2_0 a2_1 a2_2 l2_3 t193 t194 t195 t196 bt208.1 bt208.2.1 bt208.2.2.1 bt208.2.2.2))))))) = some r := H
        have A19 := Aside0.mk A190
        clear A190
        replace H := Option.bind_eq_some_iff.mp H
        obtain ⟨⟨t204, t205⟩, A200, H⟩ := H
        replace H : ((reedpiperef10_Group.f kj6 a1_0 a1_1 a1_2 l1_3 a3).bind fun bt206 => ((info_Twin.f t193 t194 t195 t196).bind fun bt208 => ((info_Check.f kj6 a0 t193 t194 t195 t196).bind fun t215 => ((reedpiperef10_Check.f kj6 a0 a1_0 a1_1 a1_2 l1_3).bind fun t216 => (if t215 = t216 then (if t200 = t202 then (if t201 = t203 then (if t204 = bt206.1 then (if t205 = bt206.2 then ((info_After.f a4 a5).bind fun t217 => ((reedpiperef10_After.f kj6 a4 a5).bind fun t218 => (reedpipelaw10_InfoTells.j1 kj6 (t217 == t218) a1_0 a1_1 a1_2 l1_3 a2_0 a2_1 a2_2 l2_3 t193 t194 t195 t196 bt208.1 bt208.2.1 bt208.2.2.1 bt208.2.2.2))) else (reedpipelaw10_InfoTells.j1 kj6 false a1_0 a1_1 a1_2 l1_3 a2_0 a2_1 a2_2 l2_3 t193 t194 t195 t196 bt208.1 bt208.2.1 bt208.2.2.1 bt208.2.2.2)) else (reedpipelaw10_InfoTells.j1 kj6 false a1_0 a1_1 a1_2 l1_3 a2_0 a2_1 a2_2 l2_3 t193 t194 t195 t196 bt208.1 bt208.2.1 bt208.2.2.1 bt208.2.2.2)) else (reedpipelaw10_InfoTells.j1 kj6 false a1_0 a1_1 a1_2 l1_3 a2_0 a2_1 a2_2 l2_3 t193 t194 t195 t196 bt208.1 bt208.2.1 bt208.2.2.1 bt208.2.2.2)) else (reedpipelaw10_InfoTells.j1 kj6 false a1_0 a1_1 a1_2 l1_3 a2_0 a2_1 a2_2 l2_3 t193 t194 t195 t196 bt208.1 bt208.2.1 bt208.2.2.1 bt208.2.2.2)) else (reedpipelaw10_InfoTells.j1 kj6 false a1_0 a1_1 a1_2 l1_3 a2_0 a2_1 a2_2 l2_3 t193 t194 t195 t196 bt208.1 bt208.2.1 bt208.2.2.1 bt208.2.2.2)))))) = some r := H
        have A20 := Aside0.mk A200
        clear A200
        replace H := Option.bind_eq_some_iff.mp H
        obtain ⟨⟨t206, t207⟩, A210, H⟩ := H
        replace H : ((info_Twin.f t193 t194 t195 t196).bind fun bt208 => ((info_Check.f kj6 a0 t193 t194 t195 t196).bind fun t215 => ((reedpiperef10_Check.f kj6 a0 a1_0 a1_1 a1_2 l1_3).bind fun t216 => (if t215 = t216 then (if t200 = t202 then (if t201 = t203 then (if t204 = t206 then (if t205 = t207 then ((info_After.f a4 a5).bind fun t217 => ((reedpiperef10_After.f kj6 a4 a5).bind fun t218 => (reedpipelaw10_InfoTells.j1 kj6 (t217 == t218) a1_0 a1_1 a1_2 l1_3 a2_0 a2_1 a2_2 l2_3 t193 t194 t195 t196 bt208.1 bt208.2.1 bt208.2.2.1 bt208.2.2.2))) else (reedpipelaw10_InfoTells.j1 kj6 false a1_0 a1_1 a1_2 l1_3 a2_0 a2_1 a2_2 l2_3 t193 t194 t195 t196 bt208.1 bt208.2.1 bt208.2.2.1 bt208.2.2.2)) else (reedpipelaw10_InfoTells.j1 kj6 false a1_0 a1_1 a1_2 l1_3 a2_0 a2_1 a2_2 l2_3 t193 t194 t195 t196 bt208.1 bt208.2.1 bt208.2.2.1 bt208.2.2.2)) else (reedpipelaw10_InfoTells.j1 kj6 false a1_0 a1_1 a1_2 l1_3 a2_0 a2_1 a2_2 l2_3 t193 t194 t195 t196 bt208.1 bt208.2.1 bt208.2.2.1 bt208.2.2.2)) else (reedpipelaw10_InfoTells.j1 kj6 false a1_0 a1_1 a1_2 l1_3 a2_0 a2_1 a2_2 l2_3 t193 t194 t195 t196 bt208.1 bt208.2.1 bt208.2.2.1 bt208.2.2.2)) else (reedpipelaw10_InfoTells.j1 kj6 false a1_0 a1_1 a1_2 l1_3 a2_0 a2_1 a2_2 l2_3 t193 t194 t195 t196 bt208.1 bt208.2.1 bt208.2.2.1 bt208.2.2.2))))) = some r := H
        have A21 := Aside0.mk A210
        clear A210
        replace H := Option.bind_eq_some_iff.mp H
        obtain ⟨⟨t208, t209, t210, t211⟩, A220, H⟩ := H
        replace H : ((info_Check.f kj6 a0 t193 t194 t195 t196).bind fun t215 => ((reedpiperef10_Check.f kj6 a0 a1_0 a1_1 a1_2 l1_3).bind fun t216 => (if t215 = t216 then (if t200 = t202 then (if t201 = t203 then (if t204 = t206 then (if t205 = t207 then ((info_After.f a4 a5).bind fun t217 => ((reedpiperef10_After.f kj6 a4 a5).bind fun t218 => (reedpipelaw10_InfoTells.j1 kj6 (t217 == t218) a1_0 a1_1 a1_2 l1_3 a2_0 a2_1 a2_2 l2_3 t193 t194 t195 t196 t208 t209 t210 t211))) else (reedpipelaw10_InfoTells.j1 kj6 false a1_0 a1_1 a1_2 l1_3 a2_0 a2_1 a2_2 l2_3 t193 t194 t195 t196 t208 t209 t210 t211)) else (reedpipelaw10_InfoTells.j1 kj6 false a1_0 a1_1 a1_2 l1_3 a2_0 a2_1 a2_2 l2_3 t193 t194 t195 t196 t208 t209 t210 t211)) else (reedpipelaw10_InfoTells.j1 kj6 false a1_0 a1_1 a1_2 l1_3 a2_0 a2_1 a2_2 l2_3 t193 t194 t195 t196 t208 t209 t210 t211)) else (reedpipelaw10_InfoTells.j1 kj6 false a1_0 a1_1 a1_2 l1_3 a2_0 a2_1 a2_2 l2_3 t193 t194 t195 t196 t208 t209 t210 t211)) else (reedpipelaw10_InfoTells.j1 kj6 false a1_0 a1_1 a1_2 l1_3 a2_0 a2_1 a2_2 l2_3 t193 t194 t195 t196 t208 t209 t210 t211)))) = some r := H
        have A22 := Aside0.mk A220
        clear A220
        have HC23 := Aside0.mk H
        clear H
        have hnb24 := NB191_192.out
        have hnc24 := NB192_191.out
        have hcz25_0 : wc.cell? ⟨gb191, 0, none⟩ = some (.int .u8 a1_0) := (blk_cell BK191.out 0).trans rfl
        have hcz25_1 : wc.cell? ⟨gb191, 1, none⟩ = some (.int .u8 a1_1) := (blk_cell BK191.out 1).trans rfl
        have hcz25_2 : wc.cell? ⟨gb191, 2, none⟩ = some (.int .i64 a1_2) := (blk_cell BK191.out 2).trans rfl
        have hcz25_3 : wc.cell? ⟨gb191, 3, none⟩ = some (.slice A1_3 l1_3.length c1_3) := (blk_cell BK191.out 3).trans rfl
        have hfz25_0 := blk_frozen BK191.out 0
        have hfz25_1 := blk_frozen BK191.out 1
        have hfz25_2 := blk_frozen BK191.out 2
        have hfz25_3 := blk_frozen BK191.out 3
        go_upto_region 9 with (first | ((with_reducible refine gate_callee (f := 9) rfl ?_); refine goesL_ (some 37) rfl rfl Try.func9 (by kernel_rfl) rfl #[.agg #[.int .u8 a1_0, .int .u8 a1_1, .int .i64 a1_2, .slice A1_3 l1_3.length c1_3]] rfl (by (try simp only [List.map_toArray, List.map_cons, List.map_nil]); first | done | rfl | (simp only [List.length_drop, List.length_take]; rfl)) ?_; (with_reducible refine (reedpiperef10_Twin.calls a1_0 a1_1 a1_2 _ _ l1_3 t193 t194 t195 t196 _ ?side1 ?side2 A17.out).mono ?_); (case side1 => repeat (first | exact (Kd.C_below HR1_3.out HB.out) | (with_reducible refine Kd.C_alloc ?_ _) | (with_reducible refine Kd.C_drewN ?_ _) | (with_reducible refine Kd.C_drew ?_))); (case side2 => exact HC1_3.out); rintro e w26 ⟨v197, rfl, ho0, hb⟩; refine ⟨_, rfl, ?_⟩; have n0_ := Aside0.mk (Kd.R_lower ho0 (below_size (by repeat (first | (with_reducible first | exact HB.out | apply below_alloc | apply pw_below_drewN | apply below_drew1 | refine below_set ?_ GE191.out | refine below_set ?_ GE192.out) | exact HB.out)))); have n1_ := Aside0.mk (blk_below (g := gb191) (o := .cells #[.int .u8 a1_0, .int .u8 a1_1, .int .i64 a1_2, .slice A1_3 l1_3.length c1_3] 24 (0, 0)) (by (with_reducible repeat (first | refine blk_drewN ?_ _ | refine blk_drew ?_ | refine blk_alloc ?_ _)); exact BK191.out) hb); have n2_ := Aside0.mk (blk_below (g := gb192) (o := .cells #[.int .u8 a2_0, .int .u8 a2_1, .int .i64 a2_2, .slice A2_3 l2_3.length c2_3] 24 (0, 0)) (by (with_reducible repeat (first | refine blk_drewN ?_ _ | refine blk_drew ?_ | refine blk_alloc ?_ _)); exact BK192.out) hb); have n3_ := Aside0.mk (below_step (by repeat (first | (with_reducible first | exact HB.out | apply below_alloc | apply pw_below_drewN | apply below_drew1 | refine below_set ?_ GE191.out | refine below_set ?_ GE192.out) | exact HB.out)) hb); clear BK191; clear BK192; clear HB; have HO198 := n0_; have BK191 := n1_; have BK192 := n2_; have HB := n3_; clear n0_ n1_ n2_ n3_; (try clear hb); (try clear hb2); (try clear hk); (try clear hi); (try clear ho0)) | ((with_reducible refine gate_dst (N := 13) rfl ?_); (try (refine gate_guard (by rfl) ?_; dsimp only)); refine box_event ?hg (N := 13) ?hd (cs := #[.int .u8 0, .int .u8 0, .int .i64 0, .slice none 0 0]) (t := 24) ?hr ?_; (case hd => rfl); (case hg => rfl); (case hr => first | (go_simp; done) | (go_simp; rfl)); intro gb199 hg w27 hbox hb; have n0_ := Aside0.mk (Kd.R_below (by (with_reducible repeat (first | apply Kd.R_alloc | apply Kd.R_drewN | apply Kd.R_drew)); exact HO198.out) hb); have n1_ := Aside0.mk (blk_below (g := gb191) (o := .cells #[.int .u8 a1_0, .int .u8 a1_1, .int .i64 a1_2, .slice A1_3 l1_3.length c1_3] 24 (0, 0)) (by (with_reducible repeat (first | refine blk_drewN ?_ _ | refine blk_drew ?_ | refine blk_alloc ?_ _)); exact BK191.out) hb); have n2_ := Aside0.mk (blk_below (g := gb192) (o := .cells #[.int .u8 a2_0, .int .u8 a2_1, .int .i64 a2_2, .slice A2_3 l2_3.length c2_3] 24 (0, 0)) (by (with_reducible repeat (first | refine blk_drewN ?_ _ | refine blk_drew ?_ | refine blk_alloc ?_ _)); exact BK192.out) hb); have n3_ := Aside0.mk (below_step (by repeat (first | (with_reducible first | exact HB.out | apply below_alloc | apply pw_below_drewN | apply below_drew1 | refine below_set ?_ GE191.out | refine below_set ?_ GE192.out) | exact HB.out)) hb); have n4_ := Aside0.mk (hbox); have n5_ := Aside0.mk ((by rw [hg]; exact (below_size (by repeat (first | (with_reducible first | exact HB.out | apply below_alloc | apply pw_below_drewN | apply below_drew1 | refine below_set ?_ GE191.out | refine below_set ?_ GE192.out) | exact HB.out))) : w.heap.size ≤ gb199)); have n6_ := Aside0.mk ((by rw [hg]; exact (below_size (by repeat (first | (with_reducible first | exact HB.out | apply below_alloc | apply pw_below_drewN | apply below_drew1 | refine below_set ?_ GE191.out | refine below_set ?_ GE192.out) | exact HB.out))) : w.heap.size ≤ gb199)); have n7_ := Aside0.mk ((by rw [hg]; exact Nat.ne_of_lt (blk_lt (g := gb191) (o := .cells #[.int .u8 a1_0, .int .u8 a1_1, .int .i64 a1_2, .slice A1_3 l1_3.length c1_3] 24 (0, 0)) (by (with_reducible repeat (first | refine blk_drewN ?_ _ | refine blk_drew ?_ | refine blk_alloc ?_ _)); exact BK191.out)) : gb191 ≠ gb199)); have n8_ := Aside0.mk ((by rw [hg]; exact Nat.ne_of_gt (blk_lt (g := gb191) (o := .cells #[.int .u8 a1_0, .int .u8 a1_1, .int .i64 a1_2, .slice A1_3 l1_3.length c1_3] 24 (0, 0)) (by (with_reducible repeat (first | refine blk_drewN ?_ _ | refine blk_drew ?_ | refine blk_alloc ?_ _)); exact BK191.out)) : gb199 ≠ gb191)); have n9_ := Aside0.mk ((by rw [hg]; exact Nat.ne_of_lt (blk_lt (g := gb192) (o := .cells #[.int .u8 a2_0, .int .u8 a2_1, .int .i64 a2_2, .slice A2_3 l2_3.length c2_3] 24 (0, 0)) (by (with_reducible repeat (first | refine blk_drewN ?_ _ | refine blk_drew ?_ | refine blk_alloc ?_ _)); exact BK192.out)) : gb192 ≠ gb199)); have n10_ := Aside0.mk ((by rw [hg]; exact Nat.ne_of_gt (blk_lt (g := gb192) (o := .cells #[.int .u8 a2_0, .int .u8 a2_1, .int .i64 a2_2, .slice A2_3 l2_3.length c2_3] 24 (0, 0)) (by (with_reducible repeat (first | refine blk_drewN ?_ _ | refine blk_drew ?_ | refine blk_alloc ?_ _)); exact BK192.out)) : gb199 ≠ gb192)); clear HO198; clear BK191; clear BK192; clear HB; have HO198 := n0_; have BK191 := n1_; have BK192 := n2_; have HB := n3_; have BK199 := n4_; have GW199 := n5_; have GE199 := n6_; have NB191_199 := n7_; have NB199_191 := n8_; have NB192_199 := n9_; have NB199_192 := n10_; clear n0_ n1_ n2_ n3_ n4_ n5_ n6_ n7_ n8_ n9_ n10_; clear hb hbox hg; have hnb28 := NB199_191.out; have hnc28 := NB191_199.out; have hnb29 := NB199_192.out; have hnc29 := NB192_199.out; have hcz30_0 : w27.cell? ⟨gb199, 0, none⟩ = some (.int .u8 0) := (blk_cell BK199.out 0).trans rfl; have hcz30_1 : w27.cell? ⟨gb199, 1, none⟩ = some (.int .u8 0) := (blk_cell BK199.out 1).trans rfl; have hcz30_2 : w27.cell? ⟨gb199, 2, none⟩ = some (.int .i64 0) := (blk_cell BK199.out 2).trans rfl; have hcz30_3 : w27.cell? ⟨gb199, 3, none⟩ = some (.slice none 0 0) := (blk_cell BK199.out 3).trans rfl; have hfz30_0 := blk_frozen BK199.out 0; have hfz30_1 := blk_frozen BK199.out 1; have hfz30_2 := blk_frozen BK199.out 2; have hfz30_3 := blk_frozen BK199.out 3; obtain ⟨Ao31, co31, eo31⟩ := Kd.R_slice HO198.out; subst eo31) | ((with_reducible refine gate_callee (f := 10) rfl ?_); refine goesL_ (some 40) rfl rfl Try.func10 (by kernel_rfl) rfl #[.agg #[.int .u8 t193, .int .u8 t194, .int .i64 t195, .slice Ao31 t196.length co31]] rfl (by (try simp only [List.map_toArray, List.map_cons, List.map_nil]); first | done | rfl | (simp only [List.length_drop, List.length_take]; rfl)) ?_; (with_reducible refine (info_Windows.calls kj6 t193 t194 t195 _ _ t196 t200 t201 _ ?side1 ?side2 A18.out).mono ?_); (case side1 => refine (Kd.R_reads' (e := 3) (base := w.heap.size) (ok := fun k_ => True) (n := t196.length) (c := co31) ?_).2.2; exact (by (with_reducible repeat (first | apply Kd.R_alloc | apply Kd.R_drewN | apply Kd.R_drew)); exact (Kd.R_mono (Kd.R_far (p := ⟨gb199, 3, none⟩) (Kd.R_far (p := ⟨gb199, 2, none⟩) (Kd.R_far (p := ⟨gb199, 1, none⟩) (Kd.R_far (p := ⟨gb199, 0, none⟩) (Kd.R_types HO198.out BK199.out (by decide)) (fun _ hk => hk.2) (.int .u8 t193)) (fun _ hk => hk.2) (.int .u8 t194)) (fun _ hk => hk.2) (.int .i64 t195)) (fun _ hk => hk.2) (.slice Ao31 t196.length co31)) (fun _ h_ => h_.1)))); (case side2 => exact (Kd.R_reads' HO198.out).2.1); rintro e w32 ⟨rfl, hb⟩; refine ⟨_, rfl, ?_⟩; have n0_ := Aside0.mk (Kd.R_below (by (with_reducible repeat (first | apply Kd.R_alloc | apply Kd.R_drewN | apply Kd.R_drew)); exact (Kd.R_mono (Kd.R_far (p := ⟨gb199, 3, none⟩) (Kd.R_far (p := ⟨gb199, 2, none⟩) (Kd.R_far (p := ⟨gb199, 1, none⟩) (Kd.R_far (p := ⟨gb199, 0, none⟩) (Kd.R_types HO198.out BK199.out (by decide)) (fun _ hk => hk.2) (.int .u8 t193)) (fun _ hk => hk.2) (.int .u8 t194)) (fun _ hk => hk.2) (.int .i64 t195)) (fun _ hk => hk.2) (.slice Ao31 t196.length co31)) (fun _ h_ => h_.1))) hb); have n1_ := Aside0.mk (blk_below (g := gb191) (o := .cells #[.int .u8 a1_0, .int .u8 a1_1, .int .i64 a1_2, .slice A1_3 l1_3.length c1_3] 24 (0, 0)) (by (with_reducible repeat (first | refine blk_drewN ?_ _ | refine blk_drew ?_ | refine blk_alloc ?_ _)); refine blk_far ?_ NB191_199.out _; (with_reducible repeat (first | refine blk_drewN ?_ _ | refine blk_drew ?_ | refine blk_alloc ?_ _)); refine blk_far ?_ NB191_199.out _; (with_reducible repeat (first | refine blk_drewN ?_ _ | refine blk_drew ?_ | refine blk_alloc ?_ _)); refine blk_far ?_ NB191_199.out _; (with_reducible repeat (first | refine blk_drewN ?_ _ | refine blk_drew ?_ | refine blk_alloc ?_ _)); refine blk_far ?_ NB191_199.out _; (with_reducible repeat (first | refine blk_drewN ?_ _ | refine blk_drew ?_ | refine blk_alloc ?_ _)); exact BK191.out) hb); have n2_ := Aside0.mk (blk_below (g := gb192) (o := .cells #[.int .u8 a2_0, .int .u8 a2_1, .int .i64 a2_2, .slice A2_3 l2_3.length c2_3] 24 (0, 0)) (by (with_reducible repeat (first | refine blk_drewN ?_ _ | refine blk_drew ?_ | refine blk_alloc ?_ _)); refine blk_far ?_ NB192_199.out _; (with_reducible repeat (first | refine blk_drewN ?_ _ | refine blk_drew ?_ | refine blk_alloc ?_ _)); refine blk_far ?_ NB192_199.out _; (with_reducible repeat (first | refine blk_drewN ?_ _ | refine blk_drew ?_ | refine blk_alloc ?_ _)); refine blk_far ?_ NB192_199.out _; (with_reducible repeat (first | refine blk_drewN ?_ _ | refine blk_drew ?_ | refine blk_alloc ?_ _)); refine blk_far ?_ NB192_199.out _; (with_reducible repeat (first | refine blk_drewN ?_ _ | refine blk_drew ?_ | refine blk_alloc ?_ _)); exact BK192.out) hb); have n3_ := Aside0.mk (blk_below (g := gb199) (o := .cells #[.int .u8 t193, .int .u8 t194, .int .i64 t195, .slice Ao31 t196.length co31] 24 (0, 0)) (by (with_reducible repeat (first | refine blk_drewN ?_ _ | refine blk_drew ?_ | refine blk_alloc ?_ _)); refine blk_put (cs := #[.int .u8 t193, .int .u8 t194, .int .i64 t195, .slice none 0 0]) ?_ 3 _ rfl; (with_reducible repeat (first | refine blk_drewN ?_ _ | refine blk_drew ?_ | refine blk_alloc ?_ _)); refine blk_put (cs := #[.int .u8 t193, .int .u8 t194, .int .i64 0, .slice none 0 0]) ?_ 2 _ rfl; (with_reducible repeat (first | refine blk_drewN ?_ _ | refine blk_drew ?_ | refine blk_alloc ?_ _)); refine blk_put (cs := #[.int .u8 t193, .int .u8 0, .int .i64 0, .slice none 0 0]) ?_ 1 _ rfl; (with_reducible repeat (first | refine blk_drewN ?_ _ | refine blk_drew ?_ | refine blk_alloc ?_ _)); refine blk_put (cs := #[.int .u8 0, .int .u8 0, .int .i64 0, .slice none 0 0]) ?_ 0 _ rfl; (with_reducible repeat (first | refine blk_drewN ?_ _ | refine blk_drew ?_ | refine blk_alloc ?_ _)); exact BK199.out) hb); have n4_ := Aside0.mk (below_step (by repeat (first | (with_reducible first | exact HB.out | apply below_alloc | apply pw_below_drewN | apply below_drew1 | refine below_set ?_ GE191.out | refine below_set ?_ GE192.out | refine below_set ?_ GE199.out) | exact HB.out)) hb); clear HO198; clear BK191; clear BK192; clear BK199; clear HB; have HO198 := n0_; have BK191 := n1_; have BK192 := n2_; have BK199 := n3_; have HB := n4_; clear n0_ n1_ n2_ n3_ n4_; (try clear hb); (try clear hb2); (try clear hk); (try clear hi); have hcz33_0 : w32.cell? ⟨gb191, 0, none⟩ = some (.int .u8 a1_0) := (blk_cell BK191.out 0).trans rfl; have hcz33_1 : w32.cell? ⟨gb191, 1, none⟩ = some (.int .u8 a1_1) := (blk_cell BK191.out 1).trans rfl; have hcz33_2 : w32.cell? ⟨gb191, 2, none⟩ = some (.int .i64 a1_2) := (blk_cell BK191.out 2).trans rfl; have hcz33_3 : w32.cell? ⟨gb191, 3, none⟩ = some (.slice A1_3 l1_3.length c1_3) := (blk_cell BK191.out 3).trans rfl; have hfz33_0 := blk_frozen BK191.out 0; have hfz33_1 := blk_frozen BK191.out 1; have hfz33_2 := blk_frozen BK191.out 2; have hfz33_3 := blk_frozen BK191.out 3) | ((with_reducible refine gate_callee (f := 11) rfl ?_); refine goesL_ (some 45) rfl rfl Try.func11 (by kernel_rfl) rfl #[.agg #[.int .u8 a1_0, .int .u8 a1_1, .int .i64 a1_2, .slice A1_3 l1_3.length c1_3]] rfl (by (try simp only [List.map_toArray, List.map_cons, List.map_nil]); first | done | rfl | (simp only [List.length_drop, List.length_take]; rfl)) ?_; (with_reducible refine (reedpiperef10_Windows.calls kj6 a1_0 a1_1 a1_2 _ _ l1_3 t202 t203 _ ?side1 ?side2 A19.out).mono ?_); (case side1 => repeat (first | exact (Kd.C_below HR1_3.out HB.out) | (with_reducible refine Kd.C_alloc ?_ _) | (with_reducible refine Kd.C_drewN ?_ _) | (with_reducible refine Kd.C_drew ?_))); (case side2 => exact HC1_3.out); rintro e w34 ⟨rfl, hb⟩; refine ⟨_, rfl, ?_⟩; have n0_ := Aside0.mk (Kd.R_below (by (with_reducible repeat (first | apply Kd.R_alloc | apply Kd.R_drewN | apply Kd.R_drew)); exact HO198.out) hb); have n1_ := Aside0.mk (blk_below (g := gb191) (o := .cells #[.int .u8 a1_0, .int .u8 a1_1, .int .i64 a1_2, .slice A1_3 l1_3.length c1_3] 24 (0, 0)) (by (with_reducible repeat (first | refine blk_drewN ?_ _ | refine blk_drew ?_ | refine blk_alloc ?_ _)); exact BK191.out) hb); have n2_ := Aside0.mk (blk_below (g := gb192) (o := .cells #[.int .u8 a2_0, .int .u8 a2_1, .int .i64 a2_2, .slice A2_3 l2_3.length c2_3] 24 (0, 0)) (by (with_reducible repeat (first | refine blk_drewN ?_ _ | refine blk_drew ?_ | refine blk_alloc ?_ _)); exact BK192.out) hb); have n3_ := Aside0.mk (blk_below (g := gb199) (o := .cells #[.int .u8 t193, .int .u8 t194, .int .i64 t195, .slice Ao31 t196.length co31] 24 (0, 0)) (by (with_reducible repeat (first | refine blk_drewN ?_ _ | refine blk_drew ?_ | refine blk_alloc ?_ _)); exact BK199.out) hb); have n4_ := Aside0.mk (below_step (by repeat (first | (with_reducible first | exact HB.out | apply below_alloc | apply pw_below_drewN | apply below_drew1 | refine below_set ?_ GE191.out | refine below_set ?_ GE192.out | refine below_set ?_ GE199.out) | exact HB.out)) hb); clear HO198; clear BK191; clear BK192; clear BK199; clear HB; have HO198 := n0_; have BK191 := n1_; have BK192 := n2_; have BK199 := n3_; have HB := n4_; clear n0_ n1_ n2_ n3_ n4_; (try clear hb); (try clear hb2); (try clear hk); (try clear hi); have hcz35_0 : w34.cell? ⟨gb199, 0, none⟩ = some (.int .u8 t193) := (blk_cell BK199.out 0).trans rfl; have hcz35_1 : w34.cell? ⟨gb199, 1, none⟩ = some (.int .u8 t194) := (blk_cell BK199.out 1).trans rfl; have hcz35_2 : w34.cell? ⟨gb199, 2, none⟩ = some (.int .i64 t195) := (blk_cell BK199.out 2).trans rfl; have hcz35_3 : w34.cell? ⟨gb199, 3, none⟩ = some (.slice Ao31 t196.length co31) := (blk_cell BK199.out 3).trans rfl; have hfz35_0 := blk_frozen BK199.out 0; have hfz35_1 := blk_frozen BK199.out 1; have hfz35_2 := blk_frozen BK199.out 2; have hfz35_3 := blk_frozen BK199.out 3) | ((with_reducible refine gate_callee (f := 12) rfl ?_); refine goesL_ (some 51) rfl rfl Try.func12 (by kernel_rfl) rfl #[.agg #[.int .u8 t193, .int .u8 t194, .int .i64 t195, .slice Ao31 t196.length co31], .int .i64 a3] rfl (by (try simp only [List.map_toArray, List.map_cons, List.map_nil]); first | done | rfl | (simp only [List.length_drop, List.length_take]; rfl)) ?_; (with_reducible refine (info_Group.calls kj6 t193 t194 t195 _ _ t196 a3 t204 t205 _ ?side1 ?side2 A20.out).mono ?_); (case side1 => repeat (first | exact (Kd.R_reads' HO198.out).2.2 | (with_reducible refine Kd.C_alloc ?_ _) | (with_reducible refine Kd.C_drewN ?_ _) | (with_reducible refine Kd.C_drew ?_))); (case side2 => exact (Kd.R_reads' HO198.out).2.1); rintro e w36 ⟨rfl, hb⟩; refine ⟨_, rfl, ?_⟩; have n0_ := Aside0.mk (Kd.R_below (by (with_reducible repeat (first | apply Kd.R_alloc | apply Kd.R_drewN | apply Kd.R_drew)); exact HO198.out) hb); have n1_ := Aside0.mk (blk_below (g := gb191) (o := .cells #[.int .u8 a1_0, .int .u8 a1_1, .int .i64 a1_2, .slice A1_3 l1_3.length c1_3] 24 (0, 0)) (by (with_reducible repeat (first | refine blk_drewN ?_ _ | refine blk_drew ?_ | refine blk_alloc ?_ _)); exact BK191.out) hb); have n2_ := Aside0.mk (blk_below (g := gb192) (o := .cells #[.int .u8 a2_0, .int .u8 a2_1, .int .i64 a2_2, .slice A2_3 l2_3.length c2_3] 24 (0, 0)) (by (with_reducible repeat (first | refine blk_drewN ?_ _ | refine blk_drew ?_ | refine blk_alloc ?_ _)); exact BK192.out) hb); have n3_ := Aside0.mk (blk_below (g := gb199) (o := .cells #[.int .u8 t193, .int .u8 t194, .int .i64 t195, .slice Ao31 t196.length co31] 24 (0, 0)) (by (with_reducible repeat (first | refine blk_drewN ?_ _ | refine blk_drew ?_ | refine blk_alloc ?_ _)); exact BK199.out) hb); have n4_ := Aside0.mk (below_step (by repeat (first | (with_reducible first | exact HB.out | apply below_alloc | apply pw_below_drewN | apply below_drew1 | refine below_set ?_ GE191.out | refine below_set ?_ GE192.out | refine below_set ?_ GE199.out) | exact HB.out)) hb); clear HO198; clear BK191; clear BK192; clear BK199; clear HB; have HO198 := n0_; have BK191 := n1_; have BK192 := n2_; have BK199 := n3_; have HB := n4_; clear n0_ n1_ n2_ n3_ n4_; (try clear hb); (try clear hb2); (try clear hk); (try clear hi); have hcz37_0 : w36.cell? ⟨gb191, 0, none⟩ = some (.int .u8 a1_0) := (blk_cell BK191.out 0).trans rfl; have hcz37_1 : w36.cell? ⟨gb191, 1, none⟩ = some (.int .u8 a1_1) := (blk_cell BK191.out 1).trans rfl; have hcz37_2 : w36.cell? ⟨gb191, 2, none⟩ = some (.int .i64 a1_2) := (blk_cell BK191.out 2).trans rfl; have hcz37_3 : w36.cell? ⟨gb191, 3, none⟩ = some (.slice A1_3 l1_3.length c1_3) := (blk_cell BK191.out 3).trans rfl; have hfz37_0 := blk_frozen BK191.out 0; have hfz37_1 := blk_frozen BK191.out 1; have hfz37_2 := blk_frozen BK191.out 2; have hfz37_3 := blk_frozen BK191.out 3) | ((with_reducible refine gate_callee (f := 13) rfl ?_); refine goesL_ (some 57) rfl rfl Try.func13 (by kernel_rfl) rfl #[.agg #[.int .u8 a1_0, .int .u8 a1_1, .int .i64 a1_2, .slice A1_3 l1_3.length c1_3], .int .i64 a3] rfl (by (try simp only [List.map_toArray, List.map_cons, List.map_nil]); first | done | rfl | (simp only [List.length_drop, List.length_take]; rfl)) ?_; (with_reducible refine (reedpiperef10_Group.calls kj6 a1_0 a1_1 a1_2 _ _ l1_3 a3 t206 t207 _ ?side1 ?side2 A21.out).mono ?_); (case side1 => repeat (first | exact (Kd.C_below HR1_3.out HB.out) | (with_reducible refine Kd.C_alloc ?_ _) | (with_reducible refine Kd.C_drewN ?_ _) | (with_reducible refine Kd.C_drew ?_))); (case side2 => exact HC1_3.out); rintro e w38 ⟨rfl, hb⟩; refine ⟨_, rfl, ?_⟩; have n0_ := Aside0.mk (Kd.R_below (by (with_reducible repeat (first | apply Kd.R_alloc | apply Kd.R_drewN | apply Kd.R_drew)); exact HO198.out) hb); have n1_ := Aside0.mk (blk_below (g := gb191) (o := .cells #[.int .u8 a1_0, .int .u8 a1_1, .int .i64 a1_2, .slice A1_3 l1_3.length c1_3] 24 (0, 0)) (by (with_reducible repeat (first | refine blk_drewN ?_ _ | refine blk_drew ?_ | refine blk_alloc ?_ _)); exact BK191.out) hb); have n2_ := Aside0.mk (blk_below (g := gb192) (o := .cells #[.int .u8 a2_0, .int .u8 a2_1, .int .i64 a2_2, .slice A2_3 l2_3.length c2_3] 24 (0, 0)) (by (with_reducible repeat (first | refine blk_drewN ?_ _ | refine blk_drew ?_ | refine blk_alloc ?_ _)); exact BK192.out) hb); have n3_ := Aside0.mk (blk_below (g := gb199) (o := .cells #[.int .u8 t193, .int .u8 t194, .int .i64 t195, .slice Ao31 t196.length co31] 24 (0, 0)) (by (with_reducible repeat (first | refine blk_drewN ?_ _ | refine blk_drew ?_ | refine blk_alloc ?_ _)); exact BK199.out) hb); have n4_ := Aside0.mk (below_step (by repeat (first | (with_reducible first | exact HB.out | apply below_alloc | apply pw_below_drewN | apply below_drew1 | refine below_set ?_ GE191.out | refine below_set ?_ GE192.out | refine below_set ?_ GE199.out) | exact HB.out)) hb); clear HO198; clear BK191; clear BK192; clear BK199; clear HB; have HO198 := n0_; have BK191 := n1_; have BK192 := n2_; have BK199 := n3_; have HB := n4_; clear n0_ n1_ n2_ n3_ n4_; (try clear hb); (try clear hb2); (try clear hk); (try clear hi); have hcz39_0 : w38.cell? ⟨gb199, 0, none⟩ = some (.int .u8 t193) := (blk_cell BK199.out 0).trans rfl; have hcz39_1 : w38.cell? ⟨gb199, 1, none⟩ = some (.int .u8 t194) := (blk_cell BK199.out 1).trans rfl; have hcz39_2 : w38.cell? ⟨gb199, 2, none⟩ = some (.int .i64 t195) := (blk_cell BK199.out 2).trans rfl; have hcz39_3 : w38.cell? ⟨gb199, 3, none⟩ = some (.slice Ao31 t196.length co31) := (blk_cell BK199.out 3).trans rfl; have hfz39_0 := blk_frozen BK199.out 0; have hfz39_1 := blk_frozen BK199.out 1; have hfz39_2 := blk_frozen BK199.out 2; have hfz39_3 := blk_frozen BK199.out 3) | ((with_reducible refine gate_callee (f := 14) rfl ?_); refine goesL_ (some 61) rfl rfl Try.func14 (by kernel_rfl) rfl #[.agg #[.int .u8 t193, .int .u8 t194, .int .i64 t195, .slice Ao31 t196.length co31]] rfl (by (try simp only [List.map_toArray, List.map_cons, List.map_nil]); first | done | rfl | (simp only [List.length_drop, List.length_take]; rfl)) ?_; (with_reducible refine (info_Twin.calls t193 t194 t195 _ _ t196 t208 t209 t210 t211 _ ?side1 ?side2 A22.out).mono ?_); (case side1 => repeat (first | exact (Kd.R_reads' HO198.out).2.2 | (with_reducible refine Kd.C_alloc ?_ _) | (with_reducible refine Kd.C_drewN ?_ _) | (with_reducible refine Kd.C_drew ?_))); (case side2 => exact (Kd.R_reads' HO198.out).2.1); rintro e w40 ⟨v212, rfl, ho0, hb⟩; refine ⟨_, rfl, ?_⟩; have n0_ := Aside0.mk (Kd.R_elder' (by (with_reducible repeat (first | apply Kd.R_alloc | apply Kd.R_drewN | apply Kd.R_drew)); exact HO198.out) (Kd.R_base ho0) hb); have n1_ := Aside0.mk (Kd.R_lower (Kd.R_new' ho0 (Kd.R_lt (by (with_reducible repeat (first | apply Kd.R_alloc | apply Kd.R_drewN | apply Kd.R_drew)); exact HO198.out))) (below_size (by repeat (first | (with_reducible first | exact HB.out | apply below_alloc | apply pw_below_drewN | apply below_drew1 | refine below_set ?_ GE191.out | refine below_set ?_ GE192.out | refine below_set ?_ GE199.out) | exact HB.out)))); have n2_ := Aside0.mk (blk_below (g := gb191) (o := .cells #[.int .u8 a1_0, .int .u8 a1_1, .int .i64 a1_2, .slice A1_3 l1_3.length c1_3] 24 (0, 0)) (by (with_reducible repeat (first | refine blk_drewN ?_ _ | refine blk_drew ?_ | refine blk_alloc ?_ _)); exact BK191.out) hb); have n3_ := Aside0.mk (blk_below (g := gb192) (o := .cells #[.int .u8 a2_0, .int .u8 a2_1, .int .i64 a2_2, .slice A2_3 l2_3.length c2_3] 24 (0, 0)) (by (with_reducible repeat (first | refine blk_drewN ?_ _ | refine blk_drew ?_ | refine blk_alloc ?_ _)); exact BK192.out) hb); have n4_ := Aside0.mk (blk_below (g := gb199) (o := .cells #[.int .u8 t193, .int .u8 t194, .int .i64 t195, .slice Ao31 t196.length co31] 24 (0, 0)) (by (with_reducible repeat (first | refine blk_drewN ?_ _ | refine blk_drew ?_ | refine blk_alloc ?_ _)); exact BK199.out) hb); have n5_ := Aside0.mk (below_step (by repeat (first | (with_reducible first | exact HB.out | apply below_alloc | apply pw_below_drewN | apply below_drew1 | refine below_set ?_ GE191.out | refine below_set ?_ GE192.out | refine below_set ?_ GE199.out) | exact HB.out)) hb); clear HO198; clear BK191; clear BK192; clear BK199; clear HB; have HO198 := n0_; have HO213 := n1_; have BK191 := n2_; have BK192 := n3_; have BK199 := n4_; have HB := n5_; clear n0_ n1_ n2_ n3_ n4_ n5_; (try clear hb); (try clear hb2); (try clear hk); (try clear hi); (try clear ho0)) | ((with_reducible refine gate_dst (N := 22) rfl ?_); (try (refine gate_guard (by rfl) ?_; dsimp only)); refine box_event ?hg (N := 22) ?hd (cs := #[.int .u8 0, .int .u8 0, .int .i64 0, .slice none 0 0]) (t := 24) ?hr ?_; (case hd => rfl); (case hg => rfl); (case hr => first | (go_simp; done) | (go_simp; rfl)); intro gb214 hg w41 hbox hb; have n0_ := Aside0.mk (Kd.R_below (by (with_reducible repeat (first | apply Kd.R_alloc | apply Kd.R_drewN | apply Kd.R_drew)); exact HO198.out) hb); have n1_ := Aside0.mk (Kd.R_below (by (with_reducible repeat (first | apply Kd.R_alloc | apply Kd.R_drewN | apply Kd.R_drew)); exact HO213.out) hb); have n2_ := Aside0.mk (blk_below (g := gb191) (o := .cells #[.int .u8 a1_0, .int .u8 a1_1, .int .i64 a1_2, .slice A1_3 l1_3.length c1_3] 24 (0, 0)) (by (with_reducible repeat (first | refine blk_drewN ?_ _ | refine blk_drew ?_ | refine blk_alloc ?_ _)); exact BK191.out) hb); have n3_ := Aside0.mk (blk_below (g := gb192) (o := .cells #[.int .u8 a2_0, .int .u8 a2_1, .int .i64 a2_2, .slice A2_3 l2_3.length c2_3] 24 (0, 0)) (by (with_reducible repeat (first | refine blk_drewN ?_ _ | refine blk_drew ?_ | refine blk_alloc ?_ _)); exact BK192.out) hb); have n4_ := Aside0.mk (blk_below (g := gb199) (o := .cells #[.int .u8 t193, .int .u8 t194, .int .i64 t195, .slice Ao31 t196.length co31] 24 (0, 0)) (by (with_reducible repeat (first | refine blk_drewN ?_ _ | refine blk_drew ?_ | refine blk_alloc ?_ _)); exact BK199.out) hb); have n5_ := Aside0.mk (below_step (by repeat (first | (with_reducible first | exact HB.out | apply below_alloc | apply pw_below_drewN | apply below_drew1 | refine below_set ?_ GE191.out | refine below_set ?_ GE192.out | refine below_set ?_ GE199.out) | exact HB.out)) hb); have n6_ := Aside0.mk (hbox); have n7_ := Aside0.mk ((by rw [hg]; exact (below_size (by repeat (first | (with_reducible first | exact HB.out | apply below_alloc | apply pw_below_drewN | apply below_drew1 | refine below_set ?_ GE191.out | refine below_set ?_ GE192.out | refine below_set ?_ GE199.out) | exact HB.out))) : w.heap.size ≤ gb214)); have n8_ := Aside0.mk ((by rw [hg]; exact (below_size (by repeat (first | (with_reducible first | exact HB.out | apply below_alloc | apply pw_below_drewN | apply below_drew1 | refine below_set ?_ GE191.out | refine below_set ?_ GE192.out | refine below_set ?_ GE199.out) | exact HB.out))) : w.heap.size ≤ gb214)); have n9_ := Aside0.mk ((by rw [hg]; exact Nat.ne_of_lt (blk_lt (g := gb191) (o := .cells #[.int .u8 a1_0, .int .u8 a1_1, .int .i64 a1_2, .slice A1_3 l1_3.length c1_3] 24 (0, 0)) (by (with_reducible repeat (first | refine blk_drewN ?_ _ | refine blk_drew ?_ | refine blk_alloc ?_ _)); exact BK191.out)) : gb191 ≠ gb214)); have n10_ := Aside0.mk ((by rw [hg]; exact Nat.ne_of_gt (blk_lt (g := gb191) (o := .cells #[.int .u8 a1_0, .int .u8 a1_1, .int .i64 a1_2, .slice A1_3 l1_3.length c1_3] 24 (0, 0)) (by (with_reducible repeat (first | refine blk_drewN ?_ _ | refine blk_drew ?_ | refine blk_alloc ?_ _)); exact BK191.out)) : gb214 ≠ gb191)); have n11_ := Aside0.mk ((by rw [hg]; exact Nat.ne_of_lt (blk_lt (g := gb192) (o := .cells #[.int .u8 a2_0, .int .u8 a2_1, .int .i64 a2_2, .slice A2_3 l2_3.length c2_3] 24 (0, 0)) (by (with_reducible repeat (first | refine blk_drewN ?_ _ | refine blk_drew ?_ | refine blk_alloc ?_ _)); exact BK192.out)) : gb192 ≠ gb214)); have n12_ := Aside0.mk ((by rw [hg]; exact Nat.ne_of_gt (blk_lt (g := gb192) (o := .cells #[.int .u8 a2_0, .int .u8 a2_1, .int .i64 a2_2, .slice A2_3 l2_3.length c2_3] 24 (0, 0)) (by (with_reducible repeat (first | refine blk_drewN ?_ _ | refine blk_drew ?_ | refine blk_alloc ?_ _)); exact BK192.out)) : gb214 ≠ gb192)); have n13_ := Aside0.mk ((by rw [hg]; exact Nat.ne_of_lt (blk_lt (g := gb199) (o := .cells #[.int .u8 t193, .int .u8 t194, .int .i64 t195, .slice Ao31 t196.length co31] 24 (0, 0)) (by (with_reducible repeat (first | refine blk_drewN ?_ _ | refine blk_drew ?_ | refine blk_alloc ?_ _)); exact BK199.out)) : gb199 ≠ gb214)); have n14_ := Aside0.mk ((by rw [hg]; exact Nat.ne_of_gt (blk_lt (g := gb199) (o := .cells #[.int .u8 t193, .int .u8 t194, .int .i64 t195, .slice Ao31 t196.length co31] 24 (0, 0)) (by (with_reducible repeat (first | refine blk_drewN ?_ _ | refine blk_drew ?_ | refine blk_alloc ?_ _)); exact BK199.out)) : gb214 ≠ gb199)); clear HO198; clear HO213; clear BK191; clear BK192; clear BK199; clear HB; have HO198 := n0_; have HO213 := n1_; have BK191 := n2_; have BK192 := n3_; have BK199 := n4_; have HB := n5_; have BK214 := n6_; have GW214 := n7_; have GE214 := n8_; have NB191_214 := n9_; have NB214_191 := n10_; have NB192_214 := n11_; have NB214_192 := n12_; have NB199_214 := n13_; have NB214_199 := n14_; clear n0_ n1_ n2_ n3_ n4_ n5_ n6_ n7_ n8_ n9_ n10_ n11_ n12_ n13_ n14_; clear hb hbox hg; have hnb42 := NB214_191.out; have hnc42 := NB191_214.out; have hnb43 := NB214_192.out; have hnc43 := NB192_214.out; have hnb44 := NB214_199.out; have hnc44 := NB199_214.out; have hcz45_0 : w41.cell? ⟨gb214, 0, none⟩ = some (.int .u8 0) := (blk_cell BK214.out 0).trans rfl; have hcz45_1 : w41.cell? ⟨gb214, 1, none⟩ = some (.int .u8 0) := (blk_cell BK214.out 1).trans rfl; have hcz45_2 : w41.cell? ⟨gb214, 2, none⟩ = some (.int .i64 0) := (blk_cell BK214.out 2).trans rfl; have hcz45_3 : w41.cell? ⟨gb214, 3, none⟩ = some (.slice none 0 0) := (blk_cell BK214.out 3).trans rfl; have hfz45_0 := blk_frozen BK214.out 0; have hfz45_1 := blk_frozen BK214.out 1; have hfz45_2 := blk_frozen BK214.out 2; have hfz45_3 := blk_frozen BK214.out 3; obtain ⟨Ao46, co46, eo46⟩ := Kd.R_slice HO213.out; subst eo46))
        (try simp only [Act.put, List.setIfInBounds_toArray, List.set_cons_zero, List.set_cons_succ])
        go_cut [23] (fun v23 wc => ∃ (kq : Nat) (x23_22 : Bool), v23 = .bool x23_22 ∧ Aside0 (reedpipelaw10_InfoTells.j1 kq x23_22 a1_0 a1_1 a1_2 l1_3 a2_0 a2_1 a2_2 l2_3 t193 t194 t195 t196 t208 t209 t210 t211 = some r) ∧ Aside0 (kq ≤ kj6) ∧ Aside0 (Kd.R (Kd.int .i64) 3 wc w.heap.size (fun k_ => some k_ ≠ ((.slice Ao46 t211.length co46) : Value).ownBlock) (.slice Ao31 t196.length co31) t196) ∧ Aside0 (Kd.R (Kd.int .i64) 3 wc w.heap.size (fun k_ => some k_ ≠ ((.slice Ao31 t196.length co31) : Value).ownBlock) (.slice Ao46 t211.length co46) t211) ∧ Aside0 (wc.heap[gb191]? = some (.cells #[.int .u8 a1_0, .int .u8 a1_1, .int .i64 a1_2, (.slice A1_3 l1_3.length c1_3)] 24 (0, 0))) ∧ Aside0 (wc.heap[gb192]? = some (.cells #[.int .u8 a2_0, .int .u8 a2_1, .int .i64 a2_2, (.slice A2_3 l2_3.length c2_3)] 24 (0, 0))) ∧ Aside0 (wc.heap[gb199]? = some (.cells #[.int .u8 t193, .int .u8 t194, .int .i64 t195, (.slice Ao31 t196.length co31)] 24 (0, 0))) ∧ Aside0 (wc.heap[gb214]? = some (.cells #[.int .u8 t208, .int .u8 t209, .int .i64 t210, (.slice Ao46 t211.length co46)] 24 (0, 0))) ∧ Aside0 (Below w.heap.size w wc))
        case first =>
          have H := HC23.out
          clear HC23
          replace H := Option.bind_eq_some_iff.mp H
          obtain ⟨t215, A470, H⟩ := H
          replace H : ((reedpiperef10_Check.f kj6 a0 a1_0 a1_1 a1_2 l1_3).bind fun t216 => (if t215 = t216 then (if t200 = t202 then (if t201 = t203 then (if t204 = t206 then (if t205 = t207 then ((info_After.f a4 a5).bind fun t217 => ((reedpiperef10_After.f kj6 a4 a5).bind fun t218 => (reedpipelaw10_InfoTells.j1 kj6 (t217 == t218) a1_0 a1_1 a1_2 l1_3 a2_0 a2_1 a2_2 l2_3 t193 t194 t195 t196 t208 t209 t210 t211))) else (reedpipelaw10_InfoTells.j1 kj6 false a1_0 a1_1 a1_2 l1_3 a2_0 a2_1 a2_2 l2_3 t193 t194 t195 t196 t208 t209 t210 t211)) else (reedpipelaw10_InfoTells.j1 kj6 false a1_0 a1_1 a1_2 l1_3 a2_0 a2_1 a2_2 l2_3 t193 t194 t195 t196 t208 t209 t210 t211)) else (reedpipelaw10_InfoTells.j1 kj6 false a1_0 a1_1 a1_2 l1_3 a2_0 a2_1 a2_2 l2_3 t193 t194 t195 t196 t208 t209 t210 t211)) else (reedpipelaw10_InfoTells.j1 kj6 false a1_0 a1_1 a1_2 l1_3 a2_0 a2_1 a2_2 l2_3 t193 t194 t195 t196 t208 t209 t210 t211)) else (reedpipelaw10_InfoTells.j1 kj6 false a1_0 a1_1 a1_2 l1_3 a2_0 a2_1 a2_2 l2_3 t193 t194 t195 t196 t208 t209 t210 t211))) = some r := H
          have A47 := Aside0.mk A470
          clear A470
          replace H := Option.bind_eq_some_iff.mp H
          obtain ⟨t216, A480, H⟩ := H
          replace H : (if t215 = t216 then (if t200 = t202 then (if t201 = t203 then (if t204 = t206 then (if t205 = t207 then ((info_After.f a4 a5).bind fun t217 => ((reedpiperef10_After.f kj6 a4 a5).bind fun t218 => (reedpipelaw10_InfoTells.j1 kj6 (t217 == t218) a1_0 a1_1 a1_2 l1_3 a2_0 a2_1 a2_2 l2_3 t193 t194 t195 t196 t208 t209 t210 t211))) else (reedpipelaw10_InfoTells.j1 kj6 false a1_0 a1_1 a1_2 l1_3 a2_0 a2_1 a2_2 l2_3 t193 t194 t195 t196 t208 t209 t210 t211)) else (reedpipelaw10_InfoTells.j1 kj6 false a1_0 a1_1 a1_2 l1_3 a2_0 a2_1 a2_2 l2_3 t193 t194 t195 t196 t208 t209 t210 t211)) else (reedpipelaw10_InfoTells.j1 kj6 false a1_0 a1_1 a1_2 l1_3 a2_0 a2_1 a2_2 l2_3 t193 t194 t195 t196 t208 t209 t210 t211)) else (reedpipelaw10_InfoTells.j1 kj6 false a1_0 a1_1 a1_2 l1_3 a2_0 a2_1 a2_2 l2_3 t193 t194 t195 t196 t208 t209 t210 t211)) else (reedpipelaw10_InfoTells.j1 kj6 false a1_0 a1_1 a1_2 l1_3 a2_0 a2_1 a2_2 l2_3 t193 t194 t195 t196 t208 t209 t210 t211)) = some r := H
          have A48 := Aside0.mk A480
          clear A480
          by_cases c49 : t215 = t216
          · rw [if_pos c49] at H
            have c49b0 : (t215 == t216) = true := beq_iff_eq.mpr c49
            have c49b1 : (t215 != t216) = false := bne_eq_false_iff_eq.mpr c49
            clear c49
            (first | rw [c49b0] | (simp only [i64_w, i32_w]; rw [c49b0]) | skip)
            by_cases c50 : t200 = t202
            · rw [if_pos c50] at H
              have c50b0 : (t200 == t202) = true := beq_iff_eq.mpr c50
              have c50b1 : (t200 != t202) = false := bne_eq_false_iff_eq.mpr c50
              clear c50
              by_cases c51 : t201 = t203
              · rw [if_pos c51] at H
                have c51b0 : (t201 == t203) = true := beq_iff_eq.mpr c51
                have c51b1 : (t201 != t203) = false := bne_eq_false_iff_eq.mpr c51
                clear c51
                by_cases c52 : t204 = t206
                · rw [if_pos c52] at H
                  have c52b0 : (t204 == t206) = true := beq_iff_eq.mpr c52
                  have c52b1 : (t204 != t206) = false := bne_eq_false_iff_eq.mpr c52
                  clear c52
                  by_cases c53 : t205 = t207
                  · rw [if_pos c53] at H
                    have c53b0 : (t205 == t207) = true := beq_iff_eq.mpr c53
                    have c53b1 : (t205 != t207) = false := bne_eq_false_iff_eq.mpr c53
                    clear c53
                    replace H := Option.bind_eq_some_iff.mp H
                    obtain ⟨t217, A540, H⟩ := H
                    replace H : ((reedpiperef10_After.f kj6 a4 a5).bind fun t218 => (reedpipelaw10_InfoTells.j1 kj6 (t217 == t218) a1_0 a1_1 a1_2 l1_3 a2_0 a2_1 a2_2 l2_3 t193 t194 t195 t196 t208 t209 t210 t211)) = some r := H
                    have A54 := Aside0.mk A540
                    clear A540
                    replace H := Option.bind_eq_some_iff.mp H
                    obtain ⟨t218, A550, H⟩ := H
                    replace H : (reedpipelaw10_InfoTells.j1 kj6 (t217 == t218) a1_0 a1_1 a1_2 l1_3 a2_0 a2_1 a2_2 l2_3 t193 t194 t195 t196 t208 t209 t210 t211) = some r := H
                    have A55 := Aside0.mk A550
                    clear A550
                    have H' := Aside0.mk H
                    clear H
                    try go_wp2
                    have n0_ : Aside0 (Kd.R (Kd.int .i64) 3 ((((w41.setCell ⟨gb214, 0, none⟩ (.int .u8 t208)).setCell ⟨gb214, 1, none⟩ (.int .u8 t209)).setCell ⟨gb214, 2, none⟩ (.int .i64 t210)).setCell ⟨gb214, 3, none⟩ (.slice Ao46 t211.length co46)) w.heap.size (fun k_ => some k_ ≠ (.slice Ao46 t211.length co46 : Value).ownBlock) (.slice Ao31 t196.length co31) t196) := ⟨by (with_reducible repeat (first | apply Kd.R_alloc | apply Kd.R_drewN | apply Kd.R_drew)); exact Kd.R_mono (Kd.R_far (p := ⟨gb214, 3, none⟩) (Kd.R_far (p := ⟨gb214, 2, none⟩) (Kd.R_far (p := ⟨gb214, 1, none⟩) (Kd.R_far (p := ⟨gb214, 0, none⟩) (Kd.R_types HO198.out BK214.out (by decide)) (fun _ hk => hk.2) (.int .u8 t208)) (fun _ hk => hk.2) (.int .u8 t209)) (fun _ hk => hk.2) (.int .i64 t210)) (fun _ hk => hk.2) (.slice Ao46 t211.length co46)) (fun _ hk => hk.1.2)⟩
                    have n1_ : Aside0 (Kd.R (Kd.int .i64) 3 ((((w41.setCell ⟨gb214, 0, none⟩ (.int .u8 t208)).setCell ⟨gb214, 1, none⟩ (.int .u8 t209)).setCell ⟨gb214, 2, none⟩ (.int .i64 t210)).setCell ⟨gb214, 3, none⟩ (.slice Ao46 t211.length co46)) w.heap.size (fun k_ => some k_ ≠ (.slice Ao31 t196.length co31 : Value).ownBlock) (.slice Ao46 t211.length co46) t211) := ⟨by (with_reducible repeat (first | apply Kd.R_alloc | apply Kd.R_drewN | apply Kd.R_drew)); exact Kd.R_mono (Kd.R_far (p := ⟨gb214, 3, none⟩) (Kd.R_far (p := ⟨gb214, 2, none⟩) (Kd.R_far (p := ⟨gb214, 1, none⟩) (Kd.R_far (p := ⟨gb214, 0, none⟩) (Kd.R_types HO213.out BK214.out (by decide)) (fun _ hk => hk.2) (.int .u8 t208)) (fun _ hk => hk.2) (.int .u8 t209)) (fun _ hk => hk.2) (.int .i64 t210)) (fun _ hk => hk.2) (.slice Ao46 t211.length co46)) (fun _ hk => hk.1.2)⟩
                    have n2_ : Aside0 (((((w41.setCell ⟨gb214, 0, none⟩ (.int .u8 t208)).setCell ⟨gb214, 1, none⟩ (.int .u8 t209)).setCell ⟨gb214, 2, none⟩ (.int .i64 t210)).setCell ⟨gb214, 3, none⟩ (.slice Ao46 t211.length co46)).heap[gb191]? = some (.cells #[.int .u8 a1_0, .int .u8 a1_1, .int .i64 a1_2, .slice A1_3 l1_3.length c1_3] 24 (0, 0))) := ⟨by (with_reducible repeat (first | refine blk_drewN ?_ _ | refine blk_drew ?_ | refine blk_alloc ?_ _)); refine blk_far ?_ NB191_214.out _; (with_reducible repeat (first | refine blk_drewN ?_ _ | refine blk_drew ?_ | refine blk_alloc ?_ _)); refine blk_far ?_ NB191_214.out _; (with_reducible repeat (first | refine blk_drewN ?_ _ | refine blk_drew ?_ | refine blk_alloc ?_ _)); refine blk_far ?_ NB191_214.out _; (with_reducible repeat (first | refine blk_drewN ?_ _ | refine blk_drew ?_ | refine blk_alloc ?_ _)); refine blk_far ?_ NB191_214.out _; (with_reducible repeat (first | refine blk_drewN ?_ _ | refine blk_drew ?_ | refine blk_alloc ?_ _)); exact BK191.out⟩
                    have n3_ : Aside0 (((((w41.setCell ⟨gb214, 0, none⟩ (.int .u8 t208)).setCell ⟨gb214, 1, none⟩ (.int .u8 t209)).setCell ⟨gb214, 2, none⟩ (.int .i64 t210)).setCell ⟨gb214, 3, none⟩ (.slice Ao46 t211.length co46)).heap[gb192]? = some (.cells #[.int .u8 a2_0, .int .u8 a2_1, .int .i64 a2_2, .slice A2_3 l2_3.length c2_3] 24 (0, 0))) := ⟨by (with_reducible repeat (first | refine blk_drewN ?_ _ | refine blk_drew ?_ | refine blk_alloc ?_ _)); refine blk_far ?_ NB192_214.out _; (with_reducible repeat (first | refine blk_drewN ?_ _ | refine blk_drew ?_ | refine blk_alloc ?_ _)); refine blk_far ?_ NB192_214.out _; (with_reducible repeat (first | refine blk_drewN ?_ _ | refine blk_drew ?_ | refine blk_alloc ?_ _)); refine blk_far ?_ NB192_214.out _; (with_reducible repeat (first | refine blk_drewN ?_ _ | refine blk_drew ?_ | refine blk_alloc ?_ _)); refine blk_far ?_ NB192_214.out _; (with_reducible repeat (first | refine blk_drewN ?_ _ | refine blk_drew ?_ | refine blk_alloc ?_ _)); exact BK192.out⟩
                    have n4_ : Aside0 (((((w41.setCell ⟨gb214, 0, none⟩ (.int .u8 t208)).setCell ⟨gb214, 1, none⟩ (.int .u8 t209)).setCell ⟨gb214, 2, none⟩ (.int .i64 t210)).setCell ⟨gb214, 3, none⟩ (.slice Ao46 t211.length co46)).heap[gb199]? = some (.cells #[.int .u8 t193, .int .u8 t194, .int .i64 t195, .slice Ao31 t196.length co31] 24 (0, 0))) := ⟨by (with_reducible repeat (first | refine blk_drewN ?_ _ | refine blk_drew ?_ | refine blk_alloc ?_ _)); refine blk_far ?_ NB199_214.out _; (with_reducible repeat (first | refine blk_drewN ?_ _ | refine blk_drew ?_ | refine blk_alloc ?_ _)); refine blk_far ?_ NB199_214.out _; (with_reducible repeat (first | refine blk_drewN ?_ _ | refine blk_drew ?_ | refine blk_alloc ?_ _)); refine blk_far ?_ NB199_214.out _; (with_reducible repeat (first | refine blk_drewN ?_ _ | refine blk_drew ?_ | refine blk_alloc ?_ _)); refine blk_far ?_ NB199_214.out _; (with_reducible repeat (first | refine blk_drewN ?_ _ | refine blk_drew ?_ | refine blk_alloc ?_ _)); exact BK199.out⟩
                    have n5_ : Aside0 (((((w41.setCell ⟨gb214, 0, none⟩ (.int .u8 t208)).setCell ⟨gb214, 1, none⟩ (.int .u8 t209)).setCell ⟨gb214, 2, none⟩ (.int .i64 t210)).setCell ⟨gb214, 3, none⟩ (.slice Ao46 t211.length co46)).heap[gb214]? = some (.cells #[.int .u8 t208, .int .u8 t209, .int .i64 t210, .slice Ao46 t211.length co46] 24 (0, 0))) := ⟨by (with_reducible repeat (first | refine blk_drewN ?_ _ | refine blk_drew ?_ | refine blk_alloc ?_ _)); refine blk_put (cs := #[.int .u8 t208, .int .u8 t209, .int .i64 t210, .slice none 0 0]) ?_ 3 _ rfl; (with_reducible repeat (first | refine blk_drewN ?_ _ | refine blk_drew ?_ | refine blk_alloc ?_ _)); refine blk_put (cs := #[.int .u8 t208, .int .u8 t209, .int .i64 0, .slice none 0 0]) ?_ 2 _ rfl; (with_reducible repeat (first | refine blk_drewN ?_ _ | refine blk_drew ?_ | refine blk_alloc ?_ _)); refine blk_put (cs := #[.int .u8 t208, .int .u8 0, .int .i64 0, .slice none 0 0]) ?_ 1 _ rfl; (with_reducible repeat (first | refine blk_drewN ?_ _ | refine blk_drew ?_ | refine blk_alloc ?_ _)); refine blk_put (cs := #[.int .u8 0, .int .u8 0, .int .i64 0, .slice none 0 0]) ?_ 0 _ rfl; (with_reducible repeat (first | refine blk_drewN ?_ _ | refine blk_drew ?_ | refine blk_alloc ?_ _)); exact BK214.out⟩
                    have n6_ : Aside0 (Below w.heap.size w ((((w41.setCell ⟨gb214, 0, none⟩ (.int .u8 t208)).setCell ⟨gb214, 1, none⟩ (.int .u8 t209)).setCell ⟨gb214, 2, none⟩ (.int .i64 t210)).setCell ⟨gb214, 3, none⟩ (.slice Ao46 t211.length co46))) := ⟨by repeat (first | (with_reducible first | exact HB.out | apply below_alloc | apply pw_below_drewN | apply below_drew1 | refine below_set ?_ GE191.out | refine below_set ?_ GE192.out | refine below_set ?_ GE199.out | refine below_set ?_ GE214.out) | exact HB.out)⟩
                    (try clear HO198)
                    (try clear HO213)
                    (try clear BK191)
                    (try clear BK192)
                    (try clear BK199)
                    (try clear BK214)
                    (try clear HB)
                    generalize ((((w41.setCell ⟨gb214, 0, none⟩ (.int .u8 t208)).setCell ⟨gb214, 1, none⟩ (.int .u8 t209)).setCell ⟨gb214, 2, none⟩ (.int .i64 t210)).setCell ⟨gb214, 3, none⟩ (.slice Ao46 t211.length co46)) = w56 at n0_ n1_ n2_ n3_ n4_ n5_ n6_ ⊢
                    have HO198 := n0_
                    have HO213 := n1_
                    have BK191 := n2_
                    have BK192 := n3_
                    have BK199 := n4_
                    have BK214 := n5_
                    have HB := n6_
                    clear n0_ n1_ n2_ n3_ n4_ n5_ n6_
                    have n0_ := Aside0.mk (Kd.R_drew HO198.out)
                    have n1_ := Aside0.mk (Kd.R_drew HO213.out)
                    have n2_ := Aside0.mk (blk_drew BK191.out)
                    have n3_ := Aside0.mk (blk_drew BK192.out)
                    have n4_ := Aside0.mk (blk_drew BK199.out)
                    have n5_ := Aside0.mk (blk_drew BK214.out)
                    have n6_ := Aside0.mk (below_drew1 HB.out)
                    clear HO198
                    clear HO213
                    clear BK191
                    clear BK192
                    clear BK199
                    clear BK214
                    clear HB
                    have HO198 := n0_
                    have HO213 := n1_
                    have BK191 := n2_
                    have BK192 := n3_
                    have BK199 := n4_
                    have BK214 := n5_
                    have HB := n6_
                    clear n0_ n1_ n2_ n3_ n4_ n5_ n6_
                    refine start_ (n := 37) (S := fun w' => w'.cell? ⟨gb199, 0, none⟩ = some (.int .u8 t193) ∧ w'.cell? ⟨gb199, 1, none⟩ = some (.int .u8 t194) ∧ w'.cell? ⟨gb199, 2, none⟩ = some (.int .i64 t195) ∧ w'.cell? ⟨gb199, 3, none⟩ = some (.slice Ao31 t196.length co31) ∧ w'.cell? ⟨gb191, 0, none⟩ = some (.int .u8 a1_0) ∧ w'.cell? ⟨gb191, 1, none⟩ = some (.int .u8 a1_1) ∧ w'.cell? ⟨gb191, 2, none⟩ = some (.int .i64 a1_2) ∧ w'.cell? ⟨gb191, 3, none⟩ = some (.slice A1_3 l1_3.length c1_3)) (ds := []) #[false, false, false, false, false, false, false, false, false, false, false, false, false, false, false, false, false, false, false, false, false, false, false, false, false, false, false, false, false, false, false, false, false, false, false, false, false] (by kernel_rfl) rfl rfl ⟨(blk_cell BK199.out 0).trans rfl, (blk_cell BK199.out 1).trans rfl, (blk_cell BK199.out 2).trans rfl, (blk_cell BK199.out 3).trans rfl, (blk_cell BK191.out 0).trans rfl, (blk_cell BK191.out 1).trans rfl, (blk_cell BK191.out 2).trans rfl, (blk_cell BK191.out 3).trans rfl⟩ (fun hHeld => ?_); refine with_tabW reedpipelaw10_InfoTells.tab9 reedpipelaw10_InfoTells.bits9 (fun HT_ HW_ => ?_)
                    generalize w56.drew = w57 at HO198 HO213 BK191 BK192 BK199 BK214 HB hHeld ⊢
                    refine pure_ (i := 0) (N := some 62) (v := ?_) (a' := ?_) #[true, false, false, false, false, false, false, false, false, false, false, false, false, false, false, false, false, false, false, false, false, false, false, false, false, false, false, false, false, false, false, false, false, false, false, false, false] rfl rfl (any_of HT_.out (by kernel_rfl)) (fun _ _ _ h => h) (Or.inl ⟨by rfl, ?_⟩) ?_ ?_
                    rotate_left
                    · intro w'
                      go_simp
                      with_reducible rfl
                    rotate_left
                    · simp only [Act.put, List.setIfInBounds_toArray, List.set_cons_zero, List.set_cons_succ, i64_w, i32_w]
                      rfl
                    refine pure_ (i := 3) (N := some 65) (v := ?_) (a' := ?_) #[true, false, false, true, false, false, false, false, false, false, false, false, false, false, false, false, false, false, false, false, false, false, false, false, false, false, false, false, false, false, false, false, false, false, false, false, false] rfl rfl (any_of HT_.out (by kernel_rfl)) (fun _ _ _ h => h) (Or.inl ⟨by rfl, ?_⟩) ?_ ?_
                    rotate_left
                    · intro w'
                      go_simp
                      with_reducible rfl
                    rotate_left
                    · simp only [Act.put, List.setIfInBounds_toArray, List.set_cons_zero, List.set_cons_succ, i64_w, i32_w]
                      rfl
                    refine take_ (i := 1) (N := some 63) (v := ?_) (a' := ?_) #[true, true, false, true, false, false, false, false, false, false, false, false, false, false, false, false, false, false, false, false, false, false, false, false, false, false, false, false, false, false, false, false, false, false, false, false, false] rfl rfl (take_ofW HT_.out HW_.out (by kernel_rfl)) (fun _ _ _ h => h) (Or.inl ⟨by rfl, ?_⟩) hHeld ?_ ?_
                    rotate_left
                    · rintro w' ⟨s0, s1, s2, s3, s4, s5, s6, s7⟩
                      go_simp
                      with_reducible rfl
                    rotate_left
                    · simp only [Act.put, List.setIfInBounds_toArray, List.set_cons_zero, List.set_cons_succ, i64_w, i32_w]
                      rfl
                    refine take_ (i := 4) (N := some 66) (v := ?_) (a' := ?_) #[true, true, false, true, true, false, false, false, false, false, false, false, false, false, false, false, false, false, false, false, false, false, false, false, false, false, false, false, false, false, false, false, false, false, false, false, false] rfl rfl (take_ofW HT_.out HW_.out (by kernel_rfl)) (fun _ _ _ h => h) (Or.inl ⟨by rfl, ?_⟩) hHeld ?_ ?_
                    rotate_left
                    · rintro w' ⟨s0, s1, s2, s3, s4, s5, s6, s7⟩
                      go_simp
                      with_reducible rfl
                    rotate_left
                    · simp only [Act.put, List.setIfInBounds_toArray, List.set_cons_zero, List.set_cons_succ, i64_w, i32_w]
                      rfl
                    refine one_ (i := 2) (N := some 64) #[true, true, true, true, true, false, false, false, false, false, false, false, false, false, false, false, false, false, false, false, false, false, false, false, false, false, false, false, false, false, false, false, false, false, false, false, false] rfl rfl (one_of HT_.out (by kernel_rfl)) (by decide) (fun K hK => ?_)
                    refine goes_ Try.func15 (by kernel_rfl) rfl #[.int .i64 a0, .agg #[.int .u8 t193, .int .u8 t194, .int .i64 t195, .slice Ao31 t196.length co31]] (by rfl) rfl rfl (by (try simp only [List.map_toArray, List.map_cons, List.map_nil]); first | done | rfl | (simp only [List.length_drop, List.length_take]; rfl)) ?_
                    with_reducible refine (info_Check.calls kj6 a0 t193 t194 t195 _ _ t196 t215 _ ?side1 ?side2 A47.out).mono ?_
                    (case side1 => repeat (first | exact (Kd.R_reads' HO198.out).2.2 | (with_reducible refine Kd.C_alloc ?_ _) | (with_reducible refine Kd.C_drewN ?_ _) | (with_reducible refine Kd.C_drew ?_)))
                    (case side2 => exact (Kd.R_reads' HO198.out).2.1)
                    rintro e w58 ⟨rfl, hb⟩
                    refine ⟨_, rfl, ?_⟩
                    have n0_ := Aside0.mk (Kd.R_below (by (with_reducible repeat (first | apply Kd.R_alloc | apply Kd.R_drewN | apply Kd.R_drew)); exact HO198.out) hb)
                    have n1_ := Aside0.mk (Kd.R_below (by (with_reducible repeat (first | apply Kd.R_alloc | apply Kd.R_drewN | apply Kd.R_drew)); exact HO213.out) hb)
                    have n2_ := Aside0.mk (blk_below (g := gb191) (o := .cells #[.int .u8 a1_0, .int .u8 a1_1, .int .i64 a1_2, .slice A1_3 l1_3.length c1_3] 24 (0, 0)) (by (with_reducible repeat (first | refine blk_drewN ?_ _ | refine blk_drew ?_ | refine blk_alloc ?_ _)); exact BK191.out) hb)
                    have n3_ := Aside0.mk (blk_below (g := gb192) (o := .cells #[.int .u8 a2_0, .int .u8 a2_1, .int .i64 a2_2, .slice A2_3 l2_3.length c2_3] 24 (0, 0)) (by (with_reducible repeat (first | refine blk_drewN ?_ _ | refine blk_drew ?_ | refine blk_alloc ?_ _)); exact BK192.out) hb)
                    have n4_ := Aside0.mk (blk_below (g := gb199) (o := .cells #[.int .u8 t193, .int .u8 t194, .int .i64 t195, .slice Ao31 t196.length co31] 24 (0, 0)) (by (with_reducible repeat (first | refine blk_drewN ?_ _ | refine blk_drew ?_ | refine blk_alloc ?_ _)); exact BK199.out) hb)
                    have n5_ := Aside0.mk (blk_below (g := gb214) (o := .cells #[.int .u8 t208, .int .u8 t209, .int .i64 t210, .slice Ao46 t211.length co46] 24 (0, 0)) (by (with_reducible repeat (first | refine blk_drewN ?_ _ | refine blk_drew ?_ | refine blk_alloc ?_ _)); exact BK214.out) hb)
                    have n6_ := Aside0.mk (below_step (by repeat (first | (with_reducible first | exact HB.out | apply below_alloc | apply pw_below_drewN | apply below_drew1 | refine below_set ?_ GE191.out | refine below_set ?_ GE192.out | refine below_set ?_ GE199.out | refine below_set ?_ GE214.out) | exact HB.out)) hb)
                    clear HO198
                    clear HO213
                    clear BK191
                    clear BK192
                    clear BK199
                    clear BK214
                    clear HB
                    have HO198 := n0_
                    have HO213 := n1_
                    have BK191 := n2_
                    have BK192 := n3_
                    have BK199 := n4_
                    have BK214 := n5_
                    have HB := n6_
                    clear n0_ n1_ n2_ n3_ n4_ n5_ n6_
                    (try clear hb)
                    (try clear hb2)
                    (try clear hk)
                    (try clear hi)
                    refine hK.out _ _ ⟨(blk_cell BK199.out 0).trans rfl, (blk_cell BK199.out 1).trans rfl, (blk_cell BK199.out 2).trans rfl, (blk_cell BK199.out 3).trans rfl, (blk_cell BK191.out 0).trans rfl, (blk_cell BK191.out 1).trans rfl, (blk_cell BK191.out 2).trans rfl, (blk_cell BK191.out 3).trans rfl⟩ (fun hHeld => ?_)
                    clear hK K
                    refine norm_ (a' := ?_) ?_ ?_
                    rotate_left
                    · show Act.put _ (some 64) _ = _
                      simp only [Act.put, List.setIfInBounds_toArray, List.set_cons_zero, List.set_cons_succ, i64_w, i32_w]
                      rfl
                    refine one_ (i := 5) (N := some 67) #[true, true, true, true, true, true, false, false, false, false, false, false, false, false, false, false, false, false, false, false, false, false, false, false, false, false, false, false, false, false, false, false, false, false, false, false, false] rfl rfl (one_of HT_.out (by kernel_rfl)) (by decide) (fun K hK => ?_)
                    refine goes_ Try.func16 (by kernel_rfl) rfl #[.int .i64 a0, .agg #[.int .u8 a1_0, .int .u8 a1_1, .int .i64 a1_2, .slice A1_3 l1_3.length c1_3]] (by rfl) rfl rfl (by (try simp only [List.map_toArray, List.map_cons, List.map_nil]); first | done | rfl | (simp only [List.length_drop, List.length_take]; rfl)) ?_
                    with_reducible refine (reedpiperef10_Check.calls kj6 a0 a1_0 a1_1 a1_2 _ _ l1_3 t216 _ ?side1 ?side2 A48.out).mono ?_
                    (case side1 => repeat (first | exact (Kd.C_below HR1_3.out HB.out) | (with_reducible refine Kd.C_alloc ?_ _) | (with_reducible refine Kd.C_drewN ?_ _) | (with_reducible refine Kd.C_drew ?_)))
                    (case side2 => exact HC1_3.out)
                    rintro e w59 ⟨rfl, hb⟩
                    refine ⟨_, rfl, ?_⟩
                    have n0_ := Aside0.mk (Kd.R_below (by (with_reducible repeat (first | apply Kd.R_alloc | apply Kd.R_drewN | apply Kd.R_drew)); exact HO198.out) hb)
                    have n1_ := Aside0.mk (Kd.R_below (by (with_reducible repeat (first | apply Kd.R_alloc | apply Kd.R_drewN | apply Kd.R_drew)); exact HO213.out) hb)
                    have n2_ := Aside0.mk (blk_below (g := gb191) (o := .cells #[.int .u8 a1_0, .int .u8 a1_1, .int .i64 a1_2, .slice A1_3 l1_3.length c1_3] 24 (0, 0)) (by (with_reducible repeat (first | refine blk_drewN ?_ _ | refine blk_drew ?_ | refine blk_alloc ?_ _)); exact BK191.out) hb)
                    have n3_ := Aside0.mk (blk_below (g := gb192) (o := .cells #[.int .u8 a2_0, .int .u8 a2_1, .int .i64 a2_2, .slice A2_3 l2_3.length c2_3] 24 (0, 0)) (by (with_reducible repeat (first | refine blk_drewN ?_ _ | refine blk_drew ?_ | refine blk_alloc ?_ _)); exact BK192.out) hb)
                    have n4_ := Aside0.mk (blk_below (g := gb199) (o := .cells #[.int .u8 t193, .int .u8 t194, .int .i64 t195, .slice Ao31 t196.length co31] 24 (0, 0)) (by (with_reducible repeat (first | refine blk_drewN ?_ _ | refine blk_drew ?_ | refine blk_alloc ?_ _)); exact BK199.out) hb)
                    have n5_ := Aside0.mk (blk_below (g := gb214) (o := .cells #[.int .u8 t208, .int .u8 t209, .int .i64 t210, .slice Ao46 t211.length co46] 24 (0, 0)) (by (with_reducible repeat (first | refine blk_drewN ?_ _ | refine blk_drew ?_ | refine blk_alloc ?_ _)); exact BK214.out) hb)
                    have n6_ := Aside0.mk (below_step (by repeat (first | (with_reducible first | exact HB.out | apply below_alloc | apply pw_below_drewN | apply below_drew1 | refine below_set ?_ GE191.out | refine below_set ?_ GE192.out | refine below_set ?_ GE199.out | refine below_set ?_ GE214.out) | exact HB.out)) hb)
                    clear HO198
                    clear HO213
                    clear BK191
                    clear BK192
                    clear BK199
                    clear BK214
                    clear HB
                    have HO198 := n0_
                    have HO213 := n1_
                    have BK191 := n2_
                    have BK192 := n3_
                    have BK199 := n4_
                    have BK214 := n5_
                    have HB := n6_
                    clear n0_ n1_ n2_ n3_ n4_ n5_ n6_
                    (try clear hb)
                    (try clear hb2)
                    (try clear hk)
                    (try clear hi)
                    refine hK.out _ _ ⟨(blk_cell BK199.out 0).trans rfl, (blk_cell BK199.out 1).trans rfl, (blk_cell BK199.out 2).trans rfl, (blk_cell BK199.out 3).trans rfl, (blk_cell BK191.out 0).trans rfl, (blk_cell BK191.out 1).trans rfl, (blk_cell BK191.out 2).trans rfl, (blk_cell BK191.out 3).trans rfl⟩ (fun hHeld => ?_)
                    clear hK K
                    refine norm_ (a' := ?_) ?_ ?_
                    rotate_left
                    · show Act.put _ (some 67) _ = _
                      simp only [Act.put, List.setIfInBounds_toArray, List.set_cons_zero, List.set_cons_succ, i64_w, i32_w]
                      rfl
                    refine pure_ (i := 6) (N := some 68) (v := ?_) (a' := ?_) #[true, true, true, true, true, true, true, false, false, false, false, false, false, false, false, false, false, false, false, false, false, false, false, false, false, false, false, false, false, false, false, false, false, false, false, false, false] rfl rfl (any_of HT_.out (by kernel_rfl)) (fun _ _ _ h => h) (Or.inl ⟨by rfl, ?_⟩) ?_ ?_
                    rotate_left
                    · intro w'
                      go_simp
                      with_reducible rfl
                    rotate_left
                    · simp only [Act.put, List.setIfInBounds_toArray, List.set_cons_zero, List.set_cons_succ, i64_w, i32_w]
                      rfl
                    refine pure_ (i := 7) (N := some 69) (v := ?_) (a' := ?_) #[true, true, true, true, true, true, true, true, false, false, false, false, false, false, false, false, false, false, false, false, false, false, false, false, false, false, false, false, false, false, false, false, false, false, false, false, false] rfl rfl (any_of HT_.out (by kernel_rfl)) (fun _ _ _ h => h) (Or.inl ⟨by rfl, ?_⟩) ?_ ?_
                    rotate_left
                    · intro w'
                      go_simp
                      with_reducible rfl
                    rotate_left
                    · simp only [Act.put, List.setIfInBounds_toArray, List.set_cons_zero, List.set_cons_succ, i64_w, i32_w]
                      rfl
                    refine pure_ (i := 8) (N := some 70) (v := ?_) (a' := ?_) #[true, true, true, true, true, true, true, true, true, false, false, false, false, false, false, false, false, false, false, false, false, false, false, false, false, false, false, false, false, false, false, false, false, false, false, false, false] rfl rfl (any_of HT_.out (by kernel_rfl)) (fun _ _ _ h => h) (Or.inl ⟨by rfl, ?_⟩) ?_ ?_
                    rotate_left
                    · intro w'
                      go_simp
                      with_reducible rfl
                    rotate_left
                    · simp only [Act.put, List.setIfInBounds_toArray, List.set_cons_zero, List.set_cons_succ, i64_w, i32_w]
                      rfl
                    refine pure_ (i := 9) (N := some 71) (v := ?_) (a' := ?_) #[true, true, true, true, true, true, true, true, true, true, false, false, false, false, false, false, false, false, false, false, false, false, false, false, false, false, false, false, false, false, false, false, false, false, false, false, false] rfl rfl (any_of HT_.out (by kernel_rfl)) (fun _ _ _ h => h) (Or.inl ⟨by rfl, ?_⟩) ?_ ?_
                    rotate_left
                    · intro w'
                      go_simp
                      with_reducible rfl
                    rotate_left
                    · simp only [Act.put, List.setIfInBounds_toArray, List.set_cons_zero, List.set_cons_succ, i64_w, i32_w]
                      rfl
                    refine pure_ (i := 10) (N := some 72) (v := ?_) (a' := ?_) #[true, true, true, true, true, true, true, true, true, true, true, false, false, false, false, false, false, false, false, false, false, false, false, false, false, false, false, false, false, false, false, false, false, false, false, false, false] rfl rfl (any_of HT_.out (by kernel_rfl)) (fun _ _ _ h => h) (Or.inl ⟨by rfl, ?_⟩) ?_ ?_
                    rotate_left
                    · intro w'
                      go_simp
                      with_reducible rfl
                    rotate_left
                    · simp only [Act.put, List.setIfInBounds_toArray, List.set_cons_zero, List.set_cons_succ, i64_w, i32_w]
                      rfl
                    refine pure_ (i := 11) (N := some 73) (v := ?_) (a' := ?_) #[true, true, true, true, true, true, true, true, true, true, true, true, false, false, false, false, false, false, false, false, false, false, false, false, false, false, false, false, false, false, false, false, false, false, false, false, false] rfl rfl (any_of HT_.out (by kernel_rfl)) (fun _ _ _ h => h) (Or.inl ⟨by rfl, ?_⟩) ?_ ?_
                    rotate_left
                    · intro w'
                      go_simp
                      with_reducible rfl
                    rotate_left
                    · simp only [Act.put, List.setIfInBounds_toArray, List.set_cons_zero, List.set_cons_succ, i64_w, i32_w]
                      rfl
                    refine pure_ (i := 12) (N := some 74) (v := ?_) (a' := ?_) #[true, true, true, true, true, true, true, true, true, true, true, true, true, false, false, false, false, false, false, false, false, false, false, false, false, false, false, false, false, false, false, false, false, false, false, false, false] rfl rfl (any_of HT_.out (by kernel_rfl)) (fun _ _ _ h => h) (Or.inl ⟨by rfl, ?_⟩) ?_ ?_
                    rotate_left
                    · intro w'
                      go_simp
                      with_reducible rfl
                    rotate_left
                    · simp only [Act.put, List.setIfInBounds_toArray, List.set_cons_zero, List.set_cons_succ, i64_w, i32_w]
                      rfl
                    refine pure_ (i := 13) (N := some 75) (v := ?_) (a' := ?_) #[true, true, true, true, true, true, true, true, true, true, true, true, true, true, false, false, false, false, false, false, false, false, false, false, false, false, false, false, false, false, false, false, false, false, false, false, false] rfl rfl (any_of HT_.out (by kernel_rfl)) (fun _ _ _ h => h) (Or.inl ⟨by rfl, ?_⟩) ?_ ?_
                    rotate_left
                    · intro w'
                      go_simp
                      with_reducible rfl
                    rotate_left
                    · simp only [Act.put, List.setIfInBounds_toArray, List.set_cons_zero, List.set_cons_succ, i64_w, i32_w]
                      rfl
                    refine pure_ (i := 14) (N := some 76) (v := ?_) (a' := ?_) #[true, true, true, true, true, true, true, true, true, true, true, true, true, true, true, false, false, false, false, false, false, false, false, false, false, false, false, false, false, false, false, false, false, false, false, false, false] rfl rfl (any_of HT_.out (by kernel_rfl)) (fun _ _ _ h => h) (Or.inl ⟨by rfl, ?_⟩) ?_ ?_
                    rotate_left
                    · intro w'
                      go_simp
                      with_reducible rfl
                    rotate_left
                    · simp only [Act.put, List.setIfInBounds_toArray, List.set_cons_zero, List.set_cons_succ, i64_w, i32_w]
                      rfl
                    refine pure_ (i := 15) (N := some 77) (v := ?_) (a' := ?_) #[true, true, true, true, true, true, true, true, true, true, true, true, true, true, true, true, false, false, false, false, false, false, false, false, false, false, false, false, false, false, false, false, false, false, false, false, false] rfl rfl (any_of HT_.out (by kernel_rfl)) (fun _ _ _ h => h) (Or.inl ⟨by rfl, ?_⟩) ?_ ?_
                    rotate_left
                    · intro w'
                      go_simp
                      with_reducible rfl
                    rotate_left
                    · simp only [Act.put, List.setIfInBounds_toArray, List.set_cons_zero, List.set_cons_succ, i64_w, i32_w]
                      rfl
                    refine pure_ (i := 16) (N := some 78) (v := ?_) (a' := ?_) #[true, true, true, true, true, true, true, true, true, true, true, true, true, true, true, true, true, false, false, false, false, false, false, false, false, false, false, false, false, false, false, false, false, false, false, false, false] rfl rfl (any_of HT_.out (by kernel_rfl)) (fun _ _ _ h => h) (Or.inl ⟨by rfl, ?_⟩) ?_ ?_
                    rotate_left
                    · intro w'
                      go_simp
                      with_reducible rfl
                    rotate_left
                    · simp only [Act.put, List.setIfInBounds_toArray, List.set_cons_zero, List.set_cons_succ, i64_w, i32_w]
                      rfl
                    refine pure_ (i := 17) (N := some 79) (v := ?_) (a' := ?_) #[true, true, true, true, true, true, true, true, true, true, true, true, true, true, true, true, true, true, false, false, false, false, false, false, false, false, false, false, false, false, false, false, false, false, false, false, false] rfl rfl (any_of HT_.out (by kernel_rfl)) (fun _ _ _ h => h) (Or.inl ⟨by rfl, ?_⟩) ?_ ?_
                    rotate_left
                    · intro w'
                      go_simp
                      with_reducible rfl
                    rotate_left
                    · simp only [Act.put, List.setIfInBounds_toArray, List.set_cons_zero, List.set_cons_succ, i64_w, i32_w]
                      rfl
                    refine pure_ (i := 18) (N := some 80) (v := ?_) (a' := ?_) #[true, true, true, true, true, true, true, true, true, true, true, true, true, true, true, true, true, true, true, false, false, false, false, false, false, false, false, false, false, false, false, false, false, false, false, false, false] rfl rfl (any_of HT_.out (by kernel_rfl)) (fun _ _ _ h => h) (Or.inl ⟨by rfl, ?_⟩) ?_ ?_
                    rotate_left
                    · intro w'
                      go_simp
                      with_reducible rfl
                    rotate_left
                    · simp only [Act.put, List.setIfInBounds_toArray, List.set_cons_zero, List.set_cons_succ, i64_w, i32_w]
                      rfl
                    refine pure_ (i := 19) (N := some 81) (v := ?_) (a' := ?_) #[true, true, true, true, true, true, true, true, true, true, true, true, true, true, true, true, true, true, true, true, false, false, false, false, false, false, false, false, false, false, false, false, false, false, false, false, false] rfl rfl (any_of HT_.out (by kernel_rfl)) (fun _ _ _ h => h) (Or.inl ⟨by rfl, ?_⟩) ?_ ?_
                    rotate_left
                    · intro w'
                      go_simp
                      with_reducible rfl
                    rotate_left
                    · simp only [Act.put, List.setIfInBounds_toArray, List.set_cons_zero, List.set_cons_succ, i64_w, i32_w]
                      rfl
                    refine pure_ (i := 20) (N := some 82) (v := ?_) (a' := ?_) #[true, true, true, true, true, true, true, true, true, true, true, true, true, true, true, true, true, true, true, true, true, false, false, false, false, false, false, false, false, false, false, false, false, false, false, false, false] rfl rfl (any_of HT_.out (by kernel_rfl)) (fun _ _ _ h => h) (Or.inl ⟨by rfl, ?_⟩) ?_ ?_
                    rotate_left
                    · intro w'
                      go_simp
                      with_reducible rfl
                    rotate_left
                    · simp only [Act.put, List.setIfInBounds_toArray, List.set_cons_zero, List.set_cons_succ, i64_w, i32_w]
                      rfl
                    refine pure_ (i := 21) (N := some 83) (v := ?_) (a' := ?_) #[true, true, true, true, true, true, true, true, true, true, true, true, true, true, true, true, true, true, true, true, true, true, false, false, false, false, false, false, false, false, false, false, false, false, false, false, false] rfl rfl (any_of HT_.out (by kernel_rfl)) (fun _ _ _ h => h) (Or.inl ⟨by rfl, ?_⟩) ?_ ?_
                    rotate_left
                    · intro w'
                      go_simp
                      with_reducible rfl
                    rotate_left
                    · simp only [Act.put, List.setIfInBounds_toArray, List.set_cons_zero, List.set_cons_succ, i64_w, i32_w]
                      rfl
                    refine pure_ (i := 22) (N := some 84) (v := ?_) (a' := ?_) #[true, true, true, true, true, true, true, true, true, true, true, true, true, true, true, true, true, true, true, true, true, true, true, false, false, false, false, false, false, false, false, false, false, false, false, false, false] rfl rfl (any_of HT_.out (by kernel_rfl)) (fun _ _ _ h => h) (Or.inl ⟨by rfl, ?_⟩) ?_ ?_
                    rotate_left
                    · intro w'
                      go_simp
                      with_reducible rfl
                    rotate_left
                    · simp only [Act.put, List.setIfInBounds_toArray, List.set_cons_zero, List.set_cons_succ, i64_w, i32_w]
                      rfl
                    refine pure_ (i := 23) (N := some 85) (v := ?_) (a' := ?_) #[true, true, true, true, true, true, true, true, true, true, true, true, true, true, true, true, true, true, true, true, true, true, true, true, false, false, false, false, false, false, false, false, false, false, false, false, false] rfl rfl (any_of HT_.out (by kernel_rfl)) (fun _ _ _ h => h) (Or.inl ⟨by rfl, ?_⟩) ?_ ?_
                    rotate_left
                    · intro w'
                      go_simp
                      with_reducible rfl
                    rotate_left
                    · simp only [Act.put, List.setIfInBounds_toArray, List.set_cons_zero, List.set_cons_succ, i64_w, i32_w]
                      rfl
                    refine pure_ (i := 24) (N := some 86) (v := ?_) (a' := ?_) #[true, true, true, true, true, true, true, true, true, true, true, true, true, true, true, true, true, true, true, true, true, true, true, true, true, false, false, false, false, false, false, false, false, false, false, false, false] rfl rfl (any_of HT_.out (by kernel_rfl)) (fun _ _ _ h => h) (Or.inl ⟨by rfl, ?_⟩) ?_ ?_
                    rotate_left
                    · intro w'
                      go_simp
                      with_reducible rfl
                    rotate_left
                    · simp only [Act.put, List.setIfInBounds_toArray, List.set_cons_zero, List.set_cons_succ, i64_w, i32_w]
                      rfl
                    refine pure_ (i := 25) (N := some 87) (v := ?_) (a' := ?_) #[true, true, true, true, true, true, true, true, true, true, true, true, true, true, true, true, true, true, true, true, true, true, true, true, true, true, false, false, false, false, false, false, false, false, false, false, false] rfl rfl (any_of HT_.out (by kernel_rfl)) (fun _ _ _ h => h) (Or.inl ⟨by rfl, ?_⟩) ?_ ?_
                    rotate_left
                    · intro w'
                      go_simp
                      with_reducible rfl
                    rotate_left
                    · simp only [Act.put, List.setIfInBounds_toArray, List.set_cons_zero, List.set_cons_succ, i64_w, i32_w]
                      rfl
                    refine pure_ (i := 26) (N := some 88) (v := ?_) (a' := ?_) #[true, true, true, true, true, true, true, true, true, true, true, true, true, true, true, true, true, true, true, true, true, true, true, true, true, true, true, false, false, false, false, false, false, false, false, false, false] rfl rfl (any_of HT_.out (by kernel_rfl)) (fun _ _ _ h => h) (Or.inl ⟨by rfl, ?_⟩) ?_ ?_
                    rotate_left
                    · intro w'
                      go_simp
                      with_reducible rfl
                    rotate_left
                    · simp only [Act.put, List.setIfInBounds_toArray, List.set_cons_zero, List.set_cons_succ, i64_w, i32_w]
                      rfl
                    refine pure_ (i := 27) (N := some 89) (v := ?_) (a' := ?_) #[true, true, true, true, true, true, true, true, true, true, true, true, true, true, true, true, true, true, true, true, true, true, true, true, true, true, true, true, false, false, false, false, false, false, false, false, false] rfl rfl (any_of HT_.out (by kernel_rfl)) (fun _ _ _ h => h) (Or.inl ⟨by rfl, ?_⟩) ?_ ?_
                    rotate_left
                    · intro w'
                      go_simp
                      with_reducible rfl
                    rotate_left
                    · simp only [Act.put, List.setIfInBounds_toArray, List.set_cons_zero, List.set_cons_succ, i64_w, i32_w]
                      rfl
                    refine pure_ (i := 28) (N := some 90) (v := ?_) (a' := ?_) #[true, true, true, true, true, true, true, true, true, true, true, true, true, true, true, true, true, true, true, true, true, true, true, true, true, true, true, true, true, false, false, false, false, false, false, false, false] rfl rfl (any_of HT_.out (by kernel_rfl)) (fun _ _ _ h => h) (Or.inl ⟨by rfl, ?_⟩) ?_ ?_
                    rotate_left
                    · intro w'
                      go_simp
                      with_reducible rfl
                    rotate_left
                    · simp only [Act.put, List.setIfInBounds_toArray, List.set_cons_zero, List.set_cons_succ, i64_w, i32_w]
                      rfl
                    refine pure_ (i := 29) (N := some 91) (v := ?_) (a' := ?_) #[true, true, true, true, true, true, true, true, true, true, true, true, true, true, true, true, true, true, true, true, true, true, true, true, true, true, true, true, true, true, false, false, false, false, false, false, false] rfl rfl (any_of HT_.out (by kernel_rfl)) (fun _ _ _ h => h) (Or.inl ⟨by rfl, ?_⟩) ?_ ?_
                    rotate_left
                    · intro w'
                      go_simp
                      with_reducible rfl
                    rotate_left
                    · simp only [Act.put, List.setIfInBounds_toArray, List.set_cons_zero, List.set_cons_succ, i64_w, i32_w]
                      rfl
                    refine pure_ (i := 31) (N := some 93) (v := ?_) (a' := ?_) #[true, true, true, true, true, true, true, true, true, true, true, true, true, true, true, true, true, true, true, true, true, true, true, true, true, true, true, true, true, true, false, true, false, false, false, false, false] rfl rfl (any_of HT_.out (by kernel_rfl)) (fun _ _ _ h => h) (Or.inl ⟨by rfl, ?_⟩) ?_ ?_
                    rotate_left
                    · intro w'
                      go_simp
                      with_reducible rfl
                    rotate_left
                    · simp only [Act.put, List.setIfInBounds_toArray, List.set_cons_zero, List.set_cons_succ, i64_w, i32_w]
                      rfl
                    refine pure_ (i := 32) (N := some 94) (v := ?_) (a' := ?_) #[true, true, true, true, true, true, true, true, true, true, true, true, true, true, true, true, true, true, true, true, true, true, true, true, true, true, true, true, true, true, false, true, true, false, false, false, false] rfl rfl (any_of HT_.out (by kernel_rfl)) (fun _ _ _ h => h) (Or.inl ⟨by rfl, ?_⟩) ?_ ?_
                    rotate_left
                    · intro w'
                      go_simp
                      with_reducible rfl
                    rotate_left
                    · simp only [Act.put, List.setIfInBounds_toArray, List.set_cons_zero, List.set_cons_succ, i64_w, i32_w]
                      rfl
                    refine one_ (i := 30) (N := some 92) #[true, true, true, true, true, true, true, true, true, true, true, true, true, true, true, true, true, true, true, true, true, true, true, true, true, true, true, true, true, true, true, true, true, false, false, false, false] rfl rfl (one_of HT_.out (by kernel_rfl)) (by decide) (fun K hK => ?_)
                    refine goes_ Try.func17 (by kernel_rfl) rfl #[.int .u8 a4, .int .u8 a5] (by rfl) rfl rfl (by (try simp only [List.map_toArray, List.map_cons, List.map_nil]); first | done | rfl | (simp only [List.length_drop, List.length_take]; rfl)) ?_
                    with_reducible refine (info_After.calls a4 a5 t217 _ A54.out).mono ?_
                    rintro e w60 ⟨rfl, hb⟩
                    refine ⟨_, rfl, ?_⟩
                    have n0_ := Aside0.mk (Kd.R_below (by (with_reducible repeat (first | apply Kd.R_alloc | apply Kd.R_drewN | apply Kd.R_drew)); exact HO198.out) hb)
                    have n1_ := Aside0.mk (Kd.R_below (by (with_reducible repeat (first | apply Kd.R_alloc | apply Kd.R_drewN | apply Kd.R_drew)); exact HO213.out) hb)
                    have n2_ := Aside0.mk (blk_below (g := gb191) (o := .cells #[.int .u8 a1_0, .int .u8 a1_1, .int .i64 a1_2, .slice A1_3 l1_3.length c1_3] 24 (0, 0)) (by (with_reducible repeat (first | refine blk_drewN ?_ _ | refine blk_drew ?_ | refine blk_alloc ?_ _)); exact BK191.out) hb)
                    have n3_ := Aside0.mk (blk_below (g := gb192) (o := .cells #[.int .u8 a2_0, .int .u8 a2_1, .int .i64 a2_2, .slice A2_3 l2_3.length c2_3] 24 (0, 0)) (by (with_reducible repeat (first | refine blk_drewN ?_ _ | refine blk_drew ?_ | refine blk_alloc ?_ _)); exact BK192.out) hb)
                    have n4_ := Aside0.mk (blk_below (g := gb199) (o := .cells #[.int .u8 t193, .int .u8 t194, .int .i64 t195, .slice Ao31 t196.length co31] 24 (0, 0)) (by (with_reducible repeat (first | refine blk_drewN ?_ _ | refine blk_drew ?_ | refine blk_alloc ?_ _)); exact BK199.out) hb)
                    have n5_ := Aside0.mk (blk_below (g := gb214) (o := .cells #[.int .u8 t208, .int .u8 t209, .int .i64 t210, .slice Ao46 t211.length co46] 24 (0, 0)) (by (with_reducible repeat (first | refine blk_drewN ?_ _ | refine blk_drew ?_ | refine blk_alloc ?_ _)); exact BK214.out) hb)
                    have n6_ := Aside0.mk (below_step (by repeat (first | (with_reducible first | exact HB.out | apply below_alloc | apply pw_below_drewN | apply below_drew1 | refine below_set ?_ GE191.out | refine below_set ?_ GE192.out | refine below_set ?_ GE199.out | refine below_set ?_ GE214.out) | exact HB.out)) hb)
                    clear HO198
                    clear HO213
                    clear BK191
                    clear BK192
                    clear BK199
                    clear BK214
                    clear HB
                    have HO198 := n0_
                    have HO213 := n1_
                    have BK191 := n2_
                    have BK192 := n3_
                    have BK199 := n4_
                    have BK214 := n5_
                    have HB := n6_
                    clear n0_ n1_ n2_ n3_ n4_ n5_ n6_
                    (try clear hb)
                    (try clear hb2)
                    (try clear hk)
                    (try clear hi)
                    refine hK.out _ _ ⟨(blk_cell BK199.out 0).trans rfl, (blk_cell BK199.out 1).trans rfl, (blk_cell BK199.out 2).trans rfl, (blk_cell BK199.out 3).trans rfl, (blk_cell BK191.out 0).trans rfl, (blk_cell BK191.out 1).trans rfl, (blk_cell BK191.out 2).trans rfl, (blk_cell BK191.out 3).trans rfl⟩ (fun hHeld => ?_)
                    clear hK K
                    refine norm_ (a' := ?_) ?_ ?_
                    rotate_left
                    · show Act.put _ (some 92) _ = _
                      simp only [Act.put, List.setIfInBounds_toArray, List.set_cons_zero, List.set_cons_succ, i64_w, i32_w]
                      rfl
                    refine one_ (i := 33) (N := some 95) #[true, true, true, true, true, true, true, true, true, true, true, true, true, true, true, true, true, true, true, true, true, true, true, true, true, true, true, true, true, true, true, true, true, true, false, false, false] rfl rfl (one_of HT_.out (by kernel_rfl)) (by decide) (fun K hK => ?_)
                    refine goes_ Try.func18 (by kernel_rfl) rfl #[.int .u8 a4, .int .u8 a5] (by rfl) rfl rfl (by (try simp only [List.map_toArray, List.map_cons, List.map_nil]); first | done | rfl | (simp only [List.length_drop, List.length_take]; rfl)) ?_
                    with_reducible refine (reedpiperef10_After.calls kj6 a4 a5 t218 _ A55.out).mono ?_
                    rintro e w' ⟨rfl, ⟨nd, rfl⟩⟩
                    refine ⟨_, rfl, ?_⟩
                    refine hK.out _ _ ⟨(blk_cell BK199.out 0).trans rfl, (blk_cell BK199.out 1).trans rfl, (blk_cell BK199.out 2).trans rfl, (blk_cell BK199.out 3).trans rfl, (blk_cell BK191.out 0).trans rfl, (blk_cell BK191.out 1).trans rfl, (blk_cell BK191.out 2).trans rfl, (blk_cell BK191.out 3).trans rfl⟩ (fun hHeld => ?_)
                    clear hK K
                    refine norm_ (a' := ?_) ?_ ?_
                    rotate_left
                    · show Act.put _ (some 95) _ = _
                      simp only [Act.put, List.setIfInBounds_toArray, List.set_cons_zero, List.set_cons_succ, i64_w, i32_w]
                      rfl
                    refine pure_ (i := 34) (N := some 96) (v := ?_) (a' := ?_) #[true, true, true, true, true, true, true, true, true, true, true, true, true, true, true, true, true, true, true, true, true, true, true, true, true, true, true, true, true, true, true, true, true, true, true, false, false] rfl rfl (any_of HT_.out (by kernel_rfl)) (fun _ _ _ h => h) (Or.inl ⟨by rfl, ?_⟩) ?_ ?_
                    rotate_left
                    · intro w'
                      go_simp
                      with_reducible rfl
                    rotate_left
                    · simp only [Act.put, List.setIfInBounds_toArray, List.set_cons_zero, List.set_cons_succ, i64_w, i32_w]
                      rfl
                    refine pure_ (i := 35) (N := some 97) (v := ?_) (a' := ?_) #[true, true, true, true, true, true, true, true, true, true, true, true, true, true, true, true, true, true, true, true, true, true, true, true, true, true, true, true, true, true, true, true, true, true, true, true, false] rfl rfl (any_of HT_.out (by kernel_rfl)) (fun _ _ _ h => h) (Or.inl ⟨by rfl, ?_⟩) ?_ ?_
                    rotate_left
                    · intro w'
                      go_simp
                      with_reducible rfl
                    rotate_left
                    · simp only [Act.put, List.setIfInBounds_toArray, List.set_cons_zero, List.set_cons_succ, i64_w, i32_w]
                      rfl
                    refine pure_ (i := 36) (N := some 23) (v := ?_) (a' := ?_) #[true, true, true, true, true, true, true, true, true, true, true, true, true, true, true, true, true, true, true, true, true, true, true, true, true, true, true, true, true, true, true, true, true, true, true, true, true] rfl rfl (any_of HT_.out (by kernel_rfl)) (fun _ _ _ h => h) (Or.inl ⟨by rfl, ?_⟩) ?_ ?_
                    rotate_left
                    · intro w'
                      go_simp
                      with_reducible rfl
                    rotate_left
                    · simp only [Act.put, List.setIfInBounds_toArray, List.set_cons_zero, List.set_cons_succ, i64_w, i32_w]
                      rfl
                    refine done_ (done_of HT_.out (by kernel_rfl)) ?_
                    try go_wp2
                    go_meet
                    case rel => exact ⟨_, ((t217 == t218)), (by first | rfl | (simp; done) | (simp [*]; done)), H', ⟨by have := HJ6.out; first | omega | exact Nat.le_refl _⟩, ⟨by (with_reducible repeat (first | apply Kd.R_alloc | apply Kd.R_drewN | apply Kd.R_drew)); exact HO198.out⟩, ⟨by (with_reducible repeat (first | apply Kd.R_alloc | apply Kd.R_drewN | apply Kd.R_drew)); exact HO213.out⟩, ⟨by (with_reducible repeat (first | refine blk_drewN ?_ _ | refine blk_drew ?_ | refine blk_alloc ?_ _)); exact BK191.out⟩, ⟨by (with_reducible repeat (first | refine blk_drewN ?_ _ | refine blk_drew ?_ | refine blk_alloc ?_ _)); exact BK192.out⟩, ⟨by (with_reducible repeat (first | refine blk_drewN ?_ _ | refine blk_drew ?_ | refine blk_alloc ?_ _)); exact BK199.out⟩, ⟨by (with_reducible repeat (first | refine blk_drewN ?_ _ | refine blk_drew ?_ | refine blk_alloc ?_ _)); exact BK214.out⟩, ⟨by repeat (first | (with_reducible first | exact HB.out | apply below_alloc | apply pw_below_drewN | apply below_drew1 | refine below_set ?_ GE191.out | refine below_set ?_ GE192.out | refine below_set ?_ GE199.out | refine below_set ?_ GE214.out) | exact HB.out)⟩⟩
                  · exfalso
                    obtain ⟨⟨rfl, rfl, rfl, rfl⟩, hl⟩ := SP.refTwin_eq A17.out
                    have e := (SP.group_of hl A20.out).trans (SP.refGroup_of hl A21.out).symm
                    simp only [Prod.mk.injEq] at e
                    exact c53 e.2
                · exfalso
                  obtain ⟨⟨rfl, rfl, rfl, rfl⟩, hl⟩ := SP.refTwin_eq A17.out
                  have e := (SP.group_of hl A20.out).trans (SP.refGroup_of hl A21.out).symm
                  simp only [Prod.mk.injEq] at e
                  exact c52 e.1
              · exfalso
                obtain ⟨⟨rfl, rfl, rfl, rfl⟩, hl⟩ := SP.refTwin_eq A17.out
                have e := (SP.windows_of hl A18.out).trans (SP.refWindows_of hl A19.out).symm
                simp only [Prod.mk.injEq] at e
                exact c51 e.2
            · exfalso
              obtain ⟨⟨rfl, rfl, rfl, rfl⟩, hl⟩ := SP.refTwin_eq A17.out
              have e := (SP.windows_of hl A18.out).trans (SP.refWindows_of hl A19.out).symm
              simp only [Prod.mk.injEq] at e
              exact c50 e.1
          · exfalso
            obtain ⟨⟨rfl, rfl, rfl, rfl⟩, hl⟩ := SP.refTwin_eq A17.out
            exact c49 ((SP.check_of hl A47.out).trans (SP.refCheck_of hl A48.out).symm)
        case rest =>
          clear HC23
          try clear c1
          try clear c2
          try clear p2
          try clear c4
          try clear c15
          try clear c16
          try clear c49
          try clear c49b0
          try clear c49b1
          obtain ⟨kq, x23_22, rfl, HA, HJ22, HO_200003, HO_215003, BK191, BK192, BK199, BK214, HB⟩ := hcut
          cases kq with
          | zero => exact absurd HA.out (by simp [reedpipelaw10_InfoTells.j1])
          | succ kj22 =>
            have H := HA.out
            clear HA
            simp only [reedpipelaw10_InfoTells.j1] at H
            have HC81 := Aside0.mk H
            clear H
            go_upto_region 10 with (fail)
            go_cut [24] (fun v24 wc => ∃ (kq : Nat) (x24_80 : Bool), v24 = .bool x24_80 ∧ Aside0 (reedpipelaw10_InfoTells.j2 kq x23_22 x24_80 a1_0 a1_1 a1_2 l1_3 t193 t194 t195 t196 t208 t209 t210 t211 = some r) ∧ Aside0 (kq ≤ kj22) ∧ Aside0 (Kd.R (Kd.int .i64) 3 wc w.heap.size (fun k_ => some k_ ≠ ((.slice Ao46 t211.length co46) : Value).ownBlock) (.slice Ao31 t196.length co31) t196) ∧ Aside0 (Kd.R (Kd.int .i64) 3 wc w.heap.size (fun k_ => some k_ ≠ ((.slice Ao31 t196.length co31) : Value).ownBlock) (.slice Ao46 t211.length co46) t211) ∧ Aside0 (wc.heap[gb191]? = some (.cells #[.int .u8 a1_0, .int .u8 a1_1, .int .i64 a1_2, (.slice A1_3 l1_3.length c1_3)] 24 (0, 0))) ∧ Aside0 (wc.heap[gb192]? = some (.cells #[.int .u8 a2_0, .int .u8 a2_1, .int .i64 a2_2, (.slice A2_3 l2_3.length c2_3)] 24 (0, 0))) ∧ Aside0 (wc.heap[gb199]? = some (.cells #[.int .u8 t193, .int .u8 t194, .int .i64 t195, (.slice Ao31 t196.length co31)] 24 (0, 0))) ∧ Aside0 (wc.heap[gb214]? = some (.cells #[.int .u8 t208, .int .u8 t209, .int .i64 t210, (.slice Ao46 t211.length co46)] 24 (0, 0))) ∧ Aside0 (Below w.heap.size w wc))
            case first =>
              have H := HC81.out
              clear HC81
              replace H := Option.bind_eq_some_iff.mp H
              obtain ⟨t219, A820, H⟩ := H
              replace H : ((reedpiperef10_Same.f kj22 a1_0 a1_1 a1_2 l1_3 a2_0 a2_1 a2_2 l2_3).bind fun t220 => (if (t219 == t220) = true then ((reedpiperef10_Same.f kj22 t208 t209 t210 t211 a1_0 a1_1 a1_2 l1_3).bind fun t221 => (reedpipelaw10_InfoTells.j2 kj22 x23_22 t221 a1_0 a1_1 a1_2 l1_3 t193 t194 t195 t196 t208 t209 t210 t211)) else (reedpipelaw10_InfoTells.j2 kj22 x23_22 false a1_0 a1_1 a1_2 l1_3 t193 t194 t195 t196 t208 t209 t210 t211))) = some r := H
              have A82 := Aside0.mk A820
              clear A820
              replace H := Option.bind_eq_some_iff.mp H
              obtain ⟨t220, A830, H⟩ := H
              replace H : (if (t219 == t220) = true then ((reedpiperef10_Same.f kj22 t208 t209 t210 t211 a1_0 a1_1 a1_2 l1_3).bind fun t221 => (reedpipelaw10_InfoTells.j2 kj22 x23_22 t221 a1_0 a1_1 a1_2 l1_3 t193 t194 t195 t196 t208 t209 t210 t211)) else (reedpipelaw10_InfoTells.j2 kj22 x23_22 false a1_0 a1_1 a1_2 l1_3 t193 t194 t195 t196 t208 t209 t210 t211)) = some r := H
              have A83 := Aside0.mk A830
              clear A830
              by_cases c84 : (t219 == t220) = true
              · rw [if_pos c84] at H
                have c84b0 : (t219 == t220) = true := c84
                (try (have c84b1 : decide (t219 = t220) = true := by simpa using c84))
                (try (have c84b2 : (t219 == t220) = true := by simpa using c84))
                clear c84
                (first | rw [c84b0] | (simp only [i64_w, i32_w]; rw [c84b0]) | skip)
                replace H := Option.bind_eq_some_iff.mp H
                obtain ⟨t221, A850, H⟩ := H
                replace H : (reedpipelaw10_InfoTells.j2 kj22 x23_22 t221 a1_0 a1_1 a1_2 l1_3 t193 t194 t195 t196 t208 t209 t210 t211) = some r := H
                have A85 := Aside0.mk A850
                clear A850
                have H' := Aside0.mk H
                clear H
                try go_wp2
                have n0_ := Aside0.mk (Kd.R_drew HO_200003.out)
                have n1_ := Aside0.mk (Kd.R_drew HO_215003.out)
                have n2_ := Aside0.mk (blk_drew BK191.out)
                have n3_ := Aside0.mk (blk_drew BK192.out)
                have n4_ := Aside0.mk (blk_drew BK199.out)
                have n5_ := Aside0.mk (blk_drew BK214.out)
                have n6_ := Aside0.mk (below_drew1 HB.out)
                clear HO_200003
                clear HO_215003
                clear BK191
                clear BK192
                clear BK199
                clear BK214
                clear HB
                have HO_200003 := n0_
                have HO_215003 := n1_
                have BK191 := n2_
                have BK192 := n3_
                have BK199 := n4_
                have BK214 := n5_
                have HB := n6_
                clear n0_ n1_ n2_ n3_ n4_ n5_ n6_
                refine start_ (n := 13) (S := fun w' => w'.cell? ⟨gb191, 0, none⟩ = some (.int .u8 a1_0) ∧ w'.cell? ⟨gb191, 1, none⟩ = some (.int .u8 a1_1) ∧ w'.cell? ⟨gb191, 2, none⟩ = some (.int .i64 a1_2) ∧ w'.cell? ⟨gb191, 3, none⟩ = some (.slice A1_3 l1_3.length c1_3) ∧ w'.cell? ⟨gb192, 0, none⟩ = some (.int .u8 a2_0) ∧ w'.cell? ⟨gb192, 1, none⟩ = some (.int .u8 a2_1) ∧ w'.cell? ⟨gb192, 2, none⟩ = some (.int .i64 a2_2) ∧ w'.cell? ⟨gb192, 3, none⟩ = some (.slice A2_3 l2_3.length c2_3) ∧ w'.cell? ⟨gb214, 0, none⟩ = some (.int .u8 t208) ∧ w'.cell? ⟨gb214, 1, none⟩ = some (.int .u8 t209) ∧ w'.cell? ⟨gb214, 2, none⟩ = some (.int .i64 t210) ∧ w'.cell? ⟨gb214, 3, none⟩ = some (.slice Ao46 t211.length co46)) (ds := []) #[false, false, false, false, false, false, false, false, false, false, false, false, false] (by kernel_rfl) rfl rfl ⟨(blk_cell BK191.out 0).trans rfl, (blk_cell BK191.out 1).trans rfl, (blk_cell BK191.out 2).trans rfl, (blk_cell BK191.out 3).trans rfl, (blk_cell BK192.out 0).trans rfl, (blk_cell BK192.out 1).trans rfl, (blk_cell BK192.out 2).trans rfl, (blk_cell BK192.out 3).trans rfl, (blk_cell BK214.out 0).trans rfl, (blk_cell BK214.out 1).trans rfl, (blk_cell BK214.out 2).trans rfl, (blk_cell BK214.out 3).trans rfl⟩ (fun hHeld => ?_); refine with_tabW reedpipelaw10_InfoTells.tab10 reedpipelaw10_InfoTells.bits10 (fun HT_ HW_ => ?_)
                generalize wc.drew = w86 at HO_200003 HO_215003 BK191 BK192 BK199 BK214 HB hHeld ⊢
                refine take_ (i := 0) (N := some 98) (v := ?_) (a' := ?_) #[true, false, false, false, false, false, false, false, false, false, false, false, false] rfl rfl (take_ofW HT_.out HW_.out (by kernel_rfl)) (fun _ _ _ h => h) (Or.inl ⟨by rfl, ?_⟩) hHeld ?_ ?_
                rotate_left
                · rintro w' ⟨s0, s1, s2, s3, s4, s5, s6, s7, s8, s9, s10, s11⟩
                  go_simp
                  with_reducible rfl
                rotate_left
                · simp only [Act.put, List.setIfInBounds_toArray, List.set_cons_zero, List.set_cons_succ, i64_w, i32_w]
                  rfl
                refine take_ (i := 1) (N := some 99) (v := ?_) (a' := ?_) #[true, true, false, false, false, false, false, false, false, false, false, false, false] rfl rfl (take_ofW HT_.out HW_.out (by kernel_rfl)) (fun _ _ _ h => h) (Or.inl ⟨by rfl, ?_⟩) hHeld ?_ ?_
                rotate_left
                · rintro w' ⟨s0, s1, s2, s3, s4, s5, s6, s7, s8, s9, s10, s11⟩
                  go_simp
                  with_reducible rfl
                rotate_left
                · simp only [Act.put, List.setIfInBounds_toArray, List.set_cons_zero, List.set_cons_succ, i64_w, i32_w]
                  rfl
                refine take_ (i := 3) (N := some 101) (v := ?_) (a' := ?_) #[true, true, false, true, false, false, false, false, false, false, false, false, false] rfl rfl (take_ofW HT_.out HW_.out (by kernel_rfl)) (fun _ _ _ h => h) (Or.inl ⟨by rfl, ?_⟩) hHeld ?_ ?_
                rotate_left
                · rintro w' ⟨s0, s1, s2, s3, s4, s5, s6, s7, s8, s9, s10, s11⟩
                  go_simp
                  with_reducible rfl
                rotate_left
                · simp only [Act.put, List.setIfInBounds_toArray, List.set_cons_zero, List.set_cons_succ, i64_w, i32_w]
                  rfl
                refine take_ (i := 4) (N := some 102) (v := ?_) (a' := ?_) #[true, true, false, true, true, false, false, false, false, false, false, false, false] rfl rfl (take_ofW HT_.out HW_.out (by kernel_rfl)) (fun _ _ _ h => h) (Or.inl ⟨by rfl, ?_⟩) hHeld ?_ ?_
                rotate_left
                · rintro w' ⟨s0, s1, s2, s3, s4, s5, s6, s7, s8, s9, s10, s11⟩
                  go_simp
                  with_reducible rfl
                rotate_left
                · simp only [Act.put, List.setIfInBounds_toArray, List.set_cons_zero, List.set_cons_succ, i64_w, i32_w]
                  rfl
                refine one_ (i := 2) (N := some 100) #[true, true, true, true, true, false, false, false, false, false, false, false, false] rfl rfl (one_of HT_.out (by kernel_rfl)) (by decide) (fun K hK => ?_)
                refine goes_ Try.func19 (by kernel_rfl) rfl #[.agg #[.int .u8 a1_0, .int .u8 a1_1, .int .i64 a1_2, .slice A1_3 l1_3.length c1_3], .agg #[.int .u8 a2_0, .int .u8 a2_1, .int .i64 a2_2, .slice A2_3 l2_3.length c2_3]] (by rfl) rfl rfl (by (try simp only [List.map_toArray, List.map_cons, List.map_nil]); first | done | rfl | (simp only [List.length_drop, List.length_take]; rfl)) ?_
                with_reducible refine (info_Same.calls kj22 a1_0 a1_1 a1_2 _ _ l1_3 a2_0 a2_1 a2_2 _ _ l2_3 t219 _ ?side1 ?side2 ?side3 ?side4 A82.out).mono ?_
                (case side1 => repeat (first | exact (Kd.C_below HR1_3.out HB.out) | (with_reducible refine Kd.C_alloc ?_ _) | (with_reducible refine Kd.C_drewN ?_ _) | (with_reducible refine Kd.C_drew ?_)))
                (case side2 => exact HC1_3.out)
                (case side3 => repeat (first | exact (Kd.C_below HR2_3.out HB.out) | (with_reducible refine Kd.C_alloc ?_ _) | (with_reducible refine Kd.C_drewN ?_ _) | (with_reducible refine Kd.C_drew ?_)))
                (case side4 => exact HC2_3.out)
                rintro e w87 ⟨rfl, hb⟩
                refine ⟨_, rfl, ?_⟩
                have n0_ := Aside0.mk (Kd.R_below (by (with_reducible repeat (first | apply Kd.R_alloc | apply Kd.R_drewN | apply Kd.R_drew)); exact HO_200003.out) hb)
                have n1_ := Aside0.mk (Kd.R_below (by (with_reducible repeat (first | apply Kd.R_alloc | apply Kd.R_drewN | apply Kd.R_drew)); exact HO_215003.out) hb)
                have n2_ := Aside0.mk (blk_below (g := gb191) (o := .cells #[.int .u8 a1_0, .int .u8 a1_1, .int .i64 a1_2, .slice A1_3 l1_3.length c1_3] 24 (0, 0)) (by (with_reducible repeat (first | refine blk_drewN ?_ _ | refine blk_drew ?_ | refine blk_alloc ?_ _)); exact BK191.out) hb)
                have n3_ := Aside0.mk (blk_below (g := gb192) (o := .cells #[.int .u8 a2_0, .int .u8 a2_1, .int .i64 a2_2, .slice A2_3 l2_3.length c2_3] 24 (0, 0)) (by (with_reducible repeat (first | refine blk_drewN ?_ _ | refine blk_drew ?_ | refine blk_alloc ?_ _)); exact BK192.out) hb)
                have n4_ := Aside0.mk (blk_below (g := gb199) (o := .cells #[.int .u8 t193, .int .u8 t194, .int .i64 t195, .slice Ao31 t196.length co31] 24 (0, 0)) (by (with_reducible repeat (first | refine blk_drewN ?_ _ | refine blk_drew ?_ | refine blk_alloc ?_ _)); exact BK199.out) hb)
                have n5_ := Aside0.mk (blk_below (g := gb214) (o := .cells #[.int .u8 t208, .int .u8 t209, .int .i64 t210, .slice Ao46 t211.length co46] 24 (0, 0)) (by (with_reducible repeat (first | refine blk_drewN ?_ _ | refine blk_drew ?_ | refine blk_alloc ?_ _)); exact BK214.out) hb)
                have n6_ := Aside0.mk (below_step (by repeat (first | (with_reducible first | exact HB.out | apply below_alloc | apply pw_below_drewN | apply below_drew1 | refine below_set ?_ GE191.out | refine below_set ?_ GE192.out | refine below_set ?_ GE199.out | refine below_set ?_ GE214.out) | exact HB.out)) hb)
                clear HO_200003
                clear HO_215003
                clear BK191
                clear BK192
                clear BK199
                clear BK214
                clear HB
                have HO_200003 := n0_
                have HO_215003 := n1_
                have BK191 := n2_
                have BK192 := n3_
                have BK199 := n4_
                have BK214 := n5_
                have HB := n6_
                clear n0_ n1_ n2_ n3_ n4_ n5_ n6_
                (try clear hb)
                (try clear hb2)
                (try clear hk)
                (try clear hi)
                refine hK.out _ _ ⟨(blk_cell BK191.out 0).trans rfl, (blk_cell BK191.out 1).trans rfl, (blk_cell BK191.out 2).trans rfl, (blk_cell BK191.out 3).trans rfl, (blk_cell BK192.out 0).trans rfl, (blk_cell BK192.out 1).trans rfl, (blk_cell BK192.out 2).trans rfl, (blk_cell BK192.out 3).trans rfl, (blk_cell BK214.out 0).trans rfl, (blk_cell BK214.out 1).trans rfl, (blk_cell BK214.out 2).trans rfl, (blk_cell BK214.out 3).trans rfl⟩ (fun hHeld => ?_)
                clear hK K
                refine norm_ (a' := ?_) ?_ ?_
                rotate_left
                · show Act.put _ (some 100) _ = _
                  simp only [Act.put, List.setIfInBounds_toArray, List.set_cons_zero, List.set_cons_succ, i64_w, i32_w]
                  rfl
                refine one_ (i := 5) (N := some 103) #[true, true, true, true, true, true, false, false, false, false, false, false, false] rfl rfl (one_of HT_.out (by kernel_rfl)) (by decide) (fun K hK => ?_)
                refine goes_ Try.func20 (by kernel_rfl) rfl #[.agg #[.int .u8 a1_0, .int .u8 a1_1, .int .i64 a1_2, .slice A1_3 l1_3.length c1_3], .agg #[.int .u8 a2_0, .int .u8 a2_1, .int .i64 a2_2, .slice A2_3 l2_3.length c2_3]] (by rfl) rfl rfl (by (try simp only [List.map_toArray, List.map_cons, List.map_nil]); first | done | rfl | (simp only [List.length_drop, List.length_take]; rfl)) ?_
                with_reducible refine (reedpiperef10_Same.calls kj22 a1_0 a1_1 a1_2 _ _ l1_3 a2_0 a2_1 a2_2 _ _ l2_3 t220 _ ?side1 ?side2 ?side3 ?side4 A83.out).mono ?_
                (case side1 => repeat (first | exact (Kd.C_below HR1_3.out HB.out) | (with_reducible refine Kd.C_alloc ?_ _) | (with_reducible refine Kd.C_drewN ?_ _) | (with_reducible refine Kd.C_drew ?_)))
                (case side2 => exact HC1_3.out)
                (case side3 => repeat (first | exact (Kd.C_below HR2_3.out HB.out) | (with_reducible refine Kd.C_alloc ?_ _) | (with_reducible refine Kd.C_drewN ?_ _) | (with_reducible refine Kd.C_drew ?_)))
                (case side4 => exact HC2_3.out)
                rintro e w88 ⟨rfl, hb⟩
                refine ⟨_, rfl, ?_⟩
                have n0_ := Aside0.mk (Kd.R_below (by (with_reducible repeat (first | apply Kd.R_alloc | apply Kd.R_drewN | apply Kd.R_drew)); exact HO_200003.out) hb)
                have n1_ := Aside0.mk (Kd.R_below (by (with_reducible repeat (first | apply Kd.R_alloc | apply Kd.R_drewN | apply Kd.R_drew)); exact HO_215003.out) hb)
                have n2_ := Aside0.mk (blk_below (g := gb191) (o := .cells #[.int .u8 a1_0, .int .u8 a1_1, .int .i64 a1_2, .slice A1_3 l1_3.length c1_3] 24 (0, 0)) (by (with_reducible repeat (first | refine blk_drewN ?_ _ | refine blk_drew ?_ | refine blk_alloc ?_ _)); exact BK191.out) hb)
                have n3_ := Aside0.mk (blk_below (g := gb192) (o := .cells #[.int .u8 a2_0, .int .u8 a2_1, .int .i64 a2_2, .slice A2_3 l2_3.length c2_3] 24 (0, 0)) (by (with_reducible repeat (first | refine blk_drewN ?_ _ | refine blk_drew ?_ | refine blk_alloc ?_ _)); exact BK192.out) hb)
                have n4_ := Aside0.mk (blk_below (g := gb199) (o := .cells #[.int .u8 t193, .int .u8 t194, .int .i64 t195, .slice Ao31 t196.length co31] 24 (0, 0)) (by (with_reducible repeat (first | refine blk_drewN ?_ _ | refine blk_drew ?_ | refine blk_alloc ?_ _)); exact BK199.out) hb)
                have n5_ := Aside0.mk (blk_below (g := gb214) (o := .cells #[.int .u8 t208, .int .u8 t209, .int .i64 t210, .slice Ao46 t211.length co46] 24 (0, 0)) (by (with_reducible repeat (first | refine blk_drewN ?_ _ | refine blk_drew ?_ | refine blk_alloc ?_ _)); exact BK214.out) hb)
                have n6_ := Aside0.mk (below_step (by repeat (first | (with_reducible first | exact HB.out | apply below_alloc | apply pw_below_drewN | apply below_drew1 | refine below_set ?_ GE191.out | refine below_set ?_ GE192.out | refine below_set ?_ GE199.out | refine below_set ?_ GE214.out) | exact HB.out)) hb)
                clear HO_200003
                clear HO_215003
                clear BK191
                clear BK192
                clear BK199
                clear BK214
                clear HB
                have HO_200003 := n0_
                have HO_215003 := n1_
                have BK191 := n2_
                have BK192 := n3_
                have BK199 := n4_
                have BK214 := n5_
                have HB := n6_
                clear n0_ n1_ n2_ n3_ n4_ n5_ n6_
                (try clear hb)
                (try clear hb2)
                (try clear hk)
                (try clear hi)
                refine hK.out _ _ ⟨(blk_cell BK191.out 0).trans rfl, (blk_cell BK191.out 1).trans rfl, (blk_cell BK191.out 2).trans rfl, (blk_cell BK191.out 3).trans rfl, (blk_cell BK192.out 0).trans rfl, (blk_cell BK192.out 1).trans rfl, (blk_cell BK192.out 2).trans rfl, (blk_cell BK192.out 3).trans rfl, (blk_cell BK214.out 0).trans rfl, (blk_cell BK214.out 1).trans rfl, (blk_cell BK214.out 2).trans rfl, (blk_cell BK214.out 3).trans rfl⟩ (fun hHeld => ?_)
                clear hK K
                refine norm_ (a' := ?_) ?_ ?_
                rotate_left
                · show Act.put _ (some 103) _ = _
                  simp only [Act.put, List.setIfInBounds_toArray, List.set_cons_zero, List.set_cons_succ, i64_w, i32_w]
                  rfl
                refine pure_ (i := 6) (N := some 104) (v := ?_) (a' := ?_) #[true, true, true, true, true, true, true, false, false, false, false, false, false] rfl rfl (any_of HT_.out (by kernel_rfl)) (fun _ _ _ h => h) (Or.inl ⟨by rfl, ?_⟩) ?_ ?_
                rotate_left
                · intro w'
                  go_simp
                  with_reducible rfl
                rotate_left
                · simp only [Act.put, List.setIfInBounds_toArray, List.set_cons_zero, List.set_cons_succ, i64_w, i32_w]
                  rfl
                refine pure_ (i := 7) (N := some 105) (v := ?_) (a' := ?_) #[true, true, true, true, true, true, true, true, false, false, false, false, false] rfl rfl (any_of HT_.out (by kernel_rfl)) (fun _ _ _ h => h) (Or.inl ⟨by rfl, ?_⟩) ?_ ?_
                rotate_left
                · intro w'
                  go_simp
                  with_reducible rfl
                rotate_left
                · simp only [Act.put, List.setIfInBounds_toArray, List.set_cons_zero, List.set_cons_succ, i64_w, i32_w]
                  rfl
                refine take_ (i := 8) (N := some 106) (v := ?_) (a' := ?_) #[true, true, true, true, true, true, true, true, true, false, false, false, false] rfl rfl (take_ofW HT_.out HW_.out (by kernel_rfl)) (fun _ _ _ h => h) (Or.inl ⟨by rfl, ?_⟩) hHeld ?_ ?_
                rotate_left
                · rintro w' ⟨s0, s1, s2, s3, s4, s5, s6, s7, s8, s9, s10, s11⟩
                  go_simp
                  with_reducible rfl
                rotate_left
                · simp only [Act.put, List.setIfInBounds_toArray, List.set_cons_zero, List.set_cons_succ, i64_w, i32_w]
                  rfl
                refine take_ (i := 9) (N := some 107) (v := ?_) (a' := ?_) #[true, true, true, true, true, true, true, true, true, true, false, false, false] rfl rfl (take_ofW HT_.out HW_.out (by kernel_rfl)) (fun _ _ _ h => h) (Or.inl ⟨by rfl, ?_⟩) hHeld ?_ ?_
                rotate_left
                · rintro w' ⟨s0, s1, s2, s3, s4, s5, s6, s7, s8, s9, s10, s11⟩
                  go_simp
                  with_reducible rfl
                rotate_left
                · simp only [Act.put, List.setIfInBounds_toArray, List.set_cons_zero, List.set_cons_succ, i64_w, i32_w]
                  rfl
                refine one_ (i := 10) (N := some 108) #[true, true, true, true, true, true, true, true, true, true, true, false, false] rfl rfl (one_of HT_.out (by kernel_rfl)) (by decide) (fun K hK => ?_)
                refine goes_ Try.func20 (by kernel_rfl) rfl #[.agg #[.int .u8 t208, .int .u8 t209, .int .i64 t210, .slice Ao46 t211.length co46], .agg #[.int .u8 a1_0, .int .u8 a1_1, .int .i64 a1_2, .slice A1_3 l1_3.length c1_3]] (by rfl) rfl rfl (by (try simp only [List.map_toArray, List.map_cons, List.map_nil]); first | done | rfl | (simp only [List.length_drop, List.length_take]; rfl)) ?_
                with_reducible refine (reedpiperef10_Same.calls kj22 t208 t209 t210 _ _ t211 a1_0 a1_1 a1_2 _ _ l1_3 t221 _ ?side1 ?side2 ?side3 ?side4 A85.out).mono ?_
                (case side1 => repeat (first | exact (Kd.R_reads' HO_215003.out).2.2 | (with_reducible refine Kd.C_alloc ?_ _) | (with_reducible refine Kd.C_drewN ?_ _) | (with_reducible refine Kd.C_drew ?_)))
                (case side2 => exact (Kd.R_reads' HO_215003.out).2.1)
                (case side3 => repeat (first | exact (Kd.C_below HR1_3.out HB.out) | (with_reducible refine Kd.C_alloc ?_ _) | (with_reducible refine Kd.C_drewN ?_ _) | (with_reducible refine Kd.C_drew ?_)))
                (case side4 => exact HC1_3.out)
                rintro e w89 ⟨rfl, hb⟩
                refine ⟨_, rfl, ?_⟩
                have n0_ := Aside0.mk (Kd.R_below (by (with_reducible repeat (first | apply Kd.R_alloc | apply Kd.R_drewN | apply Kd.R_drew)); exact HO_200003.out) hb)
                have n1_ := Aside0.mk (Kd.R_below (by (with_reducible repeat (first | apply Kd.R_alloc | apply Kd.R_drewN | apply Kd.R_drew)); exact HO_215003.out) hb)
                have n2_ := Aside0.mk (blk_below (g := gb191) (o := .cells #[.int .u8 a1_0, .int .u8 a1_1, .int .i64 a1_2, .slice A1_3 l1_3.length c1_3] 24 (0, 0)) (by (with_reducible repeat (first | refine blk_drewN ?_ _ | refine blk_drew ?_ | refine blk_alloc ?_ _)); exact BK191.out) hb)
                have n3_ := Aside0.mk (blk_below (g := gb192) (o := .cells #[.int .u8 a2_0, .int .u8 a2_1, .int .i64 a2_2, .slice A2_3 l2_3.length c2_3] 24 (0, 0)) (by (with_reducible repeat (first | refine blk_drewN ?_ _ | refine blk_drew ?_ | refine blk_alloc ?_ _)); exact BK192.out) hb)
                have n4_ := Aside0.mk (blk_below (g := gb199) (o := .cells #[.int .u8 t193, .int .u8 t194, .int .i64 t195, .slice Ao31 t196.length co31] 24 (0, 0)) (by (with_reducible repeat (first | refine blk_drewN ?_ _ | refine blk_drew ?_ | refine blk_alloc ?_ _)); exact BK199.out) hb)
                have n5_ := Aside0.mk (blk_below (g := gb214) (o := .cells #[.int .u8 t208, .int .u8 t209, .int .i64 t210, .slice Ao46 t211.length co46] 24 (0, 0)) (by (with_reducible repeat (first | refine blk_drewN ?_ _ | refine blk_drew ?_ | refine blk_alloc ?_ _)); exact BK214.out) hb)
                have n6_ := Aside0.mk (below_step (by repeat (first | (with_reducible first | exact HB.out | apply below_alloc | apply pw_below_drewN | apply below_drew1 | refine below_set ?_ GE191.out | refine below_set ?_ GE192.out | refine below_set ?_ GE199.out | refine below_set ?_ GE214.out) | exact HB.out)) hb)
                clear HO_200003
                clear HO_215003
                clear BK191
                clear BK192
                clear BK199
                clear BK214
                clear HB
                have HO_200003 := n0_
                have HO_215003 := n1_
                have BK191 := n2_
                have BK192 := n3_
                have BK199 := n4_
                have BK214 := n5_
                have HB := n6_
                clear n0_ n1_ n2_ n3_ n4_ n5_ n6_
                (try clear hb)
                (try clear hb2)
                (try clear hk)
                (try clear hi)
                refine hK.out _ _ ⟨(blk_cell BK191.out 0).trans rfl, (blk_cell BK191.out 1).trans rfl, (blk_cell BK191.out 2).trans rfl, (blk_cell BK191.out 3).trans rfl, (blk_cell BK192.out 0).trans rfl, (blk_cell BK192.out 1).trans rfl, (blk_cell BK192.out 2).trans rfl, (blk_cell BK192.out 3).trans rfl, (blk_cell BK214.out 0).trans rfl, (blk_cell BK214.out 1).trans rfl, (blk_cell BK214.out 2).trans rfl, (blk_cell BK214.out 3).trans rfl⟩ (fun hHeld => ?_)
                clear hK K
                refine norm_ (a' := ?_) ?_ ?_
                rotate_left
                · show Act.put _ (some 108) _ = _
                  simp only [Act.put, List.setIfInBounds_toArray, List.set_cons_zero, List.set_cons_succ, i64_w, i32_w]
                  rfl
                refine pure_ (i := 11) (N := some 109) (v := ?_) (a' := ?_) #[true, true, true, true, true, true, true, true, true, true, true, true, false] rfl rfl (any_of HT_.out (by kernel_rfl)) (fun _ _ _ h => h) (Or.inl ⟨by rfl, ?_⟩) ?_ ?_
                rotate_left
                · intro w'
                  go_simp
                  with_reducible rfl
                rotate_left
                · simp only [Act.put, List.setIfInBounds_toArray, List.set_cons_zero, List.set_cons_succ, i64_w, i32_w]
                  rfl
                refine pure_ (i := 12) (N := some 24) (v := ?_) (a' := ?_) #[true, true, true, true, true, true, true, true, true, true, true, true, true] rfl rfl (any_of HT_.out (by kernel_rfl)) (fun _ _ _ h => h) (Or.inl ⟨by rfl, ?_⟩) ?_ ?_
                rotate_left
                · intro w'
                  go_simp
                  with_reducible rfl
                rotate_left
                · simp only [Act.put, List.setIfInBounds_toArray, List.set_cons_zero, List.set_cons_succ, i64_w, i32_w]
                  rfl
                refine done_ (done_of HT_.out (by kernel_rfl)) ?_
                try go_wp2
                go_meet
                case rel => exact ⟨_, (t221), (by first | rfl | (simp; done) | (simp [*]; done)), H', ⟨by have := HJ6.out; have := HJ22.out; first | omega | exact Nat.le_refl _⟩, ⟨by (with_reducible repeat (first | apply Kd.R_alloc | apply Kd.R_drewN | apply Kd.R_drew)); exact HO_200003.out⟩, ⟨by (with_reducible repeat (first | apply Kd.R_alloc | apply Kd.R_drewN | apply Kd.R_drew)); exact HO_215003.out⟩, ⟨by (with_reducible repeat (first | refine blk_drewN ?_ _ | refine blk_drew ?_ | refine blk_alloc ?_ _)); exact BK191.out⟩, ⟨by (with_reducible repeat (first | refine blk_drewN ?_ _ | refine blk_drew ?_ | refine blk_alloc ?_ _)); exact BK192.out⟩, ⟨by (with_reducible repeat (first | refine blk_drewN ?_ _ | refine blk_drew ?_ | refine blk_alloc ?_ _)); exact BK199.out⟩, ⟨by (with_reducible repeat (first | refine blk_drewN ?_ _ | refine blk_drew ?_ | refine blk_alloc ?_ _)); exact BK214.out⟩, ⟨by repeat (first | (with_reducible first | exact HB.out | apply below_alloc | apply pw_below_drewN | apply below_drew1 | refine below_set ?_ GE191.out | refine below_set ?_ GE192.out | refine below_set ?_ GE199.out | refine below_set ?_ GE214.out) | exact HB.out)⟩⟩
              · rw [if_neg c84] at H
                have c84b0 : (t219 == t220) = false := by simpa using c84
                (try (have c84b1 : decide (t219 = t220) = false := by simpa using c84))
                (try (have c84b2 : (t219 == t220) = false := by simpa using c84))
                (try (have c84b3 : ¬ (t219 = t220) := by simpa using c84))
                clear c84
                (first | rw [c84b0] | (simp only [i64_w, i32_w]; rw [c84b0]) | skip)
                have H' := Aside0.mk H
                clear H
                try go_wp2
                have n0_ := Aside0.mk (Kd.R_drew HO_200003.out)
                have n1_ := Aside0.mk (Kd.R_drew HO_215003.out)
                have n2_ := Aside0.mk (blk_drew BK191.out)
                have n3_ := Aside0.mk (blk_drew BK192.out)
                have n4_ := Aside0.mk (blk_drew BK199.out)
                have n5_ := Aside0.mk (blk_drew BK214.out)
                have n6_ := Aside0.mk (below_drew1 HB.out)
                clear HO_200003
                clear HO_215003
                clear BK191
                clear BK192
                clear BK199
                clear BK214
                clear HB
                have HO_200003 := n0_
                have HO_215003 := n1_
                have BK191 := n2_
                have BK192 := n3_
                have BK199 := n4_
                have BK214 := n5_
                have HB := n6_
                clear n0_ n1_ n2_ n3_ n4_ n5_ n6_
                refine start_ (n := 13) (S := fun w' => w'.cell? ⟨gb191, 0, none⟩ = some (.int .u8 a1_0) ∧ w'.cell? ⟨gb191, 1, none⟩ = some (.int .u8 a1_1) ∧ w'.cell? ⟨gb191, 2, none⟩ = some (.int .i64 a1_2) ∧ w'.cell? ⟨gb191, 3, none⟩ = some (.slice A1_3 l1_3.length c1_3) ∧ w'.cell? ⟨gb192, 0, none⟩ = some (.int .u8 a2_0) ∧ w'.cell? ⟨gb192, 1, none⟩ = some (.int .u8 a2_1) ∧ w'.cell? ⟨gb192, 2, none⟩ = some (.int .i64 a2_2) ∧ w'.cell? ⟨gb192, 3, none⟩ = some (.slice A2_3 l2_3.length c2_3)) (ds := []) #[false, false, false, false, false, false, false, false, false, false, false, false, false] (by kernel_rfl) rfl rfl ⟨(blk_cell BK191.out 0).trans rfl, (blk_cell BK191.out 1).trans rfl, (blk_cell BK191.out 2).trans rfl, (blk_cell BK191.out 3).trans rfl, (blk_cell BK192.out 0).trans rfl, (blk_cell BK192.out 1).trans rfl, (blk_cell BK192.out 2).trans rfl, (blk_cell BK192.out 3).trans rfl⟩ (fun hHeld => ?_); refine with_tabW reedpipelaw10_InfoTells.tab10 reedpipelaw10_InfoTells.bits10 (fun HT_ HW_ => ?_)
                generalize wc.drew = w90 at HO_200003 HO_215003 BK191 BK192 BK199 BK214 HB hHeld ⊢
                refine take_ (i := 0) (N := some 98) (v := ?_) (a' := ?_) #[true, false, false, false, false, false, false, false, false, false, false, false, false] rfl rfl (take_ofW HT_.out HW_.out (by kernel_rfl)) (fun _ _ _ h => h) (Or.inl ⟨by rfl, ?_⟩) hHeld ?_ ?_
                rotate_left
                · rintro w' ⟨s0, s1, s2, s3, s4, s5, s6, s7⟩
                  go_simp
                  with_reducible rfl
                rotate_left
                · simp only [Act.put, List.setIfInBounds_toArray, List.set_cons_zero, List.set_cons_succ, i64_w, i32_w]
                  rfl
                refine take_ (i := 1) (N := some 99) (v := ?_) (a' := ?_) #[true, true, false, false, false, false, false, false, false, false, false, false, false] rfl rfl (take_ofW HT_.out HW_.out (by kernel_rfl)) (fun _ _ _ h => h) (Or.inl ⟨by rfl, ?_⟩) hHeld ?_ ?_
                rotate_left
                · rintro w' ⟨s0, s1, s2, s3, s4, s5, s6, s7⟩
                  go_simp
                  with_reducible rfl
                rotate_left
                · simp only [Act.put, List.setIfInBounds_toArray, List.set_cons_zero, List.set_cons_succ, i64_w, i32_w]
                  rfl
                refine take_ (i := 3) (N := some 101) (v := ?_) (a' := ?_) #[true, true, false, true, false, false, false, false, false, false, false, false, false] rfl rfl (take_ofW HT_.out HW_.out (by kernel_rfl)) (fun _ _ _ h => h) (Or.inl ⟨by rfl, ?_⟩) hHeld ?_ ?_
                rotate_left
                · rintro w' ⟨s0, s1, s2, s3, s4, s5, s6, s7⟩
                  go_simp
                  with_reducible rfl
                rotate_left
                · simp only [Act.put, List.setIfInBounds_toArray, List.set_cons_zero, List.set_cons_succ, i64_w, i32_w]
                  rfl
                refine take_ (i := 4) (N := some 102) (v := ?_) (a' := ?_) #[true, true, false, true, true, false, false, false, false, false, false, false, false] rfl rfl (take_ofW HT_.out HW_.out (by kernel_rfl)) (fun _ _ _ h => h) (Or.inl ⟨by rfl, ?_⟩) hHeld ?_ ?_
                rotate_left
                · rintro w' ⟨s0, s1, s2, s3, s4, s5, s6, s7⟩
                  go_simp
                  with_reducible rfl
                rotate_left
                · simp only [Act.put, List.setIfInBounds_toArray, List.set_cons_zero, List.set_cons_succ, i64_w, i32_w]
                  rfl
                refine one_ (i := 2) (N := some 100) #[true, true, true, true, true, false, false, false, false, false, false, false, false] rfl rfl (one_of HT_.out (by kernel_rfl)) (by decide) (fun K hK => ?_)
                refine goes_ Try.func19 (by kernel_rfl) rfl #[.agg #[.int .u8 a1_0, .int .u8 a1_1, .int .i64 a1_2, .slice A1_3 l1_3.length c1_3], .agg #[.int .u8 a2_0, .int .u8 a2_1, .int .i64 a2_2, .slice A2_3 l2_3.length c2_3]] (by rfl) rfl rfl (by (try simp only [List.map_toArray, List.map_cons, List.map_nil]); first | done | rfl | (simp only [List.length_drop, List.length_take]; rfl)) ?_
                with_reducible refine (info_Same.calls kj22 a1_0 a1_1 a1_2 _ _ l1_3 a2_0 a2_1 a2_2 _ _ l2_3 t219 _ ?side1 ?side2 ?side3 ?side4 A82.out).mono ?_
                (case side1 => repeat (first | exact (Kd.C_below HR1_3.out HB.out) | (with_reducible refine Kd.C_alloc ?_ _) | (with_reducible refine Kd.C_drewN ?_ _) | (with_reducible refine Kd.C_drew ?_)))
                (case side2 => exact HC1_3.out)
                (case side3 => repeat (first | exact (Kd.C_below HR2_3.out HB.out) | (with_reducible refine Kd.C_alloc ?_ _) | (with_reducible refine Kd.C_drewN ?_ _) | (with_reducible refine Kd.C_drew ?_)))
                (case side4 => exact HC2_3.out)
                rintro e w91 ⟨rfl, hb⟩
                refine ⟨_, rfl, ?_⟩
                have n0_ := Aside0.mk (Kd.R_below (by (with_reducible repeat (first | apply Kd.R_alloc | apply Kd.R_drewN | apply Kd.R_drew)); exact HO_200003.out) hb)
                have n1_ := Aside0.mk (Kd.R_below (by (with_reducible repeat (first | apply Kd.R_alloc | apply Kd.R_drewN | apply Kd.R_drew)); exact HO_215003.out) hb)
                have n2_ := Aside0.mk (blk_below (g := gb191) (o := .cells #[.int .u8 a1_0, .int .u8 a1_1, .int .i64 a1_2, .slice A1_3 l1_3.length c1_3] 24 (0, 0)) (by (with_reducible repeat (first | refine blk_drewN ?_ _ | refine blk_drew ?_ | refine blk_alloc ?_ _)); exact BK191.out) hb)
                have n3_ := Aside0.mk (blk_below (g := gb192) (o := .cells #[.int .u8 a2_0, .int .u8 a2_1, .int .i64 a2_2, .slice A2_3 l2_3.length c2_3] 24 (0, 0)) (by (with_reducible repeat (first | refine blk_drewN ?_ _ | refine blk_drew ?_ | refine blk_alloc ?_ _)); exact BK192.out) hb)
                have n4_ := Aside0.mk (blk_below (g := gb199) (o := .cells #[.int .u8 t193, .int .u8 t194, .int .i64 t195, .slice Ao31 t196.length co31] 24 (0, 0)) (by (with_reducible repeat (first | refine blk_drewN ?_ _ | refine blk_drew ?_ | refine blk_alloc ?_ _)); exact BK199.out) hb)
                have n5_ := Aside0.mk (blk_below (g := gb214) (o := .cells #[.int .u8 t208, .int .u8 t209, .int .i64 t210, .slice Ao46 t211.length co46] 24 (0, 0)) (by (with_reducible repeat (first | refine blk_drewN ?_ _ | refine blk_drew ?_ | refine blk_alloc ?_ _)); exact BK214.out) hb)
                have n6_ := Aside0.mk (below_step (by repeat (first | (with_reducible first | exact HB.out | apply below_alloc | apply pw_below_drewN | apply below_drew1 | refine below_set ?_ GE191.out | refine below_set ?_ GE192.out | refine below_set ?_ GE199.out | refine below_set ?_ GE214.out) | exact HB.out)) hb)
                clear HO_200003
                clear HO_215003
                clear BK191
                clear BK192
                clear BK199
                clear BK214
                clear HB
                have HO_200003 := n0_
                have HO_215003 := n1_
                have BK191 := n2_
                have BK192 := n3_
                have BK199 := n4_
                have BK214 := n5_
                have HB := n6_
                clear n0_ n1_ n2_ n3_ n4_ n5_ n6_
                (try clear hb)
                (try clear hb2)
                (try clear hk)
                (try clear hi)
                refine hK.out _ _ ⟨(blk_cell BK191.out 0).trans rfl, (blk_cell BK191.out 1).trans rfl, (blk_cell BK191.out 2).trans rfl, (blk_cell BK191.out 3).trans rfl, (blk_cell BK192.out 0).trans rfl, (blk_cell BK192.out 1).trans rfl, (blk_cell BK192.out 2).trans rfl, (blk_cell BK192.out 3).trans rfl⟩ (fun hHeld => ?_)
                clear hK K
                refine norm_ (a' := ?_) ?_ ?_
                rotate_left
                · show Act.put _ (some 100) _ = _
                  simp only [Act.put, List.setIfInBounds_toArray, List.set_cons_zero, List.set_cons_succ, i64_w, i32_w]
                  rfl
                refine one_ (i := 5) (N := some 103) #[true, true, true, true, true, true, false, false, false, false, false, false, false] rfl rfl (one_of HT_.out (by kernel_rfl)) (by decide) (fun K hK => ?_)
                refine goes_ Try.func20 (by kernel_rfl) rfl #[.agg #[.int .u8 a1_0, .int .u8 a1_1, .int .i64 a1_2, .slice A1_3 l1_3.length c1_3], .agg #[.int .u8 a2_0, .int .u8 a2_1, .int .i64 a2_2, .slice A2_3 l2_3.length c2_3]] (by rfl) rfl rfl (by (try simp only [List.map_toArray, List.map_cons, List.map_nil]); first | done | rfl | (simp only [List.length_drop, List.length_take]; rfl)) ?_
                with_reducible refine (reedpiperef10_Same.calls kj22 a1_0 a1_1 a1_2 _ _ l1_3 a2_0 a2_1 a2_2 _ _ l2_3 t220 _ ?side1 ?side2 ?side3 ?side4 A83.out).mono ?_
                (case side1 => repeat (first | exact (Kd.C_below HR1_3.out HB.out) | (with_reducible refine Kd.C_alloc ?_ _) | (with_reducible refine Kd.C_drewN ?_ _) | (with_reducible refine Kd.C_drew ?_)))
                (case side2 => exact HC1_3.out)
                (case side3 => repeat (first | exact (Kd.C_below HR2_3.out HB.out) | (with_reducible refine Kd.C_alloc ?_ _) | (with_reducible refine Kd.C_drewN ?_ _) | (with_reducible refine Kd.C_drew ?_)))
                (case side4 => exact HC2_3.out)
                rintro e w92 ⟨rfl, hb⟩
                refine ⟨_, rfl, ?_⟩
                have n0_ := Aside0.mk (Kd.R_below (by (with_reducible repeat (first | apply Kd.R_alloc | apply Kd.R_drewN | apply Kd.R_drew)); exact HO_200003.out) hb)
                have n1_ := Aside0.mk (Kd.R_below (by (with_reducible repeat (first | apply Kd.R_alloc | apply Kd.R_drewN | apply Kd.R_drew)); exact HO_215003.out) hb)
                have n2_ := Aside0.mk (blk_below (g := gb191) (o := .cells #[.int .u8 a1_0, .int .u8 a1_1, .int .i64 a1_2, .slice A1_3 l1_3.length c1_3] 24 (0, 0)) (by (with_reducible repeat (first | refine blk_drewN ?_ _ | refine blk_drew ?_ | refine blk_alloc ?_ _)); exact BK191.out) hb)
                have n3_ := Aside0.mk (blk_below (g := gb192) (o := .cells #[.int .u8 a2_0, .int .u8 a2_1, .int .i64 a2_2, .slice A2_3 l2_3.length c2_3] 24 (0, 0)) (by (with_reducible repeat (first | refine blk_drewN ?_ _ | refine blk_drew ?_ | refine blk_alloc ?_ _)); exact BK192.out) hb)
                have n4_ := Aside0.mk (blk_below (g := gb199) (o := .cells #[.int .u8 t193, .int .u8 t194, .int .i64 t195, .slice Ao31 t196.length co31] 24 (0, 0)) (by (with_reducible repeat (first | refine blk_drewN ?_ _ | refine blk_drew ?_ | refine blk_alloc ?_ _)); exact BK199.out) hb)
                have n5_ := Aside0.mk (blk_below (g := gb214) (o := .cells #[.int .u8 t208, .int .u8 t209, .int .i64 t210, .slice Ao46 t211.length co46] 24 (0, 0)) (by (with_reducible repeat (first | refine blk_drewN ?_ _ | refine blk_drew ?_ | refine blk_alloc ?_ _)); exact BK214.out) hb)
                have n6_ := Aside0.mk (below_step (by repeat (first | (with_reducible first | exact HB.out | apply below_alloc | apply pw_below_drewN | apply below_drew1 | refine below_set ?_ GE191.out | refine below_set ?_ GE192.out | refine below_set ?_ GE199.out | refine below_set ?_ GE214.out) | exact HB.out)) hb)
                clear HO_200003
                clear HO_215003
                clear BK191
                clear BK192
                clear BK199
                clear BK214
                clear HB
                have HO_200003 := n0_
                have HO_215003 := n1_
                have BK191 := n2_
                have BK192 := n3_
                have BK199 := n4_
                have BK214 := n5_
                have HB := n6_
                clear n0_ n1_ n2_ n3_ n4_ n5_ n6_
                (try clear hb)
                (try clear hb2)
                (try clear hk)
                (try clear hi)
                refine hK.out _ _ ⟨(blk_cell BK191.out 0).trans rfl, (blk_cell BK191.out 1).trans rfl, (blk_cell BK191.out 2).trans rfl, (blk_cell BK191.out 3).trans rfl, (blk_cell BK192.out 0).trans rfl, (blk_cell BK192.out 1).trans rfl, (blk_cell BK192.out 2).trans rfl, (blk_cell BK192.out 3).trans rfl⟩ (fun hHeld => ?_)
                clear hK K
                refine norm_ (a' := ?_) ?_ ?_
                rotate_left
                · show Act.put _ (some 103) _ = _
                  simp only [Act.put, List.setIfInBounds_toArray, List.set_cons_zero, List.set_cons_succ, i64_w, i32_w]
                  rfl
                refine pure_ (i := 6) (N := some 104) (v := ?_) (a' := ?_) #[true, true, true, true, true, true, true, false, false, false, false, false, false] rfl rfl (any_of HT_.out (by kernel_rfl)) (fun _ _ _ h => h) (Or.inl ⟨by rfl, ?_⟩) ?_ ?_
                rotate_left
                · intro w'
                  go_simp
                  with_reducible rfl
                rotate_left
                · simp only [Act.put, List.setIfInBounds_toArray, List.set_cons_zero, List.set_cons_succ, i64_w, i32_w]
                  rfl
                refine pure_ (i := 7) (N := some 105) (v := ?_) (a' := ?_) #[true, true, true, true, true, true, true, true, false, false, false, false, false] rfl rfl (any_of HT_.out (by kernel_rfl)) (fun _ _ _ h => h) (Or.inl ⟨by rfl, ?_⟩) ?_ ?_
                rotate_left
                · intro w'
                  go_simp
                  with_reducible rfl
                rotate_left
                · simp only [Act.put, List.setIfInBounds_toArray, List.set_cons_zero, List.set_cons_succ, i64_w, i32_w]
                  rfl
                refine pure_ (i := 8) (N := some 106) (v := undef) (a' := ?_) #[true, true, true, true, true, true, true, true, true, false, false, false, false] rfl rfl (any_of HT_.out (by kernel_rfl)) (fun _ _ _ h => h) (Or.inr ⟨by rfl, rfl⟩) ?_ ?_
                rotate_left
                · simp only [Act.put, List.setIfInBounds_toArray, List.set_cons_zero, List.set_cons_succ, i64_w, i32_w]
                  rfl
                refine pure_ (i := 9) (N := some 107) (v := undef) (a' := ?_) #[true, true, true, true, true, true, true, true, true, true, false, false, false] rfl rfl (any_of HT_.out (by kernel_rfl)) (fun _ _ _ h => h) (Or.inr ⟨by rfl, rfl⟩) ?_ ?_
                rotate_left
                · simp only [Act.put, List.setIfInBounds_toArray, List.set_cons_zero, List.set_cons_succ, i64_w, i32_w]
                  rfl
                refine pure_ (i := 10) (N := some 108) (v := undef) (a' := ?_) #[true, true, true, true, true, true, true, true, true, true, true, false, false] rfl rfl (any_of HT_.out (by kernel_rfl)) (fun _ _ _ h => h) (Or.inr ⟨by rfl, rfl⟩) ?_ ?_
                rotate_left
                · simp only [Act.put, List.setIfInBounds_toArray, List.set_cons_zero, List.set_cons_succ, i64_w, i32_w]
                  rfl
                refine pure_ (i := 11) (N := some 109) (v := ?_) (a' := ?_) #[true, true, true, true, true, true, true, true, true, true, true, true, false] rfl rfl (any_of HT_.out (by kernel_rfl)) (fun _ _ _ h => h) (Or.inl ⟨by rfl, ?_⟩) ?_ ?_
                rotate_left
                · intro w'
                  go_simp
                  with_reducible rfl
                rotate_left
                · simp only [Act.put, List.setIfInBounds_toArray, List.set_cons_zero, List.set_cons_succ, i64_w, i32_w]
                  rfl
                refine pure_ (i := 12) (N := some 24) (v := ?_) (a' := ?_) #[true, true, true, true, true, true, true, true, true, true, true, true, true] rfl rfl (any_of HT_.out (by kernel_rfl)) (fun _ _ _ h => h) (Or.inl ⟨by rfl, ?_⟩) ?_ ?_
                rotate_left
                · intro w'
                  go_simp
                  with_reducible rfl
                rotate_left
                · simp only [Act.put, List.setIfInBounds_toArray, List.set_cons_zero, List.set_cons_succ, i64_w, i32_w]
                  rfl
                refine done_ (done_of HT_.out (by kernel_rfl)) ?_
                try go_wp2
                go_meet
                case rel => exact ⟨_, (false), (by first | rfl | (simp; done) | (simp [*]; done)), H', ⟨by have := HJ6.out; have := HJ22.out; first | omega | exact Nat.le_refl _⟩, ⟨by (with_reducible repeat (first | apply Kd.R_alloc | apply Kd.R_drewN | apply Kd.R_drew)); exact HO_200003.out⟩, ⟨by (with_reducible repeat (first | apply Kd.R_alloc | apply Kd.R_drewN | apply Kd.R_drew)); exact HO_215003.out⟩, ⟨by (with_reducible repeat (first | refine blk_drewN ?_ _ | refine blk_drew ?_ | refine blk_alloc ?_ _)); exact BK191.out⟩, ⟨by (with_reducible repeat (first | refine blk_drewN ?_ _ | refine blk_drew ?_ | refine blk_alloc ?_ _)); exact BK192.out⟩, ⟨by (with_reducible repeat (first | refine blk_drewN ?_ _ | refine blk_drew ?_ | refine blk_alloc ?_ _)); exact BK199.out⟩, ⟨by (with_reducible repeat (first | refine blk_drewN ?_ _ | refine blk_drew ?_ | refine blk_alloc ?_ _)); exact BK214.out⟩, ⟨by repeat (first | (with_reducible first | exact HB.out | apply below_alloc | apply pw_below_drewN | apply below_drew1 | refine below_set ?_ GE191.out | refine below_set ?_ GE192.out | refine below_set ?_ GE199.out | refine below_set ?_ GE214.out) | exact HB.out)⟩⟩
            case rest =>
              clear HC81
              try clear c1
              try clear c2
              try clear p2
              try clear c4
              try clear c8
              try clear c15
              try clear c16
              try clear c19
              try clear c20
              try clear c49
              try clear c49b0
              try clear c49b1
              try clear c84
              try clear c84b0
              try clear c84b1
              try clear c84b2
              try clear p2
              obtain ⟨kq, x24_80, rfl, HA, HJ80, HO_200003, HO_215003, BK191, BK192, BK199, BK214, HB⟩ := hcut
              cases kq with
              | zero => exact absurd HA.out (by simp [reedpipelaw10_InfoTells.j2])
              | succ kj80 =>
                have H := HA.out
                clear HA
                simp only [reedpipelaw10_InfoTells.j2] at H
                have H' := Aside0.mk H
                clear H
                go_wp2
                go_loopg [25] kj80 (fun kq v25 w' => ∃ (x25_4 : Int) (x200003_4 : List Int) (x215003_4 : List Int) (u200003 : Value) (u215003 : Value), v25 = .int .i64 x25_4 ∧ Aside0 (reedpipelaw10_InfoTells.l0 kq x23_22 x24_80 x25_4 a1_0 a1_1 a1_2 l1_3 t193 t194 t195 x200003_4 t208 t209 t210 x215003_4 = some r) ∧ Aside0 (kq ≤ kj80) ∧ Aside0 (Kd.R (Kd.int .i64) 3 w' w.heap.size (fun k_ => some k_ ≠ (u215003 : Value).ownBlock) u200003 x200003_4) ∧ Aside0 (Kd.R (Kd.int .i64) 3 w' w.heap.size (fun k_ => some k_ ≠ (u200003 : Value).ownBlock) u215003 x215003_4) ∧ Aside0 (w'.heap[gb191]? = some (.cells #[.int .u8 a1_0, .int .u8 a1_1, .int .i64 a1_2, (.slice A1_3 l1_3.length c1_3)] 24 (0, 0))) ∧ Aside0 (w'.heap[gb192]? = some (.cells #[.int .u8 a2_0, .int .u8 a2_1, .int .i64 a2_2, (.slice A2_3 l2_3.length c2_3)] 24 (0, 0))) ∧ Aside0 (w'.heap[gb199]? = some (.cells #[.int .u8 t193, .int .u8 t194, .int .i64 t195, u200003] 24 (0, 0))) ∧ Aside0 (w'.heap[gb214]? = some (.cells #[.int .u8 t208, .int .u8 t209, .int .i64 t210, u215003] 24 (0, 0))) ∧ Aside0 (Below w.heap.size w w'))
                case atStart => exact ⟨(0), (t196), (t211), (.slice Ao31 t196.length co31), (.slice Ao46 t211.length co46), (by first | rfl | (simp; done) | (simp [*]; done)), H', ⟨Nat.le_refl _⟩, ⟨by (with_reducible repeat (first | apply Kd.R_alloc | apply Kd.R_drewN | apply Kd.R_drew)); exact HO_200003.out⟩, ⟨by (with_reducible repeat (first | apply Kd.R_alloc | apply Kd.R_drewN | apply Kd.R_drew)); exact HO_215003.out⟩, ⟨by (with_reducible repeat (first | refine blk_drewN ?_ _ | refine blk_drew ?_ | refine blk_alloc ?_ _)); exact BK191.out⟩, ⟨by (with_reducible repeat (first | refine blk_drewN ?_ _ | refine blk_drew ?_ | refine blk_alloc ?_ _)); exact BK192.out⟩, ⟨by (with_reducible repeat (first | refine blk_drewN ?_ _ | refine blk_drew ?_ | refine blk_alloc ?_ _)); exact BK199.out⟩, ⟨by (with_reducible repeat (first | refine blk_drewN ?_ _ | refine blk_drew ?_ | refine blk_alloc ?_ _)); exact BK214.out⟩, ⟨by repeat (first | (with_reducible first | exact HB.out | apply below_alloc | apply pw_below_drewN | apply below_drew1 | refine below_set ?_ GE191.out | refine below_set ?_ GE192.out | refine below_set ?_ GE199.out | refine below_set ?_ GE214.out) | exact HB.out)⟩⟩
                case round =>
                  clear H'
                  try clear c1
                  try clear c2
                  try clear p2
                  try clear c4
                  try clear c8
                  try clear c15
                  try clear c16
                  try clear c19
                  try clear c20
                  try clear c49
                  try clear c49b0
                  try clear c49b1
                  try clear c84
                  try clear c84b0
                  try clear c84b1
                  try clear c84b2
                  try clear p2
                  obtain ⟨x25_4, x200003_4, x215003_4, u200003, u215003, rfl, HA, HK4, HO_200003, HO_215003, BK191, BK192, BK199, BK214, HB⟩ := hrel
                  cases gk with
                  | zero => exact absurd HA.out (by simp [reedpipelaw10_InfoTells.l0])
                  | succ k4 =>
                    have H := HA.out
                    clear HA
                    simp only [reedpipelaw10_InfoTells.l0] at H
                    by_cases c93 : x25_4 < (x215003_4.length : Int)
                    · rw [if_pos c93] at H
                      have c93b0 : decide (x25_4 < (x215003_4.length : Int)) = true := decide_eq_true c93
                      clear c93
                      by_cases c94 : 0 ≤ x25_4
                      · rw [if_pos c94] at H
                        have c94b0 : decide (0 ≤ x25_4) = true := decide_eq_true c94
                        clear c94
                        obtain ⟨y223, hy223⟩ : ∃ y_ : List Int, y_ = (x215003_4.set (x25_4 : Int).toNat (wrap64 ((rd x215003_4 x25_4) + 1))) := ⟨_, rfl⟩
                        replace H : (reedpipelaw10_InfoTells.l0 k4 x23_22 x24_80 (wrap64 (x25_4 + 1)) a1_0 a1_1 a1_2 l1_3 t193 t194 t195 x200003_4 t208 t209 t210 y223) = some r := by first | (rw [hy223]; with_reducible exact H) | (have H2_ := (Option.bind_some _ _).symm.trans H; rw [hy223]; with_reducible exact H2_) | (have H2_ := (Option.bind_some _ _).symm.trans H; with_reducible exact H2_) | with_reducible exact H | (rw [hy223]; exact H) | exact H
                        have Ny223 := Aside0.mk hy223
                        clear hy223
                        have H' := Aside0.mk H
                        clear H
                        have hnb96 := NB214_191.out
                        have hnc96 := NB191_214.out
                        have hnb97 := NB214_192.out
                        have hnc97 := NB192_214.out
                        have hnb98 := NB214_199.out
                        have hnc98 := NB199_214.out
                        have hcz99_0 : wr.cell? ⟨gb214, 0, none⟩ = some (.int .u8 t208) := (blk_cell BK214.out 0).trans rfl
                        have hcz99_1 : wr.cell? ⟨gb214, 1, none⟩ = some (.int .u8 t209) := (blk_cell BK214.out 1).trans rfl
                        have hcz99_2 : wr.cell? ⟨gb214, 2, none⟩ = some (.int .i64 t210) := (blk_cell BK214.out 2).trans rfl
                        have hcz99_3 : wr.cell? ⟨gb214, 3, none⟩ = some (u215003) := (blk_cell BK214.out 3).trans rfl
                        have hfz99_0 := blk_frozen BK214.out 0
                        have hfz99_1 := blk_frozen BK214.out 1
                        have hfz99_2 := blk_frozen BK214.out 2
                        have hfz99_3 := blk_frozen BK214.out 3
                        obtain ⟨Ao100, co100, eo100⟩ := Kd.R_slice HO_215003.out
                        subst eo100
                        have p222 : 0 ≤ (x25_4 : Int) := of_decide_eq_true (by first | (with_reducible assumption) | assumption)
                        have q222 : x25_4 < (x215003_4.length : Int) := of_decide_eq_true (by first | (with_reducible assumption) | assumption)
                        obtain ⟨ad222, e222, hx222_0⟩ := Kd.at_int (Kd.R_reads' HO_215003.out).2.2 x25_4 p222 q222
                        cases e222
                        replace p222 := eq_true p222
                        replace q222 := eq_true q222
                        have p95 : 0 ≤ (x25_4 : Int) := of_decide_eq_true (by first | (with_reducible assumption) | assumption)
                        have q95 : (x25_4 : Int) < ((x215003_4.length : Int) : Int) := of_decide_eq_true (by first | (with_reducible assumption) | assumption)
                        obtain ⟨go95, co95, eo95, gb95, gl95, cl95, HG95⟩ := Kd.R_form HO_215003.out (by omega)
                        (first | cases eo95 | (injection eo95 with ea_ en_ ec_; (first | subst ea_ | (injection ea_ with ea_; subst ea_)); subst ec_; clear en_))
                        have GB95 := Aside0.mk gb95
                        have GG95 := Aside0.mk HG95
                        clear gb95 gl95 HG95
                        (first | simp only [add_plain] at hx222_0 | skip)
                        obtain ⟨hx95_0, hf95_0⟩ := Kd.R_celln 0 HO_215003.out (x25_4 : Int) p95 q95
                        replace p95 := eq_true p95
                        replace q95 := eq_true q95
                        have HP101 := Kd.R_putg HO_215003.out (x25_4 : Int) (wrap64 ((rd x215003_4 x25_4) + 1))
                        go_wp2_with (first | ((with_reducible refine gate_store (t := 3) (p := 123) rfl ?_); refine store_event (t := 3) (p := 123) (v := ?vo_w102) (w1 := (wr.setCell ⟨go95, (x25_4 : Int).toNat, none⟩ (.int .i64 (wrap64 ((rd x215003_4 x25_4) + 1))))) ?hg ?ho ?hn ?hr ?_; (case ho => rfl); (case hg => rfl); (case hn => rfl); (case hr => first | (go_simp; done) | (go_simp; rfl)); intro w102 hw; have hg : wr.grownBy w102 (some go95) := (by rw [hw]; exact HP101.2); have hp_ : Kd.R (Kd.int .i64) 3 w102 w.heap.size (fun k_ => some k_ ≠ (u200003 : Value).ownBlock) (.slice (some ⟨go95, 0, none⟩) x215003_4.length co100) y223 := (by rw [hw, Ny223.out]; exact HP101.1); clear HP101; have n0_ := Aside0.mk (Kd.R_after (v := (.slice (some ⟨go95, 0, none⟩) x215003_4.length co100)) (v1 := (.slice (some ⟨go95, 0, none⟩) x215003_4.length co100)) (ok := (fun _ => True)) (by (with_reducible repeat (first | apply Kd.R_alloc | apply Kd.R_drewN | apply Kd.R_drew)); exact Kd.R_mono HO_200003.out (fun _ hk => ⟨trivial, hk⟩)) hg (.inl rfl)); have n1_ := Aside0.mk (hp_); have n2_ := Aside0.mk (blk_grown (g := gb191) (o := .cells #[.int .u8 a1_0, .int .u8 a1_1, .int .i64 a1_2, .slice A1_3 l1_3.length c1_3] 24 (0, 0)) (by (with_reducible repeat (first | refine blk_drewN ?_ _ | refine blk_drew ?_ | refine blk_alloc ?_ _)); exact BK191.out) hg (Kd.R_ne HO_215003.out BK191.out (by decide))); have n3_ := Aside0.mk (blk_grown (g := gb192) (o := .cells #[.int .u8 a2_0, .int .u8 a2_1, .int .i64 a2_2, .slice A2_3 l2_3.length c2_3] 24 (0, 0)) (by (with_reducible repeat (first | refine blk_drewN ?_ _ | refine blk_drew ?_ | refine blk_alloc ?_ _)); exact BK192.out) hg (Kd.R_ne HO_215003.out BK192.out (by decide))); have n4_ := Aside0.mk (blk_grown (g := gb199) (o := .cells #[.int .u8 t193, .int .u8 t194, .int .i64 t195, u200003] 24 (0, 0)) (by (with_reducible repeat (first | refine blk_drewN ?_ _ | refine blk_drew ?_ | refine blk_alloc ?_ _)); exact BK199.out) hg (Kd.R_ne HO_215003.out BK199.out (by decide))); have n5_ := Aside0.mk (blk_grown (g := gb214) (o := .cells #[.int .u8 t208, .int .u8 t209, .int .i64 t210, .slice (some ⟨go95, 0, none⟩) x215003_4.length co100] 24 (0, 0)) (by (with_reducible repeat (first | refine blk_drewN ?_ _ | refine blk_drew ?_ | refine blk_alloc ?_ _)); exact BK214.out) hg (Kd.R_ne HO_215003.out BK214.out (by decide))); have n6_ := Aside0.mk ((by rw [hw]; exact below_set (HB.out) GB95.out : Below w.heap.size w w102)); clear HO_200003; clear HO_215003; clear BK191; clear BK192; clear BK199; clear BK214; clear HB; have HO_200003 := n0_; have HO_215003 := n1_; have BK191 := n2_; have BK192 := n3_; have BK199 := n4_; have BK214 := n5_; have HB := n6_; clear n0_ n1_ n2_ n3_ n4_ n5_ n6_; clear hg hw hp_))
                        go_roundg k4
                        case measure => have := HJ6.out; have := HJ22.out; have := HJ80.out; have := HK4.out; omega
                        case rel => exact ⟨(wrap64 (x25_4 + 1)), (x200003_4), (y223), (u200003), (.slice (some ⟨go95, 0, none⟩) x215003_4.length co100), (by first | rfl | (simp; done) | (simp [*]; done)), H', ⟨by have := HJ6.out; have := HJ22.out; have := HJ80.out; have := HK4.out; omega⟩, ⟨by (with_reducible repeat (first | apply Kd.R_alloc | apply Kd.R_drewN | apply Kd.R_drew)); exact Kd.R_mono HO_200003.out (fun _ hk => hk.2)⟩, ⟨by (with_reducible repeat (first | apply Kd.R_alloc | apply Kd.R_drewN | apply Kd.R_drew)); exact HO_215003.out⟩, ⟨by (with_reducible repeat (first | refine blk_drewN ?_ _ | refine blk_drew ?_ | refine blk_alloc ?_ _)); exact BK191.out⟩, ⟨by (with_reducible repeat (first | refine blk_drewN ?_ _ | refine blk_drew ?_ | refine blk_alloc ?_ _)); exact BK192.out⟩, ⟨by (with_reducible repeat (first | refine blk_drewN ?_ _ | refine blk_drew ?_ | refine blk_alloc ?_ _)); exact BK199.out⟩, ⟨by (with_reducible repeat (first | refine blk_drewN ?_ _ | refine blk_drew ?_ | refine blk_alloc ?_ _)); exact BK214.out⟩, ⟨by repeat (first | (with_reducible first | exact HB.out | apply below_alloc | apply pw_below_drewN | apply below_drew1 | refine below_set ?_ GE191.out | refine below_set ?_ GE192.out | refine below_set ?_ GE199.out | refine below_set ?_ GE214.out) | exact HB.out)⟩⟩
                      · rw [if_neg c94] at H
                        exact absurd H (by simp)
                    · rw [if_neg c93] at H
                      have c93b0 : decide (x25_4 < (x215003_4.length : Int)) = false := decide_eq_false c93
                      clear c93
                      by_cases c103 : x23_22 = true
                      · subst c103
                        have H1 : (if x24_80 = true then ((reedpiperef10_Same.f k4 t193 t194 t195 x200003_4 a1_0 a1_1 a1_2 l1_3).bind fun t224 => (some t224)) else (some false)) = some r := by rw [if_pos rfl] at H; exact H
                        clear H
                        have H := H1
                        clear H1
                        by_cases c104 : x24_80 = true
                        · subst c104
                          have H1 : ((reedpiperef10_Same.f k4 t193 t194 t195 x200003_4 a1_0 a1_1 a1_2 l1_3).bind fun t224 => (some t224)) = some r := by rw [if_pos rfl] at H; exact H
                          clear H
                          have H := H1
                          clear H1
                          replace H := Option.bind_eq_some_iff.mp H
                          obtain ⟨t224, A1050, H⟩ := H
                          replace H : (some t224) = some r := H
                          have A105 := Aside0.mk A1050
                          clear A1050
                          obtain rfl := Option.some.inj H
                          have hnb106 := NB214_191.out
                          have hnc106 := NB191_214.out
                          have hnb107 := NB214_192.out
                          have hnc107 := NB192_214.out
                          have hnb108 := NB214_199.out
                          have hnc108 := NB199_214.out
                          have hcz109_0 : wr.cell? ⟨gb214, 0, none⟩ = some (.int .u8 t208) := (blk_cell BK214.out 0).trans rfl
                          have hcz109_1 : wr.cell? ⟨gb214, 1, none⟩ = some (.int .u8 t209) := (blk_cell BK214.out 1).trans rfl
                          have hcz109_2 : wr.cell? ⟨gb214, 2, none⟩ = some (.int .i64 t210) := (blk_cell BK214.out 2).trans rfl
                          have hcz109_3 : wr.cell? ⟨gb214, 3, none⟩ = some (u215003) := (blk_cell BK214.out 3).trans rfl
                          have hfz109_0 := blk_frozen BK214.out 0
                          have hfz109_1 := blk_frozen BK214.out 1
                          have hfz109_2 := blk_frozen BK214.out 2
                          have hfz109_3 := blk_frozen BK214.out 3
                          obtain ⟨Ao110, co110, eo110⟩ := Kd.R_slice HO_215003.out
                          subst eo110
                          have hnb111 := NB199_191.out
                          have hnc111 := NB191_199.out
                          have hnb112 := NB199_192.out
                          have hnc112 := NB192_199.out
                          have hcz113_0 : wr.cell? ⟨gb199, 0, none⟩ = some (.int .u8 t193) := (blk_cell BK199.out 0).trans rfl
                          have hcz113_1 : wr.cell? ⟨gb199, 1, none⟩ = some (.int .u8 t194) := (blk_cell BK199.out 1).trans rfl
                          have hcz113_2 : wr.cell? ⟨gb199, 2, none⟩ = some (.int .i64 t195) := (blk_cell BK199.out 2).trans rfl
                          have hcz113_3 : wr.cell? ⟨gb199, 3, none⟩ = some (u200003) := (blk_cell BK199.out 3).trans rfl
                          have hfz113_0 := blk_frozen BK199.out 0
                          have hfz113_1 := blk_frozen BK199.out 1
                          have hfz113_2 := blk_frozen BK199.out 2
                          have hfz113_3 := blk_frozen BK199.out 3
                          have hnb114 := NB191_192.out
                          have hnc114 := NB192_191.out
                          have hcz115_0 : wr.cell? ⟨gb191, 0, none⟩ = some (.int .u8 a1_0) := (blk_cell BK191.out 0).trans rfl
                          have hcz115_1 : wr.cell? ⟨gb191, 1, none⟩ = some (.int .u8 a1_1) := (blk_cell BK191.out 1).trans rfl
                          have hcz115_2 : wr.cell? ⟨gb191, 2, none⟩ = some (.int .i64 a1_2) := (blk_cell BK191.out 2).trans rfl
                          have hcz115_3 : wr.cell? ⟨gb191, 3, none⟩ = some (.slice A1_3 l1_3.length c1_3) := (blk_cell BK191.out 3).trans rfl
                          have hfz115_0 := blk_frozen BK191.out 0
                          have hfz115_1 := blk_frozen BK191.out 1
                          have hfz115_2 := blk_frozen BK191.out 2
                          have hfz115_3 := blk_frozen BK191.out 3
                          obtain ⟨Ao116, co116, eo116⟩ := Kd.R_slice HO_200003.out
                          subst eo116
                          go_wp2_with (first | (go_at_call 20; (with_reducible refine (reedpiperef10_Same.calls k4 t193 t194 t195 _ _ x200003_4 a1_0 a1_1 a1_2 _ _ l1_3 t224 _ ?side1 ?side2 ?side3 ?side4 A105.out).mono ?_); (case side1 => repeat (first | exact (Kd.R_reads' HO_200003.out).2.2 | (with_reducible refine Kd.C_alloc ?_ _) | (with_reducible refine Kd.C_drewN ?_ _) | (with_reducible refine Kd.C_drew ?_))); (case side2 => exact (Kd.R_reads' HO_200003.out).2.1); (case side3 => repeat (first | exact (Kd.C_below HR1_3.out HB.out) | (with_reducible refine Kd.C_alloc ?_ _) | (with_reducible refine Kd.C_drewN ?_ _) | (with_reducible refine Kd.C_drew ?_))); (case side4 => exact HC1_3.out); rintro e w117 ⟨rfl, hb⟩; have n0_ := Aside0.mk (Kd.R_below (by (with_reducible repeat (first | apply Kd.R_alloc | apply Kd.R_drewN | apply Kd.R_drew)); exact HO_200003.out) hb); have n1_ := Aside0.mk (Kd.R_below (by (with_reducible repeat (first | apply Kd.R_alloc | apply Kd.R_drewN | apply Kd.R_drew)); exact HO_215003.out) hb); have n2_ := Aside0.mk (blk_below (g := gb191) (o := .cells #[.int .u8 a1_0, .int .u8 a1_1, .int .i64 a1_2, .slice A1_3 l1_3.length c1_3] 24 (0, 0)) (by (with_reducible repeat (first | refine blk_drewN ?_ _ | refine blk_drew ?_ | refine blk_alloc ?_ _)); exact BK191.out) hb); have n3_ := Aside0.mk (blk_below (g := gb192) (o := .cells #[.int .u8 a2_0, .int .u8 a2_1, .int .i64 a2_2, .slice A2_3 l2_3.length c2_3] 24 (0, 0)) (by (with_reducible repeat (first | refine blk_drewN ?_ _ | refine blk_drew ?_ | refine blk_alloc ?_ _)); exact BK192.out) hb); have n4_ := Aside0.mk (blk_below (g := gb199) (o := .cells #[.int .u8 t193, .int .u8 t194, .int .i64 t195, .slice Ao116 x200003_4.length co116] 24 (0, 0)) (by (with_reducible repeat (first | refine blk_drewN ?_ _ | refine blk_drew ?_ | refine blk_alloc ?_ _)); exact BK199.out) hb); have n5_ := Aside0.mk (blk_below (g := gb214) (o := .cells #[.int .u8 t208, .int .u8 t209, .int .i64 t210, .slice Ao110 x215003_4.length co110] 24 (0, 0)) (by (with_reducible repeat (first | refine blk_drewN ?_ _ | refine blk_drew ?_ | refine blk_alloc ?_ _)); exact BK214.out) hb); have n6_ := Aside0.mk (below_step (by repeat (first | (with_reducible first | exact HB.out | apply below_alloc | apply pw_below_drewN | apply below_drew1 | refine below_set ?_ GE191.out | refine below_set ?_ GE192.out | refine below_set ?_ GE199.out | refine below_set ?_ GE214.out) | exact HB.out)) hb); clear HO_200003; clear HO_215003; clear BK191; clear BK192; clear BK199; clear BK214; clear HB; have HO_200003 := n0_; have HO_215003 := n1_; have BK191 := n2_; have BK192 := n3_; have BK199 := n4_; have BK214 := n5_; have HB := n6_; clear n0_ n1_ n2_ n3_ n4_ n5_ n6_; (try clear hb); (try clear hb2); (try clear hk); (try clear hi)))
                          go_ret
                          exact ⟨by first | rfl | (simp [errW_none, errW_some] <;> rfl) | (simp [*, errW_none, errW_some] <;> rfl), by repeat (first | (with_reducible first | exact HB.out | apply below_alloc | apply pw_below_drewN | apply below_drew1 | refine below_set ?_ GE191.out | refine below_set ?_ GE192.out | refine below_set ?_ GE199.out | refine below_set ?_ GE214.out) | exact HB.out)⟩
                        · replace c104 := Bool.eq_false_iff.mpr c104
                          subst c104
                          have H1 : (some false) = some r := by rw [if_neg (show ¬ (false = true) by decide)] at H; exact H
                          clear H
                          have H := H1
                          clear H1
                          obtain rfl := Option.some.inj H
                          have hnb118 := NB214_191.out
                          have hnc118 := NB191_214.out
                          have hnb119 := NB214_192.out
                          have hnc119 := NB192_214.out
                          have hnb120 := NB214_199.out
                          have hnc120 := NB199_214.out
                          have hcz121_0 : wr.cell? ⟨gb214, 0, none⟩ = some (.int .u8 t208) := (blk_cell BK214.out 0).trans rfl
                          have hcz121_1 : wr.cell? ⟨gb214, 1, none⟩ = some (.int .u8 t209) := (blk_cell BK214.out 1).trans rfl
                          have hcz121_2 : wr.cell? ⟨gb214, 2, none⟩ = some (.int .i64 t210) := (blk_cell BK214.out 2).trans rfl
                          have hcz121_3 : wr.cell? ⟨gb214, 3, none⟩ = some (u215003) := (blk_cell BK214.out 3).trans rfl
                          have hfz121_0 := blk_frozen BK214.out 0
                          have hfz121_1 := blk_frozen BK214.out 1
                          have hfz121_2 := blk_frozen BK214.out 2
                          have hfz121_3 := blk_frozen BK214.out 3
                          obtain ⟨Ao122, co122, eo122⟩ := Kd.R_slice HO_215003.out
                          subst eo122
                          go_wp2
                          go_ret
                          exact ⟨by first | rfl | (simp [errW_none, errW_some] <;> rfl) | (simp [*, errW_none, errW_some] <;> rfl), by repeat (first | (with_reducible first | exact HB.out | apply below_alloc | apply pw_below_drewN | apply below_drew1 | refine below_set ?_ GE191.out | refine below_set ?_ GE192.out | refine below_set ?_ GE199.out | refine below_set ?_ GE214.out) | exact HB.out)⟩
                      · replace c103 := Bool.eq_false_iff.mpr c103
                        subst c103
                        have H1 : (some false) = some r := by rw [if_neg (show ¬ (false = true) by decide)] at H; exact H
                        clear H
                        have H := H1
                        clear H1
                        obtain rfl := Option.some.inj H
                        have hnb123 := NB214_191.out
                        have hnc123 := NB191_214.out
                        have hnb124 := NB214_192.out
                        have hnc124 := NB192_214.out
                        have hnb125 := NB214_199.out
                        have hnc125 := NB199_214.out
                        have hcz126_0 : wr.cell? ⟨gb214, 0, none⟩ = some (.int .u8 t208) := (blk_cell BK214.out 0).trans rfl
                        have hcz126_1 : wr.cell? ⟨gb214, 1, none⟩ = some (.int .u8 t209) := (blk_cell BK214.out 1).trans rfl
                        have hcz126_2 : wr.cell? ⟨gb214, 2, none⟩ = some (.int .i64 t210) := (blk_cell BK214.out 2).trans rfl
                        have hcz126_3 : wr.cell? ⟨gb214, 3, none⟩ = some (u215003) := (blk_cell BK214.out 3).trans rfl
                        have hfz126_0 := blk_frozen BK214.out 0
                        have hfz126_1 := blk_frozen BK214.out 1
                        have hfz126_2 := blk_frozen BK214.out 2
                        have hfz126_3 := blk_frozen BK214.out 3
                        obtain ⟨Ao127, co127, eo127⟩ := Kd.R_slice HO_215003.out
                        subst eo127
                        go_wp2
                        go_ret
                        exact ⟨by first | rfl | (simp [errW_none, errW_some] <;> rfl) | (simp [*, errW_none, errW_some] <;> rfl), by repeat (first | (with_reducible first | exact HB.out | apply below_alloc | apply pw_below_drewN | apply below_drew1 | refine below_set ?_ GE191.out | refine below_set ?_ GE192.out | refine below_set ?_ GE199.out | refine below_set ?_ GE214.out) | exact HB.out)⟩

end Go.Proofs.Ytdoeclpbobjgdaa.K
end
section
/- The law InfoTells of the windows' chapter: whether windows may be, how many, one's group, what may follow, comparisons and copies are the document's; for every input. -/
namespace Go.Proofs.Ytdoeclpbobjgdaa.Wk
open Go.RowKit Go.Proofs.Ytdoeclpbobjgdaa.K Go.Proofs.Ytdoeclpbobjgdaa.SP Go.Proofs.Ytdoeclpbobjgdaa.HP Go.Proofs.YtdoeclpbobjgdaaW.PrintWords Go.Proofs.YtdoeclpbobjgdaaW.PrintLast Go.Proofs.YtdoeclpbobjgdaaW.PrintMore
set_option linter.unusedVariables false

theorem tells_l0 (s sh m : Int) (l : List Int) (hb : l.length ≤ 1000) (x y z : Int) : ∀ (d k i : Nat) (t : List Int), t.length - i = d → i ≤ t.length → d + 1001 < k → t.length ≤ 1000 →
    reedpipelaw10_InfoTells.l0 k true true (i : Int) s sh m l s sh m l x y z t = some true := by
  intro d
  induction d with
  | zero =>
    intro k i t hd hi hk ht
    obtain ⟨k, rfl⟩ : ∃ m, k = m + 1 := ⟨k - 1, by omega⟩
    simp only [reedpipelaw10_InfoTells.l0]
    rw [if_neg (by omega), if_pos trivial, if_pos trivial, refSame_f s sh m l s sh m l (by omega) k (by omega)]
    simp
  | succ d ih =>
    intro k i t hd hi hk ht
    obtain ⟨k, rfl⟩ : ∃ m, k = m + 1 := ⟨k - 1, by omega⟩
    simp only [reedpipelaw10_InfoTells.l0]
    rw [if_pos (by omega), if_pos (by omega), wrap_succ i (by omega)]
    exact ih k (i + 1) _ (by simp; omega) (by simp; omega) (by omega) (by simpa using ht)
theorem tells_true (rate s sh m : Int) (l : List Int) (s2 sh2 m2 : Int) (l2 : List Int) (w a b : Int) (ha : 0 ≤ a) (hb : 0 ≤ b) : reedpipelaw10_InfoTells.f 3010 rate s sh m l s2 sh2 m2 l2 w a b = some true := by
  unfold reedpipelaw10_InfoTells.f
  by_cases h1 : (l.length : Int) > 1000
  · rw [if_pos h1]
    simp only [reedpipelaw10_InfoTells.j0, if_true]
  · rw [if_neg h1]
    by_cases h2 : (l2.length : Int) > 1000
    · rw [decide_eq_true h2]
      simp only [reedpipelaw10_InfoTells.j0, if_true]
    · rw [decide_eq_false h2]
      have hl : l.length ≤ 1000 := by omega
      simp only [reedpipelaw10_InfoTells.j0, Bool.false_eq_true, if_false]
      rw [refTwin_f s sh m l (by omega)]
      simp only [Option.bind_some]
      rw [windows_f s sh m l (by omega) 3009 (by omega), refWindows_f s sh m l (by omega) 3009 (by omega)]
      simp only [Option.bind_some]
      rw [group_f s sh m l (by omega) w 3009 (by omega), refGroup_f s sh m l (by omega) w 3009 (by omega), twin_f s sh m l (by omega), check_f rate s sh m l (by omega) 3009 (by omega), refCheck_f rate s sh m l (by omega) 3009 (by omega), refAfter_f a b 3009 (by omega)]
      have haf : info_After.f a b = some (afterB a b) := by unfold info_After.f; rw [if_pos ⟨ha, hb⟩]
      rw [haf]
      simp only [Option.bind_some, if_true, reedpipelaw10_InfoTells.j1, reedpipelaw10_InfoTells.j2, beq_self_eq_true]
      rw [same_f s sh m l s2 sh2 m2 l2 (by omega) 3008 (by omega), refSame_f s sh m l s2 sh2 m2 l2 (by omega) 3008 (by omega), refSame_f s sh m l s sh m l (by omega) 3008 (by omega)]
      simp only [Option.bind_some, beq_self_eq_true, if_true, and_self, decide_true]
      exact tells_l0 s sh m l hl s sh m l.length 3007 0 l (by omega) (by omega) (by omega) hl
theorem InfoTells (W : World) (a0 s_1 sh_1 m_1 : Int) (A_1 : Option Addr) (c_1 : Nat) (l_1 : List Int) (s_2 sh_2 m_2 : Int) (A_2 : Option Addr) (c_2 : Nat) (l_2 : List Int) (a3 a4 a5 : Int) (w0 : (Lit.int .i64 a0).wf = true)
    (hc_1 : l_1.length ≤ c_1) (hr_1 : Kd.C (Kd.int .i64) W A_1 l_1.length l_1) (ws_1 : 0 ≤ s_1 ∧ s_1 ≤ 255) (wsh_1 : 0 ≤ sh_1 ∧ sh_1 ≤ 255) (wm_1 : -9223372036854775808 ≤ m_1 ∧ m_1 ≤ 9223372036854775807) (wl_1 : ∀ y ∈ l_1, -9223372036854775808 ≤ y ∧ y ≤ 9223372036854775807)
    (hc_2 : l_2.length ≤ c_2) (hr_2 : Kd.C (Kd.int .i64) W A_2 l_2.length l_2) (ws_2 : 0 ≤ s_2 ∧ s_2 ≤ 255) (wsh_2 : 0 ≤ sh_2 ∧ sh_2 ≤ 255) (wm_2 : -9223372036854775808 ≤ m_2 ∧ m_2 ≤ 9223372036854775807) (wl_2 : ∀ y ∈ l_2, -9223372036854775808 ≤ y ∧ y ≤ 9223372036854775807)
    (w3 : (Lit.int .i64 a3).wf = true) (w4 : (Lit.int .u8 a4).wf = true) (w5 : (Lit.int .u8 a5).wf = true) :
    Calls Try.prog 3 #[.int .i64 a0, .agg #[.int .u8 s_1, .int .u8 sh_1, .int .i64 m_1, .slice A_1 l_1.length c_1], .agg #[.int .u8 s_2, .int .u8 sh_2, .int .i64 m_2, .slice A_2 l_2.length c_2], .int .i64 a3, .int .u8 a4, .int .u8 a5] W fun e w' => e = .returned (.bool true) ∧ Below W.heap.size W w' := by
  simp only [Lit.wf, Bool.and_eq_true, decide_eq_true_eq] at w4 w5
  exact reedpipelaw10_InfoTells.calls 3010 a0 s_1 sh_1 m_1 A_1 c_1 l_1 s_2 sh_2 m_2 A_2 c_2 l_2 a3 a4 a5 true W hr_1 hc_1 hr_2 hc_2 (tells_true a0 s_1 sh_1 m_1 l_1 s_2 sh_2 m_2 l_2 a3 a4 a5 w4.1 w5.1)
end Go.Proofs.Ytdoeclpbobjgdaa.Wk
end
section
/- From what a row reads to the kinds of the walks: any type of whole numbers, bools, slices and structs of these. It imports no program. -/
namespace Go.Proofs.Ytdoeclpbobjgdaa.HR
open Go.RowKit Go.ChangeShapes Go.WideShapes Go.Proofs.YtdoeclpbobjgdaaW.PrintWords

/-- Whatever reads as data of type t is of kind d. -/
def Opens {α : Type} (P : Program) (t : TypeId) (d : Kd α) (ok : α → Prop) : Prop :=
  ∀ (H : Type) (enc : TypeId × Value → H) (W : World) (fuel : Nat) (cs : List Value) (x : DataW H × List MemPlace), DataW.trod enc P W 0 (fun _ => true) true fuel t cs = some x → ∃ a, ok a ∧ d.K W a cs

theorem Opens.imp {α : Type} {P : Program} {t : TypeId} {d : Kd α} {ok ok' : α → Prop} (h : Opens P t d ok) (hi : ∀ a, ok a → ok' a) : Opens P t d ok' := fun H enc W fuel cs x hx => by
  obtain ⟨a, ha, hK⟩ := h H enc W fuel cs x hx
  exact ⟨a, hi a ha, hK⟩
theorem opens_int {P : Program} {t : TypeId} {k : IntKind} (ht : P.underlying t = some (.int k)) : Opens P t (Kd.int k) (fun n => (Lit.int k n).wf = true) := by
  intro H enc W fuel cs x hx
  obtain ⟨n, rfl, _, hw⟩ := DataW.trod_int ht hx
  exact ⟨n, hw, rfl⟩
theorem opens_bool {P : Program} {t : TypeId} (ht : P.underlying t = some .bool) : Opens P t Kd.bool (fun _ => True) := by
  intro H enc W fuel cs x hx
  obtain ⟨b, rfl, _⟩ := DataW.trod_bool ht hx
  exact ⟨b, trivial, rfl⟩
theorem opens_slice {α : Type} {P : Program} {t e : TypeId} {d : Kd α} {ok : α → Prop} (ht : P.underlying t = some (.slice e)) (hs : P.cellsOf e = d.sz) (h : Opens P e d ok) : Opens P t (Kd.slice e d) (fun xs => ∀ x ∈ xs, ok x) := by
  intro H enc W fuel cs x hx
  rcases Go.Deep.open_slice ht hx with ⟨rfl, _⟩ | ⟨a, len, cap, m, n, D, Pl, rfl, _, hl, hcap, hm, _, hel⟩
  · exact ⟨[], by simp, none, 0, rfl, Nat.le_refl _, rfl, by simp, fun h => absurd h (by simp)⟩
  · have hlm : len ≤ m := by rw [hm]; simp; exact hl
    have key : ∀ k, k ≤ len → ∃ xs : List α, xs.length = k ∧ (∀ x ∈ xs, ok x) ∧ ∀ j p, xs[j]? = some p → ∃ c, c.length = d.sz ∧ d.K W p c ∧ ∀ i u, c[i]? = some u → W.cell? (a.add (j * d.sz + i)) = some u := by
      intro k
      induction k with
      | zero => exact fun _ => ⟨[], rfl, by simp, fun j p hj => by simp at hj⟩
      | succ k ih =>
        intro hk
        obtain ⟨xs, hxl, hxo, hxc⟩ := ih (by omega)
        obtain ⟨cs', hc1, hc2⟩ := hel k (by omega)
        obtain ⟨p, hp, hK⟩ := h H enc W n cs' _ hc2
        refine ⟨xs ++ [p], by simp [hxl], ?_, ?_⟩
        · intro x hx
          rcases List.mem_append.1 hx with hx | hx
          · exact hxo x hx
          · rw [List.mem_singleton.1 hx]; exact hp
        · intro j q hj
          rcases Nat.lt_or_ge j k with hjk | hjk
          · rw [List.getElem?_append_left (by omega)] at hj
            exact hxc j q hj
          · rw [List.getElem?_append_right (by omega)] at hj
            have hj0 : j - xs.length = 0 := by
              rcases Nat.eq_zero_or_pos (j - xs.length) with h0 | h0
              · exact h0
              · rw [List.getElem?_eq_none (by simp; omega)] at hj
                cases hj
            rw [hj0] at hj
            obtain rfl : p = q := by simpa using hj
            obtain rfl : j = k := by omega
            refine ⟨cs', d.K_len hK, hK, fun i u hu => ?_⟩
            obtain ⟨_, hlen, hcells⟩ := World.cells?_some hc1
            obtain ⟨hi, rfl⟩ := List.getElem?_eq_some_iff.1 hu
            have := hcells i (by omega)
            rw [hs, Go.Deep.add_add] at this
            rw [this]
            exact hu
    obtain ⟨xs, hxl, hxo, hxc⟩ := key len (Nat.le_refl _)
    subst hxl
    have hmx : xs.length ≤ 9223372036854775807 := by unfold maxLen at hcap; omega
    exact ⟨xs, hxo, some a, cap, rfl, hl, rfl, hmx, fun _ => ⟨a, rfl, hxc⟩⟩

/-! ### structs, field by field: their types and where their cells begin -/
def OpensFs {α : Type} (P : Program) (fs : List (TypeId × Nat)) (off : Nat) (d : Kd α) (ok : α → Prop) : Prop :=
  ∀ (H : Type) (enc : TypeId × Value → H) (W : World) (n : Nat) (cs : List Value), (∀ f ∈ fs, ∃ x, DataW.trod enc P W 0 (fun _ => true) true n f.1 ((cs.drop f.2).take (P.cellsOf f.1)) = some x) → cs.length = off + d.sz → ∃ a, ok a ∧ d.K W a (cs.drop off)
theorem opensFs_one {α : Type} {P : Program} {t : TypeId} {off : Nat} {d : Kd α} {ok : α → Prop} (hs : P.cellsOf t = d.sz) (h : Opens P t d ok) : OpensFs P [(t, off)] off d ok := by
  intro H enc W n cs hf hl
  obtain ⟨x, hx⟩ := hf (t, off) List.mem_cons_self
  simp only at hx
  rw [hs, List.take_of_length_le (by rw [List.length_drop]; omega)] at hx
  exact h H enc W n _ x hx
theorem opensFs_cons {α β : Type} {P : Program} {t : TypeId} {fs : List (TypeId × Nat)} {off : Nat} (off2 : Nat) {a : Kd α} {b : Kd β} {ok : α → Prop} {okb : β → Prop} (hs : P.cellsOf t = a.sz) (ho2 : off2 = off + a.sz) (h : Opens P t a ok) (hb : OpensFs P fs off2 b okb) :
    OpensFs P ((t, off) :: fs) off (Kd.pair a b) (fun x => ok x.1 ∧ okb x.2) := by
  intro H enc W n cs hf hl
  obtain ⟨x, hx⟩ := hf (t, off) List.mem_cons_self
  simp only at hx
  rw [hs] at hx
  obtain ⟨p, hp, hK⟩ := h H enc W n _ x hx
  have hsz : (Kd.pair a b).sz = a.sz + b.sz := rfl
  obtain ⟨q, hq, hKq⟩ := hb H enc W n cs (fun g hg => hf g (List.mem_cons_of_mem _ hg)) (by rw [hl, hsz, ho2]; omega)
  refine ⟨(p, q), ⟨hp, hq⟩, (cs.drop off).take a.sz, cs.drop off2, ?_, hK, hKq⟩
  rw [ho2, ← List.drop_drop, List.take_append_drop]
theorem opens_struct {α : Type} {P : Program} {t : TypeId} {fs : Array Field} {l : List (TypeId × Nat)} {d : Kd α} {ok : α → Prop} (ht : P.underlying t = some (.struct fs)) (hfs : fs.toList.map (fun f => (f.type, f.offset)) = l) (hs : P.cellsOf t = d.sz) (h : OpensFs P l 0 d ok) : Opens P t d ok := by
  intro H enc W fuel cs x hx
  obtain ⟨xs, n, _, _, hl, hxl, hf⟩ := DataW.trod_struct ht hx
  have := h H enc W n cs (fun f hm => by
    rw [← hfs] at hm
    obtain ⟨g, hg, rfl⟩ := List.mem_map.1 hm
    obtain ⟨i, hi, rfl⟩ := List.getElem_of_mem hg
    have hi2 : i < fs.size := by simpa using hi
    refine ⟨xs[i], ?_⟩
    simp only
    rw [hf i fs.toList[i] (by simp [hi2]), List.getElem?_eq_getElem]) (by omega)
  simpa using this
theorem opens_iso {α β : Type} {P : Program} {t : TypeId} {d : Kd α} {ok : α → Prop} (f : β → α) (g : α → β) (hfg : ∀ a, f (g a) = a) (h : Opens P t d ok) : Opens P t (Kd.iso d f) (fun b => ok (f b)) := by
  intro H enc W fuel cs x hx
  obtain ⟨a, ha, hK⟩ := h H enc W fuel cs x hx
  exact ⟨g a, by show ok (f (g a)); rw [hfg]; exact ha, by show d.K W (f (g a)) cs; rw [hfg]; exact hK⟩
/-- What an argument reads as. -/
theorem Opens.arg {α : Type} {P : Program} {t : TypeId} {d : Kd α} {ok : α → Prop} (h : Opens P t d ok) {H : Type} {enc : TypeId × Value → H} {W : World} {v : Value} {x : DataW H} {ps : List MemPlace} (ht : DataW.Trod enc P W 0 (fun _ => true) true t v x ps) : ∃ a, ok a ∧ d.K W a v.cells.toList := by
  obtain ⟨fuel, hf⟩ := ht
  exact h H enc W fuel _ _ hf
end Go.Proofs.Ytdoeclpbobjgdaa.HR
end
section
/- How windows' infos are read. -/
namespace Go.Proofs.Ytdoeclpbobjgdaa.HI
open Go.RowKit Go.ChangeShapes Go.WideShapes Go.Proofs.YtdoeclpbobjgdaaW.PrintWords Go.Proofs.Ytdoeclpbobjgdaa.HR

def kInfo : Kd (Int × Int × Int × List Int) := Kd.pair (Kd.int .u8) (Kd.pair (Kd.int .u8) (Kd.pair (Kd.int .i64) (Kd.slice 3 (Kd.int .i64))))
theorem opens_ints : Opens Try.prog 22 (Kd.slice 3 (Kd.int .i64)) (fun xs => ∀ x ∈ xs, (Lit.int .i64 x).wf = true) := opens_slice Try.underlying22 (by kernel_rfl) (opens_int Try.underlying3)
theorem opens_info : Opens Try.prog 24 kInfo (fun x => (Lit.int .u8 x.1).wf = true ∧ (Lit.int .u8 x.2.1).wf = true ∧ (Lit.int .i64 x.2.2.1).wf = true ∧ ∀ y ∈ x.2.2.2, (Lit.int .i64 y).wf = true) := by
  exact opens_struct Try.underlying24 (l := [(5, 0), (5, 1), (3, 2), (22, 3)]) rfl (by kernel_rfl)
    (opensFs_cons 1 (by kernel_rfl) rfl (opens_int Try.underlying5) (opensFs_cons 2 (by kernel_rfl) rfl (opens_int Try.underlying5) (opensFs_cons 3 (by kernel_rfl) rfl (opens_int Try.underlying3) (opensFs_one (by kernel_rfl) opens_ints))))
theorem wf_u8 {x : Int} (h : (Lit.int .u8 x).wf = true) : 0 ≤ x ∧ x ≤ 255 := by
  simp only [Lit.wf, Bool.and_eq_true, decide_eq_true_eq] at h
  exact h
theorem wf_i64 {x : Int} (h : (Lit.int .i64 x).wf = true) : -9223372036854775808 ≤ x ∧ x ≤ 9223372036854775807 := by
  simp only [Lit.wf, Bool.and_eq_true, decide_eq_true_eq] at h
  exact h
theorem open_info {H : Type} {enc : TypeId × Value → H} {W : World} {v : Value} {x : DataW H} {ps : List MemPlace} {r : Reach} {b0 : Nat} (hv : Value.okWide Try.prog W r b0 24 v) (h : DataW.Trod enc Try.prog W 0 (fun _ => true) true 24 v x ps) :
    ∃ (s sh m : Int) (A : Option Addr) (c : Nat) (l : List Int), v = .agg #[.int .u8 s, .int .u8 sh, .int .i64 m, .slice A l.length c] ∧ l.length ≤ c ∧ Kd.C (Kd.int .i64) W A l.length l ∧ (0 ≤ s ∧ s ≤ 255) ∧ (0 ≤ sh ∧ sh ≤ 255) ∧ (-9223372036854775808 ≤ m ∧ m ≤ 9223372036854775807) ∧ ∀ y ∈ l, -9223372036854775808 ≤ y ∧ y ≤ 9223372036854775807 := by
  unfold Value.okWide at hv
  rw [Try.underlying24] at hv
  obtain ⟨cs, rfl, _, _⟩ := hv
  obtain ⟨⟨s, sh, m, l⟩, ⟨w1, w2, w3, w4⟩, hK⟩ := opens_info.arg h
  obtain ⟨_, _, he, rfl, ⟨_, _, rfl, rfl, ⟨_, _, rfl, rfl, ⟨A, c, rfl, hl, hC⟩⟩⟩⟩ := hK
  refine ⟨s, sh, m, A, c, l, ?_, hl, hC, wf_u8 w1, wf_u8 w2, wf_i64 w3, fun y hy => wf_i64 (w4 y hy)⟩
  congr 1
  apply Array.toList_inj.1
  exact he
end Go.Proofs.Ytdoeclpbobjgdaa.HI
end
section
/- The row of the law InfoTells: out of its walk. -/
namespace Go.Proofs.Ytdoeclpbobjgdaa.infoTells
open Go.ChangeShapes Go.WideShapes Go.ChangeAt Go.RowKit
open Go.ChangeMaps (open_string shut_string)
set_option linter.unusedVariables false
theorem own : ownKnob Try.prog.godebug = none := by kernel_rfl
theorem laidOut : laidOutB Try.prog = true := by kernel_rfl
set_option maxRecDepth 100000 in
theorem lifted (os : Os) (started : os.Started) (H : Type) (enc : TypeId × Value → H) :
    ReturnsInHanded {} Try.checked os 3 .any (Rows.infoTellsSpec.pre6 enc Try.prog Try.f3 Rows.infoTellsRow.domain false) (Rows.infoTellsSpec.post enc Try.prog Try.f3 false true false false) := by
  refine returnsInHanded_of_change_sized (C := Try.checked) own started (by kernel_rfl) Try.func3
    (ChangeSpec.witness6 (enc := enc) (C := Try.checked) false ⟨#[], #[.int .i64 0, .agg #[.int .u8 0, .int .u8 0, .int .i64 0, .slice none 0 0], .agg #[.int .u8 0, .int .u8 0, .int .i64 0, .slice none 0 0], .int .i64 0, .int .u8 0, .int .u8 0], []⟩ 8 (by kernel_rfl) (by kernel_rfl) (by kernel_rfl) (by kernel_rfl)) ?_
  intro W base args ds gs before hval0 hW hcnd hsz0 _
  have hval : ∀ (j : Nat) t v, Try.f3.params[j]? = some t → args[j]? = some v → Value.okWide Try.prog W .any base t v := hval0
  have hW' := hW
  obtain ⟨p, q, hA0, hV, rfl, hfz, hnd⟩ := hW
  have hA : DataW.TrodAll enc Try.prog W 0 (fun _ => true) true Try.f3.params.toList args.toList ds p := hA0
  rw [Try.params3] at hA hval
  obtain ⟨v0, vs0, d0, ds0, p0, q0, hargs, rfl, rfl, h0, r0⟩ := trodAll_cons hA
  obtain ⟨v1, vs1, d1, ds1, p1, q1, rfl, rfl, rfl, h1, r1⟩ := trodAll_cons r0
  obtain ⟨v2, vs2, d2, ds2, p2, q2, rfl, rfl, rfl, h2, r2⟩ := trodAll_cons r1
  obtain ⟨v3, vs3, d3, ds3, p3, q3, rfl, rfl, rfl, h3, r3⟩ := trodAll_cons r2
  obtain ⟨v4, vs4, d4, ds4, p4, q4, rfl, rfl, rfl, h4, r4⟩ := trodAll_cons r3
  obtain ⟨v5, vs5, d5, ds5, p5, q5, rfl, rfl, rfl, h5, r5⟩ := trodAll_cons r4
  obtain ⟨rfl, rfl, rfl⟩ := trodAll_nil r5
  obtain rfl : args = #[v0, v1, v2, v3, v4, v5] := by cases args; simp_all
  obtain ⟨rfl, rfl⟩ := trodVars_none hV
  obtain ⟨a0, rfl, rfl, rfl, w0⟩ := open_int Try.underlying3 (hval 0 3 v0 rfl rfl) h0
  have k1 := h1
  have lt1 : ∀ x ∈ p1, x.block < W.heap.size := by obtain ⟨m, hm⟩ := k1; exact DataW.trod_lt m _ _ _ hm
  obtain ⟨s_1, sh_1, m_1, A_1, c_1, l_1, rfl, hc_1, hr_1, ws_1, wsh_1, wm_1, wl_1⟩ := HI.open_info (hval 1 24 v1 rfl rfl) h1
  have k2 := h2
  have lt2 : ∀ x ∈ p2, x.block < W.heap.size := by obtain ⟨m, hm⟩ := k2; exact DataW.trod_lt m _ _ _ hm
  obtain ⟨s_2, sh_2, m_2, A_2, c_2, l_2, rfl, hc_2, hr_2, ws_2, wsh_2, wm_2, wl_2⟩ := HI.open_info (hval 2 24 v2 rfl rfl) h2
  obtain ⟨a3, rfl, rfl, rfl, w3⟩ := open_int Try.underlying3 (hval 3 3 v3 rfl rfl) h3
  obtain ⟨a4, rfl, rfl, rfl, w4⟩ := open_int Try.underlying5 (hval 4 5 v4 rfl rfl) h4
  obtain ⟨a5, rfl, rfl, rfl, w5⟩ := open_int Try.underlying5 (hval 5 5 v5 rfl rfl) h5
  refine (Wk.InfoTells W a0 s_1 sh_1 m_1 A_1 c_1 l_1 s_2 sh_2 m_2 A_2 c_2 l_2 a3 a4 a5 w0 hc_1 hr_1 ws_1 wsh_1 wm_1 wl_1 hc_2 hr_2 ws_2 wsh_2 wm_2 wl_2 w3 w4 w5).mono fun e W' ⟨he, bel⟩ => ?_
  subst he
  exact ⟨_, rfl, _, _, _, [], _, [], hW', trodAll_mk1 (shut_bool Try.underlying4 _), (trodAll_cons_mk (shut_int Try.underlying3 w0) (trodAll_cons_mk (Below.trod laidOut (by kernel_rfl) (of_decide_eq_true (by kernel_rfl)) k1 bel lt1) (trodAll_cons_mk (Below.trod laidOut (by kernel_rfl) (of_decide_eq_true (by kernel_rfl)) k2 bel lt2) (trodAll_cons_mk (shut_int Try.underlying3 w3) (trodAll_cons_mk (shut_int Try.underlying5 w4) (trodAll_cons_mk (shut_int Try.underlying5 w5) trodAll_mk0)))))), rfl, bel.frame _, fun h => by cases h⟩
theorem over : Rows.infoTellsRow.holds Try.pinned (OpenSpec.ofChange Rows.infoTellsSpec) :=
  OpenClaim.holds_of_wide 3 Try.f3 rfl rfl rfl rfl rfl rfl rfl ⟨rfl, rfl, rfl, rfl, rfl⟩ rfl rfl rfl rfl rfl (by kernel_rfl) Try.func3 (by kernel_rfl)
    (of_decide_eq_true (by kernel_rfl)) (by unfold Func.isWrapper; first | (rw [if_pos (by decide +kernel)]; kernel_rfl) | (rw [if_neg (by decide +kernel)]; exact ⟨rfl, rfl⟩))
    (fun os started H enc _ => lifted os started H enc)
theorem proved : Rows.InfoTellsSaid := over
#print axioms proved
end Go.Proofs.Ytdoeclpbobjgdaa.infoTells
namespace Go.Proofs.Ytdoeclpbobjgdaa
/-- The row, under a short name, for the claim. -/
theorem infoTells_holds : Rows.InfoTellsSaid := infoTells.proved
end Go.Proofs.Ytdoeclpbobjgdaa
end
