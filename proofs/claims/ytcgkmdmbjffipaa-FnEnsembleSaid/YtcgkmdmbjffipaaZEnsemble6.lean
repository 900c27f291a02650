/- The texts Px85, one behind the other: what functions of the program, its reference and its laws come to, the words that this takes, and what follows. No condition beyond what each theorem names. -/
import Derived.Test.YtcgkmdmbjffipaaZEnsemble1
import Derived.Test.YtcgkmdmbjffipaaZEnsemble2
import Derived.Test.YtcgkmdmbjffipaaZEnsemble4
import Derived.Test.YtcgkmdmbjffipaaZEnsemble5
namespace Go.Proofs.Ytcgkmdmbjffipaa.P
open Go.RowKit Go.Proofs.YtcgkmdmbjffipaaW.PrintWords Go.Proofs.YtcgkmdmbjffipaaW.PrintLast Go.Proofs.YtcgkmdmbjffipaaW.PrintMore
attribute [local go_sem] max2_int min2_int max_two min_two max_three min_three max_four min_four   -- for this text's walks alone
set_option linter.unusedVariables false
set_option linter.unusedSimpArgs false
mutual
def laws_FnEnsemble.j0 : Nat → List (S36) → List (S38) → List (List Int) → List (S36) → Int → Bool → Option (Bool)
  | 0, _, _, _, _, _, _ => none
  | k + 1, x5, x6, x7, x9, x10, x69 => if x69 = true then (none) else (laws_FnEnsemble.l0 k x5 x6 x7 x9 x10 0)
def laws_FnEnsemble.l0 : Nat → List (S36) → List (S38) → List (List Int) → List (S36) → Int → Int → Option (Bool)
  | 0, _, _, _, _, _, _ => none
  | k + 1, x5, x6, x7, x9, x10, x11 => if x11 < (x7.length : Int) then (if 0 ≤ x11 then (if ((rd_L5 x7 x11).length : Int) = 2 then (if 0 < ((rd_L5 x7 x11).length : Int) then (if (rd (rd_L5 x7 x11) 0) < 0 then (laws_FnEnsemble.j2 k x5 x6 x7 x9 x10 x11 (rd_L5 x7 x11) true) else (if (rd (rd_L5 x7 x11) 0) ≥ (x6.length : Int) then (laws_FnEnsemble.j2 k x5 x6 x7 x9 x10 x11 (rd_L5 x7 x11) true) else (if 1 < ((rd_L5 x7 x11).length : Int) then (if (rd (rd_L5 x7 x11) 1) < 0 then (laws_FnEnsemble.j2 k x5 x6 x7 x9 x10 x11 (rd_L5 x7 x11) true) else (if (rd (rd_L5 x7 x11) 1) ≥ (x5.length : Int) then (laws_FnEnsemble.j2 k x5 x6 x7 x9 x10 x11 (rd_L5 x7 x11) true) else (if 0 ≤ (rd (rd_L5 x7 x11) 1) then (if (rd (rd_L5 x7 x11) 1) < (x5.length : Int) then (if 0 ≤ (rd (rd_L5 x7 x11) 0) then (if (rd (rd_L5 x7 x11) 0) < (x6.length : Int) then (laws_FnEnsemble.j2 k x5 x6 x7 x9 x10 x11 (rd_L5 x7 x11) (((rd_T36 x5 (rd (rd_L5 x7 x11) 1)).f0).toList != ((rd_T38 x6 (rd (rd_L5 x7 x11) 0)).f0).toList)) else (none)) else (none)) else (none)) else (none)))) else (none)))) else (none)) else (laws_FnEnsemble.j2 k x5 x6 x7 x9 x10 x11 (rd_L5 x7 x11) true)) else (none)) else ((impl_SilencesOf.f k x5).bind fun bt549 => (if bt549.2 = 0 then (laws_FnEnsemble.l2 k x5 bt549.1 0) else (none)))
def laws_FnEnsemble.j2 : Nat → List (S36) → List (S38) → List (List Int) → List (S36) → Int → Int → List Int → Bool → Option (Bool)
  | 0, _, _, _, _, _, _, _, _ => none
  | k + 1, x5, x6, x7, x9, x10, x11, x12, x127 => if x127 = true then (none) else (if 1 < (x12.length : Int) then (if 0 ≤ (rd x12 1) then (if (rd x12 1) < (x5.length : Int) then (if 0 < (x12.length : Int) then (if 0 ≤ (rd x12 0) then (if (rd x12 0) < (x6.length : Int) then (laws_FnEnsemble.l1 k x5 x6 x7 x9 x10 x11 x12 (wrap64 ((wrap64 (((rd_T36 x5 (rd x12 1)).f1) + ((rd_T36 x5 (rd x12 1)).f2))) + ((rd_T38 x6 (rd x12 0)).f2))) false 0) else (none)) else (none)) else (none)) else (none)) else (none)) else (none))
def laws_FnEnsemble.l1 : Nat → List (S36) → List (S38) → List (List Int) → List (S36) → Int → Int → List Int → Int → Bool → Int → Option (Bool)
  | 0, _, _, _, _, _, _, _, _, _, _ => none
  | k + 1, x5, x6, x7, x9, x10, x11, x12, x13, x14, x15 => if x15 < (x9.length : Int) then (if x14 = true then (laws_FnEnsemble.l1 k x5 x6 x7 x9 x10 x11 x12 x13 true (wrap64 (x15 + 1))) else (if 0 ≤ x15 then (if 0 < (x12.length : Int) then (if 0 ≤ (rd x12 0) then (if (rd x12 0) < (x6.length : Int) then (if ((rd_T36 x9 x15).f0).toList = ((rd_T38 x6 (rd x12 0)).f1).toList then (laws_FnEnsemble.l1 k x5 x6 x7 x9 x10 x11 x12 x13 (((rd_T36 x9 x15).f1) == x13) (wrap64 (x15 + 1))) else (laws_FnEnsemble.l1 k x5 x6 x7 x9 x10 x11 x12 x13 false (wrap64 (x15 + 1)))) else (none)) else (none)) else (none)) else (none))) else (if x10 = 0 then (if x14 = true then (laws_FnEnsemble.l0 k x5 x6 x7 x9 x10 (wrap64 (x11 + 1))) else (none)) else (laws_FnEnsemble.l0 k x5 x6 x7 x9 x10 (wrap64 (x11 + 1))))
def laws_FnEnsemble.l2 : Nat → List (S36) → List (List Int) → Int → Option (Bool)
  | 0, _, _, _ => none
  | k + 1, x5, x16, x18 => if x18 < (x16.length : Int) then (if 0 ≤ x18 then (if ((rd_L5 x16 x18).length : Int) = 2 then (if 0 < ((rd_L5 x16 x18).length : Int) then (if 1 < ((rd_L5 x16 x18).length : Int) then (if (rd (rd_L5 x16 x18) 0) ≥ (rd (rd_L5 x16 x18) 1) then (laws_FnEnsemble.j5 k x5 x16 x18 true) else (if (rd (rd_L5 x16 x18) 0) < 0 then (laws_FnEnsemble.j5 k x5 x16 x18 true) else (laws_FnEnsemble.j5 k x5 x16 x18 (decide ((rd (rd_L5 x16 x18) 1) > 200))))) else (none)) else (none)) else (laws_FnEnsemble.j5 k x5 x16 x18 true)) else (none)) else (if (x5.length : Int) = 0 then (some true) else (if 0 < (x5.length : Int) then (laws_FnEnsemble.l4 k x5 ((rd_T36 x5 0).f0) 0 0) else (none)))
def laws_FnEnsemble.j5 : Nat → List (S36) → List (List Int) → Int → Bool → Option (Bool)
  | 0, _, _, _, _ => none
  | k + 1, x5, x16, x18, x239 => if x239 = true then (none) else (if 0 ≤ x18 then (if x18 < (x16.length : Int) then (if 0 < ((rd_L5 x16 x18).length : Int) then (laws_FnEnsemble.l3 k x5 x16 x18 (rd (rd_L5 x16 x18) 0)) else (none)) else (none)) else (none))
def laws_FnEnsemble.l3 : Nat → List (S36) → List (List Int) → Int → Int → Option (Bool)
  | 0, _, _, _, _ => none
  | k + 1, x5, x16, x18, x19 => if 0 ≤ x18 then (if x18 < (x16.length : Int) then (if 1 < ((rd_L5 x16 x18).length : Int) then (if x19 < (rd (rd_L5 x16 x18) 1) then ((impl_PlayersAt.f k x5 x19).bind fun bt566 => (if bt566.2 = 0 then (if (bt566.1.length : Int) = 0 then (laws_FnEnsemble.l3 k x5 x16 x18 (wrap64 (x19 + 1))) else (none)) else (none))) else (laws_FnEnsemble.l2 k x5 x16 (wrap64 (x18 + 1)))) else (none)) else (none)) else (none)
def laws_FnEnsemble.l4 : Nat → List (S36) → ByteArray → Int → Int → Option (Bool)
  | 0, _, _, _, _ => none
  | k + 1, x5, x22, x23, x24 => if x24 < (x5.length : Int) then (if 0 ≤ x24 then (if ((rd_T36 x5 x24).f0).toList = x22.toList then (laws_FnEnsemble.l4 k x5 x22 (wrap64 (x23 + ((rd_T36 x5 x24).f2))) (wrap64 (x24 + 1))) else (laws_FnEnsemble.l4 k x5 x22 x23 (wrap64 (x24 + 1)))) else (none)) else ((impl_SoloTime.f k x5 x22).bind fun bt573 => ((impl_FullestTime.f k x5).bind fun bt575 => ((impl_PlayersAt.f k x5 bt575.1).bind fun bt578 => (if bt573.2 = 0 then (if bt573.1 ≥ 0 then (if bt573.1 ≤ x23 then (if bt575.2.2 = 0 then (if bt575.2.1 ≥ 1 then (if bt578.2 = 0 then (some ((bt578.1.length : Int) == bt575.2.1)) else (none)) else (none)) else (none)) else (none)) else (none)) else (none)))))
end
def laws_FnEnsemble.f (k : Nat) (l0 : List Int) (l1 : List Int) : Option (Bool) := (laws_r8Long.f l0 l1).bind fun t514 => (if t514 = true then (some true) else ((spec_R8Turns.f k l0).bind fun t515 => ((spec_R8Answers.f k l1).bind fun t518 => ((impl_MissedAnswers.f k t515 t518).bind fun bt521 => ((impl_AddAnswers.f k t515 t518 8).bind fun bt525 => (if bt521.2 = 0 then (if bt525.2 = 0 then ((spec_ValidTurns.f k bt525.1).bind fun t529 => (laws_FnEnsemble.j0 k t515 t518 bt521.1 bt525.1 bt525.2 (!t529))) else (if bt525.2 = 5 then (laws_FnEnsemble.j0 k t515 t518 bt521.1 bt525.1 bt525.2 false) else (laws_FnEnsemble.j0 k t515 t518 bt521.1 bt525.1 bt525.2 true))) else (laws_FnEnsemble.j0 k t515 t518 bt521.1 bt525.1 bt525.2 true)))))))
theorem laws_FnEnsemble.mono_l : ∀ k, (∀ y0 y1 y2 y3 y4 y5, LeO (laws_FnEnsemble.j0 k y0 y1 y2 y3 y4 y5) (laws_FnEnsemble.j0 (k + 1) y0 y1 y2 y3 y4 y5)) ∧ (∀ y0 y1 y2 y3 y4 y5, LeO (laws_FnEnsemble.l0 k y0 y1 y2 y3 y4 y5) (laws_FnEnsemble.l0 (k + 1) y0 y1 y2 y3 y4 y5)) ∧ (∀ y0 y1 y2 y3 y4 y5 y6 y7, LeO (laws_FnEnsemble.j2 k y0 y1 y2 y3 y4 y5 y6 y7) (laws_FnEnsemble.j2 (k + 1) y0 y1 y2 y3 y4 y5 y6 y7)) ∧ (∀ y0 y1 y2 y3 y4 y5 y6 y7 y8 y9, LeO (laws_FnEnsemble.l1 k y0 y1 y2 y3 y4 y5 y6 y7 y8 y9) (laws_FnEnsemble.l1 (k + 1) y0 y1 y2 y3 y4 y5 y6 y7 y8 y9)) ∧ (∀ y0 y1 y2, LeO (laws_FnEnsemble.l2 k y0 y1 y2) (laws_FnEnsemble.l2 (k + 1) y0 y1 y2)) ∧ (∀ y0 y1 y2 y3, LeO (laws_FnEnsemble.j5 k y0 y1 y2 y3) (laws_FnEnsemble.j5 (k + 1) y0 y1 y2 y3)) ∧ (∀ y0 y1 y2 y3, LeO (laws_FnEnsemble.l3 k y0 y1 y2 y3) (laws_FnEnsemble.l3 (k + 1) y0 y1 y2 y3)) ∧ (∀ y0 y1 y2 y3, LeO (laws_FnEnsemble.l4 k y0 y1 y2 y3) (laws_FnEnsemble.l4 (k + 1) y0 y1 y2 y3))
  | 0 => ⟨fun _ _ _ _ _ _ r h => by simp [laws_FnEnsemble.j0] at h, fun _ _ _ _ _ _ r h => by simp [laws_FnEnsemble.l0] at h, fun _ _ _ _ _ _ _ _ r h => by simp [laws_FnEnsemble.j2] at h, fun _ _ _ _ _ _ _ _ _ _ r h => by simp [laws_FnEnsemble.l1] at h, fun _ _ _ r h => by simp [laws_FnEnsemble.l2] at h, fun _ _ _ _ r h => by simp [laws_FnEnsemble.j5] at h, fun _ _ _ _ r h => by simp [laws_FnEnsemble.l3] at h, fun _ _ _ _ r h => by simp [laws_FnEnsemble.l4] at h⟩
  | k + 1 => by
    obtain ⟨ih0, ih1, ih2, ih3, ih4, ih5, ih6, ih7⟩ := laws_FnEnsemble.mono_l k
    refine ⟨?_, ?_, ?_, ?_, ?_, ?_, ?_, ?_⟩
    · intro y0 y1 y2 y3 y4 y5
      unfold laws_FnEnsemble.j0
      repeat' first
      | (with_reducible exact ih0 _ _ _ _ _ _)
      | (with_reducible exact ih1 _ _ _ _ _ _)
      | (with_reducible exact ih2 _ _ _ _ _ _ _ _)
      | (with_reducible exact ih3 _ _ _ _ _ _ _ _ _ _)
      | (with_reducible exact ih4 _ _ _)
      | (with_reducible exact ih5 _ _ _ _)
      | (with_reducible exact ih6 _ _ _ _)
      | (with_reducible exact ih7 _ _ _ _)
      | (with_reducible exact impl_AddAnswers.mono _ _ _ _)
      | (with_reducible exact impl_FullestTime.mono _ _)
      | (with_reducible exact impl_MissedAnswers.mono _ _ _)
      | (with_reducible exact impl_PlayersAt.mono _ _ _)
      | (with_reducible exact impl_SilencesOf.mono _ _)
      | (with_reducible exact impl_SoloTime.mono _ _ _)
      | (with_reducible exact spec_R8Answers.mono _ _)
      | (with_reducible exact spec_R8Turns.mono _ _)
      | (with_reducible exact spec_ValidTurns.mono _ _)
      | (with_reducible exact LeO.refl _)
      | (with_reducible exact LeO.none _)
      | (with_reducible refine LeO.ite ?_ ?_)
      | (with_reducible refine LeO.bind ?_ (fun _ => ?_))
      | exact ih0 _ _ _ _ _ _
      | exact ih1 _ _ _ _ _ _
      | exact ih2 _ _ _ _ _ _ _ _
      | exact ih3 _ _ _ _ _ _ _ _ _ _
      | exact ih4 _ _ _
      | exact ih5 _ _ _ _
      | exact ih6 _ _ _ _
      | exact ih7 _ _ _ _
      | exact impl_AddAnswers.mono _ _ _ _
      | exact impl_FullestTime.mono _ _
      | exact impl_MissedAnswers.mono _ _ _
      | exact impl_PlayersAt.mono _ _ _
      | exact impl_SilencesOf.mono _ _
      | exact impl_SoloTime.mono _ _ _
      | exact spec_R8Answers.mono _ _
      | exact spec_R8Turns.mono _ _
      | exact spec_ValidTurns.mono _ _
      | exact LeO.none _
      | refine LeO.ite ?_ ?_
      | refine LeO.bind ?_ (fun _ => ?_)
    · intro y0 y1 y2 y3 y4 y5
      unfold laws_FnEnsemble.l0
      repeat' first
      | (with_reducible exact ih0 _ _ _ _ _ _)
      | (with_reducible exact ih1 _ _ _ _ _ _)
      | (with_reducible exact ih2 _ _ _ _ _ _ _ _)
      | (with_reducible exact ih3 _ _ _ _ _ _ _ _ _ _)
      | (with_reducible exact ih4 _ _ _)
      | (with_reducible exact ih5 _ _ _ _)
      | (with_reducible exact ih6 _ _ _ _)
      | (with_reducible exact ih7 _ _ _ _)
      | (with_reducible exact impl_AddAnswers.mono _ _ _ _)
      | (with_reducible exact impl_FullestTime.mono _ _)
      | (with_reducible exact impl_MissedAnswers.mono _ _ _)
      | (with_reducible exact impl_PlayersAt.mono _ _ _)
      | (with_reducible exact impl_SilencesOf.mono _ _)
      | (with_reducible exact impl_SoloTime.mono _ _ _)
      | (with_reducible exact spec_R8Answers.mono _ _)
      | (with_reducible exact spec_R8Turns.mono _ _)
      | (with_reducible exact spec_ValidTurns.mono _ _)
      | (with_reducible exact LeO.refl _)
      | (with_reducible exact LeO.none _)
      | (with_reducible refine LeO.ite ?_ ?_)
      | (with_reducible refine LeO.bind ?_ (fun _ => ?_))
      | exact ih0 _ _ _ _ _ _
      | exact ih1 _ _ _ _ _ _
      | exact ih2 _ _ _ _ _ _ _ _
      | exact ih3 _ _ _ _ _ _ _ _ _ _
      | exact ih4 _ _ _
      | exact ih5 _ _ _ _
      | exact ih6 _ _ _ _
      | exact ih7 _ _ _ _
      | exact impl_AddAnswers.mono _ _ _ _
      | exact impl_FullestTime.mono _ _
      | exact impl_MissedAnswers.mono _ _ _
      | exact impl_PlayersAt.mono _ _ _
      | exact impl_SilencesOf.mono _ _
      | exact impl_SoloTime.mono _ _ _
      | exact spec_R8Answers.mono _ _
      | exact spec_R8Turns.mono _ _
      | exact spec_ValidTurns.mono _ _
      | exact LeO.none _
      | refine LeO.ite ?_ ?_
      | refine LeO.bind ?_ (fun _ => ?_)
    · intro y0 y1 y2 y3 y4 y5 y6 y7
      unfold laws_FnEnsemble.j2
      repeat' first
      | (with_reducible exact ih0 _ _ _ _ _ _)
      | (with_reducible exact ih1 _ _ _ _ _ _)
      | (with_reducible exact ih2 _ _ _ _ _ _ _ _)
      | (with_reducible exact ih3 _ _ _ _ _ _ _ _ _ _)
      | (with_reducible exact ih4 _ _ _)
      | (with_reducible exact ih5 _ _ _ _)
      | (with_reducible exact ih6 _ _ _ _)
      | (with_reducible exact ih7 _ _ _ _)
      | (with_reducible exact impl_AddAnswers.mono _ _ _ _)
      | (with_reducible exact impl_FullestTime.mono _ _)
      | (with_reducible exact impl_MissedAnswers.mono _ _ _)
      | (with_reducible exact impl_PlayersAt.mono _ _ _)
      | (with_reducible exact impl_SilencesOf.mono _ _)
      | (with_reducible exact impl_SoloTime.mono _ _ _)
      | (with_reducible exact spec_R8Answers.mono _ _)
      | (with_reducible exact spec_R8Turns.mono _ _)
      | (with_reducible exact spec_ValidTurns.mono _ _)
      | (with_reducible exact LeO.refl _)
      | (with_reducible exact LeO.none _)
      | (with_reducible refine LeO.ite ?_ ?_)
      | (with_reducible refine LeO.bind ?_ (fun _ => ?_))
      | exact ih0 _ _ _ _ _ _
      | exact ih1 _ _ _ _ _ _
      | exact ih2 _ _ _ _ _ _ _ _
      | exact ih3 _ _ _ _ _ _ _ _ _ _
      | exact ih4 _ _ _
      | exact ih5 _ _ _ _
      | exact ih6 _ _ _ _
      | exact ih7 _ _ _ _
      | exact impl_AddAnswers.mono _ _ _ _
      | exact impl_FullestTime.mono _ _
      | exact impl_MissedAnswers.mono _ _ _
      | exact impl_PlayersAt.mono _ _ _
      | exact impl_SilencesOf.mono _ _
      | exact impl_SoloTime.mono _ _ _
      | exact spec_R8Answers.mono _ _
      | exact spec_R8Turns.mono _ _
      | exact spec_ValidTurns.mono _ _
      | exact LeO.none _
      | refine LeO.ite ?_ ?_
      | refine LeO.bind ?_ (fun _ => ?_)
    · intro y0 y1 y2 y3 y4 y5 y6 y7 y8 y9
      unfold laws_FnEnsemble.l1
      repeat' first
      | (with_reducible exact ih0 _ _ _ _ _ _)
      | (with_reducible exact ih1 _ _ _ _ _ _)
      | (with_reducible exact ih2 _ _ _ _ _ _ _ _)
      | (with_reducible exact ih3 _ _ _ _ _ _ _ _ _ _)
      | (with_reducible exact ih4 _ _ _)
      | (with_reducible exact ih5 _ _ _ _)
      | (with_reducible exact ih6 _ _ _ _)
      | (with_reducible exact ih7 _ _ _ _)
      | (with_reducible exact impl_AddAnswers.mono _ _ _ _)
      | (with_reducible exact impl_FullestTime.mono _ _)
      | (with_reducible exact impl_MissedAnswers.mono _ _ _)
      | (with_reducible exact impl_PlayersAt.mono _ _ _)
      | (with_reducible exact impl_SilencesOf.mono _ _)
      | (with_reducible exact impl_SoloTime.mono _ _ _)
      | (with_reducible exact spec_R8Answers.mono _ _)
      | (with_reducible exact spec_R8Turns.mono _ _)
      | (with_reducible exact spec_ValidTurns.mono _ _)
      | (with_reducible exact LeO.refl _)
      | (with_reducible exact LeO.none _)
      | (with_reducible refine LeO.ite ?_ ?_)
      | (with_reducible refine LeO.bind ?_ (fun _ => ?_))
      | exact ih0 _ _ _ _ _ _
      | exact ih1 _ _ _ _ _ _
      | exact ih2 _ _ _ _ _ _ _ _
      | exact ih3 _ _ _ _ _ _ _ _ _ _
      | exact ih4 _ _ _
      | exact ih5 _ _ _ _
      | exact ih6 _ _ _ _
      | exact ih7 _ _ _ _
      | exact impl_AddAnswers.mono _ _ _ _
      | exact impl_FullestTime.mono _ _
      | exact impl_MissedAnswers.mono _ _ _
      | exact impl_PlayersAt.mono _ _ _
      | exact impl_SilencesOf.mono _ _
      | exact impl_SoloTime.mono _ _ _
      | exact spec_R8Answers.mono _ _
      | exact spec_R8Turns.mono _ _
      | exact spec_ValidTurns.mono _ _
      | exact LeO.none _
      | refine LeO.ite ?_ ?_
      | refine LeO.bind ?_ (fun _ => ?_)
    · intro y0 y1 y2
      unfold laws_FnEnsemble.l2
      repeat' first
      | (with_reducible exact ih0 _ _ _ _ _ _)
      | (with_reducible exact ih1 _ _ _ _ _ _)
      | (with_reducible exact ih2 _ _ _ _ _ _ _ _)
      | (with_reducible exact ih3 _ _ _ _ _ _ _ _ _ _)
      | (with_reducible exact ih4 _ _ _)
      | (with_reducible exact ih5 _ _ _ _)
      | (with_reducible exact ih6 _ _ _ _)
      | (with_reducible exact ih7 _ _ _ _)
      | (with_reducible exact impl_AddAnswers.mono _ _ _ _)
      | (with_reducible exact impl_FullestTime.mono _ _)
      | (with_reducible exact impl_MissedAnswers.mono _ _ _)
      | (with_reducible exact impl_PlayersAt.mono _ _ _)
      | (with_reducible exact impl_SilencesOf.mono _ _)
      | (with_reducible exact impl_SoloTime.mono _ _ _)
      | (with_reducible exact spec_R8Answers.mono _ _)
      | (with_reducible exact spec_R8Turns.mono _ _)
      | (with_reducible exact spec_ValidTurns.mono _ _)
      | (with_reducible exact LeO.refl _)
      | (with_reducible exact LeO.none _)
      | (with_reducible refine LeO.ite ?_ ?_)
      | (with_reducible refine LeO.bind ?_ (fun _ => ?_))
      | exact ih0 _ _ _ _ _ _
      | exact ih1 _ _ _ _ _ _
      | exact ih2 _ _ _ _ _ _ _ _
      | exact ih3 _ _ _ _ _ _ _ _ _ _
      | exact ih4 _ _ _
      | exact ih5 _ _ _ _
      | exact ih6 _ _ _ _
      | exact ih7 _ _ _ _
      | exact impl_AddAnswers.mono _ _ _ _
      | exact impl_FullestTime.mono _ _
      | exact impl_MissedAnswers.mono _ _ _
      | exact impl_PlayersAt.mono _ _ _
      | exact impl_SilencesOf.mono _ _
      | exact impl_SoloTime.mono _ _ _
      | exact spec_R8Answers.mono _ _
      | exact spec_R8Turns.mono _ _
      | exact spec_ValidTurns.mono _ _
      | exact LeO.none _
      | refine LeO.ite ?_ ?_
      | refine LeO.bind ?_ (fun _ => ?_)
    · intro y0 y1 y2 y3
      unfold laws_FnEnsemble.j5
      repeat' first
      | (with_reducible exact ih0 _ _ _ _ _ _)
      | (with_reducible exact ih1 _ _ _ _ _ _)
      | (with_reducible exact ih2 _ _ _ _ _ _ _ _)
      | (with_reducible exact ih3 _ _ _ _ _ _ _ _ _ _)
      | (with_reducible exact ih4 _ _ _)
      | (with_reducible exact ih5 _ _ _ _)
      | (with_reducible exact ih6 _ _ _ _)
      | (with_reducible exact ih7 _ _ _ _)
      | (with_reducible exact impl_AddAnswers.mono _ _ _ _)
      | (with_reducible exact impl_FullestTime.mono _ _)
      | (with_reducible exact impl_MissedAnswers.mono _ _ _)
      | (with_reducible exact impl_PlayersAt.mono _ _ _)
      | (with_reducible exact impl_SilencesOf.mono _ _)
      | (with_reducible exact impl_SoloTime.mono _ _ _)
      | (with_reducible exact spec_R8Answers.mono _ _)
      | (with_reducible exact spec_R8Turns.mono _ _)
      | (with_reducible exact spec_ValidTurns.mono _ _)
      | (with_reducible exact LeO.refl _)
      | (with_reducible exact LeO.none _)
      | (with_reducible refine LeO.ite ?_ ?_)
      | (with_reducible refine LeO.bind ?_ (fun _ => ?_))
      | exact ih0 _ _ _ _ _ _
      | exact ih1 _ _ _ _ _ _
      | exact ih2 _ _ _ _ _ _ _ _
      | exact ih3 _ _ _ _ _ _ _ _ _ _
      | exact ih4 _ _ _
      | exact ih5 _ _ _ _
      | exact ih6 _ _ _ _
      | exact ih7 _ _ _ _
      | exact impl_AddAnswers.mono _ _ _ _
      | exact impl_FullestTime.mono _ _
      | exact impl_MissedAnswers.mono _ _ _
      | exact impl_PlayersAt.mono _ _ _
      | exact impl_SilencesOf.mono _ _
      | exact impl_SoloTime.mono _ _ _
      | exact spec_R8Answers.mono _ _
      | exact spec_R8Turns.mono _ _
      | exact spec_ValidTurns.mono _ _
      | exact LeO.none _
      | refine LeO.ite ?_ ?_
      | refine LeO.bind ?_ (fun _ => ?_)
    · intro y0 y1 y2 y3
      unfold laws_FnEnsemble.l3
      repeat' first
      | (with_reducible exact ih0 _ _ _ _ _ _)
      | (with_reducible exact ih1 _ _ _ _ _ _)
      | (with_reducible exact ih2 _ _ _ _ _ _ _ _)
      | (with_reducible exact ih3 _ _ _ _ _ _ _ _ _ _)
      | (with_reducible exact ih4 _ _ _)
      | (with_reducible exact ih5 _ _ _ _)
      | (with_reducible exact ih6 _ _ _ _)
      | (with_reducible exact ih7 _ _ _ _)
      | (with_reducible exact impl_AddAnswers.mono _ _ _ _)
      | (with_reducible exact impl_FullestTime.mono _ _)
      | (with_reducible exact impl_MissedAnswers.mono _ _ _)
      | (with_reducible exact impl_PlayersAt.mono _ _ _)
      | (with_reducible exact impl_SilencesOf.mono _ _)
      | (with_reducible exact impl_SoloTime.mono _ _ _)
      | (with_reducible exact spec_R8Answers.mono _ _)
      | (with_reducible exact spec_R8Turns.mono _ _)
      | (with_reducible exact spec_ValidTurns.mono _ _)
      | (with_reducible exact LeO.refl _)
      | (with_reducible exact LeO.none _)
      | (with_reducible refine LeO.ite ?_ ?_)
      | (with_reducible refine LeO.bind ?_ (fun _ => ?_))
      | exact ih0 _ _ _ _ _ _
      | exact ih1 _ _ _ _ _ _
      | exact ih2 _ _ _ _ _ _ _ _
      | exact ih3 _ _ _ _ _ _ _ _ _ _
      | exact ih4 _ _ _
      | exact ih5 _ _ _ _
      | exact ih6 _ _ _ _
      | exact ih7 _ _ _ _
      | exact impl_AddAnswers.mono _ _ _ _
      | exact impl_FullestTime.mono _ _
      | exact impl_MissedAnswers.mono _ _ _
      | exact impl_PlayersAt.mono _ _ _
      | exact impl_SilencesOf.mono _ _
      | exact impl_SoloTime.mono _ _ _
      | exact spec_R8Answers.mono _ _
      | exact spec_R8Turns.mono _ _
      | exact spec_ValidTurns.mono _ _
      | exact LeO.none _
      | refine LeO.ite ?_ ?_
      | refine LeO.bind ?_ (fun _ => ?_)
    · intro y0 y1 y2 y3
      unfold laws_FnEnsemble.l4
      repeat' first
      | (with_reducible exact ih0 _ _ _ _ _ _)
      | (with_reducible exact ih1 _ _ _ _ _ _)
      | (with_reducible exact ih2 _ _ _ _ _ _ _ _)
      | (with_reducible exact ih3 _ _ _ _ _ _ _ _ _ _)
      | (with_reducible exact ih4 _ _ _)
      | (with_reducible exact ih5 _ _ _ _)
      | (with_reducible exact ih6 _ _ _ _)
      | (with_reducible exact ih7 _ _ _ _)
      | (with_reducible exact impl_AddAnswers.mono _ _ _ _)
      | (with_reducible exact impl_FullestTime.mono _ _)
      | (with_reducible exact impl_MissedAnswers.mono _ _ _)
      | (with_reducible exact impl_PlayersAt.mono _ _ _)
      | (with_reducible exact impl_SilencesOf.mono _ _)
      | (with_reducible exact impl_SoloTime.mono _ _ _)
      | (with_reducible exact spec_R8Answers.mono _ _)
      | (with_reducible exact spec_R8Turns.mono _ _)
      | (with_reducible exact spec_ValidTurns.mono _ _)
      | (with_reducible exact LeO.refl _)
      | (with_reducible exact LeO.none _)
      | (with_reducible refine LeO.ite ?_ ?_)
      | (with_reducible refine LeO.bind ?_ (fun _ => ?_))
      | exact ih0 _ _ _ _ _ _
      | exact ih1 _ _ _ _ _ _
      | exact ih2 _ _ _ _ _ _ _ _
      | exact ih3 _ _ _ _ _ _ _ _ _ _
      | exact ih4 _ _ _
      | exact ih5 _ _ _ _
      | exact ih6 _ _ _ _
      | exact ih7 _ _ _ _
      | exact impl_AddAnswers.mono _ _ _ _
      | exact impl_FullestTime.mono _ _
      | exact impl_MissedAnswers.mono _ _ _
      | exact impl_PlayersAt.mono _ _ _
      | exact impl_SilencesOf.mono _ _
      | exact impl_SoloTime.mono _ _ _
      | exact spec_R8Answers.mono _ _
      | exact spec_R8Turns.mono _ _
      | exact spec_ValidTurns.mono _ _
      | exact LeO.none _
      | refine LeO.ite ?_ ?_
      | refine LeO.bind ?_ (fun _ => ?_)
theorem laws_FnEnsemble.mono : ∀ a0 a1 k, LeO (laws_FnEnsemble.f k a0 a1) (laws_FnEnsemble.f (k + 1) a0 a1) := by
  intro a0 a1 k
  obtain ⟨ih0, ih1, ih2, ih3, ih4, ih5, ih6, ih7⟩ := laws_FnEnsemble.mono_l k
  unfold laws_FnEnsemble.f
  repeat' first
      | (with_reducible exact ih0 _ _ _ _ _ _)
      | (with_reducible exact ih1 _ _ _ _ _ _)
      | (with_reducible exact ih2 _ _ _ _ _ _ _ _)
      | (with_reducible exact ih3 _ _ _ _ _ _ _ _ _ _)
      | (with_reducible exact ih4 _ _ _)
      | (with_reducible exact ih5 _ _ _ _)
      | (with_reducible exact ih6 _ _ _ _)
      | (with_reducible exact ih7 _ _ _ _)
      | (with_reducible exact impl_AddAnswers.mono _ _ _ _)
      | (with_reducible exact impl_FullestTime.mono _ _)
      | (with_reducible exact impl_MissedAnswers.mono _ _ _)
      | (with_reducible exact impl_PlayersAt.mono _ _ _)
      | (with_reducible exact impl_SilencesOf.mono _ _)
      | (with_reducible exact impl_SoloTime.mono _ _ _)
      | (with_reducible exact spec_R8Answers.mono _ _)
      | (with_reducible exact spec_R8Turns.mono _ _)
      | (with_reducible exact spec_ValidTurns.mono _ _)
      | (with_reducible exact LeO.refl _)
      | (with_reducible exact LeO.none _)
      | (with_reducible refine LeO.ite ?_ ?_)
      | (with_reducible refine LeO.bind ?_ (fun _ => ?_))
      | exact ih0 _ _ _ _ _ _
      | exact ih1 _ _ _ _ _ _
      | exact ih2 _ _ _ _ _ _ _ _
      | exact ih3 _ _ _ _ _ _ _ _ _ _
      | exact ih4 _ _ _
      | exact ih5 _ _ _ _
      | exact ih6 _ _ _ _
      | exact ih7 _ _ _ _
      | exact impl_AddAnswers.mono _ _ _ _
      | exact impl_FullestTime.mono _ _
      | exact impl_MissedAnswers.mono _ _ _
      | exact impl_PlayersAt.mono _ _ _
      | exact impl_SilencesOf.mono _ _
      | exact impl_SoloTime.mono _ _ _
      | exact spec_R8Answers.mono _ _
      | exact spec_R8Turns.mono _ _
      | exact spec_ValidTurns.mono _ _
      | exact LeO.none _
      | refine LeO.ite ?_ ?_
      | refine LeO.bind ?_ (fun _ => ?_)
set_option maxHeartbeats 8000000 in
set_option maxRecDepth 100000 in
theorem laws_FnEnsemble.calls (k : Nat) (A0 : Option Addr) (c0 : Nat) (l0 : List Int) (A1 : Option Addr) (c1 : Nat) (l1 : List Int) (r : Bool) (w : World) (hr0 : Kd.C (Kd.int .u8) w A0 l0.length l0) (hc0 : l0.length ≤ c0) (hr1 : Kd.C (Kd.int .u8) w A1 l1.length l1) (hc1 : l1.length ≤ c1) (h : laws_FnEnsemble.f k l0 l1 = some r) :
    Calls Try.prog 3 #[.slice A0 l0.length c0, .slice A1 l1.length c1] w fun e w' => e = .returned (.bool r) ∧ Below w.heap.size w w' := by
 have HR0 := Aside0.mk hr0
 have HC0 := Aside0.mk hc0
 clear hr0 hc0
 have HR1 := Aside0.mk hr1
 have HC1 := Aside0.mk hc1
 clear hr1 hc1
 have HB := Aside0.mk (Below.refl w.heap.size w)
 have H : ((laws_r8Long.f l0 l1).bind fun t514 => (if t514 = true then (some true) else ((spec_R8Turns.f k l0).bind fun t515 => ((spec_R8Answers.f k l1).bind fun t518 => ((impl_MissedAnswers.f k t515 t518).bind fun bt521 => ((impl_AddAnswers.f k t515 t518 8).bind fun bt525 => (if bt521.2 = 0 then (if bt525.2 = 0 then ((spec_ValidTurns.f k bt525.1).bind fun t529 => (laws_FnEnsemble.j0 k t515 t518 bt521.1 bt525.1 bt525.2 (!t529))) else (if bt525.2 = 5 then (laws_FnEnsemble.j0 k t515 t518 bt521.1 bt525.1 bt525.2 false) else (laws_FnEnsemble.j0 k t515 t518 bt521.1 bt525.1 bt525.2 true))) else (laws_FnEnsemble.j0 k t515 t518 bt521.1 bt525.1 bt525.2 true)))))))) = some r := h
 clear h
 replace H := Option.bind_eq_some_iff.mp H
 obtain ⟨t514, A30, H⟩ := H
 replace H : (if t514 = true then (some true) else ((spec_R8Turns.f k l0).bind fun t515 => ((spec_R8Answers.f k l1).bind fun t518 => ((impl_MissedAnswers.f k t515 t518).bind fun bt521 => ((impl_AddAnswers.f k t515 t518 8).bind fun bt525 => (if bt521.2 = 0 then (if bt525.2 = 0 then ((spec_ValidTurns.f k bt525.1).bind fun t529 => (laws_FnEnsemble.j0 k t515 t518 bt521.1 bt525.1 bt525.2 (!t529))) else (if bt525.2 = 5 then (laws_FnEnsemble.j0 k t515 t518 bt521.1 bt525.1 bt525.2 false) else (laws_FnEnsemble.j0 k t515 t518 bt521.1 bt525.1 bt525.2 true))) else (laws_FnEnsemble.j0 k t515 t518 bt521.1 bt525.1 bt525.2 true))))))) = some r := H
 have A3 := Aside0.mk A30
 clear A30
 by_cases c4 : t514 = true
 {
 subst c4
 have H1 : (some true) = some r := by rw [if_pos rfl] at H; exact H
 clear H
 have H := H1
 clear H1
 obtain rfl := Option.some.inj H
 go_enter Try.func3, Try.ntmps3
 go_wp2_with (first | (go_at_call 6; (with_reducible refine (laws_r8Long.calls _ _ l0 _ _ l1 true _ ?side1 ?side2 ?side3 ?side4 A3.out).mono ?_); (case side1 => repeat (first | exact HR0.out | (with_reducible refine Kd.C_alloc ?_ _) | (with_reducible refine Kd.C_drewN ?_ _) | (with_reducible refine Kd.C_drew ?_))); (case side2 => exact HC0.out); (case side3 => repeat (first | exact HR1.out | (with_reducible refine Kd.C_alloc ?_ _) | (with_reducible refine Kd.C_drewN ?_ _) | (with_reducible refine Kd.C_drew ?_))); (case side4 => exact HC1.out); rintro e w' ⟨rfl, ⟨nd, rfl⟩⟩; (try first | exact ⟨rfl, _, World.drewN_drewN _ _ _⟩ | exact ⟨rfl, _, Eq.trans (World.drewN_drewN _ _ _) (congrArg (World.drewN _) (Nat.add_assoc _ _ _))⟩)))
 repeat (go_quiet (first | (go_at_call 6; (with_reducible refine (laws_r8Long.calls _ _ l0 _ _ l1 true _ ?side1 ?side2 ?side3 ?side4 A3.out).mono ?_); (case side1 => repeat (first | exact HR0.out | (with_reducible refine Kd.C_alloc ?_ _) | (with_reducible refine Kd.C_drewN ?_ _) | (with_reducible refine Kd.C_drew ?_))); (case side2 => exact HC0.out); (case side3 => repeat (first | exact HR1.out | (with_reducible refine Kd.C_alloc ?_ _) | (with_reducible refine Kd.C_drewN ?_ _) | (with_reducible refine Kd.C_drew ?_))); (case side4 => exact HC1.out); rintro e w' ⟨rfl, ⟨nd, rfl⟩⟩; (try first | exact ⟨rfl, _, World.drewN_drewN _ _ _⟩ | exact ⟨rfl, _, Eq.trans (World.drewN_drewN _ _ _) (congrArg (World.drewN _) (Nat.add_assoc _ _ _))⟩))); try go_wp2_with (first | (go_at_call 6; (with_reducible refine (laws_r8Long.calls _ _ l0 _ _ l1 true _ ?side1 ?side2 ?side3 ?side4 A3.out).mono ?_); (case side1 => repeat (first | exact HR0.out | (with_reducible refine Kd.C_alloc ?_ _) | (with_reducible refine Kd.C_drewN ?_ _) | (with_reducible refine Kd.C_drew ?_))); (case side2 => exact HC0.out); (case side3 => repeat (first | exact HR1.out | (with_reducible refine Kd.C_alloc ?_ _) | (with_reducible refine Kd.C_drewN ?_ _) | (with_reducible refine Kd.C_drew ?_))); (case side4 => exact HC1.out); rintro e w' ⟨rfl, ⟨nd, rfl⟩⟩; (try first | exact ⟨rfl, _, World.drewN_drewN _ _ _⟩ | exact ⟨rfl, _, Eq.trans (World.drewN_drewN _ _ _) (congrArg (World.drewN _) (Nat.add_assoc _ _ _))⟩))))
 go_ret
 exact ⟨by first | rfl | (simp [errW_none, errW_some] <;> rfl) | (simp [*, errW_none, errW_some] <;> rfl), by repeat (first | (with_reducible first | exact HB.out | apply below_alloc | apply pw_below_drewN | apply below_drew1) | exact HB.out)⟩
 }
 {
 replace c4 := Bool.eq_false_iff.mpr c4
 subst c4
 have H1 : ((spec_R8Turns.f k l0).bind fun t515 => ((spec_R8Answers.f k l1).bind fun t518 => ((impl_MissedAnswers.f k t515 t518).bind fun bt521 => ((impl_AddAnswers.f k t515 t518 8).bind fun bt525 => (if bt521.2 = 0 then (if bt525.2 = 0 then ((spec_ValidTurns.f k bt525.1).bind fun t529 => (laws_FnEnsemble.j0 k t515 t518 bt521.1 bt525.1 bt525.2 (!t529))) else (if bt525.2 = 5 then (laws_FnEnsemble.j0 k t515 t518 bt521.1 bt525.1 bt525.2 false) else (laws_FnEnsemble.j0 k t515 t518 bt521.1 bt525.1 bt525.2 true))) else (laws_FnEnsemble.j0 k t515 t518 bt521.1 bt525.1 bt525.2 true)))))) = some r := by rw [if_neg (show ¬ (false = true) by decide)] at H; exact H
 clear H
 have H := H1
 clear H1
 replace H := Option.bind_eq_some_iff.mp H
 obtain ⟨t515, A50, H⟩ := H
 replace H : ((spec_R8Answers.f k l1).bind fun t518 => ((impl_MissedAnswers.f k t515 t518).bind fun bt521 => ((impl_AddAnswers.f k t515 t518 8).bind fun bt525 => (if bt521.2 = 0 then (if bt525.2 = 0 then ((spec_ValidTurns.f k bt525.1).bind fun t529 => (laws_FnEnsemble.j0 k t515 t518 bt521.1 bt525.1 bt525.2 (!t529))) else (if bt525.2 = 5 then (laws_FnEnsemble.j0 k t515 t518 bt521.1 bt525.1 bt525.2 false) else (laws_FnEnsemble.j0 k t515 t518 bt521.1 bt525.1 bt525.2 true))) else (laws_FnEnsemble.j0 k t515 t518 bt521.1 bt525.1 bt525.2 true))))) = some r := H
 have A5 := Aside0.mk A50
 clear A50
 replace H := Option.bind_eq_some_iff.mp H
 obtain ⟨t518, A60, H⟩ := H
 replace H : ((impl_MissedAnswers.f k t515 t518).bind fun bt521 => ((impl_AddAnswers.f k t515 t518 8).bind fun bt525 => (if bt521.2 = 0 then (if bt525.2 = 0 then ((spec_ValidTurns.f k bt525.1).bind fun t529 => (laws_FnEnsemble.j0 k t515 t518 bt521.1 bt525.1 bt525.2 (!t529))) else (if bt525.2 = 5 then (laws_FnEnsemble.j0 k t515 t518 bt521.1 bt525.1 bt525.2 false) else (laws_FnEnsemble.j0 k t515 t518 bt521.1 bt525.1 bt525.2 true))) else (laws_FnEnsemble.j0 k t515 t518 bt521.1 bt525.1 bt525.2 true)))) = some r := H
 have A6 := Aside0.mk A60
 clear A60
 replace H := Option.bind_eq_some_iff.mp H
 obtain ⟨⟨t521, t522⟩, A70, H⟩ := H
 replace H : ((impl_AddAnswers.f k t515 t518 8).bind fun bt525 => (if t522 = 0 then (if bt525.2 = 0 then ((spec_ValidTurns.f k bt525.1).bind fun t529 => (laws_FnEnsemble.j0 k t515 t518 t521 bt525.1 bt525.2 (!t529))) else (if bt525.2 = 5 then (laws_FnEnsemble.j0 k t515 t518 t521 bt525.1 bt525.2 false) else (laws_FnEnsemble.j0 k t515 t518 t521 bt525.1 bt525.2 true))) else (laws_FnEnsemble.j0 k t515 t518 t521 bt525.1 bt525.2 true))) = some r := H
 have A7 := Aside0.mk A70
 clear A70
 replace H := Option.bind_eq_some_iff.mp H
 obtain ⟨⟨t525, t526⟩, A80, H⟩ := H
 replace H : (if t522 = 0 then (if t526 = 0 then ((spec_ValidTurns.f k t525).bind fun t529 => (laws_FnEnsemble.j0 k t515 t518 t521 t525 t526 (!t529))) else (if t526 = 5 then (laws_FnEnsemble.j0 k t515 t518 t521 t525 t526 false) else (laws_FnEnsemble.j0 k t515 t518 t521 t525 t526 true))) else (laws_FnEnsemble.j0 k t515 t518 t521 t525 t526 true)) = some r := H
 have A8 := Aside0.mk A80
 clear A80
 have HC9 := Aside0.mk H
 clear H
 go_enter Try.func3, Try.ntmps3
 go_upto_region 7 with (first | (go_at_call 6; (with_reducible refine (laws_r8Long.calls _ _ l0 _ _ l1 false _ ?side1 ?side2 ?side3 ?side4 A3.out).mono ?_); (case side1 => repeat (first | exact HR0.out | (with_reducible refine Kd.C_alloc ?_ _) | (with_reducible refine Kd.C_drewN ?_ _) | (with_reducible refine Kd.C_drew ?_))); (case side2 => exact HC0.out); (case side3 => repeat (first | exact HR1.out | (with_reducible refine Kd.C_alloc ?_ _) | (with_reducible refine Kd.C_drewN ?_ _) | (with_reducible refine Kd.C_drew ?_))); (case side4 => exact HC1.out); rintro e w' ⟨rfl, ⟨nd, rfl⟩⟩; (try first | exact ⟨rfl, _, World.drewN_drewN _ _ _⟩ | exact ⟨rfl, _, Eq.trans (World.drewN_drewN _ _ _) (congrArg (World.drewN _) (Nat.add_assoc _ _ _))⟩)) | (go_at_call 7; (with_reducible refine (spec_R8Turns.calls k _ _ l0 t515 _ ?side1 ?side2 A5.out).mono ?_); (case side1 => repeat (first | exact HR0.out | (with_reducible refine Kd.C_alloc ?_ _) | (with_reducible refine Kd.C_drewN ?_ _) | (with_reducible refine Kd.C_drew ?_))); (case side2 => exact HC0.out); rintro e w10 ⟨v516, rfl, ho0, hb⟩; have n0_ := Aside0.mk (Kd.R_lower ho0 (below_size (by repeat (first | (with_reducible first | exact HB.out | apply below_alloc | apply pw_below_drewN | apply below_drew1) | exact HB.out)))); have n1_ := Aside0.mk (below_step (by repeat (first | (with_reducible first | exact HB.out | apply below_alloc | apply pw_below_drewN | apply below_drew1) | exact HB.out)) hb); clear HB; have HO517 := n0_; have HB := n1_; clear n0_ n1_; (try clear hb); (try clear hb2); (try clear hk); (try clear hi); (try clear ho0)) | (go_at_call 8; (with_reducible refine (spec_R8Answers.calls k _ _ l1 t518 _ ?side1 ?side2 A6.out).mono ?_); (case side1 => repeat (first | exact (Kd.C_below HR1.out HB.out) | (with_reducible refine Kd.C_alloc ?_ _) | (with_reducible refine Kd.C_drewN ?_ _) | (with_reducible refine Kd.C_drew ?_))); (case side2 => exact HC1.out); rintro e w11 ⟨v519, rfl, ho0, hb⟩; have n0_ := Aside0.mk (Kd.R_below (by (with_reducible repeat (first | apply Kd.R_alloc | apply Kd.R_drewN | apply Kd.R_drew)); exact HO517.out) hb); have n1_ := Aside0.mk (Kd.R_lower ho0 (below_size (by repeat (first | (with_reducible first | exact HB.out | apply below_alloc | apply pw_below_drewN | apply below_drew1) | exact HB.out)))); have n2_ := Aside0.mk (below_step (by repeat (first | (with_reducible first | exact HB.out | apply below_alloc | apply pw_below_drewN | apply below_drew1) | exact HB.out)) hb); clear HO517; clear HB; have HO517 := n0_; have HO520 := n1_; have HB := n2_; clear n0_ n1_ n2_; (try clear hb); (try clear hb2); (try clear hk); (try clear hi); (try clear ho0); obtain ⟨Ao12, co12, eo12⟩ := Kd.R_slice HO517.out; subst eo12; obtain ⟨Ao13, co13, eo13⟩ := Kd.R_slice HO520.out; subst eo13) | (go_at_call 9; (with_reducible refine (impl_MissedAnswers.calls k _ _ t515 _ _ t518 t521 t522 _ ?side1 ?side2 ?side3 ?side4 A7.out).mono ?_); (case side1 => repeat (first | exact (Kd.R_reads' HO517.out).2.2 | (with_reducible refine Kd.C_alloc ?_ _) | (with_reducible refine Kd.C_drewN ?_ _) | (with_reducible refine Kd.C_drew ?_))); (case side2 => exact (Kd.R_reads' HO517.out).2.1); (case side3 => repeat (first | exact (Kd.R_reads' HO520.out).2.2 | (with_reducible refine Kd.C_alloc ?_ _) | (with_reducible refine Kd.C_drewN ?_ _) | (with_reducible refine Kd.C_drew ?_))); (case side4 => exact (Kd.R_reads' HO520.out).2.1); rintro e w14 ⟨v523, rfl, ho0, hb⟩; have n0_ := Aside0.mk (Kd.R_below (by (with_reducible repeat (first | apply Kd.R_alloc | apply Kd.R_drewN | apply Kd.R_drew)); exact HO517.out) hb); have n1_ := Aside0.mk (Kd.R_below (by (with_reducible repeat (first | apply Kd.R_alloc | apply Kd.R_drewN | apply Kd.R_drew)); exact HO520.out) hb); have n2_ := Aside0.mk (Kd.S_lower ho0 (below_size (by repeat (first | (with_reducible first | exact HB.out | apply below_alloc | apply pw_below_drewN | apply below_drew1) | exact HB.out)))); have n3_ := Aside0.mk (below_step (by repeat (first | (with_reducible first | exact HB.out | apply below_alloc | apply pw_below_drewN | apply below_drew1) | exact HB.out)) hb); clear HO517; clear HO520; clear HB; have HO517 := n0_; have HO520 := n1_; have HO524 := n2_; have HB := n3_; clear n0_ n1_ n2_ n3_; (try clear hb); (try clear hb2); (try clear hk); (try clear hi); (try clear ho0)) | (go_at_call 10; (with_reducible refine (impl_AddAnswers.calls k _ _ t515 _ _ t518 8 t525 t526 _ ?side1 ?side2 ?side3 ?side4 A8.out).mono ?_); (case side1 => repeat (first | exact (Kd.R_reads' HO517.out).2.2 | (with_reducible refine Kd.C_alloc ?_ _) | (with_reducible refine Kd.C_drewN ?_ _) | (with_reducible refine Kd.C_drew ?_))); (case side2 => exact (Kd.R_reads' HO517.out).2.1); (case side3 => repeat (first | exact (Kd.R_reads' HO520.out).2.2 | (with_reducible refine Kd.C_alloc ?_ _) | (with_reducible refine Kd.C_drewN ?_ _) | (with_reducible refine Kd.C_drew ?_))); (case side4 => exact (Kd.R_reads' HO520.out).2.1); rintro e w15 ⟨v527, rfl, ho0, hb⟩; have n0_ := Aside0.mk (Kd.R_elder' (by (with_reducible repeat (first | apply Kd.R_alloc | apply Kd.R_drewN | apply Kd.R_drew)); exact HO517.out) (Kd.R_base ho0) hb); have n1_ := Aside0.mk (Kd.R_below (by (with_reducible repeat (first | apply Kd.R_alloc | apply Kd.R_drewN | apply Kd.R_drew)); exact HO520.out) hb); have n2_ := Aside0.mk (Kd.S_below (by (with_reducible repeat (first | apply Kd.S_alloc | apply Kd.S_drewN | apply Kd.S_drew)); exact HO524.out) hb); have n3_ := Aside0.mk (Kd.R_lower (Kd.R_new' ho0 (Kd.R_lt (by (with_reducible repeat (first | apply Kd.R_alloc | apply Kd.R_drewN | apply Kd.R_drew)); exact HO517.out))) (below_size (by repeat (first | (with_reducible first | exact HB.out | apply below_alloc | apply pw_below_drewN | apply below_drew1) | exact HB.out)))); have n4_ := Aside0.mk (below_step (by repeat (first | (with_reducible first | exact HB.out | apply below_alloc | apply pw_below_drewN | apply below_drew1) | exact HB.out)) hb); clear HO517; clear HO520; clear HO524; clear HB; have HO517 := n0_; have HO520 := n1_; have HO524 := n2_; have HO528 := n3_; have HB := n4_; clear n0_ n1_ n2_ n3_ n4_; (try clear hb); (try clear hb2); (try clear hk); (try clear hi); (try clear ho0)))
 repeat (go_quiet (first | (go_at_call 6; (with_reducible refine (laws_r8Long.calls _ _ l0 _ _ l1 false _ ?side1 ?side2 ?side3 ?side4 A3.out).mono ?_); (case side1 => repeat (first | exact HR0.out | (with_reducible refine Kd.C_alloc ?_ _) | (with_reducible refine Kd.C_drewN ?_ _) | (with_reducible refine Kd.C_drew ?_))); (case side2 => exact HC0.out); (case side3 => repeat (first | exact HR1.out | (with_reducible refine Kd.C_alloc ?_ _) | (with_reducible refine Kd.C_drewN ?_ _) | (with_reducible refine Kd.C_drew ?_))); (case side4 => exact HC1.out); rintro e w' ⟨rfl, ⟨nd, rfl⟩⟩; (try first | exact ⟨rfl, _, World.drewN_drewN _ _ _⟩ | exact ⟨rfl, _, Eq.trans (World.drewN_drewN _ _ _) (congrArg (World.drewN _) (Nat.add_assoc _ _ _))⟩)) | (go_at_call 7; (with_reducible refine (spec_R8Turns.calls k _ _ l0 t515 _ ?side1 ?side2 A5.out).mono ?_); (case side1 => repeat (first | exact HR0.out | (with_reducible refine Kd.C_alloc ?_ _) | (with_reducible refine Kd.C_drewN ?_ _) | (with_reducible refine Kd.C_drew ?_))); (case side2 => exact HC0.out); rintro e w10 ⟨v516, rfl, ho0, hb⟩; have n0_ := Aside0.mk (Kd.R_lower ho0 (below_size (by repeat (first | (with_reducible first | exact HB.out | apply below_alloc | apply pw_below_drewN | apply below_drew1) | exact HB.out)))); have n1_ := Aside0.mk (below_step (by repeat (first | (with_reducible first | exact HB.out | apply below_alloc | apply pw_below_drewN | apply below_drew1) | exact HB.out)) hb); clear HB; have HO517 := n0_; have HB := n1_; clear n0_ n1_; (try clear hb); (try clear hb2); (try clear hk); (try clear hi); (try clear ho0)) | (go_at_call 8; (with_reducible refine (spec_R8Answers.calls k _ _ l1 t518 _ ?side1 ?side2 A6.out).mono ?_); (case side1 => repeat (first | exact (Kd.C_below HR1.out HB.out) | (with_reducible refine Kd.C_alloc ?_ _) | (with_reducible refine Kd.C_drewN ?_ _) | (with_reducible refine Kd.C_drew ?_))); (case side2 => exact HC1.out); rintro e w11 ⟨v519, rfl, ho0, hb⟩; have n0_ := Aside0.mk (Kd.R_below (by (with_reducible repeat (first | apply Kd.R_alloc | apply Kd.R_drewN | apply Kd.R_drew)); exact HO517.out) hb); have n1_ := Aside0.mk (Kd.R_lower ho0 (below_size (by repeat (first | (with_reducible first | exact HB.out | apply below_alloc | apply pw_below_drewN | apply below_drew1) | exact HB.out)))); have n2_ := Aside0.mk (below_step (by repeat (first | (with_reducible first | exact HB.out | apply below_alloc | apply pw_below_drewN | apply below_drew1) | exact HB.out)) hb); clear HO517; clear HB; have HO517 := n0_; have HO520 := n1_; have HB := n2_; clear n0_ n1_ n2_; (try clear hb); (try clear hb2); (try clear hk); (try clear hi); (try clear ho0); obtain ⟨Ao12, co12, eo12⟩ := Kd.R_slice HO517.out; subst eo12; obtain ⟨Ao13, co13, eo13⟩ := Kd.R_slice HO520.out; subst eo13) | (go_at_call 9; (with_reducible refine (impl_MissedAnswers.calls k _ _ t515 _ _ t518 t521 t522 _ ?side1 ?side2 ?side3 ?side4 A7.out).mono ?_); (case side1 => repeat (first | exact (Kd.R_reads' HO517.out).2.2 | (with_reducible refine Kd.C_alloc ?_ _) | (with_reducible refine Kd.C_drewN ?_ _) | (with_reducible refine Kd.C_drew ?_))); (case side2 => exact (Kd.R_reads' HO517.out).2.1); (case side3 => repeat (first | exact (Kd.R_reads' HO520.out).2.2 | (with_reducible refine Kd.C_alloc ?_ _) | (with_reducible refine Kd.C_drewN ?_ _) | (with_reducible refine Kd.C_drew ?_))); (case side4 => exact (Kd.R_reads' HO520.out).2.1); rintro e w14 ⟨v523, rfl, ho0, hb⟩; have n0_ := Aside0.mk (Kd.R_below (by (with_reducible repeat (first | apply Kd.R_alloc | apply Kd.R_drewN | apply Kd.R_drew)); exact HO517.out) hb); have n1_ := Aside0.mk (Kd.R_below (by (with_reducible repeat (first | apply Kd.R_alloc | apply Kd.R_drewN | apply Kd.R_drew)); exact HO520.out) hb); have n2_ := Aside0.mk (Kd.S_lower ho0 (below_size (by repeat (first | (with_reducible first | exact HB.out | apply below_alloc | apply pw_below_drewN | apply below_drew1) | exact HB.out)))); have n3_ := Aside0.mk (below_step (by repeat (first | (with_reducible first | exact HB.out | apply below_alloc | apply pw_below_drewN | apply below_drew1) | exact HB.out)) hb); clear HO517; clear HO520; clear HB; have HO517 := n0_; have HO520 := n1_; have HO524 := n2_; have HB := n3_; clear n0_ n1_ n2_ n3_; (try clear hb); (try clear hb2); (try clear hk); (try clear hi); (try clear ho0)) | (go_at_call 10; (with_reducible refine (impl_AddAnswers.calls k _ _ t515 _ _ t518 8 t525 t526 _ ?side1 ?side2 ?side3 ?side4 A8.out).mono ?_); (case side1 => repeat (first | exact (Kd.R_reads' HO517.out).2.2 | (with_reducible refine Kd.C_alloc ?_ _) | (with_reducible refine Kd.C_drewN ?_ _) | (with_reducible refine Kd.C_drew ?_))); (case side2 => exact (Kd.R_reads' HO517.out).2.1); (case side3 => repeat (first | exact (Kd.R_reads' HO520.out).2.2 | (with_reducible refine Kd.C_alloc ?_ _) | (with_reducible refine Kd.C_drewN ?_ _) | (with_reducible refine Kd.C_drew ?_))); (case side4 => exact (Kd.R_reads' HO520.out).2.1); rintro e w15 ⟨v527, rfl, ho0, hb⟩; have n0_ := Aside0.mk (Kd.R_elder' (by (with_reducible repeat (first | apply Kd.R_alloc | apply Kd.R_drewN | apply Kd.R_drew)); exact HO517.out) (Kd.R_base ho0) hb); have n1_ := Aside0.mk (Kd.R_below (by (with_reducible repeat (first | apply Kd.R_alloc | apply Kd.R_drewN | apply Kd.R_drew)); exact HO520.out) hb); have n2_ := Aside0.mk (Kd.S_below (by (with_reducible repeat (first | apply Kd.S_alloc | apply Kd.S_drewN | apply Kd.S_drew)); exact HO524.out) hb); have n3_ := Aside0.mk (Kd.R_lower (Kd.R_new' ho0 (Kd.R_lt (by (with_reducible repeat (first | apply Kd.R_alloc | apply Kd.R_drewN | apply Kd.R_drew)); exact HO517.out))) (below_size (by repeat (first | (with_reducible first | exact HB.out | apply below_alloc | apply pw_below_drewN | apply below_drew1) | exact HB.out)))); have n4_ := Aside0.mk (below_step (by repeat (first | (with_reducible first | exact HB.out | apply below_alloc | apply pw_below_drewN | apply below_drew1) | exact HB.out)) hb); clear HO517; clear HO520; clear HO524; clear HB; have HO517 := n0_; have HO520 := n1_; have HO524 := n2_; have HO528 := n3_; have HB := n4_; clear n0_ n1_ n2_ n3_ n4_; (try clear hb); (try clear hb2); (try clear hk); (try clear hi); (try clear ho0))); go_upto_region 7 with (first | (go_at_call 6; (with_reducible refine (laws_r8Long.calls _ _ l0 _ _ l1 false _ ?side1 ?side2 ?side3 ?side4 A3.out).mono ?_); (case side1 => repeat (first | exact HR0.out | (with_reducible refine Kd.C_alloc ?_ _) | (with_reducible refine Kd.C_drewN ?_ _) | (with_reducible refine Kd.C_drew ?_))); (case side2 => exact HC0.out); (case side3 => repeat (first | exact HR1.out | (with_reducible refine Kd.C_alloc ?_ _) | (with_reducible refine Kd.C_drewN ?_ _) | (with_reducible refine Kd.C_drew ?_))); (case side4 => exact HC1.out); rintro e w' ⟨rfl, ⟨nd, rfl⟩⟩; (try first | exact ⟨rfl, _, World.drewN_drewN _ _ _⟩ | exact ⟨rfl, _, Eq.trans (World.drewN_drewN _ _ _) (congrArg (World.drewN _) (Nat.add_assoc _ _ _))⟩)) | (go_at_call 7; (with_reducible refine (spec_R8Turns.calls k _ _ l0 t515 _ ?side1 ?side2 A5.out).mono ?_); (case side1 => repeat (first | exact HR0.out | (with_reducible refine Kd.C_alloc ?_ _) | (with_reducible refine Kd.C_drewN ?_ _) | (with_reducible refine Kd.C_drew ?_))); (case side2 => exact HC0.out); rintro e w10 ⟨v516, rfl, ho0, hb⟩; have n0_ := Aside0.mk (Kd.R_lower ho0 (below_size (by repeat (first | (with_reducible first | exact HB.out | apply below_alloc | apply pw_below_drewN | apply below_drew1) | exact HB.out)))); have n1_ := Aside0.mk (below_step (by repeat (first | (with_reducible first | exact HB.out | apply below_alloc | apply pw_below_drewN | apply below_drew1) | exact HB.out)) hb); clear HB; have HO517 := n0_; have HB := n1_; clear n0_ n1_; (try clear hb); (try clear hb2); (try clear hk); (try clear hi); (try clear ho0)) | (go_at_call 8; (with_reducible refine (spec_R8Answers.calls k _ _ l1 t518 _ ?side1 ?side2 A6.out).mono ?_); (case side1 => repeat (first | exact (Kd.C_below HR1.out HB.out) | (with_reducible refine Kd.C_alloc ?_ _) | (with_reducible refine Kd.C_drewN ?_ _) | (with_reducible refine Kd.C_drew ?_))); (case side2 => exact HC1.out); rintro e w11 ⟨v519, rfl, ho0, hb⟩; have n0_ := Aside0.mk (Kd.R_below (by (with_reducible repeat (first | apply Kd.R_alloc | apply Kd.R_drewN | apply Kd.R_drew)); exact HO517.out) hb); have n1_ := Aside0.mk (Kd.R_lower ho0 (below_size (by repeat (first | (with_reducible first | exact HB.out | apply below_alloc | apply pw_below_drewN | apply below_drew1) | exact HB.out)))); have n2_ := Aside0.mk (below_step (by repeat (first | (with_reducible first | exact HB.out | apply below_alloc | apply pw_below_drewN | apply below_drew1) | exact HB.out)) hb); clear HO517; clear HB; have HO517 := n0_; have HO520 := n1_; have HB := n2_; clear n0_ n1_ n2_; (try clear hb); (try clear hb2); (try clear hk); (try clear hi); (try clear ho0); obtain ⟨Ao12, co12, eo12⟩ := Kd.R_slice HO517.out; subst eo12; obtain ⟨Ao13, co13, eo13⟩ := Kd.R_slice HO520.out; subst eo13) | (go_at_call 9; (with_reducible refine (impl_MissedAnswers.calls k _ _ t515 _ _ t518 t521 t522 _ ?side1 ?side2 ?side3 ?side4 A7.out).mono ?_); (case side1 => repeat (first | exact (Kd.R_reads' HO517.out).2.2 | (with_reducible refine Kd.C_alloc ?_ _) | (with_reducible refine Kd.C_drewN ?_ _) | (with_reducible refine Kd.C_drew ?_))); (case side2 => exact (Kd.R_reads' HO517.out).2.1); (case side3 => repeat (first | exact (Kd.R_reads' HO520.out).2.2 | (with_reducible refine Kd.C_alloc ?_ _) | (with_reducible refine Kd.C_drewN ?_ _) | (with_reducible refine Kd.C_drew ?_))); (case side4 => exact (Kd.R_reads' HO520.out).2.1); rintro e w14 ⟨v523, rfl, ho0, hb⟩; have n0_ := Aside0.mk (Kd.R_below (by (with_reducible repeat (first | apply Kd.R_alloc | apply Kd.R_drewN | apply Kd.R_drew)); exact HO517.out) hb); have n1_ := Aside0.mk (Kd.R_below (by (with_reducible repeat (first | apply Kd.R_alloc | apply Kd.R_drewN | apply Kd.R_drew)); exact HO520.out) hb); have n2_ := Aside0.mk (Kd.S_lower ho0 (below_size (by repeat (first | (with_reducible first | exact HB.out | apply below_alloc | apply pw_below_drewN | apply below_drew1) | exact HB.out)))); have n3_ := Aside0.mk (below_step (by repeat (first | (with_reducible first | exact HB.out | apply below_alloc | apply pw_below_drewN | apply below_drew1) | exact HB.out)) hb); clear HO517; clear HO520; clear HB; have HO517 := n0_; have HO520 := n1_; have HO524 := n2_; have HB := n3_; clear n0_ n1_ n2_ n3_; (try clear hb); (try clear hb2); (try clear hk); (try clear hi); (try clear ho0)) | (go_at_call 10; (with_reducible refine (impl_AddAnswers.calls k _ _ t515 _ _ t518 8 t525 t526 _ ?side1 ?side2 ?side3 ?side4 A8.out).mono ?_); (case side1 => repeat (first | exact (Kd.R_reads' HO517.out).2.2 | (with_reducible refine Kd.C_alloc ?_ _) | (with_reducible refine Kd.C_drewN ?_ _) | (with_reducible refine Kd.C_drew ?_))); (case side2 => exact (Kd.R_reads' HO517.out).2.1); (case side3 => repeat (first | exact (Kd.R_reads' HO520.out).2.2 | (with_reducible refine Kd.C_alloc ?_ _) | (with_reducible refine Kd.C_drewN ?_ _) | (with_reducible refine Kd.C_drew ?_))); (case side4 => exact (Kd.R_reads' HO520.out).2.1); rintro e w15 ⟨v527, rfl, ho0, hb⟩; have n0_ := Aside0.mk (Kd.R_elder' (by (with_reducible repeat (first | apply Kd.R_alloc | apply Kd.R_drewN | apply Kd.R_drew)); exact HO517.out) (Kd.R_base ho0) hb); have n1_ := Aside0.mk (Kd.R_below (by (with_reducible repeat (first | apply Kd.R_alloc | apply Kd.R_drewN | apply Kd.R_drew)); exact HO520.out) hb); have n2_ := Aside0.mk (Kd.S_below (by (with_reducible repeat (first | apply Kd.S_alloc | apply Kd.S_drewN | apply Kd.S_drew)); exact HO524.out) hb); have n3_ := Aside0.mk (Kd.R_lower (Kd.R_new' ho0 (Kd.R_lt (by (with_reducible repeat (first | apply Kd.R_alloc | apply Kd.R_drewN | apply Kd.R_drew)); exact HO517.out))) (below_size (by repeat (first | (with_reducible first | exact HB.out | apply below_alloc | apply pw_below_drewN | apply below_drew1) | exact HB.out)))); have n4_ := Aside0.mk (below_step (by repeat (first | (with_reducible first | exact HB.out | apply below_alloc | apply pw_below_drewN | apply below_drew1) | exact HB.out)) hb); clear HO517; clear HO520; clear HO524; clear HB; have HO517 := n0_; have HO520 := n1_; have HO524 := n2_; have HO528 := n3_; have HB := n4_; clear n0_ n1_ n2_ n3_ n4_; (try clear hb); (try clear hb2); (try clear hk); (try clear hi); (try clear ho0))))
 (try simp only [Act.put, List.setIfInBounds_toArray, List.set_cons_zero, List.set_cons_succ])
 go_cut [69] (fun v69 wc => ∃ (kq : Nat) (x69_8 : Bool), v69 = .bool x69_8 ∧ Aside0 (laws_FnEnsemble.j0 kq t515 t518 t521 t525 t526 x69_8 = some r) ∧ Aside0 (kq ≤ k) ∧ Aside0 (Kd.R k36 36 wc w.heap.size (fun k_ => some k_ ≠ (v527 : Value).ownBlock) (.slice Ao12 t515.length co12) t515) ∧ Aside0 (Kd.R k38 38 wc w.heap.size (fun _ => True) (.slice Ao13 t518.length co13) t518) ∧ Aside0 (Kd.S (Kd.slice 2 (Kd.int .i64)) 34 wc w.heap.size (fun _ => True) v523 t521) ∧ Aside0 (Kd.R k36 36 wc w.heap.size (fun k_ => some k_ ≠ ((.slice Ao12 t515.length co12) : Value).ownBlock) v527 t525) ∧ Aside0 (Below w.heap.size w wc))
 case first =>
  skip
  {
 have H := HC9.out
 clear HC9
 by_cases c16 : t522 = 0
 {
 rw [if_pos c16] at H
 have c16b0 : (t522 == 0) = true := beq_iff_eq.mpr c16
 have c16b1 : (t522 != 0) = false := bne_eq_false_iff_eq.mpr c16
 clear c16
 (first | rw [c16b0] | (simp only [i64_w, i32_w]; rw [c16b0]) | skip)
 by_cases c17 : t526 = 0
 {
 rw [if_pos c17] at H
 have c17b0 : (t526 == 0) = true := beq_iff_eq.mpr c17
 have c17b1 : (t526 != 0) = false := bne_eq_false_iff_eq.mpr c17
 clear c17
 replace H := Option.bind_eq_some_iff.mp H
 obtain ⟨t529, A180, H⟩ := H
 replace H : (laws_FnEnsemble.j0 k t515 t518 t521 t525 t526 (!t529)) = some r := H
 have A18 := Aside0.mk A180
 clear A180
 have H' := Aside0.mk H
 clear H
 obtain ⟨Ao19, co19, eo19⟩ := Kd.R_slice HO528.out
 subst eo19
 go_wp2_with (first | (go_at_call 11; (with_reducible refine (spec_ValidTurns.calls k _ _ t525 t529 _ ?side1 ?side2 A18.out).mono ?_); (case side1 => repeat (first | exact (Kd.R_reads' HO528.out).2.2 | (with_reducible refine Kd.C_alloc ?_ _) | (with_reducible refine Kd.C_drewN ?_ _) | (with_reducible refine Kd.C_drew ?_))); (case side2 => exact (Kd.R_reads' HO528.out).2.1); rintro e w' ⟨rfl, ⟨nd, rfl⟩⟩; (try first | exact ⟨rfl, _, World.drewN_drewN _ _ _⟩ | exact ⟨rfl, _, Eq.trans (World.drewN_drewN _ _ _) (congrArg (World.drewN _) (Nat.add_assoc _ _ _))⟩)))
 repeat (go_quiet (first | (go_at_call 11; (with_reducible refine (spec_ValidTurns.calls k _ _ t525 t529 _ ?side1 ?side2 A18.out).mono ?_); (case side1 => repeat (first | exact (Kd.R_reads' HO528.out).2.2 | (with_reducible refine Kd.C_alloc ?_ _) | (with_reducible refine Kd.C_drewN ?_ _) | (with_reducible refine Kd.C_drew ?_))); (case side2 => exact (Kd.R_reads' HO528.out).2.1); rintro e w' ⟨rfl, ⟨nd, rfl⟩⟩; (try first | exact ⟨rfl, _, World.drewN_drewN _ _ _⟩ | exact ⟨rfl, _, Eq.trans (World.drewN_drewN _ _ _) (congrArg (World.drewN _) (Nat.add_assoc _ _ _))⟩))); try go_wp2_with (first | (go_at_call 11; (with_reducible refine (spec_ValidTurns.calls k _ _ t525 t529 _ ?side1 ?side2 A18.out).mono ?_); (case side1 => repeat (first | exact (Kd.R_reads' HO528.out).2.2 | (with_reducible refine Kd.C_alloc ?_ _) | (with_reducible refine Kd.C_drewN ?_ _) | (with_reducible refine Kd.C_drew ?_))); (case side2 => exact (Kd.R_reads' HO528.out).2.1); rintro e w' ⟨rfl, ⟨nd, rfl⟩⟩; (try first | exact ⟨rfl, _, World.drewN_drewN _ _ _⟩ | exact ⟨rfl, _, Eq.trans (World.drewN_drewN _ _ _) (congrArg (World.drewN _) (Nat.add_assoc _ _ _))⟩))))
 go_meet
 case rel => exact ⟨_, (!t529), (by first | rfl | (simp; done) | (simp [*]; done)), H', ⟨by first | omega | exact Nat.le_refl _⟩, ⟨by (with_reducible repeat (first | apply Kd.R_alloc | apply Kd.R_drewN | apply Kd.R_drew)); exact Kd.R_mono HO517.out (fun _ hk => hk.2)⟩, ⟨by (with_reducible repeat (first | apply Kd.R_alloc | apply Kd.R_drewN | apply Kd.R_drew)); exact HO520.out⟩, ⟨by (with_reducible repeat (first | apply Kd.S_alloc | apply Kd.S_drewN | apply Kd.S_drew)); exact HO524.out⟩, ⟨by (with_reducible repeat (first | apply Kd.R_alloc | apply Kd.R_drewN | apply Kd.R_drew)); exact Kd.R_mono HO528.out (fun _ hk => hk.2)⟩, ⟨by repeat (first | (with_reducible first | exact HB.out | apply below_alloc | apply pw_below_drewN | apply below_drew1) | exact HB.out)⟩⟩
 }
 {
 rw [if_neg c17] at H
 have c17b0 : (t526 == 0) = false := beq_eq_false_iff_ne.mpr c17
 have c17b1 : (t526 != 0) = true := bne_iff_ne.mpr c17
 by_cases c20 : t526 = 5
 {
 rw [if_pos c20] at H
 have c20b0 : (t526 == 5) = true := beq_iff_eq.mpr c20
 have c20b1 : (t526 != 5) = false := bne_eq_false_iff_eq.mpr c20
 clear c20
 have H' := Aside0.mk H
 clear H
 go_wp2
 repeat (go_quiet (fail); try go_wp2)
 go_meet
 case rel => exact ⟨_, (false), (by first | rfl | (simp; done) | (simp [*]; done)), H', ⟨by first | omega | exact Nat.le_refl _⟩, ⟨by (with_reducible repeat (first | apply Kd.R_alloc | apply Kd.R_drewN | apply Kd.R_drew)); exact Kd.R_mono HO517.out (fun _ hk => hk.2)⟩, ⟨by (with_reducible repeat (first | apply Kd.R_alloc | apply Kd.R_drewN | apply Kd.R_drew)); exact HO520.out⟩, ⟨by (with_reducible repeat (first | apply Kd.S_alloc | apply Kd.S_drewN | apply Kd.S_drew)); exact HO524.out⟩, ⟨by (with_reducible repeat (first | apply Kd.R_alloc | apply Kd.R_drewN | apply Kd.R_drew)); exact Kd.R_mono HO528.out (fun _ hk => hk.2)⟩, ⟨by repeat (first | (with_reducible first | exact HB.out | apply below_alloc | apply pw_below_drewN | apply below_drew1) | exact HB.out)⟩⟩
 }
 {
 rw [if_neg c20] at H
 have c20b0 : (t526 == 5) = false := beq_eq_false_iff_ne.mpr c20
 have c20b1 : (t526 != 5) = true := bne_iff_ne.mpr c20
 have H' := Aside0.mk H
 clear H
 go_wp2
 repeat (go_quiet (fail); try go_wp2)
 go_meet
 case rel => exact ⟨_, (true), (by first | rfl | (simp; done) | (simp [*]; done)), H', ⟨by first | omega | exact Nat.le_refl _⟩, ⟨by (with_reducible repeat (first | apply Kd.R_alloc | apply Kd.R_drewN | apply Kd.R_drew)); exact Kd.R_mono HO517.out (fun _ hk => hk.2)⟩, ⟨by (with_reducible repeat (first | apply Kd.R_alloc | apply Kd.R_drewN | apply Kd.R_drew)); exact HO520.out⟩, ⟨by (with_reducible repeat (first | apply Kd.S_alloc | apply Kd.S_drewN | apply Kd.S_drew)); exact HO524.out⟩, ⟨by (with_reducible repeat (first | apply Kd.R_alloc | apply Kd.R_drewN | apply Kd.R_drew)); exact Kd.R_mono HO528.out (fun _ hk => hk.2)⟩, ⟨by repeat (first | (with_reducible first | exact HB.out | apply below_alloc | apply pw_below_drewN | apply below_drew1) | exact HB.out)⟩⟩
 }
 }
 }
 {
 rw [if_neg c16] at H
 have c16b0 : (t522 == 0) = false := beq_eq_false_iff_ne.mpr c16
 have c16b1 : (t522 != 0) = true := bne_iff_ne.mpr c16
 (first | rw [c16b0] | (simp only [i64_w, i32_w]; rw [c16b0]) | skip)
 have H' := Aside0.mk H
 clear H
 go_wp2
 repeat (go_quiet (fail); try go_wp2)
 go_meet
 case rel => exact ⟨_, (true), (by first | rfl | (simp; done) | (simp [*]; done)), H', ⟨by first | omega | exact Nat.le_refl _⟩, ⟨by (with_reducible repeat (first | apply Kd.R_alloc | apply Kd.R_drewN | apply Kd.R_drew)); exact Kd.R_mono HO517.out (fun _ hk => hk.2)⟩, ⟨by (with_reducible repeat (first | apply Kd.R_alloc | apply Kd.R_drewN | apply Kd.R_drew)); exact HO520.out⟩, ⟨by (with_reducible repeat (first | apply Kd.S_alloc | apply Kd.S_drewN | apply Kd.S_drew)); exact HO524.out⟩, ⟨by (with_reducible repeat (first | apply Kd.R_alloc | apply Kd.R_drewN | apply Kd.R_drew)); exact Kd.R_mono HO528.out (fun _ hk => hk.2)⟩, ⟨by repeat (first | (with_reducible first | exact HB.out | apply below_alloc | apply pw_below_drewN | apply below_drew1) | exact HB.out)⟩⟩
 }
  }
 case rest =>
  skip
  {
 as_aux_lemma =>
 clear HC9
 try clear c1
 try clear c2
 try clear p2
 try clear c3
 try clear c4
 try clear c16
 try clear c16b0
 try clear c16b1
 try clear c17
 try clear c17b0
 try clear c17b1
 try clear c20
 try clear c20b0
 try clear c20b1
 obtain ⟨kq, x69_8, rfl, HA, HJ8, HO_5, HO_6, HO_7, HO_9, HB⟩ := hcut
 cases kq with
 | zero => exact absurd HA.out (by simp [laws_FnEnsemble.j0])
 | succ kj8 =>
  skip
  {
 have H := HA.out
 clear HA
 simp only [laws_FnEnsemble.j0] at H
 by_cases c21 : x69_8 = true
 {
 subst c21
 have H1 : (none) = some r := by rw [if_pos rfl] at H; exact H
 clear H
 have H := H1
 clear H1
 exact absurd H (by simp)
 }
 {
 replace c21 := Bool.eq_false_iff.mpr c21
 subst c21
 have H1 : (laws_FnEnsemble.l0 kj8 t515 t518 t521 t525 t526 0) = some r := by rw [if_neg (show ¬ (false = true) by decide)] at H; exact H
 clear H
 have H := H1
 clear H1
 have H' := Aside0.mk H
 clear H
 go_wp2
 repeat (go_quiet (fail); try go_wp2)
 go_loopg [11] kj8 (fun kq v11 w' => ∃ (x11_2 : Int), v11 = .int .i64 x11_2 ∧ Aside0 (laws_FnEnsemble.l0 kq t515 t518 t521 t525 t526 x11_2 = some r) ∧ Aside0 (kq ≤ kj8) ∧ Aside0 (Kd.R k36 36 w' w.heap.size (fun k_ => some k_ ≠ (v527 : Value).ownBlock) (.slice Ao12 t515.length co12) t515) ∧ Aside0 (Kd.R k38 38 w' w.heap.size (fun _ => True) (.slice Ao13 t518.length co13) t518) ∧ Aside0 (Kd.S (Kd.slice 2 (Kd.int .i64)) 34 w' w.heap.size (fun _ => True) v523 t521) ∧ Aside0 (Kd.R k36 36 w' w.heap.size (fun k_ => some k_ ≠ ((.slice Ao12 t515.length co12) : Value).ownBlock) v527 t525) ∧ Aside0 (Below w.heap.size w w'))
 case atStart => exact ⟨(0), (by first | rfl | (simp; done) | (simp [*]; done)), H', ⟨Nat.le_refl _⟩, ⟨by (with_reducible repeat (first | apply Kd.R_alloc | apply Kd.R_drewN | apply Kd.R_drew)); exact HO_5.out⟩, ⟨by (with_reducible repeat (first | apply Kd.R_alloc | apply Kd.R_drewN | apply Kd.R_drew)); exact HO_6.out⟩, ⟨by (with_reducible repeat (first | apply Kd.S_alloc | apply Kd.S_drewN | apply Kd.S_drew)); exact HO_7.out⟩, ⟨by (with_reducible repeat (first | apply Kd.R_alloc | apply Kd.R_drewN | apply Kd.R_drew)); exact HO_9.out⟩, ⟨by repeat (first | (with_reducible first | exact HB.out | apply below_alloc | apply pw_below_drewN | apply below_drew1) | exact HB.out)⟩⟩
 case round =>
  skip
  {
 as_aux_lemma =>
 clear H'
 try clear c1
 try clear c2
 try clear p2
 try clear c3
 try clear c4
 try clear c16
 try clear c16b0
 try clear c16b1
 try clear c17
 try clear c17b0
 try clear c17b1
 try clear c20
 try clear c20b0
 try clear c20b1
 try clear c21
 try clear p2
 obtain ⟨x11_2, rfl, HA, HK2, HO_5, HO_6, HO_7, HO_9, HB⟩ := hrel
 cases gk with
 | zero => exact absurd HA.out (by simp [laws_FnEnsemble.l0])
 | succ k2 =>
  skip
  {
 have H := HA.out
 clear HA
 simp only [laws_FnEnsemble.l0] at H
 by_cases c22 : x11_2 < (t521.length : Int)
 {
 as_aux_lemma =>
 rw [if_pos c22] at H
 have c22b0 : decide (x11_2 < (t521.length : Int)) = true := decide_eq_true c22
 clear c22
 by_cases c23 : 0 ≤ x11_2
 {
 as_aux_lemma =>
 rw [if_pos c23] at H
 have c23b0 : decide (0 ≤ x11_2) = true := decide_eq_true c23
 clear c23
 have HC24 := Aside0.mk H
 clear H
 obtain ⟨Ao25, co25, eo25⟩ := Kd.S_slice HO_7.out
 subst eo25
 have p530 : 0 ≤ (x11_2 : Int) := of_decide_eq_true (by first | (with_reducible assumption) | assumption)
 have q530 : x11_2 < (t521.length : Int) := of_decide_eq_true (by first | (with_reducible assumption) | assumption)
 obtain ⟨ad530, A530_0, c530_0, e530, hx530_0, hl530_0, hi530_0⟩ := at_L5 (Kd.S_reads' HO_7.out).2.2 x11_2 p530 q530
 cases e530
 obtain ⟨ce530, hce530, hMe530, hcc530⟩ := Kd.S_get HO_7.out [] x11_2 p530 (by first | exact q530 | exact of_decide_eq_true (by first | (with_reducible assumption) | assumption) | (have e_ := (Kd.S_reads' HO_7.out).1; omega))
 obtain ⟨ve530_0, rfl, ge530_0⟩ := hMe530
 have hv530_0 := hcc530 0 _ rfl
 rw [Nat.add_zero, show ((Kd.slice 2 (Kd.int .i64))).sz = 1 from rfl, Nat.mul_one] at hv530_0
 replace hv530_0 := Option.some.inj (hv530_0.symm.trans hx530_0)
 rw [hv530_0] at ge530_0
 have HL530_0 := Aside0.mk (show Kd.R (Kd.int .i64) 2 _ _ _ _ (rd_L5 t521 x11_2) from ge530_0)
 clear hv530_0 ge530_0
 clear hcc530 hce530
 have HR530_0 := Aside0.mk hi530_0
 have HC530_0 := Aside0.mk hl530_0
 clear hi530_0 hl530_0
 replace p530 := eq_true p530
 replace q530 := eq_true q530
 go_upto_region 13 with (fail)
 repeat (go_quiet (fail); go_upto_region 13 with (fail))
 go_cut [127] (fun v127 wc => ∃ (kq : Nat) (x127_23 : Bool), v127 = .bool x127_23 ∧ Aside0 (laws_FnEnsemble.j2 kq t515 t518 t521 t525 t526 x11_2 (rd_L5 t521 x11_2) x127_23 = some r) ∧ Aside0 (kq ≤ k2) ∧ Aside0 (Kd.R k36 36 wc w.heap.size (fun k_ => some k_ ≠ (v527 : Value).ownBlock) (.slice Ao12 t515.length co12) t515) ∧ Aside0 (Kd.R k38 38 wc w.heap.size (fun _ => True) (.slice Ao13 t518.length co13) t518) ∧ Aside0 (Kd.S (Kd.slice 2 (Kd.int .i64)) 34 wc w.heap.size (fun _ => True) (.slice (some ad530) t521.length co25) t521) ∧ Aside0 (Kd.R k36 36 wc w.heap.size (fun k_ => some k_ ≠ ((.slice Ao12 t515.length co12) : Value).ownBlock) v527 t525) ∧ Aside0 (Kd.C (Kd.int .i64) wc A530_0 (rd_L5 t521 x11_2).length (rd_L5 t521 x11_2)) ∧ Aside0 (Below w.heap.size w wc))
 case first =>
  skip
  {
 have H := HC24.out
 clear HC24
 by_cases c26 : ((rd_L5 t521 x11_2).length : Int) = 2
 {
 as_aux_lemma =>
 rw [if_pos c26] at H
 have c26b0 : (((rd_L5 t521 x11_2).length : Int) == 2) = true := beq_iff_eq.mpr c26
 have c26b1 : (((rd_L5 t521 x11_2).length : Int) != 2) = false := bne_eq_false_iff_eq.mpr c26
 clear c26
 (first | rw [c26b0] | (simp only [i64_w, i32_w]; rw [c26b0]) | skip)
 by_cases c27 : 0 < ((rd_L5 t521 x11_2).length : Int)
 {
 as_aux_lemma =>
 rw [if_pos c27] at H
 have c27b0 : decide (0 < ((rd_L5 t521 x11_2).length : Int)) = true := decide_eq_true c27
 have c27b1 : decide (0 < (rd_L5 t521 x11_2).length) = true := decide_eq_true (by omega)
 clear c27
 by_cases c28 : (rd (rd_L5 t521 x11_2) 0) < 0
 {
 rw [if_pos c28] at H
 have c28b0 : decide ((rd (rd_L5 t521 x11_2) 0) < 0) = true := decide_eq_true c28
 clear c28
 have H' := Aside0.mk H
 clear H
 have p531 : 0 ≤ (0 : Int) := (by omega)
 have q531 : 0 < ((rd_L5 t521 x11_2).length : Int) := of_decide_eq_true (by first | (with_reducible assumption) | assumption)
 obtain ⟨ad531, e531, hx531_0⟩ := Kd.at_int (by repeat (first | (with_reducible exact HR530_0.out) | (with_reducible refine Kd.C_alloc ?_ _) | (with_reducible refine Kd.C_drewN ?_ _) | (with_reducible refine Kd.C_drew ?_) | exact HR530_0.out)) 0 p531 q531
 cases e531
 have qi531 : (0 < (rd_L5 t521 x11_2).length) = True := eq_true (by omega)
 (try rw [show ((0 : Int)).toNat = 0 from rfl] at hx531_0)
 (try rw [Addr.add_zero'] at hx531_0)
 replace p531 := eq_true p531
 replace q531 := eq_true q531
 go_wp2
 repeat (go_quiet (fail); try go_wp2)
 go_meet
 case rel => exact ⟨_, (true), (by first | rfl | (simp; done) | (simp [*]; done)), H', ⟨by have := HJ8.out; have := HK2.out; first | omega | exact Nat.le_refl _⟩, ⟨by (with_reducible repeat (first | apply Kd.R_alloc | apply Kd.R_drewN | apply Kd.R_drew)); exact HO_5.out⟩, ⟨by (with_reducible repeat (first | apply Kd.R_alloc | apply Kd.R_drewN | apply Kd.R_drew)); exact HO_6.out⟩, ⟨by (with_reducible repeat (first | apply Kd.S_alloc | apply Kd.S_drewN | apply Kd.S_drew)); exact HO_7.out⟩, ⟨by (with_reducible repeat (first | apply Kd.R_alloc | apply Kd.R_drewN | apply Kd.R_drew)); exact HO_9.out⟩, ⟨by repeat (first | (with_reducible exact HR530_0.out) | (with_reducible refine Kd.C_alloc ?_ _) | (with_reducible refine Kd.C_drewN ?_ _) | (with_reducible refine Kd.C_drew ?_) | exact HR530_0.out)⟩, ⟨by repeat (first | (with_reducible first | exact HB.out | apply below_alloc | apply pw_below_drewN | apply below_drew1) | exact HB.out)⟩⟩
 }
 {
 as_aux_lemma =>
 rw [if_neg c28] at H
 have c28b0 : decide ((rd (rd_L5 t521 x11_2) 0) < 0) = false := decide_eq_false c28
 clear c28
 by_cases c29 : (rd (rd_L5 t521 x11_2) 0) ≥ (t518.length : Int)
 {
 rw [if_pos c29] at H
 have c29b0 : decide ((t518.length : Int) ≤ (rd (rd_L5 t521 x11_2) 0)) = true := decide_eq_true c29
 clear c29
 have H' := Aside0.mk H
 clear H
 have p531 : 0 ≤ (0 : Int) := (by omega)
 have q531 : 0 < ((rd_L5 t521 x11_2).length : Int) := of_decide_eq_true (by first | (with_reducible assumption) | assumption)
 obtain ⟨ad531, e531, hx531_0⟩ := Kd.at_int (by repeat (first | (with_reducible exact HR530_0.out) | (with_reducible refine Kd.C_alloc ?_ _) | (with_reducible refine Kd.C_drewN ?_ _) | (with_reducible refine Kd.C_drew ?_) | exact HR530_0.out)) 0 p531 q531
 cases e531
 have qi531 : (0 < (rd_L5 t521 x11_2).length) = True := eq_true (by omega)
 (try rw [show ((0 : Int)).toNat = 0 from rfl] at hx531_0)
 (try rw [Addr.add_zero'] at hx531_0)
 replace p531 := eq_true p531
 replace q531 := eq_true q531
 have p532 : 0 ≤ (0 : Int) := (by omega)
 have q532 : 0 < ((rd_L5 t521 x11_2).length : Int) := of_decide_eq_true (by first | (with_reducible assumption) | assumption)
 obtain ⟨ad532, e532, hx532_0⟩ := Kd.at_int (by repeat (first | (with_reducible exact HR530_0.out) | (with_reducible refine Kd.C_alloc ?_ _) | (with_reducible refine Kd.C_drewN ?_ _) | (with_reducible refine Kd.C_drew ?_) | exact HR530_0.out)) 0 p532 q532
 obtain rfl : ad531 = ad532 := (by injection e532)
 have qi532 : (0 < (rd_L5 t521 x11_2).length) = True := eq_true (by omega)
 (try rw [show ((0 : Int)).toNat = 0 from rfl] at hx532_0)
 (try rw [Addr.add_zero'] at hx532_0)
 replace p532 := eq_true p532
 replace q532 := eq_true q532
 go_wp2
 repeat (go_quiet (fail); try go_wp2)
 go_meet
 case rel => exact ⟨_, (true), (by first | rfl | (simp; done) | (simp [*]; done)), H', ⟨by have := HJ8.out; have := HK2.out; first | omega | exact Nat.le_refl _⟩, ⟨by (with_reducible repeat (first | apply Kd.R_alloc | apply Kd.R_drewN | apply Kd.R_drew)); exact HO_5.out⟩, ⟨by (with_reducible repeat (first | apply Kd.R_alloc | apply Kd.R_drewN | apply Kd.R_drew)); exact HO_6.out⟩, ⟨by (with_reducible repeat (first | apply Kd.S_alloc | apply Kd.S_drewN | apply Kd.S_drew)); exact HO_7.out⟩, ⟨by (with_reducible repeat (first | apply Kd.R_alloc | apply Kd.R_drewN | apply Kd.R_drew)); exact HO_9.out⟩, ⟨by repeat (first | (with_reducible exact HR530_0.out) | (with_reducible refine Kd.C_alloc ?_ _) | (with_reducible refine Kd.C_drewN ?_ _) | (with_reducible refine Kd.C_drew ?_) | exact HR530_0.out)⟩, ⟨by repeat (first | (with_reducible first | exact HB.out | apply below_alloc | apply pw_below_drewN | apply below_drew1) | exact HB.out)⟩⟩
 }
 {
 as_aux_lemma =>
 rw [if_neg c29] at H
 have c29b0 : decide ((t518.length : Int) ≤ (rd (rd_L5 t521 x11_2) 0)) = false := decide_eq_false c29
 clear c29
 by_cases c30 : 1 < ((rd_L5 t521 x11_2).length : Int)
 {
 as_aux_lemma =>
 rw [if_pos c30] at H
 have c30b0 : decide (1 < ((rd_L5 t521 x11_2).length : Int)) = true := decide_eq_true c30
 have c30b1 : decide (1 < (rd_L5 t521 x11_2).length) = true := decide_eq_true (by omega)
 clear c30
 by_cases c31 : (rd (rd_L5 t521 x11_2) 1) < 0
 {
 rw [if_pos c31] at H
 have c31b0 : decide ((rd (rd_L5 t521 x11_2) 1) < 0) = true := decide_eq_true c31
 clear c31
 have H' := Aside0.mk H
 clear H
 have p531 : 0 ≤ (0 : Int) := (by omega)
 have q531 : 0 < ((rd_L5 t521 x11_2).length : Int) := of_decide_eq_true (by first | (with_reducible assumption) | assumption)
 obtain ⟨ad531, e531, hx531_0⟩ := Kd.at_int (by repeat (first | (with_reducible exact HR530_0.out) | (with_reducible refine Kd.C_alloc ?_ _) | (with_reducible refine Kd.C_drewN ?_ _) | (with_reducible refine Kd.C_drew ?_) | exact HR530_0.out)) 0 p531 q531
 cases e531
 have qi531 : (0 < (rd_L5 t521 x11_2).length) = True := eq_true (by omega)
 (try rw [show ((0 : Int)).toNat = 0 from rfl] at hx531_0)
 (try rw [Addr.add_zero'] at hx531_0)
 replace p531 := eq_true p531
 replace q531 := eq_true q531
 have p532 : 0 ≤ (0 : Int) := (by omega)
 have q532 : 0 < ((rd_L5 t521 x11_2).length : Int) := of_decide_eq_true (by first | (with_reducible assumption) | assumption)
 obtain ⟨ad532, e532, hx532_0⟩ := Kd.at_int (by repeat (first | (with_reducible exact HR530_0.out) | (with_reducible refine Kd.C_alloc ?_ _) | (with_reducible refine Kd.C_drewN ?_ _) | (with_reducible refine Kd.C_drew ?_) | exact HR530_0.out)) 0 p532 q532
 obtain rfl : ad531 = ad532 := (by injection e532)
 have qi532 : (0 < (rd_L5 t521 x11_2).length) = True := eq_true (by omega)
 (try rw [show ((0 : Int)).toNat = 0 from rfl] at hx532_0)
 (try rw [Addr.add_zero'] at hx532_0)
 replace p532 := eq_true p532
 replace q532 := eq_true q532
 have p533 : 0 ≤ (1 : Int) := (by omega)
 have q533 : 1 < ((rd_L5 t521 x11_2).length : Int) := of_decide_eq_true (by first | (with_reducible assumption) | assumption)
 obtain ⟨ad533, e533, hx533_0⟩ := Kd.at_int (by repeat (first | (with_reducible exact HR530_0.out) | (with_reducible refine Kd.C_alloc ?_ _) | (with_reducible refine Kd.C_drewN ?_ _) | (with_reducible refine Kd.C_drew ?_) | exact HR530_0.out)) 1 p533 q533
 obtain rfl : ad531 = ad533 := (by injection e533)
 (try simp only [show (1 : Int).toNat = 1 from rfl, Nat.reduceMul, Nat.reduceEqDiff, Go.Addr.add, ↓reduceIte] at hx533_0)
 have qi533 : (1 < (rd_L5 t521 x11_2).length) = True := eq_true (by omega)
 (try rw [show ((1 : Int)).toNat = 1 from rfl] at hx533_0)
 replace p533 := eq_true p533
 replace q533 := eq_true q533
 go_wp2
 repeat (go_quiet (fail); try go_wp2)
 go_meet
 case rel => exact ⟨_, (true), (by first | rfl | (simp; done) | (simp [*]; done)), H', ⟨by have := HJ8.out; have := HK2.out; first | omega | exact Nat.le_refl _⟩, ⟨by (with_reducible repeat (first | apply Kd.R_alloc | apply Kd.R_drewN | apply Kd.R_drew)); exact HO_5.out⟩, ⟨by (with_reducible repeat (first | apply Kd.R_alloc | apply Kd.R_drewN | apply Kd.R_drew)); exact HO_6.out⟩, ⟨by (with_reducible repeat (first | apply Kd.S_alloc | apply Kd.S_drewN | apply Kd.S_drew)); exact HO_7.out⟩, ⟨by (with_reducible repeat (first | apply Kd.R_alloc | apply Kd.R_drewN | apply Kd.R_drew)); exact HO_9.out⟩, ⟨by repeat (first | (with_reducible exact HR530_0.out) | (with_reducible refine Kd.C_alloc ?_ _) | (with_reducible refine Kd.C_drewN ?_ _) | (with_reducible refine Kd.C_drew ?_) | exact HR530_0.out)⟩, ⟨by repeat (first | (with_reducible first | exact HB.out | apply below_alloc | apply pw_below_drewN | apply below_drew1) | exact HB.out)⟩⟩
 }
 {
 as_aux_lemma =>
 rw [if_neg c31] at H
 have c31b0 : decide ((rd (rd_L5 t521 x11_2) 1) < 0) = false := decide_eq_false c31
 clear c31
 by_cases c32 : (rd (rd_L5 t521 x11_2) 1) ≥ (t515.length : Int)
 {
 rw [if_pos c32] at H
 have c32b0 : decide ((t515.length : Int) ≤ (rd (rd_L5 t521 x11_2) 1)) = true := decide_eq_true c32
 clear c32
 have H' := Aside0.mk H
 clear H
 have p531 : 0 ≤ (0 : Int) := (by omega)
 have q531 : 0 < ((rd_L5 t521 x11_2).length : Int) := of_decide_eq_true (by first | (with_reducible assumption) | assumption)
 obtain ⟨ad531, e531, hx531_0⟩ := Kd.at_int (by repeat (first | (with_reducible exact HR530_0.out) | (with_reducible refine Kd.C_alloc ?_ _) | (with_reducible refine Kd.C_drewN ?_ _) | (with_reducible refine Kd.C_drew ?_) | exact HR530_0.out)) 0 p531 q531
 cases e531
 have qi531 : (0 < (rd_L5 t521 x11_2).length) = True := eq_true (by omega)
 (try rw [show ((0 : Int)).toNat = 0 from rfl] at hx531_0)
 (try rw [Addr.add_zero'] at hx531_0)
 replace p531 := eq_true p531
 replace q531 := eq_true q531
 have p532 : 0 ≤ (0 : Int) := (by omega)
 have q532 : 0 < ((rd_L5 t521 x11_2).length : Int) := of_decide_eq_true (by first | (with_reducible assumption) | assumption)
 obtain ⟨ad532, e532, hx532_0⟩ := Kd.at_int (by repeat (first | (with_reducible exact HR530_0.out) | (with_reducible refine Kd.C_alloc ?_ _) | (with_reducible refine Kd.C_drewN ?_ _) | (with_reducible refine Kd.C_drew ?_) | exact HR530_0.out)) 0 p532 q532
 obtain rfl : ad531 = ad532 := (by injection e532)
 have qi532 : (0 < (rd_L5 t521 x11_2).length) = True := eq_true (by omega)
 (try rw [show ((0 : Int)).toNat = 0 from rfl] at hx532_0)
 (try rw [Addr.add_zero'] at hx532_0)
 replace p532 := eq_true p532
 replace q532 := eq_true q532
 have p533 : 0 ≤ (1 : Int) := (by omega)
 have q533 : 1 < ((rd_L5 t521 x11_2).length : Int) := of_decide_eq_true (by first | (with_reducible assumption) | assumption)
 obtain ⟨ad533, e533, hx533_0⟩ := Kd.at_int (by repeat (first | (with_reducible exact HR530_0.out) | (with_reducible refine Kd.C_alloc ?_ _) | (with_reducible refine Kd.C_drewN ?_ _) | (with_reducible refine Kd.C_drew ?_) | exact HR530_0.out)) 1 p533 q533
 obtain rfl : ad531 = ad533 := (by injection e533)
 (try simp only [show (1 : Int).toNat = 1 from rfl, Nat.reduceMul, Nat.reduceEqDiff, Go.Addr.add, ↓reduceIte] at hx533_0)
 have qi533 : (1 < (rd_L5 t521 x11_2).length) = True := eq_true (by omega)
 (try rw [show ((1 : Int)).toNat = 1 from rfl] at hx533_0)
 replace p533 := eq_true p533
 replace q533 := eq_true q533
 have p534 : 0 ≤ (1 : Int) := (by omega)
 have q534 : 1 < ((rd_L5 t521 x11_2).length : Int) := of_decide_eq_true (by first | (with_reducible assumption) | assumption)
 obtain ⟨ad534, e534, hx534_0⟩ := Kd.at_int (by repeat (first | (with_reducible exact HR530_0.out) | (with_reducible refine Kd.C_alloc ?_ _) | (with_reducible refine Kd.C_drewN ?_ _) | (with_reducible refine Kd.C_drew ?_) | exact HR530_0.out)) 1 p534 q534
 obtain rfl : ad531 = ad534 := (by injection e534)
 (try simp only [show (1 : Int).toNat = 1 from rfl, Nat.reduceMul, Nat.reduceEqDiff, Go.Addr.add, ↓reduceIte] at hx534_0)
 have qi534 : (1 < (rd_L5 t521 x11_2).length) = True := eq_true (by omega)
 (try rw [show ((1 : Int)).toNat = 1 from rfl] at hx534_0)
 replace p534 := eq_true p534
 replace q534 := eq_true q534
 go_wp2
 repeat (go_quiet (fail); try go_wp2)
 go_meet
 case rel => exact ⟨_, (true), (by first | rfl | (simp; done) | (simp [*]; done)), H', ⟨by have := HJ8.out; have := HK2.out; first | omega | exact Nat.le_refl _⟩, ⟨by (with_reducible repeat (first | apply Kd.R_alloc | apply Kd.R_drewN | apply Kd.R_drew)); exact HO_5.out⟩, ⟨by (with_reducible repeat (first | apply Kd.R_alloc | apply Kd.R_drewN | apply Kd.R_drew)); exact HO_6.out⟩, ⟨by (with_reducible repeat (first | apply Kd.S_alloc | apply Kd.S_drewN | apply Kd.S_drew)); exact HO_7.out⟩, ⟨by (with_reducible repeat (first | apply Kd.R_alloc | apply Kd.R_drewN | apply Kd.R_drew)); exact HO_9.out⟩, ⟨by repeat (first | (with_reducible exact HR530_0.out) | (with_reducible refine Kd.C_alloc ?_ _) | (with_reducible refine Kd.C_drewN ?_ _) | (with_reducible refine Kd.C_drew ?_) | exact HR530_0.out)⟩, ⟨by repeat (first | (with_reducible first | exact HB.out | apply below_alloc | apply pw_below_drewN | apply below_drew1) | exact HB.out)⟩⟩
 }
 {
 as_aux_lemma =>
 rw [if_neg c32] at H
 have c32b0 : decide ((t515.length : Int) ≤ (rd (rd_L5 t521 x11_2) 1)) = false := decide_eq_false c32
 clear c32
 by_cases c33 : 0 ≤ (rd (rd_L5 t521 x11_2) 1)
 {
 as_aux_lemma =>
 rw [if_pos c33] at H
 have c33b0 : decide (0 ≤ (rd (rd_L5 t521 x11_2) 1)) = true := decide_eq_true c33
 clear c33
 by_cases c34 : (rd (rd_L5 t521 x11_2) 1) < (t515.length : Int)
 {
 as_aux_lemma =>
 rw [if_pos c34] at H
 have c34b0 : decide ((rd (rd_L5 t521 x11_2) 1) < (t515.length : Int)) = true := decide_eq_true c34
 clear c34
 by_cases c35 : 0 ≤ (rd (rd_L5 t521 x11_2) 0)
 {
 as_aux_lemma =>
 rw [if_pos c35] at H
 have c35b0 : decide (0 ≤ (rd (rd_L5 t521 x11_2) 0)) = true := decide_eq_true c35
 clear c35
 by_cases c36 : (rd (rd_L5 t521 x11_2) 0) < (t518.length : Int)
 {
 rw [if_pos c36] at H
 have c36b0 : decide ((rd (rd_L5 t521 x11_2) 0) < (t518.length : Int)) = true := decide_eq_true c36
 clear c36
 have H' := Aside0.mk H
 clear H
 have p531 : 0 ≤ (0 : Int) := (by omega)
 have q531 : 0 < ((rd_L5 t521 x11_2).length : Int) := of_decide_eq_true (by first | (with_reducible assumption) | assumption)
 obtain ⟨ad531, e531, hx531_0⟩ := Kd.at_int (by repeat (first | (with_reducible exact HR530_0.out) | (with_reducible refine Kd.C_alloc ?_ _) | (with_reducible refine Kd.C_drewN ?_ _) | (with_reducible refine Kd.C_drew ?_) | exact HR530_0.out)) 0 p531 q531
 cases e531
 have qi531 : (0 < (rd_L5 t521 x11_2).length) = True := eq_true (by omega)
 (try rw [show ((0 : Int)).toNat = 0 from rfl] at hx531_0)
 (try rw [Addr.add_zero'] at hx531_0)
 replace p531 := eq_true p531
 replace q531 := eq_true q531
 have p532 : 0 ≤ (0 : Int) := (by omega)
 have q532 : 0 < ((rd_L5 t521 x11_2).length : Int) := of_decide_eq_true (by first | (with_reducible assumption) | assumption)
 obtain ⟨ad532, e532, hx532_0⟩ := Kd.at_int (by repeat (first | (with_reducible exact HR530_0.out) | (with_reducible refine Kd.C_alloc ?_ _) | (with_reducible refine Kd.C_drewN ?_ _) | (with_reducible refine Kd.C_drew ?_) | exact HR530_0.out)) 0 p532 q532
 obtain rfl : ad531 = ad532 := (by injection e532)
 have qi532 : (0 < (rd_L5 t521 x11_2).length) = True := eq_true (by omega)
 (try rw [show ((0 : Int)).toNat = 0 from rfl] at hx532_0)
 (try rw [Addr.add_zero'] at hx532_0)
 replace p532 := eq_true p532
 replace q532 := eq_true q532
 have p533 : 0 ≤ (1 : Int) := (by omega)
 have q533 : 1 < ((rd_L5 t521 x11_2).length : Int) := of_decide_eq_true (by first | (with_reducible assumption) | assumption)
 obtain ⟨ad533, e533, hx533_0⟩ := Kd.at_int (by repeat (first | (with_reducible exact HR530_0.out) | (with_reducible refine Kd.C_alloc ?_ _) | (with_reducible refine Kd.C_drewN ?_ _) | (with_reducible refine Kd.C_drew ?_) | exact HR530_0.out)) 1 p533 q533
 obtain rfl : ad531 = ad533 := (by injection e533)
 (try simp only [show (1 : Int).toNat = 1 from rfl, Nat.reduceMul, Nat.reduceEqDiff, Go.Addr.add, ↓reduceIte] at hx533_0)
 have qi533 : (1 < (rd_L5 t521 x11_2).length) = True := eq_true (by omega)
 (try rw [show ((1 : Int)).toNat = 1 from rfl] at hx533_0)
 replace p533 := eq_true p533
 replace q533 := eq_true q533
 have p534 : 0 ≤ (1 : Int) := (by omega)
 have q534 : 1 < ((rd_L5 t521 x11_2).length : Int) := of_decide_eq_true (by first | (with_reducible assumption) | assumption)
 obtain ⟨ad534, e534, hx534_0⟩ := Kd.at_int (by repeat (first | (with_reducible exact HR530_0.out) | (with_reducible refine Kd.C_alloc ?_ _) | (with_reducible refine Kd.C_drewN ?_ _) | (with_reducible refine Kd.C_drew ?_) | exact HR530_0.out)) 1 p534 q534
 obtain rfl : ad531 = ad534 := (by injection e534)
 (try simp only [show (1 : Int).toNat = 1 from rfl, Nat.reduceMul, Nat.reduceEqDiff, Go.Addr.add, ↓reduceIte] at hx534_0)
 have qi534 : (1 < (rd_L5 t521 x11_2).length) = True := eq_true (by omega)
 (try rw [show ((1 : Int)).toNat = 1 from rfl] at hx534_0)
 replace p534 := eq_true p534
 replace q534 := eq_true q534
 have p535 : 0 ≤ (1 : Int) := (by omega)
 have q535 : 1 < ((rd_L5 t521 x11_2).length : Int) := of_decide_eq_true (by first | (with_reducible assumption) | assumption)
 obtain ⟨ad535, e535, hx535_0⟩ := Kd.at_int (by repeat (first | (with_reducible exact HR530_0.out) | (with_reducible refine Kd.C_alloc ?_ _) | (with_reducible refine Kd.C_drewN ?_ _) | (with_reducible refine Kd.C_drew ?_) | exact HR530_0.out)) 1 p535 q535
 obtain rfl : ad531 = ad535 := (by injection e535)
 (try simp only [show (1 : Int).toNat = 1 from rfl, Nat.reduceMul, Nat.reduceEqDiff, Go.Addr.add, ↓reduceIte] at hx535_0)
 have qi535 : (1 < (rd_L5 t521 x11_2).length) = True := eq_true (by omega)
 (try rw [show ((1 : Int)).toNat = 1 from rfl] at hx535_0)
 replace p535 := eq_true p535
 replace q535 := eq_true q535
 have p536 : 0 ≤ ((rd (rd_L5 t521 x11_2) 1) : Int) := of_decide_eq_true (by first | (with_reducible assumption) | assumption)
 have q536 : (rd (rd_L5 t521 x11_2) 1) < (t515.length : Int) := of_decide_eq_true (by first | (with_reducible assumption) | assumption)
 obtain ⟨ad536, e536, hx536_0, hx536_1, hx536_2⟩ := at_T36 (Kd.R_reads' HO_5.out).2.2 (rd (rd_L5 t521 x11_2) 1) p536 q536
 cases e536
 replace p536 := eq_true p536
 replace q536 := eq_true q536
 have p537 : 0 ≤ (0 : Int) := (by omega)
 have q537 : 0 < ((rd_L5 t521 x11_2).length : Int) := of_decide_eq_true (by first | (with_reducible assumption) | assumption)
 obtain ⟨ad537, e537, hx537_0⟩ := Kd.at_int (by repeat (first | (with_reducible exact HR530_0.out) | (with_reducible refine Kd.C_alloc ?_ _) | (with_reducible refine Kd.C_drewN ?_ _) | (with_reducible refine Kd.C_drew ?_) | exact HR530_0.out)) 0 p537 q537
 obtain rfl : ad531 = ad537 := (by injection e537)
 have qi537 : (0 < (rd_L5 t521 x11_2).length) = True := eq_true (by omega)
 (try rw [show ((0 : Int)).toNat = 0 from rfl] at hx537_0)
 (try rw [Addr.add_zero'] at hx537_0)
 replace p537 := eq_true p537
 replace q537 := eq_true q537
 have p538 : 0 ≤ ((rd (rd_L5 t521 x11_2) 0) : Int) := of_decide_eq_true (by first | (with_reducible assumption) | assumption)
 have q538 : (rd (rd_L5 t521 x11_2) 0) < (t518.length : Int) := of_decide_eq_true (by first | (with_reducible assumption) | assumption)
 obtain ⟨ad538, e538, hx538_0, hx538_1, hx538_2⟩ := at_T38 (Kd.R_reads' HO_6.out).2.2 (rd (rd_L5 t521 x11_2) 0) p538 q538
 cases e538
 replace p538 := eq_true p538
 replace q538 := eq_true q538
 go_wp2
 repeat (go_quiet (fail); try go_wp2)
 go_meet
 case rel => exact ⟨_, ((((rd_T36 t515 (rd (rd_L5 t521 x11_2) 1)).f0).toList != ((rd_T38 t518 (rd (rd_L5 t521 x11_2) 0)).f0).toList)), (by first | rfl | (simp; done) | (simp [*]; done)), H', ⟨by have := HJ8.out; have := HK2.out; first | omega | exact Nat.le_refl _⟩, ⟨by (with_reducible repeat (first | apply Kd.R_alloc | apply Kd.R_drewN | apply Kd.R_drew)); exact HO_5.out⟩, ⟨by (with_reducible repeat (first | apply Kd.R_alloc | apply Kd.R_drewN | apply Kd.R_drew)); exact HO_6.out⟩, ⟨by (with_reducible repeat (first | apply Kd.S_alloc | apply Kd.S_drewN | apply Kd.S_drew)); exact HO_7.out⟩, ⟨by (with_reducible repeat (first | apply Kd.R_alloc | apply Kd.R_drewN | apply Kd.R_drew)); exact HO_9.out⟩, ⟨by repeat (first | (with_reducible exact HR530_0.out) | (with_reducible refine Kd.C_alloc ?_ _) | (with_reducible refine Kd.C_drewN ?_ _) | (with_reducible refine Kd.C_drew ?_) | exact HR530_0.out)⟩, ⟨by repeat (first | (with_reducible first | exact HB.out | apply below_alloc | apply pw_below_drewN | apply below_drew1) | exact HB.out)⟩⟩
 }
 {
 rw [if_neg c36] at H
 exact absurd H (by simp)
 }
 }
 {
 rw [if_neg c35] at H
 exact absurd H (by simp)
 }
 }
 {
 rw [if_neg c34] at H
 exact absurd H (by simp)
 }
 }
 {
 rw [if_neg c33] at H
 exact absurd H (by simp)
 }
 }
 }
 }
 {
 rw [if_neg c30] at H
 exact absurd H (by simp)
 }
 }
 }
 }
 {
 rw [if_neg c27] at H
 exact absurd H (by simp)
 }
 }
 {
 rw [if_neg c26] at H
 have c26b0 : (((rd_L5 t521 x11_2).length : Int) == 2) = false := beq_eq_false_iff_ne.mpr c26
 have c26b1 : (((rd_L5 t521 x11_2).length : Int) != 2) = true := bne_iff_ne.mpr c26
 (first | rw [c26b0] | (simp only [i64_w, i32_w]; rw [c26b0]) | skip)
 have H' := Aside0.mk H
 clear H
 go_wp2
 repeat (go_quiet (fail); try go_wp2)
 go_meet
 case rel => exact ⟨_, (true), (by first | rfl | (simp; done) | (simp [*]; done)), H', ⟨by have := HJ8.out; have := HK2.out; first | omega | exact Nat.le_refl _⟩, ⟨by (with_reducible repeat (first | apply Kd.R_alloc | apply Kd.R_drewN | apply Kd.R_drew)); exact HO_5.out⟩, ⟨by (with_reducible repeat (first | apply Kd.R_alloc | apply Kd.R_drewN | apply Kd.R_drew)); exact HO_6.out⟩, ⟨by (with_reducible repeat (first | apply Kd.S_alloc | apply Kd.S_drewN | apply Kd.S_drew)); exact HO_7.out⟩, ⟨by (with_reducible repeat (first | apply Kd.R_alloc | apply Kd.R_drewN | apply Kd.R_drew)); exact HO_9.out⟩, ⟨by repeat (first | (with_reducible exact HR530_0.out) | (with_reducible refine Kd.C_alloc ?_ _) | (with_reducible refine Kd.C_drewN ?_ _) | (with_reducible refine Kd.C_drew ?_) | exact HR530_0.out)⟩, ⟨by repeat (first | (with_reducible first | exact HB.out | apply below_alloc | apply pw_below_drewN | apply below_drew1) | exact HB.out)⟩⟩
 }
  }
 case rest =>
  skip
  {
 as_aux_lemma =>
 clear HC24
 try clear c1
 try clear c2
 try clear p2
 try clear c3
 try clear c4
 try clear c5
 try clear p5
 try clear q5
 try clear hx5
 try clear qi5
 try clear c16
 try clear c16b0
 try clear c16b1
 try clear c17
 try clear c17b0
 try clear c17b1
 try clear c20
 try clear c20b0
 try clear c20b1
 try clear c21
 try clear c22
 try clear c22b0
 try clear c23
 try clear c23b0
 try clear c26
 try clear c26b0
 try clear c26b1
 try clear c27
 try clear c27b0
 try clear c27b1
 try clear c28
 try clear c28b0
 try clear c29
 try clear c29b0
 try clear c30
 try clear c30b0
 try clear c30b1
 try clear c31
 try clear c31b0
 try clear c32
 try clear c32b0
 try clear c33
 try clear c33b0
 try clear c34
 try clear c34b0
 try clear c35
 try clear c35b0
 try clear c36
 try clear c36b0
 try clear hx530_0
 try clear hx531_0
 try clear hx532_0
 try clear hx533_0
 try clear hx534_0
 try clear hx535_0
 try clear hx536_0
 try clear hx536_1
 try clear hx536_2
 try clear hx537_0
 try clear hx538_0
 try clear hx538_1
 try clear hx538_2
 try clear p2
 try clear p530
 try clear p531
 try clear p532
 try clear p533
 try clear p534
 try clear p535
 try clear p536
 try clear p537
 try clear p538
 try clear q530
 try clear q531
 try clear q532
 try clear q533
 try clear q534
 try clear q535
 try clear q536
 try clear q537
 try clear q538
 obtain ⟨kq, x127_23, rfl, HA, HJ23, HO_5, HO_6, HO_7, HO_9, HR530_0, HB⟩ := hcut
 cases kq with
 | zero => exact absurd HA.out (by simp [laws_FnEnsemble.j2])
 | succ kj23 =>
  skip
  {
 have H := HA.out
 clear HA
 simp only [laws_FnEnsemble.j2] at H
 by_cases c37 : x127_23 = true
 {
 subst c37
 have H1 : (none) = some r := by rw [if_pos rfl] at H; exact H
 clear H
 have H := H1
 clear H1
 exact absurd H (by simp)
 }
 {
 replace c37 := Bool.eq_false_iff.mpr c37
 subst c37
 have H1 : (if 1 < ((rd_L5 t521 x11_2).length : Int) then (if 0 ≤ (rd (rd_L5 t521 x11_2) 1) then (if (rd (rd_L5 t521 x11_2) 1) < (t515.length : Int) then (if 0 < ((rd_L5 t521 x11_2).length : Int) then (if 0 ≤ (rd (rd_L5 t521 x11_2) 0) then (if (rd (rd_L5 t521 x11_2) 0) < (t518.length : Int) then (laws_FnEnsemble.l1 kj23 t515 t518 t521 t525 t526 x11_2 (rd_L5 t521 x11_2) (wrap64 ((wrap64 (((rd_T36 t515 (rd (rd_L5 t521 x11_2) 1)).f1) + ((rd_T36 t515 (rd (rd_L5 t521 x11_2) 1)).f2))) + ((rd_T38 t518 (rd (rd_L5 t521 x11_2) 0)).f2))) false 0) else (none)) else (none)) else (none)) else (none)) else (none)) else (none)) = some r := by rw [if_neg (show ¬ (false = true) by decide)] at H; exact H
 clear H
 have H := H1
 clear H1
 by_cases c38 : 1 < ((rd_L5 t521 x11_2).length : Int)
 {
 as_aux_lemma =>
 rw [if_pos c38] at H
 have c38b0 : decide (1 < ((rd_L5 t521 x11_2).length : Int)) = true := decide_eq_true c38
 have c38b1 : decide (1 < (rd_L5 t521 x11_2).length) = true := decide_eq_true (by omega)
 clear c38
 by_cases c39 : 0 ≤ (rd (rd_L5 t521 x11_2) 1)
 {
 as_aux_lemma =>
 rw [if_pos c39] at H
 have c39b0 : decide (0 ≤ (rd (rd_L5 t521 x11_2) 1)) = true := decide_eq_true c39
 clear c39
 by_cases c40 : (rd (rd_L5 t521 x11_2) 1) < (t515.length : Int)
 {
 as_aux_lemma =>
 rw [if_pos c40] at H
 have c40b0 : decide ((rd (rd_L5 t521 x11_2) 1) < (t515.length : Int)) = true := decide_eq_true c40
 clear c40
 by_cases c41 : 0 < ((rd_L5 t521 x11_2).length : Int)
 {
 as_aux_lemma =>
 rw [if_pos c41] at H
 have c41b0 : decide (0 < ((rd_L5 t521 x11_2).length : Int)) = true := decide_eq_true c41
 have c41b1 : decide (0 < (rd_L5 t521 x11_2).length) = true := decide_eq_true (by omega)
 clear c41
 by_cases c42 : 0 ≤ (rd (rd_L5 t521 x11_2) 0)
 {
 as_aux_lemma =>
 rw [if_pos c42] at H
 have c42b0 : decide (0 ≤ (rd (rd_L5 t521 x11_2) 0)) = true := decide_eq_true c42
 clear c42
 by_cases c43 : (rd (rd_L5 t521 x11_2) 0) < (t518.length : Int)
 {
 as_aux_lemma =>
 rw [if_pos c43] at H
 have c43b0 : decide ((rd (rd_L5 t521 x11_2) 0) < (t518.length : Int)) = true := decide_eq_true c43
 clear c43
 have H' := Aside0.mk H
 clear H
 have p539 : 0 ≤ (1 : Int) := (by omega)
 have q539 : 1 < ((rd_L5 t521 x11_2).length : Int) := of_decide_eq_true (by first | (with_reducible assumption) | assumption)
 obtain ⟨ad539, e539, hx539_0⟩ := Kd.at_int HR530_0.out 1 p539 q539
 cases e539
 (try simp only [show (1 : Int).toNat = 1 from rfl, Nat.reduceMul, Nat.reduceEqDiff, Go.Addr.add, ↓reduceIte] at hx539_0)
 have qi539 : (1 < (rd_L5 t521 x11_2).length) = True := eq_true (by omega)
 (try rw [show ((1 : Int)).toNat = 1 from rfl] at hx539_0)
 try replace hx539_0 := (HB.out.cell (World.block_lt_of_cell? w _ hx539_0)).trans hx539_0
 replace p539 := eq_true p539
 replace q539 := eq_true q539
 have p540 : 0 ≤ ((rd (rd_L5 t521 x11_2) 1) : Int) := of_decide_eq_true (by first | (with_reducible assumption) | assumption)
 have q540 : (rd (rd_L5 t521 x11_2) 1) < (t515.length : Int) := of_decide_eq_true (by first | (with_reducible assumption) | assumption)
 obtain ⟨ad540, e540, hx540_0, hx540_1, hx540_2⟩ := at_T36 (Kd.R_reads' HO_5.out).2.2 (rd (rd_L5 t521 x11_2) 1) p540 q540
 cases e540
 replace p540 := eq_true p540
 replace q540 := eq_true q540
 have p541 : 0 ≤ (1 : Int) := (by omega)
 have q541 : 1 < ((rd_L5 t521 x11_2).length : Int) := of_decide_eq_true (by first | (with_reducible assumption) | assumption)
 obtain ⟨ad541, e541, hx541_0⟩ := Kd.at_int HR530_0.out 1 p541 q541
 obtain rfl : ad539 = ad541 := (by injection e541)
 (try simp only [show (1 : Int).toNat = 1 from rfl, Nat.reduceMul, Nat.reduceEqDiff, Go.Addr.add, ↓reduceIte] at hx541_0)
 have qi541 : (1 < (rd_L5 t521 x11_2).length) = True := eq_true (by omega)
 (try rw [show ((1 : Int)).toNat = 1 from rfl] at hx541_0)
 try replace hx541_0 := (HB.out.cell (World.block_lt_of_cell? w _ hx541_0)).trans hx541_0
 replace p541 := eq_true p541
 replace q541 := eq_true q541
 have p542 : 0 ≤ ((rd (rd_L5 t521 x11_2) 1) : Int) := of_decide_eq_true (by first | (with_reducible assumption) | assumption)
 have q542 : (rd (rd_L5 t521 x11_2) 1) < (t515.length : Int) := of_decide_eq_true (by first | (with_reducible assumption) | assumption)
 obtain ⟨ad542, e542, hx542_0, hx542_1, hx542_2⟩ := at_T36 (Kd.R_reads' HO_5.out).2.2 (rd (rd_L5 t521 x11_2) 1) p542 q542
 obtain rfl : ad540 = ad542 := (by injection e542)
 replace p542 := eq_true p542
 replace q542 := eq_true q542
 have p543 : 0 ≤ (0 : Int) := (by omega)
 have q543 : 0 < ((rd_L5 t521 x11_2).length : Int) := of_decide_eq_true (by first | (with_reducible assumption) | assumption)
 obtain ⟨ad543, e543, hx543_0⟩ := Kd.at_int HR530_0.out 0 p543 q543
 obtain rfl : ad539 = ad543 := (by injection e543)
 have qi543 : (0 < (rd_L5 t521 x11_2).length) = True := eq_true (by omega)
 (try rw [show ((0 : Int)).toNat = 0 from rfl] at hx543_0)
 (try rw [Addr.add_zero'] at hx543_0)
 try replace hx543_0 := (HB.out.cell (World.block_lt_of_cell? w _ hx543_0)).trans hx543_0
 replace p543 := eq_true p543
 replace q543 := eq_true q543
 have p544 : 0 ≤ ((rd (rd_L5 t521 x11_2) 0) : Int) := of_decide_eq_true (by first | (with_reducible assumption) | assumption)
 have q544 : (rd (rd_L5 t521 x11_2) 0) < (t518.length : Int) := of_decide_eq_true (by first | (with_reducible assumption) | assumption)
 obtain ⟨ad544, e544, hx544_0, hx544_1, hx544_2⟩ := at_T38 (Kd.R_reads' HO_6.out).2.2 (rd (rd_L5 t521 x11_2) 0) p544 q544
 cases e544
 replace p544 := eq_true p544
 replace q544 := eq_true q544
 go_wp2
 repeat (go_quiet (fail); try go_wp2)
 go_loopg [14, 15] kj23 (fun kq v14 v15 w' => ∃ (x14_4 : Bool) (x15_4 : Int), v14 = .bool x14_4 ∧ v15 = .int .i64 x15_4 ∧ Aside0 (laws_FnEnsemble.l1 kq t515 t518 t521 t525 t526 x11_2 (rd_L5 t521 x11_2) (wrap64 ((wrap64 (((rd_T36 t515 (rd (rd_L5 t521 x11_2) 1)).f1) + ((rd_T36 t515 (rd (rd_L5 t521 x11_2) 1)).f2))) + ((rd_T38 t518 (rd (rd_L5 t521 x11_2) 0)).f2))) x14_4 x15_4 = some r) ∧ Aside0 (kq ≤ kj23) ∧ Aside0 (Kd.R k36 36 w' w.heap.size (fun k_ => some k_ ≠ (v527 : Value).ownBlock) (.slice (some ad540) t515.length co12) t515) ∧ Aside0 (Kd.R k38 38 w' w.heap.size (fun _ => True) (.slice (some ad544) t518.length co13) t518) ∧ Aside0 (Kd.S (Kd.slice 2 (Kd.int .i64)) 34 w' w.heap.size (fun _ => True) (.slice (some ad530) t521.length co25) t521) ∧ Aside0 (Kd.R k36 36 w' w.heap.size (fun k_ => some k_ ≠ ((.slice (some ad540) t515.length co12) : Value).ownBlock) v527 t525) ∧ Aside0 (Kd.C (Kd.int .i64) w' (some ad539) (rd_L5 t521 x11_2).length (rd_L5 t521 x11_2)) ∧ Aside0 (Below w.heap.size w w'))
 case atStart => exact ⟨(false), (0), (by first | rfl | (simp; done) | (simp [*]; done)), (by first | rfl | (simp; done) | (simp [*]; done)), H', ⟨Nat.le_refl _⟩, ⟨by (with_reducible repeat (first | apply Kd.R_alloc | apply Kd.R_drewN | apply Kd.R_drew)); exact HO_5.out⟩, ⟨by (with_reducible repeat (first | apply Kd.R_alloc | apply Kd.R_drewN | apply Kd.R_drew)); exact HO_6.out⟩, ⟨by (with_reducible repeat (first | apply Kd.S_alloc | apply Kd.S_drewN | apply Kd.S_drew)); exact HO_7.out⟩, ⟨by (with_reducible repeat (first | apply Kd.R_alloc | apply Kd.R_drewN | apply Kd.R_drew)); exact HO_9.out⟩, ⟨by repeat (first | (with_reducible exact HR530_0.out) | (with_reducible refine Kd.C_alloc ?_ _) | (with_reducible refine Kd.C_drewN ?_ _) | (with_reducible refine Kd.C_drew ?_) | exact HR530_0.out)⟩, ⟨by repeat (first | (with_reducible first | exact HB.out | apply below_alloc | apply pw_below_drewN | apply below_drew1) | exact HB.out)⟩⟩
 case round =>
  skip
  {
 as_aux_lemma =>
 clear H'
 try clear c1
 try clear c2
 try clear p2
 try clear c3
 try clear c4
 try clear c5
 try clear p5
 try clear q5
 try clear hx5
 try clear qi5
 try clear p6
 try clear c16
 try clear c16b0
 try clear c16b1
 try clear c17
 try clear c17b0
 try clear c17b1
 try clear c20
 try clear c20b0
 try clear c20b1
 try clear c21
 try clear c22
 try clear c22b0
 try clear c23
 try clear c23b0
 try clear c26
 try clear c26b0
 try clear c26b1
 try clear c27
 try clear c27b0
 try clear c27b1
 try clear c28
 try clear c28b0
 try clear c29
 try clear c29b0
 try clear c30
 try clear c30b0
 try clear c30b1
 try clear c31
 try clear c31b0
 try clear c32
 try clear c32b0
 try clear c33
 try clear c33b0
 try clear c34
 try clear c34b0
 try clear c35
 try clear c35b0
 try clear c36
 try clear c36b0
 try clear c37
 try clear c38
 try clear c38b0
 try clear c38b1
 try clear c39
 try clear c39b0
 try clear c40
 try clear c40b0
 try clear c41
 try clear c41b0
 try clear c41b1
 try clear c42
 try clear c42b0
 try clear c43
 try clear c43b0
 try clear hx530_0
 try clear hx531_0
 try clear hx532_0
 try clear hx533_0
 try clear hx534_0
 try clear hx535_0
 try clear hx536_0
 try clear hx536_1
 try clear hx536_2
 try clear hx537_0
 try clear hx538_0
 try clear hx538_1
 try clear hx538_2
 try clear hx539_0
 try clear hx540_0
 try clear hx540_1
 try clear hx540_2
 try clear hx541_0
 try clear hx542_0
 try clear hx542_1
 try clear hx542_2
 try clear hx543_0
 try clear hx544_0
 try clear hx544_1
 try clear hx544_2
 try clear p2
 try clear p5
 try clear p530
 try clear p531
 try clear p532
 try clear p533
 try clear p534
 try clear p535
 try clear p536
 try clear p537
 try clear p538
 try clear p539
 try clear p540
 try clear p541
 try clear p542
 try clear p543
 try clear p544
 try clear q5
 try clear q530
 try clear q531
 try clear q532
 try clear q533
 try clear q534
 try clear q535
 try clear q536
 try clear q537
 try clear q538
 try clear q539
 try clear q540
 try clear q541
 try clear q542
 try clear q543
 try clear q544
 obtain ⟨x14_4, x15_4, rfl, rfl, HA, HK4, HO_5, HO_6, HO_7, HO_9, HR530_0, HB⟩ := hrel
 cases gk with
 | zero => exact absurd HA.out (by simp [laws_FnEnsemble.l1])
 | succ k4 =>
  skip
  {
 have H := HA.out
 clear HA
 simp only [laws_FnEnsemble.l1] at H
 by_cases c44 : x15_4 < (t525.length : Int)
 {
 as_aux_lemma =>
 rw [if_pos c44] at H
 have c44b0 : decide (x15_4 < (t525.length : Int)) = true := decide_eq_true c44
 clear c44
 by_cases c45 : x14_4 = true
 {
 subst c45
 have H1 : (laws_FnEnsemble.l1 k4 t515 t518 t521 t525 t526 x11_2 (rd_L5 t521 x11_2) (wrap64 ((wrap64 (((rd_T36 t515 (rd (rd_L5 t521 x11_2) 1)).f1) + ((rd_T36 t515 (rd (rd_L5 t521 x11_2) 1)).f2))) + ((rd_T38 t518 (rd (rd_L5 t521 x11_2) 0)).f2))) true (wrap64 (x15_4 + 1))) = some r := by rw [if_pos rfl] at H; exact H
 clear H
 have H := H1
 clear H1
 have H' := Aside0.mk H
 clear H
 obtain ⟨Ao46, co46, eo46⟩ := Kd.R_slice HO_9.out
 subst eo46
 go_wp2
 repeat (go_quiet (fail); try go_wp2)
 go_roundg k4
 case measure => have := HJ8.out; have := HK2.out; have := HJ23.out; have := HK4.out; omega
 case rel => exact ⟨(true), (wrap64 (x15_4 + 1)), (by first | rfl | (simp; done) | (simp [*]; done)), (by first | rfl | (simp; done) | (simp [*]; done)), H', ⟨by have := HJ8.out; have := HK2.out; have := HJ23.out; have := HK4.out; omega⟩, ⟨by (with_reducible repeat (first | apply Kd.R_alloc | apply Kd.R_drewN | apply Kd.R_drew)); exact HO_5.out⟩, ⟨by (with_reducible repeat (first | apply Kd.R_alloc | apply Kd.R_drewN | apply Kd.R_drew)); exact HO_6.out⟩, ⟨by (with_reducible repeat (first | apply Kd.S_alloc | apply Kd.S_drewN | apply Kd.S_drew)); exact HO_7.out⟩, ⟨by (with_reducible repeat (first | apply Kd.R_alloc | apply Kd.R_drewN | apply Kd.R_drew)); exact HO_9.out⟩, ⟨by repeat (first | (with_reducible exact HR530_0.out) | (with_reducible refine Kd.C_alloc ?_ _) | (with_reducible refine Kd.C_drewN ?_ _) | (with_reducible refine Kd.C_drew ?_) | exact HR530_0.out)⟩, ⟨by repeat (first | (with_reducible first | exact HB.out | apply below_alloc | apply pw_below_drewN | apply below_drew1) | exact HB.out)⟩⟩
 }
 {
 replace c45 := Bool.eq_false_iff.mpr c45
 subst c45
 have H1 : (if 0 ≤ x15_4 then (if 0 < ((rd_L5 t521 x11_2).length : Int) then (if 0 ≤ (rd (rd_L5 t521 x11_2) 0) then (if (rd (rd_L5 t521 x11_2) 0) < (t518.length : Int) then (if ((rd_T36 t525 x15_4).f0).toList = ((rd_T38 t518 (rd (rd_L5 t521 x11_2) 0)).f1).toList then (laws_FnEnsemble.l1 k4 t515 t518 t521 t525 t526 x11_2 (rd_L5 t521 x11_2) (wrap64 ((wrap64 (((rd_T36 t515 (rd (rd_L5 t521 x11_2) 1)).f1) + ((rd_T36 t515 (rd (rd_L5 t521 x11_2) 1)).f2))) + ((rd_T38 t518 (rd (rd_L5 t521 x11_2) 0)).f2))) (((rd_T36 t525 x15_4).f1) == (wrap64 ((wrap64 (((rd_T36 t515 (rd (rd_L5 t521 x11_2) 1)).f1) + ((rd_T36 t515 (rd (rd_L5 t521 x11_2) 1)).f2))) + ((rd_T38 t518 (rd (rd_L5 t521 x11_2) 0)).f2)))) (wrap64 (x15_4 + 1))) else (laws_FnEnsemble.l1 k4 t515 t518 t521 t525 t526 x11_2 (rd_L5 t521 x11_2) (wrap64 ((wrap64 (((rd_T36 t515 (rd (rd_L5 t521 x11_2) 1)).f1) + ((rd_T36 t515 (rd (rd_L5 t521 x11_2) 1)).f2))) + ((rd_T38 t518 (rd (rd_L5 t521 x11_2) 0)).f2))) false (wrap64 (x15_4 + 1)))) else (none)) else (none)) else (none)) else (none)) = some r := by rw [if_neg (show ¬ (false = true) by decide)] at H; exact H
 clear H
 have H := H1
 clear H1
 by_cases c47 : 0 ≤ x15_4
 {
 as_aux_lemma =>
 rw [if_pos c47] at H
 have c47b0 : decide (0 ≤ x15_4) = true := decide_eq_true c47
 clear c47
 by_cases c48 : 0 < ((rd_L5 t521 x11_2).length : Int)
 {
 as_aux_lemma =>
 rw [if_pos c48] at H
 have c48b0 : decide (0 < ((rd_L5 t521 x11_2).length : Int)) = true := decide_eq_true c48
 have c48b1 : decide (0 < (rd_L5 t521 x11_2).length) = true := decide_eq_true (by omega)
 clear c48
 by_cases c49 : 0 ≤ (rd (rd_L5 t521 x11_2) 0)
 {
 as_aux_lemma =>
 rw [if_pos c49] at H
 have c49b0 : decide (0 ≤ (rd (rd_L5 t521 x11_2) 0)) = true := decide_eq_true c49
 clear c49
 by_cases c50 : (rd (rd_L5 t521 x11_2) 0) < (t518.length : Int)
 {
 rw [if_pos c50] at H
 have c50b0 : decide ((rd (rd_L5 t521 x11_2) 0) < (t518.length : Int)) = true := decide_eq_true c50
 clear c50
 by_cases c51 : ((rd_T36 t525 x15_4).f0).toList = ((rd_T38 t518 (rd (rd_L5 t521 x11_2) 0)).f1).toList
 {
 rw [if_pos c51] at H
 have c51b0 : (((rd_T36 t525 x15_4).f0).toList == ((rd_T38 t518 (rd (rd_L5 t521 x11_2) 0)).f1).toList) = true := beq_iff_eq.mpr c51
 have c51b1 : (((rd_T36 t525 x15_4).f0).toList != ((rd_T38 t518 (rd (rd_L5 t521 x11_2) 0)).f1).toList) = false := bne_eq_false_iff_eq.mpr c51
 clear c51
 have H' := Aside0.mk H
 clear H
 obtain ⟨Ao52, co52, eo52⟩ := Kd.R_slice HO_9.out
 subst eo52
 have p545 : 0 ≤ (x15_4 : Int) := of_decide_eq_true (by first | (with_reducible assumption) | assumption)
 have q545 : x15_4 < (t525.length : Int) := of_decide_eq_true (by first | (with_reducible assumption) | assumption)
 obtain ⟨ad545, e545, hx545_0, hx545_1, hx545_2⟩ := at_T36 (Kd.R_reads' HO_9.out).2.2 x15_4 p545 q545
 cases e545
 replace p545 := eq_true p545
 replace q545 := eq_true q545
 have p546 : 0 ≤ (0 : Int) := (by omega)
 have q546 : 0 < ((rd_L5 t521 x11_2).length : Int) := of_decide_eq_true (by first | (with_reducible assumption) | assumption)
 obtain ⟨ad546, e546, hx546_0⟩ := Kd.at_int HR530_0.out 0 p546 q546
 obtain rfl : ad539 = ad546 := (by injection e546)
 have qi546 : (0 < (rd_L5 t521 x11_2).length) = True := eq_true (by omega)
 (try rw [show ((0 : Int)).toNat = 0 from rfl] at hx546_0)
 (try rw [Addr.add_zero'] at hx546_0)
 try replace hx546_0 := (HB.out.cell (World.block_lt_of_cell? w _ hx546_0)).trans hx546_0
 replace p546 := eq_true p546
 replace q546 := eq_true q546
 have p547 : 0 ≤ ((rd (rd_L5 t521 x11_2) 0) : Int) := of_decide_eq_true (by first | (with_reducible assumption) | assumption)
 have q547 : (rd (rd_L5 t521 x11_2) 0) < (t518.length : Int) := of_decide_eq_true (by first | (with_reducible assumption) | assumption)
 obtain ⟨ad547, e547, hx547_0, hx547_1, hx547_2⟩ := at_T38 (Kd.R_reads' HO_6.out).2.2 (rd (rd_L5 t521 x11_2) 0) p547 q547
 obtain rfl : ad544 = ad547 := (by injection e547)
 replace p547 := eq_true p547
 replace q547 := eq_true q547
 have p548 : 0 ≤ (x15_4 : Int) := of_decide_eq_true (by first | (with_reducible assumption) | assumption)
 have q548 : x15_4 < (t525.length : Int) := of_decide_eq_true (by first | (with_reducible assumption) | assumption)
 obtain ⟨ad548, e548, hx548_0, hx548_1, hx548_2⟩ := at_T36 (Kd.R_reads' HO_9.out).2.2 x15_4 p548 q548
 obtain rfl : ad545 = ad548 := (by injection e548)
 replace p548 := eq_true p548
 replace q548 := eq_true q548
 go_wp2
 repeat (go_quiet (fail); try go_wp2)
 go_roundg k4
 case measure => have := HJ8.out; have := HK2.out; have := HJ23.out; have := HK4.out; omega
 case rel => exact ⟨((((rd_T36 t525 x15_4).f1) == (wrap64 ((wrap64 (((rd_T36 t515 (rd (rd_L5 t521 x11_2) 1)).f1) + ((rd_T36 t515 (rd (rd_L5 t521 x11_2) 1)).f2))) + ((rd_T38 t518 (rd (rd_L5 t521 x11_2) 0)).f2))))), (wrap64 (x15_4 + 1)), (by first | rfl | (simp; done) | (simp [*]; done)), (by first | rfl | (simp; done) | (simp [*]; done)), H', ⟨by have := HJ8.out; have := HK2.out; have := HJ23.out; have := HK4.out; omega⟩, ⟨by (with_reducible repeat (first | apply Kd.R_alloc | apply Kd.R_drewN | apply Kd.R_drew)); exact HO_5.out⟩, ⟨by (with_reducible repeat (first | apply Kd.R_alloc | apply Kd.R_drewN | apply Kd.R_drew)); exact HO_6.out⟩, ⟨by (with_reducible repeat (first | apply Kd.S_alloc | apply Kd.S_drewN | apply Kd.S_drew)); exact HO_7.out⟩, ⟨by (with_reducible repeat (first | apply Kd.R_alloc | apply Kd.R_drewN | apply Kd.R_drew)); exact HO_9.out⟩, ⟨by repeat (first | (with_reducible exact HR530_0.out) | (with_reducible refine Kd.C_alloc ?_ _) | (with_reducible refine Kd.C_drewN ?_ _) | (with_reducible refine Kd.C_drew ?_) | exact HR530_0.out)⟩, ⟨by repeat (first | (with_reducible first | exact HB.out | apply below_alloc | apply pw_below_drewN | apply below_drew1) | exact HB.out)⟩⟩
 }
 {
 rw [if_neg c51] at H
 have c51b0 : (((rd_T36 t525 x15_4).f0).toList == ((rd_T38 t518 (rd (rd_L5 t521 x11_2) 0)).f1).toList) = false := beq_eq_false_iff_ne.mpr c51
 have c51b1 : (((rd_T36 t525 x15_4).f0).toList != ((rd_T38 t518 (rd (rd_L5 t521 x11_2) 0)).f1).toList) = true := bne_iff_ne.mpr c51
 have H' := Aside0.mk H
 clear H
 obtain ⟨Ao53, co53, eo53⟩ := Kd.R_slice HO_9.out
 subst eo53
 have p545 : 0 ≤ (x15_4 : Int) := of_decide_eq_true (by first | (with_reducible assumption) | assumption)
 have q545 : x15_4 < (t525.length : Int) := of_decide_eq_true (by first | (with_reducible assumption) | assumption)
 obtain ⟨ad545, e545, hx545_0, hx545_1, hx545_2⟩ := at_T36 (Kd.R_reads' HO_9.out).2.2 x15_4 p545 q545
 cases e545
 replace p545 := eq_true p545
 replace q545 := eq_true q545
 have p546 : 0 ≤ (0 : Int) := (by omega)
 have q546 : 0 < ((rd_L5 t521 x11_2).length : Int) := of_decide_eq_true (by first | (with_reducible assumption) | assumption)
 obtain ⟨ad546, e546, hx546_0⟩ := Kd.at_int HR530_0.out 0 p546 q546
 obtain rfl : ad539 = ad546 := (by injection e546)
 have qi546 : (0 < (rd_L5 t521 x11_2).length) = True := eq_true (by omega)
 (try rw [show ((0 : Int)).toNat = 0 from rfl] at hx546_0)
 (try rw [Addr.add_zero'] at hx546_0)
 try replace hx546_0 := (HB.out.cell (World.block_lt_of_cell? w _ hx546_0)).trans hx546_0
 replace p546 := eq_true p546
 replace q546 := eq_true q546
 have p547 : 0 ≤ ((rd (rd_L5 t521 x11_2) 0) : Int) := of_decide_eq_true (by first | (with_reducible assumption) | assumption)
 have q547 : (rd (rd_L5 t521 x11_2) 0) < (t518.length : Int) := of_decide_eq_true (by first | (with_reducible assumption) | assumption)
 obtain ⟨ad547, e547, hx547_0, hx547_1, hx547_2⟩ := at_T38 (Kd.R_reads' HO_6.out).2.2 (rd (rd_L5 t521 x11_2) 0) p547 q547
 obtain rfl : ad544 = ad547 := (by injection e547)
 replace p547 := eq_true p547
 replace q547 := eq_true q547
 go_wp2
 repeat (go_quiet (fail); try go_wp2)
 go_roundg k4
 case measure => have := HJ8.out; have := HK2.out; have := HJ23.out; have := HK4.out; omega
 case rel => exact ⟨(false), (wrap64 (x15_4 + 1)), (by first | rfl | (simp; done) | (simp [*]; done)), (by first | rfl | (simp; done) | (simp [*]; done)), H', ⟨by have := HJ8.out; have := HK2.out; have := HJ23.out; have := HK4.out; omega⟩, ⟨by (with_reducible repeat (first | apply Kd.R_alloc | apply Kd.R_drewN | apply Kd.R_drew)); exact HO_5.out⟩, ⟨by (with_reducible repeat (first | apply Kd.R_alloc | apply Kd.R_drewN | apply Kd.R_drew)); exact HO_6.out⟩, ⟨by (with_reducible repeat (first | apply Kd.S_alloc | apply Kd.S_drewN | apply Kd.S_drew)); exact HO_7.out⟩, ⟨by (with_reducible repeat (first | apply Kd.R_alloc | apply Kd.R_drewN | apply Kd.R_drew)); exact HO_9.out⟩, ⟨by repeat (first | (with_reducible exact HR530_0.out) | (with_reducible refine Kd.C_alloc ?_ _) | (with_reducible refine Kd.C_drewN ?_ _) | (with_reducible refine Kd.C_drew ?_) | exact HR530_0.out)⟩, ⟨by repeat (first | (with_reducible first | exact HB.out | apply below_alloc | apply pw_below_drewN | apply below_drew1) | exact HB.out)⟩⟩
 }
 }
 {
 rw [if_neg c50] at H
 exact absurd H (by simp)
 }
 }
 {
 rw [if_neg c49] at H
 exact absurd H (by simp)
 }
 }
 {
 rw [if_neg c48] at H
 exact absurd H (by simp)
 }
 }
 {
 rw [if_neg c47] at H
 exact absurd H (by simp)
 }
 }
 }
 {
 rw [if_neg c44] at H
 have c44b0 : decide (x15_4 < (t525.length : Int)) = false := decide_eq_false c44
 clear c44
 by_cases c54 : t526 = 0
 {
 rw [if_pos c54] at H
 have c54b0 : (t526 == 0) = true := beq_iff_eq.mpr c54
 have c54b1 : (t526 != 0) = false := bne_eq_false_iff_eq.mpr c54
 clear c54
 by_cases c55 : x14_4 = true
 {
 subst c55
 have H1 : (laws_FnEnsemble.l0 k4 t515 t518 t521 t525 t526 (wrap64 (x11_2 + 1))) = some r := by rw [if_pos rfl] at H; exact H
 clear H
 have H := H1
 clear H1
 have H' := Aside0.mk H
 clear H
 obtain ⟨Ao56, co56, eo56⟩ := Kd.R_slice HO_9.out
 subst eo56
 go_wp2
 repeat (go_quiet (fail); try go_wp2)
 go_roundg k4
 case measure => have := HJ8.out; have := HK2.out; have := HJ23.out; have := HK4.out; omega
 case rel => exact ⟨(wrap64 (x11_2 + 1)), (by first | rfl | (simp; done) | (simp [*]; done)), H', ⟨by have := HJ8.out; have := HK2.out; have := HJ23.out; have := HK4.out; omega⟩, ⟨by (with_reducible repeat (first | apply Kd.R_alloc | apply Kd.R_drewN | apply Kd.R_drew)); exact HO_5.out⟩, ⟨by (with_reducible repeat (first | apply Kd.R_alloc | apply Kd.R_drewN | apply Kd.R_drew)); exact HO_6.out⟩, ⟨by (with_reducible repeat (first | apply Kd.S_alloc | apply Kd.S_drewN | apply Kd.S_drew)); exact HO_7.out⟩, ⟨by (with_reducible repeat (first | apply Kd.R_alloc | apply Kd.R_drewN | apply Kd.R_drew)); exact HO_9.out⟩, ⟨by repeat (first | (with_reducible first | exact HB.out | apply below_alloc | apply pw_below_drewN | apply below_drew1) | exact HB.out)⟩⟩
 }
 {
 replace c55 := Bool.eq_false_iff.mpr c55
 subst c55
 have H1 : (none) = some r := by rw [if_neg (show ¬ (false = true) by decide)] at H; exact H
 clear H
 have H := H1
 clear H1
 exact absurd H (by simp)
 }
 }
 {
 rw [if_neg c54] at H
 have c54b0 : (t526 == 0) = false := beq_eq_false_iff_ne.mpr c54
 have c54b1 : (t526 != 0) = true := bne_iff_ne.mpr c54
 have H' := Aside0.mk H
 clear H
 obtain ⟨Ao57, co57, eo57⟩ := Kd.R_slice HO_9.out
 subst eo57
 go_wp2
 repeat (go_quiet (fail); try go_wp2)
 go_roundg k4
 case measure => have := HJ8.out; have := HK2.out; have := HJ23.out; have := HK4.out; omega
 case rel => exact ⟨(wrap64 (x11_2 + 1)), (by first | rfl | (simp; done) | (simp [*]; done)), H', ⟨by have := HJ8.out; have := HK2.out; have := HJ23.out; have := HK4.out; omega⟩, ⟨by (with_reducible repeat (first | apply Kd.R_alloc | apply Kd.R_drewN | apply Kd.R_drew)); exact HO_5.out⟩, ⟨by (with_reducible repeat (first | apply Kd.R_alloc | apply Kd.R_drewN | apply Kd.R_drew)); exact HO_6.out⟩, ⟨by (with_reducible repeat (first | apply Kd.S_alloc | apply Kd.S_drewN | apply Kd.S_drew)); exact HO_7.out⟩, ⟨by (with_reducible repeat (first | apply Kd.R_alloc | apply Kd.R_drewN | apply Kd.R_drew)); exact HO_9.out⟩, ⟨by repeat (first | (with_reducible first | exact HB.out | apply below_alloc | apply pw_below_drewN | apply below_drew1) | exact HB.out)⟩⟩
 }
 }
  }
  }
 }
 {
 rw [if_neg c43] at H
 exact absurd H (by simp)
 }
 }
 {
 rw [if_neg c42] at H
 exact absurd H (by simp)
 }
 }
 {
 rw [if_neg c41] at H
 exact absurd H (by simp)
 }
 }
 {
 rw [if_neg c40] at H
 exact absurd H (by simp)
 }
 }
 {
 rw [if_neg c39] at H
 exact absurd H (by simp)
 }
 }
 {
 rw [if_neg c38] at H
 exact absurd H (by simp)
 }
 }
  }
  }
 }
 {
 rw [if_neg c23] at H
 exact absurd H (by simp)
 }
 }
 {
 as_aux_lemma =>
 rw [if_neg c22] at H
 have c22b0 : decide (x11_2 < (t521.length : Int)) = false := decide_eq_false c22
 clear c22
 replace H := Option.bind_eq_some_iff.mp H
 obtain ⟨⟨t549, t550⟩, A580, H⟩ := H
 replace H : (if t550 = 0 then (laws_FnEnsemble.l2 k2 t515 t549 0) else (none)) = some r := H
 have A58 := Aside0.mk A580
 clear A580
 by_cases c59 : t550 = 0
 {
 as_aux_lemma =>
 rw [if_pos c59] at H
 have c59b0 : (t550 == 0) = true := beq_iff_eq.mpr c59
 have c59b1 : (t550 != 0) = false := bne_eq_false_iff_eq.mpr c59
 clear c59
 have H' := Aside0.mk H
 clear H
 obtain ⟨Ao60, co60, eo60⟩ := Kd.S_slice HO_7.out
 subst eo60
 go_wp2_with (first | (go_at_call 12; (with_reducible refine (impl_SilencesOf.calls k2 _ _ t515 t549 t550 _ ?side1 ?side2 A58.out).mono ?_); (case side1 => repeat (first | exact (Kd.R_reads' HO_5.out).2.2 | (with_reducible refine Kd.C_alloc ?_ _) | (with_reducible refine Kd.C_drewN ?_ _) | (with_reducible refine Kd.C_drew ?_))); (case side2 => exact (Kd.R_reads' HO_5.out).2.1); rintro e w61 ⟨v551, rfl, ho0, hb⟩; have n0_ := Aside0.mk (Kd.R_below (by (with_reducible repeat (first | apply Kd.R_alloc | apply Kd.R_drewN | apply Kd.R_drew)); exact HO_5.out) hb); have n1_ := Aside0.mk (Kd.R_below (by (with_reducible repeat (first | apply Kd.R_alloc | apply Kd.R_drewN | apply Kd.R_drew)); exact HO_6.out) hb); have n2_ := Aside0.mk (Kd.S_elder' (by (with_reducible repeat (first | apply Kd.S_alloc | apply Kd.S_drewN | apply Kd.S_drew)); exact HO_7.out) (Kd.S_base ho0) hb); have n3_ := Aside0.mk (Kd.R_below (by (with_reducible repeat (first | apply Kd.R_alloc | apply Kd.R_drewN | apply Kd.R_drew)); exact HO_9.out) hb); have n4_ := Aside0.mk (Kd.S_lower (Kd.S_new' ho0 (Kd.S_lt (by (with_reducible repeat (first | apply Kd.S_alloc | apply Kd.S_drewN | apply Kd.S_drew)); exact HO_7.out))) (below_size (by repeat (first | (with_reducible first | exact HB.out | apply below_alloc | apply pw_below_drewN | apply below_drew1) | exact HB.out)))); have n5_ := Aside0.mk (below_step (by repeat (first | (with_reducible first | exact HB.out | apply below_alloc | apply pw_below_drewN | apply below_drew1) | exact HB.out)) hb); clear HO_5; clear HO_6; clear HO_7; clear HO_9; clear HB; have HO_5 := n0_; have HO_6 := n1_; have HO_7 := n2_; have HO_9 := n3_; have HO552 := n4_; have HB := n5_; clear n0_ n1_ n2_ n3_ n4_ n5_; (try clear hb); (try clear hb2); (try clear hk); (try clear hi); (try clear ho0)))
 repeat (go_quiet (first | (go_at_call 12; (with_reducible refine (impl_SilencesOf.calls k2 _ _ t515 t549 t550 _ ?side1 ?side2 A58.out).mono ?_); (case side1 => repeat (first | exact (Kd.R_reads' HO_5.out).2.2 | (with_reducible refine Kd.C_alloc ?_ _) | (with_reducible refine Kd.C_drewN ?_ _) | (with_reducible refine Kd.C_drew ?_))); (case side2 => exact (Kd.R_reads' HO_5.out).2.1); rintro e w61 ⟨v551, rfl, ho0, hb⟩; have n0_ := Aside0.mk (Kd.R_below (by (with_reducible repeat (first | apply Kd.R_alloc | apply Kd.R_drewN | apply Kd.R_drew)); exact HO_5.out) hb); have n1_ := Aside0.mk (Kd.R_below (by (with_reducible repeat (first | apply Kd.R_alloc | apply Kd.R_drewN | apply Kd.R_drew)); exact HO_6.out) hb); have n2_ := Aside0.mk (Kd.S_elder' (by (with_reducible repeat (first | apply Kd.S_alloc | apply Kd.S_drewN | apply Kd.S_drew)); exact HO_7.out) (Kd.S_base ho0) hb); have n3_ := Aside0.mk (Kd.R_below (by (with_reducible repeat (first | apply Kd.R_alloc | apply Kd.R_drewN | apply Kd.R_drew)); exact HO_9.out) hb); have n4_ := Aside0.mk (Kd.S_lower (Kd.S_new' ho0 (Kd.S_lt (by (with_reducible repeat (first | apply Kd.S_alloc | apply Kd.S_drewN | apply Kd.S_drew)); exact HO_7.out))) (below_size (by repeat (first | (with_reducible first | exact HB.out | apply below_alloc | apply pw_below_drewN | apply below_drew1) | exact HB.out)))); have n5_ := Aside0.mk (below_step (by repeat (first | (with_reducible first | exact HB.out | apply below_alloc | apply pw_below_drewN | apply below_drew1) | exact HB.out)) hb); clear HO_5; clear HO_6; clear HO_7; clear HO_9; clear HB; have HO_5 := n0_; have HO_6 := n1_; have HO_7 := n2_; have HO_9 := n3_; have HO552 := n4_; have HB := n5_; clear n0_ n1_ n2_ n3_ n4_ n5_; (try clear hb); (try clear hb2); (try clear hk); (try clear hi); (try clear ho0))); try go_wp2_with (first | (go_at_call 12; (with_reducible refine (impl_SilencesOf.calls k2 _ _ t515 t549 t550 _ ?side1 ?side2 A58.out).mono ?_); (case side1 => repeat (first | exact (Kd.R_reads' HO_5.out).2.2 | (with_reducible refine Kd.C_alloc ?_ _) | (with_reducible refine Kd.C_drewN ?_ _) | (with_reducible refine Kd.C_drew ?_))); (case side2 => exact (Kd.R_reads' HO_5.out).2.1); rintro e w61 ⟨v551, rfl, ho0, hb⟩; have n0_ := Aside0.mk (Kd.R_below (by (with_reducible repeat (first | apply Kd.R_alloc | apply Kd.R_drewN | apply Kd.R_drew)); exact HO_5.out) hb); have n1_ := Aside0.mk (Kd.R_below (by (with_reducible repeat (first | apply Kd.R_alloc | apply Kd.R_drewN | apply Kd.R_drew)); exact HO_6.out) hb); have n2_ := Aside0.mk (Kd.S_elder' (by (with_reducible repeat (first | apply Kd.S_alloc | apply Kd.S_drewN | apply Kd.S_drew)); exact HO_7.out) (Kd.S_base ho0) hb); have n3_ := Aside0.mk (Kd.R_below (by (with_reducible repeat (first | apply Kd.R_alloc | apply Kd.R_drewN | apply Kd.R_drew)); exact HO_9.out) hb); have n4_ := Aside0.mk (Kd.S_lower (Kd.S_new' ho0 (Kd.S_lt (by (with_reducible repeat (first | apply Kd.S_alloc | apply Kd.S_drewN | apply Kd.S_drew)); exact HO_7.out))) (below_size (by repeat (first | (with_reducible first | exact HB.out | apply below_alloc | apply pw_below_drewN | apply below_drew1) | exact HB.out)))); have n5_ := Aside0.mk (below_step (by repeat (first | (with_reducible first | exact HB.out | apply below_alloc | apply pw_below_drewN | apply below_drew1) | exact HB.out)) hb); clear HO_5; clear HO_6; clear HO_7; clear HO_9; clear HB; have HO_5 := n0_; have HO_6 := n1_; have HO_7 := n2_; have HO_9 := n3_; have HO552 := n4_; have HB := n5_; clear n0_ n1_ n2_ n3_ n4_ n5_; (try clear hb); (try clear hb2); (try clear hk); (try clear hi); (try clear ho0))))
 go_loopg [18] k2 (fun kq v18 w' => ∃ (x18_3 : Int), v18 = .int .i64 x18_3 ∧ Aside0 (laws_FnEnsemble.l2 kq t515 t549 x18_3 = some r) ∧ Aside0 (kq ≤ k2) ∧ Aside0 (Kd.R k36 36 w' w.heap.size (fun _ => True) (.slice Ao12 t515.length co12) t515) ∧ Aside0 (Kd.S (Kd.slice 2 (Kd.int .i64)) 34 w' w.heap.size (fun _ => True) v551 t549) ∧ Aside0 (Below w.heap.size w w'))
 case atStart => exact ⟨(0), (by first | rfl | (simp; done) | (simp [*]; done)), H', ⟨Nat.le_refl _⟩, ⟨by (with_reducible repeat (first | apply Kd.R_alloc | apply Kd.R_drewN | apply Kd.R_drew)); exact Kd.R_mono HO_5.out (fun _ hk => trivial)⟩, ⟨by (with_reducible repeat (first | apply Kd.S_alloc | apply Kd.S_drewN | apply Kd.S_drew)); exact Kd.S_mono HO552.out (fun _ hk => trivial)⟩, ⟨by repeat (first | (with_reducible first | exact HB.out | apply below_alloc | apply pw_below_drewN | apply below_drew1) | exact HB.out)⟩⟩
 case round =>
  skip
  {
 as_aux_lemma =>
 clear H'
 try clear c1
 try clear c2
 try clear p2
 try clear c3
 try clear c4
 try clear c5
 try clear p5
 try clear q5
 try clear hx5
 try clear qi5
 try clear p6
 try clear c16
 try clear c16b0
 try clear c16b1
 try clear c17
 try clear c17b0
 try clear c17b1
 try clear c20
 try clear c20b0
 try clear c20b1
 try clear c21
 try clear c22
 try clear c22b0
 try clear c23
 try clear c23b0
 try clear c26
 try clear c26b0
 try clear c26b1
 try clear c27
 try clear c27b0
 try clear c27b1
 try clear c28
 try clear c28b0
 try clear c29
 try clear c29b0
 try clear c30
 try clear c30b0
 try clear c30b1
 try clear c31
 try clear c31b0
 try clear c32
 try clear c32b0
 try clear c33
 try clear c33b0
 try clear c34
 try clear c34b0
 try clear c35
 try clear c35b0
 try clear c36
 try clear c36b0
 try clear c37
 try clear c38
 try clear c38b0
 try clear c38b1
 try clear c39
 try clear c39b0
 try clear c40
 try clear c40b0
 try clear c41
 try clear c41b0
 try clear c41b1
 try clear c42
 try clear c42b0
 try clear c43
 try clear c43b0
 try clear c44
 try clear c44b0
 try clear c45
 try clear c47
 try clear c47b0
 try clear c48
 try clear c48b0
 try clear c48b1
 try clear c49
 try clear c49b0
 try clear c50
 try clear c50b0
 try clear c51
 try clear c51b0
 try clear c51b1
 try clear p53
 try clear q53
 try clear hx53
 try clear qi53
 try clear c54
 try clear c54b0
 try clear c54b1
 try clear p54
 try clear q54
 try clear hx54
 try clear qi54
 try clear c55
 try clear c59
 try clear c59b0
 try clear c59b1
 try clear hx530_0
 try clear hx531_0
 try clear hx532_0
 try clear hx533_0
 try clear hx534_0
 try clear hx535_0
 try clear hx536_0
 try clear hx536_1
 try clear hx536_2
 try clear hx537_0
 try clear hx538_0
 try clear hx538_1
 try clear hx538_2
 try clear hx539_0
 try clear hx540_0
 try clear hx540_1
 try clear hx540_2
 try clear hx541_0
 try clear hx542_0
 try clear hx542_1
 try clear hx542_2
 try clear hx543_0
 try clear hx544_0
 try clear hx544_1
 try clear hx544_2
 try clear hx545_0
 try clear hx545_1
 try clear hx545_2
 try clear hx546_0
 try clear hx547_0
 try clear hx547_1
 try clear hx547_2
 try clear hx548_0
 try clear hx548_1
 try clear hx548_2
 try clear p2
 try clear p5
 try clear p530
 try clear p531
 try clear p532
 try clear p533
 try clear p534
 try clear p535
 try clear p536
 try clear p537
 try clear p538
 try clear p539
 try clear p540
 try clear p541
 try clear p542
 try clear p543
 try clear p544
 try clear p545
 try clear p546
 try clear p547
 try clear p548
 try clear p6
 try clear q5
 try clear q530
 try clear q531
 try clear q532
 try clear q533
 try clear q534
 try clear q535
 try clear q536
 try clear q537
 try clear q538
 try clear q539
 try clear q540
 try clear q541
 try clear q542
 try clear q543
 try clear q544
 try clear q545
 try clear q546
 try clear q547
 try clear q548
 obtain ⟨x18_3, rfl, HA, HK3, HO_5, HO_16, HB⟩ := hrel
 cases gk with
 | zero => exact absurd HA.out (by simp [laws_FnEnsemble.l2])
 | succ k3 =>
  skip
  {
 have H := HA.out
 clear HA
 simp only [laws_FnEnsemble.l2] at H
 by_cases c62 : x18_3 < (t549.length : Int)
 {
 as_aux_lemma =>
 rw [if_pos c62] at H
 have c62b0 : decide (x18_3 < (t549.length : Int)) = true := decide_eq_true c62
 clear c62
 have HC63 := Aside0.mk H
 clear H
 obtain ⟨Ao64, co64, eo64⟩ := Kd.S_slice HO_16.out
 subst eo64
 go_upto_region 29 with (fail)
 repeat (go_quiet (fail); go_upto_region 29 with (fail))
 go_cut [239] (fun v239 wc => ∃ (kq : Nat) (x239_62 : Bool), v239 = .bool x239_62 ∧ Aside0 (laws_FnEnsemble.j5 kq t515 t549 x18_3 x239_62 = some r) ∧ Aside0 (kq ≤ k3) ∧ Aside0 (Kd.R k36 36 wc w.heap.size (fun _ => True) (.slice Ao12 t515.length co12) t515) ∧ Aside0 (Kd.S (Kd.slice 2 (Kd.int .i64)) 34 wc w.heap.size (fun _ => True) (.slice Ao64 t549.length co64) t549) ∧ Aside0 (Below w.heap.size w wc))
 case first =>
  skip
  {
 have H := HC63.out
 clear HC63
 by_cases c65 : 0 ≤ x18_3
 {
 as_aux_lemma =>
 rw [if_pos c65] at H
 have c65b0 : decide (0 ≤ x18_3) = true := decide_eq_true c65
 clear c65
 (first | rw [c65b0] | (simp only [i64_w, i32_w]; rw [c65b0]) | skip)
 by_cases c66 : ((rd_L5 t549 x18_3).length : Int) = 2
 {
 as_aux_lemma =>
 rw [if_pos c66] at H
 have c66b0 : (((rd_L5 t549 x18_3).length : Int) == 2) = true := beq_iff_eq.mpr c66
 have c66b1 : (((rd_L5 t549 x18_3).length : Int) != 2) = false := bne_eq_false_iff_eq.mpr c66
 clear c66
 by_cases c67 : 0 < ((rd_L5 t549 x18_3).length : Int)
 {
 as_aux_lemma =>
 rw [if_pos c67] at H
 have c67b0 : decide (0 < ((rd_L5 t549 x18_3).length : Int)) = true := decide_eq_true c67
 have c67b1 : decide (0 < (rd_L5 t549 x18_3).length) = true := decide_eq_true (by omega)
 clear c67
 by_cases c68 : 1 < ((rd_L5 t549 x18_3).length : Int)
 {
 as_aux_lemma =>
 rw [if_pos c68] at H
 have c68b0 : decide (1 < ((rd_L5 t549 x18_3).length : Int)) = true := decide_eq_true c68
 have c68b1 : decide (1 < (rd_L5 t549 x18_3).length) = true := decide_eq_true (by omega)
 clear c68
 by_cases c69 : (rd (rd_L5 t549 x18_3) 0) ≥ (rd (rd_L5 t549 x18_3) 1)
 {
 as_aux_lemma =>
 rw [if_pos c69] at H
 have c69b0 : decide ((rd (rd_L5 t549 x18_3) 1) ≤ (rd (rd_L5 t549 x18_3) 0)) = true := decide_eq_true c69
 clear c69
 have H' := Aside0.mk H
 clear H
 have p553 : 0 ≤ (x18_3 : Int) := of_decide_eq_true (by first | (with_reducible assumption) | assumption)
 have q553 : x18_3 < (t549.length : Int) := of_decide_eq_true (by first | (with_reducible assumption) | assumption)
 obtain ⟨ad553, A553_0, c553_0, e553, hx553_0, hl553_0, hi553_0⟩ := at_L5 (Kd.S_reads' HO_16.out).2.2 x18_3 p553 q553
 cases e553
 obtain ⟨ce553, hce553, hMe553, hcc553⟩ := Kd.S_get HO_16.out [] x18_3 p553 (by first | exact q553 | exact of_decide_eq_true (by first | (with_reducible assumption) | assumption) | (have e_ := (Kd.S_reads' HO_16.out).1; omega))
 obtain ⟨ve553_0, rfl, ge553_0⟩ := hMe553
 have hv553_0 := hcc553 0 _ rfl
 rw [Nat.add_zero, show ((Kd.slice 2 (Kd.int .i64))).sz = 1 from rfl, Nat.mul_one] at hv553_0
 replace hv553_0 := Option.some.inj (hv553_0.symm.trans hx553_0)
 rw [hv553_0] at ge553_0
 have HL553_0 := Aside0.mk (show Kd.R (Kd.int .i64) 2 _ _ _ _ (rd_L5 t549 x18_3) from ge553_0)
 clear hv553_0 ge553_0
 clear hcc553 hce553
 have HR553_0 := Aside0.mk hi553_0
 have HC553_0 := Aside0.mk hl553_0
 clear hi553_0 hl553_0
 replace p553 := eq_true p553
 replace q553 := eq_true q553
 have p554 : 0 ≤ (x18_3 : Int) := of_decide_eq_true (by first | (with_reducible assumption) | assumption)
 have q554 : x18_3 < (t549.length : Int) := of_decide_eq_true (by first | (with_reducible assumption) | assumption)
 obtain ⟨ad554, A554_0, c554_0, e554, hx554_0, hl554_0, hi554_0⟩ := at_L5 (Kd.S_reads' HO_16.out).2.2 x18_3 p554 q554
 obtain rfl : ad553 = ad554 := (by injection e554)
 obtain ⟨ce554, hce554, hMe554, hcc554⟩ := Kd.S_get HO_16.out [] x18_3 p554 (by first | exact q554 | exact of_decide_eq_true (by first | (with_reducible assumption) | assumption) | (have e_ := (Kd.S_reads' HO_16.out).1; omega))
 obtain ⟨ve554_0, rfl, ge554_0⟩ := hMe554
 have hv554_0 := hcc554 0 _ rfl
 rw [Nat.add_zero, show ((Kd.slice 2 (Kd.int .i64))).sz = 1 from rfl, Nat.mul_one] at hv554_0
 replace hv554_0 := Option.some.inj (hv554_0.symm.trans hx554_0)
 rw [hv554_0] at ge554_0
 have HL554_0 := Aside0.mk (show Kd.R (Kd.int .i64) 2 _ _ _ _ (rd_L5 t549 x18_3) from ge554_0)
 clear hv554_0 ge554_0
 clear hcc554 hce554
 have HR554_0 := Aside0.mk hi554_0
 have HC554_0 := Aside0.mk hl554_0
 clear hi554_0 hl554_0
 replace p554 := eq_true p554
 replace q554 := eq_true q554
 have ea_ := Option.some.inj (hx553_0.symm.trans hx554_0)
 injection ea_ with ea_ en_ ec_
 subst ea_
 subst ec_
 clear en_
 have p555 : 0 ≤ (0 : Int) := (by omega)
 have q555 : 0 < ((rd_L5 t549 x18_3).length : Int) := of_decide_eq_true (by first | (with_reducible assumption) | assumption)
 obtain ⟨ad555, e555, hx555_0⟩ := Kd.at_int (by repeat (first | (with_reducible exact HR554_0.out) | (with_reducible refine Kd.C_alloc ?_ _) | (with_reducible refine Kd.C_drewN ?_ _) | (with_reducible refine Kd.C_drew ?_) | exact HR554_0.out)) 0 p555 q555
 cases e555
 have qi555 : (0 < (rd_L5 t549 x18_3).length) = True := eq_true (by omega)
 (try rw [show ((0 : Int)).toNat = 0 from rfl] at hx555_0)
 (try rw [Addr.add_zero'] at hx555_0)
 replace p555 := eq_true p555
 replace q555 := eq_true q555
 have p556 : 0 ≤ (x18_3 : Int) := of_decide_eq_true (by first | (with_reducible assumption) | assumption)
 have q556 : x18_3 < (t549.length : Int) := of_decide_eq_true (by first | (with_reducible assumption) | assumption)
 obtain ⟨ad556, A556_0, c556_0, e556, hx556_0, hl556_0, hi556_0⟩ := at_L5 (Kd.S_reads' HO_16.out).2.2 x18_3 p556 q556
 obtain rfl : ad553 = ad556 := (by injection e556)
 obtain ⟨ce556, hce556, hMe556, hcc556⟩ := Kd.S_get HO_16.out [] x18_3 p556 (by first | exact q556 | exact of_decide_eq_true (by first | (with_reducible assumption) | assumption) | (have e_ := (Kd.S_reads' HO_16.out).1; omega))
 obtain ⟨ve556_0, rfl, ge556_0⟩ := hMe556
 have hv556_0 := hcc556 0 _ rfl
 rw [Nat.add_zero, show ((Kd.slice 2 (Kd.int .i64))).sz = 1 from rfl, Nat.mul_one] at hv556_0
 replace hv556_0 := Option.some.inj (hv556_0.symm.trans hx556_0)
 rw [hv556_0] at ge556_0
 have HL556_0 := Aside0.mk (show Kd.R (Kd.int .i64) 2 _ _ _ _ (rd_L5 t549 x18_3) from ge556_0)
 clear hv556_0 ge556_0
 clear hcc556 hce556
 have HR556_0 := Aside0.mk hi556_0
 have HC556_0 := Aside0.mk hl556_0
 clear hi556_0 hl556_0
 replace p556 := eq_true p556
 replace q556 := eq_true q556
 have ea_ := Option.some.inj (hx553_0.symm.trans hx556_0)
 injection ea_ with ea_ en_ ec_
 subst ea_
 subst ec_
 clear en_
 have p557 : 0 ≤ (1 : Int) := (by omega)
 have q557 : 1 < ((rd_L5 t549 x18_3).length : Int) := of_decide_eq_true (by first | (with_reducible assumption) | assumption)
 obtain ⟨ad557, e557, hx557_0⟩ := Kd.at_int (by repeat (first | (with_reducible exact HR556_0.out) | (with_reducible refine Kd.C_alloc ?_ _) | (with_reducible refine Kd.C_drewN ?_ _) | (with_reducible refine Kd.C_drew ?_) | exact HR556_0.out)) 1 p557 q557
 cases e557
 (try simp only [show (1 : Int).toNat = 1 from rfl, Nat.reduceMul, Nat.reduceEqDiff, Go.Addr.add, ↓reduceIte] at hx557_0)
 have qi557 : (1 < (rd_L5 t549 x18_3).length) = True := eq_true (by omega)
 (try rw [show ((1 : Int)).toNat = 1 from rfl] at hx557_0)
 replace p557 := eq_true p557
 replace q557 := eq_true q557
 go_wp2
 repeat (go_quiet (fail); try go_wp2)
 go_meet
 case rel => exact ⟨_, (true), (by first | rfl | (simp; done) | (simp [*]; done)), H', ⟨by have := HJ8.out; have := HK2.out; have := HK3.out; first | omega | exact Nat.le_refl _⟩, ⟨by (with_reducible repeat (first | apply Kd.R_alloc | apply Kd.R_drewN | apply Kd.R_drew)); exact HO_5.out⟩, ⟨by (with_reducible repeat (first | apply Kd.S_alloc | apply Kd.S_drewN | apply Kd.S_drew)); exact HO_16.out⟩, ⟨by repeat (first | (with_reducible first | exact HB.out | apply below_alloc | apply pw_below_drewN | apply below_drew1) | exact HB.out)⟩⟩
 }
 {
 as_aux_lemma =>
 rw [if_neg c69] at H
 have c69b0 : decide ((rd (rd_L5 t549 x18_3) 1) ≤ (rd (rd_L5 t549 x18_3) 0)) = false := decide_eq_false c69
 clear c69
 by_cases c70 : (rd (rd_L5 t549 x18_3) 0) < 0
 {
 as_aux_lemma =>
 rw [if_pos c70] at H
 have c70b0 : decide ((rd (rd_L5 t549 x18_3) 0) < 0) = true := decide_eq_true c70
 clear c70
 have H' := Aside0.mk H
 clear H
 have p553 : 0 ≤ (x18_3 : Int) := of_decide_eq_true (by first | (with_reducible assumption) | assumption)
 have q553 : x18_3 < (t549.length : Int) := of_decide_eq_true (by first | (with_reducible assumption) | assumption)
 obtain ⟨ad553, A553_0, c553_0, e553, hx553_0, hl553_0, hi553_0⟩ := at_L5 (Kd.S_reads' HO_16.out).2.2 x18_3 p553 q553
 cases e553
 obtain ⟨ce553, hce553, hMe553, hcc553⟩ := Kd.S_get HO_16.out [] x18_3 p553 (by first | exact q553 | exact of_decide_eq_true (by first | (with_reducible assumption) | assumption) | (have e_ := (Kd.S_reads' HO_16.out).1; omega))
 obtain ⟨ve553_0, rfl, ge553_0⟩ := hMe553
 have hv553_0 := hcc553 0 _ rfl
 rw [Nat.add_zero, show ((Kd.slice 2 (Kd.int .i64))).sz = 1 from rfl, Nat.mul_one] at hv553_0
 replace hv553_0 := Option.some.inj (hv553_0.symm.trans hx553_0)
 rw [hv553_0] at ge553_0
 have HL553_0 := Aside0.mk (show Kd.R (Kd.int .i64) 2 _ _ _ _ (rd_L5 t549 x18_3) from ge553_0)
 clear hv553_0 ge553_0
 clear hcc553 hce553
 have HR553_0 := Aside0.mk hi553_0
 have HC553_0 := Aside0.mk hl553_0
 clear hi553_0 hl553_0
 replace p553 := eq_true p553
 replace q553 := eq_true q553
 have p554 : 0 ≤ (x18_3 : Int) := of_decide_eq_true (by first | (with_reducible assumption) | assumption)
 have q554 : x18_3 < (t549.length : Int) := of_decide_eq_true (by first | (with_reducible assumption) | assumption)
 obtain ⟨ad554, A554_0, c554_0, e554, hx554_0, hl554_0, hi554_0⟩ := at_L5 (Kd.S_reads' HO_16.out).2.2 x18_3 p554 q554
 obtain rfl : ad553 = ad554 := (by injection e554)
 obtain ⟨ce554, hce554, hMe554, hcc554⟩ := Kd.S_get HO_16.out [] x18_3 p554 (by first | exact q554 | exact of_decide_eq_true (by first | (with_reducible assumption) | assumption) | (have e_ := (Kd.S_reads' HO_16.out).1; omega))
 obtain ⟨ve554_0, rfl, ge554_0⟩ := hMe554
 have hv554_0 := hcc554 0 _ rfl
 rw [Nat.add_zero, show ((Kd.slice 2 (Kd.int .i64))).sz = 1 from rfl, Nat.mul_one] at hv554_0
 replace hv554_0 := Option.some.inj (hv554_0.symm.trans hx554_0)
 rw [hv554_0] at ge554_0
 have HL554_0 := Aside0.mk (show Kd.R (Kd.int .i64) 2 _ _ _ _ (rd_L5 t549 x18_3) from ge554_0)
 clear hv554_0 ge554_0
 clear hcc554 hce554
 have HR554_0 := Aside0.mk hi554_0
 have HC554_0 := Aside0.mk hl554_0
 clear hi554_0 hl554_0
 replace p554 := eq_true p554
 replace q554 := eq_true q554
 have ea_ := Option.some.inj (hx553_0.symm.trans hx554_0)
 injection ea_ with ea_ en_ ec_
 subst ea_
 subst ec_
 clear en_
 have p555 : 0 ≤ (0 : Int) := (by omega)
 have q555 : 0 < ((rd_L5 t549 x18_3).length : Int) := of_decide_eq_true (by first | (with_reducible assumption) | assumption)
 obtain ⟨ad555, e555, hx555_0⟩ := Kd.at_int (by repeat (first | (with_reducible exact HR554_0.out) | (with_reducible refine Kd.C_alloc ?_ _) | (with_reducible refine Kd.C_drewN ?_ _) | (with_reducible refine Kd.C_drew ?_) | exact HR554_0.out)) 0 p555 q555
 cases e555
 have qi555 : (0 < (rd_L5 t549 x18_3).length) = True := eq_true (by omega)
 (try rw [show ((0 : Int)).toNat = 0 from rfl] at hx555_0)
 (try rw [Addr.add_zero'] at hx555_0)
 replace p555 := eq_true p555
 replace q555 := eq_true q555
 have p556 : 0 ≤ (x18_3 : Int) := of_decide_eq_true (by first | (with_reducible assumption) | assumption)
 have q556 : x18_3 < (t549.length : Int) := of_decide_eq_true (by first | (with_reducible assumption) | assumption)
 obtain ⟨ad556, A556_0, c556_0, e556, hx556_0, hl556_0, hi556_0⟩ := at_L5 (Kd.S_reads' HO_16.out).2.2 x18_3 p556 q556
 obtain rfl : ad553 = ad556 := (by injection e556)
 obtain ⟨ce556, hce556, hMe556, hcc556⟩ := Kd.S_get HO_16.out [] x18_3 p556 (by first | exact q556 | exact of_decide_eq_true (by first | (with_reducible assumption) | assumption) | (have e_ := (Kd.S_reads' HO_16.out).1; omega))
 obtain ⟨ve556_0, rfl, ge556_0⟩ := hMe556
 have hv556_0 := hcc556 0 _ rfl
 rw [Nat.add_zero, show ((Kd.slice 2 (Kd.int .i64))).sz = 1 from rfl, Nat.mul_one] at hv556_0
 replace hv556_0 := Option.some.inj (hv556_0.symm.trans hx556_0)
 rw [hv556_0] at ge556_0
 have HL556_0 := Aside0.mk (show Kd.R (Kd.int .i64) 2 _ _ _ _ (rd_L5 t549 x18_3) from ge556_0)
 clear hv556_0 ge556_0
 clear hcc556 hce556
 have HR556_0 := Aside0.mk hi556_0
 have HC556_0 := Aside0.mk hl556_0
 clear hi556_0 hl556_0
 replace p556 := eq_true p556
 replace q556 := eq_true q556
 have ea_ := Option.some.inj (hx553_0.symm.trans hx556_0)
 injection ea_ with ea_ en_ ec_
 subst ea_
 subst ec_
 clear en_
 have p557 : 0 ≤ (1 : Int) := (by omega)
 have q557 : 1 < ((rd_L5 t549 x18_3).length : Int) := of_decide_eq_true (by first | (with_reducible assumption) | assumption)
 obtain ⟨ad557, e557, hx557_0⟩ := Kd.at_int (by repeat (first | (with_reducible exact HR556_0.out) | (with_reducible refine Kd.C_alloc ?_ _) | (with_reducible refine Kd.C_drewN ?_ _) | (with_reducible refine Kd.C_drew ?_) | exact HR556_0.out)) 1 p557 q557
 cases e557
 (try simp only [show (1 : Int).toNat = 1 from rfl, Nat.reduceMul, Nat.reduceEqDiff, Go.Addr.add, ↓reduceIte] at hx557_0)
 have qi557 : (1 < (rd_L5 t549 x18_3).length) = True := eq_true (by omega)
 (try rw [show ((1 : Int)).toNat = 1 from rfl] at hx557_0)
 replace p557 := eq_true p557
 replace q557 := eq_true q557
 have p558 : 0 ≤ (x18_3 : Int) := of_decide_eq_true (by first | (with_reducible assumption) | assumption)
 have q558 : x18_3 < (t549.length : Int) := of_decide_eq_true (by first | (with_reducible assumption) | assumption)
 obtain ⟨ad558, A558_0, c558_0, e558, hx558_0, hl558_0, hi558_0⟩ := at_L5 (Kd.S_reads' HO_16.out).2.2 x18_3 p558 q558
 obtain rfl : ad553 = ad558 := (by injection e558)
 obtain ⟨ce558, hce558, hMe558, hcc558⟩ := Kd.S_get HO_16.out [] x18_3 p558 (by first | exact q558 | exact of_decide_eq_true (by first | (with_reducible assumption) | assumption) | (have e_ := (Kd.S_reads' HO_16.out).1; omega))
 obtain ⟨ve558_0, rfl, ge558_0⟩ := hMe558
 have hv558_0 := hcc558 0 _ rfl
 rw [Nat.add_zero, show ((Kd.slice 2 (Kd.int .i64))).sz = 1 from rfl, Nat.mul_one] at hv558_0
 replace hv558_0 := Option.some.inj (hv558_0.symm.trans hx558_0)
 rw [hv558_0] at ge558_0
 have HL558_0 := Aside0.mk (show Kd.R (Kd.int .i64) 2 _ _ _ _ (rd_L5 t549 x18_3) from ge558_0)
 clear hv558_0 ge558_0
 clear hcc558 hce558
 have HR558_0 := Aside0.mk hi558_0
 have HC558_0 := Aside0.mk hl558_0
 clear hi558_0 hl558_0
 replace p558 := eq_true p558
 replace q558 := eq_true q558
 have ea_ := Option.some.inj (hx553_0.symm.trans hx558_0)
 injection ea_ with ea_ en_ ec_
 subst ea_
 subst ec_
 clear en_
 have p559 : 0 ≤ (0 : Int) := (by omega)
 have q559 : 0 < ((rd_L5 t549 x18_3).length : Int) := of_decide_eq_true (by first | (with_reducible assumption) | assumption)
 obtain ⟨ad559, e559, hx559_0⟩ := Kd.at_int (by repeat (first | (with_reducible exact HR558_0.out) | (with_reducible refine Kd.C_alloc ?_ _) | (with_reducible refine Kd.C_drewN ?_ _) | (with_reducible refine Kd.C_drew ?_) | exact HR558_0.out)) 0 p559 q559
 cases e559
 have qi559 : (0 < (rd_L5 t549 x18_3).length) = True := eq_true (by omega)
 (try rw [show ((0 : Int)).toNat = 0 from rfl] at hx559_0)
 (try rw [Addr.add_zero'] at hx559_0)
 replace p559 := eq_true p559
 replace q559 := eq_true q559
 go_wp2
 repeat (go_quiet (fail); try go_wp2)
 go_meet
 case rel => exact ⟨_, (true), (by first | rfl | (simp; done) | (simp [*]; done)), H', ⟨by have := HJ8.out; have := HK2.out; have := HK3.out; first | omega | exact Nat.le_refl _⟩, ⟨by (with_reducible repeat (first | apply Kd.R_alloc | apply Kd.R_drewN | apply Kd.R_drew)); exact HO_5.out⟩, ⟨by (with_reducible repeat (first | apply Kd.S_alloc | apply Kd.S_drewN | apply Kd.S_drew)); exact HO_16.out⟩, ⟨by repeat (first | (with_reducible first | exact HB.out | apply below_alloc | apply pw_below_drewN | apply below_drew1) | exact HB.out)⟩⟩
 }
 {
 as_aux_lemma =>
 rw [if_neg c70] at H
 have c70b0 : decide ((rd (rd_L5 t549 x18_3) 0) < 0) = false := decide_eq_false c70
 clear c70
 have H' := Aside0.mk H
 clear H
 have p553 : 0 ≤ (x18_3 : Int) := of_decide_eq_true (by first | (with_reducible assumption) | assumption)
 have q553 : x18_3 < (t549.length : Int) := of_decide_eq_true (by first | (with_reducible assumption) | assumption)
 obtain ⟨ad553, A553_0, c553_0, e553, hx553_0, hl553_0, hi553_0⟩ := at_L5 (Kd.S_reads' HO_16.out).2.2 x18_3 p553 q553
 cases e553
 obtain ⟨ce553, hce553, hMe553, hcc553⟩ := Kd.S_get HO_16.out [] x18_3 p553 (by first | exact q553 | exact of_decide_eq_true (by first | (with_reducible assumption) | assumption) | (have e_ := (Kd.S_reads' HO_16.out).1; omega))
 obtain ⟨ve553_0, rfl, ge553_0⟩ := hMe553
 have hv553_0 := hcc553 0 _ rfl
 rw [Nat.add_zero, show ((Kd.slice 2 (Kd.int .i64))).sz = 1 from rfl, Nat.mul_one] at hv553_0
 replace hv553_0 := Option.some.inj (hv553_0.symm.trans hx553_0)
 rw [hv553_0] at ge553_0
 have HL553_0 := Aside0.mk (show Kd.R (Kd.int .i64) 2 _ _ _ _ (rd_L5 t549 x18_3) from ge553_0)
 clear hv553_0 ge553_0
 clear hcc553 hce553
 have HR553_0 := Aside0.mk hi553_0
 have HC553_0 := Aside0.mk hl553_0
 clear hi553_0 hl553_0
 replace p553 := eq_true p553
 replace q553 := eq_true q553
 have p554 : 0 ≤ (x18_3 : Int) := of_decide_eq_true (by first | (with_reducible assumption) | assumption)
 have q554 : x18_3 < (t549.length : Int) := of_decide_eq_true (by first | (with_reducible assumption) | assumption)
 obtain ⟨ad554, A554_0, c554_0, e554, hx554_0, hl554_0, hi554_0⟩ := at_L5 (Kd.S_reads' HO_16.out).2.2 x18_3 p554 q554
 obtain rfl : ad553 = ad554 := (by injection e554)
 obtain ⟨ce554, hce554, hMe554, hcc554⟩ := Kd.S_get HO_16.out [] x18_3 p554 (by first | exact q554 | exact of_decide_eq_true (by first | (with_reducible assumption) | assumption) | (have e_ := (Kd.S_reads' HO_16.out).1; omega))
 obtain ⟨ve554_0, rfl, ge554_0⟩ := hMe554
 have hv554_0 := hcc554 0 _ rfl
 rw [Nat.add_zero, show ((Kd.slice 2 (Kd.int .i64))).sz = 1 from rfl, Nat.mul_one] at hv554_0
 replace hv554_0 := Option.some.inj (hv554_0.symm.trans hx554_0)
 rw [hv554_0] at ge554_0
 have HL554_0 := Aside0.mk (show Kd.R (Kd.int .i64) 2 _ _ _ _ (rd_L5 t549 x18_3) from ge554_0)
 clear hv554_0 ge554_0
 clear hcc554 hce554
 have HR554_0 := Aside0.mk hi554_0
 have HC554_0 := Aside0.mk hl554_0
 clear hi554_0 hl554_0
 replace p554 := eq_true p554
 replace q554 := eq_true q554
 have ea_ := Option.some.inj (hx553_0.symm.trans hx554_0)
 injection ea_ with ea_ en_ ec_
 subst ea_
 subst ec_
 clear en_
 have p555 : 0 ≤ (0 : Int) := (by omega)
 have q555 : 0 < ((rd_L5 t549 x18_3).length : Int) := of_decide_eq_true (by first | (with_reducible assumption) | assumption)
 obtain ⟨ad555, e555, hx555_0⟩ := Kd.at_int (by repeat (first | (with_reducible exact HR554_0.out) | (with_reducible refine Kd.C_alloc ?_ _) | (with_reducible refine Kd.C_drewN ?_ _) | (with_reducible refine Kd.C_drew ?_) | exact HR554_0.out)) 0 p555 q555
 cases e555
 have qi555 : (0 < (rd_L5 t549 x18_3).length) = True := eq_true (by omega)
 (try rw [show ((0 : Int)).toNat = 0 from rfl] at hx555_0)
 (try rw [Addr.add_zero'] at hx555_0)
 replace p555 := eq_true p555
 replace q555 := eq_true q555
 have p556 : 0 ≤ (x18_3 : Int) := of_decide_eq_true (by first | (with_reducible assumption) | assumption)
 have q556 : x18_3 < (t549.length : Int) := of_decide_eq_true (by first | (with_reducible assumption) | assumption)
 obtain ⟨ad556, A556_0, c556_0, e556, hx556_0, hl556_0, hi556_0⟩ := at_L5 (Kd.S_reads' HO_16.out).2.2 x18_3 p556 q556
 obtain rfl : ad553 = ad556 := (by injection e556)
 obtain ⟨ce556, hce556, hMe556, hcc556⟩ := Kd.S_get HO_16.out [] x18_3 p556 (by first | exact q556 | exact of_decide_eq_true (by first | (with_reducible assumption) | assumption) | (have e_ := (Kd.S_reads' HO_16.out).1; omega))
 obtain ⟨ve556_0, rfl, ge556_0⟩ := hMe556
 have hv556_0 := hcc556 0 _ rfl
 rw [Nat.add_zero, show ((Kd.slice 2 (Kd.int .i64))).sz = 1 from rfl, Nat.mul_one] at hv556_0
 replace hv556_0 := Option.some.inj (hv556_0.symm.trans hx556_0)
 rw [hv556_0] at ge556_0
 have HL556_0 := Aside0.mk (show Kd.R (Kd.int .i64) 2 _ _ _ _ (rd_L5 t549 x18_3) from ge556_0)
 clear hv556_0 ge556_0
 clear hcc556 hce556
 have HR556_0 := Aside0.mk hi556_0
 have HC556_0 := Aside0.mk hl556_0
 clear hi556_0 hl556_0
 replace p556 := eq_true p556
 replace q556 := eq_true q556
 have ea_ := Option.some.inj (hx553_0.symm.trans hx556_0)
 injection ea_ with ea_ en_ ec_
 subst ea_
 subst ec_
 clear en_
 have p557 : 0 ≤ (1 : Int) := (by omega)
 have q557 : 1 < ((rd_L5 t549 x18_3).length : Int) := of_decide_eq_true (by first | (with_reducible assumption) | assumption)
 obtain ⟨ad557, e557, hx557_0⟩ := Kd.at_int (by repeat (first | (with_reducible exact HR556_0.out) | (with_reducible refine Kd.C_alloc ?_ _) | (with_reducible refine Kd.C_drewN ?_ _) | (with_reducible refine Kd.C_drew ?_) | exact HR556_0.out)) 1 p557 q557
 cases e557
 (try simp only [show (1 : Int).toNat = 1 from rfl, Nat.reduceMul, Nat.reduceEqDiff, Go.Addr.add, ↓reduceIte] at hx557_0)
 have qi557 : (1 < (rd_L5 t549 x18_3).length) = True := eq_true (by omega)
 (try rw [show ((1 : Int)).toNat = 1 from rfl] at hx557_0)
 replace p557 := eq_true p557
 replace q557 := eq_true q557
 have p558 : 0 ≤ (x18_3 : Int) := of_decide_eq_true (by first | (with_reducible assumption) | assumption)
 have q558 : x18_3 < (t549.length : Int) := of_decide_eq_true (by first | (with_reducible assumption) | assumption)
 obtain ⟨ad558, A558_0, c558_0, e558, hx558_0, hl558_0, hi558_0⟩ := at_L5 (Kd.S_reads' HO_16.out).2.2 x18_3 p558 q558
 obtain rfl : ad553 = ad558 := (by injection e558)
 obtain ⟨ce558, hce558, hMe558, hcc558⟩ := Kd.S_get HO_16.out [] x18_3 p558 (by first | exact q558 | exact of_decide_eq_true (by first | (with_reducible assumption) | assumption) | (have e_ := (Kd.S_reads' HO_16.out).1; omega))
 obtain ⟨ve558_0, rfl, ge558_0⟩ := hMe558
 have hv558_0 := hcc558 0 _ rfl
 rw [Nat.add_zero, show ((Kd.slice 2 (Kd.int .i64))).sz = 1 from rfl, Nat.mul_one] at hv558_0
 replace hv558_0 := Option.some.inj (hv558_0.symm.trans hx558_0)
 rw [hv558_0] at ge558_0
 have HL558_0 := Aside0.mk (show Kd.R (Kd.int .i64) 2 _ _ _ _ (rd_L5 t549 x18_3) from ge558_0)
 clear hv558_0 ge558_0
 clear hcc558 hce558
 have HR558_0 := Aside0.mk hi558_0
 have HC558_0 := Aside0.mk hl558_0
 clear hi558_0 hl558_0
 replace p558 := eq_true p558
 replace q558 := eq_true q558
 have ea_ := Option.some.inj (hx553_0.symm.trans hx558_0)
 injection ea_ with ea_ en_ ec_
 subst ea_
 subst ec_
 clear en_
 have p559 : 0 ≤ (0 : Int) := (by omega)
 have q559 : 0 < ((rd_L5 t549 x18_3).length : Int) := of_decide_eq_true (by first | (with_reducible assumption) | assumption)
 obtain ⟨ad559, e559, hx559_0⟩ := Kd.at_int (by repeat (first | (with_reducible exact HR558_0.out) | (with_reducible refine Kd.C_alloc ?_ _) | (with_reducible refine Kd.C_drewN ?_ _) | (with_reducible refine Kd.C_drew ?_) | exact HR558_0.out)) 0 p559 q559
 cases e559
 have qi559 : (0 < (rd_L5 t549 x18_3).length) = True := eq_true (by omega)
 (try rw [show ((0 : Int)).toNat = 0 from rfl] at hx559_0)
 (try rw [Addr.add_zero'] at hx559_0)
 replace p559 := eq_true p559
 replace q559 := eq_true q559
 have p560 : 0 ≤ (x18_3 : Int) := of_decide_eq_true (by first | (with_reducible assumption) | assumption)
 have q560 : x18_3 < (t549.length : Int) := of_decide_eq_true (by first | (with_reducible assumption) | assumption)
 obtain ⟨ad560, A560_0, c560_0, e560, hx560_0, hl560_0, hi560_0⟩ := at_L5 (Kd.S_reads' HO_16.out).2.2 x18_3 p560 q560
 obtain rfl : ad553 = ad560 := (by injection e560)
 obtain ⟨ce560, hce560, hMe560, hcc560⟩ := Kd.S_get HO_16.out [] x18_3 p560 (by first | exact q560 | exact of_decide_eq_true (by first | (with_reducible assumption) | assumption) | (have e_ := (Kd.S_reads' HO_16.out).1; omega))
 obtain ⟨ve560_0, rfl, ge560_0⟩ := hMe560
 have hv560_0 := hcc560 0 _ rfl
 rw [Nat.add_zero, show ((Kd.slice 2 (Kd.int .i64))).sz = 1 from rfl, Nat.mul_one] at hv560_0
 replace hv560_0 := Option.some.inj (hv560_0.symm.trans hx560_0)
 rw [hv560_0] at ge560_0
 have HL560_0 := Aside0.mk (show Kd.R (Kd.int .i64) 2 _ _ _ _ (rd_L5 t549 x18_3) from ge560_0)
 clear hv560_0 ge560_0
 clear hcc560 hce560
 have HR560_0 := Aside0.mk hi560_0
 have HC560_0 := Aside0.mk hl560_0
 clear hi560_0 hl560_0
 replace p560 := eq_true p560
 replace q560 := eq_true q560
 have ea_ := Option.some.inj (hx553_0.symm.trans hx560_0)
 injection ea_ with ea_ en_ ec_
 subst ea_
 subst ec_
 clear en_
 have p561 : 0 ≤ (1 : Int) := (by omega)
 have q561 : 1 < ((rd_L5 t549 x18_3).length : Int) := of_decide_eq_true (by first | (with_reducible assumption) | assumption)
 obtain ⟨ad561, e561, hx561_0⟩ := Kd.at_int (by repeat (first | (with_reducible exact HR560_0.out) | (with_reducible refine Kd.C_alloc ?_ _) | (with_reducible refine Kd.C_drewN ?_ _) | (with_reducible refine Kd.C_drew ?_) | exact HR560_0.out)) 1 p561 q561
 cases e561
 (try simp only [show (1 : Int).toNat = 1 from rfl, Nat.reduceMul, Nat.reduceEqDiff, Go.Addr.add, ↓reduceIte] at hx561_0)
 have qi561 : (1 < (rd_L5 t549 x18_3).length) = True := eq_true (by omega)
 (try rw [show ((1 : Int)).toNat = 1 from rfl] at hx561_0)
 replace p561 := eq_true p561
 replace q561 := eq_true q561
 go_wp2
 repeat (go_quiet (fail); try go_wp2)
 go_meet
 case rel => exact ⟨_, (decide ((rd (rd_L5 t549 x18_3) 1) > 200)), (by first | rfl | (simp; done) | (simp [*]; done)), H', ⟨by have := HJ8.out; have := HK2.out; have := HK3.out; first | omega | exact Nat.le_refl _⟩, ⟨by (with_reducible repeat (first | apply Kd.R_alloc | apply Kd.R_drewN | apply Kd.R_drew)); exact HO_5.out⟩, ⟨by (with_reducible repeat (first | apply Kd.S_alloc | apply Kd.S_drewN | apply Kd.S_drew)); exact HO_16.out⟩, ⟨by repeat (first | (with_reducible first | exact HB.out | apply below_alloc | apply pw_below_drewN | apply below_drew1) | exact HB.out)⟩⟩
 }
 }
 }
 {
 rw [if_neg c68] at H
 exact absurd H (by simp)
 }
 }
 {
 rw [if_neg c67] at H
 exact absurd H (by simp)
 }
 }
 {
 rw [if_neg c66] at H
 have c66b0 : (((rd_L5 t549 x18_3).length : Int) == 2) = false := beq_eq_false_iff_ne.mpr c66
 have c66b1 : (((rd_L5 t549 x18_3).length : Int) != 2) = true := bne_iff_ne.mpr c66
 have H' := Aside0.mk H
 clear H
 have p553 : 0 ≤ (x18_3 : Int) := of_decide_eq_true (by first | (with_reducible assumption) | assumption)
 have q553 : x18_3 < (t549.length : Int) := of_decide_eq_true (by first | (with_reducible assumption) | assumption)
 obtain ⟨ad553, A553_0, c553_0, e553, hx553_0, hl553_0, hi553_0⟩ := at_L5 (Kd.S_reads' HO_16.out).2.2 x18_3 p553 q553
 cases e553
 obtain ⟨ce553, hce553, hMe553, hcc553⟩ := Kd.S_get HO_16.out [] x18_3 p553 (by first | exact q553 | exact of_decide_eq_true (by first | (with_reducible assumption) | assumption) | (have e_ := (Kd.S_reads' HO_16.out).1; omega))
 obtain ⟨ve553_0, rfl, ge553_0⟩ := hMe553
 have hv553_0 := hcc553 0 _ rfl
 rw [Nat.add_zero, show ((Kd.slice 2 (Kd.int .i64))).sz = 1 from rfl, Nat.mul_one] at hv553_0
 replace hv553_0 := Option.some.inj (hv553_0.symm.trans hx553_0)
 rw [hv553_0] at ge553_0
 have HL553_0 := Aside0.mk (show Kd.R (Kd.int .i64) 2 _ _ _ _ (rd_L5 t549 x18_3) from ge553_0)
 clear hv553_0 ge553_0
 clear hcc553 hce553
 have HR553_0 := Aside0.mk hi553_0
 have HC553_0 := Aside0.mk hl553_0
 clear hi553_0 hl553_0
 replace p553 := eq_true p553
 replace q553 := eq_true q553
 go_wp2
 repeat (go_quiet (fail); try go_wp2)
 go_meet
 case rel => exact ⟨_, (true), (by first | rfl | (simp; done) | (simp [*]; done)), H', ⟨by have := HJ8.out; have := HK2.out; have := HK3.out; first | omega | exact Nat.le_refl _⟩, ⟨by (with_reducible repeat (first | apply Kd.R_alloc | apply Kd.R_drewN | apply Kd.R_drew)); exact HO_5.out⟩, ⟨by (with_reducible repeat (first | apply Kd.S_alloc | apply Kd.S_drewN | apply Kd.S_drew)); exact HO_16.out⟩, ⟨by repeat (first | (with_reducible first | exact HB.out | apply below_alloc | apply pw_below_drewN | apply below_drew1) | exact HB.out)⟩⟩
 }
 }
 {
 rw [if_neg c65] at H
 exact absurd H (by simp)
 }
  }
 case rest =>
  skip
  {
 as_aux_lemma =>
 clear HC63
 try clear c2
 try clear p2
 try clear c3
 try clear c4
 try clear c5
 try clear p5
 try clear q5
 try clear hx5
 try clear qi5
 try clear c6
 try clear p6
 try clear c7
 try clear c22
 try clear c22b0
 try clear c23
 try clear c23b0
 try clear c26
 try clear c26b0
 try clear c26b1
 try clear c27
 try clear c27b0
 try clear c27b1
 try clear c28
 try clear c28b0
 try clear c29
 try clear c29b0
 try clear c30
 try clear c30b0
 try clear c30b1
 try clear c31
 try clear c31b0
 try clear c32
 try clear c32b0
 try clear c33
 try clear c33b0
 try clear c34
 try clear c34b0
 try clear c35
 try clear c35b0
 try clear c36
 try clear c36b0
 try clear c37
 try clear c38
 try clear c38b0
 try clear c38b1
 try clear c39
 try clear c39b0
 try clear c40
 try clear c40b0
 try clear c41
 try clear c41b0
 try clear c41b1
 try clear c42
 try clear c42b0
 try clear c43
 try clear c43b0
 try clear c44
 try clear c44b0
 try clear c45
 try clear c47
 try clear c47b0
 try clear c48
 try clear c48b0
 try clear c48b1
 try clear c49
 try clear c49b0
 try clear c50
 try clear c50b0
 try clear c51
 try clear c51b0
 try clear c51b1
 try clear p53
 try clear q53
 try clear hx53
 try clear qi53
 try clear c54
 try clear c54b0
 try clear c54b1
 try clear p54
 try clear q54
 try clear hx54
 try clear qi54
 try clear c55
 try clear p55
 try clear q55
 try clear hx55
 try clear qi55
 try clear c56
 try clear p56
 try clear q56
 try clear hx56
 try clear qi56
 try clear c59
 try clear c59b0
 try clear c59b1
 try clear c62
 try clear c62b0
 try clear c65
 try clear c65b0
 try clear c66
 try clear c66b0
 try clear c66b1
 try clear c67
 try clear c67b0
 try clear c67b1
 try clear c68
 try clear c68b0
 try clear c68b1
 try clear c69
 try clear c69b0
 try clear c70
 try clear c70b0
 try clear hx530_0
 try clear hx531_0
 try clear hx532_0
 try clear hx533_0
 try clear hx534_0
 try clear hx535_0
 try clear hx536_0
 try clear hx536_1
 try clear hx536_2
 try clear hx537_0
 try clear hx538_0
 try clear hx538_1
 try clear hx538_2
 try clear hx539_0
 try clear hx540_0
 try clear hx540_1
 try clear hx540_2
 try clear hx541_0
 try clear hx542_0
 try clear hx542_1
 try clear hx542_2
 try clear hx543_0
 try clear hx544_0
 try clear hx544_1
 try clear hx544_2
 try clear hx545_0
 try clear hx545_1
 try clear hx545_2
 try clear hx546_0
 try clear hx547_0
 try clear hx547_1
 try clear hx547_2
 try clear hx548_0
 try clear hx548_1
 try clear hx548_2
 try clear hx553_0
 try clear hx554_0
 try clear hx555_0
 try clear hx556_0
 try clear hx557_0
 try clear hx558_0
 try clear hx559_0
 try clear hx560_0
 try clear hx561_0
 try clear p2
 try clear p5
 try clear p53
 try clear p530
 try clear p531
 try clear p532
 try clear p533
 try clear p534
 try clear p535
 try clear p536
 try clear p537
 try clear p538
 try clear p539
 try clear p54
 try clear p540
 try clear p541
 try clear p542
 try clear p543
 try clear p544
 try clear p545
 try clear p546
 try clear p547
 try clear p548
 try clear p553
 try clear p554
 try clear p555
 try clear p556
 try clear p557
 try clear p558
 try clear p559
 try clear p560
 try clear p561
 try clear p6
 try clear q5
 try clear q53
 try clear q530
 try clear q531
 try clear q532
 try clear q533
 try clear q534
 try clear q535
 try clear q536
 try clear q537
 try clear q538
 try clear q539
 try clear q54
 try clear q540
 try clear q541
 try clear q542
 try clear q543
 try clear q544
 try clear q545
 try clear q546
 try clear q547
 try clear q548
 try clear q553
 try clear q554
 try clear q555
 try clear q556
 try clear q557
 try clear q558
 try clear q559
 try clear q560
 try clear q561
 obtain ⟨kq, x239_62, rfl, HA, HJ62, HO_5, HO_16, HB⟩ := hcut
 cases kq with
 | zero => exact absurd HA.out (by simp [laws_FnEnsemble.j5])
 | succ kj62 =>
  skip
  {
 have H := HA.out
 clear HA
 simp only [laws_FnEnsemble.j5] at H
 by_cases c71 : x239_62 = true
 {
 subst c71
 have H1 : (none) = some r := by rw [if_pos rfl] at H; exact H
 clear H
 have H := H1
 clear H1
 exact absurd H (by simp)
 }
 {
 replace c71 := Bool.eq_false_iff.mpr c71
 subst c71
 have H1 : (if 0 ≤ x18_3 then (if x18_3 < (t549.length : Int) then (if 0 < ((rd_L5 t549 x18_3).length : Int) then (laws_FnEnsemble.l3 kj62 t515 t549 x18_3 (rd (rd_L5 t549 x18_3) 0)) else (none)) else (none)) else (none)) = some r := by rw [if_neg (show ¬ (false = true) by decide)] at H; exact H
 clear H
 have H := H1
 clear H1
 by_cases c72 : 0 ≤ x18_3
 {
 as_aux_lemma =>
 rw [if_pos c72] at H
 have c72b0 : decide (0 ≤ x18_3) = true := decide_eq_true c72
 clear c72
 by_cases c73 : x18_3 < (t549.length : Int)
 {
 as_aux_lemma =>
 rw [if_pos c73] at H
 have c73b0 : decide (x18_3 < (t549.length : Int)) = true := decide_eq_true c73
 clear c73
 by_cases c74 : 0 < ((rd_L5 t549 x18_3).length : Int)
 {
 as_aux_lemma =>
 rw [if_pos c74] at H
 have c74b0 : decide (0 < ((rd_L5 t549 x18_3).length : Int)) = true := decide_eq_true c74
 have c74b1 : decide (0 < (rd_L5 t549 x18_3).length) = true := decide_eq_true (by omega)
 clear c74
 have H' := Aside0.mk H
 clear H
 have p562 : 0 ≤ (x18_3 : Int) := of_decide_eq_true (by first | (with_reducible assumption) | assumption)
 have q562 : x18_3 < (t549.length : Int) := of_decide_eq_true (by first | (with_reducible assumption) | assumption)
 obtain ⟨ad562, A562_0, c562_0, e562, hx562_0, hl562_0, hi562_0⟩ := at_L5 (Kd.S_reads' HO_16.out).2.2 x18_3 p562 q562
 cases e562
 obtain ⟨ce562, hce562, hMe562, hcc562⟩ := Kd.S_get HO_16.out [] x18_3 p562 (by first | exact q562 | exact of_decide_eq_true (by first | (with_reducible assumption) | assumption) | (have e_ := (Kd.S_reads' HO_16.out).1; omega))
 obtain ⟨ve562_0, rfl, ge562_0⟩ := hMe562
 have hv562_0 := hcc562 0 _ rfl
 rw [Nat.add_zero, show ((Kd.slice 2 (Kd.int .i64))).sz = 1 from rfl, Nat.mul_one] at hv562_0
 replace hv562_0 := Option.some.inj (hv562_0.symm.trans hx562_0)
 rw [hv562_0] at ge562_0
 have HL562_0 := Aside0.mk (show Kd.R (Kd.int .i64) 2 _ _ _ _ (rd_L5 t549 x18_3) from ge562_0)
 clear hv562_0 ge562_0
 clear hcc562 hce562
 have HR562_0 := Aside0.mk hi562_0
 have HC562_0 := Aside0.mk hl562_0
 clear hi562_0 hl562_0
 replace p562 := eq_true p562
 replace q562 := eq_true q562
 have p563 : 0 ≤ (0 : Int) := (by omega)
 have q563 : 0 < ((rd_L5 t549 x18_3).length : Int) := of_decide_eq_true (by first | (with_reducible assumption) | assumption)
 obtain ⟨ad563, e563, hx563_0⟩ := Kd.at_int (by repeat (first | (with_reducible exact HR562_0.out) | (with_reducible refine Kd.C_alloc ?_ _) | (with_reducible refine Kd.C_drewN ?_ _) | (with_reducible refine Kd.C_drew ?_) | exact HR562_0.out)) 0 p563 q563
 cases e563
 have qi563 : (0 < (rd_L5 t549 x18_3).length) = True := eq_true (by omega)
 (try rw [show ((0 : Int)).toNat = 0 from rfl] at hx563_0)
 (try rw [Addr.add_zero'] at hx563_0)
 replace p563 := eq_true p563
 replace q563 := eq_true q563
 go_wp2
 repeat (go_quiet (fail); try go_wp2)
 go_loopg [19] kj62 (fun kq v19 w' => ∃ (x19_5 : Int), v19 = .int .i64 x19_5 ∧ Aside0 (laws_FnEnsemble.l3 kq t515 t549 x18_3 x19_5 = some r) ∧ Aside0 (kq ≤ kj62) ∧ Aside0 (Kd.R k36 36 w' w.heap.size (fun _ => True) (.slice Ao12 t515.length co12) t515) ∧ Aside0 (Kd.S (Kd.slice 2 (Kd.int .i64)) 34 w' w.heap.size (fun _ => True) (.slice (some ad562) t549.length co64) t549) ∧ Aside0 (Kd.C (Kd.int .i64) w' (some ad563) (rd_L5 t549 x18_3).length (rd_L5 t549 x18_3)) ∧ Aside0 (Below w.heap.size w w'))
 case atStart => exact ⟨(rd (rd_L5 t549 x18_3) 0), (by first | rfl | (simp; done) | (simp [*]; done)), H', ⟨Nat.le_refl _⟩, ⟨by (with_reducible repeat (first | apply Kd.R_alloc | apply Kd.R_drewN | apply Kd.R_drew)); exact HO_5.out⟩, ⟨by (with_reducible repeat (first | apply Kd.S_alloc | apply Kd.S_drewN | apply Kd.S_drew)); exact HO_16.out⟩, ⟨by repeat (first | (with_reducible exact HR562_0.out) | (with_reducible refine Kd.C_alloc ?_ _) | (with_reducible refine Kd.C_drewN ?_ _) | (with_reducible refine Kd.C_drew ?_) | exact HR562_0.out)⟩, ⟨by repeat (first | (with_reducible first | exact HB.out | apply below_alloc | apply pw_below_drewN | apply below_drew1) | exact HB.out)⟩⟩
 case round =>
  skip
  {
 as_aux_lemma =>
 clear H'
 try clear c2
 try clear p2
 try clear c3
 try clear c4
 try clear c5
 try clear p5
 try clear q5
 try clear hx5
 try clear qi5
 try clear c6
 try clear p6
 try clear c7
 try clear c22
 try clear c22b0
 try clear c23
 try clear c23b0
 try clear c26
 try clear c26b0
 try clear c26b1
 try clear c27
 try clear c27b0
 try clear c27b1
 try clear c28
 try clear c28b0
 try clear c29
 try clear c29b0
 try clear c30
 try clear c30b0
 try clear c30b1
 try clear c31
 try clear c31b0
 try clear c32
 try clear c32b0
 try clear c33
 try clear c33b0
 try clear c34
 try clear c34b0
 try clear c35
 try clear c35b0
 try clear c36
 try clear c36b0
 try clear c37
 try clear c38
 try clear c38b0
 try clear c38b1
 try clear c39
 try clear c39b0
 try clear c40
 try clear c40b0
 try clear c41
 try clear c41b0
 try clear c41b1
 try clear c42
 try clear c42b0
 try clear c43
 try clear c43b0
 try clear c44
 try clear c44b0
 try clear c45
 try clear c47
 try clear c47b0
 try clear c48
 try clear c48b0
 try clear c48b1
 try clear c49
 try clear c49b0
 try clear c50
 try clear c50b0
 try clear c51
 try clear c51b0
 try clear c51b1
 try clear p53
 try clear q53
 try clear hx53
 try clear qi53
 try clear c54
 try clear c54b0
 try clear c54b1
 try clear p54
 try clear q54
 try clear hx54
 try clear qi54
 try clear c55
 try clear p55
 try clear q55
 try clear hx55
 try clear qi55
 try clear c56
 try clear p56
 try clear q56
 try clear hx56
 try clear qi56
 try clear c59
 try clear c59b0
 try clear c59b1
 try clear c62
 try clear c62b0
 try clear c65
 try clear c65b0
 try clear c66
 try clear c66b0
 try clear c66b1
 try clear c67
 try clear c67b0
 try clear c67b1
 try clear c68
 try clear c68b0
 try clear c68b1
 try clear c69
 try clear c69b0
 try clear c70
 try clear c70b0
 try clear c71
 try clear c72
 try clear c72b0
 try clear c73
 try clear c73b0
 try clear c74
 try clear c74b0
 try clear c74b1
 try clear hx530_0
 try clear hx531_0
 try clear hx532_0
 try clear hx533_0
 try clear hx534_0
 try clear hx535_0
 try clear hx536_0
 try clear hx536_1
 try clear hx536_2
 try clear hx537_0
 try clear hx538_0
 try clear hx538_1
 try clear hx538_2
 try clear hx539_0
 try clear hx540_0
 try clear hx540_1
 try clear hx540_2
 try clear hx541_0
 try clear hx542_0
 try clear hx542_1
 try clear hx542_2
 try clear hx543_0
 try clear hx544_0
 try clear hx544_1
 try clear hx544_2
 try clear hx545_0
 try clear hx545_1
 try clear hx545_2
 try clear hx546_0
 try clear hx547_0
 try clear hx547_1
 try clear hx547_2
 try clear hx548_0
 try clear hx548_1
 try clear hx548_2
 try clear hx553_0
 try clear hx554_0
 try clear hx555_0
 try clear hx556_0
 try clear hx557_0
 try clear hx558_0
 try clear hx559_0
 try clear hx560_0
 try clear hx561_0
 try clear hx562_0
 try clear hx563_0
 try clear p2
 try clear p5
 try clear p53
 try clear p530
 try clear p531
 try clear p532
 try clear p533
 try clear p534
 try clear p535
 try clear p536
 try clear p537
 try clear p538
 try clear p539
 try clear p54
 try clear p540
 try clear p541
 try clear p542
 try clear p543
 try clear p544
 try clear p545
 try clear p546
 try clear p547
 try clear p548
 try clear p55
 try clear p553
 try clear p554
 try clear p555
 try clear p556
 try clear p557
 try clear p558
 try clear p559
 try clear p56
 try clear p560
 try clear p561
 try clear p562
 try clear p563
 try clear p6
 try clear q5
 try clear q53
 try clear q530
 try clear q531
 try clear q532
 try clear q533
 try clear q534
 try clear q535
 try clear q536
 try clear q537
 try clear q538
 try clear q539
 try clear q54
 try clear q540
 try clear q541
 try clear q542
 try clear q543
 try clear q544
 try clear q545
 try clear q546
 try clear q547
 try clear q548
 try clear q55
 try clear q553
 try clear q554
 try clear q555
 try clear q556
 try clear q557
 try clear q558
 try clear q559
 try clear q56
 try clear q560
 try clear q561
 try clear q562
 try clear q563
 obtain ⟨x19_5, rfl, HA, HK5, HO_5, HO_16, HR562_0, HB⟩ := hrel
 cases gk with
 | zero => exact absurd HA.out (by simp [laws_FnEnsemble.l3])
 | succ k5 =>
  skip
  {
 have H := HA.out
 clear HA
 simp only [laws_FnEnsemble.l3] at H
 by_cases c75 : 0 ≤ x18_3
 {
 as_aux_lemma =>
 rw [if_pos c75] at H
 have c75b0 : decide (0 ≤ x18_3) = true := decide_eq_true c75
 clear c75
 by_cases c76 : x18_3 < (t549.length : Int)
 {
 as_aux_lemma =>
 rw [if_pos c76] at H
 have c76b0 : decide (x18_3 < (t549.length : Int)) = true := decide_eq_true c76
 clear c76
 by_cases c77 : 1 < ((rd_L5 t549 x18_3).length : Int)
 {
 as_aux_lemma =>
 rw [if_pos c77] at H
 have c77b0 : decide (1 < ((rd_L5 t549 x18_3).length : Int)) = true := decide_eq_true c77
 have c77b1 : decide (1 < (rd_L5 t549 x18_3).length) = true := decide_eq_true (by omega)
 clear c77
 by_cases c78 : x19_5 < (rd (rd_L5 t549 x18_3) 1)
 {
 rw [if_pos c78] at H
 have c78b0 : decide (x19_5 < (rd (rd_L5 t549 x18_3) 1)) = true := decide_eq_true c78
 clear c78
 replace H := Option.bind_eq_some_iff.mp H
 obtain ⟨⟨t566, t567⟩, A790, H⟩ := H
 replace H : (if t567 = 0 then (if (t566.length : Int) = 0 then (laws_FnEnsemble.l3 k5 t515 t549 x18_3 (wrap64 (x19_5 + 1))) else (none)) else (none)) = some r := H
 have A79 := Aside0.mk A790
 clear A790
 by_cases c80 : t567 = 0
 {
 rw [if_pos c80] at H
 have c80b0 : (t567 == 0) = true := beq_iff_eq.mpr c80
 have c80b1 : (t567 != 0) = false := bne_eq_false_iff_eq.mpr c80
 clear c80
 by_cases c81 : (t566.length : Int) = 0
 {
 rw [if_pos c81] at H
 have c81b0 : ((t566.length : Int) == 0) = true := beq_iff_eq.mpr c81
 have c81b1 : ((t566.length : Int) != 0) = false := bne_eq_false_iff_eq.mpr c81
 clear c81
 have H' := Aside0.mk H
 clear H
 have p564 : 0 ≤ (x18_3 : Int) := of_decide_eq_true (by first | (with_reducible assumption) | assumption)
 have q564 : x18_3 < (t549.length : Int) := of_decide_eq_true (by first | (with_reducible assumption) | assumption)
 obtain ⟨ad564, A564_0, c564_0, e564, hx564_0, hl564_0, hi564_0⟩ := at_L5 (Kd.S_reads' HO_16.out).2.2 x18_3 p564 q564
 obtain rfl : ad562 = ad564 := (by injection e564)
 obtain ⟨ce564, hce564, hMe564, hcc564⟩ := Kd.S_get HO_16.out [] x18_3 p564 (by first | exact q564 | exact of_decide_eq_true (by first | (with_reducible assumption) | assumption) | (have e_ := (Kd.S_reads' HO_16.out).1; omega))
 obtain ⟨ve564_0, rfl, ge564_0⟩ := hMe564
 have hv564_0 := hcc564 0 _ rfl
 rw [Nat.add_zero, show ((Kd.slice 2 (Kd.int .i64))).sz = 1 from rfl, Nat.mul_one] at hv564_0
 replace hv564_0 := Option.some.inj (hv564_0.symm.trans hx564_0)
 rw [hv564_0] at ge564_0
 have HL564_0 := Aside0.mk (show Kd.R (Kd.int .i64) 2 _ _ _ _ (rd_L5 t549 x18_3) from ge564_0)
 clear hv564_0 ge564_0
 clear hcc564 hce564
 have HR564_0 := Aside0.mk hi564_0
 have HC564_0 := Aside0.mk hl564_0
 clear hi564_0 hl564_0
 replace p564 := eq_true p564
 replace q564 := eq_true q564
 have p565 : 0 ≤ (1 : Int) := (by omega)
 have q565 : 1 < ((rd_L5 t549 x18_3).length : Int) := of_decide_eq_true (by first | (with_reducible assumption) | assumption)
 obtain ⟨ad565, e565, hx565_0⟩ := Kd.at_int (by repeat (first | (with_reducible exact HR564_0.out) | (with_reducible refine Kd.C_alloc ?_ _) | (with_reducible refine Kd.C_drewN ?_ _) | (with_reducible refine Kd.C_drew ?_) | exact HR564_0.out)) 1 p565 q565
 cases e565
 (try simp only [show (1 : Int).toNat = 1 from rfl, Nat.reduceMul, Nat.reduceEqDiff, Go.Addr.add, ↓reduceIte] at hx565_0)
 have qi565 : (1 < (rd_L5 t549 x18_3).length) = True := eq_true (by omega)
 (try rw [show ((1 : Int)).toNat = 1 from rfl] at hx565_0)
 replace p565 := eq_true p565
 replace q565 := eq_true q565
 go_wp2_with (first | (go_at_call 13; (with_reducible refine (impl_PlayersAt.calls k5 _ _ t515 x19_5 t566 t567 _ ?side1 ?side2 A79.out).mono ?_); (case side1 => repeat (first | exact (Kd.R_reads' HO_5.out).2.2 | (with_reducible refine Kd.C_alloc ?_ _) | (with_reducible refine Kd.C_drewN ?_ _) | (with_reducible refine Kd.C_drew ?_))); (case side2 => exact (Kd.R_reads' HO_5.out).2.1); rintro e w82 ⟨v568, rfl, ho0, hb⟩; have n0_ := Aside0.mk (Kd.R_below (by (with_reducible repeat (first | apply Kd.R_alloc | apply Kd.R_drewN | apply Kd.R_drew)); exact HO_5.out) hb); have n1_ := Aside0.mk (Kd.S_below (by (with_reducible repeat (first | apply Kd.S_alloc | apply Kd.S_drewN | apply Kd.S_drew)); exact HO_16.out) hb); have n2_ := Aside0.mk (Kd.R_below (by (with_reducible repeat (first | apply Kd.R_alloc | apply Kd.R_drewN | apply Kd.R_drew)); exact HL564_0.out) hb); have n3_ := Aside0.mk (Kd.R_lower ho0 (below_size (by repeat (first | (with_reducible first | exact HB.out | apply below_alloc | apply pw_below_drewN | apply below_drew1) | exact HB.out)))); have n4_ := Aside0.mk (Kd.C_below (by repeat (first | (with_reducible exact HR562_0.out) | (with_reducible refine Kd.C_alloc ?_ _) | (with_reducible refine Kd.C_drewN ?_ _) | (with_reducible refine Kd.C_drew ?_) | exact HR562_0.out)) hb); have n5_ := Aside0.mk (Kd.C_below (by repeat (first | (with_reducible exact HR564_0.out) | (with_reducible refine Kd.C_alloc ?_ _) | (with_reducible refine Kd.C_drewN ?_ _) | (with_reducible refine Kd.C_drew ?_) | exact HR564_0.out)) hb); have n6_ := Aside0.mk (below_step (by repeat (first | (with_reducible first | exact HB.out | apply below_alloc | apply pw_below_drewN | apply below_drew1) | exact HB.out)) hb); clear HO_5; clear HO_16; clear HL564_0; clear HR562_0; clear HR564_0; clear HB; have HO_5 := n0_; have HO_16 := n1_; have HL564_0 := n2_; have HO569 := n3_; have HR562_0 := n4_; have HR564_0 := n5_; have HB := n6_; clear n0_ n1_ n2_ n3_ n4_ n5_ n6_; (try clear hb); (try clear hb2); (try clear hk); (try clear hi); (try clear ho0); obtain ⟨Ao83, co83, eo83⟩ := Kd.R_slice HO569.out; subst eo83))
 repeat (go_quiet (first | (go_at_call 13; (with_reducible refine (impl_PlayersAt.calls k5 _ _ t515 x19_5 t566 t567 _ ?side1 ?side2 A79.out).mono ?_); (case side1 => repeat (first | exact (Kd.R_reads' HO_5.out).2.2 | (with_reducible refine Kd.C_alloc ?_ _) | (with_reducible refine Kd.C_drewN ?_ _) | (with_reducible refine Kd.C_drew ?_))); (case side2 => exact (Kd.R_reads' HO_5.out).2.1); rintro e w82 ⟨v568, rfl, ho0, hb⟩; have n0_ := Aside0.mk (Kd.R_below (by (with_reducible repeat (first | apply Kd.R_alloc | apply Kd.R_drewN | apply Kd.R_drew)); exact HO_5.out) hb); have n1_ := Aside0.mk (Kd.S_below (by (with_reducible repeat (first | apply Kd.S_alloc | apply Kd.S_drewN | apply Kd.S_drew)); exact HO_16.out) hb); have n2_ := Aside0.mk (Kd.R_below (by (with_reducible repeat (first | apply Kd.R_alloc | apply Kd.R_drewN | apply Kd.R_drew)); exact HL564_0.out) hb); have n3_ := Aside0.mk (Kd.R_lower ho0 (below_size (by repeat (first | (with_reducible first | exact HB.out | apply below_alloc | apply pw_below_drewN | apply below_drew1) | exact HB.out)))); have n4_ := Aside0.mk (Kd.C_below (by repeat (first | (with_reducible exact HR562_0.out) | (with_reducible refine Kd.C_alloc ?_ _) | (with_reducible refine Kd.C_drewN ?_ _) | (with_reducible refine Kd.C_drew ?_) | exact HR562_0.out)) hb); have n5_ := Aside0.mk (Kd.C_below (by repeat (first | (with_reducible exact HR564_0.out) | (with_reducible refine Kd.C_alloc ?_ _) | (with_reducible refine Kd.C_drewN ?_ _) | (with_reducible refine Kd.C_drew ?_) | exact HR564_0.out)) hb); have n6_ := Aside0.mk (below_step (by repeat (first | (with_reducible first | exact HB.out | apply below_alloc | apply pw_below_drewN | apply below_drew1) | exact HB.out)) hb); clear HO_5; clear HO_16; clear HL564_0; clear HR562_0; clear HR564_0; clear HB; have HO_5 := n0_; have HO_16 := n1_; have HL564_0 := n2_; have HO569 := n3_; have HR562_0 := n4_; have HR564_0 := n5_; have HB := n6_; clear n0_ n1_ n2_ n3_ n4_ n5_ n6_; (try clear hb); (try clear hb2); (try clear hk); (try clear hi); (try clear ho0); obtain ⟨Ao83, co83, eo83⟩ := Kd.R_slice HO569.out; subst eo83)); try go_wp2_with (first | (go_at_call 13; (with_reducible refine (impl_PlayersAt.calls k5 _ _ t515 x19_5 t566 t567 _ ?side1 ?side2 A79.out).mono ?_); (case side1 => repeat (first | exact (Kd.R_reads' HO_5.out).2.2 | (with_reducible refine Kd.C_alloc ?_ _) | (with_reducible refine Kd.C_drewN ?_ _) | (with_reducible refine Kd.C_drew ?_))); (case side2 => exact (Kd.R_reads' HO_5.out).2.1); rintro e w82 ⟨v568, rfl, ho0, hb⟩; have n0_ := Aside0.mk (Kd.R_below (by (with_reducible repeat (first | apply Kd.R_alloc | apply Kd.R_drewN | apply Kd.R_drew)); exact HO_5.out) hb); have n1_ := Aside0.mk (Kd.S_below (by (with_reducible repeat (first | apply Kd.S_alloc | apply Kd.S_drewN | apply Kd.S_drew)); exact HO_16.out) hb); have n2_ := Aside0.mk (Kd.R_below (by (with_reducible repeat (first | apply Kd.R_alloc | apply Kd.R_drewN | apply Kd.R_drew)); exact HL564_0.out) hb); have n3_ := Aside0.mk (Kd.R_lower ho0 (below_size (by repeat (first | (with_reducible first | exact HB.out | apply below_alloc | apply pw_below_drewN | apply below_drew1) | exact HB.out)))); have n4_ := Aside0.mk (Kd.C_below (by repeat (first | (with_reducible exact HR562_0.out) | (with_reducible refine Kd.C_alloc ?_ _) | (with_reducible refine Kd.C_drewN ?_ _) | (with_reducible refine Kd.C_drew ?_) | exact HR562_0.out)) hb); have n5_ := Aside0.mk (Kd.C_below (by repeat (first | (with_reducible exact HR564_0.out) | (with_reducible refine Kd.C_alloc ?_ _) | (with_reducible refine Kd.C_drewN ?_ _) | (with_reducible refine Kd.C_drew ?_) | exact HR564_0.out)) hb); have n6_ := Aside0.mk (below_step (by repeat (first | (with_reducible first | exact HB.out | apply below_alloc | apply pw_below_drewN | apply below_drew1) | exact HB.out)) hb); clear HO_5; clear HO_16; clear HL564_0; clear HR562_0; clear HR564_0; clear HB; have HO_5 := n0_; have HO_16 := n1_; have HL564_0 := n2_; have HO569 := n3_; have HR562_0 := n4_; have HR564_0 := n5_; have HB := n6_; clear n0_ n1_ n2_ n3_ n4_ n5_ n6_; (try clear hb); (try clear hb2); (try clear hk); (try clear hi); (try clear ho0); obtain ⟨Ao83, co83, eo83⟩ := Kd.R_slice HO569.out; subst eo83)))
 go_roundg k5
 case measure => have := HJ8.out; have := HK2.out; have := HK3.out; have := HJ62.out; have := HK5.out; omega
 case rel => exact ⟨(wrap64 (x19_5 + 1)), (by first | rfl | (simp; done) | (simp [*]; done)), H', ⟨by have := HJ8.out; have := HK2.out; have := HK3.out; have := HJ62.out; have := HK5.out; omega⟩, ⟨by (with_reducible repeat (first | apply Kd.R_alloc | apply Kd.R_drewN | apply Kd.R_drew)); exact HO_5.out⟩, ⟨by (with_reducible repeat (first | apply Kd.S_alloc | apply Kd.S_drewN | apply Kd.S_drew)); exact HO_16.out⟩, ⟨by repeat (first | (with_reducible exact HR562_0.out) | (with_reducible refine Kd.C_alloc ?_ _) | (with_reducible refine Kd.C_drewN ?_ _) | (with_reducible refine Kd.C_drew ?_) | exact HR562_0.out)⟩, ⟨by repeat (first | (with_reducible first | exact HB.out | apply below_alloc | apply pw_below_drewN | apply below_drew1) | exact HB.out)⟩⟩
 }
 {
 rw [if_neg c81] at H
 exact absurd H (by simp)
 }
 }
 {
 rw [if_neg c80] at H
 exact absurd H (by simp)
 }
 }
 {
 rw [if_neg c78] at H
 have c78b0 : decide (x19_5 < (rd (rd_L5 t549 x18_3) 1)) = false := decide_eq_false c78
 clear c78
 have H' := Aside0.mk H
 clear H
 have p564 : 0 ≤ (x18_3 : Int) := of_decide_eq_true (by first | (with_reducible assumption) | assumption)
 have q564 : x18_3 < (t549.length : Int) := of_decide_eq_true (by first | (with_reducible assumption) | assumption)
 obtain ⟨ad564, A564_0, c564_0, e564, hx564_0, hl564_0, hi564_0⟩ := at_L5 (Kd.S_reads' HO_16.out).2.2 x18_3 p564 q564
 obtain rfl : ad562 = ad564 := (by injection e564)
 obtain ⟨ce564, hce564, hMe564, hcc564⟩ := Kd.S_get HO_16.out [] x18_3 p564 (by first | exact q564 | exact of_decide_eq_true (by first | (with_reducible assumption) | assumption) | (have e_ := (Kd.S_reads' HO_16.out).1; omega))
 obtain ⟨ve564_0, rfl, ge564_0⟩ := hMe564
 have hv564_0 := hcc564 0 _ rfl
 rw [Nat.add_zero, show ((Kd.slice 2 (Kd.int .i64))).sz = 1 from rfl, Nat.mul_one] at hv564_0
 replace hv564_0 := Option.some.inj (hv564_0.symm.trans hx564_0)
 rw [hv564_0] at ge564_0
 have HL564_0 := Aside0.mk (show Kd.R (Kd.int .i64) 2 _ _ _ _ (rd_L5 t549 x18_3) from ge564_0)
 clear hv564_0 ge564_0
 clear hcc564 hce564
 have HR564_0 := Aside0.mk hi564_0
 have HC564_0 := Aside0.mk hl564_0
 clear hi564_0 hl564_0
 replace p564 := eq_true p564
 replace q564 := eq_true q564
 have p565 : 0 ≤ (1 : Int) := (by omega)
 have q565 : 1 < ((rd_L5 t549 x18_3).length : Int) := of_decide_eq_true (by first | (with_reducible assumption) | assumption)
 obtain ⟨ad565, e565, hx565_0⟩ := Kd.at_int (by repeat (first | (with_reducible exact HR564_0.out) | (with_reducible refine Kd.C_alloc ?_ _) | (with_reducible refine Kd.C_drewN ?_ _) | (with_reducible refine Kd.C_drew ?_) | exact HR564_0.out)) 1 p565 q565
 cases e565
 (try simp only [show (1 : Int).toNat = 1 from rfl, Nat.reduceMul, Nat.reduceEqDiff, Go.Addr.add, ↓reduceIte] at hx565_0)
 have qi565 : (1 < (rd_L5 t549 x18_3).length) = True := eq_true (by omega)
 (try rw [show ((1 : Int)).toNat = 1 from rfl] at hx565_0)
 replace p565 := eq_true p565
 replace q565 := eq_true q565
 go_wp2
 repeat (go_quiet (fail); try go_wp2)
 go_roundg k5
 case measure => have := HJ8.out; have := HK2.out; have := HK3.out; have := HJ62.out; have := HK5.out; omega
 case rel => exact ⟨(wrap64 (x18_3 + 1)), (by first | rfl | (simp; done) | (simp [*]; done)), H', ⟨by have := HJ8.out; have := HK2.out; have := HK3.out; have := HJ62.out; have := HK5.out; omega⟩, ⟨by (with_reducible repeat (first | apply Kd.R_alloc | apply Kd.R_drewN | apply Kd.R_drew)); exact HO_5.out⟩, ⟨by (with_reducible repeat (first | apply Kd.S_alloc | apply Kd.S_drewN | apply Kd.S_drew)); exact HO_16.out⟩, ⟨by repeat (first | (with_reducible first | exact HB.out | apply below_alloc | apply pw_below_drewN | apply below_drew1) | exact HB.out)⟩⟩
 }
 }
 {
 rw [if_neg c77] at H
 exact absurd H (by simp)
 }
 }
 {
 rw [if_neg c76] at H
 exact absurd H (by simp)
 }
 }
 {
 rw [if_neg c75] at H
 exact absurd H (by simp)
 }
  }
  }
 }
 {
 rw [if_neg c74] at H
 exact absurd H (by simp)
 }
 }
 {
 rw [if_neg c73] at H
 exact absurd H (by simp)
 }
 }
 {
 rw [if_neg c72] at H
 exact absurd H (by simp)
 }
 }
  }
  }
 }
 {
 as_aux_lemma =>
 rw [if_neg c62] at H
 have c62b0 : decide (x18_3 < (t549.length : Int)) = false := decide_eq_false c62
 clear c62
 by_cases c84 : (t515.length : Int) = 0
 {
 rw [if_pos c84] at H
 have c84b0 : ((t515.length : Int) == 0) = true := beq_iff_eq.mpr c84
 have c84b1 : ((t515.length : Int) != 0) = false := bne_eq_false_iff_eq.mpr c84
 clear c84
 obtain rfl := Option.some.inj H
 obtain ⟨Ao85, co85, eo85⟩ := Kd.S_slice HO_16.out
 subst eo85
 go_wp2
 repeat (go_quiet (fail); try go_wp2)
 go_ret
 exact ⟨by first | rfl | (simp [errW_none, errW_some] <;> rfl) | (simp [*, errW_none, errW_some] <;> rfl), by repeat (first | (with_reducible first | exact HB.out | apply below_alloc | apply pw_below_drewN | apply below_drew1) | exact HB.out)⟩
 }
 {
 as_aux_lemma =>
 rw [if_neg c84] at H
 have c84b0 : ((t515.length : Int) == 0) = false := beq_eq_false_iff_ne.mpr c84
 have c84b1 : ((t515.length : Int) != 0) = true := bne_iff_ne.mpr c84
 have c84b2 : ¬ (t515 = []) := fun h_ => c84 (by rw [h_]; rfl)
 by_cases c86 : 0 < (t515.length : Int)
 {
 as_aux_lemma =>
 rw [if_pos c86] at H
 have c86b0 : decide (0 < (t515.length : Int)) = true := decide_eq_true c86
 have c86b1 : decide (0 < t515.length) = true := decide_eq_true (by omega)
 clear c86
 have H' := Aside0.mk H
 clear H
 obtain ⟨Ao87, co87, eo87⟩ := Kd.S_slice HO_16.out
 subst eo87
 have p570 : 0 ≤ (0 : Int) := (by omega)
 have q570 : 0 < (t515.length : Int) := of_decide_eq_true (by first | (with_reducible assumption) | assumption)
 obtain ⟨ad570, e570, hx570_0, hx570_1, hx570_2⟩ := at_T36 (Kd.R_reads' HO_5.out).2.2 0 p570 q570
 cases e570
 have qi570 : (0 < t515.length) = True := eq_true (by omega)
 (try rw [show ((0 : Int)).toNat = 0 from rfl] at hx570_0)
 (try rw [show 0 * 3 = 0 from rfl] at hx570_0)
 (try rw [Addr.add_zero'] at hx570_0)
 (try rw [show ((0 : Int)).toNat = 0 from rfl] at hx570_1)
 (try rw [show 0 * 3 = 0 from rfl] at hx570_1)
 (try rw [Addr.add_zero'] at hx570_1)
 (try rw [show ((0 : Int)).toNat = 0 from rfl] at hx570_2)
 (try rw [show 0 * 3 = 0 from rfl] at hx570_2)
 (try rw [Addr.add_zero'] at hx570_2)
 replace p570 := eq_true p570
 replace q570 := eq_true q570
 go_wp2
 repeat (go_quiet (fail); try go_wp2)
 go_loopg [23, 24] k3 (fun kq v23 v24 w' => ∃ (x23_4 : Int) (x24_4 : Int), v23 = .int .i64 x23_4 ∧ v24 = .int .i64 x24_4 ∧ Aside0 (laws_FnEnsemble.l4 kq t515 ((rd_T36 t515 0).f0) x23_4 x24_4 = some r) ∧ Aside0 (kq ≤ k3) ∧ Aside0 (Kd.R k36 36 w' w.heap.size (fun _ => True) (.slice (some ad570) t515.length co12) t515) ∧ Aside0 (Below w.heap.size w w'))
 case atStart => exact ⟨(0), (0), (by first | rfl | (simp; done) | (simp [*]; done)), (by first | rfl | (simp; done) | (simp [*]; done)), H', ⟨Nat.le_refl _⟩, ⟨by (with_reducible repeat (first | apply Kd.R_alloc | apply Kd.R_drewN | apply Kd.R_drew)); exact HO_5.out⟩, ⟨by repeat (first | (with_reducible first | exact HB.out | apply below_alloc | apply pw_below_drewN | apply below_drew1) | exact HB.out)⟩⟩
 case round =>
  skip
  {
 as_aux_lemma =>
 clear H'
 try clear c2
 try clear p2
 try clear c3
 try clear c4
 try clear c5
 try clear p5
 try clear q5
 try clear hx5
 try clear qi5
 try clear c6
 try clear p6
 try clear c7
 try clear c8
 try clear c22
 try clear c22b0
 try clear c23
 try clear c23b0
 try clear c26
 try clear c26b0
 try clear c26b1
 try clear c27
 try clear c27b0
 try clear c27b1
 try clear c28
 try clear c28b0
 try clear c29
 try clear c29b0
 try clear c30
 try clear c30b0
 try clear c30b1
 try clear c31
 try clear c31b0
 try clear c32
 try clear c32b0
 try clear c33
 try clear c33b0
 try clear c34
 try clear c34b0
 try clear c35
 try clear c35b0
 try clear c36
 try clear c36b0
 try clear c37
 try clear c38
 try clear c38b0
 try clear c38b1
 try clear c39
 try clear c39b0
 try clear c40
 try clear c40b0
 try clear c41
 try clear c41b0
 try clear c41b1
 try clear c42
 try clear c42b0
 try clear c43
 try clear c43b0
 try clear c44
 try clear c44b0
 try clear c45
 try clear c47
 try clear c47b0
 try clear c48
 try clear c48b0
 try clear c48b1
 try clear c49
 try clear c49b0
 try clear c50
 try clear c50b0
 try clear c51
 try clear c51b0
 try clear c51b1
 try clear p53
 try clear q53
 try clear hx53
 try clear qi53
 try clear c54
 try clear c54b0
 try clear c54b1
 try clear p54
 try clear q54
 try clear hx54
 try clear qi54
 try clear c55
 try clear p55
 try clear q55
 try clear hx55
 try clear qi55
 try clear c56
 try clear p56
 try clear q56
 try clear hx56
 try clear qi56
 try clear p57
 try clear q57
 try clear hx57
 try clear qi57
 try clear c59
 try clear c59b0
 try clear c59b1
 try clear c62
 try clear c62b0
 try clear p64
 try clear c65
 try clear c65b0
 try clear c66
 try clear c66b0
 try clear c66b1
 try clear c67
 try clear c67b0
 try clear c67b1
 try clear c68
 try clear c68b0
 try clear c68b1
 try clear c69
 try clear c69b0
 try clear c70
 try clear c70b0
 try clear c71
 try clear c72
 try clear c72b0
 try clear c73
 try clear c73b0
 try clear c74
 try clear c74b0
 try clear c74b1
 try clear c75
 try clear c75b0
 try clear c76
 try clear c76b0
 try clear c77
 try clear c77b0
 try clear c77b1
 try clear c78
 try clear c78b0
 try clear c80
 try clear c80b0
 try clear c80b1
 try clear c81
 try clear c81b0
 try clear c81b1
 try clear c84
 try clear c84b0
 try clear c84b1
 try clear c84b2
 try clear c86
 try clear c86b0
 try clear c86b1
 try clear hx530_0
 try clear hx531_0
 try clear hx532_0
 try clear hx533_0
 try clear hx534_0
 try clear hx535_0
 try clear hx536_0
 try clear hx536_1
 try clear hx536_2
 try clear hx537_0
 try clear hx538_0
 try clear hx538_1
 try clear hx538_2
 try clear hx539_0
 try clear hx540_0
 try clear hx540_1
 try clear hx540_2
 try clear hx541_0
 try clear hx542_0
 try clear hx542_1
 try clear hx542_2
 try clear hx543_0
 try clear hx544_0
 try clear hx544_1
 try clear hx544_2
 try clear hx545_0
 try clear hx545_1
 try clear hx545_2
 try clear hx546_0
 try clear hx547_0
 try clear hx547_1
 try clear hx547_2
 try clear hx548_0
 try clear hx548_1
 try clear hx548_2
 try clear hx553_0
 try clear hx554_0
 try clear hx555_0
 try clear hx556_0
 try clear hx557_0
 try clear hx558_0
 try clear hx559_0
 try clear hx560_0
 try clear hx561_0
 try clear hx562_0
 try clear hx563_0
 try clear hx564_0
 try clear hx565_0
 try clear hx570_0
 try clear hx570_1
 try clear hx570_2
 try clear p2
 try clear p5
 try clear p53
 try clear p530
 try clear p531
 try clear p532
 try clear p533
 try clear p534
 try clear p535
 try clear p536
 try clear p537
 try clear p538
 try clear p539
 try clear p54
 try clear p540
 try clear p541
 try clear p542
 try clear p543
 try clear p544
 try clear p545
 try clear p546
 try clear p547
 try clear p548
 try clear p55
 try clear p553
 try clear p554
 try clear p555
 try clear p556
 try clear p557
 try clear p558
 try clear p559
 try clear p56
 try clear p560
 try clear p561
 try clear p562
 try clear p563
 try clear p564
 try clear p565
 try clear p570
 try clear p6
 try clear q5
 try clear q53
 try clear q530
 try clear q531
 try clear q532
 try clear q533
 try clear q534
 try clear q535
 try clear q536
 try clear q537
 try clear q538
 try clear q539
 try clear q54
 try clear q540
 try clear q541
 try clear q542
 try clear q543
 try clear q544
 try clear q545
 try clear q546
 try clear q547
 try clear q548
 try clear q55
 try clear q553
 try clear q554
 try clear q555
 try clear q556
 try clear q557
 try clear q558
 try clear q559
 try clear q56
 try clear q560
 try clear q561
 try clear q562
 try clear q563
 try clear q564
 try clear q565
 try clear q570
 obtain ⟨x23_4, x24_4, rfl, rfl, HA, HK4, HO_5, HB⟩ := hrel
 cases gk with
 | zero => exact absurd HA.out (by simp [laws_FnEnsemble.l4])
 | succ k4 =>
  skip
  {
 have H := HA.out
 clear HA
 simp only [laws_FnEnsemble.l4] at H
 by_cases c88 : x24_4 < (t515.length : Int)
 {
 rw [if_pos c88] at H
 have c88b0 : decide (x24_4 < (t515.length : Int)) = true := decide_eq_true c88
 clear c88
 by_cases c89 : 0 ≤ x24_4
 {
 rw [if_pos c89] at H
 have c89b0 : decide (0 ≤ x24_4) = true := decide_eq_true c89
 clear c89
 by_cases c90 : ((rd_T36 t515 x24_4).f0).toList = ((rd_T36 t515 0).f0).toList
 {
 rw [if_pos c90] at H
 have c90b0 : (((rd_T36 t515 x24_4).f0).toList == ((rd_T36 t515 0).f0).toList) = true := beq_iff_eq.mpr c90
 have c90b1 : (((rd_T36 t515 x24_4).f0).toList != ((rd_T36 t515 0).f0).toList) = false := bne_eq_false_iff_eq.mpr c90
 clear c90
 have H' := Aside0.mk H
 clear H
 have p571 : 0 ≤ (x24_4 : Int) := of_decide_eq_true (by first | (with_reducible assumption) | assumption)
 have q571 : x24_4 < (t515.length : Int) := of_decide_eq_true (by first | (with_reducible assumption) | assumption)
 obtain ⟨ad571, e571, hx571_0, hx571_1, hx571_2⟩ := at_T36 (Kd.R_reads' HO_5.out).2.2 x24_4 p571 q571
 obtain rfl : ad570 = ad571 := (by injection e571)
 replace p571 := eq_true p571
 replace q571 := eq_true q571
 have p572 : 0 ≤ (x24_4 : Int) := of_decide_eq_true (by first | (with_reducible assumption) | assumption)
 have q572 : x24_4 < (t515.length : Int) := of_decide_eq_true (by first | (with_reducible assumption) | assumption)
 obtain ⟨ad572, e572, hx572_0, hx572_1, hx572_2⟩ := at_T36 (Kd.R_reads' HO_5.out).2.2 x24_4 p572 q572
 obtain rfl : ad570 = ad572 := (by injection e572)
 replace p572 := eq_true p572
 replace q572 := eq_true q572
 go_wp2
 repeat (go_quiet (fail); try go_wp2)
 go_roundg k4
 case measure => have := HJ8.out; have := HK2.out; have := HK3.out; have := HK4.out; omega
 case rel => exact ⟨(wrap64 (x23_4 + ((rd_T36 t515 x24_4).f2))), (wrap64 (x24_4 + 1)), (by first | rfl | (simp; done) | (simp [*]; done)), (by first | rfl | (simp; done) | (simp [*]; done)), H', ⟨by have := HJ8.out; have := HK2.out; have := HK3.out; have := HK4.out; omega⟩, ⟨by (with_reducible repeat (first | apply Kd.R_alloc | apply Kd.R_drewN | apply Kd.R_drew)); exact HO_5.out⟩, ⟨by repeat (first | (with_reducible first | exact HB.out | apply below_alloc | apply pw_below_drewN | apply below_drew1) | exact HB.out)⟩⟩
 }
 {
 rw [if_neg c90] at H
 have c90b0 : (((rd_T36 t515 x24_4).f0).toList == ((rd_T36 t515 0).f0).toList) = false := beq_eq_false_iff_ne.mpr c90
 have c90b1 : (((rd_T36 t515 x24_4).f0).toList != ((rd_T36 t515 0).f0).toList) = true := bne_iff_ne.mpr c90
 have H' := Aside0.mk H
 clear H
 have p571 : 0 ≤ (x24_4 : Int) := of_decide_eq_true (by first | (with_reducible assumption) | assumption)
 have q571 : x24_4 < (t515.length : Int) := of_decide_eq_true (by first | (with_reducible assumption) | assumption)
 obtain ⟨ad571, e571, hx571_0, hx571_1, hx571_2⟩ := at_T36 (Kd.R_reads' HO_5.out).2.2 x24_4 p571 q571
 obtain rfl : ad570 = ad571 := (by injection e571)
 replace p571 := eq_true p571
 replace q571 := eq_true q571
 go_wp2
 repeat (go_quiet (fail); try go_wp2)
 go_roundg k4
 case measure => have := HJ8.out; have := HK2.out; have := HK3.out; have := HK4.out; omega
 case rel => exact ⟨(x23_4), (wrap64 (x24_4 + 1)), (by first | rfl | (simp; done) | (simp [*]; done)), (by first | rfl | (simp; done) | (simp [*]; done)), H', ⟨by have := HJ8.out; have := HK2.out; have := HK3.out; have := HK4.out; omega⟩, ⟨by (with_reducible repeat (first | apply Kd.R_alloc | apply Kd.R_drewN | apply Kd.R_drew)); exact HO_5.out⟩, ⟨by repeat (first | (with_reducible first | exact HB.out | apply below_alloc | apply pw_below_drewN | apply below_drew1) | exact HB.out)⟩⟩
 }
 }
 {
 rw [if_neg c89] at H
 exact absurd H (by simp)
 }
 }
 {
 rw [if_neg c88] at H
 have c88b0 : decide (x24_4 < (t515.length : Int)) = false := decide_eq_false c88
 clear c88
 replace H := Option.bind_eq_some_iff.mp H
 obtain ⟨⟨t573, t574⟩, A910, H⟩ := H
 replace H : ((impl_FullestTime.f k4 t515).bind fun bt575 => ((impl_PlayersAt.f k4 t515 bt575.1).bind fun bt578 => (if t574 = 0 then (if t573 ≥ 0 then (if t573 ≤ x23_4 then (if bt575.2.2 = 0 then (if bt575.2.1 ≥ 1 then (if bt578.2 = 0 then (some ((bt578.1.length : Int) == bt575.2.1)) else (none)) else (none)) else (none)) else (none)) else (none)) else (none)))) = some r := H
 have A91 := Aside0.mk A910
 clear A910
 replace H := Option.bind_eq_some_iff.mp H
 obtain ⟨⟨t575, t576, t577⟩, A920, H⟩ := H
 replace H : ((impl_PlayersAt.f k4 t515 t575).bind fun bt578 => (if t574 = 0 then (if t573 ≥ 0 then (if t573 ≤ x23_4 then (if t577 = 0 then (if t576 ≥ 1 then (if bt578.2 = 0 then (some ((bt578.1.length : Int) == t576)) else (none)) else (none)) else (none)) else (none)) else (none)) else (none))) = some r := H
 have A92 := Aside0.mk A920
 clear A920
 replace H := Option.bind_eq_some_iff.mp H
 obtain ⟨⟨t578, t579⟩, A930, H⟩ := H
 replace H : (if t574 = 0 then (if t573 ≥ 0 then (if t573 ≤ x23_4 then (if t577 = 0 then (if t576 ≥ 1 then (if t579 = 0 then (some ((t578.length : Int) == t576)) else (none)) else (none)) else (none)) else (none)) else (none)) else (none)) = some r := H
 have A93 := Aside0.mk A930
 clear A930
 by_cases c94 : t574 = 0
 {
 rw [if_pos c94] at H
 have c94b0 : (t574 == 0) = true := beq_iff_eq.mpr c94
 have c94b1 : (t574 != 0) = false := bne_eq_false_iff_eq.mpr c94
 clear c94
 by_cases c95 : t573 ≥ 0
 {
 rw [if_pos c95] at H
 have c95b0 : decide (0 ≤ t573) = true := decide_eq_true c95
 clear c95
 by_cases c96 : t573 ≤ x23_4
 {
 rw [if_pos c96] at H
 have c96b0 : decide (t573 ≤ x23_4) = true := decide_eq_true c96
 clear c96
 by_cases c97 : t577 = 0
 {
 rw [if_pos c97] at H
 have c97b0 : (t577 == 0) = true := beq_iff_eq.mpr c97
 have c97b1 : (t577 != 0) = false := bne_eq_false_iff_eq.mpr c97
 clear c97
 by_cases c98 : t576 ≥ 1
 {
 rw [if_pos c98] at H
 have c98b0 : decide (1 ≤ t576) = true := decide_eq_true c98
 clear c98
 by_cases c99 : t579 = 0
 {
 rw [if_pos c99] at H
 have c99b0 : (t579 == 0) = true := beq_iff_eq.mpr c99
 have c99b1 : (t579 != 0) = false := bne_eq_false_iff_eq.mpr c99
 clear c99
 obtain rfl := Option.some.inj H
 go_wp2_with (first | (go_at_call 14; (with_reducible refine (impl_SoloTime.calls k4 _ _ t515 ((rd_T36 t515 0).f0) t573 t574 _ ?side1 ?side2 A91.out).mono ?_); (case side1 => repeat (first | exact (Kd.R_reads' HO_5.out).2.2 | (with_reducible refine Kd.C_alloc ?_ _) | (with_reducible refine Kd.C_drewN ?_ _) | (with_reducible refine Kd.C_drew ?_))); (case side2 => exact (Kd.R_reads' HO_5.out).2.1); rintro e w100 ⟨rfl, hb⟩; have n0_ := Aside0.mk (Kd.R_below (by (with_reducible repeat (first | apply Kd.R_alloc | apply Kd.R_drewN | apply Kd.R_drew)); exact HO_5.out) hb); have n1_ := Aside0.mk (below_step (by repeat (first | (with_reducible first | exact HB.out | apply below_alloc | apply pw_below_drewN | apply below_drew1) | exact HB.out)) hb); clear HO_5; clear HB; have HO_5 := n0_; have HB := n1_; clear n0_ n1_; (try clear hb); (try clear hb2); (try clear hk); (try clear hi)) | (go_at_call 15; (with_reducible refine (impl_FullestTime.calls k4 _ _ t515 t575 t576 t577 _ ?side1 ?side2 A92.out).mono ?_); (case side1 => repeat (first | exact (Kd.R_reads' HO_5.out).2.2 | (with_reducible refine Kd.C_alloc ?_ _) | (with_reducible refine Kd.C_drewN ?_ _) | (with_reducible refine Kd.C_drew ?_))); (case side2 => exact (Kd.R_reads' HO_5.out).2.1); rintro e w101 ⟨rfl, hb⟩; have n0_ := Aside0.mk (Kd.R_below (by (with_reducible repeat (first | apply Kd.R_alloc | apply Kd.R_drewN | apply Kd.R_drew)); exact HO_5.out) hb); have n1_ := Aside0.mk (below_step (by repeat (first | (with_reducible first | exact HB.out | apply below_alloc | apply pw_below_drewN | apply below_drew1) | exact HB.out)) hb); clear HO_5; clear HB; have HO_5 := n0_; have HB := n1_; clear n0_ n1_; (try clear hb); (try clear hb2); (try clear hk); (try clear hi)) | (go_at_call 13; (with_reducible refine (impl_PlayersAt.calls k4 _ _ t515 t575 t578 t579 _ ?side1 ?side2 A93.out).mono ?_); (case side1 => repeat (first | exact (Kd.R_reads' HO_5.out).2.2 | (with_reducible refine Kd.C_alloc ?_ _) | (with_reducible refine Kd.C_drewN ?_ _) | (with_reducible refine Kd.C_drew ?_))); (case side2 => exact (Kd.R_reads' HO_5.out).2.1); rintro e w102 ⟨v580, rfl, ho0, hb⟩; have n0_ := Aside0.mk (Kd.R_below (by (with_reducible repeat (first | apply Kd.R_alloc | apply Kd.R_drewN | apply Kd.R_drew)); exact HO_5.out) hb); have n1_ := Aside0.mk (Kd.R_lower ho0 (below_size (by repeat (first | (with_reducible first | exact HB.out | apply below_alloc | apply pw_below_drewN | apply below_drew1) | exact HB.out)))); have n2_ := Aside0.mk (below_step (by repeat (first | (with_reducible first | exact HB.out | apply below_alloc | apply pw_below_drewN | apply below_drew1) | exact HB.out)) hb); clear HO_5; clear HB; have HO_5 := n0_; have HO581 := n1_; have HB := n2_; clear n0_ n1_ n2_; (try clear hb); (try clear hb2); (try clear hk); (try clear hi); (try clear ho0); obtain ⟨Ao103, co103, eo103⟩ := Kd.R_slice HO581.out; subst eo103))
 repeat (go_quiet (first | (go_at_call 14; (with_reducible refine (impl_SoloTime.calls k4 _ _ t515 ((rd_T36 t515 0).f0) t573 t574 _ ?side1 ?side2 A91.out).mono ?_); (case side1 => repeat (first | exact (Kd.R_reads' HO_5.out).2.2 | (with_reducible refine Kd.C_alloc ?_ _) | (with_reducible refine Kd.C_drewN ?_ _) | (with_reducible refine Kd.C_drew ?_))); (case side2 => exact (Kd.R_reads' HO_5.out).2.1); rintro e w100 ⟨rfl, hb⟩; have n0_ := Aside0.mk (Kd.R_below (by (with_reducible repeat (first | apply Kd.R_alloc | apply Kd.R_drewN | apply Kd.R_drew)); exact HO_5.out) hb); have n1_ := Aside0.mk (below_step (by repeat (first | (with_reducible first | exact HB.out | apply below_alloc | apply pw_below_drewN | apply below_drew1) | exact HB.out)) hb); clear HO_5; clear HB; have HO_5 := n0_; have HB := n1_; clear n0_ n1_; (try clear hb); (try clear hb2); (try clear hk); (try clear hi)) | (go_at_call 15; (with_reducible refine (impl_FullestTime.calls k4 _ _ t515 t575 t576 t577 _ ?side1 ?side2 A92.out).mono ?_); (case side1 => repeat (first | exact (Kd.R_reads' HO_5.out).2.2 | (with_reducible refine Kd.C_alloc ?_ _) | (with_reducible refine Kd.C_drewN ?_ _) | (with_reducible refine Kd.C_drew ?_))); (case side2 => exact (Kd.R_reads' HO_5.out).2.1); rintro e w101 ⟨rfl, hb⟩; have n0_ := Aside0.mk (Kd.R_below (by (with_reducible repeat (first | apply Kd.R_alloc | apply Kd.R_drewN | apply Kd.R_drew)); exact HO_5.out) hb); have n1_ := Aside0.mk (below_step (by repeat (first | (with_reducible first | exact HB.out | apply below_alloc | apply pw_below_drewN | apply below_drew1) | exact HB.out)) hb); clear HO_5; clear HB; have HO_5 := n0_; have HB := n1_; clear n0_ n1_; (try clear hb); (try clear hb2); (try clear hk); (try clear hi)) | (go_at_call 13; (with_reducible refine (impl_PlayersAt.calls k4 _ _ t515 t575 t578 t579 _ ?side1 ?side2 A93.out).mono ?_); (case side1 => repeat (first | exact (Kd.R_reads' HO_5.out).2.2 | (with_reducible refine Kd.C_alloc ?_ _) | (with_reducible refine Kd.C_drewN ?_ _) | (with_reducible refine Kd.C_drew ?_))); (case side2 => exact (Kd.R_reads' HO_5.out).2.1); rintro e w102 ⟨v580, rfl, ho0, hb⟩; have n0_ := Aside0.mk (Kd.R_below (by (with_reducible repeat (first | apply Kd.R_alloc | apply Kd.R_drewN | apply Kd.R_drew)); exact HO_5.out) hb); have n1_ := Aside0.mk (Kd.R_lower ho0 (below_size (by repeat (first | (with_reducible first | exact HB.out | apply below_alloc | apply pw_below_drewN | apply below_drew1) | exact HB.out)))); have n2_ := Aside0.mk (below_step (by repeat (first | (with_reducible first | exact HB.out | apply below_alloc | apply pw_below_drewN | apply below_drew1) | exact HB.out)) hb); clear HO_5; clear HB; have HO_5 := n0_; have HO581 := n1_; have HB := n2_; clear n0_ n1_ n2_; (try clear hb); (try clear hb2); (try clear hk); (try clear hi); (try clear ho0); obtain ⟨Ao103, co103, eo103⟩ := Kd.R_slice HO581.out; subst eo103)); try go_wp2_with (first | (go_at_call 14; (with_reducible refine (impl_SoloTime.calls k4 _ _ t515 ((rd_T36 t515 0).f0) t573 t574 _ ?side1 ?side2 A91.out).mono ?_); (case side1 => repeat (first | exact (Kd.R_reads' HO_5.out).2.2 | (with_reducible refine Kd.C_alloc ?_ _) | (with_reducible refine Kd.C_drewN ?_ _) | (with_reducible refine Kd.C_drew ?_))); (case side2 => exact (Kd.R_reads' HO_5.out).2.1); rintro e w100 ⟨rfl, hb⟩; have n0_ := Aside0.mk (Kd.R_below (by (with_reducible repeat (first | apply Kd.R_alloc | apply Kd.R_drewN | apply Kd.R_drew)); exact HO_5.out) hb); have n1_ := Aside0.mk (below_step (by repeat (first | (with_reducible first | exact HB.out | apply below_alloc | apply pw_below_drewN | apply below_drew1) | exact HB.out)) hb); clear HO_5; clear HB; have HO_5 := n0_; have HB := n1_; clear n0_ n1_; (try clear hb); (try clear hb2); (try clear hk); (try clear hi)) | (go_at_call 15; (with_reducible refine (impl_FullestTime.calls k4 _ _ t515 t575 t576 t577 _ ?side1 ?side2 A92.out).mono ?_); (case side1 => repeat (first | exact (Kd.R_reads' HO_5.out).2.2 | (with_reducible refine Kd.C_alloc ?_ _) | (with_reducible refine Kd.C_drewN ?_ _) | (with_reducible refine Kd.C_drew ?_))); (case side2 => exact (Kd.R_reads' HO_5.out).2.1); rintro e w101 ⟨rfl, hb⟩; have n0_ := Aside0.mk (Kd.R_below (by (with_reducible repeat (first | apply Kd.R_alloc | apply Kd.R_drewN | apply Kd.R_drew)); exact HO_5.out) hb); have n1_ := Aside0.mk (below_step (by repeat (first | (with_reducible first | exact HB.out | apply below_alloc | apply pw_below_drewN | apply below_drew1) | exact HB.out)) hb); clear HO_5; clear HB; have HO_5 := n0_; have HB := n1_; clear n0_ n1_; (try clear hb); (try clear hb2); (try clear hk); (try clear hi)) | (go_at_call 13; (with_reducible refine (impl_PlayersAt.calls k4 _ _ t515 t575 t578 t579 _ ?side1 ?side2 A93.out).mono ?_); (case side1 => repeat (first | exact (Kd.R_reads' HO_5.out).2.2 | (with_reducible refine Kd.C_alloc ?_ _) | (with_reducible refine Kd.C_drewN ?_ _) | (with_reducible refine Kd.C_drew ?_))); (case side2 => exact (Kd.R_reads' HO_5.out).2.1); rintro e w102 ⟨v580, rfl, ho0, hb⟩; have n0_ := Aside0.mk (Kd.R_below (by (with_reducible repeat (first | apply Kd.R_alloc | apply Kd.R_drewN | apply Kd.R_drew)); exact HO_5.out) hb); have n1_ := Aside0.mk (Kd.R_lower ho0 (below_size (by repeat (first | (with_reducible first | exact HB.out | apply below_alloc | apply pw_below_drewN | apply below_drew1) | exact HB.out)))); have n2_ := Aside0.mk (below_step (by repeat (first | (with_reducible first | exact HB.out | apply below_alloc | apply pw_below_drewN | apply below_drew1) | exact HB.out)) hb); clear HO_5; clear HB; have HO_5 := n0_; have HO581 := n1_; have HB := n2_; clear n0_ n1_ n2_; (try clear hb); (try clear hb2); (try clear hk); (try clear hi); (try clear ho0); obtain ⟨Ao103, co103, eo103⟩ := Kd.R_slice HO581.out; subst eo103)))
 go_ret
 exact ⟨by first | rfl | (simp [errW_none, errW_some] <;> rfl) | (simp [*, errW_none, errW_some] <;> rfl), by repeat (first | (with_reducible first | exact HB.out | apply below_alloc | apply pw_below_drewN | apply below_drew1) | exact HB.out)⟩
 }
 {
 rw [if_neg c99] at H
 exact absurd H (by simp)
 }
 }
 {
 rw [if_neg c98] at H
 exact absurd H (by simp)
 }
 }
 {
 rw [if_neg c97] at H
 exact absurd H (by simp)
 }
 }
 {
 rw [if_neg c96] at H
 exact absurd H (by simp)
 }
 }
 {
 rw [if_neg c95] at H
 exact absurd H (by simp)
 }
 }
 {
 rw [if_neg c94] at H
 exact absurd H (by simp)
 }
 }
  }
  }
 }
 {
 rw [if_neg c86] at H
 exact absurd H (by simp)
 }
 }
 }
  }
  }
 }
 {
 rw [if_neg c59] at H
 exact absurd H (by simp)
 }
 }
  }
  }
 }
  }
  }
 }
/-- THE ONE PURE STATEMENT of laws_FnEnsemble: yours. -/
def laws_FnEnsemble.Pure : Prop := ∀ (l0 : List Int) (l1 : List Int), l0.length ≤ maxLen → l0.length * 1 ≤ 140737488351232 → (∀ x ∈ l0, (Lit.int .u8 x).wf = true) → l1.length ≤ maxLen → l1.length * 1 ≤ 140737488351232 → (∀ x ∈ l1, (Lit.int .u8 x).wf = true) → ∃ k, laws_FnEnsemble.f k l0 l1 = some true
theorem laws_FnEnsemble.walk (P : laws_FnEnsemble.Pure) (a0 : Option Addr) (len0 cap0 : Nat) (z0 : List Int) (a1 : Option Addr) (len1 cap1 : Nat) (z1 : List Int) (w : World) (w0 : (a0 = none ∧ len0 = 0 ∧ cap0 = 0 ∧ z0 = []) ∨ ∃ x, a0 = some x ∧ len0 ≤ cap0 ∧ cap0 ≤ maxLen ∧ z0.length = cap0 ∧ (∀ i, i < z0.length → w.cell? (x.add i) = some (.int .u8 (z0.getD i 0))) ∧ ∀ n ∈ z0, (Lit.int .u8 n).wf = true) (y0 : len0 * 1 ≤ 140737488351232) (w1 : (a1 = none ∧ len1 = 0 ∧ cap1 = 0 ∧ z1 = []) ∨ ∃ x, a1 = some x ∧ len1 ≤ cap1 ∧ cap1 ≤ maxLen ∧ z1.length = cap1 ∧ (∀ i, i < z1.length → w.cell? (x.add i) = some (.int .u8 (z1.getD i 0))) ∧ ∀ n ∈ z1, (Lit.int .u8 n).wf = true) (y1 : len1 * 1 ≤ 140737488351232) :
    Calls Try.prog 3 #[.slice a0 len0 cap0, .slice a1 len1 cap1] w fun e w' => e = .returned (.bool true) ∧ Below w.heap.size w w' := by
  obtain ⟨l0, rfl, hr0, hm0, hw0, hc0⟩ := ReadsInt.ofRowC w0
  obtain ⟨l1, rfl, hr1, hm1, hw1, hc1⟩ := ReadsInt.ofRowC w1
  obtain ⟨k, h⟩ := P l0 l1 hm0 y0 hw0 hm1 y1 hw1
  refine (laws_FnEnsemble.calls k _ _ l0 _ _ l1 true w (Kd.C_of_reads (d := (0 : Int)) (h1 := fun _ => rfl) hr0) hc0 (Kd.C_of_reads (d := (0 : Int)) (h1 := fun _ => rfl) hr1) hc1 h).mono ?_
  rintro e w' ⟨rfl, hd⟩
  exact ⟨rfl, hd⟩
end Go.Proofs.Ytcgkmdmbjffipaa.P
