/- Each function below comes to the Lean function beside it (theorems '.calls'); no condition beyond each theorem's own. Written by our program oprint.py over the kit's print. -/
import Derived.Test.YtpmpgncjlcdabaaQx15
import Derived.Test.YtpmpgncjlcdabaaQx0
import Derived.Test.YtpmpgncjlcdabaaQx1
import Derived.Test.YtpmpgncjlcdabaaQx3
import Derived.Test.YtpmpgncjlcdabaaQx6
import Derived.Test.YtpmpgncjlcdabaaQx9
import Derived.Test.YtpmpgncjlcdabaaQx10
import Derived.Test.YtpmpgncjlcdabaaQx11
import Derived.Test.YtpmpgncjlcdabaaQx13
import Derived.Test.YtpmpgncjlcdabaaQx901
namespace Go.Proofs.Ytpmpgncjlcdabaa.Q
open Go.RowKit Go.Proofs.YtpmpgncjlcdabaaW.PrintWords Go.Proofs.YtpmpgncjlcdabaaW.PrintLast Go.Proofs.YtpmpgncjlcdabaaW.PrintMore
attribute [local go_sem] max2_int min2_int max_two min_two max_three min_three max_four min_four   -- for this text's walks alone
set_option linter.unusedVariables false
set_option linter.unusedSimpArgs false

attribute [local go_sem high] eqA32
/-! ### laws_FnChancesExact: function 3 -/
mutual
def laws_FnChancesExact.j0 : Nat → List Int → Int → Int → Int → List (S32) → Bool → Int → Bool → Bool → Int → Int → Int → Int → Option (Bool)
 | 0, _, _, _, _, _, _, _, _, _, _, _, _, _ => none
 | k + 1, x1, x5, x6, x7, x8, x9, x12, x13, x168, x301000, x301001, x309000, x309001 => if x168 = true then (none) else (if x9 = true then (laws_FnChancesExact.l0 k x1 x5 x6 x7 x8 x12 x13 0 x8 (x8.length : Int) 0 x301000 x301001 x309000 x309001) else (laws_FnChancesExact.j4 k x1 x5 x6 x12 x13 x309000 x309001))
def laws_FnChancesExact.j4 : Nat → List Int → Int → Int → Int → Bool → Int → Int → Option (Bool)
 | 0, _, _, _, _, _, _, _ => none
 | k + 1, x1, x5, x6, x12, x13, x309000, x309001 => if x13 = true then (laws_FnChancesExact.l2 k x1 x5 x6 x12 0 0 x309000 x309001) else (laws_FnChancesExact.j6 k x1)
def laws_FnChancesExact.j6 : Nat → List Int → Option (Bool)
 | 0, _ => none
 | k + 1, x1 => (spec_DrawCountEnds.f x1).bind fun bt330 => ((impl_CountEnds.f k bt330.1 bt330.2.1 bt330.2.2.1 bt330.2.2.2).bind fun bt334 => ((spec_CountEnds.f k bt330.1 bt330.2.1 bt330.2.2.1 bt330.2.2.2).bind fun bt336 => ((impl_ChanceOf.f k bt330.1 bt330.2.1 bt330.2.2.1 bt330.2.2.2).bind fun bt338 => ((spec_ChanceOf.f k bt330.1 bt330.2.1 bt330.2.2.1 bt330.2.2.2).bind fun bt342 => (if (bt334.2 == bt336.2) = true then (if bt334.1 = bt336.1 then (if (bt338.2.2 == bt342.2.2) = true then (if (bt338.1 == bt342.1 && (bt338.2.1 == bt342.2.1)) = true then (some (bt338.2.2 == bt334.2)) else (none)) else (none)) else (none)) else (none))))))
def laws_FnChancesExact.l2 : Nat → List Int → Int → Int → Int → Int → Int → Int → Int → Option (Bool)
 | 0, _, _, _, _, _, _, _, _ => none
 | k + 1, x1, x5, x6, x12, x38, x39, x309000, x309001 => if x39 < x5 then ((impl_CountEnds.f k x5 x6 x39 x39).bind fun bt328 => (if bt328.2 = true then (laws_FnChancesExact.l2 k x1 x5 x6 x12 (wrap64 (x38 + bt328.1)) (wrap64 (x39 + 1)) x309000 x309001) else (none))) else (if x309001 = 0 then (none) else (if (wrap64 (x309000 * (wrap64 (Int.tdiv x12 x309001)))) = x38 then (laws_FnChancesExact.j6 k x1) else (none)))
def laws_FnChancesExact.l0 : Nat → List Int → Int → Int → Int → List (S32) → Int → Bool → Int → List (S32) → Int → Int → Int → Int → Int → Int → Option (Bool)
 | 0, _, _, _, _, _, _, _, _, _, _, _, _, _, _, _ => none
 | k + 1, x1, x5, x6, x7, x8, x12, x13, x24, x170, x171, x172, x301000, x301001, x309000, x309001 => if x172 < x171 then (if 0 ≤ x172 then (if x172 < (x170.length : Int) then ((impl_CountEnds.f k x5 x6 x7 x172).bind fun bt316 => ((impl_CountEnds.f k x5 x6 x172 x7).bind fun bt318 => ((impl_CountEnds.f k x5 x6 (wrap64 ((wrap64 (x5 - 1)) - x7)) (wrap64 ((wrap64 (x5 - 1)) - x172))).bind fun bt320 => ((impl_ChanceOf.f k x5 x6 x7 x172).bind fun bt322 => (if bt316.2 = true then (if bt318.2 = true then (if bt318.1 = bt316.1 then (if bt320.2 = true then (if bt320.1 = bt316.1 then (if bt322.2.2 = true then (if (!(bt322.1 == ((rd_T32 x170 x172).f0)) || (!(bt322.2.1 == ((rd_T32 x170 x172).f1)))) = true then (none) else (if ((rd_T32 x170 x172).f1) < 1 then (none) else (if ((rd_T32 x170 x172).f1) = 0 then (none) else (laws_FnChancesExact.j2 k x1 x5 x6 x7 x8 x12 x13 x24 bt316.1 x170 x171 x172 ((wrap64 (((rd_T32 x170 x172).f0) * (wrap64 (Int.tdiv x12 ((rd_T32 x170 x172).f1))))) != bt316.1) x301000 x301001 x309000 x309001 ((rd_T32 x170 x172).f0) ((rd_T32 x170 x172).f1))))) else (none)) else (none)) else (none)) else (none)) else (none)) else (none)))))) else (none)) else (none)) else (if x24 = x12 then (if (x8.length : Int) = x5 then (laws_FnChancesExact.j4 k x1 x5 x6 x12 x13 x309000 x309001) else (none)) else (none))
def laws_FnChancesExact.j2 : Nat → List Int → Int → Int → Int → List (S32) → Int → Bool → Int → Int → List (S32) → Int → Int → Bool → Int → Int → Int → Int → Int → Int → Option (Bool)
 | 0, _, _, _, _, _, _, _, _, _, _, _, _, _, _, _, _, _, _, _ => none
 | k + 1, x1, x5, x6, x7, x8, x12, x13, x24, x27, x170, x171, x172, x259, x301000, x301001, x309000, x309001, x316000, x316001 => if x259 = true then (none) else (laws_FnChancesExact.l1 k x1 x5 x6 x7 x8 x12 x13 x24 x27 x170 x171 x172 x8 (x8.length : Int) 0 x301000 x301001 x309000 x309001 x316000 x316001)
def laws_FnChancesExact.l1 : Nat → List Int → Int → Int → Int → List (S32) → Int → Bool → Int → Int → List (S32) → Int → Int → List (S32) → Int → Int → Int → Int → Int → Int → Int → Int → Option (Bool)
 | 0, _, _, _, _, _, _, _, _, _, _, _, _, _, _, _, _, _, _, _, _, _ => none
 | k + 1, x1, x5, x6, x7, x8, x12, x13, x24, x27, x170, x171, x172, x260, x261, x262, x301000, x301001, x309000, x309001, x316000, x316001 => if x262 < x261 then (if 0 ≤ x262 then (if x262 < (x260.length : Int) then (if x316001 = 0 then (none) else (if ((rd_T32 x260 x262).f1) = 0 then (none) else (if x301001 = 0 then (none) else (if (wrap64 ((wrap64 (x316000 * (wrap64 (Int.tdiv x12 x316001)))) - (wrap64 (((rd_T32 x260 x262).f0) * (wrap64 (Int.tdiv x12 ((rd_T32 x260 x262).f1))))))) > (wrap64 (x301000 * (wrap64 (Int.tdiv x12 x301001)))) then (none) else (laws_FnChancesExact.l1 k x1 x5 x6 x7 x8 x12 x13 x24 x27 x170 x171 x172 x260 x261 (wrap64 (x262 + 1)) x301000 x301001 x309000 x309001 x316000 x316001))))) else (none)) else (none)) else (laws_FnChancesExact.l0 k x1 x5 x6 x7 x8 x12 x13 (wrap64 (x24 + x27)) x170 x171 (wrap64 (x172 + 1)) x301000 x301001 x309000 x309001)
end
def laws_FnChancesExact.f (k : Nat) (l0 : List Int) (l1 : List Int) : Option (Bool) := (laws_big.f l0 l1).bind fun t281 => (if t281 = true then (some true) else ((spec_DrawChancesFrom.f l0).bind fun bt282 => ((impl_ChancesFrom.f k bt282.1 bt282.2.1 bt282.2.2).bind fun bt285 => ((spec_ChancesFrom.f k bt282.1 bt282.2.1 bt282.2.2).bind fun bt289 => ((impl_CountLadders.f k bt282.1 bt282.2.1).bind fun bt293 => ((spec_CountLadders.f k bt282.1 bt282.2.1).bind fun bt295 => ((impl_GapOf.f k bt282.1 bt282.2.1).bind fun bt297 => ((spec_GapOf.f k bt282.1 bt282.2.1).bind fun bt301 => ((impl_MeanAtHome.f k bt282.1 bt282.2.1).bind fun bt305 => ((spec_MeanAtHome.f k bt282.1 bt282.2.1).bind fun bt309 => (if (bt285.2 != bt289.2) = true then (none) else ((laws_nRatios.f k bt285.1 bt289.1).bind fun t313 => (if t313 = true then (if (bt293.2 != bt295.2) = true then (none) else (if bt293.1 = bt295.1 then (if (bt297.2.2 != bt301.2.2) = true then (none) else (if (!(bt297.1 == bt301.1) || (!(bt297.2.1 == bt301.2.1))) = true then (none) else (if (bt305.2.2 != bt309.2.2) = true then (none) else (if (!(bt305.1 == bt309.1) || (!(bt305.2.1 == bt309.2.1))) = true then (none) else (if (bt297.2.2 != bt293.2) = true then (none) else (if (bt305.2.2 != bt293.2) = true then (none) else (if bt285.2 = true then (laws_FnChancesExact.j0 k l1 bt282.1 bt282.2.1 bt282.2.2 bt285.1 bt285.2 bt293.1 bt293.2 (!bt293.2) bt297.1 bt297.2.1 bt305.1 bt305.2.1) else (laws_FnChancesExact.j0 k l1 bt282.1 bt282.2.1 bt282.2.2 bt285.1 bt285.2 bt293.1 bt293.2 false bt297.1 bt297.2.1 bt305.1 bt305.2.1)))))))) else (none))) else (none))))))))))))))
theorem laws_FnChancesExact.mono_l : ∀ k, (∀ y0 y1 y2 y3 y4 y5 y6 y7 y8 y9 y10 y11 y12, LeO (laws_FnChancesExact.j0 k y0 y1 y2 y3 y4 y5 y6 y7 y8 y9 y10 y11 y12) (laws_FnChancesExact.j0 (k + 1) y0 y1 y2 y3 y4 y5 y6 y7 y8 y9 y10 y11 y12)) ∧ (∀ y0 y1 y2 y3 y4 y5 y6, LeO (laws_FnChancesExact.j4 k y0 y1 y2 y3 y4 y5 y6) (laws_FnChancesExact.j4 (k + 1) y0 y1 y2 y3 y4 y5 y6)) ∧ (∀ y0, LeO (laws_FnChancesExact.j6 k y0) (laws_FnChancesExact.j6 (k + 1) y0)) ∧ (∀ y0 y1 y2 y3 y4 y5 y6 y7, LeO (laws_FnChancesExact.l2 k y0 y1 y2 y3 y4 y5 y6 y7) (laws_FnChancesExact.l2 (k + 1) y0 y1 y2 y3 y4 y5 y6 y7)) ∧ (∀ y0 y1 y2 y3 y4 y5 y6 y7 y8 y9 y10 y11 y12 y13 y14, LeO (laws_FnChancesExact.l0 k y0 y1 y2 y3 y4 y5 y6 y7 y8 y9 y10 y11 y12 y13 y14) (laws_FnChancesExact.l0 (k + 1) y0 y1 y2 y3 y4 y5 y6 y7 y8 y9 y10 y11 y12 y13 y14)) ∧ (∀ y0 y1 y2 y3 y4 y5 y6 y7 y8 y9 y10 y11 y12 y13 y14 y15 y16 y17 y18, LeO (laws_FnChancesExact.j2 k y0 y1 y2 y3 y4 y5 y6 y7 y8 y9 y10 y11 y12 y13 y14 y15 y16 y17 y18) (laws_FnChancesExact.j2 (k + 1) y0 y1 y2 y3 y4 y5 y6 y7 y8 y9 y10 y11 y12 y13 y14 y15 y16 y17 y18)) ∧ (∀ y0 y1 y2 y3 y4 y5 y6 y7 y8 y9 y10 y11 y12 y13 y14 y15 y16 y17 y18 y19 y20, LeO (laws_FnChancesExact.l1 k y0 y1 y2 y3 y4 y5 y6 y7 y8 y9 y10 y11 y12 y13 y14 y15 y16 y17 y18 y19 y20) (laws_FnChancesExact.l1 (k + 1) y0 y1 y2 y3 y4 y5 y6 y7 y8 y9 y10 y11 y12 y13 y14 y15 y16 y17 y18 y19 y20))
 | 0 => ⟨fun _ _ _ _ _ _ _ _ _ _ _ _ _ r h => by simp [laws_FnChancesExact.j0] at h, fun _ _ _ _ _ _ _ r h => by simp [laws_FnChancesExact.j4] at h, fun _ r h => by simp [laws_FnChancesExact.j6] at h, fun _ _ _ _ _ _ _ _ r h => by simp [laws_FnChancesExact.l2] at h, fun _ _ _ _ _ _ _ _ _ _ _ _ _ _ _ r h => by simp [laws_FnChancesExact.l0] at h, fun _ _ _ _ _ _ _ _ _ _ _ _ _ _ _ _ _ _ _ r h => by simp [laws_FnChancesExact.j2] at h, fun _ _ _ _ _ _ _ _ _ _ _ _ _ _ _ _ _ _ _ _ _ r h => by simp [laws_FnChancesExact.l1] at h⟩
 | k + 1 => by
  obtain ⟨ih0, ih1, ih2, ih3, ih4, ih5, ih6⟩ := laws_FnChancesExact.mono_l k
  refine ⟨?_, ?_, ?_, ?_, ?_, ?_, ?_⟩
  ·
   intro y0 y1 y2 y3 y4 y5 y6 y7 y8 y9 y10 y11 y12
   unfold laws_FnChancesExact.j0
   repeat' first
   | (with_reducible exact ih0 _ _ _ _ _ _ _ _ _ _ _ _ _)
   | (with_reducible exact ih1 _ _ _ _ _ _ _)
   | (with_reducible exact ih2 _)
   | (with_reducible exact ih3 _ _ _ _ _ _ _ _)
   | (with_reducible exact ih4 _ _ _ _ _ _ _ _ _ _ _ _ _ _ _)
   | (with_reducible exact ih5 _ _ _ _ _ _ _ _ _ _ _ _ _ _ _ _ _ _ _)
   | (with_reducible exact ih6 _ _ _ _ _ _ _ _ _ _ _ _ _ _ _ _ _ _ _ _ _)
   | (with_reducible exact impl_ChanceOf.mono _ _ _ _ _)
   | (with_reducible exact impl_ChancesFrom.mono _ _ _ _)
   | (with_reducible exact impl_CountEnds.mono _ _ _ _ _)
   | (with_reducible exact impl_CountLadders.mono _ _ _)
   | (with_reducible exact impl_GapOf.mono _ _ _)
   | (with_reducible exact impl_MeanAtHome.mono _ _ _)
   | (with_reducible exact laws_nRatios.mono _ _ _)
   | (with_reducible exact spec_ChanceOf.mono _ _ _ _ _)
   | (with_reducible exact spec_ChancesFrom.mono _ _ _ _)
   | (with_reducible exact spec_CountEnds.mono _ _ _ _ _)
   | (with_reducible exact spec_CountLadders.mono _ _ _)
   | (with_reducible exact spec_GapOf.mono _ _ _)
   | (with_reducible exact spec_MeanAtHome.mono _ _ _)
   | (with_reducible exact LeO.refl _)
   | (with_reducible exact LeO.none _)
   | (with_reducible refine LeO.ite ?_ ?_)
   | (with_reducible refine LeO.bind ?_ (fun _ => ?_))
   | exact ih0 _ _ _ _ _ _ _ _ _ _ _ _ _
   | exact ih1 _ _ _ _ _ _ _
   | exact ih2 _
   | exact ih3 _ _ _ _ _ _ _ _
   | exact ih4 _ _ _ _ _ _ _ _ _ _ _ _ _ _ _
   | exact ih5 _ _ _ _ _ _ _ _ _ _ _ _ _ _ _ _ _ _ _
   | exact ih6 _ _ _ _ _ _ _ _ _ _ _ _ _ _ _ _ _ _ _ _ _
   | exact impl_ChanceOf.mono _ _ _ _ _
   | exact impl_ChancesFrom.mono _ _ _ _
   | exact impl_CountEnds.mono _ _ _ _ _
   | exact impl_CountLadders.mono _ _ _
   | exact impl_GapOf.mono _ _ _
   | exact impl_MeanAtHome.mono _ _ _
   | exact laws_nRatios.mono _ _ _
   | exact spec_ChanceOf.mono _ _ _ _ _
   | exact spec_ChancesFrom.mono _ _ _ _
   | exact spec_CountEnds.mono _ _ _ _ _
   | exact spec_CountLadders.mono _ _ _
   | exact spec_GapOf.mono _ _ _
   | exact spec_MeanAtHome.mono _ _ _
   | exact LeO.none _
   | refine LeO.ite ?_ ?_
   | refine LeO.bind ?_ (fun _ => ?_)
  ·
   intro y0 y1 y2 y3 y4 y5 y6
   unfold laws_FnChancesExact.j4
   repeat' first
   | (with_reducible exact ih0 _ _ _ _ _ _ _ _ _ _ _ _ _)
   | (with_reducible exact ih1 _ _ _ _ _ _ _)
   | (with_reducible exact ih2 _)
   | (with_reducible exact ih3 _ _ _ _ _ _ _ _)
   | (with_reducible exact ih4 _ _ _ _ _ _ _ _ _ _ _ _ _ _ _)
   | (with_reducible exact ih5 _ _ _ _ _ _ _ _ _ _ _ _ _ _ _ _ _ _ _)
   | (with_reducible exact ih6 _ _ _ _ _ _ _ _ _ _ _ _ _ _ _ _ _ _ _ _ _)
   | (with_reducible exact impl_ChanceOf.mono _ _ _ _ _)
   | (with_reducible exact impl_ChancesFrom.mono _ _ _ _)
   | (with_reducible exact impl_CountEnds.mono _ _ _ _ _)
   | (with_reducible exact impl_CountLadders.mono _ _ _)
   | (with_reducible exact impl_GapOf.mono _ _ _)
   | (with_reducible exact impl_MeanAtHome.mono _ _ _)
   | (with_reducible exact laws_nRatios.mono _ _ _)
   | (with_reducible exact spec_ChanceOf.mono _ _ _ _ _)
   | (with_reducible exact spec_ChancesFrom.mono _ _ _ _)
   | (with_reducible exact spec_CountEnds.mono _ _ _ _ _)
   | (with_reducible exact spec_CountLadders.mono _ _ _)
   | (with_reducible exact spec_GapOf.mono _ _ _)
   | (with_reducible exact spec_MeanAtHome.mono _ _ _)
   | (with_reducible exact LeO.refl _)
   | (with_reducible exact LeO.none _)
   | (with_reducible refine LeO.ite ?_ ?_)
   | (with_reducible refine LeO.bind ?_ (fun _ => ?_))
   | exact ih0 _ _ _ _ _ _ _ _ _ _ _ _ _
   | exact ih1 _ _ _ _ _ _ _
   | exact ih2 _
   | exact ih3 _ _ _ _ _ _ _ _
   | exact ih4 _ _ _ _ _ _ _ _ _ _ _ _ _ _ _
   | exact ih5 _ _ _ _ _ _ _ _ _ _ _ _ _ _ _ _ _ _ _
   | exact ih6 _ _ _ _ _ _ _ _ _ _ _ _ _ _ _ _ _ _ _ _ _
   | exact impl_ChanceOf.mono _ _ _ _ _
   | exact impl_ChancesFrom.mono _ _ _ _
   | exact impl_CountEnds.mono _ _ _ _ _
   | exact impl_CountLadders.mono _ _ _
   | exact impl_GapOf.mono _ _ _
   | exact impl_MeanAtHome.mono _ _ _
   | exact laws_nRatios.mono _ _ _
   | exact spec_ChanceOf.mono _ _ _ _ _
   | exact spec_ChancesFrom.mono _ _ _ _
   | exact spec_CountEnds.mono _ _ _ _ _
   | exact spec_CountLadders.mono _ _ _
   | exact spec_GapOf.mono _ _ _
   | exact spec_MeanAtHome.mono _ _ _
   | exact LeO.none _
   | refine LeO.ite ?_ ?_
   | refine LeO.bind ?_ (fun _ => ?_)
  ·
   intro y0
   unfold laws_FnChancesExact.j6
   repeat' first
   | (with_reducible exact ih0 _ _ _ _ _ _ _ _ _ _ _ _ _)
   | (with_reducible exact ih1 _ _ _ _ _ _ _)
   | (with_reducible exact ih2 _)
   | (with_reducible exact ih3 _ _ _ _ _ _ _ _)
   | (with_reducible exact ih4 _ _ _ _ _ _ _ _ _ _ _ _ _ _ _)
   | (with_reducible exact ih5 _ _ _ _ _ _ _ _ _ _ _ _ _ _ _ _ _ _ _)
   | (with_reducible exact ih6 _ _ _ _ _ _ _ _ _ _ _ _ _ _ _ _ _ _ _ _ _)
   | (with_reducible exact impl_ChanceOf.mono _ _ _ _ _)
   | (with_reducible exact impl_ChancesFrom.mono _ _ _ _)
   | (with_reducible exact impl_CountEnds.mono _ _ _ _ _)
   | (with_reducible exact impl_CountLadders.mono _ _ _)
   | (with_reducible exact impl_GapOf.mono _ _ _)
   | (with_reducible exact impl_MeanAtHome.mono _ _ _)
   | (with_reducible exact laws_nRatios.mono _ _ _)
   | (with_reducible exact spec_ChanceOf.mono _ _ _ _ _)
   | (with_reducible exact spec_ChancesFrom.mono _ _ _ _)
   | (with_reducible exact spec_CountEnds.mono _ _ _ _ _)
   | (with_reducible exact spec_CountLadders.mono _ _ _)
   | (with_reducible exact spec_GapOf.mono _ _ _)
   | (with_reducible exact spec_MeanAtHome.mono _ _ _)
   | (with_reducible exact LeO.refl _)
   | (with_reducible exact LeO.none _)
   | (with_reducible refine LeO.ite ?_ ?_)
   | (with_reducible refine LeO.bind ?_ (fun _ => ?_))
   | exact ih0 _ _ _ _ _ _ _ _ _ _ _ _ _
   | exact ih1 _ _ _ _ _ _ _
   | exact ih2 _
   | exact ih3 _ _ _ _ _ _ _ _
   | exact ih4 _ _ _ _ _ _ _ _ _ _ _ _ _ _ _
   | exact ih5 _ _ _ _ _ _ _ _ _ _ _ _ _ _ _ _ _ _ _
   | exact ih6 _ _ _ _ _ _ _ _ _ _ _ _ _ _ _ _ _ _ _ _ _
   | exact impl_ChanceOf.mono _ _ _ _ _
   | exact impl_ChancesFrom.mono _ _ _ _
   | exact impl_CountEnds.mono _ _ _ _ _
   | exact impl_CountLadders.mono _ _ _
   | exact impl_GapOf.mono _ _ _
   | exact impl_MeanAtHome.mono _ _ _
   | exact laws_nRatios.mono _ _ _
   | exact spec_ChanceOf.mono _ _ _ _ _
   | exact spec_ChancesFrom.mono _ _ _ _
   | exact spec_CountEnds.mono _ _ _ _ _
   | exact spec_CountLadders.mono _ _ _
   | exact spec_GapOf.mono _ _ _
   | exact spec_MeanAtHome.mono _ _ _
   | exact LeO.none _
   | refine LeO.ite ?_ ?_
   | refine LeO.bind ?_ (fun _ => ?_)
  ·
   intro y0 y1 y2 y3 y4 y5 y6 y7
   unfold laws_FnChancesExact.l2
   repeat' first
   | (with_reducible exact ih0 _ _ _ _ _ _ _ _ _ _ _ _ _)
   | (with_reducible exact ih1 _ _ _ _ _ _ _)
   | (with_reducible exact ih2 _)
   | (with_reducible exact ih3 _ _ _ _ _ _ _ _)
   | (with_reducible exact ih4 _ _ _ _ _ _ _ _ _ _ _ _ _ _ _)
   | (with_reducible exact ih5 _ _ _ _ _ _ _ _ _ _ _ _ _ _ _ _ _ _ _)
   | (with_reducible exact ih6 _ _ _ _ _ _ _ _ _ _ _ _ _ _ _ _ _ _ _ _ _)
   | (with_reducible exact impl_ChanceOf.mono _ _ _ _ _)
   | (with_reducible exact impl_ChancesFrom.mono _ _ _ _)
   | (with_reducible exact impl_CountEnds.mono _ _ _ _ _)
   | (with_reducible exact impl_CountLadders.mono _ _ _)
   | (with_reducible exact impl_GapOf.mono _ _ _)
   | (with_reducible exact impl_MeanAtHome.mono _ _ _)
   | (with_reducible exact laws_nRatios.mono _ _ _)
   | (with_reducible exact spec_ChanceOf.mono _ _ _ _ _)
   | (with_reducible exact spec_ChancesFrom.mono _ _ _ _)
   | (with_reducible exact spec_CountEnds.mono _ _ _ _ _)
   | (with_reducible exact spec_CountLadders.mono _ _ _)
   | (with_reducible exact spec_GapOf.mono _ _ _)
   | (with_reducible exact spec_MeanAtHome.mono _ _ _)
   | (with_reducible exact LeO.refl _)
   | (with_reducible exact LeO.none _)
   | (with_reducible refine LeO.ite ?_ ?_)
   | (with_reducible refine LeO.bind ?_ (fun _ => ?_))
   | exact ih0 _ _ _ _ _ _ _ _ _ _ _ _ _
   | exact ih1 _ _ _ _ _ _ _
   | exact ih2 _
   | exact ih3 _ _ _ _ _ _ _ _
   | exact ih4 _ _ _ _ _ _ _ _ _ _ _ _ _ _ _
   | exact ih5 _ _ _ _ _ _ _ _ _ _ _ _ _ _ _ _ _ _ _
   | exact ih6 _ _ _ _ _ _ _ _ _ _ _ _ _ _ _ _ _ _ _ _ _
   | exact impl_ChanceOf.mono _ _ _ _ _
   | exact impl_ChancesFrom.mono _ _ _ _
   | exact impl_CountEnds.mono _ _ _ _ _
   | exact impl_CountLadders.mono _ _ _
   | exact impl_GapOf.mono _ _ _
   | exact impl_MeanAtHome.mono _ _ _
   | exact laws_nRatios.mono _ _ _
   | exact spec_ChanceOf.mono _ _ _ _ _
   | exact spec_ChancesFrom.mono _ _ _ _
   | exact spec_CountEnds.mono _ _ _ _ _
   | exact spec_CountLadders.mono _ _ _
   | exact spec_GapOf.mono _ _ _
   | exact spec_MeanAtHome.mono _ _ _
   | exact LeO.none _
   | refine LeO.ite ?_ ?_
   | refine LeO.bind ?_ (fun _ => ?_)
  ·
   intro y0 y1 y2 y3 y4 y5 y6 y7 y8 y9 y10 y11 y12 y13 y14
   unfold laws_FnChancesExact.l0
   repeat' first
   | (with_reducible exact ih0 _ _ _ _ _ _ _ _ _ _ _ _ _)
   | (with_reducible exact ih1 _ _ _ _ _ _ _)
   | (with_reducible exact ih2 _)
   | (with_reducible exact ih3 _ _ _ _ _ _ _ _)
   | (with_reducible exact ih4 _ _ _ _ _ _ _ _ _ _ _ _ _ _ _)
   | (with_reducible exact ih5 _ _ _ _ _ _ _ _ _ _ _ _ _ _ _ _ _ _ _)
   | (with_reducible exact ih6 _ _ _ _ _ _ _ _ _ _ _ _ _ _ _ _ _ _ _ _ _)
   | (with_reducible exact impl_ChanceOf.mono _ _ _ _ _)
   | (with_reducible exact impl_ChancesFrom.mono _ _ _ _)
   | (with_reducible exact impl_CountEnds.mono _ _ _ _ _)
   | (with_reducible exact impl_CountLadders.mono _ _ _)
   | (with_reducible exact impl_GapOf.mono _ _ _)
   | (with_reducible exact impl_MeanAtHome.mono _ _ _)
   | (with_reducible exact laws_nRatios.mono _ _ _)
   | (with_reducible exact spec_ChanceOf.mono _ _ _ _ _)
   | (with_reducible exact spec_ChancesFrom.mono _ _ _ _)
   | (with_reducible exact spec_CountEnds.mono _ _ _ _ _)
   | (with_reducible exact spec_CountLadders.mono _ _ _)
   | (with_reducible exact spec_GapOf.mono _ _ _)
   | (with_reducible exact spec_MeanAtHome.mono _ _ _)
   | (with_reducible exact LeO.refl _)
   | (with_reducible exact LeO.none _)
   | (with_reducible refine LeO.ite ?_ ?_)
   | (with_reducible refine LeO.bind ?_ (fun _ => ?_))
   | exact ih0 _ _ _ _ _ _ _ _ _ _ _ _ _
   | exact ih1 _ _ _ _ _ _ _
   | exact ih2 _
   | exact ih3 _ _ _ _ _ _ _ _
   | exact ih4 _ _ _ _ _ _ _ _ _ _ _ _ _ _ _
   | exact ih5 _ _ _ _ _ _ _ _ _ _ _ _ _ _ _ _ _ _ _
   | exact ih6 _ _ _ _ _ _ _ _ _ _ _ _ _ _ _ _ _ _ _ _ _
   | exact impl_ChanceOf.mono _ _ _ _ _
   | exact impl_ChancesFrom.mono _ _ _ _
   | exact impl_CountEnds.mono _ _ _ _ _
   | exact impl_CountLadders.mono _ _ _
   | exact impl_GapOf.mono _ _ _
   | exact impl_MeanAtHome.mono _ _ _
   | exact laws_nRatios.mono _ _ _
   | exact spec_ChanceOf.mono _ _ _ _ _
   | exact spec_ChancesFrom.mono _ _ _ _
   | exact spec_CountEnds.mono _ _ _ _ _
   | exact spec_CountLadders.mono _ _ _
   | exact spec_GapOf.mono _ _ _
   | exact spec_MeanAtHome.mono _ _ _
   | exact LeO.none _
   | refine LeO.ite ?_ ?_
   | refine LeO.bind ?_ (fun _ => ?_)
  ·
   intro y0 y1 y2 y3 y4 y5 y6 y7 y8 y9 y10 y11 y12 y13 y14 y15 y16 y17 y18
   unfold laws_FnChancesExact.j2
   repeat' first
   | (with_reducible exact ih0 _ _ _ _ _ _ _ _ _ _ _ _ _)
   | (with_reducible exact ih1 _ _ _ _ _ _ _)
   | (with_reducible exact ih2 _)
   | (with_reducible exact ih3 _ _ _ _ _ _ _ _)
   | (with_reducible exact ih4 _ _ _ _ _ _ _ _ _ _ _ _ _ _ _)
   | (with_reducible exact ih5 _ _ _ _ _ _ _ _ _ _ _ _ _ _ _ _ _ _ _)
   | (with_reducible exact ih6 _ _ _ _ _ _ _ _ _ _ _ _ _ _ _ _ _ _ _ _ _)
   | (with_reducible exact impl_ChanceOf.mono _ _ _ _ _)
   | (with_reducible exact impl_ChancesFrom.mono _ _ _ _)
   | (with_reducible exact impl_CountEnds.mono _ _ _ _ _)
   | (with_reducible exact impl_CountLadders.mono _ _ _)
   | (with_reducible exact impl_GapOf.mono _ _ _)
   | (with_reducible exact impl_MeanAtHome.mono _ _ _)
   | (with_reducible exact laws_nRatios.mono _ _ _)
   | (with_reducible exact spec_ChanceOf.mono _ _ _ _ _)
   | (with_reducible exact spec_ChancesFrom.mono _ _ _ _)
   | (with_reducible exact spec_CountEnds.mono _ _ _ _ _)
   | (with_reducible exact spec_CountLadders.mono _ _ _)
   | (with_reducible exact spec_GapOf.mono _ _ _)
   | (with_reducible exact spec_MeanAtHome.mono _ _ _)
   | (with_reducible exact LeO.refl _)
   | (with_reducible exact LeO.none _)
   | (with_reducible refine LeO.ite ?_ ?_)
   | (with_reducible refine LeO.bind ?_ (fun _ => ?_))
   | exact ih0 _ _ _ _ _ _ _ _ _ _ _ _ _
   | exact ih1 _ _ _ _ _ _ _
   | exact ih2 _
   | exact ih3 _ _ _ _ _ _ _ _
   | exact ih4 _ _ _ _ _ _ _ _ _ _ _ _ _ _ _
   | exact ih5 _ _ _ _ _ _ _ _ _ _ _ _ _ _ _ _ _ _ _
   | exact ih6 _ _ _ _ _ _ _ _ _ _ _ _ _ _ _ _ _ _ _ _ _
   | exact impl_ChanceOf.mono _ _ _ _ _
   | exact impl_ChancesFrom.mono _ _ _ _
   | exact impl_CountEnds.mono _ _ _ _ _
   | exact impl_CountLadders.mono _ _ _
   | exact impl_GapOf.mono _ _ _
   | exact impl_MeanAtHome.mono _ _ _
   | exact laws_nRatios.mono _ _ _
   | exact spec_ChanceOf.mono _ _ _ _ _
   | exact spec_ChancesFrom.mono _ _ _ _
   | exact spec_CountEnds.mono _ _ _ _ _
   | exact spec_CountLadders.mono _ _ _
   | exact spec_GapOf.mono _ _ _
   | exact spec_MeanAtHome.mono _ _ _
   | exact LeO.none _
   | refine LeO.ite ?_ ?_
   | refine LeO.bind ?_ (fun _ => ?_)
  ·
   intro y0 y1 y2 y3 y4 y5 y6 y7 y8 y9 y10 y11 y12 y13 y14 y15 y16 y17 y18 y19 y20
   unfold laws_FnChancesExact.l1
   repeat' first
   | (with_reducible exact ih0 _ _ _ _ _ _ _ _ _ _ _ _ _)
   | (with_reducible exact ih1 _ _ _ _ _ _ _)
   | (with_reducible exact ih2 _)
   | (with_reducible exact ih3 _ _ _ _ _ _ _ _)
   | (with_reducible exact ih4 _ _ _ _ _ _ _ _ _ _ _ _ _ _ _)
   | (with_reducible exact ih5 _ _ _ _ _ _ _ _ _ _ _ _ _ _ _ _ _ _ _)
   | (with_reducible exact ih6 _ _ _ _ _ _ _ _ _ _ _ _ _ _ _ _ _ _ _ _ _)
   | (with_reducible exact impl_ChanceOf.mono _ _ _ _ _)
   | (with_reducible exact impl_ChancesFrom.mono _ _ _ _)
   | (with_reducible exact impl_CountEnds.mono _ _ _ _ _)
   | (with_reducible exact impl_CountLadders.mono _ _ _)
   | (with_reducible exact impl_GapOf.mono _ _ _)
   | (with_reducible exact impl_MeanAtHome.mono _ _ _)
   | (with_reducible exact laws_nRatios.mono _ _ _)
   | (with_reducible exact spec_ChanceOf.mono _ _ _ _ _)
   | (with_reducible exact spec_ChancesFrom.mono _ _ _ _)
   | (with_reducible exact spec_CountEnds.mono _ _ _ _ _)
   | (with_reducible exact spec_CountLadders.mono _ _ _)
   | (with_reducible exact spec_GapOf.mono _ _ _)
   | (with_reducible exact spec_MeanAtHome.mono _ _ _)
   | (with_reducible exact LeO.refl _)
   | (with_reducible exact LeO.none _)
   | (with_reducible refine LeO.ite ?_ ?_)
   | (with_reducible refine LeO.bind ?_ (fun _ => ?_))
   | exact ih0 _ _ _ _ _ _ _ _ _ _ _ _ _
   | exact ih1 _ _ _ _ _ _ _
   | exact ih2 _
   | exact ih3 _ _ _ _ _ _ _ _
   | exact ih4 _ _ _ _ _ _ _ _ _ _ _ _ _ _ _
   | exact ih5 _ _ _ _ _ _ _ _ _ _ _ _ _ _ _ _ _ _ _
   | exact ih6 _ _ _ _ _ _ _ _ _ _ _ _ _ _ _ _ _ _ _ _ _
   | exact impl_ChanceOf.mono _ _ _ _ _
   | exact impl_ChancesFrom.mono _ _ _ _
   | exact impl_CountEnds.mono _ _ _ _ _
   | exact impl_CountLadders.mono _ _ _
   | exact impl_GapOf.mono _ _ _
   | exact impl_MeanAtHome.mono _ _ _
   | exact laws_nRatios.mono _ _ _
   | exact spec_ChanceOf.mono _ _ _ _ _
   | exact spec_ChancesFrom.mono _ _ _ _
   | exact spec_CountEnds.mono _ _ _ _ _
   | exact spec_CountLadders.mono _ _ _
   | exact spec_GapOf.mono _ _ _
   | exact spec_MeanAtHome.mono _ _ _
   | exact LeO.none _
   | refine LeO.ite ?_ ?_
   | refine LeO.bind ?_ (fun _ => ?_)
theorem laws_FnChancesExact.mono : ∀ a0 a1 k, LeO (laws_FnChancesExact.f k a0 a1) (laws_FnChancesExact.f (k + 1) a0 a1) := by
 intro a0 a1 k
 obtain ⟨ih0, ih1, ih2, ih3, ih4, ih5, ih6⟩ := laws_FnChancesExact.mono_l k
 unfold laws_FnChancesExact.f
 repeat' first
   | (with_reducible exact ih0 _ _ _ _ _ _ _ _ _ _ _ _ _)
   | (with_reducible exact ih1 _ _ _ _ _ _ _)
   | (with_reducible exact ih2 _)
   | (with_reducible exact ih3 _ _ _ _ _ _ _ _)
   | (with_reducible exact ih4 _ _ _ _ _ _ _ _ _ _ _ _ _ _ _)
   | (with_reducible exact ih5 _ _ _ _ _ _ _ _ _ _ _ _ _ _ _ _ _ _ _)
   | (with_reducible exact ih6 _ _ _ _ _ _ _ _ _ _ _ _ _ _ _ _ _ _ _ _ _)
   | (with_reducible exact impl_ChanceOf.mono _ _ _ _ _)
   | (with_reducible exact impl_ChancesFrom.mono _ _ _ _)
   | (with_reducible exact impl_CountEnds.mono _ _ _ _ _)
   | (with_reducible exact impl_CountLadders.mono _ _ _)
   | (with_reducible exact impl_GapOf.mono _ _ _)
   | (with_reducible exact impl_MeanAtHome.mono _ _ _)
   | (with_reducible exact laws_nRatios.mono _ _ _)
   | (with_reducible exact spec_ChanceOf.mono _ _ _ _ _)
   | (with_reducible exact spec_ChancesFrom.mono _ _ _ _)
   | (with_reducible exact spec_CountEnds.mono _ _ _ _ _)
   | (with_reducible exact spec_CountLadders.mono _ _ _)
   | (with_reducible exact spec_GapOf.mono _ _ _)
   | (with_reducible exact spec_MeanAtHome.mono _ _ _)
   | (with_reducible exact LeO.refl _)
   | (with_reducible exact LeO.none _)
   | (with_reducible refine LeO.ite ?_ ?_)
   | (with_reducible refine LeO.bind ?_ (fun _ => ?_))
   | exact ih0 _ _ _ _ _ _ _ _ _ _ _ _ _
   | exact ih1 _ _ _ _ _ _ _
   | exact ih2 _
   | exact ih3 _ _ _ _ _ _ _ _
   | exact ih4 _ _ _ _ _ _ _ _ _ _ _ _ _ _ _
   | exact ih5 _ _ _ _ _ _ _ _ _ _ _ _ _ _ _ _ _ _ _
   | exact ih6 _ _ _ _ _ _ _ _ _ _ _ _ _ _ _ _ _ _ _ _ _
   | exact impl_ChanceOf.mono _ _ _ _ _
   | exact impl_ChancesFrom.mono _ _ _ _
   | exact impl_CountEnds.mono _ _ _ _ _
   | exact impl_CountLadders.mono _ _ _
   | exact impl_GapOf.mono _ _ _
   | exact impl_MeanAtHome.mono _ _ _
   | exact laws_nRatios.mono _ _ _
   | exact spec_ChanceOf.mono _ _ _ _ _
   | exact spec_ChancesFrom.mono _ _ _ _
   | exact spec_CountEnds.mono _ _ _ _ _
   | exact spec_CountLadders.mono _ _ _
   | exact spec_GapOf.mono _ _ _
   | exact spec_MeanAtHome.mono _ _ _
   | exact LeO.none _
   | refine LeO.ite ?_ ?_
   | refine LeO.bind ?_ (fun _ => ?_)

end Go.Proofs.Ytpmpgncjlcdabaa.Q
