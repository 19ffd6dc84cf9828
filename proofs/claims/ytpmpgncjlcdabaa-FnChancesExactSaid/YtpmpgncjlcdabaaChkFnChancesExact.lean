/- FnChancesExact: what its loops and joins answer up to 'j6', as a function of its own. Written by our program gen_chk.py. -/
import Derived.Test.YtpmpgncjlcdabaaQx514
namespace Go.Proofs.Ytpmpgncjlcdabaa.L
open Go.RowKit Go.Proofs.Ytpmpgncjlcdabaa.Q Go.Proofs.YtpmpgncjlcdabaaW.PrintWords Go.Proofs.YtpmpgncjlcdabaaW.PrintLast
set_option linter.unusedVariables false
set_option linter.unusedSimpArgs false
mutual
def chk.j0 : Nat → Int → Int → Int → List (S32) → Bool → Int → Bool → Bool → Int → Int → Int → Int → Option Nat
  | 0, _, _, _, _, _, _, _, _, _, _, _, _ => none
  | k + 1, x5, x6, x7, x8, x9, x12, x13, x168, x301000, x301001, x309000, x309001 => if x168 = true then (none) else (if x9 = true then (chk.l0 k x5 x6 x7 x8 x12 x13 0 x8 (x8.length : Int) 0 x301000 x301001 x309000 x309001) else (chk.j4 k x5 x6 x12 x13 x309000 x309001))
def chk.l0 : Nat → Int → Int → Int → List (S32) → Int → Bool → Int → List (S32) → Int → Int → Int → Int → Int → Int → Option Nat
  | 0, _, _, _, _, _, _, _, _, _, _, _, _, _, _ => none
  | k + 1, x5, x6, x7, x8, x12, x13, x24, x170, x171, x172, x301000, x301001, x309000, x309001 => if x172 < x171 then (if 0 ≤ x172 then (if x172 < (x170.length : Int) then ((impl_CountEnds.f k x5 x6 x7 x172).bind fun bt316 => ((impl_CountEnds.f k x5 x6 x172 x7).bind fun bt318 => ((impl_CountEnds.f k x5 x6 (wrap64 ((wrap64 (x5 - 1)) - x7)) (wrap64 ((wrap64 (x5 - 1)) - x172))).bind fun bt320 => ((impl_ChanceOf.f k x5 x6 x7 x172).bind fun bt322 => (if bt316.2 = true then (if bt318.2 = true then (if bt318.1 = bt316.1 then (if bt320.2 = true then (if bt320.1 = bt316.1 then (if bt322.2.2 = true then (if (!(bt322.1 == ((rd_T32 x170 x172).f0)) || (!(bt322.2.1 == ((rd_T32 x170 x172).f1)))) = true then (none) else (if ((rd_T32 x170 x172).f1) < 1 then (none) else (if ((rd_T32 x170 x172).f1) = 0 then (none) else (chk.j2 k x5 x6 x7 x8 x12 x13 x24 bt316.1 x170 x171 x172 ((wrap64 (((rd_T32 x170 x172).f0) * (wrap64 (Int.tdiv x12 ((rd_T32 x170 x172).f1))))) != bt316.1) x301000 x301001 x309000 x309001 ((rd_T32 x170 x172).f0) ((rd_T32 x170 x172).f1))))) else (none)) else (none)) else (none)) else (none)) else (none)) else (none)))))) else (none)) else (none)) else (if x24 = x12 then (if (x8.length : Int) = x5 then (chk.j4 k x5 x6 x12 x13 x309000 x309001) else (none)) else (none))
def chk.j2 : Nat → Int → Int → Int → List (S32) → Int → Bool → Int → Int → List (S32) → Int → Int → Bool → Int → Int → Int → Int → Int → Int → Option Nat
  | 0, _, _, _, _, _, _, _, _, _, _, _, _, _, _, _, _, _, _ => none
  | k + 1, x5, x6, x7, x8, x12, x13, x24, x27, x170, x171, x172, x259, x301000, x301001, x309000, x309001, x316000, x316001 => if x259 = true then (none) else (chk.l1 k x5 x6 x7 x8 x12 x13 x24 x27 x170 x171 x172 x8 (x8.length : Int) 0 x301000 x301001 x309000 x309001 x316000 x316001)
def chk.l1 : Nat → Int → Int → Int → List (S32) → Int → Bool → Int → Int → List (S32) → Int → Int → List (S32) → Int → Int → Int → Int → Int → Int → Int → Int → Option Nat
  | 0, _, _, _, _, _, _, _, _, _, _, _, _, _, _, _, _, _, _, _, _ => none
  | k + 1, x5, x6, x7, x8, x12, x13, x24, x27, x170, x171, x172, x260, x261, x262, x301000, x301001, x309000, x309001, x316000, x316001 => if x262 < x261 then (if 0 ≤ x262 then (if x262 < (x260.length : Int) then (if x316001 = 0 then (none) else (if ((rd_T32 x260 x262).f1) = 0 then (none) else (if x301001 = 0 then (none) else (if (wrap64 ((wrap64 (x316000 * (wrap64 (Int.tdiv x12 x316001)))) - (wrap64 (((rd_T32 x260 x262).f0) * (wrap64 (Int.tdiv x12 ((rd_T32 x260 x262).f1))))))) > (wrap64 (x301000 * (wrap64 (Int.tdiv x12 x301001)))) then (none) else (chk.l1 k x5 x6 x7 x8 x12 x13 x24 x27 x170 x171 x172 x260 x261 (wrap64 (x262 + 1)) x301000 x301001 x309000 x309001 x316000 x316001))))) else (none)) else (none)) else (chk.l0 k x5 x6 x7 x8 x12 x13 (wrap64 (x24 + x27)) x170 x171 (wrap64 (x172 + 1)) x301000 x301001 x309000 x309001)
def chk.j4 : Nat → Int → Int → Int → Bool → Int → Int → Option Nat
  | 0, _, _, _, _, _, _ => none
  | k + 1, x5, x6, x12, x13, x309000, x309001 => if x13 = true then (chk.l2 k x5 x6 x12 0 0 x309000 x309001) else (some k)
def chk.l2 : Nat → Int → Int → Int → Int → Int → Int → Int → Option Nat
  | 0, _, _, _, _, _, _, _ => none
  | k + 1, x5, x6, x12, x38, x39, x309000, x309001 => if x39 < x5 then ((impl_CountEnds.f k x5 x6 x39 x39).bind fun bt328 => (if bt328.2 = true then (chk.l2 k x5 x6 x12 (wrap64 (x38 + bt328.1)) (wrap64 (x39 + 1)) x309000 x309001) else (none))) else (if x309001 = 0 then (none) else (if (wrap64 (x309000 * (wrap64 (Int.tdiv x12 x309001)))) = x38 then (some k) else (none)))
end
def chk.f (k : Nat) (bt282 : Int × Int × Int) : Option Nat := (impl_ChancesFrom.f k bt282.1 bt282.2.1 bt282.2.2).bind fun bt285 => ((spec_ChancesFrom.f k bt282.1 bt282.2.1 bt282.2.2).bind fun bt289 => ((impl_CountLadders.f k bt282.1 bt282.2.1).bind fun bt293 => ((spec_CountLadders.f k bt282.1 bt282.2.1).bind fun bt295 => ((impl_GapOf.f k bt282.1 bt282.2.1).bind fun bt297 => ((spec_GapOf.f k bt282.1 bt282.2.1).bind fun bt301 => ((impl_MeanAtHome.f k bt282.1 bt282.2.1).bind fun bt305 => ((spec_MeanAtHome.f k bt282.1 bt282.2.1).bind fun bt309 => (if (bt285.2 != bt289.2) = true then (none) else ((laws_nRatios.f k bt285.1 bt289.1).bind fun t313 => (if t313 = true then (if (bt293.2 != bt295.2) = true then (none) else (if bt293.1 = bt295.1 then (if (bt297.2.2 != bt301.2.2) = true then (none) else (if (!(bt297.1 == bt301.1) || (!(bt297.2.1 == bt301.2.1))) = true then (none) else (if (bt305.2.2 != bt309.2.2) = true then (none) else (if (!(bt305.1 == bt309.1) || (!(bt305.2.1 == bt309.2.1))) = true then (none) else (if (bt297.2.2 != bt293.2) = true then (none) else (if (bt305.2.2 != bt293.2) = true then (none) else (if bt285.2 = true then (chk.j0 k bt282.1 bt282.2.1 bt282.2.2 bt285.1 bt285.2 bt293.1 bt293.2 (!bt293.2) bt297.1 bt297.2.1 bt305.1 bt305.2.1) else (chk.j0 k bt282.1 bt282.2.1 bt282.2.2 bt285.1 bt285.2 bt293.1 bt293.2 false bt297.1 bt297.2.1 bt305.1 bt305.2.1)))))))) else (none))) else (none)))))))))))
theorem lb_ite {α : Type} {g : Nat → Option α} {c : Prop} [Decidable c] {a b : Option Nat} {a' b' : Option α} (h1 : LeO (a.bind g) a') (h2 : LeO (b.bind g) b') : LeO ((if c then a else b).bind g) (if c then a' else b') := by split <;> assumption
theorem lb_bind {α β : Type} {g : Nat → Option α} {o : Option β} {f : β → Option Nat} {f' : β → Option α} (h : ∀ x, LeO ((f x).bind g) (f' x)) : LeO ((o.bind f).bind g) (o.bind f') := by
  cases o with
  | none => exact LeO.refl _
  | some x => exact h x
theorem lb_none {α : Type} {g : Nat → Option α} (b : Option α) : LeO ((none : Option Nat).bind g) b := LeO.none _
theorem lb_some {α : Type} {g : Nat → Option α} (m : Nat) : LeO ((some m).bind g) (g m) := LeO.refl _
theorem chk_le (x1 : List Int) : ∀ k, (∀ y1 y2 y3 y4 y5 y6 y7 y8 y9 y10 y11 y12, LeO ((chk.j0 k y1 y2 y3 y4 y5 y6 y7 y8 y9 y10 y11 y12).bind (fun m => laws_FnChancesExact.j6 m x1)) (laws_FnChancesExact.j0 k x1 y1 y2 y3 y4 y5 y6 y7 y8 y9 y10 y11 y12)) ∧ (∀ y1 y2 y3 y4 y5 y6 y7 y8 y9 y10 y11 y12 y13 y14, LeO ((chk.l0 k y1 y2 y3 y4 y5 y6 y7 y8 y9 y10 y11 y12 y13 y14).bind (fun m => laws_FnChancesExact.j6 m x1)) (laws_FnChancesExact.l0 k x1 y1 y2 y3 y4 y5 y6 y7 y8 y9 y10 y11 y12 y13 y14)) ∧ (∀ y1 y2 y3 y4 y5 y6 y7 y8 y9 y10 y11 y12 y13 y14 y15 y16 y17 y18, LeO ((chk.j2 k y1 y2 y3 y4 y5 y6 y7 y8 y9 y10 y11 y12 y13 y14 y15 y16 y17 y18).bind (fun m => laws_FnChancesExact.j6 m x1)) (laws_FnChancesExact.j2 k x1 y1 y2 y3 y4 y5 y6 y7 y8 y9 y10 y11 y12 y13 y14 y15 y16 y17 y18)) ∧ (∀ y1 y2 y3 y4 y5 y6 y7 y8 y9 y10 y11 y12 y13 y14 y15 y16 y17 y18 y19 y20, LeO ((chk.l1 k y1 y2 y3 y4 y5 y6 y7 y8 y9 y10 y11 y12 y13 y14 y15 y16 y17 y18 y19 y20).bind (fun m => laws_FnChancesExact.j6 m x1)) (laws_FnChancesExact.l1 k x1 y1 y2 y3 y4 y5 y6 y7 y8 y9 y10 y11 y12 y13 y14 y15 y16 y17 y18 y19 y20)) ∧ (∀ y1 y2 y3 y4 y5 y6, LeO ((chk.j4 k y1 y2 y3 y4 y5 y6).bind (fun m => laws_FnChancesExact.j6 m x1)) (laws_FnChancesExact.j4 k x1 y1 y2 y3 y4 y5 y6)) ∧ (∀ y1 y2 y3 y4 y5 y6 y7, LeO ((chk.l2 k y1 y2 y3 y4 y5 y6 y7).bind (fun m => laws_FnChancesExact.j6 m x1)) (laws_FnChancesExact.l2 k x1 y1 y2 y3 y4 y5 y6 y7))
  | 0 => ⟨fun _ _ _ _ _ _ _ _ _ _ _ _ r h => by simp [chk.j0] at h, fun _ _ _ _ _ _ _ _ _ _ _ _ _ _ r h => by simp [chk.l0] at h, fun _ _ _ _ _ _ _ _ _ _ _ _ _ _ _ _ _ _ r h => by simp [chk.j2] at h, fun _ _ _ _ _ _ _ _ _ _ _ _ _ _ _ _ _ _ _ _ r h => by simp [chk.l1] at h, fun _ _ _ _ _ _ r h => by simp [chk.j4] at h, fun _ _ _ _ _ _ _ r h => by simp [chk.l2] at h⟩
  | k + 1 => by
    obtain ⟨ih0, ih1, ih2, ih3, ih4, ih5⟩ := chk_le x1 k
    refine ⟨?_, ?_, ?_, ?_, ?_, ?_⟩
    · intro y0 y1 y2 y3 y4 y5 y6 y7 y8 y9 y10 y11
      unfold chk.j0 laws_FnChancesExact.j0
      repeat' first
        | (with_reducible exact ih0 _ _ _ _ _ _ _ _ _ _ _ _)
        | (with_reducible exact ih1 _ _ _ _ _ _ _ _ _ _ _ _ _ _)
        | (with_reducible exact ih2 _ _ _ _ _ _ _ _ _ _ _ _ _ _ _ _ _ _)
        | (with_reducible exact ih3 _ _ _ _ _ _ _ _ _ _ _ _ _ _ _ _ _ _ _ _)
        | (with_reducible exact ih4 _ _ _ _ _ _)
        | (with_reducible exact ih5 _ _ _ _ _ _ _)
        | (with_reducible exact lb_some _)
        | (with_reducible exact lb_none _)
        | (with_reducible refine lb_ite ?_ ?_)
        | (with_reducible refine lb_bind (fun _ => ?_))
        | exact ih0 _ _ _ _ _ _ _ _ _ _ _ _
        | exact ih1 _ _ _ _ _ _ _ _ _ _ _ _ _ _
        | exact ih2 _ _ _ _ _ _ _ _ _ _ _ _ _ _ _ _ _ _
        | exact ih3 _ _ _ _ _ _ _ _ _ _ _ _ _ _ _ _ _ _ _ _
        | exact ih4 _ _ _ _ _ _
        | exact ih5 _ _ _ _ _ _ _
        | exact lb_some _
    · intro y0 y1 y2 y3 y4 y5 y6 y7 y8 y9 y10 y11 y12 y13
      unfold chk.l0 laws_FnChancesExact.l0
      repeat' first
        | (with_reducible exact ih0 _ _ _ _ _ _ _ _ _ _ _ _)
        | (with_reducible exact ih1 _ _ _ _ _ _ _ _ _ _ _ _ _ _)
        | (with_reducible exact ih2 _ _ _ _ _ _ _ _ _ _ _ _ _ _ _ _ _ _)
        | (with_reducible exact ih3 _ _ _ _ _ _ _ _ _ _ _ _ _ _ _ _ _ _ _ _)
        | (with_reducible exact ih4 _ _ _ _ _ _)
        | (with_reducible exact ih5 _ _ _ _ _ _ _)
        | (with_reducible exact lb_some _)
        | (with_reducible exact lb_none _)
        | (with_reducible refine lb_ite ?_ ?_)
        | (with_reducible refine lb_bind (fun _ => ?_))
        | exact ih0 _ _ _ _ _ _ _ _ _ _ _ _
        | exact ih1 _ _ _ _ _ _ _ _ _ _ _ _ _ _
        | exact ih2 _ _ _ _ _ _ _ _ _ _ _ _ _ _ _ _ _ _
        | exact ih3 _ _ _ _ _ _ _ _ _ _ _ _ _ _ _ _ _ _ _ _
        | exact ih4 _ _ _ _ _ _
        | exact ih5 _ _ _ _ _ _ _
        | exact lb_some _
    · intro y0 y1 y2 y3 y4 y5 y6 y7 y8 y9 y10 y11 y12 y13 y14 y15 y16 y17
      unfold chk.j2 laws_FnChancesExact.j2
      repeat' first
        | (with_reducible exact ih0 _ _ _ _ _ _ _ _ _ _ _ _)
        | (with_reducible exact ih1 _ _ _ _ _ _ _ _ _ _ _ _ _ _)
        | (with_reducible exact ih2 _ _ _ _ _ _ _ _ _ _ _ _ _ _ _ _ _ _)
        | (with_reducible exact ih3 _ _ _ _ _ _ _ _ _ _ _ _ _ _ _ _ _ _ _ _)
        | (with_reducible exact ih4 _ _ _ _ _ _)
        | (with_reducible exact ih5 _ _ _ _ _ _ _)
        | (with_reducible exact lb_some _)
        | (with_reducible exact lb_none _)
        | (with_reducible refine lb_ite ?_ ?_)
        | (with_reducible refine lb_bind (fun _ => ?_))
        | exact ih0 _ _ _ _ _ _ _ _ _ _ _ _
        | exact ih1 _ _ _ _ _ _ _ _ _ _ _ _ _ _
        | exact ih2 _ _ _ _ _ _ _ _ _ _ _ _ _ _ _ _ _ _
        | exact ih3 _ _ _ _ _ _ _ _ _ _ _ _ _ _ _ _ _ _ _ _
        | exact ih4 _ _ _ _ _ _
        | exact ih5 _ _ _ _ _ _ _
        | exact lb_some _
    · intro y0 y1 y2 y3 y4 y5 y6 y7 y8 y9 y10 y11 y12 y13 y14 y15 y16 y17 y18 y19
      unfold chk.l1 laws_FnChancesExact.l1
      repeat' first
        | (with_reducible exact ih0 _ _ _ _ _ _ _ _ _ _ _ _)
        | (with_reducible exact ih1 _ _ _ _ _ _ _ _ _ _ _ _ _ _)
        | (with_reducible exact ih2 _ _ _ _ _ _ _ _ _ _ _ _ _ _ _ _ _ _)
        | (with_reducible exact ih3 _ _ _ _ _ _ _ _ _ _ _ _ _ _ _ _ _ _ _ _)
        | (with_reducible exact ih4 _ _ _ _ _ _)
        | (with_reducible exact ih5 _ _ _ _ _ _ _)
        | (with_reducible exact lb_some _)
        | (with_reducible exact lb_none _)
        | (with_reducible refine lb_ite ?_ ?_)
        | (with_reducible refine lb_bind (fun _ => ?_))
        | exact ih0 _ _ _ _ _ _ _ _ _ _ _ _
        | exact ih1 _ _ _ _ _ _ _ _ _ _ _ _ _ _
        | exact ih2 _ _ _ _ _ _ _ _ _ _ _ _ _ _ _ _ _ _
        | exact ih3 _ _ _ _ _ _ _ _ _ _ _ _ _ _ _ _ _ _ _ _
        | exact ih4 _ _ _ _ _ _
        | exact ih5 _ _ _ _ _ _ _
        | exact lb_some _
    · intro y0 y1 y2 y3 y4 y5
      unfold chk.j4 laws_FnChancesExact.j4
      repeat' first
        | (with_reducible exact ih0 _ _ _ _ _ _ _ _ _ _ _ _)
        | (with_reducible exact ih1 _ _ _ _ _ _ _ _ _ _ _ _ _ _)
        | (with_reducible exact ih2 _ _ _ _ _ _ _ _ _ _ _ _ _ _ _ _ _ _)
        | (with_reducible exact ih3 _ _ _ _ _ _ _ _ _ _ _ _ _ _ _ _ _ _ _ _)
        | (with_reducible exact ih4 _ _ _ _ _ _)
        | (with_reducible exact ih5 _ _ _ _ _ _ _)
        | (with_reducible exact lb_some _)
        | (with_reducible exact lb_none _)
        | (with_reducible refine lb_ite ?_ ?_)
        | (with_reducible refine lb_bind (fun _ => ?_))
        | exact ih0 _ _ _ _ _ _ _ _ _ _ _ _
        | exact ih1 _ _ _ _ _ _ _ _ _ _ _ _ _ _
        | exact ih2 _ _ _ _ _ _ _ _ _ _ _ _ _ _ _ _ _ _
        | exact ih3 _ _ _ _ _ _ _ _ _ _ _ _ _ _ _ _ _ _ _ _
        | exact ih4 _ _ _ _ _ _
        | exact ih5 _ _ _ _ _ _ _
        | exact lb_some _
    · intro y0 y1 y2 y3 y4 y5 y6
      unfold chk.l2 laws_FnChancesExact.l2
      repeat' first
        | (with_reducible exact ih0 _ _ _ _ _ _ _ _ _ _ _ _)
        | (with_reducible exact ih1 _ _ _ _ _ _ _ _ _ _ _ _ _ _)
        | (with_reducible exact ih2 _ _ _ _ _ _ _ _ _ _ _ _ _ _ _ _ _ _)
        | (with_reducible exact ih3 _ _ _ _ _ _ _ _ _ _ _ _ _ _ _ _ _ _ _ _)
        | (with_reducible exact ih4 _ _ _ _ _ _)
        | (with_reducible exact ih5 _ _ _ _ _ _ _)
        | (with_reducible exact lb_some _)
        | (with_reducible exact lb_none _)
        | (with_reducible refine lb_ite ?_ ?_)
        | (with_reducible refine lb_bind (fun _ => ?_))
        | exact ih0 _ _ _ _ _ _ _ _ _ _ _ _
        | exact ih1 _ _ _ _ _ _ _ _ _ _ _ _ _ _
        | exact ih2 _ _ _ _ _ _ _ _ _ _ _ _ _ _ _ _ _ _
        | exact ih3 _ _ _ _ _ _ _ _ _ _ _ _ _ _ _ _ _ _ _ _
        | exact ih4 _ _ _ _ _ _
        | exact ih5 _ _ _ _ _ _ _
        | exact lb_some _
theorem chk_f (x1 : List Int) (k : Nat) (bt282 : Int × Int × Int) : LeO ((chk.f k bt282).bind (fun m => laws_FnChancesExact.j6 m x1)) ((impl_ChancesFrom.f k bt282.1 bt282.2.1 bt282.2.2).bind fun bt285 => ((spec_ChancesFrom.f k bt282.1 bt282.2.1 bt282.2.2).bind fun bt289 => ((impl_CountLadders.f k bt282.1 bt282.2.1).bind fun bt293 => ((spec_CountLadders.f k bt282.1 bt282.2.1).bind fun bt295 => ((impl_GapOf.f k bt282.1 bt282.2.1).bind fun bt297 => ((spec_GapOf.f k bt282.1 bt282.2.1).bind fun bt301 => ((impl_MeanAtHome.f k bt282.1 bt282.2.1).bind fun bt305 => ((spec_MeanAtHome.f k bt282.1 bt282.2.1).bind fun bt309 => (if (bt285.2 != bt289.2) = true then (none) else ((laws_nRatios.f k bt285.1 bt289.1).bind fun t313 => (if t313 = true then (if (bt293.2 != bt295.2) = true then (none) else (if bt293.1 = bt295.1 then (if (bt297.2.2 != bt301.2.2) = true then (none) else (if (!(bt297.1 == bt301.1) || (!(bt297.2.1 == bt301.2.1))) = true then (none) else (if (bt305.2.2 != bt309.2.2) = true then (none) else (if (!(bt305.1 == bt309.1) || (!(bt305.2.1 == bt309.2.1))) = true then (none) else (if (bt297.2.2 != bt293.2) = true then (none) else (if (bt305.2.2 != bt293.2) = true then (none) else (if bt285.2 = true then (laws_FnChancesExact.j0 k x1 bt282.1 bt282.2.1 bt282.2.2 bt285.1 bt285.2 bt293.1 bt293.2 (!bt293.2) bt297.1 bt297.2.1 bt305.1 bt305.2.1) else (laws_FnChancesExact.j0 k x1 bt282.1 bt282.2.1 bt282.2.2 bt285.1 bt285.2 bt293.1 bt293.2 false bt297.1 bt297.2.1 bt305.1 bt305.2.1)))))))) else (none))) else (none)))))))))))) := by
  obtain ⟨ih0, ih1, ih2, ih3, ih4, ih5⟩ := chk_le x1 k
  unfold chk.f
  repeat' first
    | (with_reducible exact ih0 _ _ _ _ _ _ _ _ _ _ _ _)
    | (with_reducible exact ih1 _ _ _ _ _ _ _ _ _ _ _ _ _ _)
    | (with_reducible exact ih2 _ _ _ _ _ _ _ _ _ _ _ _ _ _ _ _ _ _)
    | (with_reducible exact ih3 _ _ _ _ _ _ _ _ _ _ _ _ _ _ _ _ _ _ _ _)
    | (with_reducible exact ih4 _ _ _ _ _ _)
    | (with_reducible exact ih5 _ _ _ _ _ _ _)
    | (with_reducible exact lb_some _)
    | (with_reducible exact lb_none _)
    | (with_reducible refine lb_ite ?_ ?_)
    | (with_reducible refine lb_bind (fun _ => ?_))
    | exact ih0 _ _ _ _ _ _ _ _ _ _ _ _
    | exact ih1 _ _ _ _ _ _ _ _ _ _ _ _ _ _
    | exact ih2 _ _ _ _ _ _ _ _ _ _ _ _ _ _ _ _ _ _
    | exact ih3 _ _ _ _ _ _ _ _ _ _ _ _ _ _ _ _ _ _ _ _
    | exact ih4 _ _ _ _ _ _
    | exact ih5 _ _ _ _ _ _ _
    | exact lb_some _
end Go.Proofs.Ytpmpgncjlcdabaa.L
