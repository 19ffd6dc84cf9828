/- Each function below comes to the Lean function beside it (theorems '.calls'); no condition beyond each theorem's own. Written by our program oprint.py over the kit's print. -/
import Derived.Test.YtabobnlpcapohaaQm0
import Derived.Test.YtabobnlpcapohaaQm2
import Derived.Test.YtabobnlpcapohaaQm3
import Derived.Shelf.Slices.Delete
import Derived.Shelf.Slices.Cells
import Derived.Ground.Names2Prog
import Derived.Laws.EntriesVeiled
import Derived.Shelf.Abstract
import Derived.Deep.RegionHeld3
import Derived.Deep.QuietTactic
import Derived.BigQuiet
import Derived.WalkSpells
import Derived.RegionTactic
import Derived.Maps.OwnOps
namespace Go.Proofs.Ytabobnlpcapohaa.Q
open Go.RowKit Go.Proofs.YtabobnlpcapohaaW.PrintWords Go.Proofs.YtabobnlpcapohaaW.PrintLast Go.Proofs.YtabobnlpcapohaaW.PrintMore
attribute [local go_sem] max2_int min2_int max_two min_two max_three min_three max_four min_four
set_option linter.unusedVariables false
set_option linter.unusedSimpArgs false

def impl_exchanged.f (l0 : List Int) (a1 : Int) : Option (List Int) := (slices_Clone_int_int.f l0).bind fun t338 => (if 0 ≤ (wrap64 (a1 + 1)) then (if (wrap64 (a1 + 1)) < (t338.length : Int) then (if 0 ≤ a1 then (if a1 < (t338.length : Int) then (some ((t338.set (a1 : Int).toNat (rd t338 (wrap64 (a1 + 1)))).set ((wrap64 (a1 + 1)) : Int).toNat (rd t338 a1))) else (none)) else (none)) else (none)) else (none))
def impl_exchanged.T2 : Bool × List (List Nat × List Nat) := (true, [([], []), ([], []), ([], []), ([], []), ([3], [3]), ([], []), ([], []), ([6], [6]), ([5, 7], [5, 7]), ([8], [8]), ([], []), ([], []), ([10, 11], [10, 11]), ([12], [12]), ([0, 1, 0, 1, 5, 6, 7, 8, 9, 13], [0, 1]), ([14, 9, 0, 1, 5, 6, 7, 8, 9, 13], [9, 14]), ([2, 4, 0, 1, 2, 3, 4, 5, 6, 7, 8, 9, 10, 11, 12, 13, 14, 15], [2, 4]), ([16, 13, 15, 0, 1, 2, 3, 4, 5, 6, 7, 8, 9, 10, 11, 12, 13, 14, 15], [13, 16])])
def impl_exchanged.B2 : List Nat := [0, 0, 0, 0, 8, 0, 0, 64, 224, 480, 0, 0, 3072, 7168, 16355, 32739, 65535, 131071]
theorem impl_exchanged.tab2 : rtab .any (opsOf Try.f73 2) = impl_exchanged.T2 := by kernel_rfl
theorem impl_exchanged.bits2 : waitsOk impl_exchanged.T2.2 impl_exchanged.B2 = true := by kernel_rfl
set_option maxHeartbeats 8000000 in
set_option maxRecDepth 100000 in
theorem impl_exchanged.calls (A0 : Option Addr) (c0 : Nat) (l0 : List Int) (a1 : Int) (r : List Int) (w : World) (hr0 : Kd.C (Kd.int .i64) w A0 l0.length l0) (hc0 : l0.length ≤ c0) (h : impl_exchanged.f l0 a1 = some r) :
  Calls Try.prog 73 #[.slice A0 l0.length c0, .int .i64 a1] w fun e w' => ∃ v0_ : Value, e = .returned (v0_) ∧ Kd.R (Kd.int .i64) 3 w' w.heap.size (fun _ => True) v0_ r ∧ Below w.heap.size w w' := by
 (have HR0 := Aside0.mk hr0; have HC0 := Aside0.mk hc0; clear hr0 hc0; have HB := Zm (Below.refl w.heap.size w); have H : ((slices_Clone_int_int.f l0).bind fun t338 => (if 0 ≤ (wrap64 (a1 + 1)) then (if (wrap64 (a1 + 1)) < (t338.length : Int) then (if 0 ≤ a1 then (if a1 < (t338.length : Int) then (some ((t338.set (a1 : Int).toNat (rd t338 (wrap64 (a1 + 1)))).set ((wrap64 (a1 + 1)) : Int).toNat (rd t338 a1))) else (none)) else (none)) else (none)) else (none))) = some r := h; clear h); replace H := Option.bind_eq_some_iff.mp H; obtain ⟨t338, A30, H⟩ := H; (try dsimp only at H); have A3 := Aside0.mk A30; clear A30; obtain ⟨ji4, hji4⟩ : ∃ j_ : Int, (wrap64 (a1 + 1)) = j_ := ⟨_, rfl⟩; (replace H : (if 0 ≤ (ji4) then (if (ji4) < (t338.length : Int) then (if 0 ≤ a1 then (if a1 < (t338.length : Int) then (some ((t338.set (a1 : Int).toNat (rd t338 (ji4))).set ((ji4) : Int).toNat (rd t338 a1))) else (none)) else (none)) else (none)) else (none)) = some r := by first | (rw [hji4] at H; exact H) | (simp only [hji4] at H ⊢; exact H))
 (try rw [hji4] at A3)
 have hji4w : (IntKind.i64.wrap (a1 + 1)) = ji4 := (i64_w _).trans hji4
 by_cases c5 : 0 ≤ (ji4)
 ·
  rw [if_pos c5] at H; have c5b0 : decide (0 ≤ (ji4)) = true := decide_eq_true c5; clear c5
  by_cases c6 : (ji4) < (t338.length : Int)
  ·
   rw [if_pos c6] at H; have c6b0 : decide ((ji4) < (t338.length : Int)) = true := decide_eq_true c6; clear c6
   by_cases c7 : 0 ≤ a1
   ·
    rw [if_pos c7] at H; have c7b0 : decide (0 ≤ a1) = true := decide_eq_true c7; clear c7
    by_cases c8 : a1 < (t338.length : Int)
    ·
     rw [if_pos c8] at H; have c8b0 : decide (a1 < (t338.length : Int)) = true := decide_eq_true c8; clear c8; obtain ⟨y343, hy343⟩ : ∃ y_ : List Int, y_ = (t338.set (a1 : Int).toNat (rd t338 (ji4))) := ⟨_, rfl⟩; (replace H : (some (y343.set ((ji4) : Int).toNat (rd t338 a1))) = some r := by first | (rw [hy343]; with_reducible exact H) | (have H2_ := (Option.bind_some _ _).symm.trans H; rw [hy343]; with_reducible exact H2_) | (have H2_ := (Option.bind_some _ _).symm.trans H; with_reducible exact H2_) | with_reducible exact H | (rw [hy343]; exact H) | exact H)
     have Ny343 := Aside0.mk hy343; clear hy343
     obtain ⟨y344, hy344⟩ : ∃ y_ : List Int, y_ = (y343.set ((ji4) : Int).toNat (rd t338 a1)) := ⟨_, rfl⟩; (replace H : (some y344) = some r := by first | (rw [hy344]; with_reducible exact H) | (have H2_ := (Option.bind_some _ _).symm.trans H; rw [hy344]; with_reducible exact H2_) | (have H2_ := (Option.bind_some _ _).symm.trans H; with_reducible exact H2_) | with_reducible exact H | (rw [hy344]; exact H) | exact H)
     have Ny344 := Aside0.mk hy344; clear hy344
     obtain rfl := Option.some.inj H
     go_enter Try.func73, Try.ntmps73
     try go_wp2_with (first | ((with_reducible refine gate_callee (f := 75) rfl ?_); refine Ga (some 7) Try.func75 #[.slice A0 l0.length c0] (h := ?_); (with_reducible refine (slices_Clone_int_int.calls _ _ l0 t338 _ ?side1 ?side2 A3.out).mono ?_); (case side1 => repeat (first | exact HR0.out | (with_reducible refine Kd.C_alloc ?_ _) | (with_reducible refine Kd.C_drewN ?_ _) | (with_reducible refine Kd.C_drew ?_))); (case side2 => exact HC0.out); rintro e w11 ⟨v339, rfl, ho0, hb⟩; refine ⟨_, rfl, ?_⟩; have HO340 := Zj ho0 HB; replace HB := Zh HB hb; (try clear hb); (try clear ho0)))
     replace HO340 := Zm (Kd.R_drew HO340.out); replace HB := Zm (below_drew1 HB.out)
     obtain ⟨Ao13, co13, eo13⟩ := Kd.R_slice HO340.out
     (first | subst eo13 | (injection eo13 with f1_ f2_ f3_; have f4_ := f1_.symm; have f5_ := f3_.symm; clear f1_ f2_ f3_; subst f4_; subst f5_))
     have p341 : 0 ≤ ((ji4) : Int) := of_decide_eq_true (by first | (with_reducible assumption) | assumption); have q341 : (ji4) < (t338.length : Int) := of_decide_eq_true (by first | (with_reducible assumption) | assumption)
     obtain ⟨ad341, e341, hx341_0⟩ := Kd.at_int (Kd.R_reads' HO340.out).2.2 (ji4) p341 q341
     cases e341
     replace p341 := eq_true p341
     replace q341 := eq_true q341
     have p342 : 0 ≤ (a1 : Int) := of_decide_eq_true (by first | (with_reducible assumption) | assumption); have q342 : a1 < (t338.length : Int) := of_decide_eq_true (by first | (with_reducible assumption) | assumption)
     obtain ⟨ad342, e342, hx342_0⟩ := Kd.at_int (Kd.R_reads' HO340.out).2.2 a1 p342 q342; obtain rfl : ad341 = ad342 := (by injection e342)
     replace p342 := eq_true p342
     replace q342 := eq_true q342
     have p9 : 0 ≤ (a1 : Int) := of_decide_eq_true (by first | (with_reducible assumption) | assumption); have q9 : (a1 : Int) < ((t338.length : Int) : Int) := of_decide_eq_true (by first | (with_reducible assumption) | assumption)
     obtain ⟨go9, co9, eo9, gb9, gl9, cl9, HG9⟩ := Kd.R_form HO340.out (by omega)
     (first | cases eo9 | (injection eo9 with ea_ en_ ec_; (first | subst ea_ | (injection ea_ with ea_; subst ea_)); subst ec_; clear en_))
     have GB9 := Aside0.mk gb9; have GG9 := Aside0.mk HG9; clear gb9 gl9 HG9
     (first | simp only [add_plain] at hx341_0 | skip)
     (first | simp only [add_plain] at hx342_0 | skip)
     obtain ⟨hx9_0, hf9_0⟩ := Kd.R_celln 0 HO340.out (a1 : Int) p9 q9
     replace p9 := eq_true p9
     replace q9 := eq_true q9
     have HP14 := Kd.R_putn HO340.out (a1 : Int) (rd t338 (ji4))
     rw [← Ny343.out] at HP14
     have HQ14 := Aside0.mk HP14; clear HP14; have p10 : 0 ≤ ((ji4) : Int) := of_decide_eq_true (by first | (with_reducible assumption) | assumption); have q10 : ((ji4) : Int) < ((t338.length : Int) : Int) := of_decide_eq_true (by first | (with_reducible assumption) | assumption)
     obtain ⟨hx10_0, hf10_0⟩ := Kd.R_celln 0 HQ14.out ((ji4) : Int) p10 q10
     replace p10 := eq_true p10
     replace q10 := eq_true q10
     have HP15 := Kd.R_putn HQ14.out ((ji4) : Int) (rd t338 a1)
     rw [← Ny344.out] at HP15
     have HQ15 := Aside0.mk HP15; clear HP15
     refine start_ (n := 18) (S := fun w' => w'.cell? ⟨go9, ((ji4)).toNat, none⟩ = some (.int .i64 (rd t338 (ji4))) ∧ w'.cell? ⟨go9, (a1).toNat, none⟩ = some (.int .i64 (rd t338 a1))) (ds := [15, 17]) (fl 18 0) (by kernel_rfl) rfl rfl ⟨hx341_0, hx342_0⟩ (fun hHeld => ?_); refine with_tabW impl_exchanged.tab2 impl_exchanged.bits2 (fun HT_ HW_ => ?_)
     generalize w11.drew = w12 at HO340 HB GG9 HQ14 HQ15 hf10_0 hf9_0 hx10_0 hx341_0 hx342_0 hx9_0 hHeld ⊢; refine Yu 0 8 (fl 18 1) HT_ (h := ?_); refine Yu 1 9 (fl 18 3) HT_ (h := ?_); refine Yu 2 10 (fl 18 7) HT_ (h := ?_); refine Yu 3 11 (fl 18 15) HT_ (h := ?_); refine Yu 4 12 (fl 18 31) HT_ (h := ?_); refine Yu 5 13 (fl 18 63) HT_ (h := ?_); refine Yu 6 14 (fl 18 127) HT_ (h := ?_); refine Yu 7 15 (fl 18 255) HT_ (h := ?_); refine Yu 8 16 (fl 18 511) HT_ (h := ?_); refine Yu 10 18 (fl 18 1535) HT_ (h := ?_); refine Yu 11 19 (fl 18 3583) HT_ (h := ?_); refine Yu 12 20 (fl 18 7679) HT_ (h := ?_); refine Yt 9 17 (fl 18 8191) HT_ HW_ hHeld (h := ?_); refine Yt 13 21 (fl 18 16383) HT_ HW_ hHeld (h := ?_); refine Yu 14 22 (fl 18 32767) HT_ (h := ?_)
     refine last_ (i := 15) (N := none) (fl 18 65535) rfl rfl (one_of HT_.out (by kernel_rfl)) (by decide) (fun K hK => ?_)
     refine skip_ (w1 := ?_) (by rfl) rfl ?_ ?_
     rotate_left
     ·
      go_simp
      rfl
     refine hK.out _ _ ?_
     clear hK K; refine Yu 16 23 (fl 18 131071) HT_ (h := ?_)
     refine last_ (i := 17) (N := none) (fl 18 262143) rfl rfl (one_of HT_.out (by kernel_rfl)) (by decide) (fun K hK => ?_)
     refine skip_ (w1 := ?_) (by rfl) rfl ?_ ?_
     rotate_left
     ·
      go_simp
      rfl
     refine hK.out _ _ ?_
     clear hK K
     refine done_ (done_of HT_.out (by kernel_rfl)) ?_
     try go_wp2
     go_ret
     exact ⟨_, by first | rfl | (simp [errW_none, errW_some] <;> rfl) | (simp only [← hji4]; first | rfl | (simp [errW_none, errW_some] <;> rfl)) | (simp [*, errW_none, errW_some] <;> rfl), Zr HQ15, by repeat (first | (with_reducible first | exact HB.out | apply below_alloc | apply pw_below_drewN | apply below_drew1 | refine below_set ?_ GB9.out | refine below_set ?_ GB9.out) | exact HB.out)⟩
    ·
     rw [if_neg c8] at H
     exact absurd H (by simp)
   ·
    rw [if_neg c7] at H
    exact absurd H (by simp)
  ·
   rw [if_neg c6] at H
   exact absurd H (by simp)
 ·
  rw [if_neg c5] at H
  exact absurd H (by simp)

def impl_back.l0 : Nat → List Int → List Int → Int → Int → Option (List Int)
 | 0, _, _, _, _ => none
 | k + 1, x3, x9, x10, x11 => if x11 < x10 then (if 0 ≤ x11 then (if x11 < (x9.length : Int) then (if 0 ≤ (rd x9 x11) then (if (rd x9 x11) < (x3.length : Int) then (impl_back.l0 k (x3.set ((rd x9 x11) : Int).toNat x11) x9 x10 (wrap64 (x11 + 1))) else (none)) else (none)) else (none)) else (none)) else (some x3)
def impl_back.f (k : Nat) (l0 : List Int) : Option (List Int) := if 0 ≤ (l0.length : Int) then (if ((l0.length : Int) : Int).toNat ≤ 35184372088832 then (impl_back.l0 k (List.replicate ((l0.length : Int) : Int).toNat 0) l0 (l0.length : Int) 0) else (none)) else (none)
theorem impl_back.mono_l : ∀ k, (∀ y0 y1 y2 y3, LeO (impl_back.l0 k y0 y1 y2 y3) (impl_back.l0 (k + 1) y0 y1 y2 y3))
 | 0 => fun _ _ _ _ r h => by simp [impl_back.l0] at h
 | k + 1 => by
  have ih0 := impl_back.mono_l k
  ·
   intro y0 y1 y2 y3
   unfold impl_back.l0
   repeat' first
   | (with_reducible exact ih0 _ _ _ _)
   | (with_reducible exact LeO.refl _)
   | (with_reducible exact LeO.none _)
   | (with_reducible refine LeO.ite ?_ ?_)
   | (with_reducible refine LeO.bind ?_ (fun _ => ?_))
   | exact ih0 _ _ _ _
   | exact LeO.none _
   | refine LeO.ite ?_ ?_
   | refine LeO.bind ?_ (fun _ => ?_)
theorem impl_back.mono : ∀ a0 k, LeO (impl_back.f k a0) (impl_back.f (k + 1) a0) := by
 intro a0 k
 have ih0 := impl_back.mono_l k
 unfold impl_back.f
 repeat' first
   | (with_reducible exact ih0 _ _ _ _)
   | (with_reducible exact LeO.refl _)
   | (with_reducible exact LeO.none _)
   | (with_reducible refine LeO.ite ?_ ?_)
   | (with_reducible refine LeO.bind ?_ (fun _ => ?_))
   | exact ih0 _ _ _ _
   | exact LeO.none _
   | refine LeO.ite ?_ ?_
   | refine LeO.bind ?_ (fun _ => ?_)
set_option maxHeartbeats 8000000 in
set_option maxRecDepth 100000 in
theorem impl_back.calls (k : Nat) (A0 : Option Addr) (c0 : Nat) (l0 : List Int) (r : List Int) (w : World) (hr0 : Kd.C (Kd.int .i64) w A0 l0.length l0) (hc0 : l0.length ≤ c0) (h : impl_back.f k l0 = some r) :
  Calls Try.prog 50 #[.slice A0 l0.length c0] w fun e w' => ∃ v0_ : Value, e = .returned (v0_) ∧ Kd.R (Kd.int .i64) 3 w' w.heap.size (fun _ => True) v0_ r ∧ Below w.heap.size w w' := by
 have HR0 := Aside0.mk hr0; have HC0 := Aside0.mk hc0; clear hr0 hc0; have HB := Zm (Below.refl w.heap.size w); have H : (if 0 ≤ (l0.length : Int) then (if ((l0.length : Int) : Int).toNat ≤ 35184372088832 then (impl_back.l0 k (List.replicate ((l0.length : Int) : Int).toNat 0) l0 (l0.length : Int) 0) else (none)) else (none)) = some r := h; clear h
 by_cases c2 : 0 ≤ (l0.length : Int)
 ·
  rw [if_pos c2] at H; have c2b0 := eq_true c2; have c2b1 : decide (0 ≤ (l0.length : Int)) = true := decide_eq_true c2; clear c2
  by_cases c3 : ((l0.length : Int) : Int).toNat ≤ 35184372088832
  ·
   rw [if_pos c3] at H; have c3b0 := eq_true c3; have c3b1 : decide (((l0.length : Int) : Int).toNat ≤ 35184372088832) = true := decide_eq_true c3; clear c3; obtain ⟨y346, hy346⟩ : ∃ y_ : List Int, y_ = (List.replicate ((l0.length : Int) : Int).toNat 0) := ⟨_, rfl⟩; (replace H : (impl_back.l0 k y346 l0 (l0.length : Int) 0) = some r := by first | (rw [hy346]; with_reducible exact H) | (have H2_ := (Option.bind_some _ _).symm.trans H; rw [hy346]; with_reducible exact H2_) | (have H2_ := (Option.bind_some _ _).symm.trans H; with_reducible exact H2_) | with_reducible exact H | (rw [hy346]; exact H) | exact H)
   have Ny346 := Aside0.mk hy346; clear hy346; have H' := Aside0.mk H; clear H
   go_enter Try.func50, Try.ntmps50
   go_wp2_with (first | ((with_reducible refine gate_dst (N := 8) rfl ?_); refine Kd.R_make (Kd.int .i64) _ 3 rfl (N := 8) rfl 24 _ _ rfl (l0.length : Int) rfl rfl Try.underlying24 (.int .i64 0) 8 info3 rfl (by decide) (by omega) 0 (ok := fun _ => True) (okp := fun _ => True) rfl (fun _ hk => hk) trivial (of_decide_eq_true (by first | (with_reducible assumption) | assumption)) (Nat.le_trans (Nat.mul_le_mul_right _ (of_decide_eq_true (by first | (with_reducible assumption) | assumption) : (l0.length : Int).toNat ≤ 35184372088832)) (by omega)) (Below.refl _ _) (Nat.le_refl _) ?_; intro v347 w4 ho5 hb hg_ hnew_; clear hg_ hnew_; (first | rw [← Ny346.out] at ho5 | (simp only [Int.reduceToNat] at ho5; rw [← Ny346.out] at ho5)); have HO348 := Zj ho5 HB; replace HB := Zh HB hb; clear hb ho5))
   go_loopg [11] k (fun kq v11 w' => ∃ (x3_1 : List Int) (x11_1 : Int), v11 = .int .i64 x11_1 ∧ Aside0 (impl_back.l0 kq x3_1 l0 (l0.length : Int) x11_1 = some r) ∧ Aside0 (kq ≤ k) ∧ Aside0 (Kd.R (Kd.int .i64) 3 w' w.heap.size (fun _ => True) v347 x3_1) ∧ Aside0 (Below w.heap.size w w'))
   case atStart => exact ⟨(y346), (0), (by first | rfl | (simp; done) | (simp [*]; done)), H', ⟨Nat.le_refl _⟩, ⟨Zr HO348⟩, ⟨Zl HB⟩⟩
   case round =>
    (clear H'; (try clear c2); (try clear c2b0); (try clear c2b1); (try clear p2); (try clear c3); (try clear c3b0); (try clear c3b1); (try clear c5)); obtain ⟨x3_1, x11_1, rfl, HA, HK1, HO_3, HB⟩ := hrel
    cases gk with
    | zero => exact absurd HA.out (by simp [impl_back.l0])
    | succ k1 =>
     have H := HA.out; clear HA
     simp only [impl_back.l0] at H
     by_cases c6 : x11_1 < (l0.length : Int)
     ·
      rw [if_pos c6] at H; have c6b0 : decide (x11_1 < (l0.length : Int)) = true := decide_eq_true c6; clear c6
      by_cases c7 : 0 ≤ x11_1
      ·
       rw [if_pos c7] at H; have c7b0 : decide (0 ≤ x11_1) = true := decide_eq_true c7; clear c7
       by_cases c8 : x11_1 < (l0.length : Int)
       ·
        rw [if_pos c8] at H; have c8b0 : decide (x11_1 < (l0.length : Int)) = true := decide_eq_true c8; clear c8
        by_cases c9 : 0 ≤ (rd l0 x11_1)
        ·
         rw [if_pos c9] at H; have c9b0 : decide (0 ≤ (rd l0 x11_1)) = true := decide_eq_true c9; clear c9
         by_cases c10 : (rd l0 x11_1) < (x3_1.length : Int)
         ·
          rw [if_pos c10] at H; have c10b0 : decide ((rd l0 x11_1) < (x3_1.length : Int)) = true := decide_eq_true c10; clear c10; obtain ⟨y350, hy350⟩ : ∃ y_ : List Int, y_ = (x3_1.set ((rd l0 x11_1) : Int).toNat x11_1) := ⟨_, rfl⟩; (replace H : (impl_back.l0 k1 y350 l0 (l0.length : Int) (wrap64 (x11_1 + 1))) = some r := by first | (rw [hy350]; with_reducible exact H) | (have H2_ := (Option.bind_some _ _).symm.trans H; rw [hy350]; with_reducible exact H2_) | (have H2_ := (Option.bind_some _ _).symm.trans H; with_reducible exact H2_) | with_reducible exact H | (rw [hy350]; exact H) | exact H)
          have Ny350 := Aside0.mk hy350; clear hy350; have H' := Aside0.mk H; clear H; have p349 : 0 ≤ (x11_1 : Int) := of_decide_eq_true (by first | (with_reducible assumption) | assumption); have q349 : x11_1 < (l0.length : Int) := of_decide_eq_true (by first | (with_reducible assumption) | assumption)
          obtain ⟨ad349, e349, hx349_0⟩ := Kd.at_int HR0.out x11_1 p349 q349
          cases e349
          replace hx349_0 := (HB.out.cell (World.block_lt_of_cell? w _ hx349_0)).trans hx349_0
          replace p349 := eq_true p349
          replace q349 := eq_true q349
          have p11 : 0 ≤ ((rd l0 x11_1) : Int) := of_decide_eq_true (by first | (with_reducible assumption) | assumption); have q11 : ((rd l0 x11_1) : Int) < ((x3_1.length : Int) : Int) := of_decide_eq_true (by first | (with_reducible assumption) | assumption)
          obtain ⟨go11, co11, eo11, gb11, gl11, cl11, HG11⟩ := Kd.R_form HO_3.out (by omega)
          (first | cases eo11 | (injection eo11 with ea_ en_ ec_; (first | subst ea_ | (injection ea_ with ea_; subst ea_)); subst ec_; clear en_))
          have GB11 := Aside0.mk gb11; have GG11 := Aside0.mk HG11; clear gb11 gl11 HG11
          obtain ⟨hx11_0, hf11_0⟩ := Kd.R_celln 0 HO_3.out ((rd l0 x11_1) : Int) p11 q11
          replace p11 := eq_true p11
          replace q11 := eq_true q11
          have HP12 := Kd.R_putg HO_3.out ((rd l0 x11_1) : Int) x11_1
          go_wp2_with (first | ((with_reducible refine gate_store (t := 3) (p := 19) rfl ?_); refine store_event (t := 3) (p := 19) (v := ?vo_w13) (w1 := (wr.setCell ⟨go11, ((rd l0 x11_1) : Int).toNat, none⟩ (.int .i64 x11_1))) ?hg ?ho ?hn ?hr ?_; (case ho => rfl); (case hg => rfl); (case hn => rfl); (case hr => first | (go_simp; done) | (go_simp; rfl)); intro w13 hw; have hg : wr.grownBy w13 (some go11) := (by rw [hw]; exact HP12.2); have hp_ : Kd.R (Kd.int .i64) 3 w13 w.heap.size (fun _ => True) (.slice (some ⟨go11, 0, none⟩) x3_1.length co11) y350 := (by rw [hw, Ny350.out]; exact HP12.1); clear HP12; replace HO_3 := Zm (hp_); replace HB := Zm ((by rw [hw]; exact below_set (HB.out) GB11.out : Below w.heap.size w w13)); clear hg hw hp_))
          go_roundg k1
          case measure => have := HK1.out; omega
          case rel => exact ⟨(y350), (wrap64 (x11_1 + 1)), (by first | rfl | (simp; done) | (simp [*]; done)), H', ⟨by have := HK1.out; omega⟩, ⟨Zr HO_3⟩, ⟨Zl HB⟩⟩
         ·
          rw [if_neg c10] at H
          exact absurd H (by simp)
        ·
         rw [if_neg c9] at H
         exact absurd H (by simp)
       ·
        rw [if_neg c8] at H
        exact absurd H (by simp)
      ·
       rw [if_neg c7] at H
       exact absurd H (by simp)
     ·
      rw [if_neg c6] at H; have c6b0 : decide (x11_1 < (l0.length : Int)) = false := decide_eq_false c6; clear c6; obtain rfl := Option.some.inj H
      go_wp2
      go_ret
      exact ⟨_, by first | rfl | (simp [errW_none, errW_some] <;> rfl) | (simp [*, errW_none, errW_some] <;> rfl), Zr HO_3, Zl HB⟩
  ·
   rw [if_neg c3] at H
   exact absurd H (by simp)
 ·
  rw [if_neg c2] at H
  exact absurd H (by simp)

def impl_BackOrder.f (k : Nat) (l0 : List Int) : Option (List Int × Bool) := (impl_isOrder.f k l0).bind fun t351 => (if t351 = true then ((impl_back.f k l0).bind fun t352 => (some (t352, true))) else (some (([] : List Int), false)))
theorem impl_BackOrder.mono : ∀ a0 k, LeO (impl_BackOrder.f k a0) (impl_BackOrder.f (k + 1) a0) := by
 intro a0 k
 unfold impl_BackOrder.f
 repeat' first
   | (with_reducible exact impl_back.mono _ _)
   | (with_reducible exact impl_isOrder.mono _ _)
   | (with_reducible exact LeO.refl _)
   | (with_reducible exact LeO.none _)
   | (with_reducible refine LeO.ite ?_ ?_)
   | (with_reducible refine LeO.bind ?_ (fun _ => ?_))
   | exact impl_back.mono _ _
   | exact impl_isOrder.mono _ _
   | exact LeO.none _
   | refine LeO.ite ?_ ?_
   | refine LeO.bind ?_ (fun _ => ?_)
set_option maxHeartbeats 8000000 in
set_option maxRecDepth 100000 in
theorem impl_BackOrder.calls (k : Nat) (A0 : Option Addr) (c0 : Nat) (l0 : List Int) (r1 : List Int) (r2 : Bool) (w : World) (hr0 : Kd.C (Kd.int .i64) w A0 l0.length l0) (hc0 : l0.length ≤ c0) (h : impl_BackOrder.f k l0 = some (r1, r2)) :
  Calls Try.prog 13 #[.slice A0 l0.length c0] w fun e w' => ∃ v0_ : Value, e = .returned (.tuple #[v0_, .bool r2]) ∧ Kd.R (Kd.int .i64) 3 w' w.heap.size (fun _ => True) v0_ r1 ∧ Below w.heap.size w w' := by
 (have HR0 := Aside0.mk hr0; have HC0 := Aside0.mk hc0; clear hr0 hc0; have HB := Zm (Below.refl w.heap.size w); have H : ((impl_isOrder.f k l0).bind fun t351 => (if t351 = true then ((impl_back.f k l0).bind fun t352 => (some (t352, true))) else (some (([] : List Int), false)))) = some (r1, r2) := h; clear h); replace H := Option.bind_eq_some_iff.mp H; obtain ⟨t351, A20, H⟩ := H; (replace H : (if t351 = true then ((impl_back.f k l0).bind fun t352 => (some (t352, true))) else (some (([] : List Int), false))) = some (r1, r2) := H); have A2 := Aside0.mk A20; clear A20
 by_cases c3 : t351 = true
 ·
  subst c3
  rw [if_pos rfl] at H
  replace H := Option.bind_eq_some_iff.mp H; obtain ⟨t352, A40, H⟩ := H; replace H : (some (t352, true)) = some (r1, r2) := H; have A4 := Aside0.mk A40; clear A40
  simp only [Option.some.injEq, Prod.mk.injEq] at H
  obtain ⟨rfl, rfl⟩ := H
  go_enter Try.func13, Try.ntmps13
  go_wp2_with (first | ((with_reducible refine gate_callee (f := 35) rfl ?_); refine Ga (some 5) Try.func35 #[.slice A0 l0.length c0] (h := ?_); (with_reducible refine (impl_isOrder.calls k _ _ l0 true _ ?side1 ?side2 A2.out).mono ?_); (case side1 => repeat (first | exact HR0.out | (with_reducible refine Kd.C_alloc ?_ _) | (with_reducible refine Kd.C_drewN ?_ _) | (with_reducible refine Kd.C_drew ?_))); (case side2 => exact HC0.out); rintro e w' ⟨rfl, ⟨nd, rfl⟩⟩; refine ⟨_, rfl, ?_⟩) | ((with_reducible refine gate_callee (f := 50) rfl ?_); refine Ga (some 8) Try.func50 #[.slice A0 l0.length c0] (h := ?_); (with_reducible refine (impl_back.calls k _ _ l0 t352 _ ?side1 ?side2 A4.out).mono ?_); (case side1 => repeat (first | exact HR0.out | (with_reducible refine Kd.C_alloc ?_ _) | (with_reducible refine Kd.C_drewN ?_ _) | (with_reducible refine Kd.C_drew ?_))); (case side2 => exact HC0.out); rintro e w5 ⟨v353, rfl, ho0, hb⟩; refine ⟨_, rfl, ?_⟩; have HO354 := Zj ho0 HB; replace HB := Zh HB hb; (try clear hb); (try clear ho0)))
  go_ret2
  exact ⟨_, by first | rfl | (simp [errW_none, errW_some] <;> rfl) | (simp [*, errW_none, errW_some] <;> rfl), Zr HO354, Zl HB⟩
 ·
  replace c3 := Bool.eq_false_iff.mpr c3
  subst c3
  rw [if_neg Bool.false_ne_true] at H
  simp only [Option.some.injEq, Prod.mk.injEq] at H
  obtain ⟨rfl, rfl⟩ := H
  go_enter Try.func13, Try.ntmps13
  go_wp2_with (first | ((with_reducible refine gate_callee (f := 35) rfl ?_); refine Ga (some 5) Try.func35 #[.slice A0 l0.length c0] (h := ?_); (with_reducible refine (impl_isOrder.calls k _ _ l0 false _ ?side1 ?side2 A2.out).mono ?_); (case side1 => repeat (first | exact HR0.out | (with_reducible refine Kd.C_alloc ?_ _) | (with_reducible refine Kd.C_drewN ?_ _) | (with_reducible refine Kd.C_drew ?_))); (case side2 => exact HC0.out); rintro e w' ⟨rfl, ⟨nd, rfl⟩⟩; refine ⟨_, rfl, ?_⟩))
  go_ret2
  exact ⟨_, by first | rfl | (simp [errW_none, errW_some] <;> rfl) | (simp [*, errW_none, errW_some] <;> rfl), by first | exact Kd.R_nil _ _ _ _ _ | exact Kd.N_nil _ _ _ _ _ | exact Kd.V_nil _ _ _ _ _ | exact Kd.Q_nil _ _ _ _ _ | exact Kd.S_nil _ _ _ _ _, Zl HB⟩

structure Eff (S : Nat → Prop) (w W : World) : Prop where
 b : Below 0 w W
 k : Kept w W S
theorem Eff.refl (S : Nat → Prop) (w : World) : Eff S w w := ⟨Below.refl _ _, Kept.refl _ _⟩
theorem eff_setS {S : Nat → Prop} {w W : World} {g j : Nat} {v : Value} (h : Eff S w W) (hg : S g ∨ w.heap.size ≤ g) : Eff S w (W.setCell ⟨g, j, none⟩ v) := ⟨h.b.setCell (Nat.zero_le _) _, h.k.setCell hg _⟩
theorem eff_size {S : Nat → Prop} {w W : World} (h : Eff S w W) : w.heap.size ≤ W.heap.size := h.k.1
theorem eff_then {S S2 : Nat → Prop} {w W W2 : World} (h : Eff S w W) (k : Eff S2 W W2) (hs : ∀ k, S2 k → S k ∨ w.heap.size ≤ k) : Eff S w W2 := ⟨h.b.trans k.b, h.k.then_ k.k hs⟩
theorem eff_below {S : Nat → Prop} {w0 w W : World} (hb : Below w0.heap.size w0 w) (h : Eff S w W) (hS : ∀ k, S k → w0.heap.size ≤ k) : Below w0.heap.size w0 W :=
 ⟨h.b.os.trans hb.os, h.b.tape.trans hb.tape, h.b.output.trans hb.output, Nat.le_trans hb.size h.k.1, fun k hk => (h.k.2 k (Nat.lt_of_lt_of_le hk hb.size) (fun hs => by have := hS k hs; omega)).trans (hb.block k hk)⟩
theorem Eff.of_below {S : Nat → Prop} {w W : World} (h : Below w.heap.size w W) : Eff S w W := ⟨h.mono (Nat.zero_le _), Kept.of_below h S⟩
structure CloInt {α : Type} (g : Nat) (lb : Array Value) (B : Nat) (I : α → (Nat → Prop) → World → Prop) (step : α → Int → Option α) : Prop where
 enters : ∀ args w, (callFunc g args).run Try.prog w = .ok (.enter g args) w
 lt : ∀ s S W k, I s S W → S k → k < W.heap.size
 move : ∀ s S W W', I s S W → (∀ k, k < W.heap.size → (k < B ∨ S k) → W'.heap[k]? = W.heap[k]?) → W.heap.size ≤ W'.heap.size → I s S W'
 call : ∀ s s' S W x, I s S W → step s x = some s' → Calls Try.prog g (#[.int .i64 x] ++ lb) W fun e W' => e = .returned (.tuple #[]) ∧ ∃ S', I s' S' W' ∧ Eff S W W' ∧ ∀ k, S' k → S k ∨ W.heap.size ≤ k
structure CloList {α : Type} (g : Nat) (lb : Array Value) (B : Nat) (I : α → (Nat → Prop) → World → Prop) (step : α → List Int → Option α) : Prop where
 enters : ∀ args w, (callFunc g args).run Try.prog w = .ok (.enter g args) w
 lt : ∀ s S W k, I s S W → S k → k < W.heap.size
 move : ∀ s S W W', I s S W → (∀ k, k < W.heap.size → (k < B ∨ S k) → W'.heap[k]? = W.heap[k]?) → W.heap.size ≤ W'.heap.size → I s S W'
 call : ∀ s s' S W v xs, I s S W → Kd.R (Kd.int .i64) 3 W B (fun k => ¬ S k) v xs → step s xs = some s' → Calls Try.prog g (#[v] ++ lb) W fun e W' => e = .returned (.tuple #[]) ∧ ∃ S', I s' S' W' ∧ Eff S W W' ∧ ∀ k, S' k → S k ∨ v.ownBlock = some k ∨ W.heap.size ≤ k
theorem clo_row {α : Type} {d : Kd α} {e base : Nat} {v : Value} {xs : List α} {S1 S2 : Nat → Prop} {W W2 : World} (h : d.R e W base (fun k => ¬ S1 k) v xs) (he : Eff S1 W W2) (hs : ∀ k, S2 k → S1 k ∨ W.heap.size ≤ k) : d.R e W2 base (fun k => ¬ S2 k) v xs :=
 Kd.R_mono (Kd.R_kept (Kd.R_bound h) he.k (fun k hk => hk.1)) (fun k hk h2 => by
  rcases hs k h2 with h3 | h3
  ·
   exact hk.1 h3
  ·
   have := hk.2.2.1
   omega)
theorem fresh_row {α : Type} {d : Kd α} {e base : Nat} {ok : Nat → Prop} {v : Value} {xs : List α} {S : Nat → Prop} {W : World} (h : d.R e W base ok v xs) (hs : ∀ k, S k → k < base) : d.R e W base (fun k => ¬ S k) v xs :=
 Kd.R_mono (Kd.R_bound h) (fun k hk h2 => by
  have := hs k h2
  have := hk.2.1
  omega)

def delete_ren : Go.Shelf.Ren := ⟨fun | 23 => 81 | n => n, fun | 22 => 24 | 3 => 3 | 4 => 4 | 0 => 0 | n => n, fun | n => n⟩
theorem delete_lays : Go.Proofs.Lays2.n23 Try.prog delete_ren := {
 mixed := by kernel_rfl
 f23 := Try.func81.trans (congrArg some (by kernel_rfl))
 t0 := Try.underlying0
 a0 := Try.isAgg0
 z0 := Try.sizeOf0
 v0 := Try.zeroValue0
 t3 := Try.underlying3
 a3 := Try.isAgg3
 z3 := Try.sizeOf3
 v3 := Try.zeroValue3
 t4 := Try.underlying4
 a4 := Try.isAgg4
 z4 := Try.sizeOf4
 v4 := Try.zeroValue4
 t22 := Try.underlying24
 a22 := Try.isAgg24
 z22 := Try.sizeOf24
 v22 := Try.zeroValue24
 i3 := by kernel_rfl }
def overL : List Int → Nat → List Int → List Int
 | xs, _, [] => xs
 | xs, o, v :: vs => overL (xs.set o v) (o + 1) vs
theorem overL_get : ∀ (vs xs : List Int) (o j : Nat), o + vs.length ≤ xs.length → (overL xs o vs)[j]? = if o ≤ j ∧ j < o + vs.length then vs[j - o]? else xs[j]?
 | [], xs, o, j, h => by
  rw [if_neg (by simp only [List.length_nil]; omega)]
  rfl
 | v :: vs, xs, o, j, h => by
  simp only [List.length_cons] at h
  rw [overL, overL_get vs (xs.set o v) (o + 1) j (by rw [List.length_set]; omega), List.getElem?_set]
  simp only [List.length_cons]
  by_cases h1 : o + 1 ≤ j ∧ j < o + 1 + vs.length
  ·
   rw [if_pos h1, if_pos (by omega), show j - o = (j - (o + 1)) + 1 from by omega, List.getElem?_cons_succ]
  ·
   rw [if_neg h1]
   by_cases h2 : o = j
   ·
    subst h2
    rw [if_pos rfl, if_pos (by omega), if_pos (by omega), Nat.sub_self, List.getElem?_cons_zero]
   ·
    rw [if_neg h2, if_neg (by omega)]
theorem overL_all (vs xs : List Int) (h : vs.length = xs.length) : overL xs 0 vs = vs := by
 apply List.ext_getElem?
 intro j
 rw [overL_get vs xs 0 j (by omega)]
 by_cases h1 : j < vs.length
 ·
  rw [if_pos (by omega), Nat.sub_zero]
 ·
  rw [if_neg (by omega), List.getElem?_eq_none (by omega), List.getElem?_eq_none (by omega)]
theorem R_setCells {W : World} {base g n cap : Nat} {ok : Nat → Prop} : ∀ (vs xs : List Int) (o : Nat) (W : World), Kd.R (Kd.int .i64) 3 W base ok (.slice (some ⟨g, 0, none⟩) n cap) xs → Kd.R (Kd.int .i64) 3 (W.setCells g o (vs.map (Value.int .i64))) base ok (.slice (some ⟨g, 0, none⟩) n cap) (overL xs o vs)
 | [], xs, o, W, h => h
 | v :: vs, xs, o, W, h => R_setCells (W := W) vs (xs.set o v) (o + 1) (W.setCell ⟨g, o, none⟩ (.int .i64 v)) (by
  have := (Kd.R_putg (enc := Value.int .i64) h (o : Int) v).1
  simp only [Int.toNat_natCast] at this
  exact this)
theorem slices_Delete1 (W : World) (v : Value) (xs : List Int) (i : Nat) {base : Nat} {ok : Nat → Prop} (hv : Kd.R (Kd.int .i64) 3 W base ok v xs) (hi : i < xs.length) :
  Calls Try.prog 81 #[v, .int .i64 (i : Int), .int .i64 ((i : Int) + 1)] W fun e w' => ∃ v1 : Value, e = .returned v1 ∧ Kd.R (Kd.int .i64) 3 w' base ok v1 (xs.take i ++ xs.drop (i + 1)) ∧ Eff (fun k_ => v.ownBlock = some k_) W w' := by
 obtain ⟨g, cap, rfl, gb, gl, cl, hg⟩ := Kd.R_form hv (by omega)
 have hrd := (Kd.R_reads' hv).2
 have hcap : cap ≤ 9223372036854775807 := by
  obtain ⟨inner, ho⟩ := Kd.R_own hv
  rcases ho.2 with ⟨h, _⟩ | ⟨g2, cap2, cur, h, _, _, _, h5, _⟩
  ·
   cases h
  ·
   injection h with _ _ h
   subst h
   unfold maxLen at h5
   omega
 have hcell : ∀ j, j < xs.length → W.cell? ⟨g, 0 + j, none⟩ = some (.int .i64 (xs.getD j 0)) ∧ W.frozen? ⟨g, 0 + j, none⟩ = false := by
  intro j hj
  obtain ⟨hx, hf⟩ := Kd.R_celln 0 hv (j : Int) (by omega) (by omega)
  rw [Nat.zero_add]
  simp only [Int.toNat_natCast] at hx hf
  exact ⟨hx, hf⟩
 have h := Any.slices_Delete_int_cells delete_lays g 0 xs.length cap i (i + 1) xs W (Nat.le_refl _) hrd.1 hcap (by omega) (by omega) (fun j hj => (hcell j hj).1) (fun j hj => (hcell j hj).2)
 have h2 : Calls Try.prog 81 #[.slice (some ⟨g, 0, none⟩) xs.length cap, .int .i64 (i : Int), .int .i64 ((i : Int) + 1)] W _ := h
 refine h2.mono ?_
 rintro e w' ⟨rfl, q, rfl⟩
 have hl : (xs.take i ++ xs.drop (i + 1) ++ List.replicate 1 0).length = xs.length := by simp; omega
 have hr := R_setCells (W := W) (xs.take i ++ xs.drop (i + 1) ++ List.replicate 1 0) xs 0 (W.drewN q) (Kd.R_drewN hv q)
 rw [overL_all _ _ hl] at hr
 have hr2 := Kd.R_take hr (m := xs.length - 1) (by omega)
 refine ⟨_, rfl, ?_, ?_⟩
 ·
  have e1 : (xs.take i ++ xs.drop (i + 1) ++ List.replicate 1 0).take (xs.length - 1) = xs.take i ++ xs.drop (i + 1) := by
   rw [List.take_append_of_le_length (by simp; omega), List.take_of_length_le (by simp; omega)]
  rw [e1] at hr2
  have e2 : xs.length - (i + 1 - i) = xs.length - 1 := by omega
  rw [e2]
  simpa [List.take_length] using hr2
 ·
  refine ⟨?_, ?_⟩
  ·
   have hs := setCells_same g ((((xs.take xs.length).take i ++ (xs.take xs.length).drop (i + 1) ++ List.replicate (i + 1 - i) 0)).map (Value.int .i64)) 0 (W.drewN q)
   exact ⟨hs.1, hs.2.1, hs.2.2.1, Nat.le_of_eq hs.2.2.2.symm, fun k hk => by omega⟩
  ·
   have hs := setCells_same g ((((xs.take xs.length).take i ++ (xs.take xs.length).drop (i + 1) ++ List.replicate (i + 1 - i) 0)).map (Value.int .i64)) 0 (W.drewN q)
   refine ⟨Nat.le_of_eq hs.2.2.2.symm, fun k hk hne => setCells_far _ 0 k (fun e => hne ?_)⟩
   rw [e]
   rfl
def impl_without.f (l : List Int) (i : Int) : Option (List Int) := if 0 ≤ i ∧ i < (l.length : Int) ∧ l.length ≤ 1000 then some (l.take i.toNat ++ l.drop (i.toNat + 1)) else none
set_option maxHeartbeats 8000000 in
set_option maxRecDepth 100000 in
theorem impl_without.calls (A0 : Option Addr) (c0 : Nat) (l0 : List Int) (a1 : Int) (r : List Int) (w : World) (hr0 : Kd.C (Kd.int .i64) w A0 l0.length l0) (hc0 : l0.length ≤ c0) (h : impl_without.f l0 a1 = some r) :
  Calls Try.prog 76 #[.slice A0 l0.length c0, .int .i64 a1] w fun e w' => ∃ v0_ : Value, e = .returned (v0_) ∧ Kd.R (Kd.int .i64) 3 w' w.heap.size (fun _ => True) v0_ r ∧ Below w.heap.size w w' := by
 unfold impl_without.f at h
 by_cases hn : 0 ≤ a1 ∧ a1 < (l0.length : Int) ∧ l0.length ≤ 1000
 ·
  rw [if_pos hn] at h
  obtain ⟨i, rfl⟩ : ∃ i : Nat, a1 = (i : Int) := ⟨a1.toNat, by omega⟩
  have HI := Aside0.mk (show i < l0.length from by omega)
  have hb1 : (0 : Int) ≤ (i : Int) := by omega
  have hb2 : (i : Int) ≤ 1000 := by omega
  have HR := Aside0.mk hr0
  have HC := Aside0.mk hc0
  have HCL := Aside0.mk (show slices_Clone_int_int.f l0 = some l0 from by unfold slices_Clone_int_int.f; rw [if_pos (by omega)])
  have HE := Aside0.mk (show r = l0.take i ++ l0.drop (i + 1) from by have := Option.some.inj h; rw [← this]; rfl)
  clear hr0 hc0 h hn
  go_enter Try.func76, Try.ntmps76
  go_wp2_with (first | (go_at_call 75; refine (slices_Clone_int_int.calls _ _ l0 l0 _ HR.out HC.out HCL.out).mono ?_; rintro e w5 ⟨v5, rfl, ho5, hb5⟩; have HO := Aside0.mk ho5; have HB := Aside0.mk hb5; clear ho5 hb5) | (go_at_call 81; refine (slices_Delete1 w5 v5 l0 i HO.out HI.out).mono ?_; rintro e w6 ⟨v6, rfl, ho6, he6⟩; have HO6 := Aside0.mk ho6; have HE6 := Aside0.mk he6; clear ho6 he6))
  go_ret
  exact ⟨_, rfl, by rw [HE.out]; exact HO6.out, eff_below HB.out HE6.out (fun k_ h_ => ((Kd.R_bound HO.out).1 k_ h_).2.1)⟩
 ·
  rw [if_neg hn] at h
  cases h

def ordLoop {α : Type} (rec : List Int → List Int → α → Option α) (done left : List Int) : Nat → Nat → α → Option α
 | 0, _, s => some s
 | c + 1, i, s => (rec (done ++ [left.getD i 0]) (left.take i ++ left.drop (i + 1)) s).bind fun s2 => ordLoop rec done left c (i + 1) s2
def ordF {α : Type} (step : α → List Int → Option α) : Nat → List Int → List Int → α → Option α
 | 0, done, left, s => if left = [] then step s done else none
 | d + 1, done, left, s => if left.length = d + 1 ∧ left.length ≤ 100 ∧ done.length ≤ 100 then ordLoop (ordF step d) done left (d + 1) 0 s else none
theorem row_one {W : World} {g : Nat} {y : Int} (h : W.heap[g]? = some (.cells #[.int .i64 y] 3 (0, 0))) : Kd.C (Kd.int .i64) W (some ⟨g, 0, none⟩) 1 [y] := by
 refine ⟨rfl, by decide, fun _ => ⟨_, rfl, fun j p hj => ⟨[.int .i64 p], rfl, rfl, fun i u hu => ?_⟩⟩⟩
 have hi : i = 0 := by have := (List.getElem?_eq_some_iff.1 hu).1; simpa using this
 subst hi
 have hj0 : j = 0 := by have := (List.getElem?_eq_some_iff.1 hj).1; simpa using this
 subst hj0
 have hu' : u = .int .i64 p := by simpa using hu.symm
 have hp : p = y := by simpa using hj.symm
 subst hu'
 subst hp
 exact cell_of_one h
def addFn (bw ba : Nat) : Value := .func (.func 74) #[] #[.pointer (some ⟨bw, 0, none⟩), .pointer (some ⟨ba, 0, none⟩)]
set_option maxHeartbeats 16000000 in
set_option maxRecDepth 100000 in
theorem impl_orders_1.calls {α : Type} (step : α → List Int → Option α) (I : α → (Nat → Prop) → World → Prop) (g : Nat) (lb : Array Value) (B : Nat) (cl0 : CloList g lb B I step) (bw ba : Nat) (d : Nat) : ∀ (done left : List Int) (vd vl : Value) (s s2 : α) (S : Nat → Prop) (W : World) (hi0 : I s S W) (hBw : B ≤ W.heap.size)
  (hbw : W.heap[bw]? = some (.cells #[.func (.func g) #[] lb] 68 (0, 0))) (hba : W.heap[ba]? = some (.cells #[addFn bw ba] 76 (0, 0))) (hnw : ¬ S bw) (hna : ¬ S ba)
  (hd : Kd.R (Kd.int .i64) 3 W B (fun k => ¬ S k) vd done) (hl : Kd.R (Kd.int .i64) 3 W B (fun k => ¬ S k) vl left) (h : ordF step d done left s = some s2),
  Calls Try.prog 74 #[vd, vl, .pointer (some ⟨bw, 0, none⟩), .pointer (some ⟨ba, 0, none⟩)] W fun e w' => e = .returned (.tuple #[]) ∧ ∃ S', I s2 S' w' ∧ Eff S W w' ∧ ∀ k, S' k → S k ∨ vd.ownBlock = some k ∨ W.heap.size ≤ k := by
 have eg := cl0.enters
 have eo : ∀ args w, (callFunc 74 args).run Try.prog w = .ok (.enter 74 args) w := enters_of Try.func74 (by kernel_rfl) rfl
 have CL := Aside0.mk cl0
 clear cl0
 induction d with
 | zero =>
  intro done left vd vl s s2 S W hi0 hBw hbw hba hnw hna hd hl h
  rw [ordF] at h
  by_cases hle : left = []
  ·
   rw [if_pos hle] at h
   subst hle
   obtain ⟨Al, cl, rfl⟩ := Kd.R_slice hl
   have HI := Aside0.mk hi0
   have HD := Aside0.mk hd
   have HH := Aside0.mk h
   have hcw := cell_of_one hbw
   clear hi0 hBw hbw hba hnw hna hd hl h
   go_enter Try.func74, Try.ntmps74
   go_wp2_with (first | (go_at_fn g; refine (CL.out.call s s2 S _ vd done HI.out HD.out HH.out).mono ?_; rintro e w24 ⟨rfl, S2, hi2, he2, hs2⟩; have HI2 := Aside0.mk hi2; have HE2 := Aside0.mk he2; have HS2 := Aside0.mk hs2; clear hi2 he2 hs2))
   go_loopg [16] 0 (fun gg v16 wr => v16 = .int .i64 0 ∧ wr = w24)
   case atStart => exact ⟨rfl, rfl⟩
   case round =>
    obtain ⟨rfl, rfl⟩ := hrel
    go_wp2
    go_end0
    exact ⟨rfl, S2, HI2.out, HE2.out, HS2.out⟩
  ·
   rw [if_neg hle] at h
   cases h
 | succ d ih =>
  intro done left vd vl s s2 S W hi0 hBw hbw hba hnw hna hd hl h
  rw [ordF] at h
  by_cases hle : left.length = d + 1 ∧ left.length ≤ 100 ∧ done.length ≤ 100
  ·
   rw [if_pos hle] at h
   obtain ⟨hlen, hl100, hd100⟩ := hle
   obtain ⟨Al, cl, rfl⟩ := Kd.R_slice hl
   obtain ⟨Ad, cd, rfl⟩ := Kd.R_slice hd
   have IH := Aside0.mk ih
   have HI := Aside0.mk hi0
   have HBW := Aside0.mk hBw
   have HWB := Aside0.mk hbw
   have HAB := Aside0.mk hba
   have HNW := Aside0.mk hnw
   have HNA := Aside0.mk hna
   have HD := Aside0.mk hd
   have HL := Aside0.mk hl
   have HH := Aside0.mk (show ordLoop (ordF step d) done left (left.length - 0) 0 s = some s2 from by rw [hlen]; exact h)
   have HLEN := Aside0.mk hlen
   have hne : decide ((left.length : Int) = 0) = false := decide_eq_false (by omega)
   have hne2 : ((left.length : Int) == 0) = false := beq_eq_false_iff_ne.2 (by omega)
   have HD100 := Aside0.mk hd100
   clear ih hi0 hBw hbw hba hnw hna hd hl h hlen hd100
   go_enter Try.func74, Try.ntmps74
   go_wp2
   go_loopg [16] left.length (fun gg v16 wr => ∃ (i : Nat) (s1 : α) (S1 : Nat → Prop), v16 = .int .i64 (i : Int) ∧ i ≤ left.length ∧ left.length - i ≤ gg ∧ Aside0 (ordLoop (ordF step d) done left (left.length - i) i s1 = some s2) ∧ Aside0 (I s1 S1 wr) ∧ Aside0 (Eff S W wr) ∧ Aside0 (∀ k, S1 k → S k ∨ W.heap.size ≤ k) ∧ Aside0 (Kd.R (Kd.int .i64) 3 wr B (fun k => ¬ S1 k) (.slice Ad done.length cd) done) ∧ Aside0 (Kd.R (Kd.int .i64) 3 wr B (fun k => ¬ S1 k) (.slice Al left.length cl) left))
   case atStart => exact ⟨0, s, S, rfl, Nat.zero_le _, by omega, ⟨HH.out⟩, ⟨HI.out⟩, ⟨Eff.refl _ _⟩, ⟨fun _ h_ => .inl h_⟩, ⟨HD.out⟩, ⟨HL.out⟩⟩
   case round =>
    clear HH HI HD HL
    obtain ⟨i, s1, S1, rfl, hi, hg, HA, HI, HB, HSS, HD, HL⟩ := hrel
    by_cases hlt : i < left.length
    ·
     have hltz : (i : Int) < (left.length : Int) := by omega
     have h0i : (0 : Int) ≤ (i : Int) := by omega
     have h1 := HA.out
     clear HA
     rw [show left.length - i = (left.length - (i + 1)) + 1 from by omega] at h1
     simp only [ordLoop] at h1
     replace h1 := Option.bind_eq_some_iff.mp h1
     obtain ⟨s3, e1, e2⟩ := h1
     have HE1 := Aside0.mk e1
     have HE2 := Aside0.mk e2
     clear e1 e2
     have HN1 := Aside0.mk (show ¬ S1 bw from fun hs => (HSS.out bw hs).elim HNW.out (fun h2 => by have := blk_lt HWB.out; omega))
     have HN2 := Aside0.mk (show ¬ S1 ba from fun hs => (HSS.out ba hs).elim HNA.out (fun h2 => by have := blk_lt HAB.out; omega))
     obtain ⟨wo, rfl⟩ : ∃ wo : World, wo = wr := ⟨_, rfl⟩
     have HW1 := Aside0.mk (blk_kept HWB.out HB.out.k HNW.out)
     have HA1 := Aside0.mk (blk_kept HAB.out HB.out.k HNA.out)
     obtain ⟨ad193, e193, hx193⟩ := Kd.at_int (Kd.R_reads' HL.out).2.2 (i : Int) (by omega) (by omega)
     cases e193
     simp only [Int.toNat_natCast] at hx193
     generalize hy : rd left (i : Int) = y at hx193
     have HY := Aside0.mk hy
     clear hy
     have hcl : addFn bw ba = addFn bw ba := rfl
     have hca : wo.cell? ⟨ba, 0, none⟩ = some (.func (.func 74) #[] #[.pointer (some ⟨bw, 0, none⟩), .pointer (some ⟨ba, 0, none⟩)]) := cell_of_one HA1.out
     clear hcl
     have HCA := Aside0.mk hca
     have HLT := Aside0.mk (blk_lt HA1.out)
     have HDR := Aside0.mk (Kd.R_reads' HD.out).2
     have HLR := Aside0.mk (Kd.R_reads' HL.out).2
     have HCL := Aside0.mk (show slices_Clone_int_int.f done = some done from by unfold slices_Clone_int_int.f; rw [if_pos (by have := HD100.out; omega)])
     obtain ⟨left2, hleft2⟩ : ∃ l2 : List Int, l2 = left.take i ++ left.drop (i + 1) := ⟨_, rfl⟩
     have HWF := Aside0.mk (show impl_without.f left (i : Int) = some left2 from by unfold impl_without.f; rw [if_pos (by omega), hleft2]; rfl)
     have HE3 := Aside0.mk (show ordF step d (done ++ [y]) left2 s1 = some s3 from by rw [hleft2, ← HY.out]; exact HE1.out)
     clear hleft2 HE1
     have HBi := Aside0.mk (Below.refl wo.heap.size wo)
     go_wp2
     go_region_held3 (fun w' => w'.cell? ⟨ba, 0, none⟩ = some (.func (.func 74) #[] #[.pointer (some ⟨bw, 0, none⟩), .pointer (some ⟨ba, 0, none⟩)])) (first | assumption | go_keep) (first | (go_at_call 75; refine (slices_Clone_int_int.calls _ _ done done _ ?sA1 HDR.out.1 HCL.out).mono ?_; (case sA1 => exact (Kd.C_below HDR.out.2 (by repeat (first | exact HBi.out | apply below_alloc | apply pw_below_drewN | apply below_drew1)))); rintro e w5 ⟨v5, rfl, ho5, hb5⟩; (first | (have n_ := Aside0.mk (blk_below (blk_drew (blk_new _ (.cells #[.int .i64 y] 3))) hb5); have HK := n_; clear n_) | (have n_ := Aside0.mk (blk_below (blk_new _ (.cells #[.int .i64 y] 3)) hb5); have HK := n_; clear n_) | skip); have n0_ : Aside0 (Kd.R (Kd.int .i64) 3 w5 wo.heap.size (fun _ => True) v5 done) := Aside0.mk (Kd.R_lower ho5 (below_size (by repeat (first | exact HBi.out | apply below_alloc | apply pw_below_drewN | apply below_drew1)))); have n1_ : Aside0 (Below wo.heap.size wo w5) := Aside0.mk (below_step (by repeat (first | exact HBi.out | apply below_alloc | apply pw_below_drewN | apply below_drew1)) hb5); clear HBi; have HC5 := n0_; have HBi := n1_; clear n0_ n1_ hb5 ho5; have hcb : w5.cell? ⟨ba, 0, none⟩ = some (.func (.func 74) #[] #[.pointer (some ⟨bw, 0, none⟩), .pointer (some ⟨ba, 0, none⟩)]) := (HBi.out.cell (p := ⟨ba, 0, none⟩) HLT.out).trans HCA.out) | (go_at_call 76; refine (impl_without.calls _ _ left (i : Int) left2 _ ?sA2 HLR.out.1 HWF.out).mono ?_; (case sA2 => exact (Kd.C_below HLR.out.2 (by repeat (first | exact HBi.out | apply below_alloc | apply pw_below_drewN | apply below_drew1)))); rintro e w7 ⟨v7, rfl, ho7, hb7⟩; have n0_ : Aside0 (Kd.R (Kd.int .i64) 3 w7 wo.heap.size (fun _ => True) v7 left2) := Aside0.mk (Kd.R_lower ho7 (below_size (by repeat (first | exact HBi.out | apply below_alloc | apply pw_below_drewN | apply below_drew1)))); have n2_ : Aside0 (Kd.R (Kd.int .i64) 3 w7 wo.heap.size (fun _ => True) v6 (done ++ [y])) := Aside0.mk (Kd.R_below (by (with_reducible repeat (first | apply Kd.R_alloc | apply Kd.R_drewN | apply Kd.R_drew)); exact HO6.out) hb7); have n1_ : Aside0 (Below wo.heap.size wo w7) := Aside0.mk (below_step (by repeat (first | exact HBi.out | apply below_alloc | apply pw_below_drewN | apply below_drew1)) hb7); clear HBi HO6; have HW7 := n0_; have HO6 := n2_; have HBi := n1_; clear n0_ n1_ n2_ hb7 ho7; have hcb7 : w7.cell? ⟨ba, 0, none⟩ = some (.func (.func 74) #[] #[.pointer (some ⟨bw, 0, none⟩), .pointer (some ⟨ba, 0, none⟩)]) := (HBi.out.cell (p := ⟨ba, 0, none⟩) HLT.out).trans HCA.out) | (refine Kd.R_append_rows_step (Kd.int .i64) (w0 := wo) wo.heap.size (by simp [Region.wanted]) (.tmp 23) (.tmp 25) 24 3 (.int .i64 0) 8 (by rfl) Try.underlying24 infoI (by rfl) (by decide) (by omega) v5 done [y] _ 1 1 (fun _ => True) (fun _ => False) (by rfl) (by rfl) ?aO ?aR (fun _ _ h_ => h_) (fun _ h_ => h_.elim) (fun _ _ => trivial) ?aB ?aS (by have := HD100.out; omega) ?_; (case aO => exact (by (with_reducible repeat (first | apply Kd.R_alloc | apply Kd.R_drewN | apply Kd.R_drew)); exact HC5.out)); (case aR => exact row_one (by first | exact HK.out | exact blk_new _ _)); (case aB => repeat (first | exact HBi.out | apply below_alloc | apply pw_below_drewN | apply below_drew1)); (case aS => exact below_size (by repeat (first | exact HBi.out | apply below_alloc | apply pw_below_drewN | apply below_drew1))); intro v6 w6 ho6 hb6 hg6 hat6; have HO6 := Aside0.mk ho6; clear HBi; have HBi := Aside0.mk hb6; clear hg6 hat6 ho6 hb6; have hcb6 : w6.cell? ⟨ba, 0, none⟩ = some (.func (.func 74) #[] #[.pointer (some ⟨bw, 0, none⟩), .pointer (some ⟨ba, 0, none⟩)]) := (HBi.out.cell (p := ⟨ba, 0, none⟩) HLT.out).trans HCA.out) | (go_at_fn 74; refine (IH.out (done ++ [y]) left2 v6 v7 s1 s3 S1 _ ?hI ?hBw ?hbw ?hba HN1.out HN2.out ?hd ?hl HE3.out).mono ?_; (case hI => exact CL.out.move _ _ _ _ HI.out (fun k_ hk_ _ => HBi.out.block k_ hk_) HBi.out.size); (case hBw => exact Nat.le_trans HBW.out (Nat.le_trans (eff_size HB.out) HBi.out.size)); (case hbw => exact blk_below HW1.out HBi.out); (case hba => exact blk_below HA1.out HBi.out); (case hd => exact Kd.R_lower (fresh_row HO6.out (fun k_ h_ => CL.out.lt _ _ _ _ HI.out h_)) (Nat.le_trans HBW.out (eff_size HB.out))); (case hl => exact Kd.R_lower (fresh_row HW7.out (fun k_ h_ => CL.out.lt _ _ _ _ HI.out h_)) (Nat.le_trans HBW.out (eff_size HB.out))); rintro e w30 ⟨rfl, S3, hi3, he3, hs3⟩; have HI3 := Aside0.mk hi3; have HE30 : Aside0 (Eff S1 wo w30) := Aside0.mk (eff_then (Eff.of_below HBi.out) he3 (fun _ h_ => .inl h_)); have HS30 : Aside0 (∀ k_, S3 k_ → S1 k_ ∨ wo.heap.size ≤ k_) := Aside0.mk (fun k_ h_ => (hs3 k_ h_).elim .inl (fun h2_ => .inr (h2_.elim (fun h3_ => ((Kd.R_bound HO6.out).1 k_ h3_).2.1) (fun h3_ => Nat.le_trans HBi.out.size h3_)))); have HB3 := Aside0.mk (eff_then HB.out HE30.out HSS.out); have HS3 : Aside0 (∀ k_, S3 k_ → S k_ ∨ W.heap.size ≤ k_) := Aside0.mk (fun k_ h_ => (HS30.out k_ h_).elim (HSS.out k_) (fun h2_ => .inr (Nat.le_trans (eff_size HB.out) h2_))); have HD3 := Aside0.mk (clo_row HD.out HE30.out HS30.out); have HL3 := Aside0.mk (clo_row HL.out HE30.out HS30.out); have hcb30 : w30.cell? ⟨ba, 0, none⟩ = some (.func (.func 74) #[] #[.pointer (some ⟨bw, 0, none⟩), .pointer (some ⟨ba, 0, none⟩)]) := cell_of_one (blk_kept HA1.out HE30.out.k HN2.out); clear hi3 he3 hs3))
     all_goals
      go_wp2
      go_roundg (left.length - (i + 1))
      case measure => omega
      case rel => exact ⟨i + 1, s3, S3, by go_num, by omega, by omega, ⟨HE2.out⟩, ⟨HI3.out⟩, ⟨HB3.out⟩, ⟨HS3.out⟩, ⟨HD3.out⟩, ⟨HL3.out⟩⟩
    ·
     have hltz : ¬ (i : Int) < (left.length : Int) := by omega
     have h1 := HA.out
     clear HA
     rw [show left.length - i = 0 from by omega] at h1
     obtain rfl := Option.some.inj h1
     clear h1
     go_wp2
     go_end0
     exact ⟨rfl, S1, HI.out, HB.out, fun k_ h_ => (HSS.out k_ h_).elim .inl (fun h2_ => .inr (.inr h2_))⟩
  ·
   rw [if_neg hle] at h
   cases h
def ordersF {α : Type} (step : α → List Int → Option α) (k : Nat) (n : Int) (s : α) : Option α := (impl_identity.f k n).bind fun l => ordF step l.length [] l s
set_option maxHeartbeats 16000000 in
set_option maxRecDepth 100000 in
theorem impl_orders.calls {α : Type} (step : α → List Int → Option α) (I : α → (Nat → Prop) → World → Prop) (g : Nat) (lb : Array Value) (B : Nat) (cl0 : CloList g lb B I step) (k : Nat) (n : Int) (st0 : α) (S0 : Nat → Prop) (rs : α) (w : World) (hi0 : I st0 S0 w) (hBw : B ≤ w.heap.size) (h : ordersF step k n st0 = some rs) :
  Calls Try.prog 51 #[.int .i64 n, .func (.func g) #[] lb] w fun e w' => e = .returned (.tuple #[]) ∧ ∃ (S' : Nat → Prop), I rs S' w' ∧ Eff S0 w w' ∧ ∀ k_, S' k_ → S0 k_ ∨ w.heap.size ≤ k_ := by
 have eo : ∀ args w, (callFunc 74 args).run Try.prog w = .ok (.enter 74 args) w := enters_of Try.func74 (by kernel_rfl) rfl
 have hmf : ∀ (fn : Fn) (first cap : Array Value) (w : World), (Instr.makeFunc fn first cap).run Try.prog w = .ok (.func fn first cap) w := fun _ _ _ _ => rfl
 unfold ordersF at h
 replace h := Option.bind_eq_some_iff.mp h
 obtain ⟨l, e1, h⟩ := h
 have HID := Aside0.mk e1
 have HH := Aside0.mk h
 have CL := Aside0.mk cl0
 have HI := Aside0.mk hi0
 have HBW := Aside0.mk hBw
 clear cl0 hi0 hBw e1 h
 go_enter Try.func51, Try.ntmps51
 go_wp2
 have HSZ := Aside0.mk (show (w.alloc (.cells #[.func (.func g) #[] lb] 68)).heap.size = w.heap.size + 1 from Array.size_push _)
 have HLT := Aside0.mk (fun k_ (h_ : S0 k_) => CL.out.lt _ _ _ _ HI.out h_)
 go_region_held3 (fun w' => w'.cell? ⟨w.heap.size + 1, 0, none⟩ = some (.func (.func 74) #[] #[.pointer (some ⟨w.heap.size, 0, none⟩), .pointer (some ⟨w.heap.size + 1, 0, none⟩)])) (first | assumption | go_keep) (first | (go_at_call 65; refine (impl_identity.calls k n l _ HID.out).mono ?_; rintro e w5 ⟨v5, rfl, ho5, hb5⟩; have HB : Aside0 (Below w.heap.size w w5) := Aside0.mk (below_step (below_drew1 (below_alloc (below_alloc (Below.refl w.heap.size w) (.cells #[.func (.func g) #[] lb] 68)) (.cells #[addFn w.heap.size (w.heap.size + 1)] 76))) hb5); have HBWK := Aside0.mk (blk_below (blk_drew (blk_alloc (blk_new w (.cells #[.func (.func g) #[] lb] 68)) (.cells #[addFn w.heap.size (w.heap.size + 1)] 76))) hb5); have HBAK : Aside0 (w5.heap[w.heap.size + 1]? = some (.cells #[addFn w.heap.size (w.heap.size + 1)] 76 (0, 0))) := Aside0.mk (blk_below (blk_drew (by rw [← HSZ.out]; exact blk_new (w.alloc (.cells #[.func (.func g) #[] lb] 68)) _)) hb5); have HO : Aside0 (Kd.R (Kd.int .i64) 3 w5 w.heap.size (fun _ => True) v5 l) := Aside0.mk (Kd.R_lower ho5 (below_size (below_drew1 (below_alloc (below_alloc (Below.refl w.heap.size w) (.cells #[.func (.func g) #[] lb] 68)) (.cells #[addFn w.heap.size (w.heap.size + 1)] 76))))); have hcb : w5.cell? ⟨w.heap.size + 1, 0, none⟩ = some (.func (.func 74) #[] #[.pointer (some ⟨w.heap.size, 0, none⟩), .pointer (some ⟨w.heap.size + 1, 0, none⟩)]) := cell_of_one HBAK.out; clear ho5 hb5) | (go_at_fn 74; refine (impl_orders_1.calls step I g lb B CL.out w.heap.size (w.heap.size + 1) l.length [] l (.slice none 0 0) v5 st0 rs S0 _ ?hI ?hBw HBWK.out HBAK.out ?hnw ?hna (Kd.R_nil _ _ _ _ _) ?hl HH.out).mono ?_; (case hI => exact CL.out.move _ _ _ _ HI.out (fun k_ hk_ _ => HB.out.block k_ hk_) HB.out.size); (case hBw => exact Nat.le_trans HBW.out HB.out.size); (case hnw => exact fun h_ => Nat.lt_irrefl _ (HLT.out _ h_)); (case hna => exact fun h_ => Nat.not_succ_le_self _ (Nat.le_of_lt (HLT.out _ h_))); (case hl => exact Kd.R_lower (fresh_row HO.out (fun k_ h_ => HLT.out k_ h_)) HBW.out); rintro e w9 ⟨rfl, S3, hi3, he3, hs3⟩; have HI3 := Aside0.mk hi3; have HE3 := Aside0.mk (eff_then (Eff.of_below HB.out) he3 (fun _ h_ => .inl h_)); have HS3 : Aside0 (∀ k_, S3 k_ → S0 k_ ∨ w.heap.size ≤ k_) := Aside0.mk (fun k_ h_ => (hs3 k_ h_).elim .inl (fun h2_ => h2_.elim (fun e_ => by simp [Value.ownBlock] at e_) (fun h3_ => .inr (Nat.le_trans HB.out.size h3_)))); have hcb9 : w9.cell? ⟨w.heap.size + 1, 0, none⟩ = some (.func (.func 74) #[] #[.pointer (some ⟨w.heap.size, 0, none⟩), .pointer (some ⟨w.heap.size + 1, 0, none⟩)]) := cell_of_one (blk_kept HBAK.out he3.k (fun h_ => Nat.not_succ_le_self _ (Nat.le_of_lt (HLT.out _ h_)))); clear hi3 he3 hs3))
 all_goals
  go_wp2
  go_end0
  exact ⟨rfl, S3, HI3.out, HE3.out, HS3.out⟩

set_option maxHeartbeats 8000000 in
set_option maxRecDepth 100000 in
theorem impl_LikeliestOrder_1.calls (k : Nat) (W : World) (bl bp bm bo mm : Nat) (D : DataW Unit) (c : List UInt8 → Int) (h : List UInt8 → Bool) (m : Int) (u v : Value) (xs : List Int) (q : ByteArray) {base : Nat} {ok : Nat → Prop} (hD : W.ownsMap Try.prog 9 (plainElem Try.prog 3) bp mm D) (hrd : MapReads D c h)
    (hl : W.heap[bl]? = some (.cells #[.map (some bp)] 58 (0, 0))) (hm : W.heap[bm]? = some (.cells #[.int .i64 m] 3 (0, 0))) (hbo : W.heap[bo]? = some (.cells #[u] 24 (0, 0))) (hv : Kd.R (Kd.int .i64) 3 W base ok v xs) (h1 : impl_orderKey.f k xs = some q) (hq : q.size ≤ 1000) :
    Calls Try.prog 52 #[v, .pointer (some ⟨bl, 0, none⟩), .pointer (some ⟨bm, 0, none⟩), .pointer (some ⟨bo, 0, none⟩)] W fun e w' => e = .returned (.tuple #[]) ∧ Eff (fun k_ => k_ = bm ∨ k_ = bo) W w' ∧ (if m < c q.data.toList then w'.heap[bm]? = some (.cells #[.int .i64 (c q.data.toList)] 3 (0, 0)) ∧ w'.heap[bo]? = some (.cells #[v] 24 (0, 0)) else w'.heap[bm]? = some (.cells #[.int .i64 m] 3 (0, 0)) ∧ w'.heap[bo]? = some (.cells #[u] 24 (0, 0))) := by
  obtain ⟨A1, c1, rfl, hc1, hr1⟩ := Kd.R_reads hv
  have hz0 : W.cell? ⟨bl, 0, none⟩ = some (.map (some bp)) := (blk_cell hl 0).trans rfl
  have HL := Aside0.mk hl
  have HM := Aside0.mk hm
  have HBO := Aside0.mk hbo
  have HDM := Aside0.mk hD
  have HRd := Aside0.mk hrd
  have HR1 := Aside0.mk hr1
  have HC1 := Aside0.mk hc1
  have A5 := Aside0.mk h1
  have HZ := Aside0.mk (show q.size ≤ maxLen by unfold maxLen; omega)
  clear hv hr1 hc1 hD hrd hl hm hbo h1 hq
  have hbm1 : bo ≠ bm := blk_ne HBO.out HM.out (by decide)
  have hbm2 : bm ≠ bo := fun h => hbm1 h.symm
  obtain ⟨mc, hmc⟩ : ∃ x_, x_ = c q.data.toList := ⟨_, rfl⟩
  rw [← hmc]
  have HMC := Aside0.mk hmc
  clear hmc
  by_cases hgt : m < mc
  · go_enter Try.func52, Try.ntmps52
    go_wp2
    go_region_held3 (fun w' => w'.cell? ⟨bl, 0, none⟩ = some (.map (some bp))) (first | assumption | go_keep) (first | (go_at_call 37; refine (impl_orderKey.calls k _ _ xs q _ (by repeat (first | exact HR1.out | (with_reducible refine Kd.C_drewN ?_ _) | (with_reducible refine Kd.C_drew ?_))) HC1.out A5.out).mono ?_; rintro e w9 ⟨rfl, hb9⟩; have HB := Aside0.mk (show Below W.heap.size W w9 from (below_drew1 (Below.refl W.heap.size W)).trans hb9); have HD9 := Aside0.mk (md_kept HDM.out (HB.out.block bp HDM.out.lt)); have hz9 : w9.cell? ⟨bl, 0, none⟩ = some (.map (some bp)) := (blk_cell (blk_below HL.out HB.out) 0).trans rfl; have hm0 := cell_of_one (blk_below HM.out HB.out); have hm1 := free_of_one (blk_below HM.out HB.out); have ho0 := cell_of_one (blk_below HBO.out HB.out); have ho1 := free_of_one (blk_below HBO.out HB.out); obtain ⟨c7, hrun7, hat7, _⟩ := HD9.out.lookup_int md_law Try.underlying58 Try.underlying3 (md_zero _) (Go.WideMaps.keyOf_string_mk Try.underlying9 HZ.out); obtain rfl : c7 = mc := (by have h_ := HRd.out.2.1 q.data.toList; rw [hat7, ← HMC.out] at h_; exact ((Lit.int.inj (DataW.lit.inj h_)).2)); clear hat7 hb9))
    go_wp2
    go_end0
    exact ⟨by first | rfl | trivial, by repeat (first | exact Eff.of_below HB.out | refine eff_setS ?_ (.inl (.inl rfl)) | refine eff_setS ?_ (.inl (.inr rfl))), one_setCell ((Below.heap_setCell _ _ _ _ hbm2).trans (blk_below HM.out HB.out)), (Below.heap_setCell _ _ _ _ hbm1).trans (one_setCell (blk_below HBO.out HB.out))⟩
  · have hgb : mc ≤ m := by omega
    go_enter Try.func52, Try.ntmps52
    go_wp2
    go_region_held3 (fun w' => w'.cell? ⟨bl, 0, none⟩ = some (.map (some bp))) (first | assumption | go_keep) (first | (go_at_call 37; refine (impl_orderKey.calls k _ _ xs q _ (by repeat (first | exact HR1.out | (with_reducible refine Kd.C_drewN ?_ _) | (with_reducible refine Kd.C_drew ?_))) HC1.out A5.out).mono ?_; rintro e w9 ⟨rfl, hb9⟩; have HB := Aside0.mk (show Below W.heap.size W w9 from (below_drew1 (Below.refl W.heap.size W)).trans hb9); have HD9 := Aside0.mk (md_kept HDM.out (HB.out.block bp HDM.out.lt)); have hz9 : w9.cell? ⟨bl, 0, none⟩ = some (.map (some bp)) := (blk_cell (blk_below HL.out HB.out) 0).trans rfl; have hm0 := cell_of_one (blk_below HM.out HB.out); have hm1 := free_of_one (blk_below HM.out HB.out); have ho0 := cell_of_one (blk_below HBO.out HB.out); have ho1 := free_of_one (blk_below HBO.out HB.out); obtain ⟨c7, hrun7, hat7, _⟩ := HD9.out.lookup_int md_law Try.underlying58 Try.underlying3 (md_zero _) (Go.WideMaps.keyOf_string_mk Try.underlying9 HZ.out); obtain rfl : c7 = mc := (by have h_ := HRd.out.2.1 q.data.toList; rw [hat7, ← HMC.out] at h_; exact ((Lit.int.inj (DataW.lit.inj h_)).2)); clear hat7 hb9))
    go_wp2
    go_end0
    refine ⟨by first | rfl | trivial, by repeat (first | exact Eff.of_below HB.out | refine eff_setS ?_ (.inl (.inl rfl)) | refine eff_setS ?_ (.inl (.inr rfl))), ?_⟩
    try rw [if_neg (by omega)]
    exact ⟨blk_below HM.out HB.out, blk_below HBO.out HB.out⟩
def impl_LikeliestOrder.step (k n K : Nat) (q0 : List UInt8) (s : List Int × Int) (xs : List Int) : Option (List Int × Int) := if xs = [] then none else (impl_orderKey.f k xs).bind fun q => if q.size ≤ 1000 then some (if s.2 < mdC n q0 K q.data.toList then (xs, mdC n q0 K q.data.toList) else s) else none
def impl_LikeliestOrder.I (w0 : World) (bl bp bm bo mm : Nat) (D : DataW Unit) (s : List Int × Int) (S : Nat → Prop) (W : World) : Prop :=
  ∃ v : Value, (∀ k, S k ↔ (k = bl ∨ k = bm ∨ k = bo ∨ k = bp ∨ v.ownBlock = some k)) ∧ (∀ k, k < w0.heap.size → W.heap[k]? = w0.heap[k]?) ∧ W.heap[bl]? = some (.cells #[.map (some bp)] 58 (0, 0)) ∧ W.heap[bm]? = some (.cells #[.int .i64 s.2] 3 (0, 0)) ∧ W.heap[bo]? = some (.cells #[v] 24 (0, 0)) ∧ (v.ownBlock ≠ some bm ∧ v.ownBlock ≠ some bo) ∧ Kd.R (Kd.int .i64) 3 W w0.heap.size (fun _ => True) v s.1 ∧ W.ownsMap Try.prog 9 (plainElem Try.prog 3) bp mm D ∧ bp ≠ bm ∧ bp ≠ bo
theorem impl_LikeliestOrder.clo (w0 : World) (bl bp bm bo mm : Nat) (D : DataW Unit) (k n K : Nat) (q0 : List UInt8) (hrd : MapReads D (mdC n q0 K) (mdH n q0 K)) (hbl : w0.heap.size ≤ bl) (hbm : w0.heap.size ≤ bm) (hbo : w0.heap.size ≤ bo) : CloList 52 #[.pointer (some ⟨bl, 0, none⟩), .pointer (some ⟨bm, 0, none⟩), .pointer (some ⟨bo, 0, none⟩)] w0.heap.size (impl_LikeliestOrder.I w0 bl bp bm bo mm D) (impl_LikeliestOrder.step k n K q0) where
  enters := enters_of Try.func52 (by kernel_rfl) rfl
  lt := fun s S W q hI hq => by
    obtain ⟨v, h1, h2, h3, h4, h5, h6, h7, h8, h9⟩ := hI
    rcases (h1 q).1 hq with rfl | rfl | rfl | rfl | hq
    · exact blk_lt h3
    · exact blk_lt h4
    · exact blk_lt h5
    · exact h8.lt
    · exact ((Kd.R_bound h7).1 q hq).2.2.1
  move := fun s S W W' hI hm hsz => by
    obtain ⟨v, h1, h2, h3, h4, h5, h6, h7, h8, h9⟩ := hI
    have hs : w0.heap.size ≤ W.heap.size := by have := blk_lt h3; omega
    exact ⟨v, h1, fun q hq => (hm q (by omega) (.inl hq)).trans (h2 q hq), (hm bl (blk_lt h3) (.inr ((h1 bl).2 (.inl rfl)))).trans h3, (hm bm (blk_lt h4) (.inr ((h1 bm).2 (.inr (.inl rfl))))).trans h4, (hm bo (blk_lt h5) (.inr ((h1 bo).2 (.inr (.inr (.inl rfl)))))).trans h5, h6,
      Kd.R_mono (Kd.R_move (Kd.R_tight rfl h7) (fun q hq => hm q ((Kd.R_bound h7).1 q hq.symm).2.2.1 (.inr ((h1 q).2 (.inr (.inr (.inr (.inr hq.symm)))))))) (fun _ _ => trivial), md_kept h8 (hm bp h8.lt (.inr ((h1 bp).2 (.inr (.inr (.inr (.inl rfl))))))), h9⟩
  call := fun s s' S W v xs hI hv hst => by
    obtain ⟨u, h1, h2, h3, h4, h5, h6, h7, h8, h9⟩ := hI
    unfold impl_LikeliestOrder.step at hst
    by_cases hx : xs = []
    · rw [if_pos hx] at hst
      cases hst
    rw [if_neg hx] at hst
    obtain ⟨q, e1, hst⟩ := Option.bind_eq_some_iff.mp hst
    by_cases hqs : q.size ≤ 1000
    · rw [if_pos hqs] at hst
      obtain rfl := Option.some.inj hst
      clear hst
      have hlm : bl ≠ bm := blk_ne h3 h4 (by decide)
      have hlo : bl ≠ bo := blk_ne h3 h5 (by decide)
      have hs : w0.heap.size ≤ W.heap.size := by have := blk_lt h3; omega
      refine (impl_LikeliestOrder_1.calls k W bl bp bm bo mm D _ _ s.2 u v xs q h8 hrd h3 h4 h5 hv e1 hqs).mono ?_
      rintro e w' ⟨he0, he, hw⟩
      have hold : ∀ q, q < w0.heap.size → w'.heap[q]? = w0.heap[q]? := fun q hq => (he.k.2 q (by omega) (by intro hh; omega)).trans (h2 q hq)
      have hl' := (he.k.2 bl (blk_lt h3) (by intro hh; omega)).trans h3
      have hp' := md_kept h8 (he.k.2 bp h8.lt (by intro hh; rcases hh with hh | hh; exact h9.1 hh; exact h9.2 hh))
      have he' : Eff S W w' := ⟨he.b, he.k.mono (fun q hq => by
        rcases hq with rfl | rfl
        · exact (h1 _).2 (.inr (.inl rfl))
        · exact (h1 _).2 (.inr (.inr (.inl rfl))))⟩
      generalize mdC n q0 K q.data.toList = many at hw ⊢
      by_cases hgt : s.2 < many
      · rw [if_pos hgt] at hw
        simp only [if_pos hgt]
        refine ⟨he0, (fun q => q = bl ∨ q = bm ∨ q = bo ∨ q = bp ∨ v.ownBlock = some q), ⟨v, fun _ => Iff.rfl, hold, hl', hw.1, hw.2, ⟨fun hq => (hv.1 bm hq) ((h1 _).2 (.inr (.inl rfl))), fun hq => (hv.1 bo hq) ((h1 _).2 (.inr (.inr (.inl rfl))))⟩, Kd.R_mono (Kd.R_kept hv he'.k (fun q hq => hq)) (fun _ _ => trivial), hp', h9⟩, he', ?_⟩
        intro q hq
        rcases hq with rfl | rfl | rfl | rfl | hq
        · exact .inl ((h1 _).2 (.inl rfl))
        · exact .inl ((h1 _).2 (.inr (.inl rfl)))
        · exact .inl ((h1 _).2 (.inr (.inr (.inl rfl))))
        · exact .inl ((h1 _).2 (.inr (.inr (.inr (.inl rfl)))))
        · exact .inr (.inl hq)
      · rw [if_neg hgt] at hw
        simp only [if_neg hgt]
        refine ⟨he0, S, ⟨u, h1, hold, hl', hw.1, hw.2, h6, Kd.R_mono (Kd.R_kept (Kd.R_tight rfl h7) he.k (fun q hq hh => ?_)) (fun _ _ => trivial), hp', h9⟩, he', fun q hq => .inl hq⟩
        rcases hh with rfl | rfl
        · exact h6.1 hq.symm
        · exact h6.2 hq.symm
    · rw [if_neg hqs] at hst
      cases hst
def impl_LikeliestOrder.f (k : Nat) (a0 : Int) (a1 : Int) : Option (List Int × Bool) :=
  (impl_isTold.f a0 a1).bind fun t1 => if t1 = true then ((impl_identity.f k a0).bind fun ids => (impl_orderKey.f k ids).bind fun q0 => if 2 ≤ a0 ∧ a0 ≤ 5 ∧ 0 ≤ a1 ∧ a1 ≤ 20 ∧ (q0.data.toList.length : Int) = a0 then ((ordersF (impl_LikeliestOrder.step k a0.toNat a1.toNat q0.data.toList) k a0 (([] : List Int), (0 : Int))).bind fun o => some (o.1, true)) else none) else some ([], false)
set_option maxHeartbeats 8000000 in
set_option maxRecDepth 100000 in
set_option linter.unusedVariables false in
theorem impl_LikeliestOrder.calls (k : Nat) (a0 : Int) (a1 : Int) (r1 : List Int) (r2 : Bool) (w : World) (h : impl_LikeliestOrder.f k a0 a1 = some (r1, r2)) :
    Calls Try.prog 14 #[.int .i64 a0, .int .i64 a1] w fun e w' => ∃ v0_ : Value, e = .returned (.tuple #[v0_, .bool r2]) ∧ Kd.R (Kd.int .i64) 3 w' w.heap.size (fun _ => True) v0_ r1 ∧ Below w.heap.size w w' := by
  have hmf : ∀ (fn : Fn) (first cap : Array Value) (w : World), (Instr.makeFunc fn first cap).run Try.prog w = .ok (.func fn first cap) w := fun _ _ _ _ => rfl
  have HB0 := Aside0.mk (Below.refl w.heap.size w)
  unfold impl_LikeliestOrder.f at h
  obtain ⟨t1, e1, h⟩ := Option.bind_eq_some_iff.mp h
  have A1 := Aside0.mk e1
  clear e1
  cases t1 with
  | false =>
    rw [if_neg (by decide)] at h
    simp only [Option.some.injEq, Prod.mk.injEq] at h
    obtain ⟨rfl, rfl⟩ := h
    go_enter Try.func14, Try.ntmps14
    go_wp2_with (first | (go_at_call 34; refine (impl_isTold.calls a0 a1 false _ A1.out).mono ?_; rintro e w' ⟨rfl, ⟨nd, rfl⟩⟩))
    go_ret2
    exact ⟨_, rfl, Kd.R_nil _ _ _ _ _, by repeat (first | exact HB0.out | apply pw_below_drewN | apply below_drew1)⟩
  | true =>
    rw [if_pos rfl] at h
    obtain ⟨ids, e3, h⟩ := Option.bind_eq_some_iff.mp h
    obtain ⟨q0, e4, h⟩ := Option.bind_eq_some_iff.mp h
    by_cases hc : 2 ≤ a0 ∧ a0 ≤ 5 ∧ 0 ≤ a1 ∧ a1 ≤ 20 ∧ (q0.data.toList.length : Int) = a0
    · rw [if_pos hc] at h
      obtain ⟨c1, c2', c3, c4, c5⟩ := hc
      obtain ⟨⟨m, many⟩, e2, h⟩ := Option.bind_eq_some_iff.mp h
      simp only [Option.some.injEq, Prod.mk.injEq] at h
      obtain ⟨rfl, rfl⟩ := h
      obtain ⟨n, rfl⟩ : ∃ n : Nat, a0 = n := ⟨a0.toNat, by omega⟩
      obtain ⟨K, rfl⟩ : ∃ n : Nat, a1 = n := ⟨a1.toNat, by omega⟩
      rw [Int.toNat_natCast, Int.toNat_natCast] at e2
      have A2 := Aside0.mk e2
      have A3 := Aside0.mk e3
      have A4 := Aside0.mk e4
      have HQ := Aside0.mk (show q0.data.toList.length = n by omega)
      have HN := Aside0.mk (show 2 ≤ n ∧ n ≤ 5 ∧ K ≤ 20 by omega)
      clear e2 e3 e4 c1 c2' c3 c4 c5
      go_enter Try.func14, Try.ntmps14
      go_wp2_with (first | (go_at_call 34; refine (impl_isTold.calls _ _ true _ A1.out).mono ?_; rintro e w' ⟨rfl, ⟨nd, rfl⟩⟩) | (go_at_call 36; refine (impl_made.calls k n K ids q0 _ HN.out.1 HN.out.2.1 HN.out.2.2 A3.out A4.out HQ.out).mono ?_; rintro e w5 ⟨b, mm, D, rfl, hb, hown, hrd, hbel⟩; have HO := Aside0.mk hown; have HRd := Aside0.mk hrd; have HB := Aside0.mk (below_step (by repeat (first | exact HB0.out | apply pw_below_drewN | apply below_drew1)) hbel); have HBb := Aside0.mk (show w.heap.size ≤ b from hb); clear hb hown hrd hbel))
      have hbl := HO.out.lt
      have hsz := below_size HB.out
      refine (impl_orders.calls (impl_LikeliestOrder.step k n K q0.data.toList) (impl_LikeliestOrder.I w w5.heap.size b (w5.heap.size + 1 + 1) (w5.heap.size + 1) mm D) 52 _ w.heap.size (impl_LikeliestOrder.clo w w5.heap.size b (w5.heap.size + 1 + 1) (w5.heap.size + 1) mm D k n K q0.data.toList HRd.out hsz (by omega) (by omega)) k (n : Int) (([] : List Int), (0 : Int)) (fun k_ => k_ = w5.heap.size ∨ k_ = w5.heap.size + 1 + 1 ∨ k_ = w5.heap.size + 1 ∨ k_ = b ∨ (Value.slice none 0 0).ownBlock = some k_) (m, many) _ ?hI ?hB A2.out).mono ?_
      case hI =>
        refine ⟨.slice none 0 0, fun _ => Iff.rfl, fun k_ hk_ => ?_, blk_alloc (blk_alloc (blk_new w5 _) _) _, ?_, blk_alloc ?_ _, ⟨by simp [Value.ownBlock], by simp [Value.ownBlock]⟩, Kd.R_nil _ _ _ _ _, ((HO.out.alloc _).alloc _).alloc _, by omega, by omega⟩
        · have hk5 : k_ < w5.heap.size := by omega
          exact (Below.heap_alloc _ _ k_ (by simp; omega)).trans ((Below.heap_alloc _ _ k_ (by simp; omega)).trans ((Below.heap_alloc w5 _ k_ hk5).trans (HB.out.block k_ hk_)))
        · rw [show w5.heap.size + 1 + 1 = ((w5.alloc (Obj.cells #[.map (some b)] 58)).alloc (Obj.cells #[.slice none 0 0] 24)).heap.size from (by simp)]
          exact blk_new _ _
        · rw [show w5.heap.size + 1 = (w5.alloc (Obj.cells #[.map (some b)] 58)).heap.size from (by simp)]
          exact blk_new _ _
      case hB => exact below_size (below_alloc (below_alloc (below_alloc HB.out _) _) _)
      rintro e w9 ⟨rfl, S', hI, he, hs⟩
      have HBf := Aside0.mk (eff_below (below_alloc (below_alloc (below_alloc HB.out _) _) _) he (fun k_ h_ => by
        rcases h_ with rfl | rfl | rfl | rfl | h_
        · exact hsz
        · omega
        · omega
        · exact HBb.out
        · simp [Value.ownBlock] at h_))
      obtain ⟨v, h1, h2, h3, h4, h5, h6, h7, h8, h9⟩ := hI
      have HV := Aside0.mk h7
      have hx0 := cell_of_one h5
      clear h1 h2 h3 h4 h5 h6 h7 h8 h9 he hs hbl hsz
      go_wp2
      go_ret2
      exact ⟨_, rfl, HV.out, HBf.out⟩
    · rw [if_neg hc] at h; cases h

def laws_nLess.l0 : Nat → List Int → List Int → Int → Int → Option (Bool)
 | 0, _, _, _, _ => none
 | k + 1, x0, x1, x7, x8 => if x8 < x7 then (if x8 ≥ (x1.length : Int) then (some false) else (if 0 ≤ x8 then (if x8 < (x0.length : Int) then (if x8 < (x1.length : Int) then (if (rd x0 x8) = (rd x1 x8) then (laws_nLess.l0 k x0 x1 x7 (wrap64 (x8 + 1))) else (some (decide ((rd x0 x8) < (rd x1 x8))))) else (none)) else (none)) else (none))) else (some (decide ((x0.length : Int) < (x1.length : Int))))
def laws_nLess.f (k : Nat) (l0 : List Int) (l1 : List Int) : Option (Bool) := laws_nLess.l0 k l0 l1 (l0.length : Int) 0
theorem laws_nLess.mono_l : ∀ k, (∀ y0 y1 y2 y3, LeO (laws_nLess.l0 k y0 y1 y2 y3) (laws_nLess.l0 (k + 1) y0 y1 y2 y3))
 | 0 => fun _ _ _ _ r h => by simp [laws_nLess.l0] at h
 | k + 1 => by
  have ih0 := laws_nLess.mono_l k
  ·
   intro y0 y1 y2 y3
   unfold laws_nLess.l0
   repeat' first
   | (with_reducible exact ih0 _ _ _ _)
   | (with_reducible exact LeO.refl _)
   | (with_reducible exact LeO.none _)
   | (with_reducible refine LeO.ite ?_ ?_)
   | (with_reducible refine LeO.bind ?_ (fun _ => ?_))
   | exact ih0 _ _ _ _
   | exact LeO.none _
   | refine LeO.ite ?_ ?_
   | refine LeO.bind ?_ (fun _ => ?_)
theorem laws_nLess.mono : ∀ a0 a1 k, LeO (laws_nLess.f k a0 a1) (laws_nLess.f (k + 1) a0 a1) := by
 intro a0 a1 k
 have ih0 := laws_nLess.mono_l k
 unfold laws_nLess.f
 repeat' first
   | (with_reducible exact ih0 _ _ _ _)
   | (with_reducible exact LeO.refl _)
   | (with_reducible exact LeO.none _)
   | (with_reducible refine LeO.ite ?_ ?_)
   | (with_reducible refine LeO.bind ?_ (fun _ => ?_))
   | exact ih0 _ _ _ _
   | exact LeO.none _
   | refine LeO.ite ?_ ?_
   | refine LeO.bind ?_ (fun _ => ?_)
set_option maxHeartbeats 8000000 in
set_option maxRecDepth 100000 in
theorem laws_nLess.calls (k : Nat) (A0 : Option Addr) (c0 : Nat) (l0 : List Int) (A1 : Option Addr) (c1 : Nat) (l1 : List Int) (r : Bool) (w : World) (hr0 : Kd.C (Kd.int .i64) w A0 l0.length l0) (hc0 : l0.length ≤ c0) (hr1 : Kd.C (Kd.int .i64) w A1 l1.length l1) (hc1 : l1.length ≤ c1) (h : laws_nLess.f k l0 l1 = some r) :
  Calls Try.prog 15 #[.slice A0 l0.length c0, .slice A1 l1.length c1] w fun e w' => e = .returned (.bool r) ∧ Drawn0 w w' := by
 have HR0 := Aside0.mk hr0; have HC0 := Aside0.mk hc0; clear hr0 hc0; have HR1 := Aside0.mk hr1; have HC1 := Aside0.mk hc1; clear hr1 hc1; have H : (laws_nLess.l0 k l0 l1 (l0.length : Int) 0) = some r := h; clear h; have H' := Aside0.mk H; clear H
 go_enter Try.func15, Try.ntmps15
 go_wp2
 repeat (go_quiet (fail); try go_wp2)
 go_loopg [8] k (fun kq v8 w' => ∃ (x8_1 : Int), v8 = .int .i64 x8_1 ∧ Aside0 (laws_nLess.l0 kq l0 l1 (l0.length : Int) x8_1 = some r) ∧ Aside0 (kq ≤ k) ∧ Drawn0 w w')
 case atStart => exact ⟨(0), (by first | rfl | (simp; done) | (simp [*]; done)), H', ⟨Nat.le_refl _⟩, by repeat (first | exact Drawn0.refl _ | apply Drawn0.step)⟩
 case round =>
  (clear H'; (try clear c1); (try clear p2)); obtain ⟨x8_1, rfl, HA, HK1, ⟨m1, rfl⟩⟩ := hrel
  cases gk with
  | zero => exact absurd HA.out (by simp [laws_nLess.l0])
  | succ k1 =>
   have H := HA.out; clear HA
   simp only [laws_nLess.l0] at H
   by_cases c3 : x8_1 < (l0.length : Int)
   ·
    rw [if_pos c3] at H; have c3b0 : decide (x8_1 < (l0.length : Int)) = true := decide_eq_true c3; clear c3
    by_cases c4 : x8_1 ≥ (l1.length : Int)
    ·
     rw [if_pos c4] at H; have c4b0 : decide ((l1.length : Int) ≤ x8_1) = true := decide_eq_true c4; clear c4; obtain rfl := Option.some.inj H
     go_wp2
     repeat (go_quiet (fail); try go_wp2)
     go_ret
     exact ⟨by first | rfl | (simp; done) | (simp [*]; done), by repeat (first | exact Drawn0.refl _ | apply Drawn0.step)⟩
    ·
     rw [if_neg c4] at H; have c4b0 : decide ((l1.length : Int) ≤ x8_1) = false := decide_eq_false c4; clear c4
     by_cases c5 : 0 ≤ x8_1
     ·
      rw [if_pos c5] at H; have c5b0 : decide (0 ≤ x8_1) = true := decide_eq_true c5; clear c5
      by_cases c6 : x8_1 < (l0.length : Int)
      ·
       rw [if_pos c6] at H; have c6b0 : decide (x8_1 < (l0.length : Int)) = true := decide_eq_true c6; clear c6
       by_cases c7 : x8_1 < (l1.length : Int)
       ·
        rw [if_pos c7] at H; have c7b0 : decide (x8_1 < (l1.length : Int)) = true := decide_eq_true c7; clear c7
        by_cases c8 : (rd l0 x8_1) = (rd l1 x8_1)
        ·
         rw [if_pos c8] at H; have c8b0 : ((rd l0 x8_1) == (rd l1 x8_1)) = true := beq_iff_eq.mpr c8; have c8b1 : ((rd l0 x8_1) != (rd l1 x8_1)) = false := bne_eq_false_iff_eq.mpr c8; clear c8; have H' := Aside0.mk H; clear H; have p358 : 0 ≤ (x8_1 : Int) := of_decide_eq_true (by first | (with_reducible assumption) | assumption); have q358 : x8_1 < (l0.length : Int) := of_decide_eq_true (by first | (with_reducible assumption) | assumption); obtain ⟨ad358, e358, hx358_0⟩ := Kd.at_int HR0.out x8_1 p358 q358
         cases e358
         replace p358 := eq_true p358
         replace q358 := eq_true q358
         have p359 : 0 ≤ (x8_1 : Int) := of_decide_eq_true (by first | (with_reducible assumption) | assumption); have q359 : x8_1 < (l1.length : Int) := of_decide_eq_true (by first | (with_reducible assumption) | assumption)
         obtain ⟨ad359, e359, hx359_0⟩ := Kd.at_int HR1.out x8_1 p359 q359
         cases e359
         replace p359 := eq_true p359
         replace q359 := eq_true q359
         go_wp2
         repeat (go_quiet (fail); try go_wp2)
         go_roundg k1
         case measure => have := HK1.out; omega
         case rel => exact ⟨(wrap64 (x8_1 + 1)), (by first | rfl | (simp; done) | (simp [*]; done)), H', ⟨by have := HK1.out; omega⟩, by repeat (first | exact Drawn0.refl _ | apply Drawn0.step)⟩
        ·
         rw [if_neg c8] at H; have c8b0 : ((rd l0 x8_1) == (rd l1 x8_1)) = false := beq_eq_false_iff_ne.mpr c8; have c8b1 : ((rd l0 x8_1) != (rd l1 x8_1)) = true := bne_iff_ne.mpr c8; obtain rfl := Option.some.inj H
         have p358 : 0 ≤ (x8_1 : Int) := of_decide_eq_true (by first | (with_reducible assumption) | assumption); have q358 : x8_1 < (l0.length : Int) := of_decide_eq_true (by first | (with_reducible assumption) | assumption)
         obtain ⟨ad358, e358, hx358_0⟩ := Kd.at_int HR0.out x8_1 p358 q358
         cases e358
         replace p358 := eq_true p358
         replace q358 := eq_true q358
         have p359 : 0 ≤ (x8_1 : Int) := of_decide_eq_true (by first | (with_reducible assumption) | assumption); have q359 : x8_1 < (l1.length : Int) := of_decide_eq_true (by first | (with_reducible assumption) | assumption)
         obtain ⟨ad359, e359, hx359_0⟩ := Kd.at_int HR1.out x8_1 p359 q359
         cases e359
         replace p359 := eq_true p359
         replace q359 := eq_true q359
         have p360 : 0 ≤ (x8_1 : Int) := of_decide_eq_true (by first | (with_reducible assumption) | assumption); have q360 : x8_1 < (l0.length : Int) := of_decide_eq_true (by first | (with_reducible assumption) | assumption)
         obtain ⟨ad360, e360, hx360_0⟩ := Kd.at_int HR0.out x8_1 p360 q360; obtain rfl : ad358 = ad360 := (by injection e360)
         replace p360 := eq_true p360
         replace q360 := eq_true q360
         have p361 : 0 ≤ (x8_1 : Int) := of_decide_eq_true (by first | (with_reducible assumption) | assumption); have q361 : x8_1 < (l1.length : Int) := of_decide_eq_true (by first | (with_reducible assumption) | assumption)
         obtain ⟨ad361, e361, hx361_0⟩ := Kd.at_int HR1.out x8_1 p361 q361; obtain rfl : ad359 = ad361 := (by injection e361)
         replace p361 := eq_true p361
         replace q361 := eq_true q361
         go_wp2
         repeat (go_quiet (fail); try go_wp2)
         go_ret
         exact ⟨by first | rfl | (simp; done) | (simp [*]; done), by repeat (first | exact Drawn0.refl _ | apply Drawn0.step)⟩
       ·
        rw [if_neg c7] at H
        exact absurd H (by simp)
      ·
       rw [if_neg c6] at H
       exact absurd H (by simp)
     ·
      rw [if_neg c5] at H
      exact absurd H (by simp)
   ·
    rw [if_neg c3] at H; have c3b0 : decide (x8_1 < (l0.length : Int)) = false := decide_eq_false c3; clear c3; obtain rfl := Option.some.inj H
    go_wp2
    repeat (go_quiet (fail); try go_wp2)
    go_ret
    exact ⟨by first | rfl | (simp; done) | (simp [*]; done), by repeat (first | exact Drawn0.refl _ | apply Drawn0.step)⟩

def spec_DrawCountOrdersMade.f (l0 : List Int) : Option (Int × Int) := (spec_l1Cur_fall.f l0 0 0 5).bind fun bt363 => (some (bt363.1, bt363.2.1))
set_option maxHeartbeats 8000000 in
set_option maxRecDepth 100000 in
theorem spec_DrawCountOrdersMade.calls (A0 : Option Addr) (c0 : Nat) (l0 : List Int) (r1 : Int) (r2 : Int) (w : World) (hr0 : Kd.C (Kd.int .u8) w A0 l0.length l0) (hc0 : l0.length ≤ c0) (h : spec_DrawCountOrdersMade.f l0 = some (r1, r2)) :
  Calls Try.prog 53 #[.slice A0 l0.length c0] w fun e w' => e = .returned (.tuple #[.int .i64 r1, .int .i64 r2]) ∧ Below w.heap.size w w' := by
 have hu50 := Try.underlying50; have HR0 := Aside0.mk hr0; have HC0 := Aside0.mk hc0; clear hr0 hc0; have HB := Zm (Below.refl w.heap.size w); have H : ((spec_l1Cur_fall.f l0 0 0 5).bind fun bt363 => (some (bt363.1, bt363.2.1))) = some (r1, r2) := h; clear h
 replace H := Option.bind_eq_some_iff.mp H; obtain ⟨⟨t363, t364, t365, t366⟩, A20, H⟩ := H; replace H : (some (t363, t364)) = some (r1, r2) := H; have A2 := Aside0.mk A20; clear A20
 simp only [Option.some.injEq, Prod.mk.injEq] at H
 obtain ⟨rfl, rfl⟩ := H
 go_enter Try.func53, Try.ntmps53
 go_wp2_with (first | ((with_reducible refine gate_dst (N := 7) rfl ?_); refine box_event ?hg (N := 7) ?hd (cs := #[.slice A0 l0.length c0, .int .i64 0, .int .u64 0]) (t := 50) ?hr ?_; (case hd => rfl); (case hg => rfl); (case hr => first | (go_simp; done) | (go_simp; rfl)); intro gb362 hg w3 hbox hb; have HI362 := Zm ((show IsS50 w w3 gb362 l0 0 0 from ⟨_, _, hbox, (by rw [hg]; exact (below_size (Zl HB))), HR0.out⟩)); have GW362 := Zx hg HB; have GE362 := Zx hg HB; replace HB := Zh HB hb; clear hb hbox hg) | ((with_reducible refine gate_callee (f := 29) rfl ?_); refine Ga (some 9) Try.func29 #[.pointer (some ⟨gb362, 0, none⟩), .int .i64 5] (h := ?_); (with_reducible refine (spec_l1Cur_fall.calls gb362 l0 0 0 5 t363 t364 t365 t366 w _ ?side1 ?side2 A2.out).mono ?_); (case side1 => repeat (first | (with_reducible first | exact HI362.out | apply IsS50.alloc | apply IsS50.drewN | apply IsS50.drew | apply IsS50.set_1 | apply IsS50.set_2) | exact HI362.out)); (case side2 => repeat (first | (with_reducible first | exact HB.out | apply below_alloc | apply pw_below_drewN | apply below_drew1 | refine below_set ?_ (IsS50.ge HI362.out)) | exact HB.out)); rintro e w4 ⟨rfl, hi, hb, hk⟩; refine ⟨_, rfl, ?_⟩; replace HB := Zm (hb); replace HI362 := Zm (hi); (try clear hb); (try clear hb2); (try clear hk); (try clear hi)))
 go_ret2
 exact ⟨by first | rfl | (simp [errW_none, errW_some] <;> rfl) | (simp [*, errW_none, errW_some] <;> rfl), by repeat (first | (with_reducible first | exact HB.out | apply below_alloc | apply pw_below_drewN | apply below_drew1 | refine below_set ?_ (IsS50.ge HI362.out)) | exact HB.out)⟩

def spec_DrawMeanInversions.f (l0 : List Int) : Option (Int × Int) := (spec_DrawCountOrdersMade.f l0).bind fun bt367 => (some (bt367.1, bt367.2))
set_option maxHeartbeats 8000000 in
set_option maxRecDepth 100000 in
theorem spec_DrawMeanInversions.calls (A0 : Option Addr) (c0 : Nat) (l0 : List Int) (r1 : Int) (r2 : Int) (w : World) (hr0 : Kd.C (Kd.int .u8) w A0 l0.length l0) (hc0 : l0.length ≤ c0) (h : spec_DrawMeanInversions.f l0 = some (r1, r2)) :
  Calls Try.prog 16 #[.slice A0 l0.length c0] w fun e w' => e = .returned (.tuple #[.int .i64 r1, .int .i64 r2]) ∧ Below w.heap.size w w' := by
 (have HR0 := Aside0.mk hr0; have HC0 := Aside0.mk hc0; clear hr0 hc0; have HB := Zm (Below.refl w.heap.size w); have H : ((spec_DrawCountOrdersMade.f l0).bind fun bt367 => (some (bt367.1, bt367.2))) = some (r1, r2) := h; clear h); replace H := Option.bind_eq_some_iff.mp H; obtain ⟨⟨t367, t368⟩, A20, H⟩ := H; replace H : (some (t367, t368)) = some (r1, r2) := H; have A2 := Aside0.mk A20; clear A20
 simp only [Option.some.injEq, Prod.mk.injEq] at H
 obtain ⟨rfl, rfl⟩ := H
 go_enter Try.func16, Try.ntmps16
 go_wp2_with (first | ((with_reducible refine gate_callee (f := 53) rfl ?_); refine Ga (some 5) Try.func53 #[.slice A0 l0.length c0] (h := ?_); (with_reducible refine (spec_DrawCountOrdersMade.calls _ _ l0 t367 t368 _ ?side1 ?side2 A2.out).mono ?_); (case side1 => repeat (first | exact HR0.out | (with_reducible refine Kd.C_alloc ?_ _) | (with_reducible refine Kd.C_drewN ?_ _) | (with_reducible refine Kd.C_drew ?_))); (case side2 => exact HC0.out); rintro e w3 ⟨rfl, hb⟩; refine ⟨_, rfl, ?_⟩; replace HB := Zh HB hb; (try clear hb); (try clear hb2); (try clear hk); (try clear hi)))
 go_ret2
 exact ⟨by first | rfl | (simp [errW_none, errW_some] <;> rfl) | (simp [*, errW_none, errW_some] <;> rfl), Zl HB⟩

def impl_over.f (a0 : Int) (a1 : Int) : Option (Int) := if a0 = a1 then (some (wrap64 (a1 + 1))) else (if a0 = (wrap64 (a1 + 1)) then (some a1) else (some a0))
set_option maxHeartbeats 8000000 in
set_option maxRecDepth 100000 in
theorem impl_over.calls (a0 : Int) (a1 : Int) (r : Int) (w : World) (h : impl_over.f a0 a1 = some r) :
  Calls Try.prog 77 #[.int .i64 a0, .int .i64 a1] w fun e w' => e = .returned (.int .i64 r) ∧ Drawn0 w w' := by
 have H : (if a0 = a1 then (some (wrap64 (a1 + 1))) else (if a0 = (wrap64 (a1 + 1)) then (some a1) else (some a0))) = some r := h; clear h
 by_cases c3 : a0 = a1
 ·
  rw [if_pos c3] at H; have c3b0 : (a0 == a1) = true := beq_iff_eq.mpr c3; have c3b1 : (a0 != a1) = false := bne_eq_false_iff_eq.mpr c3; clear c3; obtain rfl := Option.some.inj H
  go_enter Try.func77, Try.ntmps77
  go_wp2
  go_ret
  exact ⟨by first | rfl | (simp; done) | (simp [*]; done), by repeat (first | exact Drawn0.refl _ | apply Drawn0.step)⟩
 ·
  rw [if_neg c3] at H; have c3b0 : (a0 == a1) = false := beq_eq_false_iff_ne.mpr c3; have c3b1 : (a0 != a1) = true := bne_iff_ne.mpr c3
  by_cases c4 : a0 = (wrap64 (a1 + 1))
  ·
   rw [if_pos c4] at H; have c4b0 : (a0 == (wrap64 (a1 + 1))) = true := beq_iff_eq.mpr c4; have c4b1 : (a0 != (wrap64 (a1 + 1))) = false := bne_eq_false_iff_eq.mpr c4; clear c4; obtain rfl := Option.some.inj H
   go_enter Try.func77, Try.ntmps77
   go_wp2
   go_ret
   exact ⟨by first | rfl | (simp; done) | (simp [*]; done), by repeat (first | exact Drawn0.refl _ | apply Drawn0.step)⟩
  ·
   rw [if_neg c4] at H; have c4b0 : (a0 == (wrap64 (a1 + 1))) = false := beq_eq_false_iff_ne.mpr c4; have c4b1 : (a0 != (wrap64 (a1 + 1))) = true := bne_iff_ne.mpr c4; obtain rfl := Option.some.inj H
   go_enter Try.func77, Try.ntmps77
   go_wp2
   go_ret
   exact ⟨by first | rfl | (simp; done) | (simp [*]; done), by repeat (first | exact Drawn0.refl _ | apply Drawn0.step)⟩

end Go.Proofs.Ytabobnlpcapohaa.Q
