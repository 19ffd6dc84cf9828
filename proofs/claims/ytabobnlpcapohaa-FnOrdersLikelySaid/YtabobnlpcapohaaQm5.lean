/- Each function below comes to the Lean function beside it (theorems '.calls'); no condition beyond each theorem's own. Written by our program oprint.py over the kit's print. -/
import Derived.Test.YtabobnlpcapohaaQm0
import Derived.Test.YtabobnlpcapohaaQm4
import Derived.Test.YtabobnlpcapohaaQm1
import Derived.Test.YtabobnlpcapohaaQm3
import Derived.Test.YtabobnlpcapohaaQm2
import Derived.Maps.OwnSet
namespace Go.Proofs.Ytabobnlpcapohaa.Q
open Go.RowKit Go.Proofs.YtabobnlpcapohaaW.PrintWords Go.Proofs.YtabobnlpcapohaaW.PrintLast Go.Proofs.YtabobnlpcapohaaW.PrintMore
attribute [local go_sem] max2_int min2_int max_two min_two max_three min_three max_four min_four
set_option linter.unusedVariables false
set_option linter.unusedSimpArgs false

mutual
def impl_pairs.l0 : Nat → Int → List Int → List (List Int) → Int → Int → Option ((List (List Int)))
 | 0, _, _, _, _, _ => none
 | k + 1, x0, x9, x10, x28, x29 => if x29 < x28 then (if 0 ≤ (wrap64 (x0 * x0)) then (if (wrap64 (x0 * x0) : Int).toNat ≤ 35184372088832 then (impl_pairs.l1 k x0 x10 (List.replicate (wrap64 (x0 * x0) : Int).toNat 0) x28 x29 x9 (x9.length : Int) 0) else (none)) else (none)) else (some x10)
def impl_pairs.l1 : Nat → Int → List (List Int) → List Int → Int → Int → List Int → Int → Int → Option ((List (List Int)))
 | 0, _, _, _, _, _, _, _, _ => none
 | k + 1, x0, x10, x11, x28, x29, x35, x36, x37 => if x37 < x36 then (if 0 ≤ x37 then (if x37 < (x35.length : Int) then (if (rd x35 x37) > 0 then (impl_pairs.l2 k x0 x10 x11 x37 (rd x35 x37) x28 x29 x35 x36 x37 (wrap64 (x0 - 1)) 0) else (impl_pairs.l1 k x0 x10 x11 x28 x29 x35 x36 (wrap64 (x37 + 1)))) else (none)) else (none)) else (if x10.length < 5864062014805 then (impl_pairs.l0 k x0 x11 (x10 ++ [x11]) x28 (wrap64 (x29 + 1))) else (none))
def impl_pairs.l2 : Nat → Int → List (List Int) → List Int → Int → Int → Int → Int → List Int → Int → Int → Int → Int → Option ((List (List Int)))
 | 0, _, _, _, _, _, _, _, _, _, _, _, _ => none
 | k + 1, x0, x10, x11, x12, x13, x28, x29, x35, x36, x37, x45, x46 => if x46 < x45 then (if x0 = 0 then (none) else ((impl_over.f (wrap64 (Int.tdiv x12 x0)) x46).bind fun t383 => ((impl_over.f (Int.tmod x12 x0) x46).bind fun t384 => (if 0 ≤ (wrap64 ((wrap64 (t383 * x0)) + t384)) then (if (wrap64 ((wrap64 (t383 * x0)) + t384)) < (x11.length : Int) then (impl_pairs.l2 k x0 x10 (x11.set ((wrap64 ((wrap64 (t383 * x0)) + t384)) : Int).toNat (wrap64 ((rd x11 (wrap64 ((wrap64 (t383 * x0)) + t384))) + x13))) x12 x13 x28 x29 x35 x36 x37 x45 (wrap64 (x46 + 1))) else (none)) else (none))))) else (impl_pairs.l1 k x0 x10 x11 x28 x29 x35 x36 (wrap64 (x37 + 1)))
end
def impl_pairs.f (k : Nat) (a0 : Int) (a1 : Int) (a2 : Int) (a3 : Int) : Option ((List (List Int))) := if 0 ≤ (wrap64 (a0 * a0)) then (if (wrap64 (a0 * a0) : Int).toNat ≤ 35184372088832 then ((some (List.replicate (wrap64 (a0 * a0) : Int).toNat 0 : List Int)).bind fun y369 => (if 0 ≤ (wrap64 ((wrap64 (a2 * a0)) + a3)) then (if (wrap64 ((wrap64 (a2 * a0)) + a3)) < (y369.length : Int) then ((some (y369.set ((wrap64 ((wrap64 (a2 * a0)) + a3)) : Int).toNat 1 : List Int)).bind fun y372 => (impl_pairs.l0 k a0 y372 (([y372] : List (List Int))) a1 0)) else (none)) else (none))) else (none)) else (none)
theorem impl_pairs.mono_l : ∀ k, (∀ y0 y1 y2 y3 y4, LeO (impl_pairs.l0 k y0 y1 y2 y3 y4) (impl_pairs.l0 (k + 1) y0 y1 y2 y3 y4)) ∧ (∀ y0 y1 y2 y3 y4 y5 y6 y7, LeO (impl_pairs.l1 k y0 y1 y2 y3 y4 y5 y6 y7) (impl_pairs.l1 (k + 1) y0 y1 y2 y3 y4 y5 y6 y7)) ∧ (∀ y0 y1 y2 y3 y4 y5 y6 y7 y8 y9 y10 y11, LeO (impl_pairs.l2 k y0 y1 y2 y3 y4 y5 y6 y7 y8 y9 y10 y11) (impl_pairs.l2 (k + 1) y0 y1 y2 y3 y4 y5 y6 y7 y8 y9 y10 y11))
 | 0 => ⟨fun _ _ _ _ _ r h => by simp [impl_pairs.l0] at h, fun _ _ _ _ _ _ _ _ r h => by simp [impl_pairs.l1] at h, fun _ _ _ _ _ _ _ _ _ _ _ _ r h => by simp [impl_pairs.l2] at h⟩
 | k + 1 => by
  obtain ⟨ih0, ih1, ih2⟩ := impl_pairs.mono_l k
  refine ⟨?_, ?_, ?_⟩
  ·
   intro y0 y1 y2 y3 y4
   unfold impl_pairs.l0
   repeat' first
   | (with_reducible exact ih0 _ _ _ _ _)
   | (with_reducible exact ih1 _ _ _ _ _ _ _ _)
   | (with_reducible exact ih2 _ _ _ _ _ _ _ _ _ _ _ _)
   | (with_reducible exact LeO.refl _)
   | (with_reducible exact LeO.none _)
   | (with_reducible refine LeO.ite ?_ ?_)
   | (with_reducible refine LeO.bind ?_ (fun _ => ?_))
   | exact ih0 _ _ _ _ _
   | exact ih1 _ _ _ _ _ _ _ _
   | exact ih2 _ _ _ _ _ _ _ _ _ _ _ _
   | exact LeO.none _
   | refine LeO.ite ?_ ?_
   | refine LeO.bind ?_ (fun _ => ?_)
  ·
   intro y0 y1 y2 y3 y4 y5 y6 y7
   unfold impl_pairs.l1
   repeat' first
   | (with_reducible exact ih0 _ _ _ _ _)
   | (with_reducible exact ih1 _ _ _ _ _ _ _ _)
   | (with_reducible exact ih2 _ _ _ _ _ _ _ _ _ _ _ _)
   | (with_reducible exact LeO.refl _)
   | (with_reducible exact LeO.none _)
   | (with_reducible refine LeO.ite ?_ ?_)
   | (with_reducible refine LeO.bind ?_ (fun _ => ?_))
   | exact ih0 _ _ _ _ _
   | exact ih1 _ _ _ _ _ _ _ _
   | exact ih2 _ _ _ _ _ _ _ _ _ _ _ _
   | exact LeO.none _
   | refine LeO.ite ?_ ?_
   | refine LeO.bind ?_ (fun _ => ?_)
  ·
   intro y0 y1 y2 y3 y4 y5 y6 y7 y8 y9 y10 y11
   unfold impl_pairs.l2
   repeat' first
   | (with_reducible exact ih0 _ _ _ _ _)
   | (with_reducible exact ih1 _ _ _ _ _ _ _ _)
   | (with_reducible exact ih2 _ _ _ _ _ _ _ _ _ _ _ _)
   | (with_reducible exact LeO.refl _)
   | (with_reducible exact LeO.none _)
   | (with_reducible refine LeO.ite ?_ ?_)
   | (with_reducible refine LeO.bind ?_ (fun _ => ?_))
   | exact ih0 _ _ _ _ _
   | exact ih1 _ _ _ _ _ _ _ _
   | exact ih2 _ _ _ _ _ _ _ _ _ _ _ _
   | exact LeO.none _
   | refine LeO.ite ?_ ?_
   | refine LeO.bind ?_ (fun _ => ?_)
theorem impl_pairs.mono : ∀ a0 a1 a2 a3 k, LeO (impl_pairs.f k a0 a1 a2 a3) (impl_pairs.f (k + 1) a0 a1 a2 a3) := by
 intro a0 a1 a2 a3 k
 obtain ⟨ih0, ih1, ih2⟩ := impl_pairs.mono_l k
 unfold impl_pairs.f
 repeat' first
   | (with_reducible exact ih0 _ _ _ _ _)
   | (with_reducible exact ih1 _ _ _ _ _ _ _ _)
   | (with_reducible exact ih2 _ _ _ _ _ _ _ _ _ _ _ _)
   | (with_reducible exact LeO.refl _)
   | (with_reducible exact LeO.none _)
   | (with_reducible refine LeO.ite ?_ ?_)
   | (with_reducible refine LeO.bind ?_ (fun _ => ?_))
   | exact ih0 _ _ _ _ _
   | exact ih1 _ _ _ _ _ _ _ _
   | exact ih2 _ _ _ _ _ _ _ _ _ _ _ _
   | exact LeO.none _
   | refine LeO.ite ?_ ?_
   | refine LeO.bind ?_ (fun _ => ?_)
def impl_pairs.T14 : Bool × List (List Nat × List Nat) := (true, [([], []), ([], []), ([], []), ([1, 2], [1, 2]), ([], []), ([3, 4], [3, 4]), ([], []), ([5, 6], [5, 6]), ([], []), ([], []), ([8, 9], [8, 9]), ([], []), ([10, 11, 5], [10, 11]), ([7, 12], [7, 12]), ([0, 13], [0, 13]), ([14], [14]), ([], []), ([15, 16], [15, 16]), ([0, 13, 0, 1, 2, 3, 4, 5, 6, 7, 8, 9, 10, 11, 12, 13, 14, 15, 16, 17], [0, 13]), ([18, 17, 12, 0, 1, 2, 3, 4, 5, 6, 7, 8, 9, 10, 11, 12, 13, 14, 15, 16, 17], [17, 18])])
def impl_pairs.B14 : List Nat := [0, 0, 0, 6, 0, 30, 0, 126, 0, 0, 768, 0, 3902, 8190, 16383, 32767, 0, 131071, 262143, 524287]
theorem impl_pairs.tab14 : rtab .any (opsOf Try.f54 14) = impl_pairs.T14 := by kernel_rfl
theorem impl_pairs.bits14 : waitsOk impl_pairs.T14.2 impl_pairs.B14 = true := by kernel_rfl
set_option maxHeartbeats 8000000 in
set_option maxRecDepth 100000 in
theorem impl_pairs.calls (k : Nat) (a0 : Int) (a1 : Int) (a2 : Int) (a3 : Int) (r : List (List Int)) (w : World) (h : impl_pairs.f k a0 a1 a2 a3 = some r) :
  Calls Try.prog 54 #[.int .i64 a0, .int .i64 a1, .int .i64 a2, .int .i64 a3] w fun e w' => ∃ v0_ : Value, e = .returned (v0_) ∧ Kd.N (Kd.slice 3 (Kd.int .i64)) 24 w' w.heap.size (fun k_ => (w.heap.size ≤ k_)) v0_ r ∧ Below w.heap.size w w' := by
 (have HB := Zm (Below.refl w.heap.size w); have H : (if 0 ≤ (wrap64 (a0 * a0)) then (if (wrap64 (a0 * a0) : Int).toNat ≤ 35184372088832 then ((some (List.replicate (wrap64 (a0 * a0) : Int).toNat 0 : List Int)).bind fun y369 => (if 0 ≤ (wrap64 ((wrap64 (a2 * a0)) + a3)) then (if (wrap64 ((wrap64 (a2 * a0)) + a3)) < (y369.length : Int) then ((some (y369.set ((wrap64 ((wrap64 (a2 * a0)) + a3)) : Int).toNat 1 : List Int)).bind fun y372 => (impl_pairs.l0 k a0 y372 (([y372] : List (List Int))) a1 0)) else (none)) else (none))) else (none)) else (none)) = some r := h; clear h); obtain ⟨ji5, hji5⟩ : ∃ j_ : Int, (wrap64 (a0 * a0)) = j_ := ⟨_, rfl⟩; (replace H : (if 0 ≤ (ji5) then (if (ji5 : Int).toNat ≤ 35184372088832 then ((some (List.replicate (ji5 : Int).toNat 0 : List Int)).bind fun y369 => (if 0 ≤ (wrap64 ((wrap64 (a2 * a0)) + a3)) then (if (wrap64 ((wrap64 (a2 * a0)) + a3)) < (y369.length : Int) then ((some (y369.set ((wrap64 ((wrap64 (a2 * a0)) + a3)) : Int).toNat 1 : List Int)).bind fun y372 => (impl_pairs.l0 k a0 y372 (([y372] : List (List Int))) a1 0)) else (none)) else (none))) else (none)) else (none)) = some r := by first | (rw [hji5] at H; exact H) | (simp only [hji5] at H ⊢; exact H))
 have hji5w : (IntKind.i64.wrap (a0 * a0)) = ji5 := (i64_w _).trans hji5
 by_cases c6 : 0 ≤ (ji5)
 ·
  rw [if_pos c6] at H; have c6b0 := eq_true c6; have c6b1 : decide (0 ≤ (ji5)) = true := decide_eq_true c6; clear c6
  by_cases c7 : (ji5 : Int).toNat ≤ 35184372088832
  ·
   rw [if_pos c7] at H; have c7b0 := eq_true c7; have c7b1 : decide ((ji5 : Int).toNat ≤ 35184372088832) = true := decide_eq_true c7; clear c7; obtain ⟨y369, hy369⟩ : ∃ y_ : List Int, y_ = (List.replicate (ji5 : Int).toNat 0) := ⟨_, rfl⟩; (replace H : (if 0 ≤ (wrap64 ((wrap64 (a2 * a0)) + a3)) then (if (wrap64 ((wrap64 (a2 * a0)) + a3)) < (y369.length : Int) then ((some (y369.set ((wrap64 ((wrap64 (a2 * a0)) + a3)) : Int).toNat 1 : List Int)).bind fun y372 => (impl_pairs.l0 k a0 y372 (([y372] : List (List Int))) a1 0)) else (none)) else (none)) = some r := by first | (rw [hy369]; with_reducible exact H) | (have H2_ := (Option.bind_some _ _).symm.trans H; rw [hy369]; with_reducible exact H2_) | (have H2_ := (Option.bind_some _ _).symm.trans H; with_reducible exact H2_) | with_reducible exact H | (rw [hy369]; exact H) | exact H)
   have Ny369 := Aside0.mk hy369; clear hy369
   obtain ⟨ji8, hji8⟩ : ∃ j_ : Int, (wrap64 ((wrap64 (a2 * a0)) + a3)) = j_ := ⟨_, rfl⟩; (replace H : (if 0 ≤ (ji8) then (if (ji8) < (y369.length : Int) then ((some (y369.set ((ji8) : Int).toNat 1 : List Int)).bind fun y372 => (impl_pairs.l0 k a0 y372 (([y372] : List (List Int))) a1 0)) else (none)) else (none)) = some r := by first | (rw [hji8] at H; exact H) | (simp only [hji8] at H ⊢; exact H))
   have hji8w : (IntKind.i64.wrap ((wrap64 (a2 * a0)) + a3)) = ji8 := (i64_w _).trans hji8
   by_cases c9 : 0 ≤ (ji8)
   ·
    rw [if_pos c9] at H; have c9b0 : decide (0 ≤ (ji8)) = true := decide_eq_true c9; clear c9
    by_cases c10 : (ji8) < (y369.length : Int)
    ·
     rw [if_pos c10] at H; have c10b0 : decide ((ji8) < (y369.length : Int)) = true := decide_eq_true c10; clear c10; obtain ⟨y372, hy372⟩ : ∃ y_ : List Int, y_ = (y369.set ((ji8) : Int).toNat 1) := ⟨_, rfl⟩; (replace H : (impl_pairs.l0 k a0 y372 (([y372] : List (List Int))) a1 0) = some r := by first | (rw [hy372]; with_reducible exact H) | (have H2_ := (Option.bind_some _ _).symm.trans H; rw [hy372]; with_reducible exact H2_) | (have H2_ := (Option.bind_some _ _).symm.trans H; with_reducible exact H2_) | with_reducible exact H | (rw [hy372]; exact H) | exact H)
     have Ny372 := Aside0.mk hy372; clear hy372
     obtain ⟨y373, hy373⟩ : ∃ y_ : List (List Int), y_ = (([y372] : List (List Int))) := ⟨_, rfl⟩; (replace H : (impl_pairs.l0 k a0 y372 y373 a1 0) = some r := by first | (rw [hy373]; with_reducible exact H) | (have H2_ := (Option.bind_some _ _).symm.trans H; rw [hy373]; with_reducible exact H2_) | (have H2_ := (Option.bind_some _ _).symm.trans H; with_reducible exact H2_) | with_reducible exact H | (rw [hy373]; exact H) | exact H)
     have Ny373 := Aside0.mk hy373; clear hy373; have H' := Aside0.mk H; clear H
     go_enter Try.func54, Try.ntmps54
     go_wp2_with (first | ((with_reducible refine gate_dst (N := 18) rfl ?_); refine Kd.R_make (Kd.int .i64) _ 3 rfl (N := 18) rfl 24 _ _ rfl ji5 rfl rfl Try.underlying24 (.int .i64 0) 8 info3 rfl (by decide) (by omega) 0 (ok := fun _ => True) (okp := fun _ => True) rfl (fun _ hk => hk) trivial (of_decide_eq_true (by first | (with_reducible assumption) | assumption)) (Nat.le_trans (Nat.mul_le_mul_right _ (of_decide_eq_true (by first | (with_reducible assumption) | assumption) : ji5.toNat ≤ 35184372088832)) (by omega)) (Below.refl _ _) (Nat.le_refl _) ?_; intro v370 w12 ho13 hb hg_ hnew_; clear hg_ hnew_; (first | rw [← Ny369.out] at ho13 | (simp only [Int.reduceToNat] at ho13; rw [← Ny369.out] at ho13)); have HO371 := Zj (Kd.R_newM (M := fun k_ => (w.heap.size ≤ k_)) ho13 (below_size (Zl HB)) (fun k_ h_ => h_)) HB; replace HB := Zh HB hb; clear hb ho13; have p11 : 0 ≤ ((ji8) : Int) := of_decide_eq_true (by first | (with_reducible assumption) | assumption); have q11 : ((ji8) : Int) < ((y369.length : Int) : Int) := of_decide_eq_true (by first | (with_reducible assumption) | assumption); obtain ⟨go11, co11, eo11, gb11, gl11, cl11, HG11⟩ := Kd.R_form HO371.out (by omega); (first | cases eo11 | (injection eo11 with ea_ en_ ec_; (first | subst ea_ | (injection ea_ with ea_; subst ea_)); subst ec_; clear en_)); have GB11 := Aside0.mk gb11; have GG11 := Aside0.mk HG11; clear gb11 gl11 HG11; obtain ⟨hx11_0, hf11_0⟩ := Kd.R_celln 0 HO371.out ((ji8) : Int) p11 q11; replace p11 := eq_true p11; replace q11 := eq_true q11; have n_ := Zm (Kd.R_mono (ok' := (fun k_ => (w.heap.size ≤ k_))) HO371.out (fun k_ hk => hk.1)); clear HO371; have HO371 := n_; clear n_; obtain ⟨hy14_, hz14_⟩ := Kd.R_celln 0 HO371.out ((ji8) : Int) (of_decide_eq_true (by first | (with_reducible assumption) | assumption)) (of_decide_eq_true (by first | (with_reducible assumption) | assumption)); have HP14 := Kd.R_putg HO371.out ((ji8) : Int) 1) | ((with_reducible refine gate_store (t := 3) (p := 25) rfl ?_); refine store_event (t := 3) (p := 25) (v := ?vo_w15) (w1 := (w12.setCell ⟨go11, ((ji8) : Int).toNat, none⟩ (.int .i64 1))) ?hg ?ho ?hn ?hr ?_; (case ho => rfl); (case hg => rfl); (case hn => rfl); (case hr => first | (go_simp; done) | (go_simp; rfl)); intro w15 hw; have hg : w12.grownBy w15 (some go11) := (by rw [hw]; exact HP14.2); have hp_ : Kd.R (Kd.int .i64) 3 w15 w.heap.size (fun k_ => (w.heap.size ≤ k_)) (.slice (some ⟨go11, 0, none⟩) y369.length co11) y372 := (by rw [hw, Ny372.out]; exact HP14.1); clear HP14; replace HO371 := Zm (hp_); replace HB := Zm ((by rw [hw]; exact below_set (HB.out) GB11.out : Below w.heap.size w w15)); clear hg hw hp_) | ((with_reducible refine gate_dst (N := 27) rfl ?_); refine Kd.N_lit (Kd.slice 3 (Kd.int .i64)) _ 24 ?hg (N' := 27) ?hd (xs := ([y372] : List (List Int))) (inner := [.slice (some ⟨go11, 0, none⟩) y369.length co11]) (ok := (fun k_ => (w.heap.size ≤ k_))) (okp := (fun k_ => (w.heap.size ≤ k_))) ?hr ?hp (fun _ hk => hk) ((show ∀ k_, w15.heap.size ≤ k_ → (fun k_ => (w.heap.size ≤ k_)) k_ from fun k_ hk => (Nat.le_trans (below_size (Zl HB)) hk)) _ (Nat.le_refl _)) (Below.refl _ _) (Nat.le_refl _) (by simp) ?_; (case hd => rfl); (case hg => rfl); (case hr => first | (go_simp; done) | (go_simp; rfl)); (case hp => exact (Reps.one (show Kd.FK (Kd.slice 3 (Kd.int .i64)) _ _ y372 [.slice (some ⟨go11, 0, none⟩) y369.length co11] from (by have hl_ : y369.length = y372.length := (by rw [Ny372.out, List.length_set]); have ho_ := HO371.out; rw [hl_] at ho_ ⊢; exact Kd.FK_slice_mk (Kd.R_reads' ho_).2.1 (Kd.R_F ho_))) (Reps.none _ _))); intro v374 w16 ho17 hb hg_ hnew_; clear hg_ hnew_; (first | rw [← Ny373.out] at ho17 | (simp only [Int.reduceToNat] at ho17; rw [← Ny373.out] at ho17)); have n0_ := Zm (Kd.N_lower ho17 (below_size (Zl HB))); have n1_ := Zh HB hb; clear HB; have n9_ := Zm (Kd.R_below HO371.out hb); clear HO371; have HO371 := n9_; clear n9_; have HO375 := n0_; have HB := n1_; clear n0_ n1_ hb ho17))
     go_loopg [9, 10, 29] k (fun kq v9 v10 v29 w' => ∃ (x9_1 : List Int) (x10_1 : List (List Int)) (x29_1 : Int), v29 = .int .i64 x29_1 ∧ Aside0 (impl_pairs.l0 kq a0 x9_1 x10_1 a1 x29_1 = some r) ∧ Aside0 (kq ≤ k) ∧ Aside0 (Kd.R (Kd.int .i64) 3 w' w.heap.size (fun k_ => (w.heap.size ≤ k_)) v9 x9_1) ∧ Aside0 (Kd.N (Kd.slice 3 (Kd.int .i64)) 24 w' w.heap.size (fun k_ => (w.heap.size ≤ k_)) v10 x10_1) ∧ Aside0 (Below w.heap.size w w'))
     case atStart => exact ⟨(y372), (y373), (0), (by first | rfl | (simp; done) | (simp [*]; done)), H', ⟨Nat.le_refl _⟩, ⟨by (with_reducible repeat (first | apply Kd.R_alloc | apply Kd.R_drewN | apply Kd.R_drew)); exact Kd.R_mono (Kd.R_bound (HO371.out)) (fun _ hk => hk.2.1)⟩, ⟨by (with_reducible repeat (first | apply Kd.N_alloc | apply Kd.N_drewN | apply Kd.N_drew)); exact HO375.out⟩, ⟨Zl HB⟩⟩
     case round =>
      (try clear hji5; try clear hji5w; clear H'; try clear c1; try clear p1; try clear q1; try clear hx1; try clear p2; try clear c5; try clear c6; try clear c6b0; try clear c6b1; try clear p6; try clear c7; try clear c7b0; try clear c7b1; try clear c9; try clear c9b0; try clear c10; try clear c10b0; try clear p11; try clear q11; try clear hx11; try clear hf11; try clear hx11_0; try clear p11; try clear q11); obtain ⟨x9_1, x10_1, x29_1, rfl, HA, HK1, HO_9, HO_10, HB⟩ := hrel
      cases gk with
      | zero => exact absurd HA.out (by simp [impl_pairs.l0])
      | succ k1 =>
       have H := HA.out; clear HA
       simp only [impl_pairs.l0] at H
       by_cases c18 : x29_1 < a1
       ·
        rw [if_pos c18] at H; have c18b0 : decide (x29_1 < a1) = true := decide_eq_true c18; clear c18; obtain ⟨ji19, hji19⟩ : ∃ j_ : Int, (wrap64 (a0 * a0)) = j_ := ⟨_, rfl⟩; (replace H : (if 0 ≤ (ji19) then (if (ji19 : Int).toNat ≤ 35184372088832 then (impl_pairs.l1 k1 a0 x10_1 (List.replicate (ji19 : Int).toNat 0) a1 x29_1 x9_1 (x9_1.length : Int) 0) else (none)) else (none)) = some r := by first | (rw [hji19] at H; exact H) | (simp only [hji19] at H ⊢; exact H))
        have hji19w : (IntKind.i64.wrap (a0 * a0)) = ji19 := (i64_w _).trans hji19
        by_cases c20 : 0 ≤ (ji19)
        ·
         rw [if_pos c20] at H; have c20b0 := eq_true c20; have c20b1 : decide (0 ≤ (ji19)) = true := decide_eq_true c20; clear c20
         by_cases c21 : (ji19 : Int).toNat ≤ 35184372088832
         ·
          rw [if_pos c21] at H; have c21b0 := eq_true c21; have c21b1 : decide ((ji19 : Int).toNat ≤ 35184372088832) = true := decide_eq_true c21; clear c21; obtain ⟨y376, hy376⟩ : ∃ y_ : List Int, y_ = (List.replicate (ji19 : Int).toNat 0) := ⟨_, rfl⟩; (replace H : (impl_pairs.l1 k1 a0 x10_1 y376 a1 x29_1 x9_1 (x9_1.length : Int) 0) = some r := by first | (rw [hy376]; with_reducible exact H) | (have H2_ := (Option.bind_some _ _).symm.trans H; rw [hy376]; with_reducible exact H2_) | (have H2_ := (Option.bind_some _ _).symm.trans H; with_reducible exact H2_) | with_reducible exact H | (rw [hy376]; exact H) | exact H)
          have Ny376 := Aside0.mk hy376; clear hy376; have H' := Aside0.mk H; clear H
          go_wp2_with (first | ((with_reducible refine gate_dst (N := 34) rfl ?_); refine Kd.R_make (Kd.int .i64) _ 3 rfl (N := 34) rfl 24 _ _ rfl ji19 rfl rfl Try.underlying24 (.int .i64 0) 8 info3 rfl (by decide) (by omega) 0 (ok := fun _ => True) (okp := fun _ => True) rfl (fun _ hk => hk) trivial (of_decide_eq_true (by first | (with_reducible assumption) | assumption)) (Nat.le_trans (Nat.mul_le_mul_right _ (of_decide_eq_true (by first | (with_reducible assumption) | assumption) : ji19.toNat ≤ 35184372088832)) (by omega)) (Below.refl _ _) (Nat.le_refl _) ?_; intro v377 w22 ho23 hb hg_ hnew_; clear hg_ hnew_; (first | rw [← Ny376.out] at ho23 | (simp only [Int.reduceToNat] at ho23; rw [← Ny376.out] at ho23)); replace HO_10 := Zm (Kd.N_elder' (by (with_reducible repeat (first | apply Kd.N_alloc | apply Kd.N_drewN | apply Kd.N_drew)); exact HO_10.out) (Kd.R_base ho23) hb); have HO378 := Zj (Zv (Kd.R_newM (M := fun k_ => (w.heap.size ≤ k_)) ho23 (below_size (Zl HB)) (fun k_ h_ => h_)) HO_9) HB; replace HO_9 := Zm (Kd.R_elder' (Zr HO_9) (Kd.R_base ho23) hb); replace HB := Zh HB hb; clear hb ho23; obtain ⟨Ao24, co24, eo24⟩ := Kd.R_slice HO_9.out; subst eo24))
          go_loopg [37] k1 (fun kq v37 w' => ∃ (x11_2 : List Int) (x37_2 : Int), v37 = .int .i64 x37_2 ∧ Aside0 (impl_pairs.l1 kq a0 x10_1 x11_2 a1 x29_1 x9_1 (x9_1.length : Int) x37_2 = some r) ∧ Aside0 (kq ≤ k1) ∧ Aside0 (Kd.N (Kd.slice 3 (Kd.int .i64)) 24 w' w.heap.size (fun k_ => (w.heap.size ≤ k_) ∧ Zn k_ v377) u10 x10_1) ∧ Aside0 (Kd.R (Kd.int .i64) 3 w' w.heap.size (fun k_ => (w.heap.size ≤ k_) ∧ Zn k_ (.slice Ao24 x9_1.length co24)) v377 x11_2) ∧ Aside0 (Kd.R (Kd.int .i64) 3 w' w.heap.size (fun k_ => (w.heap.size ≤ k_) ∧ Zn k_ v377) (.slice Ao24 x9_1.length co24) x9_1) ∧ Aside0 (Below w.heap.size w w'))
          case atStart => exact ⟨(y376), (0), (by first | rfl | (simp; done) | (simp [*]; done)), H', ⟨Nat.le_refl _⟩, ⟨by (with_reducible repeat (first | apply Kd.N_alloc | apply Kd.N_drewN | apply Kd.N_drew)); exact HO_10.out⟩, ⟨Zc HO378⟩, ⟨Zr HO_9⟩, ⟨Zl HB⟩⟩
          case round =>
           (clear H'; (try clear c1); (try clear p1); (try clear q1); (try clear hx1); (try clear c2); (try clear p2); (try clear c5); (try clear c6); (try clear c6b0); (try clear c6b1); (try clear p6); (try clear c7); (try clear c7b0); (try clear c7b1); (try clear c9); (try clear c9b0); (try clear c10); (try clear c10b0); (try clear p11); (try clear q11); (try clear hx11); (try clear hf11); (try clear c18); (try clear c18b0); (try clear c20); (try clear c20b0); (try clear c20b1); (try clear c21); (try clear c21b0); (try clear c21b1); (try clear hx11_0); (try clear p1); (try clear p11); (try clear p2); (try clear p6); (try clear q1); (try clear q11)); obtain ⟨x11_2, x37_2, rfl, HA, HK2, HO_10, HO_11, HO_35, HB⟩ := hrel
           cases gk with
           | zero => exact absurd HA.out (by simp [impl_pairs.l1])
           | succ k2 =>
            have H := HA.out; clear HA
            simp only [impl_pairs.l1] at H
            by_cases c25 : x37_2 < (x9_1.length : Int)
            ·
             rw [if_pos c25] at H; have c25b0 : decide (x37_2 < (x9_1.length : Int)) = true := decide_eq_true c25; clear c25
             by_cases c26 : 0 ≤ x37_2
             ·
              rw [if_pos c26] at H; have c26b0 : decide (0 ≤ x37_2) = true := decide_eq_true c26; clear c26
              by_cases c27 : x37_2 < (x9_1.length : Int)
              ·
               rw [if_pos c27] at H; have c27b0 : decide (x37_2 < (x9_1.length : Int)) = true := decide_eq_true c27; clear c27
               by_cases c28 : (rd x9_1 x37_2) > 0
               ·
                rw [if_pos c28] at H; have c28b0 : decide (0 < (rd x9_1 x37_2)) = true := decide_eq_true c28; clear c28; have H' := Aside0.mk H; clear H; have p382 : 0 ≤ (x37_2 : Int) := of_decide_eq_true (by first | (with_reducible assumption) | assumption); have q382 : x37_2 < (x9_1.length : Int) := of_decide_eq_true (by first | (with_reducible assumption) | assumption); obtain ⟨ad382, e382, hx382_0⟩ := Kd.at_int (Kd.R_reads' HO_35.out).2.2 x37_2 p382 q382
                cases e382
                replace p382 := eq_true p382
                replace q382 := eq_true q382
                go_wp2
                go_loopg [46] k2 (fun kq v46 w' => ∃ (x11_3 : List Int) (x46_3 : Int), v46 = .int .i64 x46_3 ∧ Aside0 (impl_pairs.l2 kq a0 x10_1 x11_3 x37_2 (rd x9_1 x37_2) a1 x29_1 x9_1 (x9_1.length : Int) x37_2 (wrap64 (a0 - 1)) x46_3 = some r) ∧ Aside0 (kq ≤ k2) ∧ Aside0 (Kd.N (Kd.slice 3 (Kd.int .i64)) 24 w' w.heap.size (fun k_ => (w.heap.size ≤ k_) ∧ Zn k_ v377) u10 x10_1) ∧ Aside0 (Kd.R (Kd.int .i64) 3 w' w.heap.size (fun k_ => (w.heap.size ≤ k_) ∧ some k_ ≠ ((.slice (some ad382) x9_1.length co24) : Value).ownBlock) v377 x11_3) ∧ Aside0 (Kd.R (Kd.int .i64) 3 w' w.heap.size (fun k_ => (w.heap.size ≤ k_) ∧ Zn k_ v377) (.slice (some ad382) x9_1.length co24) x9_1) ∧ Aside0 (Below w.heap.size w w'))
                case atStart => exact ⟨(x11_2), (0), (by first | rfl | (simp; done) | (simp [*]; done)), H', ⟨Nat.le_refl _⟩, ⟨by (with_reducible repeat (first | apply Kd.N_alloc | apply Kd.N_drewN | apply Kd.N_drew)); exact HO_10.out⟩, ⟨Zr HO_11⟩, ⟨Zr HO_35⟩, ⟨Zl HB⟩⟩
                case round =>
                 (clear H'; (try clear c1); (try clear p1); (try clear q1); (try clear hx1); (try clear c2); (try clear p2); (try clear p3); (try clear q3); (try clear hx3); (try clear c5); (try clear c6); (try clear c6b0); (try clear c6b1); (try clear p6); (try clear c7); (try clear c7b0); (try clear c7b1); (try clear c9); (try clear c9b0); (try clear c10); (try clear c10b0); (try clear p11); (try clear q11); (try clear hx11); (try clear hf11); (try clear c18); (try clear c18b0); (try clear c20); (try clear c20b0); (try clear c20b1); (try clear c21); (try clear c21b0); (try clear c21b1); (try clear c25); (try clear c25b0); (try clear c26); (try clear c26b0); (try clear c27); (try clear c27b0); (try clear c28); (try clear c28b0); (try clear hx11_0); (try clear hx382_0); (try clear p1); (try clear p11); (try clear p2); (try clear p382); (try clear p6); (try clear q1); (try clear q11); (try clear q382)); obtain ⟨x11_3, x46_3, rfl, HA, HK3, HO_10, HO_11, HO_35, HB⟩ := hrel
                 cases gk with
                 | zero => exact absurd HA.out (by simp [impl_pairs.l2])
                 | succ k3 =>
                  have H := HA.out; clear HA
                  simp only [impl_pairs.l2] at H
                  by_cases c29 : x46_3 < (wrap64 (a0 - 1))
                  ·
                   rw [if_pos c29] at H; have c29b0 : decide (x46_3 < (wrap64 (a0 - 1))) = true := decide_eq_true c29; clear c29
                   by_cases c30 : a0 = 0
                   ·
                    rw [if_pos c30] at H
                    exact absurd H (by simp)
                   ·
                    rw [if_neg c30] at H; have c30b0 : (a0 == 0) = false := beq_eq_false_iff_ne.mpr c30; have c30b1 : (a0 != 0) = true := bne_iff_ne.mpr c30; replace H := Option.bind_eq_some_iff.mp H; obtain ⟨t383, A310, H⟩ := H; (try dsimp only at H); have A31 := Aside0.mk A310; clear A310; replace H := Option.bind_eq_some_iff.mp H; obtain ⟨t384, A320, H⟩ := H; (try dsimp only at H); have A32 := Aside0.mk A320; clear A320; obtain ⟨ji33, hji33⟩ : ∃ j_ : Int, (wrap64 ((wrap64 (t383 * a0)) + t384)) = j_ := ⟨_, rfl⟩; (replace H : (if 0 ≤ (ji33) then (if (ji33) < (x11_3.length : Int) then (impl_pairs.l2 k3 a0 x10_1 (x11_3.set ((ji33) : Int).toNat (wrap64 ((rd x11_3 (ji33)) + (rd x9_1 x37_2)))) x37_2 (rd x9_1 x37_2) a1 x29_1 x9_1 (x9_1.length : Int) x37_2 (wrap64 (a0 - 1)) (wrap64 (x46_3 + 1))) else (none)) else (none)) = some r := by first | (rw [hji33] at H; exact H) | (simp only [hji33] at H ⊢; exact H))
                    (try rw [hji33] at A31)
                    (try rw [hji33] at A32)
                    have hji33w : (IntKind.i64.wrap ((wrap64 (t383 * a0)) + t384)) = ji33 := (i64_w _).trans hji33
                    by_cases c34 : 0 ≤ (ji33)
                    ·
                     rw [if_pos c34] at H; have c34b0 : decide (0 ≤ (ji33)) = true := decide_eq_true c34; clear c34
                     by_cases c35 : (ji33) < (x11_3.length : Int)
                     ·
                      rw [if_pos c35] at H; have c35b0 : decide ((ji33) < (x11_3.length : Int)) = true := decide_eq_true c35; clear c35; obtain ⟨y386, hy386⟩ : ∃ y_ : List Int, y_ = (x11_3.set ((ji33) : Int).toNat (wrap64 ((rd x11_3 (ji33)) + (rd x9_1 x37_2)))) := ⟨_, rfl⟩; (replace H : (impl_pairs.l2 k3 a0 x10_1 y386 x37_2 (rd x9_1 x37_2) a1 x29_1 x9_1 (x9_1.length : Int) x37_2 (wrap64 (a0 - 1)) (wrap64 (x46_3 + 1))) = some r := by first | (rw [hy386]; with_reducible exact H) | (have H2_ := (Option.bind_some _ _).symm.trans H; rw [hy386]; with_reducible exact H2_) | (have H2_ := (Option.bind_some _ _).symm.trans H; with_reducible exact H2_) | with_reducible exact H | (rw [hy386]; exact H) | exact H)
                      have Ny386 := Aside0.mk hy386; clear hy386; have H' := Aside0.mk H; clear H
                      try go_wp2
                      replace HO_10 := Zm (Kd.N_drew HO_10.out); replace HO_11 := Zm (Kd.R_drew HO_11.out); replace HO_35 := Zm (Kd.R_drew HO_35.out); replace HB := Zm (below_drew1 HB.out); have p385 : 0 ≤ ((ji33) : Int) := of_decide_eq_true (by first | (with_reducible assumption) | assumption); have q385 : (ji33) < (x11_3.length : Int) := of_decide_eq_true (by first | (with_reducible assumption) | assumption)
                      obtain ⟨Aoz, coz, eoz⟩ := Kd.R_slice HO_11.out; subst eoz; obtain ⟨ad385, e385, hx385_0⟩ := Kd.at_int (Kd.R_reads' HO_11.out).2.2 (ji33) p385 q385
                      cases e385
                      replace p385 := eq_true p385
                      replace q385 := eq_true q385
                      refine start_ (n := 20) (S := fun w' => w'.cell? (ad385.add ((ji33)).toNat) = some (.int .i64 (rd x11_3 (ji33)))) (ds := [19]) (fl 20 0) (by kernel_rfl) rfl rfl (hx385_0) (fun hHeld => ?_); refine with_tabW impl_pairs.tab14 impl_pairs.bits14 (fun HT_ HW_ => ?_)
                      generalize wr.drew = w37 at HO_10 HO_11 HO_35 HB hx385_0 hHeld ⊢; refine Yu 0 49 (fl 20 1) HT_ (h := ?_); refine Yu 1 50 (fl 20 3) HT_ (h := ?_); refine Yu 2 51 (fl 20 7) HT_ (h := ?_); refine Yu 3 52 (fl 20 15) HT_ (h := ?_); refine Yu 4 53 (fl 20 31) HT_ (h := ?_); refine Yu 6 55 (fl 20 95) HT_ (h := ?_); refine Yu 8 57 (fl 20 351) HT_ (h := ?_); refine Yu 9 58 (fl 20 863) HT_ (h := ?_); refine Yu 10 59 (fl 20 1887) HT_ (h := ?_); refine Yu 11 60 (fl 20 3935) HT_ (h := ?_); refine Yu 16 65 (fl 20 69471) HT_ (h := ?_)
                      refine one_ (i := 5) (N := some 54) (fl 20 69503) rfl rfl (one_of HT_.out (by kernel_rfl)) (by decide) (fun K hK => ?_)
                      refine goes_ Try.func77 (by kernel_rfl) rfl #[.int .i64 (wrap64 (Int.tdiv x37_2 a0)), .int .i64 x46_3] (by rfl) rfl rfl (by (try simp only [List.map_toArray, List.map_cons, List.map_nil]); first | done | rfl) ?_
                      with_reducible refine (impl_over.calls (wrap64 (Int.tdiv x37_2 a0)) x46_3 t383 _ A31.out).mono ?_
                      rintro e w' ⟨rfl, ⟨nd, rfl⟩⟩
                      refine ⟨_, rfl, ?_⟩
                      refine hK.out _ _ (hHeld) (fun hHeld => ?_)
                      clear hK K; refine Yn 54 (h := ?_); refine Yu 7 56 (fl 20 69631) HT_ (h := ?_)
                      refine one_ (i := 12) (N := some 61) (fl 20 73727) rfl rfl (one_of HT_.out (by kernel_rfl)) (by decide) (fun K hK => ?_)
                      refine goes_ Try.func77 (by kernel_rfl) rfl #[.int .i64 (Int.tmod x37_2 a0), .int .i64 x46_3] (by rfl) rfl rfl (by (try simp only [List.map_toArray, List.map_cons, List.map_nil]); first | done | rfl) ?_
                      with_reducible refine (impl_over.calls (Int.tmod x37_2 a0) x46_3 t384 _ A32.out).mono ?_
                      rintro e w' ⟨rfl, ⟨nd, rfl⟩⟩
                      refine ⟨_, rfl, ?_⟩
                      obtain ⟨Ao38, co38, eo38⟩ := Kd.R_slice HO_11.out
                      (first | subst eo38 | (injection eo38 with f1_ f2_ f3_; have f4_ := f1_.symm; have f5_ := f3_.symm; clear f1_ f2_ f3_; subst f4_; subst f5_))
                      have p36 : 0 ≤ ((ji33) : Int) := of_decide_eq_true (by first | (with_reducible assumption) | assumption); have q36 : ((ji33) : Int) < ((x11_3.length : Int) : Int) := of_decide_eq_true (by first | (with_reducible assumption) | assumption)
                      obtain ⟨go36, co36, eo36, gb36, gl36, cl36, HG36⟩ := Kd.R_form HO_11.out (by omega)
                      (first | cases eo36 | (injection eo36 with ea_ en_ ec_; (first | subst ea_ | (injection ea_ with ea_; subst ea_)); subst ec_; clear en_))
                      have GB36 := Aside0.mk gb36; have GG36 := Aside0.mk HG36; clear gb36 gl36 HG36
                      (first | simp only [add_plain] at hx385_0 | skip)
                      obtain ⟨hx36_0, hf36_0⟩ := Kd.R_celln 0 HO_11.out ((ji33) : Int) p36 q36
                      replace p36 := eq_true p36
                      replace q36 := eq_true q36
                      have HP39 := Kd.R_putn HO_11.out ((ji33) : Int) (wrap64 ((rd x11_3 (ji33)) + (rd x9_1 x37_2)))
                      rw [← Ny386.out] at HP39
                      have HQ39 := Aside0.mk HP39; clear HP39
                      refine hK.out _ _ (hHeld) (fun hHeld => ?_)
                      clear hK K; refine Yn 61 (h := ?_); refine Yu 13 62 (fl 20 81919) HT_ (h := ?_); refine Yu 14 63 (fl 20 98303) HT_ (h := ?_)
                      refine take_ (i := 15) (N := some 64) (v := ?_) (a' := ?_) (fl 20 131071) rfl rfl (take_ofW HT_.out HW_.out (by kernel_rfl)) (fun _ _ _ h => h) (Or.inl ⟨by rfl, ?_⟩) hHeld ?_ ?_
                      rotate_left
                      ·
                       intro w' s0
                       try simp only [add_plain] at s0
                       go_simp
                       with_reducible rfl
                      rotate_left
                      ·
                       simp only [Act.put, List.setIfInBounds_toArray, List.set_cons_zero, List.set_cons_succ, i64_w, i32_w]
                       rfl
                      refine Yu 17 66 (fl 20 262143) HT_ (h := ?_); refine Yu 18 67 (fl 20 524287) HT_ (h := ?_)
                      refine last_ (i := 19) (N := none) (fl 20 1048575) rfl rfl (one_of HT_.out (by kernel_rfl)) (by decide) (fun K hK => ?_)
                      refine skip_ (w1 := ?_) (by rfl) rfl ?_ ?_
                      rotate_left
                      ·
                       go_simp
                       rfl
                      refine hK.out _ _ ?_
                      clear hK K
                      refine done_ (done_of HT_.out (by kernel_rfl)) ?_
                      try go_wp2
                      go_roundg k3
                      case measure => have := HK1.out; have := HK2.out; have := HK3.out; omega
                      case rel => exact ⟨(y386), (wrap64 (x46_3 + 1)), (by first | rfl | (simp; done) | (simp [*]; done)), H', ⟨by have := HK1.out; have := HK2.out; have := HK3.out; omega⟩, ⟨by (with_reducible repeat (first | apply Kd.N_alloc | apply Kd.N_drewN | apply Kd.N_drew)); exact Kd.N_mono (Kd.N_far (p := ⟨go36, ((ji33) : Int).toNat, none⟩) (Kd.N_mono HO_10.out (fun k_ hk => (⟨hk, fun e_ => hk.2 (by rw [e_]; rfl)⟩ : _ ∧ k_ ≠ go36))) (fun _ hk => hk.2) (.int .i64 (wrap64 ((rd x11_3 (ji33)) + (rd x9_1 x37_2))))) (fun _ hk => ⟨hk.1.1, hk.1.2⟩)⟩, ⟨Zr HQ39⟩, ⟨by (with_reducible repeat (first | apply Kd.R_alloc | apply Kd.R_drewN | apply Kd.R_drew)); exact Kd.R_mono (Kd.R_far (p := ⟨go36, ((ji33) : Int).toNat, none⟩) (Kd.R_mono HO_35.out (fun k_ hk => (⟨hk, fun e_ => hk.2 (by rw [e_]; rfl)⟩ : _ ∧ k_ ≠ go36))) (fun _ hk => hk.2) (.int .i64 (wrap64 ((rd x11_3 (ji33)) + (rd x9_1 x37_2))))) (fun _ hk => ⟨hk.1.1, hk.1.2⟩)⟩, ⟨by repeat (first | (with_reducible first | exact HB.out | apply below_alloc | apply pw_below_drewN | apply below_drew1 | refine below_set ?_ GB36.out) | exact HB.out)⟩⟩
                     ·
                      rw [if_neg c35] at H
                      exact absurd H (by simp)
                    ·
                     rw [if_neg c34] at H
                     exact absurd H (by simp)
                  ·
                   rw [if_neg c29] at H; have c29b0 : decide (x46_3 < (wrap64 (a0 - 1))) = false := decide_eq_false c29; clear c29; have H' := Aside0.mk H; clear H
                   go_wp2
                   go_roundg k3
                   case measure => have := HK1.out; have := HK2.out; have := HK3.out; omega
                   case rel => exact ⟨(x11_3), (wrap64 (x37_2 + 1)), (by first | rfl | (simp; done) | (simp [*]; done)), H', ⟨by have := HK1.out; have := HK2.out; have := HK3.out; omega⟩, ⟨by (with_reducible repeat (first | apply Kd.N_alloc | apply Kd.N_drewN | apply Kd.N_drew)); exact HO_10.out⟩, ⟨Zr HO_11⟩, ⟨Zr HO_35⟩, ⟨Zl HB⟩⟩
               ·
                rw [if_neg c28] at H; have c28b0 : decide (0 < (rd x9_1 x37_2)) = false := decide_eq_false c28; clear c28; have H' := Aside0.mk H; clear H; have p382 : 0 ≤ (x37_2 : Int) := of_decide_eq_true (by first | (with_reducible assumption) | assumption); have q382 : x37_2 < (x9_1.length : Int) := of_decide_eq_true (by first | (with_reducible assumption) | assumption); obtain ⟨ad382, e382, hx382_0⟩ := Kd.at_int (Kd.R_reads' HO_35.out).2.2 x37_2 p382 q382
                cases e382
                replace p382 := eq_true p382
                replace q382 := eq_true q382
                go_wp2
                go_roundg k2
                case measure => have := HK1.out; have := HK2.out; omega
                case rel => exact ⟨(x11_2), (wrap64 (x37_2 + 1)), (by first | rfl | (simp; done) | (simp [*]; done)), H', ⟨by have := HK1.out; have := HK2.out; omega⟩, ⟨by (with_reducible repeat (first | apply Kd.N_alloc | apply Kd.N_drewN | apply Kd.N_drew)); exact HO_10.out⟩, ⟨Zr HO_11⟩, ⟨Zr HO_35⟩, ⟨Zl HB⟩⟩
              ·
               rw [if_neg c27] at H
               exact absurd H (by simp)
             ·
              rw [if_neg c26] at H
              exact absurd H (by simp)
            ·
             rw [if_neg c25] at H; have c25b0 : decide (x37_2 < (x9_1.length : Int)) = false := decide_eq_false c25; clear c25
             by_cases c40 : x10_1.length < 5864062014805
             ·
              rw [if_pos c40] at H
              have LMc40 := Aside0.mk c40; clear c40
              obtain ⟨y379, hy379⟩ : ∃ y_ : List (List Int), y_ = (x10_1 ++ [x11_2]) := ⟨_, rfl⟩; (replace H : (impl_pairs.l0 k2 a0 x11_2 y379 a1 (wrap64 (x29_1 + 1))) = some r := by first | (rw [hy379]; with_reducible exact H) | (have H2_ := (Option.bind_some _ _).symm.trans H; rw [hy379]; with_reducible exact H2_) | (have H2_ := (Option.bind_some _ _).symm.trans H; with_reducible exact H2_) | with_reducible exact H | (rw [hy379]; exact H) | exact H)
              have Ny379 := Aside0.mk hy379; clear hy379; have H' := Aside0.mk H; clear H
              obtain ⟨Ao42, co42, eo42⟩ := Kd.R_slice HO_11.out; subst eo42
              go_wp2_with (first | ((with_reducible refine gate_builtin (b := .append) (xs := #[.tmp 71, .tmp 73]) rfl ?_); at_builtin; refine Kd.N_append (Kd.slice 3 (Kd.int .i64)) (w0 := w) w.heap.size rfl (.tmp 71) (.tmp 73) 69 24 (.slice none 0 0) 24 rfl Try.underlying69 info24 rfl (by decide) (by omega) u10 x10_1 x11_2 [.slice Ao42 x11_2.length co42] (fun k_ => (w.heap.size ≤ k_)) (fun k_ => ((fun k_ => (w.heap.size ≤ k_))) k_ ∧ Zn k_ u10) rfl rfl ?aP (fun _ hk => hk) ?aF ?aO ?aB ?aS ?aL ?_; (case aP => exact (Kd.FK_slice_mk (Kd.R_reads' (Kd.R_mono (ok' := (fun k_ => ((fun k_ => (w.heap.size ≤ k_))) k_ ∧ Zn k_ u10)) (Kd.R_apart' (HO_11.out) (Kd.N_typed HO_10.out) (by decide)) (fun k_ hk => ⟨hk.1.1, hk.2⟩))).2.1 (Kd.R_F (Kd.R_mono (ok' := (fun k_ => ((fun k_ => (w.heap.size ≤ k_))) k_ ∧ Zn k_ u10)) (Kd.R_apart' (HO_11.out) (Kd.N_typed HO_10.out) (by decide)) (fun k_ hk => ⟨hk.1.1, hk.2⟩))))); (case aB => exact (Zl HB)); (case aF => exact (fun k_ hk => (Nat.le_trans (below_size (Zl HB)) hk))); (case aO => exact (by (with_reducible repeat (first | apply Kd.N_alloc | apply Kd.N_drewN | apply Kd.N_drew)); exact Kd.N_mono HO_10.out (fun _ hk => hk.1))); (case aS => exact (below_size (Zl HB))); (case aL => have := LMc40.out; omega); intro v380 w41 ho hb hg hat; rw [← Ny379.out] at ho; have n0_ := Zm (Kd.R_over' (Zr HO_35) (Kd.N_typed (by (with_reducible repeat (first | apply Kd.N_alloc | apply Kd.N_drewN | apply Kd.N_drew)); exact HO_10.out)) (by decide) hg); have n9_ := Zm (Kd.R_over' (Zr HO_11) (Kd.N_typed (by (with_reducible repeat (first | apply Kd.N_alloc | apply Kd.N_drewN | apply Kd.N_drew)); exact HO_10.out)) (by decide) hg); have n1_ := Zm (hb); have n2_ := Zm (ho); clear HO_35 HB HO_10 HO_11; have HO_11 := n9_; clear n9_; have HO_35 := n0_; have HB := n1_; have HO381 := n2_; clear n0_ n1_ n2_ ho hb hg hat))
              go_roundg k2
              case measure => have := HK1.out; have := HK2.out; omega
              case rel => exact ⟨(x11_2), (y379), (wrap64 (x29_1 + 1)), (by first | rfl | (simp; done) | (simp [*]; done)), H', ⟨by have := HK1.out; have := HK2.out; omega⟩, ⟨by (with_reducible repeat (first | apply Kd.R_alloc | apply Kd.R_drewN | apply Kd.R_drew)); exact Kd.R_mono (Kd.R_bound (HO_11.out)) (fun _ hk => hk.2.1)⟩, ⟨by (with_reducible repeat (first | apply Kd.N_alloc | apply Kd.N_drewN | apply Kd.N_drew)); exact HO381.out⟩, ⟨Zl HB⟩⟩
             ·
              rw [if_neg c40] at H
              exact absurd H (by simp)
         ·
          rw [if_neg c21] at H
          exact absurd H (by simp)
        ·
         rw [if_neg c20] at H
         exact absurd H (by simp)
       ·
        rw [if_neg c18] at H; have c18b0 : decide (x29_1 < a1) = false := decide_eq_false c18; clear c18; obtain rfl := Option.some.inj H
        go_wp2
        go_ret
        exact ⟨_, by first | rfl | (simp [errW_none, errW_some] <;> rfl) | (simp only [← hji5, ← hji8]; first | rfl | (simp [errW_none, errW_some] <;> rfl)) | (simp [*, errW_none, errW_some] <;> rfl), by (with_reducible repeat (first | apply Kd.N_alloc | apply Kd.N_drewN | apply Kd.N_drew)); exact HO_10.out, Zl HB⟩
    ·
     rw [if_neg c10] at H
     exact absurd H (by simp)
   ·
    rw [if_neg c9] at H
    exact absurd H (by simp)
  ·
   rw [if_neg c7] at H
   exact absurd H (by simp)
 ·
  rw [if_neg c6] at H
  exact absurd H (by simp)

mutual
def impl_MeanInversions.j0 : Nat → Int → Int → Bool → Option (Int × Int × Bool)
 | 0, _, _, _ => none
 | k + 1, x0, x1, x18 => if x18 = true then (some (0, 0, false)) else (impl_MeanInversions.l0 k x0 x1 0 x0 0)
def impl_MeanInversions.l0 : Nat → Int → Int → Int → Int → Int → Option (Int × Int × Bool)
 | 0, _, _, _, _, _ => none
 | k + 1, x0, x1, x6, x20, x21 => if x21 < x20 then (impl_MeanInversions.l1 k x0 x1 x6 x21 (wrap64 (x21 + 1)) x20 x21) else ((impl_power.f k (wrap64 (x0 - 1)) x1).bind fun t389 => ((impl_ratio.f k x6 t389).bind fun bt390 => (some (bt390.1, bt390.2, true))))
def impl_MeanInversions.l1 : Nat → Int → Int → Int → Int → Int → Int → Int → Option (Int × Int × Bool)
 | 0, _, _, _, _, _, _, _ => none
 | k + 1, x0, x1, x6, x7, x8, x20, x21 => if x8 < x0 then ((impl_pairs.f k x0 x1 x7 x8).bind fun t392 => (if 0 ≤ x1 then (if x1 < (t392.length : Int) then (impl_MeanInversions.l2 k x0 x1 x6 x7 x8 x20 x21 (rd_L2 t392 x1) ((rd_L2 t392 x1).length : Int) 0) else (none)) else (none))) else (impl_MeanInversions.l0 k x0 x1 x6 x20 (wrap64 (x21 + 1)))
def impl_MeanInversions.l2 : Nat → Int → Int → Int → Int → Int → Int → Int → List Int → Int → Int → Option (Int × Int × Bool)
 | 0, _, _, _, _, _, _, _, _, _, _ => none
 | k + 1, x0, x1, x6, x7, x8, x20, x21, x38, x39, x40 => if x40 < x39 then (if 0 ≤ x40 then (if x40 < (x38.length : Int) then (if x0 = 0 then (none) else (if (wrap64 (Int.tdiv x40 x0)) > (Int.tmod x40 x0) then (impl_MeanInversions.l2 k x0 x1 (wrap64 (x6 + (rd x38 x40))) x7 x8 x20 x21 x38 x39 (wrap64 (x40 + 1))) else (impl_MeanInversions.l2 k x0 x1 x6 x7 x8 x20 x21 x38 x39 (wrap64 (x40 + 1))))) else (none)) else (none)) else (impl_MeanInversions.l1 k x0 x1 x6 x7 (wrap64 (x8 + 1)) x20 x21)
end
def impl_MeanInversions.f (k : Nat) (a0 : Int) (a1 : Int) : Option (Int × Int × Bool) := (impl_isFall.f a0 a1).bind fun t388 => (if t388 = true then (impl_MeanInversions.j0 k a0 a1 (decide (a0 > 5))) else (impl_MeanInversions.j0 k a0 a1 true))
theorem impl_MeanInversions.mono_l : ∀ k, (∀ y0 y1 y2, LeO (impl_MeanInversions.j0 k y0 y1 y2) (impl_MeanInversions.j0 (k + 1) y0 y1 y2)) ∧ (∀ y0 y1 y2 y3 y4, LeO (impl_MeanInversions.l0 k y0 y1 y2 y3 y4) (impl_MeanInversions.l0 (k + 1) y0 y1 y2 y3 y4)) ∧ (∀ y0 y1 y2 y3 y4 y5 y6, LeO (impl_MeanInversions.l1 k y0 y1 y2 y3 y4 y5 y6) (impl_MeanInversions.l1 (k + 1) y0 y1 y2 y3 y4 y5 y6)) ∧ (∀ y0 y1 y2 y3 y4 y5 y6 y7 y8 y9, LeO (impl_MeanInversions.l2 k y0 y1 y2 y3 y4 y5 y6 y7 y8 y9) (impl_MeanInversions.l2 (k + 1) y0 y1 y2 y3 y4 y5 y6 y7 y8 y9))
 | 0 => ⟨fun _ _ _ r h => by simp [impl_MeanInversions.j0] at h, fun _ _ _ _ _ r h => by simp [impl_MeanInversions.l0] at h, fun _ _ _ _ _ _ _ r h => by simp [impl_MeanInversions.l1] at h, fun _ _ _ _ _ _ _ _ _ _ r h => by simp [impl_MeanInversions.l2] at h⟩
 | k + 1 => by
  obtain ⟨ih0, ih1, ih2, ih3⟩ := impl_MeanInversions.mono_l k
  refine ⟨?_, ?_, ?_, ?_⟩
  ·
   intro y0 y1 y2
   unfold impl_MeanInversions.j0
   repeat' first
   | (with_reducible exact ih0 _ _ _)
   | (with_reducible exact ih1 _ _ _ _ _)
   | (with_reducible exact ih2 _ _ _ _ _ _ _)
   | (with_reducible exact ih3 _ _ _ _ _ _ _ _ _ _)
   | (with_reducible exact impl_pairs.mono _ _ _ _ _)
   | (with_reducible exact impl_power.mono _ _ _)
   | (with_reducible exact impl_ratio.mono _ _ _)
   | (with_reducible exact LeO.refl _)
   | (with_reducible exact LeO.none _)
   | (with_reducible refine LeO.ite ?_ ?_)
   | (with_reducible refine LeO.bind ?_ (fun _ => ?_))
   | exact ih0 _ _ _
   | exact ih1 _ _ _ _ _
   | exact ih2 _ _ _ _ _ _ _
   | exact ih3 _ _ _ _ _ _ _ _ _ _
   | exact impl_pairs.mono _ _ _ _ _
   | exact impl_power.mono _ _ _
   | exact impl_ratio.mono _ _ _
   | exact LeO.none _
   | refine LeO.ite ?_ ?_
   | refine LeO.bind ?_ (fun _ => ?_)
  ·
   intro y0 y1 y2 y3 y4
   unfold impl_MeanInversions.l0
   repeat' first
   | (with_reducible exact ih0 _ _ _)
   | (with_reducible exact ih1 _ _ _ _ _)
   | (with_reducible exact ih2 _ _ _ _ _ _ _)
   | (with_reducible exact ih3 _ _ _ _ _ _ _ _ _ _)
   | (with_reducible exact impl_pairs.mono _ _ _ _ _)
   | (with_reducible exact impl_power.mono _ _ _)
   | (with_reducible exact impl_ratio.mono _ _ _)
   | (with_reducible exact LeO.refl _)
   | (with_reducible exact LeO.none _)
   | (with_reducible refine LeO.ite ?_ ?_)
   | (with_reducible refine LeO.bind ?_ (fun _ => ?_))
   | exact ih0 _ _ _
   | exact ih1 _ _ _ _ _
   | exact ih2 _ _ _ _ _ _ _
   | exact ih3 _ _ _ _ _ _ _ _ _ _
   | exact impl_pairs.mono _ _ _ _ _
   | exact impl_power.mono _ _ _
   | exact impl_ratio.mono _ _ _
   | exact LeO.none _
   | refine LeO.ite ?_ ?_
   | refine LeO.bind ?_ (fun _ => ?_)
  ·
   intro y0 y1 y2 y3 y4 y5 y6
   unfold impl_MeanInversions.l1
   repeat' first
   | (with_reducible exact ih0 _ _ _)
   | (with_reducible exact ih1 _ _ _ _ _)
   | (with_reducible exact ih2 _ _ _ _ _ _ _)
   | (with_reducible exact ih3 _ _ _ _ _ _ _ _ _ _)
   | (with_reducible exact impl_pairs.mono _ _ _ _ _)
   | (with_reducible exact impl_power.mono _ _ _)
   | (with_reducible exact impl_ratio.mono _ _ _)
   | (with_reducible exact LeO.refl _)
   | (with_reducible exact LeO.none _)
   | (with_reducible refine LeO.ite ?_ ?_)
   | (with_reducible refine LeO.bind ?_ (fun _ => ?_))
   | exact ih0 _ _ _
   | exact ih1 _ _ _ _ _
   | exact ih2 _ _ _ _ _ _ _
   | exact ih3 _ _ _ _ _ _ _ _ _ _
   | exact impl_pairs.mono _ _ _ _ _
   | exact impl_power.mono _ _ _
   | exact impl_ratio.mono _ _ _
   | exact LeO.none _
   | refine LeO.ite ?_ ?_
   | refine LeO.bind ?_ (fun _ => ?_)
  ·
   intro y0 y1 y2 y3 y4 y5 y6 y7 y8 y9
   unfold impl_MeanInversions.l2
   repeat' first
   | (with_reducible exact ih0 _ _ _)
   | (with_reducible exact ih1 _ _ _ _ _)
   | (with_reducible exact ih2 _ _ _ _ _ _ _)
   | (with_reducible exact ih3 _ _ _ _ _ _ _ _ _ _)
   | (with_reducible exact impl_pairs.mono _ _ _ _ _)
   | (with_reducible exact impl_power.mono _ _ _)
   | (with_reducible exact impl_ratio.mono _ _ _)
   | (with_reducible exact LeO.refl _)
   | (with_reducible exact LeO.none _)
   | (with_reducible refine LeO.ite ?_ ?_)
   | (with_reducible refine LeO.bind ?_ (fun _ => ?_))
   | exact ih0 _ _ _
   | exact ih1 _ _ _ _ _
   | exact ih2 _ _ _ _ _ _ _
   | exact ih3 _ _ _ _ _ _ _ _ _ _
   | exact impl_pairs.mono _ _ _ _ _
   | exact impl_power.mono _ _ _
   | exact impl_ratio.mono _ _ _
   | exact LeO.none _
   | refine LeO.ite ?_ ?_
   | refine LeO.bind ?_ (fun _ => ?_)
theorem impl_MeanInversions.mono : ∀ a0 a1 k, LeO (impl_MeanInversions.f k a0 a1) (impl_MeanInversions.f (k + 1) a0 a1) := by
 intro a0 a1 k
 obtain ⟨ih0, ih1, ih2, ih3⟩ := impl_MeanInversions.mono_l k
 unfold impl_MeanInversions.f
 repeat' first
   | (with_reducible exact ih0 _ _ _)
   | (with_reducible exact ih1 _ _ _ _ _)
   | (with_reducible exact ih2 _ _ _ _ _ _ _)
   | (with_reducible exact ih3 _ _ _ _ _ _ _ _ _ _)
   | (with_reducible exact impl_pairs.mono _ _ _ _ _)
   | (with_reducible exact impl_power.mono _ _ _)
   | (with_reducible exact impl_ratio.mono _ _ _)
   | (with_reducible exact LeO.refl _)
   | (with_reducible exact LeO.none _)
   | (with_reducible refine LeO.ite ?_ ?_)
   | (with_reducible refine LeO.bind ?_ (fun _ => ?_))
   | exact ih0 _ _ _
   | exact ih1 _ _ _ _ _
   | exact ih2 _ _ _ _ _ _ _
   | exact ih3 _ _ _ _ _ _ _ _ _ _
   | exact impl_pairs.mono _ _ _ _ _
   | exact impl_power.mono _ _ _
   | exact impl_ratio.mono _ _ _
   | exact LeO.none _
   | refine LeO.ite ?_ ?_
   | refine LeO.bind ?_ (fun _ => ?_)
set_option maxHeartbeats 8000000 in
set_option maxRecDepth 100000 in
theorem impl_MeanInversions.calls (k : Nat) (a0 : Int) (a1 : Int) (r1 : Int) (r2 : Int) (r3 : Bool) (w : World) (h : impl_MeanInversions.f k a0 a1 = some (r1, r2, r3)) :
  Calls Try.prog 17 #[.int .i64 a0, .int .i64 a1] w fun e w' => e = .returned (.tuple #[.agg #[.int .i64 r1, .int .i64 r2], .bool r3]) ∧ Below w.heap.size w w' := by
 have hu30 := Try.underlying30; have HB := Zm (Below.refl w.heap.size w); have H : ((impl_isFall.f a0 a1).bind fun t388 => (if t388 = true then (impl_MeanInversions.j0 k a0 a1 (decide (a0 > 5))) else (impl_MeanInversions.j0 k a0 a1 true))) = some (r1, r2, r3) := h; clear h; have HC3 := Aside0.mk H; clear H
 go_enter Try.func17, Try.ntmps17
 go_upto_region 1 with (first | ((with_reducible refine gate_dst (N := 4) rfl ?_); refine box_event ?hg (N := 4) ?hd (cs := #[.int .i64 0, .int .i64 0]) (t := 30) ?hr ?_; (case hd => rfl); (case hg => rfl); (case hr => first | (go_simp; done) | (go_simp; rfl)); intro gb387 hg w4 hbox hb; have BK387 := Zm (hbox); have GW387 := Zx hg HB; have GE387 := Zx hg HB; replace HB := Zh HB hb; clear hb hbox hg))
 repeat (go_quiet (fail); try go_wp2)
 (try simp only [Act.put, List.setIfInBounds_toArray, List.set_cons_zero, List.set_cons_succ])
 go_cut [18] (fun v18 wc => ∃ (kq : Nat) (x18_2 : Bool), v18 = .bool x18_2 ∧ Aside0 (impl_MeanInversions.j0 kq a0 a1 x18_2 = some (r1, r2, r3)) ∧ Aside0 (kq ≤ k) ∧ Aside0 (wc.heap[gb387]? = some (.cells #[.int .i64 0, .int .i64 0] 30 (0, 0))) ∧ Aside0 (Below w.heap.size w wc))
 case first =>
  have H := HC3.out; clear HC3; replace H := Option.bind_eq_some_iff.mp H; obtain ⟨t388, A50, H⟩ := H; replace H : (if t388 = true then (impl_MeanInversions.j0 k a0 a1 (decide (a0 > 5))) else (impl_MeanInversions.j0 k a0 a1 true)) = some (r1, r2, r3) := H; have A5 := Aside0.mk A50; clear A50
  by_cases c6 : t388 = true
  ·
   subst c6
   rw [if_pos rfl] at H
   have H' := Aside0.mk H; clear H
   go_wp2_with (first | (go_at_call 46; (with_reducible refine (impl_isFall.calls a0 a1 true _ A5.out).mono ?_); rintro e w' ⟨rfl, ⟨nd, rfl⟩⟩; (try first | exact ⟨rfl, _, World.drewN_drewN _ _ _⟩ | exact ⟨rfl, _, Eq.trans (World.drewN_drewN _ _ _) (congrArg (World.drewN _) (Nat.add_assoc _ _ _))⟩)))
   repeat (go_quiet (fail); try go_wp2)
   go_meet
   case rel => exact ⟨_, (decide (a0 > 5)), (by first | rfl | (simp; done) | (simp [*]; done)), H', ⟨by first | omega | exact Nat.le_refl _⟩, ⟨Zb BK387⟩, ⟨Zl HB⟩⟩
  ·
   replace c6 := Bool.eq_false_iff.mpr c6
   subst c6
   rw [if_neg Bool.false_ne_true] at H
   have H' := Aside0.mk H; clear H
   go_wp2_with (first | (go_at_call 46; (with_reducible refine (impl_isFall.calls a0 a1 false _ A5.out).mono ?_); rintro e w' ⟨rfl, ⟨nd, rfl⟩⟩; (try first | exact ⟨rfl, _, World.drewN_drewN _ _ _⟩ | exact ⟨rfl, _, Eq.trans (World.drewN_drewN _ _ _) (congrArg (World.drewN _) (Nat.add_assoc _ _ _))⟩)))
   repeat (go_quiet (fail); try go_wp2)
   go_meet
   case rel => exact ⟨_, (true), (by first | rfl | (simp; done) | (simp [*]; done)), H', ⟨by first | omega | exact Nat.le_refl _⟩, ⟨Zb BK387⟩, ⟨Zl HB⟩⟩
 case rest =>
  (clear HC3; (try clear c1); (try clear p2); (try clear c6)); obtain ⟨kq, x18_2, rfl, HA, HJ2, BK387, HB⟩ := hcut
  cases kq with
  | zero => exact absurd HA.out (by simp [impl_MeanInversions.j0])
  | succ kj2 =>
   have H := HA.out; clear HA
   simp only [impl_MeanInversions.j0] at H
   by_cases c7 : x18_2 = true
   ·
    subst c7
    rw [if_pos rfl] at H
    simp only [Option.some.injEq, Prod.mk.injEq] at H
    obtain ⟨rfl, rfl, rfl⟩ := H
    have hcz8_0 : wc.cell? ⟨gb387, 0, none⟩ = some (.int .i64 0) := (blk_cell BK387.out 0).trans rfl; have hcz8_1 : wc.cell? ⟨gb387, 1, none⟩ = some (.int .i64 0) := (blk_cell BK387.out 1).trans rfl; have hfz8_0 := blk_frozen BK387.out 0; have hfz8_1 := blk_frozen BK387.out 1
    go_wp2
    repeat (go_quiet (fail); try go_wp2)
    refine bodyPost_ret (results_ct rfl _ _ gb387 30 #[.int .i64 0, .int .i64 0] (0, 0) _ rfl (by (with_reducible repeat (first | refine blk_drewN ?_ _ | refine blk_drew ?_ | refine blk_alloc ?_ _)); refine blk_put (cs := #[.int .i64 0, .int .i64 0]) ?_ 1 _ rfl; (with_reducible repeat (first | refine blk_drewN ?_ _ | refine blk_drew ?_ | refine blk_alloc ?_ _)); refine blk_put (cs := #[.int .i64 0, .int .i64 0]) ?_ 0 _ rfl; (with_reducible repeat (first | refine blk_drewN ?_ _ | refine blk_drew ?_ | refine blk_alloc ?_ _)); exact BK387.out) Try.underlying30 rfl (by kernel_rfl)) rfl ?_
    exact ⟨by first | rfl | (simp [errW_none, errW_some] <;> rfl) | (simp [*, errW_none, errW_some] <;> rfl), Zl HB⟩
   ·
    replace c7 := Bool.eq_false_iff.mpr c7
    subst c7
    rw [if_neg Bool.false_ne_true] at H
    have H' := Aside0.mk H; clear H
    go_wp2
    repeat (go_quiet (fail); try go_wp2)
    go_loopg [6, 21] kj2 (fun kq v6 v21 w' => ∃ (x6_2 : Int) (x21_2 : Int), v6 = .int .i64 x6_2 ∧ v21 = .int .i64 x21_2 ∧ Aside0 (impl_MeanInversions.l0 kq a0 a1 x6_2 a0 x21_2 = some (r1, r2, r3)) ∧ Aside0 (kq ≤ kj2) ∧ Aside0 (w'.heap[gb387]? = some (.cells #[.int .i64 0, .int .i64 0] 30 (0, 0))) ∧ Aside0 (Below w.heap.size w w'))
    case atStart => exact ⟨(0), (0), (by first | rfl | (simp; done) | (simp [*]; done)), (by first | rfl | (simp; done) | (simp [*]; done)), H', ⟨Nat.le_refl _⟩, ⟨Zb BK387⟩, ⟨Zl HB⟩⟩
    case round =>
     (clear H'; (try clear c1); (try clear p2); (try clear c6); (try clear c7); (try clear hcz8_0); (try clear hcz8_1); (try clear hfz8_0); (try clear hfz8_1); (try clear p2)); obtain ⟨x6_2, x21_2, rfl, rfl, HA, HK2, BK387, HB⟩ := hrel
     cases gk with
     | zero => exact absurd HA.out (by simp [impl_MeanInversions.l0])
     | succ k2 =>
      have H := HA.out; clear HA
      simp only [impl_MeanInversions.l0] at H
      by_cases c9 : x21_2 < a0
      ·
       rw [if_pos c9] at H; have c9b0 : decide (x21_2 < a0) = true := decide_eq_true c9; clear c9; have H' := Aside0.mk H; clear H
       go_wp2
       repeat (go_quiet (fail); try go_wp2)
       go_loopg [6, 8] k2 (fun kq v6 v8 w' => ∃ (x6_3 : Int) (x8_3 : Int), v6 = .int .i64 x6_3 ∧ v8 = .int .i64 x8_3 ∧ Aside0 (impl_MeanInversions.l1 kq a0 a1 x6_3 x21_2 x8_3 a0 x21_2 = some (r1, r2, r3)) ∧ Aside0 (kq ≤ k2) ∧ Aside0 (w'.heap[gb387]? = some (.cells #[.int .i64 0, .int .i64 0] 30 (0, 0))) ∧ Aside0 (Below w.heap.size w w'))
       case atStart => exact ⟨(x6_2), (wrap64 (x21_2 + 1)), (by first | rfl | (simp; done) | (simp [*]; done)), (by first | rfl | (simp; done) | (simp [*]; done)), H', ⟨Nat.le_refl _⟩, ⟨Zb BK387⟩, ⟨Zl HB⟩⟩
       case round =>
        (clear H'; (try clear c1); (try clear p2); (try clear c6); (try clear p6); (try clear c7); (try clear c9); (try clear c9b0); (try clear hcz8_0); (try clear hcz8_1); (try clear hfz8_0); (try clear hfz8_1); (try clear p2)); obtain ⟨x6_3, x8_3, rfl, rfl, HA, HK3, BK387, HB⟩ := hrel
        cases gk with
        | zero => exact absurd HA.out (by simp [impl_MeanInversions.l1])
        | succ k3 =>
         have H := HA.out; clear HA
         simp only [impl_MeanInversions.l1] at H
         by_cases c10 : x8_3 < a0
         ·
          rw [if_pos c10] at H; have c10b0 : decide (x8_3 < a0) = true := decide_eq_true c10; clear c10; replace H := Option.bind_eq_some_iff.mp H; obtain ⟨t392, A110, H⟩ := H; replace H : (if 0 ≤ a1 then (if a1 < (t392.length : Int) then (impl_MeanInversions.l2 k3 a0 a1 x6_3 x21_2 x8_3 a0 x21_2 (rd_L2 t392 a1) ((rd_L2 t392 a1).length : Int) 0) else (none)) else (none)) = some (r1, r2, r3) := H; have A11 := Aside0.mk A110; clear A110
          by_cases c12 : 0 ≤ a1
          ·
           rw [if_pos c12] at H; have c12b0 : decide (0 ≤ a1) = true := decide_eq_true c12; clear c12
           by_cases c13 : a1 < (t392.length : Int)
           ·
            rw [if_pos c13] at H; have c13b0 : decide (a1 < (t392.length : Int)) = true := decide_eq_true c13; clear c13; have H' := Aside0.mk H; clear H
            go_wp2_with (first | (go_at_call 54; (with_reducible refine (impl_pairs.calls k3 a0 a1 x21_2 x8_3 t392 _ A11.out).mono ?_); rintro e w14 ⟨v393, rfl, ho0, hb⟩; have HO394 := Zm (Kd.N_lower (Kd.N_mono (ok' := fun k_ => k_ ≠ gb387) ho0 (fun k_ hk_ => (Kd.freshB (Zb BK387) k_ hk_))) (below_size (Zl HB))); replace BK387 := Zk BK387 hb; replace HB := Zh HB hb; (try clear hb); (try clear ho0); obtain ⟨Ao15, co15, eo15⟩ := Kd.N_slice HO394.out; subst eo15; have p395 : 0 ≤ (a1 : Int) := of_decide_eq_true (by first | (with_reducible assumption) | assumption); have q395 : a1 < (t392.length : Int) := of_decide_eq_true (by first | (with_reducible assumption) | assumption); obtain ⟨ad395, A395_0, c395_0, e395, hx395_0, hl395_0, hi395_0⟩ := at_L2 (Kd.N_reads' HO394.out).2.2 a1 p395 q395; cases e395; obtain ⟨ce395, hce395, hMe395, hcc395⟩ := Kd.N_get HO394.out [] a1 p395 (by first | exact q395 | exact of_decide_eq_true (by first | (with_reducible assumption) | assumption) | (have e_ := (Kd.N_reads' HO394.out).1; omega)); obtain ⟨ua395_0, uc395_0, rfl, ul395_0, ge395_0⟩ := Kd.FK_slice_open hMe395; have hv395_0 := hcc395 0 _ rfl; rw [Nat.add_zero, show ((Kd.slice 3 (Kd.int .i64))).sz = 1 from rfl, Nat.mul_one] at hv395_0; replace hv395_0 := Option.some.inj (hv395_0.symm.trans hx395_0); injection hv395_0 with hva_ hvn_ hvc_; rw [hva_] at ge395_0; rw [hvc_] at ul395_0; have HL395_0 := Zm (show Kd.V (Kd.int .i64) 3 _ w.heap.size _ _ (rd_L2 t392 a1) from Kd.V_mk ul395_0 ge395_0); clear hva_ hvn_ hvc_ ge395_0 ul395_0 hcc395 hce395; have HR395_0 := Aside0.mk hi395_0; have HC395_0 := Aside0.mk hl395_0; clear hi395_0 hl395_0; replace p395 := eq_true p395; replace q395 := eq_true q395))
            repeat (go_quiet (fail); try go_wp2)
            go_loopg [6, 40] k3 (fun kq v6 v40 w' => ∃ (x6_4 : Int) (x40_4 : Int), v6 = .int .i64 x6_4 ∧ v40 = .int .i64 x40_4 ∧ Aside0 (impl_MeanInversions.l2 kq a0 a1 x6_4 x21_2 x8_3 a0 x21_2 (rd_L2 t392 a1) ((rd_L2 t392 a1).length : Int) x40_4 = some (r1, r2, r3)) ∧ Aside0 (kq ≤ k3) ∧ Aside0 (w'.heap[gb387]? = some (.cells #[.int .i64 0, .int .i64 0] 30 (0, 0))) ∧ Aside0 (Kd.C (Kd.int .i64) w' A395_0 (rd_L2 t392 a1).length (rd_L2 t392 a1)) ∧ Aside0 (Below w.heap.size w w'))
            case atStart => exact ⟨(x6_3), (0), (by first | rfl | (simp; done) | (simp [*]; done)), (by first | rfl | (simp; done) | (simp [*]; done)), H', ⟨Nat.le_refl _⟩, ⟨Zb BK387⟩, ⟨by repeat (first | (with_reducible exact HR395_0.out) | (with_reducible refine Kd.C_alloc ?_ _) | (with_reducible refine Kd.C_drewN ?_ _) | (with_reducible refine Kd.C_drew ?_) | exact HR395_0.out)⟩, ⟨Zl HB⟩⟩
            case round =>
             (clear H'; (try clear c1); (try clear p2); (try clear c3); (try clear p3); (try clear q3); (try clear hx3); (try clear c6); (try clear p6); (try clear c7); (try clear c9); (try clear c9b0); (try clear c10); (try clear c10b0); (try clear c12); (try clear c12b0); (try clear c13); (try clear c13b0); (try clear hcz8_0); (try clear hcz8_1); (try clear hfz8_0); (try clear hfz8_1); (try clear hx395_0); (try clear p2); (try clear p395); (try clear p6); (try clear q395)); obtain ⟨x6_4, x40_4, rfl, rfl, HA, HK4, BK387, HR395_0, HB⟩ := hrel
             cases gk with
             | zero => exact absurd HA.out (by simp [impl_MeanInversions.l2])
             | succ k4 =>
              have H := HA.out; clear HA
              simp only [impl_MeanInversions.l2] at H
              by_cases c16 : x40_4 < ((rd_L2 t392 a1).length : Int)
              ·
               rw [if_pos c16] at H; have c16b0 : decide (x40_4 < ((rd_L2 t392 a1).length : Int)) = true := decide_eq_true c16; clear c16
               by_cases c17 : 0 ≤ x40_4
               ·
                rw [if_pos c17] at H; have c17b0 : decide (0 ≤ x40_4) = true := decide_eq_true c17; clear c17
                by_cases c18 : x40_4 < ((rd_L2 t392 a1).length : Int)
                ·
                 rw [if_pos c18] at H; have c18b0 : decide (x40_4 < ((rd_L2 t392 a1).length : Int)) = true := decide_eq_true c18; clear c18
                 by_cases c19 : a0 = 0
                 ·
                  rw [if_pos c19] at H
                  exact absurd H (by simp)
                 ·
                  rw [if_neg c19] at H; have c19b0 : (a0 == 0) = false := beq_eq_false_iff_ne.mpr c19; have c19b1 : (a0 != 0) = true := bne_iff_ne.mpr c19
                  by_cases c20 : (wrap64 (Int.tdiv x40_4 a0)) > (Int.tmod x40_4 a0)
                  ·
                   rw [if_pos c20] at H; have c20b0 : decide ((Int.tmod x40_4 a0) < (wrap64 (Int.tdiv x40_4 a0))) = true := decide_eq_true c20; clear c20; have H' := Aside0.mk H; clear H; have p396 : 0 ≤ (x40_4 : Int) := of_decide_eq_true (by first | (with_reducible assumption) | assumption); have q396 : x40_4 < ((rd_L2 t392 a1).length : Int) := of_decide_eq_true (by first | (with_reducible assumption) | assumption); obtain ⟨ad396, e396, hx396_0⟩ := Kd.at_int HR395_0.out x40_4 p396 q396
                   cases e396
                   try replace hx396_0 := (HB.out.cell (World.block_lt_of_cell? w _ hx396_0)).trans hx396_0
                   replace p396 := eq_true p396
                   replace q396 := eq_true q396
                   go_wp2
                   repeat (go_quiet (fail); try go_wp2)
                   go_roundg k4
                   case measure => have := HJ2.out; have := HK2.out; have := HK3.out; have := HK4.out; omega
                   case rel => exact ⟨(wrap64 (x6_4 + (rd (rd_L2 t392 a1) x40_4))), (wrap64 (x40_4 + 1)), (by first | rfl | (simp; done) | (simp [*]; done)), (by first | rfl | (simp; done) | (simp [*]; done)), H', ⟨by have := HJ2.out; have := HK2.out; have := HK3.out; have := HK4.out; omega⟩, ⟨Zb BK387⟩, ⟨by repeat (first | (with_reducible exact HR395_0.out) | (with_reducible refine Kd.C_alloc ?_ _) | (with_reducible refine Kd.C_drewN ?_ _) | (with_reducible refine Kd.C_drew ?_) | exact HR395_0.out)⟩, ⟨Zl HB⟩⟩
                  ·
                   rw [if_neg c20] at H; have c20b0 : decide ((Int.tmod x40_4 a0) < (wrap64 (Int.tdiv x40_4 a0))) = false := decide_eq_false c20; clear c20; have H' := Aside0.mk H; clear H; have p396 : 0 ≤ (x40_4 : Int) := of_decide_eq_true (by first | (with_reducible assumption) | assumption); have q396 : x40_4 < ((rd_L2 t392 a1).length : Int) := of_decide_eq_true (by first | (with_reducible assumption) | assumption); obtain ⟨ad396, e396, hx396_0⟩ := Kd.at_int HR395_0.out x40_4 p396 q396
                   cases e396
                   try replace hx396_0 := (HB.out.cell (World.block_lt_of_cell? w _ hx396_0)).trans hx396_0
                   replace p396 := eq_true p396
                   replace q396 := eq_true q396
                   go_wp2
                   repeat (go_quiet (fail); try go_wp2)
                   go_roundg k4
                   case measure => have := HJ2.out; have := HK2.out; have := HK3.out; have := HK4.out; omega
                   case rel => exact ⟨(x6_4), (wrap64 (x40_4 + 1)), (by first | rfl | (simp; done) | (simp [*]; done)), (by first | rfl | (simp; done) | (simp [*]; done)), H', ⟨by have := HJ2.out; have := HK2.out; have := HK3.out; have := HK4.out; omega⟩, ⟨Zb BK387⟩, ⟨by repeat (first | (with_reducible exact HR395_0.out) | (with_reducible refine Kd.C_alloc ?_ _) | (with_reducible refine Kd.C_drewN ?_ _) | (with_reducible refine Kd.C_drew ?_) | exact HR395_0.out)⟩, ⟨Zl HB⟩⟩
                ·
                 rw [if_neg c18] at H
                 exact absurd H (by simp)
               ·
                rw [if_neg c17] at H
                exact absurd H (by simp)
              ·
               rw [if_neg c16] at H; have c16b0 : decide (x40_4 < ((rd_L2 t392 a1).length : Int)) = false := decide_eq_false c16; clear c16; have H' := Aside0.mk H; clear H
               go_wp2
               repeat (go_quiet (fail); try go_wp2)
               go_roundg k4
               case measure => have := HJ2.out; have := HK2.out; have := HK3.out; have := HK4.out; omega
               case rel => exact ⟨(x6_4), (wrap64 (x8_3 + 1)), (by first | rfl | (simp; done) | (simp [*]; done)), (by first | rfl | (simp; done) | (simp [*]; done)), H', ⟨by have := HJ2.out; have := HK2.out; have := HK3.out; have := HK4.out; omega⟩, ⟨Zb BK387⟩, ⟨Zl HB⟩⟩
           ·
            rw [if_neg c13] at H
            exact absurd H (by simp)
          ·
           rw [if_neg c12] at H
           exact absurd H (by simp)
         ·
          rw [if_neg c10] at H; have c10b0 : decide (x8_3 < a0) = false := decide_eq_false c10; clear c10; have H' := Aside0.mk H; clear H
          go_wp2
          repeat (go_quiet (fail); try go_wp2)
          go_roundg k3
          case measure => have := HJ2.out; have := HK2.out; have := HK3.out; omega
          case rel => exact ⟨(x6_3), (wrap64 (x21_2 + 1)), (by first | rfl | (simp; done) | (simp [*]; done)), (by first | rfl | (simp; done) | (simp [*]; done)), H', ⟨by have := HJ2.out; have := HK2.out; have := HK3.out; omega⟩, ⟨Zb BK387⟩, ⟨Zl HB⟩⟩
      ·
       rw [if_neg c9] at H; have c9b0 : decide (x21_2 < a0) = false := decide_eq_false c9; clear c9; replace H := Option.bind_eq_some_iff.mp H; obtain ⟨t389, A210, H⟩ := H; (replace H : ((impl_ratio.f k2 x6_2 t389).bind fun bt390 => (some (bt390.1, bt390.2, true))) = some (r1, r2, r3) := H); have A21 := Aside0.mk A210; clear A210; replace H := Option.bind_eq_some_iff.mp H; obtain ⟨⟨t390, t391⟩, A220, H⟩ := H; replace H : (some (t390, t391, true)) = some (r1, r2, r3) := H; have A22 := Aside0.mk A220; clear A220
       simp only [Option.some.injEq, Prod.mk.injEq] at H
       obtain ⟨rfl, rfl, rfl⟩ := H
       go_wp2_with (first | (go_at_call 43; (with_reducible refine (impl_power.calls k2 (wrap64 (a0 - 1)) a1 t389 _ A21.out).mono ?_); rintro e w' ⟨rfl, ⟨nd, rfl⟩⟩; (try first | exact ⟨rfl, _, World.drewN_drewN _ _ _⟩ | exact ⟨rfl, _, Eq.trans (World.drewN_drewN _ _ _) (congrArg (World.drewN _) (Nat.add_assoc _ _ _))⟩)) | (go_at_call 42; (with_reducible refine (impl_ratio.calls k2 x6_2 t389 t390 t391 _ A22.out).mono ?_); rintro e w23 ⟨rfl, hb⟩; replace BK387 := Zk BK387 hb; replace HB := Zh HB hb; (try clear hb); (try clear hb2); (try clear hk); (try clear hi); have hcz24_0 : w23.cell? ⟨gb387, 0, none⟩ = some (.int .i64 0) := (blk_cell BK387.out 0).trans rfl; have hcz24_1 : w23.cell? ⟨gb387, 1, none⟩ = some (.int .i64 0) := (blk_cell BK387.out 1).trans rfl; have hfz24_0 := blk_frozen BK387.out 0; have hfz24_1 := blk_frozen BK387.out 1))
       repeat (go_quiet (fail); try go_wp2)
       refine bodyPost_ret (results_ct rfl _ _ gb387 30 #[.int .i64 t390, .int .i64 t391] (0, 0) _ rfl (by (with_reducible repeat (first | refine blk_drewN ?_ _ | refine blk_drew ?_ | refine blk_alloc ?_ _)); refine blk_put (cs := #[.int .i64 t390, .int .i64 0]) ?_ 1 _ rfl; (with_reducible repeat (first | refine blk_drewN ?_ _ | refine blk_drew ?_ | refine blk_alloc ?_ _)); refine blk_put (cs := #[.int .i64 0, .int .i64 0]) ?_ 0 _ rfl; (with_reducible repeat (first | refine blk_drewN ?_ _ | refine blk_drew ?_ | refine blk_alloc ?_ _)); exact BK387.out) Try.underlying30 rfl (by kernel_rfl)) rfl ?_
       exact ⟨by first | rfl | (simp [errW_none, errW_some] <;> rfl) | (simp [*, errW_none, errW_some] <;> rfl), Zl HB⟩

def mdPerms : Nat → List UInt8 → List (List UInt8)
  | 0, _ => [[]]
  | d + 1, l => (List.range l.length).flatMap fun i => (mdPerms d (l.eraseIdx i)).map fun p => l.getD i 0 :: p
def mdClosed (n : Nat) (q0 : List UInt8) (all : List (List UInt8)) : Bool := decide all.Nodup && all.contains q0 && all.all fun bs => decide (bs.length = n) && (List.range (n - 1)).all fun r => all.contains (mdSw bs r)
theorem mdH_mem {n : Nat} {q0 : List UInt8} {all : List (List UInt8)} (h : mdClosed n q0 all = true) : ∀ (j : Nat) (bs : List UInt8), mdH n q0 j bs = true → bs ∈ all
  | 0, bs, hb => by
    unfold mdClosed at h
    rw [Bool.and_eq_true, Bool.and_eq_true] at h
    rw [of_decide_eq_true hb]
    simpa using h.1.2
  | j + 1, bs, hb => by
    have hm := mdH_mem h j
    unfold mdClosed at h
    rw [Bool.and_eq_true] at h
    unfold mdH mdStepH at hb
    rw [Bool.and_eq_true] at hb
    have hl := of_decide_eq_true hb.1
    have key : ∀ m : Nat, m ≤ n - 1 → mdAny m (fun r => mdH n q0 j (mdSw bs r)) = true → bs ∈ all := by
      intro m
      induction m with
      | zero => intro _ h_; cases h_
      | succ m ih =>
        intro hmn h_
        unfold mdAny at h_
        rcases Bool.or_eq_true_iff.1 h_ with h1 | h1
        · exact ih (by omega) h1
        · have h2 := List.all_eq_true.1 h.2 _ (hm _ h1)
          rw [Bool.and_eq_true] at h2
          have h3 := List.all_eq_true.1 h2.2 m (List.mem_range.2 (by omega))
          rw [mdSw_mdSw bs m (by omega)] at h3
          simpa using h3
    exact key (n - 1) (Nat.le_refl _) hb.2
theorem md_keys {w : World} {P : Program} {k : TypeId} {R : Value → Option (DataW Unit × List MemPlace)} {b n : Nat} {D : DataW Unit} (hk : P.underlying k = some .string) (h : w.ownsMap P k R b n D) : ∀ es, D = .map es → ∀ p ∈ es, ∃ s, p.1 = .string s := by
  obtain ⟨es0, clock, h1, F, h3, rfl⟩ := h
  intro es he p hp
  cases he
  obtain ⟨v, hv⟩ := Go.Maps.fit_keys F p (Go.mem_sorted.1 hp)
  obtain ⟨s, _, e2, _⟩ := md_key_inv hk hv
  exact ⟨_, e2⟩
def impl_CountOrdersMade.f (k : Nat) (a0 : Int) (a1 : Int) : Option (Int × Bool) :=
  (impl_isTold.f a0 a1).bind fun t1 => if t1 = true then ((impl_identity.f k a0).bind fun ids => (impl_orderKey.f k ids).bind fun q0 => if (2 ≤ a0 ∧ a0 ≤ 5 ∧ 0 ≤ a1 ∧ a1 ≤ 20 ∧ (q0.data.toList.length : Int) = a0) ∧ mdClosed a0.toNat q0.data.toList (mdPerms a0.toNat q0.data.toList) = true then some ((((mdPerms a0.toNat q0.data.toList).filter (mdH a0.toNat q0.data.toList a1.toNat)).length : Int), true) else none) else some (0, false)
set_option maxHeartbeats 8000000 in
set_option maxRecDepth 100000 in
theorem impl_CountOrdersMade.calls (k : Nat) (a0 : Int) (a1 : Int) (r1 : Int) (r2 : Bool) (w : World) (h : impl_CountOrdersMade.f k a0 a1 = some (r1, r2)) :
    Calls Try.prog 19 #[.int .i64 a0, .int .i64 a1] w fun e w' => e = .returned (.tuple #[.int .i64 r1, .bool r2]) ∧ Below w.heap.size w w' := by
  have HB0 := Aside0.mk (Below.refl w.heap.size w)
  unfold impl_CountOrdersMade.f at h
  obtain ⟨t1, e1, h⟩ := Option.bind_eq_some_iff.mp h
  have A1 := Aside0.mk e1
  clear e1
  cases t1 with
  | false =>
    rw [if_neg (by decide)] at h
    simp only [Option.some.injEq, Prod.mk.injEq] at h
    obtain ⟨rfl, rfl⟩ := h
    go_enter Try.func19, Try.ntmps19
    go_wp2_with (first | (go_at_call 34; refine (impl_isTold.calls a0 a1 false _ A1.out).mono ?_; rintro e w' ⟨rfl, ⟨nd, rfl⟩⟩))
    go_ret2
    exact ⟨rfl, by repeat (first | exact HB0.out | apply pw_below_drewN | apply below_drew1)⟩
  | true =>
    rw [if_pos rfl] at h
    obtain ⟨ids, e3, h⟩ := Option.bind_eq_some_iff.mp h
    obtain ⟨q0, e4, h⟩ := Option.bind_eq_some_iff.mp h
    by_cases hc : (2 ≤ a0 ∧ a0 ≤ 5 ∧ 0 ≤ a1 ∧ a1 ≤ 20 ∧ (q0.data.toList.length : Int) = a0) ∧ mdClosed a0.toNat q0.data.toList (mdPerms a0.toNat q0.data.toList) = true
    · rw [if_pos hc] at h
      obtain ⟨⟨c1, c2', c3, c4, c5⟩, c6⟩ := hc
      obtain ⟨n, rfl⟩ : ∃ n : Nat, a0 = n := ⟨a0.toNat, by omega⟩
      obtain ⟨K, rfl⟩ : ∃ n : Nat, a1 = n := ⟨a1.toNat, by omega⟩
      rw [Int.toNat_natCast] at c6
      have A3 := Aside0.mk e3
      have A4 := Aside0.mk e4
      have HQ := Aside0.mk (show q0.data.toList.length = n by omega)
      have HN := Aside0.mk (show 2 ≤ n ∧ n ≤ 5 ∧ K ≤ 20 by omega)
      have HCl := Aside0.mk c6
      clear e3 e4 c1 c2' c3 c4 c5 c6
      simp only [Option.some.injEq, Prod.mk.injEq, Int.toNat_natCast] at h
      obtain ⟨rfl, rfl⟩ := h
      go_enter Try.func19, Try.ntmps19
      go_wp2_with (first | (go_at_call 34; refine (impl_isTold.calls _ _ true _ A1.out).mono ?_; rintro e w' ⟨rfl, ⟨nd, rfl⟩⟩) | (go_at_call 36; refine (impl_made.calls k n K ids q0 _ HN.out.1 HN.out.2.1 HN.out.2.2 A3.out A4.out HQ.out).mono ?_; rintro e w5 ⟨b, m, D, rfl, hb, hown, hrd, hbel⟩; have HO := Aside0.mk hown; have HRd := Aside0.mk hrd; have HB2 := Aside0.mk (below_step (by repeat (first | exact HB0.out | apply pw_below_drewN | apply below_drew1)) hbel); clear hb hown hrd hbel) | (at_len; refine wpList_len_own _ rfl _ 58 rfl 9 3 Try.underlying58 _ b m D rfl HO.out ?_))
      go_ret2
      refine ⟨?_, HB2.out⟩
      have hs : Go.Maps.size D = ((mdPerms n q0.data.toList).filter (mdH n q0.data.toList K)).length := HRd.out.size (HO.out.tidy md_law) (md_keys Try.underlying9 HO.out) _ (by have h_ := HCl.out; unfold mdClosed at h_; rw [Bool.and_eq_true, Bool.and_eq_true] at h_; exact of_decide_eq_true h_.1.1) (fun bs => mdH_mem HCl.out K bs)
      rw [hs]
      rfl
    · rw [if_neg hc] at h; cases h

def laws_nSame.l0 : Nat → List Int → List Int → Int → Int → Option (Bool)
 | 0, _, _, _, _ => none
 | k + 1, x0, x1, x12, x13 => if x13 < x12 then (if 0 ≤ x13 then (if x13 < (x0.length : Int) then (if x13 < (x1.length : Int) then (if (rd x0 x13) = (rd x1 x13) then (laws_nSame.l0 k x0 x1 x12 (wrap64 (x13 + 1))) else (some false)) else (none)) else (none)) else (none)) else (some true)
def laws_nSame.f (k : Nat) (l0 : List Int) (l1 : List Int) : Option (Bool) := if (l0.length : Int) = (l1.length : Int) then (laws_nSame.l0 k l0 l1 (l0.length : Int) 0) else (some false)
theorem laws_nSame.mono_l : ∀ k, (∀ y0 y1 y2 y3, LeO (laws_nSame.l0 k y0 y1 y2 y3) (laws_nSame.l0 (k + 1) y0 y1 y2 y3))
 | 0 => fun _ _ _ _ r h => by simp [laws_nSame.l0] at h
 | k + 1 => by
  have ih0 := laws_nSame.mono_l k
  ·
   intro y0 y1 y2 y3
   unfold laws_nSame.l0
   repeat' first
   | (with_reducible exact ih0 _ _ _ _)
   | (with_reducible exact LeO.refl _)
   | (with_reducible exact LeO.none _)
   | (with_reducible refine LeO.ite ?_ ?_)
   | (with_reducible refine LeO.bind ?_ (fun _ => ?_))
   | exact ih0 _ _ _ _
   | exact LeO.none _
   | refine LeO.ite ?_ ?_
   | refine LeO.bind ?_ (fun _ => ?_)
theorem laws_nSame.mono : ∀ a0 a1 k, LeO (laws_nSame.f k a0 a1) (laws_nSame.f (k + 1) a0 a1) := by
 intro a0 a1 k
 have ih0 := laws_nSame.mono_l k
 unfold laws_nSame.f
 repeat' first
   | (with_reducible exact ih0 _ _ _ _)
   | (with_reducible exact LeO.refl _)
   | (with_reducible exact LeO.none _)
   | (with_reducible refine LeO.ite ?_ ?_)
   | (with_reducible refine LeO.bind ?_ (fun _ => ?_))
   | exact ih0 _ _ _ _
   | exact LeO.none _
   | refine LeO.ite ?_ ?_
   | refine LeO.bind ?_ (fun _ => ?_)
set_option maxHeartbeats 8000000 in
set_option maxRecDepth 100000 in
theorem laws_nSame.calls (k : Nat) (A0 : Option Addr) (c0 : Nat) (l0 : List Int) (A1 : Option Addr) (c1 : Nat) (l1 : List Int) (r : Bool) (w : World) (hr0 : Kd.C (Kd.int .i64) w A0 l0.length l0) (hc0 : l0.length ≤ c0) (hr1 : Kd.C (Kd.int .i64) w A1 l1.length l1) (hc1 : l1.length ≤ c1) (h : laws_nSame.f k l0 l1 = some r) :
  Calls Try.prog 22 #[.slice A0 l0.length c0, .slice A1 l1.length c1] w fun e w' => e = .returned (.bool r) ∧ Drawn0 w w' := by
 have HR0 := Aside0.mk hr0; have HC0 := Aside0.mk hc0; clear hr0 hc0; have HR1 := Aside0.mk hr1; have HC1 := Aside0.mk hc1; clear hr1 hc1; have H : (if (l0.length : Int) = (l1.length : Int) then (laws_nSame.l0 k l0 l1 (l0.length : Int) 0) else (some false)) = some r := h; clear h
 by_cases c3 : (l0.length : Int) = (l1.length : Int)
 ·
  rw [if_pos c3] at H; have c3b0 : ((l0.length : Int) == (l1.length : Int)) = true := beq_iff_eq.mpr c3; have c3b1 : ((l0.length : Int) != (l1.length : Int)) = false := bne_eq_false_iff_eq.mpr c3; (have c3b2 : (l0.length == l1.length) = true := by first | simpa using c3 | (simp at c3 ⊢; omega)); clear c3; have H' := Aside0.mk H; clear H
  go_enter Try.func22, Try.ntmps22
  go_wp2
  repeat (go_quiet (fail); try go_wp2)
  go_loopg [13] k (fun kq v13 w' => ∃ (x13_1 : Int), v13 = .int .i64 x13_1 ∧ Aside0 (laws_nSame.l0 kq l0 l1 (l0.length : Int) x13_1 = some r) ∧ Aside0 (kq ≤ k) ∧ Drawn0 w w')
  case atStart => exact ⟨(0), (by first | rfl | (simp; done) | (simp [*]; done)), H', ⟨Nat.le_refl _⟩, by repeat (first | exact Drawn0.refl _ | apply Drawn0.step)⟩
  case round =>
   (clear H'; (try clear c1); (try clear c2); (try clear p2); (try clear c3); (try clear c3b0); (try clear c3b1); (try clear c3b2)); obtain ⟨x13_1, rfl, HA, HK1, ⟨m1, rfl⟩⟩ := hrel
   cases gk with
   | zero => exact absurd HA.out (by simp [laws_nSame.l0])
   | succ k1 =>
    have H := HA.out; clear HA
    simp only [laws_nSame.l0] at H
    by_cases c4 : x13_1 < (l0.length : Int)
    ·
     rw [if_pos c4] at H; have c4b0 : decide (x13_1 < (l0.length : Int)) = true := decide_eq_true c4; clear c4
     by_cases c5 : 0 ≤ x13_1
     ·
      rw [if_pos c5] at H; have c5b0 : decide (0 ≤ x13_1) = true := decide_eq_true c5; clear c5
      by_cases c6 : x13_1 < (l0.length : Int)
      ·
       rw [if_pos c6] at H; have c6b0 : decide (x13_1 < (l0.length : Int)) = true := decide_eq_true c6; clear c6
       by_cases c7 : x13_1 < (l1.length : Int)
       ·
        rw [if_pos c7] at H; have c7b0 : decide (x13_1 < (l1.length : Int)) = true := decide_eq_true c7; clear c7
        by_cases c8 : (rd l0 x13_1) = (rd l1 x13_1)
        ·
         rw [if_pos c8] at H; have c8b0 : ((rd l0 x13_1) == (rd l1 x13_1)) = true := beq_iff_eq.mpr c8; have c8b1 : ((rd l0 x13_1) != (rd l1 x13_1)) = false := bne_eq_false_iff_eq.mpr c8; clear c8; have H' := Aside0.mk H; clear H; have p436 : 0 ≤ (x13_1 : Int) := of_decide_eq_true (by first | (with_reducible assumption) | assumption); have q436 : x13_1 < (l0.length : Int) := of_decide_eq_true (by first | (with_reducible assumption) | assumption); obtain ⟨ad436, e436, hx436_0⟩ := Kd.at_int HR0.out x13_1 p436 q436
         cases e436
         replace p436 := eq_true p436
         replace q436 := eq_true q436
         have p437 : 0 ≤ (x13_1 : Int) := of_decide_eq_true (by first | (with_reducible assumption) | assumption); have q437 : x13_1 < (l1.length : Int) := of_decide_eq_true (by first | (with_reducible assumption) | assumption)
         obtain ⟨ad437, e437, hx437_0⟩ := Kd.at_int HR1.out x13_1 p437 q437
         cases e437
         replace p437 := eq_true p437
         replace q437 := eq_true q437
         go_wp2
         repeat (go_quiet (fail); try go_wp2)
         go_roundg k1
         case measure => have := HK1.out; omega
         case rel => exact ⟨(wrap64 (x13_1 + 1)), (by first | rfl | (simp; done) | (simp [*]; done)), H', ⟨by have := HK1.out; omega⟩, by repeat (first | exact Drawn0.refl _ | apply Drawn0.step)⟩
        ·
         rw [if_neg c8] at H; have c8b0 : ((rd l0 x13_1) == (rd l1 x13_1)) = false := beq_eq_false_iff_ne.mpr c8; have c8b1 : ((rd l0 x13_1) != (rd l1 x13_1)) = true := bne_iff_ne.mpr c8; obtain rfl := Option.some.inj H
         have p436 : 0 ≤ (x13_1 : Int) := of_decide_eq_true (by first | (with_reducible assumption) | assumption); have q436 : x13_1 < (l0.length : Int) := of_decide_eq_true (by first | (with_reducible assumption) | assumption)
         obtain ⟨ad436, e436, hx436_0⟩ := Kd.at_int HR0.out x13_1 p436 q436
         cases e436
         replace p436 := eq_true p436
         replace q436 := eq_true q436
         have p437 : 0 ≤ (x13_1 : Int) := of_decide_eq_true (by first | (with_reducible assumption) | assumption); have q437 : x13_1 < (l1.length : Int) := of_decide_eq_true (by first | (with_reducible assumption) | assumption)
         obtain ⟨ad437, e437, hx437_0⟩ := Kd.at_int HR1.out x13_1 p437 q437
         cases e437
         replace p437 := eq_true p437
         replace q437 := eq_true q437
         go_wp2
         repeat (go_quiet (fail); try go_wp2)
         go_ret
         exact ⟨by first | rfl | (simp; done) | (simp [*]; done), by repeat (first | exact Drawn0.refl _ | apply Drawn0.step)⟩
       ·
        rw [if_neg c7] at H
        exact absurd H (by simp)
      ·
       rw [if_neg c6] at H
       exact absurd H (by simp)
     ·
      rw [if_neg c5] at H
      exact absurd H (by simp)
    ·
     rw [if_neg c4] at H; have c4b0 : decide (x13_1 < (l0.length : Int)) = false := decide_eq_false c4; clear c4; obtain rfl := Option.some.inj H
     go_wp2
     repeat (go_quiet (fail); try go_wp2)
     go_ret
     exact ⟨by first | rfl | (simp; done) | (simp [*]; done), by repeat (first | exact Drawn0.refl _ | apply Drawn0.step)⟩
 ·
  rw [if_neg c3] at H; have c3b0 : ((l0.length : Int) == (l1.length : Int)) = false := beq_eq_false_iff_ne.mpr c3; have c3b1 : ((l0.length : Int) != (l1.length : Int)) = true := bne_iff_ne.mpr c3; (have c3b2 : (l0.length == l1.length) = false := by first | simpa using c3 | (simp at c3 ⊢; omega)); obtain rfl := Option.some.inj H
  go_enter Try.func22, Try.ntmps22
  go_wp2
  repeat (go_quiet (fail); try go_wp2)
  go_ret
  exact ⟨by first | rfl | (simp; done) | (simp [*]; done), by repeat (first | exact Drawn0.refl _ | apply Drawn0.step)⟩

def spec_DrawCountEnds.f (l0 : List Int) : Option (Int × Int × Int × Int) := (spec_l1Cur_fall.f l0 0 0 6).bind fun bt439 => ((spec_l1Cur_pick.f l0 bt439.2.2.1 bt439.2.2.2 7).bind fun bt443 => ((spec_l1Cur_pick.f l0 bt443.2.1 bt443.2.2 7).bind fun bt446 => (some (bt439.1, bt439.2.1, wrap64 (bt443.1 - 1), wrap64 (bt446.1 - 1)))))
set_option maxHeartbeats 8000000 in
set_option maxRecDepth 100000 in
theorem spec_DrawCountEnds.calls (A0 : Option Addr) (c0 : Nat) (l0 : List Int) (r1 : Int) (r2 : Int) (r3 : Int) (r4 : Int) (w : World) (hr0 : Kd.C (Kd.int .u8) w A0 l0.length l0) (hc0 : l0.length ≤ c0) (h : spec_DrawCountEnds.f l0 = some (r1, r2, r3, r4)) :
  Calls Try.prog 57 #[.slice A0 l0.length c0] w fun e w' => e = .returned (.tuple #[.int .i64 r1, .int .i64 r2, .int .i64 r3, .int .i64 r4]) ∧ Below w.heap.size w w' := by
 have hu50 := Try.underlying50; have HR0 := Aside0.mk hr0; have HC0 := Aside0.mk hc0; clear hr0 hc0; have HB := Zm (Below.refl w.heap.size w); have H : ((spec_l1Cur_fall.f l0 0 0 6).bind fun bt439 => ((spec_l1Cur_pick.f l0 bt439.2.2.1 bt439.2.2.2 7).bind fun bt443 => ((spec_l1Cur_pick.f l0 bt443.2.1 bt443.2.2 7).bind fun bt446 => (some (bt439.1, bt439.2.1, wrap64 (bt443.1 - 1), wrap64 (bt446.1 - 1)))))) = some (r1, r2, r3, r4) := h; clear h
 replace H := Option.bind_eq_some_iff.mp H; obtain ⟨⟨t439, t440, t441, t442⟩, A20, H⟩ := H; (replace H : ((spec_l1Cur_pick.f l0 t441 t442 7).bind fun bt443 => ((spec_l1Cur_pick.f l0 bt443.2.1 bt443.2.2 7).bind fun bt446 => (some (t439, t440, wrap64 (bt443.1 - 1), wrap64 (bt446.1 - 1))))) = some (r1, r2, r3, r4) := H); have A2 := Aside0.mk A20; clear A20; replace H := Option.bind_eq_some_iff.mp H; obtain ⟨⟨t443, t444, t445⟩, A30, H⟩ := H; (replace H : ((spec_l1Cur_pick.f l0 t444 t445 7).bind fun bt446 => (some (t439, t440, wrap64 (t443 - 1), wrap64 (bt446.1 - 1)))) = some (r1, r2, r3, r4) := H); have A3 := Aside0.mk A30; clear A30; replace H := Option.bind_eq_some_iff.mp H; obtain ⟨⟨t446, t447, t448⟩, A40, H⟩ := H; replace H : (some (t439, t440, wrap64 (t443 - 1), wrap64 (t446 - 1))) = some (r1, r2, r3, r4) := H; have A4 := Aside0.mk A40; clear A40
 simp only [Option.some.injEq, Prod.mk.injEq] at H
 obtain ⟨rfl, rfl, rfl, rfl⟩ := H
 go_enter Try.func57, Try.ntmps57
 go_wp2_with (first | ((with_reducible refine gate_dst (N := 11) rfl ?_); refine box_event ?hg (N := 11) ?hd (cs := #[.slice A0 l0.length c0, .int .i64 0, .int .u64 0]) (t := 50) ?hr ?_; (case hd => rfl); (case hg => rfl); (case hr => first | (go_simp; done) | (go_simp; rfl)); intro gb438 hg w5 hbox hb; have HI438 := Zm ((show IsS50 w w5 gb438 l0 0 0 from ⟨_, _, hbox, (by rw [hg]; exact (below_size (Zl HB))), HR0.out⟩)); have GW438 := Zx hg HB; have GE438 := Zx hg HB; replace HB := Zh HB hb; clear hb hbox hg) | ((with_reducible refine gate_callee (f := 29) rfl ?_); refine Ga (some 14) Try.func29 #[.pointer (some ⟨gb438, 0, none⟩), .int .i64 6] (h := ?_); (with_reducible refine (spec_l1Cur_fall.calls gb438 l0 0 0 6 t439 t440 t441 t442 w _ ?side1 ?side2 A2.out).mono ?_); (case side1 => repeat (first | (with_reducible first | exact HI438.out | apply IsS50.alloc | apply IsS50.drewN | apply IsS50.drew | apply IsS50.set_1 | apply IsS50.set_2) | exact HI438.out)); (case side2 => repeat (first | (with_reducible first | exact HB.out | apply below_alloc | apply pw_below_drewN | apply below_drew1 | refine below_set ?_ (IsS50.ge HI438.out)) | exact HB.out)); rintro e w6 ⟨rfl, hi, hb, hk⟩; refine ⟨_, rfl, ?_⟩; replace HB := Zm (hb); replace HI438 := Zm (hi); (try clear hb); (try clear hb2); (try clear hk); (try clear hi)) | ((with_reducible refine gate_callee (f := 62) rfl ?_); refine Ga (some 20) Try.func62 #[.pointer (some ⟨gb438, 0, none⟩), .int .i64 7] (h := ?_); (with_reducible refine (spec_l1Cur_pick.calls gb438 l0 t441 t442 7 t443 t444 t445 w _ ?side1 ?side2 A3.out).mono ?_); (case side1 => repeat (first | (with_reducible first | exact HI438.out | apply IsS50.alloc | apply IsS50.drewN | apply IsS50.drew | apply IsS50.set_1 | apply IsS50.set_2) | exact HI438.out)); (case side2 => repeat (first | (with_reducible first | exact HB.out | apply below_alloc | apply pw_below_drewN | apply below_drew1 | refine below_set ?_ (IsS50.ge HI438.out)) | exact HB.out)); rintro e w7 ⟨rfl, hi, hb, hk⟩; refine ⟨_, rfl, ?_⟩; replace HB := Zm (hb); replace HI438 := Zm (hi); (try clear hb); (try clear hb2); (try clear hk); (try clear hi)) | ((with_reducible refine gate_callee (f := 62) rfl ?_); refine Ga (some 23) Try.func62 #[.pointer (some ⟨gb438, 0, none⟩), .int .i64 7] (h := ?_); (with_reducible refine (spec_l1Cur_pick.calls gb438 l0 t444 t445 7 t446 t447 t448 w _ ?side1 ?side2 A4.out).mono ?_); (case side1 => repeat (first | (with_reducible first | exact HI438.out | apply IsS50.alloc | apply IsS50.drewN | apply IsS50.drew | apply IsS50.set_1 | apply IsS50.set_2) | exact HI438.out)); (case side2 => repeat (first | (with_reducible first | exact HB.out | apply below_alloc | apply pw_below_drewN | apply below_drew1 | refine below_set ?_ (IsS50.ge HI438.out)) | exact HB.out)); rintro e w8 ⟨rfl, hi, hb, hk⟩; refine ⟨_, rfl, ?_⟩; replace HB := Zm (hb); replace HI438 := Zm (hi); (try clear hb); (try clear hb2); (try clear hk); (try clear hi)))
 refine bodyPost_ret (results_list (rs := [.tmp 2, .tmp 3, .tmp 4, .tmp 5]) rfl (by simp) (.tmp (.tmp (.tmp (.tmp .nil))))) rfl ?_
 exact ⟨by first | rfl | (simp [errW_none, errW_some] <;> rfl) | (simp [*, errW_none, errW_some] <;> rfl), by repeat (first | (with_reducible first | exact HB.out | apply below_alloc | apply pw_below_drewN | apply below_drew1 | refine below_set ?_ (IsS50.ge HI438.out)) | exact HB.out)⟩

def spec_DrawMeanMeetings.f (l0 : List Int) : Option (Int × Int × Int × Int) := (spec_DrawCountEnds.f l0).bind fun bt449 => (some (bt449.1, bt449.2.1, bt449.2.2.1, bt449.2.2.2))
set_option maxHeartbeats 8000000 in
set_option maxRecDepth 100000 in
theorem spec_DrawMeanMeetings.calls (A0 : Option Addr) (c0 : Nat) (l0 : List Int) (r1 : Int) (r2 : Int) (r3 : Int) (r4 : Int) (w : World) (hr0 : Kd.C (Kd.int .u8) w A0 l0.length l0) (hc0 : l0.length ≤ c0) (h : spec_DrawMeanMeetings.f l0 = some (r1, r2, r3, r4)) :
  Calls Try.prog 23 #[.slice A0 l0.length c0] w fun e w' => e = .returned (.tuple #[.int .i64 r1, .int .i64 r2, .int .i64 r3, .int .i64 r4]) ∧ Below w.heap.size w w' := by
 (have HR0 := Aside0.mk hr0; have HC0 := Aside0.mk hc0; clear hr0 hc0; have HB := Zm (Below.refl w.heap.size w); have H : ((spec_DrawCountEnds.f l0).bind fun bt449 => (some (bt449.1, bt449.2.1, bt449.2.2.1, bt449.2.2.2))) = some (r1, r2, r3, r4) := h; clear h); replace H := Option.bind_eq_some_iff.mp H; obtain ⟨⟨t449, t450, t451, t452⟩, A20, H⟩ := H; replace H : (some (t449, t450, t451, t452)) = some (r1, r2, r3, r4) := H; have A2 := Aside0.mk A20; clear A20
 simp only [Option.some.injEq, Prod.mk.injEq] at H
 obtain ⟨rfl, rfl, rfl, rfl⟩ := H
 go_enter Try.func23, Try.ntmps23
 go_wp2_with (first | ((with_reducible refine gate_callee (f := 57) rfl ?_); refine Ga (some 7) Try.func57 #[.slice A0 l0.length c0] (h := ?_); (with_reducible refine (spec_DrawCountEnds.calls _ _ l0 t449 t450 t451 t452 _ ?side1 ?side2 A2.out).mono ?_); (case side1 => repeat (first | exact HR0.out | (with_reducible refine Kd.C_alloc ?_ _) | (with_reducible refine Kd.C_drewN ?_ _) | (with_reducible refine Kd.C_drew ?_))); (case side2 => exact HC0.out); rintro e w3 ⟨rfl, hb⟩; refine ⟨_, rfl, ?_⟩; replace HB := Zh HB hb; (try clear hb); (try clear hb2); (try clear hk); (try clear hi)))
 refine bodyPost_ret (results_list (rs := [.tmp 2, .tmp 3, .tmp 4, .tmp 5]) rfl (by simp) (.tmp (.tmp (.tmp (.tmp .nil))))) rfl ?_
 exact ⟨by first | rfl | (simp [errW_none, errW_some] <;> rfl) | (simp [*, errW_none, errW_some] <;> rfl), Zl HB⟩

end Go.Proofs.Ytabobnlpcapohaa.Q
