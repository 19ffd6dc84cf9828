/- Each function below comes to the Lean function beside it (theorems '.calls'); no condition beyond each theorem's own. Written by our program oprint.py over the kit's print. -/
import Derived.Test.YtabobnlpcapohaaQm0
import Derived.Test.YtabobnlpcapohaaQm8
import Derived.Test.YtabobnlpcapohaaQm3
import Derived.Test.YtabobnlpcapohaaQm6
namespace Go.Proofs.Ytabobnlpcapohaa.Q
open Go.RowKit Go.Proofs.YtabobnlpcapohaaW.PrintWords Go.Proofs.YtabobnlpcapohaaW.PrintLast Go.Proofs.YtabobnlpcapohaaW.PrintMore
attribute [local go_sem] max2_int min2_int max_two min_two max_three min_three max_four min_four
set_option linter.unusedVariables false
set_option linter.unusedSimpArgs false

mutual
def spec_chOrders.l0 : Nat → Int → Int → List (List Int) → List Int → Option (List Int)
 | 0, _, _, _, _ => none
 | k + 1, x0, x1, x5, x6 => if x1 > 0 then (if 0 ≤ (x5.length : Int) then (if ((x5.length : Int) : Int).toNat ≤ 35184372088832 then (spec_chOrders.l1 k x0 x1 x5 (List.replicate ((x5.length : Int) : Int).toNat 0) x6 (x6.length : Int) 0) else (none)) else (none)) else (some x6)
def spec_chOrders.l1 : Nat → Int → Int → List (List Int) → List Int → List Int → Int → Int → Option (List Int)
 | 0, _, _, _, _, _, _, _ => none
 | k + 1, x0, x1, x5, x7, x25, x26, x27 => if x27 < x26 then (if 0 ≤ x27 then (if x27 < (x25.length : Int) then (if (rd x25 x27) = 0 then (spec_chOrders.l1 k x0 x1 x5 x7 x25 x26 (wrap64 (x27 + 1))) else (spec_chOrders.l2 k x0 x1 x5 x7 x27 (rd x25 x27) 0 x25 x26 x27)) else (none)) else (none)) else (spec_chOrders.l0 k x0 (wrap64 (x1 - 1)) x5 x7)
def spec_chOrders.l2 : Nat → Int → Int → List (List Int) → List Int → Int → Int → Int → List Int → Int → Int → Option (List Int)
 | 0, _, _, _, _, _, _, _, _, _, _ => none
 | k + 1, x0, x1, x5, x7, x8, x9, x10, x25, x26, x27 => if x10 < (wrap64 (x0 - 1)) then (if 0 ≤ x8 then (if x8 < (x5.length : Int) then ((spec_alSwap.f (rd_L2 x5 x8) x10).bind fun t279 => ((spec_alRank.f k t279).bind fun t282 => (if 0 ≤ t282 then (if t282 < (x7.length : Int) then (spec_chOrders.l2 k x0 x1 x5 (x7.set (t282 : Int).toNat (wrap64 ((rd x7 t282) + x9))) x8 x9 (wrap64 (x10 + 1)) x25 x26 x27) else (none)) else (none)))) else (none)) else (none)) else (spec_chOrders.l1 k x0 x1 x5 x7 x25 x26 (wrap64 (x27 + 1)))
end
def spec_chOrders.f (k : Nat) (a0 : Int) (a1 : Int) : Option (List Int) := (spec_alOrders.f k a0).bind fun t267 => (if 0 ≤ (t267.length : Int) then (if ((t267.length : Int) : Int).toNat ≤ 35184372088832 then ((some (List.replicate ((t267.length : Int) : Int).toNat 0 : List Int)).bind fun y270 => (if 0 < (y270.length : Int) then (spec_chOrders.l0 k a0 a1 t267 (y270.set (0 : Int).toNat 1)) else (none))) else (none)) else (none))
theorem spec_chOrders.mono_l : ∀ k, (∀ y0 y1 y2 y3, LeO (spec_chOrders.l0 k y0 y1 y2 y3) (spec_chOrders.l0 (k + 1) y0 y1 y2 y3)) ∧ (∀ y0 y1 y2 y3 y4 y5 y6, LeO (spec_chOrders.l1 k y0 y1 y2 y3 y4 y5 y6) (spec_chOrders.l1 (k + 1) y0 y1 y2 y3 y4 y5 y6)) ∧ (∀ y0 y1 y2 y3 y4 y5 y6 y7 y8 y9, LeO (spec_chOrders.l2 k y0 y1 y2 y3 y4 y5 y6 y7 y8 y9) (spec_chOrders.l2 (k + 1) y0 y1 y2 y3 y4 y5 y6 y7 y8 y9))
 | 0 => ⟨fun _ _ _ _ r h => by simp [spec_chOrders.l0] at h, fun _ _ _ _ _ _ _ r h => by simp [spec_chOrders.l1] at h, fun _ _ _ _ _ _ _ _ _ _ r h => by simp [spec_chOrders.l2] at h⟩
 | k + 1 => by
  obtain ⟨ih0, ih1, ih2⟩ := spec_chOrders.mono_l k
  refine ⟨?_, ?_, ?_⟩
  ·
   intro y0 y1 y2 y3
   unfold spec_chOrders.l0
   repeat' first
   | (with_reducible exact ih0 _ _ _ _)
   | (with_reducible exact ih1 _ _ _ _ _ _ _)
   | (with_reducible exact ih2 _ _ _ _ _ _ _ _ _ _)
   | (with_reducible exact spec_alOrders.mono _ _)
   | (with_reducible exact spec_alRank.mono _ _)
   | (with_reducible exact LeO.refl _)
   | (with_reducible exact LeO.none _)
   | (with_reducible refine LeO.ite ?_ ?_)
   | (with_reducible refine LeO.bind ?_ (fun _ => ?_))
   | exact ih0 _ _ _ _
   | exact ih1 _ _ _ _ _ _ _
   | exact ih2 _ _ _ _ _ _ _ _ _ _
   | exact spec_alOrders.mono _ _
   | exact spec_alRank.mono _ _
   | exact LeO.none _
   | refine LeO.ite ?_ ?_
   | refine LeO.bind ?_ (fun _ => ?_)
  ·
   intro y0 y1 y2 y3 y4 y5 y6
   unfold spec_chOrders.l1
   repeat' first
   | (with_reducible exact ih0 _ _ _ _)
   | (with_reducible exact ih1 _ _ _ _ _ _ _)
   | (with_reducible exact ih2 _ _ _ _ _ _ _ _ _ _)
   | (with_reducible exact spec_alOrders.mono _ _)
   | (with_reducible exact spec_alRank.mono _ _)
   | (with_reducible exact LeO.refl _)
   | (with_reducible exact LeO.none _)
   | (with_reducible refine LeO.ite ?_ ?_)
   | (with_reducible refine LeO.bind ?_ (fun _ => ?_))
   | exact ih0 _ _ _ _
   | exact ih1 _ _ _ _ _ _ _
   | exact ih2 _ _ _ _ _ _ _ _ _ _
   | exact spec_alOrders.mono _ _
   | exact spec_alRank.mono _ _
   | exact LeO.none _
   | refine LeO.ite ?_ ?_
   | refine LeO.bind ?_ (fun _ => ?_)
  ·
   intro y0 y1 y2 y3 y4 y5 y6 y7 y8 y9
   unfold spec_chOrders.l2
   repeat' first
   | (with_reducible exact ih0 _ _ _ _)
   | (with_reducible exact ih1 _ _ _ _ _ _ _)
   | (with_reducible exact ih2 _ _ _ _ _ _ _ _ _ _)
   | (with_reducible exact spec_alOrders.mono _ _)
   | (with_reducible exact spec_alRank.mono _ _)
   | (with_reducible exact LeO.refl _)
   | (with_reducible exact LeO.none _)
   | (with_reducible refine LeO.ite ?_ ?_)
   | (with_reducible refine LeO.bind ?_ (fun _ => ?_))
   | exact ih0 _ _ _ _
   | exact ih1 _ _ _ _ _ _ _
   | exact ih2 _ _ _ _ _ _ _ _ _ _
   | exact spec_alOrders.mono _ _
   | exact spec_alRank.mono _ _
   | exact LeO.none _
   | refine LeO.ite ?_ ?_
   | refine LeO.bind ?_ (fun _ => ?_)
theorem spec_chOrders.mono : ∀ a0 a1 k, LeO (spec_chOrders.f k a0 a1) (spec_chOrders.f (k + 1) a0 a1) := by
 intro a0 a1 k
 obtain ⟨ih0, ih1, ih2⟩ := spec_chOrders.mono_l k
 unfold spec_chOrders.f
 repeat' first
   | (with_reducible exact ih0 _ _ _ _)
   | (with_reducible exact ih1 _ _ _ _ _ _ _)
   | (with_reducible exact ih2 _ _ _ _ _ _ _ _ _ _)
   | (with_reducible exact spec_alOrders.mono _ _)
   | (with_reducible exact spec_alRank.mono _ _)
   | (with_reducible exact LeO.refl _)
   | (with_reducible exact LeO.none _)
   | (with_reducible refine LeO.ite ?_ ?_)
   | (with_reducible refine LeO.bind ?_ (fun _ => ?_))
   | exact ih0 _ _ _ _
   | exact ih1 _ _ _ _ _ _ _
   | exact ih2 _ _ _ _ _ _ _ _ _ _
   | exact spec_alOrders.mono _ _
   | exact spec_alRank.mono _ _
   | exact LeO.none _
   | refine LeO.ite ?_ ?_
   | refine LeO.bind ?_ (fun _ => ?_)
set_option maxHeartbeats 8000000 in
set_option maxRecDepth 100000 in
theorem spec_chOrders.calls (k : Nat) (a0 : Int) (a1 : Int) (r : List Int) (w : World) (h : spec_chOrders.f k a0 a1 = some r) :
  Calls Try.prog 40 #[.int .i64 a0, .int .i64 a1] w fun e w' => ∃ v0_ : Value, e = .returned (v0_) ∧ Kd.R (Kd.int .i64) 3 w' w.heap.size (fun _ => True) v0_ r ∧ Below w.heap.size w w' := by
 (have HB := Zm (Below.refl w.heap.size w); have H : ((spec_alOrders.f k a0).bind fun t267 => (if 0 ≤ (t267.length : Int) then (if ((t267.length : Int) : Int).toNat ≤ 35184372088832 then ((some (List.replicate ((t267.length : Int) : Int).toNat 0 : List Int)).bind fun y270 => (if 0 < (y270.length : Int) then (spec_chOrders.l0 k a0 a1 t267 (y270.set (0 : Int).toNat 1)) else (none))) else (none)) else (none))) = some r := h; clear h); replace H := Option.bind_eq_some_iff.mp H; obtain ⟨t267, A30, H⟩ := H; (try dsimp only at H); have A3 := Aside0.mk A30; clear A30
 by_cases c4 : 0 ≤ (t267.length : Int)
 ·
  rw [if_pos c4] at H; have c4b0 := eq_true c4; have c4b1 : decide (0 ≤ (t267.length : Int)) = true := decide_eq_true c4; clear c4
  by_cases c5 : ((t267.length : Int) : Int).toNat ≤ 35184372088832
  ·
   rw [if_pos c5] at H; have c5b0 := eq_true c5; have c5b1 : decide (((t267.length : Int) : Int).toNat ≤ 35184372088832) = true := decide_eq_true c5; clear c5; obtain ⟨y270, hy270⟩ : ∃ y_ : List Int, y_ = (List.replicate ((t267.length : Int) : Int).toNat 0) := ⟨_, rfl⟩; (replace H : (if 0 < (y270.length : Int) then (spec_chOrders.l0 k a0 a1 t267 (y270.set (0 : Int).toNat 1)) else (none)) = some r := by first | (rw [hy270]; with_reducible exact H) | (have H2_ := (Option.bind_some _ _).symm.trans H; rw [hy270]; with_reducible exact H2_) | (have H2_ := (Option.bind_some _ _).symm.trans H; with_reducible exact H2_) | with_reducible exact H | (rw [hy270]; exact H) | exact H)
   have Ny270 := Aside0.mk hy270; clear hy270
   by_cases c6 : 0 < (y270.length : Int)
   ·
    rw [if_pos c6] at H; have c6b0 : decide (0 < (y270.length : Int)) = true := decide_eq_true c6; have c6b1 : decide (0 < y270.length) = true := decide_eq_true (by omega); clear c6; obtain ⟨y273, hy273⟩ : ∃ y_ : List Int, y_ = (y270.set (0 : Int).toNat 1) := ⟨_, rfl⟩; (replace H : (spec_chOrders.l0 k a0 a1 t267 y273) = some r := by first | (rw [hy273]; with_reducible exact H) | (have H2_ := (Option.bind_some _ _).symm.trans H; rw [hy273]; with_reducible exact H2_) | (have H2_ := (Option.bind_some _ _).symm.trans H; with_reducible exact H2_) | with_reducible exact H | (rw [hy273]; exact H) | exact H)
    have Ny273 := Aside0.mk hy273; clear hy273; have H' := Aside0.mk H; clear H
    go_enter Try.func40, Try.ntmps40
    go_wp2_with (first | ((with_reducible refine gate_callee (f := 55) rfl ?_); refine Ga (some 12) Try.func55 #[.int .i64 a0] (h := ?_); (with_reducible refine (spec_alOrders.calls k a0 t267 _ A3.out).mono ?_); rintro e w8 ⟨v268, rfl, ho0, hb⟩; refine ⟨_, rfl, ?_⟩; have HO269 := Zm (Kd.S_lower ho0 (below_size (Zl HB))); replace HB := Zh HB hb; (try clear hb); (try clear ho0); obtain ⟨Ao9, co9, eo9⟩ := Kd.S_slice HO269.out; subst eo9) | ((with_reducible refine gate_dst (N := 15) rfl ?_); refine Kd.R_make (Kd.int .i64) _ 3 rfl (N := 15) rfl 24 _ _ rfl (t267.length : Int) rfl rfl Try.underlying24 (.int .i64 0) 8 info3 rfl (by decide) (by omega) 0 (ok := fun _ => True) (okp := fun _ => True) rfl (fun _ hk => hk) trivial (of_decide_eq_true (by first | (with_reducible assumption) | assumption)) (Nat.le_trans (Nat.mul_le_mul_right _ (of_decide_eq_true (by first | (with_reducible assumption) | assumption) : (t267.length : Int).toNat ≤ 35184372088832)) (by omega)) (Below.refl _ _) (Nat.le_refl _) ?_; intro v271 w10 ho11 hb hg_ hnew_; clear hg_ hnew_; (first | rw [← Ny270.out] at ho11 | (simp only [Int.reduceToNat] at ho11; rw [← Ny270.out] at ho11)); replace HO269 := Zm (Kd.S_elder' (by (with_reducible repeat (first | apply Kd.S_alloc | apply Kd.S_drewN | apply Kd.S_drew)); exact HO269.out) (Kd.R_base ho11) hb); have HO272 := Zj ho11 HB; replace HB := Zh HB hb; clear hb ho11; have p7 : 0 ≤ (0 : Int) := (by omega); have q7 : (0 : Int) < ((y270.length : Int) : Int) := of_decide_eq_true (by first | (with_reducible assumption) | assumption); have qi7 : (0 < y270.length) = True := eq_true (by omega); obtain ⟨go7, co7, eo7, gb7, gl7, cl7, HG7⟩ := Kd.R_form HO272.out (by omega); (first | cases eo7 | (injection eo7 with ea_ en_ ec_; (first | subst ea_ | (injection ea_ with ea_; subst ea_)); subst ec_; clear en_)); have GB7 := Aside0.mk gb7; have GG7 := Aside0.mk HG7; clear gb7 gl7 HG7; obtain ⟨hx7_0, hf7_0⟩ := Kd.R_celln 0 HO272.out (0 : Int) p7 q7; (try rw [show ((0 : Int)).toNat = 0 from rfl] at hx7_0); (try simp only [Nat.reduceMul, Nat.zero_mul, Nat.zero_add, Nat.reduceAdd] at hx7_0); (try rw [show ((0 : Int)).toNat = 0 from rfl] at hf7_0); (try simp only [Nat.reduceMul, Nat.zero_mul, Nat.zero_add, Nat.reduceAdd] at hf7_0); replace p7 := eq_true p7; replace q7 := eq_true q7; obtain ⟨hy12_, hz12_⟩ := Kd.R_celln 0 HO272.out (0 : Int) (by omega) (of_decide_eq_true (by first | (with_reducible assumption) | assumption)); (try simp only [Int.reduceToNat, Int.toNat_zero, Int.toNat_ofNat, Nat.reduceMul, Nat.zero_mul, Nat.zero_add] at hy12_ hz12_); (try rw [show ((0 : Int)).toNat = 0 from rfl] at hy12_); (try rw [show ((0 : Int)).toNat = 0 from rfl] at hz12_); have HP12 := Kd.R_putg HO272.out (0 : Int) 1) | ((with_reducible refine gate_store (t := 3) (p := 17) rfl ?_); refine store_event (t := 3) (p := 17) (v := ?vo_w13) (w1 := (w10.setCell ⟨go7, (0 : Int).toNat, none⟩ (.int .i64 1))) ?hg ?ho ?hn ?hr ?_; (case ho => rfl); (case hg => rfl); (case hn => rfl); (case hr => first | (go_simp; done) | (go_simp; rfl)); intro w13 hw; have hg : w10.grownBy w13 (some go7) := (by rw [hw]; exact HP12.2); have hp_ : Kd.R (Kd.int .i64) 3 w13 w.heap.size (fun _ => True) (.slice (some ⟨go7, 0, none⟩) y270.length co7) y273 := (by rw [hw, Ny273.out]; first | exact HP12.1 | exact Kd.R_mono HP12.1 (fun _ hk_ => by first | exact ⟨hk_.2, hk_.1⟩ | (simp [hk_]; done) | (simp_all; done))); clear HP12; replace HO269 := Zm (Kd.S_after (v := (.slice (some ⟨go7, 0, none⟩) y270.length co7)) (v1 := (.slice (some ⟨go7, 0, none⟩) y270.length co7)) (ok := (fun _ => True)) (by (with_reducible repeat (first | apply Kd.S_alloc | apply Kd.S_drewN | apply Kd.S_drew)); exact HO269.out) hg (.inl rfl)); replace HO272 := Zm (hp_); replace HB := Zm ((by rw [hw]; exact below_set (HB.out) GB7.out : Below w.heap.size w w13)); clear hg hw hp_))
    go_loopg [1, 6] k (fun kq v1 v6 w' => ∃ (x1_1 : Int) (x6_1 : List Int), v1 = .int .i64 x1_1 ∧ Aside0 (spec_chOrders.l0 kq a0 x1_1 t267 x6_1 = some r) ∧ Aside0 (kq ≤ k) ∧ Aside0 (Kd.S (Kd.slice 3 (Kd.int .i64)) 24 w' w.heap.size (fun k_ => Zn k_ v6) (.slice Ao9 t267.length co9) t267) ∧ Aside0 (Kd.R (Kd.int .i64) 3 w' w.heap.size (fun _ => True) v6 x6_1) ∧ Aside0 (Below w.heap.size w w'))
    case atStart => exact ⟨(a1), (y273), (by first | rfl | (simp; done) | (simp [*]; done)), H', ⟨Nat.le_refl _⟩, ⟨by (with_reducible repeat (first | apply Kd.S_alloc | apply Kd.S_drewN | apply Kd.S_drew)); exact Kd.S_mono HO269.out (fun _ hk => by first | exact hk.2 | (simp [hk]; done) | (simp_all; done))⟩, ⟨Zr HO272⟩, ⟨Zl HB⟩⟩
    case round =>
     (clear H'; (try clear p2); (try clear c4); (try clear c4b0); (try clear c4b1); (try clear c5); (try clear c5b0); (try clear c5b1); (try clear c6); (try clear c6b0); (try clear c6b1); (try clear p7); (try clear q7); (try clear hx7); (try clear qi7); (try clear hf7); (try clear hx7_0); (try clear p7); (try clear q7)); obtain ⟨x1_1, x6_1, rfl, HA, HK1, HO_5, HO_6, HB⟩ := hrel
     cases gk with
     | zero => exact absurd HA.out (by simp [spec_chOrders.l0])
     | succ k1 =>
      have H := HA.out; clear HA
      simp only [spec_chOrders.l0] at H
      by_cases c14 : x1_1 > 0
      ·
       rw [if_pos c14] at H; have c14b0 : decide (0 < x1_1) = true := decide_eq_true c14; clear c14
       by_cases c15 : 0 ≤ (t267.length : Int)
       ·
        rw [if_pos c15] at H; have c15b0 := eq_true c15; have c15b1 : decide (0 ≤ (t267.length : Int)) = true := decide_eq_true c15; clear c15
        by_cases c16 : ((t267.length : Int) : Int).toNat ≤ 35184372088832
        ·
         rw [if_pos c16] at H; have c16b0 := eq_true c16; have c16b1 : decide (((t267.length : Int) : Int).toNat ≤ 35184372088832) = true := decide_eq_true c16; clear c16; obtain ⟨y274, hy274⟩ : ∃ y_ : List Int, y_ = (List.replicate ((t267.length : Int) : Int).toNat 0) := ⟨_, rfl⟩; (replace H : (spec_chOrders.l1 k1 a0 x1_1 t267 y274 x6_1 (x6_1.length : Int) 0) = some r := by first | (rw [hy274]; with_reducible exact H) | (have H2_ := (Option.bind_some _ _).symm.trans H; rw [hy274]; with_reducible exact H2_) | (have H2_ := (Option.bind_some _ _).symm.trans H; with_reducible exact H2_) | with_reducible exact H | (rw [hy274]; exact H) | exact H)
         have Ny274 := Aside0.mk hy274; clear hy274; have H' := Aside0.mk H; clear H
         go_wp2_with (first | ((with_reducible refine gate_dst (N := 24) rfl ?_); refine Kd.R_make (Kd.int .i64) _ 3 rfl (N := 24) rfl 24 _ _ rfl (t267.length : Int) rfl rfl Try.underlying24 (.int .i64 0) 8 info3 rfl (by decide) (by omega) 0 (ok := fun _ => True) (okp := fun _ => True) rfl (fun _ hk => hk) trivial (of_decide_eq_true (by first | (with_reducible assumption) | assumption)) (Nat.le_trans (Nat.mul_le_mul_right _ (of_decide_eq_true (by first | (with_reducible assumption) | assumption) : (t267.length : Int).toNat ≤ 35184372088832)) (by omega)) (Below.refl _ _) (Nat.le_refl _) ?_; intro v275 w17 ho18 hb hg_ hnew_; clear hg_ hnew_; (first | rw [← Ny274.out] at ho18 | (simp only [Int.reduceToNat] at ho18; rw [← Ny274.out] at ho18)); replace HO_5 := Zm (Kd.S_elder' (by (with_reducible repeat (first | apply Kd.S_alloc | apply Kd.S_drewN | apply Kd.S_drew)); exact HO_5.out) (Kd.R_base ho18) hb); have HO276 := Zj (Zv ho18 HO_6) HB; replace HO_6 := Zm (Kd.R_elder' (Zr HO_6) (Kd.R_base ho18) hb); replace HB := Zh HB hb; clear hb ho18; obtain ⟨Ao19, co19, eo19⟩ := Kd.R_slice HO_6.out; subst eo19))
         go_loopg [27] k1 (fun kq v27 w' => ∃ (x7_2 : List Int) (x27_2 : Int), v27 = .int .i64 x27_2 ∧ Aside0 (spec_chOrders.l1 kq a0 x1_1 t267 x7_2 x6_1 (x6_1.length : Int) x27_2 = some r) ∧ Aside0 (kq ≤ k1) ∧ Aside0 (Kd.S (Kd.slice 3 (Kd.int .i64)) 24 w' w.heap.size (fun k_ => Zn k_ v275 ∧ Zn k_ (.slice Ao19 x6_1.length co19)) (.slice Ao9 t267.length co9) t267) ∧ Aside0 (Kd.R (Kd.int .i64) 3 w' w.heap.size (fun k_ => Zn k_ (.slice Ao19 x6_1.length co19)) v275 x7_2) ∧ Aside0 (Kd.R (Kd.int .i64) 3 w' w.heap.size (fun k_ => Zn k_ v275) (.slice Ao19 x6_1.length co19) x6_1) ∧ Aside0 (Below w.heap.size w w'))
         case atStart => exact ⟨(y274), (0), (by first | rfl | (simp; done) | (simp [*]; done)), H', ⟨Nat.le_refl _⟩, ⟨by (with_reducible repeat (first | apply Kd.S_alloc | apply Kd.S_drewN | apply Kd.S_drew)); exact Kd.S_mono HO_5.out (fun _ hk => by first | exact ⟨hk.2, hk.1⟩ | (simp [hk]; done) | (simp_all; done))⟩, ⟨Zc HO276⟩, ⟨Zc HO_6⟩, ⟨Zl HB⟩⟩
         case round =>
          (clear H'; (try clear c1); (try clear p2); (try clear c4); (try clear c4b0); (try clear c4b1); (try clear c5); (try clear c5b0); (try clear c5b1); (try clear c6); (try clear c6b0); (try clear c6b1); (try clear p7); (try clear q7); (try clear hx7); (try clear qi7); (try clear hf7); (try clear c14); (try clear c14b0); (try clear c15); (try clear c15b0); (try clear c15b1); (try clear c16); (try clear c16b0); (try clear c16b1); (try clear hx7_0); (try clear p2); (try clear p7); (try clear q7)); obtain ⟨x7_2, x27_2, rfl, HA, HK2, HO_5, HO_7, HO_25, HB⟩ := hrel
          cases gk with
          | zero => exact absurd HA.out (by simp [spec_chOrders.l1])
          | succ k2 =>
           have H := HA.out; clear HA
           simp only [spec_chOrders.l1] at H
           by_cases c20 : x27_2 < (x6_1.length : Int)
           ·
            rw [if_pos c20] at H; have c20b0 : decide (x27_2 < (x6_1.length : Int)) = true := decide_eq_true c20; clear c20
            by_cases c21 : 0 ≤ x27_2
            ·
             rw [if_pos c21] at H; have c21b0 : decide (0 ≤ x27_2) = true := decide_eq_true c21; clear c21
             by_cases c22 : x27_2 < (x6_1.length : Int)
             ·
              rw [if_pos c22] at H; have c22b0 : decide (x27_2 < (x6_1.length : Int)) = true := decide_eq_true c22; clear c22
              by_cases c23 : (rd x6_1 x27_2) = 0
              ·
               rw [if_pos c23] at H; have c23b0 : ((rd x6_1 x27_2) == 0) = true := beq_iff_eq.mpr c23; have c23b1 : ((rd x6_1 x27_2) != 0) = false := bne_eq_false_iff_eq.mpr c23; clear c23; have H' := Aside0.mk H; clear H; have p277 : 0 ≤ (x27_2 : Int) := of_decide_eq_true (by first | (with_reducible assumption) | assumption); have q277 : x27_2 < (x6_1.length : Int) := of_decide_eq_true (by first | (with_reducible assumption) | assumption); obtain ⟨ad277, e277, hx277_0⟩ := Kd.at_int (Kd.R_reads' HO_25.out).2.2 x27_2 p277 q277
               cases e277
               replace p277 := eq_true p277
               replace q277 := eq_true q277
               go_wp2
               go_roundg k2
               case measure => have := HK1.out; have := HK2.out; omega
               case rel => exact ⟨(x7_2), (wrap64 (x27_2 + 1)), (by first | rfl | (simp; done) | (simp [*]; done)), H', ⟨by have := HK1.out; have := HK2.out; omega⟩, ⟨by (with_reducible repeat (first | apply Kd.S_alloc | apply Kd.S_drewN | apply Kd.S_drew)); exact HO_5.out⟩, ⟨Zr HO_7⟩, ⟨Zr HO_25⟩, ⟨Zl HB⟩⟩
              ·
               rw [if_neg c23] at H; have c23b0 : ((rd x6_1 x27_2) == 0) = false := beq_eq_false_iff_ne.mpr c23; have c23b1 : ((rd x6_1 x27_2) != 0) = true := bne_iff_ne.mpr c23; have H' := Aside0.mk H; clear H; have p277 : 0 ≤ (x27_2 : Int) := of_decide_eq_true (by first | (with_reducible assumption) | assumption); have q277 : x27_2 < (x6_1.length : Int) := of_decide_eq_true (by first | (with_reducible assumption) | assumption); obtain ⟨ad277, e277, hx277_0⟩ := Kd.at_int (Kd.R_reads' HO_25.out).2.2 x27_2 p277 q277
               cases e277
               replace p277 := eq_true p277
               replace q277 := eq_true q277
               go_wp2
               go_loopg [10] k2 (fun kq v10 w' => ∃ (x7_3 : List Int) (x10_3 : Int), v10 = .int .i64 x10_3 ∧ Aside0 (spec_chOrders.l2 kq a0 x1_1 t267 x7_3 x27_2 (rd x6_1 x27_2) x10_3 x6_1 (x6_1.length : Int) x27_2 = some r) ∧ Aside0 (kq ≤ k2) ∧ Aside0 (Kd.S (Kd.slice 3 (Kd.int .i64)) 24 w' w.heap.size (fun k_ => Zn k_ v275 ∧ some k_ ≠ ((.slice (some ad277) x6_1.length co19) : Value).ownBlock) (.slice Ao9 t267.length co9) t267) ∧ Aside0 (Kd.R (Kd.int .i64) 3 w' w.heap.size (fun k_ => some k_ ≠ ((.slice (some ad277) x6_1.length co19) : Value).ownBlock) v275 x7_3) ∧ Aside0 (Kd.R (Kd.int .i64) 3 w' w.heap.size (fun k_ => Zn k_ v275) (.slice (some ad277) x6_1.length co19) x6_1) ∧ Aside0 (Below w.heap.size w w'))
               case atStart => exact ⟨(x7_2), (0), (by first | rfl | (simp; done) | (simp [*]; done)), H', ⟨Nat.le_refl _⟩, ⟨by (with_reducible repeat (first | apply Kd.S_alloc | apply Kd.S_drewN | apply Kd.S_drew)); exact HO_5.out⟩, ⟨Zr HO_7⟩, ⟨Zr HO_25⟩, ⟨Zl HB⟩⟩
               case round =>
                (clear H'; (try clear c1); (try clear c2); (try clear p2); (try clear q2); (try clear hx2); (try clear c4); (try clear c4b0); (try clear c4b1); (try clear c5); (try clear c5b0); (try clear c5b1); (try clear c6); (try clear c6b0); (try clear c6b1); (try clear p6); (try clear p7); (try clear q7); (try clear hx7); (try clear qi7); (try clear hf7); (try clear c14); (try clear c14b0); (try clear c15); (try clear c15b0); (try clear c15b1); (try clear c16); (try clear c16b0); (try clear c16b1); (try clear c20); (try clear c20b0); (try clear c21); (try clear c21b0); (try clear c22); (try clear c22b0); (try clear c23); (try clear c23b0); (try clear c23b1); (try clear hx277_0); (try clear hx7_0); (try clear p2); (try clear p277); (try clear p7); (try clear q277); (try clear q7)); obtain ⟨x7_3, x10_3, rfl, HA, HK3, HO_5, HO_7, HO_25, HB⟩ := hrel
                cases gk with
                | zero => exact absurd HA.out (by simp [spec_chOrders.l2])
                | succ k3 =>
                 have H := HA.out; clear HA
                 simp only [spec_chOrders.l2] at H
                 by_cases c24 : x10_3 < (wrap64 (a0 - 1))
                 ·
                  rw [if_pos c24] at H; have c24b0 : decide (x10_3 < (wrap64 (a0 - 1))) = true := decide_eq_true c24; clear c24
                  by_cases c25 : 0 ≤ x27_2
                  ·
                   rw [if_pos c25] at H; have c25b0 : decide (0 ≤ x27_2) = true := decide_eq_true c25; clear c25
                   by_cases c26 : x27_2 < (t267.length : Int)
                   ·
                    rw [if_pos c26] at H; have c26b0 : decide (x27_2 < (t267.length : Int)) = true := decide_eq_true c26; clear c26; replace H := Option.bind_eq_some_iff.mp H; obtain ⟨t279, A270, H⟩ := H; (try dsimp only at H); have A27 := Aside0.mk A270; clear A270; replace H := Option.bind_eq_some_iff.mp H; obtain ⟨t282, A280, H⟩ := H; (try dsimp only at H); have A28 := Aside0.mk A280; clear A280
                    by_cases c29 : 0 ≤ t282
                    ·
                     rw [if_pos c29] at H; have c29b0 : decide (0 ≤ t282) = true := decide_eq_true c29; clear c29
                     by_cases c30 : t282 < (x7_3.length : Int)
                     ·
                      rw [if_pos c30] at H; have c30b0 : decide (t282 < (x7_3.length : Int)) = true := decide_eq_true c30; clear c30; obtain ⟨y284, hy284⟩ : ∃ y_ : List Int, y_ = (x7_3.set (t282 : Int).toNat (wrap64 ((rd x7_3 t282) + (rd x6_1 x27_2)))) := ⟨_, rfl⟩; (replace H : (spec_chOrders.l2 k3 a0 x1_1 t267 y284 x27_2 (rd x6_1 x27_2) (wrap64 (x10_3 + 1)) x6_1 (x6_1.length : Int) x27_2) = some r := by first | (rw [hy284]; with_reducible exact H) | (have H2_ := (Option.bind_some _ _).symm.trans H; rw [hy284]; with_reducible exact H2_) | (have H2_ := (Option.bind_some _ _).symm.trans H; with_reducible exact H2_) | with_reducible exact H | (rw [hy284]; exact H) | exact H)
                      have Ny284 := Aside0.mk hy284; clear hy284; have H' := Aside0.mk H; clear H; have p278 : 0 ≤ (x27_2 : Int) := of_decide_eq_true (by first | (with_reducible assumption) | assumption); have q278 : x27_2 < (t267.length : Int) := of_decide_eq_true (by first | (with_reducible assumption) | assumption)
                      obtain ⟨ad278, A278_0, c278_0, e278, hx278_0, hl278_0, hi278_0⟩ := at_L2 (Kd.S_reads' HO_5.out).2.2 x27_2 p278 q278
                      cases e278
                      obtain ⟨ce278, hce278, hMe278, hcc278⟩ := Kd.S_get HO_5.out [] x27_2 p278 (by first | exact q278 | exact of_decide_eq_true (by first | (with_reducible assumption) | assumption) | (have e_ := (Kd.S_reads' HO_5.out).1; omega)); obtain ⟨ve278_0, rfl, ge278_0⟩ := hMe278
                      have hv278_0 := hcc278 0 _ rfl
                      rw [Nat.add_zero, show ((Kd.slice 3 (Kd.int .i64))).sz = 1 from rfl, Nat.mul_one] at hv278_0
                      replace hv278_0 := Option.some.inj (hv278_0.symm.trans hx278_0)
                      rw [hv278_0] at ge278_0
                      have HL278_0 := Zm (show Kd.R (Kd.int .i64) 3 _ _ _ _ (rd_L2 t267 x27_2) from ge278_0); clear hv278_0 ge278_0 hcc278 hce278; have HR278_0 := Aside0.mk hi278_0; have HC278_0 := Aside0.mk hl278_0; clear hi278_0 hl278_0
                      replace p278 := eq_true p278
                      replace q278 := eq_true q278
                      go_wp2_with (first | ((with_reducible refine gate_callee (f := 67) rfl ?_); refine Ga (some 46) Try.func67 #[.slice A278_0 (rd_L2 t267 x27_2).length c278_0, .int .i64 x10_3] (h := ?_); (with_reducible refine (spec_alSwap.calls _ _ (rd_L2 t267 x27_2) x10_3 t279 _ ?side1 ?side2 A27.out).mono ?_); (case side1 => repeat (first | exact (by repeat (first | (with_reducible exact HR278_0.out) | (with_reducible refine Kd.C_alloc ?_ _) | (with_reducible refine Kd.C_drewN ?_ _) | (with_reducible refine Kd.C_drew ?_) | exact HR278_0.out)) | (with_reducible refine Kd.C_alloc ?_ _) | (with_reducible refine Kd.C_drewN ?_ _) | (with_reducible refine Kd.C_drew ?_))); (case side2 => exact HC278_0.out); rintro e w32 ⟨v280, rfl, ho0, hb⟩; refine ⟨_, rfl, ?_⟩; replace HO_5 := Zm (Kd.S_elder' (by (with_reducible repeat (first | apply Kd.S_alloc | apply Kd.S_drewN | apply Kd.S_drew)); exact HO_5.out) (Kd.R_base ho0) hb); have HO281 := Zj (Zv (Zv (Zv ho0 HO_7) HO_25) HL278_0) HB; replace HO_7 := Zm (Kd.R_elder' (Zr HO_7) (Kd.R_base ho0) hb); replace HO_25 := Zm (Kd.R_elder' (Zr HO_25) (Kd.R_base ho0) hb); replace HL278_0 := Zm (Kd.R_elder' (Zr HL278_0) (Kd.R_base ho0) hb); replace HR278_0 := Zm (Kd.C_below (by repeat (first | (with_reducible exact HR278_0.out) | (with_reducible refine Kd.C_alloc ?_ _) | (with_reducible refine Kd.C_drewN ?_ _) | (with_reducible refine Kd.C_drew ?_) | exact HR278_0.out)) hb); replace HB := Zh HB hb; (try clear hb); (try clear ho0); obtain ⟨Ao33, co33, eo33⟩ := Kd.R_slice HO281.out; subst eo33) | ((with_reducible refine gate_callee (f := 41) rfl ?_); refine Ga (some 47) Try.func41 #[.slice Ao33 t279.length co33] (h := ?_); (with_reducible refine (spec_alRank.calls k3 _ _ t279 t282 _ ?side1 ?side2 A28.out).mono ?_); (case side1 => repeat (first | exact (Kd.R_reads' HO281.out).2.2 | (with_reducible refine Kd.C_alloc ?_ _) | (with_reducible refine Kd.C_drewN ?_ _) | (with_reducible refine Kd.C_drew ?_))); (case side2 => exact (Kd.R_reads' HO281.out).2.1); rintro e w' ⟨rfl, ⟨nd, rfl⟩⟩; refine ⟨_, rfl, ?_⟩; (try (rw [drewN_self w32]; generalize hq_ : World.drewN w32 _ = w32; replace HL278_0 : Aside0 (Kd.R (Kd.int .i64) 3 w32 w.heap.size (fun k_ => Zn k_ (.slice Ao33 t279.length co33) ∧ some k_ ≠ (.slice (some ad277) x6_1.length co19 : Value).ownBlock ∧ some k_ ≠ (.slice (some ad278) t267.length co9 : Value).ownBlock ∧ Zn k_ v275) (.slice A278_0 (rd_L2 t267 x27_2).length c278_0) (rd_L2 t267 x27_2)) := ⟨by rw [← hq_]; exact (Zc HL278_0)⟩; replace HO281 : Aside0 (Kd.R (Kd.int .i64) 3 w32 w.heap.size (fun k_ => some k_ ≠ (.slice A278_0 (rd_L2 t267 x27_2).length c278_0 : Value).ownBlock ∧ some k_ ≠ (.slice (some ad277) x6_1.length co19 : Value).ownBlock ∧ Zn k_ v275) (.slice Ao33 t279.length co33) t279) := ⟨by rw [← hq_]; exact (Zc HO281)⟩; replace HO_25 : Aside0 (Kd.R (Kd.int .i64) 3 w32 w.heap.size (fun k_ => Zn k_ (.slice Ao33 t279.length co33) ∧ Zn k_ v275) (.slice (some ad277) x6_1.length co19) x6_1) := ⟨by rw [← hq_]; exact (Zc HO_25)⟩; replace HO_5 : Aside0 (Kd.S (Kd.slice 3 (Kd.int .i64)) 24 w32 w.heap.size (fun k_ => Zn k_ (.slice Ao33 t279.length co33) ∧ some k_ ≠ (.slice (some ad277) x6_1.length co19 : Value).ownBlock ∧ Zn k_ v275) (.slice (some ad278) t267.length co9) t267) := ⟨by rw [← hq_]; exact (by (with_reducible repeat (first | apply Kd.S_alloc | apply Kd.S_drewN | apply Kd.S_drew)); exact Kd.S_mono HO_5.out (fun _ hk => by first | exact ⟨hk.2, ⟨hk.1.2, hk.1.1⟩⟩ | (simp [hk]; done) | (simp_all; done)))⟩; replace HO_7 : Aside0 (Kd.R (Kd.int .i64) 3 w32 w.heap.size (fun k_ => Zn k_ (.slice Ao33 t279.length co33) ∧ some k_ ≠ (.slice (some ad277) x6_1.length co19 : Value).ownBlock) v275 x7_3) := ⟨by rw [← hq_]; exact (Zc HO_7)⟩; replace HB : Aside0 (Below w.heap.size w w32) := ⟨by rw [← hq_]; exact (Zl HB)⟩; replace HR278_0 : Aside0 (Kd.C (Kd.int .i64) w32 A278_0 (rd_L2 t267 x27_2).length (rd_L2 t267 x27_2)) := ⟨by rw [← hq_]; exact (by repeat (first | (with_reducible exact HR278_0.out) | (with_reducible refine Kd.C_alloc ?_ _) | (with_reducible refine Kd.C_drewN ?_ _) | (with_reducible refine Kd.C_drew ?_) | exact HR278_0.out))⟩; clear hq_)); obtain ⟨Ao34, co34, eo34⟩ := Kd.R_slice HO_7.out; subst eo34; have p283 : 0 ≤ (t282 : Int) := of_decide_eq_true (by first | (with_reducible assumption) | assumption); have q283 : t282 < (x7_3.length : Int) := of_decide_eq_true (by first | (with_reducible assumption) | assumption); obtain ⟨ad283, e283, hx283_0⟩ := Kd.at_int (Kd.R_reads' HO_7.out).2.2 t282 p283 q283; cases e283; replace p283 := eq_true p283; replace q283 := eq_true q283; have p31 : 0 ≤ (t282 : Int) := of_decide_eq_true (by first | (with_reducible assumption) | assumption); have q31 : (t282 : Int) < ((x7_3.length : Int) : Int) := of_decide_eq_true (by first | (with_reducible assumption) | assumption); obtain ⟨go31, co31, eo31, gb31, gl31, cl31, HG31⟩ := Kd.R_form HO_7.out (by omega); (first | cases eo31 | (injection eo31 with ea_ en_ ec_; (first | subst ea_ | (injection ea_ with ea_; subst ea_)); subst ec_; clear en_)); have GB31 := Aside0.mk gb31; have GG31 := Aside0.mk HG31; clear gb31 gl31 HG31; (first | simp only [add_plain] at hx283_0 | skip); obtain ⟨hx31_0, hf31_0⟩ := Kd.R_celln 0 HO_7.out (t282 : Int) p31 q31; replace p31 := eq_true p31; replace q31 := eq_true q31; obtain ⟨hy35_, hz35_⟩ := Kd.R_celln 0 HO_7.out (t282 : Int) (of_decide_eq_true (by first | (with_reducible assumption) | assumption)) (of_decide_eq_true (by first | (with_reducible assumption) | assumption)); have HP35 := Kd.R_putg HO_7.out (t282 : Int) (wrap64 ((rd x7_3 t282) + (rd x6_1 x27_2)))) | ((with_reducible refine gate_store (t := 3) (p := 52) rfl ?_); refine store_event (t := 3) (p := 52) (v := ?vo_w36) (w1 := (w32.setCell ⟨go31, (t282 : Int).toNat, none⟩ (.int .i64 (wrap64 ((rd x7_3 t282) + (rd x6_1 x27_2)))))) ?hg ?ho ?hn ?hr ?_; (case ho => rfl); (case hg => rfl); (case hn => rfl); (case hr => first | (go_simp; done) | (go_simp; rfl)); intro w36 hw; have hg : w32.grownBy w36 (some go31) := (by rw [hw]; exact HP35.2); have hp_ : Kd.R (Kd.int .i64) 3 w36 w.heap.size (fun k_ => some k_ ≠ (.slice (some ad277) x6_1.length co19 : Value).ownBlock ∧ Zn k_ (.slice Ao33 t279.length co33)) (.slice (some ⟨go31, 0, none⟩) x7_3.length co34) y284 := (by rw [hw, Ny284.out]; first | exact HP35.1 | exact Kd.R_mono HP35.1 (fun _ hk_ => by first | exact ⟨hk_.2, hk_.1⟩ | (simp [hk_]; done) | (simp_all; done))); clear HP35; replace HO_5 := Zm (Kd.S_after (v := (.slice (some ⟨go31, 0, none⟩) x7_3.length co34)) (v1 := (.slice (some ⟨go31, 0, none⟩) x7_3.length co34)) (ok := (fun k_ => some k_ ≠ (.slice (some ad277) x6_1.length co19 : Value).ownBlock ∧ Zn k_ (.slice Ao33 t279.length co33))) (by (with_reducible repeat (first | apply Kd.S_alloc | apply Kd.S_drewN | apply Kd.S_drew)); exact Kd.S_mono HO_5.out (fun _ hk => by first | exact ⟨⟨hk.1.2, hk.2⟩, hk.1.1⟩ | (simp [hk]; done) | (simp_all; done))) hg (.inl rfl)); replace HO_7 := Zm (hp_); replace HO_25 := Zm (Kd.R_after (v := (.slice (some ⟨go31, 0, none⟩) x7_3.length co34)) (v1 := (.slice (some ⟨go31, 0, none⟩) x7_3.length co34)) (ok := (fun k_ => Zn k_ (.slice Ao33 t279.length co33))) (Zc HO_25) hg (.inl rfl)); replace HL278_0 := Zm (Kd.R_after (v := (.slice (some ⟨go31, 0, none⟩) x7_3.length co34)) (v1 := (.slice (some ⟨go31, 0, none⟩) x7_3.length co34)) (ok := (fun k_ => some k_ ≠ (.slice (some ad278) t267.length co9 : Value).ownBlock ∧ some k_ ≠ (.slice (some ad277) x6_1.length co19 : Value).ownBlock ∧ Zn k_ (.slice Ao33 t279.length co33))) (Zc HL278_0) hg (.inl rfl)); replace HO281 := Zm (Kd.R_after (v := (.slice (some ⟨go31, 0, none⟩) x7_3.length co34)) (v1 := (.slice (some ⟨go31, 0, none⟩) x7_3.length co34)) (ok := (fun k_ => some k_ ≠ (.slice (some ad277) x6_1.length co19 : Value).ownBlock ∧ some k_ ≠ (.slice A278_0 (rd_L2 t267 x27_2).length c278_0 : Value).ownBlock)) (Zc HO281) hg (.inl rfl)); replace HB := Zm ((by rw [hw]; exact below_set (HB.out) GB31.out : Below w.heap.size w w36)); clear hg hw hp_))
                      go_roundg k3
                      case measure => have := HK1.out; have := HK2.out; have := HK3.out; omega
                      case rel => exact ⟨(y284), (wrap64 (x10_3 + 1)), (by first | rfl | (simp; done) | (simp [*]; done)), H', ⟨by have := HK1.out; have := HK2.out; have := HK3.out; omega⟩, ⟨by (with_reducible repeat (first | apply Kd.S_alloc | apply Kd.S_drewN | apply Kd.S_drew)); exact Kd.S_mono HO_5.out (fun _ hk => by first | exact ⟨hk.2, hk.1.1⟩ | (simp [hk]; done) | (simp_all; done))⟩, ⟨Zc HO_7⟩, ⟨Zc HO_25⟩, ⟨Zl HB⟩⟩
                     ·
                      rw [if_neg c30] at H
                      exact absurd H (by simp)
                    ·
                     rw [if_neg c29] at H
                     exact absurd H (by simp)
                   ·
                    rw [if_neg c26] at H
                    exact absurd H (by simp)
                  ·
                   rw [if_neg c25] at H
                   exact absurd H (by simp)
                 ·
                  rw [if_neg c24] at H; have c24b0 : decide (x10_3 < (wrap64 (a0 - 1))) = false := decide_eq_false c24; clear c24; have H' := Aside0.mk H; clear H
                  go_wp2
                  go_roundg k3
                  case measure => have := HK1.out; have := HK2.out; have := HK3.out; omega
                  case rel => exact ⟨(x7_3), (wrap64 (x27_2 + 1)), (by first | rfl | (simp; done) | (simp [*]; done)), H', ⟨by have := HK1.out; have := HK2.out; have := HK3.out; omega⟩, ⟨by (with_reducible repeat (first | apply Kd.S_alloc | apply Kd.S_drewN | apply Kd.S_drew)); exact HO_5.out⟩, ⟨Zr HO_7⟩, ⟨Zr HO_25⟩, ⟨Zl HB⟩⟩
             ·
              rw [if_neg c22] at H
              exact absurd H (by simp)
            ·
             rw [if_neg c21] at H
             exact absurd H (by simp)
           ·
            rw [if_neg c20] at H; have c20b0 : decide (x27_2 < (x6_1.length : Int)) = false := decide_eq_false c20; clear c20; have H' := Aside0.mk H; clear H
            go_wp2
            go_roundg k2
            case measure => have := HK1.out; have := HK2.out; omega
            case rel => exact ⟨(wrap64 (x1_1 - 1)), (x7_2), (by first | rfl | (simp; done) | (simp [*]; done)), H', ⟨by have := HK1.out; have := HK2.out; omega⟩, ⟨by (with_reducible repeat (first | apply Kd.S_alloc | apply Kd.S_drewN | apply Kd.S_drew)); exact Kd.S_mono HO_5.out (fun _ hk => by first | exact hk.1 | (simp [hk]; done) | (simp_all; done))⟩, ⟨Zc HO_7⟩, ⟨Zl HB⟩⟩
        ·
         rw [if_neg c16] at H
         exact absurd H (by simp)
       ·
        rw [if_neg c15] at H
        exact absurd H (by simp)
      ·
       rw [if_neg c14] at H; have c14b0 : decide (0 < x1_1) = false := decide_eq_false c14; clear c14; obtain rfl := Option.some.inj H
       go_wp2
       go_ret
       exact ⟨_, by first | rfl | (simp [errW_none, errW_some] <;> rfl) | (simp [*, errW_none, errW_some] <;> rfl), Zr HO_6, Zl HB⟩
   ·
    rw [if_neg c6] at H
    exact absurd H (by simp)
  ·
   rw [if_neg c5] at H
   exact absurd H (by simp)
 ·
  rw [if_neg c4] at H
  exact absurd H (by simp)

def spec_CountForOrder.j0 : Nat → Int → Int → List Int → Bool → Option (Int × Bool)
 | 0, _, _, _, _ => none
 | k + 1, x0, x1, x2, x22 => if x22 = true then (some (0, false)) else ((spec_chOrders.f k x0 x1).bind fun t287 => ((spec_alRank.f k x2).bind fun t290 => (if 0 ≤ t290 then (if t290 < (t287.length : Int) then (some (rd t287 t290, true)) else (none)) else (none))))
def spec_CountForOrder.f (k : Nat) (a0 : Int) (a1 : Int) (l2 : List Int) : Option (Int × Bool) := (spec_chResults.f a0 a1).bind fun t285 => (if t285 = true then ((spec_laOrder.f k l2).bind fun t286 => (if t286 = true then (spec_CountForOrder.j0 k a0 a1 l2 ((l2.length : Int) != a0)) else (spec_CountForOrder.j0 k a0 a1 l2 true))) else (spec_CountForOrder.j0 k a0 a1 l2 true))
set_option maxHeartbeats 8000000 in
set_option maxRecDepth 100000 in
theorem spec_CountForOrder.calls (k : Nat) (a0 : Int) (a1 : Int) (A2 : Option Addr) (c2 : Nat) (l2 : List Int) (r1 : Int) (r2 : Bool) (w : World) (hr2 : Kd.C (Kd.int .i64) w A2 l2.length l2) (hc2 : l2.length ≤ c2) (h : spec_CountForOrder.f k a0 a1 l2 = some (r1, r2)) :
  Calls Try.prog 7 #[.int .i64 a0, .int .i64 a1, .slice A2 l2.length c2] w fun e w' => e = .returned (.tuple #[.int .i64 r1, .bool r2]) ∧ Below w.heap.size w w' := by
 (have HR2 := Aside0.mk hr2; have HC2 := Aside0.mk hc2; clear hr2 hc2; have HB := Zm (Below.refl w.heap.size w); have H : ((spec_chResults.f a0 a1).bind fun t285 => (if t285 = true then ((spec_laOrder.f k l2).bind fun t286 => (if t286 = true then (spec_CountForOrder.j0 k a0 a1 l2 ((l2.length : Int) != a0)) else (spec_CountForOrder.j0 k a0 a1 l2 true))) else (spec_CountForOrder.j0 k a0 a1 l2 true))) = some (r1, r2) := h; clear h; have HC4 := Aside0.mk H; clear H)
 go_enter Try.func7, Try.ntmps7
 go_upto_region 1 with (fail)
 go_cut [22] (fun v22 wc => ∃ (kq : Nat) (x22_3 : Bool), v22 = .bool x22_3 ∧ Aside0 (spec_CountForOrder.j0 kq a0 a1 l2 x22_3 = some (r1, r2)) ∧ Aside0 (kq ≤ k) ∧ Aside0 (Below w.heap.size w wc))
 case first =>
  have H := HC4.out; clear HC4; replace H := Option.bind_eq_some_iff.mp H; obtain ⟨t285, A50, H⟩ := H; (replace H : (if t285 = true then ((spec_laOrder.f k l2).bind fun t286 => (if t286 = true then (spec_CountForOrder.j0 k a0 a1 l2 ((l2.length : Int) != a0)) else (spec_CountForOrder.j0 k a0 a1 l2 true))) else (spec_CountForOrder.j0 k a0 a1 l2 true)) = some (r1, r2) := H); have A5 := Aside0.mk A50; clear A50
  by_cases c6 : t285 = true
  ·
   subst c6
   rw [if_pos rfl] at H
   replace H := Option.bind_eq_some_iff.mp H; obtain ⟨t286, A70, H⟩ := H; replace H : (if t286 = true then (spec_CountForOrder.j0 k a0 a1 l2 ((l2.length : Int) != a0)) else (spec_CountForOrder.j0 k a0 a1 l2 true)) = some (r1, r2) := H; have A7 := Aside0.mk A70; clear A70
   by_cases c8 : t286 = true
   ·
    subst c8
    rw [if_pos rfl] at H
    have H' := Aside0.mk H; clear H
    go_wp2_with (first | ((with_reducible refine gate_callee (f := 38) rfl ?_); refine Ga (some 10) Try.func38 #[.int .i64 a0, .int .i64 a1] (h := ?_); (with_reducible refine (spec_chResults.calls a0 a1 true _ A5.out).mono ?_); rintro e w' ⟨rfl, ⟨nd, rfl⟩⟩; refine ⟨_, rfl, ?_⟩) | (go_at_call 39; (with_reducible refine (spec_laOrder.calls k _ _ l2 true _ ?side1 ?side2 A7.out).mono ?_); (case side1 => repeat (first | exact (Kd.C_below HR2.out (Zl HB)) | (with_reducible refine Kd.C_alloc ?_ _) | (with_reducible refine Kd.C_drewN ?_ _) | (with_reducible refine Kd.C_drew ?_))); (case side2 => exact HC2.out); rintro e w' ⟨rfl, ⟨nd, rfl⟩⟩))
    go_meet
    case rel => exact ⟨_, (((l2.length : Int) != a0)), (by first | rfl | (simp; done) | (simp [*]; done)), H', ⟨by first | omega | exact Nat.le_refl _⟩, ⟨Zl HB⟩⟩
   ·
    replace c8 := Bool.eq_false_iff.mpr c8
    subst c8
    rw [if_neg Bool.false_ne_true] at H
    have H' := Aside0.mk H; clear H
    go_wp2_with (first | ((with_reducible refine gate_callee (f := 38) rfl ?_); refine Ga (some 10) Try.func38 #[.int .i64 a0, .int .i64 a1] (h := ?_); (with_reducible refine (spec_chResults.calls a0 a1 true _ A5.out).mono ?_); rintro e w' ⟨rfl, ⟨nd, rfl⟩⟩; refine ⟨_, rfl, ?_⟩) | (go_at_call 39; (with_reducible refine (spec_laOrder.calls k _ _ l2 false _ ?side1 ?side2 A7.out).mono ?_); (case side1 => repeat (first | exact (Kd.C_below HR2.out (Zl HB)) | (with_reducible refine Kd.C_alloc ?_ _) | (with_reducible refine Kd.C_drewN ?_ _) | (with_reducible refine Kd.C_drew ?_))); (case side2 => exact HC2.out); rintro e w' ⟨rfl, ⟨nd, rfl⟩⟩))
    go_meet
    case rel => exact ⟨_, (true), (by first | rfl | (simp; done) | (simp [*]; done)), H', ⟨by first | omega | exact Nat.le_refl _⟩, ⟨Zl HB⟩⟩
  ·
   replace c6 := Bool.eq_false_iff.mpr c6
   subst c6
   rw [if_neg Bool.false_ne_true] at H
   have H' := Aside0.mk H; clear H
   go_wp2_with (first | ((with_reducible refine gate_callee (f := 38) rfl ?_); refine Ga (some 10) Try.func38 #[.int .i64 a0, .int .i64 a1] (h := ?_); (with_reducible refine (spec_chResults.calls a0 a1 false _ A5.out).mono ?_); rintro e w' ⟨rfl, ⟨nd, rfl⟩⟩; refine ⟨_, rfl, ?_⟩))
   go_meet
   case rel => exact ⟨_, (true), (by first | rfl | (simp; done) | (simp [*]; done)), H', ⟨by first | omega | exact Nat.le_refl _⟩, ⟨Zl HB⟩⟩
 case rest =>
  (clear HC4; (try clear c2); (try clear p2); (try clear c3); (try clear c6); (try clear c7); (try clear c8)); obtain ⟨kq, x22_3, rfl, HA, HJ3, HB⟩ := hcut
  cases kq with
  | zero => exact absurd HA.out (by simp [spec_CountForOrder.j0])
  | succ kj3 =>
   have H := HA.out; clear HA
   simp only [spec_CountForOrder.j0] at H
   by_cases c9 : x22_3 = true
   ·
    subst c9
    rw [if_pos rfl] at H
    simp only [Option.some.injEq, Prod.mk.injEq] at H
    obtain ⟨rfl, rfl⟩ := H
    go_wp2
    go_ret2
    exact ⟨by first | rfl | (simp [errW_none, errW_some] <;> rfl) | (simp [*, errW_none, errW_some] <;> rfl), Zl HB⟩
   ·
    replace c9 := Bool.eq_false_iff.mpr c9
    subst c9
    rw [if_neg Bool.false_ne_true] at H
    replace H := Option.bind_eq_some_iff.mp H; obtain ⟨t287, A100, H⟩ := H; (replace H : ((spec_alRank.f kj3 l2).bind fun t290 => (if 0 ≤ t290 then (if t290 < (t287.length : Int) then (some (rd t287 t290, true)) else (none)) else (none))) = some (r1, r2) := H); have A10 := Aside0.mk A100; clear A100; replace H := Option.bind_eq_some_iff.mp H; obtain ⟨t290, A110, H⟩ := H; replace H : (if 0 ≤ t290 then (if t290 < (t287.length : Int) then (some (rd t287 t290, true)) else (none)) else (none)) = some (r1, r2) := H; have A11 := Aside0.mk A110; clear A110
    by_cases c12 : 0 ≤ t290
    ·
     rw [if_pos c12] at H; have c12b0 : decide (0 ≤ t290) = true := decide_eq_true c12; clear c12
     by_cases c13 : t290 < (t287.length : Int)
     ·
      rw [if_pos c13] at H; have c13b0 : decide (t290 < (t287.length : Int)) = true := decide_eq_true c13; clear c13
      simp only [Option.some.injEq, Prod.mk.injEq] at H
      obtain ⟨rfl, rfl⟩ := H
      go_wp2_with (first | ((with_reducible refine gate_callee (f := 40) rfl ?_); refine Ga (some 25) Try.func40 #[.int .i64 a0, .int .i64 a1] (h := ?_); (with_reducible refine (spec_chOrders.calls kj3 a0 a1 t287 _ A10.out).mono ?_); rintro e w14 ⟨v288, rfl, ho0, hb⟩; refine ⟨_, rfl, ?_⟩; have HO289 := Zj ho0 HB; replace HB := Zh HB hb; (try clear hb); (try clear ho0)) | ((with_reducible refine gate_callee (f := 41) rfl ?_); refine Ga (some 27) Try.func41 #[.slice A2 l2.length c2] (h := ?_); (with_reducible refine (spec_alRank.calls kj3 _ _ l2 t290 _ ?side1 ?side2 A11.out).mono ?_); (case side1 => repeat (first | exact (Kd.C_below HR2.out HB.out) | (with_reducible refine Kd.C_alloc ?_ _) | (with_reducible refine Kd.C_drewN ?_ _) | (with_reducible refine Kd.C_drew ?_))); (case side2 => exact HC2.out); rintro e w' ⟨rfl, ⟨nd, rfl⟩⟩; refine ⟨_, rfl, ?_⟩; obtain ⟨Ao15, co15, eo15⟩ := Kd.R_slice HO289.out; subst eo15; have p291 : 0 ≤ (t290 : Int) := of_decide_eq_true (by first | (with_reducible assumption) | assumption); have q291 : t290 < (t287.length : Int) := of_decide_eq_true (by first | (with_reducible assumption) | assumption); obtain ⟨ad291, e291, hx291_0⟩ := Kd.at_int (Kd.R_reads' HO289.out).2.2 t290 p291 q291; cases e291; replace p291 := eq_true p291; replace q291 := eq_true q291))
      go_ret2
      exact ⟨by first | rfl | (simp [errW_none, errW_some] <;> rfl) | (simp [*, errW_none, errW_some] <;> rfl), Zl HB⟩
     ·
      rw [if_neg c13] at H
      exact absurd H (by simp)
    ·
     rw [if_neg c12] at H
     exact absurd H (by simp)

def spec_ChanceOfOrder.f (k : Nat) (a0 : Int) (a1 : Int) (l2 : List Int) : Option (Int × Int × Bool) := (spec_CountForOrder.f k a0 a1 l2).bind fun bt305 => (if bt305.2 = true then ((spec_chAll.f k a0 a1).bind fun t307 => ((spec_chRatio.f k bt305.1 t307).bind fun bt308 => (some (bt308.1, bt308.2, true)))) else (some (0, 0, false)))
set_option maxHeartbeats 8000000 in
set_option maxRecDepth 100000 in
theorem spec_ChanceOfOrder.calls (k : Nat) (a0 : Int) (a1 : Int) (A2 : Option Addr) (c2 : Nat) (l2 : List Int) (r1 : Int) (r2 : Int) (r3 : Bool) (w : World) (hr2 : Kd.C (Kd.int .i64) w A2 l2.length l2) (hc2 : l2.length ≤ c2) (h : spec_ChanceOfOrder.f k a0 a1 l2 = some (r1, r2, r3)) :
  Calls Try.prog 9 #[.int .i64 a0, .int .i64 a1, .slice A2 l2.length c2] w fun e w' => e = .returned (.tuple #[.agg #[.int .i64 r1, .int .i64 r2], .bool r3]) ∧ Below w.heap.size w w' := by
 have hu30 := Try.underlying30; have HR2 := Aside0.mk hr2; have HC2 := Aside0.mk hc2; clear hr2 hc2; have HB := Zm (Below.refl w.heap.size w); have H : ((spec_CountForOrder.f k a0 a1 l2).bind fun bt305 => (if bt305.2 = true then ((spec_chAll.f k a0 a1).bind fun t307 => ((spec_chRatio.f k bt305.1 t307).bind fun bt308 => (some (bt308.1, bt308.2, true)))) else (some (0, 0, false)))) = some (r1, r2, r3) := h; clear h
 replace H := Option.bind_eq_some_iff.mp H; obtain ⟨⟨t305, t306⟩, A40, H⟩ := H; (replace H : (if t306 = true then ((spec_chAll.f k a0 a1).bind fun t307 => ((spec_chRatio.f k t305 t307).bind fun bt308 => (some (bt308.1, bt308.2, true)))) else (some (0, 0, false))) = some (r1, r2, r3) := H); have A4 := Aside0.mk A40; clear A40
 by_cases c5 : t306 = true
 ·
  subst c5
  rw [if_pos rfl] at H
  replace H := Option.bind_eq_some_iff.mp H; obtain ⟨t307, A60, H⟩ := H; (replace H : ((spec_chRatio.f k t305 t307).bind fun bt308 => (some (bt308.1, bt308.2, true))) = some (r1, r2, r3) := H); have A6 := Aside0.mk A60; clear A60; replace H := Option.bind_eq_some_iff.mp H; obtain ⟨⟨t308, t309⟩, A70, H⟩ := H; replace H : (some (t308, t309, true)) = some (r1, r2, r3) := H; have A7 := Aside0.mk A70; clear A70
  simp only [Option.some.injEq, Prod.mk.injEq] at H
  obtain ⟨rfl, rfl, rfl⟩ := H
  go_enter Try.func9, Try.ntmps9
  go_wp2_with (first | ((with_reducible refine gate_dst (N := 6) rfl ?_); refine box_event ?hg (N := 6) ?hd (cs := #[.int .i64 0, .int .i64 0]) (t := 30) ?hr ?_; (case hd => rfl); (case hg => rfl); (case hr => first | (go_simp; done) | (go_simp; rfl)); intro gb304 hg w8 hbox hb; have BK304 := Zm (hbox); have GW304 := Zx hg HB; have GE304 := Zx hg HB; replace HB := Zh HB hb; clear hb hbox hg) | ((with_reducible refine gate_callee (f := 7) rfl ?_); refine Ga (some 14) Try.func7 #[.int .i64 a0, .int .i64 a1, .slice A2 l2.length c2] (h := ?_); (with_reducible refine (spec_CountForOrder.calls k a0 a1 _ _ l2 t305 true _ ?side1 ?side2 A4.out).mono ?_); (case side1 => repeat (first | exact (Kd.C_below HR2.out HB.out) | (with_reducible refine Kd.C_alloc ?_ _) | (with_reducible refine Kd.C_drewN ?_ _) | (with_reducible refine Kd.C_drew ?_))); (case side2 => exact HC2.out); rintro e w9 ⟨rfl, hb⟩; refine ⟨_, rfl, ?_⟩; replace BK304 := Zk BK304 hb; replace HB := Zh HB hb; (try clear hb); (try clear hb2); (try clear hk); (try clear hi)) | ((with_reducible refine gate_callee (f := 45) rfl ?_); refine Ga (some 23) Try.func45 #[.int .i64 a0, .int .i64 a1] (h := ?_); (with_reducible refine (spec_chAll.calls k a0 a1 t307 _ A6.out).mono ?_); rintro e w' ⟨rfl, ⟨nd, rfl⟩⟩; refine ⟨_, rfl, ?_⟩; (try (rw [drewN_self w9]; generalize hq_ : World.drewN w9 _ = w9; replace BK304 : Aside0 (w9.heap[gb304]? = some (.cells #[.int .i64 0, .int .i64 0] 30 (0, 0))) := ⟨by rw [← hq_]; exact (Zb BK304)⟩; replace HB : Aside0 (Below w.heap.size w w9) := ⟨by rw [← hq_]; exact (Zl HB)⟩; clear hq_))) | ((with_reducible refine gate_callee (f := 44) rfl ?_); refine Ga (some 24) Try.func44 #[.int .i64 t305, .int .i64 t307] (h := ?_); (with_reducible refine (spec_chRatio.calls k t305 t307 t308 t309 _ A7.out).mono ?_); rintro e w10 ⟨rfl, hb⟩; refine ⟨_, rfl, ?_⟩; replace BK304 := Zk BK304 hb; replace HB := Zh HB hb; (try clear hb); (try clear hb2); (try clear hk); (try clear hi); have hcz11_0 : w10.cell? ⟨gb304, 0, none⟩ = some (.int .i64 0) := (blk_cell BK304.out 0).trans rfl; have hcz11_1 : w10.cell? ⟨gb304, 1, none⟩ = some (.int .i64 0) := (blk_cell BK304.out 1).trans rfl; have hfz11_0 := blk_frozen BK304.out 0; have hfz11_1 := blk_frozen BK304.out 1))
  refine bodyPost_ret (results_ct rfl _ _ gb304 30 #[.int .i64 t308, .int .i64 t309] (0, 0) _ rfl (by (with_reducible repeat (first | refine blk_drewN ?_ _ | refine blk_drew ?_ | refine blk_alloc ?_ _)); refine blk_put (cs := #[.int .i64 t308, .int .i64 0]) ?_ 1 _ rfl; (with_reducible repeat (first | refine blk_drewN ?_ _ | refine blk_drew ?_ | refine blk_alloc ?_ _)); refine blk_put (cs := #[.int .i64 0, .int .i64 0]) ?_ 0 _ rfl; (with_reducible repeat (first | refine blk_drewN ?_ _ | refine blk_drew ?_ | refine blk_alloc ?_ _)); exact BK304.out) Try.underlying30 rfl (by kernel_rfl)) rfl ?_
  exact ⟨by first | rfl | (simp [errW_none, errW_some] <;> rfl) | (simp [*, errW_none, errW_some] <;> rfl), Zl HB⟩
 ·
  replace c5 := Bool.eq_false_iff.mpr c5
  subst c5
  rw [if_neg Bool.false_ne_true] at H
  simp only [Option.some.injEq, Prod.mk.injEq] at H
  obtain ⟨rfl, rfl, rfl⟩ := H
  go_enter Try.func9, Try.ntmps9
  go_wp2_with (first | ((with_reducible refine gate_dst (N := 6) rfl ?_); refine box_event ?hg (N := 6) ?hd (cs := #[.int .i64 0, .int .i64 0]) (t := 30) ?hr ?_; (case hd => rfl); (case hg => rfl); (case hr => first | (go_simp; done) | (go_simp; rfl)); intro gb304 hg w12 hbox hb; have BK304 := Zm (hbox); have GW304 := Zx hg HB; have GE304 := Zx hg HB; replace HB := Zh HB hb; clear hb hbox hg) | ((with_reducible refine gate_callee (f := 7) rfl ?_); refine Ga (some 14) Try.func7 #[.int .i64 a0, .int .i64 a1, .slice A2 l2.length c2] (h := ?_); (with_reducible refine (spec_CountForOrder.calls k a0 a1 _ _ l2 t305 false _ ?side1 ?side2 A4.out).mono ?_); (case side1 => repeat (first | exact (Kd.C_below HR2.out HB.out) | (with_reducible refine Kd.C_alloc ?_ _) | (with_reducible refine Kd.C_drewN ?_ _) | (with_reducible refine Kd.C_drew ?_))); (case side2 => exact HC2.out); rintro e w13 ⟨rfl, hb⟩; refine ⟨_, rfl, ?_⟩; replace BK304 := Zk BK304 hb; replace HB := Zh HB hb; (try clear hb); (try clear hb2); (try clear hk); (try clear hi); have hcz14_0 : w13.cell? ⟨gb304, 0, none⟩ = some (.int .i64 0) := (blk_cell BK304.out 0).trans rfl; have hcz14_1 : w13.cell? ⟨gb304, 1, none⟩ = some (.int .i64 0) := (blk_cell BK304.out 1).trans rfl; have hfz14_0 := blk_frozen BK304.out 0; have hfz14_1 := blk_frozen BK304.out 1))
  refine bodyPost_ret (results_ct rfl _ _ gb304 30 #[.int .i64 0, .int .i64 0] (0, 0) _ rfl (by (with_reducible repeat (first | refine blk_drewN ?_ _ | refine blk_drew ?_ | refine blk_alloc ?_ _)); refine blk_put (cs := #[.int .i64 0, .int .i64 0]) ?_ 1 _ rfl; (with_reducible repeat (first | refine blk_drewN ?_ _ | refine blk_drew ?_ | refine blk_alloc ?_ _)); refine blk_put (cs := #[.int .i64 0, .int .i64 0]) ?_ 0 _ rfl; (with_reducible repeat (first | refine blk_drewN ?_ _ | refine blk_drew ?_ | refine blk_alloc ?_ _)); exact BK304.out) Try.underlying30 rfl (by kernel_rfl)) rfl ?_
  exact ⟨by first | rfl | (simp [errW_none, errW_some] <;> rfl) | (simp [*, errW_none, errW_some] <;> rfl), Zl HB⟩

def spec_MeanInversions.l0 : Nat → Int → Int → List (List Int) → Int → List Int → Int → Int → Option (Int × Int × Bool)
 | 0, _, _, _, _, _, _, _ => none
 | k + 1, x0, x1, x6, x7, x19, x20, x21 => if x21 < x20 then (if 0 ≤ x21 then (if x21 < (x19.length : Int) then (if x21 < (x6.length : Int) then ((spec_lsInversions.f k (rd_L2 x6 x21)).bind fun t415 => (spec_MeanInversions.l0 k x0 x1 x6 (wrap64 (x7 + (wrap64 ((rd x19 x21) * (t415.length : Int))))) x19 x20 (wrap64 (x21 + 1)))) else (none)) else (none)) else (none)) else ((spec_chAll.f k x0 x1).bind fun t418 => ((spec_chRatio.f k x7 t418).bind fun bt419 => (some (bt419.1, bt419.2, true))))
def spec_MeanInversions.f (k : Nat) (a0 : Int) (a1 : Int) : Option (Int × Int × Bool) := (spec_chResults.f a0 a1).bind fun t406 => (if t406 = true then ((spec_alOrders.f k a0).bind fun t407 => ((spec_chOrders.f k a0 a1).bind fun t410 => (spec_MeanInversions.l0 k a0 a1 t407 0 t410 (t410.length : Int) 0))) else (some (0, 0, false)))
theorem spec_MeanInversions.mono_l : ∀ k, (∀ y0 y1 y2 y3 y4 y5 y6, LeO (spec_MeanInversions.l0 k y0 y1 y2 y3 y4 y5 y6) (spec_MeanInversions.l0 (k + 1) y0 y1 y2 y3 y4 y5 y6))
 | 0 => fun _ _ _ _ _ _ _ r h => by simp [spec_MeanInversions.l0] at h
 | k + 1 => by
  have ih0 := spec_MeanInversions.mono_l k
  ·
   intro y0 y1 y2 y3 y4 y5 y6
   unfold spec_MeanInversions.l0
   repeat' first
   | (with_reducible exact ih0 _ _ _ _ _ _ _)
   | (with_reducible exact spec_alOrders.mono _ _)
   | (with_reducible exact spec_chAll.mono _ _ _)
   | (with_reducible exact spec_chOrders.mono _ _ _)
   | (with_reducible exact spec_chRatio.mono _ _ _)
   | (with_reducible exact spec_lsInversions.mono _ _)
   | (with_reducible exact LeO.refl _)
   | (with_reducible exact LeO.none _)
   | (with_reducible refine LeO.ite ?_ ?_)
   | (with_reducible refine LeO.bind ?_ (fun _ => ?_))
   | exact ih0 _ _ _ _ _ _ _
   | exact spec_alOrders.mono _ _
   | exact spec_chAll.mono _ _ _
   | exact spec_chOrders.mono _ _ _
   | exact spec_chRatio.mono _ _ _
   | exact spec_lsInversions.mono _ _
   | exact LeO.none _
   | refine LeO.ite ?_ ?_
   | refine LeO.bind ?_ (fun _ => ?_)
theorem spec_MeanInversions.mono : ∀ a0 a1 k, LeO (spec_MeanInversions.f k a0 a1) (spec_MeanInversions.f (k + 1) a0 a1) := by
 intro a0 a1 k
 have ih0 := spec_MeanInversions.mono_l k
 unfold spec_MeanInversions.f
 repeat' first
   | (with_reducible exact ih0 _ _ _ _ _ _ _)
   | (with_reducible exact spec_alOrders.mono _ _)
   | (with_reducible exact spec_chAll.mono _ _ _)
   | (with_reducible exact spec_chOrders.mono _ _ _)
   | (with_reducible exact spec_chRatio.mono _ _ _)
   | (with_reducible exact spec_lsInversions.mono _ _)
   | (with_reducible exact LeO.refl _)
   | (with_reducible exact LeO.none _)
   | (with_reducible refine LeO.ite ?_ ?_)
   | (with_reducible refine LeO.bind ?_ (fun _ => ?_))
   | exact ih0 _ _ _ _ _ _ _
   | exact spec_alOrders.mono _ _
   | exact spec_chAll.mono _ _ _
   | exact spec_chOrders.mono _ _ _
   | exact spec_chRatio.mono _ _ _
   | exact spec_lsInversions.mono _ _
   | exact LeO.none _
   | refine LeO.ite ?_ ?_
   | refine LeO.bind ?_ (fun _ => ?_)
set_option maxHeartbeats 8000000 in
set_option maxRecDepth 100000 in
theorem spec_MeanInversions.calls (k : Nat) (a0 : Int) (a1 : Int) (r1 : Int) (r2 : Int) (r3 : Bool) (w : World) (h : spec_MeanInversions.f k a0 a1 = some (r1, r2, r3)) :
  Calls Try.prog 18 #[.int .i64 a0, .int .i64 a1] w fun e w' => e = .returned (.tuple #[.agg #[.int .i64 r1, .int .i64 r2], .bool r3]) ∧ Below w.heap.size w w' := by
 have hu30 := Try.underlying30; have HB := Zm (Below.refl w.heap.size w); have H : ((spec_chResults.f a0 a1).bind fun t406 => (if t406 = true then ((spec_alOrders.f k a0).bind fun t407 => ((spec_chOrders.f k a0 a1).bind fun t410 => (spec_MeanInversions.l0 k a0 a1 t407 0 t410 (t410.length : Int) 0))) else (some (0, 0, false)))) = some (r1, r2, r3) := h; clear h
 replace H := Option.bind_eq_some_iff.mp H; obtain ⟨t406, A30, H⟩ := H; (replace H : (if t406 = true then ((spec_alOrders.f k a0).bind fun t407 => ((spec_chOrders.f k a0 a1).bind fun t410 => (spec_MeanInversions.l0 k a0 a1 t407 0 t410 (t410.length : Int) 0))) else (some (0, 0, false))) = some (r1, r2, r3) := H); have A3 := Aside0.mk A30; clear A30
 by_cases c4 : t406 = true
 ·
  subst c4
  rw [if_pos rfl] at H
  replace H := Option.bind_eq_some_iff.mp H; obtain ⟨t407, A50, H⟩ := H; (replace H : ((spec_chOrders.f k a0 a1).bind fun t410 => (spec_MeanInversions.l0 k a0 a1 t407 0 t410 (t410.length : Int) 0)) = some (r1, r2, r3) := H); have A5 := Aside0.mk A50; clear A50; replace H := Option.bind_eq_some_iff.mp H; obtain ⟨t410, A60, H⟩ := H; replace H : (spec_MeanInversions.l0 k a0 a1 t407 0 t410 (t410.length : Int) 0) = some (r1, r2, r3) := H; have A6 := Aside0.mk A60; clear A60; have H' := Aside0.mk H; clear H
  go_enter Try.func18, Try.ntmps18
  go_wp2_with (first | ((with_reducible refine gate_dst (N := 4) rfl ?_); refine box_event ?hg (N := 4) ?hd (cs := #[.int .i64 0, .int .i64 0]) (t := 30) ?hr ?_; (case hd => rfl); (case hg => rfl); (case hr => first | (go_simp; done) | (go_simp; rfl)); intro gb405 hg w7 hbox hb; have BK405 := Zm (hbox); have GW405 := Zx hg HB; have GE405 := Zx hg HB; replace HB := Zh HB hb; clear hb hbox hg) | ((with_reducible refine gate_callee (f := 38) rfl ?_); refine Ga (some 12) Try.func38 #[.int .i64 a0, .int .i64 a1] (h := ?_); (with_reducible refine (spec_chResults.calls a0 a1 true _ A3.out).mono ?_); rintro e w' ⟨rfl, ⟨nd, rfl⟩⟩; refine ⟨_, rfl, ?_⟩) | ((with_reducible refine gate_callee (f := 55) rfl ?_); refine Ga (some 16) Try.func55 #[.int .i64 a0] (h := ?_); (with_reducible refine (spec_alOrders.calls k a0 t407 _ A5.out).mono ?_); rintro e w8 ⟨v408, rfl, ho0, hb⟩; refine ⟨_, rfl, ?_⟩; have HO409 := Zm (Kd.S_lower ho0 (below_size (Zl HB))); replace BK405 := Zk BK405 hb; replace HB := Zh HB hb; (try clear hb); (try clear ho0)) | ((with_reducible refine gate_callee (f := 40) rfl ?_); refine Ga (some 19) Try.func40 #[.int .i64 a0, .int .i64 a1] (h := ?_); (with_reducible refine (spec_chOrders.calls k a0 a1 t410 _ A6.out).mono ?_); rintro e w9 ⟨v411, rfl, ho0, hb⟩; refine ⟨_, rfl, ?_⟩; replace HO409 := Zm (Kd.S_elder' (by (with_reducible repeat (first | apply Kd.S_alloc | apply Kd.S_drewN | apply Kd.S_drew)); exact HO409.out) (Kd.R_base ho0) hb); have HO412 := Zj ho0 HB; replace BK405 := Zk BK405 hb; replace HB := Zh HB hb; (try clear hb); (try clear ho0); obtain ⟨Ao10, co10, eo10⟩ := Kd.R_slice HO412.out; subst eo10))
  go_loopg [7, 21] k (fun kq v7 v21 w' => ∃ (x7_1 : Int) (x21_1 : Int), v7 = .int .i64 x7_1 ∧ v21 = .int .i64 x21_1 ∧ Aside0 (spec_MeanInversions.l0 kq a0 a1 t407 x7_1 t410 (t410.length : Int) x21_1 = some (r1, r2, r3)) ∧ Aside0 (kq ≤ k) ∧ Aside0 (Kd.S (Kd.slice 3 (Kd.int .i64)) 24 w' w.heap.size (fun k_ => Zn k_ (.slice Ao10 t410.length co10)) v408 t407) ∧ Aside0 (Kd.R (Kd.int .i64) 3 w' w.heap.size (fun _ => True) (.slice Ao10 t410.length co10) t410) ∧ Aside0 (w'.heap[gb405]? = some (.cells #[.int .i64 0, .int .i64 0] 30 (0, 0))) ∧ Aside0 (Below w.heap.size w w'))
  case atStart => exact ⟨(0), (0), (by first | rfl | (simp; done) | (simp [*]; done)), (by first | rfl | (simp; done) | (simp [*]; done)), H', ⟨Nat.le_refl _⟩, ⟨by (with_reducible repeat (first | apply Kd.S_alloc | apply Kd.S_drewN | apply Kd.S_drew)); exact Kd.S_mono HO409.out (fun _ hk => hk.2)⟩, ⟨Zr HO412⟩, ⟨Zb BK405⟩, ⟨Zl HB⟩⟩
  case round =>
   (clear H'; (try clear c1); (try clear p2); (try clear c3); (try clear c4); (try clear c5)); obtain ⟨x7_1, x21_1, rfl, rfl, HA, HK1, HO_6, HO_19, BK405, HB⟩ := hrel
   cases gk with
   | zero => exact absurd HA.out (by simp [spec_MeanInversions.l0])
   | succ k1 =>
    have H := HA.out; clear HA
    simp only [spec_MeanInversions.l0] at H
    by_cases c11 : x21_1 < (t410.length : Int)
    ·
     rw [if_pos c11] at H; have c11b0 : decide (x21_1 < (t410.length : Int)) = true := decide_eq_true c11; clear c11
     by_cases c12 : 0 ≤ x21_1
     ·
      rw [if_pos c12] at H; have c12b0 : decide (0 ≤ x21_1) = true := decide_eq_true c12; clear c12
      by_cases c13 : x21_1 < (t410.length : Int)
      ·
       rw [if_pos c13] at H; have c13b0 : decide (x21_1 < (t410.length : Int)) = true := decide_eq_true c13; clear c13
       by_cases c14 : x21_1 < (t407.length : Int)
       ·
        rw [if_pos c14] at H; have c14b0 : decide (x21_1 < (t407.length : Int)) = true := decide_eq_true c14; clear c14; replace H := Option.bind_eq_some_iff.mp H; obtain ⟨t415, A150, H⟩ := H; replace H : (spec_MeanInversions.l0 k1 a0 a1 t407 (wrap64 (x7_1 + (wrap64 ((rd t410 x21_1) * (t415.length : Int))))) t410 (t410.length : Int) (wrap64 (x21_1 + 1))) = some (r1, r2, r3) := H; have A15 := Aside0.mk A150; clear A150; have H' := Aside0.mk H; clear H; have p413 : 0 ≤ (x21_1 : Int) := of_decide_eq_true (by first | (with_reducible assumption) | assumption); have q413 : x21_1 < (t410.length : Int) := of_decide_eq_true (by first | (with_reducible assumption) | assumption); obtain ⟨ad413, e413, hx413_0⟩ := Kd.at_int (Kd.R_reads' HO_19.out).2.2 x21_1 p413 q413
        cases e413
        replace p413 := eq_true p413
        replace q413 := eq_true q413
        obtain ⟨Ao16, co16, eo16⟩ := Kd.S_slice HO_6.out; subst eo16
        have p414 : 0 ≤ (x21_1 : Int) := of_decide_eq_true (by first | (with_reducible assumption) | assumption); have q414 : x21_1 < (t407.length : Int) := of_decide_eq_true (by first | (with_reducible assumption) | assumption)
        obtain ⟨ad414, A414_0, c414_0, e414, hx414_0, hl414_0, hi414_0⟩ := at_L2 (Kd.S_reads' HO_6.out).2.2 x21_1 p414 q414
        cases e414
        obtain ⟨ce414, hce414, hMe414, hcc414⟩ := Kd.S_get HO_6.out [] x21_1 p414 (by first | exact q414 | exact of_decide_eq_true (by first | (with_reducible assumption) | assumption) | (have e_ := (Kd.S_reads' HO_6.out).1; omega)); obtain ⟨ve414_0, rfl, ge414_0⟩ := hMe414
        have hv414_0 := hcc414 0 _ rfl
        rw [Nat.add_zero, show ((Kd.slice 3 (Kd.int .i64))).sz = 1 from rfl, Nat.mul_one] at hv414_0
        replace hv414_0 := Option.some.inj (hv414_0.symm.trans hx414_0)
        rw [hv414_0] at ge414_0
        have HL414_0 := Zm (show Kd.R (Kd.int .i64) 3 _ _ _ _ (rd_L2 t407 x21_1) from ge414_0); clear hv414_0 ge414_0 hcc414 hce414; have HR414_0 := Aside0.mk hi414_0; have HC414_0 := Aside0.mk hl414_0; clear hi414_0 hl414_0
        replace p414 := eq_true p414
        replace q414 := eq_true q414
        go_wp2_with (first | ((with_reducible refine gate_callee (f := 56) rfl ?_); refine Ga (some 32) Try.func56 #[.slice A414_0 (rd_L2 t407 x21_1).length c414_0] (h := ?_); (with_reducible refine (spec_lsInversions.calls k1 _ _ (rd_L2 t407 x21_1) t415 _ ?side1 ?side2 A15.out).mono ?_); (case side1 => repeat (first | exact (by repeat (first | (with_reducible exact HR414_0.out) | (with_reducible refine Kd.C_alloc ?_ _) | (with_reducible refine Kd.C_drewN ?_ _) | (with_reducible refine Kd.C_drew ?_) | exact HR414_0.out)) | (with_reducible refine Kd.C_alloc ?_ _) | (with_reducible refine Kd.C_drewN ?_ _) | (with_reducible refine Kd.C_drew ?_))); (case side2 => exact HC414_0.out); rintro e w17 ⟨v416, rfl, ho0, hb⟩; refine ⟨_, rfl, ?_⟩; have HO417 := Zm (Kd.S_lower (Kd.S_new' (Kd.S_new' (Kd.S_new' ho0 (Kd.S_lt (by (with_reducible repeat (first | apply Kd.S_alloc | apply Kd.S_drewN | apply Kd.S_drew)); exact HO_6.out))) (Kd.R_lt (Zr HO_19))) (Kd.R_lt (Zr HL414_0))) (below_size (Zl HB))); replace HO_6 := Zm (Kd.S_elder' (by (with_reducible repeat (first | apply Kd.S_alloc | apply Kd.S_drewN | apply Kd.S_drew)); exact HO_6.out) (Kd.S_base ho0) hb); replace HO_19 := Zo HO_19 hb; replace HL414_0 := Zo HL414_0 hb; replace BK405 := Zk BK405 hb; replace HR414_0 := Zm (Kd.C_below (by repeat (first | (with_reducible exact HR414_0.out) | (with_reducible refine Kd.C_alloc ?_ _) | (with_reducible refine Kd.C_drewN ?_ _) | (with_reducible refine Kd.C_drew ?_) | exact HR414_0.out)) hb); replace HB := Zh HB hb; (try clear hb); (try clear ho0); obtain ⟨Ao18, co18, eo18⟩ := Kd.S_slice HO417.out; subst eo18))
        go_roundg k1
        case measure => have := HK1.out; omega
        case rel => exact ⟨(wrap64 (x7_1 + (wrap64 ((rd t410 x21_1) * (t415.length : Int))))), (wrap64 (x21_1 + 1)), (by first | rfl | (simp; done) | (simp [*]; done)), (by first | rfl | (simp; done) | (simp [*]; done)), H', ⟨by have := HK1.out; omega⟩, ⟨by (with_reducible repeat (first | apply Kd.S_alloc | apply Kd.S_drewN | apply Kd.S_drew)); exact Kd.S_mono HO_6.out (fun _ hk => hk.1)⟩, ⟨Zr HO_19⟩, ⟨Zb BK405⟩, ⟨Zl HB⟩⟩
       ·
        rw [if_neg c14] at H
        exact absurd H (by simp)
      ·
       rw [if_neg c13] at H
       exact absurd H (by simp)
     ·
      rw [if_neg c12] at H
      exact absurd H (by simp)
    ·
     rw [if_neg c11] at H; have c11b0 : decide (x21_1 < (t410.length : Int)) = false := decide_eq_false c11; clear c11; replace H := Option.bind_eq_some_iff.mp H; obtain ⟨t418, A190, H⟩ := H; (replace H : ((spec_chRatio.f k1 x7_1 t418).bind fun bt419 => (some (bt419.1, bt419.2, true))) = some (r1, r2, r3) := H); have A19 := Aside0.mk A190; clear A190; replace H := Option.bind_eq_some_iff.mp H; obtain ⟨⟨t419, t420⟩, A200, H⟩ := H; replace H : (some (t419, t420, true)) = some (r1, r2, r3) := H; have A20 := Aside0.mk A200; clear A200
     simp only [Option.some.injEq, Prod.mk.injEq] at H
     obtain ⟨rfl, rfl, rfl⟩ := H
     go_wp2_with (first | ((with_reducible refine gate_callee (f := 45) rfl ?_); refine Ga (some 40) Try.func45 #[.int .i64 a0, .int .i64 a1] (h := ?_); (with_reducible refine (spec_chAll.calls k1 a0 a1 t418 _ A19.out).mono ?_); rintro e w' ⟨rfl, ⟨nd, rfl⟩⟩; refine ⟨_, rfl, ?_⟩; (try (rw [drewN_self wr]; generalize hq_ : World.drewN wr _ = wr; replace HO_19 : Aside0 (Kd.R (Kd.int .i64) 3 wr w.heap.size (fun _ => True) (.slice Ao10 t410.length co10) t410) := ⟨by rw [← hq_]; exact (Zr HO_19)⟩; replace HO_6 : Aside0 (Kd.S (Kd.slice 3 (Kd.int .i64)) 24 wr w.heap.size (fun k_ => Zn k_ (.slice Ao10 t410.length co10)) v408 t407) := ⟨by rw [← hq_]; exact (by (with_reducible repeat (first | apply Kd.S_alloc | apply Kd.S_drewN | apply Kd.S_drew)); exact HO_6.out)⟩; replace BK405 : Aside0 (wr.heap[gb405]? = some (.cells #[.int .i64 0, .int .i64 0] 30 (0, 0))) := ⟨by rw [← hq_]; exact (Zb BK405)⟩; replace HB : Aside0 (Below w.heap.size w wr) := ⟨by rw [← hq_]; exact (Zl HB)⟩; clear hq_))) | ((with_reducible refine gate_callee (f := 44) rfl ?_); refine Ga (some 41) Try.func44 #[.int .i64 x7_1, .int .i64 t418] (h := ?_); (with_reducible refine (spec_chRatio.calls k1 x7_1 t418 t419 t420 _ A20.out).mono ?_); rintro e w21 ⟨rfl, hb⟩; refine ⟨_, rfl, ?_⟩; replace HO_6 := Zm (Kd.S_below (by (with_reducible repeat (first | apply Kd.S_alloc | apply Kd.S_drewN | apply Kd.S_drew)); exact HO_6.out) hb); replace HO_19 := Zo HO_19 hb; replace BK405 := Zk BK405 hb; replace HB := Zh HB hb; (try clear hb); (try clear hb2); (try clear hk); (try clear hi); have hcz22_0 : w21.cell? ⟨gb405, 0, none⟩ = some (.int .i64 0) := (blk_cell BK405.out 0).trans rfl; have hcz22_1 : w21.cell? ⟨gb405, 1, none⟩ = some (.int .i64 0) := (blk_cell BK405.out 1).trans rfl; have hfz22_0 := blk_frozen BK405.out 0; have hfz22_1 := blk_frozen BK405.out 1))
     refine bodyPost_ret (results_ct rfl _ _ gb405 30 #[.int .i64 t419, .int .i64 t420] (0, 0) _ rfl (by (with_reducible repeat (first | refine blk_drewN ?_ _ | refine blk_drew ?_ | refine blk_alloc ?_ _)); refine blk_put (cs := #[.int .i64 t419, .int .i64 0]) ?_ 1 _ rfl; (with_reducible repeat (first | refine blk_drewN ?_ _ | refine blk_drew ?_ | refine blk_alloc ?_ _)); refine blk_put (cs := #[.int .i64 0, .int .i64 0]) ?_ 0 _ rfl; (with_reducible repeat (first | refine blk_drewN ?_ _ | refine blk_drew ?_ | refine blk_alloc ?_ _)); exact BK405.out) Try.underlying30 rfl (by kernel_rfl)) rfl ?_
     exact ⟨by first | rfl | (simp [errW_none, errW_some] <;> rfl) | (simp [*, errW_none, errW_some] <;> rfl), Zl HB⟩
 ·
  replace c4 := Bool.eq_false_iff.mpr c4
  subst c4
  rw [if_neg Bool.false_ne_true] at H
  simp only [Option.some.injEq, Prod.mk.injEq] at H
  obtain ⟨rfl, rfl, rfl⟩ := H
  go_enter Try.func18, Try.ntmps18
  go_wp2_with (first | ((with_reducible refine gate_dst (N := 4) rfl ?_); refine box_event ?hg (N := 4) ?hd (cs := #[.int .i64 0, .int .i64 0]) (t := 30) ?hr ?_; (case hd => rfl); (case hg => rfl); (case hr => first | (go_simp; done) | (go_simp; rfl)); intro gb405 hg w23 hbox hb; have BK405 := Zm (hbox); have GW405 := Zx hg HB; have GE405 := Zx hg HB; replace HB := Zh HB hb; clear hb hbox hg) | ((with_reducible refine gate_callee (f := 38) rfl ?_); refine Ga (some 12) Try.func38 #[.int .i64 a0, .int .i64 a1] (h := ?_); (with_reducible refine (spec_chResults.calls a0 a1 false _ A3.out).mono ?_); rintro e w' ⟨rfl, ⟨nd, rfl⟩⟩; refine ⟨_, rfl, ?_⟩; (try (rw [drewN_self w23]; generalize hq_ : World.drewN w23 _ = w23; replace BK405 : Aside0 (w23.heap[gb405]? = some (.cells #[.int .i64 0, .int .i64 0] 30 (0, 0))) := ⟨by rw [← hq_]; exact (Zb BK405)⟩; replace HB : Aside0 (Below w.heap.size w w23) := ⟨by rw [← hq_]; exact (Zl HB)⟩; clear hq_)); have hcz24_0 : w23.cell? ⟨gb405, 0, none⟩ = some (.int .i64 0) := (blk_cell BK405.out 0).trans rfl; have hcz24_1 : w23.cell? ⟨gb405, 1, none⟩ = some (.int .i64 0) := (blk_cell BK405.out 1).trans rfl; have hfz24_0 := blk_frozen BK405.out 0; have hfz24_1 := blk_frozen BK405.out 1))
  refine bodyPost_ret (results_ct rfl _ _ gb405 30 #[.int .i64 0, .int .i64 0] (0, 0) _ rfl (by (with_reducible repeat (first | refine blk_drewN ?_ _ | refine blk_drew ?_ | refine blk_alloc ?_ _)); refine blk_put (cs := #[.int .i64 0, .int .i64 0]) ?_ 1 _ rfl; (with_reducible repeat (first | refine blk_drewN ?_ _ | refine blk_drew ?_ | refine blk_alloc ?_ _)); refine blk_put (cs := #[.int .i64 0, .int .i64 0]) ?_ 0 _ rfl; (with_reducible repeat (first | refine blk_drewN ?_ _ | refine blk_drew ?_ | refine blk_alloc ?_ _)); exact BK405.out) Try.underlying30 rfl (by kernel_rfl)) rfl ?_
  exact ⟨by first | rfl | (simp [errW_none, errW_some] <;> rfl) | (simp [*, errW_none, errW_some] <;> rfl), Zl HB⟩

def spec_CountOrdersMade.l0 : Nat → Int → List Int → Int → Int → Option (Int × Bool)
 | 0, _, _, _, _ => none
 | k + 1, x6, x15, x16, x17 => if x17 < x16 then (if 0 ≤ x17 then (if x17 < (x15.length : Int) then (if (rd x15 x17) > 0 then (spec_CountOrdersMade.l0 k (wrap64 (x6 + 1)) x15 x16 (wrap64 (x17 + 1))) else (spec_CountOrdersMade.l0 k x6 x15 x16 (wrap64 (x17 + 1)))) else (none)) else (none)) else (some (x6, true))
def spec_CountOrdersMade.f (k : Nat) (a0 : Int) (a1 : Int) : Option (Int × Bool) := (spec_chResults.f a0 a1).bind fun t421 => (if t421 = true then ((spec_chOrders.f k a0 a1).bind fun t422 => (spec_CountOrdersMade.l0 k 0 t422 (t422.length : Int) 0)) else (some (0, false)))
theorem spec_CountOrdersMade.mono_l : ∀ k, (∀ y0 y1 y2 y3, LeO (spec_CountOrdersMade.l0 k y0 y1 y2 y3) (spec_CountOrdersMade.l0 (k + 1) y0 y1 y2 y3))
 | 0 => fun _ _ _ _ r h => by simp [spec_CountOrdersMade.l0] at h
 | k + 1 => by
  have ih0 := spec_CountOrdersMade.mono_l k
  ·
   intro y0 y1 y2 y3
   unfold spec_CountOrdersMade.l0
   repeat' first
   | (with_reducible exact ih0 _ _ _ _)
   | (with_reducible exact spec_chOrders.mono _ _ _)
   | (with_reducible exact LeO.refl _)
   | (with_reducible exact LeO.none _)
   | (with_reducible refine LeO.ite ?_ ?_)
   | (with_reducible refine LeO.bind ?_ (fun _ => ?_))
   | exact ih0 _ _ _ _
   | exact spec_chOrders.mono _ _ _
   | exact LeO.none _
   | refine LeO.ite ?_ ?_
   | refine LeO.bind ?_ (fun _ => ?_)
set_option maxHeartbeats 8000000 in
set_option maxRecDepth 100000 in
theorem spec_CountOrdersMade.calls (k : Nat) (a0 : Int) (a1 : Int) (r1 : Int) (r2 : Bool) (w : World) (h : spec_CountOrdersMade.f k a0 a1 = some (r1, r2)) :
  Calls Try.prog 20 #[.int .i64 a0, .int .i64 a1] w fun e w' => e = .returned (.tuple #[.int .i64 r1, .bool r2]) ∧ Below w.heap.size w w' := by
 (have HB := Zm (Below.refl w.heap.size w); have H : ((spec_chResults.f a0 a1).bind fun t421 => (if t421 = true then ((spec_chOrders.f k a0 a1).bind fun t422 => (spec_CountOrdersMade.l0 k 0 t422 (t422.length : Int) 0)) else (some (0, false)))) = some (r1, r2) := h; clear h); replace H := Option.bind_eq_some_iff.mp H; obtain ⟨t421, A30, H⟩ := H; (replace H : (if t421 = true then ((spec_chOrders.f k a0 a1).bind fun t422 => (spec_CountOrdersMade.l0 k 0 t422 (t422.length : Int) 0)) else (some (0, false))) = some (r1, r2) := H); have A3 := Aside0.mk A30; clear A30
 by_cases c4 : t421 = true
 ·
  subst c4
  rw [if_pos rfl] at H
  replace H := Option.bind_eq_some_iff.mp H; obtain ⟨t422, A50, H⟩ := H; replace H : (spec_CountOrdersMade.l0 k 0 t422 (t422.length : Int) 0) = some (r1, r2) := H; have A5 := Aside0.mk A50; clear A50; have H' := Aside0.mk H; clear H
  go_enter Try.func20, Try.ntmps20
  go_wp2_with (first | ((with_reducible refine gate_callee (f := 38) rfl ?_); refine Ga (some 11) Try.func38 #[.int .i64 a0, .int .i64 a1] (h := ?_); (with_reducible refine (spec_chResults.calls a0 a1 true _ A3.out).mono ?_); rintro e w' ⟨rfl, ⟨nd, rfl⟩⟩; refine ⟨_, rfl, ?_⟩) | ((with_reducible refine gate_callee (f := 40) rfl ?_); refine Ga (some 15) Try.func40 #[.int .i64 a0, .int .i64 a1] (h := ?_); (with_reducible refine (spec_chOrders.calls k a0 a1 t422 _ A5.out).mono ?_); rintro e w6 ⟨v423, rfl, ho0, hb⟩; refine ⟨_, rfl, ?_⟩; have HO424 := Zj ho0 HB; replace HB := Zh HB hb; (try clear hb); (try clear ho0); obtain ⟨Ao7, co7, eo7⟩ := Kd.R_slice HO424.out; subst eo7))
  go_loopg [6, 17] k (fun kq v6 v17 w' => ∃ (x6_1 : Int) (x17_1 : Int), v6 = .int .i64 x6_1 ∧ v17 = .int .i64 x17_1 ∧ Aside0 (spec_CountOrdersMade.l0 kq x6_1 t422 (t422.length : Int) x17_1 = some (r1, r2)) ∧ Aside0 (kq ≤ k) ∧ Aside0 (Kd.R (Kd.int .i64) 3 w' w.heap.size (fun _ => True) (.slice Ao7 t422.length co7) t422) ∧ Aside0 (Below w.heap.size w w'))
  case atStart => exact ⟨(0), (0), (by first | rfl | (simp; done) | (simp [*]; done)), (by first | rfl | (simp; done) | (simp [*]; done)), H', ⟨Nat.le_refl _⟩, ⟨Zr HO424⟩, ⟨Zl HB⟩⟩
  case round =>
   (clear H'; (try clear c2); (try clear p2); (try clear c3); (try clear c4)); obtain ⟨x6_1, x17_1, rfl, rfl, HA, HK1, HO_15, HB⟩ := hrel
   cases gk with
   | zero => exact absurd HA.out (by simp [spec_CountOrdersMade.l0])
   | succ k1 =>
    have H := HA.out; clear HA
    simp only [spec_CountOrdersMade.l0] at H
    by_cases c8 : x17_1 < (t422.length : Int)
    ·
     rw [if_pos c8] at H; have c8b0 : decide (x17_1 < (t422.length : Int)) = true := decide_eq_true c8; clear c8
     by_cases c9 : 0 ≤ x17_1
     ·
      rw [if_pos c9] at H; have c9b0 : decide (0 ≤ x17_1) = true := decide_eq_true c9; clear c9
      by_cases c10 : x17_1 < (t422.length : Int)
      ·
       rw [if_pos c10] at H; have c10b0 : decide (x17_1 < (t422.length : Int)) = true := decide_eq_true c10; clear c10
       by_cases c11 : (rd t422 x17_1) > 0
       ·
        rw [if_pos c11] at H; have c11b0 : decide (0 < (rd t422 x17_1)) = true := decide_eq_true c11; clear c11; have H' := Aside0.mk H; clear H; have p425 : 0 ≤ (x17_1 : Int) := of_decide_eq_true (by first | (with_reducible assumption) | assumption); have q425 : x17_1 < (t422.length : Int) := of_decide_eq_true (by first | (with_reducible assumption) | assumption); obtain ⟨ad425, e425, hx425_0⟩ := Kd.at_int (Kd.R_reads' HO_15.out).2.2 x17_1 p425 q425
        cases e425
        replace p425 := eq_true p425
        replace q425 := eq_true q425
        go_wp2
        go_roundg k1
        case measure => have := HK1.out; omega
        case rel => exact ⟨(wrap64 (x6_1 + 1)), (wrap64 (x17_1 + 1)), (by first | rfl | (simp; done) | (simp [*]; done)), (by first | rfl | (simp; done) | (simp [*]; done)), H', ⟨by have := HK1.out; omega⟩, ⟨Zr HO_15⟩, ⟨Zl HB⟩⟩
       ·
        rw [if_neg c11] at H; have c11b0 : decide (0 < (rd t422 x17_1)) = false := decide_eq_false c11; clear c11; have H' := Aside0.mk H; clear H; have p425 : 0 ≤ (x17_1 : Int) := of_decide_eq_true (by first | (with_reducible assumption) | assumption); have q425 : x17_1 < (t422.length : Int) := of_decide_eq_true (by first | (with_reducible assumption) | assumption); obtain ⟨ad425, e425, hx425_0⟩ := Kd.at_int (Kd.R_reads' HO_15.out).2.2 x17_1 p425 q425
        cases e425
        replace p425 := eq_true p425
        replace q425 := eq_true q425
        go_wp2
        go_roundg k1
        case measure => have := HK1.out; omega
        case rel => exact ⟨(x6_1), (wrap64 (x17_1 + 1)), (by first | rfl | (simp; done) | (simp [*]; done)), (by first | rfl | (simp; done) | (simp [*]; done)), H', ⟨by have := HK1.out; omega⟩, ⟨Zr HO_15⟩, ⟨Zl HB⟩⟩
      ·
       rw [if_neg c10] at H
       exact absurd H (by simp)
     ·
      rw [if_neg c9] at H
      exact absurd H (by simp)
    ·
     rw [if_neg c8] at H; have c8b0 : decide (x17_1 < (t422.length : Int)) = false := decide_eq_false c8; clear c8
     simp only [Option.some.injEq, Prod.mk.injEq] at H
     obtain ⟨rfl, rfl⟩ := H
     go_wp2
     go_ret2
     exact ⟨by first | rfl | (simp [errW_none, errW_some] <;> rfl) | (simp [*, errW_none, errW_some] <;> rfl), Zl HB⟩
 ·
  replace c4 := Bool.eq_false_iff.mpr c4
  subst c4
  rw [if_neg Bool.false_ne_true] at H
  simp only [Option.some.injEq, Prod.mk.injEq] at H
  obtain ⟨rfl, rfl⟩ := H
  go_enter Try.func20, Try.ntmps20
  go_wp2_with (first | ((with_reducible refine gate_callee (f := 38) rfl ?_); refine Ga (some 11) Try.func38 #[.int .i64 a0, .int .i64 a1] (h := ?_); (with_reducible refine (spec_chResults.calls a0 a1 false _ A3.out).mono ?_); rintro e w' ⟨rfl, ⟨nd, rfl⟩⟩; refine ⟨_, rfl, ?_⟩))
  go_ret2
  exact ⟨by first | rfl | (simp [errW_none, errW_some] <;> rfl) | (simp [*, errW_none, errW_some] <;> rfl), Zl HB⟩

def spec_LikeliestOrder.l0 : Nat → Int → List Int → Int → List Int → Int → Int → Option (List Int × Bool)
 | 0, _, _, _, _, _, _ => none
 | k + 1, x0, x6, x7, x17, x18, x19 => if x19 < x18 then (if 0 ≤ x19 then (if x19 < (x17.length : Int) then (if 0 ≤ x7 then (if x7 < (x6.length : Int) then (if (rd x17 x19) > (rd x6 x7) then (spec_LikeliestOrder.l0 k x0 x6 x19 x17 x18 (wrap64 (x19 + 1))) else (spec_LikeliestOrder.l0 k x0 x6 x7 x17 x18 (wrap64 (x19 + 1)))) else (none)) else (none)) else (none)) else (none)) else ((spec_alOrders.f k x0).bind fun t432 => (if 0 ≤ x7 then (if x7 < (t432.length : Int) then (some (rd_L2 t432 x7, true)) else (none)) else (none)))
def spec_LikeliestOrder.f (k : Nat) (a0 : Int) (a1 : Int) : Option (List Int × Bool) := (spec_chResults.f a0 a1).bind fun t426 => (if t426 = true then ((spec_chOrders.f k a0 a1).bind fun t427 => (spec_LikeliestOrder.l0 k a0 t427 0 t427 (t427.length : Int) 0)) else (some (([] : List Int), false)))
set_option maxHeartbeats 8000000 in
set_option maxRecDepth 100000 in
theorem spec_LikeliestOrder.calls (k : Nat) (a0 : Int) (a1 : Int) (r1 : List Int) (r2 : Bool) (w : World) (h : spec_LikeliestOrder.f k a0 a1 = some (r1, r2)) :
  Calls Try.prog 21 #[.int .i64 a0, .int .i64 a1] w fun e w' => ∃ v0_ : Value, e = .returned (.tuple #[v0_, .bool r2]) ∧ Kd.R (Kd.int .i64) 3 w' w.heap.size (fun _ => True) v0_ r1 ∧ Below w.heap.size w w' := by
 (have HB := Zm (Below.refl w.heap.size w); have H : ((spec_chResults.f a0 a1).bind fun t426 => (if t426 = true then ((spec_chOrders.f k a0 a1).bind fun t427 => (spec_LikeliestOrder.l0 k a0 t427 0 t427 (t427.length : Int) 0)) else (some (([] : List Int), false)))) = some (r1, r2) := h; clear h); replace H := Option.bind_eq_some_iff.mp H; obtain ⟨t426, A30, H⟩ := H; (replace H : (if t426 = true then ((spec_chOrders.f k a0 a1).bind fun t427 => (spec_LikeliestOrder.l0 k a0 t427 0 t427 (t427.length : Int) 0)) else (some (([] : List Int), false))) = some (r1, r2) := H); have A3 := Aside0.mk A30; clear A30
 by_cases c4 : t426 = true
 ·
  subst c4
  rw [if_pos rfl] at H
  replace H := Option.bind_eq_some_iff.mp H; obtain ⟨t427, A50, H⟩ := H; replace H : (spec_LikeliestOrder.l0 k a0 t427 0 t427 (t427.length : Int) 0) = some (r1, r2) := H; have A5 := Aside0.mk A50; clear A50; have H' := Aside0.mk H; clear H
  go_enter Try.func21, Try.ntmps21
  go_wp2_with (first | ((with_reducible refine gate_callee (f := 38) rfl ?_); refine Ga (some 12) Try.func38 #[.int .i64 a0, .int .i64 a1] (h := ?_); (with_reducible refine (spec_chResults.calls a0 a1 true _ A3.out).mono ?_); rintro e w' ⟨rfl, ⟨nd, rfl⟩⟩; refine ⟨_, rfl, ?_⟩) | ((with_reducible refine gate_callee (f := 40) rfl ?_); refine Ga (some 16) Try.func40 #[.int .i64 a0, .int .i64 a1] (h := ?_); (with_reducible refine (spec_chOrders.calls k a0 a1 t427 _ A5.out).mono ?_); rintro e w6 ⟨v428, rfl, ho0, hb⟩; refine ⟨_, rfl, ?_⟩; have HO429 := Zj ho0 HB; replace HB := Zh HB hb; (try clear hb); (try clear ho0); obtain ⟨Ao7, co7, eo7⟩ := Kd.R_slice HO429.out; subst eo7))
  go_loopg [7, 19] k (fun kq v7 v19 w' => ∃ (x7_1 : Int) (x19_1 : Int), v7 = .int .i64 x7_1 ∧ v19 = .int .i64 x19_1 ∧ Aside0 (spec_LikeliestOrder.l0 kq a0 t427 x7_1 t427 (t427.length : Int) x19_1 = some (r1, r2)) ∧ Aside0 (kq ≤ k) ∧ Aside0 (Kd.R (Kd.int .i64) 3 w' w.heap.size (fun _ => True) (.slice Ao7 t427.length co7) t427) ∧ Aside0 (Kd.R (Kd.int .i64) 3 w' w.heap.size (fun _ => True) (.slice Ao7 t427.length co7) t427) ∧ Aside0 (Below w.heap.size w w'))
  case atStart => exact ⟨(0), (0), (by first | rfl | (simp; done) | (simp [*]; done)), (by first | rfl | (simp; done) | (simp [*]; done)), H', ⟨Nat.le_refl _⟩, ⟨Zr HO429⟩, ⟨Zr HO429⟩, ⟨Zl HB⟩⟩
  case round =>
   (clear H'; (try clear c2); (try clear p2); (try clear c3); (try clear c4)); obtain ⟨x7_1, x19_1, rfl, rfl, HA, HK1, HO_6, HO_17, HB⟩ := hrel
   cases gk with
   | zero => exact absurd HA.out (by simp [spec_LikeliestOrder.l0])
   | succ k1 =>
    have H := HA.out; clear HA
    simp only [spec_LikeliestOrder.l0] at H
    by_cases c8 : x19_1 < (t427.length : Int)
    ·
     rw [if_pos c8] at H; have c8b0 : decide (x19_1 < (t427.length : Int)) = true := decide_eq_true c8; clear c8
     by_cases c9 : 0 ≤ x19_1
     ·
      rw [if_pos c9] at H; have c9b0 : decide (0 ≤ x19_1) = true := decide_eq_true c9; clear c9
      by_cases c10 : x19_1 < (t427.length : Int)
      ·
       rw [if_pos c10] at H; have c10b0 : decide (x19_1 < (t427.length : Int)) = true := decide_eq_true c10; clear c10
       by_cases c11 : 0 ≤ x7_1
       ·
        rw [if_pos c11] at H; have c11b0 : decide (0 ≤ x7_1) = true := decide_eq_true c11; clear c11
        by_cases c12 : x7_1 < (t427.length : Int)
        ·
         rw [if_pos c12] at H; have c12b0 : decide (x7_1 < (t427.length : Int)) = true := decide_eq_true c12; clear c12
         by_cases c13 : (rd t427 x19_1) > (rd t427 x7_1)
         ·
          rw [if_pos c13] at H; have c13b0 : decide ((rd t427 x7_1) < (rd t427 x19_1)) = true := decide_eq_true c13; clear c13; have H' := Aside0.mk H; clear H; have p430 : 0 ≤ (x19_1 : Int) := of_decide_eq_true (by first | (with_reducible assumption) | assumption); have q430 : x19_1 < (t427.length : Int) := of_decide_eq_true (by first | (with_reducible assumption) | assumption); obtain ⟨ad430, e430, hx430_0⟩ := Kd.at_int (Kd.R_reads' HO_17.out).2.2 x19_1 p430 q430
          cases e430
          replace p430 := eq_true p430
          replace q430 := eq_true q430
          have p431 : 0 ≤ (x7_1 : Int) := of_decide_eq_true (by first | (with_reducible assumption) | assumption); have q431 : x7_1 < (t427.length : Int) := of_decide_eq_true (by first | (with_reducible assumption) | assumption)
          obtain ⟨ad431, e431, hx431_0⟩ := Kd.at_int (Kd.R_reads' HO_6.out).2.2 x7_1 p431 q431; obtain rfl : ad430 = ad431 := (by injection e431)
          replace p431 := eq_true p431
          replace q431 := eq_true q431
          go_wp2
          go_roundg k1
          case measure => have := HK1.out; omega
          case rel => exact ⟨(x19_1), (wrap64 (x19_1 + 1)), (by first | rfl | (simp; done) | (simp [*]; done)), (by first | rfl | (simp; done) | (simp [*]; done)), H', ⟨by have := HK1.out; omega⟩, ⟨Zr HO_6⟩, ⟨Zr HO_17⟩, ⟨Zl HB⟩⟩
         ·
          rw [if_neg c13] at H; have c13b0 : decide ((rd t427 x7_1) < (rd t427 x19_1)) = false := decide_eq_false c13; clear c13; have H' := Aside0.mk H; clear H; have p430 : 0 ≤ (x19_1 : Int) := of_decide_eq_true (by first | (with_reducible assumption) | assumption); have q430 : x19_1 < (t427.length : Int) := of_decide_eq_true (by first | (with_reducible assumption) | assumption); obtain ⟨ad430, e430, hx430_0⟩ := Kd.at_int (Kd.R_reads' HO_17.out).2.2 x19_1 p430 q430
          cases e430
          replace p430 := eq_true p430
          replace q430 := eq_true q430
          have p431 : 0 ≤ (x7_1 : Int) := of_decide_eq_true (by first | (with_reducible assumption) | assumption); have q431 : x7_1 < (t427.length : Int) := of_decide_eq_true (by first | (with_reducible assumption) | assumption)
          obtain ⟨ad431, e431, hx431_0⟩ := Kd.at_int (Kd.R_reads' HO_6.out).2.2 x7_1 p431 q431; obtain rfl : ad430 = ad431 := (by injection e431)
          replace p431 := eq_true p431
          replace q431 := eq_true q431
          go_wp2
          go_roundg k1
          case measure => have := HK1.out; omega
          case rel => exact ⟨(x7_1), (wrap64 (x19_1 + 1)), (by first | rfl | (simp; done) | (simp [*]; done)), (by first | rfl | (simp; done) | (simp [*]; done)), H', ⟨by have := HK1.out; omega⟩, ⟨Zr HO_6⟩, ⟨Zr HO_17⟩, ⟨Zl HB⟩⟩
        ·
         rw [if_neg c12] at H
         exact absurd H (by simp)
       ·
        rw [if_neg c11] at H
        exact absurd H (by simp)
      ·
       rw [if_neg c10] at H
       exact absurd H (by simp)
     ·
      rw [if_neg c9] at H
      exact absurd H (by simp)
    ·
     rw [if_neg c8] at H; have c8b0 : decide (x19_1 < (t427.length : Int)) = false := decide_eq_false c8; clear c8; replace H := Option.bind_eq_some_iff.mp H; obtain ⟨t432, A140, H⟩ := H; replace H : (if 0 ≤ x7_1 then (if x7_1 < (t432.length : Int) then (some (rd_L2 t432 x7_1, true)) else (none)) else (none)) = some (r1, r2) := H; have A14 := Aside0.mk A140; clear A140
     by_cases c15 : 0 ≤ x7_1
     ·
      rw [if_pos c15] at H; have c15b0 : decide (0 ≤ x7_1) = true := decide_eq_true c15; clear c15
      by_cases c16 : x7_1 < (t432.length : Int)
      ·
       rw [if_pos c16] at H; have c16b0 : decide (x7_1 < (t432.length : Int)) = true := decide_eq_true c16; clear c16
       simp only [Option.some.injEq, Prod.mk.injEq] at H
       obtain ⟨rfl, rfl⟩ := H
       go_wp2_with (first | ((with_reducible refine gate_callee (f := 55) rfl ?_); refine Ga (some 33) Try.func55 #[.int .i64 a0] (h := ?_); (with_reducible refine (spec_alOrders.calls k1 a0 t432 _ A14.out).mono ?_); rintro e w17 ⟨v433, rfl, ho0, hb⟩; refine ⟨_, rfl, ?_⟩; have HO434 := Zm (Kd.S_lower (Kd.S_new' (Kd.S_new' ho0 (Kd.R_lt (Zr HO_6))) (Kd.R_lt (Zr HO_17))) (below_size (Zl HB))); replace HO_6 := Zo HO_6 hb; replace HO_17 := Zo HO_17 hb; replace HB := Zh HB hb; (try clear hb); (try clear ho0); obtain ⟨Ao18, co18, eo18⟩ := Kd.S_slice HO434.out; subst eo18; have p435 : 0 ≤ (x7_1 : Int) := of_decide_eq_true (by first | (with_reducible assumption) | assumption); have q435 : x7_1 < (t432.length : Int) := of_decide_eq_true (by first | (with_reducible assumption) | assumption); obtain ⟨ad435, A435_0, c435_0, e435, hx435_0, hl435_0, hi435_0⟩ := at_L2 (Kd.S_reads' HO434.out).2.2 x7_1 p435 q435; cases e435; obtain ⟨ce435, hce435, hMe435, hcc435⟩ := Kd.S_get HO434.out [] x7_1 p435 (by first | exact q435 | exact of_decide_eq_true (by first | (with_reducible assumption) | assumption) | (have e_ := (Kd.S_reads' HO434.out).1; omega)); obtain ⟨ve435_0, rfl, ge435_0⟩ := hMe435; have hv435_0 := hcc435 0 _ rfl; rw [Nat.add_zero, show ((Kd.slice 3 (Kd.int .i64))).sz = 1 from rfl, Nat.mul_one] at hv435_0; replace hv435_0 := Option.some.inj (hv435_0.symm.trans hx435_0); rw [hv435_0] at ge435_0; have HL435_0 := Zm (show Kd.R (Kd.int .i64) 3 _ _ _ _ (rd_L2 t432 x7_1) from ge435_0); clear hv435_0 ge435_0 hcc435 hce435; have HR435_0 := Aside0.mk hi435_0; have HC435_0 := Aside0.mk hl435_0; clear hi435_0 hl435_0; replace p435 := eq_true p435; replace q435 := eq_true q435))
       go_ret2
       exact ⟨_, by first | rfl | (simp [errW_none, errW_some] <;> rfl) | (simp [*, errW_none, errW_some] <;> rfl), Zc HL435_0, Zl HB⟩
      ·
       rw [if_neg c16] at H
       exact absurd H (by simp)
     ·
      rw [if_neg c15] at H
      exact absurd H (by simp)
 ·
  replace c4 := Bool.eq_false_iff.mpr c4
  subst c4
  rw [if_neg Bool.false_ne_true] at H
  simp only [Option.some.injEq, Prod.mk.injEq] at H
  obtain ⟨rfl, rfl⟩ := H
  go_enter Try.func21, Try.ntmps21
  go_wp2_with (first | ((with_reducible refine gate_callee (f := 38) rfl ?_); refine Ga (some 12) Try.func38 #[.int .i64 a0, .int .i64 a1] (h := ?_); (with_reducible refine (spec_chResults.calls a0 a1 false _ A3.out).mono ?_); rintro e w' ⟨rfl, ⟨nd, rfl⟩⟩; refine ⟨_, rfl, ?_⟩))
  go_ret2
  exact ⟨_, by first | rfl | (simp [errW_none, errW_some] <;> rfl) | (simp [*, errW_none, errW_some] <;> rfl), by first | exact Kd.R_nil _ _ _ _ _ | exact Kd.N_nil _ _ _ _ _ | exact Kd.V_nil _ _ _ _ _ | exact Kd.Q_nil _ _ _ _ _ | exact Kd.S_nil _ _ _ _ _, Zl HB⟩

end Go.Proofs.Ytabobnlpcapohaa.Q
