/- Each function below comes to the Lean function beside it (theorems '.calls'); no condition beyond each theorem's own. Written by our program oprint.py over the kit's print. -/
import Derived.Test.YtnagcjhgojchlacQm0
import Derived.Test.YtnagcjhgojchlacQm5
import Derived.Test.YtnagcjhgojchlacQm6
import Derived.Test.YtnagcjhgojchlacQm9
import Derived.Test.YtnagcjhgojchlacQm7
import Derived.Shelf.Abstract
import Derived.Test.YtnagcjhgojchlacQm8
import Derived.WalkSpells
namespace Go.Proofs.Ytnagcjhgojchlac.Q
open Go.RowKit Go.Proofs.YtnagcjhgojchlacW.PrintWords Go.Proofs.YtnagcjhgojchlacW.PrintLast Go.Proofs.YtnagcjhgojchlacW.PrintMore
attribute [local go_sem] max2_int min2_int max_two min_two max_three min_three max_four min_four   -- for this text's walks alone
set_option linter.unusedVariables false
set_option linter.unusedSimpArgs false

/-! ### spec_IsSorting: function 12 -/
def spec_IsSorting.f (k : Nat) (a0_0 : Int) (l0_1 : List Int) : Option (Bool × Bool) := (spec_laGood.f k a0_0 l0_1).bind fun t403 => (if t403 = true then ((spec_soAll.f k a0_0 l0_1).bind fun t404 => (some (t404, true))) else (some (false, false)))
set_option maxHeartbeats 8000000 in
set_option maxRecDepth 100000 in
theorem spec_IsSorting.calls (k : Nat) (a0_0 : Int) (A0_1 : Option Addr) (c0_1 : Nat) (l0_1 : List Int) (r1 : Bool) (r2 : Bool) (w : World) (hr0_1 : Kd.C (Kd.int .i64) w A0_1 l0_1.length l0_1) (hc0_1 : l0_1.length ≤ c0_1) (h : spec_IsSorting.f k a0_0 l0_1 = some (r1, r2)) :
  Calls Try.prog 12 #[.agg #[.int .i64 a0_0, .slice A0_1 l0_1.length c0_1]] w fun e w' => e = .returned (.tuple #[.bool r1, .bool r2]) ∧ Below w.heap.size w w' := by
 have hu26 := Try.underlying26; have HR0_1 := Aside0.mk hr0_1; have HC0_1 := Aside0.mk hc0_1; clear hr0_1 hc0_1; have HB := Zm (Below.refl w.heap.size w); have H : ((spec_laGood.f k a0_0 l0_1).bind fun t403 => (if t403 = true then ((spec_soAll.f k a0_0 l0_1).bind fun t404 => (some (t404, true))) else (some (false, false)))) = some (r1, r2) := h; clear h
 replace H := Option.bind_eq_some_iff.mp H; obtain ⟨t403, A20, H⟩ := H; (replace H : (if t403 = true then ((spec_soAll.f k a0_0 l0_1).bind fun t404 => (some (t404, true))) else (some (false, false))) = some (r1, r2) := H); have A2 := Aside0.mk A20; clear A20
 by_cases c3 : t403 = true
 ·
  subst c3
  rw [if_pos rfl] at H
  replace H := Option.bind_eq_some_iff.mp H; obtain ⟨t404, A40, H⟩ := H; replace H : (some (t404, true)) = some (r1, r2) := H; have A4 := Aside0.mk A40; clear A40
  simp only [Option.some.injEq, Prod.mk.injEq] at H
  obtain ⟨rfl, rfl⟩ := H
  go_enter Try.func12, Try.ntmps12
  go_wp2_with (first | ((with_reducible refine gate_dst (N := 1) rfl ?_); refine box_event ?hg (N := 1) ?hd (cs := #[.int .i64 a0_0, .slice A0_1 l0_1.length c0_1]) (t := 26) ?hr ?_; (case hd => rfl); (case hg => rfl); (case hr => first | (go_simp; done) | (go_simp; rfl)); intro gb402 hg w5 hbox hb; have BK402 := Zm (hbox); have GW402 := Zx hg HB; have GE402 := Zx hg HB; replace HB := Zh HB hb; clear hb hbox hg; have hcz6_0 : w5.cell? ⟨gb402, 0, none⟩ = some (.int .i64 a0_0) := (blk_cell BK402.out 0).trans rfl; have hcz6_1 : w5.cell? ⟨gb402, 1, none⟩ = some (.slice A0_1 l0_1.length c0_1) := (blk_cell BK402.out 1).trans rfl; have hfz6_0 := blk_frozen BK402.out 0; have hfz6_1 := blk_frozen BK402.out 1) | ((with_reducible refine gate_callee (f := 38) rfl ?_); refine Ga (some 5) Try.func38 #[.agg #[.int .i64 a0_0, .slice A0_1 l0_1.length c0_1]] (h := ?_); (with_reducible refine (spec_laGood.calls k a0_0 _ _ l0_1 true _ ?side1 ?side2 A2.out).mono ?_); (case side1 => repeat (first | exact (Kd.C_below HR0_1.out HB.out) | (with_reducible refine Kd.C_alloc ?_ _) | (with_reducible refine Kd.C_drewN ?_ _) | (with_reducible refine Kd.C_drew ?_))); (case side2 => exact HC0_1.out); rintro e w7 ⟨rfl, hb⟩; refine ⟨_, rfl, ?_⟩; replace BK402 := Zk BK402 hb; replace HB := Zh HB hb; (try clear hb); (try clear hb2); (try clear hk); (try clear hi); have hcz8_0 : w7.cell? ⟨gb402, 0, none⟩ = some (.int .i64 a0_0) := (blk_cell BK402.out 0).trans rfl; have hcz8_1 : w7.cell? ⟨gb402, 1, none⟩ = some (.slice A0_1 l0_1.length c0_1) := (blk_cell BK402.out 1).trans rfl; have hfz8_0 := blk_frozen BK402.out 0; have hfz8_1 := blk_frozen BK402.out 1) | ((with_reducible refine gate_callee (f := 39) rfl ?_); refine Ga (some 11) Try.func39 #[.int .i64 a0_0, .slice A0_1 l0_1.length c0_1] (h := ?_); (with_reducible refine (spec_soAll.calls k a0_0 _ _ l0_1 t404 _ ?side1 ?side2 A4.out).mono ?_); (case side1 => repeat (first | exact (Kd.C_below HR0_1.out HB.out) | (with_reducible refine Kd.C_alloc ?_ _) | (with_reducible refine Kd.C_drewN ?_ _) | (with_reducible refine Kd.C_drew ?_))); (case side2 => exact HC0_1.out); rintro e w9 ⟨rfl, hb⟩; refine ⟨_, rfl, ?_⟩; replace BK402 := Zk BK402 hb; replace HB := Zh HB hb; (try clear hb); (try clear hb2); (try clear hk); (try clear hi)))
  go_ret2
  exact ⟨by first | rfl | (simp [errW_none, errW_some] <;> rfl) | (simp [*, errW_none, errW_some] <;> rfl), Zl HB⟩
 ·
  replace c3 := Bool.eq_false_iff.mpr c3
  subst c3
  rw [if_neg Bool.false_ne_true] at H
  simp only [Option.some.injEq, Prod.mk.injEq] at H
  obtain ⟨rfl, rfl⟩ := H
  go_enter Try.func12, Try.ntmps12
  go_wp2_with (first | ((with_reducible refine gate_dst (N := 1) rfl ?_); refine box_event ?hg (N := 1) ?hd (cs := #[.int .i64 a0_0, .slice A0_1 l0_1.length c0_1]) (t := 26) ?hr ?_; (case hd => rfl); (case hg => rfl); (case hr => first | (go_simp; done) | (go_simp; rfl)); intro gb402 hg w10 hbox hb; have BK402 := Zm (hbox); have GW402 := Zx hg HB; have GE402 := Zx hg HB; replace HB := Zh HB hb; clear hb hbox hg; have hcz11_0 : w10.cell? ⟨gb402, 0, none⟩ = some (.int .i64 a0_0) := (blk_cell BK402.out 0).trans rfl; have hcz11_1 : w10.cell? ⟨gb402, 1, none⟩ = some (.slice A0_1 l0_1.length c0_1) := (blk_cell BK402.out 1).trans rfl; have hfz11_0 := blk_frozen BK402.out 0; have hfz11_1 := blk_frozen BK402.out 1) | ((with_reducible refine gate_callee (f := 38) rfl ?_); refine Ga (some 5) Try.func38 #[.agg #[.int .i64 a0_0, .slice A0_1 l0_1.length c0_1]] (h := ?_); (with_reducible refine (spec_laGood.calls k a0_0 _ _ l0_1 false _ ?side1 ?side2 A2.out).mono ?_); (case side1 => repeat (first | exact (Kd.C_below HR0_1.out HB.out) | (with_reducible refine Kd.C_alloc ?_ _) | (with_reducible refine Kd.C_drewN ?_ _) | (with_reducible refine Kd.C_drew ?_))); (case side2 => exact HC0_1.out); rintro e w12 ⟨rfl, hb⟩; refine ⟨_, rfl, ?_⟩; replace BK402 := Zk BK402 hb; replace HB := Zh HB hb; (try clear hb); (try clear hb2); (try clear hk); (try clear hi)))
  go_ret2
  exact ⟨by first | rfl | (simp [errW_none, errW_some] <;> rfl) | (simp [*, errW_none, errW_some] <;> rfl), Zl HB⟩

/-! ### impl_IsLadder: function 13 -/
def impl_IsLadder.f (a0_0 : Int) (l0_1 : List Int) : Option (Bool) := (impl_isLadder.f a0_0 l0_1).bind fun t406 => (some t406)
set_option maxHeartbeats 8000000 in
set_option maxRecDepth 100000 in
theorem impl_IsLadder.calls (a0_0 : Int) (A0_1 : Option Addr) (c0_1 : Nat) (l0_1 : List Int) (r : Bool) (w : World) (hr0_1 : Kd.C (Kd.int .i64) w A0_1 l0_1.length l0_1) (hc0_1 : l0_1.length ≤ c0_1) (h : impl_IsLadder.f a0_0 l0_1 = some r) :
  Calls Try.prog 13 #[.agg #[.int .i64 a0_0, .slice A0_1 l0_1.length c0_1]] w fun e w' => e = .returned (.bool r) ∧ Below w.heap.size w w' := by
 have hu26 := Try.underlying26; have HR0_1 := Aside0.mk hr0_1; have HC0_1 := Aside0.mk hc0_1; clear hr0_1 hc0_1; have HB := Zm (Below.refl w.heap.size w); have H : ((impl_isLadder.f a0_0 l0_1).bind fun t406 => (some t406)) = some r := h; clear h
 replace H := Option.bind_eq_some_iff.mp H; obtain ⟨t406, A20, H⟩ := H; (try dsimp only at H); have A2 := Aside0.mk A20; clear A20; obtain rfl := Option.some.inj H
 go_enter Try.func13, Try.ntmps13
 go_wp2_with (first | ((with_reducible refine gate_dst (N := 1) rfl ?_); refine box_event ?hg (N := 1) ?hd (cs := #[.int .i64 a0_0, .slice A0_1 l0_1.length c0_1]) (t := 26) ?hr ?_; (case hd => rfl); (case hg => rfl); (case hr => first | (go_simp; done) | (go_simp; rfl)); intro gb405 hg w3 hbox hb; have BK405 := Zm (hbox); have GW405 := Zx hg HB; have GE405 := Zx hg HB; replace HB := Zh HB hb; clear hb hbox hg; have hcz4_0 : w3.cell? ⟨gb405, 0, none⟩ = some (.int .i64 a0_0) := (blk_cell BK405.out 0).trans rfl; have hcz4_1 : w3.cell? ⟨gb405, 1, none⟩ = some (.slice A0_1 l0_1.length c0_1) := (blk_cell BK405.out 1).trans rfl; have hfz4_0 := blk_frozen BK405.out 0; have hfz4_1 := blk_frozen BK405.out 1) | ((with_reducible refine gate_callee (f := 31) rfl ?_); refine Ga (some 4) Try.func31 #[.agg #[.int .i64 a0_0, .slice A0_1 l0_1.length c0_1]] (h := ?_); (with_reducible refine (impl_isLadder.calls a0_0 _ _ l0_1 t406 _ ?side1 ?side2 A2.out).mono ?_); (case side1 => repeat (first | exact (Kd.C_below HR0_1.out HB.out) | (with_reducible refine Kd.C_alloc ?_ _) | (with_reducible refine Kd.C_drewN ?_ _) | (with_reducible refine Kd.C_drew ?_))); (case side2 => exact HC0_1.out); rintro e w5 ⟨rfl, hb⟩; refine ⟨_, rfl, ?_⟩; replace BK405 := Zk BK405 hb; replace HB := Zh HB hb; (try clear hb); (try clear hb2); (try clear hk); (try clear hi)))
 go_ret
 exact ⟨by first | rfl | (simp [errW_none, errW_some] <;> rfl) | (simp [*, errW_none, errW_some] <;> rfl), Zl HB⟩

/-- The noughts and ones of a number, the greatest place first. -/
def bitsV (n x : Nat) : List Int := (List.range n).map fun i => ((x / 2 ^ (n - 1 - i) % 2 : Nat) : Int)
theorem bitsV_length (n x : Nat) : (bitsV n x).length = n := by simp [bitsV]
theorem bitsV_take (n x i : Nat) (h : i < n) : (bitsV n x).take (i + 1) = (bitsV n x).take i ++ [((x / 2 ^ (n - 1 - i) % 2 : Nat) : Int)] := by
 rw [List.take_succ_eq_append_getElem (by rw [bitsV_length]; exact h)]
 simp [bitsV]
theorem and_one_fin : ∀ m ∈ List.range 257, bits BinOp.and IntKind.i64 (m : Int) 1 = ((m % 2 : Nat) : Int) := by decide +kernel
def bitsFold {α : Type} (step : α → List Int → Option α) (n : Nat) : Nat → Nat → α → Option α
 | 0, _, s => some s
 | d + 1, x, s => (step s (bitsV n x)).bind fun s2 => bitsFold step n d (x + 1) s2
set_option maxHeartbeats 8000000 in
set_option maxRecDepth 100000 in
theorem impl_bits.calls {α : Type} (step : α → List Int → Option α) (I : α → (Nat → Prop) → World → Prop) (g : Nat) (lb : Array Value) (B : Nat) (cl0 : CloList g lb B I step) (n : Nat) (hn : n ≤ 8) (st0 : α) (S0 : Nat → Prop) (rs : α) (w : World) (hi0 : I st0 S0 w) (hBw : B ≤ w.heap.size) (h : bitsFold step n (2 ^ n) 0 st0 = some rs) :
  Calls Try.prog 41 #[.int .i64 (n : Int), .func (.func g) #[] lb] w fun e w' => e = .returned (.tuple #[]) ∧ ∃ (S' : Nat → Prop), I rs S' w' ∧ Eff S0 w w' ∧ ∀ k_, S' k_ → S0 k_ ∨ w.heap.size ≤ k_ := by
 have eg := cl0.enters
 have CL := Aside0.mk cl0
 have HI := Aside0.mk hi0
 have HBW := Aside0.mk hBw
 clear cl0 hi0 hBw
 have H := Aside0.mk h
 clear h
 obtain ⟨N, hN⟩ : ∃ N : Nat, N = 2 ^ n := ⟨_, rfl⟩
 have hNb : N ≤ 256 := by rw [hN]; exact Nat.pow_le_pow_right (n := 2) (by omega) hn
 rw [← hN] at H
 have hsh : wrap64 ((2 : Int) ^ n) = (N : Int) := by
  have : (2 : Int) ^ n = ((2 ^ n : Nat) : Int) := by norm_cast
  rw [this, ← hN]
  unfold wrap64
  omega
 have HN := Aside0.mk hN
 clear hN
 go_enter Try.func41, Try.ntmps41
 go_wp2
 simp only [hsh]
 go_loopg [9] N (fun gg v9 wr => ∃ (x : Nat) (st1 : α) (S1 : Nat → Prop), v9 = .int .i64 (x : Int) ∧ x ≤ N ∧ N - x ≤ gg ∧ Aside0 (bitsFold step n (N - x) x st1 = some rs) ∧ Aside0 (I st1 S1 wr) ∧ Aside0 (Eff S0 w wr) ∧ Aside0 (∀ k_, S1 k_ → S0 k_ ∨ w.heap.size ≤ k_))
 case atStart => exact ⟨0, st0, S0, rfl, Nat.zero_le _, by omega, ⟨H.out⟩, ⟨HI.out⟩, ⟨Eff.refl _ _⟩, ⟨fun _ h_ => .inl h_⟩⟩
 case round =>
  clear H HI
  obtain ⟨x, st1, S1, rfl, hx, hg, HA, HI, HB, HSS⟩ := hrel
  by_cases hlt : x < N
  ·
   have hltz : (x : Int) < (N : Int) := by omega
   have h1 := HA.out
   clear HA
   rw [show N - x = (N - (x + 1)) + 1 from by omega] at h1
   simp only [bitsFold] at h1
   replace h1 := Option.bind_eq_some_iff.mp h1
   obtain ⟨st2, e1, e2⟩ := h1
   have HE1 := Aside0.mk e1
   have HE2 := Aside0.mk e2
   clear e1 e2
   obtain ⟨wo, rfl⟩ : ∃ wo : World, wo = wr := ⟨_, rfl⟩
   have HBi := Aside0.mk (Below.refl wo.heap.size wo)
   go_wp2_with (first | ((with_reducible refine gate_dst (N := 12) rfl ?_); refine Kd.R_lit (Kd.int .i64) _ 3 ?hg (N := 12) ?hd (xs := ([] : List Int)) (inner := []) (ok := fun _ => True) (okp := fun _ => True) ?hr ?hp (fun _ hk => hk) trivial (Below.refl _ _) (Nat.le_refl _) (by simp) ?_; (case hd => rfl); (case hg => rfl); (case hr => first | (go_simp; done) | (go_simp; rfl)); (case hp => exact (Reps.none _ _)); intro v115 w2 ho3 hb hg_ hnew_; clear hg_ hnew_; have n0_ := Aside0.mk ho3; have n1_ := Aside0.mk (below_step HBi.out hb); clear HBi; have HO116 := n0_; have HBi := n1_; clear n0_ n1_; clear hb ho3))
   go_loopg [5, 14] n (fun gq v5 v14 w' => ∃ (i : Nat), v14 = .int .i64 (i : Int) ∧ i ≤ n ∧ n - i ≤ gq ∧ Aside0 (Kd.R (Kd.int .i64) 3 w' wo.heap.size (fun _ => True) v5 ((bitsV n x).take i)) ∧ Aside0 (Below wo.heap.size wo w'))
   case atStart => exact ⟨0, rfl, Nat.zero_le _, by omega, ⟨HO116.out⟩, ⟨HBi.out⟩⟩
   case round =>
    clear HO116 HBi
    obtain ⟨i, rfl, hi, hg2, HO, HBj⟩ := hrel
    by_cases hlt2 : i < n
    ·
     have hltz2 : (i : Int) < (n : Int) := by omega
     obtain ⟨y, hy⟩ : ∃ y : Int, y = ((x / 2 ^ (n - 1 - i) % 2 : Nat) : Int) := ⟨_, rfl⟩
     have hand : bits BinOp.and IntKind.i64 ((x : Int) / 2 ^ (n - 1 - i)) 1 = y := by
      have h3 := and_one_fin (x / 2 ^ (n - 1 - i)) (List.mem_range.2 (by have := Nat.div_le_self x (2 ^ (n - 1 - i)); omega))
      rw [hy, ← h3]
      norm_cast
     have HT := Aside0.mk (show (bitsV n x).take (i + 1) = (bitsV n x).take i ++ [y] from by rw [hy]; exact bitsV_take n x i hlt2)
     have HL := Aside0.mk (show ((bitsV n x).take i).length ≤ 8 from by rw [List.length_take]; omega)
     clear hy
     go_wp2_with (first | ((with_reducible refine gate_builtin (b := .append) (xs := #[.tmp 17, .tmp 25]) rfl ?_); at_builtin; refine Kd.R_append (Kd.int .i64) (w0 := wo) wo.heap.size rfl (.tmp 17) (.tmp 25) 24 3 (.int .i64 0) 8 rfl Try.underlying24 infoI rfl (by decide) (by omega) u5 ((bitsV n x).take i) y [.int .i64 y] (fun _ => True) (fun _ => False) rfl rfl ?aP (fun _ hk => hk.elim) ?aF ?aO ?aB ?aS ?aL ?_; (case aP => exact rfl); (case aB => exact (by repeat (first | (with_reducible first | exact HBj.out | apply below_alloc | apply pw_below_drewN | apply below_drew1) | exact HBj.out))); (case aF => exact (fun _ _ => trivial)); (case aO => exact (by (with_reducible repeat (first | apply Kd.R_alloc | apply Kd.R_drewN | apply Kd.R_drew)); exact HO.out)); (case aS => exact (below_size (by repeat (first | (with_reducible first | exact HBj.out | apply below_alloc | apply pw_below_drewN | apply below_drew1) | exact HBj.out)))); (case aL => have := HL.out; omega); intro v118 w6 ho hb hg hat; rw [← HT.out] at ho; have n0_ := Aside0.mk (hb); have n1_ := Aside0.mk (ho); clear HBj; clear HO; have HBj := n0_; have HO := n1_; clear n0_ n1_; clear ho hb hg hat))
     go_roundg (n - (i + 1))
     case measure => omega
     case rel => exact ⟨i + 1, by go_num, by omega, by omega, ⟨HO.out⟩, ⟨HBj.out⟩⟩
    ·
     have hltz2 : ¬ (i : Int) < (n : Int) := by omega
     obtain rfl : i = n := by omega
     have hO := HO.out
     rw [List.take_of_length_le (by rw [bitsV_length]; omega)] at hO
     have HI2 := Aside0.mk (show I st1 S1 wr from CL.out.move _ _ _ _ HI.out (fun k_ hk_ _ => HBj.out.block k_ hk_) HBj.out.size)
     have HO2 := Aside0.mk (show Kd.R (Kd.int .i64) 3 wr B (fun k_ => ¬ S1 k_) u5 (bitsV i x) from Kd.R_lower (fresh_row hO (fun k_ h_ => CL.out.lt _ _ _ _ HI.out h_)) (Nat.le_trans HBW.out (eff_size HB.out)))
     have HOB := Aside0.mk (show ∀ k_, u5.ownBlock = some k_ → w.heap.size ≤ k_ from fun k_ h_ => Nat.le_trans (eff_size HB.out) ((Kd.R_bound hO).1 k_ h_).2.1)
     have HB2 := Aside0.mk (eff_step HB.out HBj.out)
     clear hO HO HI HB
     go_wp2_with (first | (go_at_fn g; refine (CL.out.call st1 st2 S1 _ u5 _ HI2.out HO2.out HE1.out).mono ?_; rintro e w24 ⟨rfl, S2, hi2, he2, hs2⟩; have HI3 := Aside0.mk hi2; have HB3 := Aside0.mk (eff_then HB2.out he2 HSS.out); have HS3 := Aside0.mk (fun k_ (h_ : S2 k_) => (hs2 k_ h_).elim (HSS.out k_) (fun h2_ => Or.inr (h2_.elim (HOB.out k_) (fun h3_ => Nat.le_trans (eff_size HB2.out) h3_)))); clear hi2 he2 hs2))
     go_roundg (N - (x + 1))
     case measure => omega
     case rel => exact ⟨x + 1, st2, S2, by go_num, by omega, by omega, ⟨HE2.out⟩, ⟨HI3.out⟩, ⟨HB3.out⟩, ⟨HS3.out⟩⟩
  ·
   have hltz : ¬ (x : Int) < (N : Int) := by omega
   have h1 := HA.out
   clear HA
   rw [show N - x = 0 from by omega] at h1
   obtain rfl := Option.some.inj h1
   clear h1
   go_wp2
   go_end0
   exact ⟨rfl, S1, HI.out, HB.out, HSS.out⟩

/-! ### impl_busy: function 40 -/
-- GIVEN impl_busy
theorem infoB : (Try.prog.info? 4).map (fun i => (i.zero, i.size, i.bytes)) = some (some (.bool false), 1, 1) := by kernel_rfl
def impl_busy.mark (o : List Bool) (x : Int) : Option (List Bool) := if 0 ≤ x then (if x < (o.length : Int) then some (o.set x.toNat true) else none) else none
set_option maxHeartbeats 8000000 in
set_option maxRecDepth 100000 in
theorem impl_busy_1_1.calls (W : World) (bm : Nat) (v : Value) (o : List Bool) (x : Int) {base : Nat} (hm : W.heap[bm]? = some (.cells #[v] 60 (0, 0))) (hv : Kd.R Kd.bool 4 W base (fun _ => True) v o) (h0 : 0 ≤ x) (h1 : x < (o.length : Int)) :
    Calls Try.prog 68 #[.int .i64 x, .pointer (some ⟨bm, 0, none⟩)] W fun e w' => e = .returned (.tuple #[]) ∧ Kd.R Kd.bool 4 w' base (fun _ => True) v (o.set x.toNat true) ∧ Eff (fun k_ => v.ownBlock = some k_) W w' ∧ w'.heap[bm]? = some (.cells #[v] 60 (0, 0)) := by
  obtain ⟨g, cp, rfl, gb, gl, cl, hg⟩ := Kd.R_form hv (by omega)
  obtain ⟨hx0, hf0⟩ := Kd.R_celln false hv x h0 h1
  have HP := Kd.R_putg hv x true
  have HP1 := Aside0.mk HP.1
  have HP2 := Aside0.mk HP.2
  have hne : bm ≠ g := blk_ne hm hg (by decide)
  have HM := Aside0.mk (blk_far hm (p := ⟨g, x.toNat, none⟩) hne (.bool true))
  have hc0 := cell_of_one hm
  have hx1 := eq_true h0
  have hx2 := eq_true h1
  clear HP hv hm hg gb gl h0 h1
  go_enter Try.func68, Try.ntmps68
  go_wp2
  go_end0
  exact ⟨rfl, HP1.out, eff_setS (Eff.refl _ _) (.inl (by simp [Value.ownBlock])), HM.out⟩
def impl_busy.J (base bm : Nat) (o : List Bool) (S : Nat → Prop) (W : World) : Prop :=
  ∃ v : Value, (∀ k, S k ↔ (k = bm ∨ v.ownBlock = some k)) ∧ W.heap[bm]? = some (.cells #[v] 60 (0, 0)) ∧ Kd.R Kd.bool 4 W base (fun _ => True) v o
theorem impl_busy.inner (base bm : Nat) : CloInt 68 #[.pointer (some ⟨bm, 0, none⟩)] 0 (impl_busy.J base bm) impl_busy.mark where
  enters := enters_of Try.func68 (by kernel_rfl) rfl
  lt := fun s S W q hI hq => by
    obtain ⟨v, h1, h4, h6⟩ := hI
    rcases (h1 q).1 hq with rfl | hq
    · exact blk_lt h4
    · exact ((Kd.R_bound h6).1 q hq).2.2.1
  move := fun s S W W' hI hm hsz => by
    obtain ⟨v, h1, h4, h6⟩ := hI
    exact ⟨v, h1, (hm bm (blk_lt h4) (.inr ((h1 bm).2 (.inl rfl)))).trans h4, Kd.R_mono (Kd.R_move (Kd.R_tight rfl h6) (fun q hq => hm q ((Kd.R_bound h6).1 q hq.symm).2.2.1 (.inr ((h1 q).2 (.inr hq.symm))))) (fun _ _ => trivial)⟩
  call := fun s s' S W x hI hst => by
    obtain ⟨v, h1, h4, h6⟩ := hI
    unfold impl_busy.mark at hst
    by_cases h0 : 0 ≤ x
    · rw [if_pos h0] at hst
      by_cases hl : x < (s.length : Int)
      · rw [if_pos hl] at hst
        obtain rfl := Option.some.inj hst
        refine (impl_busy_1_1.calls W bm v s x h4 h6 h0 hl).mono ?_
        rintro e w' ⟨rfl, hr, he, hm⟩
        exact ⟨rfl, S, ⟨v, h1, hm, hr⟩, ⟨he.b, he.k.mono (fun q hq => (h1 q).2 (.inr hq))⟩, fun q hq => .inl hq⟩
      · rw [if_neg hl] at hst
        cases hst
    · rw [if_neg h0] at hst
      cases hst
def impl_busy.step (k : Nat) (l : List Int) (o : List Bool) (xs : List Int) : Option (List Bool) := (impl_compareG.f impl_busy.mark k l xs o).bind fun p => some p.2
set_option maxHeartbeats 8000000 in
set_option maxRecDepth 100000 in
theorem impl_busy_1.calls (k : Nat) (w0 W : World) (bl bm : Nat) (a : Int) (A : Option Addr) (l : List Int) (c : Nat) (o o' : List Bool) (v : Value) (xs : List Int) {base0 base : Nat} {ok : Nat → Prop} {S : Nat → Prop} (hr : ∀ W', Kept W W' S → Kd.C (Kd.int .i64) W' A l.length l) (hc : l.length ≤ c)
    (hl : W.heap[bl]? = some (.cells #[.int .i64 a, .slice A l.length c] 26 (0, 0))) (hJ : impl_busy.J base0 bm o S W) (hv : Kd.R (Kd.int .i64) 3 W base ok v xs) (hs : impl_busy.step k l o xs = some o') :
    Calls Try.prog 67 #[v, .pointer (some ⟨bl, 0, none⟩), .pointer (some ⟨bm, 0, none⟩)] W fun e w' => e = .returned (.tuple #[]) ∧ ∃ S', impl_busy.J base0 bm o' S' w' ∧ Eff S W w' ∧ ∀ k_, S' k_ → S k_ ∨ W.heap.size ≤ k_ := by
  have hu := Try.underlying26
  have hmf : ∀ (fn : Fn) (first cap : Array Value) (w : World), (Instr.makeFunc fn first cap).run Try.prog w = .ok (.func fn first cap) w := fun _ _ _ _ => rfl
  obtain ⟨A1, c1, rfl, hc1, hr1⟩ := Kd.R_reads hv
  have hz0 : W.cell? ⟨bl, 0, none⟩ = some (.int .i64 a) := (blk_cell hl 0).trans rfl
  have hz1 : W.cell? ⟨bl, 1, none⟩ = some (.slice A l.length c) := (blk_cell hl 1).trans rfl
  unfold impl_busy.step at hs
  replace hs := Option.bind_eq_some_iff.mp hs
  obtain ⟨⟨r, rs⟩, e1, e2⟩ := hs
  obtain rfl := Option.some.inj e2
  have CC := Aside0.mk (impl_compareG.calls impl_busy.mark (impl_busy.J base0 bm) 68 #[.pointer (some ⟨bm, 0, none⟩)] 0 (impl_busy.inner base0 bm) k A c l A1 c1 xs o S r rs W hJ (Nat.zero_le _) hr hc hr1 hc1 e1)
  clear hv hr1 hc1 hr hc hl hJ e1 e2
  go_enter Try.func67, Try.ntmps67
  go_wp2_with (go_at_call 35; refine CC.out.mono ?_; rintro e w9 ⟨v2, rfl, S', _, hj, he, hs⟩; have HX := Aside0.mk hj; have HE := Aside0.mk he; have HS := Aside0.mk hs; clear hj he hs)
  go_end0
  exact ⟨rfl, S', HX.out, HE.out, HS.out⟩
def impl_busy.I (w0 : World) (bl bm : Nat) (a : Int) (A : Option Addr) (l : List Int) (c : Nat) (o : List Bool) (S : Nat → Prop) (W : World) : Prop :=
  ∃ S1, (∀ k, S k ↔ (k = bl ∨ S1 k)) ∧ (∀ k, S1 k → w0.heap.size ≤ k) ∧ (∀ k, k < w0.heap.size → W.heap[k]? = w0.heap[k]?) ∧ W.heap[bl]? = some (.cells #[.int .i64 a, .slice A l.length c] 26 (0, 0)) ∧ impl_busy.J w0.heap.size bm o S1 W
theorem impl_busy.clo (w0 : World) (bl bm : Nat) (a : Int) (A : Option Addr) (l : List Int) (c : Nat) (k : Nat) (hr : Kd.C (Kd.int .i64) w0 A l.length l) (hc : l.length ≤ c) (hbl : w0.heap.size ≤ bl) (hbm : w0.heap.size ≤ bm) : CloList 67 #[.pointer (some ⟨bl, 0, none⟩), .pointer (some ⟨bm, 0, none⟩)] w0.heap.size (impl_busy.I w0 bl bm a A l c) (impl_busy.step k l) where
  enters := enters_of Try.func67 (by kernel_rfl) rfl
  lt := fun s S W q hI hq => by
    obtain ⟨S1, h1, h2, h3, h4, h5⟩ := hI
    rcases (h1 q).1 hq with rfl | hq
    · exact blk_lt h4
    · exact (impl_busy.inner w0.heap.size bm).lt _ _ _ _ h5 hq
  move := fun s S W W' hI hm hsz => by
    obtain ⟨S1, h1, h2, h3, h4, h5⟩ := hI
    have hs : w0.heap.size ≤ W.heap.size := by have := blk_lt h4; omega
    exact ⟨S1, h1, h2, fun q hq => (hm q (by omega) (.inl hq)).trans (h3 q hq), (hm bl (blk_lt h4) (.inr ((h1 bl).2 (.inl rfl)))).trans h4, (impl_busy.inner w0.heap.size bm).move _ _ _ _ h5 (fun q hq hor => hm q hq (.inr ((h1 q).2 (.inr (hor.elim (fun h => absurd h (Nat.not_lt_zero _)) id))))) hsz⟩
  call := fun s s' S W v xs hI hv hst => by
    obtain ⟨S1, h1, h2, h3, h4, h5⟩ := hI
    have hs : w0.heap.size ≤ W.heap.size := by have := blk_lt h4; omega
    have hbl2 : ¬ S1 bl := by
      obtain ⟨u, g1, g4, g6⟩ := h5
      intro hb
      rcases (g1 bl).1 hb with hb | hb
      · subst hb
        exact absurd rfl (blk_ne h4 g4 (by decide))
      · exact Kd.R_ne g6 h4 (by decide) hb.symm
    refine (impl_busy_1.calls k w0 W bl bm a A l c s s' v xs (fun W' hk => (Kd.heap_int .i64).C (fun q hq => (hk.2 q (by omega) (fun hs1 => by have := h2 q hs1; omega)).trans (h3 q hq)) hr) hc h4 h5 hv hst).mono ?_
    rintro e w' ⟨rfl, S2, hj, he, hs2⟩
    have h22 : ∀ q, S2 q → w0.heap.size ≤ q := fun q hq => (hs2 q hq).elim (h2 q) (fun h => by omega)
    refine ⟨rfl, (fun q => q = bl ∨ S2 q), ⟨S2, fun _ => Iff.rfl, h22, fun q hq => (he.k.2 q (by omega) (fun h => by have := h2 q h; omega)).trans (h3 q hq), blk_kept h4 he.k hbl2, hj⟩, ⟨he.b, he.k.mono (fun q hq => (h1 q).2 (.inr hq))⟩, ?_⟩
    intro q hq
    rcases hq with rfl | hq
    · exact .inl ((h1 _).2 (.inl rfl))
    · exact (hs2 q hq).elim (fun h => .inl ((h1 q).2 (.inr h))) (fun h => .inr (.inr h))
def impl_busy.f (k : Nat) (a0_0 : Int) (l0_1 : List Int) : Option (List Bool) := if 0 ≤ a0_0 ∧ a0_0 ≤ 8 ∧ l0_1.length ≤ 1000 then bitsFold (impl_busy.step k l0_1) a0_0.toNat (2 ^ a0_0.toNat) 0 (List.replicate l0_1.length false) else none
set_option maxHeartbeats 8000000 in
set_option maxRecDepth 100000 in
theorem impl_busy.calls (k : Nat) (a0_0 : Int) (A0_1 : Option Addr) (c0_1 : Nat) (l0_1 : List Int) (r : List Bool) (w : World) (hr0_1 : Kd.C (Kd.int .i64) w A0_1 l0_1.length l0_1) (hc0_1 : l0_1.length ≤ c0_1) (h : impl_busy.f k a0_0 l0_1 = some r) :
    Calls Try.prog 40 #[.agg #[.int .i64 a0_0, .slice A0_1 l0_1.length c0_1]] w fun e w' => ∃ v0_ : Value, e = .returned (v0_) ∧ Kd.R Kd.bool 4 w' w.heap.size (fun _ => True) v0_ r ∧ Below w.heap.size w w' := by
  have hu := Try.underlying26
  have hmf : ∀ (fn : Fn) (first cap : Array Value) (w : World), (Instr.makeFunc fn first cap).run Try.prog w = .ok (.func fn first cap) w := fun _ _ _ _ => rfl
  have HR0_1 := Aside0.mk hr0_1
  have HC0_1 := Aside0.mk hc0_1
  clear hr0_1 hc0_1
  have HB := Aside0.mk (Below.refl w.heap.size w)
  unfold impl_busy.f at h
  by_cases hn : 0 ≤ a0_0 ∧ a0_0 ≤ 8 ∧ l0_1.length ≤ 1000
  · rw [if_pos hn] at h
    obtain ⟨n, rfl, hn8⟩ : ∃ n : Nat, a0_0 = (n : Int) ∧ n ≤ 8 := ⟨a0_0.toNat, by omega, by omega⟩
    have HLN := Aside0.mk hn.2.2
    clear hn
    obtain ⟨y, hy⟩ : ∃ y : List Bool, y = List.replicate l0_1.length false := ⟨_, rfl⟩
    rw [← hy] at h
    have Ny := Aside0.mk hy
    clear hy
    have A3 := Aside0.mk h
    clear h
    have CL := Aside0.mk (fun bl bm h1 h2 => impl_busy.clo w bl bm (n : Int) A0_1 l0_1 c0_1 k HR0_1.out HC0_1.out h1 h2)
    have c2b1 : decide (0 ≤ (l0_1.length : Int)) = true := decide_eq_true (by omega)
    go_enter Try.func40, Try.ntmps40
    go_wp2_with (first | ((with_reducible refine gate_dst (N := 1) rfl ?_); refine box_event ?hg (N := 1) ?hd (cs := #[.int .i64 (n : Int), .slice A0_1 l0_1.length c0_1]) (t := 26) ?hr ?_; (case hd => rfl); (case hg => rfl); (case hr => first | (go_simp; done) | (go_simp; rfl)); intro gb hg w5 hbox hb; have n0_ := Aside0.mk (below_step HB.out hb); have n1_ := Aside0.mk (hbox); have n2_ := Aside0.mk ((by rw [hg]; exact (below_size HB.out)) : w.heap.size ≤ gb); clear HB; have HB := n0_; have BK := n1_; have GE := n2_; clear n0_ n1_ n2_; clear hb hbox hg; have hcz6_0 : w5.cell? ⟨gb, 0, none⟩ = some (.int .i64 (n : Int)) := (blk_cell BK.out 0).trans rfl; have hcz6_1 : w5.cell? ⟨gb, 1, none⟩ = some (.slice A0_1 l0_1.length c0_1) := (blk_cell BK.out 1).trans rfl) | ((with_reducible refine gate_dst (N := 7) rfl ?_); refine Kd.R_make Kd.bool _ 4 rfl (N := 7) rfl 60 _ _ rfl (l0_1.length : Int) rfl rfl Try.underlying60 (.bool false) 1 infoB rfl (by decide) (by omega) false (ok := fun _ => True) (okp := fun _ => True) rfl (fun _ hk => hk) trivial (by omega) (by have h_ := HLN.out; omega) (Below.refl _ _) (Nat.le_refl _) ?_; intro v509 w6 ho7 hb hg_ hnew_; clear hg_ hnew_; have n0_ := Aside0.mk (show Kd.R Kd.bool 4 w6 w.heap.size (fun _ => True) v509 y from by rw [Ny.out]; exact Kd.R_lower (by simpa using ho7) (below_size HB.out)); have n1_ := Aside0.mk (blk_below BK.out hb); have n2_ := Aside0.mk (below_step HB.out hb); clear BK; clear HB; have HO := n0_; have BK := n1_; have HB := n2_; clear n0_ n1_ n2_; clear hb ho7; have hcz8_0 : w6.cell? ⟨gb, 0, none⟩ = some (.int .i64 (n : Int)) := (blk_cell BK.out 0).trans rfl; have hgl8 := blk_lt BK.out; obtain ⟨Ao8, co8, eo8⟩ := Kd.R_slice HO.out; subst eo8) | (go_at_call 41; refine (impl_bits.calls (impl_busy.step k l0_1) (impl_busy.I w gb w6.heap.size (n : Int) A0_1 l0_1 c0_1) 67 _ w.heap.size (CL.out gb w6.heap.size GE.out (below_size HB.out)) n hn8 y (fun k_ => k_ = gb ∨ (k_ = w6.heap.size ∨ (Value.slice Ao8 y.length co8).ownBlock = some k_)) r _ ⟨_, fun _ => Iff.rfl, fun k_ hk_ => hk_.elim (fun e_ => e_ ▸ below_size HB.out) (fun e_ => ((Kd.R_bound HO.out).1 k_ e_).2.1), fun k_ hk_ => (Below.heap_alloc w6 _ k_ (Nat.lt_of_lt_of_le hk_ HB.out.size)).trans (HB.out.block k_ hk_), blk_alloc BK.out _, ⟨.slice Ao8 y.length co8, fun _ => Iff.rfl, blk_new w6 _, Kd.R_alloc HO.out _⟩⟩ (below_size (below_alloc HB.out _)) A3.out).mono ?_; rintro e w9 ⟨rfl, S', hI, he, hs⟩; have HX := Aside0.mk hI; have n0_ := Aside0.mk (eff_below (below_alloc HB.out _) he (fun k_ h_ => h_.elim (fun e_ => e_ ▸ GE.out) (fun h2_ => h2_.elim (fun e_ => e_ ▸ below_size HB.out) (fun e_ => ((Kd.R_bound HO.out).1 k_ e_).2.1)))); clear HB; have HB := n0_; clear n0_ hI he hs; obtain ⟨S1, g1, g2, g3, g4, v, g5, g6, g7⟩ := HX.out; have hx0 := cell_of_one g6; have HV := Aside0.mk g7; clear g1 g2 g3 g4 g5 g6 g7 HX))
    go_ret
    exact ⟨_, rfl, HV.out, HB.out⟩
  · rw [if_neg hn] at h
    cases h

/-! ### impl_IdleRungs: function 14 -/
def impl_IdleRungs.l0 : Nat → List Int → List Bool → Int → Int → Option (List Int × Bool)
 | 0, _, _, _, _ => none
 | k + 1, x4, x12, x13, x14 => if x14 < x13 then (if 0 ≤ x14 then (if x14 < (x12.length : Int) then (if rdOf false x12 x14 = true then (impl_IdleRungs.l0 k x4 x12 x13 (wrap64 (x14 + 1))) else (if x4.length < 17592186044416 then (impl_IdleRungs.l0 k (x4 ++ [x14]) x12 x13 (wrap64 (x14 + 1))) else (none))) else (none)) else (none)) else (some (x4, true))
def impl_IdleRungs.f (k : Nat) (a0_0 : Int) (l0_1 : List Int) : Option (List Int × Bool) := (impl_isLadder.f a0_0 l0_1).bind fun t408 => (if t408 = true then ((impl_busy.f k a0_0 l0_1).bind fun t412 => (impl_IdleRungs.l0 k (([] : List Int)) t412 (t412.length : Int) 0)) else (some (([] : List Int), false)))
set_option maxHeartbeats 8000000 in
set_option maxRecDepth 100000 in
theorem impl_IdleRungs.calls (k : Nat) (a0_0 : Int) (A0_1 : Option Addr) (c0_1 : Nat) (l0_1 : List Int) (r1 : List Int) (r2 : Bool) (w : World) (hr0_1 : Kd.C (Kd.int .i64) w A0_1 l0_1.length l0_1) (hc0_1 : l0_1.length ≤ c0_1) (h : impl_IdleRungs.f k a0_0 l0_1 = some (r1, r2)) :
  Calls Try.prog 14 #[.agg #[.int .i64 a0_0, .slice A0_1 l0_1.length c0_1]] w fun e w' => ∃ v0_ : Value, e = .returned (.tuple #[v0_, .bool r2]) ∧ Kd.R (Kd.int .i64) 3 w' w.heap.size (fun _ => True) v0_ r1 ∧ Below w.heap.size w w' := by
 have hu26 := Try.underlying26; have HR0_1 := Aside0.mk hr0_1; have HC0_1 := Aside0.mk hc0_1; clear hr0_1 hc0_1; have HB := Zm (Below.refl w.heap.size w); have H : ((impl_isLadder.f a0_0 l0_1).bind fun t408 => (if t408 = true then ((impl_busy.f k a0_0 l0_1).bind fun t412 => (impl_IdleRungs.l0 k (([] : List Int)) t412 (t412.length : Int) 0)) else (some (([] : List Int), false)))) = some (r1, r2) := h; clear h
 replace H := Option.bind_eq_some_iff.mp H; obtain ⟨t408, A20, H⟩ := H; (replace H : (if t408 = true then ((impl_busy.f k a0_0 l0_1).bind fun t412 => (impl_IdleRungs.l0 k (([] : List Int)) t412 (t412.length : Int) 0)) else (some (([] : List Int), false))) = some (r1, r2) := H); have A2 := Aside0.mk A20; clear A20
 by_cases c3 : t408 = true
 ·
  subst c3
  rw [if_pos rfl] at H
  obtain ⟨y409, hy409⟩ : ∃ y_ : List Int, y_ = (([] : List Int)) := ⟨_, rfl⟩; (replace H : ((impl_busy.f k a0_0 l0_1).bind fun t412 => (impl_IdleRungs.l0 k y409 t412 (t412.length : Int) 0)) = some (r1, r2) := by first | (rw [hy409]; with_reducible exact H) | (have H2_ := (Option.bind_some _ _).symm.trans H; rw [hy409]; with_reducible exact H2_) | (have H2_ := (Option.bind_some _ _).symm.trans H; with_reducible exact H2_) | with_reducible exact H | (rw [hy409]; exact H) | exact H)
  have Ny409 := Aside0.mk hy409; clear hy409
  replace H := Option.bind_eq_some_iff.mp H; obtain ⟨t412, A40, H⟩ := H; replace H : (impl_IdleRungs.l0 k y409 t412 (t412.length : Int) 0) = some (r1, r2) := H; have A4 := Aside0.mk A40; clear A40; have H' := Aside0.mk H; clear H
  go_enter Try.func14, Try.ntmps14
  go_wp2_with (first | ((with_reducible refine gate_dst (N := 1) rfl ?_); refine box_event ?hg (N := 1) ?hd (cs := #[.int .i64 a0_0, .slice A0_1 l0_1.length c0_1]) (t := 26) ?hr ?_; (case hd => rfl); (case hg => rfl); (case hr => first | (go_simp; done) | (go_simp; rfl)); intro gb407 hg w5 hbox hb; have BK407 := Zm (hbox); have GW407 := Zx hg HB; have GE407 := Zx hg HB; replace HB := Zh HB hb; clear hb hbox hg; have hcz6_0 : w5.cell? ⟨gb407, 0, none⟩ = some (.int .i64 a0_0) := (blk_cell BK407.out 0).trans rfl; have hcz6_1 : w5.cell? ⟨gb407, 1, none⟩ = some (.slice A0_1 l0_1.length c0_1) := (blk_cell BK407.out 1).trans rfl; have hfz6_0 := blk_frozen BK407.out 0; have hfz6_1 := blk_frozen BK407.out 1) | ((with_reducible refine gate_callee (f := 31) rfl ?_); refine Ga (some 8) Try.func31 #[.agg #[.int .i64 a0_0, .slice A0_1 l0_1.length c0_1]] (h := ?_); (with_reducible refine (impl_isLadder.calls a0_0 _ _ l0_1 true _ ?side1 ?side2 A2.out).mono ?_); (case side1 => repeat (first | exact (Kd.C_below HR0_1.out HB.out) | (with_reducible refine Kd.C_alloc ?_ _) | (with_reducible refine Kd.C_drewN ?_ _) | (with_reducible refine Kd.C_drew ?_))); (case side2 => exact HC0_1.out); rintro e w7 ⟨rfl, hb⟩; refine ⟨_, rfl, ?_⟩; replace BK407 := Zk BK407 hb; replace HB := Zh HB hb; (try clear hb); (try clear hb2); (try clear hk); (try clear hi)) | ((with_reducible refine gate_dst (N := 10) rfl ?_); refine Kd.R_lit (Kd.int .i64) _ 3 ?hg (N := 10) ?hd (xs := ([] : List Int)) (inner := []) (ok := fun _ => True) (okp := fun _ => True) ?hr ?hp (fun _ hk => hk) trivial (Below.refl _ _) (Nat.le_refl _) (by simp) ?_; (case hd => rfl); (case hg => rfl); (case hr => first | (go_simp; done) | (go_simp; rfl)); (case hp => exact (Reps.none _ _)); intro v410 w8 ho9 hb hg_ hnew_; clear hg_ hnew_; (first | rw [← Ny409.out] at ho9 | (simp only [Int.reduceToNat] at ho9; rw [← Ny409.out] at ho9)); have HO411 := Zj ho9 HB; replace BK407 := Zk BK407 hb; replace HB := Zh HB hb; clear hb ho9; have hcz10_0 : w8.cell? ⟨gb407, 0, none⟩ = some (.int .i64 a0_0) := (blk_cell BK407.out 0).trans rfl; have hcz10_1 : w8.cell? ⟨gb407, 1, none⟩ = some (.slice A0_1 l0_1.length c0_1) := (blk_cell BK407.out 1).trans rfl; have hfz10_0 := blk_frozen BK407.out 0; have hfz10_1 := blk_frozen BK407.out 1) | ((with_reducible refine gate_callee (f := 40) rfl ?_); refine Ga (some 12) Try.func40 #[.agg #[.int .i64 a0_0, .slice A0_1 l0_1.length c0_1]] (h := ?_); (with_reducible refine (impl_busy.calls k a0_0 _ _ l0_1 t412 _ ?side1 ?side2 A4.out).mono ?_); (case side1 => repeat (first | exact (Kd.C_below HR0_1.out HB.out) | (with_reducible refine Kd.C_alloc ?_ _) | (with_reducible refine Kd.C_drewN ?_ _) | (with_reducible refine Kd.C_drew ?_))); (case side2 => exact HC0_1.out); rintro e w11 ⟨v413, rfl, ho0, hb⟩; refine ⟨_, rfl, ?_⟩; replace HO411 := Zo HO411 hb; have HO414 := Zj ho0 HB; replace BK407 := Zk BK407 hb; replace HB := Zh HB hb; (try clear hb); (try clear ho0); obtain ⟨Ao12, co12, eo12⟩ := Kd.R_slice HO414.out; subst eo12))
  go_loopg [4, 14] k (fun kq v4 v14 w' => ∃ (x4_1 : List Int) (x14_1 : Int), v14 = .int .i64 x14_1 ∧ Aside0 (impl_IdleRungs.l0 kq x4_1 t412 (t412.length : Int) x14_1 = some (r1, r2)) ∧ Aside0 (kq ≤ k) ∧ Aside0 (Kd.R (Kd.int .i64) 3 w' w.heap.size (fun _ => True) v4 x4_1) ∧ Aside0 (Kd.R Kd.bool 4 w' w.heap.size (fun _ => True) (.slice Ao12 t412.length co12) t412) ∧ Aside0 (w'.heap[gb407]? = some (.cells #[.int .i64 a0_0, (.slice A0_1 l0_1.length c0_1)] 26 (0, 0))) ∧ Aside0 (Below w.heap.size w w'))
  case atStart => exact ⟨(y409), (0), (by first | rfl | (simp; done) | (simp [*]; done)), H', ⟨Nat.le_refl _⟩, ⟨Zr HO411⟩, ⟨Zr HO414⟩, ⟨Zb BK407⟩, ⟨Zl HB⟩⟩
  case round =>
   (clear H'; (try clear c1); (try clear p2); (try clear c3); (try clear c4); (try clear hcz10_0); (try clear hcz10_1); (try clear hcz6_0); (try clear hcz6_1); (try clear hfz10_0); (try clear hfz10_1); (try clear hfz6_0); (try clear hfz6_1)); obtain ⟨x4_1, x14_1, rfl, HA, HK1, HO_4, HO_12, BK407, HB⟩ := hrel
   cases gk with
   | zero => exact absurd HA.out (by simp [impl_IdleRungs.l0])
   | succ k1 =>
    have H := HA.out; clear HA
    simp only [impl_IdleRungs.l0] at H
    by_cases c13 : x14_1 < (t412.length : Int)
    ·
     rw [if_pos c13] at H; have c13b0 : decide (x14_1 < (t412.length : Int)) = true := decide_eq_true c13; clear c13
     by_cases c14 : 0 ≤ x14_1
     ·
      rw [if_pos c14] at H; have c14b0 : decide (0 ≤ x14_1) = true := decide_eq_true c14; clear c14
      by_cases c15 : x14_1 < (t412.length : Int)
      ·
       rw [if_pos c15] at H; have c15b0 : decide (x14_1 < (t412.length : Int)) = true := decide_eq_true c15; clear c15; obtain ⟨bq16, hbq16⟩ : ∃ b_ : Bool, b_ = (rdOf false t412 x14_1) := ⟨_, rfl⟩; (replace H : (if bq16 = true then (impl_IdleRungs.l0 k1 x4_1 t412 (t412.length : Int) (wrap64 (x14_1 + 1))) else (if x4_1.length < 17592186044416 then (impl_IdleRungs.l0 k1 (x4_1 ++ [x14_1]) t412 (t412.length : Int) (wrap64 (x14_1 + 1))) else (none))) = some (r1, r2) := by rw [← hbq16] at H; exact H)
       have Nbq16 := Aside0.mk hbq16; clear hbq16
       by_cases c17 : bq16 = true
       ·
        subst c17
        rw [if_pos rfl] at H
        have H' := Aside0.mk H; clear H; have p415 : 0 ≤ (x14_1 : Int) := of_decide_eq_true (by first | (with_reducible assumption) | assumption); have q415 : x14_1 < (t412.length : Int) := of_decide_eq_true (by first | (with_reducible assumption) | assumption); obtain ⟨ad415, e415, hx415_0⟩ := Kd.at_bool (Kd.R_reads' HO_12.out).2.2 x14_1 p415 q415
        (try rw [← Nbq16.out] at hx415_0)
        cases e415
        replace p415 := eq_true p415
        replace q415 := eq_true q415
        go_wp2
        go_roundg k1
        case measure => have := HK1.out; omega
        case rel => exact ⟨(x4_1), (wrap64 (x14_1 + 1)), (by first | rfl | (simp; done) | (simp [*]; done)), H', ⟨by have := HK1.out; omega⟩, ⟨Zr HO_4⟩, ⟨Zr HO_12⟩, ⟨Zb BK407⟩, ⟨Zl HB⟩⟩
       ·
        replace c17 := Bool.eq_false_iff.mpr c17
        subst c17
        rw [if_neg Bool.false_ne_true] at H
        by_cases c18 : x4_1.length < 17592186044416
        ·
         rw [if_pos c18] at H
         have LMc18 := Aside0.mk c18; clear c18
         obtain ⟨y416, hy416⟩ : ∃ y_ : List Int, y_ = (x4_1 ++ [x14_1]) := ⟨_, rfl⟩; (replace H : (impl_IdleRungs.l0 k1 y416 t412 (t412.length : Int) (wrap64 (x14_1 + 1))) = some (r1, r2) := by first | (rw [hy416]; with_reducible exact H) | (have H2_ := (Option.bind_some _ _).symm.trans H; rw [hy416]; with_reducible exact H2_) | (have H2_ := (Option.bind_some _ _).symm.trans H; with_reducible exact H2_) | with_reducible exact H | (rw [hy416]; exact H) | exact H)
         have Ny416 := Aside0.mk hy416; clear hy416; have H' := Aside0.mk H; clear H; have p415 : 0 ≤ (x14_1 : Int) := of_decide_eq_true (by first | (with_reducible assumption) | assumption); have q415 : x14_1 < (t412.length : Int) := of_decide_eq_true (by first | (with_reducible assumption) | assumption)
         obtain ⟨ad415, e415, hx415_0⟩ := Kd.at_bool (Kd.R_reads' HO_12.out).2.2 x14_1 p415 q415
         (try rw [← Nbq16.out] at hx415_0)
         cases e415
         replace p415 := eq_true p415
         replace q415 := eq_true q415
         go_wp2_with (first | ((with_reducible refine gate_builtin (b := .append) (xs := #[.tmp 21, .tmp 23]) rfl ?_); at_builtin; refine Kd.R_append (Kd.int .i64) (w0 := w) w.heap.size rfl (.tmp 21) (.tmp 23) 24 3 (.int .i64 0) 8 rfl Try.underlying24 info3 rfl (by decide) (by omega) u4 x4_1 x14_1 [.int .i64 x14_1] (fun _ => True) (fun _ => False) rfl rfl ?aP (fun _ hk => hk.elim) ?aF ?aO ?aB ?aS ?aL ?_; (case aP => exact rfl); (case aB => exact (Zl HB)); (case aF => exact (fun _ _ => trivial)); (case aO => exact (Zr HO_4)); (case aS => exact (below_size (Zl HB))); (case aL => have := LMc18.out; omega); intro v417 w19 ho hb hg hat; rw [← Ny416.out] at ho; replace HO_12 := Zm (Kd.R_over' (Zr HO_12) (Kd.R_typed (Zr HO_4)) (by decide) hg); replace BK407 := Zm (blk_grown (Zb BK407) hg (Kd.R_ne HO_4.out BK407.out (by decide))); replace HB := Zm (hb); have HO418 := Zm (ho); clear HO_4 ho hb hg hat))
         go_roundg k1
         case measure => have := HK1.out; omega
         case rel => exact ⟨(y416), (wrap64 (x14_1 + 1)), (by first | rfl | (simp; done) | (simp [*]; done)), H', ⟨by have := HK1.out; omega⟩, ⟨Zr HO418⟩, ⟨Zr HO_12⟩, ⟨Zb BK407⟩, ⟨Zl HB⟩⟩
        ·
         rw [if_neg c18] at H
         exact absurd H (by simp)
      ·
       rw [if_neg c15] at H
       exact absurd H (by simp)
     ·
      rw [if_neg c14] at H
      exact absurd H (by simp)
    ·
     rw [if_neg c13] at H; have c13b0 : decide (x14_1 < (t412.length : Int)) = false := decide_eq_false c13; clear c13
     simp only [Option.some.injEq, Prod.mk.injEq] at H
     obtain ⟨rfl, rfl⟩ := H
     go_wp2
     go_ret2
     exact ⟨_, by first | rfl | (simp [errW_none, errW_some] <;> rfl) | (simp [*, errW_none, errW_some] <;> rfl), Zr HO_4, Zl HB⟩
 ·
  replace c3 := Bool.eq_false_iff.mpr c3
  subst c3
  rw [if_neg Bool.false_ne_true] at H
  simp only [Option.some.injEq, Prod.mk.injEq] at H
  obtain ⟨rfl, rfl⟩ := H
  go_enter Try.func14, Try.ntmps14
  go_wp2_with (first | ((with_reducible refine gate_dst (N := 1) rfl ?_); refine box_event ?hg (N := 1) ?hd (cs := #[.int .i64 a0_0, .slice A0_1 l0_1.length c0_1]) (t := 26) ?hr ?_; (case hd => rfl); (case hg => rfl); (case hr => first | (go_simp; done) | (go_simp; rfl)); intro gb407 hg w20 hbox hb; have BK407 := Zm (hbox); have GW407 := Zx hg HB; have GE407 := Zx hg HB; replace HB := Zh HB hb; clear hb hbox hg; have hcz21_0 : w20.cell? ⟨gb407, 0, none⟩ = some (.int .i64 a0_0) := (blk_cell BK407.out 0).trans rfl; have hcz21_1 : w20.cell? ⟨gb407, 1, none⟩ = some (.slice A0_1 l0_1.length c0_1) := (blk_cell BK407.out 1).trans rfl; have hfz21_0 := blk_frozen BK407.out 0; have hfz21_1 := blk_frozen BK407.out 1) | ((with_reducible refine gate_callee (f := 31) rfl ?_); refine Ga (some 8) Try.func31 #[.agg #[.int .i64 a0_0, .slice A0_1 l0_1.length c0_1]] (h := ?_); (with_reducible refine (impl_isLadder.calls a0_0 _ _ l0_1 false _ ?side1 ?side2 A2.out).mono ?_); (case side1 => repeat (first | exact (Kd.C_below HR0_1.out HB.out) | (with_reducible refine Kd.C_alloc ?_ _) | (with_reducible refine Kd.C_drewN ?_ _) | (with_reducible refine Kd.C_drew ?_))); (case side2 => exact HC0_1.out); rintro e w22 ⟨rfl, hb⟩; refine ⟨_, rfl, ?_⟩; replace BK407 := Zk BK407 hb; replace HB := Zh HB hb; (try clear hb); (try clear hb2); (try clear hk); (try clear hi)))
  go_ret2
  exact ⟨_, by first | rfl | (simp [errW_none, errW_some] <;> rfl) | (simp [*, errW_none, errW_some] <;> rfl), by first | exact Kd.R_nil _ _ _ _ _ | exact Kd.N_nil _ _ _ _ _ | exact Kd.V_nil _ _ _ _ _ | exact Kd.Q_nil _ _ _ _ _ | exact Kd.S_nil _ _ _ _ _, Zl HB⟩

/-! ### impl_DropIdle: function 15 -/
def impl_DropIdle.l0 : Nat → List Bool → Int → Int → Int → List Int → Int → List Int → Option (Int × List Int × Bool)
 | 0, _, _, _, _, _, _, _ => none
 | k + 1, x15, x16, x17, x420000, x420001, x423000, x423001 => if x17 < x16 then (if 0 ≤ x17 then (if x17 < (x15.length : Int) then (if rdOf false x15 x17 = true then (if x17 < (x420001.length : Int) then (if x423001.length < 17592186044416 then (impl_DropIdle.l0 k x15 x16 (wrap64 (x17 + 1)) x420000 x420001 x423000 (x423001 ++ [rd x420001 x17])) else (none)) else (none)) else (impl_DropIdle.l0 k x15 x16 (wrap64 (x17 + 1)) x420000 x420001 x423000 x423001)) else (none)) else (none)) else (some (x423000, x423001, true))
def impl_DropIdle.f (k : Nat) (a0_0 : Int) (l0_1 : List Int) : Option (Int × List Int × Bool) := (impl_isLadder.f a0_0 l0_1).bind fun t421 => (if t421 = true then ((impl_busy.f k a0_0 l0_1).bind fun t423 => (impl_DropIdle.l0 k t423 (t423.length : Int) 0 a0_0 l0_1 a0_0 ([] : List Int))) else (some (0, ([] : List Int), false)))
def impl_DropIdle.T8 : Bool × List (List Nat × List Nat) := (true, [([], []), ([0], [0]), ([], []), ([2], [2]), ([], []), ([3, 4], [3, 4]), ([5], [5]), ([6], [6]), ([1, 7], [1, 7]), ([0, 1, 2, 3, 4, 5, 6, 7, 8], []), ([9, 8, 8, 0, 1, 2, 3, 4, 5, 6, 7, 8], [8, 9])])
def impl_DropIdle.B8 : List Nat := [0, 1, 0, 4, 0, 28, 60, 124, 255, 511, 1023]
theorem impl_DropIdle.tab8 : rtab .any (opsOf Try.f15 8) = impl_DropIdle.T8 := by kernel_rfl
theorem impl_DropIdle.bits8 : waitsOk impl_DropIdle.T8.2 impl_DropIdle.B8 = true := by kernel_rfl
set_option maxHeartbeats 8000000 in
set_option maxRecDepth 100000 in
theorem impl_DropIdle.calls (k : Nat) (a0_0 : Int) (A0_1 : Option Addr) (c0_1 : Nat) (l0_1 : List Int) (r1 : Int) (r2 : List Int) (r3 : Bool) (w : World) (hr0_1 : Kd.C (Kd.int .i64) w A0_1 l0_1.length l0_1) (hc0_1 : l0_1.length ≤ c0_1) (h : impl_DropIdle.f k a0_0 l0_1 = some (r1, r2, r3)) :
  Calls Try.prog 15 #[.agg #[.int .i64 a0_0, .slice A0_1 l0_1.length c0_1]] w fun e w' => ∃ v1_ : Value, e = .returned (.tuple #[.agg #[.int .i64 r1, v1_], .bool r3]) ∧ Kd.R (Kd.int .i64) 3 w' w.heap.size (fun _ => True) v1_ r2 ∧ Below w.heap.size w w' := by
 have hu26 := Try.underlying26; have HR0_1 := Aside0.mk hr0_1; have HC0_1 := Aside0.mk hc0_1; clear hr0_1 hc0_1; have HB := Zm (Below.refl w.heap.size w); have H : ((impl_isLadder.f a0_0 l0_1).bind fun t421 => (if t421 = true then ((impl_busy.f k a0_0 l0_1).bind fun t423 => (impl_DropIdle.l0 k t423 (t423.length : Int) 0 a0_0 l0_1 a0_0 ([] : List Int))) else (some (0, ([] : List Int), false)))) = some (r1, r2, r3) := h; clear h
 replace H := Option.bind_eq_some_iff.mp H; obtain ⟨t421, A20, H⟩ := H; (replace H : (if t421 = true then ((impl_busy.f k a0_0 l0_1).bind fun t423 => (impl_DropIdle.l0 k t423 (t423.length : Int) 0 a0_0 l0_1 a0_0 ([] : List Int))) else (some (0, ([] : List Int), false))) = some (r1, r2, r3) := H); have A2 := Aside0.mk A20; clear A20
 by_cases c3 : t421 = true
 ·
  subst c3
  rw [if_pos rfl] at H
  replace H := Option.bind_eq_some_iff.mp H; obtain ⟨t423, A40, H⟩ := H; replace H : (impl_DropIdle.l0 k t423 (t423.length : Int) 0 a0_0 l0_1 a0_0 ([] : List Int)) = some (r1, r2, r3) := H; have A4 := Aside0.mk A40; clear A40; have H' := Aside0.mk H; clear H
  go_enter Try.func15, Try.ntmps15
  go_wp2_with (first | ((with_reducible refine gate_dst (N := 1) rfl ?_); refine box_event ?hg (N := 1) ?hd (cs := #[.int .i64 a0_0, .slice A0_1 l0_1.length c0_1]) (t := 26) ?hr ?_; (case hd => rfl); (case hg => rfl); (case hr => first | (go_simp; done) | (go_simp; rfl)); intro gb419 hg w5 hbox hb; have BK419 := Zm (hbox); have GW419 := Zx hg HB; have GE419 := Zx hg HB; replace HB := Zh HB hb; clear hb hbox hg) | ((with_reducible refine gate_dst (N := 2) rfl ?_); refine box_event ?hg (N := 2) ?hd (cs := #[.int .i64 0, .slice none 0 0]) (t := 26) ?hr ?_; (case hd => rfl); (case hg => rfl); (case hr => first | (go_simp; done) | (go_simp; rfl)); intro gb420 hg w6 hbox hb; have BK420 := Zm (hbox); have GW420 := Zx hg HB; have GE420 := Zx hg HB; replace HB := Zh HB hb; have NB419_420 := Zq hg BK419; have NB420_419 := Zp hg BK419; replace BK419 := Zk BK419 hb; clear hb hbox hg; have hnb7 := NB419_420.out; have hnc7 := NB420_419.out; have hcz8_0 : w6.cell? ⟨gb419, 0, none⟩ = some (.int .i64 a0_0) := (blk_cell BK419.out 0).trans rfl; have hcz8_1 : w6.cell? ⟨gb419, 1, none⟩ = some (.slice A0_1 l0_1.length c0_1) := (blk_cell BK419.out 1).trans rfl; have hfz8_0 := blk_frozen BK419.out 0; have hfz8_1 := blk_frozen BK419.out 1) | ((with_reducible refine gate_callee (f := 31) rfl ?_); refine Ga (some 8) Try.func31 #[.agg #[.int .i64 a0_0, .slice A0_1 l0_1.length c0_1]] (h := ?_); (with_reducible refine (impl_isLadder.calls a0_0 _ _ l0_1 true _ ?side1 ?side2 A2.out).mono ?_); (case side1 => repeat (first | exact (Kd.C_below HR0_1.out HB.out) | (with_reducible refine Kd.C_alloc ?_ _) | (with_reducible refine Kd.C_drewN ?_ _) | (with_reducible refine Kd.C_drew ?_))); (case side2 => exact HC0_1.out); rintro e w9 ⟨rfl, hb⟩; refine ⟨_, rfl, ?_⟩; replace BK419 := Zk BK419 hb; replace BK420 := Zk BK420 hb; replace HB := Zh HB hb; (try clear hb); (try clear hb2); (try clear hk); (try clear hi); have hcz10_0 : w9.cell? ⟨gb419, 0, none⟩ = some (.int .i64 a0_0) := (blk_cell BK419.out 0).trans rfl; have hcz10_1 : w9.cell? ⟨gb419, 1, none⟩ = some (.slice A0_1 l0_1.length c0_1) := (blk_cell BK419.out 1).trans rfl; have hfz10_0 := blk_frozen BK419.out 0; have hfz10_1 := blk_frozen BK419.out 1) | ((with_reducible refine gate_dst (N := 4) rfl ?_); refine box_event ?hg (N := 4) ?hd (cs := #[.int .i64 0, .slice none 0 0]) (t := 26) ?hr ?_; (case hd => rfl); (case hg => rfl); (case hr => first | (go_simp; done) | (go_simp; rfl)); intro gb422 hg w11 hbox hb; have BK422 := Zm (hbox); have GW422 := Zx hg HB; have GE422 := Zx hg HB; replace HB := Zh HB hb; have NB419_422 := Zq hg BK419; have NB422_419 := Zp hg BK419; replace BK419 := Zk BK419 hb; have NB420_422 := Zq hg BK420; have NB422_420 := Zp hg BK420; replace BK420 := Zk BK420 hb; clear hb hbox hg; have hnb12 := NB422_419.out; have hnc12 := NB419_422.out; have hnb13 := NB422_420.out; have hnc13 := NB420_422.out; have hcz14_0 : w11.cell? ⟨gb422, 0, none⟩ = some (.int .i64 0) := (blk_cell BK422.out 0).trans rfl; have hcz14_1 : w11.cell? ⟨gb422, 1, none⟩ = some (.slice none 0 0) := (blk_cell BK422.out 1).trans rfl; have hfz14_0 := blk_frozen BK422.out 0; have hfz14_1 := blk_frozen BK422.out 1; have hcz15_0 : w11.cell? ⟨gb419, 0, none⟩ = some (.int .i64 a0_0) := (blk_cell BK419.out 0).trans rfl; have hcz15_1 : w11.cell? ⟨gb419, 1, none⟩ = some (.slice A0_1 l0_1.length c0_1) := (blk_cell BK419.out 1).trans rfl; have hfz15_0 := blk_frozen BK419.out 0; have hfz15_1 := blk_frozen BK419.out 1) | ((with_reducible refine gate_callee (f := 40) rfl ?_); refine Ga (some 15) Try.func40 #[.agg #[.int .i64 a0_0, .slice A0_1 l0_1.length c0_1]] (h := ?_); (with_reducible refine (impl_busy.calls k a0_0 _ _ l0_1 t423 _ ?side1 ?side2 A4.out).mono ?_); (case side1 => exact Kd.C_below HR0_1.out (Zl HB)); (case side2 => exact HC0_1.out); rintro e w16 ⟨v424, rfl, ho0, hb⟩; refine ⟨_, rfl, ?_⟩; have HO425 := Zj ho0 HB; replace BK419 := Zm (blk_below (g := gb419) (o := .cells #[.int .i64 a0_0, .slice A0_1 l0_1.length c0_1] 26 (0, 0)) (by (with_reducible repeat (first | refine blk_drewN ?_ _ | refine blk_drew ?_ | refine blk_alloc ?_ _)); refine blk_far ?_ NB419_422.out _; (with_reducible repeat (first | refine blk_drewN ?_ _ | refine blk_drew ?_ | refine blk_alloc ?_ _)); refine blk_far ?_ NB419_422.out _; (with_reducible repeat (first | refine blk_drewN ?_ _ | refine blk_drew ?_ | refine blk_alloc ?_ _)); exact BK419.out) hb); replace BK420 := Zm (blk_below (g := gb420) (o := .cells #[.int .i64 0, .slice none 0 0] 26 (0, 0)) (by (with_reducible repeat (first | refine blk_drewN ?_ _ | refine blk_drew ?_ | refine blk_alloc ?_ _)); refine blk_far ?_ NB420_422.out _; (with_reducible repeat (first | refine blk_drewN ?_ _ | refine blk_drew ?_ | refine blk_alloc ?_ _)); refine blk_far ?_ NB420_422.out _; (with_reducible repeat (first | refine blk_drewN ?_ _ | refine blk_drew ?_ | refine blk_alloc ?_ _)); exact BK420.out) hb); replace BK422 := Zm (blk_below (g := gb422) (o := .cells #[.int .i64 a0_0, .slice none 0 0] 26 (0, 0)) (by (with_reducible repeat (first | refine blk_drewN ?_ _ | refine blk_drew ?_ | refine blk_alloc ?_ _)); refine blk_put (cs := #[.int .i64 a0_0, .slice none 0 0]) ?_ 1 _ rfl; (with_reducible repeat (first | refine blk_drewN ?_ _ | refine blk_drew ?_ | refine blk_alloc ?_ _)); refine blk_put (cs := #[.int .i64 0, .slice none 0 0]) ?_ 0 _ rfl; (with_reducible repeat (first | refine blk_drewN ?_ _ | refine blk_drew ?_ | refine blk_alloc ?_ _)); exact BK422.out) hb); replace HB := Zh HB hb; (try clear hb); (try clear ho0); obtain ⟨Ao17, co17, eo17⟩ := Kd.R_slice HO425.out; subst eo17))
  go_loopg [17] k (fun kq v17 w' => ∃ (x17_1 : Int) (x423001_1 : List Int) (u423001 : Value), v17 = .int .i64 x17_1 ∧ Aside0 (impl_DropIdle.l0 kq t423 (t423.length : Int) x17_1 a0_0 l0_1 a0_0 x423001_1 = some (r1, r2, r3)) ∧ Aside0 (kq ≤ k) ∧ Aside0 (Kd.R Kd.bool 4 w' w.heap.size (fun _ => True) (.slice Ao17 t423.length co17) t423) ∧ Aside0 (Kd.R (Kd.int .i64) 3 w' w.heap.size (fun _ => True) u423001 x423001_1) ∧ Aside0 (w'.heap[gb419]? = some (.cells #[.int .i64 a0_0, (.slice A0_1 l0_1.length c0_1)] 26 (0, 0))) ∧ Aside0 (w'.heap[gb420]? = some (.cells #[.int .i64 0, (.slice none 0 0)] 26 (0, 0))) ∧ Aside0 (w'.heap[gb422]? = some (.cells #[.int .i64 a0_0, u423001] 26 (0, 0))) ∧ Aside0 (Below w.heap.size w w'))
  case atStart => exact ⟨(0), (([] : List Int)), (.slice none 0 0), (by first | rfl | (simp; done) | (simp [*]; done)), H', ⟨Nat.le_refl _⟩, ⟨Zr HO425⟩, ⟨by first | exact Kd.R_nil _ _ _ _ _ | exact Kd.N_nil _ _ _ _ _ | exact Kd.V_nil _ _ _ _ _ | exact Kd.Q_nil _ _ _ _ _ | exact Kd.S_nil _ _ _ _ _⟩, ⟨Zb BK419⟩, ⟨Zb BK420⟩, ⟨Zb BK422⟩, ⟨Zl HB⟩⟩
  case round =>
   (clear H'; (try clear c1); (try clear p2); (try clear c3); (try clear c4); (try clear c7); (try clear c12); (try clear c13); (try clear c15); (try clear hcz10_0); (try clear hcz10_1); (try clear hcz14_0); (try clear hcz14_1); (try clear hcz15_0); (try clear hcz15_1); (try clear hcz8_0); (try clear hcz8_1); (try clear hfz10_0); (try clear hfz10_1); (try clear hfz14_0); (try clear hfz14_1); (try clear hfz15_0); (try clear hfz15_1); (try clear hfz8_0); (try clear hfz8_1)); obtain ⟨x17_1, x423001_1, u423001, rfl, HA, HK1, HO_15, HO_423001, BK419, BK420, BK422, HB⟩ := hrel
   cases gk with
   | zero => exact absurd HA.out (by simp [impl_DropIdle.l0])
   | succ k1 =>
    have H := HA.out; clear HA
    simp only [impl_DropIdle.l0] at H
    by_cases c18 : x17_1 < (t423.length : Int)
    ·
     rw [if_pos c18] at H; have c18b0 : decide (x17_1 < (t423.length : Int)) = true := decide_eq_true c18; clear c18
     by_cases c19 : 0 ≤ x17_1
     ·
      rw [if_pos c19] at H; have c19b0 : decide (0 ≤ x17_1) = true := decide_eq_true c19; clear c19
      by_cases c20 : x17_1 < (t423.length : Int)
      ·
       rw [if_pos c20] at H; have c20b0 : decide (x17_1 < (t423.length : Int)) = true := decide_eq_true c20; clear c20; obtain ⟨bq21, hbq21⟩ : ∃ b_ : Bool, b_ = (rdOf false t423 x17_1) := ⟨_, rfl⟩; (replace H : (if bq21 = true then (if x17_1 < (l0_1.length : Int) then (if x423001_1.length < 17592186044416 then (impl_DropIdle.l0 k1 t423 (t423.length : Int) (wrap64 (x17_1 + 1)) a0_0 l0_1 a0_0 (x423001_1 ++ [rd l0_1 x17_1])) else (none)) else (none)) else (impl_DropIdle.l0 k1 t423 (t423.length : Int) (wrap64 (x17_1 + 1)) a0_0 l0_1 a0_0 x423001_1)) = some (r1, r2, r3) := by rw [← hbq21] at H; exact H)
       have Nbq21 := Aside0.mk hbq21; clear hbq21
       by_cases c22 : bq21 = true
       ·
        subst c22
        rw [if_pos rfl] at H
        by_cases c23 : x17_1 < (l0_1.length : Int)
        ·
         rw [if_pos c23] at H; have c23b0 : decide (x17_1 < (l0_1.length : Int)) = true := decide_eq_true c23; clear c23
         by_cases c24 : x423001_1.length < 17592186044416
         ·
          rw [if_pos c24] at H
          have LMc24 := Aside0.mk c24; clear c24
          obtain ⟨y428, hy428⟩ : ∃ y_ : List Int, y_ = (x423001_1 ++ [rd l0_1 x17_1]) := ⟨_, rfl⟩; (replace H : (impl_DropIdle.l0 k1 t423 (t423.length : Int) (wrap64 (x17_1 + 1)) a0_0 l0_1 a0_0 y428) = some (r1, r2, r3) := by first | (rw [hy428]; with_reducible exact H) | (have H2_ := (Option.bind_some _ _).symm.trans H; rw [hy428]; with_reducible exact H2_) | (have H2_ := (Option.bind_some _ _).symm.trans H; with_reducible exact H2_) | with_reducible exact H | (rw [hy428]; exact H) | exact H)
          have Ny428 := Aside0.mk hy428; clear hy428; have H' := Aside0.mk H; clear H; have p426 : 0 ≤ (x17_1 : Int) := of_decide_eq_true (by first | (with_reducible assumption) | assumption); have q426 : x17_1 < (t423.length : Int) := of_decide_eq_true (by first | (with_reducible assumption) | assumption)
          obtain ⟨ad426, e426, hx426_0⟩ := Kd.at_bool (Kd.R_reads' HO_15.out).2.2 x17_1 p426 q426
          (try rw [← Nbq21.out] at hx426_0)
          cases e426
          replace p426 := eq_true p426
          replace q426 := eq_true q426
          try go_wp2
          replace HO_15 := Zm (Kd.R_drew HO_15.out); replace HO_423001 := Zm (Kd.R_drew HO_423001.out); replace BK419 := Zm (blk_drew BK419.out); replace BK420 := Zm (blk_drew BK420.out); replace BK422 := Zm (blk_drew BK422.out); replace HB := Zm (below_drew1 HB.out); have p427 : 0 ≤ (x17_1 : Int) := of_decide_eq_true (by first | (with_reducible assumption) | assumption); have q427 : x17_1 < (l0_1.length : Int) := of_decide_eq_true (by first | (with_reducible assumption) | assumption)
          obtain ⟨ad427, e427, hx427_0⟩ := Kd.at_int HR0_1.out x17_1 p427 q427
          have hw427_0 := hx427_0
          cases e427
          replace hx427_0 := (HB.out.cell (World.block_lt_of_cell? w _ hx427_0)).trans hx427_0
          replace p427 := eq_true p427
          replace q427 := eq_true q427
          refine start_ (n := 11) (S := fun w' => w'.cell? ⟨gb422, 0, none⟩ = some (.int .i64 a0_0) ∧ w'.cell? ⟨gb422, 1, none⟩ = some (u423001) ∧ w'.cell? ⟨gb419, 0, none⟩ = some (.int .i64 a0_0) ∧ w'.cell? ⟨gb419, 1, none⟩ = some (.slice (some ad427) l0_1.length c0_1) ∧ w'.cell? (ad427.add (x17_1).toNat) = some (.int .i64 (rd l0_1 x17_1))) (ds := [10]) (fl 11 0) (by kernel_rfl) rfl rfl ⟨(blk_cell BK422.out 0).trans rfl, (blk_cell BK422.out 1).trans rfl, (blk_cell BK419.out 0).trans rfl, (blk_cell BK419.out 1).trans rfl, ((HB.out.cell (World.block_lt_of_cell? w _ hw427_0)).trans hw427_0)⟩ (fun hHeld => ?_); refine with_tabW impl_DropIdle.tab8 impl_DropIdle.bits8 (fun HT_ HW_ => ?_)
          generalize wr.drew = w25 at HO_15 HO_423001 BK419 BK420 BK422 HB hx427_0 hHeld ⊢; refine Yu 0 23 (fl 11 1) HT_ (h := ?_); refine Yu 2 25 (fl 11 5) HT_ (h := ?_); refine Yu 4 27 (fl 11 21) HT_ (h := ?_); refine Yt 1 24 (fl 11 23) HT_ HW_ hHeld (h := ?_); refine Yt 3 26 (fl 11 31) HT_ HW_ hHeld (h := ?_); refine Yu 5 28 (fl 11 63) HT_ (h := ?_); refine Yt 6 29 (fl 11 127) HT_ HW_ hHeld (h := ?_)
          refine one_ (i := 7) (N := some 30) (fl 11 255) rfl rfl (one_of HT_.out (by kernel_rfl)) (by decide) (fun K hK => ?_)
          refine value_ (w1 := ?_) (v := ?_) (by rfl) rfl ?_ ?_
          rotate_left 2
          ·
           go_simp
           constructor
           ·
            rfl
           ·
            rfl
          refine hK.out _ _ ⟨(blk_cell (blk_alloc BK422.out _) 0).trans rfl, (blk_cell (blk_alloc BK422.out _) 1).trans rfl, (blk_cell (blk_alloc BK419.out _) 0).trans rfl, (blk_cell (blk_alloc BK419.out _) 1).trans rfl, (World.cell?_alloc_lt _ _ _ (World.block_lt_of_cell? _ _ (((HB.out.cell (World.block_lt_of_cell? w _ hw427_0)).trans hw427_0)))).trans (((HB.out.cell (World.block_lt_of_cell? w _ hw427_0)).trans hw427_0))⟩ (fun hHeld => ?_)
          clear hK K; refine Yn 30 (h := ?_)
          refine one_ (i := 8) (N := some 31) (fl 11 511) rfl rfl (one_of HT_.out (by kernel_rfl)) (by decide) (fun K hK => ?_)
          refine Kd.R_append_step (Kd.int .i64) (w0 := w) w.heap.size (by rfl) (.tmp 24) (.tmp 30) 24 3 (.int .i64 0) 8 rfl Try.underlying24 info3 rfl (by decide) (by omega) u423001 x423001_1 (rd l0_1 x17_1) [.int .i64 (rd l0_1 x17_1)] (fun _ => True) (fun _ => False) rfl rfl ?aP (fun _ hk => hk.elim) ?aF ?aO ?aB ?aS ?aL ?_
          (case aP => exact rfl)
          (case aB => exact (Zl HB))
          (case aF => exact (fun _ _ => trivial))
          (case aO => exact (Zr HO_423001))
          (case aS => exact (below_size (Zl HB)))
          (case aL => have := LMc24.out; omega)
          intro v429 w26 ho hb hg hat
          rw [← Ny428.out] at ho
          replace HO_15 := Zm (Kd.R_over' (Zr HO_15) (Kd.R_typed (Zr HO_423001)) (by decide) hg); replace BK419 := Zm (blk_grown (Zb BK419) hg (Kd.R_ne HO_423001.out BK419.out (by decide))); replace BK420 := Zm (blk_grown (Zb BK420) hg (Kd.R_ne HO_423001.out BK420.out (by decide))); replace BK422 := Zm (blk_grown (Zb BK422) hg (Kd.R_ne HO_423001.out BK422.out (by decide))); replace HB := Zm (hb); have HO430 := Zm (ho); clear HO_423001 ho hb hg hat
          obtain ⟨Ao27, co27, eo27⟩ := Kd.R_slice HO430.out
          (first | subst eo27 | (injection eo27 with f1_ f2_ f3_; have f4_ := f1_.symm; have f5_ := f3_.symm; clear f1_ f2_ f3_; subst f4_; subst f5_))
          refine hK.out _ _ ⟨(blk_cell BK422.out 0).trans rfl, (blk_cell BK422.out 1).trans rfl, (blk_cell BK419.out 0).trans rfl, (blk_cell BK419.out 1).trans rfl, ((HB.out.cell (World.block_lt_of_cell? w _ hw427_0)).trans hw427_0)⟩ (fun hHeld => ?_)
          clear hK K; refine Yn 31 (h := ?_); refine Yu 9 32 (fl 11 1023) HT_ (h := ?_)
          refine last_ (i := 10) (N := none) (fl 11 2047) rfl rfl (one_of HT_.out (by kernel_rfl)) (by decide) (fun K hK => ?_)
          have hs28 : w26.cell? ⟨gb422, 1, none⟩ = some (u423001) := (blk_cell BK422.out 1).trans rfl; have hfs28 := blk_frozen BK422.out 1; have hns28_0 := NB419_422.out; have hns28_1 := NB420_422.out; have hms28_0 := NB422_419.out; have hms28_1 := NB422_420.out
          refine skip_ (w1 := ?_) (by rfl) rfl ?_ ?_
          rotate_left
          ·
           go_simp
           rfl
          refine hK.out _ _ ?_
          clear hK K
          refine done_ (done_of HT_.out (by kernel_rfl)) ?_
          try go_wp2
          go_roundg k1
          case measure => have := HK1.out; omega
          case rel => exact ⟨(wrap64 (x17_1 + 1)), (y428), (.slice Ao27 y428.length co27), (by first | rfl | (simp; done) | (simp [*]; done)), H', ⟨by have := HK1.out; omega⟩, ⟨by (with_reducible repeat (first | apply Kd.R_alloc | apply Kd.R_drewN | apply Kd.R_drew)); exact Kd.R_mono (Kd.R_far (p := ⟨gb422, 1, none⟩) (Kd.R_types HO_15.out BK422.out (by decide)) (fun _ hk => hk.2) (.slice Ao27 y428.length co27)) (fun _ hk => trivial)⟩, ⟨by (with_reducible repeat (first | apply Kd.R_alloc | apply Kd.R_drewN | apply Kd.R_drew)); exact Kd.R_mono (Kd.R_far (p := ⟨gb422, 1, none⟩) (Kd.R_types HO430.out BK422.out (by decide)) (fun _ hk => hk.2) (.slice Ao27 y428.length co27)) (fun _ hk => trivial)⟩, ⟨by (with_reducible repeat (first | refine blk_drewN ?_ _ | refine blk_drew ?_ | refine blk_alloc ?_ _)); refine blk_far ?_ NB419_422.out _; (with_reducible repeat (first | refine blk_drewN ?_ _ | refine blk_drew ?_ | refine blk_alloc ?_ _)); exact BK419.out⟩, ⟨by (with_reducible repeat (first | refine blk_drewN ?_ _ | refine blk_drew ?_ | refine blk_alloc ?_ _)); refine blk_far ?_ NB420_422.out _; (with_reducible repeat (first | refine blk_drewN ?_ _ | refine blk_drew ?_ | refine blk_alloc ?_ _)); exact BK420.out⟩, ⟨by (with_reducible repeat (first | refine blk_drewN ?_ _ | refine blk_drew ?_ | refine blk_alloc ?_ _)); refine blk_put (cs := #[.int .i64 a0_0, u423001]) ?_ 1 _ rfl; (with_reducible repeat (first | refine blk_drewN ?_ _ | refine blk_drew ?_ | refine blk_alloc ?_ _)); exact BK422.out⟩, ⟨Zl HB⟩⟩
         ·
          rw [if_neg c24] at H
          exact absurd H (by simp)
        ·
         rw [if_neg c23] at H
         exact absurd H (by simp)
       ·
        replace c22 := Bool.eq_false_iff.mpr c22
        subst c22
        rw [if_neg Bool.false_ne_true] at H
        have H' := Aside0.mk H; clear H; have p426 : 0 ≤ (x17_1 : Int) := of_decide_eq_true (by first | (with_reducible assumption) | assumption); have q426 : x17_1 < (t423.length : Int) := of_decide_eq_true (by first | (with_reducible assumption) | assumption); obtain ⟨ad426, e426, hx426_0⟩ := Kd.at_bool (Kd.R_reads' HO_15.out).2.2 x17_1 p426 q426
        (try rw [← Nbq21.out] at hx426_0)
        cases e426
        replace p426 := eq_true p426
        replace q426 := eq_true q426
        go_wp2
        go_roundg k1
        case measure => have := HK1.out; omega
        case rel => exact ⟨(wrap64 (x17_1 + 1)), (x423001_1), (u423001), (by first | rfl | (simp; done) | (simp [*]; done)), H', ⟨by have := HK1.out; omega⟩, ⟨Zr HO_15⟩, ⟨Zr HO_423001⟩, ⟨Zb BK419⟩, ⟨Zb BK420⟩, ⟨Zb BK422⟩, ⟨Zl HB⟩⟩
      ·
       rw [if_neg c20] at H
       exact absurd H (by simp)
     ·
      rw [if_neg c19] at H
      exact absurd H (by simp)
    ·
     rw [if_neg c18] at H; have c18b0 : decide (x17_1 < (t423.length : Int)) = false := decide_eq_false c18; clear c18
     simp only [Option.some.injEq, Prod.mk.injEq] at H
     obtain ⟨rfl, rfl, rfl⟩ := H
     have hnb29 := NB422_419.out; have hnc29 := NB419_422.out; have hnb30 := NB422_420.out; have hnc30 := NB420_422.out; have hcz31_0 : wr.cell? ⟨gb422, 0, none⟩ = some (.int .i64 a0_0) := (blk_cell BK422.out 0).trans rfl; have hcz31_1 : wr.cell? ⟨gb422, 1, none⟩ = some (u423001) := (blk_cell BK422.out 1).trans rfl; have hfz31_0 := blk_frozen BK422.out 0; have hfz31_1 := blk_frozen BK422.out 1; have hnb32 := NB420_419.out; have hnc32 := NB419_420.out; have hcz33_0 : wr.cell? ⟨gb420, 0, none⟩ = some (.int .i64 0) := (blk_cell BK420.out 0).trans rfl; have hcz33_1 : wr.cell? ⟨gb420, 1, none⟩ = some (.slice none 0 0) := (blk_cell BK420.out 1).trans rfl; have hfz33_0 := blk_frozen BK420.out 0; have hfz33_1 := blk_frozen BK420.out 1
     obtain ⟨Ao34, co34, eo34⟩ := Kd.R_slice HO_423001.out; subst eo34
     go_wp2
     refine bodyPost_ret (results_ct rfl _ _ gb420 26 #[.int .i64 a0_0, .slice Ao34 x423001_1.length co34] (0, 0) _ rfl (by (with_reducible repeat (first | refine blk_drewN ?_ _ | refine blk_drew ?_ | refine blk_alloc ?_ _)); refine blk_put (cs := #[.int .i64 a0_0, .slice none 0 0]) ?_ 1 _ rfl; (with_reducible repeat (first | refine blk_drewN ?_ _ | refine blk_drew ?_ | refine blk_alloc ?_ _)); refine blk_put (cs := #[.int .i64 0, .slice none 0 0]) ?_ 0 _ rfl; (with_reducible repeat (first | refine blk_drewN ?_ _ | refine blk_drew ?_ | refine blk_alloc ?_ _)); exact BK420.out) Try.underlying26 rfl (by kernel_rfl)) rfl ?_
     exact ⟨_, by first | rfl | (simp [errW_none, errW_some] <;> rfl) | (simp [*, errW_none, errW_some] <;> rfl), by (with_reducible repeat (first | apply Kd.R_alloc | apply Kd.R_drewN | apply Kd.R_drew)); exact Kd.R_mono (Kd.R_far (p := ⟨gb420, 1, none⟩) (Kd.R_far (p := ⟨gb420, 0, none⟩) (Kd.R_types HO_423001.out BK420.out (by decide)) (fun _ hk => hk.2) (.int .i64 a0_0)) (fun _ hk => hk.2) (.slice Ao34 x423001_1.length co34)) (fun _ hk => trivial), Zl HB⟩
 ·
  replace c3 := Bool.eq_false_iff.mpr c3
  subst c3
  rw [if_neg Bool.false_ne_true] at H
  simp only [Option.some.injEq, Prod.mk.injEq] at H
  obtain ⟨rfl, rfl, rfl⟩ := H
  go_enter Try.func15, Try.ntmps15
  go_wp2_with (first | ((with_reducible refine gate_dst (N := 1) rfl ?_); refine box_event ?hg (N := 1) ?hd (cs := #[.int .i64 a0_0, .slice A0_1 l0_1.length c0_1]) (t := 26) ?hr ?_; (case hd => rfl); (case hg => rfl); (case hr => first | (go_simp; done) | (go_simp; rfl)); intro gb419 hg w35 hbox hb; have BK419 := Zm (hbox); have GW419 := Zx hg HB; have GE419 := Zx hg HB; replace HB := Zh HB hb; clear hb hbox hg) | ((with_reducible refine gate_dst (N := 2) rfl ?_); refine box_event ?hg (N := 2) ?hd (cs := #[.int .i64 0, .slice none 0 0]) (t := 26) ?hr ?_; (case hd => rfl); (case hg => rfl); (case hr => first | (go_simp; done) | (go_simp; rfl)); intro gb420 hg w36 hbox hb; have BK420 := Zm (hbox); have GW420 := Zx hg HB; have GE420 := Zx hg HB; replace HB := Zh HB hb; have NB419_420 := Zq hg BK419; have NB420_419 := Zp hg BK419; replace BK419 := Zk BK419 hb; clear hb hbox hg; have hnb37 := NB419_420.out; have hnc37 := NB420_419.out; have hcz38_0 : w36.cell? ⟨gb419, 0, none⟩ = some (.int .i64 a0_0) := (blk_cell BK419.out 0).trans rfl; have hcz38_1 : w36.cell? ⟨gb419, 1, none⟩ = some (.slice A0_1 l0_1.length c0_1) := (blk_cell BK419.out 1).trans rfl; have hfz38_0 := blk_frozen BK419.out 0; have hfz38_1 := blk_frozen BK419.out 1) | ((with_reducible refine gate_callee (f := 31) rfl ?_); refine Ga (some 8) Try.func31 #[.agg #[.int .i64 a0_0, .slice A0_1 l0_1.length c0_1]] (h := ?_); (with_reducible refine (impl_isLadder.calls a0_0 _ _ l0_1 false _ ?side1 ?side2 A2.out).mono ?_); (case side1 => repeat (first | exact (Kd.C_below HR0_1.out HB.out) | (with_reducible refine Kd.C_alloc ?_ _) | (with_reducible refine Kd.C_drewN ?_ _) | (with_reducible refine Kd.C_drew ?_))); (case side2 => exact HC0_1.out); rintro e w39 ⟨rfl, hb⟩; refine ⟨_, rfl, ?_⟩; replace BK419 := Zk BK419 hb; replace BK420 := Zk BK420 hb; replace HB := Zh HB hb; (try clear hb); (try clear hb2); (try clear hk); (try clear hi); have hcz40_0 : w39.cell? ⟨gb420, 0, none⟩ = some (.int .i64 0) := (blk_cell BK420.out 0).trans rfl; have hcz40_1 : w39.cell? ⟨gb420, 1, none⟩ = some (.slice none 0 0) := (blk_cell BK420.out 1).trans rfl; have hfz40_0 := blk_frozen BK420.out 0; have hfz40_1 := blk_frozen BK420.out 1))
  refine bodyPost_ret (results_ct rfl _ _ gb420 26 #[.int .i64 0, .slice none 0 0] (0, 0) _ rfl (by (with_reducible repeat (first | refine blk_drewN ?_ _ | refine blk_drew ?_ | refine blk_alloc ?_ _)); refine blk_put (cs := #[.int .i64 0, .slice none 0 0]) ?_ 1 _ rfl; (with_reducible repeat (first | refine blk_drewN ?_ _ | refine blk_drew ?_ | refine blk_alloc ?_ _)); refine blk_put (cs := #[.int .i64 0, .slice none 0 0]) ?_ 0 _ rfl; (with_reducible repeat (first | refine blk_drewN ?_ _ | refine blk_drew ?_ | refine blk_alloc ?_ _)); exact BK420.out) Try.underlying26 rfl (by kernel_rfl)) rfl ?_
  exact ⟨_, by first | rfl | (simp [errW_none, errW_some] <;> rfl) | (simp [*, errW_none, errW_some] <;> rfl), by first | exact Kd.R_nil _ _ _ _ _ | exact Kd.N_nil _ _ _ _ _ | exact Kd.V_nil _ _ _ _ _ | exact Kd.Q_nil _ _ _ _ _ | exact Kd.S_nil _ _ _ _ _, Zl HB⟩

end Go.Proofs.Ytnagcjhgojchlac.Q
