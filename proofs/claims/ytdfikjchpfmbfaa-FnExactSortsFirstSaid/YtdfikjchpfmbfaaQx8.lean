/- Each function below comes to the Lean function beside it (theorems '.calls'); no condition beyond each theorem's own. Written by our program oprint.py over the kit's print. -/
import Derived.Test.YtdfikjchpfmbfaaQx0
import Derived.Test.YtdfikjchpfmbfaaQx9
import Derived.Test.YtdfikjchpfmbfaaQx11
import Derived.Shelf.Abstract
namespace Go.Proofs.Ytdfikjchpfmbfaa.Q
open Go.RowKit Go.Proofs.YtdfikjchpfmbfaaW.PrintWords Go.Proofs.YtdfikjchpfmbfaaW.PrintLast Go.Proofs.YtdfikjchpfmbfaaW.PrintMore
attribute [local go_sem] max2_int min2_int max_two min_two max_three min_three max_four min_four   -- for this text's walks alone
set_option linter.unusedVariables false
set_option linter.unusedSimpArgs false

/-- The noughts and ones of a number, the greatest place first. -/
def bitsV (n x : Nat) : List Int := (List.range n).map fun i => ((x / 2 ^ (n - 1 - i) % 2 : Nat) : Int)
theorem bitsV_length (n x : Nat) : (bitsV n x).length = n := by simp [bitsV]
theorem bitsV_take (n x i : Nat) (h : i < n) : (bitsV n x).take (i + 1) = (bitsV n x).take i ++ [((x / 2 ^ (n - 1 - i) % 2 : Nat) : Int)] := by
  rw [List.take_succ_eq_append_getElem (by rw [bitsV_length]; exact h)]
  simp [bitsV]
theorem and_one_fin : ∀ m ∈ List.range 257, bits BinOp.and IntKind.i64 (m : Int) 1 = ((m % 2 : Nat) : Int) := by decide +kernel
def bitsFold {α : Type} (step : α → List Int → Option α) (n : Nat) : Nat → Nat → α → Option α
  | 0, _, s => some s
  | d + 1, x, s => (step s (bitsV n x)).bind fun s2 => bitsFold step n d (x + 1) s2
theorem bitsFold_mono {α : Type} {s1 s2 : α → List Int → Option α} (h : ∀ s xs, LeO (s1 s xs) (s2 s xs)) (n : Nat) : ∀ d x s, LeO (bitsFold s1 n d x s) (bitsFold s2 n d x s)
  | 0, _, _ => LeO.refl _
  | d + 1, x, s => LeO.bind (h _ _) (fun _ => bitsFold_mono h n d (x + 1) _)
set_option maxHeartbeats 8000000 in
set_option maxRecDepth 100000 in
theorem impl_bits.calls {α : Type} (step : α → List Int → Option α) (I : α → (Nat → Prop) → World → Prop) (g : Nat) (lb : Array Value) (B : Nat) (cl0 : CloList g lb B I step) (n : Nat) (hn : n ≤ 8) (st0 : α) (S0 : Nat → Prop) (rs : α) (w : World) (hi0 : I st0 S0 w) (hBw : B ≤ w.heap.size) (h : bitsFold step n (2 ^ n) 0 st0 = some rs) :
    Calls Try.prog 17 #[.int .i64 (n : Int), .func (.func g) #[] lb] w fun e w' => e = .returned (.tuple #[]) ∧ ∃ (S' : Nat → Prop), I rs S' w' ∧ Eff S0 w w' ∧ ∀ k_, S' k_ → S0 k_ ∨ w.heap.size ≤ k_ := by
  have eg := cl0.enters
  have CL := Aside0.mk cl0
  have HI := Aside0.mk hi0
  have HBW := Aside0.mk hBw
  clear cl0 hi0 hBw
  have H := Aside0.mk h
  clear h
  obtain ⟨N, hN⟩ : ∃ N : Nat, N = 2 ^ n := ⟨_, rfl⟩
  have hNb : N ≤ 256 := by rw [hN]; exact Nat.pow_le_pow_right (n := 2) (by omega) hn
  rw [← hN] at H
  have hsh : wrap64 ((2 : Int) ^ n) = (N : Int) := by
    have : (2 : Int) ^ n = ((2 ^ n : Nat) : Int) := by norm_cast
    rw [this, ← hN]
    unfold wrap64
    omega
  have HN := Aside0.mk hN
  clear hN
  go_enter Try.func17, Try.ntmps17
  go_wp2
  simp only [hsh]
  go_loopg [9] N (fun gg v9 wr => ∃ (x : Nat) (st1 : α) (S1 : Nat → Prop), v9 = .int .i64 (x : Int) ∧ x ≤ N ∧ N - x ≤ gg ∧ Aside0 (bitsFold step n (N - x) x st1 = some rs) ∧ Aside0 (I st1 S1 wr) ∧ Aside0 (Eff S0 w wr) ∧ Aside0 (∀ k_, S1 k_ → S0 k_ ∨ w.heap.size ≤ k_))
  case atStart => exact ⟨0, st0, S0, rfl, Nat.zero_le _, by omega, ⟨H.out⟩, ⟨HI.out⟩, ⟨Eff.refl _ _⟩, ⟨fun _ h_ => .inl h_⟩⟩
  case round =>
    clear H HI
    obtain ⟨x, st1, S1, rfl, hx, hg, HA, HI, HB, HSS⟩ := hrel
    by_cases hlt : x < N
    · have hltz : (x : Int) < (N : Int) := by omega
      have h1 := HA.out
      clear HA
      rw [show N - x = (N - (x + 1)) + 1 from by omega] at h1
      simp only [bitsFold] at h1
      replace h1 := Option.bind_eq_some_iff.mp h1
      obtain ⟨st2, e1, e2⟩ := h1
      have HE1 := Aside0.mk e1
      have HE2 := Aside0.mk e2
      clear e1 e2
      obtain ⟨wo, rfl⟩ : ∃ wo : World, wo = wr := ⟨_, rfl⟩
      have HBi := Aside0.mk (Below.refl wo.heap.size wo)
      go_wp2_with (first | ((with_reducible refine gate_dst (N := 12) rfl ?_); refine Kd.R_lit (Kd.int .i64) _ 3 ?hg (N := 12) ?hd (xs := ([] : List Int)) (inner := []) (ok := fun _ => True) (okp := fun _ => True) ?hr ?hp (fun _ hk => hk) trivial (Below.refl _ _) (Nat.le_refl _) (by simp) ?_; (case hd => rfl); (case hg => rfl); (case hr => first | (go_simp; done) | (go_simp; rfl)); (case hp => exact (Reps.none _ _)); intro v115 w2 ho3 hb hg_ hnew_; clear hg_ hnew_; have n0_ := Aside0.mk ho3; have n1_ := Aside0.mk (below_step HBi.out hb); clear HBi; have HO116 := n0_; have HBi := n1_; clear n0_ n1_; clear hb ho3))
      go_loopg [5, 14] n (fun gq v5 v14 w' => ∃ (i : Nat), v14 = .int .i64 (i : Int) ∧ i ≤ n ∧ n - i ≤ gq ∧ Aside0 (Kd.R (Kd.int .i64) 3 w' wo.heap.size (fun _ => True) v5 ((bitsV n x).take i)) ∧ Aside0 (Below wo.heap.size wo w'))
      case atStart => exact ⟨0, rfl, Nat.zero_le _, by omega, ⟨HO116.out⟩, ⟨HBi.out⟩⟩
      case round =>
        clear HO116 HBi
        obtain ⟨i, rfl, hi, hg2, HO, HBj⟩ := hrel
        by_cases hlt2 : i < n
        · have hltz2 : (i : Int) < (n : Int) := by omega
          obtain ⟨y, hy⟩ : ∃ y : Int, y = ((x / 2 ^ (n - 1 - i) % 2 : Nat) : Int) := ⟨_, rfl⟩
          have hand : bits BinOp.and IntKind.i64 ((x : Int) / 2 ^ (n - 1 - i)) 1 = y := by
            have h3 := and_one_fin (x / 2 ^ (n - 1 - i)) (List.mem_range.2 (by have := Nat.div_le_self x (2 ^ (n - 1 - i)); omega))
            rw [hy, ← h3]
            norm_cast
          have HT := Aside0.mk (show (bitsV n x).take (i + 1) = (bitsV n x).take i ++ [y] from by rw [hy]; exact bitsV_take n x i hlt2)
          have HL := Aside0.mk (show ((bitsV n x).take i).length ≤ 8 from by rw [List.length_take]; omega)
          clear hy
          go_wp2_with (first | ((with_reducible refine gate_builtin (b := .append) (xs := #[.tmp 17, .tmp 25]) rfl ?_); at_builtin; refine Kd.R_append (Kd.int .i64) (w0 := wo) wo.heap.size rfl (.tmp 17) (.tmp 25) 22 3 (.int .i64 0) 8 rfl Try.underlying22 infoI rfl (by decide) (by omega) u5 ((bitsV n x).take i) y [.int .i64 y] (fun _ => True) (fun _ => False) rfl rfl ?aP (fun _ hk => hk.elim) ?aF ?aO ?aB ?aS ?aL ?_; (case aP => exact rfl); (case aB => exact (by repeat (first | (with_reducible first | exact HBj.out | apply below_alloc | apply pw_below_drewN | apply below_drew1) | exact HBj.out))); (case aF => exact (fun _ _ => trivial)); (case aO => exact (by (with_reducible repeat (first | apply Kd.R_alloc | apply Kd.R_drewN | apply Kd.R_drew)); exact HO.out)); (case aS => exact (below_size (by repeat (first | (with_reducible first | exact HBj.out | apply below_alloc | apply pw_below_drewN | apply below_drew1) | exact HBj.out)))); (case aL => have := HL.out; omega); intro v118 w6 ho hb hg hat; rw [← HT.out] at ho; have n0_ := Aside0.mk (hb); have n1_ := Aside0.mk (ho); clear HBj; clear HO; have HBj := n0_; have HO := n1_; clear n0_ n1_; clear ho hb hg hat))
          go_roundg (n - (i + 1))
          case measure => omega
          case rel => exact ⟨i + 1, by go_num, by omega, by omega, ⟨HO.out⟩, ⟨HBj.out⟩⟩
        · have hltz2 : ¬ (i : Int) < (n : Int) := by omega
          obtain rfl : i = n := by omega
          have hO := HO.out
          rw [List.take_of_length_le (by rw [bitsV_length]; omega)] at hO
          have HI2 := Aside0.mk (show I st1 S1 wr from CL.out.move _ _ _ _ HI.out (fun k_ hk_ _ => HBj.out.block k_ hk_) HBj.out.size)
          have HO2 := Aside0.mk (show Kd.R (Kd.int .i64) 3 wr B (fun k_ => ¬ S1 k_) u5 (bitsV i x) from Kd.R_lower (fresh_row hO (fun k_ h_ => CL.out.lt _ _ _ _ HI.out h_)) (Nat.le_trans HBW.out (eff_size HB.out)))
          have HOB := Aside0.mk (show ∀ k_, u5.ownBlock = some k_ → w.heap.size ≤ k_ from fun k_ h_ => Nat.le_trans (eff_size HB.out) ((Kd.R_bound hO).1 k_ h_).2.1)
          have HB2 := Aside0.mk (eff_step HB.out HBj.out)
          clear hO HO HI HB
          go_wp2_with (first | (go_at_fn g; refine (CL.out.call st1 st2 S1 _ u5 _ HI2.out HO2.out HE1.out).mono ?_; rintro e w24 ⟨rfl, S2, hi2, he2, hs2⟩; have HI3 := Aside0.mk hi2; have HB3 := Aside0.mk (eff_then HB2.out he2 HSS.out); have HS3 := Aside0.mk (fun k_ (h_ : S2 k_) => (hs2 k_ h_).elim (HSS.out k_) (fun h2_ => Or.inr (h2_.elim (HOB.out k_) (fun h3_ => Nat.le_trans (eff_size HB2.out) h3_)))); clear hi2 he2 hs2))
          go_roundg (N - (x + 1))
          case measure => omega
          case rel => exact ⟨x + 1, st2, S2, by go_num, by omega, by omega, ⟨HE2.out⟩, ⟨HI3.out⟩, ⟨HB3.out⟩, ⟨HS3.out⟩⟩
    · have hltz : ¬ (x : Int) < (N : Int) := by omega
      have h1 := HA.out
      clear HA
      rw [show N - x = 0 from by omega] at h1
      obtain rfl := Option.some.inj h1
      clear h1
      go_wp2
      go_end0
      exact ⟨rfl, S1, HI.out, HB.out, HSS.out⟩

end Go.Proofs.Ytdfikjchpfmbfaa.Q
