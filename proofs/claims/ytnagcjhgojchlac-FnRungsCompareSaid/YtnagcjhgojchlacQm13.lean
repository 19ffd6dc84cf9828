/- Each function below comes to the Lean function beside it (theorems '.calls'); no condition beyond each theorem's own. Written by our program oprint.py over the kit's print. -/
import Derived.Test.YtnagcjhgojchlacQm0
import Derived.Test.YtnagcjhgojchlacQm5
import Derived.Test.YtnagcjhgojchlacQm6
import Derived.Test.YtnagcjhgojchlacQm12
import Derived.Test.YtnagcjhgojchlacQm10
import Derived.Test.YtnagcjhgojchlacQm7
import Derived.Test.YtnagcjhgojchlacQm11
import Derived.Shelf.Abstract
import Derived.WalkSpells
import Derived.Deep.RegionHeld3
import Derived.RegionTactic
import Derived.Test.YtnagcjhgojchlacQm8
import Derived.Test.YtnagcjhgojchlacQm9
namespace Go.Proofs.Ytnagcjhgojchlac.Q
open Go.RowKit Go.Proofs.YtnagcjhgojchlacW.PrintWords Go.Proofs.YtnagcjhgojchlacW.PrintLast Go.Proofs.YtnagcjhgojchlacW.PrintMore
attribute [local go_sem] max2_int min2_int max_two min_two max_three min_three max_four min_four   -- for this text's walks alone
set_option linter.unusedVariables false
set_option linter.unusedSimpArgs false

/-! ### impl_SortsFirst: function 26 -/
-- GIVEN impl_SortsFirst
theorem slices_Equal_len (k : Nat) (A0 : Option Addr) (c0 n0 : Nat) (l0 : List Int) (A1 : Option Addr) (c1 n1 : Nat) (l1 : List Int) (r : Bool) (w : World) (e0 : l0.length = n0) (e1 : l1.length = n1) (hr0 : Kd.C (Kd.int .i64) w A0 l0.length l0) (hc0 : l0.length ≤ c0) (hr1 : Kd.C (Kd.int .i64) w A1 l1.length l1) (hc1 : l1.length ≤ c1) (h : slices_Equal_int_int.f k l0 l1 = some r) :
    Calls Try.prog 52 #[.slice A0 n0 c0, .slice A1 n1 c1] w fun e w' => e = .returned (.bool r) ∧ Drawn0 w w' := by
  subst e0; subst e1
  exact slices_Equal_int_int.calls k A0 c0 l0 A1 c1 l1 r w hr0 hc0 hr1 hc1 h
def impl_SortsFirst_1.T2 : Bool × List (List Nat × List Nat) := (true, [([], []), ([0], [0]), ([1], [1]), ([2, 1], [1, 2]), ([1], [1]), ([3, 4, 1, 1], [1, 3, 4]), ([1], [1]), ([5, 6, 1], [1, 5, 6]), ([1], [1]), ([1], [1]), ([8, 9, 1], [1, 8, 9]), ([7, 10, 5, 1], [1, 7, 10]), ([1, 11], [1, 11]), ([12, 11, 0, 1, 2, 3, 4, 5, 6, 7, 8, 9, 10, 11, 12], [12])])
def impl_SortsFirst_1.B2 : List Nat := [0, 1, 3, 7, 3, 31, 3, 127, 3, 3, 771, 2047, 4095, 8191]
theorem impl_SortsFirst_1.tab2 : rtab .any (opsOf Try.f49 2) = impl_SortsFirst_1.T2 := by kernel_rfl
theorem impl_SortsFirst_1.bits2 : waitsOk impl_SortsFirst_1.T2.2 impl_SortsFirst_1.B2 = true := by kernel_rfl
set_option maxHeartbeats 8000000 in
set_option maxRecDepth 100000 in
theorem impl_SortsFirst_1.calls (k : Nat) (W : World) (bs bl bk : Nat) (a : Int) (A : Option Addr) (l : List Int) (c : Nat) (kk : Nat) (so : Bool) (v : Value) (xs t : List Int) (b : Bool) {base : Nat} {ok : Nat → Prop} (hr : Kd.C (Kd.int .i64) W A l.length l) (hc : l.length ≤ c)
    (hl : W.heap[bl]? = some (.cells #[.int .i64 a, .slice A l.length c] 26 (0, 0))) (hk : W.heap[bk]? = some (.cells #[.int .i64 (kk : Int)] 3 (0, 0))) (hs : W.heap[bs]? = some (.cells #[.bool so] 4 (0, 0))) (hv : Kd.R (Kd.int .i64) 3 W base ok v xs) (hx : 0 < xs.length) (hx2 : xs.length ≤ 100) (hkx : kk ≤ xs.length)
    (h1 : so = true → impl_sorted.f k l xs = some t ∧ kk ≤ t.length ∧ slices_Equal_int_int.f k (t.take kk) ((srtL xs).take kk) = some b) (h2 : so = false → b = false) :
    Calls Try.prog 49 #[v, .pointer (some ⟨bs, 0, none⟩), .pointer (some ⟨bl, 0, none⟩), .pointer (some ⟨bk, 0, none⟩)] W fun e w' => e = .returned (.tuple #[]) ∧ Eff (fun k_ => k_ = bs) W w' ∧ w'.heap[bs]? = some (.cells #[.bool b] 4 (0, 0)) := by
  have hu := Try.underlying26
  obtain ⟨g1, c1, rfl, hg1, hgl1, cl1, hgc1⟩ := Kd.R_form hv hx
  obtain ⟨hr1m, hr1⟩ := (Kd.R_reads' hv).2
  have HL := Aside0.mk hl
  have HK := Aside0.mk hk
  have HS := Aside0.mk hs
  have HR := Aside0.mk hr
  have HC := Aside0.mk hc
  have HR1 := Aside0.mk hr1
  have HX := Aside0.mk (show 0 < xs.length ∧ xs.length ≤ 100 ∧ kk ≤ xs.length from ⟨hx, hx2, hkx⟩)
  have HCL := Aside0.mk (show slices_Clone_int_int.f xs = some xs from by unfold slices_Clone_int_int.f; rw [if_pos (by omega)])
  have H1 := Aside0.mk h1
  have H2 := Aside0.mk h2
  have HSL := Aside0.mk (srtL_length xs)
  have HCP1 := Aside0.mk (show xs.length ≤ c1 by obtain ⟨A_, c_, e_, h_, _⟩ := Kd.R_reads hv; cases e_; exact h_)
  clear hl hk hs hr hc hr1 h1 h2 hv
  cases so with
  | true =>
    obtain ⟨g1_, g2_, g3_⟩ := H1.out rfl
    have A1 := Aside0.mk g1_
    have HKT := Aside0.mk g2_
    have A2 := Aside0.mk g3_
    clear g1_ g2_ g3_
    go_enter Try.func49, Try.ntmps49
    go_wp2_with (first | (go_at_call 50; refine (slices_Clone_int_int.calls _ _ xs xs _ HR1.out (by omega) HCL.out).mono ?_; rintro e w5 ⟨v5, rfl, ho5, hb5⟩; obtain ⟨g5, c5, rfl, hg5, hgl5, cl5, hgc5⟩ := Kd.R_form ho5 HX.out.1; have HO5 := Aside0.mk ho5; have HB5 := Aside0.mk hb5; have HG5 := Aside0.mk hg5; have HCP5 := Aside0.mk (show xs.length ≤ c5 by obtain ⟨A_, c_, e_, h_, _⟩ := Kd.R_reads ho5; cases e_; exact h_); clear ho5 hb5 hg5 hgl5 hgc5) | (go_at_call 51; refine (slices_Sort1 _ g5 c5 xs HO5.out HX.out.1 (by have := HX.out; omega)).mono ?_; rintro e w6 ⟨rfl, hc6, he6⟩; have HC6 := Aside0.mk hc6; have HB6 := Aside0.mk (eff_below HB5.out he6 (fun k_ e_ => by subst e_; exact HG5.out)); clear hc6 he6 HB5 HO5))
    have HL6 := Aside0.mk (blk_below HL.out HB6.out)
    have HK6 := Aside0.mk (blk_below HK.out HB6.out)
    have HS6 := Aside0.mk (blk_below HS.out HB6.out)
    have hz1 : w6.cell? ⟨bl, 1, none⟩ = some (.slice A l.length c) := (blk_cell HL6.out 1).trans rfl
    have hz2 : w6.cell? ⟨bk, 0, none⟩ = some (.int .i64 (kk : Int)) := cell_of_one HK6.out
    have hz3 : w6.cell? ⟨bs, 0, none⟩ = some (.bool true) := cell_of_one HS6.out
    have hz4 := free_of_one HS6.out
    have hk0 : (0 : Int) ≤ (kk : Int) := by omega
    have hkc5 : (kk : Int) ≤ (c5 : Int) := by have := HCP5.out; omega
    have hc1l : xs.length ≤ c1 := HCP1.out
    refine start_ (n := 14) (S := fun w' => w'.cell? ⟨bs, 0, none⟩ = some (.bool true) ∧ w'.cell? ⟨bl, 1, none⟩ = some (.slice A l.length c) ∧ w'.cell? ⟨bk, 0, none⟩ = some (.int .i64 (kk : Int))) (ds := [13]) #[false, false, false, false, false, false, false, false, false, false, false, false, false, false] (by kernel_rfl) rfl rfl ⟨hz3, hz1, hz2⟩ (fun hHeld => ?_); refine with_tabW impl_SortsFirst_1.tab2 impl_SortsFirst_1.bits2 (fun HT_ HW_ => ?_)
    refine take_ (i := 0) (N := some 10) (v := ?_) (a' := ?_) #[true, false, false, false, false, false, false, false, false, false, false, false, false, false] rfl rfl (take_ofW HT_.out HW_.out (by kernel_rfl)) (fun _ _ _ h => h) (Or.inl ⟨by rfl, ?_⟩) hHeld ?_ ?_
    rotate_left
    · rintro w' ⟨s0, s1, s2⟩
      go_simp
      with_reducible rfl
    rotate_left
    · simp only [Act.put, List.setIfInBounds_toArray, List.set_cons_zero, List.set_cons_succ, i64_w, i32_w]
      rfl
    refine pure_ (i := 1) (N := some 11) (v := ?_) (a' := ?_) #[true, true, false, false, false, false, false, false, false, false, false, false, false, false] rfl rfl (any_of HT_.out (by kernel_rfl)) (fun _ _ _ h => h) (Or.inl ⟨by rfl, ?_⟩) ?_ ?_
    rotate_left
    · intro w'
      go_simp
      with_reducible rfl
    rotate_left
    · simp only [Act.put, List.setIfInBounds_toArray, List.set_cons_zero, List.set_cons_succ, i64_w, i32_w]
      rfl
    refine pure_ (i := 2) (N := some 12) (v := ?_) (a' := ?_) #[true, true, true, false, false, false, false, false, false, false, false, false, false, false] rfl rfl (any_of HT_.out (by kernel_rfl)) (fun _ _ _ h => h) (Or.inl ⟨by rfl, ?_⟩) ?_ ?_
    rotate_left
    · intro w'
      go_simp
      with_reducible rfl
    rotate_left
    · simp only [Act.put, List.setIfInBounds_toArray, List.set_cons_zero, List.set_cons_succ, i64_w, i32_w]
      rfl
    refine pure_ (i := 4) (N := some 14) (v := ?_) (a' := ?_) #[true, true, true, false, true, false, false, false, false, false, false, false, false, false] rfl rfl (any_of HT_.out (by kernel_rfl)) (fun _ _ _ h => h) (Or.inl ⟨by rfl, ?_⟩) ?_ ?_
    rotate_left
    · intro w'
      go_simp
      with_reducible rfl
    rotate_left
    · simp only [Act.put, List.setIfInBounds_toArray, List.set_cons_zero, List.set_cons_succ, i64_w, i32_w]
      rfl
    refine take_ (i := 3) (N := some 13) (v := ?_) (a' := ?_) #[true, true, true, true, true, false, false, false, false, false, false, false, false, false] rfl rfl (take_ofW HT_.out HW_.out (by kernel_rfl)) (fun _ _ _ h => h) (Or.inl ⟨by rfl, ?_⟩) hHeld ?_ ?_
    rotate_left
    · rintro w' ⟨s0, s1, s2⟩
      go_simp
      with_reducible rfl
    rotate_left
    · simp only [Act.put, List.setIfInBounds_toArray, List.set_cons_zero, List.set_cons_succ, i64_w, i32_w]
      rfl
    refine take_ (i := 6) (N := some 16) (v := ?_) (a' := ?_) #[true, true, true, true, true, false, true, false, false, false, false, false, false, false] rfl rfl (take_ofW HT_.out HW_.out (by kernel_rfl)) (fun _ _ _ h => h) (Or.inl ⟨by rfl, ?_⟩) hHeld ?_ ?_
    rotate_left
    · rintro w' ⟨s0, s1, s2⟩
      go_simp
      with_reducible rfl
    rotate_left
    · simp only [Act.put, List.setIfInBounds_toArray, List.set_cons_zero, List.set_cons_succ, i64_w, i32_w]
      rfl
    refine pure_ (i := 8) (N := some 18) (v := ?_) (a' := ?_) #[true, true, true, true, true, false, true, false, true, false, false, false, false, false] rfl rfl (any_of HT_.out (by kernel_rfl)) (fun _ _ _ h => h) (Or.inl ⟨by rfl, ?_⟩) ?_ ?_
    rotate_left
    · intro w'
      go_simp
      with_reducible rfl
    rotate_left
    · simp only [Act.put, List.setIfInBounds_toArray, List.set_cons_zero, List.set_cons_succ, i64_w, i32_w]
      rfl
    refine take_ (i := 9) (N := some 19) (v := ?_) (a' := ?_) #[true, true, true, true, true, false, true, false, true, true, false, false, false, false] rfl rfl (take_ofW HT_.out HW_.out (by kernel_rfl)) (fun _ _ _ h => h) (Or.inl ⟨by rfl, ?_⟩) hHeld ?_ ?_
    rotate_left
    · rintro w' ⟨s0, s1, s2⟩
      go_simp
      with_reducible rfl
    rotate_left
    · simp only [Act.put, List.setIfInBounds_toArray, List.set_cons_zero, List.set_cons_succ, i64_w, i32_w]
      rfl
    refine pure_ (i := 10) (N := some 20) (v := ?_) (a' := ?_) #[true, true, true, true, true, false, true, false, true, true, true, false, false, false] rfl rfl (any_of HT_.out (by kernel_rfl)) (fun _ _ _ h => h) (Or.inl ⟨by rfl, ?_⟩) ?_ ?_
    rotate_left
    · intro w'
      go_simp
      with_reducible rfl
    rotate_left
    · simp only [Act.put, List.setIfInBounds_toArray, List.set_cons_zero, List.set_cons_succ, i64_w, i32_w]
      rfl
    refine one_ (i := 5) (N := some 15) #[true, true, true, true, true, true, true, false, true, true, true, false, false, false] rfl rfl (one_of HT_.out (by kernel_rfl)) (by decide) (fun K hK => ?_)
    refine goes_ Try.func32 (by kernel_rfl) rfl #[.slice A l.length c, .slice (some ⟨g1, 0, none⟩) xs.length c1] (by rfl) rfl rfl (by (try simp only [List.map_toArray, List.map_cons, List.map_nil]); first | done | rfl | (simp only [List.length_drop, List.length_take]; rfl)) ?_
    refine (impl_sorted.calls k _ _ l _ _ xs t _ (by repeat (first | exact (Kd.C_below HR.out HB6.out) | (with_reducible refine Kd.C_drewN ?_ _) | (with_reducible refine Kd.C_drew ?_))) HC.out (by repeat (first | exact (Kd.C_below HR1.out HB6.out) | (with_reducible refine Kd.C_drewN ?_ _) | (with_reducible refine Kd.C_drew ?_))) (by have := HCP1.out; omega) A1.out).mono ?_
    rintro e w9 ⟨v9, rfl, ho9, hb9⟩
    refine ⟨_, rfl, ?_⟩
    obtain ⟨A9, c9, rfl, hc9, hr9⟩ := Kd.R_reads ho9
    have HR9 := Aside0.mk hr9
    have HC9 := Aside0.mk hc9
    have HL9 := Aside0.mk (blk_below (blk_drew HL6.out) hb9)
    have HK9 := Aside0.mk (blk_below (blk_drew HK6.out) hb9)
    have HS9 := Aside0.mk (blk_below (blk_drew HS6.out) hb9)
    have HB9 := Aside0.mk hb9
    have HBW := Aside0.mk (below_step (below_drew1 HB6.out) hb9)
    have hkc9 : (kk : Int) ≤ (c9 : Int) := by have := HKT.out; omega
    clear hr9 hc9 ho9 hb9
    refine hK.out _ _ ⟨cell_of_one HS9.out, (blk_cell HL9.out 1).trans rfl, cell_of_one HK9.out⟩ (fun hHeld => ?_)
    clear hK K
    refine norm_ (a' := ?_) ?_ ?_
    rotate_left
    · show Act.put _ (some 15) _ = _
      simp only [Act.put, List.setIfInBounds_toArray, List.set_cons_zero, List.set_cons_succ, i64_w, i32_w]
      rfl
    refine pure_ (i := 7) (N := some 17) (v := ?_) (a' := ?_) #[true, true, true, true, true, true, true, true, true, true, true, false, false, false] rfl rfl (any_of HT_.out (by kernel_rfl)) (fun _ _ _ h => h) (Or.inl ⟨by rfl, ?_⟩) ?_ ?_
    rotate_left
    · intro w'
      go_simp
      with_reducible rfl
    rotate_left
    · simp only [Act.put, List.setIfInBounds_toArray, List.set_cons_zero, List.set_cons_succ, i64_w, i32_w]
      rfl
    refine one_ (i := 11) (N := some 21) #[true, true, true, true, true, true, true, true, true, true, true, true, false, false] rfl rfl (one_of HT_.out (by kernel_rfl)) (by decide) (fun K hK => ?_)
    refine goes_ Try.func52 (by kernel_rfl) rfl #[.slice A9 kk c9, .slice (some ⟨g5, 0, none⟩) kk c5] (by rfl) rfl rfl (by (try simp only [List.map_toArray, List.map_cons, List.map_nil]); first | done | rfl | (simp only [List.length_drop, List.length_take]; rfl)) ?_
    refine (slices_Equal_len k A9 c9 kk (t.take kk) (some ⟨g5, 0, none⟩) c5 kk ((srtL xs).take kk) b _ (by have := HKT.out; rw [List.length_take]; omega) (by have := HX.out; have := HSL.out; rw [List.length_take]; omega) (Kd.C_take HR9.out HKT.out) (by have := HC9.out; rw [List.length_take]; omega) (Kd.C_take (Kd.C_below (Kd.C_drew HC6.out) HB9.out) (by have := HX.out; have := HSL.out; omega)) (by have := HX.out; have := HSL.out; have := HCP5.out; rw [List.length_take]; omega) A2.out).mono ?_
    rintro e w' ⟨rfl, ⟨nd, rfl⟩⟩
    refine ⟨_, rfl, ?_⟩
    have HS8 := Aside0.mk (blk_drewN HS9.out nd)
    refine hK.out _ _ ⟨cell_of_one HS8.out, (blk_cell (blk_drewN HL9.out nd) 1).trans rfl, cell_of_one (blk_drewN HK9.out nd)⟩ (fun hHeld => ?_)
    clear hK K
    refine norm_ (a' := ?_) ?_ ?_
    rotate_left
    · show Act.put _ (some 21) _ = _
      simp only [Act.put, List.setIfInBounds_toArray, List.set_cons_zero, List.set_cons_succ, i64_w, i32_w]
      rfl
    refine pure_ (i := 12) (N := some 22) (v := ?_) (a' := ?_) #[true, true, true, true, true, true, true, true, true, true, true, true, true, false] rfl rfl (any_of HT_.out (by kernel_rfl)) (fun _ _ _ h => h) (Or.inl ⟨by rfl, ?_⟩) ?_ ?_
    rotate_left
    · intro w'
      go_simp
      with_reducible rfl
    rotate_left
    · simp only [Act.put, List.setIfInBounds_toArray, List.set_cons_zero, List.set_cons_succ, i64_w, i32_w]
      rfl
    refine last_ (i := 13) (N := none) #[true, true, true, true, true, true, true, true, true, true, true, true, true, true] rfl rfl (one_of HT_.out (by kernel_rfl)) (by decide) (fun K hK => ?_)
    have hs13 := cell_of_one HS8.out
    have hf13 := free_of_one HS8.out
    refine skip_ (w1 := ?_) (by rfl) rfl ?_ ?_
    rotate_left
    · go_simp
      rfl
    refine hK.out _ _ ?_
    clear hK K
    refine done_ (done_of HT_.out (by kernel_rfl)) ?_
    try go_wp2
    go_end0
    exact ⟨rfl, eff_setS (eff_drewN (Eff.of_below HBW.out) nd) (.inl rfl), one_setCell HS8.out⟩
  | false =>
    obtain rfl := H2.out rfl
    go_enter Try.func49, Try.ntmps49
    go_wp2_with (first | (go_at_call 50; refine (slices_Clone_int_int.calls _ _ xs xs _ HR1.out (by omega) HCL.out).mono ?_; rintro e w5 ⟨v5, rfl, ho5, hb5⟩; obtain ⟨g5, c5, rfl, hg5, hgl5, cl5, hgc5⟩ := Kd.R_form ho5 HX.out.1; have HO5 := Aside0.mk ho5; have HB5 := Aside0.mk hb5; have HG5 := Aside0.mk hg5; have HCP5 := Aside0.mk (show xs.length ≤ c5 by obtain ⟨A_, c_, e_, h_, _⟩ := Kd.R_reads ho5; cases e_; exact h_); clear ho5 hb5 hg5 hgl5 hgc5) | (go_at_call 51; refine (slices_Sort1 _ g5 c5 xs HO5.out HX.out.1 (by have := HX.out; omega)).mono ?_; rintro e w6 ⟨rfl, hc6, he6⟩; have HC6 := Aside0.mk hc6; have HB6 := Aside0.mk (eff_below HB5.out he6 (fun k_ e_ => by subst e_; exact HG5.out)); clear hc6 he6 HB5 HO5))
    have HL6 := Aside0.mk (blk_below HL.out HB6.out)
    have HK6 := Aside0.mk (blk_below HK.out HB6.out)
    have HS6 := Aside0.mk (blk_below HS.out HB6.out)
    have hz3 : w6.cell? ⟨bs, 0, none⟩ = some (.bool false) := cell_of_one HS6.out
    have hz4 := free_of_one HS6.out
    refine start_ (n := 14) (S := fun w' => w'.cell? ⟨bs, 0, none⟩ = some (.bool false)) (ds := [13]) #[false, false, false, false, false, false, false, false, false, false, false, false, false, false] (by kernel_rfl) rfl rfl hz3 (fun hHeld => ?_); refine with_tabW impl_SortsFirst_1.tab2 impl_SortsFirst_1.bits2 (fun HT_ HW_ => ?_)
    refine take_ (i := 0) (N := some 10) (v := ?_) (a' := ?_) #[true, false, false, false, false, false, false, false, false, false, false, false, false, false] rfl rfl (take_ofW HT_.out HW_.out (by kernel_rfl)) (fun _ _ _ h => h) (Or.inl ⟨by rfl, ?_⟩) hHeld ?_ ?_
    rotate_left
    · rintro w' s0
      go_simp
      with_reducible rfl
    rotate_left
    · simp only [Act.put, List.setIfInBounds_toArray, List.set_cons_zero, List.set_cons_succ, i64_w, i32_w]
      rfl
    refine pure_ (i := 1) (N := some 11) (v := ?_) (a' := ?_) #[true, true, false, false, false, false, false, false, false, false, false, false, false, false] rfl rfl (any_of HT_.out (by kernel_rfl)) (fun _ _ _ h => h) (Or.inl ⟨by rfl, ?_⟩) ?_ ?_
    rotate_left
    · intro w'
      go_simp
      with_reducible rfl
    rotate_left
    · simp only [Act.put, List.setIfInBounds_toArray, List.set_cons_zero, List.set_cons_succ, i64_w, i32_w]
      rfl
    refine pure_ (i := 2) (N := some 12) (v := undef) (a' := ?_) #[true, true, true, false, false, false, false, false, false, false, false, false, false, false] rfl rfl (any_of HT_.out (by kernel_rfl)) (fun _ _ _ h => h) (Or.inr ⟨by rfl, rfl⟩) ?_ ?_
    rotate_left
    · simp only [Act.put, List.setIfInBounds_toArray, List.set_cons_zero, List.set_cons_succ, i64_w, i32_w]
      rfl
    refine pure_ (i := 3) (N := some 13) (v := undef) (a' := ?_) #[true, true, true, true, false, false, false, false, false, false, false, false, false, false] rfl rfl (any_of HT_.out (by kernel_rfl)) (fun _ _ _ h => h) (Or.inr ⟨by rfl, rfl⟩) ?_ ?_
    rotate_left
    · simp only [Act.put, List.setIfInBounds_toArray, List.set_cons_zero, List.set_cons_succ, i64_w, i32_w]
      rfl
    refine pure_ (i := 4) (N := some 14) (v := undef) (a' := ?_) #[true, true, true, true, true, false, false, false, false, false, false, false, false, false] rfl rfl (any_of HT_.out (by kernel_rfl)) (fun _ _ _ h => h) (Or.inr ⟨by rfl, rfl⟩) ?_ ?_
    rotate_left
    · simp only [Act.put, List.setIfInBounds_toArray, List.set_cons_zero, List.set_cons_succ, i64_w, i32_w]
      rfl
    refine pure_ (i := 5) (N := some 15) (v := undef) (a' := ?_) #[true, true, true, true, true, true, false, false, false, false, false, false, false, false] rfl rfl (any_of HT_.out (by kernel_rfl)) (fun _ _ _ h => h) (Or.inr ⟨by rfl, rfl⟩) ?_ ?_
    rotate_left
    · simp only [Act.put, List.setIfInBounds_toArray, List.set_cons_zero, List.set_cons_succ, i64_w, i32_w]
      rfl
    refine pure_ (i := 6) (N := some 16) (v := undef) (a' := ?_) #[true, true, true, true, true, true, true, false, false, false, false, false, false, false] rfl rfl (any_of HT_.out (by kernel_rfl)) (fun _ _ _ h => h) (Or.inr ⟨by rfl, rfl⟩) ?_ ?_
    rotate_left
    · simp only [Act.put, List.setIfInBounds_toArray, List.set_cons_zero, List.set_cons_succ, i64_w, i32_w]
      rfl
    refine pure_ (i := 7) (N := some 17) (v := undef) (a' := ?_) #[true, true, true, true, true, true, true, true, false, false, false, false, false, false] rfl rfl (any_of HT_.out (by kernel_rfl)) (fun _ _ _ h => h) (Or.inr ⟨by rfl, rfl⟩) ?_ ?_
    rotate_left
    · simp only [Act.put, List.setIfInBounds_toArray, List.set_cons_zero, List.set_cons_succ, i64_w, i32_w]
      rfl
    refine pure_ (i := 8) (N := some 18) (v := undef) (a' := ?_) #[true, true, true, true, true, true, true, true, true, false, false, false, false, false] rfl rfl (any_of HT_.out (by kernel_rfl)) (fun _ _ _ h => h) (Or.inr ⟨by rfl, rfl⟩) ?_ ?_
    rotate_left
    · simp only [Act.put, List.setIfInBounds_toArray, List.set_cons_zero, List.set_cons_succ, i64_w, i32_w]
      rfl
    refine pure_ (i := 9) (N := some 19) (v := undef) (a' := ?_) #[true, true, true, true, true, true, true, true, true, true, false, false, false, false] rfl rfl (any_of HT_.out (by kernel_rfl)) (fun _ _ _ h => h) (Or.inr ⟨by rfl, rfl⟩) ?_ ?_
    rotate_left
    · simp only [Act.put, List.setIfInBounds_toArray, List.set_cons_zero, List.set_cons_succ, i64_w, i32_w]
      rfl
    refine pure_ (i := 10) (N := some 20) (v := undef) (a' := ?_) #[true, true, true, true, true, true, true, true, true, true, true, false, false, false] rfl rfl (any_of HT_.out (by kernel_rfl)) (fun _ _ _ h => h) (Or.inr ⟨by rfl, rfl⟩) ?_ ?_
    rotate_left
    · simp only [Act.put, List.setIfInBounds_toArray, List.set_cons_zero, List.set_cons_succ, i64_w, i32_w]
      rfl
    refine pure_ (i := 11) (N := some 21) (v := undef) (a' := ?_) #[true, true, true, true, true, true, true, true, true, true, true, true, false, false] rfl rfl (any_of HT_.out (by kernel_rfl)) (fun _ _ _ h => h) (Or.inr ⟨by rfl, rfl⟩) ?_ ?_
    rotate_left
    · simp only [Act.put, List.setIfInBounds_toArray, List.set_cons_zero, List.set_cons_succ, i64_w, i32_w]
      rfl
    refine pure_ (i := 12) (N := some 22) (v := ?_) (a' := ?_) #[true, true, true, true, true, true, true, true, true, true, true, true, true, false] rfl rfl (any_of HT_.out (by kernel_rfl)) (fun _ _ _ h => h) (Or.inl ⟨by rfl, ?_⟩) ?_ ?_
    rotate_left
    · intro w'
      go_simp
      with_reducible rfl
    rotate_left
    · simp only [Act.put, List.setIfInBounds_toArray, List.set_cons_zero, List.set_cons_succ, i64_w, i32_w]
      rfl
    refine last_ (i := 13) (N := none) #[true, true, true, true, true, true, true, true, true, true, true, true, true, true] rfl rfl (one_of HT_.out (by kernel_rfl)) (by decide) (fun K hK => ?_)
    have hs13 := hz3
    have hf13 := hz4
    refine skip_ (w1 := ?_) (by rfl) rfl ?_ ?_
    rotate_left
    · go_simp
      rfl
    refine hK.out _ _ ?_
    clear hK K
    refine done_ (done_of HT_.out (by kernel_rfl)) ?_
    try go_wp2
    go_end0
    exact ⟨rfl, eff_setS (eff_drew (Eff.of_below HB6.out)) (.inl rfl), one_setCell (blk_drew HS6.out)⟩
/-- A round: do the first numbers at the bottom stand as in the sorted list? -/
def impl_SortsFirst.step (k : Nat) (l : List Int) (kk : Nat) (so : Bool) (xs : List Int) : Option Bool := if 0 < xs.length ∧ xs.length ≤ 100 ∧ kk ≤ xs.length then (if so = true then ((impl_sorted.f k l xs).bind fun t => if kk ≤ t.length then slices_Equal_int_int.f k (t.take kk) ((srtL xs).take kk) else none) else some false) else none
/-- What the function value's blocks hold. -/
def impl_SortsFirst.I (w0 : World) (bs bl bk : Nat) (a : Int) (A : Option Addr) (l : List Int) (c : Nat) (kk : Nat) (so : Bool) (S : Nat → Prop) (W : World) : Prop :=
  (∀ k, S k ↔ (k = bl ∨ k = bk ∨ k = bs)) ∧ (∀ k, k < w0.heap.size → W.heap[k]? = w0.heap[k]?) ∧ W.heap[bl]? = some (.cells #[.int .i64 a, .slice A l.length c] 26 (0, 0)) ∧ W.heap[bk]? = some (.cells #[.int .i64 (kk : Int)] 3 (0, 0)) ∧ W.heap[bs]? = some (.cells #[.bool so] 4 (0, 0))
theorem impl_SortsFirst.clo (w0 : World) (bs bl bk : Nat) (a : Int) (A : Option Addr) (l : List Int) (c : Nat) (kk : Nat) (k : Nat) (hr : Kd.C (Kd.int .i64) w0 A l.length l) (hc : l.length ≤ c) (hbs : w0.heap.size ≤ bs) (hbl : w0.heap.size ≤ bl) (hbk : w0.heap.size ≤ bk) : CloList 49 #[.pointer (some ⟨bs, 0, none⟩), .pointer (some ⟨bl, 0, none⟩), .pointer (some ⟨bk, 0, none⟩)] w0.heap.size (impl_SortsFirst.I w0 bs bl bk a A l c kk) (impl_SortsFirst.step k l kk) where
  enters := enters_of Try.func49 (by kernel_rfl) rfl
  lt := fun s S W q hI hq => by
    obtain ⟨h1, h2, h3, h4, h5⟩ := hI
    rcases (h1 q).1 hq with rfl | rfl | rfl
    · exact blk_lt h3
    · exact blk_lt h4
    · exact blk_lt h5
  move := fun s S W W' hI hm hsz => by
    obtain ⟨h1, h2, h3, h4, h5⟩ := hI
    have hs : w0.heap.size ≤ W.heap.size := by have := blk_lt h3; omega
    exact ⟨h1, fun q hq => (hm q (by omega) (.inl hq)).trans (h2 q hq), (hm bl (blk_lt h3) (.inr ((h1 bl).2 (.inl rfl)))).trans h3, (hm bk (blk_lt h4) (.inr ((h1 bk).2 (.inr (.inl rfl))))).trans h4, (hm bs (blk_lt h5) (.inr ((h1 bs).2 (.inr (.inr rfl))))).trans h5⟩
  call := fun s s' S W v xs hI hv hst => by
    obtain ⟨h1, h2, h3, h4, h5⟩ := hI
    have hne : bl ≠ bs := blk_ne h3 h5 (by decide)
    have hne2 : bk ≠ bs := blk_ne h4 h5 (by decide)
    unfold impl_SortsFirst.step at hst
    by_cases hx : 0 < xs.length ∧ xs.length ≤ 100 ∧ kk ≤ xs.length
    · rw [if_pos hx] at hst
      have key : ∃ t, (s = true → impl_sorted.f k l xs = some t ∧ kk ≤ t.length ∧ slices_Equal_int_int.f k (t.take kk) ((srtL xs).take kk) = some s') ∧ (s = false → s' = false) := by
        cases s with
        | true =>
          rw [if_pos rfl] at hst
          obtain ⟨t, e1, hst⟩ := Option.bind_eq_some_iff.mp hst
          by_cases hk : kk ≤ t.length
          · rw [if_pos hk] at hst
            exact ⟨t, fun _ => ⟨e1, hk, hst⟩, fun h => absurd h (by decide)⟩
          · rw [if_neg hk] at hst
            exact absurd hst (by simp)
        | false =>
          rw [if_neg (by decide)] at hst
          exact ⟨[], fun h => absurd h (by decide), fun _ => (Option.some.inj hst).symm⟩
      obtain ⟨t, k1, k2⟩ := key
      refine (impl_SortsFirst_1.calls k W bs bl bk a A l c kk s v xs t s' ((Kd.heap_int .i64).C h2 hr) hc h3 h4 h5 hv hx.1 hx.2.1 hx.2.2 k1 k2).mono ?_
      rintro e w' ⟨rfl, he, hb⟩
      refine ⟨rfl, S, ⟨h1, fun q hq => ?_, ?_, ?_, hb⟩, ⟨he.b, he.k.mono (fun q hq => (h1 q).2 (.inr (.inr hq)))⟩, fun q hq => .inl hq⟩
      · exact (he.k.2 q (by have := blk_lt h3; omega) (by show ¬ q = bs; omega)).trans (h2 q hq)
      · exact blk_kept h3 he.k (by show ¬ bl = bs; exact hne)
      · exact blk_kept h4 he.k (by show ¬ bk = bs; exact hne2)
    · rw [if_neg hx] at hst
      exact absurd hst (by simp)
def impl_SortsFirst.f (k : Nat) (a0_0 : Int) (l0_1 : List Int) (a1 : Int) : Option (Bool × Bool) := (impl_isLadder.f a0_0 l0_1).bind fun t1 => (if t1 = true then (if 0 ≤ a1 ∧ a1 ≤ a0_0 then ((bitsFold (impl_SortsFirst.step k l0_1 a1.toNat) a0_0.toNat (2 ^ a0_0.toNat) 0 true).bind fun m => some (m, true)) else some (false, false)) else (some (false, false)))
theorem betw_f (a b : Int) (c : Bool) (h : decide (0 ≤ a ∧ a ≤ b) = c) : impl_between.f a 0 b = some c := by
  subst h
  unfold impl_between.f
  by_cases h : a ≥ 0
  · rw [if_pos h]; congr 1; simp [h]
  · rw [if_neg h]; congr 1; simp; omega
set_option maxHeartbeats 8000000 in
set_option maxRecDepth 100000 in
theorem impl_SortsFirst.calls (k : Nat) (a0_0 : Int) (A0_1 : Option Addr) (c0_1 : Nat) (l0_1 : List Int) (a1 : Int) (r1 : Bool) (r2 : Bool) (w : World) (hr0_1 : Kd.C (Kd.int .i64) w A0_1 l0_1.length l0_1) (hc0_1 : l0_1.length ≤ c0_1) (h : impl_SortsFirst.f k a0_0 l0_1 a1 = some (r1, r2)) :
    Calls Try.prog 26 #[.agg #[.int .i64 a0_0, .slice A0_1 l0_1.length c0_1], .int .i64 a1] w fun e w' => e = .returned (.tuple #[.bool r1, .bool r2]) ∧ Below w.heap.size w w' := by
  have hu := Try.underlying26
  have hmf : ∀ (fn : Fn) (first cap : Array Value) (w : World), (Instr.makeFunc fn first cap).run Try.prog w = .ok (.func fn first cap) w := fun _ _ _ _ => rfl
  have HR0_1 := Aside0.mk hr0_1
  have HC0_1 := Aside0.mk hc0_1
  clear hr0_1 hc0_1
  have HB := Aside0.mk (Below.refl w.heap.size w)
  unfold impl_SortsFirst.f at h
  replace h := Option.bind_eq_some_iff.mp h
  obtain ⟨t1, e1, h⟩ := h
  have A2 := Aside0.mk e1
  clear e1
  cases t1 with
  | true =>
    rw [if_pos rfl] at h
    obtain ⟨n, rfl, hn8, hn2⟩ := ladder_nat A2.out
    by_cases hk : 0 ≤ a1 ∧ a1 ≤ (n : Int)
    · rw [if_pos hk] at h
      replace h := Option.bind_eq_some_iff.mp h
      obtain ⟨m, e2, h⟩ := h
      simp only [Option.some.injEq, Prod.mk.injEq] at h
      obtain ⟨rfl, rfl⟩ := h
      obtain ⟨kk, rfl⟩ : ∃ kk : Nat, a1 = (kk : Int) := ⟨a1.toNat, by omega⟩
      have A3 := Aside0.mk e2
      clear e2
      have A4 := Aside0.mk (betw_f (kk : Int) (n : Int) true (decide_eq_true hk))
      have CL := Aside0.mk (fun bs bl bk h1 h2 h3 => impl_SortsFirst.clo w bs bl bk (n : Int) A0_1 l0_1 c0_1 kk k HR0_1.out HC0_1.out h1 h2 h3)
      clear hk
      go_enter Try.func26, Try.ntmps26
      go_wp2_with (first | ((with_reducible refine gate_dst (N := 2) rfl ?_); refine box_event ?hg (N := 2) ?hd (cs := #[.int .i64 (n : Int), .slice A0_1 l0_1.length c0_1]) (t := 26) ?hr ?_; (case hd => rfl); (case hg => rfl); (case hr => first | (go_simp; done) | (go_simp; rfl)); intro gb hg w5 hbox hb; have n0_ := Aside0.mk (below_step HB.out hb); have n1_ := Aside0.mk (hbox); have n2_ := Aside0.mk ((by rw [hg]; exact (below_size HB.out)) : w.heap.size ≤ gb); clear HB; have HB := n0_; have BK := n1_; have GE := n2_; clear n0_ n1_ n2_; clear hb hbox hg) | ((with_reducible refine gate_dst (N := 3) rfl ?_); refine box_event ?hg (N := 3) ?hd (cs := #[.int .i64 (kk : Int)]) (t := 3) ?hr ?_; (case hd => rfl); (case hg => rfl); (case hr => first | (go_simp; done) | (go_simp; rfl)); intro gk hg w6 hbox hb; have n0_ := Aside0.mk (below_step HB.out hb); have n1_ := Aside0.mk (hbox); have n2_ := Aside0.mk ((by rw [hg]; exact (below_size HB.out)) : w.heap.size ≤ gk); have n3_ := Aside0.mk (blk_below BK.out hb); clear HB BK; have HB := n0_; have BQ := n1_; have GQ := n2_; have BK := n3_; clear n0_ n1_ n2_ n3_; clear hb hbox hg; have hcz6_0 : w6.cell? ⟨gb, 0, none⟩ = some (.int .i64 (n : Int)) := (blk_cell BK.out 0).trans rfl; have hcz6_1 : w6.cell? ⟨gb, 1, none⟩ = some (.slice A0_1 l0_1.length c0_1) := (blk_cell BK.out 1).trans rfl) | ((with_reducible refine gate_callee (f := 31) rfl ?_); refine Ga (some 8) Try.func31 #[.agg #[.int .i64 (n : Int), .slice A0_1 l0_1.length c0_1]] (h := ?_); (with_reducible refine (impl_isLadder.calls (n : Int) _ _ l0_1 true _ ?side1 ?side2 A2.out).mono ?_); (case side1 => exact (Kd.C_below HR0_1.out HB.out)); (case side2 => exact HC0_1.out); rintro e w7 ⟨rfl, hb⟩; refine ⟨_, rfl, ?_⟩; have n0_ := Aside0.mk (blk_below BK.out hb); have n1_ := Aside0.mk (below_step HB.out hb); have n2_ := Aside0.mk (blk_below BQ.out hb); clear BK; clear HB BQ; have BK := n0_; have HB := n1_; have BQ := n2_; clear n0_ n1_ n2_; clear hb; have hcz8_0 : w7.cell? ⟨gb, 0, none⟩ = some (.int .i64 (n : Int)) := (blk_cell BK.out 0).trans rfl; have hcz8_1 : w7.cell? ⟨gb, 1, none⟩ = some (.slice A0_1 l0_1.length c0_1) := (blk_cell BK.out 1).trans rfl; have hcz8_2 : w7.cell? ⟨gk, 0, none⟩ = some (.int .i64 (kk : Int)) := (blk_cell BQ.out 0).trans rfl; have hgl8 := blk_lt BK.out; have hgl9 := blk_lt BQ.out) | (go_at_call 48; (with_reducible refine (impl_between.calls (kk : Int) 0 (n : Int) true _ A4.out).mono ?_); rintro e w8 ⟨rfl, hd8⟩; have n0_ := Aside0.mk (show w8.heap[gb]? = some (.cells #[.int .i64 (n : Int), .slice A0_1 l0_1.length c0_1] 26 (0, 0)) from by obtain ⟨q_, e_⟩ := hd8; rw [e_]; exact blk_drewN BK.out q_); have n1_ := Aside0.mk (show w8.heap[gk]? = some (.cells #[.int .i64 (kk : Int)] 3 (0, 0)) from by obtain ⟨q_, e_⟩ := hd8; rw [e_]; exact blk_drewN BQ.out q_); have n2_ := Aside0.mk (show Below w.heap.size w w8 from by obtain ⟨q_, e_⟩ := hd8; rw [e_]; exact pw_below_drewN HB.out q_); clear BK BQ HB hd8; have BK := n0_; have BQ := n1_; have HB := n2_; clear n0_ n1_ n2_; have hcz9_0 : w8.cell? ⟨gb, 0, none⟩ = some (.int .i64 (n : Int)) := (blk_cell BK.out 0).trans rfl; have hcz9_1 : w8.cell? ⟨gb, 1, none⟩ = some (.slice A0_1 l0_1.length c0_1) := (blk_cell BK.out 1).trans rfl; have hcz9_2 : w8.cell? ⟨gk, 0, none⟩ = some (.int .i64 (kk : Int)) := (blk_cell BQ.out 0).trans rfl; have hgl10 := blk_lt BK.out; have hgl11 := blk_lt BQ.out) | (go_at_call 41; refine (impl_bits.calls (impl_SortsFirst.step k l0_1 kk) (impl_SortsFirst.I w w8.heap.size gb gk (n : Int) A0_1 l0_1 c0_1 kk) 49 _ w.heap.size (CL.out w8.heap.size gb gk (below_size HB.out) GE.out GQ.out) n hn8 true (fun k_ => k_ = gb ∨ k_ = gk ∨ k_ = w8.heap.size) m _ ⟨fun _ => Iff.rfl, fun k_ hk_ => (Below.heap_alloc w8 _ k_ (Nat.lt_of_lt_of_le hk_ HB.out.size)).trans (HB.out.block k_ hk_), blk_alloc BK.out _, blk_alloc BQ.out _, blk_new w8 _⟩ (below_size (below_alloc HB.out _)) A3.out).mono ?_; rintro e w9 ⟨rfl, S', hI, he, hs⟩; have hx0 := cell_of_one hI.2.2.2.2; have n0_ := Aside0.mk (eff_below (below_alloc HB.out _) he (fun k_ h_ => h_.elim (fun e_ => e_ ▸ GE.out) (fun h2_ => h2_.elim (fun e_ => e_ ▸ GQ.out) (fun e_ => e_ ▸ below_size HB.out)))); clear HB; have HB := n0_; clear n0_ hI he hs))
      go_ret2
      exact ⟨rfl, HB.out⟩
    · rw [if_neg hk] at h
      simp only [Option.some.injEq, Prod.mk.injEq] at h
      obtain ⟨rfl, rfl⟩ := h
      have A4 := Aside0.mk (betw_f a1 (n : Int) false (decide_eq_false hk))
      clear hk
      go_enter Try.func26, Try.ntmps26
      go_wp2_with (first | ((with_reducible refine gate_dst (N := 2) rfl ?_); refine box_event ?hg (N := 2) ?hd (cs := #[.int .i64 (n : Int), .slice A0_1 l0_1.length c0_1]) (t := 26) ?hr ?_; (case hd => rfl); (case hg => rfl); (case hr => first | (go_simp; done) | (go_simp; rfl)); intro gb hg w5 hbox hb; have n0_ := Aside0.mk (below_step HB.out hb); have n1_ := Aside0.mk (hbox); have n2_ := Aside0.mk ((by rw [hg]; exact (below_size HB.out)) : w.heap.size ≤ gb); clear HB; have HB := n0_; have BK := n1_; have GE := n2_; clear n0_ n1_ n2_; clear hb hbox hg) | ((with_reducible refine gate_dst (N := 3) rfl ?_); refine box_event ?hg (N := 3) ?hd (cs := #[.int .i64 a1]) (t := 3) ?hr ?_; (case hd => rfl); (case hg => rfl); (case hr => first | (go_simp; done) | (go_simp; rfl)); intro gk hg w6 hbox hb; have n0_ := Aside0.mk (below_step HB.out hb); have n1_ := Aside0.mk (hbox); have n2_ := Aside0.mk ((by rw [hg]; exact (below_size HB.out)) : w.heap.size ≤ gk); have n3_ := Aside0.mk (blk_below BK.out hb); clear HB BK; have HB := n0_; have BQ := n1_; have GQ := n2_; have BK := n3_; clear n0_ n1_ n2_ n3_; clear hb hbox hg; have hcz6_0 : w6.cell? ⟨gb, 0, none⟩ = some (.int .i64 (n : Int)) := (blk_cell BK.out 0).trans rfl; have hcz6_1 : w6.cell? ⟨gb, 1, none⟩ = some (.slice A0_1 l0_1.length c0_1) := (blk_cell BK.out 1).trans rfl) | ((with_reducible refine gate_callee (f := 31) rfl ?_); refine Ga (some 8) Try.func31 #[.agg #[.int .i64 (n : Int), .slice A0_1 l0_1.length c0_1]] (h := ?_); (with_reducible refine (impl_isLadder.calls (n : Int) _ _ l0_1 true _ ?side1 ?side2 A2.out).mono ?_); (case side1 => exact (Kd.C_below HR0_1.out HB.out)); (case side2 => exact HC0_1.out); rintro e w7 ⟨rfl, hb⟩; refine ⟨_, rfl, ?_⟩; have n0_ := Aside0.mk (blk_below BK.out hb); have n1_ := Aside0.mk (below_step HB.out hb); have n2_ := Aside0.mk (blk_below BQ.out hb); clear BK; clear HB BQ; have BK := n0_; have HB := n1_; have BQ := n2_; clear n0_ n1_ n2_; clear hb; have hcz8_0 : w7.cell? ⟨gb, 0, none⟩ = some (.int .i64 (n : Int)) := (blk_cell BK.out 0).trans rfl; have hcz8_1 : w7.cell? ⟨gb, 1, none⟩ = some (.slice A0_1 l0_1.length c0_1) := (blk_cell BK.out 1).trans rfl; have hcz8_2 : w7.cell? ⟨gk, 0, none⟩ = some (.int .i64 a1) := (blk_cell BQ.out 0).trans rfl; have hgl8 := blk_lt BK.out; have hgl9 := blk_lt BQ.out) | (go_at_call 48; (with_reducible refine (impl_between.calls a1 0 (n : Int) false _ A4.out).mono ?_); rintro e w8 ⟨rfl, hd8⟩; have n0_ := Aside0.mk (show w8.heap[gb]? = some (.cells #[.int .i64 (n : Int), .slice A0_1 l0_1.length c0_1] 26 (0, 0)) from by obtain ⟨q_, e_⟩ := hd8; rw [e_]; exact blk_drewN BK.out q_); have n1_ := Aside0.mk (show w8.heap[gk]? = some (.cells #[.int .i64 a1] 3 (0, 0)) from by obtain ⟨q_, e_⟩ := hd8; rw [e_]; exact blk_drewN BQ.out q_); have n2_ := Aside0.mk (show Below w.heap.size w w8 from by obtain ⟨q_, e_⟩ := hd8; rw [e_]; exact pw_below_drewN HB.out q_); clear BK BQ HB hd8; have BK := n0_; have BQ := n1_; have HB := n2_; clear n0_ n1_ n2_; have hcz9_0 : w8.cell? ⟨gb, 0, none⟩ = some (.int .i64 (n : Int)) := (blk_cell BK.out 0).trans rfl; have hcz9_1 : w8.cell? ⟨gb, 1, none⟩ = some (.slice A0_1 l0_1.length c0_1) := (blk_cell BK.out 1).trans rfl; have hcz9_2 : w8.cell? ⟨gk, 0, none⟩ = some (.int .i64 a1) := (blk_cell BQ.out 0).trans rfl; have hgl10 := blk_lt BK.out; have hgl11 := blk_lt BQ.out))
      go_ret2
      exact ⟨rfl, HB.out⟩
  | false =>
    rw [if_neg (by decide)] at h
    simp only [Option.some.injEq, Prod.mk.injEq] at h
    obtain ⟨rfl, rfl⟩ := h
    go_enter Try.func26, Try.ntmps26
    go_wp2_with (first | ((with_reducible refine gate_dst (N := 2) rfl ?_); refine box_event ?hg (N := 2) ?hd (cs := #[.int .i64 a0_0, .slice A0_1 l0_1.length c0_1]) (t := 26) ?hr ?_; (case hd => rfl); (case hg => rfl); (case hr => first | (go_simp; done) | (go_simp; rfl)); intro gb hg w5 hbox hb; have n0_ := Aside0.mk (below_step HB.out hb); have n1_ := Aside0.mk (hbox); have n2_ := Aside0.mk ((by rw [hg]; exact (below_size HB.out)) : w.heap.size ≤ gb); clear HB; have HB := n0_; have BK := n1_; have GE := n2_; clear n0_ n1_ n2_; clear hb hbox hg) | ((with_reducible refine gate_dst (N := 3) rfl ?_); refine box_event ?hg (N := 3) ?hd (cs := #[.int .i64 a1]) (t := 3) ?hr ?_; (case hd => rfl); (case hg => rfl); (case hr => first | (go_simp; done) | (go_simp; rfl)); intro gk hg w6 hbox hb; have n0_ := Aside0.mk (below_step HB.out hb); have n1_ := Aside0.mk (hbox); have n2_ := Aside0.mk ((by rw [hg]; exact (below_size HB.out)) : w.heap.size ≤ gk); have n3_ := Aside0.mk (blk_below BK.out hb); clear HB BK; have HB := n0_; have BQ := n1_; have GQ := n2_; have BK := n3_; clear n0_ n1_ n2_ n3_; clear hb hbox hg; have hcz6_0 : w6.cell? ⟨gb, 0, none⟩ = some (.int .i64 a0_0) := (blk_cell BK.out 0).trans rfl; have hcz6_1 : w6.cell? ⟨gb, 1, none⟩ = some (.slice A0_1 l0_1.length c0_1) := (blk_cell BK.out 1).trans rfl) | ((with_reducible refine gate_callee (f := 31) rfl ?_); refine Ga (some 8) Try.func31 #[.agg #[.int .i64 a0_0, .slice A0_1 l0_1.length c0_1]] (h := ?_); (with_reducible refine (impl_isLadder.calls a0_0 _ _ l0_1 false _ ?side1 ?side2 A2.out).mono ?_); (case side1 => exact (Kd.C_below HR0_1.out HB.out)); (case side2 => exact HC0_1.out); rintro e w7 ⟨rfl, hb⟩; refine ⟨_, rfl, ?_⟩; have n0_ := Aside0.mk (blk_below BK.out hb); have n1_ := Aside0.mk (below_step HB.out hb); have n2_ := Aside0.mk (blk_below BQ.out hb); clear BK; clear HB BQ; have BK := n0_; have HB := n1_; have BQ := n2_; clear n0_ n1_ n2_; clear hb; have hcz8_0 : w7.cell? ⟨gb, 0, none⟩ = some (.int .i64 a0_0) := (blk_cell BK.out 0).trans rfl; have hcz8_1 : w7.cell? ⟨gb, 1, none⟩ = some (.slice A0_1 l0_1.length c0_1) := (blk_cell BK.out 1).trans rfl; have hcz8_2 : w7.cell? ⟨gk, 0, none⟩ = some (.int .i64 a1) := (blk_cell BQ.out 0).trans rfl; have hgl8 := blk_lt BK.out; have hgl9 := blk_lt BQ.out))
    go_ret2
    exact ⟨rfl, HB.out⟩

/-! ### laws_FnRungsCompare: function 3 -/
mutual
def laws_FnRungsCompare.j0 : Nat → List Int → List Int → List Int → Bool → List Int → Bool → Int → List Int → Option (Bool)
 | 0, _, _, _, _, _, _, _, _ => none
 | k + 1, x1, x6, x7, x8, x11, x117, x475000, x475001 => if x117 = true then (none) else ((impl_IsSorting.f k x475000 x475001).bind fun bt493 => ((spec_IsSorting.f k x475000 x475001).bind fun bt495 => (if (bt493.2 != bt495.2) = true then (none) else (if (bt493.1 != bt495.1) = true then (none) else ((impl_IsLadder.f x475000 x475001).bind fun t497 => (laws_FnRungsCompare.j1 k x1 x6 x7 x8 x11 bt493.1 (bt493.2 != t497) x475000 x475001))))))
def laws_FnRungsCompare.j1 : Nat → List Int → List Int → List Int → Bool → List Int → Bool → Bool → Int → List Int → Option (Bool)
 | 0, _, _, _, _, _, _, _, _, _ => none
 | k + 1, x1, x6, x7, x8, x11, x15, x141, x475000, x475001 => if x141 = true then (none) else (if x8 = true then ((impl_IdleRungs.f k x475000 x475001).bind fun bt498 => ((impl_DropIdle.f k x475000 x475001).bind fun bt502 => ((impl_SortedBy.f k bt502.1 bt502.2.1 x6).bind fun bt508 => (if (x7.length : Int) = (x6.length : Int) then (if x15 = true then ((laws_kSorted.f k x7).bind fun t512 => (if t512 = true then (if bt498.2 = true then (if bt502.2.2 = true then (if bt508.2 = true then ((laws_kSame.f k bt508.1 x7).bind fun t513 => (if t513 = true then (laws_FnRungsCompare.j2 k x1 x6 x7 x11 bt498.1 ((wrap64 ((bt502.2.1.length : Int) + (bt498.1.length : Int))) != (x475001.length : Int))) else (none))) else (none)) else (none)) else (none)) else (none))) else (if bt498.2 = true then (if bt502.2.2 = true then (if bt508.2 = true then ((laws_kSame.f k bt508.1 x7).bind fun t514 => (if t514 = true then (laws_FnRungsCompare.j2 k x1 x6 x7 x11 bt498.1 ((wrap64 ((bt502.2.1.length : Int) + (bt498.1.length : Int))) != (x475001.length : Int))) else (none))) else (none)) else (none)) else (none))) else (none))))) else (laws_FnRungsCompare.j7 k x1))
def laws_FnRungsCompare.j7 : Nat → List Int → Option (Bool)
 | 0, _ => none
 | k + 1, x1 => (spec_DrawIsSorting.f k x1).bind fun bt520 => ((impl_IsSorting.f k bt520.1 bt520.2).bind fun bt525 => ((spec_IsSorting.f k bt520.1 bt520.2).bind fun bt527 => ((impl_CountBitsSorted.f k bt520.1 bt520.2).bind fun bt529 => ((spec_CountBitsSorted.f k bt520.1 bt520.2).bind fun bt531 => ((impl_FirstBitsUnsorted.f k bt520.1 bt520.2).bind fun bt533 => ((spec_FirstBitsUnsorted.f k bt520.1 bt520.2).bind fun bt537 => ((impl_LeastBeginning.f k bt520.1 bt520.2).bind fun bt541 => ((spec_LeastBeginning.f k bt520.1 bt520.2).bind fun bt543 => (if (bt525.2 != bt527.2) = true then (none) else (if (bt525.1 != bt527.1) = true then (none) else (if (bt529.2 != bt531.2) = true then (none) else (if bt529.1 = bt531.1 then (if (bt533.2 != bt537.2) = true then (none) else ((laws_kSame.f k bt533.1 bt537.1).bind fun t545 => (if t545 = true then (if (bt541.2 != bt543.2) = true then (none) else (if bt541.1 = bt543.1 then (if (bt529.2 != bt525.2) = true then (none) else (if bt525.2 = true then (if (bt533.2 != (!bt525.1)) = true then (none) else (laws_FnRungsCompare.j8 k bt525.1 bt525.2 bt529.1 bt533.1 bt533.2 bt541.1 bt541.2 (bt541.2 != bt525.1) bt520.1 bt520.2)) else (if (bt533.2 != false) = true then (none) else (laws_FnRungsCompare.j8 k bt525.1 bt525.2 bt529.1 bt533.1 bt533.2 bt541.1 bt541.2 (bt541.2 != false) bt520.1 bt520.2)))) else (none))) else (none)))) else (none)))))))))))))
def laws_FnRungsCompare.j8 : Nat → Bool → Bool → Int → List Int → Bool → Int → Bool → Bool → Int → List Int → Option (Bool)
 | 0, _, _, _, _, _, _, _, _, _, _ => none
 | k + 1, x35, x36, x39, x43, x44, x47, x48, x347, x525000, x525001 => if x347 = true then (none) else (if x36 = true then (laws_FnRungsCompare.l4 k x35 x39 x43 x44 x47 x48 ([] : List Int) (wrap64 (x525000 - 1)) x525000 x525001) else (laws_FnRungsCompare.j10 k x43 x44 x525000 x525001))
def laws_FnRungsCompare.j10 : Nat → List Int → Bool → Int → List Int → Option (Bool)
 | 0, _, _, _, _ => none
 | k + 1, x43, x44, x525000, x525001 => if x44 = true then ((impl_SortedBy.f k x525000 x525001 x43).bind fun bt558 => (if bt558.2 = true then ((laws_kSorted.f k bt558.1).bind fun t562 => (if t562 = true then (none) else (some true))) else (none))) else (some true)
def laws_FnRungsCompare.l4 : Nat → Bool → Int → List Int → Bool → Int → Bool → List Int → Int → Int → List Int → Option (Bool)
 | 0, _, _, _, _, _, _, _, _, _, _ => none
 | k + 1, x35, x39, x43, x44, x47, x48, x51, x52, x525000, x525001 => if x52 ≥ 0 then (if x51.length < 17592186044416 then (laws_FnRungsCompare.l4 k x35 x39 x43 x44 x47 x48 (x51 ++ [x52]) (wrap64 (x52 - 1)) x525000 x525001) else (none)) else ((impl_SortedBy.f k x525000 x525001 x51).bind fun bt549 => ((impl_LeastSorting.f x525000).bind fun bt553 => ((impl_SortsFirst.f k x525000 x525001 x525000).bind fun bt555 => (if 0 ≤ x525000 then (if (x35 != (x39 == (shl .i64 1 x525000))) = true then (none) else (if bt549.2 = true then ((laws_kSorted.f k bt549.1).bind fun t557 => (if (t557 != x35) = true then (none) else (if bt553.2 = true then (if x35 = true then (if (x525001.length : Int) < bt553.1 then (none) else (if x48 = true then (if x47 < bt553.1 then (none) else (if x47 > (x525001.length : Int) then (none) else (if bt555.2 = true then (if (bt555.1 != x35) = true then (none) else (laws_FnRungsCompare.j10 k x43 x44 x525000 x525001)) else (none)))) else (if bt555.2 = true then (if (bt555.1 != x35) = true then (none) else (laws_FnRungsCompare.j10 k x43 x44 x525000 x525001)) else (none)))) else (if x48 = true then (if x47 < bt553.1 then (none) else (if x47 > (x525001.length : Int) then (none) else (if bt555.2 = true then (if (bt555.1 != x35) = true then (none) else (laws_FnRungsCompare.j10 k x43 x44 x525000 x525001)) else (none)))) else (if bt555.2 = true then (if (bt555.1 != x35) = true then (none) else (laws_FnRungsCompare.j10 k x43 x44 x525000 x525001)) else (none)))) else (none)))) else (none))) else (none)))))
def laws_FnRungsCompare.j2 : Nat → List Int → List Int → List Int → List Int → List Int → Bool → Option (Bool)
 | 0, _, _, _, _, _, _ => none
 | k + 1, x1, x6, x7, x11, x19, x201 => if x201 = true then (none) else (laws_FnRungsCompare.l0 k x1 x6 x7 x19 x11 (x11.length : Int) 0)
def laws_FnRungsCompare.l0 : Nat → List Int → List Int → List Int → List Int → List Int → Int → Int → Option (Bool)
 | 0, _, _, _, _, _, _, _ => none
 | k + 1, x1, x6, x7, x19, x202, x203, x204 => if x204 < x203 then (if 0 ≤ x204 then (if x204 < (x202.length : Int) then ((laws_kHas.f k x19 (rd x202 x204)).bind fun t516 => (if t516 = true then (none) else (laws_FnRungsCompare.l0 k x1 x6 x7 x19 x202 x203 (wrap64 (x204 + 1))))) else (none)) else (none)) else (laws_FnRungsCompare.l1 k x1 x6 x7 x6 (x6.length : Int) 0)
def laws_FnRungsCompare.l1 : Nat → List Int → List Int → List Int → List Int → Int → Int → Option (Bool)
 | 0, _, _, _, _, _, _ => none
 | k + 1, x1, x6, x7, x212, x213, x214 => if x214 < x213 then (if 0 ≤ x214 then (if x214 < (x212.length : Int) then (laws_FnRungsCompare.l2 k x1 x6 x7 (rd x212 x214) 0 x212 x213 x214 x6 (x6.length : Int) 0) else (none)) else (none)) else (laws_FnRungsCompare.j7 k x1)
def laws_FnRungsCompare.l2 : Nat → List Int → List Int → List Int → Int → Int → List Int → Int → Int → List Int → Int → Int → Option (Bool)
 | 0, _, _, _, _, _, _, _, _, _, _, _ => none
 | k + 1, x1, x6, x7, x28, x29, x212, x213, x214, x218, x219, x220 => if x220 < x219 then (if 0 ≤ x220 then (if x220 < (x218.length : Int) then (if (rd x218 x220) = x28 then (laws_FnRungsCompare.l2 k x1 x6 x7 x28 (wrap64 (x29 + 1)) x212 x213 x214 x218 x219 (wrap64 (x220 + 1))) else (laws_FnRungsCompare.l2 k x1 x6 x7 x28 x29 x212 x213 x214 x218 x219 (wrap64 (x220 + 1)))) else (none)) else (none)) else (laws_FnRungsCompare.l3 k x1 x6 x7 x28 x29 x212 x213 x214 x7 (x7.length : Int) 0)
def laws_FnRungsCompare.l3 : Nat → List Int → List Int → List Int → Int → Int → List Int → Int → Int → List Int → Int → Int → Option (Bool)
 | 0, _, _, _, _, _, _, _, _, _, _, _ => none
 | k + 1, x1, x6, x7, x28, x29, x212, x213, x214, x230, x231, x232 => if x232 < x231 then (if 0 ≤ x232 then (if x232 < (x230.length : Int) then (if (rd x230 x232) = x28 then (laws_FnRungsCompare.l3 k x1 x6 x7 x28 (wrap64 (x29 - 1)) x212 x213 x214 x230 x231 (wrap64 (x232 + 1))) else (laws_FnRungsCompare.l3 k x1 x6 x7 x28 x29 x212 x213 x214 x230 x231 (wrap64 (x232 + 1)))) else (none)) else (none)) else (if x29 = 0 then (laws_FnRungsCompare.l1 k x1 x6 x7 x212 x213 (wrap64 (x214 + 1))) else (none))
end
def laws_FnRungsCompare.f (k : Nat) (l0 : List Int) (l1 : List Int) : Option (Bool) := (laws_big.f l0 l1).bind fun t466 => (if t466 = true then (some true) else ((spec_DrawSortedBy.f k l0).bind fun bt467 => ((impl_SortedBy.f k bt467.1 bt467.2.1 bt467.2.2).bind fun bt475 => ((spec_SortedBy.f k bt467.1 bt467.2.1 bt467.2.2).bind fun bt479 => ((impl_ExchangesOf.f k bt467.1 bt467.2.1 bt467.2.2).bind fun bt483 => ((spec_ExchangesOf.f k bt467.1 bt467.2.1 bt467.2.2).bind fun bt487 => (if (bt475.2 != bt479.2) = true then (none) else ((laws_kSame.f k bt475.1 bt479.1).bind fun t491 => (if t491 = true then (if (bt483.2 != bt487.2) = true then (none) else ((laws_kSame.f k bt483.1 bt487.1).bind fun t492 => (if t492 = true then (laws_FnRungsCompare.j0 k l1 bt467.2.2 bt475.1 bt475.2 bt483.1 (bt483.2 != bt475.2) bt467.1 bt467.2.1) else (none)))) else (none))))))))))

end Go.Proofs.Ytnagcjhgojchlac.Q
