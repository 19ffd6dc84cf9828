/- Each function below comes to the Lean function beside it (theorems '.calls'); no condition beyond each theorem's own. Written by our program oprint.py over the kit's print. -/
import Derived.Test.YtnagcjhgojchlacQm0
import Derived.Test.YtnagcjhgojchlacQm1
import Derived.Test.YtnagcjhgojchlacQm4
import Derived.Shelf.Abstract
import Derived.WalkSpells
namespace Go.Proofs.Ytnagcjhgojchlac.Q
open Go.RowKit Go.Proofs.YtnagcjhgojchlacW.PrintWords Go.Proofs.YtnagcjhgojchlacW.PrintLast Go.Proofs.YtnagcjhgojchlacW.PrintMore
attribute [local go_sem] max2_int min2_int max_two min_two max_three min_three max_four min_four   -- for this text's walks alone
set_option linter.unusedVariables false
set_option linter.unusedSimpArgs false

/-! ### spec_l1Cur_values: function 29 -/
mutual
def spec_l1Cur_values.l0 : Nat → Int → List Int → Int → List Int → Int → Int → Option (List Int × Int × Int)
 | 0, _, _, _, _, _, _ => none
 | k + 1, x1, x5, x6, x1000, x1001, x1002 => if x6 < x1 then (spec_l1Cur_values.j1 k x1 x5 x6 (decide (x6 < 120)) x1000 x1001 x1002) else (spec_l1Cur_values.j1 k x1 x5 x6 false x1000 x1001 x1002)
def spec_l1Cur_values.j1 : Nat → Int → List Int → Int → Bool → List Int → Int → Int → Option (List Int × Int × Int)
 | 0, _, _, _, _, _, _, _ => none
 | k + 1, x1, x5, x6, x14, x1000, x1001, x1002 => if x14 = true then ((spec_l1Cur_pick.f x1000 x1001 x1002 9).bind fun bt261 => ((spec_l1Cur_one.f x1000 bt261.2.1 bt261.2.2 20).bind fun bt264 => (if bt264.1 = true then ((spec_l1Cur_among.f x1000 bt264.2.1 bt264.2.2 (([4611686018427387904, (-4611686018427387904), (-9223372036854775808), 9223372036854775807] : List Int))).bind fun bt270 => (if x5.length < 17592186044416 then (spec_l1Cur_values.l0 k x1 (x5 ++ [bt270.1]) (wrap64 (x6 + 1)) x1000 bt270.2.1 bt270.2.2) else (none))) else (if x5.length < 17592186044416 then (spec_l1Cur_values.l0 k x1 (x5 ++ [wrap64 (bt261.1 - 3)]) (wrap64 (x6 + 1)) x1000 bt264.2.1 bt264.2.2) else (none))))) else (some (x5, x1001, x1002))
end
def spec_l1Cur_values.f (k : Nat) (s0_0 : List Int) (s0_1 : Int) (s0_2 : Int) (a1 : Int) : Option (List Int × Int × Int) := spec_l1Cur_values.l0 k a1 ([] : List Int) 0 s0_0 s0_1 s0_2
theorem spec_l1Cur_values.mono_l : ∀ k, (∀ y0 y1 y2 y3 y4 y5, LeO (spec_l1Cur_values.l0 k y0 y1 y2 y3 y4 y5) (spec_l1Cur_values.l0 (k + 1) y0 y1 y2 y3 y4 y5)) ∧ (∀ y0 y1 y2 y3 y4 y5 y6, LeO (spec_l1Cur_values.j1 k y0 y1 y2 y3 y4 y5 y6) (spec_l1Cur_values.j1 (k + 1) y0 y1 y2 y3 y4 y5 y6))
 | 0 => ⟨fun _ _ _ _ _ _ r h => by simp [spec_l1Cur_values.l0] at h, fun _ _ _ _ _ _ _ r h => by simp [spec_l1Cur_values.j1] at h⟩
 | k + 1 => by
  obtain ⟨ih0, ih1⟩ := spec_l1Cur_values.mono_l k
  refine ⟨?_, ?_⟩
  ·
   intro y0 y1 y2 y3 y4 y5
   unfold spec_l1Cur_values.l0
   repeat' first
   | (with_reducible exact ih0 _ _ _ _ _ _)
   | (with_reducible exact ih1 _ _ _ _ _ _ _)
   | (with_reducible exact LeO.refl _)
   | (with_reducible exact LeO.none _)
   | (with_reducible refine LeO.ite ?_ ?_)
   | (with_reducible refine LeO.bind ?_ (fun _ => ?_))
   | exact ih0 _ _ _ _ _ _
   | exact ih1 _ _ _ _ _ _ _
   | exact LeO.none _
   | refine LeO.ite ?_ ?_
   | refine LeO.bind ?_ (fun _ => ?_)
  ·
   intro y0 y1 y2 y3 y4 y5 y6
   unfold spec_l1Cur_values.j1
   repeat' first
   | (with_reducible exact ih0 _ _ _ _ _ _)
   | (with_reducible exact ih1 _ _ _ _ _ _ _)
   | (with_reducible exact LeO.refl _)
   | (with_reducible exact LeO.none _)
   | (with_reducible refine LeO.ite ?_ ?_)
   | (with_reducible refine LeO.bind ?_ (fun _ => ?_))
   | exact ih0 _ _ _ _ _ _
   | exact ih1 _ _ _ _ _ _ _
   | exact LeO.none _
   | refine LeO.ite ?_ ?_
   | refine LeO.bind ?_ (fun _ => ?_)
theorem spec_l1Cur_values.mono : ∀ a0 a1 a2 a3 k, LeO (spec_l1Cur_values.f k a0 a1 a2 a3) (spec_l1Cur_values.f (k + 1) a0 a1 a2 a3) := by
 intro a0 a1 a2 a3 k
 obtain ⟨ih0, ih1⟩ := spec_l1Cur_values.mono_l k
 unfold spec_l1Cur_values.f
 repeat' first
   | (with_reducible exact ih0 _ _ _ _ _ _)
   | (with_reducible exact ih1 _ _ _ _ _ _ _)
   | (with_reducible exact LeO.refl _)
   | (with_reducible exact LeO.none _)
   | (with_reducible refine LeO.ite ?_ ?_)
   | (with_reducible refine LeO.bind ?_ (fun _ => ?_))
   | exact ih0 _ _ _ _ _ _
   | exact ih1 _ _ _ _ _ _ _
   | exact LeO.none _
   | refine LeO.ite ?_ ?_
   | refine LeO.bind ?_ (fun _ => ?_)
set_option maxHeartbeats 8000000 in
set_option maxRecDepth 100000 in
theorem spec_l1Cur_values.calls (k : Nat) (g : Nat) (s0_0 : List Int) (s0_1 : Int) (s0_2 : Int) (a1 : Int) (r1 : List Int) (r2 : Int) (r3 : Int) (w0 w : World) (hI : IsS48 w0 w g s0_0 s0_1 s0_2) (hB : Below w0.heap.size w0 w) (h : spec_l1Cur_values.f k s0_0 s0_1 s0_2 a1 = some (r1, r2, r3)) :
  Calls Try.prog 29 #[.pointer (some ⟨g, 0, none⟩), .int .i64 a1] w fun e w' => ∃ v0_ : Value, e = .returned (v0_) ∧ Kd.R (Kd.int .i64) 3 w' w.heap.size (fun _ => True) v0_ r1 ∧ IsS48 w0 w' g s0_0 r2 r3 ∧ Below w0.heap.size w0 w' ∧ KeepBut w w' g none := by
 have HI0 := Aside0.mk hI; have HK := Zm (KeepBut.refl w g none); have HL := Aside0.mk hB.size; clear hI; have HW0 := Aside0.mk hB.size; have HB := Aside0.mk hB; clear hB; have H : (spec_l1Cur_values.l0 k a1 ([] : List Int) 0 s0_0 s0_1 s0_2) = some (r1, r2, r3) := h; clear h; have H' := Aside0.mk H; clear H
 go_enter Try.func29, Try.ntmps29
 go_wp2
 go_loopg [5, 6] k (fun kq v5 v6 w' => ∃ (x5_1 : List Int) (x6_1 : Int) (x1001_1 : Int) (x1002_1 : Int), v6 = .int .i64 x6_1 ∧ Aside0 (spec_l1Cur_values.l0 kq a1 x5_1 x6_1 s0_0 x1001_1 x1002_1 = some (r1, r2, r3)) ∧ Aside0 (kq ≤ k) ∧ Aside0 (Kd.R (Kd.int .i64) 3 w' w.heap.size (fun _ => True) v5 x5_1) ∧ Aside0 (IsS48 w0 w' g s0_0 x1001_1 x1002_1) ∧ Aside0 (KeepBut w w' g none) ∧ Aside0 (Below w0.heap.size w0 w'))
 case atStart => exact ⟨(([] : List Int)), (0), (s0_1), (s0_2), (by first | rfl | (simp; done) | (simp [*]; done)), H', ⟨Nat.le_refl _⟩, ⟨by first | exact Kd.R_nil _ _ _ _ _ | exact Kd.N_nil _ _ _ _ _ | exact Kd.V_nil _ _ _ _ _ | exact Kd.Q_nil _ _ _ _ _ | exact Kd.S_nil _ _ _ _ _⟩, ⟨by repeat (first | (with_reducible first | exact HI0.out | apply IsS48.alloc | apply IsS48.drewN | apply IsS48.drew | apply IsS48.set_1 | apply IsS48.set_2) | exact HI0.out)⟩, ⟨by repeat (first | (with_reducible first | exact HK.out | apply KeepBut.set_ | apply keep_drewN | apply keep_drew | apply keep_alloc) | exact HK.out)⟩, ⟨by repeat (first | (with_reducible first | exact HB.out | apply below_alloc | apply pw_below_drewN | apply below_drew1 | refine below_set ?_ (IsS48.ge HI0.out)) | exact HB.out)⟩⟩
 case round =>
  (clear H'; (try clear c2); (try clear p2)); obtain ⟨x5_1, x6_1, x1001_1, x1002_1, rfl, HA, HK1, HO_5, HI0, HK, HB⟩ := hrel
  cases gk with
  | zero => exact absurd HA.out (by simp [spec_l1Cur_values.l0])
  | succ k1 =>
   have H := HA.out; clear HA
   simp only [spec_l1Cur_values.l0] at H
   have HC3 := Aside0.mk H; clear H
   go_upto_region 3 with (fail)
   go_cut [14] (fun v14 wc => ∃ (kq : Nat) (x14_2 : Bool), v14 = .bool x14_2 ∧ Aside0 (spec_l1Cur_values.j1 kq a1 x5_1 x6_1 x14_2 s0_0 x1001_1 x1002_1 = some (r1, r2, r3)) ∧ Aside0 (kq ≤ k1) ∧ Aside0 (Kd.R (Kd.int .i64) 3 wc w.heap.size (fun _ => True) u5 x5_1) ∧ Aside0 (IsS48 w0 wc g s0_0 x1001_1 x1002_1) ∧ Aside0 (KeepBut w wc g none) ∧ Aside0 (Below w0.heap.size w0 wc))
   case first =>
    have H := HC3.out; clear HC3
    by_cases c4 : x6_1 < a1
    ·
     rw [if_pos c4] at H; have c4b0 : decide (x6_1 < a1) = true := decide_eq_true c4; clear c4
     (first | rw [c4b0] | (simp only [i64_w, i32_w]; rw [c4b0]) | skip)
     have H' := Aside0.mk H; clear H
     go_wp2
     go_meet
     case rel => exact ⟨_, (decide (x6_1 < 120)), (by first | rfl | (simp; done) | (simp [*]; done)), H', ⟨by have := HK1.out; first | omega | exact Nat.le_refl _⟩, ⟨Zr HO_5⟩, ⟨by repeat (first | (with_reducible first | exact HI0.out | apply IsS48.alloc | apply IsS48.drewN | apply IsS48.drew | apply IsS48.set_1 | apply IsS48.set_2) | exact HI0.out)⟩, ⟨by repeat (first | (with_reducible first | exact HK.out | apply KeepBut.set_ | apply keep_drewN | apply keep_drew | apply keep_alloc) | exact HK.out)⟩, ⟨by repeat (first | (with_reducible first | exact HB.out | apply below_alloc | apply pw_below_drewN | apply below_drew1 | refine below_set ?_ (IsS48.ge HI0.out)) | exact HB.out)⟩⟩
    ·
     rw [if_neg c4] at H; have c4b0 : decide (x6_1 < a1) = false := decide_eq_false c4; clear c4
     (first | rw [c4b0] | (simp only [i64_w, i32_w]; rw [c4b0]) | skip)
     have H' := Aside0.mk H; clear H
     go_wp2
     go_meet
     case rel => exact ⟨_, (false), (by first | rfl | (simp; done) | (simp [*]; done)), H', ⟨by have := HK1.out; first | omega | exact Nat.le_refl _⟩, ⟨Zr HO_5⟩, ⟨by repeat (first | (with_reducible first | exact HI0.out | apply IsS48.alloc | apply IsS48.drewN | apply IsS48.drew | apply IsS48.set_1 | apply IsS48.set_2) | exact HI0.out)⟩, ⟨by repeat (first | (with_reducible first | exact HK.out | apply KeepBut.set_ | apply keep_drewN | apply keep_drew | apply keep_alloc) | exact HK.out)⟩, ⟨by repeat (first | (with_reducible first | exact HB.out | apply below_alloc | apply pw_below_drewN | apply below_drew1 | refine below_set ?_ (IsS48.ge HI0.out)) | exact HB.out)⟩⟩
   case rest =>
    (clear HC3; (try clear c2); (try clear p2); (try clear c4); (try clear c4b0); (try clear p2)); obtain ⟨kq, x14_2, rfl, HA, HJ2, HO_5, HI0, HK, HB⟩ := hcut
    cases kq with
    | zero => exact absurd HA.out (by simp [spec_l1Cur_values.j1])
    | succ kj2 =>
     have H := HA.out; clear HA
     simp only [spec_l1Cur_values.j1] at H
     by_cases c5 : x14_2 = true
     ·
      subst c5
      rw [if_pos rfl] at H
      replace H := Option.bind_eq_some_iff.mp H; obtain ⟨⟨t261, t262, t263⟩, A60, H⟩ := H; (replace H : ((spec_l1Cur_one.f s0_0 t262 t263 20).bind fun bt264 => (if bt264.1 = true then ((spec_l1Cur_among.f s0_0 bt264.2.1 bt264.2.2 (([4611686018427387904, (-4611686018427387904), (-9223372036854775808), 9223372036854775807] : List Int))).bind fun bt270 => (if x5_1.length < 17592186044416 then (spec_l1Cur_values.l0 kj2 a1 (x5_1 ++ [bt270.1]) (wrap64 (x6_1 + 1)) s0_0 bt270.2.1 bt270.2.2) else (none))) else (if x5_1.length < 17592186044416 then (spec_l1Cur_values.l0 kj2 a1 (x5_1 ++ [wrap64 (t261 - 3)]) (wrap64 (x6_1 + 1)) s0_0 bt264.2.1 bt264.2.2) else (none)))) = some (r1, r2, r3) := H); have A6 := Aside0.mk A60; clear A60; replace H := Option.bind_eq_some_iff.mp H; obtain ⟨⟨t264, t265, t266⟩, A70, H⟩ := H; (replace H : (if t264 = true then ((spec_l1Cur_among.f s0_0 t265 t266 (([4611686018427387904, (-4611686018427387904), (-9223372036854775808), 9223372036854775807] : List Int))).bind fun bt270 => (if x5_1.length < 17592186044416 then (spec_l1Cur_values.l0 kj2 a1 (x5_1 ++ [bt270.1]) (wrap64 (x6_1 + 1)) s0_0 bt270.2.1 bt270.2.2) else (none))) else (if x5_1.length < 17592186044416 then (spec_l1Cur_values.l0 kj2 a1 (x5_1 ++ [wrap64 (t261 - 3)]) (wrap64 (x6_1 + 1)) s0_0 t265 t266) else (none))) = some (r1, r2, r3) := H); have A7 := Aside0.mk A70; clear A70
      by_cases c8 : t264 = true
      ·
       subst c8
       rw [if_pos rfl] at H
       obtain ⟨y267, hy267⟩ : ∃ y_ : List Int, y_ = (([4611686018427387904, (-4611686018427387904), (-9223372036854775808), 9223372036854775807] : List Int)) := ⟨_, rfl⟩; (replace H : ((spec_l1Cur_among.f s0_0 t265 t266 y267).bind fun bt270 => (if x5_1.length < 17592186044416 then (spec_l1Cur_values.l0 kj2 a1 (x5_1 ++ [bt270.1]) (wrap64 (x6_1 + 1)) s0_0 bt270.2.1 bt270.2.2) else (none))) = some (r1, r2, r3) := by first | (rw [hy267]; with_reducible exact H) | (have H2_ := (Option.bind_some _ _).symm.trans H; rw [hy267]; with_reducible exact H2_) | (have H2_ := (Option.bind_some _ _).symm.trans H; with_reducible exact H2_) | with_reducible exact H | (rw [hy267]; exact H) | exact H)
       have Ny267 := Aside0.mk hy267; clear hy267
       replace H := Option.bind_eq_some_iff.mp H; obtain ⟨⟨t270, t271, t272⟩, A90, H⟩ := H; replace H : (if x5_1.length < 17592186044416 then (spec_l1Cur_values.l0 kj2 a1 (x5_1 ++ [t270]) (wrap64 (x6_1 + 1)) s0_0 t271 t272) else (none)) = some (r1, r2, r3) := H; have A9 := Aside0.mk A90; clear A90
       by_cases c10 : x5_1.length < 17592186044416
       ·
        rw [if_pos c10] at H
        have LMc10 := Aside0.mk c10; clear c10
        obtain ⟨y273, hy273⟩ : ∃ y_ : List Int, y_ = (x5_1 ++ [t270]) := ⟨_, rfl⟩; (replace H : (spec_l1Cur_values.l0 kj2 a1 y273 (wrap64 (x6_1 + 1)) s0_0 t271 t272) = some (r1, r2, r3) := by first | (rw [hy273]; with_reducible exact H) | (have H2_ := (Option.bind_some _ _).symm.trans H; rw [hy273]; with_reducible exact H2_) | (have H2_ := (Option.bind_some _ _).symm.trans H; with_reducible exact H2_) | with_reducible exact H | (rw [hy273]; exact H) | exact H)
        have Ny273 := Aside0.mk hy273; clear hy273; have H' := Aside0.mk H; clear H
        go_wp2_with (first | ((with_reducible refine gate_callee (f := 30) rfl ?_); refine Ga (some 18) Try.func30 #[.pointer (some ⟨g, 0, none⟩), .int .i64 9] (h := ?_); (with_reducible refine (spec_l1Cur_pick.calls g s0_0 x1001_1 x1002_1 9 t261 t262 t263 w0 _ ?side1 ?side2 A6.out).mono ?_); (case side1 => repeat (first | (with_reducible first | exact HI0.out | apply IsS48.alloc | apply IsS48.drewN | apply IsS48.drew | apply IsS48.set_1 | apply IsS48.set_2) | exact HI0.out)); (case side2 => repeat (first | (with_reducible first | exact HB.out | apply below_alloc | apply pw_below_drewN | apply below_drew1 | refine below_set ?_ (IsS48.ge HI0.out)) | exact HB.out)); rintro e w11 ⟨rfl, hi, hb, hk⟩; refine ⟨_, rfl, ?_⟩; replace HO_5 := Zm (Kd.R_mono (Kd.R_keep (IsS48.apart (show IsS48 w0 _ g s0_0 x1001_1 x1002_1 from by repeat (first | (with_reducible first | exact HI0.out | apply IsS48.alloc | apply IsS48.drewN | apply IsS48.drew | apply IsS48.set_1 | apply IsS48.set_2) | exact HI0.out)) (Zr HO_5) (by decide)) hk (fun _ h => h.2)) (fun _ h => h.1)); replace HK := Zm (KeepBut.trans (by repeat (first | (with_reducible first | exact HK.out | apply KeepBut.set_ | apply keep_drewN | apply keep_drew | apply keep_alloc) | exact HK.out)) hk (.inl rfl)); replace HB := Zm (hb); replace HI0 := Zm (hi); (try clear hb); (try clear hb2); (try clear hk); (try clear hi)) | ((with_reducible refine gate_callee (f := 28) rfl ?_); refine Ga (some 21) Try.func28 #[.pointer (some ⟨g, 0, none⟩), .int .i64 20] (h := ?_); (with_reducible refine (spec_l1Cur_one.calls g s0_0 t262 t263 20 true t265 t266 w0 _ ?side1 ?side2 A7.out).mono ?_); (case side1 => repeat (first | (with_reducible first | exact HI0.out | apply IsS48.alloc | apply IsS48.drewN | apply IsS48.drew | apply IsS48.set_1 | apply IsS48.set_2) | exact HI0.out)); (case side2 => repeat (first | (with_reducible first | exact HB.out | apply below_alloc | apply pw_below_drewN | apply below_drew1 | refine below_set ?_ (IsS48.ge HI0.out)) | exact HB.out)); rintro e w12 ⟨rfl, hi, hb, hk⟩; refine ⟨_, rfl, ?_⟩; replace HO_5 := Zm (Kd.R_mono (Kd.R_keep (IsS48.apart (show IsS48 w0 _ g s0_0 t262 t263 from by repeat (first | (with_reducible first | exact HI0.out | apply IsS48.alloc | apply IsS48.drewN | apply IsS48.drew | apply IsS48.set_1 | apply IsS48.set_2) | exact HI0.out)) (Zr HO_5) (by decide)) hk (fun _ h => h.2)) (fun _ h => h.1)); replace HK := Zm (KeepBut.trans (by repeat (first | (with_reducible first | exact HK.out | apply KeepBut.set_ | apply keep_drewN | apply keep_drew | apply keep_alloc) | exact HK.out)) hk (.inl rfl)); replace HB := Zm (hb); replace HI0 := Zm (hi); (try clear hb); (try clear hb2); (try clear hk); (try clear hi)) | ((with_reducible refine gate_dst (N := 23) rfl ?_); refine Kd.R_lit (Kd.int .i64) _ 3 ?hg (N := 23) ?hd (xs := ([4611686018427387904, (-4611686018427387904), (-9223372036854775808), 9223372036854775807] : List Int)) (inner := [.int .i64 4611686018427387904, .int .i64 (-4611686018427387904), .int .i64 (-9223372036854775808), .int .i64 9223372036854775807]) (ok := fun _ => True) (okp := fun _ => True) ?hr ?hp (fun _ hk => hk) trivial (Below.refl _ _) (Nat.le_refl _) (by simp) ?_; (case hd => rfl); (case hg => rfl); (case hr => first | (go_simp; done) | (go_simp; rfl)); (case hp => exact (Reps.one (show Kd.M (Kd.int .i64) _ _ _ 4611686018427387904 [.int .i64 4611686018427387904] from rfl) (Reps.one (show Kd.M (Kd.int .i64) _ _ _ (-4611686018427387904) [.int .i64 (-4611686018427387904)] from rfl) (Reps.one (show Kd.M (Kd.int .i64) _ _ _ (-9223372036854775808) [.int .i64 (-9223372036854775808)] from rfl) (Reps.one (show Kd.M (Kd.int .i64) _ _ _ 9223372036854775807 [.int .i64 9223372036854775807] from rfl) (Reps.none _ _)))))); intro v268 w13 ho14 hb hg_ hnew_; clear hg_ hnew_; (first | rw [← Ny267.out] at ho14 | (simp only [Int.reduceToNat] at ho14; rw [← Ny267.out] at ho14)); have HO269 := Zm (Kd.R_lower (Zv ho14 HO_5) (keep_size (w := w) (g := g) (row := none) (by repeat (first | (with_reducible first | exact HK.out | apply KeepBut.set_ | apply keep_drewN | apply keep_drew | apply keep_alloc) | exact HK.out)))); replace HO_5 := Zm (Kd.R_elder' (Zr HO_5) (Kd.R_base ho14) hb); replace HK := Zm (KeepBut.trans (by repeat (first | (with_reducible first | exact HK.out | apply KeepBut.set_ | apply keep_drewN | apply keep_drew | apply keep_alloc) | exact HK.out)) (KeepBut.of_below hb g none) (.inl rfl)); replace HB := Zm (below_step (by repeat (first | (with_reducible first | exact HB.out | apply below_alloc | apply pw_below_drewN | apply below_drew1 | refine below_set ?_ (IsS48.ge HI0.out)) | exact HB.out)) hb); replace HI0 := Zm (IsS48.below (by repeat (first | (with_reducible first | exact HI0.out | apply IsS48.alloc | apply IsS48.drewN | apply IsS48.drew | apply IsS48.set_1 | apply IsS48.set_2) | exact HI0.out)) hb); clear hb ho14; obtain ⟨Ao15, co15, eo15⟩ := Kd.R_slice HO269.out; subst eo15) | ((with_reducible refine gate_callee (f := 58) rfl ?_); refine Ga (some 24) Try.func58 #[.pointer (some ⟨g, 0, none⟩), .slice Ao15 y267.length co15] (h := ?_); (with_reducible refine (spec_l1Cur_among.calls g s0_0 t265 t266 _ _ y267 t270 t271 t272 w0 _ ?side1 ?side2 ?side3 ?side4 ?side5 A9.out).mono ?_); (case side1 => repeat (first | (with_reducible first | exact HI0.out | apply IsS48.alloc | apply IsS48.drewN | apply IsS48.drew | apply IsS48.set_1 | apply IsS48.set_2) | exact HI0.out)); (case side2 => repeat (first | (with_reducible first | exact HB.out | apply below_alloc | apply pw_below_drewN | apply below_drew1 | refine below_set ?_ (IsS48.ge HI0.out)) | exact HB.out)); (case side3 => repeat (first | exact (Kd.R_reads' HO269.out).2.2 | (with_reducible refine Kd.C_alloc ?_ _) | (with_reducible refine Kd.C_drewN ?_ _) | (with_reducible refine Kd.C_drew ?_))); (case side4 => exact (Kd.R_reads' HO269.out).2.1); (case side5 => exact far_slice (IsS48.own_ne HI0.out HO269.out (by decide))); rintro e w16 ⟨rfl, hi, hb, hk⟩; refine ⟨_, rfl, ?_⟩; replace HO_5 := Zm (Kd.R_mono (Kd.R_keep (IsS48.apart (show IsS48 w0 _ g s0_0 t265 t266 from by repeat (first | (with_reducible first | exact HI0.out | apply IsS48.alloc | apply IsS48.drewN | apply IsS48.drew | apply IsS48.set_1 | apply IsS48.set_2) | exact HI0.out)) (Zr HO_5) (by decide)) hk (fun _ h => h.2)) (fun _ h => h.1)); replace HO269 := Zm (Kd.R_mono (Kd.R_keep (IsS48.apart (show IsS48 w0 _ g s0_0 t265 t266 from by repeat (first | (with_reducible first | exact HI0.out | apply IsS48.alloc | apply IsS48.drewN | apply IsS48.drew | apply IsS48.set_1 | apply IsS48.set_2) | exact HI0.out)) (Zr HO269) (by decide)) hk (fun _ h => h.2)) (fun _ h => h.1)); replace HK := Zm (KeepBut.trans (by repeat (first | (with_reducible first | exact HK.out | apply KeepBut.set_ | apply keep_drewN | apply keep_drew | apply keep_alloc) | exact HK.out)) hk (.inl rfl)); replace HB := Zm (hb); replace HI0 := Zm (hi); (try clear hb); (try clear hb2); (try clear hk); (try clear hi)) | ((with_reducible refine gate_builtin (b := .append) (xs := #[.tmp 25, .tmp 27]) rfl ?_); at_builtin; refine Kd.R_append (Kd.int .i64) w.heap.size rfl (.tmp 25) (.tmp 27) 24 3 (.int .i64 0) 8 rfl Try.underlying24 info3 rfl (by decide) (by omega) u5 x5_1 t270 [.int .i64 t270] (fun k_ => some k_ ≠ (.slice Ao15 y267.length co15 : Value).ownBlock) (fun _ => False) rfl rfl ?aP (fun _ hk => hk.elim) ?aF ?aO (Below.refl _ _) ?aS ?aL ?_; (case aP => exact rfl); (case aF => exact (fun k_ hk => Kd.fresh' (Kd.R_lt (Zr HO269)) k_ hk)); (case aO => exact (Zc HO_5)); (case aS => exact (keep_size (w := w) (g := g) (row := none) (by repeat (first | (with_reducible first | exact HK.out | apply KeepBut.set_ | apply keep_drewN | apply keep_drew | apply keep_alloc) | exact HK.out)))); (case aL => have := LMc10.out; omega); intro v274 w17 ho hb hg hat; rw [← Ny273.out] at ho; replace HO269 := Zm (Kd.R_after (ok := (fun _ => True)) (Zr HO269) hg hat); replace HB := Zm (below_weaken (by repeat (first | (with_reducible first | exact HB.out | apply below_alloc | apply pw_below_drewN | apply below_drew1 | refine below_set ?_ (IsS48.ge HI0.out)) | exact HB.out)) HL.out hb); replace HI0 := Zm (IsS48.grown (by repeat (first | (with_reducible first | exact HI0.out | apply IsS48.alloc | apply IsS48.drewN | apply IsS48.drew | apply IsS48.set_1 | apply IsS48.set_2) | exact HI0.out)) hg (IsS48.own_ne HI0.out HO_5.out (by decide))); replace HK := Zm (KeepBut.trans (by repeat (first | (with_reducible first | exact HK.out | apply KeepBut.set_ | apply keep_drewN | apply keep_drew | apply keep_alloc) | exact HK.out)) (KeepBut.of_grown hg g) (Kd.R_base2 HO_5.out)); have HO275 := Zm (ho); clear HO_5 ho hb hg hat))
        go_roundg kj2
        case measure => have := HK1.out; have := HJ2.out; omega
        case rel => exact ⟨(y273), (wrap64 (x6_1 + 1)), (t271), (t272), (by first | rfl | (simp; done) | (simp [*]; done)), H', ⟨by have := HK1.out; have := HJ2.out; omega⟩, ⟨Zc HO275⟩, ⟨by repeat (first | (with_reducible first | exact HI0.out | apply IsS48.alloc | apply IsS48.drewN | apply IsS48.drew | apply IsS48.set_1 | apply IsS48.set_2) | exact HI0.out)⟩, ⟨by repeat (first | (with_reducible first | exact HK.out | apply KeepBut.set_ | apply keep_drewN | apply keep_drew | apply keep_alloc) | exact HK.out)⟩, ⟨by repeat (first | (with_reducible first | exact HB.out | apply below_alloc | apply pw_below_drewN | apply below_drew1 | refine below_set ?_ (IsS48.ge HI0.out)) | exact HB.out)⟩⟩
       ·
        rw [if_neg c10] at H
        exact absurd H (by simp)
      ·
       replace c8 := Bool.eq_false_iff.mpr c8
       subst c8
       rw [if_neg Bool.false_ne_true] at H
       by_cases c18 : x5_1.length < 17592186044416
       ·
        rw [if_pos c18] at H
        have LMc18 := Aside0.mk c18; clear c18
        obtain ⟨y276, hy276⟩ : ∃ y_ : List Int, y_ = (x5_1 ++ [wrap64 (t261 - 3)]) := ⟨_, rfl⟩; (replace H : (spec_l1Cur_values.l0 kj2 a1 y276 (wrap64 (x6_1 + 1)) s0_0 t265 t266) = some (r1, r2, r3) := by first | (rw [hy276]; with_reducible exact H) | (have H2_ := (Option.bind_some _ _).symm.trans H; rw [hy276]; with_reducible exact H2_) | (have H2_ := (Option.bind_some _ _).symm.trans H; with_reducible exact H2_) | with_reducible exact H | (rw [hy276]; exact H) | exact H)
        have Ny276 := Aside0.mk hy276; clear hy276; have H' := Aside0.mk H; clear H
        go_wp2_with (first | ((with_reducible refine gate_callee (f := 30) rfl ?_); refine Ga (some 18) Try.func30 #[.pointer (some ⟨g, 0, none⟩), .int .i64 9] (h := ?_); (with_reducible refine (spec_l1Cur_pick.calls g s0_0 x1001_1 x1002_1 9 t261 t262 t263 w0 _ ?side1 ?side2 A6.out).mono ?_); (case side1 => repeat (first | (with_reducible first | exact HI0.out | apply IsS48.alloc | apply IsS48.drewN | apply IsS48.drew | apply IsS48.set_1 | apply IsS48.set_2) | exact HI0.out)); (case side2 => repeat (first | (with_reducible first | exact HB.out | apply below_alloc | apply pw_below_drewN | apply below_drew1 | refine below_set ?_ (IsS48.ge HI0.out)) | exact HB.out)); rintro e w19 ⟨rfl, hi, hb, hk⟩; refine ⟨_, rfl, ?_⟩; replace HO_5 := Zm (Kd.R_mono (Kd.R_keep (IsS48.apart (show IsS48 w0 _ g s0_0 x1001_1 x1002_1 from by repeat (first | (with_reducible first | exact HI0.out | apply IsS48.alloc | apply IsS48.drewN | apply IsS48.drew | apply IsS48.set_1 | apply IsS48.set_2) | exact HI0.out)) (Zr HO_5) (by decide)) hk (fun _ h => h.2)) (fun _ h => h.1)); replace HK := Zm (KeepBut.trans (by repeat (first | (with_reducible first | exact HK.out | apply KeepBut.set_ | apply keep_drewN | apply keep_drew | apply keep_alloc) | exact HK.out)) hk (.inl rfl)); replace HB := Zm (hb); replace HI0 := Zm (hi); (try clear hb); (try clear hb2); (try clear hk); (try clear hi)) | ((with_reducible refine gate_callee (f := 28) rfl ?_); refine Ga (some 21) Try.func28 #[.pointer (some ⟨g, 0, none⟩), .int .i64 20] (h := ?_); (with_reducible refine (spec_l1Cur_one.calls g s0_0 t262 t263 20 false t265 t266 w0 _ ?side1 ?side2 A7.out).mono ?_); (case side1 => repeat (first | (with_reducible first | exact HI0.out | apply IsS48.alloc | apply IsS48.drewN | apply IsS48.drew | apply IsS48.set_1 | apply IsS48.set_2) | exact HI0.out)); (case side2 => repeat (first | (with_reducible first | exact HB.out | apply below_alloc | apply pw_below_drewN | apply below_drew1 | refine below_set ?_ (IsS48.ge HI0.out)) | exact HB.out)); rintro e w20 ⟨rfl, hi, hb, hk⟩; refine ⟨_, rfl, ?_⟩; replace HO_5 := Zm (Kd.R_mono (Kd.R_keep (IsS48.apart (show IsS48 w0 _ g s0_0 t262 t263 from by repeat (first | (with_reducible first | exact HI0.out | apply IsS48.alloc | apply IsS48.drewN | apply IsS48.drew | apply IsS48.set_1 | apply IsS48.set_2) | exact HI0.out)) (Zr HO_5) (by decide)) hk (fun _ h => h.2)) (fun _ h => h.1)); replace HK := Zm (KeepBut.trans (by repeat (first | (with_reducible first | exact HK.out | apply KeepBut.set_ | apply keep_drewN | apply keep_drew | apply keep_alloc) | exact HK.out)) hk (.inl rfl)); replace HB := Zm (hb); replace HI0 := Zm (hi); (try clear hb); (try clear hb2); (try clear hk); (try clear hi)) | ((with_reducible refine gate_builtin (b := .append) (xs := #[.tmp 25, .tmp 27]) rfl ?_); at_builtin; refine Kd.R_append (Kd.int .i64) w.heap.size rfl (.tmp 25) (.tmp 27) 24 3 (.int .i64 0) 8 rfl Try.underlying24 info3 rfl (by decide) (by omega) u5 x5_1 (wrap64 (t261 - 3)) [.int .i64 (wrap64 (t261 - 3))] (fun _ => True) (fun _ => False) rfl rfl ?aP (fun _ hk => hk.elim) ?aF ?aO (Below.refl _ _) ?aS ?aL ?_; (case aP => exact rfl); (case aF => exact (fun _ _ => trivial)); (case aO => exact (Zr HO_5)); (case aS => exact (keep_size (w := w) (g := g) (row := none) (by repeat (first | (with_reducible first | exact HK.out | apply KeepBut.set_ | apply keep_drewN | apply keep_drew | apply keep_alloc) | exact HK.out)))); (case aL => have := LMc18.out; omega); intro v277 w21 ho hb hg hat; rw [← Ny276.out] at ho; replace HB := Zm (below_weaken (by repeat (first | (with_reducible first | exact HB.out | apply below_alloc | apply pw_below_drewN | apply below_drew1 | refine below_set ?_ (IsS48.ge HI0.out)) | exact HB.out)) HL.out hb); replace HI0 := Zm (IsS48.grown (by repeat (first | (with_reducible first | exact HI0.out | apply IsS48.alloc | apply IsS48.drewN | apply IsS48.drew | apply IsS48.set_1 | apply IsS48.set_2) | exact HI0.out)) hg (IsS48.own_ne HI0.out HO_5.out (by decide))); replace HK := Zm (KeepBut.trans (by repeat (first | (with_reducible first | exact HK.out | apply KeepBut.set_ | apply keep_drewN | apply keep_drew | apply keep_alloc) | exact HK.out)) (KeepBut.of_grown hg g) (Kd.R_base2 HO_5.out)); have HO278 := Zm (ho); clear HO_5 ho hb hg hat))
        go_roundg kj2
        case measure => have := HK1.out; have := HJ2.out; omega
        case rel => exact ⟨(y276), (wrap64 (x6_1 + 1)), (t265), (t266), (by first | rfl | (simp; done) | (simp [*]; done)), H', ⟨by have := HK1.out; have := HJ2.out; omega⟩, ⟨Zr HO278⟩, ⟨by repeat (first | (with_reducible first | exact HI0.out | apply IsS48.alloc | apply IsS48.drewN | apply IsS48.drew | apply IsS48.set_1 | apply IsS48.set_2) | exact HI0.out)⟩, ⟨by repeat (first | (with_reducible first | exact HK.out | apply KeepBut.set_ | apply keep_drewN | apply keep_drew | apply keep_alloc) | exact HK.out)⟩, ⟨by repeat (first | (with_reducible first | exact HB.out | apply below_alloc | apply pw_below_drewN | apply below_drew1 | refine below_set ?_ (IsS48.ge HI0.out)) | exact HB.out)⟩⟩
       ·
        rw [if_neg c18] at H
        exact absurd H (by simp)
     ·
      replace c5 := Bool.eq_false_iff.mpr c5
      subst c5
      rw [if_neg Bool.false_ne_true] at H
      simp only [Option.some.injEq, Prod.mk.injEq] at H
      obtain ⟨rfl, rfl, rfl⟩ := H
      go_wp2
      go_ret
      exact ⟨_, by first | rfl | (simp [errW_none, errW_some] <;> rfl) | (simp [*, errW_none, errW_some] <;> rfl), Zr HO_5, by repeat (first | (with_reducible first | exact HI0.out | apply IsS48.alloc | apply IsS48.drewN | apply IsS48.drew | apply IsS48.set_1 | apply IsS48.set_2) | exact HI0.out), by repeat (first | (with_reducible first | exact HB.out | apply below_alloc | apply pw_below_drewN | apply below_drew1 | refine below_set ?_ (IsS48.ge HI0.out)) | exact HB.out), by repeat (first | (with_reducible first | exact HK.out | apply KeepBut.set_ | apply keep_drewN | apply keep_drew | apply keep_alloc) | exact HK.out)⟩

/-! ### spec_DrawSortedBy: function 5 -/
def spec_DrawSortedBy.f (k : Nat) (l0 : List Int) : Option (Int × List Int × List Int) := (spec_l1Cur_sorter.f k l0 0 0).bind fun bt281 => ((spec_l1Cur_one.f l0 bt281.2.2.1 bt281.2.2.2 12).bind fun bt288 => (if bt288.1 = true then ((spec_l1Cur_pick.f l0 bt288.2.1 bt288.2.2 5).bind fun bt291 => ((spec_l1Cur_values.f k l0 bt291.2.1 bt291.2.2 bt291.1).bind fun bt294 => (some (bt281.1, bt281.2.1, bt294.1)))) else ((spec_l1Cur_values.f k l0 bt288.2.1 bt288.2.2 bt281.1).bind fun bt299 => (some (bt281.1, bt281.2.1, bt299.1)))))
set_option maxHeartbeats 8000000 in
set_option maxRecDepth 100000 in
theorem spec_DrawSortedBy.calls (k : Nat) (A0 : Option Addr) (c0 : Nat) (l0 : List Int) (r1 : Int) (r2 : List Int) (r3 : List Int) (w : World) (hr0 : Kd.C (Kd.int .u8) w A0 l0.length l0) (hc0 : l0.length ≤ c0) (h : spec_DrawSortedBy.f k l0 = some (r1, r2, r3)) :
  Calls Try.prog 5 #[.slice A0 l0.length c0] w fun e w' => ∃ v1_ v2_ : Value, e = .returned (.tuple #[.agg #[.int .i64 r1, v1_], v2_]) ∧ Kd.R (Kd.int .i64) 3 w' w.heap.size (fun k_ => Zn k_ v2_) v1_ r2 ∧ Kd.R (Kd.int .i64) 3 w' w.heap.size (fun k_ => Zn k_ v1_) v2_ r3 ∧ Below w.heap.size w w' := by
 have hu26 := Try.underlying26; have hu48 := Try.underlying48; have HR0 := Aside0.mk hr0; have HC0 := Aside0.mk hc0; clear hr0 hc0; have HB := Zm (Below.refl w.heap.size w); have H : ((spec_l1Cur_sorter.f k l0 0 0).bind fun bt281 => ((spec_l1Cur_one.f l0 bt281.2.2.1 bt281.2.2.2 12).bind fun bt288 => (if bt288.1 = true then ((spec_l1Cur_pick.f l0 bt288.2.1 bt288.2.2 5).bind fun bt291 => ((spec_l1Cur_values.f k l0 bt291.2.1 bt291.2.2 bt291.1).bind fun bt294 => (some (bt281.1, bt281.2.1, bt294.1)))) else ((spec_l1Cur_values.f k l0 bt288.2.1 bt288.2.2 bt281.1).bind fun bt299 => (some (bt281.1, bt281.2.1, bt299.1)))))) = some (r1, r2, r3) := h; clear h
 replace H := Option.bind_eq_some_iff.mp H; obtain ⟨⟨t281, t282, t285, t286⟩, A20, H⟩ := H; (replace H : ((spec_l1Cur_one.f l0 t285 t286 12).bind fun bt288 => (if bt288.1 = true then ((spec_l1Cur_pick.f l0 bt288.2.1 bt288.2.2 5).bind fun bt291 => ((spec_l1Cur_values.f k l0 bt291.2.1 bt291.2.2 bt291.1).bind fun bt294 => (some (t281, t282, bt294.1)))) else ((spec_l1Cur_values.f k l0 bt288.2.1 bt288.2.2 t281).bind fun bt299 => (some (t281, t282, bt299.1))))) = some (r1, r2, r3) := H); have A2 := Aside0.mk A20; clear A20; replace H := Option.bind_eq_some_iff.mp H; obtain ⟨⟨t288, t289, t290⟩, A30, H⟩ := H; (replace H : (if t288 = true then ((spec_l1Cur_pick.f l0 t289 t290 5).bind fun bt291 => ((spec_l1Cur_values.f k l0 bt291.2.1 bt291.2.2 bt291.1).bind fun bt294 => (some (t281, t282, bt294.1)))) else ((spec_l1Cur_values.f k l0 t289 t290 t281).bind fun bt299 => (some (t281, t282, bt299.1)))) = some (r1, r2, r3) := H); have A3 := Aside0.mk A30; clear A30
 by_cases c4 : t288 = true
 ·
  subst c4
  rw [if_pos rfl] at H
  replace H := Option.bind_eq_some_iff.mp H; obtain ⟨⟨t291, t292, t293⟩, A50, H⟩ := H; (replace H : ((spec_l1Cur_values.f k l0 t292 t293 t291).bind fun bt294 => (some (t281, t282, bt294.1))) = some (r1, r2, r3) := H); have A5 := Aside0.mk A50; clear A50; replace H := Option.bind_eq_some_iff.mp H; obtain ⟨⟨t294, t297, t298⟩, A60, H⟩ := H; replace H : (some (t281, t282, t294)) = some (r1, r2, r3) := H; have A6 := Aside0.mk A60; clear A60
  simp only [Option.some.injEq, Prod.mk.injEq] at H
  obtain ⟨rfl, rfl, rfl⟩ := H
  go_enter Try.func5, Try.ntmps5
  try go_wp2_with (first | ((with_reducible refine gate_dst (N := 2) rfl ?_); refine box_event ?hg (N := 2) ?hd (cs := #[.int .i64 0, .slice none 0 0]) (t := 26) ?hr ?_; (case hd => rfl); (case hg => rfl); (case hr => first | (go_simp; done) | (go_simp; rfl)); intro gb279 hg w7 hbox hb; have BK279 := Zm (hbox); have GW279 := Zx hg HB; have GE279 := Zx hg HB; replace HB := Zh HB hb; clear hb hbox hg) | ((with_reducible refine gate_dst (N := 8) rfl ?_); refine box_event ?hg (N := 8) ?hd (cs := #[.slice A0 l0.length c0, .int .i64 0, .int .u64 0]) (t := 48) ?hr ?_; (case hd => rfl); (case hg => rfl); (case hr => first | (go_simp; done) | (go_simp; rfl)); intro gb280 hg w8 hbox hb; have HI280 := Zm ((show IsS48 w w8 gb280 l0 0 0 from ⟨_, _, hbox, (by rw [hg]; exact (below_size (Zl HB))), HR0.out⟩)); have GW280 := Zx hg HB; have GE280 := Zx hg HB; replace HB := Zh HB hb; have NB279_280 := Zq hg BK279; have NB280_279 := Zp hg BK279; replace BK279 := Zk BK279 hb; clear hb hbox hg) | ((with_reducible refine gate_callee (f := 27) rfl ?_); refine Ga (some 10) Try.func27 #[.pointer (some ⟨gb280, 0, none⟩)] (h := ?_); (with_reducible refine (spec_l1Cur_sorter.calls k gb280 l0 0 0 t281 t282 t285 t286 w _ ?side1 ?side2 A2.out).mono ?_); (case side1 => repeat (first | (with_reducible first | exact HI280.out | apply IsS48.alloc | apply IsS48.drewN | apply IsS48.drew | apply IsS48.set_1 | apply IsS48.set_2 | refine IsS48.far ?_ NB280_279.out _) | exact HI280.out)); (case side2 => repeat (first | (with_reducible first | exact HB.out | apply below_alloc | apply pw_below_drewN | apply below_drew1 | refine below_set ?_ (IsS48.ge HI280.out) | refine below_set ?_ GE279.out) | exact HB.out)); rintro e w9 ⟨v283, rfl, ho0, hi, hb, hk⟩; refine ⟨_, rfl, ?_⟩; replace BK279 := Zm (KeepBut.blk hk (g' := gb279) (o := .cells #[.int .i64 0, .slice none 0 0] 26 (0, 0)) (Zb BK279) NB279_280.out (by simp)); have HO284 := Zm (Kd.R_lower ho0 (below_size (by repeat (first | (with_reducible first | exact HB.out | apply below_alloc | apply pw_below_drewN | apply below_drew1 | refine below_set ?_ (IsS48.ge HI280.out) | refine below_set ?_ GE279.out) | exact HB.out)))); replace HB := Zm (hb); replace HI280 := Zm (hi); (try clear hb); (try clear hk); (try clear hi); (try clear ho0)) | ((with_reducible refine gate_dst (N := 5) rfl ?_); refine box_event ?hg (N := 5) ?hd (cs := #[.int .i64 0, .slice none 0 0]) (t := 26) ?hr ?_; (case hd => rfl); (case hg => rfl); (case hr => first | (go_simp; done) | (go_simp; rfl)); intro gb287 hg w10 hbox hb; replace HO284 := Zo HO284 hb; have BK287 := Zm (hbox); have GW287 := Zm ((by rw [hg]; exact (below_size (by repeat (first | (with_reducible first | exact HB.out | apply below_alloc | apply pw_below_drewN | apply below_drew1 | refine below_set ?_ (IsS48.ge HI280.out) | refine below_set ?_ GE279.out) | exact HB.out))) : w.heap.size ≤ gb287)); have GE287 := Zm ((by rw [hg]; exact (below_size (by repeat (first | (with_reducible first | exact HB.out | apply below_alloc | apply pw_below_drewN | apply below_drew1 | refine below_set ?_ (IsS48.ge HI280.out) | refine below_set ?_ GE279.out) | exact HB.out))) : w.heap.size ≤ gb287)); replace HB := Zm (below_step (by repeat (first | (with_reducible first | exact HB.out | apply below_alloc | apply pw_below_drewN | apply below_drew1 | refine below_set ?_ (IsS48.ge HI280.out) | refine below_set ?_ GE279.out) | exact HB.out)) hb); have NB279_287 := Zq hg BK279; have NB287_279 := Zp hg BK279; replace BK279 := Zk BK279 hb; have NB280_287 := Zm ((by rw [hg]; exact Nat.ne_of_lt (IsS48.lt (show IsS48 w _ gb280 l0 t285 t286 from by repeat (first | (with_reducible first | exact HI280.out | apply IsS48.alloc | apply IsS48.drewN | apply IsS48.drew | apply IsS48.set_1 | apply IsS48.set_2 | refine IsS48.far ?_ NB280_279.out _) | exact HI280.out))) : gb280 ≠ gb287)); have NB287_280 := Zm ((by rw [hg]; exact Nat.ne_of_gt (IsS48.lt (show IsS48 w _ gb280 l0 t285 t286 from by repeat (first | (with_reducible first | exact HI280.out | apply IsS48.alloc | apply IsS48.drewN | apply IsS48.drew | apply IsS48.set_1 | apply IsS48.set_2 | refine IsS48.far ?_ NB280_279.out _) | exact HI280.out))) : gb287 ≠ gb280)); replace HI280 := Zm (IsS48.below (by repeat (first | (with_reducible first | exact HI280.out | apply IsS48.alloc | apply IsS48.drewN | apply IsS48.drew | apply IsS48.set_1 | apply IsS48.set_2 | refine IsS48.far ?_ NB280_279.out _) | exact HI280.out)) hb); clear hb hbox hg; have hnb11 := NB287_279.out; have hnc11 := NB279_287.out; have hnb12 := NB287_280.out; have hnc12 := NB280_287.out; have hcz13_0 : w10.cell? ⟨gb287, 0, none⟩ = some (.int .i64 0) := (blk_cell BK287.out 0).trans rfl; have hcz13_1 : w10.cell? ⟨gb287, 1, none⟩ = some (.slice none 0 0) := (blk_cell BK287.out 1).trans rfl; have hfz13_0 := blk_frozen BK287.out 0; have hfz13_1 := blk_frozen BK287.out 1; obtain ⟨Ao14, co14, eo14⟩ := Kd.R_slice HO284.out; subst eo14) | ((with_reducible refine gate_callee (f := 28) rfl ?_); refine Ga (some 12) Try.func28 #[.pointer (some ⟨gb280, 0, none⟩), .int .i64 12] (h := ?_); (with_reducible refine (spec_l1Cur_one.calls gb280 l0 t285 t286 12 true t289 t290 w _ ?side1 ?side2 A3.out).mono ?_); (case side1 => repeat (first | (with_reducible first | exact HI280.out | apply IsS48.alloc | apply IsS48.drewN | apply IsS48.drew | apply IsS48.set_1 | apply IsS48.set_2 | refine IsS48.far ?_ NB280_279.out _ | refine IsS48.far ?_ NB280_287.out _) | exact HI280.out)); (case side2 => repeat (first | (with_reducible first | exact HB.out | apply below_alloc | apply pw_below_drewN | apply below_drew1 | refine below_set ?_ (IsS48.ge HI280.out) | refine below_set ?_ GE279.out | refine below_set ?_ GE287.out) | exact HB.out)); rintro e w15 ⟨rfl, hi, hb, hk⟩; refine ⟨_, rfl, ?_⟩; replace BK279 := Zm (KeepBut.blk hk (g' := gb279) (o := .cells #[.int .i64 0, .slice none 0 0] 26 (0, 0)) (by (with_reducible repeat (first | refine blk_drewN ?_ _ | refine blk_drew ?_ | refine blk_alloc ?_ _)); refine blk_far ?_ NB279_287.out _; (with_reducible repeat (first | refine blk_drewN ?_ _ | refine blk_drew ?_ | refine blk_alloc ?_ _)); refine blk_far ?_ NB279_287.out _; (with_reducible repeat (first | refine blk_drewN ?_ _ | refine blk_drew ?_ | refine blk_alloc ?_ _)); exact BK279.out) NB279_280.out (by simp)); replace HO284 := Zm (Kd.R_mono (Kd.R_keep (IsS48.apart (show IsS48 w _ gb280 l0 t285 t286 from by repeat (first | (with_reducible first | exact HI280.out | apply IsS48.alloc | apply IsS48.drewN | apply IsS48.drew | apply IsS48.set_1 | apply IsS48.set_2 | refine IsS48.far ?_ NB280_279.out _ | refine IsS48.far ?_ NB280_287.out _) | exact HI280.out)) (Zy HO284 BK287) (by decide)) hk (fun _ h => h.2)) (fun _ h => h.1)); replace BK287 := Zm (KeepBut.blk hk (g' := gb287) (o := .cells #[.int .i64 t281, .slice Ao14 t282.length co14] 26 (0, 0)) (by (with_reducible repeat (first | refine blk_drewN ?_ _ | refine blk_drew ?_ | refine blk_alloc ?_ _)); refine blk_put (cs := #[.int .i64 t281, .slice none 0 0]) ?_ 1 _ rfl; (with_reducible repeat (first | refine blk_drewN ?_ _ | refine blk_drew ?_ | refine blk_alloc ?_ _)); refine blk_put (cs := #[.int .i64 0, .slice none 0 0]) ?_ 0 _ rfl; (with_reducible repeat (first | refine blk_drewN ?_ _ | refine blk_drew ?_ | refine blk_alloc ?_ _)); exact BK287.out) NB287_280.out (by simp)); replace HB := Zm (hb); replace HI280 := Zm (hi); (try clear hb); (try clear hb2); (try clear hk); (try clear hi)))
  replace HO284 := Zm (Kd.R_drew HO284.out); replace BK279 := Zm (blk_drew BK279.out); replace BK287 := Zm (blk_drew BK287.out); replace HI280 := Zm (IsS48.drew HI280.out); replace HB := Zm (below_drew1 HB.out)
  refine start_ (n := 7) (S := fun w' => w'.cell? ⟨gb287, 0, none⟩ = some (.int .i64 t281) ∧ w'.cell? ⟨gb287, 1, none⟩ = some (.slice Ao14 t282.length co14)) (ds := []) (fl 7 0) (by kernel_rfl) rfl rfl ⟨(blk_cell BK287.out 0).trans rfl, (blk_cell BK287.out 1).trans rfl⟩ (fun hHeld => ?_)
  generalize w15.drew = w16 at HO284 BK279 BK287 HI280 HB hHeld ⊢
  refine pure_ (i := 1) (N := some 14) (v := ?_) (a' := ?_) (fl 7 2) rfl rfl (by kernel_rfl) (fun _ _ _ h => h) (Or.inl ⟨by rfl, ?_⟩) ?_ ?_
  rotate_left
  ·
   intro w'
   go_simp
   with_reducible rfl
  rotate_left
  ·
   simp only [Act.put, List.setIfInBounds_toArray, List.set_cons_zero, List.set_cons_succ, i64_w, i32_w]
   rfl
  refine pure_ (i := 2) (N := some 15) (v := ?_) (a' := ?_) (fl 7 6) rfl rfl (by kernel_rfl) (fun _ _ _ h => h) (Or.inl ⟨by rfl, ?_⟩) ?_ ?_
  rotate_left
  ·
   intro w'
   go_simp
   with_reducible rfl
  rotate_left
  ·
   simp only [Act.put, List.setIfInBounds_toArray, List.set_cons_zero, List.set_cons_succ, i64_w, i32_w]
   rfl
  refine take_ (i := 0) (N := some 13) (v := ?_) (a' := ?_) (fl 7 7) rfl rfl (by kernel_rfl) (fun _ _ _ h => h) (Or.inl ⟨by rfl, ?_⟩) hHeld ?_ ?_
  rotate_left
  ·
   rintro w' ⟨s0, s1⟩
   go_simp
   with_reducible rfl
  rotate_left
  ·
   simp only [Act.put, List.setIfInBounds_toArray, List.set_cons_zero, List.set_cons_succ, i64_w, i32_w]
   rfl
  refine one_ (i := 3) (N := some 16) (fl 7 15) rfl rfl (by kernel_rfl) (by decide) (fun K hK => ?_)
  refine goes_ Try.func30 (by kernel_rfl) rfl #[.pointer (some ⟨gb280, 0, none⟩), .int .i64 5] (by rfl) rfl rfl (by (try simp only [List.map_toArray, List.map_cons, List.map_nil]); first | done | rfl) ?_
  with_reducible refine (spec_l1Cur_pick.calls gb280 l0 t289 t290 5 t291 t292 t293 w _ ?side1 ?side2 A5.out).mono ?_
  (case side1 => repeat (first | (with_reducible first | exact HI280.out | apply IsS48.alloc | apply IsS48.drewN | apply IsS48.drew | apply IsS48.set_1 | apply IsS48.set_2 | refine IsS48.far ?_ NB280_279.out _ | refine IsS48.far ?_ NB280_287.out _) | exact HI280.out))
  (case side2 => repeat (first | (with_reducible first | exact HB.out | apply below_alloc | apply pw_below_drewN | apply below_drew1 | refine below_set ?_ (IsS48.ge HI280.out) | refine below_set ?_ GE279.out | refine below_set ?_ GE287.out) | exact HB.out))
  rintro e w17 ⟨rfl, hi, hb, hk⟩
  refine ⟨_, rfl, ?_⟩
  replace BK279 := Zm (KeepBut.blk hk (g' := gb279) (o := .cells #[.int .i64 0, .slice none 0 0] 26 (0, 0)) (Zb BK279) NB279_280.out (by simp)); replace HO284 := Zm (Kd.R_mono (Kd.R_keep (IsS48.apart (show IsS48 w _ gb280 l0 t289 t290 from by repeat (first | (with_reducible first | exact HI280.out | apply IsS48.alloc | apply IsS48.drewN | apply IsS48.drew | apply IsS48.set_1 | apply IsS48.set_2 | refine IsS48.far ?_ NB280_279.out _ | refine IsS48.far ?_ NB280_287.out _) | exact HI280.out)) (Zr HO284) (by decide)) hk (fun _ h => h.2)) (fun _ h => h.1)); replace BK287 := Zm (KeepBut.blk hk (g' := gb287) (o := .cells #[.int .i64 t281, .slice Ao14 t282.length co14] 26 (0, 0)) (Zb BK287) NB287_280.out (by simp)); replace HB := Zm (hb); replace HI280 := Zm (hi)
  (try clear hb); (try clear hb2); (try clear hk); (try clear hi)
  refine hK.out _ _ ⟨(blk_cell BK287.out 0).trans rfl, (blk_cell BK287.out 1).trans rfl⟩ (fun hHeld => ?_)
  clear hK K; refine Yn 16 (h := ?_)
  refine one_ (i := 4) (N := some 17) (fl 7 31) rfl rfl (by kernel_rfl) (by decide) (fun K hK => ?_)
  refine goes_ Try.func29 (by kernel_rfl) rfl #[.pointer (some ⟨gb280, 0, none⟩), .int .i64 t291] (by rfl) rfl rfl (by (try simp only [List.map_toArray, List.map_cons, List.map_nil]); first | done | rfl) ?_
  with_reducible refine (spec_l1Cur_values.calls k gb280 l0 t292 t293 t291 t294 t297 t298 w _ ?side1 ?side2 A6.out).mono ?_
  (case side1 => repeat (first | (with_reducible first | exact HI280.out | apply IsS48.alloc | apply IsS48.drewN | apply IsS48.drew | apply IsS48.set_1 | apply IsS48.set_2 | refine IsS48.far ?_ NB280_279.out _ | refine IsS48.far ?_ NB280_287.out _) | exact HI280.out))
  (case side2 => repeat (first | (with_reducible first | exact HB.out | apply below_alloc | apply pw_below_drewN | apply below_drew1 | refine below_set ?_ (IsS48.ge HI280.out) | refine below_set ?_ GE279.out | refine below_set ?_ GE287.out) | exact HB.out))
  rintro e w18 ⟨v295, rfl, ho0, hi, hb, hk⟩
  refine ⟨_, rfl, ?_⟩
  replace BK279 := Zm (KeepBut.blk hk (g' := gb279) (o := .cells #[.int .i64 0, .slice none 0 0] 26 (0, 0)) (Zb BK279) NB279_280.out (by simp)); replace BK287 := Zm (KeepBut.blk hk (g' := gb287) (o := .cells #[.int .i64 t281, .slice Ao14 t282.length co14] 26 (0, 0)) (Zb BK287) NB287_280.out (by simp)); have HO296 := Zm (Kd.R_lower (Zv ho0 HO284) (below_size (by repeat (first | (with_reducible first | exact HB.out | apply below_alloc | apply pw_below_drewN | apply below_drew1 | refine below_set ?_ (IsS48.ge HI280.out) | refine below_set ?_ GE279.out | refine below_set ?_ GE287.out) | exact HB.out)))); replace HO284 := Zm (Kd.R_mono (Kd.R_told (Kd.R_oldK (IsS48.apart (show IsS48 w _ gb280 l0 t292 t293 from by repeat (first | (with_reducible first | exact HI280.out | apply IsS48.alloc | apply IsS48.drewN | apply IsS48.drew | apply IsS48.set_1 | apply IsS48.set_2 | refine IsS48.far ?_ NB280_279.out _ | refine IsS48.far ?_ NB280_287.out _) | exact HI280.out)) (Zr HO284) (by decide)) hk) (Kd.R_base ho0)) (fun _ h_ => h_.1)); replace HB := Zm (hb); replace HI280 := Zm (hi)
  (try clear hb); (try clear hb2); (try clear hk); (try clear hi); (try clear ho0)
  refine hK.out _ _ ⟨(blk_cell BK287.out 0).trans rfl, (blk_cell BK287.out 1).trans rfl⟩ (fun hHeld => ?_)
  clear hK K; refine Yn 17 (h := ?_)
  refine one_ (i := 5) (N := none) (fl 7 63) rfl rfl (by kernel_rfl) (by decide) (fun K hK => ?_)
  have hs19 : w18.cell? ⟨gb279, 0, none⟩ = some (.int .i64 0) := (blk_cell BK279.out 0).trans rfl; have hfs19 := blk_frozen BK279.out 0; have hns19_1 := NB287_279.out; have hms19_1 := NB279_287.out; have hs20 : w18.cell? ⟨gb279, 1, none⟩ = some (.slice none 0 0) := (blk_cell BK279.out 1).trans rfl; have hfs20 := blk_frozen BK279.out 1; have hns20_1 := NB287_279.out; have hms20_1 := NB279_287.out
  refine skip_ (w1 := ?_) (by rfl) rfl ?_ ?_
  rotate_left
  ·
   go_simp
   rfl
  refine hK.out _ _ ⟨((cell_far (p := ⟨gb279, _, none⟩) NB287_279.out _).trans (((cell_far (p := ⟨gb279, _, none⟩) NB287_279.out _).trans (hHeld.1)))), ((cell_far (p := ⟨gb279, _, none⟩) NB287_279.out _).trans (((cell_far (p := ⟨gb279, _, none⟩) NB287_279.out _).trans (hHeld.2))))⟩ (fun hHeld => ?_)
  clear hK K
  refine pure_ (i := 6) (N := some 3) (v := ?_) (a' := ?_) (fl 7 127) rfl rfl (by kernel_rfl) (fun _ _ _ h => h) (Or.inl ⟨by rfl, ?_⟩) ?_ ?_
  rotate_left
  ·
   intro w'
   go_simp
   with_reducible rfl
  rotate_left
  ·
   simp only [Act.put, List.setIfInBounds_toArray, List.set_cons_zero, List.set_cons_succ, i64_w, i32_w]
   rfl
  refine done_ (by kernel_rfl) ?_
  try go_wp2
  refine bodyPost_ret (results_ct rfl _ _ gb279 26 #[.int .i64 t281, .slice Ao14 t282.length co14] (0, 0) _ rfl (by (with_reducible repeat (first | refine blk_drewN ?_ _ | refine blk_drew ?_ | refine blk_alloc ?_ _)); refine blk_put (cs := #[.int .i64 t281, .slice none 0 0]) ?_ 1 _ rfl; (with_reducible repeat (first | refine blk_drewN ?_ _ | refine blk_drew ?_ | refine blk_alloc ?_ _)); refine blk_put (cs := #[.int .i64 0, .slice none 0 0]) ?_ 0 _ rfl; (with_reducible repeat (first | refine blk_drewN ?_ _ | refine blk_drew ?_ | refine blk_alloc ?_ _)); exact BK279.out) Try.underlying26 rfl (by kernel_rfl)) rfl ?_
  exact ⟨_, _, by first | rfl | (simp [errW_none, errW_some] <;> rfl) | (simp [*, errW_none, errW_some] <;> rfl), by (with_reducible repeat (first | apply Kd.R_alloc | apply Kd.R_drewN | apply Kd.R_drew)); exact Kd.R_mono (Kd.R_far (p := ⟨gb279, 1, none⟩) (Kd.R_far (p := ⟨gb279, 0, none⟩) (Kd.R_types HO284.out BK279.out (by decide)) (fun _ hk => hk.2) (.int .i64 t281)) (fun _ hk => hk.2) (.slice Ao14 t282.length co14)) (fun _ hk => hk.1.2), by (with_reducible repeat (first | apply Kd.R_alloc | apply Kd.R_drewN | apply Kd.R_drew)); exact Kd.R_mono (Kd.R_far (p := ⟨gb279, 1, none⟩) (Kd.R_far (p := ⟨gb279, 0, none⟩) (Kd.R_types HO296.out BK279.out (by decide)) (fun _ hk => hk.2) (.int .i64 t281)) (fun _ hk => hk.2) (.slice Ao14 t282.length co14)) (fun _ hk => hk.1.2), by repeat (first | (with_reducible first | exact HB.out | apply below_alloc | apply pw_below_drewN | apply below_drew1 | refine below_set ?_ (IsS48.ge HI280.out) | refine below_set ?_ GE279.out | refine below_set ?_ GE287.out) | exact HB.out)⟩
 ·
  replace c4 := Bool.eq_false_iff.mpr c4
  subst c4
  rw [if_neg Bool.false_ne_true] at H
  replace H := Option.bind_eq_some_iff.mp H; obtain ⟨⟨t299, t302, t303⟩, A210, H⟩ := H; replace H : (some (t281, t282, t299)) = some (r1, r2, r3) := H; have A21 := Aside0.mk A210; clear A210
  simp only [Option.some.injEq, Prod.mk.injEq] at H
  obtain ⟨rfl, rfl, rfl⟩ := H
  go_enter Try.func5, Try.ntmps5
  try go_wp2_with (first | ((with_reducible refine gate_dst (N := 2) rfl ?_); refine box_event ?hg (N := 2) ?hd (cs := #[.int .i64 0, .slice none 0 0]) (t := 26) ?hr ?_; (case hd => rfl); (case hg => rfl); (case hr => first | (go_simp; done) | (go_simp; rfl)); intro gb279 hg w22 hbox hb; have BK279 := Zm (hbox); have GW279 := Zx hg HB; have GE279 := Zx hg HB; replace HB := Zh HB hb; clear hb hbox hg) | ((with_reducible refine gate_dst (N := 8) rfl ?_); refine box_event ?hg (N := 8) ?hd (cs := #[.slice A0 l0.length c0, .int .i64 0, .int .u64 0]) (t := 48) ?hr ?_; (case hd => rfl); (case hg => rfl); (case hr => first | (go_simp; done) | (go_simp; rfl)); intro gb280 hg w23 hbox hb; have HI280 := Zm ((show IsS48 w w23 gb280 l0 0 0 from ⟨_, _, hbox, (by rw [hg]; exact (below_size (Zl HB))), HR0.out⟩)); have GW280 := Zx hg HB; have GE280 := Zx hg HB; replace HB := Zh HB hb; have NB279_280 := Zq hg BK279; have NB280_279 := Zp hg BK279; replace BK279 := Zk BK279 hb; clear hb hbox hg) | ((with_reducible refine gate_callee (f := 27) rfl ?_); refine Ga (some 10) Try.func27 #[.pointer (some ⟨gb280, 0, none⟩)] (h := ?_); (with_reducible refine (spec_l1Cur_sorter.calls k gb280 l0 0 0 t281 t282 t285 t286 w _ ?side1 ?side2 A2.out).mono ?_); (case side1 => repeat (first | (with_reducible first | exact HI280.out | apply IsS48.alloc | apply IsS48.drewN | apply IsS48.drew | apply IsS48.set_1 | apply IsS48.set_2 | refine IsS48.far ?_ NB280_279.out _) | exact HI280.out)); (case side2 => repeat (first | (with_reducible first | exact HB.out | apply below_alloc | apply pw_below_drewN | apply below_drew1 | refine below_set ?_ (IsS48.ge HI280.out) | refine below_set ?_ GE279.out) | exact HB.out)); rintro e w24 ⟨v283, rfl, ho0, hi, hb, hk⟩; refine ⟨_, rfl, ?_⟩; replace BK279 := Zm (KeepBut.blk hk (g' := gb279) (o := .cells #[.int .i64 0, .slice none 0 0] 26 (0, 0)) (Zb BK279) NB279_280.out (by simp)); have HO284 := Zm (Kd.R_lower ho0 (below_size (by repeat (first | (with_reducible first | exact HB.out | apply below_alloc | apply pw_below_drewN | apply below_drew1 | refine below_set ?_ (IsS48.ge HI280.out) | refine below_set ?_ GE279.out) | exact HB.out)))); replace HB := Zm (hb); replace HI280 := Zm (hi); (try clear hb); (try clear hk); (try clear hi); (try clear ho0)) | ((with_reducible refine gate_dst (N := 5) rfl ?_); refine box_event ?hg (N := 5) ?hd (cs := #[.int .i64 0, .slice none 0 0]) (t := 26) ?hr ?_; (case hd => rfl); (case hg => rfl); (case hr => first | (go_simp; done) | (go_simp; rfl)); intro gb287 hg w25 hbox hb; replace HO284 := Zo HO284 hb; have BK287 := Zm (hbox); have GW287 := Zm ((by rw [hg]; exact (below_size (by repeat (first | (with_reducible first | exact HB.out | apply below_alloc | apply pw_below_drewN | apply below_drew1 | refine below_set ?_ (IsS48.ge HI280.out) | refine below_set ?_ GE279.out) | exact HB.out))) : w.heap.size ≤ gb287)); have GE287 := Zm ((by rw [hg]; exact (below_size (by repeat (first | (with_reducible first | exact HB.out | apply below_alloc | apply pw_below_drewN | apply below_drew1 | refine below_set ?_ (IsS48.ge HI280.out) | refine below_set ?_ GE279.out) | exact HB.out))) : w.heap.size ≤ gb287)); replace HB := Zm (below_step (by repeat (first | (with_reducible first | exact HB.out | apply below_alloc | apply pw_below_drewN | apply below_drew1 | refine below_set ?_ (IsS48.ge HI280.out) | refine below_set ?_ GE279.out) | exact HB.out)) hb); have NB279_287 := Zq hg BK279; have NB287_279 := Zp hg BK279; replace BK279 := Zk BK279 hb; have NB280_287 := Zm ((by rw [hg]; exact Nat.ne_of_lt (IsS48.lt (show IsS48 w _ gb280 l0 t285 t286 from by repeat (first | (with_reducible first | exact HI280.out | apply IsS48.alloc | apply IsS48.drewN | apply IsS48.drew | apply IsS48.set_1 | apply IsS48.set_2 | refine IsS48.far ?_ NB280_279.out _) | exact HI280.out))) : gb280 ≠ gb287)); have NB287_280 := Zm ((by rw [hg]; exact Nat.ne_of_gt (IsS48.lt (show IsS48 w _ gb280 l0 t285 t286 from by repeat (first | (with_reducible first | exact HI280.out | apply IsS48.alloc | apply IsS48.drewN | apply IsS48.drew | apply IsS48.set_1 | apply IsS48.set_2 | refine IsS48.far ?_ NB280_279.out _) | exact HI280.out))) : gb287 ≠ gb280)); replace HI280 := Zm (IsS48.below (by repeat (first | (with_reducible first | exact HI280.out | apply IsS48.alloc | apply IsS48.drewN | apply IsS48.drew | apply IsS48.set_1 | apply IsS48.set_2 | refine IsS48.far ?_ NB280_279.out _) | exact HI280.out)) hb); clear hb hbox hg; have hnb26 := NB287_279.out; have hnc26 := NB279_287.out; have hnb27 := NB287_280.out; have hnc27 := NB280_287.out; have hcz28_0 : w25.cell? ⟨gb287, 0, none⟩ = some (.int .i64 0) := (blk_cell BK287.out 0).trans rfl; have hcz28_1 : w25.cell? ⟨gb287, 1, none⟩ = some (.slice none 0 0) := (blk_cell BK287.out 1).trans rfl; have hfz28_0 := blk_frozen BK287.out 0; have hfz28_1 := blk_frozen BK287.out 1; obtain ⟨Ao29, co29, eo29⟩ := Kd.R_slice HO284.out; subst eo29) | ((with_reducible refine gate_callee (f := 28) rfl ?_); refine Ga (some 12) Try.func28 #[.pointer (some ⟨gb280, 0, none⟩), .int .i64 12] (h := ?_); (with_reducible refine (spec_l1Cur_one.calls gb280 l0 t285 t286 12 false t289 t290 w _ ?side1 ?side2 A3.out).mono ?_); (case side1 => repeat (first | (with_reducible first | exact HI280.out | apply IsS48.alloc | apply IsS48.drewN | apply IsS48.drew | apply IsS48.set_1 | apply IsS48.set_2 | refine IsS48.far ?_ NB280_279.out _ | refine IsS48.far ?_ NB280_287.out _) | exact HI280.out)); (case side2 => repeat (first | (with_reducible first | exact HB.out | apply below_alloc | apply pw_below_drewN | apply below_drew1 | refine below_set ?_ (IsS48.ge HI280.out) | refine below_set ?_ GE279.out | refine below_set ?_ GE287.out) | exact HB.out)); rintro e w30 ⟨rfl, hi, hb, hk⟩; refine ⟨_, rfl, ?_⟩; replace BK279 := Zm (KeepBut.blk hk (g' := gb279) (o := .cells #[.int .i64 0, .slice none 0 0] 26 (0, 0)) (by (with_reducible repeat (first | refine blk_drewN ?_ _ | refine blk_drew ?_ | refine blk_alloc ?_ _)); refine blk_far ?_ NB279_287.out _; (with_reducible repeat (first | refine blk_drewN ?_ _ | refine blk_drew ?_ | refine blk_alloc ?_ _)); refine blk_far ?_ NB279_287.out _; (with_reducible repeat (first | refine blk_drewN ?_ _ | refine blk_drew ?_ | refine blk_alloc ?_ _)); exact BK279.out) NB279_280.out (by simp)); replace HO284 := Zm (Kd.R_mono (Kd.R_keep (IsS48.apart (show IsS48 w _ gb280 l0 t285 t286 from by repeat (first | (with_reducible first | exact HI280.out | apply IsS48.alloc | apply IsS48.drewN | apply IsS48.drew | apply IsS48.set_1 | apply IsS48.set_2 | refine IsS48.far ?_ NB280_279.out _ | refine IsS48.far ?_ NB280_287.out _) | exact HI280.out)) (Zy HO284 BK287) (by decide)) hk (fun _ h => h.2)) (fun _ h => h.1)); replace BK287 := Zm (KeepBut.blk hk (g' := gb287) (o := .cells #[.int .i64 t281, .slice Ao29 t282.length co29] 26 (0, 0)) (by (with_reducible repeat (first | refine blk_drewN ?_ _ | refine blk_drew ?_ | refine blk_alloc ?_ _)); refine blk_put (cs := #[.int .i64 t281, .slice none 0 0]) ?_ 1 _ rfl; (with_reducible repeat (first | refine blk_drewN ?_ _ | refine blk_drew ?_ | refine blk_alloc ?_ _)); refine blk_put (cs := #[.int .i64 0, .slice none 0 0]) ?_ 0 _ rfl; (with_reducible repeat (first | refine blk_drewN ?_ _ | refine blk_drew ?_ | refine blk_alloc ?_ _)); exact BK287.out) NB287_280.out (by simp)); replace HB := Zm (hb); replace HI280 := Zm (hi); (try clear hb); (try clear hb2); (try clear hk); (try clear hi)))
  replace HO284 := Zm (Kd.R_drew HO284.out); replace BK279 := Zm (blk_drew BK279.out); replace BK287 := Zm (blk_drew BK287.out); replace HI280 := Zm (IsS48.drew HI280.out); replace HB := Zm (below_drew1 HB.out)
  refine start_ (n := 7) (S := fun w' => w'.cell? ⟨gb287, 0, none⟩ = some (.int .i64 t281) ∧ w'.cell? ⟨gb287, 1, none⟩ = some (.slice Ao29 t282.length co29)) (ds := []) (fl 7 0) (by kernel_rfl) rfl rfl ⟨(blk_cell BK287.out 0).trans rfl, (blk_cell BK287.out 1).trans rfl⟩ (fun hHeld => ?_)
  generalize w30.drew = w31 at HO284 BK279 BK287 HI280 HB hHeld ⊢
  refine pure_ (i := 1) (N := some 19) (v := ?_) (a' := ?_) (fl 7 2) rfl rfl (by kernel_rfl) (fun _ _ _ h => h) (Or.inl ⟨by rfl, ?_⟩) ?_ ?_
  rotate_left
  ·
   intro w'
   go_simp
   with_reducible rfl
  rotate_left
  ·
   simp only [Act.put, List.setIfInBounds_toArray, List.set_cons_zero, List.set_cons_succ, i64_w, i32_w]
   rfl
  refine pure_ (i := 2) (N := some 20) (v := ?_) (a' := ?_) (fl 7 6) rfl rfl (by kernel_rfl) (fun _ _ _ h => h) (Or.inl ⟨by rfl, ?_⟩) ?_ ?_
  rotate_left
  ·
   intro w'
   go_simp
   with_reducible rfl
  rotate_left
  ·
   simp only [Act.put, List.setIfInBounds_toArray, List.set_cons_zero, List.set_cons_succ, i64_w, i32_w]
   rfl
  refine take_ (i := 0) (N := some 18) (v := ?_) (a' := ?_) (fl 7 7) rfl rfl (by kernel_rfl) (fun _ _ _ h => h) (Or.inl ⟨by rfl, ?_⟩) hHeld ?_ ?_
  rotate_left
  ·
   rintro w' ⟨s0, s1⟩
   go_simp
   with_reducible rfl
  rotate_left
  ·
   simp only [Act.put, List.setIfInBounds_toArray, List.set_cons_zero, List.set_cons_succ, i64_w, i32_w]
   rfl
  refine take_ (i := 3) (N := some 21) (v := ?_) (a' := ?_) (fl 7 15) rfl rfl (by kernel_rfl) (fun _ _ _ h => h) (Or.inl ⟨by rfl, ?_⟩) hHeld ?_ ?_
  rotate_left
  ·
   rintro w' ⟨s0, s1⟩
   go_simp
   with_reducible rfl
  rotate_left
  ·
   simp only [Act.put, List.setIfInBounds_toArray, List.set_cons_zero, List.set_cons_succ, i64_w, i32_w]
   rfl
  refine one_ (i := 4) (N := some 22) (fl 7 31) rfl rfl (by kernel_rfl) (by decide) (fun K hK => ?_)
  refine goes_ Try.func29 (by kernel_rfl) rfl #[.pointer (some ⟨gb280, 0, none⟩), .int .i64 t281] (by rfl) rfl rfl (by (try simp only [List.map_toArray, List.map_cons, List.map_nil]); first | done | rfl) ?_
  with_reducible refine (spec_l1Cur_values.calls k gb280 l0 t289 t290 t281 t299 t302 t303 w _ ?side1 ?side2 A21.out).mono ?_
  (case side1 => repeat (first | (with_reducible first | exact HI280.out | apply IsS48.alloc | apply IsS48.drewN | apply IsS48.drew | apply IsS48.set_1 | apply IsS48.set_2 | refine IsS48.far ?_ NB280_279.out _ | refine IsS48.far ?_ NB280_287.out _) | exact HI280.out))
  (case side2 => repeat (first | (with_reducible first | exact HB.out | apply below_alloc | apply pw_below_drewN | apply below_drew1 | refine below_set ?_ (IsS48.ge HI280.out) | refine below_set ?_ GE279.out | refine below_set ?_ GE287.out) | exact HB.out))
  rintro e w32 ⟨v300, rfl, ho0, hi, hb, hk⟩
  refine ⟨_, rfl, ?_⟩
  replace BK279 := Zm (KeepBut.blk hk (g' := gb279) (o := .cells #[.int .i64 0, .slice none 0 0] 26 (0, 0)) (Zb BK279) NB279_280.out (by simp)); replace BK287 := Zm (KeepBut.blk hk (g' := gb287) (o := .cells #[.int .i64 t281, .slice Ao29 t282.length co29] 26 (0, 0)) (Zb BK287) NB287_280.out (by simp)); have HO301 := Zm (Kd.R_lower (Zv ho0 HO284) (below_size (by repeat (first | (with_reducible first | exact HB.out | apply below_alloc | apply pw_below_drewN | apply below_drew1 | refine below_set ?_ (IsS48.ge HI280.out) | refine below_set ?_ GE279.out | refine below_set ?_ GE287.out) | exact HB.out)))); replace HO284 := Zm (Kd.R_mono (Kd.R_told (Kd.R_oldK (IsS48.apart (show IsS48 w _ gb280 l0 t289 t290 from by repeat (first | (with_reducible first | exact HI280.out | apply IsS48.alloc | apply IsS48.drewN | apply IsS48.drew | apply IsS48.set_1 | apply IsS48.set_2 | refine IsS48.far ?_ NB280_279.out _ | refine IsS48.far ?_ NB280_287.out _) | exact HI280.out)) (Zr HO284) (by decide)) hk) (Kd.R_base ho0)) (fun _ h_ => h_.1)); replace HB := Zm (hb); replace HI280 := Zm (hi)
  (try clear hb); (try clear hb2); (try clear hk); (try clear hi); (try clear ho0)
  refine hK.out _ _ ⟨(blk_cell BK287.out 0).trans rfl, (blk_cell BK287.out 1).trans rfl⟩ (fun hHeld => ?_)
  clear hK K; refine Yn 22 (h := ?_)
  refine one_ (i := 5) (N := none) (fl 7 63) rfl rfl (by kernel_rfl) (by decide) (fun K hK => ?_)
  have hs33 : w32.cell? ⟨gb279, 0, none⟩ = some (.int .i64 0) := (blk_cell BK279.out 0).trans rfl; have hfs33 := blk_frozen BK279.out 0; have hns33_1 := NB287_279.out; have hms33_1 := NB279_287.out; have hs34 : w32.cell? ⟨gb279, 1, none⟩ = some (.slice none 0 0) := (blk_cell BK279.out 1).trans rfl; have hfs34 := blk_frozen BK279.out 1; have hns34_1 := NB287_279.out; have hms34_1 := NB279_287.out
  refine skip_ (w1 := ?_) (by rfl) rfl ?_ ?_
  rotate_left
  ·
   go_simp
   rfl
  refine hK.out _ _ ⟨((cell_far (p := ⟨gb279, _, none⟩) NB287_279.out _).trans (((cell_far (p := ⟨gb279, _, none⟩) NB287_279.out _).trans (hHeld.1)))), ((cell_far (p := ⟨gb279, _, none⟩) NB287_279.out _).trans (((cell_far (p := ⟨gb279, _, none⟩) NB287_279.out _).trans (hHeld.2))))⟩ (fun hHeld => ?_)
  clear hK K
  refine pure_ (i := 6) (N := some 3) (v := ?_) (a' := ?_) (fl 7 127) rfl rfl (by kernel_rfl) (fun _ _ _ h => h) (Or.inl ⟨by rfl, ?_⟩) ?_ ?_
  rotate_left
  ·
   intro w'
   go_simp
   with_reducible rfl
  rotate_left
  ·
   simp only [Act.put, List.setIfInBounds_toArray, List.set_cons_zero, List.set_cons_succ, i64_w, i32_w]
   rfl
  refine done_ (by kernel_rfl) ?_
  try go_wp2
  refine bodyPost_ret (results_ct rfl _ _ gb279 26 #[.int .i64 t281, .slice Ao29 t282.length co29] (0, 0) _ rfl (by (with_reducible repeat (first | refine blk_drewN ?_ _ | refine blk_drew ?_ | refine blk_alloc ?_ _)); refine blk_put (cs := #[.int .i64 t281, .slice none 0 0]) ?_ 1 _ rfl; (with_reducible repeat (first | refine blk_drewN ?_ _ | refine blk_drew ?_ | refine blk_alloc ?_ _)); refine blk_put (cs := #[.int .i64 0, .slice none 0 0]) ?_ 0 _ rfl; (with_reducible repeat (first | refine blk_drewN ?_ _ | refine blk_drew ?_ | refine blk_alloc ?_ _)); exact BK279.out) Try.underlying26 rfl (by kernel_rfl)) rfl ?_
  exact ⟨_, _, by first | rfl | (simp [errW_none, errW_some] <;> rfl) | (simp [*, errW_none, errW_some] <;> rfl), by (with_reducible repeat (first | apply Kd.R_alloc | apply Kd.R_drewN | apply Kd.R_drew)); exact Kd.R_mono (Kd.R_far (p := ⟨gb279, 1, none⟩) (Kd.R_far (p := ⟨gb279, 0, none⟩) (Kd.R_types HO284.out BK279.out (by decide)) (fun _ hk => hk.2) (.int .i64 t281)) (fun _ hk => hk.2) (.slice Ao29 t282.length co29)) (fun _ hk => hk.1.2), by (with_reducible repeat (first | apply Kd.R_alloc | apply Kd.R_drewN | apply Kd.R_drew)); exact Kd.R_mono (Kd.R_far (p := ⟨gb279, 1, none⟩) (Kd.R_far (p := ⟨gb279, 0, none⟩) (Kd.R_types HO301.out BK279.out (by decide)) (fun _ hk => hk.2) (.int .i64 t281)) (fun _ hk => hk.2) (.slice Ao29 t282.length co29)) (fun _ hk => hk.1.2), by repeat (first | (with_reducible first | exact HB.out | apply below_alloc | apply pw_below_drewN | apply below_drew1 | refine below_set ?_ (IsS48.ge HI280.out) | refine below_set ?_ GE279.out | refine below_set ?_ GE287.out) | exact HB.out)⟩

/-! ### impl_between: function 48 -/
def impl_between.f (a0 : Int) (a1 : Int) (a2 : Int) : Option (Bool) := if a0 ≥ a1 then (some (decide (a0 ≤ a2))) else (some false)
set_option maxHeartbeats 8000000 in
set_option maxRecDepth 100000 in
theorem impl_between.calls (a0 : Int) (a1 : Int) (a2 : Int) (r : Bool) (w : World) (h : impl_between.f a0 a1 a2 = some r) :
  Calls Try.prog 48 #[.int .i64 a0, .int .i64 a1, .int .i64 a2] w fun e w' => e = .returned (.bool r) ∧ Drawn0 w w' := by
 have H : (if a0 ≥ a1 then (some (decide (a0 ≤ a2))) else (some false)) = some r := h; clear h
 by_cases c4 : a0 ≥ a1
 ·
  rw [if_pos c4] at H; have c4b0 : decide (a1 ≤ a0) = true := decide_eq_true c4; clear c4; obtain rfl := Option.some.inj H
  go_enter Try.func48, Try.ntmps48
  go_wp2
  go_ret
  exact ⟨by first | rfl | (simp; done) | (simp [*]; done), by repeat (first | exact Drawn0.refl _ | apply Drawn0.step)⟩
 ·
  rw [if_neg c4] at H; have c4b0 : decide (a1 ≤ a0) = false := decide_eq_false c4; clear c4; obtain rfl := Option.some.inj H
  go_enter Try.func48, Try.ntmps48
  go_wp2
  go_ret
  exact ⟨by first | rfl | (simp; done) | (simp [*]; done), by repeat (first | exact Drawn0.refl _ | apply Drawn0.step)⟩

/-! ### slices_ContainsFunc_int_int: function 60 -/
-- GIVEN slices_ContainsFunc_int_int
/-- What is asked of a function value: a bool of whole numbers; it may draw. -/
def AsksInt (g : Nat) (lb : Array Value) (p : Int → Bool) (w : World) : Prop :=
  ∀ (x : Int) (q : Nat), Calls Try.prog g (#[.int .i64 x] ++ lb) (w.drewN q) fun e w' => e = .returned (.bool (p x)) ∧ Drawn0 (w.drewN q) w'
/-- x is not from 0 to m. -/
def offRange (m x : Int) : Bool := !decide (0 ≤ x ∧ x ≤ m)
set_option maxHeartbeats 4000000 in
set_option maxRecDepth 100000 in
theorem slices_IndexFunc_int.calls (g : Nat) (lb : Array Value) (p : Int → Bool) (A0 : Option Addr) (c0 : Nat) (l0 : List Int) (w : World) (hr0 : Kd.C (Kd.int .i64) w A0 l0.length l0) (hc0 : l0.length ≤ c0)
    (eg : ∀ args w, (callFunc g args).run Try.prog w = .ok (.enter g args) w) (hp : AsksInt g lb p w) :
    Calls Try.prog 72 #[.slice A0 l0.length c0, .func (.func g) #[] lb] w fun e w' => (∃ r : Int, e = .returned (.int .i64 r) ∧ decide (0 ≤ r) = l0.any p) ∧ Drawn0 w w' := by
  have HR0 := Aside0.mk hr0
  have HC0 := Aside0.mk hc0
  have hbig : l0.length ≤ 9223372036854775807 := hr0.2.1
  have HP := Aside0.mk hp
  clear hr0 hc0 hp
  go_enter Try.func72, Try.ntmps72
  go_wp2
  go_loopg [5, 8] l0.length (fun gg _ s8 wr => ∃ kk : Nat, ∃ q : Nat, kk ≤ l0.length ∧ l0.length - kk ≤ gg ∧ s8 = .int .i64 kk ∧ wr = w.drewN q ∧ Aside0 ((l0.take kk).any p = false))
  case atStart => exact ⟨0, 0, Nat.zero_le _, by omega, rfl, rfl, ⟨by simp⟩⟩
  case round =>
    obtain ⟨kk, q, hkk, hg, rfl, rfl, A⟩ := hrel
    by_cases hlt : kk < l0.length
    · have hltz : (kk : Int) < (l0.length : Int) := by omega
      have h0k : (0 : Int) ≤ (kk : Int) := by omega
      obtain ⟨ad, ead, hx⟩ := Kd.at_int HR0.out (kk : Int) h0k hltz
      cases ead
      have hx' : w.cell? (ad.add kk) = some (.int .i64 l0[kk]) := by
        have e1 : ((kk : Int)).toNat = kk := by omega
        have e2 : rd l0 (kk : Int) = l0[kk] := by unfold rd; rw [e1, List.getD_eq_getElem?_getD, List.getElem?_eq_getElem hlt]; rfl
        rw [e1, e2] at hx
        exact hx
      clear hx
      have HT := Aside0.mk (show l0.take (kk + 1) = l0.take kk ++ [l0[kk]] from by rw [List.take_succ_eq_append_getElem hlt])
      generalize hy : l0[kk] = y at hx' HT
      have HY := Aside0.mk hy
      clear hy
      cases hq : p y with
      | true =>
        have hcall := HP.out y
        rw [hq] at hcall
        have HQ := Aside0.mk hq
        clear hq
        go_wp2_with (go_at_fn g; refine (hcall _).mono ?_; rintro e w' ⟨rfl, hd'⟩; obtain ⟨q', rfl⟩ := hd'.out; clear hd')
        go_ret
        refine ⟨⟨_, rfl, ?_⟩, ?_⟩
        · have : l0.any p = true := by
            rw [List.any_eq_true]
            exact ⟨y, by rw [← HY.out]; exact List.getElem_mem _, HQ.out⟩
          rw [this]
          exact decide_eq_true (by omega)
        · exact ⟨_, by first | rfl | exact World.drewN_drewN _ _ _⟩
      | false =>
        have hcall := HP.out y
        rw [hq] at hcall
        have HQ := Aside0.mk hq
        clear hq
        go_wp2_with (go_at_fn g; refine (hcall _).mono ?_; rintro e w' ⟨rfl, hd'⟩; obtain ⟨q', rfl⟩ := hd'.out; clear hd')
        go_roundg (l0.length - (kk + 1))
        case measure => omega
        case rel =>
          refine ⟨kk + 1, _, by omega, by omega, by go_num, by first | rfl | exact World.drewN_drewN _ _ _, ⟨?_⟩⟩
          rw [HT.out, List.any_append, A.out]
          simp [HQ.out]
    · have hltz : ¬ (kk : Int) < (l0.length : Int) := by omega
      have hk : kk = l0.length := by omega
      have HA := Aside0.mk (show l0.any p = false from by have := A.out; rw [hk, List.take_length] at this; exact this)
      clear A
      clear hk
      go_wp2
      go_ret
      refine ⟨⟨_, rfl, ?_⟩, ⟨q, rfl⟩⟩
      rw [HA.out]
      rfl
set_option maxHeartbeats 4000000 in
set_option maxRecDepth 100000 in
theorem slices_ContainsFunc_int.calls (g : Nat) (lb : Array Value) (p : Int → Bool) (A0 : Option Addr) (c0 : Nat) (l0 : List Int) (w : World) (hr0 : Kd.C (Kd.int .i64) w A0 l0.length l0) (hc0 : l0.length ≤ c0)
    (eg : ∀ args w, (callFunc g args).run Try.prog w = .ok (.enter g args) w) (hp : AsksInt g lb p w) :
    Calls Try.prog 60 #[.slice A0 l0.length c0, .func (.func g) #[] lb] w fun e w' => e = .returned (.bool (l0.any p)) ∧ Drawn0 w w' := by
  have hidx := slices_IndexFunc_int.calls g lb p A0 c0 l0 w hr0 hc0 eg hp
  clear hr0 hc0 hp
  go_enter Try.func60, Try.ntmps60
  go_wp2_with (go_at_call 72; refine hidx.mono ?_; rintro e w' ⟨⟨r, rfl, hrr⟩, hd⟩; obtain ⟨q, rfl⟩ := hd.out; clear hd; have HRR := Aside0.mk hrr; clear hrr)
  go_ret
  refine ⟨?_, ⟨q, rfl⟩⟩
  rw [← HRR.out]
  rfl

/-! ### impl_isLadder: function 31 -/
-- GIVEN impl_isLadder
def impl_isLadder.f (a0_0 : Int) (l0_1 : List Int) : Option (Bool) := some (decide (2 ≤ a0_0 ∧ a0_0 ≤ 8) && decide (l0_1.length ≤ 60) && l0_1.all fun r => decide (0 ≤ r ∧ r ≤ a0_0 - 2))
set_option maxHeartbeats 4000000 in
set_option maxRecDepth 100000 in
theorem impl_isLadder_1.calls (a : Int) (ha : 2 ≤ a ∧ a ≤ 8) (g : Nat) (x : Int) (w : World) (hcell : w.cell? ⟨g, 0, none⟩ = some (.int .i64 a)) :
    Calls Try.prog 61 #[.int .i64 x, .pointer (some ⟨g, 0, none⟩)] w fun e w' => e = .returned (.bool (offRange (a - 2) x)) ∧ Drawn0 w w' := by
  unfold offRange
  have hlo := ha.1
  have hhi := ha.2
  clear ha
  have hb : impl_between.f x 0 (a - 2) = some (decide (0 ≤ x ∧ x ≤ a - 2)) := by
    unfold impl_between.f
    by_cases h : x ≥ 0
    · rw [if_pos h]; congr 1; simp [h]
    · rw [if_neg h]; congr 1; simp; omega
  have hB := fun W => impl_between.calls x 0 (a - 2) _ W hb
  have HB := Aside0.mk hB
  clear hb hB
  generalize decide (0 ≤ x ∧ x ≤ a - 2) = b at HB
  go_enter Try.func61, Try.ntmps61
  go_wp2_with (go_at_call 48; (with_reducible refine (HB.out _).mono ?_); rintro e w' ⟨rfl, ⟨nd, rfl⟩⟩)
  go_ret
  exact ⟨rfl, by repeat (first | exact Drawn0.refl _ | apply Drawn0.step)⟩
set_option maxHeartbeats 4000000 in
set_option maxRecDepth 100000 in
theorem impl_isLadder.calls (a0_0 : Int) (A0_1 : Option Addr) (c0_1 : Nat) (l0_1 : List Int) (r : Bool) (w : World) (hr0_1 : Kd.C (Kd.int .i64) w A0_1 l0_1.length l0_1) (hc0_1 : l0_1.length ≤ c0_1) (h : impl_isLadder.f a0_0 l0_1 = some r) :
    Calls Try.prog 31 #[.agg #[.int .i64 a0_0, .slice A0_1 l0_1.length c0_1]] w fun e w' => e = .returned (.bool r) ∧ Below w.heap.size w w' := by
  have HRR := Aside0.mk (Option.some.inj h).symm
  clear h
  have HCC : ∀ W, Below w.heap.size w W → Kd.C (Kd.int .i64) W A0_1 l0_1.length l0_1 := fun W hb => Kd.C_below hr0_1 hb
  have hbig : l0_1.length ≤ 9223372036854775807 := hr0_1.2.1
  have HC := Aside0.mk HCC
  have HC0 := Aside0.mk hc0_1
  clear HCC hr0_1 hc0_1
  by_cases h1 : 2 ≤ a0_0 ∧ a0_0 ≤ 8
  · have hb : impl_between.f a0_0 2 8 = some true := by unfold impl_between.f; rw [if_pos h1.1, decide_eq_true h1.2]
    have HB := Aside0.mk (fun W => impl_between.calls a0_0 2 8 _ W hb)
    clear hb
    by_cases h2 : l0_1.length ≤ 60
    · have h2b : decide ((l0_1.length : Int) ≤ 60) = true := decide_eq_true (by omega)
      have h2c : decide (l0_1.length ≤ 60) = true := decide_eq_true h2
      have HAK := Aside0.mk (show ∀ (W : World) (g : Nat), W.cell? ⟨g, 0, none⟩ = some (.int .i64 a0_0) → AsksInt 61 #[.pointer (some ⟨g, 0, none⟩)] (offRange (a0_0 - 2)) W from fun W g hg x q => impl_isLadder_1.calls a0_0 h1 g x _ (by simpa using hg))
      have HR2 := Aside0.mk (show r = !(l0_1.any (offRange (a0_0 - 2))) by
        rw [HRR.out, decide_eq_true h1, decide_eq_true h2]
        simp only [Bool.true_and]
        rw [List.all_eq_not_any_not]
        rfl)
      clear HRR h2
      have eg := enters_of Try.func61 (by kernel_rfl) rfl
      have EG := Aside0.mk eg
      clear eg h1
      go_enter Try.func31, Try.ntmps31
      go_wp2_with (first | (go_at_call 48; (with_reducible refine (HB.out _).mono ?_); rintro e w' ⟨rfl, ⟨nd, rfl⟩⟩) | (go_at_call 60; refine (slices_ContainsFunc_int.calls _ _ (offRange (a0_0 - 2)) _ _ l0_1 _ (HC.out _ (by repeat (first | exact Below.refl _ _ | apply below_alloc | apply pw_below_drewN | apply below_drew1))) HC0.out EG.out (HAK.out _ _ (by first | (go_simp; done) | go_simp))).mono ?_; rintro e w' ⟨rfl, ⟨nd, rfl⟩⟩))
      go_ret
      exact ⟨by rw [HR2.out]; rfl, by repeat (first | exact Below.refl _ _ | apply below_alloc | apply pw_below_drewN | apply below_drew1)⟩
    · have h2b : decide ((l0_1.length : Int) ≤ 60) = false := decide_eq_false (by omega)
      have h2c : decide (l0_1.length ≤ 60) = false := decide_eq_false h2
      have HR2 := Aside0.mk (show r = false by rw [HRR.out, decide_eq_false h2]; simp)
      clear HRR h1 h2
      go_enter Try.func31, Try.ntmps31
      go_wp2_with (first | (go_at_call 48; (with_reducible refine (HB.out _).mono ?_); rintro e w' ⟨rfl, ⟨nd, rfl⟩⟩))
      go_ret
      exact ⟨by rw [HR2.out]; rfl, by repeat (first | exact Below.refl _ _ | apply below_alloc | apply pw_below_drewN | apply below_drew1)⟩
  · have hb : impl_between.f a0_0 2 8 = some false := by
      unfold impl_between.f
      split
      · rw [decide_eq_false (by omega)]
      · rfl
    have HB := Aside0.mk (fun W => impl_between.calls a0_0 2 8 _ W hb)
    have HR2 := Aside0.mk (show r = false by rw [HRR.out, decide_eq_false h1]; simp)
    clear hb HRR h1
    go_enter Try.func31, Try.ntmps31
    go_wp2_with (first | (go_at_call 48; (with_reducible refine (HB.out _).mono ?_); rintro e w' ⟨rfl, ⟨nd, rfl⟩⟩))
    go_ret
    exact ⟨by rw [HR2.out]; rfl, by repeat (first | exact Below.refl _ _ | apply below_alloc | apply pw_below_drewN | apply below_drew1)⟩

/-! ### slices_Clone_int_int: function 50 -/
-- GIVEN slices_Clone_int_int
theorem infoI : (Try.prog.info? 3).map (fun i => (i.zero, i.size, i.bytes)) = some (some (.int .i64 0), 1, 8) := by kernel_rfl
def slices_Clone_int_int.f (l0 : List Int) : Option (List Int) := if l0.length < 17592186044416 then some l0 else none
set_option maxHeartbeats 8000000 in
set_option maxRecDepth 100000 in
theorem slices_Clone_int_int.calls (A0 : Option Addr) (c0 : Nat) (l0 : List Int) (r : List Int) (w : World) (hr0 : Kd.C (Kd.int .i64) w A0 l0.length l0) (hc0 : l0.length ≤ c0) (h : slices_Clone_int_int.f l0 = some r) :
    Calls Try.prog 50 #[.slice A0 l0.length c0] w fun e w' => ∃ v0_ : Value, e = .returned (v0_) ∧ Kd.R (Kd.int .i64) 3 w' w.heap.size (fun _ => True) v0_ r ∧ Below w.heap.size w w' := by
  unfold slices_Clone_int_int.f at h
  split at h
  case isFalse => cases h
  rename_i c2
  obtain rfl := Option.some.inj h
  clear h
  have LMc2 := Aside0.mk c2
  clear c2
  have HR0 := Aside0.mk hr0
  have HC0 := Aside0.mk hc0
  have HB := Aside0.mk (Below.refl w.heap.size w)
  have heq := fun W : World => Lib.run_eql_slice_nil (P := Try.prog) W 24 3 A0 l0.length c0 0 0 Try.underlying24
  cases A0 with
  | none =>
    have h0 : l0 = [] := by
      rcases Nat.eq_zero_or_pos l0.length with h0 | hp
      · exact List.eq_nil_of_length_eq_zero h0
      · obtain ⟨ad, e, _⟩ := hr0.2.2 hp
        cases e
    clear hr0 hc0 LMc2 HR0 HC0
    subst h0
    clear heq
    have heq := fun W : World => Lib.run_eql_slice_nil (P := Try.prog) W 24 3 none 0 c0 0 0 Try.underlying24
    go_enter Try.func50, Try.ntmps50
    go_wp2
    go_ret
    exact ⟨_, rfl, Kd.R_nil _ _ _ _ _, by repeat (first | exact Below.refl _ _ | apply below_alloc | apply pw_below_drewN | apply below_drew1)⟩
  | some ad =>
    clear hr0 hc0
    go_enter Try.func50, Try.ntmps50
    go_wp2_with (first | ((with_reducible refine gate_dst (N := 5) rfl ?_); refine Kd.R_lit (Kd.int .i64) _ 3 ?hg (N := 5) ?hd (xs := ([] : List Int)) (inner := []) (ok := fun _ => True) (okp := fun _ => True) ?hr ?hp (fun _ hk => hk) trivial (Below.refl _ _) (Nat.le_refl _) (by simp) ?_; (case hd => rfl); (case hg => rfl); (case hr => first | (go_simp; done) | (go_simp; rfl)); (case hp => exact (Reps.none _ _)); intro v409 w3 ho4 hb hg_ hnew_; clear hg_ hnew_; have n0_ := Aside0.mk (Kd.R_lower ho4 (below_size HB.out)); have n1_ := Aside0.mk (below_step HB.out hb); clear HB; have HO410 := n0_; have HB := n1_; clear n0_ n1_; clear hb ho4) | ((with_reducible refine gate_builtin (b := .append) (xs := #[.tmp 5, .tmp 6]) rfl ?_); at_builtin; refine Kd.R_append_rows (Kd.int .i64) (w0 := w) w.heap.size rfl (.tmp 5) (.tmp 6) 24 3 (.int .i64 0) 8 rfl Try.underlying24 infoI rfl (by decide) (by omega) v409 ([] : List Int) l0 _ _ _ (fun _ => True) (fun _ => False) rfl rfl ?aO ?aR (fun _ _ h => h) (fun _ h => h.elim) ?aF ?aB ?aS ?aL ?_; (case aR => repeat (first | exact (Kd.C_below HR0.out HB.out) | (with_reducible refine Kd.C_alloc ?_ _) | (with_reducible refine Kd.C_drewN ?_ _) | (with_reducible refine Kd.C_drew ?_))); (case aB => exact (Zl HB)); (case aF => exact (fun _ _ => trivial)); (case aO => exact (by (with_reducible repeat (first | apply Kd.R_alloc | apply Kd.R_drewN | apply Kd.R_drew)); exact HO410.out)); (case aS => exact (below_size (Zl HB))); (case aL => have := LMc2.out; simp; omega); intro v412 w5 ho hb hg hat; rw [List.nil_append] at ho; have n0_ := Aside0.mk (hb); have n1_ := Aside0.mk (ho); clear HB; clear HO410; have HB := n0_; have HO413 := n1_; clear n0_ n1_; clear ho hb hg hat))
    go_ret
    exact ⟨_, rfl, by (with_reducible repeat (first | apply Kd.R_alloc | apply Kd.R_drewN | apply Kd.R_drew)); exact HO413.out, Zl HB⟩

/-! ### impl_sorted_1: function 62 -/
def impl_sorted_1.f (a0 : Int) : Option (Unit) := some ()
set_option maxHeartbeats 8000000 in
set_option maxRecDepth 100000 in
theorem impl_sorted_1.calls (a0 : Int) (w : World) (h : impl_sorted_1.f a0 = some ()) :
  Calls Try.prog 62 #[.int .i64 a0] w fun e w' => e = .returned (.tuple #[]) ∧ Drawn0 w w' := by
 have H : (some ()) = some () := h
 clear h
 go_enter Try.func62, Try.ntmps62
 go_wp2
 first | go_end0 | ((try simp only [Exit.inBlock, Exit.then]); refine bodyPost_ret (results_none rfl _ _ _) rfl ?_)
 exact ⟨by first | rfl | (simp; done) | (simp [*]; done), by repeat (first | exact Drawn0.refl _ | apply Drawn0.step)⟩

end Go.Proofs.Ytnagcjhgojchlac.Q
