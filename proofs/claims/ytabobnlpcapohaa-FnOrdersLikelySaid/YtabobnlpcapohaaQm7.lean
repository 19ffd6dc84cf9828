/- Each function below comes to the Lean function beside it (theorems '.calls'); no condition beyond each theorem's own. Written by our program oprint.py over the kit's print. -/
import Derived.Test.YtabobnlpcapohaaQm0
import Derived.Test.YtabobnlpcapohaaQm6
import Derived.Test.YtabobnlpcapohaaQm3
namespace Go.Proofs.Ytabobnlpcapohaa.Q
open Go.RowKit Go.Proofs.YtabobnlpcapohaaW.PrintWords Go.Proofs.YtabobnlpcapohaaW.PrintLast Go.Proofs.YtabobnlpcapohaaW.PrintMore
attribute [local go_sem] max2_int min2_int max_two min_two max_three min_three max_four min_four
set_option linter.unusedVariables false
set_option linter.unusedSimpArgs false

mutual
def spec_MeanMeetings.j0 : Nat → Int → Int → Int → Int → Bool → Option (Int × Int × Bool)
 | 0, _, _, _, _, _ => none
 | k + 1, x0, x1, x2, x3, x47 => if x47 = true then (some (0, 0, false)) else (if 0 ≤ (wrap64 (x0 * x0)) then (if (wrap64 (x0 * x0) : Int).toNat ≤ 35184372088832 then ((some (List.replicate (wrap64 (x0 * x0) : Int).toNat 0 : List Int)).bind fun y476 => (if 0 ≤ (wrap64 ((wrap64 (x2 * x0)) + x3)) then (if (wrap64 ((wrap64 (x2 * x0)) + x3)) < (y476.length : Int) then (spec_MeanMeetings.l0 k x0 x1 (y476.set ((wrap64 ((wrap64 (x2 * x0)) + x3)) : Int).toNat 1) (List.replicate (wrap64 (x0 * x0) : Int).toNat 0) 0) else (none)) else (none))) else (none)) else (none))
def spec_MeanMeetings.l0 : Nat → Int → Int → List Int → List Int → Int → Option (Int × Int × Bool)
 | 0, _, _, _, _, _ => none
 | k + 1, x0, x1, x10, x11, x12 => if x12 < x1 then (if 0 ≤ (wrap64 (x0 * x0)) then (if (wrap64 (x0 * x0) : Int).toNat ≤ 35184372088832 then (spec_MeanMeetings.l1 k x0 x1 x11 x12 (List.replicate (wrap64 (x0 * x0) : Int).toNat 0) (List.replicate (wrap64 (x0 * x0) : Int).toNat 0) x10 (x10.length : Int) 0) else (none)) else (none)) else (spec_MeanMeetings.l3 k x0 x1 0 x11 (x11.length : Int) 0)
def spec_MeanMeetings.l1 : Nat → Int → Int → List Int → Int → List Int → List Int → List Int → Int → Int → Option (Int × Int × Bool)
 | 0, _, _, _, _, _, _, _, _, _ => none
 | k + 1, x0, x1, x11, x12, x13, x14, x77, x78, x79 => if x79 < x78 then (if 0 ≤ x79 then (if x79 < (x77.length : Int) then (if x0 = 0 then (none) else (spec_MeanMeetings.l2 k x0 x1 x11 x12 x13 x14 x79 (rd x77 x79) (wrap64 (Int.tdiv x79 x0)) (Int.tmod x79 x0) 0 x77 x78 x79)) else (none)) else (none)) else (spec_MeanMeetings.l0 k x0 x1 x13 x14 (wrap64 (x12 + 1)))
def spec_MeanMeetings.l2 : Nat → Int → Int → List Int → Int → List Int → List Int → Int → Int → Int → Int → Int → List Int → Int → Int → Option (Int × Int × Bool)
 | 0, _, _, _, _, _, _, _, _, _, _, _, _, _, _ => none
 | k + 1, x0, x1, x11, x12, x13, x14, x15, x16, x17, x18, x19, x77, x78, x79 => if x19 < (wrap64 (x0 - 1)) then ((spec_laOver.f x17 x19).bind fun t490 => ((spec_laOver.f x18 x19).bind fun t491 => (if 0 ≤ (wrap64 ((wrap64 (t490 * x0)) + t491)) then (if (wrap64 ((wrap64 (t490 * x0)) + t491)) < (x13.length : Int) then ((some (x13.set ((wrap64 ((wrap64 (t490 * x0)) + t491)) : Int).toNat (wrap64 ((rd x13 (wrap64 ((wrap64 (t490 * x0)) + t491))) + x16)) : List Int)).bind fun y493 => (if (wrap64 ((wrap64 (t490 * x0)) + t491)) < (x14.length : Int) then (if 0 ≤ x15 then (if x15 < (x11.length : Int) then ((some (x14.set ((wrap64 ((wrap64 (t490 * x0)) + t491)) : Int).toNat (wrap64 ((rd x14 (wrap64 ((wrap64 (t490 * x0)) + t491))) + (rd x11 x15))) : List Int)).bind fun y496 => (if t490 = x18 then (if t491 = x17 then (spec_MeanMeetings.l2 k x0 x1 x11 x12 y493 (y496.set ((wrap64 ((wrap64 (t490 * x0)) + t491)) : Int).toNat (wrap64 ((wrap64 ((rd x14 (wrap64 ((wrap64 (t490 * x0)) + t491))) + (rd x11 x15))) + x16))) x15 x16 x17 x18 (wrap64 (x19 + 1)) x77 x78 x79) else (spec_MeanMeetings.l2 k x0 x1 x11 x12 y493 y496 x15 x16 x17 x18 (wrap64 (x19 + 1)) x77 x78 x79)) else (spec_MeanMeetings.l2 k x0 x1 x11 x12 y493 y496 x15 x16 x17 x18 (wrap64 (x19 + 1)) x77 x78 x79))) else (none)) else (none)) else (none))) else (none)) else (none)))) else (spec_MeanMeetings.l1 k x0 x1 x11 x12 x13 x14 x77 x78 (wrap64 (x79 + 1)))
def spec_MeanMeetings.l3 : Nat → Int → Int → Int → List Int → Int → Int → Option (Int × Int × Bool)
 | 0, _, _, _, _, _, _ => none
 | k + 1, x0, x1, x22, x149, x150, x151 => if x151 < x150 then (if 0 ≤ x151 then (if x151 < (x149.length : Int) then (spec_MeanMeetings.l3 k x0 x1 (wrap64 (x22 + (rd x149 x151))) x149 x150 (wrap64 (x151 + 1))) else (none)) else (none)) else ((spec_chAll.f k x0 x1).bind fun t500 => ((spec_chRatio.f k x22 t500).bind fun bt501 => (some (bt501.1, bt501.2, true))))
end
def spec_MeanMeetings.f (k : Nat) (a0 : Int) (a1 : Int) (a2 : Int) (a3 : Int) : Option (Int × Int × Bool) := (spec_chGood.f a0 a1).bind fun t473 => (if t473 = true then ((spec_l1In.f a2 0 (wrap64 (a0 - 1))).bind fun t474 => (if t474 = true then ((spec_l1In.f a3 0 (wrap64 (a0 - 1))).bind fun t475 => (if t475 = true then (spec_MeanMeetings.j0 k a0 a1 a2 a3 (a2 == a3)) else (spec_MeanMeetings.j0 k a0 a1 a2 a3 true))) else (spec_MeanMeetings.j0 k a0 a1 a2 a3 true))) else (spec_MeanMeetings.j0 k a0 a1 a2 a3 true))
theorem spec_MeanMeetings.mono_l : ∀ k, (∀ y0 y1 y2 y3 y4, LeO (spec_MeanMeetings.j0 k y0 y1 y2 y3 y4) (spec_MeanMeetings.j0 (k + 1) y0 y1 y2 y3 y4)) ∧ (∀ y0 y1 y2 y3 y4, LeO (spec_MeanMeetings.l0 k y0 y1 y2 y3 y4) (spec_MeanMeetings.l0 (k + 1) y0 y1 y2 y3 y4)) ∧ (∀ y0 y1 y2 y3 y4 y5 y6 y7 y8, LeO (spec_MeanMeetings.l1 k y0 y1 y2 y3 y4 y5 y6 y7 y8) (spec_MeanMeetings.l1 (k + 1) y0 y1 y2 y3 y4 y5 y6 y7 y8)) ∧ (∀ y0 y1 y2 y3 y4 y5 y6 y7 y8 y9 y10 y11 y12 y13, LeO (spec_MeanMeetings.l2 k y0 y1 y2 y3 y4 y5 y6 y7 y8 y9 y10 y11 y12 y13) (spec_MeanMeetings.l2 (k + 1) y0 y1 y2 y3 y4 y5 y6 y7 y8 y9 y10 y11 y12 y13)) ∧ (∀ y0 y1 y2 y3 y4 y5, LeO (spec_MeanMeetings.l3 k y0 y1 y2 y3 y4 y5) (spec_MeanMeetings.l3 (k + 1) y0 y1 y2 y3 y4 y5))
 | 0 => ⟨fun _ _ _ _ _ r h => by simp [spec_MeanMeetings.j0] at h, fun _ _ _ _ _ r h => by simp [spec_MeanMeetings.l0] at h, fun _ _ _ _ _ _ _ _ _ r h => by simp [spec_MeanMeetings.l1] at h, fun _ _ _ _ _ _ _ _ _ _ _ _ _ _ r h => by simp [spec_MeanMeetings.l2] at h, fun _ _ _ _ _ _ r h => by simp [spec_MeanMeetings.l3] at h⟩
 | k + 1 => by
  obtain ⟨ih0, ih1, ih2, ih3, ih4⟩ := spec_MeanMeetings.mono_l k
  refine ⟨?_, ?_, ?_, ?_, ?_⟩
  ·
   intro y0 y1 y2 y3 y4
   unfold spec_MeanMeetings.j0
   repeat' first
   | (with_reducible exact ih0 _ _ _ _ _)
   | (with_reducible exact ih1 _ _ _ _ _)
   | (with_reducible exact ih2 _ _ _ _ _ _ _ _ _)
   | (with_reducible exact ih3 _ _ _ _ _ _ _ _ _ _ _ _ _ _)
   | (with_reducible exact ih4 _ _ _ _ _ _)
   | (with_reducible exact spec_chAll.mono _ _ _)
   | (with_reducible exact spec_chRatio.mono _ _ _)
   | (with_reducible exact LeO.refl _)
   | (with_reducible exact LeO.none _)
   | (with_reducible refine LeO.ite ?_ ?_)
   | (with_reducible refine LeO.bind ?_ (fun _ => ?_))
   | exact ih0 _ _ _ _ _
   | exact ih1 _ _ _ _ _
   | exact ih2 _ _ _ _ _ _ _ _ _
   | exact ih3 _ _ _ _ _ _ _ _ _ _ _ _ _ _
   | exact ih4 _ _ _ _ _ _
   | exact spec_chAll.mono _ _ _
   | exact spec_chRatio.mono _ _ _
   | exact LeO.none _
   | refine LeO.ite ?_ ?_
   | refine LeO.bind ?_ (fun _ => ?_)
  ·
   intro y0 y1 y2 y3 y4
   unfold spec_MeanMeetings.l0
   repeat' first
   | (with_reducible exact ih0 _ _ _ _ _)
   | (with_reducible exact ih1 _ _ _ _ _)
   | (with_reducible exact ih2 _ _ _ _ _ _ _ _ _)
   | (with_reducible exact ih3 _ _ _ _ _ _ _ _ _ _ _ _ _ _)
   | (with_reducible exact ih4 _ _ _ _ _ _)
   | (with_reducible exact spec_chAll.mono _ _ _)
   | (with_reducible exact spec_chRatio.mono _ _ _)
   | (with_reducible exact LeO.refl _)
   | (with_reducible exact LeO.none _)
   | (with_reducible refine LeO.ite ?_ ?_)
   | (with_reducible refine LeO.bind ?_ (fun _ => ?_))
   | exact ih0 _ _ _ _ _
   | exact ih1 _ _ _ _ _
   | exact ih2 _ _ _ _ _ _ _ _ _
   | exact ih3 _ _ _ _ _ _ _ _ _ _ _ _ _ _
   | exact ih4 _ _ _ _ _ _
   | exact spec_chAll.mono _ _ _
   | exact spec_chRatio.mono _ _ _
   | exact LeO.none _
   | refine LeO.ite ?_ ?_
   | refine LeO.bind ?_ (fun _ => ?_)
  ·
   intro y0 y1 y2 y3 y4 y5 y6 y7 y8
   unfold spec_MeanMeetings.l1
   repeat' first
   | (with_reducible exact ih0 _ _ _ _ _)
   | (with_reducible exact ih1 _ _ _ _ _)
   | (with_reducible exact ih2 _ _ _ _ _ _ _ _ _)
   | (with_reducible exact ih3 _ _ _ _ _ _ _ _ _ _ _ _ _ _)
   | (with_reducible exact ih4 _ _ _ _ _ _)
   | (with_reducible exact spec_chAll.mono _ _ _)
   | (with_reducible exact spec_chRatio.mono _ _ _)
   | (with_reducible exact LeO.refl _)
   | (with_reducible exact LeO.none _)
   | (with_reducible refine LeO.ite ?_ ?_)
   | (with_reducible refine LeO.bind ?_ (fun _ => ?_))
   | exact ih0 _ _ _ _ _
   | exact ih1 _ _ _ _ _
   | exact ih2 _ _ _ _ _ _ _ _ _
   | exact ih3 _ _ _ _ _ _ _ _ _ _ _ _ _ _
   | exact ih4 _ _ _ _ _ _
   | exact spec_chAll.mono _ _ _
   | exact spec_chRatio.mono _ _ _
   | exact LeO.none _
   | refine LeO.ite ?_ ?_
   | refine LeO.bind ?_ (fun _ => ?_)
  ·
   intro y0 y1 y2 y3 y4 y5 y6 y7 y8 y9 y10 y11 y12 y13
   unfold spec_MeanMeetings.l2
   repeat' first
   | (with_reducible exact ih0 _ _ _ _ _)
   | (with_reducible exact ih1 _ _ _ _ _)
   | (with_reducible exact ih2 _ _ _ _ _ _ _ _ _)
   | (with_reducible exact ih3 _ _ _ _ _ _ _ _ _ _ _ _ _ _)
   | (with_reducible exact ih4 _ _ _ _ _ _)
   | (with_reducible exact spec_chAll.mono _ _ _)
   | (with_reducible exact spec_chRatio.mono _ _ _)
   | (with_reducible exact LeO.refl _)
   | (with_reducible exact LeO.none _)
   | (with_reducible refine LeO.ite ?_ ?_)
   | (with_reducible refine LeO.bind ?_ (fun _ => ?_))
   | exact ih0 _ _ _ _ _
   | exact ih1 _ _ _ _ _
   | exact ih2 _ _ _ _ _ _ _ _ _
   | exact ih3 _ _ _ _ _ _ _ _ _ _ _ _ _ _
   | exact ih4 _ _ _ _ _ _
   | exact spec_chAll.mono _ _ _
   | exact spec_chRatio.mono _ _ _
   | exact LeO.none _
   | refine LeO.ite ?_ ?_
   | refine LeO.bind ?_ (fun _ => ?_)
  ·
   intro y0 y1 y2 y3 y4 y5
   unfold spec_MeanMeetings.l3
   repeat' first
   | (with_reducible exact ih0 _ _ _ _ _)
   | (with_reducible exact ih1 _ _ _ _ _)
   | (with_reducible exact ih2 _ _ _ _ _ _ _ _ _)
   | (with_reducible exact ih3 _ _ _ _ _ _ _ _ _ _ _ _ _ _)
   | (with_reducible exact ih4 _ _ _ _ _ _)
   | (with_reducible exact spec_chAll.mono _ _ _)
   | (with_reducible exact spec_chRatio.mono _ _ _)
   | (with_reducible exact LeO.refl _)
   | (with_reducible exact LeO.none _)
   | (with_reducible refine LeO.ite ?_ ?_)
   | (with_reducible refine LeO.bind ?_ (fun _ => ?_))
   | exact ih0 _ _ _ _ _
   | exact ih1 _ _ _ _ _
   | exact ih2 _ _ _ _ _ _ _ _ _
   | exact ih3 _ _ _ _ _ _ _ _ _ _ _ _ _ _
   | exact ih4 _ _ _ _ _ _
   | exact spec_chAll.mono _ _ _
   | exact spec_chRatio.mono _ _ _
   | exact LeO.none _
   | refine LeO.ite ?_ ?_
   | refine LeO.bind ?_ (fun _ => ?_)
theorem spec_MeanMeetings.mono : ∀ a0 a1 a2 a3 k, LeO (spec_MeanMeetings.f k a0 a1 a2 a3) (spec_MeanMeetings.f (k + 1) a0 a1 a2 a3) := by
 intro a0 a1 a2 a3 k
 obtain ⟨ih0, ih1, ih2, ih3, ih4⟩ := spec_MeanMeetings.mono_l k
 unfold spec_MeanMeetings.f
 repeat' first
   | (with_reducible exact ih0 _ _ _ _ _)
   | (with_reducible exact ih1 _ _ _ _ _)
   | (with_reducible exact ih2 _ _ _ _ _ _ _ _ _)
   | (with_reducible exact ih3 _ _ _ _ _ _ _ _ _ _ _ _ _ _)
   | (with_reducible exact ih4 _ _ _ _ _ _)
   | (with_reducible exact spec_chAll.mono _ _ _)
   | (with_reducible exact spec_chRatio.mono _ _ _)
   | (with_reducible exact LeO.refl _)
   | (with_reducible exact LeO.none _)
   | (with_reducible refine LeO.ite ?_ ?_)
   | (with_reducible refine LeO.bind ?_ (fun _ => ?_))
   | exact ih0 _ _ _ _ _
   | exact ih1 _ _ _ _ _
   | exact ih2 _ _ _ _ _ _ _ _ _
   | exact ih3 _ _ _ _ _ _ _ _ _ _ _ _ _ _
   | exact ih4 _ _ _ _ _ _
   | exact spec_chAll.mono _ _ _
   | exact spec_chRatio.mono _ _ _
   | exact LeO.none _
   | refine LeO.ite ?_ ?_
   | refine LeO.bind ?_ (fun _ => ?_)
def spec_MeanMeetings.T3 : Bool × List (List Nat × List Nat) := (true, [([], []), ([], []), ([0, 1], [0, 1]), ([2, 2], [2]), ([], []), ([], []), ([4, 5], [4, 5]), ([6, 6], [6]), ([3, 0, 1, 2, 3], [3]), ([7, 8, 0, 1, 2, 3, 4, 5, 6, 7, 8], [7])])
def spec_MeanMeetings.B3 : List Nat := [0, 0, 3, 7, 0, 0, 48, 112, 15, 511]
theorem spec_MeanMeetings.tab3 : rtab .any (opsOf Try.f25 3) = spec_MeanMeetings.T3 := by kernel_rfl
theorem spec_MeanMeetings.bits3 : waitsOk spec_MeanMeetings.T3.2 spec_MeanMeetings.B3 = true := by kernel_rfl
def spec_MeanMeetings.T8 : Bool × List (List Nat × List Nat) := (true, [([], []), ([], []), ([0, 1], [0, 1]), ([2, 2], [2]), ([], []), ([], []), ([4, 5], [4, 5]), ([6, 6], [6]), ([3, 0, 1, 2, 3], [3]), ([7, 8, 0, 1, 2, 3, 4, 5, 6, 7, 8], [7])])
def spec_MeanMeetings.B8 : List Nat := [0, 0, 3, 7, 0, 0, 48, 112, 15, 511]
theorem spec_MeanMeetings.tab8 : rtab .any (opsOf Try.f25 8) = spec_MeanMeetings.T8 := by kernel_rfl
theorem spec_MeanMeetings.bits8 : waitsOk spec_MeanMeetings.T8.2 spec_MeanMeetings.B8 = true := by kernel_rfl
def spec_MeanMeetings.T12 : Bool × List (List Nat × List Nat) := (true, [([], []), ([], []), ([0, 1], [0, 1]), ([], []), ([], []), ([3, 4], [3, 4]), ([2, 0, 1, 2], [2]), ([5, 6, 0, 1, 2, 3, 4, 5, 6], [5])])
def spec_MeanMeetings.B12 : List Nat := [0, 0, 3, 0, 0, 24, 7, 127]
theorem spec_MeanMeetings.tab12 : rtab .any (opsOf Try.f25 12) = spec_MeanMeetings.T12 := by kernel_rfl
theorem spec_MeanMeetings.bits12 : waitsOk spec_MeanMeetings.T12.2 spec_MeanMeetings.B12 = true := by kernel_rfl
def spec_MeanMeetings.T18 : Bool × List (List Nat × List Nat) := (true, [([], []), ([], []), ([], []), ([1, 2], [1, 2]), ([], []), ([3, 4], [3, 4]), ([0, 5], [0, 5]), ([6], [6]), ([], []), ([], []), ([8, 9], [8, 9]), ([10], [10]), ([7, 11], [7, 11]), ([0, 5, 0, 1, 2, 3, 4, 5, 6, 7, 8, 9, 10, 11, 12], [0, 5]), ([13, 12, 0, 1, 2, 3, 4, 5, 6, 7, 8, 9, 10, 11, 12], [12, 13])])
def spec_MeanMeetings.B18 : List Nat := [0, 0, 0, 6, 0, 30, 63, 127, 0, 0, 768, 1792, 4095, 8191, 16383]
theorem spec_MeanMeetings.tab18 : rtab .any (opsOf Try.f25 18) = spec_MeanMeetings.T18 := by kernel_rfl
theorem spec_MeanMeetings.bits18 : waitsOk spec_MeanMeetings.T18.2 spec_MeanMeetings.B18 = true := by kernel_rfl
set_option maxHeartbeats 8000000 in
set_option maxRecDepth 100000 in
theorem spec_MeanMeetings.calls (k : Nat) (a0 : Int) (a1 : Int) (a2 : Int) (a3 : Int) (r1 : Int) (r2 : Int) (r3 : Bool) (w : World) (h : spec_MeanMeetings.f k a0 a1 a2 a3 = some (r1, r2, r3)) :
  Calls Try.prog 25 #[.int .i64 a0, .int .i64 a1, .int .i64 a2, .int .i64 a3] w fun e w' => e = .returned (.tuple #[.agg #[.int .i64 r1, .int .i64 r2], .bool r3]) ∧ Below w.heap.size w w' := by
 have hu30 := Try.underlying30; have HB := Zm (Below.refl w.heap.size w); have H : ((spec_chGood.f a0 a1).bind fun t473 => (if t473 = true then ((spec_l1In.f a2 0 (wrap64 (a0 - 1))).bind fun t474 => (if t474 = true then ((spec_l1In.f a3 0 (wrap64 (a0 - 1))).bind fun t475 => (if t475 = true then (spec_MeanMeetings.j0 k a0 a1 a2 a3 (a2 == a3)) else (spec_MeanMeetings.j0 k a0 a1 a2 a3 true))) else (spec_MeanMeetings.j0 k a0 a1 a2 a3 true))) else (spec_MeanMeetings.j0 k a0 a1 a2 a3 true))) = some (r1, r2, r3) := h; clear h; have HC5 := Aside0.mk H; clear H
 go_enter Try.func25, Try.ntmps25
 go_upto_region 1 with (first | ((with_reducible refine gate_dst (N := 8) rfl ?_); refine box_event ?hg (N := 8) ?hd (cs := #[.int .i64 0, .int .i64 0]) (t := 30) ?hr ?_; (case hd => rfl); (case hg => rfl); (case hr => first | (go_simp; done) | (go_simp; rfl)); intro gb472 hg w6 hbox hb; have BK472 := Zm (hbox); have GW472 := Zx hg HB; have GE472 := Zx hg HB; replace HB := Zh HB hb; clear hb hbox hg))
 (try simp only [Act.put, List.setIfInBounds_toArray, List.set_cons_zero, List.set_cons_succ])
 go_cut [47] (fun v47 wc => ∃ (kq : Nat) (x47_4 : Bool), v47 = .bool x47_4 ∧ Aside0 (spec_MeanMeetings.j0 kq a0 a1 a2 a3 x47_4 = some (r1, r2, r3)) ∧ Aside0 (kq ≤ k) ∧ Aside0 (wc.heap[gb472]? = some (.cells #[.int .i64 0, .int .i64 0] 30 (0, 0))) ∧ Aside0 (Below w.heap.size w wc))
 case first =>
  have H := HC5.out; clear HC5; replace H := Option.bind_eq_some_iff.mp H; obtain ⟨t473, A70, H⟩ := H; (replace H : (if t473 = true then ((spec_l1In.f a2 0 (wrap64 (a0 - 1))).bind fun t474 => (if t474 = true then ((spec_l1In.f a3 0 (wrap64 (a0 - 1))).bind fun t475 => (if t475 = true then (spec_MeanMeetings.j0 k a0 a1 a2 a3 (a2 == a3)) else (spec_MeanMeetings.j0 k a0 a1 a2 a3 true))) else (spec_MeanMeetings.j0 k a0 a1 a2 a3 true))) else (spec_MeanMeetings.j0 k a0 a1 a2 a3 true)) = some (r1, r2, r3) := H); have A7 := Aside0.mk A70; clear A70
  by_cases c8 : t473 = true
  ·
   subst c8
   rw [if_pos rfl] at H
   replace H := Option.bind_eq_some_iff.mp H; obtain ⟨t474, A90, H⟩ := H; (replace H : (if t474 = true then ((spec_l1In.f a3 0 (wrap64 (a0 - 1))).bind fun t475 => (if t475 = true then (spec_MeanMeetings.j0 k a0 a1 a2 a3 (a2 == a3)) else (spec_MeanMeetings.j0 k a0 a1 a2 a3 true))) else (spec_MeanMeetings.j0 k a0 a1 a2 a3 true)) = some (r1, r2, r3) := H); have A9 := Aside0.mk A90; clear A90
   by_cases c10 : t474 = true
   ·
    subst c10
    rw [if_pos rfl] at H
    replace H := Option.bind_eq_some_iff.mp H; obtain ⟨t475, A110, H⟩ := H; replace H : (if t475 = true then (spec_MeanMeetings.j0 k a0 a1 a2 a3 (a2 == a3)) else (spec_MeanMeetings.j0 k a0 a1 a2 a3 true)) = some (r1, r2, r3) := H; have A11 := Aside0.mk A110; clear A110
    by_cases c12 : t475 = true
    ·
     subst c12
     rw [if_pos rfl] at H
     have H' := Aside0.mk H; clear H
     go_wp2_with (first | ((with_reducible refine gate_callee (f := 59) rfl ?_); refine Ga (some 27) Try.func59 #[.int .i64 a0, .int .i64 a1] (h := ?_); (with_reducible refine (spec_chGood.calls a0 a1 true _ A7.out).mono ?_); rintro e w' ⟨rfl, ⟨nd, rfl⟩⟩; refine ⟨_, rfl, ?_⟩) | (go_at_call 30; (with_reducible refine (spec_l1In.calls a2 0 (wrap64 (a0 - 1)) true _ A9.out).mono ?_); rintro e w' ⟨rfl, ⟨nd, rfl⟩⟩) | (go_at_call 30; (with_reducible refine (spec_l1In.calls a3 0 (wrap64 (a0 - 1)) true _ A11.out).mono ?_); rintro e w' ⟨rfl, ⟨nd, rfl⟩⟩))
     go_meet
     case rel => exact ⟨_, ((a2 == a3)), (by first | rfl | (simp; done) | (simp [*]; done)), H', ⟨by first | omega | exact Nat.le_refl _⟩, ⟨Zb BK472⟩, ⟨Zl HB⟩⟩
    ·
     replace c12 := Bool.eq_false_iff.mpr c12
     subst c12
     rw [if_neg Bool.false_ne_true] at H
     have H' := Aside0.mk H; clear H
     go_wp2_with (first | ((with_reducible refine gate_callee (f := 59) rfl ?_); refine Ga (some 27) Try.func59 #[.int .i64 a0, .int .i64 a1] (h := ?_); (with_reducible refine (spec_chGood.calls a0 a1 true _ A7.out).mono ?_); rintro e w' ⟨rfl, ⟨nd, rfl⟩⟩; refine ⟨_, rfl, ?_⟩) | (go_at_call 30; (with_reducible refine (spec_l1In.calls a2 0 (wrap64 (a0 - 1)) true _ A9.out).mono ?_); rintro e w' ⟨rfl, ⟨nd, rfl⟩⟩) | (go_at_call 30; (with_reducible refine (spec_l1In.calls a3 0 (wrap64 (a0 - 1)) false _ A11.out).mono ?_); rintro e w' ⟨rfl, ⟨nd, rfl⟩⟩))
     go_meet
     case rel => exact ⟨_, (true), (by first | rfl | (simp; done) | (simp [*]; done)), H', ⟨by first | omega | exact Nat.le_refl _⟩, ⟨Zb BK472⟩, ⟨Zl HB⟩⟩
   ·
    replace c10 := Bool.eq_false_iff.mpr c10
    subst c10
    rw [if_neg Bool.false_ne_true] at H
    have H' := Aside0.mk H; clear H
    go_wp2_with (first | ((with_reducible refine gate_callee (f := 59) rfl ?_); refine Ga (some 27) Try.func59 #[.int .i64 a0, .int .i64 a1] (h := ?_); (with_reducible refine (spec_chGood.calls a0 a1 true _ A7.out).mono ?_); rintro e w' ⟨rfl, ⟨nd, rfl⟩⟩; refine ⟨_, rfl, ?_⟩) | (go_at_call 30; (with_reducible refine (spec_l1In.calls a2 0 (wrap64 (a0 - 1)) false _ A9.out).mono ?_); rintro e w' ⟨rfl, ⟨nd, rfl⟩⟩))
    go_meet
    case rel => exact ⟨_, (true), (by first | rfl | (simp; done) | (simp [*]; done)), H', ⟨by first | omega | exact Nat.le_refl _⟩, ⟨Zb BK472⟩, ⟨Zl HB⟩⟩
  ·
   replace c8 := Bool.eq_false_iff.mpr c8
   subst c8
   rw [if_neg Bool.false_ne_true] at H
   have H' := Aside0.mk H; clear H
   go_wp2_with (first | ((with_reducible refine gate_callee (f := 59) rfl ?_); refine Ga (some 27) Try.func59 #[.int .i64 a0, .int .i64 a1] (h := ?_); (with_reducible refine (spec_chGood.calls a0 a1 false _ A7.out).mono ?_); rintro e w' ⟨rfl, ⟨nd, rfl⟩⟩; refine ⟨_, rfl, ?_⟩))
   go_meet
   case rel => exact ⟨_, (true), (by first | rfl | (simp; done) | (simp [*]; done)), H', ⟨by first | omega | exact Nat.le_refl _⟩, ⟨Zb BK472⟩, ⟨Zl HB⟩⟩
 case rest =>
  (clear HC5; (try clear c1); (try clear c2); (try clear p2); (try clear c5); (try clear p6); (try clear c8); (try clear c10); (try clear c12)); obtain ⟨kq, x47_4, rfl, HA, HJ4, BK472, HB⟩ := hcut
  cases kq with
  | zero => exact absurd HA.out (by simp [spec_MeanMeetings.j0])
  | succ kj4 =>
   have H := HA.out; clear HA
   simp only [spec_MeanMeetings.j0] at H
   by_cases c13 : x47_4 = true
   ·
    subst c13
    rw [if_pos rfl] at H
    simp only [Option.some.injEq, Prod.mk.injEq] at H
    obtain ⟨rfl, rfl, rfl⟩ := H
    have hcz14_0 : wc.cell? ⟨gb472, 0, none⟩ = some (.int .i64 0) := (blk_cell BK472.out 0).trans rfl; have hcz14_1 : wc.cell? ⟨gb472, 1, none⟩ = some (.int .i64 0) := (blk_cell BK472.out 1).trans rfl; have hfz14_0 := blk_frozen BK472.out 0; have hfz14_1 := blk_frozen BK472.out 1
    go_wp2
    refine bodyPost_ret (results_ct rfl _ _ gb472 30 #[.int .i64 0, .int .i64 0] (0, 0) _ rfl (by (with_reducible repeat (first | refine blk_drewN ?_ _ | refine blk_drew ?_ | refine blk_alloc ?_ _)); refine blk_put (cs := #[.int .i64 0, .int .i64 0]) ?_ 1 _ rfl; (with_reducible repeat (first | refine blk_drewN ?_ _ | refine blk_drew ?_ | refine blk_alloc ?_ _)); refine blk_put (cs := #[.int .i64 0, .int .i64 0]) ?_ 0 _ rfl; (with_reducible repeat (first | refine blk_drewN ?_ _ | refine blk_drew ?_ | refine blk_alloc ?_ _)); exact BK472.out) Try.underlying30 rfl (by kernel_rfl)) rfl ?_
    exact ⟨by first | rfl | (simp [errW_none, errW_some] <;> rfl) | (simp [*, errW_none, errW_some] <;> rfl), Zl HB⟩
   ·
    replace c13 := Bool.eq_false_iff.mpr c13
    subst c13
    rw [if_neg Bool.false_ne_true] at H
    obtain ⟨ji15, hji15⟩ : ∃ j_ : Int, (wrap64 (a0 * a0)) = j_ := ⟨_, rfl⟩; (replace H : (if 0 ≤ (ji15) then (if (ji15 : Int).toNat ≤ 35184372088832 then ((some (List.replicate (ji15 : Int).toNat 0 : List Int)).bind fun y476 => (if 0 ≤ (wrap64 ((wrap64 (a2 * a0)) + a3)) then (if (wrap64 ((wrap64 (a2 * a0)) + a3)) < (y476.length : Int) then (spec_MeanMeetings.l0 kj4 a0 a1 (y476.set ((wrap64 ((wrap64 (a2 * a0)) + a3)) : Int).toNat 1) (List.replicate (ji15 : Int).toNat 0) 0) else (none)) else (none))) else (none)) else (none)) = some (r1, r2, r3) := by first | (rw [hji15] at H; exact H) | (simp only [hji15] at H ⊢; exact H))
    have hji15w : (IntKind.i64.wrap (a0 * a0)) = ji15 := (i64_w _).trans hji15
    by_cases c16 : 0 ≤ (ji15)
    ·
     rw [if_pos c16] at H; have c16b0 := eq_true c16; have c16b1 : decide (0 ≤ (ji15)) = true := decide_eq_true c16; clear c16
     by_cases c17 : (ji15 : Int).toNat ≤ 35184372088832
     ·
      rw [if_pos c17] at H; have c17b0 := eq_true c17; have c17b1 : decide ((ji15 : Int).toNat ≤ 35184372088832) = true := decide_eq_true c17; clear c17; obtain ⟨y476, hy476⟩ : ∃ y_ : List Int, y_ = (List.replicate (ji15 : Int).toNat 0) := ⟨_, rfl⟩; (replace H : (if 0 ≤ (wrap64 ((wrap64 (a2 * a0)) + a3)) then (if (wrap64 ((wrap64 (a2 * a0)) + a3)) < (y476.length : Int) then (spec_MeanMeetings.l0 kj4 a0 a1 (y476.set ((wrap64 ((wrap64 (a2 * a0)) + a3)) : Int).toNat 1) (List.replicate (ji15 : Int).toNat 0) 0) else (none)) else (none)) = some (r1, r2, r3) := by first | (rw [hy476]; with_reducible exact H) | (have H2_ := (Option.bind_some _ _).symm.trans H; rw [hy476]; with_reducible exact H2_) | (have H2_ := (Option.bind_some _ _).symm.trans H; with_reducible exact H2_) | with_reducible exact H | (rw [hy476]; exact H) | exact H)
      have Ny476 := Aside0.mk hy476; clear hy476
      obtain ⟨y479, hy479⟩ : ∃ y_ : List Int, y_ = (List.replicate (ji15 : Int).toNat 0) := ⟨_, rfl⟩; (replace H : (if 0 ≤ (wrap64 ((wrap64 (a2 * a0)) + a3)) then (if (wrap64 ((wrap64 (a2 * a0)) + a3)) < (y476.length : Int) then (spec_MeanMeetings.l0 kj4 a0 a1 (y476.set ((wrap64 ((wrap64 (a2 * a0)) + a3)) : Int).toNat 1) y479 0) else (none)) else (none)) = some (r1, r2, r3) := by first | (rw [hy479]; with_reducible exact H) | (have H2_ := (Option.bind_some _ _).symm.trans H; rw [hy479]; with_reducible exact H2_) | (have H2_ := (Option.bind_some _ _).symm.trans H; with_reducible exact H2_) | with_reducible exact H | (rw [hy479]; exact H) | exact H)
      have Ny479 := Aside0.mk hy479; clear hy479
      obtain ⟨ji18, hji18⟩ : ∃ j_ : Int, (wrap64 ((wrap64 (a2 * a0)) + a3)) = j_ := ⟨_, rfl⟩; (replace H : (if 0 ≤ (ji18) then (if (ji18) < (y476.length : Int) then (spec_MeanMeetings.l0 kj4 a0 a1 (y476.set ((ji18) : Int).toNat 1) y479 0) else (none)) else (none)) = some (r1, r2, r3) := by first | (rw [hji18] at H; exact H) | (simp only [hji18] at H ⊢; exact H))
      have hji18w : (IntKind.i64.wrap ((wrap64 (a2 * a0)) + a3)) = ji18 := (i64_w _).trans hji18
      by_cases c19 : 0 ≤ (ji18)
      ·
       rw [if_pos c19] at H; have c19b0 : decide (0 ≤ (ji18)) = true := decide_eq_true c19; clear c19
       by_cases c20 : (ji18) < (y476.length : Int)
       ·
        rw [if_pos c20] at H; have c20b0 : decide ((ji18) < (y476.length : Int)) = true := decide_eq_true c20; clear c20; obtain ⟨y482, hy482⟩ : ∃ y_ : List Int, y_ = (y476.set ((ji18) : Int).toNat 1) := ⟨_, rfl⟩; (replace H : (spec_MeanMeetings.l0 kj4 a0 a1 y482 y479 0) = some (r1, r2, r3) := by first | (rw [hy482]; with_reducible exact H) | (have H2_ := (Option.bind_some _ _).symm.trans H; rw [hy482]; with_reducible exact H2_) | (have H2_ := (Option.bind_some _ _).symm.trans H; with_reducible exact H2_) | with_reducible exact H | (rw [hy482]; exact H) | exact H)
        have Ny482 := Aside0.mk hy482; clear hy482; have H' := Aside0.mk H; clear H
        try go_wp2
        replace BK472 := Zm (blk_drew BK472.out); replace HB := Zm (below_drew1 HB.out)
        refine start_ (n := 10) (S := fun w' => True) (ds := []) (fl 10 0) (by kernel_rfl) rfl rfl trivial (fun hHeld => ?_); refine with_tabW spec_MeanMeetings.tab3 spec_MeanMeetings.bits3 (fun HT_ HW_ => ?_)
        generalize wc.drew = w22 at BK472 HB hHeld ⊢; refine Yu 0 49 (fl 10 1) HT_ (h := ?_); refine Yu 1 50 (fl 10 3) HT_ (h := ?_); refine Yu 2 51 (fl 10 7) HT_ (h := ?_); refine Yu 4 53 (fl 10 23) HT_ (h := ?_); refine Yu 5 54 (fl 10 55) HT_ (h := ?_); refine Yu 6 55 (fl 10 119) HT_ (h := ?_)
        refine join_ (σ := Value × Value) 1 (fl 10 511) (fun s_ => [(52, s_.1), (56, s_.2), (10, s_.1)]) (fun s_ w' => (Kd.R (Kd.int .i64) 3 w' w.heap.size (fun k_ => Zn k_ s_.2) s_.1 y476) ∧ (Kd.R (Kd.int .i64) 3 w' w.heap.size (fun k_ => Zn k_ s_.1) s_.2 y479) ∧ (w'.heap[gb472]? = some (.cells #[.int .i64 0, .int .i64 0] 30 (0, 0))) ∧ (Below w.heap.size w w')) ?_ ?_
        rotate_left
        ·
         intro hCont
         refine two_ (i := 3) (j := 7) (Ni := some 52) (Nj := some 56) (fl 10 127) (fl 10 247) rfl rfl rfl rfl (two_of HT_.out (by kernel_rfl)) (by decide) (by decide) (fun K hK => ?_) (fun K hK => ?_)
         ·
          refine Kd.R_make_step (Kd.int .i64) _ 3 (by rfl) (N := 52) rfl 24 _ _ rfl ji15 rfl rfl Try.underlying24 (.int .i64 0) 8 info3 rfl (by decide) (by omega) 0 (ok := fun _ => True) (okp := fun _ => True) rfl (fun _ hk => hk) trivial (of_decide_eq_true (by first | (with_reducible assumption) | assumption)) (Nat.le_trans (Nat.mul_le_mul_right _ (of_decide_eq_true (by first | (with_reducible assumption) | assumption) : ji15.toNat ≤ 35184372088832)) (by omega)) (Below.refl _ _) (Nat.le_refl _) ?_
          intro v477 w23 ho24 hb hg_ hnew_
          clear hg_ hnew_
          (first | rw [← Ny476.out] at ho24 | (simp only [Int.reduceToNat] at ho24; rw [← Ny476.out] at ho24))
          have HO478 := Zj ho24 HB; replace BK472 := Zk BK472 hb; replace HB := Zh HB hb; clear hb ho24
          refine hK.out _ _ trivial (fun hHeld => ?_)
          clear hK K; refine Yn 52 (h := ?_); refine Yu 8 10 (fl 10 383) HT_ (h := ?_)
          refine one_ (i := 7) (N := some 56) (fl 10 511) rfl rfl (one_of HT_.out (by kernel_rfl)) (by decide) (fun K hK => ?_)
          refine Kd.R_make_step (Kd.int .i64) _ 3 (by rfl) (N := 56) rfl 24 _ _ rfl ji15 rfl rfl Try.underlying24 (.int .i64 0) 8 info3 rfl (by decide) (by omega) 0 (ok := fun _ => True) (okp := fun _ => True) rfl (fun _ hk => hk) trivial (of_decide_eq_true (by first | (with_reducible assumption) | assumption)) (Nat.le_trans (Nat.mul_le_mul_right _ (of_decide_eq_true (by first | (with_reducible assumption) | assumption) : ji15.toNat ≤ 35184372088832)) (by omega)) (Below.refl _ _) (Nat.le_refl _) ?_
          intro v480 w25 ho26 hb hg_ hnew_
          clear hg_ hnew_
          (first | rw [← Ny479.out] at ho26 | (simp only [Int.reduceToNat] at ho26; rw [← Ny479.out] at ho26))
          have HO481 := Zj (Zv ho26 HO478) HB; replace HO478 := Zm (Kd.R_elder' (Zr HO478) (Kd.R_base ho26) hb); replace BK472 := Zk BK472 hb; replace HB := Zh HB hb; clear hb ho26
          refine hK.out _ _ trivial (fun hHeld => ?_)
          clear hK K; refine Yn 56 (h := ?_)
          exact norm_ (by simp only [putAll, Act.put, List.setIfInBounds_toArray, List.set_cons_zero, List.set_cons_succ]) (hCont (v477, v480) _ ⟨(Zc HO478), (Zc HO481), (Zb BK472), (Zl HB)⟩)
         ·
          refine Kd.R_make_step (Kd.int .i64) _ 3 (by rfl) (N := 56) rfl 24 _ _ rfl ji15 rfl rfl Try.underlying24 (.int .i64 0) 8 info3 rfl (by decide) (by omega) 0 (ok := fun _ => True) (okp := fun _ => True) rfl (fun _ hk => hk) trivial (of_decide_eq_true (by first | (with_reducible assumption) | assumption)) (Nat.le_trans (Nat.mul_le_mul_right _ (of_decide_eq_true (by first | (with_reducible assumption) | assumption) : ji15.toNat ≤ 35184372088832)) (by omega)) (Below.refl _ _) (Nat.le_refl _) ?_
          intro v480 w23 ho24 hb hg_ hnew_
          clear hg_ hnew_
          (first | rw [← Ny479.out] at ho24 | (simp only [Int.reduceToNat] at ho24; rw [← Ny479.out] at ho24))
          have HO481 := Zj ho24 HB; replace BK472 := Zk BK472 hb; replace HB := Zh HB hb; clear hb ho24
          refine hK.out _ _ trivial (fun hHeld => ?_)
          clear hK K; refine Yn 56 (h := ?_)
          refine one_ (i := 3) (N := some 52) (fl 10 255) rfl rfl (one_of HT_.out (by kernel_rfl)) (by decide) (fun K hK => ?_)
          refine Kd.R_make_step (Kd.int .i64) _ 3 (by rfl) (N := 52) rfl 24 _ _ rfl ji15 rfl rfl Try.underlying24 (.int .i64 0) 8 info3 rfl (by decide) (by omega) 0 (ok := fun _ => True) (okp := fun _ => True) rfl (fun _ hk => hk) trivial (of_decide_eq_true (by first | (with_reducible assumption) | assumption)) (Nat.le_trans (Nat.mul_le_mul_right _ (of_decide_eq_true (by first | (with_reducible assumption) | assumption) : ji15.toNat ≤ 35184372088832)) (by omega)) (Below.refl _ _) (Nat.le_refl _) ?_
          intro v477 w25 ho26 hb hg_ hnew_
          clear hg_ hnew_
          (first | rw [← Ny476.out] at ho26 | (simp only [Int.reduceToNat] at ho26; rw [← Ny476.out] at ho26))
          have HO478 := Zj (Zv ho26 HO481) HB; replace HO481 := Zm (Kd.R_elder' (Zr HO481) (Kd.R_base ho26) hb); replace BK472 := Zk BK472 hb; replace HB := Zh HB hb; clear hb ho26
          refine hK.out _ _ trivial (fun hHeld => ?_)
          clear hK K; refine Yn 52 (h := ?_); refine Yu 8 10 (fl 10 511) HT_ (h := ?_)
          exact norm_ (by simp only [putAll, Act.put, List.setIfInBounds_toArray, List.set_cons_zero, List.set_cons_succ]) (hCont (v477, v480) _ ⟨(Zc HO478), (Zc HO481), (Zb BK472), (Zl HB)⟩)
        rintro ⟨v477, v480⟩ w27 ⟨h0_, h1_, h2_, h3_⟩; (have HO478 : Aside0 (Kd.R (Kd.int .i64) 3 w27 w.heap.size (fun k_ => Zn k_ v480) v477 y476) := ⟨h0_⟩; have HO481 : Aside0 (Kd.R (Kd.int .i64) 3 w27 w.heap.size (fun k_ => Zn k_ v477) v480 y479) := ⟨h1_⟩; replace BK472 : Aside0 (w27.heap[gb472]? = some (.cells #[.int .i64 0, .int .i64 0] 30 (0, 0))) := ⟨h2_⟩; replace HB : Aside0 (Below w.heap.size w w27) := ⟨h3_⟩; clear h0_ h1_ h2_ h3_; have hHeld := trivial)
        refine norm_ (a' := ?_) ?_ ?_
        rotate_left
        ·
         simp only [putAll, Act.put, List.setIfInBounds_toArray, List.set_cons_zero, List.set_cons_succ]
         rfl
        refine Yu 9 11 (fl 10 1023) HT_ (h := ?_)
        refine done_ (done_of HT_.out (by kernel_rfl)) ?_
        have p21 : 0 ≤ ((ji18) : Int) := of_decide_eq_true (by first | (with_reducible assumption) | assumption); have q21 : ((ji18) : Int) < ((y476.length : Int) : Int) := of_decide_eq_true (by first | (with_reducible assumption) | assumption)
        obtain ⟨go21, co21, eo21, gb21, gl21, cl21, HG21⟩ := Kd.R_form HO478.out (by omega)
        (first | cases eo21 | (injection eo21 with ea_ en_ ec_; (first | subst ea_ | (injection ea_ with ea_; subst ea_)); subst ec_; clear en_))
        have GB21 := Aside0.mk gb21; have GG21 := Aside0.mk HG21; clear gb21 gl21 HG21
        obtain ⟨hx21_0, hf21_0⟩ := Kd.R_celln 0 HO478.out ((ji18) : Int) p21 q21
        replace p21 := eq_true p21
        replace q21 := eq_true q21
        obtain ⟨hy28_, hz28_⟩ := Kd.R_celln 0 HO478.out ((ji18) : Int) (of_decide_eq_true (by first | (with_reducible assumption) | assumption)) (of_decide_eq_true (by first | (with_reducible assumption) | assumption))
        have HP28 := Kd.R_putg HO478.out ((ji18) : Int) 1
        try go_wp2_with (first | ((with_reducible refine gate_store (t := 3) (p := 63) rfl ?_); refine store_event (t := 3) (p := 63) (v := ?vo_w29) (w1 := (w27.setCell ⟨go21, ((ji18) : Int).toNat, none⟩ (.int .i64 1))) ?hg ?ho ?hn ?hr ?_; (case ho => rfl); (case hg => rfl); (case hn => rfl); (case hr => first | (go_simp; done) | (go_simp; rfl)); intro w29 hw; have hg : w27.grownBy w29 (some go21) := (by rw [hw]; exact HP28.2); have hp_ : Kd.R (Kd.int .i64) 3 w29 w.heap.size (fun k_ => Zn k_ v480) (.slice (some ⟨go21, 0, none⟩) y476.length co21) y482 := (by rw [hw, Ny482.out]; first | exact HP28.1 | exact Kd.R_mono HP28.1 (fun _ hk_ => by first | exact ⟨hk_.2, hk_.1⟩ | (simp [hk_]; done) | (simp_all; done))); clear HP28; replace BK472 := Zm (blk_grown (Zb BK472) hg (Kd.R_ne HO478.out BK472.out (by decide))); replace HO478 := Zm (hp_); replace HO481 := Zm (Kd.R_after (v := (.slice (some ⟨go21, 0, none⟩) y476.length co21)) (v1 := (.slice (some ⟨go21, 0, none⟩) y476.length co21)) (ok := (fun _ => True)) (Zc HO481) hg (.inl rfl)); replace HB := Zm ((by rw [hw]; exact below_set (HB.out) GB21.out : Below w.heap.size w w29)); clear hg hw hp_))
        go_loopg [10, 11, 12] kj4 (fun kq v10 v11 v12 w' => ∃ (x10_2 : List Int) (x11_2 : List Int) (x12_2 : Int), v12 = .int .i64 x12_2 ∧ Aside0 (spec_MeanMeetings.l0 kq a0 a1 x10_2 x11_2 x12_2 = some (r1, r2, r3)) ∧ Aside0 (kq ≤ kj4) ∧ Aside0 (Kd.R (Kd.int .i64) 3 w' w.heap.size (fun k_ => Zn k_ v11) v10 x10_2) ∧ Aside0 (Kd.R (Kd.int .i64) 3 w' w.heap.size (fun k_ => Zn k_ v10) v11 x11_2) ∧ Aside0 (w'.heap[gb472]? = some (.cells #[.int .i64 0, .int .i64 0] 30 (0, 0))) ∧ Aside0 (Below w.heap.size w w'))
        case atStart => exact ⟨(y482), (y479), (0), (by first | rfl | (simp; done) | (simp [*]; done)), H', ⟨Nat.le_refl _⟩, ⟨Zr HO478⟩, ⟨Zc HO481⟩, ⟨Zb BK472⟩, ⟨Zl HB⟩⟩
        case round =>
         (try clear hji15; try clear hji15w; clear H'; try clear c1; try clear c2; try clear p2; try clear q2; try clear hx2; try clear c5; try clear p6; try clear c8; try clear c10; try clear c12; try clear c13; try clear c16; try clear c16b0; try clear c16b1; try clear c17; try clear c17b0; try clear c17b1; try clear c19; try clear c19b0; try clear c20; try clear c20b0; try clear p21; try clear q21; try clear hx21; try clear hf21; try clear c25; try clear hcz14_0; try clear hcz14_1; try clear hfz14_0; try clear hfz14_1; try clear hx21_0; try clear p2; try clear p21; try clear p6; try clear q21); obtain ⟨x10_2, x11_2, x12_2, rfl, HA, HK2, HO_10, HO_11, BK472, HB⟩ := hrel
         cases gk with
         | zero => exact absurd HA.out (by simp [spec_MeanMeetings.l0])
         | succ k2 =>
          have H := HA.out; clear HA
          simp only [spec_MeanMeetings.l0] at H
          by_cases c30 : x12_2 < a1
          ·
           rw [if_pos c30] at H; have c30b0 : decide (x12_2 < a1) = true := decide_eq_true c30; clear c30; obtain ⟨ji31, hji31⟩ : ∃ j_ : Int, (wrap64 (a0 * a0)) = j_ := ⟨_, rfl⟩; (replace H : (if 0 ≤ (ji31) then (if (ji31 : Int).toNat ≤ 35184372088832 then (spec_MeanMeetings.l1 k2 a0 a1 x11_2 x12_2 (List.replicate (ji31 : Int).toNat 0) (List.replicate (ji31 : Int).toNat 0) x10_2 (x10_2.length : Int) 0) else (none)) else (none)) = some (r1, r2, r3) := by first | (rw [hji31] at H; exact H) | (simp only [hji31] at H ⊢; exact H))
           have hji31w : (IntKind.i64.wrap (a0 * a0)) = ji31 := (i64_w _).trans hji31
           by_cases c32 : 0 ≤ (ji31)
           ·
            rw [if_pos c32] at H; have c32b0 := eq_true c32; have c32b1 : decide (0 ≤ (ji31)) = true := decide_eq_true c32; clear c32
            by_cases c33 : (ji31 : Int).toNat ≤ 35184372088832
            ·
             rw [if_pos c33] at H; have c33b0 := eq_true c33; have c33b1 : decide ((ji31 : Int).toNat ≤ 35184372088832) = true := decide_eq_true c33; clear c33; obtain ⟨y483, hy483⟩ : ∃ y_ : List Int, y_ = (List.replicate (ji31 : Int).toNat 0) := ⟨_, rfl⟩; (replace H : (spec_MeanMeetings.l1 k2 a0 a1 x11_2 x12_2 y483 (List.replicate (ji31 : Int).toNat 0) x10_2 (x10_2.length : Int) 0) = some (r1, r2, r3) := by first | (rw [hy483]; with_reducible exact H) | (have H2_ := (Option.bind_some _ _).symm.trans H; rw [hy483]; with_reducible exact H2_) | (have H2_ := (Option.bind_some _ _).symm.trans H; with_reducible exact H2_) | with_reducible exact H | (rw [hy483]; exact H) | exact H)
             have Ny483 := Aside0.mk hy483; clear hy483
             obtain ⟨y486, hy486⟩ : ∃ y_ : List Int, y_ = (List.replicate (ji31 : Int).toNat 0) := ⟨_, rfl⟩; (replace H : (spec_MeanMeetings.l1 k2 a0 a1 x11_2 x12_2 y483 y486 x10_2 (x10_2.length : Int) 0) = some (r1, r2, r3) := by first | (rw [hy486]; with_reducible exact H) | (have H2_ := (Option.bind_some _ _).symm.trans H; rw [hy486]; with_reducible exact H2_) | (have H2_ := (Option.bind_some _ _).symm.trans H; with_reducible exact H2_) | with_reducible exact H | (rw [hy486]; exact H) | exact H)
             have Ny486 := Aside0.mk hy486; clear hy486; have H' := Aside0.mk H; clear H
             try go_wp2
             replace HO_10 := Zm (Kd.R_drew HO_10.out); replace HO_11 := Zm (Kd.R_drew HO_11.out); replace BK472 := Zm (blk_drew BK472.out); replace HB := Zm (below_drew1 HB.out)
             refine start_ (n := 10) (S := fun w' => True) (ds := []) (fl 10 0) (by kernel_rfl) rfl rfl trivial (fun hHeld => ?_); refine with_tabW spec_MeanMeetings.tab8 spec_MeanMeetings.bits8 (fun HT_ HW_ => ?_)
             generalize wr.drew = w34 at HO_10 HO_11 BK472 HB hHeld ⊢; refine Yu 0 69 (fl 10 1) HT_ (h := ?_); refine Yu 1 70 (fl 10 3) HT_ (h := ?_); refine Yu 2 71 (fl 10 7) HT_ (h := ?_); refine Yu 4 73 (fl 10 23) HT_ (h := ?_); refine Yu 5 74 (fl 10 55) HT_ (h := ?_); refine Yu 6 75 (fl 10 119) HT_ (h := ?_)
             refine join_ (σ := Value × Value) 1 (fl 10 511) (fun s_ => [(72, s_.1), (76, s_.2), (13, s_.1)]) (fun s_ w' => (Kd.R (Kd.int .i64) 3 w' w.heap.size (fun k_ => Zn k_ s_.2 ∧ Zn k_ u10 ∧ Zn k_ u11) s_.1 y483) ∧ (Kd.R (Kd.int .i64) 3 w' w.heap.size (fun k_ => Zn k_ s_.1 ∧ Zn k_ u10 ∧ Zn k_ u11) s_.2 y486) ∧ (Kd.R (Kd.int .i64) 3 w' w.heap.size (fun k_ => Zn k_ s_.1 ∧ Zn k_ s_.2 ∧ Zn k_ u11) u10 x10_2) ∧ (Kd.R (Kd.int .i64) 3 w' w.heap.size (fun k_ => Zn k_ s_.1 ∧ Zn k_ s_.2 ∧ Zn k_ u10) u11 x11_2) ∧ (w'.heap[gb472]? = some (.cells #[.int .i64 0, .int .i64 0] 30 (0, 0))) ∧ (Below w.heap.size w w')) ?_ ?_
             rotate_left
             ·
              intro hCont
              refine two_ (i := 3) (j := 7) (Ni := some 72) (Nj := some 76) (fl 10 127) (fl 10 247) rfl rfl rfl rfl (two_of HT_.out (by kernel_rfl)) (by decide) (by decide) (fun K hK => ?_) (fun K hK => ?_)
              ·
               refine Kd.R_make_step (Kd.int .i64) _ 3 (by rfl) (N := 72) rfl 24 _ _ rfl ji31 rfl rfl Try.underlying24 (.int .i64 0) 8 info3 rfl (by decide) (by omega) 0 (ok := fun _ => True) (okp := fun _ => True) rfl (fun _ hk => hk) trivial (of_decide_eq_true (by first | (with_reducible assumption) | assumption)) (Nat.le_trans (Nat.mul_le_mul_right _ (of_decide_eq_true (by first | (with_reducible assumption) | assumption) : ji31.toNat ≤ 35184372088832)) (by omega)) (Below.refl _ _) (Nat.le_refl _) ?_
               intro v484 w35 ho36 hb hg_ hnew_
               clear hg_ hnew_
               (first | rw [← Ny483.out] at ho36 | (simp only [Int.reduceToNat] at ho36; rw [← Ny483.out] at ho36))
               have HO485 := Zj (Zv (Zv ho36 HO_10) HO_11) HB; replace HO_10 := Zm (Kd.R_elder' (Zr HO_10) (Kd.R_base ho36) hb); replace HO_11 := Zm (Kd.R_elder' (Zr HO_11) (Kd.R_base ho36) hb); replace BK472 := Zk BK472 hb; replace HB := Zh HB hb; clear hb ho36
               refine hK.out _ _ trivial (fun hHeld => ?_)
               clear hK K; refine Yn 72 (h := ?_); refine Yu 8 13 (fl 10 383) HT_ (h := ?_)
               refine one_ (i := 7) (N := some 76) (fl 10 511) rfl rfl (one_of HT_.out (by kernel_rfl)) (by decide) (fun K hK => ?_)
               refine Kd.R_make_step (Kd.int .i64) _ 3 (by rfl) (N := 76) rfl 24 _ _ rfl ji31 rfl rfl Try.underlying24 (.int .i64 0) 8 info3 rfl (by decide) (by omega) 0 (ok := fun _ => True) (okp := fun _ => True) rfl (fun _ hk => hk) trivial (of_decide_eq_true (by first | (with_reducible assumption) | assumption)) (Nat.le_trans (Nat.mul_le_mul_right _ (of_decide_eq_true (by first | (with_reducible assumption) | assumption) : ji31.toNat ≤ 35184372088832)) (by omega)) (Below.refl _ _) (Nat.le_refl _) ?_
               intro v487 w37 ho38 hb hg_ hnew_
               clear hg_ hnew_
               (first | rw [← Ny486.out] at ho38 | (simp only [Int.reduceToNat] at ho38; rw [← Ny486.out] at ho38))
               have HO488 := Zj (Zv (Zv (Zv ho38 HO_10) HO_11) HO485) HB; replace HO_10 := Zm (Kd.R_elder' (Zr HO_10) (Kd.R_base ho38) hb); replace HO_11 := Zm (Kd.R_elder' (Zr HO_11) (Kd.R_base ho38) hb); replace HO485 := Zm (Kd.R_elder' (Zr HO485) (Kd.R_base ho38) hb); replace BK472 := Zk BK472 hb; replace HB := Zh HB hb; clear hb ho38
               refine hK.out _ _ trivial (fun hHeld => ?_)
               clear hK K; refine Yn 76 (h := ?_)
               exact norm_ (by simp only [putAll, Act.put, List.setIfInBounds_toArray, List.set_cons_zero, List.set_cons_succ]) (hCont (v484, v487) _ ⟨(Zc HO485), (Zc HO488), (Zc HO_10), (Zc HO_11), (Zb BK472), (Zl HB)⟩)
              ·
               refine Kd.R_make_step (Kd.int .i64) _ 3 (by rfl) (N := 76) rfl 24 _ _ rfl ji31 rfl rfl Try.underlying24 (.int .i64 0) 8 info3 rfl (by decide) (by omega) 0 (ok := fun _ => True) (okp := fun _ => True) rfl (fun _ hk => hk) trivial (of_decide_eq_true (by first | (with_reducible assumption) | assumption)) (Nat.le_trans (Nat.mul_le_mul_right _ (of_decide_eq_true (by first | (with_reducible assumption) | assumption) : ji31.toNat ≤ 35184372088832)) (by omega)) (Below.refl _ _) (Nat.le_refl _) ?_
               intro v487 w35 ho36 hb hg_ hnew_
               clear hg_ hnew_
               (first | rw [← Ny486.out] at ho36 | (simp only [Int.reduceToNat] at ho36; rw [← Ny486.out] at ho36))
               have HO488 := Zj (Zv (Zv ho36 HO_10) HO_11) HB; replace HO_10 := Zm (Kd.R_elder' (Zr HO_10) (Kd.R_base ho36) hb); replace HO_11 := Zm (Kd.R_elder' (Zr HO_11) (Kd.R_base ho36) hb); replace BK472 := Zk BK472 hb; replace HB := Zh HB hb; clear hb ho36
               refine hK.out _ _ trivial (fun hHeld => ?_)
               clear hK K; refine Yn 76 (h := ?_)
               refine one_ (i := 3) (N := some 72) (fl 10 255) rfl rfl (one_of HT_.out (by kernel_rfl)) (by decide) (fun K hK => ?_)
               refine Kd.R_make_step (Kd.int .i64) _ 3 (by rfl) (N := 72) rfl 24 _ _ rfl ji31 rfl rfl Try.underlying24 (.int .i64 0) 8 info3 rfl (by decide) (by omega) 0 (ok := fun _ => True) (okp := fun _ => True) rfl (fun _ hk => hk) trivial (of_decide_eq_true (by first | (with_reducible assumption) | assumption)) (Nat.le_trans (Nat.mul_le_mul_right _ (of_decide_eq_true (by first | (with_reducible assumption) | assumption) : ji31.toNat ≤ 35184372088832)) (by omega)) (Below.refl _ _) (Nat.le_refl _) ?_
               intro v484 w37 ho38 hb hg_ hnew_
               clear hg_ hnew_
               (first | rw [← Ny483.out] at ho38 | (simp only [Int.reduceToNat] at ho38; rw [← Ny483.out] at ho38))
               have HO485 := Zj (Zv (Zv (Zv ho38 HO_10) HO_11) HO488) HB; replace HO_10 := Zm (Kd.R_elder' (Zr HO_10) (Kd.R_base ho38) hb); replace HO_11 := Zm (Kd.R_elder' (Zr HO_11) (Kd.R_base ho38) hb); replace HO488 := Zm (Kd.R_elder' (Zr HO488) (Kd.R_base ho38) hb); replace BK472 := Zk BK472 hb; replace HB := Zh HB hb; clear hb ho38
               refine hK.out _ _ trivial (fun hHeld => ?_)
               clear hK K; refine Yn 72 (h := ?_); refine Yu 8 13 (fl 10 511) HT_ (h := ?_)
               exact norm_ (by simp only [putAll, Act.put, List.setIfInBounds_toArray, List.set_cons_zero, List.set_cons_succ]) (hCont (v484, v487) _ ⟨(Zc HO485), (Zc HO488), (Zc HO_10), (Zc HO_11), (Zb BK472), (Zl HB)⟩)
             rintro ⟨v484, v487⟩ w39 ⟨h0_, h1_, h2_, h3_, h4_, h5_⟩; (have HO485 : Aside0 (Kd.R (Kd.int .i64) 3 w39 w.heap.size (fun k_ => Zn k_ v487 ∧ Zn k_ u10 ∧ Zn k_ u11) v484 y483) := ⟨h0_⟩; have HO488 : Aside0 (Kd.R (Kd.int .i64) 3 w39 w.heap.size (fun k_ => Zn k_ v484 ∧ Zn k_ u10 ∧ Zn k_ u11) v487 y486) := ⟨h1_⟩; replace HO_10 : Aside0 (Kd.R (Kd.int .i64) 3 w39 w.heap.size (fun k_ => Zn k_ v484 ∧ Zn k_ v487 ∧ Zn k_ u11) u10 x10_2) := ⟨h2_⟩; replace HO_11 : Aside0 (Kd.R (Kd.int .i64) 3 w39 w.heap.size (fun k_ => Zn k_ v484 ∧ Zn k_ v487 ∧ Zn k_ u10) u11 x11_2) := ⟨h3_⟩; replace BK472 : Aside0 (w39.heap[gb472]? = some (.cells #[.int .i64 0, .int .i64 0] 30 (0, 0))) := ⟨h4_⟩; replace HB : Aside0 (Below w.heap.size w w39) := ⟨h5_⟩; clear h0_ h1_ h2_ h3_ h4_ h5_; have hHeld := trivial)
             refine norm_ (a' := ?_) ?_ ?_
             rotate_left
             ·
              simp only [putAll, Act.put, List.setIfInBounds_toArray, List.set_cons_zero, List.set_cons_succ]
              rfl
             refine Yu 9 14 (fl 10 1023) HT_ (h := ?_)
             refine done_ (done_of HT_.out (by kernel_rfl)) ?_
             obtain ⟨Ao40, co40, eo40⟩ := Kd.R_slice HO_10.out; subst eo40
             try go_wp2
             go_loopg [79] k2 (fun kq v79 w' => ∃ (x13_3 : List Int) (x14_3 : List Int) (x79_3 : Int), v79 = .int .i64 x79_3 ∧ Aside0 (spec_MeanMeetings.l1 kq a0 a1 x11_2 x12_2 x13_3 x14_3 x10_2 (x10_2.length : Int) x79_3 = some (r1, r2, r3)) ∧ Aside0 (kq ≤ k2) ∧ Aside0 (Kd.R (Kd.int .i64) 3 w' w.heap.size (fun k_ => Zn k_ v484 ∧ Zn k_ v487 ∧ Zn k_ (.slice Ao40 x10_2.length co40)) u11 x11_2) ∧ Aside0 (Kd.R (Kd.int .i64) 3 w' w.heap.size (fun k_ => Zn k_ u11 ∧ Zn k_ v487 ∧ Zn k_ (.slice Ao40 x10_2.length co40)) v484 x13_3) ∧ Aside0 (Kd.R (Kd.int .i64) 3 w' w.heap.size (fun k_ => Zn k_ u11 ∧ Zn k_ v484 ∧ Zn k_ (.slice Ao40 x10_2.length co40)) v487 x14_3) ∧ Aside0 (Kd.R (Kd.int .i64) 3 w' w.heap.size (fun k_ => Zn k_ u11 ∧ Zn k_ v484 ∧ Zn k_ v487) (.slice Ao40 x10_2.length co40) x10_2) ∧ Aside0 (w'.heap[gb472]? = some (.cells #[.int .i64 0, .int .i64 0] 30 (0, 0))) ∧ Aside0 (Below w.heap.size w w'))
             case atStart => exact ⟨(y483), (y486), (0), (by first | rfl | (simp; done) | (simp [*]; done)), H', ⟨Nat.le_refl _⟩, ⟨Zr HO_11⟩, ⟨Zc HO485⟩, ⟨Zc HO488⟩, ⟨Zc HO_10⟩, ⟨Zb BK472⟩, ⟨Zl HB⟩⟩
             case round =>
              (clear H'; (try clear c1); (try clear c2); (try clear p2); (try clear q2); (try clear hx2); (try clear c3); (try clear c5); (try clear p6); (try clear c8); (try clear c10); (try clear c12); (try clear c13); (try clear c16); (try clear c16b0); (try clear c16b1); (try clear c17); (try clear c17b0); (try clear c17b1); (try clear c19); (try clear c19b0); (try clear c20); (try clear c20b0); (try clear p21); (try clear q21); (try clear hx21); (try clear hf21); (try clear c25); (try clear c30); (try clear c30b0); (try clear c32); (try clear c32b0); (try clear c32b1); (try clear c33); (try clear c33b0); (try clear c33b1); (try clear hcz14_0); (try clear hcz14_1); (try clear hfz14_0); (try clear hfz14_1); (try clear hx21_0); (try clear p2); (try clear p21); (try clear p6); (try clear q2); (try clear q21)); obtain ⟨x13_3, x14_3, x79_3, rfl, HA, HK3, HO_11, HO_13, HO_14, HO_77, BK472, HB⟩ := hrel
              cases gk with
              | zero => exact absurd HA.out (by simp [spec_MeanMeetings.l1])
              | succ k3 =>
               have H := HA.out; clear HA
               simp only [spec_MeanMeetings.l1] at H
               by_cases c41 : x79_3 < (x10_2.length : Int)
               ·
                rw [if_pos c41] at H; have c41b0 : decide (x79_3 < (x10_2.length : Int)) = true := decide_eq_true c41; clear c41
                by_cases c42 : 0 ≤ x79_3
                ·
                 rw [if_pos c42] at H; have c42b0 : decide (0 ≤ x79_3) = true := decide_eq_true c42; clear c42
                 by_cases c43 : x79_3 < (x10_2.length : Int)
                 ·
                  rw [if_pos c43] at H; have c43b0 : decide (x79_3 < (x10_2.length : Int)) = true := decide_eq_true c43; clear c43
                  by_cases c44 : a0 = 0
                  ·
                   rw [if_pos c44] at H
                   exact absurd H (by simp)
                  ·
                   rw [if_neg c44] at H; have c44b0 : (a0 == 0) = false := beq_eq_false_iff_ne.mpr c44; have c44b1 : (a0 != 0) = true := bne_iff_ne.mpr c44; have H' := Aside0.mk H; clear H; have p489 : 0 ≤ (x79_3 : Int) := of_decide_eq_true (by first | (with_reducible assumption) | assumption); have q489 : x79_3 < (x10_2.length : Int) := of_decide_eq_true (by first | (with_reducible assumption) | assumption); obtain ⟨ad489, e489, hx489_0⟩ := Kd.at_int (Kd.R_reads' HO_77.out).2.2 x79_3 p489 q489
                   cases e489
                   replace p489 := eq_true p489
                   replace q489 := eq_true q489
                   try go_wp2
                   replace HO_11 := Zm (Kd.R_drew HO_11.out); replace HO_13 := Zm (Kd.R_drew HO_13.out); replace HO_14 := Zm (Kd.R_drew HO_14.out); replace HO_77 := Zm (Kd.R_drew HO_77.out); replace BK472 := Zm (blk_drew BK472.out); replace HB := Zm (below_drew1 HB.out)
                   refine start_ (n := 8) (S := fun w' => True) (ds := []) (fl 8 0) (by kernel_rfl) rfl rfl trivial (fun hHeld => ?_); refine with_tabW spec_MeanMeetings.tab12 spec_MeanMeetings.bits12 (fun HT_ HW_ => ?_)
                   generalize wr.drew = w45 at HO_11 HO_13 HO_14 HO_77 BK472 HB hHeld ⊢; refine Yu 0 84 (fl 8 1) HT_ (h := ?_); refine Yu 1 85 (fl 8 3) HT_ (h := ?_); refine Yu 2 86 (fl 8 7) HT_ (h := ?_); refine Yu 3 87 (fl 8 15) HT_ (h := ?_); refine Yu 4 88 (fl 8 31) HT_ (h := ?_); refine Yu 5 89 (fl 8 63) HT_ (h := ?_); refine Yu 6 17 (fl 8 127) HT_ (h := ?_); refine Yu 7 18 (fl 8 255) HT_ (h := ?_)
                   refine done_ (done_of HT_.out (by kernel_rfl)) ?_
                   try go_wp2
                   go_loopg [19] k3 (fun kq v19 w' => ∃ (x13_4 : List Int) (x14_4 : List Int) (x19_4 : Int), v19 = .int .i64 x19_4 ∧ Aside0 (spec_MeanMeetings.l2 kq a0 a1 x11_2 x12_2 x13_4 x14_4 x79_3 (rd x10_2 x79_3) (wrap64 (Int.tdiv x79_3 a0)) (Int.tmod x79_3 a0) x19_4 x10_2 (x10_2.length : Int) x79_3 = some (r1, r2, r3)) ∧ Aside0 (kq ≤ k3) ∧ Aside0 (Kd.R (Kd.int .i64) 3 w' w.heap.size (fun k_ => Zn k_ v484 ∧ Zn k_ v487 ∧ some k_ ≠ ((.slice (some ad489) x10_2.length co40) : Value).ownBlock) u11 x11_2) ∧ Aside0 (Kd.R (Kd.int .i64) 3 w' w.heap.size (fun k_ => Zn k_ u11 ∧ Zn k_ v487 ∧ some k_ ≠ ((.slice (some ad489) x10_2.length co40) : Value).ownBlock) v484 x13_4) ∧ Aside0 (Kd.R (Kd.int .i64) 3 w' w.heap.size (fun k_ => Zn k_ u11 ∧ Zn k_ v484 ∧ some k_ ≠ ((.slice (some ad489) x10_2.length co40) : Value).ownBlock) v487 x14_4) ∧ Aside0 (Kd.R (Kd.int .i64) 3 w' w.heap.size (fun k_ => Zn k_ u11 ∧ Zn k_ v484 ∧ Zn k_ v487) (.slice (some ad489) x10_2.length co40) x10_2) ∧ Aside0 (w'.heap[gb472]? = some (.cells #[.int .i64 0, .int .i64 0] 30 (0, 0))) ∧ Aside0 (Below w.heap.size w w'))
                   case atStart => exact ⟨(x13_3), (x14_3), (0), (by first | rfl | (simp; done) | (simp [*]; done)), H', ⟨Nat.le_refl _⟩, ⟨Zr HO_11⟩, ⟨Zr HO_13⟩, ⟨Zr HO_14⟩, ⟨Zr HO_77⟩, ⟨Zb BK472⟩, ⟨Zl HB⟩⟩
                   case round =>
                    (clear H'; (try clear c1); (try clear c2); (try clear p2); (try clear q2); (try clear hx2); (try clear c3); (try clear c4); (try clear p4); (try clear q4); (try clear hx4); (try clear c5); (try clear p6); (try clear c8); (try clear c10); (try clear c12); (try clear c13); (try clear c16); (try clear c16b0); (try clear c16b1); (try clear c17); (try clear c17b0); (try clear c17b1); (try clear c19); (try clear c19b0); (try clear c20); (try clear c20b0); (try clear p21); (try clear q21); (try clear hx21); (try clear hf21); (try clear c25); (try clear c30); (try clear c30b0); (try clear c32); (try clear c32b0); (try clear c32b1); (try clear c33); (try clear c33b0); (try clear c33b1); (try clear c41); (try clear c41b0); (try clear c42); (try clear c42b0); (try clear c43); (try clear c43b0); (try clear c44); (try clear c44b0); (try clear c44b1); (try clear hcz14_0); (try clear hcz14_1); (try clear hfz14_0); (try clear hfz14_1); (try clear hx21_0); (try clear hx489_0); (try clear p2); (try clear p21); (try clear p489); (try clear p6); (try clear q2); (try clear q21); (try clear q489)); obtain ⟨x13_4, x14_4, x19_4, rfl, HA, HK4, HO_11, HO_13, HO_14, HO_77, BK472, HB⟩ := hrel
                    cases gk with
                    | zero => exact absurd HA.out (by simp [spec_MeanMeetings.l2])
                    | succ k4 =>
                     have H := HA.out; clear HA
                     simp only [spec_MeanMeetings.l2] at H
                     by_cases c46 : x19_4 < (wrap64 (a0 - 1))
                     ·
                      rw [if_pos c46] at H; have c46b0 : decide (x19_4 < (wrap64 (a0 - 1))) = true := decide_eq_true c46; clear c46; replace H := Option.bind_eq_some_iff.mp H; obtain ⟨t490, A470, H⟩ := H; (replace H : ((spec_laOver.f (Int.tmod x79_3 a0) x19_4).bind fun t491 => (if 0 ≤ (wrap64 ((wrap64 (t490 * a0)) + t491)) then (if (wrap64 ((wrap64 (t490 * a0)) + t491)) < (x13_4.length : Int) then ((some (x13_4.set ((wrap64 ((wrap64 (t490 * a0)) + t491)) : Int).toNat (wrap64 ((rd x13_4 (wrap64 ((wrap64 (t490 * a0)) + t491))) + (rd x10_2 x79_3))) : List Int)).bind fun y493 => (if (wrap64 ((wrap64 (t490 * a0)) + t491)) < (x14_4.length : Int) then (if 0 ≤ x79_3 then (if x79_3 < (x11_2.length : Int) then ((some (x14_4.set ((wrap64 ((wrap64 (t490 * a0)) + t491)) : Int).toNat (wrap64 ((rd x14_4 (wrap64 ((wrap64 (t490 * a0)) + t491))) + (rd x11_2 x79_3))) : List Int)).bind fun y496 => (if t490 = (Int.tmod x79_3 a0) then (if t491 = (wrap64 (Int.tdiv x79_3 a0)) then (spec_MeanMeetings.l2 k4 a0 a1 x11_2 x12_2 y493 (y496.set ((wrap64 ((wrap64 (t490 * a0)) + t491)) : Int).toNat (wrap64 ((wrap64 ((rd x14_4 (wrap64 ((wrap64 (t490 * a0)) + t491))) + (rd x11_2 x79_3))) + (rd x10_2 x79_3)))) x79_3 (rd x10_2 x79_3) (wrap64 (Int.tdiv x79_3 a0)) (Int.tmod x79_3 a0) (wrap64 (x19_4 + 1)) x10_2 (x10_2.length : Int) x79_3) else (spec_MeanMeetings.l2 k4 a0 a1 x11_2 x12_2 y493 y496 x79_3 (rd x10_2 x79_3) (wrap64 (Int.tdiv x79_3 a0)) (Int.tmod x79_3 a0) (wrap64 (x19_4 + 1)) x10_2 (x10_2.length : Int) x79_3)) else (spec_MeanMeetings.l2 k4 a0 a1 x11_2 x12_2 y493 y496 x79_3 (rd x10_2 x79_3) (wrap64 (Int.tdiv x79_3 a0)) (Int.tmod x79_3 a0) (wrap64 (x19_4 + 1)) x10_2 (x10_2.length : Int) x79_3))) else (none)) else (none)) else (none))) else (none)) else (none))) = some (r1, r2, r3) := H); have A47 := Aside0.mk A470; clear A470; replace H := Option.bind_eq_some_iff.mp H; obtain ⟨t491, A480, H⟩ := H; (replace H : (if 0 ≤ (wrap64 ((wrap64 (t490 * a0)) + t491)) then (if (wrap64 ((wrap64 (t490 * a0)) + t491)) < (x13_4.length : Int) then ((some (x13_4.set ((wrap64 ((wrap64 (t490 * a0)) + t491)) : Int).toNat (wrap64 ((rd x13_4 (wrap64 ((wrap64 (t490 * a0)) + t491))) + (rd x10_2 x79_3))) : List Int)).bind fun y493 => (if (wrap64 ((wrap64 (t490 * a0)) + t491)) < (x14_4.length : Int) then (if 0 ≤ x79_3 then (if x79_3 < (x11_2.length : Int) then ((some (x14_4.set ((wrap64 ((wrap64 (t490 * a0)) + t491)) : Int).toNat (wrap64 ((rd x14_4 (wrap64 ((wrap64 (t490 * a0)) + t491))) + (rd x11_2 x79_3))) : List Int)).bind fun y496 => (if t490 = (Int.tmod x79_3 a0) then (if t491 = (wrap64 (Int.tdiv x79_3 a0)) then (spec_MeanMeetings.l2 k4 a0 a1 x11_2 x12_2 y493 (y496.set ((wrap64 ((wrap64 (t490 * a0)) + t491)) : Int).toNat (wrap64 ((wrap64 ((rd x14_4 (wrap64 ((wrap64 (t490 * a0)) + t491))) + (rd x11_2 x79_3))) + (rd x10_2 x79_3)))) x79_3 (rd x10_2 x79_3) (wrap64 (Int.tdiv x79_3 a0)) (Int.tmod x79_3 a0) (wrap64 (x19_4 + 1)) x10_2 (x10_2.length : Int) x79_3) else (spec_MeanMeetings.l2 k4 a0 a1 x11_2 x12_2 y493 y496 x79_3 (rd x10_2 x79_3) (wrap64 (Int.tdiv x79_3 a0)) (Int.tmod x79_3 a0) (wrap64 (x19_4 + 1)) x10_2 (x10_2.length : Int) x79_3)) else (spec_MeanMeetings.l2 k4 a0 a1 x11_2 x12_2 y493 y496 x79_3 (rd x10_2 x79_3) (wrap64 (Int.tdiv x79_3 a0)) (Int.tmod x79_3 a0) (wrap64 (x19_4 + 1)) x10_2 (x10_2.length : Int) x79_3))) else (none)) else (none)) else (none))) else (none)) else (none)) = some (r1, r2, r3) := H); have A48 := Aside0.mk A480; clear A480; obtain ⟨ji49, hji49⟩ : ∃ j_ : Int, (wrap64 ((wrap64 (t490 * a0)) + t491)) = j_ := ⟨_, rfl⟩; (replace H : (if 0 ≤ (ji49) then (if (ji49) < (x13_4.length : Int) then ((some (x13_4.set ((ji49) : Int).toNat (wrap64 ((rd x13_4 (ji49)) + (rd x10_2 x79_3))) : List Int)).bind fun y493 => (if (ji49) < (x14_4.length : Int) then (if 0 ≤ x79_3 then (if x79_3 < (x11_2.length : Int) then ((some (x14_4.set ((ji49) : Int).toNat (wrap64 ((rd x14_4 (ji49)) + (rd x11_2 x79_3))) : List Int)).bind fun y496 => (if t490 = (Int.tmod x79_3 a0) then (if t491 = (wrap64 (Int.tdiv x79_3 a0)) then (spec_MeanMeetings.l2 k4 a0 a1 x11_2 x12_2 y493 (y496.set ((ji49) : Int).toNat (wrap64 ((wrap64 ((rd x14_4 (ji49)) + (rd x11_2 x79_3))) + (rd x10_2 x79_3)))) x79_3 (rd x10_2 x79_3) (wrap64 (Int.tdiv x79_3 a0)) (Int.tmod x79_3 a0) (wrap64 (x19_4 + 1)) x10_2 (x10_2.length : Int) x79_3) else (spec_MeanMeetings.l2 k4 a0 a1 x11_2 x12_2 y493 y496 x79_3 (rd x10_2 x79_3) (wrap64 (Int.tdiv x79_3 a0)) (Int.tmod x79_3 a0) (wrap64 (x19_4 + 1)) x10_2 (x10_2.length : Int) x79_3)) else (spec_MeanMeetings.l2 k4 a0 a1 x11_2 x12_2 y493 y496 x79_3 (rd x10_2 x79_3) (wrap64 (Int.tdiv x79_3 a0)) (Int.tmod x79_3 a0) (wrap64 (x19_4 + 1)) x10_2 (x10_2.length : Int) x79_3))) else (none)) else (none)) else (none))) else (none)) else (none)) = some (r1, r2, r3) := by first | (rw [hji49] at H; exact H) | (simp only [hji49] at H ⊢; exact H))
                      (try rw [hji49] at A47)
                      (try rw [hji49] at A48)
                      have hji49w : (IntKind.i64.wrap ((wrap64 (t490 * a0)) + t491)) = ji49 := (i64_w _).trans hji49
                      by_cases c50 : 0 ≤ (ji49)
                      ·
                       rw [if_pos c50] at H; have c50b0 : decide (0 ≤ (ji49)) = true := decide_eq_true c50; clear c50
                       by_cases c51 : (ji49) < (x13_4.length : Int)
                       ·
                        rw [if_pos c51] at H; have c51b0 : decide ((ji49) < (x13_4.length : Int)) = true := decide_eq_true c51; clear c51; obtain ⟨y493, hy493⟩ : ∃ y_ : List Int, y_ = (x13_4.set ((ji49) : Int).toNat (wrap64 ((rd x13_4 (ji49)) + (rd x10_2 x79_3)))) := ⟨_, rfl⟩; (replace H : (if (ji49) < (x14_4.length : Int) then (if 0 ≤ x79_3 then (if x79_3 < (x11_2.length : Int) then ((some (x14_4.set ((ji49) : Int).toNat (wrap64 ((rd x14_4 (ji49)) + (rd x11_2 x79_3))) : List Int)).bind fun y496 => (if t490 = (Int.tmod x79_3 a0) then (if t491 = (wrap64 (Int.tdiv x79_3 a0)) then (spec_MeanMeetings.l2 k4 a0 a1 x11_2 x12_2 y493 (y496.set ((ji49) : Int).toNat (wrap64 ((wrap64 ((rd x14_4 (ji49)) + (rd x11_2 x79_3))) + (rd x10_2 x79_3)))) x79_3 (rd x10_2 x79_3) (wrap64 (Int.tdiv x79_3 a0)) (Int.tmod x79_3 a0) (wrap64 (x19_4 + 1)) x10_2 (x10_2.length : Int) x79_3) else (spec_MeanMeetings.l2 k4 a0 a1 x11_2 x12_2 y493 y496 x79_3 (rd x10_2 x79_3) (wrap64 (Int.tdiv x79_3 a0)) (Int.tmod x79_3 a0) (wrap64 (x19_4 + 1)) x10_2 (x10_2.length : Int) x79_3)) else (spec_MeanMeetings.l2 k4 a0 a1 x11_2 x12_2 y493 y496 x79_3 (rd x10_2 x79_3) (wrap64 (Int.tdiv x79_3 a0)) (Int.tmod x79_3 a0) (wrap64 (x19_4 + 1)) x10_2 (x10_2.length : Int) x79_3))) else (none)) else (none)) else (none)) = some (r1, r2, r3) := by first | (rw [hy493]; with_reducible exact H) | (have H2_ := (Option.bind_some _ _).symm.trans H; rw [hy493]; with_reducible exact H2_) | (have H2_ := (Option.bind_some _ _).symm.trans H; with_reducible exact H2_) | with_reducible exact H | (rw [hy493]; exact H) | exact H)
                        have Ny493 := Aside0.mk hy493; clear hy493
                        by_cases c53 : (ji49) < (x14_4.length : Int)
                        ·
                         rw [if_pos c53] at H; have c53b0 : decide ((ji49) < (x14_4.length : Int)) = true := decide_eq_true c53; clear c53
                         by_cases c54 : 0 ≤ x79_3
                         ·
                          rw [if_pos c54] at H; have c54b0 : decide (0 ≤ x79_3) = true := decide_eq_true c54; clear c54
                          by_cases c55 : x79_3 < (x11_2.length : Int)
                          ·
                           rw [if_pos c55] at H; have c55b0 : decide (x79_3 < (x11_2.length : Int)) = true := decide_eq_true c55; clear c55; obtain ⟨y496, hy496⟩ : ∃ y_ : List Int, y_ = (x14_4.set ((ji49) : Int).toNat (wrap64 ((rd x14_4 (ji49)) + (rd x11_2 x79_3)))) := ⟨_, rfl⟩; (replace H : (if t490 = (Int.tmod x79_3 a0) then (if t491 = (wrap64 (Int.tdiv x79_3 a0)) then (spec_MeanMeetings.l2 k4 a0 a1 x11_2 x12_2 y493 (y496.set ((ji49) : Int).toNat (wrap64 ((wrap64 ((rd x14_4 (ji49)) + (rd x11_2 x79_3))) + (rd x10_2 x79_3)))) x79_3 (rd x10_2 x79_3) (wrap64 (Int.tdiv x79_3 a0)) (Int.tmod x79_3 a0) (wrap64 (x19_4 + 1)) x10_2 (x10_2.length : Int) x79_3) else (spec_MeanMeetings.l2 k4 a0 a1 x11_2 x12_2 y493 y496 x79_3 (rd x10_2 x79_3) (wrap64 (Int.tdiv x79_3 a0)) (Int.tmod x79_3 a0) (wrap64 (x19_4 + 1)) x10_2 (x10_2.length : Int) x79_3)) else (spec_MeanMeetings.l2 k4 a0 a1 x11_2 x12_2 y493 y496 x79_3 (rd x10_2 x79_3) (wrap64 (Int.tdiv x79_3 a0)) (Int.tmod x79_3 a0) (wrap64 (x19_4 + 1)) x10_2 (x10_2.length : Int) x79_3)) = some (r1, r2, r3) := by first | (rw [hy496]; with_reducible exact H) | (have H2_ := (Option.bind_some _ _).symm.trans H; rw [hy496]; with_reducible exact H2_) | (have H2_ := (Option.bind_some _ _).symm.trans H; with_reducible exact H2_) | with_reducible exact H | (rw [hy496]; exact H) | exact H)
                           have Ny496 := Aside0.mk hy496; clear hy496
                           by_cases c57 : t490 = (Int.tmod x79_3 a0)
                           ·
                            rw [if_pos c57] at H; have c57b0 : (t490 == (Int.tmod x79_3 a0)) = true := beq_iff_eq.mpr c57; have c57b1 : (t490 != (Int.tmod x79_3 a0)) = false := bne_eq_false_iff_eq.mpr c57; clear c57
                            by_cases c58 : t491 = (wrap64 (Int.tdiv x79_3 a0))
                            ·
                             rw [if_pos c58] at H; have c58b0 : (t491 == (wrap64 (Int.tdiv x79_3 a0))) = true := beq_iff_eq.mpr c58; have c58b1 : (t491 != (wrap64 (Int.tdiv x79_3 a0))) = false := bne_eq_false_iff_eq.mpr c58; clear c58; obtain ⟨y498, hy498⟩ : ∃ y_ : List Int, y_ = (y496.set ((ji49) : Int).toNat (wrap64 ((wrap64 ((rd x14_4 (ji49)) + (rd x11_2 x79_3))) + (rd x10_2 x79_3)))) := ⟨_, rfl⟩; (replace H : (spec_MeanMeetings.l2 k4 a0 a1 x11_2 x12_2 y493 y498 x79_3 (rd x10_2 x79_3) (wrap64 (Int.tdiv x79_3 a0)) (Int.tmod x79_3 a0) (wrap64 (x19_4 + 1)) x10_2 (x10_2.length : Int) x79_3) = some (r1, r2, r3) := by first | (rw [hy498]; with_reducible exact H) | (have H2_ := (Option.bind_some _ _).symm.trans H; rw [hy498]; with_reducible exact H2_) | (have H2_ := (Option.bind_some _ _).symm.trans H; with_reducible exact H2_) | with_reducible exact H | (rw [hy498]; exact H) | exact H)
                             have Ny498 := Aside0.mk hy498; clear hy498; have H' := Aside0.mk H; clear H
                             try go_wp2_with (first | ((with_reducible refine gate_callee (f := 60) rfl ?_); refine Ga (some 98) Try.func60 #[.int .i64 (wrap64 (Int.tdiv x79_3 a0)), .int .i64 x19_4] (h := ?_); (with_reducible refine (spec_laOver.calls (wrap64 (Int.tdiv x79_3 a0)) x19_4 t490 _ A47.out).mono ?_); rintro e w' ⟨rfl, ⟨nd, rfl⟩⟩; refine ⟨_, rfl, ?_⟩; (try (rw [drewN_self wr]; generalize hq_ : World.drewN wr _ = wr; replace HO_11 : Aside0 (Kd.R (Kd.int .i64) 3 wr w.heap.size (fun k_ => Zn k_ v484 ∧ Zn k_ v487 ∧ some k_ ≠ (.slice (some ad489) x10_2.length co40 : Value).ownBlock) u11 x11_2) := ⟨by rw [← hq_]; exact (Zr HO_11)⟩; replace HO_13 : Aside0 (Kd.R (Kd.int .i64) 3 wr w.heap.size (fun k_ => Zn k_ u11 ∧ Zn k_ v487 ∧ some k_ ≠ (.slice (some ad489) x10_2.length co40 : Value).ownBlock) v484 x13_4) := ⟨by rw [← hq_]; exact (Zr HO_13)⟩; replace HO_14 : Aside0 (Kd.R (Kd.int .i64) 3 wr w.heap.size (fun k_ => Zn k_ u11 ∧ Zn k_ v484 ∧ some k_ ≠ (.slice (some ad489) x10_2.length co40 : Value).ownBlock) v487 x14_4) := ⟨by rw [← hq_]; exact (Zr HO_14)⟩; replace HO_77 : Aside0 (Kd.R (Kd.int .i64) 3 wr w.heap.size (fun k_ => Zn k_ u11 ∧ Zn k_ v484 ∧ Zn k_ v487) (.slice (some ad489) x10_2.length co40) x10_2) := ⟨by rw [← hq_]; exact (Zr HO_77)⟩; replace BK472 : Aside0 (wr.heap[gb472]? = some (.cells #[.int .i64 0, .int .i64 0] 30 (0, 0))) := ⟨by rw [← hq_]; exact (Zb BK472)⟩; replace HB : Aside0 (Below w.heap.size w wr) := ⟨by rw [← hq_]; exact (Zl HB)⟩; clear hq_))) | ((with_reducible refine gate_callee (f := 60) rfl ?_); refine Ga (some 101) Try.func60 #[.int .i64 (Int.tmod x79_3 a0), .int .i64 x19_4] (h := ?_); (with_reducible refine (spec_laOver.calls (Int.tmod x79_3 a0) x19_4 t491 _ A48.out).mono ?_); rintro e w' ⟨rfl, ⟨nd, rfl⟩⟩; refine ⟨_, rfl, ?_⟩; (try (rw [drewN_self wr]; generalize hq_ : World.drewN wr _ = wr; replace HO_11 : Aside0 (Kd.R (Kd.int .i64) 3 wr w.heap.size (fun k_ => Zn k_ v484 ∧ Zn k_ v487 ∧ some k_ ≠ (.slice (some ad489) x10_2.length co40 : Value).ownBlock) u11 x11_2) := ⟨by rw [← hq_]; exact (Zr HO_11)⟩; replace HO_13 : Aside0 (Kd.R (Kd.int .i64) 3 wr w.heap.size (fun k_ => Zn k_ u11 ∧ Zn k_ v487 ∧ some k_ ≠ (.slice (some ad489) x10_2.length co40 : Value).ownBlock) v484 x13_4) := ⟨by rw [← hq_]; exact (Zr HO_13)⟩; replace HO_14 : Aside0 (Kd.R (Kd.int .i64) 3 wr w.heap.size (fun k_ => Zn k_ u11 ∧ Zn k_ v484 ∧ some k_ ≠ (.slice (some ad489) x10_2.length co40 : Value).ownBlock) v487 x14_4) := ⟨by rw [← hq_]; exact (Zr HO_14)⟩; replace HO_77 : Aside0 (Kd.R (Kd.int .i64) 3 wr w.heap.size (fun k_ => Zn k_ u11 ∧ Zn k_ v484 ∧ Zn k_ v487) (.slice (some ad489) x10_2.length co40) x10_2) := ⟨by rw [← hq_]; exact (Zr HO_77)⟩; replace BK472 : Aside0 (wr.heap[gb472]? = some (.cells #[.int .i64 0, .int .i64 0] 30 (0, 0))) := ⟨by rw [← hq_]; exact (Zb BK472)⟩; replace HB : Aside0 (Below w.heap.size w wr) := ⟨by rw [← hq_]; exact (Zl HB)⟩; clear hq_)); obtain ⟨Ao61, co61, eo61⟩ := Kd.R_slice HO_13.out; subst eo61; have p492 : 0 ≤ ((ji49) : Int) := of_decide_eq_true (by first | (with_reducible assumption) | assumption); have q492 : (ji49) < (x13_4.length : Int) := of_decide_eq_true (by first | (with_reducible assumption) | assumption); obtain ⟨ad492, e492, hx492_0⟩ := Kd.at_int (Kd.R_reads' HO_13.out).2.2 (ji49) p492 q492; cases e492; replace p492 := eq_true p492; replace q492 := eq_true q492; have p52 : 0 ≤ ((ji49) : Int) := of_decide_eq_true (by first | (with_reducible assumption) | assumption); have q52 : ((ji49) : Int) < ((x13_4.length : Int) : Int) := of_decide_eq_true (by first | (with_reducible assumption) | assumption); obtain ⟨go52, co52, eo52, gb52, gl52, cl52, HG52⟩ := Kd.R_form HO_13.out (by omega); (first | cases eo52 | (injection eo52 with ea_ en_ ec_; (first | subst ea_ | (injection ea_ with ea_; subst ea_)); subst ec_; clear en_)); have GB52 := Aside0.mk gb52; have GG52 := Aside0.mk HG52; clear gb52 gl52 HG52; (first | simp only [add_plain] at hx492_0 | skip); obtain ⟨hx52_0, hf52_0⟩ := Kd.R_celln 0 HO_13.out ((ji49) : Int) p52 q52; replace p52 := eq_true p52; replace q52 := eq_true q52; obtain ⟨hy62_, hz62_⟩ := Kd.R_celln 0 HO_13.out ((ji49) : Int) (of_decide_eq_true (by first | (with_reducible assumption) | assumption)) (of_decide_eq_true (by first | (with_reducible assumption) | assumption)); have HP62 := Kd.R_putg HO_13.out ((ji49) : Int) (wrap64 ((rd x13_4 (ji49)) + (rd x10_2 x79_3)))) | ((with_reducible refine gate_store (t := 3) (p := 112) rfl ?_); refine store_event (t := 3) (p := 112) (v := ?vo_w63) (w1 := (wr.setCell ⟨go52, ((ji49) : Int).toNat, none⟩ (.int .i64 (wrap64 ((rd x13_4 (ji49)) + (rd x10_2 x79_3)))))) ?hg ?ho ?hn ?hr ?_; (case ho => rfl); (case hg => rfl); (case hn => rfl); (case hr => first | (go_simp; done) | (go_simp; rfl)); intro w63 hw; have hg : wr.grownBy w63 (some go52) := (by rw [hw]; exact HP62.2); have hp_ : Kd.R (Kd.int .i64) 3 w63 w.heap.size (fun k_ => Zn k_ u11 ∧ Zn k_ v487 ∧ some k_ ≠ (.slice (some ad489) x10_2.length co40 : Value).ownBlock) (.slice (some ⟨go52, 0, none⟩) x13_4.length co61) y493 := (by rw [hw, Ny493.out]; first | exact HP62.1 | exact Kd.R_mono HP62.1 (fun _ hk_ => by first | exact ⟨hk_.2, hk_.1⟩ | (simp [hk_]; done) | (simp_all; done))); clear HP62; replace HO_11 := Zm (Kd.R_after (v := (.slice (some ⟨go52, 0, none⟩) x13_4.length co61)) (v1 := (.slice (some ⟨go52, 0, none⟩) x13_4.length co61)) (ok := (fun k_ => Zn k_ v487 ∧ some k_ ≠ (.slice (some ad489) x10_2.length co40 : Value).ownBlock)) (Zc HO_11) hg (.inl rfl)); replace HO_14 := Zm (Kd.R_after (v := (.slice (some ⟨go52, 0, none⟩) x13_4.length co61)) (v1 := (.slice (some ⟨go52, 0, none⟩) x13_4.length co61)) (ok := (fun k_ => Zn k_ u11 ∧ some k_ ≠ (.slice (some ad489) x10_2.length co40 : Value).ownBlock)) (Zc HO_14) hg (.inl rfl)); replace HO_77 := Zm (Kd.R_after (v := (.slice (some ⟨go52, 0, none⟩) x13_4.length co61)) (v1 := (.slice (some ⟨go52, 0, none⟩) x13_4.length co61)) (ok := (fun k_ => Zn k_ u11 ∧ Zn k_ v487)) (Zc HO_77) hg (.inl rfl)); replace BK472 := Zm (blk_grown (Zb BK472) hg (Kd.R_ne HO_13.out BK472.out (by decide))); replace HO_13 := Zm (hp_); replace HB := Zm ((by rw [hw]; exact below_set (HB.out) GB52.out : Below w.heap.size w w63)); clear hg hw hp_))
                             replace HO_11 := Zm (Kd.R_drew HO_11.out); replace HO_13 := Zm (Kd.R_drew HO_13.out); replace HO_14 := Zm (Kd.R_drew HO_14.out); replace HO_77 := Zm (Kd.R_drew HO_77.out); replace BK472 := Zm (blk_drew BK472.out); replace HB := Zm (below_drew1 HB.out)
                             obtain ⟨Ao65, co65, eo65⟩ := Kd.R_slice HO_14.out
                             (first | subst eo65 | (injection eo65 with f1_ f2_ f3_; have f4_ := f1_.symm; have f5_ := f3_.symm; clear f1_ f2_ f3_; subst f4_; subst f5_))
                             have p494 : 0 ≤ ((ji49) : Int) := of_decide_eq_true (by first | (with_reducible assumption) | assumption); have q494 : (ji49) < (x14_4.length : Int) := of_decide_eq_true (by first | (with_reducible assumption) | assumption)
                             obtain ⟨ad494, e494, hx494_0⟩ := Kd.at_int (Kd.R_reads' HO_14.out).2.2 (ji49) p494 q494
                             cases e494
                             replace p494 := eq_true p494
                             replace q494 := eq_true q494
                             obtain ⟨Ao66, co66, eo66⟩ := Kd.R_slice HO_11.out
                             (first | subst eo66 | (injection eo66 with f1_ f2_ f3_; have f4_ := f1_.symm; have f5_ := f3_.symm; clear f1_ f2_ f3_; subst f4_; subst f5_))
                             have p495 : 0 ≤ (x79_3 : Int) := of_decide_eq_true (by first | (with_reducible assumption) | assumption); have q495 : x79_3 < (x11_2.length : Int) := of_decide_eq_true (by first | (with_reducible assumption) | assumption)
                             obtain ⟨ad495, e495, hx495_0⟩ := Kd.at_int (Kd.R_reads' HO_11.out).2.2 x79_3 p495 q495
                             cases e495
                             replace p495 := eq_true p495
                             replace q495 := eq_true q495
                             have p56 : 0 ≤ ((ji49) : Int) := of_decide_eq_true (by first | (with_reducible assumption) | assumption); have q56 : ((ji49) : Int) < ((x14_4.length : Int) : Int) := of_decide_eq_true (by first | (with_reducible assumption) | assumption)
                             obtain ⟨go56, co56, eo56, gb56, gl56, cl56, HG56⟩ := Kd.R_form HO_14.out (by omega)
                             (first | cases eo56 | (injection eo56 with ea_ en_ ec_; (first | subst ea_ | (injection ea_ with ea_; subst ea_)); subst ec_; clear en_))
                             have GB56 := Aside0.mk gb56; have GG56 := Aside0.mk HG56; clear gb56 gl56 HG56
                             (first | simp only [add_plain] at hx494_0 | skip)
                             obtain ⟨hx56_0, hf56_0⟩ := Kd.R_celln 0 HO_14.out ((ji49) : Int) p56 q56
                             replace p56 := eq_true p56
                             replace q56 := eq_true q56
                             have HP67 := Kd.R_putn HO_14.out ((ji49) : Int) (wrap64 ((rd x14_4 (ji49)) + (rd x11_2 x79_3)))
                             rw [← Ny496.out] at HP67
                             have HQ67 := Aside0.mk HP67; clear HP67
                             refine start_ (n := 15) (S := fun w' => w'.cell? ⟨go56, ((ji49)).toNat, none⟩ = some (.int .i64 (rd x14_4 (ji49))) ∧ w'.cell? (ad495.add (x79_3).toNat) = some (.int .i64 (rd x11_2 x79_3))) (ds := [14]) (fl 15 0) (by kernel_rfl) rfl rfl ⟨hx494_0, hx495_0⟩ (fun hHeld => ?_); refine with_tabW spec_MeanMeetings.tab18 spec_MeanMeetings.bits18 (fun HT_ HW_ => ?_)
                             generalize w63.drew = w64 at HO_11 HO_13 HO_14 HO_77 BK472 HB GG56 HQ67 hf56_0 hx494_0 hx495_0 hx56_0 hHeld ⊢; refine Yu 0 113 (fl 15 1) HT_ (h := ?_); refine Yu 1 114 (fl 15 3) HT_ (h := ?_); refine Yu 2 115 (fl 15 7) HT_ (h := ?_); refine Yu 3 116 (fl 15 15) HT_ (h := ?_); refine Yu 4 117 (fl 15 31) HT_ (h := ?_); refine Yu 5 118 (fl 15 63) HT_ (h := ?_); refine Yu 6 119 (fl 15 127) HT_ (h := ?_); refine Yu 8 121 (fl 15 383) HT_ (h := ?_); refine Yu 9 122 (fl 15 895) HT_ (h := ?_); refine Yu 10 123 (fl 15 1919) HT_ (h := ?_); refine Yt 7 120 (fl 15 2047) HT_ HW_ hHeld (h := ?_); refine Yt 11 124 (fl 15 4095) HT_ HW_ hHeld (h := ?_); refine Yu 12 125 (fl 15 8191) HT_ (h := ?_); refine Yu 13 126 (fl 15 16383) HT_ (h := ?_)
                             refine last_ (i := 14) (N := none) (fl 15 32767) rfl rfl (one_of HT_.out (by kernel_rfl)) (by decide) (fun K hK => ?_)
                             refine skip_ (w1 := ?_) (by rfl) rfl ?_ ?_
                             rotate_left
                             ·
                              go_simp
                              rfl
                             refine hK.out _ _ ?_
                             clear hK K
                             refine done_ (done_of HT_.out (by kernel_rfl)) ?_
                             have n0_ : Aside0 (Kd.R (Kd.int .i64) 3 (w64.setCell ⟨go56, ((ji49) : Int).toNat, none⟩ (.int .i64 (wrap64 ((rd x14_4 (ji49)) + (rd x11_2 x79_3))))) w.heap.size (fun k_ => some k_ ≠ (.slice (some ⟨go52, 0, none⟩) x13_4.length co61 : Value).ownBlock ∧ some k_ ≠ (.slice (some ⟨go56, 0, none⟩) x14_4.length co65 : Value).ownBlock ∧ some k_ ≠ (.slice (some ad489) x10_2.length co40 : Value).ownBlock) (.slice (some ad495) x11_2.length co66) x11_2) := ⟨by (with_reducible repeat (first | apply Kd.R_alloc | apply Kd.R_drewN | apply Kd.R_drew)); exact Kd.R_mono (Kd.R_far (p := ⟨go56, ((ji49) : Int).toNat, none⟩) (Kd.R_mono HO_11.out (fun k_ hk => (⟨hk, fun e_ => hk.1.1 (by rw [e_]; rfl)⟩ : _ ∧ k_ ≠ go56))) (fun _ hk => by first | exact hk.2 | (simp [hk]; done) | (simp_all; done)) (.int .i64 (wrap64 ((rd x14_4 (ji49)) + (rd x11_2 x79_3))))) (fun _ hk => by first | exact ⟨hk.1.2, ⟨hk.1.1.1, hk.1.1.2⟩⟩ | (simp [hk]; done) | (simp_all; done))⟩; have n1_ : Aside0 (Kd.R (Kd.int .i64) 3 (w64.setCell ⟨go56, ((ji49) : Int).toNat, none⟩ (.int .i64 (wrap64 ((rd x14_4 (ji49)) + (rd x11_2 x79_3))))) w.heap.size (fun k_ => some k_ ≠ (.slice (some ad495) x11_2.length co66 : Value).ownBlock ∧ some k_ ≠ (.slice (some ⟨go56, 0, none⟩) x14_4.length co65 : Value).ownBlock ∧ some k_ ≠ (.slice (some ad489) x10_2.length co40 : Value).ownBlock) (.slice (some ⟨go52, 0, none⟩) x13_4.length co61) y493) := ⟨by (with_reducible repeat (first | apply Kd.R_alloc | apply Kd.R_drewN | apply Kd.R_drew)); exact Kd.R_mono (Kd.R_far (p := ⟨go56, ((ji49) : Int).toNat, none⟩) (Kd.R_mono HO_13.out (fun k_ hk => (⟨hk, fun e_ => hk.2.1 (by rw [e_]; rfl)⟩ : _ ∧ k_ ≠ go56))) (fun _ hk => by first | exact hk.2 | (simp [hk]; done) | (simp_all; done)) (.int .i64 (wrap64 ((rd x14_4 (ji49)) + (rd x11_2 x79_3))))) (fun _ hk => by first | exact ⟨hk.1.1, ⟨hk.1.2.1, hk.1.2.2⟩⟩ | (simp [hk]; done) | (simp_all; done))⟩; have n2_ : Aside0 (Kd.R (Kd.int .i64) 3 (w64.setCell ⟨go56, ((ji49) : Int).toNat, none⟩ (.int .i64 (wrap64 ((rd x14_4 (ji49)) + (rd x11_2 x79_3))))) w.heap.size (fun k_ => some k_ ≠ (.slice (some ad495) x11_2.length co66 : Value).ownBlock ∧ some k_ ≠ (.slice (some ⟨go52, 0, none⟩) x13_4.length co61 : Value).ownBlock ∧ some k_ ≠ (.slice (some ad489) x10_2.length co40 : Value).ownBlock) (.slice (some ⟨go56, 0, none⟩) x14_4.length co65) y496) := ⟨Zc HQ67⟩; have n3_ : Aside0 (Kd.R (Kd.int .i64) 3 (w64.setCell ⟨go56, ((ji49) : Int).toNat, none⟩ (.int .i64 (wrap64 ((rd x14_4 (ji49)) + (rd x11_2 x79_3))))) w.heap.size (fun k_ => some k_ ≠ (.slice (some ad495) x11_2.length co66 : Value).ownBlock ∧ some k_ ≠ (.slice (some ⟨go52, 0, none⟩) x13_4.length co61 : Value).ownBlock ∧ some k_ ≠ (.slice (some ⟨go56, 0, none⟩) x14_4.length co65 : Value).ownBlock) (.slice (some ad489) x10_2.length co40) x10_2) := ⟨by (with_reducible repeat (first | apply Kd.R_alloc | apply Kd.R_drewN | apply Kd.R_drew)); exact Kd.R_mono (Kd.R_far (p := ⟨go56, ((ji49) : Int).toNat, none⟩) (Kd.R_mono HO_77.out (fun k_ hk => (⟨hk, fun e_ => hk.1.2 (by rw [e_]; rfl)⟩ : _ ∧ k_ ≠ go56))) (fun _ hk => by first | exact hk.2 | (simp [hk]; done) | (simp_all; done)) (.int .i64 (wrap64 ((rd x14_4 (ji49)) + (rd x11_2 x79_3))))) (fun _ hk => by first | exact ⟨hk.1.1.1, ⟨hk.1.2, hk.1.1.2⟩⟩ | (simp [hk]; done) | (simp_all; done))⟩; have n4_ : Aside0 ((w64.setCell ⟨go56, ((ji49) : Int).toNat, none⟩ (.int .i64 (wrap64 ((rd x14_4 (ji49)) + (rd x11_2 x79_3))))).heap[gb472]? = some (.cells #[.int .i64 0, .int .i64 0] 30 (0, 0))) := ⟨by (with_reducible repeat (first | refine blk_drewN ?_ _ | refine blk_drew ?_ | refine blk_alloc ?_ _)); refine blk_far ?_ (by have h_ := Kd.R_ne HO_14.out BK472.out (by decide); intro e_; exact h_ (by rw [e_]; rfl)) _; (with_reducible repeat (first | refine blk_drewN ?_ _ | refine blk_drew ?_ | refine blk_alloc ?_ _)); exact BK472.out⟩; have n5_ : Aside0 (Below w.heap.size w (w64.setCell ⟨go56, ((ji49) : Int).toNat, none⟩ (.int .i64 (wrap64 ((rd x14_4 (ji49)) + (rd x11_2 x79_3)))))) := ⟨by repeat (first | (with_reducible first | exact HB.out | apply below_alloc | apply pw_below_drewN | apply below_drew1 | refine below_set ?_ GB56.out | refine below_set ?_ GE472.out) | exact HB.out)⟩
                             (try clear HO_11); (try clear HO_13); (try clear HO_14); (try clear HO_77); (try clear BK472); (try clear HB); generalize (w64.setCell ⟨go56, ((ji49) : Int).toNat, none⟩ (.int .i64 (wrap64 ((rd x14_4 (ji49)) + (rd x11_2 x79_3))))) = w68 at n0_ n1_ n2_ n3_ n4_ n5_ ⊢; have HO_11 := n0_; have HO_13 := n1_; have HO_14 := n2_; have HO_77 := n3_; have BK472 := n4_; have HB := n5_; clear n0_ n1_ n2_ n3_ n4_ n5_; have p59 : 0 ≤ ((ji49) : Int) := of_decide_eq_true (by first | (with_reducible assumption) | assumption); have q59 : ((ji49) : Int) < ((x14_4.length : Int) : Int) := of_decide_eq_true (by first | (with_reducible assumption) | assumption)
                             replace p59 := eq_true p59
                             replace q59 := eq_true q59
                             have p60 : 0 ≤ ((ji49) : Int) := of_decide_eq_true (by first | (with_reducible assumption) | assumption); have q60 : ((ji49) : Int) < ((x14_4.length : Int) : Int) := of_decide_eq_true (by first | (with_reducible assumption) | assumption)
                             replace p60 := eq_true p60
                             replace q60 := eq_true q60
                             obtain ⟨hy69_, hz69_⟩ := Kd.R_celln 0 HO_14.out ((ji49) : Int) (of_decide_eq_true (by first | (with_reducible assumption) | assumption)) (of_decide_eq_true (by first | (with_reducible assumption) | assumption))
                             have HP69 := Kd.R_putg HO_14.out ((ji49) : Int) (wrap64 ((wrap64 ((rd x14_4 (ji49)) + (rd x11_2 x79_3))) + (rd x10_2 x79_3)))
                             have hrr_ : rdOf 0 y496 ji49 = (wrap64 ((rd x14_4 (ji49)) + (rd x11_2 x79_3))) := by
                              have hj1_ : 0 ≤ ji49 := of_decide_eq_true (by assumption); have hj2_ : ji49 < (x14_4.length : Int) := of_decide_eq_true (by assumption)
                              rw [Ny496.out]
                              unfold rdOf
                              rw [List.getD_eq_getElem?_getD, List.getElem?_set_self (by omega)]
                              rfl
                             try go_wp2_with (first | ((with_reducible refine gate_store (t := 3) (p := 145) rfl ?_); refine store_event (t := 3) (p := 145) (v := ?vo_w70) (w1 := (w68.setCell ⟨go56, ((ji49) : Int).toNat, none⟩ (.int .i64 (wrap64 ((wrap64 ((rd x14_4 (ji49)) + (rd x11_2 x79_3))) + (rd x10_2 x79_3)))))) ?hg ?ho ?hn ?hr ?_; (case ho => rfl); (case hg => rfl); (case hn => rfl); (case hr => first | (go_simp; done) | (go_simp; rfl) | (go_simp; rw [hrr_])); intro w70 hw; have hg : w68.grownBy w70 (some go56) := (by rw [hw]; exact HP69.2); have hp_ : Kd.R (Kd.int .i64) 3 w70 w.heap.size (fun k_ => some k_ ≠ (.slice (some ad495) x11_2.length co66 : Value).ownBlock ∧ some k_ ≠ (.slice (some ⟨go52, 0, none⟩) x13_4.length co61 : Value).ownBlock ∧ some k_ ≠ (.slice (some ad489) x10_2.length co40 : Value).ownBlock) (.slice (some ⟨go56, 0, none⟩) x14_4.length co65) y498 := (by rw [hw, Ny498.out]; first | exact HP69.1 | exact Kd.R_mono HP69.1 (fun _ hk_ => by first | exact ⟨hk_.2, hk_.1⟩ | (simp [hk_]; done) | (simp_all; done))); clear HP69; replace HO_11 := Zm (Kd.R_after (v := (.slice (some ⟨go56, 0, none⟩) x14_4.length co65)) (v1 := (.slice (some ⟨go56, 0, none⟩) x14_4.length co65)) (ok := (fun k_ => some k_ ≠ (.slice (some ⟨go52, 0, none⟩) x13_4.length co61 : Value).ownBlock ∧ some k_ ≠ (.slice (some ad489) x10_2.length co40 : Value).ownBlock)) (Zc HO_11) hg (.inl rfl)); replace HO_13 := Zm (Kd.R_after (v := (.slice (some ⟨go56, 0, none⟩) x14_4.length co65)) (v1 := (.slice (some ⟨go56, 0, none⟩) x14_4.length co65)) (ok := (fun k_ => some k_ ≠ (.slice (some ad495) x11_2.length co66 : Value).ownBlock ∧ some k_ ≠ (.slice (some ad489) x10_2.length co40 : Value).ownBlock)) (Zc HO_13) hg (.inl rfl)); replace HO_77 := Zm (Kd.R_after (v := (.slice (some ⟨go56, 0, none⟩) x14_4.length co65)) (v1 := (.slice (some ⟨go56, 0, none⟩) x14_4.length co65)) (ok := (fun k_ => some k_ ≠ (.slice (some ad495) x11_2.length co66 : Value).ownBlock ∧ some k_ ≠ (.slice (some ⟨go52, 0, none⟩) x13_4.length co61 : Value).ownBlock)) (Zc HO_77) hg (.inl rfl)); replace BK472 := Zm (blk_grown (Zb BK472) hg (Kd.R_ne HO_14.out BK472.out (by decide))); replace HO_14 := Zm (hp_); replace HB := Zm ((by rw [hw]; exact below_set (HB.out) GB56.out : Below w.heap.size w w70)); clear hg hw hp_))
                             go_roundg k4
                             case measure => have := HJ4.out; have := HK2.out; have := HK3.out; have := HK4.out; omega
                             case rel => exact ⟨(y493), (y498), (wrap64 (x19_4 + 1)), (by first | rfl | (simp; done) | (simp [*]; done)), H', ⟨by have := HJ4.out; have := HK2.out; have := HK3.out; have := HK4.out; omega⟩, ⟨Zc HO_11⟩, ⟨Zc HO_13⟩, ⟨Zr HO_14⟩, ⟨Zc HO_77⟩, ⟨Zb BK472⟩, ⟨Zl HB⟩⟩
                            ·
                             rw [if_neg c58] at H; have c58b0 : (t491 == (wrap64 (Int.tdiv x79_3 a0))) = false := beq_eq_false_iff_ne.mpr c58; have c58b1 : (t491 != (wrap64 (Int.tdiv x79_3 a0))) = true := bne_iff_ne.mpr c58; have H' := Aside0.mk H; clear H
                             try go_wp2_with (first | ((with_reducible refine gate_callee (f := 60) rfl ?_); refine Ga (some 98) Try.func60 #[.int .i64 (wrap64 (Int.tdiv x79_3 a0)), .int .i64 x19_4] (h := ?_); (with_reducible refine (spec_laOver.calls (wrap64 (Int.tdiv x79_3 a0)) x19_4 t490 _ A47.out).mono ?_); rintro e w' ⟨rfl, ⟨nd, rfl⟩⟩; refine ⟨_, rfl, ?_⟩; (try (rw [drewN_self wr]; generalize hq_ : World.drewN wr _ = wr; replace HO_11 : Aside0 (Kd.R (Kd.int .i64) 3 wr w.heap.size (fun k_ => Zn k_ v484 ∧ Zn k_ v487 ∧ some k_ ≠ (.slice (some ad489) x10_2.length co40 : Value).ownBlock) u11 x11_2) := ⟨by rw [← hq_]; exact (Zr HO_11)⟩; replace HO_13 : Aside0 (Kd.R (Kd.int .i64) 3 wr w.heap.size (fun k_ => Zn k_ u11 ∧ Zn k_ v487 ∧ some k_ ≠ (.slice (some ad489) x10_2.length co40 : Value).ownBlock) v484 x13_4) := ⟨by rw [← hq_]; exact (Zr HO_13)⟩; replace HO_14 : Aside0 (Kd.R (Kd.int .i64) 3 wr w.heap.size (fun k_ => Zn k_ u11 ∧ Zn k_ v484 ∧ some k_ ≠ (.slice (some ad489) x10_2.length co40 : Value).ownBlock) v487 x14_4) := ⟨by rw [← hq_]; exact (Zr HO_14)⟩; replace HO_77 : Aside0 (Kd.R (Kd.int .i64) 3 wr w.heap.size (fun k_ => Zn k_ u11 ∧ Zn k_ v484 ∧ Zn k_ v487) (.slice (some ad489) x10_2.length co40) x10_2) := ⟨by rw [← hq_]; exact (Zr HO_77)⟩; replace BK472 : Aside0 (wr.heap[gb472]? = some (.cells #[.int .i64 0, .int .i64 0] 30 (0, 0))) := ⟨by rw [← hq_]; exact (Zb BK472)⟩; replace HB : Aside0 (Below w.heap.size w wr) := ⟨by rw [← hq_]; exact (Zl HB)⟩; clear hq_))) | ((with_reducible refine gate_callee (f := 60) rfl ?_); refine Ga (some 101) Try.func60 #[.int .i64 (Int.tmod x79_3 a0), .int .i64 x19_4] (h := ?_); (with_reducible refine (spec_laOver.calls (Int.tmod x79_3 a0) x19_4 t491 _ A48.out).mono ?_); rintro e w' ⟨rfl, ⟨nd, rfl⟩⟩; refine ⟨_, rfl, ?_⟩; (try (rw [drewN_self wr]; generalize hq_ : World.drewN wr _ = wr; replace HO_11 : Aside0 (Kd.R (Kd.int .i64) 3 wr w.heap.size (fun k_ => Zn k_ v484 ∧ Zn k_ v487 ∧ some k_ ≠ (.slice (some ad489) x10_2.length co40 : Value).ownBlock) u11 x11_2) := ⟨by rw [← hq_]; exact (Zr HO_11)⟩; replace HO_13 : Aside0 (Kd.R (Kd.int .i64) 3 wr w.heap.size (fun k_ => Zn k_ u11 ∧ Zn k_ v487 ∧ some k_ ≠ (.slice (some ad489) x10_2.length co40 : Value).ownBlock) v484 x13_4) := ⟨by rw [← hq_]; exact (Zr HO_13)⟩; replace HO_14 : Aside0 (Kd.R (Kd.int .i64) 3 wr w.heap.size (fun k_ => Zn k_ u11 ∧ Zn k_ v484 ∧ some k_ ≠ (.slice (some ad489) x10_2.length co40 : Value).ownBlock) v487 x14_4) := ⟨by rw [← hq_]; exact (Zr HO_14)⟩; replace HO_77 : Aside0 (Kd.R (Kd.int .i64) 3 wr w.heap.size (fun k_ => Zn k_ u11 ∧ Zn k_ v484 ∧ Zn k_ v487) (.slice (some ad489) x10_2.length co40) x10_2) := ⟨by rw [← hq_]; exact (Zr HO_77)⟩; replace BK472 : Aside0 (wr.heap[gb472]? = some (.cells #[.int .i64 0, .int .i64 0] 30 (0, 0))) := ⟨by rw [← hq_]; exact (Zb BK472)⟩; replace HB : Aside0 (Below w.heap.size w wr) := ⟨by rw [← hq_]; exact (Zl HB)⟩; clear hq_)); obtain ⟨Ao71, co71, eo71⟩ := Kd.R_slice HO_13.out; subst eo71; have p492 : 0 ≤ ((ji49) : Int) := of_decide_eq_true (by first | (with_reducible assumption) | assumption); have q492 : (ji49) < (x13_4.length : Int) := of_decide_eq_true (by first | (with_reducible assumption) | assumption); obtain ⟨ad492, e492, hx492_0⟩ := Kd.at_int (Kd.R_reads' HO_13.out).2.2 (ji49) p492 q492; cases e492; replace p492 := eq_true p492; replace q492 := eq_true q492; have p52 : 0 ≤ ((ji49) : Int) := of_decide_eq_true (by first | (with_reducible assumption) | assumption); have q52 : ((ji49) : Int) < ((x13_4.length : Int) : Int) := of_decide_eq_true (by first | (with_reducible assumption) | assumption); obtain ⟨go52, co52, eo52, gb52, gl52, cl52, HG52⟩ := Kd.R_form HO_13.out (by omega); (first | cases eo52 | (injection eo52 with ea_ en_ ec_; (first | subst ea_ | (injection ea_ with ea_; subst ea_)); subst ec_; clear en_)); have GB52 := Aside0.mk gb52; have GG52 := Aside0.mk HG52; clear gb52 gl52 HG52; (first | simp only [add_plain] at hx492_0 | skip); obtain ⟨hx52_0, hf52_0⟩ := Kd.R_celln 0 HO_13.out ((ji49) : Int) p52 q52; replace p52 := eq_true p52; replace q52 := eq_true q52; obtain ⟨hy72_, hz72_⟩ := Kd.R_celln 0 HO_13.out ((ji49) : Int) (of_decide_eq_true (by first | (with_reducible assumption) | assumption)) (of_decide_eq_true (by first | (with_reducible assumption) | assumption)); have HP72 := Kd.R_putg HO_13.out ((ji49) : Int) (wrap64 ((rd x13_4 (ji49)) + (rd x10_2 x79_3)))) | ((with_reducible refine gate_store (t := 3) (p := 112) rfl ?_); refine store_event (t := 3) (p := 112) (v := ?vo_w73) (w1 := (wr.setCell ⟨go52, ((ji49) : Int).toNat, none⟩ (.int .i64 (wrap64 ((rd x13_4 (ji49)) + (rd x10_2 x79_3)))))) ?hg ?ho ?hn ?hr ?_; (case ho => rfl); (case hg => rfl); (case hn => rfl); (case hr => first | (go_simp; done) | (go_simp; rfl)); intro w73 hw; have hg : wr.grownBy w73 (some go52) := (by rw [hw]; exact HP72.2); have hp_ : Kd.R (Kd.int .i64) 3 w73 w.heap.size (fun k_ => Zn k_ u11 ∧ Zn k_ v487 ∧ some k_ ≠ (.slice (some ad489) x10_2.length co40 : Value).ownBlock) (.slice (some ⟨go52, 0, none⟩) x13_4.length co71) y493 := (by rw [hw, Ny493.out]; first | exact HP72.1 | exact Kd.R_mono HP72.1 (fun _ hk_ => by first | exact ⟨hk_.2, hk_.1⟩ | (simp [hk_]; done) | (simp_all; done))); clear HP72; replace HO_11 := Zm (Kd.R_after (v := (.slice (some ⟨go52, 0, none⟩) x13_4.length co71)) (v1 := (.slice (some ⟨go52, 0, none⟩) x13_4.length co71)) (ok := (fun k_ => Zn k_ v487 ∧ some k_ ≠ (.slice (some ad489) x10_2.length co40 : Value).ownBlock)) (Zc HO_11) hg (.inl rfl)); replace HO_14 := Zm (Kd.R_after (v := (.slice (some ⟨go52, 0, none⟩) x13_4.length co71)) (v1 := (.slice (some ⟨go52, 0, none⟩) x13_4.length co71)) (ok := (fun k_ => Zn k_ u11 ∧ some k_ ≠ (.slice (some ad489) x10_2.length co40 : Value).ownBlock)) (Zc HO_14) hg (.inl rfl)); replace HO_77 := Zm (Kd.R_after (v := (.slice (some ⟨go52, 0, none⟩) x13_4.length co71)) (v1 := (.slice (some ⟨go52, 0, none⟩) x13_4.length co71)) (ok := (fun k_ => Zn k_ u11 ∧ Zn k_ v487)) (Zc HO_77) hg (.inl rfl)); replace BK472 := Zm (blk_grown (Zb BK472) hg (Kd.R_ne HO_13.out BK472.out (by decide))); replace HO_13 := Zm (hp_); replace HB := Zm ((by rw [hw]; exact below_set (HB.out) GB52.out : Below w.heap.size w w73)); clear hg hw hp_))
                             replace HO_11 := Zm (Kd.R_drew HO_11.out); replace HO_13 := Zm (Kd.R_drew HO_13.out); replace HO_14 := Zm (Kd.R_drew HO_14.out); replace HO_77 := Zm (Kd.R_drew HO_77.out); replace BK472 := Zm (blk_drew BK472.out); replace HB := Zm (below_drew1 HB.out)
                             obtain ⟨Ao75, co75, eo75⟩ := Kd.R_slice HO_14.out
                             (first | subst eo75 | (injection eo75 with f1_ f2_ f3_; have f4_ := f1_.symm; have f5_ := f3_.symm; clear f1_ f2_ f3_; subst f4_; subst f5_))
                             have p494 : 0 ≤ ((ji49) : Int) := of_decide_eq_true (by first | (with_reducible assumption) | assumption); have q494 : (ji49) < (x14_4.length : Int) := of_decide_eq_true (by first | (with_reducible assumption) | assumption)
                             obtain ⟨ad494, e494, hx494_0⟩ := Kd.at_int (Kd.R_reads' HO_14.out).2.2 (ji49) p494 q494
                             cases e494
                             replace p494 := eq_true p494
                             replace q494 := eq_true q494
                             obtain ⟨Ao76, co76, eo76⟩ := Kd.R_slice HO_11.out
                             (first | subst eo76 | (injection eo76 with f1_ f2_ f3_; have f4_ := f1_.symm; have f5_ := f3_.symm; clear f1_ f2_ f3_; subst f4_; subst f5_))
                             have p495 : 0 ≤ (x79_3 : Int) := of_decide_eq_true (by first | (with_reducible assumption) | assumption); have q495 : x79_3 < (x11_2.length : Int) := of_decide_eq_true (by first | (with_reducible assumption) | assumption)
                             obtain ⟨ad495, e495, hx495_0⟩ := Kd.at_int (Kd.R_reads' HO_11.out).2.2 x79_3 p495 q495
                             cases e495
                             replace p495 := eq_true p495
                             replace q495 := eq_true q495
                             have p56 : 0 ≤ ((ji49) : Int) := of_decide_eq_true (by first | (with_reducible assumption) | assumption); have q56 : ((ji49) : Int) < ((x14_4.length : Int) : Int) := of_decide_eq_true (by first | (with_reducible assumption) | assumption)
                             obtain ⟨go56, co56, eo56, gb56, gl56, cl56, HG56⟩ := Kd.R_form HO_14.out (by omega)
                             (first | cases eo56 | (injection eo56 with ea_ en_ ec_; (first | subst ea_ | (injection ea_ with ea_; subst ea_)); subst ec_; clear en_))
                             have GB56 := Aside0.mk gb56; have GG56 := Aside0.mk HG56; clear gb56 gl56 HG56
                             (first | simp only [add_plain] at hx494_0 | skip)
                             obtain ⟨hx56_0, hf56_0⟩ := Kd.R_celln 0 HO_14.out ((ji49) : Int) p56 q56
                             replace p56 := eq_true p56
                             replace q56 := eq_true q56
                             have HP77 := Kd.R_putn HO_14.out ((ji49) : Int) (wrap64 ((rd x14_4 (ji49)) + (rd x11_2 x79_3)))
                             rw [← Ny496.out] at HP77
                             have HQ77 := Aside0.mk HP77; clear HP77
                             refine start_ (n := 15) (S := fun w' => w'.cell? ⟨go56, ((ji49)).toNat, none⟩ = some (.int .i64 (rd x14_4 (ji49))) ∧ w'.cell? (ad495.add (x79_3).toNat) = some (.int .i64 (rd x11_2 x79_3))) (ds := [14]) (fl 15 0) (by kernel_rfl) rfl rfl ⟨hx494_0, hx495_0⟩ (fun hHeld => ?_); refine with_tabW spec_MeanMeetings.tab18 spec_MeanMeetings.bits18 (fun HT_ HW_ => ?_)
                             generalize w73.drew = w74 at HO_11 HO_13 HO_14 HO_77 BK472 HB GG56 HQ77 hf56_0 hx494_0 hx495_0 hx56_0 hHeld ⊢; refine Yu 0 113 (fl 15 1) HT_ (h := ?_); refine Yu 1 114 (fl 15 3) HT_ (h := ?_); refine Yu 2 115 (fl 15 7) HT_ (h := ?_); refine Yu 3 116 (fl 15 15) HT_ (h := ?_); refine Yu 4 117 (fl 15 31) HT_ (h := ?_); refine Yu 5 118 (fl 15 63) HT_ (h := ?_); refine Yu 6 119 (fl 15 127) HT_ (h := ?_); refine Yu 8 121 (fl 15 383) HT_ (h := ?_); refine Yu 9 122 (fl 15 895) HT_ (h := ?_); refine Yu 10 123 (fl 15 1919) HT_ (h := ?_); refine Yt 7 120 (fl 15 2047) HT_ HW_ hHeld (h := ?_); refine Yt 11 124 (fl 15 4095) HT_ HW_ hHeld (h := ?_); refine Yu 12 125 (fl 15 8191) HT_ (h := ?_); refine Yu 13 126 (fl 15 16383) HT_ (h := ?_)
                             refine last_ (i := 14) (N := none) (fl 15 32767) rfl rfl (one_of HT_.out (by kernel_rfl)) (by decide) (fun K hK => ?_)
                             refine skip_ (w1 := ?_) (by rfl) rfl ?_ ?_
                             rotate_left
                             ·
                              go_simp
                              rfl
                             refine hK.out _ _ ?_
                             clear hK K
                             refine done_ (done_of HT_.out (by kernel_rfl)) ?_
                             try go_wp2
                             go_roundg k4
                             case measure => have := HJ4.out; have := HK2.out; have := HK3.out; have := HK4.out; omega
                             case rel => exact ⟨(y493), (y496), (wrap64 (x19_4 + 1)), (by first | rfl | (simp; done) | (simp [*]; done)), H', ⟨by have := HJ4.out; have := HK2.out; have := HK3.out; have := HK4.out; omega⟩, ⟨by (with_reducible repeat (first | apply Kd.R_alloc | apply Kd.R_drewN | apply Kd.R_drew)); exact Kd.R_mono (Kd.R_far (p := ⟨go56, ((ji49) : Int).toNat, none⟩) (Kd.R_mono HO_11.out (fun k_ hk => (⟨hk, fun e_ => hk.1.1 (by rw [e_]; rfl)⟩ : _ ∧ k_ ≠ go56))) (fun _ hk => by first | exact hk.2 | (simp [hk]; done) | (simp_all; done)) (.int .i64 (wrap64 ((rd x14_4 (ji49)) + (rd x11_2 x79_3))))) (fun _ hk => by first | exact ⟨hk.1.2, ⟨hk.1.1.1, hk.1.1.2⟩⟩ | (simp [hk]; done) | (simp_all; done))⟩, ⟨by (with_reducible repeat (first | apply Kd.R_alloc | apply Kd.R_drewN | apply Kd.R_drew)); exact Kd.R_mono (Kd.R_far (p := ⟨go56, ((ji49) : Int).toNat, none⟩) (Kd.R_mono HO_13.out (fun k_ hk => (⟨hk, fun e_ => hk.2.1 (by rw [e_]; rfl)⟩ : _ ∧ k_ ≠ go56))) (fun _ hk => by first | exact hk.2 | (simp [hk]; done) | (simp_all; done)) (.int .i64 (wrap64 ((rd x14_4 (ji49)) + (rd x11_2 x79_3))))) (fun _ hk => by first | exact ⟨hk.1.1, ⟨hk.1.2.1, hk.1.2.2⟩⟩ | (simp [hk]; done) | (simp_all; done))⟩, ⟨Zc HQ77⟩, ⟨by (with_reducible repeat (first | apply Kd.R_alloc | apply Kd.R_drewN | apply Kd.R_drew)); exact Kd.R_mono (Kd.R_far (p := ⟨go56, ((ji49) : Int).toNat, none⟩) (Kd.R_mono HO_77.out (fun k_ hk => (⟨hk, fun e_ => hk.1.2 (by rw [e_]; rfl)⟩ : _ ∧ k_ ≠ go56))) (fun _ hk => by first | exact hk.2 | (simp [hk]; done) | (simp_all; done)) (.int .i64 (wrap64 ((rd x14_4 (ji49)) + (rd x11_2 x79_3))))) (fun _ hk => by first | exact ⟨hk.1.1.1, ⟨hk.1.2, hk.1.1.2⟩⟩ | (simp [hk]; done) | (simp_all; done))⟩, ⟨by (with_reducible repeat (first | refine blk_drewN ?_ _ | refine blk_drew ?_ | refine blk_alloc ?_ _)); refine blk_far ?_ (by have h_ := Kd.R_ne HO_14.out BK472.out (by decide); intro e_; exact h_ (by rw [e_]; rfl)) _; (with_reducible repeat (first | refine blk_drewN ?_ _ | refine blk_drew ?_ | refine blk_alloc ?_ _)); exact BK472.out⟩, ⟨by repeat (first | (with_reducible first | exact HB.out | apply below_alloc | apply pw_below_drewN | apply below_drew1 | refine below_set ?_ GB56.out | refine below_set ?_ GE472.out) | exact HB.out)⟩⟩
                           ·
                            rw [if_neg c57] at H; have c57b0 : (t490 == (Int.tmod x79_3 a0)) = false := beq_eq_false_iff_ne.mpr c57; have c57b1 : (t490 != (Int.tmod x79_3 a0)) = true := bne_iff_ne.mpr c57; have H' := Aside0.mk H; clear H
                            try go_wp2_with (first | ((with_reducible refine gate_callee (f := 60) rfl ?_); refine Ga (some 98) Try.func60 #[.int .i64 (wrap64 (Int.tdiv x79_3 a0)), .int .i64 x19_4] (h := ?_); (with_reducible refine (spec_laOver.calls (wrap64 (Int.tdiv x79_3 a0)) x19_4 t490 _ A47.out).mono ?_); rintro e w' ⟨rfl, ⟨nd, rfl⟩⟩; refine ⟨_, rfl, ?_⟩; (try (rw [drewN_self wr]; generalize hq_ : World.drewN wr _ = wr; replace HO_11 : Aside0 (Kd.R (Kd.int .i64) 3 wr w.heap.size (fun k_ => Zn k_ v484 ∧ Zn k_ v487 ∧ some k_ ≠ (.slice (some ad489) x10_2.length co40 : Value).ownBlock) u11 x11_2) := ⟨by rw [← hq_]; exact (Zr HO_11)⟩; replace HO_13 : Aside0 (Kd.R (Kd.int .i64) 3 wr w.heap.size (fun k_ => Zn k_ u11 ∧ Zn k_ v487 ∧ some k_ ≠ (.slice (some ad489) x10_2.length co40 : Value).ownBlock) v484 x13_4) := ⟨by rw [← hq_]; exact (Zr HO_13)⟩; replace HO_14 : Aside0 (Kd.R (Kd.int .i64) 3 wr w.heap.size (fun k_ => Zn k_ u11 ∧ Zn k_ v484 ∧ some k_ ≠ (.slice (some ad489) x10_2.length co40 : Value).ownBlock) v487 x14_4) := ⟨by rw [← hq_]; exact (Zr HO_14)⟩; replace HO_77 : Aside0 (Kd.R (Kd.int .i64) 3 wr w.heap.size (fun k_ => Zn k_ u11 ∧ Zn k_ v484 ∧ Zn k_ v487) (.slice (some ad489) x10_2.length co40) x10_2) := ⟨by rw [← hq_]; exact (Zr HO_77)⟩; replace BK472 : Aside0 (wr.heap[gb472]? = some (.cells #[.int .i64 0, .int .i64 0] 30 (0, 0))) := ⟨by rw [← hq_]; exact (Zb BK472)⟩; replace HB : Aside0 (Below w.heap.size w wr) := ⟨by rw [← hq_]; exact (Zl HB)⟩; clear hq_))) | ((with_reducible refine gate_callee (f := 60) rfl ?_); refine Ga (some 101) Try.func60 #[.int .i64 (Int.tmod x79_3 a0), .int .i64 x19_4] (h := ?_); (with_reducible refine (spec_laOver.calls (Int.tmod x79_3 a0) x19_4 t491 _ A48.out).mono ?_); rintro e w' ⟨rfl, ⟨nd, rfl⟩⟩; refine ⟨_, rfl, ?_⟩; (try (rw [drewN_self wr]; generalize hq_ : World.drewN wr _ = wr; replace HO_11 : Aside0 (Kd.R (Kd.int .i64) 3 wr w.heap.size (fun k_ => Zn k_ v484 ∧ Zn k_ v487 ∧ some k_ ≠ (.slice (some ad489) x10_2.length co40 : Value).ownBlock) u11 x11_2) := ⟨by rw [← hq_]; exact (Zr HO_11)⟩; replace HO_13 : Aside0 (Kd.R (Kd.int .i64) 3 wr w.heap.size (fun k_ => Zn k_ u11 ∧ Zn k_ v487 ∧ some k_ ≠ (.slice (some ad489) x10_2.length co40 : Value).ownBlock) v484 x13_4) := ⟨by rw [← hq_]; exact (Zr HO_13)⟩; replace HO_14 : Aside0 (Kd.R (Kd.int .i64) 3 wr w.heap.size (fun k_ => Zn k_ u11 ∧ Zn k_ v484 ∧ some k_ ≠ (.slice (some ad489) x10_2.length co40 : Value).ownBlock) v487 x14_4) := ⟨by rw [← hq_]; exact (Zr HO_14)⟩; replace HO_77 : Aside0 (Kd.R (Kd.int .i64) 3 wr w.heap.size (fun k_ => Zn k_ u11 ∧ Zn k_ v484 ∧ Zn k_ v487) (.slice (some ad489) x10_2.length co40) x10_2) := ⟨by rw [← hq_]; exact (Zr HO_77)⟩; replace BK472 : Aside0 (wr.heap[gb472]? = some (.cells #[.int .i64 0, .int .i64 0] 30 (0, 0))) := ⟨by rw [← hq_]; exact (Zb BK472)⟩; replace HB : Aside0 (Below w.heap.size w wr) := ⟨by rw [← hq_]; exact (Zl HB)⟩; clear hq_)); obtain ⟨Ao78, co78, eo78⟩ := Kd.R_slice HO_13.out; subst eo78; have p492 : 0 ≤ ((ji49) : Int) := of_decide_eq_true (by first | (with_reducible assumption) | assumption); have q492 : (ji49) < (x13_4.length : Int) := of_decide_eq_true (by first | (with_reducible assumption) | assumption); obtain ⟨ad492, e492, hx492_0⟩ := Kd.at_int (Kd.R_reads' HO_13.out).2.2 (ji49) p492 q492; cases e492; replace p492 := eq_true p492; replace q492 := eq_true q492; have p52 : 0 ≤ ((ji49) : Int) := of_decide_eq_true (by first | (with_reducible assumption) | assumption); have q52 : ((ji49) : Int) < ((x13_4.length : Int) : Int) := of_decide_eq_true (by first | (with_reducible assumption) | assumption); obtain ⟨go52, co52, eo52, gb52, gl52, cl52, HG52⟩ := Kd.R_form HO_13.out (by omega); (first | cases eo52 | (injection eo52 with ea_ en_ ec_; (first | subst ea_ | (injection ea_ with ea_; subst ea_)); subst ec_; clear en_)); have GB52 := Aside0.mk gb52; have GG52 := Aside0.mk HG52; clear gb52 gl52 HG52; (first | simp only [add_plain] at hx492_0 | skip); obtain ⟨hx52_0, hf52_0⟩ := Kd.R_celln 0 HO_13.out ((ji49) : Int) p52 q52; replace p52 := eq_true p52; replace q52 := eq_true q52; obtain ⟨hy79_, hz79_⟩ := Kd.R_celln 0 HO_13.out ((ji49) : Int) (of_decide_eq_true (by first | (with_reducible assumption) | assumption)) (of_decide_eq_true (by first | (with_reducible assumption) | assumption)); have HP79 := Kd.R_putg HO_13.out ((ji49) : Int) (wrap64 ((rd x13_4 (ji49)) + (rd x10_2 x79_3)))) | ((with_reducible refine gate_store (t := 3) (p := 112) rfl ?_); refine store_event (t := 3) (p := 112) (v := ?vo_w80) (w1 := (wr.setCell ⟨go52, ((ji49) : Int).toNat, none⟩ (.int .i64 (wrap64 ((rd x13_4 (ji49)) + (rd x10_2 x79_3)))))) ?hg ?ho ?hn ?hr ?_; (case ho => rfl); (case hg => rfl); (case hn => rfl); (case hr => first | (go_simp; done) | (go_simp; rfl)); intro w80 hw; have hg : wr.grownBy w80 (some go52) := (by rw [hw]; exact HP79.2); have hp_ : Kd.R (Kd.int .i64) 3 w80 w.heap.size (fun k_ => Zn k_ u11 ∧ Zn k_ v487 ∧ some k_ ≠ (.slice (some ad489) x10_2.length co40 : Value).ownBlock) (.slice (some ⟨go52, 0, none⟩) x13_4.length co78) y493 := (by rw [hw, Ny493.out]; first | exact HP79.1 | exact Kd.R_mono HP79.1 (fun _ hk_ => by first | exact ⟨hk_.2, hk_.1⟩ | (simp [hk_]; done) | (simp_all; done))); clear HP79; replace HO_11 := Zm (Kd.R_after (v := (.slice (some ⟨go52, 0, none⟩) x13_4.length co78)) (v1 := (.slice (some ⟨go52, 0, none⟩) x13_4.length co78)) (ok := (fun k_ => Zn k_ v487 ∧ some k_ ≠ (.slice (some ad489) x10_2.length co40 : Value).ownBlock)) (Zc HO_11) hg (.inl rfl)); replace HO_14 := Zm (Kd.R_after (v := (.slice (some ⟨go52, 0, none⟩) x13_4.length co78)) (v1 := (.slice (some ⟨go52, 0, none⟩) x13_4.length co78)) (ok := (fun k_ => Zn k_ u11 ∧ some k_ ≠ (.slice (some ad489) x10_2.length co40 : Value).ownBlock)) (Zc HO_14) hg (.inl rfl)); replace HO_77 := Zm (Kd.R_after (v := (.slice (some ⟨go52, 0, none⟩) x13_4.length co78)) (v1 := (.slice (some ⟨go52, 0, none⟩) x13_4.length co78)) (ok := (fun k_ => Zn k_ u11 ∧ Zn k_ v487)) (Zc HO_77) hg (.inl rfl)); replace BK472 := Zm (blk_grown (Zb BK472) hg (Kd.R_ne HO_13.out BK472.out (by decide))); replace HO_13 := Zm (hp_); replace HB := Zm ((by rw [hw]; exact below_set (HB.out) GB52.out : Below w.heap.size w w80)); clear hg hw hp_))
                            replace HO_11 := Zm (Kd.R_drew HO_11.out); replace HO_13 := Zm (Kd.R_drew HO_13.out); replace HO_14 := Zm (Kd.R_drew HO_14.out); replace HO_77 := Zm (Kd.R_drew HO_77.out); replace BK472 := Zm (blk_drew BK472.out); replace HB := Zm (below_drew1 HB.out)
                            obtain ⟨Ao82, co82, eo82⟩ := Kd.R_slice HO_14.out
                            (first | subst eo82 | (injection eo82 with f1_ f2_ f3_; have f4_ := f1_.symm; have f5_ := f3_.symm; clear f1_ f2_ f3_; subst f4_; subst f5_))
                            have p494 : 0 ≤ ((ji49) : Int) := of_decide_eq_true (by first | (with_reducible assumption) | assumption); have q494 : (ji49) < (x14_4.length : Int) := of_decide_eq_true (by first | (with_reducible assumption) | assumption)
                            obtain ⟨ad494, e494, hx494_0⟩ := Kd.at_int (Kd.R_reads' HO_14.out).2.2 (ji49) p494 q494
                            cases e494
                            replace p494 := eq_true p494
                            replace q494 := eq_true q494
                            obtain ⟨Ao83, co83, eo83⟩ := Kd.R_slice HO_11.out
                            (first | subst eo83 | (injection eo83 with f1_ f2_ f3_; have f4_ := f1_.symm; have f5_ := f3_.symm; clear f1_ f2_ f3_; subst f4_; subst f5_))
                            have p495 : 0 ≤ (x79_3 : Int) := of_decide_eq_true (by first | (with_reducible assumption) | assumption); have q495 : x79_3 < (x11_2.length : Int) := of_decide_eq_true (by first | (with_reducible assumption) | assumption)
                            obtain ⟨ad495, e495, hx495_0⟩ := Kd.at_int (Kd.R_reads' HO_11.out).2.2 x79_3 p495 q495
                            cases e495
                            replace p495 := eq_true p495
                            replace q495 := eq_true q495
                            have p56 : 0 ≤ ((ji49) : Int) := of_decide_eq_true (by first | (with_reducible assumption) | assumption); have q56 : ((ji49) : Int) < ((x14_4.length : Int) : Int) := of_decide_eq_true (by first | (with_reducible assumption) | assumption)
                            obtain ⟨go56, co56, eo56, gb56, gl56, cl56, HG56⟩ := Kd.R_form HO_14.out (by omega)
                            (first | cases eo56 | (injection eo56 with ea_ en_ ec_; (first | subst ea_ | (injection ea_ with ea_; subst ea_)); subst ec_; clear en_))
                            have GB56 := Aside0.mk gb56; have GG56 := Aside0.mk HG56; clear gb56 gl56 HG56
                            (first | simp only [add_plain] at hx494_0 | skip)
                            obtain ⟨hx56_0, hf56_0⟩ := Kd.R_celln 0 HO_14.out ((ji49) : Int) p56 q56
                            replace p56 := eq_true p56
                            replace q56 := eq_true q56
                            have HP84 := Kd.R_putn HO_14.out ((ji49) : Int) (wrap64 ((rd x14_4 (ji49)) + (rd x11_2 x79_3)))
                            rw [← Ny496.out] at HP84
                            have HQ84 := Aside0.mk HP84; clear HP84
                            refine start_ (n := 15) (S := fun w' => w'.cell? ⟨go56, ((ji49)).toNat, none⟩ = some (.int .i64 (rd x14_4 (ji49))) ∧ w'.cell? (ad495.add (x79_3).toNat) = some (.int .i64 (rd x11_2 x79_3))) (ds := [14]) (fl 15 0) (by kernel_rfl) rfl rfl ⟨hx494_0, hx495_0⟩ (fun hHeld => ?_); refine with_tabW spec_MeanMeetings.tab18 spec_MeanMeetings.bits18 (fun HT_ HW_ => ?_)
                            generalize w80.drew = w81 at HO_11 HO_13 HO_14 HO_77 BK472 HB GG56 HQ84 hf56_0 hx494_0 hx495_0 hx56_0 hHeld ⊢; refine Yu 0 113 (fl 15 1) HT_ (h := ?_); refine Yu 1 114 (fl 15 3) HT_ (h := ?_); refine Yu 2 115 (fl 15 7) HT_ (h := ?_); refine Yu 3 116 (fl 15 15) HT_ (h := ?_); refine Yu 4 117 (fl 15 31) HT_ (h := ?_); refine Yu 5 118 (fl 15 63) HT_ (h := ?_); refine Yu 6 119 (fl 15 127) HT_ (h := ?_); refine Yu 8 121 (fl 15 383) HT_ (h := ?_); refine Yu 9 122 (fl 15 895) HT_ (h := ?_); refine Yu 10 123 (fl 15 1919) HT_ (h := ?_); refine Yt 7 120 (fl 15 2047) HT_ HW_ hHeld (h := ?_); refine Yt 11 124 (fl 15 4095) HT_ HW_ hHeld (h := ?_); refine Yu 12 125 (fl 15 8191) HT_ (h := ?_); refine Yu 13 126 (fl 15 16383) HT_ (h := ?_)
                            refine last_ (i := 14) (N := none) (fl 15 32767) rfl rfl (one_of HT_.out (by kernel_rfl)) (by decide) (fun K hK => ?_)
                            refine skip_ (w1 := ?_) (by rfl) rfl ?_ ?_
                            rotate_left
                            ·
                             go_simp
                             rfl
                            refine hK.out _ _ ?_
                            clear hK K
                            refine done_ (done_of HT_.out (by kernel_rfl)) ?_
                            try go_wp2
                            go_roundg k4
                            case measure => have := HJ4.out; have := HK2.out; have := HK3.out; have := HK4.out; omega
                            case rel => exact ⟨(y493), (y496), (wrap64 (x19_4 + 1)), (by first | rfl | (simp; done) | (simp [*]; done)), H', ⟨by have := HJ4.out; have := HK2.out; have := HK3.out; have := HK4.out; omega⟩, ⟨by (with_reducible repeat (first | apply Kd.R_alloc | apply Kd.R_drewN | apply Kd.R_drew)); exact Kd.R_mono (Kd.R_far (p := ⟨go56, ((ji49) : Int).toNat, none⟩) (Kd.R_mono HO_11.out (fun k_ hk => (⟨hk, fun e_ => hk.1.1 (by rw [e_]; rfl)⟩ : _ ∧ k_ ≠ go56))) (fun _ hk => by first | exact hk.2 | (simp [hk]; done) | (simp_all; done)) (.int .i64 (wrap64 ((rd x14_4 (ji49)) + (rd x11_2 x79_3))))) (fun _ hk => by first | exact ⟨hk.1.2, ⟨hk.1.1.1, hk.1.1.2⟩⟩ | (simp [hk]; done) | (simp_all; done))⟩, ⟨by (with_reducible repeat (first | apply Kd.R_alloc | apply Kd.R_drewN | apply Kd.R_drew)); exact Kd.R_mono (Kd.R_far (p := ⟨go56, ((ji49) : Int).toNat, none⟩) (Kd.R_mono HO_13.out (fun k_ hk => (⟨hk, fun e_ => hk.2.1 (by rw [e_]; rfl)⟩ : _ ∧ k_ ≠ go56))) (fun _ hk => by first | exact hk.2 | (simp [hk]; done) | (simp_all; done)) (.int .i64 (wrap64 ((rd x14_4 (ji49)) + (rd x11_2 x79_3))))) (fun _ hk => by first | exact ⟨hk.1.1, ⟨hk.1.2.1, hk.1.2.2⟩⟩ | (simp [hk]; done) | (simp_all; done))⟩, ⟨Zc HQ84⟩, ⟨by (with_reducible repeat (first | apply Kd.R_alloc | apply Kd.R_drewN | apply Kd.R_drew)); exact Kd.R_mono (Kd.R_far (p := ⟨go56, ((ji49) : Int).toNat, none⟩) (Kd.R_mono HO_77.out (fun k_ hk => (⟨hk, fun e_ => hk.1.2 (by rw [e_]; rfl)⟩ : _ ∧ k_ ≠ go56))) (fun _ hk => by first | exact hk.2 | (simp [hk]; done) | (simp_all; done)) (.int .i64 (wrap64 ((rd x14_4 (ji49)) + (rd x11_2 x79_3))))) (fun _ hk => by first | exact ⟨hk.1.1.1, ⟨hk.1.2, hk.1.1.2⟩⟩ | (simp [hk]; done) | (simp_all; done))⟩, ⟨by (with_reducible repeat (first | refine blk_drewN ?_ _ | refine blk_drew ?_ | refine blk_alloc ?_ _)); refine blk_far ?_ (by have h_ := Kd.R_ne HO_14.out BK472.out (by decide); intro e_; exact h_ (by rw [e_]; rfl)) _; (with_reducible repeat (first | refine blk_drewN ?_ _ | refine blk_drew ?_ | refine blk_alloc ?_ _)); exact BK472.out⟩, ⟨by repeat (first | (with_reducible first | exact HB.out | apply below_alloc | apply pw_below_drewN | apply below_drew1 | refine below_set ?_ GB56.out | refine below_set ?_ GE472.out) | exact HB.out)⟩⟩
                          ·
                           rw [if_neg c55] at H
                           exact absurd H (by simp)
                         ·
                          rw [if_neg c54] at H
                          exact absurd H (by simp)
                        ·
                         rw [if_neg c53] at H
                         exact absurd H (by simp)
                       ·
                        rw [if_neg c51] at H
                        exact absurd H (by simp)
                      ·
                       rw [if_neg c50] at H
                       exact absurd H (by simp)
                     ·
                      rw [if_neg c46] at H; have c46b0 : decide (x19_4 < (wrap64 (a0 - 1))) = false := decide_eq_false c46; clear c46; have H' := Aside0.mk H; clear H
                      go_wp2
                      go_roundg k4
                      case measure => have := HJ4.out; have := HK2.out; have := HK3.out; have := HK4.out; omega
                      case rel => exact ⟨(x13_4), (x14_4), (wrap64 (x79_3 + 1)), (by first | rfl | (simp; done) | (simp [*]; done)), H', ⟨by have := HJ4.out; have := HK2.out; have := HK3.out; have := HK4.out; omega⟩, ⟨Zr HO_11⟩, ⟨Zr HO_13⟩, ⟨Zr HO_14⟩, ⟨Zr HO_77⟩, ⟨Zb BK472⟩, ⟨Zl HB⟩⟩
                 ·
                  rw [if_neg c43] at H
                  exact absurd H (by simp)
                ·
                 rw [if_neg c42] at H
                 exact absurd H (by simp)
               ·
                rw [if_neg c41] at H; have c41b0 : decide (x79_3 < (x10_2.length : Int)) = false := decide_eq_false c41; clear c41; have H' := Aside0.mk H; clear H
                go_wp2
                go_roundg k3
                case measure => have := HJ4.out; have := HK2.out; have := HK3.out; omega
                case rel => exact ⟨(x13_3), (x14_3), (wrap64 (x12_2 + 1)), (by first | rfl | (simp; done) | (simp [*]; done)), H', ⟨by have := HJ4.out; have := HK2.out; have := HK3.out; omega⟩, ⟨Zc HO_13⟩, ⟨Zc HO_14⟩, ⟨Zb BK472⟩, ⟨Zl HB⟩⟩
            ·
             rw [if_neg c33] at H
             exact absurd H (by simp)
           ·
            rw [if_neg c32] at H
            exact absurd H (by simp)
          ·
           rw [if_neg c30] at H; have c30b0 : decide (x12_2 < a1) = false := decide_eq_false c30; clear c30; have H' := Aside0.mk H; clear H; obtain ⟨Ao85, co85, eo85⟩ := Kd.R_slice HO_11.out; subst eo85
           go_wp2
           go_loopg [22, 151] k2 (fun kq v22 v151 w' => ∃ (x22_3 : Int) (x151_3 : Int), v22 = .int .i64 x22_3 ∧ v151 = .int .i64 x151_3 ∧ Aside0 (spec_MeanMeetings.l3 kq a0 a1 x22_3 x11_2 (x11_2.length : Int) x151_3 = some (r1, r2, r3)) ∧ Aside0 (kq ≤ k2) ∧ Aside0 (Kd.R (Kd.int .i64) 3 w' w.heap.size (fun _ => True) (.slice Ao85 x11_2.length co85) x11_2) ∧ Aside0 (w'.heap[gb472]? = some (.cells #[.int .i64 0, .int .i64 0] 30 (0, 0))) ∧ Aside0 (Below w.heap.size w w'))
           case atStart => exact ⟨(0), (0), (by first | rfl | (simp; done) | (simp [*]; done)), (by first | rfl | (simp; done) | (simp [*]; done)), H', ⟨Nat.le_refl _⟩, ⟨Zc HO_11⟩, ⟨Zb BK472⟩, ⟨Zl HB⟩⟩
           case round =>
            (clear H'; (try clear p2); (try clear c3); (try clear c4); (try clear p4); (try clear q4); (try clear hx4); (try clear c5); (try clear p5); (try clear q5); (try clear hx5); (try clear hf5); (try clear c6); (try clear p6); (try clear q6); (try clear c30); (try clear c30b0); (try clear c32); (try clear c33); (try clear c41); (try clear c41b0); (try clear c42); (try clear c43); (try clear c46); (try clear c46b0); (try clear p49); (try clear q49); (try clear hx49); (try clear c50); (try clear c51); (try clear p52); (try clear q52); (try clear hx52); (try clear hf52); (try clear c53); (try clear c54); (try clear c55); (try clear p56); (try clear q56); (try clear hx56); (try clear hf56); (try clear c57); (try clear c57b0); (try clear c57b1); (try clear c58); (try clear c58b0); (try clear c58b1); (try clear p59); (try clear q59); (try clear c60); (try clear p60); (try clear q60); (try clear p64); (try clear hx492_0); (try clear hx494_0); (try clear hx495_0); (try clear hx52_0); (try clear hx56_0); (try clear p492); (try clear p494); (try clear p495); (try clear p52); (try clear p56); (try clear p59); (try clear p60); (try clear q492); (try clear q494); (try clear q495); (try clear q52); (try clear q56); (try clear q59); (try clear q60)); obtain ⟨x22_3, x151_3, rfl, rfl, HA, HK3, HO_149, BK472, HB⟩ := hrel
            cases gk with
            | zero => exact absurd HA.out (by simp [spec_MeanMeetings.l3])
            | succ k3 =>
             have H := HA.out; clear HA
             simp only [spec_MeanMeetings.l3] at H
             by_cases c86 : x151_3 < (x11_2.length : Int)
             ·
              rw [if_pos c86] at H; have c86b0 : decide (x151_3 < (x11_2.length : Int)) = true := decide_eq_true c86; clear c86
              by_cases c87 : 0 ≤ x151_3
              ·
               rw [if_pos c87] at H; have c87b0 : decide (0 ≤ x151_3) = true := decide_eq_true c87; clear c87
               by_cases c88 : x151_3 < (x11_2.length : Int)
               ·
                rw [if_pos c88] at H; have c88b0 : decide (x151_3 < (x11_2.length : Int)) = true := decide_eq_true c88; clear c88; have H' := Aside0.mk H; clear H; have p499 : 0 ≤ (x151_3 : Int) := of_decide_eq_true (by first | (with_reducible assumption) | assumption); have q499 : x151_3 < (x11_2.length : Int) := of_decide_eq_true (by first | (with_reducible assumption) | assumption); obtain ⟨ad499, e499, hx499_0⟩ := Kd.at_int (Kd.R_reads' HO_149.out).2.2 x151_3 p499 q499
                cases e499
                replace p499 := eq_true p499
                replace q499 := eq_true q499
                go_wp2
                go_roundg k3
                case measure => have := HJ4.out; have := HK2.out; have := HK3.out; omega
                case rel => exact ⟨(wrap64 (x22_3 + (rd x11_2 x151_3))), (wrap64 (x151_3 + 1)), (by first | rfl | (simp; done) | (simp [*]; done)), (by first | rfl | (simp; done) | (simp [*]; done)), H', ⟨by have := HJ4.out; have := HK2.out; have := HK3.out; omega⟩, ⟨Zr HO_149⟩, ⟨Zb BK472⟩, ⟨Zl HB⟩⟩
               ·
                rw [if_neg c88] at H
                exact absurd H (by simp)
              ·
               rw [if_neg c87] at H
               exact absurd H (by simp)
             ·
              rw [if_neg c86] at H; have c86b0 : decide (x151_3 < (x11_2.length : Int)) = false := decide_eq_false c86; clear c86; replace H := Option.bind_eq_some_iff.mp H; obtain ⟨t500, A890, H⟩ := H; (replace H : ((spec_chRatio.f k3 x22_3 t500).bind fun bt501 => (some (bt501.1, bt501.2, true))) = some (r1, r2, r3) := H); have A89 := Aside0.mk A890; clear A890; replace H := Option.bind_eq_some_iff.mp H; obtain ⟨⟨t501, t502⟩, A900, H⟩ := H; replace H : (some (t501, t502, true)) = some (r1, r2, r3) := H; have A90 := Aside0.mk A900; clear A900
              simp only [Option.some.injEq, Prod.mk.injEq] at H
              obtain ⟨rfl, rfl, rfl⟩ := H
              go_wp2_with (first | ((with_reducible refine gate_callee (f := 45) rfl ?_); refine Ga (some 162) Try.func45 #[.int .i64 a0, .int .i64 a1] (h := ?_); (with_reducible refine (spec_chAll.calls k3 a0 a1 t500 _ A89.out).mono ?_); rintro e w' ⟨rfl, ⟨nd, rfl⟩⟩; refine ⟨_, rfl, ?_⟩; (try (rw [drewN_self wr]; generalize hq_ : World.drewN wr _ = wr; replace HO_149 : Aside0 (Kd.R (Kd.int .i64) 3 wr w.heap.size (fun _ => True) (.slice Ao85 x11_2.length co85) x11_2) := ⟨by rw [← hq_]; exact (Zr HO_149)⟩; replace BK472 : Aside0 (wr.heap[gb472]? = some (.cells #[.int .i64 0, .int .i64 0] 30 (0, 0))) := ⟨by rw [← hq_]; exact (Zb BK472)⟩; replace HB : Aside0 (Below w.heap.size w wr) := ⟨by rw [← hq_]; exact (Zl HB)⟩; clear hq_))) | ((with_reducible refine gate_callee (f := 44) rfl ?_); refine Ga (some 163) Try.func44 #[.int .i64 x22_3, .int .i64 t500] (h := ?_); (with_reducible refine (spec_chRatio.calls k3 x22_3 t500 t501 t502 _ A90.out).mono ?_); rintro e w91 ⟨rfl, hb⟩; refine ⟨_, rfl, ?_⟩; replace HO_149 := Zo HO_149 hb; replace BK472 := Zk BK472 hb; replace HB := Zh HB hb; (try clear hb); (try clear hb2); (try clear hk); (try clear hi); have hcz92_0 : w91.cell? ⟨gb472, 0, none⟩ = some (.int .i64 0) := (blk_cell BK472.out 0).trans rfl; have hcz92_1 : w91.cell? ⟨gb472, 1, none⟩ = some (.int .i64 0) := (blk_cell BK472.out 1).trans rfl; have hfz92_0 := blk_frozen BK472.out 0; have hfz92_1 := blk_frozen BK472.out 1))
              refine bodyPost_ret (results_ct rfl _ _ gb472 30 #[.int .i64 t501, .int .i64 t502] (0, 0) _ rfl (by (with_reducible repeat (first | refine blk_drewN ?_ _ | refine blk_drew ?_ | refine blk_alloc ?_ _)); refine blk_put (cs := #[.int .i64 t501, .int .i64 0]) ?_ 1 _ rfl; (with_reducible repeat (first | refine blk_drewN ?_ _ | refine blk_drew ?_ | refine blk_alloc ?_ _)); refine blk_put (cs := #[.int .i64 0, .int .i64 0]) ?_ 0 _ rfl; (with_reducible repeat (first | refine blk_drewN ?_ _ | refine blk_drew ?_ | refine blk_alloc ?_ _)); exact BK472.out) Try.underlying30 rfl (by kernel_rfl)) rfl ?_
              exact ⟨by first | rfl | (simp [errW_none, errW_some] <;> rfl) | (simp only [← hji15, ← hji18]; first | rfl | (simp [errW_none, errW_some] <;> rfl)) | (simp [*, errW_none, errW_some] <;> rfl), Zl HB⟩
       ·
        rw [if_neg c20] at H
        exact absurd H (by simp)
      ·
       rw [if_neg c19] at H
       exact absurd H (by simp)
     ·
      rw [if_neg c17] at H
      exact absurd H (by simp)
    ·
     rw [if_neg c16] at H
     exact absurd H (by simp)

end Go.Proofs.Ytabobnlpcapohaa.Q
