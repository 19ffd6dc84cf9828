/- Each function below comes to the Lean function beside it (theorems '.calls'); no condition beyond each theorem's own. Written by our program oprint.py over the kit's print. -/
import Derived.Test.YtgjamcfnpofbhaaQx0
import Derived.Test.YtgjamcfnpofbhaaQx1
import Derived.Test.YtgjamcfnpofbhaaQx10
import Derived.Test.YtgjamcfnpofbhaaQx11
import Derived.Test.YtgjamcfnpofbhaaQx15
import Derived.Test.YtgjamcfnpofbhaaQx38
namespace Go.Proofs.Ytgjamcfnpofbhaa.Q
open Go.RowKit Go.Proofs.YtgjamcfnpofbhaaW.PrintWords Go.Proofs.YtgjamcfnpofbhaaW.PrintLast Go.Proofs.YtgjamcfnpofbhaaW.PrintMore
attribute [local go_sem] max2_int min2_int max_two min_two max_three min_three max_four min_four   -- for this text's walks alone
set_option linter.unusedVariables false
set_option linter.unusedSimpArgs false

abbrev Zn (k : Nat) (v : Value) : Prop := some k ≠ v.ownBlock
theorem Zl {B : Nat} {w0 w1 w : World} (h : Aside0 (Below B w0 w1)) (hw : Below B w0 w1 → Below B w0 w := by intro h_; repeat (first | (with_reducible first | exact h_ | apply below_alloc | apply pw_below_drewN | apply below_drew1 | refine below_set ?_ (Aside0.out (by assumption))) | exact h_)) : Below B w0 w := hw h.out
theorem Zb {g : Nat} {o : Obj} {w0 w : World} (h : Aside0 (w0.heap[g]? = some o)) (hw : w0.heap[g]? = some o → w.heap[g]? = some o := by intro h_; (with_reducible repeat (first | refine blk_drewN ?_ _ | refine blk_drew ?_ | refine blk_alloc ?_ _)); exact h_) : w.heap[g]? = some o := hw h.out
theorem Zm {p : Prop} (h : p) : Aside0 p := Aside0.mk h
theorem Zf {α : Type} {d : Kd α} {e : Nat} {w : World} {base : Nat} {ok : Nat → Prop} {v : Value} {xs : List α} {g t : Nat} {cells : Array Value} (h : Aside0 (d.R e w base ok v xs)) (b : Aside0 (w.heap[g]? = some (.cells cells t (0, 0)))) (s0 s1 : Value) (ht : ∀ q, q ∈ e :: d.E → q ≠ t := by decide) : d.R e ((w.setCell ⟨g, 0, none⟩ s0).setCell ⟨g, 1, none⟩ s1) base ok v xs := Kd.R_mono (Kd.R_far (p := ⟨g, 1, none⟩) (Kd.R_far (p := ⟨g, 0, none⟩) (Kd.R_types h.out b.out ht) (fun _ hk => hk.2) s0) (fun _ hk => hk.2) s1) (fun _ h_ => h_.1)
theorem Zy {α : Type} {d : Kd α} {e : Nat} {w w2 : World} {base : Nat} {ok : Nat → Prop} {v : Value} {xs : List α} {g t : Nat} {cells : Array Value} {s0 s1 : Value} (h : Aside0 (d.R e w base ok v xs)) (b : Aside0 (w.heap[g]? = some (.cells cells t (0, 0)))) (ht : ∀ q, q ∈ e :: d.E → q ≠ t := by decide) (hw : d.R e ((w.setCell ⟨g, 0, none⟩ s0).setCell ⟨g, 1, none⟩ s1) base ok v xs → d.R e w2 base ok v xs := by intro h_; (with_reducible repeat (first | apply Kd.R_alloc | apply Kd.R_drewN | apply Kd.R_drew)); exact h_) : d.R e w2 base ok v xs := hw (Zf h b s0 s1 ht)
theorem Zt {α β γ : Type} {d : Kd α} {d1 : Kd β} {d2 : Kd γ} {e e1 e2 : Nat} {W w1 : World} {base : Nat} {ok ok1 ok2 : Nat → Prop} {u v1 v2 : Value} {xs : List α} {x1 : List β} {x2 : List γ} (h : d.R e W base ok u xs) (hb : Below W.heap.size W w1) (ho0 : d1.R e1 w1 W.heap.size ok1 v1 x1) (ho1 : d2.R e2 w1 W.heap.size ok2 v2 x2) : Aside0 (d.R e w1 base (fun k => (ok k ∧ some k ≠ v1.ownBlock) ∧ some k ≠ v2.ownBlock) u xs) := Aside0.mk (Kd.R_mono (Kd.R_told (Kd.R_told (Kd.R_old h hb) (Kd.R_base ho0)) (Kd.R_base ho1)) (fun _ h_ => h_.1))
theorem Zu {α β γ : Type} {d : Kd α} {d1 : Kd β} {d2 : Kd γ} {e e1 e2 : Nat} {w0 W w1 : World} {base : Nat} {ok ok1 ok2 : Nat → Prop} {u v1 v2 : Value} {xs : List α} {x1 : List β} {x2 : List γ} (h : Aside0 (d.R e w0 base ok u xs)) (hb : Below W.heap.size W w1) (ho0 : d1.R e1 w1 W.heap.size ok1 v1 x1) (ho1 : d2.R e2 w1 W.heap.size ok2 v2 x2) (hw : d.R e w0 base ok u xs → d.R e W base ok u xs := by intro h_; (with_reducible repeat (first | apply Kd.R_alloc | apply Kd.R_drewN | apply Kd.R_drew)); exact h_) : Aside0 (d.R e w1 base (fun k => (ok k ∧ some k ≠ v1.ownBlock) ∧ some k ≠ v2.ownBlock) u xs) := Zt (hw h.out) hb ho0 ho1
theorem Zw {α β : Type} {d : Kd α} {d1 : Kd β} {e e1 : Nat} {W w1 : World} {base : Nat} {ok ok1 : Nat → Prop} {u v : Value} {xs : List α} {x1 : List β} (h : d.R e w1 W.heap.size ok v xs) (h1 : d1.R e1 W base ok1 u x1) : d.R e w1 W.heap.size (fun k => ok k ∧ some k ≠ u.ownBlock) v xs := Kd.R_new' h (Kd.R_lt h1)
theorem Zv {α β : Type} {d : Kd α} {d1 : Kd β} {e e1 : Nat} {w0 W w1 : World} {base : Nat} {ok ok1 : Nat → Prop} {u v : Value} {xs : List α} {x1 : List β} (h : d.R e w1 W.heap.size ok v xs) (h1 : Aside0 (d1.R e1 w0 base ok1 u x1)) (hw : d1.R e1 w0 base ok1 u x1 → d1.R e1 W base ok1 u x1 := by intro h_; (with_reducible repeat (first | apply Kd.R_alloc | apply Kd.R_drewN | apply Kd.R_drew)); exact h_) : d.R e w1 W.heap.size (fun k => ok k ∧ some k ≠ u.ownBlock) v xs := Zw h (hw h1.out)
theorem Zj {α : Type} {d : Kd α} {e : Nat} {w w0 W w1 : World} {ok : Nat → Prop} {v : Value} {xs : List α} (h : d.R e w1 W.heap.size ok v xs) (hB : Aside0 (Below w.heap.size w w0)) (hw : Below w.heap.size w w0 → Below w.heap.size w W := by intro h_; repeat (first | (with_reducible first | exact h_ | apply below_alloc | apply pw_below_drewN | apply below_drew1 | refine below_set ?_ (Aside0.out (by assumption))) | exact h_)) : Aside0 (d.R e w1 w.heap.size ok v xs) := Aside0.mk (Kd.R_lower h (below_size (hw hB.out)))
theorem Zk {g : Nat} {o : Obj} {w0 W w1 : World} (h : Aside0 (w0.heap[g]? = some o)) (hb : Below W.heap.size W w1) (hw : w0.heap[g]? = some o → W.heap[g]? = some o := by intro h_; (with_reducible repeat (first | refine blk_drewN ?_ _ | refine blk_drew ?_ | refine blk_alloc ?_ _)); exact h_) : Aside0 (w1.heap[g]? = some o) := Aside0.mk (blk_below (hw h.out) hb)
theorem Zo {α : Type} {d : Kd α} {e : Nat} {w0 W w1 : World} {base : Nat} {ok : Nat → Prop} {v : Value} {xs : List α} (h : Aside0 (d.R e w0 base ok v xs)) (hb : Below W.heap.size W w1) (hw : d.R e w0 base ok v xs → d.R e W base ok v xs := by intro h_; (with_reducible repeat (first | apply Kd.R_alloc | apply Kd.R_drewN | apply Kd.R_drew)); exact h_) : Aside0 (d.R e w1 base ok v xs) := Aside0.mk (Kd.R_below (hw h.out) hb)
theorem Zh {w w0 W w1 : World} (hB : Aside0 (Below w.heap.size w w0)) (hb : Below W.heap.size W w1) (hw : Below w.heap.size w w0 → Below w.heap.size w W := by intro h_; repeat (first | (with_reducible first | exact h_ | apply below_alloc | apply pw_below_drewN | apply below_drew1 | refine below_set ?_ (Aside0.out (by assumption))) | exact h_)) : Aside0 (Below w.heap.size w w1) := Aside0.mk (below_step (hw hB.out) hb)
theorem Zq {g n : Nat} {o : Obj} {w0 W : World} (hg : n = W.heap.size) (h : Aside0 (w0.heap[g]? = some o)) (hw : w0.heap[g]? = some o → W.heap[g]? = some o := by intro h_; (with_reducible repeat (first | refine blk_drewN ?_ _ | refine blk_drew ?_ | refine blk_alloc ?_ _)); exact h_) : Aside0 (g ≠ n) := Aside0.mk (by rw [hg]; exact Nat.ne_of_lt (blk_lt (hw h.out)))
theorem Zp {g n : Nat} {o : Obj} {w0 W : World} (hg : n = W.heap.size) (h : Aside0 (w0.heap[g]? = some o)) (hw : w0.heap[g]? = some o → W.heap[g]? = some o := by intro h_; (with_reducible repeat (first | refine blk_drewN ?_ _ | refine blk_drew ?_ | refine blk_alloc ?_ _)); exact h_) : Aside0 (n ≠ g) := Aside0.mk (by rw [hg]; exact Nat.ne_of_gt (blk_lt (hw h.out)))
theorem Zx {n : Nat} {w w0 W : World} (hg : n = W.heap.size) (hB : Aside0 (Below w.heap.size w w0)) (hw : Below w.heap.size w w0 → Below w.heap.size w W := by intro h_; repeat (first | (with_reducible first | exact h_ | apply below_alloc | apply pw_below_drewN | apply below_drew1 | refine below_set ?_ (Aside0.out (by assumption))) | exact h_)) : Aside0 (w.heap.size ≤ n) := Aside0.mk (by rw [hg]; exact below_size (hw hB.out))
theorem Zc {α : Type} {d : Kd α} {e : Nat} {w0 w : World} {base : Nat} {ok ok' : Nat → Prop} {v : Value} {xs : List α} (h : Aside0 (d.R e w0 base ok v xs)) (hok : ∀ k, ok k → ok' k := by intro k_ hk_; revert hk_; simp only [and_imp]; intros; and_intros <;> assumption) (hw : d.R e w0 base ok' v xs → d.R e w base ok' v xs := by intro h_; (with_reducible repeat (first | apply Kd.R_alloc | apply Kd.R_drewN | apply Kd.R_drew)); exact h_) : d.R e w base ok' v xs := hw (Kd.R_mono h.out hok)
/-! ### laws_FnExactThenTurned: function 4 -/
def laws_FnExactThenTurned.j0 : Nat → Bool → Bool → List Int → List Int → List Int → List Int → List Int → List Int → List Int → List Int → Option (Bool)
 | 0, _, _, _, _, _, _, _, _, _, _ => none
 | k + 1, x7, x82, x374000, x374001, x375000, x375001, x397000, x397001, x419000, x419001 => if x82 = true then (none) else ((laws_markTurned.f k x419000 x419001 1).bind fun bt441 => ((laws_heldTurned.f k bt441.2.1 bt441.2.2 1).bind fun t444 => (if t444 < 0 then (none) else (if t444 = bt441.1 then ((laws_toTurned.f k x374000 x374001).bind fun bt445 => ((laws_toTurned.f k x375000 x375001).bind fun bt451 => ((impl_ThenTurned.f k bt445.1 bt445.2 bt451.1 bt451.2).bind fun bt457 => ((laws_eqTurned.f k bt457.1 bt457.2.1 x397000 x397001).bind fun t465 => (if t465 = true then (if (bt457.2.2 != x7) = true then (none) else ((laws_heldTurned.f k bt441.2.1 bt441.2.2 1).bind fun t466 => (if t466 < 0 then (none) else (if t466 = bt441.1 then (some true) else (none))))) else (none)))))) else (none)))))
def laws_FnExactThenTurned.f (k : Nat) (l0_0 : List Int) (l0_1 : List Int) (l1_0 : List Int) (l1_1 : List Int) : Option (Bool) := (laws_szTurned.f l0_0 l0_1 1048576).bind fun t375 => (if t375 < 0 then (some true) else ((laws_szTurned.f l1_0 l1_1 t375).bind fun t376 => (if t376 < 0 then (some true) else ((laws_toTurned.f k l0_0 l0_1).bind fun bt377 => ((laws_toTurned.f k l1_0 l1_1).bind fun bt383 => ((spec_ThenTurned.f k bt377.1 bt377.2 bt383.1 bt383.2).bind fun bt389 => ((laws_toTurned.f k l0_0 l0_1).bind fun bt397 => ((laws_toTurned.f k l1_0 l1_1).bind fun bt404 => ((impl_ThenTurned.f k bt397.1 bt397.2 bt404.1 bt404.2).bind fun bt411 => ((laws_eqTurned.f k bt411.1 bt411.2.1 bt389.1 bt389.2.1).bind fun t419 => (if t419 = true then (if (bt411.2.2 != bt389.2.2) = true then (none) else ((laws_toTurned.f k l0_0 l0_1).bind fun bt420 => ((laws_eqTurned.f k bt397.1 bt397.2 bt420.1 bt420.2).bind fun t426 => (if t426 = true then ((laws_toTurned.f k l1_0 l1_1).bind fun bt427 => ((laws_eqTurned.f k bt404.1 bt404.2 bt427.1 bt427.2).bind fun t433 => (if t433 = true then ((laws_markTurned.f k bt397.1 bt397.2 1).bind fun bt434 => ((laws_markTurned.f k bt404.1 bt404.2 bt434.1).bind fun bt437 => (if bt437.1 < 0 then (laws_FnExactThenTurned.j0 k bt389.2.2 true l0_0 l0_1 l1_0 l1_1 bt389.1 bt389.2.1 bt411.1 bt411.2.1) else ((laws_eqTurned.f k bt411.1 bt411.2.1 bt389.1 bt389.2.1).bind fun t440 => (if t440 = true then (laws_FnExactThenTurned.j0 k bt389.2.2 (bt411.2.2 != bt389.2.2) l0_0 l0_1 l1_0 l1_1 bt389.1 bt389.2.1 bt411.1 bt411.2.1) else (none)))))) else (none)))) else (none))))) else (none))))))))))))
def laws_FnExactThenTurned.T8 : Bool × List (List Nat × List Nat) := (true, [([], []), ([0], [0]), ([], []), ([2, 1], [2]), ([1, 3, 3], [1, 3]), ([4], [4]), ([5], [5]), ([5], [5]), ([], []), ([8, 6, 4, 0, 1, 2, 3, 4, 5, 6, 8], [6, 8]), ([7, 9, 0, 1, 2, 3, 4, 5, 6, 7, 8, 9], [7])])
def laws_FnExactThenTurned.B8 : List Nat := [0, 1, 0, 7, 15, 31, 63, 63, 0, 383, 1023]
theorem laws_FnExactThenTurned.tab8 : rtab .any (opsOf Try.f4 8) = laws_FnExactThenTurned.T8 := by kernel_rfl
theorem laws_FnExactThenTurned.bits8 : waitsOk laws_FnExactThenTurned.T8.2 laws_FnExactThenTurned.B8 = true := by kernel_rfl
def laws_FnExactThenTurned.T31 : Bool × List (List Nat × List Nat) := (true, [([], []), ([0], [0]), ([], []), ([2, 1], [2]), ([1, 3, 3], [1, 3]), ([4], [4]), ([5], [5]), ([5], [5]), ([], []), ([8, 6, 4, 0, 1, 2, 3, 4, 5, 6, 8], [6, 8]), ([7, 9, 0, 1, 2, 3, 4, 5, 6, 7, 8, 9], [7])])
def laws_FnExactThenTurned.B31 : List Nat := [0, 1, 0, 7, 15, 31, 63, 63, 0, 383, 1023]
theorem laws_FnExactThenTurned.tab31 : rtab .any (opsOf Try.f4 31) = laws_FnExactThenTurned.T31 := by kernel_rfl
theorem laws_FnExactThenTurned.bits31 : waitsOk laws_FnExactThenTurned.T31.2 laws_FnExactThenTurned.B31 = true := by kernel_rfl
set_option maxHeartbeats 8000000 in
set_option maxRecDepth 100000 in
theorem laws_FnExactThenTurned.calls (k : Nat) (A0_0 : Option Addr) (c0_0 : Nat) (l0_0 : List Int) (A0_1 : Option Addr) (c0_1 : Nat) (l0_1 : List Int) (A1_0 : Option Addr) (c1_0 : Nat) (l1_0 : List Int) (A1_1 : Option Addr) (c1_1 : Nat) (l1_1 : List Int) (r : Bool) (w : World) (hr0_0 : Kd.C (Kd.int .i64) w A0_0 l0_0.length l0_0) (hc0_0 : l0_0.length ≤ c0_0) (hr0_1 : Kd.C (Kd.int .i64) w A0_1 l0_1.length l0_1) (hc0_1 : l0_1.length ≤ c0_1) (hr1_0 : Kd.C (Kd.int .i64) w A1_0 l1_0.length l1_0) (hc1_0 : l1_0.length ≤ c1_0) (hr1_1 : Kd.C (Kd.int .i64) w A1_1 l1_1.length l1_1) (hc1_1 : l1_1.length ≤ c1_1) (h : laws_FnExactThenTurned.f k l0_0 l0_1 l1_0 l1_1 = some r) :
  Calls Try.prog 4 #[.agg #[.slice A0_0 l0_0.length c0_0, .slice A0_1 l0_1.length c0_1], .agg #[.slice A1_0 l1_0.length c1_0, .slice A1_1 l1_1.length c1_1]] w fun e w' => e = .returned (.bool r) ∧ Below w.heap.size w w' := by
 have hu34 := Try.underlying34; have hu36 := Try.underlying36; have HR0_0 := Aside0.mk hr0_0; have HC0_0 := Aside0.mk hc0_0; clear hr0_0 hc0_0; have HR0_1 := Aside0.mk hr0_1; have HC0_1 := Aside0.mk hc0_1; clear hr0_1 hc0_1; have HR1_0 := Aside0.mk hr1_0; have HC1_0 := Aside0.mk hc1_0; clear hr1_0 hc1_0; have HR1_1 := Aside0.mk hr1_1; have HC1_1 := Aside0.mk hc1_1; clear hr1_1 hc1_1; have HB := Zm (Below.refl w.heap.size w); have H : ((laws_szTurned.f l0_0 l0_1 1048576).bind fun t375 => (if t375 < 0 then (some true) else ((laws_szTurned.f l1_0 l1_1 t375).bind fun t376 => (if t376 < 0 then (some true) else ((laws_toTurned.f k l0_0 l0_1).bind fun bt377 => ((laws_toTurned.f k l1_0 l1_1).bind fun bt383 => ((spec_ThenTurned.f k bt377.1 bt377.2 bt383.1 bt383.2).bind fun bt389 => ((laws_toTurned.f k l0_0 l0_1).bind fun bt397 => ((laws_toTurned.f k l1_0 l1_1).bind fun bt404 => ((impl_ThenTurned.f k bt397.1 bt397.2 bt404.1 bt404.2).bind fun bt411 => ((laws_eqTurned.f k bt411.1 bt411.2.1 bt389.1 bt389.2.1).bind fun t419 => (if t419 = true then (if (bt411.2.2 != bt389.2.2) = true then (none) else ((laws_toTurned.f k l0_0 l0_1).bind fun bt420 => ((laws_eqTurned.f k bt397.1 bt397.2 bt420.1 bt420.2).bind fun t426 => (if t426 = true then ((laws_toTurned.f k l1_0 l1_1).bind fun bt427 => ((laws_eqTurned.f k bt404.1 bt404.2 bt427.1 bt427.2).bind fun t433 => (if t433 = true then ((laws_markTurned.f k bt397.1 bt397.2 1).bind fun bt434 => ((laws_markTurned.f k bt404.1 bt404.2 bt434.1).bind fun bt437 => (if bt437.1 < 0 then (laws_FnExactThenTurned.j0 k bt389.2.2 true l0_0 l0_1 l1_0 l1_1 bt389.1 bt389.2.1 bt411.1 bt411.2.1) else ((laws_eqTurned.f k bt411.1 bt411.2.1 bt389.1 bt389.2.1).bind fun t440 => (if t440 = true then (laws_FnExactThenTurned.j0 k bt389.2.2 (bt411.2.2 != bt389.2.2) l0_0 l0_1 l1_0 l1_1 bt389.1 bt389.2.1 bt411.1 bt411.2.1) else (none)))))) else (none)))) else (none))))) else (none))))))))))))) = some r := h; clear h
 replace H := Option.bind_eq_some_iff.mp H
 obtain ⟨t375, A30, H⟩ := H
 replace H : (if t375 < 0 then (some true) else ((laws_szTurned.f l1_0 l1_1 t375).bind fun t376 => (if t376 < 0 then (some true) else ((laws_toTurned.f k l0_0 l0_1).bind fun bt377 => ((laws_toTurned.f k l1_0 l1_1).bind fun bt383 => ((spec_ThenTurned.f k bt377.1 bt377.2 bt383.1 bt383.2).bind fun bt389 => ((laws_toTurned.f k l0_0 l0_1).bind fun bt397 => ((laws_toTurned.f k l1_0 l1_1).bind fun bt404 => ((impl_ThenTurned.f k bt397.1 bt397.2 bt404.1 bt404.2).bind fun bt411 => ((laws_eqTurned.f k bt411.1 bt411.2.1 bt389.1 bt389.2.1).bind fun t419 => (if t419 = true then (if (bt411.2.2 != bt389.2.2) = true then (none) else ((laws_toTurned.f k l0_0 l0_1).bind fun bt420 => ((laws_eqTurned.f k bt397.1 bt397.2 bt420.1 bt420.2).bind fun t426 => (if t426 = true then ((laws_toTurned.f k l1_0 l1_1).bind fun bt427 => ((laws_eqTurned.f k bt404.1 bt404.2 bt427.1 bt427.2).bind fun t433 => (if t433 = true then ((laws_markTurned.f k bt397.1 bt397.2 1).bind fun bt434 => ((laws_markTurned.f k bt404.1 bt404.2 bt434.1).bind fun bt437 => (if bt437.1 < 0 then (laws_FnExactThenTurned.j0 k bt389.2.2 true l0_0 l0_1 l1_0 l1_1 bt389.1 bt389.2.1 bt411.1 bt411.2.1) else ((laws_eqTurned.f k bt411.1 bt411.2.1 bt389.1 bt389.2.1).bind fun t440 => (if t440 = true then (laws_FnExactThenTurned.j0 k bt389.2.2 (bt411.2.2 != bt389.2.2) l0_0 l0_1 l1_0 l1_1 bt389.1 bt389.2.1 bt411.1 bt411.2.1) else (none)))))) else (none)))) else (none))))) else (none)))))))))))) = some r := H
 have A3 := Aside0.mk A30; clear A30
 by_cases c4 : t375 < 0
 ·
  rw [if_pos c4] at H
  have c4b0 : decide (t375 < 0) = true := decide_eq_true c4; clear c4
  obtain rfl := Option.some.inj H
  go_enter Try.func4, Try.ntmps4
  go_wp2_with (first | ((with_reducible refine gate_dst (N := 2) rfl ?_); refine box_event ?hg (N := 2) ?hd (cs := #[.slice A0_0 l0_0.length c0_0, .slice A0_1 l0_1.length c0_1]) (t := 34) ?hr ?_; (case hd => rfl); (case hg => rfl); (case hr => first | (go_simp; done) | (go_simp; rfl)); intro gb373 hg w5 hbox hb; have BK373 := Zm (hbox); have GW373 := Zx hg HB; have GE373 := Zx hg HB; replace HB := Zh HB hb; clear hb hbox hg) | ((with_reducible refine gate_dst (N := 3) rfl ?_); refine box_event ?hg (N := 3) ?hd (cs := #[.slice A1_0 l1_0.length c1_0, .slice A1_1 l1_1.length c1_1]) (t := 34) ?hr ?_; (case hd => rfl); (case hg => rfl); (case hr => first | (go_simp; done) | (go_simp; rfl)); intro gb374 hg w6 hbox hb; have BK374 := Zm (hbox); have GW374 := Zx hg HB; have GE374 := Zx hg HB; replace HB := Zh HB hb; have NB373_374 := Zq hg BK373; have NB374_373 := Zp hg BK373; replace BK373 := Zk BK373 hb; clear hb hbox hg; have hnb7 := NB373_374.out; have hnc7 := NB374_373.out; have hcz8_0 : w6.cell? ⟨gb373, 0, none⟩ = some (.slice A0_0 l0_0.length c0_0) := (blk_cell BK373.out 0).trans rfl; have hcz8_1 : w6.cell? ⟨gb373, 1, none⟩ = some (.slice A0_1 l0_1.length c0_1) := (blk_cell BK373.out 1).trans rfl; have hfz8_0 := blk_frozen BK373.out 0; have hfz8_1 := blk_frozen BK373.out 1) | ((with_reducible refine gate_callee (f := 16) rfl ?_); refine goesL_ (some 19) rfl rfl Try.func16 (by kernel_rfl) rfl #[.agg #[.slice A0_0 l0_0.length c0_0, .slice A0_1 l0_1.length c0_1], .int .i64 1048576] rfl (by (try simp only [List.map_toArray, List.map_cons, List.map_nil]); first | done | rfl) ?_; (with_reducible refine (laws_szTurned.calls _ _ l0_0 _ _ l0_1 1048576 t375 _ ?side1 ?side2 ?side3 ?side4 A3.out).mono ?_); (case side1 => repeat (first | exact (Kd.C_below HR0_0.out HB.out) | (with_reducible refine Kd.C_alloc ?_ _) | (with_reducible refine Kd.C_drewN ?_ _) | (with_reducible refine Kd.C_drew ?_))); (case side2 => exact HC0_0.out); (case side3 => repeat (first | exact (Kd.C_below HR0_1.out HB.out) | (with_reducible refine Kd.C_alloc ?_ _) | (with_reducible refine Kd.C_drewN ?_ _) | (with_reducible refine Kd.C_drew ?_))); (case side4 => exact HC0_1.out); rintro e w9 ⟨rfl, hb⟩; refine ⟨_, rfl, ?_⟩; replace BK373 := Zk BK373 hb; replace BK374 := Zk BK374 hb; replace HB := Zh HB hb; (try clear hb); (try clear hb2); (try clear hk); (try clear hi)))
  go_ret
  exact ⟨by first | rfl | (simp [errW_none, errW_some] <;> rfl) | (simp [*, errW_none, errW_some] <;> rfl), by repeat (first | (with_reducible first | exact HB.out | apply below_alloc | apply pw_below_drewN | apply below_drew1 | refine below_set ?_ GE373.out | refine below_set ?_ GE374.out) | exact HB.out)⟩
 ·
  rw [if_neg c4] at H
  have c4b0 : decide (t375 < 0) = false := decide_eq_false c4; clear c4
  replace H := Option.bind_eq_some_iff.mp H
  obtain ⟨t376, A100, H⟩ := H
  replace H : (if t376 < 0 then (some true) else ((laws_toTurned.f k l0_0 l0_1).bind fun bt377 => ((laws_toTurned.f k l1_0 l1_1).bind fun bt383 => ((spec_ThenTurned.f k bt377.1 bt377.2 bt383.1 bt383.2).bind fun bt389 => ((laws_toTurned.f k l0_0 l0_1).bind fun bt397 => ((laws_toTurned.f k l1_0 l1_1).bind fun bt404 => ((impl_ThenTurned.f k bt397.1 bt397.2 bt404.1 bt404.2).bind fun bt411 => ((laws_eqTurned.f k bt411.1 bt411.2.1 bt389.1 bt389.2.1).bind fun t419 => (if t419 = true then (if (bt411.2.2 != bt389.2.2) = true then (none) else ((laws_toTurned.f k l0_0 l0_1).bind fun bt420 => ((laws_eqTurned.f k bt397.1 bt397.2 bt420.1 bt420.2).bind fun t426 => (if t426 = true then ((laws_toTurned.f k l1_0 l1_1).bind fun bt427 => ((laws_eqTurned.f k bt404.1 bt404.2 bt427.1 bt427.2).bind fun t433 => (if t433 = true then ((laws_markTurned.f k bt397.1 bt397.2 1).bind fun bt434 => ((laws_markTurned.f k bt404.1 bt404.2 bt434.1).bind fun bt437 => (if bt437.1 < 0 then (laws_FnExactThenTurned.j0 k bt389.2.2 true l0_0 l0_1 l1_0 l1_1 bt389.1 bt389.2.1 bt411.1 bt411.2.1) else ((laws_eqTurned.f k bt411.1 bt411.2.1 bt389.1 bt389.2.1).bind fun t440 => (if t440 = true then (laws_FnExactThenTurned.j0 k bt389.2.2 (bt411.2.2 != bt389.2.2) l0_0 l0_1 l1_0 l1_1 bt389.1 bt389.2.1 bt411.1 bt411.2.1) else (none)))))) else (none)))) else (none))))) else (none)))))))))) = some r := H
  have A10 := Aside0.mk A100; clear A100
  by_cases c11 : t376 < 0
  ·
   rw [if_pos c11] at H
   have c11b0 : decide (t376 < 0) = true := decide_eq_true c11; clear c11
   obtain rfl := Option.some.inj H
   go_enter Try.func4, Try.ntmps4
   go_wp2_with (first | ((with_reducible refine gate_dst (N := 2) rfl ?_); refine box_event ?hg (N := 2) ?hd (cs := #[.slice A0_0 l0_0.length c0_0, .slice A0_1 l0_1.length c0_1]) (t := 34) ?hr ?_; (case hd => rfl); (case hg => rfl); (case hr => first | (go_simp; done) | (go_simp; rfl)); intro gb373 hg w12 hbox hb; have BK373 := Zm (hbox); have GW373 := Zx hg HB; have GE373 := Zx hg HB; replace HB := Zh HB hb; clear hb hbox hg) | ((with_reducible refine gate_dst (N := 3) rfl ?_); refine box_event ?hg (N := 3) ?hd (cs := #[.slice A1_0 l1_0.length c1_0, .slice A1_1 l1_1.length c1_1]) (t := 34) ?hr ?_; (case hd => rfl); (case hg => rfl); (case hr => first | (go_simp; done) | (go_simp; rfl)); intro gb374 hg w13 hbox hb; have BK374 := Zm (hbox); have GW374 := Zx hg HB; have GE374 := Zx hg HB; replace HB := Zh HB hb; have NB373_374 := Zq hg BK373; have NB374_373 := Zp hg BK373; replace BK373 := Zk BK373 hb; clear hb hbox hg; have hnb14 := NB373_374.out; have hnc14 := NB374_373.out; have hcz15_0 : w13.cell? ⟨gb373, 0, none⟩ = some (.slice A0_0 l0_0.length c0_0) := (blk_cell BK373.out 0).trans rfl; have hcz15_1 : w13.cell? ⟨gb373, 1, none⟩ = some (.slice A0_1 l0_1.length c0_1) := (blk_cell BK373.out 1).trans rfl; have hfz15_0 := blk_frozen BK373.out 0; have hfz15_1 := blk_frozen BK373.out 1) | ((with_reducible refine gate_callee (f := 16) rfl ?_); refine goesL_ (some 19) rfl rfl Try.func16 (by kernel_rfl) rfl #[.agg #[.slice A0_0 l0_0.length c0_0, .slice A0_1 l0_1.length c0_1], .int .i64 1048576] rfl (by (try simp only [List.map_toArray, List.map_cons, List.map_nil]); first | done | rfl) ?_; (with_reducible refine (laws_szTurned.calls _ _ l0_0 _ _ l0_1 1048576 t375 _ ?side1 ?side2 ?side3 ?side4 A3.out).mono ?_); (case side1 => repeat (first | exact (Kd.C_below HR0_0.out HB.out) | (with_reducible refine Kd.C_alloc ?_ _) | (with_reducible refine Kd.C_drewN ?_ _) | (with_reducible refine Kd.C_drew ?_))); (case side2 => exact HC0_0.out); (case side3 => repeat (first | exact (Kd.C_below HR0_1.out HB.out) | (with_reducible refine Kd.C_alloc ?_ _) | (with_reducible refine Kd.C_drewN ?_ _) | (with_reducible refine Kd.C_drew ?_))); (case side4 => exact HC0_1.out); rintro e w16 ⟨rfl, hb⟩; refine ⟨_, rfl, ?_⟩; replace BK373 := Zk BK373 hb; replace BK374 := Zk BK374 hb; replace HB := Zh HB hb; (try clear hb); (try clear hb2); (try clear hk); (try clear hi); have hcz17_0 : w16.cell? ⟨gb374, 0, none⟩ = some (.slice A1_0 l1_0.length c1_0) := (blk_cell BK374.out 0).trans rfl; have hcz17_1 : w16.cell? ⟨gb374, 1, none⟩ = some (.slice A1_1 l1_1.length c1_1) := (blk_cell BK374.out 1).trans rfl; have hfz17_0 := blk_frozen BK374.out 0; have hfz17_1 := blk_frozen BK374.out 1) | ((with_reducible refine gate_callee (f := 16) rfl ?_); refine goesL_ (some 24) rfl rfl Try.func16 (by kernel_rfl) rfl #[.agg #[.slice A1_0 l1_0.length c1_0, .slice A1_1 l1_1.length c1_1], .int .i64 t375] rfl (by (try simp only [List.map_toArray, List.map_cons, List.map_nil]); first | done | rfl) ?_; (with_reducible refine (laws_szTurned.calls _ _ l1_0 _ _ l1_1 t375 t376 _ ?side1 ?side2 ?side3 ?side4 A10.out).mono ?_); (case side1 => repeat (first | exact (Kd.C_below HR1_0.out HB.out) | (with_reducible refine Kd.C_alloc ?_ _) | (with_reducible refine Kd.C_drewN ?_ _) | (with_reducible refine Kd.C_drew ?_))); (case side2 => exact HC1_0.out); (case side3 => repeat (first | exact (Kd.C_below HR1_1.out HB.out) | (with_reducible refine Kd.C_alloc ?_ _) | (with_reducible refine Kd.C_drewN ?_ _) | (with_reducible refine Kd.C_drew ?_))); (case side4 => exact HC1_1.out); rintro e w18 ⟨rfl, hb⟩; refine ⟨_, rfl, ?_⟩; replace BK373 := Zk BK373 hb; replace BK374 := Zk BK374 hb; replace HB := Zh HB hb; (try clear hb); (try clear hb2); (try clear hk); (try clear hi)))
   go_ret
   exact ⟨by first | rfl | (simp [errW_none, errW_some] <;> rfl) | (simp [*, errW_none, errW_some] <;> rfl), by repeat (first | (with_reducible first | exact HB.out | apply below_alloc | apply pw_below_drewN | apply below_drew1 | refine below_set ?_ GE373.out | refine below_set ?_ GE374.out) | exact HB.out)⟩
  ·
   rw [if_neg c11] at H
   have c11b0 : decide (t376 < 0) = false := decide_eq_false c11; clear c11
   replace H := Option.bind_eq_some_iff.mp H
   obtain ⟨⟨t377, t380⟩, A190, H⟩ := H
   replace H : ((laws_toTurned.f k l1_0 l1_1).bind fun bt383 => ((spec_ThenTurned.f k t377 t380 bt383.1 bt383.2).bind fun bt389 => ((laws_toTurned.f k l0_0 l0_1).bind fun bt397 => ((laws_toTurned.f k l1_0 l1_1).bind fun bt404 => ((impl_ThenTurned.f k bt397.1 bt397.2 bt404.1 bt404.2).bind fun bt411 => ((laws_eqTurned.f k bt411.1 bt411.2.1 bt389.1 bt389.2.1).bind fun t419 => (if t419 = true then (if (bt411.2.2 != bt389.2.2) = true then (none) else ((laws_toTurned.f k l0_0 l0_1).bind fun bt420 => ((laws_eqTurned.f k bt397.1 bt397.2 bt420.1 bt420.2).bind fun t426 => (if t426 = true then ((laws_toTurned.f k l1_0 l1_1).bind fun bt427 => ((laws_eqTurned.f k bt404.1 bt404.2 bt427.1 bt427.2).bind fun t433 => (if t433 = true then ((laws_markTurned.f k bt397.1 bt397.2 1).bind fun bt434 => ((laws_markTurned.f k bt404.1 bt404.2 bt434.1).bind fun bt437 => (if bt437.1 < 0 then (laws_FnExactThenTurned.j0 k bt389.2.2 true l0_0 l0_1 l1_0 l1_1 bt389.1 bt389.2.1 bt411.1 bt411.2.1) else ((laws_eqTurned.f k bt411.1 bt411.2.1 bt389.1 bt389.2.1).bind fun t440 => (if t440 = true then (laws_FnExactThenTurned.j0 k bt389.2.2 (bt411.2.2 != bt389.2.2) l0_0 l0_1 l1_0 l1_1 bt389.1 bt389.2.1 bt411.1 bt411.2.1) else (none)))))) else (none)))) else (none))))) else (none)))))))) = some r := H
   have A19 := Aside0.mk A190; clear A190
   replace H := Option.bind_eq_some_iff.mp H
   obtain ⟨⟨t383, t386⟩, A200, H⟩ := H
   replace H : ((spec_ThenTurned.f k t377 t380 t383 t386).bind fun bt389 => ((laws_toTurned.f k l0_0 l0_1).bind fun bt397 => ((laws_toTurned.f k l1_0 l1_1).bind fun bt404 => ((impl_ThenTurned.f k bt397.1 bt397.2 bt404.1 bt404.2).bind fun bt411 => ((laws_eqTurned.f k bt411.1 bt411.2.1 bt389.1 bt389.2.1).bind fun t419 => (if t419 = true then (if (bt411.2.2 != bt389.2.2) = true then (none) else ((laws_toTurned.f k l0_0 l0_1).bind fun bt420 => ((laws_eqTurned.f k bt397.1 bt397.2 bt420.1 bt420.2).bind fun t426 => (if t426 = true then ((laws_toTurned.f k l1_0 l1_1).bind fun bt427 => ((laws_eqTurned.f k bt404.1 bt404.2 bt427.1 bt427.2).bind fun t433 => (if t433 = true then ((laws_markTurned.f k bt397.1 bt397.2 1).bind fun bt434 => ((laws_markTurned.f k bt404.1 bt404.2 bt434.1).bind fun bt437 => (if bt437.1 < 0 then (laws_FnExactThenTurned.j0 k bt389.2.2 true l0_0 l0_1 l1_0 l1_1 bt389.1 bt389.2.1 bt411.1 bt411.2.1) else ((laws_eqTurned.f k bt411.1 bt411.2.1 bt389.1 bt389.2.1).bind fun t440 => (if t440 = true then (laws_FnExactThenTurned.j0 k bt389.2.2 (bt411.2.2 != bt389.2.2) l0_0 l0_1 l1_0 l1_1 bt389.1 bt389.2.1 bt411.1 bt411.2.1) else (none)))))) else (none)))) else (none))))) else (none))))))) = some r := H
   have A20 := Aside0.mk A200; clear A200
   replace H := Option.bind_eq_some_iff.mp H
   obtain ⟨⟨t389, t392, t395⟩, A210, H⟩ := H
   replace H : ((laws_toTurned.f k l0_0 l0_1).bind fun bt397 => ((laws_toTurned.f k l1_0 l1_1).bind fun bt404 => ((impl_ThenTurned.f k bt397.1 bt397.2 bt404.1 bt404.2).bind fun bt411 => ((laws_eqTurned.f k bt411.1 bt411.2.1 t389 t392).bind fun t419 => (if t419 = true then (if (bt411.2.2 != t395) = true then (none) else ((laws_toTurned.f k l0_0 l0_1).bind fun bt420 => ((laws_eqTurned.f k bt397.1 bt397.2 bt420.1 bt420.2).bind fun t426 => (if t426 = true then ((laws_toTurned.f k l1_0 l1_1).bind fun bt427 => ((laws_eqTurned.f k bt404.1 bt404.2 bt427.1 bt427.2).bind fun t433 => (if t433 = true then ((laws_markTurned.f k bt397.1 bt397.2 1).bind fun bt434 => ((laws_markTurned.f k bt404.1 bt404.2 bt434.1).bind fun bt437 => (if bt437.1 < 0 then (laws_FnExactThenTurned.j0 k t395 true l0_0 l0_1 l1_0 l1_1 t389 t392 bt411.1 bt411.2.1) else ((laws_eqTurned.f k bt411.1 bt411.2.1 t389 t392).bind fun t440 => (if t440 = true then (laws_FnExactThenTurned.j0 k t395 (bt411.2.2 != t395) l0_0 l0_1 l1_0 l1_1 t389 t392 bt411.1 bt411.2.1) else (none)))))) else (none)))) else (none))))) else (none)))))) = some r := H
   have A21 := Aside0.mk A210; clear A210
   replace H := Option.bind_eq_some_iff.mp H
   obtain ⟨⟨t397, t400⟩, A220, H⟩ := H
   replace H : ((laws_toTurned.f k l1_0 l1_1).bind fun bt404 => ((impl_ThenTurned.f k t397 t400 bt404.1 bt404.2).bind fun bt411 => ((laws_eqTurned.f k bt411.1 bt411.2.1 t389 t392).bind fun t419 => (if t419 = true then (if (bt411.2.2 != t395) = true then (none) else ((laws_toTurned.f k l0_0 l0_1).bind fun bt420 => ((laws_eqTurned.f k t397 t400 bt420.1 bt420.2).bind fun t426 => (if t426 = true then ((laws_toTurned.f k l1_0 l1_1).bind fun bt427 => ((laws_eqTurned.f k bt404.1 bt404.2 bt427.1 bt427.2).bind fun t433 => (if t433 = true then ((laws_markTurned.f k t397 t400 1).bind fun bt434 => ((laws_markTurned.f k bt404.1 bt404.2 bt434.1).bind fun bt437 => (if bt437.1 < 0 then (laws_FnExactThenTurned.j0 k t395 true l0_0 l0_1 l1_0 l1_1 t389 t392 bt411.1 bt411.2.1) else ((laws_eqTurned.f k bt411.1 bt411.2.1 t389 t392).bind fun t440 => (if t440 = true then (laws_FnExactThenTurned.j0 k t395 (bt411.2.2 != t395) l0_0 l0_1 l1_0 l1_1 t389 t392 bt411.1 bt411.2.1) else (none)))))) else (none)))) else (none))))) else (none))))) = some r := H
   have A22 := Aside0.mk A220; clear A220
   replace H := Option.bind_eq_some_iff.mp H
   obtain ⟨⟨t404, t407⟩, A230, H⟩ := H
   replace H : ((impl_ThenTurned.f k t397 t400 t404 t407).bind fun bt411 => ((laws_eqTurned.f k bt411.1 bt411.2.1 t389 t392).bind fun t419 => (if t419 = true then (if (bt411.2.2 != t395) = true then (none) else ((laws_toTurned.f k l0_0 l0_1).bind fun bt420 => ((laws_eqTurned.f k t397 t400 bt420.1 bt420.2).bind fun t426 => (if t426 = true then ((laws_toTurned.f k l1_0 l1_1).bind fun bt427 => ((laws_eqTurned.f k t404 t407 bt427.1 bt427.2).bind fun t433 => (if t433 = true then ((laws_markTurned.f k t397 t400 1).bind fun bt434 => ((laws_markTurned.f k t404 t407 bt434.1).bind fun bt437 => (if bt437.1 < 0 then (laws_FnExactThenTurned.j0 k t395 true l0_0 l0_1 l1_0 l1_1 t389 t392 bt411.1 bt411.2.1) else ((laws_eqTurned.f k bt411.1 bt411.2.1 t389 t392).bind fun t440 => (if t440 = true then (laws_FnExactThenTurned.j0 k t395 (bt411.2.2 != t395) l0_0 l0_1 l1_0 l1_1 t389 t392 bt411.1 bt411.2.1) else (none)))))) else (none)))) else (none))))) else (none)))) = some r := H
   have A23 := Aside0.mk A230; clear A230
   replace H := Option.bind_eq_some_iff.mp H
   obtain ⟨⟨t411, t414, t417⟩, A240, H⟩ := H
   replace H : ((laws_eqTurned.f k t411 t414 t389 t392).bind fun t419 => (if t419 = true then (if (t417 != t395) = true then (none) else ((laws_toTurned.f k l0_0 l0_1).bind fun bt420 => ((laws_eqTurned.f k t397 t400 bt420.1 bt420.2).bind fun t426 => (if t426 = true then ((laws_toTurned.f k l1_0 l1_1).bind fun bt427 => ((laws_eqTurned.f k t404 t407 bt427.1 bt427.2).bind fun t433 => (if t433 = true then ((laws_markTurned.f k t397 t400 1).bind fun bt434 => ((laws_markTurned.f k t404 t407 bt434.1).bind fun bt437 => (if bt437.1 < 0 then (laws_FnExactThenTurned.j0 k t395 true l0_0 l0_1 l1_0 l1_1 t389 t392 t411 t414) else ((laws_eqTurned.f k t411 t414 t389 t392).bind fun t440 => (if t440 = true then (laws_FnExactThenTurned.j0 k t395 (t417 != t395) l0_0 l0_1 l1_0 l1_1 t389 t392 t411 t414) else (none)))))) else (none)))) else (none))))) else (none))) = some r := H
   have A24 := Aside0.mk A240; clear A240
   replace H := Option.bind_eq_some_iff.mp H
   obtain ⟨t419, A250, H⟩ := H
   replace H : (if t419 = true then (if (t417 != t395) = true then (none) else ((laws_toTurned.f k l0_0 l0_1).bind fun bt420 => ((laws_eqTurned.f k t397 t400 bt420.1 bt420.2).bind fun t426 => (if t426 = true then ((laws_toTurned.f k l1_0 l1_1).bind fun bt427 => ((laws_eqTurned.f k t404 t407 bt427.1 bt427.2).bind fun t433 => (if t433 = true then ((laws_markTurned.f k t397 t400 1).bind fun bt434 => ((laws_markTurned.f k t404 t407 bt434.1).bind fun bt437 => (if bt437.1 < 0 then (laws_FnExactThenTurned.j0 k t395 true l0_0 l0_1 l1_0 l1_1 t389 t392 t411 t414) else ((laws_eqTurned.f k t411 t414 t389 t392).bind fun t440 => (if t440 = true then (laws_FnExactThenTurned.j0 k t395 (t417 != t395) l0_0 l0_1 l1_0 l1_1 t389 t392 t411 t414) else (none)))))) else (none)))) else (none))))) else (none)) = some r := H
   have A25 := Aside0.mk A250; clear A250
   by_cases c26 : t419 = true
   ·
    subst c26
    have H1 : (if (t417 != t395) = true then (none) else ((laws_toTurned.f k l0_0 l0_1).bind fun bt420 => ((laws_eqTurned.f k t397 t400 bt420.1 bt420.2).bind fun t426 => (if t426 = true then ((laws_toTurned.f k l1_0 l1_1).bind fun bt427 => ((laws_eqTurned.f k t404 t407 bt427.1 bt427.2).bind fun t433 => (if t433 = true then ((laws_markTurned.f k t397 t400 1).bind fun bt434 => ((laws_markTurned.f k t404 t407 bt434.1).bind fun bt437 => (if bt437.1 < 0 then (laws_FnExactThenTurned.j0 k t395 true l0_0 l0_1 l1_0 l1_1 t389 t392 t411 t414) else ((laws_eqTurned.f k t411 t414 t389 t392).bind fun t440 => (if t440 = true then (laws_FnExactThenTurned.j0 k t395 (t417 != t395) l0_0 l0_1 l1_0 l1_1 t389 t392 t411 t414) else (none)))))) else (none)))) else (none))))) = some r := by rw [if_pos rfl] at H; exact H
    clear H; have H := H1; clear H1
    by_cases c27 : (t417 != t395) = true
    ·
     rw [if_pos c27] at H
     exact absurd H (by simp)
    ·
     rw [if_neg c27] at H
     have c27b0 : (t417 != t395) = false := by simpa using c27
     (try (have c27b1 : decide (t417 = t395) = true := by simpa using c27))
     (try (have c27b2 : (t417 == t395) = true := by simpa using c27))
     clear c27
     replace H := Option.bind_eq_some_iff.mp H
     obtain ⟨⟨t420, t423⟩, A280, H⟩ := H
     replace H : ((laws_eqTurned.f k t397 t400 t420 t423).bind fun t426 => (if t426 = true then ((laws_toTurned.f k l1_0 l1_1).bind fun bt427 => ((laws_eqTurned.f k t404 t407 bt427.1 bt427.2).bind fun t433 => (if t433 = true then ((laws_markTurned.f k t397 t400 1).bind fun bt434 => ((laws_markTurned.f k t404 t407 bt434.1).bind fun bt437 => (if bt437.1 < 0 then (laws_FnExactThenTurned.j0 k t395 true l0_0 l0_1 l1_0 l1_1 t389 t392 t411 t414) else ((laws_eqTurned.f k t411 t414 t389 t392).bind fun t440 => (if t440 = true then (laws_FnExactThenTurned.j0 k t395 (t417 != t395) l0_0 l0_1 l1_0 l1_1 t389 t392 t411 t414) else (none)))))) else (none)))) else (none))) = some r := H
     have A28 := Aside0.mk A280; clear A280
     replace H := Option.bind_eq_some_iff.mp H
     obtain ⟨t426, A290, H⟩ := H
     replace H : (if t426 = true then ((laws_toTurned.f k l1_0 l1_1).bind fun bt427 => ((laws_eqTurned.f k t404 t407 bt427.1 bt427.2).bind fun t433 => (if t433 = true then ((laws_markTurned.f k t397 t400 1).bind fun bt434 => ((laws_markTurned.f k t404 t407 bt434.1).bind fun bt437 => (if bt437.1 < 0 then (laws_FnExactThenTurned.j0 k t395 true l0_0 l0_1 l1_0 l1_1 t389 t392 t411 t414) else ((laws_eqTurned.f k t411 t414 t389 t392).bind fun t440 => (if t440 = true then (laws_FnExactThenTurned.j0 k t395 (t417 != t395) l0_0 l0_1 l1_0 l1_1 t389 t392 t411 t414) else (none)))))) else (none)))) else (none)) = some r := H
     have A29 := Aside0.mk A290; clear A290
     by_cases c30 : t426 = true
     ·
      subst c30
      have H1 : ((laws_toTurned.f k l1_0 l1_1).bind fun bt427 => ((laws_eqTurned.f k t404 t407 bt427.1 bt427.2).bind fun t433 => (if t433 = true then ((laws_markTurned.f k t397 t400 1).bind fun bt434 => ((laws_markTurned.f k t404 t407 bt434.1).bind fun bt437 => (if bt437.1 < 0 then (laws_FnExactThenTurned.j0 k t395 true l0_0 l0_1 l1_0 l1_1 t389 t392 t411 t414) else ((laws_eqTurned.f k t411 t414 t389 t392).bind fun t440 => (if t440 = true then (laws_FnExactThenTurned.j0 k t395 (t417 != t395) l0_0 l0_1 l1_0 l1_1 t389 t392 t411 t414) else (none)))))) else (none)))) = some r := by rw [if_pos rfl] at H; exact H
      clear H; have H := H1; clear H1
      replace H := Option.bind_eq_some_iff.mp H
      obtain ⟨⟨t427, t430⟩, A310, H⟩ := H
      replace H : ((laws_eqTurned.f k t404 t407 t427 t430).bind fun t433 => (if t433 = true then ((laws_markTurned.f k t397 t400 1).bind fun bt434 => ((laws_markTurned.f k t404 t407 bt434.1).bind fun bt437 => (if bt437.1 < 0 then (laws_FnExactThenTurned.j0 k t395 true l0_0 l0_1 l1_0 l1_1 t389 t392 t411 t414) else ((laws_eqTurned.f k t411 t414 t389 t392).bind fun t440 => (if t440 = true then (laws_FnExactThenTurned.j0 k t395 (t417 != t395) l0_0 l0_1 l1_0 l1_1 t389 t392 t411 t414) else (none)))))) else (none))) = some r := H
      have A31 := Aside0.mk A310; clear A310
      replace H := Option.bind_eq_some_iff.mp H
      obtain ⟨t433, A320, H⟩ := H
      replace H : (if t433 = true then ((laws_markTurned.f k t397 t400 1).bind fun bt434 => ((laws_markTurned.f k t404 t407 bt434.1).bind fun bt437 => (if bt437.1 < 0 then (laws_FnExactThenTurned.j0 k t395 true l0_0 l0_1 l1_0 l1_1 t389 t392 t411 t414) else ((laws_eqTurned.f k t411 t414 t389 t392).bind fun t440 => (if t440 = true then (laws_FnExactThenTurned.j0 k t395 (t417 != t395) l0_0 l0_1 l1_0 l1_1 t389 t392 t411 t414) else (none)))))) else (none)) = some r := H
      have A32 := Aside0.mk A320; clear A320
      by_cases c33 : t433 = true
      ·
       subst c33
       have H1 : ((laws_markTurned.f k t397 t400 1).bind fun bt434 => ((laws_markTurned.f k t404 t407 bt434.1).bind fun bt437 => (if bt437.1 < 0 then (laws_FnExactThenTurned.j0 k t395 true l0_0 l0_1 l1_0 l1_1 t389 t392 t411 t414) else ((laws_eqTurned.f k t411 t414 t389 t392).bind fun t440 => (if t440 = true then (laws_FnExactThenTurned.j0 k t395 (t417 != t395) l0_0 l0_1 l1_0 l1_1 t389 t392 t411 t414) else (none)))))) = some r := by rw [if_pos rfl] at H; exact H
       clear H; have H := H1; clear H1
       replace H := Option.bind_eq_some_iff.mp H
       obtain ⟨⟨t434, t435, t436⟩, A340, H⟩ := H
       replace H : ((laws_markTurned.f k t404 t407 t434).bind fun bt437 => (if bt437.1 < 0 then (laws_FnExactThenTurned.j0 k t395 true l0_0 l0_1 l1_0 l1_1 t389 t392 t411 t414) else ((laws_eqTurned.f k t411 t414 t389 t392).bind fun t440 => (if t440 = true then (laws_FnExactThenTurned.j0 k t395 (t417 != t395) l0_0 l0_1 l1_0 l1_1 t389 t392 t411 t414) else (none))))) = some r := H
       have A34 := Aside0.mk A340; clear A340
       replace H := Option.bind_eq_some_iff.mp H
       obtain ⟨⟨t437, t438, t439⟩, A350, H⟩ := H
       replace H : (if t437 < 0 then (laws_FnExactThenTurned.j0 k t395 true l0_0 l0_1 l1_0 l1_1 t389 t392 t411 t414) else ((laws_eqTurned.f k t411 t414 t389 t392).bind fun t440 => (if t440 = true then (laws_FnExactThenTurned.j0 k t395 (t417 != t395) l0_0 l0_1 l1_0 l1_1 t389 t392 t411 t414) else (none)))) = some r := H
       have A35 := Aside0.mk A350; clear A350; have HC36 := Aside0.mk H; clear H
       go_enter Try.func4, Try.ntmps4
       try go_wp2_with (first | ((with_reducible refine gate_dst (N := 2) rfl ?_); refine box_event ?hg (N := 2) ?hd (cs := #[.slice A0_0 l0_0.length c0_0, .slice A0_1 l0_1.length c0_1]) (t := 34) ?hr ?_; (case hd => rfl); (case hg => rfl); (case hr => first | (go_simp; done) | (go_simp; rfl)); intro gb373 hg w37 hbox hb; have BK373 := Zm (hbox); have GW373 := Zx hg HB; have GE373 := Zx hg HB; replace HB := Zh HB hb; clear hb hbox hg) | ((with_reducible refine gate_dst (N := 3) rfl ?_); refine box_event ?hg (N := 3) ?hd (cs := #[.slice A1_0 l1_0.length c1_0, .slice A1_1 l1_1.length c1_1]) (t := 34) ?hr ?_; (case hd => rfl); (case hg => rfl); (case hr => first | (go_simp; done) | (go_simp; rfl)); intro gb374 hg w38 hbox hb; have BK374 := Zm (hbox); have GW374 := Zx hg HB; have GE374 := Zx hg HB; replace HB := Zh HB hb; have NB373_374 := Zq hg BK373; have NB374_373 := Zp hg BK373; replace BK373 := Zk BK373 hb; clear hb hbox hg; have hnb39 := NB373_374.out; have hnc39 := NB374_373.out; have hcz40_0 : w38.cell? ⟨gb373, 0, none⟩ = some (.slice A0_0 l0_0.length c0_0) := (blk_cell BK373.out 0).trans rfl; have hcz40_1 : w38.cell? ⟨gb373, 1, none⟩ = some (.slice A0_1 l0_1.length c0_1) := (blk_cell BK373.out 1).trans rfl; have hfz40_0 := blk_frozen BK373.out 0; have hfz40_1 := blk_frozen BK373.out 1) | ((with_reducible refine gate_callee (f := 16) rfl ?_); refine goesL_ (some 19) rfl rfl Try.func16 (by kernel_rfl) rfl #[.agg #[.slice A0_0 l0_0.length c0_0, .slice A0_1 l0_1.length c0_1], .int .i64 1048576] rfl (by (try simp only [List.map_toArray, List.map_cons, List.map_nil]); first | done | rfl) ?_; (with_reducible refine (laws_szTurned.calls _ _ l0_0 _ _ l0_1 1048576 t375 _ ?side1 ?side2 ?side3 ?side4 A3.out).mono ?_); (case side1 => repeat (first | exact (Kd.C_below HR0_0.out HB.out) | (with_reducible refine Kd.C_alloc ?_ _) | (with_reducible refine Kd.C_drewN ?_ _) | (with_reducible refine Kd.C_drew ?_))); (case side2 => exact HC0_0.out); (case side3 => repeat (first | exact (Kd.C_below HR0_1.out HB.out) | (with_reducible refine Kd.C_alloc ?_ _) | (with_reducible refine Kd.C_drewN ?_ _) | (with_reducible refine Kd.C_drew ?_))); (case side4 => exact HC0_1.out); rintro e w41 ⟨rfl, hb⟩; refine ⟨_, rfl, ?_⟩; replace BK373 := Zk BK373 hb; replace BK374 := Zk BK374 hb; replace HB := Zh HB hb; (try clear hb); (try clear hb2); (try clear hk); (try clear hi); have hcz42_0 : w41.cell? ⟨gb374, 0, none⟩ = some (.slice A1_0 l1_0.length c1_0) := (blk_cell BK374.out 0).trans rfl; have hcz42_1 : w41.cell? ⟨gb374, 1, none⟩ = some (.slice A1_1 l1_1.length c1_1) := (blk_cell BK374.out 1).trans rfl; have hfz42_0 := blk_frozen BK374.out 0; have hfz42_1 := blk_frozen BK374.out 1) | ((with_reducible refine gate_callee (f := 16) rfl ?_); refine goesL_ (some 24) rfl rfl Try.func16 (by kernel_rfl) rfl #[.agg #[.slice A1_0 l1_0.length c1_0, .slice A1_1 l1_1.length c1_1], .int .i64 t375] rfl (by (try simp only [List.map_toArray, List.map_cons, List.map_nil]); first | done | rfl) ?_; (with_reducible refine (laws_szTurned.calls _ _ l1_0 _ _ l1_1 t375 t376 _ ?side1 ?side2 ?side3 ?side4 A10.out).mono ?_); (case side1 => repeat (first | exact (Kd.C_below HR1_0.out HB.out) | (with_reducible refine Kd.C_alloc ?_ _) | (with_reducible refine Kd.C_drewN ?_ _) | (with_reducible refine Kd.C_drew ?_))); (case side2 => exact HC1_0.out); (case side3 => repeat (first | exact (Kd.C_below HR1_1.out HB.out) | (with_reducible refine Kd.C_alloc ?_ _) | (with_reducible refine Kd.C_drewN ?_ _) | (with_reducible refine Kd.C_drew ?_))); (case side4 => exact HC1_1.out); rintro e w43 ⟨rfl, hb⟩; refine ⟨_, rfl, ?_⟩; replace BK373 := Zk BK373 hb; replace BK374 := Zk BK374 hb; replace HB := Zh HB hb; (try clear hb); (try clear hb2); (try clear hk); (try clear hi)))
       replace BK373 := Zm (blk_drew BK373.out); replace BK374 := Zm (blk_drew BK374.out); replace HB := Zm (below_drew1 HB.out)
       refine start_ (n := 11) (S := fun w' => w'.cell? ⟨gb373, 0, none⟩ = some (.slice A0_0 l0_0.length c0_0) ∧ w'.cell? ⟨gb373, 1, none⟩ = some (.slice A0_1 l0_1.length c0_1) ∧ w'.cell? ⟨gb374, 0, none⟩ = some (.slice A1_0 l1_0.length c1_0) ∧ w'.cell? ⟨gb374, 1, none⟩ = some (.slice A1_1 l1_1.length c1_1)) (ds := []) #[false, false, false, false, false, false, false, false, false, false, false] (by kernel_rfl) rfl rfl ⟨(blk_cell BK373.out 0).trans rfl, (blk_cell BK373.out 1).trans rfl, (blk_cell BK374.out 0).trans rfl, (blk_cell BK374.out 1).trans rfl⟩ (fun hHeld => ?_); refine with_tabW laws_FnExactThenTurned.tab8 laws_FnExactThenTurned.bits8 (fun HT_ HW_ => ?_)
       generalize w43.drew = w44 at BK373 BK374 HB hHeld ⊢
       refine take_ (i := 0) (N := some 28) (v := ?_) (a' := ?_) #[true, false, false, false, false, false, false, false, false, false, false] rfl rfl (take_ofW HT_.out HW_.out (by kernel_rfl)) (fun _ _ _ h => h) (Or.inl ⟨by rfl, ?_⟩) hHeld ?_ ?_
       rotate_left
       ·
        rintro w' ⟨s0, s1, s2, s3⟩
        go_simp
        with_reducible rfl
       rotate_left
       ·
        simp only [Act.put, List.setIfInBounds_toArray, List.set_cons_zero, List.set_cons_succ, i64_w, i32_w]
        rfl
       refine take_ (i := 2) (N := some 30) (v := ?_) (a' := ?_) #[true, false, true, false, false, false, false, false, false, false, false] rfl rfl (take_ofW HT_.out HW_.out (by kernel_rfl)) (fun _ _ _ h => h) (Or.inl ⟨by rfl, ?_⟩) hHeld ?_ ?_
       rotate_left
       ·
        rintro w' ⟨s0, s1, s2, s3⟩
        go_simp
        with_reducible rfl
       rotate_left
       ·
        simp only [Act.put, List.setIfInBounds_toArray, List.set_cons_zero, List.set_cons_succ, i64_w, i32_w]
        rfl
       refine join_ (σ := Value × Value × Value × Value × Value × Value × Nat) 2 #[true, true, true, true, true, true, true, true, true, false, false] (fun s_ => [(29, .agg #[s_.1, s_.2.1]), (31, .agg #[s_.2.2.1, s_.2.2.2.1]), (32, .tuple #[.agg #[s_.2.2.2.2.1, s_.2.2.2.2.2.1], .bool t395]), (6, .pointer (some ⟨s_.2.2.2.2.2.2, 0, none⟩)), (27, .tuple #[.agg #[s_.2.2.2.2.1, s_.2.2.2.2.2.1], .bool t395]), (33, .agg #[s_.2.2.2.2.1, s_.2.2.2.2.2.1]), (34, .bool t395)]) (fun s_ w' => (w'.cell? ⟨gb373, 0, none⟩ = some (.slice A0_0 l0_0.length c0_0) ∧ w'.cell? ⟨gb373, 1, none⟩ = some (.slice A0_1 l0_1.length c0_1) ∧ w'.cell? ⟨gb374, 0, none⟩ = some (.slice A1_0 l1_0.length c1_0) ∧ w'.cell? ⟨gb374, 1, none⟩ = some (.slice A1_1 l1_1.length c1_1)) ∧ (Kd.R (Kd.int .i64) 3 w' w.heap.size (fun k_ => Zn k_ s_.2.1 ∧ Zn k_ s_.2.2.1 ∧ Zn k_ s_.2.2.2.1 ∧ Zn k_ s_.2.2.2.2.1 ∧ Zn k_ s_.2.2.2.2.2.1) s_.1 t377) ∧ (Kd.R (Kd.int .i64) 3 w' w.heap.size (fun k_ => Zn k_ s_.1 ∧ Zn k_ s_.2.2.1 ∧ Zn k_ s_.2.2.2.1 ∧ Zn k_ s_.2.2.2.2.1 ∧ Zn k_ s_.2.2.2.2.2.1) s_.2.1 t380) ∧ (Kd.R (Kd.int .i64) 3 w' w.heap.size (fun k_ => Zn k_ s_.1 ∧ Zn k_ s_.2.1 ∧ Zn k_ s_.2.2.2.1 ∧ Zn k_ s_.2.2.2.2.1 ∧ Zn k_ s_.2.2.2.2.2.1) s_.2.2.1 t383) ∧ (Kd.R (Kd.int .i64) 3 w' w.heap.size (fun k_ => Zn k_ s_.1 ∧ Zn k_ s_.2.1 ∧ Zn k_ s_.2.2.1 ∧ Zn k_ s_.2.2.2.2.1 ∧ Zn k_ s_.2.2.2.2.2.1) s_.2.2.2.1 t386) ∧ (Kd.R (Kd.int .i64) 3 w' w.heap.size (fun k_ => Zn k_ s_.1 ∧ Zn k_ s_.2.1 ∧ Zn k_ s_.2.2.1 ∧ Zn k_ s_.2.2.2.1 ∧ Zn k_ s_.2.2.2.2.2.1) s_.2.2.2.2.1 t389) ∧ (Kd.R (Kd.int .i64) 3 w' w.heap.size (fun k_ => Zn k_ s_.1 ∧ Zn k_ s_.2.1 ∧ Zn k_ s_.2.2.1 ∧ Zn k_ s_.2.2.2.1 ∧ Zn k_ s_.2.2.2.2.1) s_.2.2.2.2.2.1 t392) ∧ (w'.heap[gb373]? = some (.cells #[.slice A0_0 l0_0.length c0_0, .slice A0_1 l0_1.length c0_1] 34 (0, 0))) ∧ (w'.heap[gb374]? = some (.cells #[.slice A1_0 l1_0.length c1_0, .slice A1_1 l1_1.length c1_1] 34 (0, 0))) ∧ (w'.heap[s_.2.2.2.2.2.2]? = some (.cells #[.slice none 0 0, .slice none 0 0] 36 (0, 0))) ∧ (w.heap.size ≤ s_.2.2.2.2.2.2) ∧ (w.heap.size ≤ s_.2.2.2.2.2.2) ∧ (gb373 ≠ s_.2.2.2.2.2.2) ∧ (s_.2.2.2.2.2.2 ≠ gb373) ∧ (gb374 ≠ s_.2.2.2.2.2.2) ∧ (s_.2.2.2.2.2.2 ≠ gb374) ∧ (Below w.heap.size w w')) ?_ ?_
       rotate_left
       ·
        intro hCont
        refine two_ (i := 1) (j := 8) (Ni := some 29) (Nj := some 6) #[true, true, true, false, false, false, false, false, false, false, false] #[true, false, true, false, false, false, false, false, true, false, false] rfl rfl rfl rfl (two_of HT_.out (by kernel_rfl)) (by decide) (by decide) (fun K hK => ?_) (fun K hK => ?_)
        ·
         skip
         refine goes_ Try.func18 (by kernel_rfl) rfl #[.agg #[.slice A0_0 l0_0.length c0_0, .slice A0_1 l0_1.length c0_1]] (by rfl) rfl rfl (by (try simp only [List.map_toArray, List.map_cons, List.map_nil]); first | done | rfl) ?_
         with_reducible refine (laws_toTurned.calls k _ _ l0_0 _ _ l0_1 t377 t380 _ ?side1 ?side2 ?side3 ?side4 A19.out).mono ?_
         (case side1 => repeat (first | exact (Kd.C_below HR0_0.out HB.out) | (with_reducible refine Kd.C_alloc ?_ _) | (with_reducible refine Kd.C_drewN ?_ _) | (with_reducible refine Kd.C_drew ?_)))
         (case side2 => exact HC0_0.out)
         (case side3 => repeat (first | exact (Kd.C_below HR0_1.out HB.out) | (with_reducible refine Kd.C_alloc ?_ _) | (with_reducible refine Kd.C_drewN ?_ _) | (with_reducible refine Kd.C_drew ?_)))
         (case side4 => exact HC0_1.out)
         rintro e w45 ⟨v378, v381, rfl, ho0, ho1, hb⟩
         refine ⟨_, rfl, ?_⟩
         have HO379 := Zj ho0 HB; have HO382 := Zj ho1 HB; replace BK373 := Zk BK373 hb; replace BK374 := Zk BK374 hb; replace HB := Zh HB hb
         (try clear hb)
         (try clear hb2)
         (try clear hk)
         (try clear hi)
         (try clear ho0)
         (try clear ho1)
         refine hK.out _ _ ⟨(blk_cell BK373.out 0).trans rfl, (blk_cell BK373.out 1).trans rfl, (blk_cell BK374.out 0).trans rfl, (blk_cell BK374.out 1).trans rfl⟩ (fun hHeld => ?_)
         clear hK K
         refine norm_ (a' := ?_) ?_ ?_
         rotate_left
         ·
          show Act.put _ (some 29) _ = _
          simp only [Act.put, List.setIfInBounds_toArray, List.set_cons_zero, List.set_cons_succ, i64_w, i32_w]
          rfl
         refine two_ (i := 3) (j := 8) (Ni := some 31) (Nj := some 6) #[true, true, true, true, false, false, false, false, false, false, false] #[true, true, true, false, false, false, false, false, true, false, false] rfl rfl rfl rfl (two_of HT_.out (by kernel_rfl)) (by decide) (by decide) (fun K hK => ?_) (fun K hK => ?_)
         ·
          skip
          refine goes_ Try.func18 (by kernel_rfl) rfl #[.agg #[.slice A1_0 l1_0.length c1_0, .slice A1_1 l1_1.length c1_1]] (by rfl) rfl rfl (by (try simp only [List.map_toArray, List.map_cons, List.map_nil]); first | done | rfl) ?_
          with_reducible refine (laws_toTurned.calls k _ _ l1_0 _ _ l1_1 t383 t386 _ ?side1 ?side2 ?side3 ?side4 A20.out).mono ?_
          (case side1 => repeat (first | exact (Kd.C_below HR1_0.out HB.out) | (with_reducible refine Kd.C_alloc ?_ _) | (with_reducible refine Kd.C_drewN ?_ _) | (with_reducible refine Kd.C_drew ?_)))
          (case side2 => exact HC1_0.out)
          (case side3 => repeat (first | exact (Kd.C_below HR1_1.out HB.out) | (with_reducible refine Kd.C_alloc ?_ _) | (with_reducible refine Kd.C_drewN ?_ _) | (with_reducible refine Kd.C_drew ?_)))
          (case side4 => exact HC1_1.out)
          rintro e w46 ⟨v384, v387, rfl, ho0, ho1, hb⟩
          refine ⟨_, rfl, ?_⟩
          have HO385 := Zj (Zv (Zv ho0 HO379) HO382) HB; have HO388 := Zj (Zv (Zv ho1 HO379) HO382) HB; replace HO379 := Zu HO379 hb ho0 ho1; replace HO382 := Zu HO382 hb ho0 ho1; replace BK373 := Zk BK373 hb; replace BK374 := Zk BK374 hb; replace HB := Zh HB hb
          (try clear hb)
          (try clear hb2)
          (try clear hk)
          (try clear hi)
          (try clear ho0)
          (try clear ho1)
          obtain ⟨Ao47, co47, eo47⟩ := Kd.R_slice HO379.out
          (first | subst eo47 | (injection eo47 with f1_ f2_ f3_; have f4_ := f1_.symm; have f5_ := f3_.symm; clear f1_ f2_ f3_; subst f4_; subst f5_))
          obtain ⟨Ao48, co48, eo48⟩ := Kd.R_slice HO382.out
          (first | subst eo48 | (injection eo48 with f1_ f2_ f3_; have f4_ := f1_.symm; have f5_ := f3_.symm; clear f1_ f2_ f3_; subst f4_; subst f5_))
          obtain ⟨Ao49, co49, eo49⟩ := Kd.R_slice HO385.out
          (first | subst eo49 | (injection eo49 with f1_ f2_ f3_; have f4_ := f1_.symm; have f5_ := f3_.symm; clear f1_ f2_ f3_; subst f4_; subst f5_))
          obtain ⟨Ao50, co50, eo50⟩ := Kd.R_slice HO388.out
          (first | subst eo50 | (injection eo50 with f1_ f2_ f3_; have f4_ := f1_.symm; have f5_ := f3_.symm; clear f1_ f2_ f3_; subst f4_; subst f5_))
          refine hK.out _ _ ⟨(blk_cell BK373.out 0).trans rfl, (blk_cell BK373.out 1).trans rfl, (blk_cell BK374.out 0).trans rfl, (blk_cell BK374.out 1).trans rfl⟩ (fun hHeld => ?_)
          clear hK K
          refine norm_ (a' := ?_) ?_ ?_
          rotate_left
          ·
           show Act.put _ (some 31) _ = _
           simp only [Act.put, List.setIfInBounds_toArray, List.set_cons_zero, List.set_cons_succ, i64_w, i32_w]
           rfl
          refine two_ (i := 4) (j := 8) (Ni := some 32) (Nj := some 6) #[true, true, true, true, true, false, false, false, false, false, false] #[true, true, true, true, false, false, false, false, true, false, false] rfl rfl rfl rfl (two_of HT_.out (by kernel_rfl)) (by decide) (by decide) (fun K hK => ?_) (fun K hK => ?_)
          ·
           skip
           refine goes_ Try.func17 (by kernel_rfl) rfl #[.agg #[.slice Ao47 t377.length co47, .slice Ao48 t380.length co48], .agg #[.slice Ao49 t383.length co49, .slice Ao50 t386.length co50]] (by rfl) rfl rfl (by (try simp only [List.map_toArray, List.map_cons, List.map_nil]); first | done | rfl) ?_
           with_reducible refine (spec_ThenTurned.calls k _ _ t377 _ _ t380 _ _ t383 _ _ t386 t389 t392 t395 _ ?side1 ?side2 ?side3 ?side4 ?side5 ?side6 ?side7 ?side8 A21.out).mono ?_
           (case side1 => repeat (first | exact (Kd.R_reads' HO379.out).2.2 | (with_reducible refine Kd.C_alloc ?_ _) | (with_reducible refine Kd.C_drewN ?_ _) | (with_reducible refine Kd.C_drew ?_)))
           (case side2 => exact (Kd.R_reads' HO379.out).2.1)
           (case side3 => repeat (first | exact (Kd.R_reads' HO382.out).2.2 | (with_reducible refine Kd.C_alloc ?_ _) | (with_reducible refine Kd.C_drewN ?_ _) | (with_reducible refine Kd.C_drew ?_)))
           (case side4 => exact (Kd.R_reads' HO382.out).2.1)
           (case side5 => repeat (first | exact (Kd.R_reads' HO385.out).2.2 | (with_reducible refine Kd.C_alloc ?_ _) | (with_reducible refine Kd.C_drewN ?_ _) | (with_reducible refine Kd.C_drew ?_)))
           (case side6 => exact (Kd.R_reads' HO385.out).2.1)
           (case side7 => repeat (first | exact (Kd.R_reads' HO388.out).2.2 | (with_reducible refine Kd.C_alloc ?_ _) | (with_reducible refine Kd.C_drewN ?_ _) | (with_reducible refine Kd.C_drew ?_)))
           (case side8 => exact (Kd.R_reads' HO388.out).2.1)
           rintro e w51 ⟨v390, v393, rfl, ho0, ho1, hb⟩
           refine ⟨_, rfl, ?_⟩
           have HO391 := Zj (Zv (Zv (Zv (Zv ho0 HO379) HO382) HO385) HO388) HB; have HO394 := Zj (Zv (Zv (Zv (Zv ho1 HO379) HO382) HO385) HO388) HB; replace HO379 := Zu HO379 hb ho0 ho1; replace HO382 := Zu HO382 hb ho0 ho1; replace HO385 := Zu HO385 hb ho0 ho1; replace HO388 := Zu HO388 hb ho0 ho1; replace BK373 := Zk BK373 hb; replace BK374 := Zk BK374 hb; replace HB := Zh HB hb
           (try clear hb)
           (try clear hb2)
           (try clear hk)
           (try clear hi)
           (try clear ho0)
           (try clear ho1)
           refine hK.out _ _ ⟨(blk_cell BK373.out 0).trans rfl, (blk_cell BK373.out 1).trans rfl, (blk_cell BK374.out 0).trans rfl, (blk_cell BK374.out 1).trans rfl⟩ (fun hHeld => ?_)
           clear hK K
           refine norm_ (a' := ?_) ?_ ?_
           rotate_left
           ·
            show Act.put _ (some 32) _ = _
            simp only [Act.put, List.setIfInBounds_toArray, List.set_cons_zero, List.set_cons_succ, i64_w, i32_w]
            rfl
           refine pure_ (i := 5) (N := some 27) (v := ?_) (a' := ?_) #[true, true, true, true, true, true, false, false, false, false, false] rfl rfl (any_of HT_.out (by kernel_rfl)) (fun _ _ _ h => h) (Or.inl ⟨by rfl, ?_⟩) ?_ ?_
           rotate_left
           ·
            intro w'
            go_simp
            with_reducible rfl
           rotate_left
           ·
            simp only [Act.put, List.setIfInBounds_toArray, List.set_cons_zero, List.set_cons_succ, i64_w, i32_w]
            rfl
           refine pure_ (i := 6) (N := some 33) (v := ?_) (a' := ?_) #[true, true, true, true, true, true, true, false, false, false, false] rfl rfl (any_of HT_.out (by kernel_rfl)) (fun _ _ _ h => h) (Or.inl ⟨by rfl, ?_⟩) ?_ ?_
           rotate_left
           ·
            intro w'
            go_simp
            with_reducible rfl
           rotate_left
           ·
            simp only [Act.put, List.setIfInBounds_toArray, List.set_cons_zero, List.set_cons_succ, i64_w, i32_w]
            rfl
           refine pure_ (i := 7) (N := some 34) (v := ?_) (a' := ?_) #[true, true, true, true, true, true, true, true, false, false, false] rfl rfl (any_of HT_.out (by kernel_rfl)) (fun _ _ _ h => h) (Or.inl ⟨by rfl, ?_⟩) ?_ ?_
           rotate_left
           ·
            intro w'
            go_simp
            with_reducible rfl
           rotate_left
           ·
            simp only [Act.put, List.setIfInBounds_toArray, List.set_cons_zero, List.set_cons_succ, i64_w, i32_w]
            rfl
           refine one_ (i := 8) (N := some 6) #[true, true, true, true, true, true, true, true, true, false, false] rfl rfl (one_of HT_.out (by kernel_rfl)) (by decide) (fun K hK => ?_)
           refine box_step ?hg (N := 6) ?hd (cs := #[.slice none 0 0, .slice none 0 0]) (t := 36) ?hr ?_; (case hd => rfl); (case hg => rfl); (case hr => first | (go_simp; done) | (go_simp; rfl))
           intro gb396 hg w52 hbox hb
           replace HO379 := Zo HO379 hb; replace HO382 := Zo HO382 hb; replace HO385 := Zo HO385 hb; replace HO388 := Zo HO388 hb; replace HO391 := Zo HO391 hb; replace HO394 := Zo HO394 hb; have BK396 := Zm (hbox); have GW396 := Zx hg HB; have GE396 := Zx hg HB; replace HB := Zh HB hb; have NB373_396 := Zq hg BK373; have NB396_373 := Zp hg BK373; replace BK373 := Zk BK373 hb; have NB374_396 := Zq hg BK374; have NB396_374 := Zp hg BK374; replace BK374 := Zk BK374 hb; clear hb hbox hg
           refine hK.out _ _ ⟨(blk_cell BK373.out 0).trans rfl, (blk_cell BK373.out 1).trans rfl, (blk_cell BK374.out 0).trans rfl, (blk_cell BK374.out 1).trans rfl⟩ (fun hHeld => ?_)
           clear hK K
           refine norm_ (a' := ?_) ?_ ?_
           rotate_left
           ·
            show Act.put _ (some 6) _ = _
            simp only [Act.put, List.setIfInBounds_toArray, List.set_cons_zero, List.set_cons_succ, i64_w, i32_w]
            rfl
           exact norm_ (by simp only [putAll, Act.put, List.setIfInBounds_toArray, List.set_cons_zero, List.set_cons_succ]) (hCont (.slice Ao47 t377.length co47, .slice Ao48 t380.length co48, .slice Ao49 t383.length co49, .slice Ao50 t386.length co50, v390, v393, gb396) _ ⟨hHeld, (Zc HO379), (Zc HO382), (Zc HO385), (Zc HO388), (Zc HO391), (Zc HO394), (Zb BK373), (Zb BK374), (Zb BK396), GW396.out, GE396.out, NB373_396.out, NB396_373.out, NB374_396.out, NB396_374.out, (Zl HB)⟩)
          ·
           skip
           refine box_step ?hg (N := 6) ?hd (cs := #[.slice none 0 0, .slice none 0 0]) (t := 36) ?hr ?_; (case hd => rfl); (case hg => rfl); (case hr => first | (go_simp; done) | (go_simp; rfl))
           intro gb396 hg w47 hbox hb
           replace HO379 := Zo HO379 hb; replace HO382 := Zo HO382 hb; replace HO385 := Zo HO385 hb; replace HO388 := Zo HO388 hb; have BK396 := Zm (hbox); have GW396 := Zx hg HB; have GE396 := Zx hg HB; replace HB := Zh HB hb; have NB373_396 := Zq hg BK373; have NB396_373 := Zp hg BK373; replace BK373 := Zk BK373 hb; have NB374_396 := Zq hg BK374; have NB396_374 := Zp hg BK374; replace BK374 := Zk BK374 hb; clear hb hbox hg
           obtain ⟨Ao48, co48, eo48⟩ := Kd.R_slice HO379.out
           (first | subst eo48 | (injection eo48 with f1_ f2_ f3_; have f4_ := f1_.symm; have f5_ := f3_.symm; clear f1_ f2_ f3_; subst f4_; subst f5_))
           obtain ⟨Ao49, co49, eo49⟩ := Kd.R_slice HO382.out
           (first | subst eo49 | (injection eo49 with f1_ f2_ f3_; have f4_ := f1_.symm; have f5_ := f3_.symm; clear f1_ f2_ f3_; subst f4_; subst f5_))
           obtain ⟨Ao50, co50, eo50⟩ := Kd.R_slice HO385.out
           (first | subst eo50 | (injection eo50 with f1_ f2_ f3_; have f4_ := f1_.symm; have f5_ := f3_.symm; clear f1_ f2_ f3_; subst f4_; subst f5_))
           obtain ⟨Ao51, co51, eo51⟩ := Kd.R_slice HO388.out
           (first | subst eo51 | (injection eo51 with f1_ f2_ f3_; have f4_ := f1_.symm; have f5_ := f3_.symm; clear f1_ f2_ f3_; subst f4_; subst f5_))
           refine hK.out _ _ ⟨(blk_cell BK373.out 0).trans rfl, (blk_cell BK373.out 1).trans rfl, (blk_cell BK374.out 0).trans rfl, (blk_cell BK374.out 1).trans rfl⟩ (fun hHeld => ?_)
           clear hK K
           refine norm_ (a' := ?_) ?_ ?_
           rotate_left
           ·
            show Act.put _ (some 6) _ = _
            simp only [Act.put, List.setIfInBounds_toArray, List.set_cons_zero, List.set_cons_succ, i64_w, i32_w]
            rfl
           refine one_ (i := 4) (N := some 32) #[true, true, true, true, true, false, false, false, true, false, false] rfl rfl (one_of HT_.out (by kernel_rfl)) (by decide) (fun K hK => ?_)
           refine goes_ Try.func17 (by kernel_rfl) rfl #[.agg #[.slice Ao48 t377.length co48, .slice Ao49 t380.length co49], .agg #[.slice Ao50 t383.length co50, .slice Ao51 t386.length co51]] (by rfl) rfl rfl (by (try simp only [List.map_toArray, List.map_cons, List.map_nil]); first | done | rfl) ?_
           with_reducible refine (spec_ThenTurned.calls k _ _ t377 _ _ t380 _ _ t383 _ _ t386 t389 t392 t395 _ ?side1 ?side2 ?side3 ?side4 ?side5 ?side6 ?side7 ?side8 A21.out).mono ?_
           (case side1 => repeat (first | exact (Kd.R_reads' HO379.out).2.2 | (with_reducible refine Kd.C_alloc ?_ _) | (with_reducible refine Kd.C_drewN ?_ _) | (with_reducible refine Kd.C_drew ?_)))
           (case side2 => exact (Kd.R_reads' HO379.out).2.1)
           (case side3 => repeat (first | exact (Kd.R_reads' HO382.out).2.2 | (with_reducible refine Kd.C_alloc ?_ _) | (with_reducible refine Kd.C_drewN ?_ _) | (with_reducible refine Kd.C_drew ?_)))
           (case side4 => exact (Kd.R_reads' HO382.out).2.1)
           (case side5 => repeat (first | exact (Kd.R_reads' HO385.out).2.2 | (with_reducible refine Kd.C_alloc ?_ _) | (with_reducible refine Kd.C_drewN ?_ _) | (with_reducible refine Kd.C_drew ?_)))
           (case side6 => exact (Kd.R_reads' HO385.out).2.1)
           (case side7 => repeat (first | exact (Kd.R_reads' HO388.out).2.2 | (with_reducible refine Kd.C_alloc ?_ _) | (with_reducible refine Kd.C_drewN ?_ _) | (with_reducible refine Kd.C_drew ?_)))
           (case side8 => exact (Kd.R_reads' HO388.out).2.1)
           rintro e w52 ⟨v390, v393, rfl, ho0, ho1, hb⟩
           refine ⟨_, rfl, ?_⟩
           have HO391 := Zj (Zv (Zv (Zv (Zv ho0 HO379) HO382) HO385) HO388) HB; have HO394 := Zj (Zv (Zv (Zv (Zv ho1 HO379) HO382) HO385) HO388) HB; replace HO379 := Zu HO379 hb ho0 ho1; replace HO382 := Zu HO382 hb ho0 ho1; replace HO385 := Zu HO385 hb ho0 ho1; replace HO388 := Zu HO388 hb ho0 ho1; replace BK373 := Zk BK373 hb; replace BK374 := Zk BK374 hb; replace BK396 := Zk BK396 hb; replace HB := Zh HB hb
           (try clear hb)
           (try clear hb2)
           (try clear hk)
           (try clear hi)
           (try clear ho0)
           (try clear ho1)
           refine hK.out _ _ ⟨(blk_cell BK373.out 0).trans rfl, (blk_cell BK373.out 1).trans rfl, (blk_cell BK374.out 0).trans rfl, (blk_cell BK374.out 1).trans rfl⟩ (fun hHeld => ?_)
           clear hK K
           refine norm_ (a' := ?_) ?_ ?_
           rotate_left
           ·
            show Act.put _ (some 32) _ = _
            simp only [Act.put, List.setIfInBounds_toArray, List.set_cons_zero, List.set_cons_succ, i64_w, i32_w]
            rfl
           refine pure_ (i := 5) (N := some 27) (v := ?_) (a' := ?_) #[true, true, true, true, true, true, false, false, true, false, false] rfl rfl (any_of HT_.out (by kernel_rfl)) (fun _ _ _ h => h) (Or.inl ⟨by rfl, ?_⟩) ?_ ?_
           rotate_left
           ·
            intro w'
            go_simp
            with_reducible rfl
           rotate_left
           ·
            simp only [Act.put, List.setIfInBounds_toArray, List.set_cons_zero, List.set_cons_succ, i64_w, i32_w]
            rfl
           refine pure_ (i := 6) (N := some 33) (v := ?_) (a' := ?_) #[true, true, true, true, true, true, true, false, true, false, false] rfl rfl (any_of HT_.out (by kernel_rfl)) (fun _ _ _ h => h) (Or.inl ⟨by rfl, ?_⟩) ?_ ?_
           rotate_left
           ·
            intro w'
            go_simp
            with_reducible rfl
           rotate_left
           ·
            simp only [Act.put, List.setIfInBounds_toArray, List.set_cons_zero, List.set_cons_succ, i64_w, i32_w]
            rfl
           refine pure_ (i := 7) (N := some 34) (v := ?_) (a' := ?_) #[true, true, true, true, true, true, true, true, true, false, false] rfl rfl (any_of HT_.out (by kernel_rfl)) (fun _ _ _ h => h) (Or.inl ⟨by rfl, ?_⟩) ?_ ?_
           rotate_left
           ·
            intro w'
            go_simp
            with_reducible rfl
           rotate_left
           ·
            simp only [Act.put, List.setIfInBounds_toArray, List.set_cons_zero, List.set_cons_succ, i64_w, i32_w]
            rfl
           exact norm_ (by simp only [putAll, Act.put, List.setIfInBounds_toArray, List.set_cons_zero, List.set_cons_succ]) (hCont (.slice Ao48 t377.length co48, .slice Ao49 t380.length co49, .slice Ao50 t383.length co50, .slice Ao51 t386.length co51, v390, v393, gb396) _ ⟨hHeld, (Zc HO379), (Zc HO382), (Zc HO385), (Zc HO388), (Zc HO391), (Zc HO394), (Zb BK373), (Zb BK374), (Zb BK396), GW396.out, GE396.out, NB373_396.out, NB396_373.out, NB374_396.out, NB396_374.out, (Zl HB)⟩)
         ·
          skip
          refine box_step ?hg (N := 6) ?hd (cs := #[.slice none 0 0, .slice none 0 0]) (t := 36) ?hr ?_; (case hd => rfl); (case hg => rfl); (case hr => first | (go_simp; done) | (go_simp; rfl))
          intro gb396 hg w46 hbox hb
          replace HO379 := Zo HO379 hb; replace HO382 := Zo HO382 hb; have BK396 := Zm (hbox); have GW396 := Zx hg HB; have GE396 := Zx hg HB; replace HB := Zh HB hb; have NB373_396 := Zq hg BK373; have NB396_373 := Zp hg BK373; replace BK373 := Zk BK373 hb; have NB374_396 := Zq hg BK374; have NB396_374 := Zp hg BK374; replace BK374 := Zk BK374 hb; clear hb hbox hg
          refine hK.out _ _ ⟨(blk_cell BK373.out 0).trans rfl, (blk_cell BK373.out 1).trans rfl, (blk_cell BK374.out 0).trans rfl, (blk_cell BK374.out 1).trans rfl⟩ (fun hHeld => ?_)
          clear hK K
          refine norm_ (a' := ?_) ?_ ?_
          rotate_left
          ·
           show Act.put _ (some 6) _ = _
           simp only [Act.put, List.setIfInBounds_toArray, List.set_cons_zero, List.set_cons_succ, i64_w, i32_w]
           rfl
          refine one_ (i := 3) (N := some 31) #[true, true, true, true, false, false, false, false, true, false, false] rfl rfl (one_of HT_.out (by kernel_rfl)) (by decide) (fun K hK => ?_)
          refine goes_ Try.func18 (by kernel_rfl) rfl #[.agg #[.slice A1_0 l1_0.length c1_0, .slice A1_1 l1_1.length c1_1]] (by rfl) rfl rfl (by (try simp only [List.map_toArray, List.map_cons, List.map_nil]); first | done | rfl) ?_
          with_reducible refine (laws_toTurned.calls k _ _ l1_0 _ _ l1_1 t383 t386 _ ?side1 ?side2 ?side3 ?side4 A20.out).mono ?_
          (case side1 => repeat (first | exact (Kd.C_below HR1_0.out HB.out) | (with_reducible refine Kd.C_alloc ?_ _) | (with_reducible refine Kd.C_drewN ?_ _) | (with_reducible refine Kd.C_drew ?_)))
          (case side2 => exact HC1_0.out)
          (case side3 => repeat (first | exact (Kd.C_below HR1_1.out HB.out) | (with_reducible refine Kd.C_alloc ?_ _) | (with_reducible refine Kd.C_drewN ?_ _) | (with_reducible refine Kd.C_drew ?_)))
          (case side4 => exact HC1_1.out)
          rintro e w47 ⟨v384, v387, rfl, ho0, ho1, hb⟩
          refine ⟨_, rfl, ?_⟩
          have HO385 := Zj (Zv (Zv ho0 HO379) HO382) HB; have HO388 := Zj (Zv (Zv ho1 HO379) HO382) HB; replace HO379 := Zu HO379 hb ho0 ho1; replace HO382 := Zu HO382 hb ho0 ho1; replace BK373 := Zk BK373 hb; replace BK374 := Zk BK374 hb; replace BK396 := Zk BK396 hb; replace HB := Zh HB hb
          (try clear hb)
          (try clear hb2)
          (try clear hk)
          (try clear hi)
          (try clear ho0)
          (try clear ho1)
          obtain ⟨Ao48, co48, eo48⟩ := Kd.R_slice HO379.out
          (first | subst eo48 | (injection eo48 with f1_ f2_ f3_; have f4_ := f1_.symm; have f5_ := f3_.symm; clear f1_ f2_ f3_; subst f4_; subst f5_))
          obtain ⟨Ao49, co49, eo49⟩ := Kd.R_slice HO382.out
          (first | subst eo49 | (injection eo49 with f1_ f2_ f3_; have f4_ := f1_.symm; have f5_ := f3_.symm; clear f1_ f2_ f3_; subst f4_; subst f5_))
          obtain ⟨Ao50, co50, eo50⟩ := Kd.R_slice HO385.out
          (first | subst eo50 | (injection eo50 with f1_ f2_ f3_; have f4_ := f1_.symm; have f5_ := f3_.symm; clear f1_ f2_ f3_; subst f4_; subst f5_))
          obtain ⟨Ao51, co51, eo51⟩ := Kd.R_slice HO388.out
          (first | subst eo51 | (injection eo51 with f1_ f2_ f3_; have f4_ := f1_.symm; have f5_ := f3_.symm; clear f1_ f2_ f3_; subst f4_; subst f5_))
          refine hK.out _ _ ⟨(blk_cell BK373.out 0).trans rfl, (blk_cell BK373.out 1).trans rfl, (blk_cell BK374.out 0).trans rfl, (blk_cell BK374.out 1).trans rfl⟩ (fun hHeld => ?_)
          clear hK K
          refine norm_ (a' := ?_) ?_ ?_
          rotate_left
          ·
           show Act.put _ (some 31) _ = _
           simp only [Act.put, List.setIfInBounds_toArray, List.set_cons_zero, List.set_cons_succ, i64_w, i32_w]
           rfl
          refine one_ (i := 4) (N := some 32) #[true, true, true, true, true, false, false, false, true, false, false] rfl rfl (one_of HT_.out (by kernel_rfl)) (by decide) (fun K hK => ?_)
          refine goes_ Try.func17 (by kernel_rfl) rfl #[.agg #[.slice Ao48 t377.length co48, .slice Ao49 t380.length co49], .agg #[.slice Ao50 t383.length co50, .slice Ao51 t386.length co51]] (by rfl) rfl rfl (by (try simp only [List.map_toArray, List.map_cons, List.map_nil]); first | done | rfl) ?_
          with_reducible refine (spec_ThenTurned.calls k _ _ t377 _ _ t380 _ _ t383 _ _ t386 t389 t392 t395 _ ?side1 ?side2 ?side3 ?side4 ?side5 ?side6 ?side7 ?side8 A21.out).mono ?_
          (case side1 => repeat (first | exact (Kd.R_reads' HO379.out).2.2 | (with_reducible refine Kd.C_alloc ?_ _) | (with_reducible refine Kd.C_drewN ?_ _) | (with_reducible refine Kd.C_drew ?_)))
          (case side2 => exact (Kd.R_reads' HO379.out).2.1)
          (case side3 => repeat (first | exact (Kd.R_reads' HO382.out).2.2 | (with_reducible refine Kd.C_alloc ?_ _) | (with_reducible refine Kd.C_drewN ?_ _) | (with_reducible refine Kd.C_drew ?_)))
          (case side4 => exact (Kd.R_reads' HO382.out).2.1)
          (case side5 => repeat (first | exact (Kd.R_reads' HO385.out).2.2 | (with_reducible refine Kd.C_alloc ?_ _) | (with_reducible refine Kd.C_drewN ?_ _) | (with_reducible refine Kd.C_drew ?_)))
          (case side6 => exact (Kd.R_reads' HO385.out).2.1)
          (case side7 => repeat (first | exact (Kd.R_reads' HO388.out).2.2 | (with_reducible refine Kd.C_alloc ?_ _) | (with_reducible refine Kd.C_drewN ?_ _) | (with_reducible refine Kd.C_drew ?_)))
          (case side8 => exact (Kd.R_reads' HO388.out).2.1)
          rintro e w52 ⟨v390, v393, rfl, ho0, ho1, hb⟩
          refine ⟨_, rfl, ?_⟩
          have HO391 := Zj (Zv (Zv (Zv (Zv ho0 HO379) HO382) HO385) HO388) HB; have HO394 := Zj (Zv (Zv (Zv (Zv ho1 HO379) HO382) HO385) HO388) HB; replace HO379 := Zu HO379 hb ho0 ho1; replace HO382 := Zu HO382 hb ho0 ho1; replace HO385 := Zu HO385 hb ho0 ho1; replace HO388 := Zu HO388 hb ho0 ho1; replace BK373 := Zk BK373 hb; replace BK374 := Zk BK374 hb; replace BK396 := Zk BK396 hb; replace HB := Zh HB hb
          (try clear hb)
          (try clear hb2)
          (try clear hk)
          (try clear hi)
          (try clear ho0)
          (try clear ho1)
          refine hK.out _ _ ⟨(blk_cell BK373.out 0).trans rfl, (blk_cell BK373.out 1).trans rfl, (blk_cell BK374.out 0).trans rfl, (blk_cell BK374.out 1).trans rfl⟩ (fun hHeld => ?_)
          clear hK K
          refine norm_ (a' := ?_) ?_ ?_
          rotate_left
          ·
           show Act.put _ (some 32) _ = _
           simp only [Act.put, List.setIfInBounds_toArray, List.set_cons_zero, List.set_cons_succ, i64_w, i32_w]
           rfl
          refine pure_ (i := 5) (N := some 27) (v := ?_) (a' := ?_) #[true, true, true, true, true, true, false, false, true, false, false] rfl rfl (any_of HT_.out (by kernel_rfl)) (fun _ _ _ h => h) (Or.inl ⟨by rfl, ?_⟩) ?_ ?_
          rotate_left
          ·
           intro w'
           go_simp
           with_reducible rfl
          rotate_left
          ·
           simp only [Act.put, List.setIfInBounds_toArray, List.set_cons_zero, List.set_cons_succ, i64_w, i32_w]
           rfl
          refine pure_ (i := 6) (N := some 33) (v := ?_) (a' := ?_) #[true, true, true, true, true, true, true, false, true, false, false] rfl rfl (any_of HT_.out (by kernel_rfl)) (fun _ _ _ h => h) (Or.inl ⟨by rfl, ?_⟩) ?_ ?_
          rotate_left
          ·
           intro w'
           go_simp
           with_reducible rfl
          rotate_left
          ·
           simp only [Act.put, List.setIfInBounds_toArray, List.set_cons_zero, List.set_cons_succ, i64_w, i32_w]
           rfl
          refine pure_ (i := 7) (N := some 34) (v := ?_) (a' := ?_) #[true, true, true, true, true, true, true, true, true, false, false] rfl rfl (any_of HT_.out (by kernel_rfl)) (fun _ _ _ h => h) (Or.inl ⟨by rfl, ?_⟩) ?_ ?_
          rotate_left
          ·
           intro w'
           go_simp
           with_reducible rfl
          rotate_left
          ·
           simp only [Act.put, List.setIfInBounds_toArray, List.set_cons_zero, List.set_cons_succ, i64_w, i32_w]
           rfl
          exact norm_ (by simp only [putAll, Act.put, List.setIfInBounds_toArray, List.set_cons_zero, List.set_cons_succ]) (hCont (.slice Ao48 t377.length co48, .slice Ao49 t380.length co49, .slice Ao50 t383.length co50, .slice Ao51 t386.length co51, v390, v393, gb396) _ ⟨hHeld, (Zc HO379), (Zc HO382), (Zc HO385), (Zc HO388), (Zc HO391), (Zc HO394), (Zb BK373), (Zb BK374), (Zb BK396), GW396.out, GE396.out, NB373_396.out, NB396_373.out, NB374_396.out, NB396_374.out, (Zl HB)⟩)
        ·
         skip
         refine box_step ?hg (N := 6) ?hd (cs := #[.slice none 0 0, .slice none 0 0]) (t := 36) ?hr ?_; (case hd => rfl); (case hg => rfl); (case hr => first | (go_simp; done) | (go_simp; rfl))
         intro gb396 hg w45 hbox hb
         have BK396 := Zm (hbox); have GW396 := Zx hg HB; have GE396 := Zx hg HB; replace HB := Zh HB hb; have NB373_396 := Zq hg BK373; have NB396_373 := Zp hg BK373; replace BK373 := Zk BK373 hb; have NB374_396 := Zq hg BK374; have NB396_374 := Zp hg BK374; replace BK374 := Zk BK374 hb; clear hb hbox hg
         refine hK.out _ _ ⟨(blk_cell BK373.out 0).trans rfl, (blk_cell BK373.out 1).trans rfl, (blk_cell BK374.out 0).trans rfl, (blk_cell BK374.out 1).trans rfl⟩ (fun hHeld => ?_)
         clear hK K
         refine norm_ (a' := ?_) ?_ ?_
         rotate_left
         ·
          show Act.put _ (some 6) _ = _
          simp only [Act.put, List.setIfInBounds_toArray, List.set_cons_zero, List.set_cons_succ, i64_w, i32_w]
          rfl
         refine one_ (i := 1) (N := some 29) #[true, true, true, false, false, false, false, false, true, false, false] rfl rfl (one_of HT_.out (by kernel_rfl)) (by decide) (fun K hK => ?_)
         refine goes_ Try.func18 (by kernel_rfl) rfl #[.agg #[.slice A0_0 l0_0.length c0_0, .slice A0_1 l0_1.length c0_1]] (by rfl) rfl rfl (by (try simp only [List.map_toArray, List.map_cons, List.map_nil]); first | done | rfl) ?_
         with_reducible refine (laws_toTurned.calls k _ _ l0_0 _ _ l0_1 t377 t380 _ ?side1 ?side2 ?side3 ?side4 A19.out).mono ?_
         (case side1 => repeat (first | exact (Kd.C_below HR0_0.out HB.out) | (with_reducible refine Kd.C_alloc ?_ _) | (with_reducible refine Kd.C_drewN ?_ _) | (with_reducible refine Kd.C_drew ?_)))
         (case side2 => exact HC0_0.out)
         (case side3 => repeat (first | exact (Kd.C_below HR0_1.out HB.out) | (with_reducible refine Kd.C_alloc ?_ _) | (with_reducible refine Kd.C_drewN ?_ _) | (with_reducible refine Kd.C_drew ?_)))
         (case side4 => exact HC0_1.out)
         rintro e w46 ⟨v378, v381, rfl, ho0, ho1, hb⟩
         refine ⟨_, rfl, ?_⟩
         have HO379 := Zj ho0 HB; have HO382 := Zj ho1 HB; replace BK373 := Zk BK373 hb; replace BK374 := Zk BK374 hb; replace BK396 := Zk BK396 hb; replace HB := Zh HB hb
         (try clear hb)
         (try clear hb2)
         (try clear hk)
         (try clear hi)
         (try clear ho0)
         (try clear ho1)
         refine hK.out _ _ ⟨(blk_cell BK373.out 0).trans rfl, (blk_cell BK373.out 1).trans rfl, (blk_cell BK374.out 0).trans rfl, (blk_cell BK374.out 1).trans rfl⟩ (fun hHeld => ?_)
         clear hK K
         refine norm_ (a' := ?_) ?_ ?_
         rotate_left
         ·
          show Act.put _ (some 29) _ = _
          simp only [Act.put, List.setIfInBounds_toArray, List.set_cons_zero, List.set_cons_succ, i64_w, i32_w]
          rfl
         refine one_ (i := 3) (N := some 31) #[true, true, true, true, false, false, false, false, true, false, false] rfl rfl (one_of HT_.out (by kernel_rfl)) (by decide) (fun K hK => ?_)
         refine goes_ Try.func18 (by kernel_rfl) rfl #[.agg #[.slice A1_0 l1_0.length c1_0, .slice A1_1 l1_1.length c1_1]] (by rfl) rfl rfl (by (try simp only [List.map_toArray, List.map_cons, List.map_nil]); first | done | rfl) ?_
         with_reducible refine (laws_toTurned.calls k _ _ l1_0 _ _ l1_1 t383 t386 _ ?side1 ?side2 ?side3 ?side4 A20.out).mono ?_
         (case side1 => repeat (first | exact (Kd.C_below HR1_0.out HB.out) | (with_reducible refine Kd.C_alloc ?_ _) | (with_reducible refine Kd.C_drewN ?_ _) | (with_reducible refine Kd.C_drew ?_)))
         (case side2 => exact HC1_0.out)
         (case side3 => repeat (first | exact (Kd.C_below HR1_1.out HB.out) | (with_reducible refine Kd.C_alloc ?_ _) | (with_reducible refine Kd.C_drewN ?_ _) | (with_reducible refine Kd.C_drew ?_)))
         (case side4 => exact HC1_1.out)
         rintro e w47 ⟨v384, v387, rfl, ho0, ho1, hb⟩
         refine ⟨_, rfl, ?_⟩
         have HO385 := Zj (Zv (Zv ho0 HO379) HO382) HB; have HO388 := Zj (Zv (Zv ho1 HO379) HO382) HB; replace HO379 := Zu HO379 hb ho0 ho1; replace HO382 := Zu HO382 hb ho0 ho1; replace BK373 := Zk BK373 hb; replace BK374 := Zk BK374 hb; replace BK396 := Zk BK396 hb; replace HB := Zh HB hb
         (try clear hb)
         (try clear hb2)
         (try clear hk)
         (try clear hi)
         (try clear ho0)
         (try clear ho1)
         obtain ⟨Ao48, co48, eo48⟩ := Kd.R_slice HO379.out
         (first | subst eo48 | (injection eo48 with f1_ f2_ f3_; have f4_ := f1_.symm; have f5_ := f3_.symm; clear f1_ f2_ f3_; subst f4_; subst f5_))
         obtain ⟨Ao49, co49, eo49⟩ := Kd.R_slice HO382.out
         (first | subst eo49 | (injection eo49 with f1_ f2_ f3_; have f4_ := f1_.symm; have f5_ := f3_.symm; clear f1_ f2_ f3_; subst f4_; subst f5_))
         obtain ⟨Ao50, co50, eo50⟩ := Kd.R_slice HO385.out
         (first | subst eo50 | (injection eo50 with f1_ f2_ f3_; have f4_ := f1_.symm; have f5_ := f3_.symm; clear f1_ f2_ f3_; subst f4_; subst f5_))
         obtain ⟨Ao51, co51, eo51⟩ := Kd.R_slice HO388.out
         (first | subst eo51 | (injection eo51 with f1_ f2_ f3_; have f4_ := f1_.symm; have f5_ := f3_.symm; clear f1_ f2_ f3_; subst f4_; subst f5_))
         refine hK.out _ _ ⟨(blk_cell BK373.out 0).trans rfl, (blk_cell BK373.out 1).trans rfl, (blk_cell BK374.out 0).trans rfl, (blk_cell BK374.out 1).trans rfl⟩ (fun hHeld => ?_)
         clear hK K
         refine norm_ (a' := ?_) ?_ ?_
         rotate_left
         ·
          show Act.put _ (some 31) _ = _
          simp only [Act.put, List.setIfInBounds_toArray, List.set_cons_zero, List.set_cons_succ, i64_w, i32_w]
          rfl
         refine one_ (i := 4) (N := some 32) #[true, true, true, true, true, false, false, false, true, false, false] rfl rfl (one_of HT_.out (by kernel_rfl)) (by decide) (fun K hK => ?_)
         refine goes_ Try.func17 (by kernel_rfl) rfl #[.agg #[.slice Ao48 t377.length co48, .slice Ao49 t380.length co49], .agg #[.slice Ao50 t383.length co50, .slice Ao51 t386.length co51]] (by rfl) rfl rfl (by (try simp only [List.map_toArray, List.map_cons, List.map_nil]); first | done | rfl) ?_
         with_reducible refine (spec_ThenTurned.calls k _ _ t377 _ _ t380 _ _ t383 _ _ t386 t389 t392 t395 _ ?side1 ?side2 ?side3 ?side4 ?side5 ?side6 ?side7 ?side8 A21.out).mono ?_
         (case side1 => repeat (first | exact (Kd.R_reads' HO379.out).2.2 | (with_reducible refine Kd.C_alloc ?_ _) | (with_reducible refine Kd.C_drewN ?_ _) | (with_reducible refine Kd.C_drew ?_)))
         (case side2 => exact (Kd.R_reads' HO379.out).2.1)
         (case side3 => repeat (first | exact (Kd.R_reads' HO382.out).2.2 | (with_reducible refine Kd.C_alloc ?_ _) | (with_reducible refine Kd.C_drewN ?_ _) | (with_reducible refine Kd.C_drew ?_)))
         (case side4 => exact (Kd.R_reads' HO382.out).2.1)
         (case side5 => repeat (first | exact (Kd.R_reads' HO385.out).2.2 | (with_reducible refine Kd.C_alloc ?_ _) | (with_reducible refine Kd.C_drewN ?_ _) | (with_reducible refine Kd.C_drew ?_)))
         (case side6 => exact (Kd.R_reads' HO385.out).2.1)
         (case side7 => repeat (first | exact (Kd.R_reads' HO388.out).2.2 | (with_reducible refine Kd.C_alloc ?_ _) | (with_reducible refine Kd.C_drewN ?_ _) | (with_reducible refine Kd.C_drew ?_)))
         (case side8 => exact (Kd.R_reads' HO388.out).2.1)
         rintro e w52 ⟨v390, v393, rfl, ho0, ho1, hb⟩
         refine ⟨_, rfl, ?_⟩
         have HO391 := Zj (Zv (Zv (Zv (Zv ho0 HO379) HO382) HO385) HO388) HB; have HO394 := Zj (Zv (Zv (Zv (Zv ho1 HO379) HO382) HO385) HO388) HB; replace HO379 := Zu HO379 hb ho0 ho1; replace HO382 := Zu HO382 hb ho0 ho1; replace HO385 := Zu HO385 hb ho0 ho1; replace HO388 := Zu HO388 hb ho0 ho1; replace BK373 := Zk BK373 hb; replace BK374 := Zk BK374 hb; replace BK396 := Zk BK396 hb; replace HB := Zh HB hb
         (try clear hb)
         (try clear hb2)
         (try clear hk)
         (try clear hi)
         (try clear ho0)
         (try clear ho1)
         refine hK.out _ _ ⟨(blk_cell BK373.out 0).trans rfl, (blk_cell BK373.out 1).trans rfl, (blk_cell BK374.out 0).trans rfl, (blk_cell BK374.out 1).trans rfl⟩ (fun hHeld => ?_)
         clear hK K
         refine norm_ (a' := ?_) ?_ ?_
         rotate_left
         ·
          show Act.put _ (some 32) _ = _
          simp only [Act.put, List.setIfInBounds_toArray, List.set_cons_zero, List.set_cons_succ, i64_w, i32_w]
          rfl
         refine pure_ (i := 5) (N := some 27) (v := ?_) (a' := ?_) #[true, true, true, true, true, true, false, false, true, false, false] rfl rfl (any_of HT_.out (by kernel_rfl)) (fun _ _ _ h => h) (Or.inl ⟨by rfl, ?_⟩) ?_ ?_
         rotate_left
         ·
          intro w'
          go_simp
          with_reducible rfl
         rotate_left
         ·
          simp only [Act.put, List.setIfInBounds_toArray, List.set_cons_zero, List.set_cons_succ, i64_w, i32_w]
          rfl
         refine pure_ (i := 6) (N := some 33) (v := ?_) (a' := ?_) #[true, true, true, true, true, true, true, false, true, false, false] rfl rfl (any_of HT_.out (by kernel_rfl)) (fun _ _ _ h => h) (Or.inl ⟨by rfl, ?_⟩) ?_ ?_
         rotate_left
         ·
          intro w'
          go_simp
          with_reducible rfl
         rotate_left
         ·
          simp only [Act.put, List.setIfInBounds_toArray, List.set_cons_zero, List.set_cons_succ, i64_w, i32_w]
          rfl
         refine pure_ (i := 7) (N := some 34) (v := ?_) (a' := ?_) #[true, true, true, true, true, true, true, true, true, false, false] rfl rfl (any_of HT_.out (by kernel_rfl)) (fun _ _ _ h => h) (Or.inl ⟨by rfl, ?_⟩) ?_ ?_
         rotate_left
         ·
          intro w'
          go_simp
          with_reducible rfl
         rotate_left
         ·
          simp only [Act.put, List.setIfInBounds_toArray, List.set_cons_zero, List.set_cons_succ, i64_w, i32_w]
          rfl
         exact norm_ (by simp only [putAll, Act.put, List.setIfInBounds_toArray, List.set_cons_zero, List.set_cons_succ]) (hCont (.slice Ao48 t377.length co48, .slice Ao49 t380.length co49, .slice Ao50 t383.length co50, .slice Ao51 t386.length co51, v390, v393, gb396) _ ⟨hHeld, (Zc HO379), (Zc HO382), (Zc HO385), (Zc HO388), (Zc HO391), (Zc HO394), (Zb BK373), (Zb BK374), (Zb BK396), GW396.out, GE396.out, NB373_396.out, NB396_373.out, NB374_396.out, NB396_374.out, (Zl HB)⟩)
       rintro ⟨v378, v381, v384, v387, v390, v393, gb396⟩ w53 ⟨hS_, h0_, h1_, h2_, h3_, h4_, h5_, h6_, h7_, h8_, h9_, h10_, h11_, h12_, h13_, h14_, h15_⟩
       have HO379 : Aside0 (Kd.R (Kd.int .i64) 3 w53 w.heap.size (fun k_ => Zn k_ v381 ∧ Zn k_ v384 ∧ Zn k_ v387 ∧ Zn k_ v390 ∧ Zn k_ v393) v378 t377) := ⟨h0_⟩; have HO382 : Aside0 (Kd.R (Kd.int .i64) 3 w53 w.heap.size (fun k_ => Zn k_ v378 ∧ Zn k_ v384 ∧ Zn k_ v387 ∧ Zn k_ v390 ∧ Zn k_ v393) v381 t380) := ⟨h1_⟩; have HO385 : Aside0 (Kd.R (Kd.int .i64) 3 w53 w.heap.size (fun k_ => Zn k_ v378 ∧ Zn k_ v381 ∧ Zn k_ v387 ∧ Zn k_ v390 ∧ Zn k_ v393) v384 t383) := ⟨h2_⟩; have HO388 : Aside0 (Kd.R (Kd.int .i64) 3 w53 w.heap.size (fun k_ => Zn k_ v378 ∧ Zn k_ v381 ∧ Zn k_ v384 ∧ Zn k_ v390 ∧ Zn k_ v393) v387 t386) := ⟨h3_⟩; have HO391 : Aside0 (Kd.R (Kd.int .i64) 3 w53 w.heap.size (fun k_ => Zn k_ v378 ∧ Zn k_ v381 ∧ Zn k_ v384 ∧ Zn k_ v387 ∧ Zn k_ v393) v390 t389) := ⟨h4_⟩; have HO394 : Aside0 (Kd.R (Kd.int .i64) 3 w53 w.heap.size (fun k_ => Zn k_ v378 ∧ Zn k_ v381 ∧ Zn k_ v384 ∧ Zn k_ v387 ∧ Zn k_ v390) v393 t392) := ⟨h5_⟩; replace BK373 : Aside0 (w53.heap[gb373]? = some (.cells #[.slice A0_0 l0_0.length c0_0, .slice A0_1 l0_1.length c0_1] 34 (0, 0))) := ⟨h6_⟩; replace BK374 : Aside0 (w53.heap[gb374]? = some (.cells #[.slice A1_0 l1_0.length c1_0, .slice A1_1 l1_1.length c1_1] 34 (0, 0))) := ⟨h7_⟩; have BK396 : Aside0 (w53.heap[gb396]? = some (.cells #[.slice none 0 0, .slice none 0 0] 36 (0, 0))) := ⟨h8_⟩; have GW396 : Aside0 (w.heap.size ≤ gb396) := ⟨h9_⟩; have GE396 : Aside0 (w.heap.size ≤ gb396) := ⟨h10_⟩; have NB373_396 : Aside0 (gb373 ≠ gb396) := ⟨h11_⟩; have NB396_373 : Aside0 (gb396 ≠ gb373) := ⟨h12_⟩; have NB374_396 : Aside0 (gb374 ≠ gb396) := ⟨h13_⟩; have NB396_374 : Aside0 (gb396 ≠ gb374) := ⟨h14_⟩; replace HB : Aside0 (Below w.heap.size w w53) := ⟨h15_⟩; clear h0_ h1_ h2_ h3_ h4_ h5_ h6_ h7_ h8_ h9_ h10_ h11_ h12_ h13_ h14_ h15_; have hHeld : w53.cell? ⟨gb373, 0, none⟩ = some (.slice A0_0 l0_0.length c0_0) ∧ w53.cell? ⟨gb373, 1, none⟩ = some (.slice A0_1 l0_1.length c0_1) ∧ w53.cell? ⟨gb374, 0, none⟩ = some (.slice A1_0 l1_0.length c1_0) ∧ w53.cell? ⟨gb374, 1, none⟩ = some (.slice A1_1 l1_1.length c1_1) := hS_
       obtain ⟨Ao54, co54, eo54⟩ := Kd.R_slice HO391.out
       (first | subst eo54 | (injection eo54 with f1_ f2_ f3_; have f4_ := f1_.symm; have f5_ := f3_.symm; clear f1_ f2_ f3_; subst f4_; subst f5_))
       obtain ⟨Ao56, co56, eo56⟩ := Kd.R_slice HO394.out
       (first | subst eo56 | (injection eo56 with f1_ f2_ f3_; have f4_ := f1_.symm; have f5_ := f3_.symm; clear f1_ f2_ f3_; subst f4_; subst f5_))
       refine norm_ (a' := ?_) ?_ ?_
       rotate_left
       ·
        simp only [putAll, Act.put, List.setIfInBounds_toArray, List.set_cons_zero, List.set_cons_succ]
        rfl
       refine one_ (i := 9) (N := none) #[true, true, true, true, true, true, true, true, true, true, false] rfl rfl (one_of HT_.out (by kernel_rfl)) (by decide) (fun K hK => ?_)
       have hs55 : w53.cell? ⟨gb396, 0, none⟩ = some (.slice none 0 0) := (blk_cell BK396.out 0).trans rfl; have hfs55 := blk_frozen BK396.out 0; have hns55_0 := NB373_396.out; have hns55_1 := NB374_396.out; have hms55_0 := NB396_373.out; have hms55_1 := NB396_374.out; have hs57 : w53.cell? ⟨gb396, 1, none⟩ = some (.slice none 0 0) := (blk_cell BK396.out 1).trans rfl; have hfs57 := blk_frozen BK396.out 1; have hns57_0 := NB373_396.out; have hns57_1 := NB374_396.out; have hms57_0 := NB396_373.out; have hms57_1 := NB396_374.out
       refine skip_ (w1 := ?_) (by rfl) rfl ?_ ?_
       rotate_left
       ·
        go_simp
        rfl
       refine hK.out _ _ ⟨((cell_far (p := ⟨gb396, _, none⟩) NB373_396.out _).trans (((cell_far (p := ⟨gb396, _, none⟩) NB373_396.out _).trans (hHeld.1)))), ((cell_far (p := ⟨gb396, _, none⟩) NB373_396.out _).trans (((cell_far (p := ⟨gb396, _, none⟩) NB373_396.out _).trans (hHeld.2.1)))), ((cell_far (p := ⟨gb396, _, none⟩) NB374_396.out _).trans (((cell_far (p := ⟨gb396, _, none⟩) NB374_396.out _).trans (hHeld.2.2.1)))), ((cell_far (p := ⟨gb396, _, none⟩) NB374_396.out _).trans (((cell_far (p := ⟨gb396, _, none⟩) NB374_396.out _).trans (hHeld.2.2.2))))⟩ (fun hHeld => ?_)
       clear hK K
       refine pure_ (i := 10) (N := some 7) (v := ?_) (a' := ?_) #[true, true, true, true, true, true, true, true, true, true, true] rfl rfl (any_of HT_.out (by kernel_rfl)) (fun _ _ _ h => h) (Or.inl ⟨by rfl, ?_⟩) ?_ ?_
       rotate_left
       ·
        intro w'
        go_simp
        with_reducible rfl
       rotate_left
       ·
        simp only [Act.put, List.setIfInBounds_toArray, List.set_cons_zero, List.set_cons_succ, i64_w, i32_w]
        rfl
       refine done_ (done_of HT_.out (by kernel_rfl)) ?_
       have hnb58 := NB373_396.out; have hnc58 := NB396_373.out; have hcz59_0 : w53.cell? ⟨gb373, 0, none⟩ = some (.slice A0_0 l0_0.length c0_0) := (blk_cell BK373.out 0).trans rfl; have hcz59_1 : w53.cell? ⟨gb373, 1, none⟩ = some (.slice A0_1 l0_1.length c0_1) := (blk_cell BK373.out 1).trans rfl; have hfz59_0 := blk_frozen BK373.out 0; have hfz59_1 := blk_frozen BK373.out 1
       try go_wp2_with (first | ((with_reducible refine gate_callee (f := 18) rfl ?_); refine goesL_ (some 36) rfl rfl Try.func18 (by kernel_rfl) rfl #[.agg #[.slice A0_0 l0_0.length c0_0, .slice A0_1 l0_1.length c0_1]] rfl (by (try simp only [List.map_toArray, List.map_cons, List.map_nil]); first | done | rfl) ?_; (with_reducible refine (laws_toTurned.calls k _ _ l0_0 _ _ l0_1 t397 t400 _ ?side1 ?side2 ?side3 ?side4 A22.out).mono ?_); (case side1 => exact Kd.C_below HR0_0.out (Zl HB)); (case side2 => exact HC0_0.out); (case side3 => exact Kd.C_below HR0_1.out (Zl HB)); (case side4 => exact HC0_1.out); rintro e w60 ⟨v398, v401, rfl, ho0, ho1, hb⟩; refine ⟨_, rfl, ?_⟩; have HO399 := Zj (Zw (Zw (Zw (Zw (Zw (Zw ho0 (Zy HO379 BK396)) (Zy HO382 BK396)) (Zy HO385 BK396)) (Zy HO388 BK396)) (Zy HO391 BK396)) (Zy HO394 BK396)) HB; have HO402 := Zj (Zw (Zw (Zw (Zw (Zw (Zw ho1 (Zy HO379 BK396)) (Zy HO382 BK396)) (Zy HO385 BK396)) (Zy HO388 BK396)) (Zy HO391 BK396)) (Zy HO394 BK396)) HB; replace HO379 := Zt (Zy HO379 BK396) hb ho0 ho1; replace HO382 := Zt (Zy HO382 BK396) hb ho0 ho1; replace HO385 := Zt (Zy HO385 BK396) hb ho0 ho1; replace HO388 := Zt (Zy HO388 BK396) hb ho0 ho1; replace HO391 := Zt (Zy HO391 BK396) hb ho0 ho1; replace HO394 := Zt (Zy HO394 BK396) hb ho0 ho1; replace BK373 := Zm (blk_below (g := gb373) (o := .cells #[.slice A0_0 l0_0.length c0_0, .slice A0_1 l0_1.length c0_1] 34 (0, 0)) (by (with_reducible repeat (first | refine blk_drewN ?_ _ | refine blk_drew ?_ | refine blk_alloc ?_ _)); refine blk_far ?_ NB373_396.out _; (with_reducible repeat (first | refine blk_drewN ?_ _ | refine blk_drew ?_ | refine blk_alloc ?_ _)); refine blk_far ?_ NB373_396.out _; (with_reducible repeat (first | refine blk_drewN ?_ _ | refine blk_drew ?_ | refine blk_alloc ?_ _)); exact BK373.out) hb); replace BK374 := Zm (blk_below (g := gb374) (o := .cells #[.slice A1_0 l1_0.length c1_0, .slice A1_1 l1_1.length c1_1] 34 (0, 0)) (by (with_reducible repeat (first | refine blk_drewN ?_ _ | refine blk_drew ?_ | refine blk_alloc ?_ _)); refine blk_far ?_ NB374_396.out _; (with_reducible repeat (first | refine blk_drewN ?_ _ | refine blk_drew ?_ | refine blk_alloc ?_ _)); refine blk_far ?_ NB374_396.out _; (with_reducible repeat (first | refine blk_drewN ?_ _ | refine blk_drew ?_ | refine blk_alloc ?_ _)); exact BK374.out) hb); replace BK396 := Zm (blk_below (g := gb396) (o := .cells #[.slice Ao54 t389.length co54, .slice Ao56 t392.length co56] 36 (0, 0)) (by (with_reducible repeat (first | refine blk_drewN ?_ _ | refine blk_drew ?_ | refine blk_alloc ?_ _)); refine blk_put (cs := #[.slice Ao54 t389.length co54, .slice none 0 0]) ?_ 1 _ rfl; (with_reducible repeat (first | refine blk_drewN ?_ _ | refine blk_drew ?_ | refine blk_alloc ?_ _)); refine blk_put (cs := #[.slice none 0 0, .slice none 0 0]) ?_ 0 _ rfl; (with_reducible repeat (first | refine blk_drewN ?_ _ | refine blk_drew ?_ | refine blk_alloc ?_ _)); exact BK396.out) hb); replace HB := Zh HB hb; (try clear hb); (try clear hb2); (try clear hk); (try clear hi); (try clear ho0); (try clear ho1)) | ((with_reducible refine gate_dst (N := 8) rfl ?_); refine box_event ?hg (N := 8) ?hd (cs := #[.slice none 0 0, .slice none 0 0]) (t := 36) ?hr ?_; (case hd => rfl); (case hg => rfl); (case hr => first | (go_simp; done) | (go_simp; rfl)); intro gb403 hg w61 hbox hb; replace HO379 := Zo HO379 hb; replace HO382 := Zo HO382 hb; replace HO385 := Zo HO385 hb; replace HO388 := Zo HO388 hb; replace HO391 := Zo HO391 hb; replace HO394 := Zo HO394 hb; replace HO399 := Zo HO399 hb; replace HO402 := Zo HO402 hb; have BK403 := Zm (hbox); have GW403 := Zx hg HB; have GE403 := Zx hg HB; replace HB := Zh HB hb; have NB373_403 := Zq hg BK373; have NB403_373 := Zp hg BK373; replace BK373 := Zk BK373 hb; have NB374_403 := Zq hg BK374; have NB403_374 := Zp hg BK374; replace BK374 := Zk BK374 hb; have NB396_403 := Zq hg BK396; have NB403_396 := Zp hg BK396; replace BK396 := Zk BK396 hb; clear hb hbox hg; obtain ⟨Ao62, co62, eo62⟩ := Kd.R_slice HO399.out; subst eo62; have hnb63 := NB403_373.out; have hnc63 := NB373_403.out; have hnb64 := NB403_374.out; have hnc64 := NB374_403.out; have hnb65 := NB403_396.out; have hnc65 := NB396_403.out; have hcz66_0 : w61.cell? ⟨gb403, 0, none⟩ = some (.slice none 0 0) := (blk_cell BK403.out 0).trans rfl; have hcz66_1 : w61.cell? ⟨gb403, 1, none⟩ = some (.slice none 0 0) := (blk_cell BK403.out 1).trans rfl; have hfz66_0 := blk_frozen BK403.out 0; have hfz66_1 := blk_frozen BK403.out 1; obtain ⟨Ao67, co67, eo67⟩ := Kd.R_slice HO402.out; subst eo67; have hnb68 := NB374_396.out; have hnc68 := NB396_374.out; have hcz69_0 : w61.cell? ⟨gb374, 0, none⟩ = some (.slice A1_0 l1_0.length c1_0) := (blk_cell BK374.out 0).trans rfl; have hcz69_1 : w61.cell? ⟨gb374, 1, none⟩ = some (.slice A1_1 l1_1.length c1_1) := (blk_cell BK374.out 1).trans rfl; have hfz69_0 := blk_frozen BK374.out 0; have hfz69_1 := blk_frozen BK374.out 1) | ((with_reducible refine gate_callee (f := 18) rfl ?_); refine goesL_ (some 38) rfl rfl Try.func18 (by kernel_rfl) rfl #[.agg #[.slice A1_0 l1_0.length c1_0, .slice A1_1 l1_1.length c1_1]] rfl (by (try simp only [List.map_toArray, List.map_cons, List.map_nil]); first | done | rfl) ?_; (with_reducible refine (laws_toTurned.calls k _ _ l1_0 _ _ l1_1 t404 t407 _ ?side1 ?side2 ?side3 ?side4 A23.out).mono ?_); (case side1 => exact Kd.C_below HR1_0.out (Zl HB)); (case side2 => exact HC1_0.out); (case side3 => exact Kd.C_below HR1_1.out (Zl HB)); (case side4 => exact HC1_1.out); rintro e w70 ⟨v405, v408, rfl, ho0, ho1, hb⟩; refine ⟨_, rfl, ?_⟩; have HO406 := Zj (Zw (Zw (Zw (Zw (Zw (Zw (Zw (Zw ho0 (Zy HO379 BK403)) (Zy HO382 BK403)) (Zy HO385 BK403)) (Zy HO388 BK403)) (Zy HO391 BK403)) (Zy HO394 BK403)) (Zy HO399 BK403)) (Zy HO402 BK403)) HB; have HO409 := Zj (Zw (Zw (Zw (Zw (Zw (Zw (Zw (Zw ho1 (Zy HO379 BK403)) (Zy HO382 BK403)) (Zy HO385 BK403)) (Zy HO388 BK403)) (Zy HO391 BK403)) (Zy HO394 BK403)) (Zy HO399 BK403)) (Zy HO402 BK403)) HB; replace HO379 := Zt (Zy HO379 BK403) hb ho0 ho1; replace HO382 := Zt (Zy HO382 BK403) hb ho0 ho1; replace HO385 := Zt (Zy HO385 BK403) hb ho0 ho1; replace HO388 := Zt (Zy HO388 BK403) hb ho0 ho1; replace HO391 := Zt (Zy HO391 BK403) hb ho0 ho1; replace HO394 := Zt (Zy HO394 BK403) hb ho0 ho1; replace HO399 := Zt (Zy HO399 BK403) hb ho0 ho1; replace HO402 := Zt (Zy HO402 BK403) hb ho0 ho1; replace BK373 := Zm (blk_below (g := gb373) (o := .cells #[.slice A0_0 l0_0.length c0_0, .slice A0_1 l0_1.length c0_1] 34 (0, 0)) (by (with_reducible repeat (first | refine blk_drewN ?_ _ | refine blk_drew ?_ | refine blk_alloc ?_ _)); refine blk_far ?_ NB373_403.out _; (with_reducible repeat (first | refine blk_drewN ?_ _ | refine blk_drew ?_ | refine blk_alloc ?_ _)); refine blk_far ?_ NB373_403.out _; (with_reducible repeat (first | refine blk_drewN ?_ _ | refine blk_drew ?_ | refine blk_alloc ?_ _)); exact BK373.out) hb); replace BK374 := Zm (blk_below (g := gb374) (o := .cells #[.slice A1_0 l1_0.length c1_0, .slice A1_1 l1_1.length c1_1] 34 (0, 0)) (by (with_reducible repeat (first | refine blk_drewN ?_ _ | refine blk_drew ?_ | refine blk_alloc ?_ _)); refine blk_far ?_ NB374_403.out _; (with_reducible repeat (first | refine blk_drewN ?_ _ | refine blk_drew ?_ | refine blk_alloc ?_ _)); refine blk_far ?_ NB374_403.out _; (with_reducible repeat (first | refine blk_drewN ?_ _ | refine blk_drew ?_ | refine blk_alloc ?_ _)); exact BK374.out) hb); replace BK396 := Zm (blk_below (g := gb396) (o := .cells #[.slice Ao54 t389.length co54, .slice Ao56 t392.length co56] 36 (0, 0)) (by (with_reducible repeat (first | refine blk_drewN ?_ _ | refine blk_drew ?_ | refine blk_alloc ?_ _)); refine blk_far ?_ NB396_403.out _; (with_reducible repeat (first | refine blk_drewN ?_ _ | refine blk_drew ?_ | refine blk_alloc ?_ _)); refine blk_far ?_ NB396_403.out _; (with_reducible repeat (first | refine blk_drewN ?_ _ | refine blk_drew ?_ | refine blk_alloc ?_ _)); exact BK396.out) hb); replace BK403 := Zm (blk_below (g := gb403) (o := .cells #[.slice Ao62 t397.length co62, .slice Ao67 t400.length co67] 36 (0, 0)) (by (with_reducible repeat (first | refine blk_drewN ?_ _ | refine blk_drew ?_ | refine blk_alloc ?_ _)); refine blk_put (cs := #[.slice Ao62 t397.length co62, .slice none 0 0]) ?_ 1 _ rfl; (with_reducible repeat (first | refine blk_drewN ?_ _ | refine blk_drew ?_ | refine blk_alloc ?_ _)); refine blk_put (cs := #[.slice none 0 0, .slice none 0 0]) ?_ 0 _ rfl; (with_reducible repeat (first | refine blk_drewN ?_ _ | refine blk_drew ?_ | refine blk_alloc ?_ _)); exact BK403.out) hb); replace HB := Zh HB hb; (try clear hb); (try clear hb2); (try clear hk); (try clear hi); (try clear ho0); (try clear ho1)) | ((with_reducible refine gate_dst (N := 9) rfl ?_); refine box_event ?hg (N := 9) ?hd (cs := #[.slice none 0 0, .slice none 0 0]) (t := 36) ?hr ?_; (case hd => rfl); (case hg => rfl); (case hr => first | (go_simp; done) | (go_simp; rfl)); intro gb410 hg w71 hbox hb; replace HO379 := Zo HO379 hb; replace HO382 := Zo HO382 hb; replace HO385 := Zo HO385 hb; replace HO388 := Zo HO388 hb; replace HO391 := Zo HO391 hb; replace HO394 := Zo HO394 hb; replace HO399 := Zo HO399 hb; replace HO402 := Zo HO402 hb; replace HO406 := Zo HO406 hb; replace HO409 := Zo HO409 hb; have BK410 := Zm (hbox); have GW410 := Zx hg HB; have GE410 := Zx hg HB; replace HB := Zh HB hb; have NB373_410 := Zq hg BK373; have NB410_373 := Zp hg BK373; replace BK373 := Zk BK373 hb; have NB374_410 := Zq hg BK374; have NB410_374 := Zp hg BK374; replace BK374 := Zk BK374 hb; have NB396_410 := Zq hg BK396; have NB410_396 := Zp hg BK396; replace BK396 := Zk BK396 hb; have NB403_410 := Zq hg BK403; have NB410_403 := Zp hg BK403; replace BK403 := Zk BK403 hb; clear hb hbox hg; obtain ⟨Ao72, co72, eo72⟩ := Kd.R_slice HO406.out; subst eo72; have hnb73 := NB410_373.out; have hnc73 := NB373_410.out; have hnb74 := NB410_374.out; have hnc74 := NB374_410.out; have hnb75 := NB410_396.out; have hnc75 := NB396_410.out; have hnb76 := NB410_403.out; have hnc76 := NB403_410.out; have hcz77_0 : w71.cell? ⟨gb410, 0, none⟩ = some (.slice none 0 0) := (blk_cell BK410.out 0).trans rfl; have hcz77_1 : w71.cell? ⟨gb410, 1, none⟩ = some (.slice none 0 0) := (blk_cell BK410.out 1).trans rfl; have hfz77_0 := blk_frozen BK410.out 0; have hfz77_1 := blk_frozen BK410.out 1; obtain ⟨Ao78, co78, eo78⟩ := Kd.R_slice HO409.out; subst eo78; have hcz79_0 : w71.cell? ⟨gb403, 0, none⟩ = some (.slice Ao62 t397.length co62) := (blk_cell BK403.out 0).trans rfl; have hcz79_1 : w71.cell? ⟨gb403, 1, none⟩ = some (.slice Ao67 t400.length co67) := (blk_cell BK403.out 1).trans rfl; have hfz79_0 := blk_frozen BK403.out 0; have hfz79_1 := blk_frozen BK403.out 1) | ((with_reducible refine gate_callee (f := 19) rfl ?_); refine goesL_ (some 42) rfl rfl Try.func19 (by kernel_rfl) rfl #[.agg #[.slice Ao62 t397.length co62, .slice Ao67 t400.length co67], .agg #[.slice Ao72 t404.length co72, .slice Ao78 t407.length co78]] rfl (by (try simp only [List.map_toArray, List.map_cons, List.map_nil]); first | done | rfl) ?_; (with_reducible refine (impl_ThenTurned.calls k _ _ t397 _ _ t400 _ _ t404 _ _ t407 t411 t414 t417 _ ?side1 ?side2 ?side3 ?side4 ?side5 ?side6 ?side7 ?side8 A24.out).mono ?_); (case side1 => refine (Kd.R_reads' (e := 3) (base := w.heap.size) (ok := fun k_ => ((((((((Zn k_ (.slice Ao67 t400.length co67) ∧ Zn k_ v378) ∧ Zn k_ v381) ∧ Zn k_ v384) ∧ Zn k_ v387) ∧ Zn k_ (.slice Ao54 t389.length co54)) ∧ Zn k_ (.slice Ao56 t392.length co56)) ∧ Zn k_ (.slice Ao72 t404.length co72)) ∧ Zn k_ (.slice Ao78 t407.length co78))) (n := t397.length) (c := co62) ?_).2.2; exact (Zy HO399 BK410)); (case side2 => exact (Kd.R_reads' HO399.out).2.1); (case side3 => refine (Kd.R_reads' (e := 3) (base := w.heap.size) (ok := fun k_ => ((((((((Zn k_ (.slice Ao62 t397.length co62) ∧ Zn k_ v378) ∧ Zn k_ v381) ∧ Zn k_ v384) ∧ Zn k_ v387) ∧ Zn k_ (.slice Ao54 t389.length co54)) ∧ Zn k_ (.slice Ao56 t392.length co56)) ∧ Zn k_ (.slice Ao72 t404.length co72)) ∧ Zn k_ (.slice Ao78 t407.length co78))) (n := t400.length) (c := co67) ?_).2.2; exact (Zy HO402 BK410)); (case side4 => exact (Kd.R_reads' HO402.out).2.1); (case side5 => refine (Kd.R_reads' (e := 3) (base := w.heap.size) (ok := fun k_ => ((((((((Zn k_ (.slice Ao78 t407.length co78) ∧ Zn k_ v378) ∧ Zn k_ v381) ∧ Zn k_ v384) ∧ Zn k_ v387) ∧ Zn k_ (.slice Ao54 t389.length co54)) ∧ Zn k_ (.slice Ao56 t392.length co56)) ∧ Zn k_ (.slice Ao62 t397.length co62)) ∧ Zn k_ (.slice Ao67 t400.length co67))) (n := t404.length) (c := co72) ?_).2.2; exact (Zy HO406 BK410)); (case side6 => exact (Kd.R_reads' HO406.out).2.1); (case side7 => refine (Kd.R_reads' (e := 3) (base := w.heap.size) (ok := fun k_ => ((((((((Zn k_ (.slice Ao72 t404.length co72) ∧ Zn k_ v378) ∧ Zn k_ v381) ∧ Zn k_ v384) ∧ Zn k_ v387) ∧ Zn k_ (.slice Ao54 t389.length co54)) ∧ Zn k_ (.slice Ao56 t392.length co56)) ∧ Zn k_ (.slice Ao62 t397.length co62)) ∧ Zn k_ (.slice Ao67 t400.length co67))) (n := t407.length) (c := co78) ?_).2.2; exact (Zy HO409 BK410)); (case side8 => exact (Kd.R_reads' HO409.out).2.1); rintro e w80 ⟨v412, v415, rfl, ho0, ho1, hb⟩; refine ⟨_, rfl, ?_⟩; have HO413 := Zj (Zw (Zw (Zw (Zw (Zw (Zw (Zw (Zw (Zw (Zw ho0 (Zy HO379 BK410)) (Zy HO382 BK410)) (Zy HO385 BK410)) (Zy HO388 BK410)) (Zy HO391 BK410)) (Zy HO394 BK410)) (Zy HO399 BK410)) (Zy HO402 BK410)) (Zy HO406 BK410)) (Zy HO409 BK410)) HB; have HO416 := Zj (Zw (Zw (Zw (Zw (Zw (Zw (Zw (Zw (Zw (Zw ho1 (Zy HO379 BK410)) (Zy HO382 BK410)) (Zy HO385 BK410)) (Zy HO388 BK410)) (Zy HO391 BK410)) (Zy HO394 BK410)) (Zy HO399 BK410)) (Zy HO402 BK410)) (Zy HO406 BK410)) (Zy HO409 BK410)) HB; replace HO379 := Zt (Zy HO379 BK410) hb ho0 ho1; replace HO382 := Zt (Zy HO382 BK410) hb ho0 ho1; replace HO385 := Zt (Zy HO385 BK410) hb ho0 ho1; replace HO388 := Zt (Zy HO388 BK410) hb ho0 ho1; replace HO391 := Zt (Zy HO391 BK410) hb ho0 ho1; replace HO394 := Zt (Zy HO394 BK410) hb ho0 ho1; replace HO399 := Zt (Zy HO399 BK410) hb ho0 ho1; replace HO402 := Zt (Zy HO402 BK410) hb ho0 ho1; replace HO406 := Zt (Zy HO406 BK410) hb ho0 ho1; replace HO409 := Zt (Zy HO409 BK410) hb ho0 ho1; replace BK373 := Zm (blk_below (g := gb373) (o := .cells #[.slice A0_0 l0_0.length c0_0, .slice A0_1 l0_1.length c0_1] 34 (0, 0)) (by (with_reducible repeat (first | refine blk_drewN ?_ _ | refine blk_drew ?_ | refine blk_alloc ?_ _)); refine blk_far ?_ NB373_410.out _; (with_reducible repeat (first | refine blk_drewN ?_ _ | refine blk_drew ?_ | refine blk_alloc ?_ _)); refine blk_far ?_ NB373_410.out _; (with_reducible repeat (first | refine blk_drewN ?_ _ | refine blk_drew ?_ | refine blk_alloc ?_ _)); exact BK373.out) hb); replace BK374 := Zm (blk_below (g := gb374) (o := .cells #[.slice A1_0 l1_0.length c1_0, .slice A1_1 l1_1.length c1_1] 34 (0, 0)) (by (with_reducible repeat (first | refine blk_drewN ?_ _ | refine blk_drew ?_ | refine blk_alloc ?_ _)); refine blk_far ?_ NB374_410.out _; (with_reducible repeat (first | refine blk_drewN ?_ _ | refine blk_drew ?_ | refine blk_alloc ?_ _)); refine blk_far ?_ NB374_410.out _; (with_reducible repeat (first | refine blk_drewN ?_ _ | refine blk_drew ?_ | refine blk_alloc ?_ _)); exact BK374.out) hb); replace BK396 := Zm (blk_below (g := gb396) (o := .cells #[.slice Ao54 t389.length co54, .slice Ao56 t392.length co56] 36 (0, 0)) (by (with_reducible repeat (first | refine blk_drewN ?_ _ | refine blk_drew ?_ | refine blk_alloc ?_ _)); refine blk_far ?_ NB396_410.out _; (with_reducible repeat (first | refine blk_drewN ?_ _ | refine blk_drew ?_ | refine blk_alloc ?_ _)); refine blk_far ?_ NB396_410.out _; (with_reducible repeat (first | refine blk_drewN ?_ _ | refine blk_drew ?_ | refine blk_alloc ?_ _)); exact BK396.out) hb); replace BK403 := Zm (blk_below (g := gb403) (o := .cells #[.slice Ao62 t397.length co62, .slice Ao67 t400.length co67] 36 (0, 0)) (by (with_reducible repeat (first | refine blk_drewN ?_ _ | refine blk_drew ?_ | refine blk_alloc ?_ _)); refine blk_far ?_ NB403_410.out _; (with_reducible repeat (first | refine blk_drewN ?_ _ | refine blk_drew ?_ | refine blk_alloc ?_ _)); refine blk_far ?_ NB403_410.out _; (with_reducible repeat (first | refine blk_drewN ?_ _ | refine blk_drew ?_ | refine blk_alloc ?_ _)); exact BK403.out) hb); replace BK410 := Zm (blk_below (g := gb410) (o := .cells #[.slice Ao72 t404.length co72, .slice Ao78 t407.length co78] 36 (0, 0)) (by (with_reducible repeat (first | refine blk_drewN ?_ _ | refine blk_drew ?_ | refine blk_alloc ?_ _)); refine blk_put (cs := #[.slice Ao72 t404.length co72, .slice none 0 0]) ?_ 1 _ rfl; (with_reducible repeat (first | refine blk_drewN ?_ _ | refine blk_drew ?_ | refine blk_alloc ?_ _)); refine blk_put (cs := #[.slice none 0 0, .slice none 0 0]) ?_ 0 _ rfl; (with_reducible repeat (first | refine blk_drewN ?_ _ | refine blk_drew ?_ | refine blk_alloc ?_ _)); exact BK410.out) hb); replace HB := Zh HB hb; (try clear hb); (try clear hb2); (try clear hk); (try clear hi); (try clear ho0); (try clear ho1)) | ((with_reducible refine gate_dst (N := 10) rfl ?_); refine box_event ?hg (N := 10) ?hd (cs := #[.slice none 0 0, .slice none 0 0]) (t := 36) ?hr ?_; (case hd => rfl); (case hg => rfl); (case hr => first | (go_simp; done) | (go_simp; rfl)); intro gb418 hg w81 hbox hb; replace HO379 := Zo HO379 hb; replace HO382 := Zo HO382 hb; replace HO385 := Zo HO385 hb; replace HO388 := Zo HO388 hb; replace HO391 := Zo HO391 hb; replace HO394 := Zo HO394 hb; replace HO399 := Zo HO399 hb; replace HO402 := Zo HO402 hb; replace HO406 := Zo HO406 hb; replace HO409 := Zo HO409 hb; replace HO413 := Zo HO413 hb; replace HO416 := Zo HO416 hb; have BK418 := Zm (hbox); have GW418 := Zx hg HB; have GE418 := Zx hg HB; replace HB := Zh HB hb; have NB373_418 := Zq hg BK373; have NB418_373 := Zp hg BK373; replace BK373 := Zk BK373 hb; have NB374_418 := Zq hg BK374; have NB418_374 := Zp hg BK374; replace BK374 := Zk BK374 hb; have NB396_418 := Zq hg BK396; have NB418_396 := Zp hg BK396; replace BK396 := Zk BK396 hb; have NB403_418 := Zq hg BK403; have NB418_403 := Zp hg BK403; replace BK403 := Zk BK403 hb; have NB410_418 := Zq hg BK410; have NB418_410 := Zp hg BK410; replace BK410 := Zk BK410 hb; clear hb hbox hg; obtain ⟨Ao82, co82, eo82⟩ := Kd.R_slice HO413.out; subst eo82; have hnb83 := NB418_373.out; have hnc83 := NB373_418.out; have hnb84 := NB418_374.out; have hnc84 := NB374_418.out; have hnb85 := NB418_396.out; have hnc85 := NB396_418.out; have hnb86 := NB418_403.out; have hnc86 := NB403_418.out; have hnb87 := NB418_410.out; have hnc87 := NB410_418.out; have hcz88_0 : w81.cell? ⟨gb418, 0, none⟩ = some (.slice none 0 0) := (blk_cell BK418.out 0).trans rfl; have hcz88_1 : w81.cell? ⟨gb418, 1, none⟩ = some (.slice none 0 0) := (blk_cell BK418.out 1).trans rfl; have hfz88_0 := blk_frozen BK418.out 0; have hfz88_1 := blk_frozen BK418.out 1; obtain ⟨Ao89, co89, eo89⟩ := Kd.R_slice HO416.out; subst eo89; have hcz90_0 : w81.cell? ⟨gb396, 0, none⟩ = some (.slice Ao54 t389.length co54) := (blk_cell BK396.out 0).trans rfl; have hcz90_1 : w81.cell? ⟨gb396, 1, none⟩ = some (.slice Ao56 t392.length co56) := (blk_cell BK396.out 1).trans rfl; have hfz90_0 := blk_frozen BK396.out 0; have hfz90_1 := blk_frozen BK396.out 1) | ((with_reducible refine gate_callee (f := 20) rfl ?_); refine goesL_ (some 47) rfl rfl Try.func20 (by kernel_rfl) rfl #[.agg #[.slice Ao82 t411.length co82, .slice Ao89 t414.length co89], .agg #[.slice Ao54 t389.length co54, .slice Ao56 t392.length co56]] rfl (by (try simp only [List.map_toArray, List.map_cons, List.map_nil]); first | done | rfl) ?_; (with_reducible refine (laws_eqTurned.calls k _ _ t411 _ _ t414 _ _ t389 _ _ t392 true _ ?side1 ?side2 ?side3 ?side4 ?side5 ?side6 ?side7 ?side8 A25.out).mono ?_); (case side1 => refine (Kd.R_reads' (e := 3) (base := w.heap.size) (ok := fun k_ => ((((((((((Zn k_ (.slice Ao89 t414.length co89) ∧ Zn k_ v378) ∧ Zn k_ v381) ∧ Zn k_ v384) ∧ Zn k_ v387) ∧ Zn k_ (.slice Ao54 t389.length co54)) ∧ Zn k_ (.slice Ao56 t392.length co56)) ∧ Zn k_ (.slice Ao62 t397.length co62)) ∧ Zn k_ (.slice Ao67 t400.length co67)) ∧ Zn k_ (.slice Ao72 t404.length co72)) ∧ Zn k_ (.slice Ao78 t407.length co78))) (n := t411.length) (c := co82) ?_).2.2; exact (Zy HO413 BK418)); (case side2 => exact (Kd.R_reads' HO413.out).2.1); (case side3 => refine (Kd.R_reads' (e := 3) (base := w.heap.size) (ok := fun k_ => ((((((((((Zn k_ (.slice Ao82 t411.length co82) ∧ Zn k_ v378) ∧ Zn k_ v381) ∧ Zn k_ v384) ∧ Zn k_ v387) ∧ Zn k_ (.slice Ao54 t389.length co54)) ∧ Zn k_ (.slice Ao56 t392.length co56)) ∧ Zn k_ (.slice Ao62 t397.length co62)) ∧ Zn k_ (.slice Ao67 t400.length co67)) ∧ Zn k_ (.slice Ao72 t404.length co72)) ∧ Zn k_ (.slice Ao78 t407.length co78))) (n := t414.length) (c := co89) ?_).2.2; exact (Zy HO416 BK418)); (case side4 => exact (Kd.R_reads' HO416.out).2.1); (case side5 => refine (Kd.R_reads' (e := 3) (base := w.heap.size) (ok := fun k_ => (((((((Zn k_ v378 ∧ (Zn k_ v381 ∧ (Zn k_ v384 ∧ (Zn k_ v387 ∧ Zn k_ (.slice Ao56 t392.length co56))))) ∧ Zn k_ (.slice Ao62 t397.length co62)) ∧ Zn k_ (.slice Ao67 t400.length co67)) ∧ Zn k_ (.slice Ao72 t404.length co72)) ∧ Zn k_ (.slice Ao78 t407.length co78)) ∧ Zn k_ (.slice Ao82 t411.length co82)) ∧ Zn k_ (.slice Ao89 t414.length co89))) (n := t389.length) (c := co54) ?_).2.2; exact (Zy HO391 BK418)); (case side6 => exact (Kd.R_reads' HO391.out).2.1); (case side7 => refine (Kd.R_reads' (e := 3) (base := w.heap.size) (ok := fun k_ => (((((((Zn k_ v378 ∧ (Zn k_ v381 ∧ (Zn k_ v384 ∧ (Zn k_ v387 ∧ Zn k_ (.slice Ao54 t389.length co54))))) ∧ Zn k_ (.slice Ao62 t397.length co62)) ∧ Zn k_ (.slice Ao67 t400.length co67)) ∧ Zn k_ (.slice Ao72 t404.length co72)) ∧ Zn k_ (.slice Ao78 t407.length co78)) ∧ Zn k_ (.slice Ao82 t411.length co82)) ∧ Zn k_ (.slice Ao89 t414.length co89))) (n := t392.length) (c := co56) ?_).2.2; exact (Zy HO394 BK418)); (case side8 => exact (Kd.R_reads' HO394.out).2.1); rintro e w91 ⟨rfl, hb⟩; refine ⟨_, rfl, ?_⟩; replace HO379 := Zm (Kd.R_below (Zy HO379 BK418) hb); replace HO382 := Zm (Kd.R_below (Zy HO382 BK418) hb); replace HO385 := Zm (Kd.R_below (Zy HO385 BK418) hb); replace HO388 := Zm (Kd.R_below (Zy HO388 BK418) hb); replace HO391 := Zm (Kd.R_below (Zy HO391 BK418) hb); replace HO394 := Zm (Kd.R_below (Zy HO394 BK418) hb); replace HO399 := Zm (Kd.R_below (Zy HO399 BK418) hb); replace HO402 := Zm (Kd.R_below (Zy HO402 BK418) hb); replace HO406 := Zm (Kd.R_below (Zy HO406 BK418) hb); replace HO409 := Zm (Kd.R_below (Zy HO409 BK418) hb); replace HO413 := Zm (Kd.R_below (Zy HO413 BK418) hb); replace HO416 := Zm (Kd.R_below (Zy HO416 BK418) hb); replace BK373 := Zm (blk_below (g := gb373) (o := .cells #[.slice A0_0 l0_0.length c0_0, .slice A0_1 l0_1.length c0_1] 34 (0, 0)) (by (with_reducible repeat (first | refine blk_drewN ?_ _ | refine blk_drew ?_ | refine blk_alloc ?_ _)); refine blk_far ?_ NB373_418.out _; (with_reducible repeat (first | refine blk_drewN ?_ _ | refine blk_drew ?_ | refine blk_alloc ?_ _)); refine blk_far ?_ NB373_418.out _; (with_reducible repeat (first | refine blk_drewN ?_ _ | refine blk_drew ?_ | refine blk_alloc ?_ _)); exact BK373.out) hb); replace BK374 := Zm (blk_below (g := gb374) (o := .cells #[.slice A1_0 l1_0.length c1_0, .slice A1_1 l1_1.length c1_1] 34 (0, 0)) (by (with_reducible repeat (first | refine blk_drewN ?_ _ | refine blk_drew ?_ | refine blk_alloc ?_ _)); refine blk_far ?_ NB374_418.out _; (with_reducible repeat (first | refine blk_drewN ?_ _ | refine blk_drew ?_ | refine blk_alloc ?_ _)); refine blk_far ?_ NB374_418.out _; (with_reducible repeat (first | refine blk_drewN ?_ _ | refine blk_drew ?_ | refine blk_alloc ?_ _)); exact BK374.out) hb); replace BK396 := Zm (blk_below (g := gb396) (o := .cells #[.slice Ao54 t389.length co54, .slice Ao56 t392.length co56] 36 (0, 0)) (by (with_reducible repeat (first | refine blk_drewN ?_ _ | refine blk_drew ?_ | refine blk_alloc ?_ _)); refine blk_far ?_ NB396_418.out _; (with_reducible repeat (first | refine blk_drewN ?_ _ | refine blk_drew ?_ | refine blk_alloc ?_ _)); refine blk_far ?_ NB396_418.out _; (with_reducible repeat (first | refine blk_drewN ?_ _ | refine blk_drew ?_ | refine blk_alloc ?_ _)); exact BK396.out) hb); replace BK403 := Zm (blk_below (g := gb403) (o := .cells #[.slice Ao62 t397.length co62, .slice Ao67 t400.length co67] 36 (0, 0)) (by (with_reducible repeat (first | refine blk_drewN ?_ _ | refine blk_drew ?_ | refine blk_alloc ?_ _)); refine blk_far ?_ NB403_418.out _; (with_reducible repeat (first | refine blk_drewN ?_ _ | refine blk_drew ?_ | refine blk_alloc ?_ _)); refine blk_far ?_ NB403_418.out _; (with_reducible repeat (first | refine blk_drewN ?_ _ | refine blk_drew ?_ | refine blk_alloc ?_ _)); exact BK403.out) hb); replace BK410 := Zm (blk_below (g := gb410) (o := .cells #[.slice Ao72 t404.length co72, .slice Ao78 t407.length co78] 36 (0, 0)) (by (with_reducible repeat (first | refine blk_drewN ?_ _ | refine blk_drew ?_ | refine blk_alloc ?_ _)); refine blk_far ?_ NB410_418.out _; (with_reducible repeat (first | refine blk_drewN ?_ _ | refine blk_drew ?_ | refine blk_alloc ?_ _)); refine blk_far ?_ NB410_418.out _; (with_reducible repeat (first | refine blk_drewN ?_ _ | refine blk_drew ?_ | refine blk_alloc ?_ _)); exact BK410.out) hb); replace BK418 := Zm (blk_below (g := gb418) (o := .cells #[.slice Ao82 t411.length co82, .slice Ao89 t414.length co89] 36 (0, 0)) (by (with_reducible repeat (first | refine blk_drewN ?_ _ | refine blk_drew ?_ | refine blk_alloc ?_ _)); refine blk_put (cs := #[.slice Ao82 t411.length co82, .slice none 0 0]) ?_ 1 _ rfl; (with_reducible repeat (first | refine blk_drewN ?_ _ | refine blk_drew ?_ | refine blk_alloc ?_ _)); refine blk_put (cs := #[.slice none 0 0, .slice none 0 0]) ?_ 0 _ rfl; (with_reducible repeat (first | refine blk_drewN ?_ _ | refine blk_drew ?_ | refine blk_alloc ?_ _)); exact BK418.out) hb); replace HB := Zh HB hb; (try clear hb); (try clear hb2); (try clear hk); (try clear hi)))
       replace HO379 := Zm (Kd.R_drew HO379.out); replace HO382 := Zm (Kd.R_drew HO382.out); replace HO385 := Zm (Kd.R_drew HO385.out); replace HO388 := Zm (Kd.R_drew HO388.out); replace HO391 := Zm (Kd.R_drew HO391.out); replace HO394 := Zm (Kd.R_drew HO394.out); replace HO399 := Zm (Kd.R_drew HO399.out); replace HO402 := Zm (Kd.R_drew HO402.out); replace HO406 := Zm (Kd.R_drew HO406.out); replace HO409 := Zm (Kd.R_drew HO409.out); replace HO413 := Zm (Kd.R_drew HO413.out); replace HO416 := Zm (Kd.R_drew HO416.out); replace BK373 := Zm (blk_drew BK373.out); replace BK374 := Zm (blk_drew BK374.out); replace BK396 := Zm (blk_drew BK396.out); replace BK403 := Zm (blk_drew BK403.out); replace BK410 := Zm (blk_drew BK410.out); replace BK418 := Zm (blk_drew BK418.out); replace HB := Zm (below_drew1 HB.out)
       refine start_ (n := 5) (S := fun w' => w'.cell? ⟨gb403, 0, none⟩ = some (.slice Ao62 t397.length co62) ∧ w'.cell? ⟨gb403, 1, none⟩ = some (.slice Ao67 t400.length co67) ∧ w'.cell? ⟨gb373, 0, none⟩ = some (.slice A0_0 l0_0.length c0_0) ∧ w'.cell? ⟨gb373, 1, none⟩ = some (.slice A0_1 l0_1.length c0_1)) (ds := []) #[false, false, false, false, false] (by kernel_rfl) rfl rfl ⟨(blk_cell BK403.out 0).trans rfl, (blk_cell BK403.out 1).trans rfl, (blk_cell BK373.out 0).trans rfl, (blk_cell BK373.out 1).trans rfl⟩ (fun hHeld => ?_)
       generalize w91.drew = w92 at HO379 HO382 HO385 HO388 HO391 HO394 HO399 HO402 HO406 HO409 HO413 HO416 BK373 BK374 BK396 BK403 BK410 BK418 HB hHeld ⊢
       refine take_ (i := 0) (N := some 54) (v := ?_) (a' := ?_) #[true, false, false, false, false] rfl rfl (by kernel_rfl) (fun _ _ _ h => h) (Or.inl ⟨by rfl, ?_⟩) hHeld ?_ ?_
       rotate_left
       ·
        rintro w' ⟨s0, s1, s2, s3⟩
        go_simp
        with_reducible rfl
       rotate_left
       ·
        simp only [Act.put, List.setIfInBounds_toArray, List.set_cons_zero, List.set_cons_succ, i64_w, i32_w]
        rfl
       refine take_ (i := 1) (N := some 55) (v := ?_) (a' := ?_) #[true, true, false, false, false] rfl rfl (by kernel_rfl) (fun _ _ _ h => h) (Or.inl ⟨by rfl, ?_⟩) hHeld ?_ ?_
       rotate_left
       ·
        rintro w' ⟨s0, s1, s2, s3⟩
        go_simp
        with_reducible rfl
       rotate_left
       ·
        simp only [Act.put, List.setIfInBounds_toArray, List.set_cons_zero, List.set_cons_succ, i64_w, i32_w]
        rfl
       refine one_ (i := 2) (N := some 56) #[true, true, true, false, false] rfl rfl (by kernel_rfl) (by decide) (fun K hK => ?_)
       refine goes_ Try.func18 (by kernel_rfl) rfl #[.agg #[.slice A0_0 l0_0.length c0_0, .slice A0_1 l0_1.length c0_1]] (by rfl) rfl rfl (by (try simp only [List.map_toArray, List.map_cons, List.map_nil]); first | done | rfl) ?_
       with_reducible refine (laws_toTurned.calls k _ _ l0_0 _ _ l0_1 t420 t423 _ ?side1 ?side2 ?side3 ?side4 A28.out).mono ?_
       (case side1 => repeat (first | exact (Kd.C_below HR0_0.out HB.out) | (with_reducible refine Kd.C_alloc ?_ _) | (with_reducible refine Kd.C_drewN ?_ _) | (with_reducible refine Kd.C_drew ?_)))
       (case side2 => exact HC0_0.out)
       (case side3 => repeat (first | exact (Kd.C_below HR0_1.out HB.out) | (with_reducible refine Kd.C_alloc ?_ _) | (with_reducible refine Kd.C_drewN ?_ _) | (with_reducible refine Kd.C_drew ?_)))
       (case side4 => exact HC0_1.out)
       rintro e w93 ⟨v421, v424, rfl, ho0, ho1, hb⟩
       refine ⟨_, rfl, ?_⟩
       have HO422 := Zj (Zv (Zv (Zv (Zv (Zv (Zv (Zv (Zv (Zv (Zv (Zv (Zv ho0 HO379) HO382) HO385) HO388) HO391) HO394) HO399) HO402) HO406) HO409) HO413) HO416) HB; have HO425 := Zj (Zv (Zv (Zv (Zv (Zv (Zv (Zv (Zv (Zv (Zv (Zv (Zv ho1 HO379) HO382) HO385) HO388) HO391) HO394) HO399) HO402) HO406) HO409) HO413) HO416) HB; replace HO379 := Zu HO379 hb ho0 ho1; replace HO382 := Zu HO382 hb ho0 ho1; replace HO385 := Zu HO385 hb ho0 ho1; replace HO388 := Zu HO388 hb ho0 ho1; replace HO391 := Zu HO391 hb ho0 ho1; replace HO394 := Zu HO394 hb ho0 ho1; replace HO399 := Zu HO399 hb ho0 ho1; replace HO402 := Zu HO402 hb ho0 ho1; replace HO406 := Zu HO406 hb ho0 ho1; replace HO409 := Zu HO409 hb ho0 ho1; replace HO413 := Zu HO413 hb ho0 ho1; replace HO416 := Zu HO416 hb ho0 ho1; replace BK373 := Zk BK373 hb; replace BK374 := Zk BK374 hb; replace BK396 := Zk BK396 hb; replace BK403 := Zk BK403 hb; replace BK410 := Zk BK410 hb; replace BK418 := Zk BK418 hb; replace HB := Zh HB hb
       (try clear hb)
       (try clear hb2)
       (try clear hk)
       (try clear hi)
       (try clear ho0)
       (try clear ho1)
       obtain ⟨Ao94, co94, eo94⟩ := Kd.R_slice HO422.out
       (first | subst eo94 | (injection eo94 with f1_ f2_ f3_; have f4_ := f1_.symm; have f5_ := f3_.symm; clear f1_ f2_ f3_; subst f4_; subst f5_))
       obtain ⟨Ao95, co95, eo95⟩ := Kd.R_slice HO425.out
       (first | subst eo95 | (injection eo95 with f1_ f2_ f3_; have f4_ := f1_.symm; have f5_ := f3_.symm; clear f1_ f2_ f3_; subst f4_; subst f5_))
       refine hK.out _ _ ⟨(blk_cell BK403.out 0).trans rfl, (blk_cell BK403.out 1).trans rfl, (blk_cell BK373.out 0).trans rfl, (blk_cell BK373.out 1).trans rfl⟩ (fun hHeld => ?_)
       clear hK K
       refine norm_ (a' := ?_) ?_ ?_
       rotate_left
       ·
        show Act.put _ (some 56) _ = _
        simp only [Act.put, List.setIfInBounds_toArray, List.set_cons_zero, List.set_cons_succ, i64_w, i32_w]
        rfl
       refine one_ (i := 3) (N := some 57) #[true, true, true, true, false] rfl rfl (by kernel_rfl) (by decide) (fun K hK => ?_)
       refine goes_ Try.func20 (by kernel_rfl) rfl #[.agg #[.slice Ao62 t397.length co62, .slice Ao67 t400.length co67], .agg #[.slice Ao94 t420.length co94, .slice Ao95 t423.length co95]] (by rfl) rfl rfl (by (try simp only [List.map_toArray, List.map_cons, List.map_nil]); first | done | rfl) ?_
       with_reducible refine (laws_eqTurned.calls k _ _ t397 _ _ t400 _ _ t420 _ _ t423 true _ ?side1 ?side2 ?side3 ?side4 ?side5 ?side6 ?side7 ?side8 A29.out).mono ?_
       (case side1 => repeat (first | exact (Kd.R_reads' HO399.out).2.2 | (with_reducible refine Kd.C_alloc ?_ _) | (with_reducible refine Kd.C_drewN ?_ _) | (with_reducible refine Kd.C_drew ?_)))
       (case side2 => exact (Kd.R_reads' HO399.out).2.1)
       (case side3 => repeat (first | exact (Kd.R_reads' HO402.out).2.2 | (with_reducible refine Kd.C_alloc ?_ _) | (with_reducible refine Kd.C_drewN ?_ _) | (with_reducible refine Kd.C_drew ?_)))
       (case side4 => exact (Kd.R_reads' HO402.out).2.1)
       (case side5 => repeat (first | exact (Kd.R_reads' HO422.out).2.2 | (with_reducible refine Kd.C_alloc ?_ _) | (with_reducible refine Kd.C_drewN ?_ _) | (with_reducible refine Kd.C_drew ?_)))
       (case side6 => exact (Kd.R_reads' HO422.out).2.1)
       (case side7 => repeat (first | exact (Kd.R_reads' HO425.out).2.2 | (with_reducible refine Kd.C_alloc ?_ _) | (with_reducible refine Kd.C_drewN ?_ _) | (with_reducible refine Kd.C_drew ?_)))
       (case side8 => exact (Kd.R_reads' HO425.out).2.1)
       rintro e w96 ⟨rfl, hb⟩
       refine ⟨_, rfl, ?_⟩
       replace HO379 := Zo HO379 hb; replace HO382 := Zo HO382 hb; replace HO385 := Zo HO385 hb; replace HO388 := Zo HO388 hb; replace HO391 := Zo HO391 hb; replace HO394 := Zo HO394 hb; replace HO399 := Zo HO399 hb; replace HO402 := Zo HO402 hb; replace HO406 := Zo HO406 hb; replace HO409 := Zo HO409 hb; replace HO413 := Zo HO413 hb; replace HO416 := Zo HO416 hb; replace HO422 := Zo HO422 hb; replace HO425 := Zo HO425 hb; replace BK373 := Zk BK373 hb; replace BK374 := Zk BK374 hb; replace BK396 := Zk BK396 hb; replace BK403 := Zk BK403 hb; replace BK410 := Zk BK410 hb; replace BK418 := Zk BK418 hb; replace HB := Zh HB hb
       (try clear hb)
       (try clear hb2)
       (try clear hk)
       (try clear hi)
       refine hK.out _ _ ⟨(blk_cell BK403.out 0).trans rfl, (blk_cell BK403.out 1).trans rfl, (blk_cell BK373.out 0).trans rfl, (blk_cell BK373.out 1).trans rfl⟩ (fun hHeld => ?_)
       clear hK K
       refine norm_ (a' := ?_) ?_ ?_
       rotate_left
       ·
        show Act.put _ (some 57) _ = _
        simp only [Act.put, List.setIfInBounds_toArray, List.set_cons_zero, List.set_cons_succ, i64_w, i32_w]
        rfl
       refine pure_ (i := 4) (N := some 58) (v := ?_) (a' := ?_) #[true, true, true, true, true] rfl rfl (by kernel_rfl) (fun _ _ _ h => h) (Or.inl ⟨by rfl, ?_⟩) ?_ ?_
       rotate_left
       ·
        intro w'
        go_simp
        with_reducible rfl
       rotate_left
       ·
        simp only [Act.put, List.setIfInBounds_toArray, List.set_cons_zero, List.set_cons_succ, i64_w, i32_w]
        rfl
       refine done_ (by kernel_rfl) ?_
       try go_wp2
       replace HO379 := Zm (Kd.R_drew HO379.out); replace HO382 := Zm (Kd.R_drew HO382.out); replace HO385 := Zm (Kd.R_drew HO385.out); replace HO388 := Zm (Kd.R_drew HO388.out); replace HO391 := Zm (Kd.R_drew HO391.out); replace HO394 := Zm (Kd.R_drew HO394.out); replace HO399 := Zm (Kd.R_drew HO399.out); replace HO402 := Zm (Kd.R_drew HO402.out); replace HO406 := Zm (Kd.R_drew HO406.out); replace HO409 := Zm (Kd.R_drew HO409.out); replace HO413 := Zm (Kd.R_drew HO413.out); replace HO416 := Zm (Kd.R_drew HO416.out); replace HO422 := Zm (Kd.R_drew HO422.out); replace HO425 := Zm (Kd.R_drew HO425.out); replace BK373 := Zm (blk_drew BK373.out); replace BK374 := Zm (blk_drew BK374.out); replace BK396 := Zm (blk_drew BK396.out); replace BK403 := Zm (blk_drew BK403.out); replace BK410 := Zm (blk_drew BK410.out); replace BK418 := Zm (blk_drew BK418.out); replace HB := Zm (below_drew1 HB.out)
       refine start_ (n := 5) (S := fun w' => w'.cell? ⟨gb410, 0, none⟩ = some (.slice Ao72 t404.length co72) ∧ w'.cell? ⟨gb410, 1, none⟩ = some (.slice Ao78 t407.length co78) ∧ w'.cell? ⟨gb374, 0, none⟩ = some (.slice A1_0 l1_0.length c1_0) ∧ w'.cell? ⟨gb374, 1, none⟩ = some (.slice A1_1 l1_1.length c1_1)) (ds := []) #[false, false, false, false, false] (by kernel_rfl) rfl rfl ⟨(blk_cell BK410.out 0).trans rfl, (blk_cell BK410.out 1).trans rfl, (blk_cell BK374.out 0).trans rfl, (blk_cell BK374.out 1).trans rfl⟩ (fun hHeld => ?_)
       generalize w96.drew = w97 at HO379 HO382 HO385 HO388 HO391 HO394 HO399 HO402 HO406 HO409 HO413 HO416 HO422 HO425 BK373 BK374 BK396 BK403 BK410 BK418 HB hHeld ⊢
       refine take_ (i := 0) (N := some 59) (v := ?_) (a' := ?_) #[true, false, false, false, false] rfl rfl (by kernel_rfl) (fun _ _ _ h => h) (Or.inl ⟨by rfl, ?_⟩) hHeld ?_ ?_
       rotate_left
       ·
        rintro w' ⟨s0, s1, s2, s3⟩
        go_simp
        with_reducible rfl
       rotate_left
       ·
        simp only [Act.put, List.setIfInBounds_toArray, List.set_cons_zero, List.set_cons_succ, i64_w, i32_w]
        rfl
       refine take_ (i := 1) (N := some 60) (v := ?_) (a' := ?_) #[true, true, false, false, false] rfl rfl (by kernel_rfl) (fun _ _ _ h => h) (Or.inl ⟨by rfl, ?_⟩) hHeld ?_ ?_
       rotate_left
       ·
        rintro w' ⟨s0, s1, s2, s3⟩
        go_simp
        with_reducible rfl
       rotate_left
       ·
        simp only [Act.put, List.setIfInBounds_toArray, List.set_cons_zero, List.set_cons_succ, i64_w, i32_w]
        rfl
       refine one_ (i := 2) (N := some 61) #[true, true, true, false, false] rfl rfl (by kernel_rfl) (by decide) (fun K hK => ?_)
       refine goes_ Try.func18 (by kernel_rfl) rfl #[.agg #[.slice A1_0 l1_0.length c1_0, .slice A1_1 l1_1.length c1_1]] (by rfl) rfl rfl (by (try simp only [List.map_toArray, List.map_cons, List.map_nil]); first | done | rfl) ?_
       with_reducible refine (laws_toTurned.calls k _ _ l1_0 _ _ l1_1 t427 t430 _ ?side1 ?side2 ?side3 ?side4 A31.out).mono ?_
       (case side1 => repeat (first | exact (Kd.C_below HR1_0.out HB.out) | (with_reducible refine Kd.C_alloc ?_ _) | (with_reducible refine Kd.C_drewN ?_ _) | (with_reducible refine Kd.C_drew ?_)))
       (case side2 => exact HC1_0.out)
       (case side3 => repeat (first | exact (Kd.C_below HR1_1.out HB.out) | (with_reducible refine Kd.C_alloc ?_ _) | (with_reducible refine Kd.C_drewN ?_ _) | (with_reducible refine Kd.C_drew ?_)))
       (case side4 => exact HC1_1.out)
       rintro e w98 ⟨v428, v431, rfl, ho0, ho1, hb⟩
       refine ⟨_, rfl, ?_⟩
       have HO429 := Zj (Zv (Zv (Zv (Zv (Zv (Zv (Zv (Zv (Zv (Zv (Zv (Zv (Zv (Zv ho0 HO379) HO382) HO385) HO388) HO391) HO394) HO399) HO402) HO406) HO409) HO413) HO416) HO422) HO425) HB; have HO432 := Zj (Zv (Zv (Zv (Zv (Zv (Zv (Zv (Zv (Zv (Zv (Zv (Zv (Zv (Zv ho1 HO379) HO382) HO385) HO388) HO391) HO394) HO399) HO402) HO406) HO409) HO413) HO416) HO422) HO425) HB; replace HO379 := Zu HO379 hb ho0 ho1; replace HO382 := Zu HO382 hb ho0 ho1; replace HO385 := Zu HO385 hb ho0 ho1; replace HO388 := Zu HO388 hb ho0 ho1; replace HO391 := Zu HO391 hb ho0 ho1; replace HO394 := Zu HO394 hb ho0 ho1; replace HO399 := Zu HO399 hb ho0 ho1; replace HO402 := Zu HO402 hb ho0 ho1; replace HO406 := Zu HO406 hb ho0 ho1; replace HO409 := Zu HO409 hb ho0 ho1; replace HO413 := Zu HO413 hb ho0 ho1; replace HO416 := Zu HO416 hb ho0 ho1; replace HO422 := Zu HO422 hb ho0 ho1; replace HO425 := Zu HO425 hb ho0 ho1; replace BK373 := Zk BK373 hb; replace BK374 := Zk BK374 hb; replace BK396 := Zk BK396 hb; replace BK403 := Zk BK403 hb; replace BK410 := Zk BK410 hb; replace BK418 := Zk BK418 hb; replace HB := Zh HB hb
       (try clear hb)
       (try clear hb2)
       (try clear hk)
       (try clear hi)
       (try clear ho0)
       (try clear ho1)
       obtain ⟨Ao99, co99, eo99⟩ := Kd.R_slice HO429.out
       (first | subst eo99 | (injection eo99 with f1_ f2_ f3_; have f4_ := f1_.symm; have f5_ := f3_.symm; clear f1_ f2_ f3_; subst f4_; subst f5_))
       obtain ⟨Ao100, co100, eo100⟩ := Kd.R_slice HO432.out
       (first | subst eo100 | (injection eo100 with f1_ f2_ f3_; have f4_ := f1_.symm; have f5_ := f3_.symm; clear f1_ f2_ f3_; subst f4_; subst f5_))
       refine hK.out _ _ ⟨(blk_cell BK410.out 0).trans rfl, (blk_cell BK410.out 1).trans rfl, (blk_cell BK374.out 0).trans rfl, (blk_cell BK374.out 1).trans rfl⟩ (fun hHeld => ?_)
       clear hK K
       refine norm_ (a' := ?_) ?_ ?_
       rotate_left
       ·
        show Act.put _ (some 61) _ = _
        simp only [Act.put, List.setIfInBounds_toArray, List.set_cons_zero, List.set_cons_succ, i64_w, i32_w]
        rfl
       refine one_ (i := 3) (N := some 62) #[true, true, true, true, false] rfl rfl (by kernel_rfl) (by decide) (fun K hK => ?_)
       refine goes_ Try.func20 (by kernel_rfl) rfl #[.agg #[.slice Ao72 t404.length co72, .slice Ao78 t407.length co78], .agg #[.slice Ao99 t427.length co99, .slice Ao100 t430.length co100]] (by rfl) rfl rfl (by (try simp only [List.map_toArray, List.map_cons, List.map_nil]); first | done | rfl) ?_
       with_reducible refine (laws_eqTurned.calls k _ _ t404 _ _ t407 _ _ t427 _ _ t430 true _ ?side1 ?side2 ?side3 ?side4 ?side5 ?side6 ?side7 ?side8 A32.out).mono ?_
       (case side1 => repeat (first | exact (Kd.R_reads' HO406.out).2.2 | (with_reducible refine Kd.C_alloc ?_ _) | (with_reducible refine Kd.C_drewN ?_ _) | (with_reducible refine Kd.C_drew ?_)))
       (case side2 => exact (Kd.R_reads' HO406.out).2.1)
       (case side3 => repeat (first | exact (Kd.R_reads' HO409.out).2.2 | (with_reducible refine Kd.C_alloc ?_ _) | (with_reducible refine Kd.C_drewN ?_ _) | (with_reducible refine Kd.C_drew ?_)))
       (case side4 => exact (Kd.R_reads' HO409.out).2.1)
       (case side5 => repeat (first | exact (Kd.R_reads' HO429.out).2.2 | (with_reducible refine Kd.C_alloc ?_ _) | (with_reducible refine Kd.C_drewN ?_ _) | (with_reducible refine Kd.C_drew ?_)))
       (case side6 => exact (Kd.R_reads' HO429.out).2.1)
       (case side7 => repeat (first | exact (Kd.R_reads' HO432.out).2.2 | (with_reducible refine Kd.C_alloc ?_ _) | (with_reducible refine Kd.C_drewN ?_ _) | (with_reducible refine Kd.C_drew ?_)))
       (case side8 => exact (Kd.R_reads' HO432.out).2.1)
       rintro e w101 ⟨rfl, hb⟩
       refine ⟨_, rfl, ?_⟩
       replace HO379 := Zo HO379 hb; replace HO382 := Zo HO382 hb; replace HO385 := Zo HO385 hb; replace HO388 := Zo HO388 hb; replace HO391 := Zo HO391 hb; replace HO394 := Zo HO394 hb; replace HO399 := Zo HO399 hb; replace HO402 := Zo HO402 hb; replace HO406 := Zo HO406 hb; replace HO409 := Zo HO409 hb; replace HO413 := Zo HO413 hb; replace HO416 := Zo HO416 hb; replace HO422 := Zo HO422 hb; replace HO425 := Zo HO425 hb; replace HO429 := Zo HO429 hb; replace HO432 := Zo HO432 hb; replace BK373 := Zk BK373 hb; replace BK374 := Zk BK374 hb; replace BK396 := Zk BK396 hb; replace BK403 := Zk BK403 hb; replace BK410 := Zk BK410 hb; replace BK418 := Zk BK418 hb; replace HB := Zh HB hb
       (try clear hb)
       (try clear hb2)
       (try clear hk)
       (try clear hi)
       refine hK.out _ _ ⟨(blk_cell BK410.out 0).trans rfl, (blk_cell BK410.out 1).trans rfl, (blk_cell BK374.out 0).trans rfl, (blk_cell BK374.out 1).trans rfl⟩ (fun hHeld => ?_)
       clear hK K
       refine norm_ (a' := ?_) ?_ ?_
       rotate_left
       ·
        show Act.put _ (some 62) _ = _
        simp only [Act.put, List.setIfInBounds_toArray, List.set_cons_zero, List.set_cons_succ, i64_w, i32_w]
        rfl
       refine pure_ (i := 4) (N := some 63) (v := ?_) (a' := ?_) #[true, true, true, true, true] rfl rfl (by kernel_rfl) (fun _ _ _ h => h) (Or.inl ⟨by rfl, ?_⟩) ?_ ?_
       rotate_left
       ·
        intro w'
        go_simp
        with_reducible rfl
       rotate_left
       ·
        simp only [Act.put, List.setIfInBounds_toArray, List.set_cons_zero, List.set_cons_succ, i64_w, i32_w]
        rfl
       refine done_ (by kernel_rfl) ?_
       have hcz102_0 : w101.cell? ⟨gb403, 0, none⟩ = some (.slice Ao62 t397.length co62) := (blk_cell BK403.out 0).trans rfl; have hcz102_1 : w101.cell? ⟨gb403, 1, none⟩ = some (.slice Ao67 t400.length co67) := (blk_cell BK403.out 1).trans rfl; have hfz102_0 := blk_frozen BK403.out 0; have hfz102_1 := blk_frozen BK403.out 1
       go_upto_region 21 with (first | ((with_reducible refine gate_callee (f := 21) rfl ?_); refine goesL_ (some 66) rfl rfl Try.func21 (by kernel_rfl) rfl #[.agg #[.slice Ao62 t397.length co62, .slice Ao67 t400.length co67], .int .i64 1] rfl (by (try simp only [List.map_toArray, List.map_cons, List.map_nil]); first | done | rfl) ?_; (with_reducible refine (laws_markTurned.calls k (fun k_ => some k_ = (.slice Ao62 t397.length co62 : Value).ownBlock) (.slice Ao62 t397.length co62) t397 (fun k_ => some k_ = (.slice Ao67 t400.length co67 : Value).ownBlock) (.slice Ao67 t400.length co67) t400 1 t434 t435 t436 w _ ?side1 ?side2 ?side3 ?side4 ?side5 A34.out).mono ?_); (case side1 => repeat (first | (with_reducible first | exact HB.out | apply below_alloc | apply pw_below_drewN | apply below_drew1 | refine below_set ?_ GE373.out | refine below_set ?_ GE374.out | refine below_set ?_ GE396.out | refine below_set ?_ GE403.out | refine below_set ?_ GE410.out | refine below_set ?_ GE418.out) | exact HB.out)); (case side2 => exact Kd.R_tight rfl HO399.out); (case side3 => exact fun k_ e_ => (HO399.out.1 k_ e_.symm).1.1.1.1.1.1.1.1.1.1.1.1.1.1); (case side4 => exact Kd.R_tight rfl HO402.out); (case side5 => exact fun k_ e_ => (HO402.out.1 k_ e_.symm).1.1.1.1.1.1.1.1.1.1.1.1.1.1); rintro e w103 ⟨rfl, hy0, hy1, hb, hkp⟩; refine ⟨_, rfl, ?_⟩; replace BK373 := Zm (blk_kept (Zb BK373) hkp (fun hs_ => Or.elim hs_ (fun e_ => (fun e_ => (Kd.R_ne HO399.out BK373.out (by decide)) e_) e_) (fun e_ => (fun e_ => (Kd.R_ne HO402.out BK373.out (by decide)) e_) e_))); replace BK374 := Zm (blk_kept (Zb BK374) hkp (fun hs_ => Or.elim hs_ (fun e_ => (fun e_ => (Kd.R_ne HO399.out BK374.out (by decide)) e_) e_) (fun e_ => (fun e_ => (Kd.R_ne HO402.out BK374.out (by decide)) e_) e_))); replace HO379 := Zm (Kd.R_mono (ok' := fun k_ => Zn k_ v381 ∧ Zn k_ v384 ∧ Zn k_ v387 ∧ Zn k_ (.slice Ao54 t389.length co54) ∧ Zn k_ (.slice Ao56 t392.length co56) ∧ Zn k_ (.slice Ao62 t397.length co62) ∧ Zn k_ (.slice Ao67 t400.length co67) ∧ Zn k_ (.slice Ao72 t404.length co72) ∧ Zn k_ (.slice Ao78 t407.length co78) ∧ Zn k_ (.slice Ao82 t411.length co82) ∧ Zn k_ (.slice Ao89 t414.length co89) ∧ Zn k_ (.slice Ao94 t420.length co94) ∧ Zn k_ (.slice Ao95 t423.length co95) ∧ Zn k_ (.slice Ao99 t427.length co99) ∧ Zn k_ (.slice Ao100 t430.length co100)) (Kd.R_keptB (HO379.out) hkp (fun k_ hk_ hs_ => Or.elim hs_ (fun e_ => (hk_.1.1.1.1.1.1.1.1.1.2) e_) (fun e_ => (hk_.1.1.1.1.1.1.1.1.2) e_))) (fun k_ hk_ => ⟨hk_.1.1.1.1.1.1.1.1.1.1.1.1, hk_.1.1.1.1.1.1.1.1.1.1.1.2.1, hk_.1.1.1.1.1.1.1.1.1.1.1.2.2.1, hk_.1.1.1.1.1.1.1.1.1.1.1.2.2.2.1, hk_.1.1.1.1.1.1.1.1.1.1.1.2.2.2.2, hk_.1.1.1.1.1.1.1.1.1.1.2, hk_.1.1.1.1.1.1.1.1.1.2, hk_.1.1.1.1.1.1.1.1.2, hk_.1.1.1.1.1.1.1.2, hk_.1.1.1.1.1.1.2, hk_.1.1.1.1.1.2, hk_.1.1.1.1.2, hk_.1.1.1.2, hk_.1.1.2, hk_.1.2⟩)); replace HO382 := Zm (Kd.R_mono (ok' := fun k_ => Zn k_ v378 ∧ Zn k_ v384 ∧ Zn k_ v387 ∧ Zn k_ (.slice Ao54 t389.length co54) ∧ Zn k_ (.slice Ao56 t392.length co56) ∧ Zn k_ (.slice Ao62 t397.length co62) ∧ Zn k_ (.slice Ao67 t400.length co67) ∧ Zn k_ (.slice Ao72 t404.length co72) ∧ Zn k_ (.slice Ao78 t407.length co78) ∧ Zn k_ (.slice Ao82 t411.length co82) ∧ Zn k_ (.slice Ao89 t414.length co89) ∧ Zn k_ (.slice Ao94 t420.length co94) ∧ Zn k_ (.slice Ao95 t423.length co95) ∧ Zn k_ (.slice Ao99 t427.length co99) ∧ Zn k_ (.slice Ao100 t430.length co100)) (Kd.R_keptB (HO382.out) hkp (fun k_ hk_ hs_ => Or.elim hs_ (fun e_ => (hk_.1.1.1.1.1.1.1.1.1.2) e_) (fun e_ => (hk_.1.1.1.1.1.1.1.1.2) e_))) (fun k_ hk_ => ⟨hk_.1.1.1.1.1.1.1.1.1.1.1.1, hk_.1.1.1.1.1.1.1.1.1.1.1.2.1, hk_.1.1.1.1.1.1.1.1.1.1.1.2.2.1, hk_.1.1.1.1.1.1.1.1.1.1.1.2.2.2.1, hk_.1.1.1.1.1.1.1.1.1.1.1.2.2.2.2, hk_.1.1.1.1.1.1.1.1.1.1.2, hk_.1.1.1.1.1.1.1.1.1.2, hk_.1.1.1.1.1.1.1.1.2, hk_.1.1.1.1.1.1.1.2, hk_.1.1.1.1.1.1.2, hk_.1.1.1.1.1.2, hk_.1.1.1.1.2, hk_.1.1.1.2, hk_.1.1.2, hk_.1.2⟩)); replace HO385 := Zm (Kd.R_mono (ok' := fun k_ => Zn k_ v378 ∧ Zn k_ v381 ∧ Zn k_ v387 ∧ Zn k_ (.slice Ao54 t389.length co54) ∧ Zn k_ (.slice Ao56 t392.length co56) ∧ Zn k_ (.slice Ao62 t397.length co62) ∧ Zn k_ (.slice Ao67 t400.length co67) ∧ Zn k_ (.slice Ao72 t404.length co72) ∧ Zn k_ (.slice Ao78 t407.length co78) ∧ Zn k_ (.slice Ao82 t411.length co82) ∧ Zn k_ (.slice Ao89 t414.length co89) ∧ Zn k_ (.slice Ao94 t420.length co94) ∧ Zn k_ (.slice Ao95 t423.length co95) ∧ Zn k_ (.slice Ao99 t427.length co99) ∧ Zn k_ (.slice Ao100 t430.length co100)) (Kd.R_keptB (HO385.out) hkp (fun k_ hk_ hs_ => Or.elim hs_ (fun e_ => (hk_.1.1.1.1.1.1.1.1.1.2) e_) (fun e_ => (hk_.1.1.1.1.1.1.1.1.2) e_))) (fun k_ hk_ => ⟨hk_.1.1.1.1.1.1.1.1.1.1.1.1, hk_.1.1.1.1.1.1.1.1.1.1.1.2.1, hk_.1.1.1.1.1.1.1.1.1.1.1.2.2.1, hk_.1.1.1.1.1.1.1.1.1.1.1.2.2.2.1, hk_.1.1.1.1.1.1.1.1.1.1.1.2.2.2.2, hk_.1.1.1.1.1.1.1.1.1.1.2, hk_.1.1.1.1.1.1.1.1.1.2, hk_.1.1.1.1.1.1.1.1.2, hk_.1.1.1.1.1.1.1.2, hk_.1.1.1.1.1.1.2, hk_.1.1.1.1.1.2, hk_.1.1.1.1.2, hk_.1.1.1.2, hk_.1.1.2, hk_.1.2⟩)); replace HO388 := Zm (Kd.R_mono (ok' := fun k_ => Zn k_ v378 ∧ Zn k_ v381 ∧ Zn k_ v384 ∧ Zn k_ (.slice Ao54 t389.length co54) ∧ Zn k_ (.slice Ao56 t392.length co56) ∧ Zn k_ (.slice Ao62 t397.length co62) ∧ Zn k_ (.slice Ao67 t400.length co67) ∧ Zn k_ (.slice Ao72 t404.length co72) ∧ Zn k_ (.slice Ao78 t407.length co78) ∧ Zn k_ (.slice Ao82 t411.length co82) ∧ Zn k_ (.slice Ao89 t414.length co89) ∧ Zn k_ (.slice Ao94 t420.length co94) ∧ Zn k_ (.slice Ao95 t423.length co95) ∧ Zn k_ (.slice Ao99 t427.length co99) ∧ Zn k_ (.slice Ao100 t430.length co100)) (Kd.R_keptB (HO388.out) hkp (fun k_ hk_ hs_ => Or.elim hs_ (fun e_ => (hk_.1.1.1.1.1.1.1.1.1.2) e_) (fun e_ => (hk_.1.1.1.1.1.1.1.1.2) e_))) (fun k_ hk_ => ⟨hk_.1.1.1.1.1.1.1.1.1.1.1.1, hk_.1.1.1.1.1.1.1.1.1.1.1.2.1, hk_.1.1.1.1.1.1.1.1.1.1.1.2.2.1, hk_.1.1.1.1.1.1.1.1.1.1.1.2.2.2.1, hk_.1.1.1.1.1.1.1.1.1.1.1.2.2.2.2, hk_.1.1.1.1.1.1.1.1.1.1.2, hk_.1.1.1.1.1.1.1.1.1.2, hk_.1.1.1.1.1.1.1.1.2, hk_.1.1.1.1.1.1.1.2, hk_.1.1.1.1.1.1.2, hk_.1.1.1.1.1.2, hk_.1.1.1.1.2, hk_.1.1.1.2, hk_.1.1.2, hk_.1.2⟩)); replace HO391 := Zm (Kd.R_mono (ok' := fun k_ => Zn k_ v378 ∧ Zn k_ v381 ∧ Zn k_ v384 ∧ Zn k_ v387 ∧ Zn k_ (.slice Ao56 t392.length co56) ∧ Zn k_ (.slice Ao62 t397.length co62) ∧ Zn k_ (.slice Ao67 t400.length co67) ∧ Zn k_ (.slice Ao72 t404.length co72) ∧ Zn k_ (.slice Ao78 t407.length co78) ∧ Zn k_ (.slice Ao82 t411.length co82) ∧ Zn k_ (.slice Ao89 t414.length co89) ∧ Zn k_ (.slice Ao94 t420.length co94) ∧ Zn k_ (.slice Ao95 t423.length co95) ∧ Zn k_ (.slice Ao99 t427.length co99) ∧ Zn k_ (.slice Ao100 t430.length co100)) (Kd.R_keptB (HO391.out) hkp (fun k_ hk_ hs_ => Or.elim hs_ (fun e_ => (hk_.1.1.1.1.1.1.1.1.1.2) e_) (fun e_ => (hk_.1.1.1.1.1.1.1.1.2) e_))) (fun k_ hk_ => ⟨hk_.1.1.1.1.1.1.1.1.1.1.1.1, hk_.1.1.1.1.1.1.1.1.1.1.1.2.1, hk_.1.1.1.1.1.1.1.1.1.1.1.2.2.1, hk_.1.1.1.1.1.1.1.1.1.1.1.2.2.2.1, hk_.1.1.1.1.1.1.1.1.1.1.1.2.2.2.2, hk_.1.1.1.1.1.1.1.1.1.1.2, hk_.1.1.1.1.1.1.1.1.1.2, hk_.1.1.1.1.1.1.1.1.2, hk_.1.1.1.1.1.1.1.2, hk_.1.1.1.1.1.1.2, hk_.1.1.1.1.1.2, hk_.1.1.1.1.2, hk_.1.1.1.2, hk_.1.1.2, hk_.1.2⟩)); replace HO394 := Zm (Kd.R_mono (ok' := fun k_ => Zn k_ v378 ∧ Zn k_ v381 ∧ Zn k_ v384 ∧ Zn k_ v387 ∧ Zn k_ (.slice Ao54 t389.length co54) ∧ Zn k_ (.slice Ao62 t397.length co62) ∧ Zn k_ (.slice Ao67 t400.length co67) ∧ Zn k_ (.slice Ao72 t404.length co72) ∧ Zn k_ (.slice Ao78 t407.length co78) ∧ Zn k_ (.slice Ao82 t411.length co82) ∧ Zn k_ (.slice Ao89 t414.length co89) ∧ Zn k_ (.slice Ao94 t420.length co94) ∧ Zn k_ (.slice Ao95 t423.length co95) ∧ Zn k_ (.slice Ao99 t427.length co99) ∧ Zn k_ (.slice Ao100 t430.length co100)) (Kd.R_keptB (HO394.out) hkp (fun k_ hk_ hs_ => Or.elim hs_ (fun e_ => (hk_.1.1.1.1.1.1.1.1.1.2) e_) (fun e_ => (hk_.1.1.1.1.1.1.1.1.2) e_))) (fun k_ hk_ => ⟨hk_.1.1.1.1.1.1.1.1.1.1.1.1, hk_.1.1.1.1.1.1.1.1.1.1.1.2.1, hk_.1.1.1.1.1.1.1.1.1.1.1.2.2.1, hk_.1.1.1.1.1.1.1.1.1.1.1.2.2.2.1, hk_.1.1.1.1.1.1.1.1.1.1.1.2.2.2.2, hk_.1.1.1.1.1.1.1.1.1.1.2, hk_.1.1.1.1.1.1.1.1.1.2, hk_.1.1.1.1.1.1.1.1.2, hk_.1.1.1.1.1.1.1.2, hk_.1.1.1.1.1.1.2, hk_.1.1.1.1.1.2, hk_.1.1.1.1.2, hk_.1.1.1.2, hk_.1.1.2, hk_.1.2⟩)); replace BK396 := Zm (blk_kept (Zb BK396) hkp (fun hs_ => Or.elim hs_ (fun e_ => (fun e_ => (Kd.R_ne HO399.out BK396.out (by decide)) e_) e_) (fun e_ => (fun e_ => (Kd.R_ne HO402.out BK396.out (by decide)) e_) e_))); replace BK403 := Zm (blk_kept (Zb BK403) hkp (fun hs_ => Or.elim hs_ (fun e_ => (fun e_ => (Kd.R_ne HO399.out BK403.out (by decide)) e_) e_) (fun e_ => (fun e_ => (Kd.R_ne HO402.out BK403.out (by decide)) e_) e_))); replace HO406 := Zm (Kd.R_mono (ok' := fun k_ => Zn k_ v378 ∧ Zn k_ v381 ∧ Zn k_ v384 ∧ Zn k_ v387 ∧ Zn k_ (.slice Ao54 t389.length co54) ∧ Zn k_ (.slice Ao56 t392.length co56) ∧ Zn k_ (.slice Ao62 t397.length co62) ∧ Zn k_ (.slice Ao67 t400.length co67) ∧ Zn k_ (.slice Ao78 t407.length co78) ∧ Zn k_ (.slice Ao82 t411.length co82) ∧ Zn k_ (.slice Ao89 t414.length co89) ∧ Zn k_ (.slice Ao94 t420.length co94) ∧ Zn k_ (.slice Ao95 t423.length co95) ∧ Zn k_ (.slice Ao99 t427.length co99) ∧ Zn k_ (.slice Ao100 t430.length co100)) (Kd.R_keptB (HO406.out) hkp (fun k_ hk_ hs_ => Or.elim hs_ (fun e_ => (hk_.1.1.1.1.1.1.1.2) e_) (fun e_ => (hk_.1.1.1.1.1.1.2) e_))) (fun k_ hk_ => ⟨hk_.1.1.1.1.1.1.1.1.1.1.1.1.1.1.2, hk_.1.1.1.1.1.1.1.1.1.1.1.1.1.2, hk_.1.1.1.1.1.1.1.1.1.1.1.1.2, hk_.1.1.1.1.1.1.1.1.1.1.1.2, hk_.1.1.1.1.1.1.1.1.1.1.2, hk_.1.1.1.1.1.1.1.1.1.2, hk_.1.1.1.1.1.1.1.1.2, hk_.1.1.1.1.1.1.1.2, hk_.1.1.1.1.1.1.1.1.1.1.1.1.1.1.1, hk_.1.1.1.1.1.1.2, hk_.1.1.1.1.1.2, hk_.1.1.1.1.2, hk_.1.1.1.2, hk_.1.1.2, hk_.1.2⟩)); replace HO409 := Zm (Kd.R_mono (ok' := fun k_ => Zn k_ v378 ∧ Zn k_ v381 ∧ Zn k_ v384 ∧ Zn k_ v387 ∧ Zn k_ (.slice Ao54 t389.length co54) ∧ Zn k_ (.slice Ao56 t392.length co56) ∧ Zn k_ (.slice Ao62 t397.length co62) ∧ Zn k_ (.slice Ao67 t400.length co67) ∧ Zn k_ (.slice Ao72 t404.length co72) ∧ Zn k_ (.slice Ao82 t411.length co82) ∧ Zn k_ (.slice Ao89 t414.length co89) ∧ Zn k_ (.slice Ao94 t420.length co94) ∧ Zn k_ (.slice Ao95 t423.length co95) ∧ Zn k_ (.slice Ao99 t427.length co99) ∧ Zn k_ (.slice Ao100 t430.length co100)) (Kd.R_keptB (HO409.out) hkp (fun k_ hk_ hs_ => Or.elim hs_ (fun e_ => (hk_.1.1.1.1.1.1.1.2) e_) (fun e_ => (hk_.1.1.1.1.1.1.2) e_))) (fun k_ hk_ => ⟨hk_.1.1.1.1.1.1.1.1.1.1.1.1.1.1.2, hk_.1.1.1.1.1.1.1.1.1.1.1.1.1.2, hk_.1.1.1.1.1.1.1.1.1.1.1.1.2, hk_.1.1.1.1.1.1.1.1.1.1.1.2, hk_.1.1.1.1.1.1.1.1.1.1.2, hk_.1.1.1.1.1.1.1.1.1.2, hk_.1.1.1.1.1.1.1.1.2, hk_.1.1.1.1.1.1.1.2, hk_.1.1.1.1.1.1.1.1.1.1.1.1.1.1.1, hk_.1.1.1.1.1.1.2, hk_.1.1.1.1.1.2, hk_.1.1.1.1.2, hk_.1.1.1.2, hk_.1.1.2, hk_.1.2⟩)); replace BK410 := Zm (blk_kept (Zb BK410) hkp (fun hs_ => Or.elim hs_ (fun e_ => (fun e_ => (Kd.R_ne HO399.out BK410.out (by decide)) e_) e_) (fun e_ => (fun e_ => (Kd.R_ne HO402.out BK410.out (by decide)) e_) e_))); replace HO413 := Zm (Kd.R_mono (ok' := fun k_ => Zn k_ v378 ∧ Zn k_ v381 ∧ Zn k_ v384 ∧ Zn k_ v387 ∧ Zn k_ (.slice Ao54 t389.length co54) ∧ Zn k_ (.slice Ao56 t392.length co56) ∧ Zn k_ (.slice Ao62 t397.length co62) ∧ Zn k_ (.slice Ao67 t400.length co67) ∧ Zn k_ (.slice Ao72 t404.length co72) ∧ Zn k_ (.slice Ao78 t407.length co78) ∧ Zn k_ (.slice Ao89 t414.length co89) ∧ Zn k_ (.slice Ao94 t420.length co94) ∧ Zn k_ (.slice Ao95 t423.length co95) ∧ Zn k_ (.slice Ao99 t427.length co99) ∧ Zn k_ (.slice Ao100 t430.length co100)) (Kd.R_keptB (HO413.out) hkp (fun k_ hk_ hs_ => Or.elim hs_ (fun e_ => (hk_.1.1.1.1.1.1.1.2) e_) (fun e_ => (hk_.1.1.1.1.1.1.2) e_))) (fun k_ hk_ => ⟨hk_.1.1.1.1.1.1.1.1.1.1.1.1.1.1.2, hk_.1.1.1.1.1.1.1.1.1.1.1.1.1.2, hk_.1.1.1.1.1.1.1.1.1.1.1.1.2, hk_.1.1.1.1.1.1.1.1.1.1.1.2, hk_.1.1.1.1.1.1.1.1.1.1.2, hk_.1.1.1.1.1.1.1.1.1.2, hk_.1.1.1.1.1.1.1.1.2, hk_.1.1.1.1.1.1.1.2, hk_.1.1.1.1.1.1.2, hk_.1.1.1.1.1.2, hk_.1.1.1.1.1.1.1.1.1.1.1.1.1.1.1, hk_.1.1.1.1.2, hk_.1.1.1.2, hk_.1.1.2, hk_.1.2⟩)); replace HO416 := Zm (Kd.R_mono (ok' := fun k_ => Zn k_ v378 ∧ Zn k_ v381 ∧ Zn k_ v384 ∧ Zn k_ v387 ∧ Zn k_ (.slice Ao54 t389.length co54) ∧ Zn k_ (.slice Ao56 t392.length co56) ∧ Zn k_ (.slice Ao62 t397.length co62) ∧ Zn k_ (.slice Ao67 t400.length co67) ∧ Zn k_ (.slice Ao72 t404.length co72) ∧ Zn k_ (.slice Ao78 t407.length co78) ∧ Zn k_ (.slice Ao82 t411.length co82) ∧ Zn k_ (.slice Ao94 t420.length co94) ∧ Zn k_ (.slice Ao95 t423.length co95) ∧ Zn k_ (.slice Ao99 t427.length co99) ∧ Zn k_ (.slice Ao100 t430.length co100)) (Kd.R_keptB (HO416.out) hkp (fun k_ hk_ hs_ => Or.elim hs_ (fun e_ => (hk_.1.1.1.1.1.1.1.2) e_) (fun e_ => (hk_.1.1.1.1.1.1.2) e_))) (fun k_ hk_ => ⟨hk_.1.1.1.1.1.1.1.1.1.1.1.1.1.1.2, hk_.1.1.1.1.1.1.1.1.1.1.1.1.1.2, hk_.1.1.1.1.1.1.1.1.1.1.1.1.2, hk_.1.1.1.1.1.1.1.1.1.1.1.2, hk_.1.1.1.1.1.1.1.1.1.1.2, hk_.1.1.1.1.1.1.1.1.1.2, hk_.1.1.1.1.1.1.1.1.2, hk_.1.1.1.1.1.1.1.2, hk_.1.1.1.1.1.1.2, hk_.1.1.1.1.1.2, hk_.1.1.1.1.1.1.1.1.1.1.1.1.1.1.1, hk_.1.1.1.1.2, hk_.1.1.1.2, hk_.1.1.2, hk_.1.2⟩)); replace BK418 := Zm (blk_kept (Zb BK418) hkp (fun hs_ => Or.elim hs_ (fun e_ => (fun e_ => (Kd.R_ne HO399.out BK418.out (by decide)) e_) e_) (fun e_ => (fun e_ => (Kd.R_ne HO402.out BK418.out (by decide)) e_) e_))); replace HO399 := Zm (Kd.R_reok rfl hy0 (fun k_ e_ => HO399.out.1 k_ e_)); replace HO402 := Zm (Kd.R_reok rfl hy1 (fun k_ e_ => HO402.out.1 k_ e_)); replace HO422 := Zm (Kd.R_mono (ok' := fun k_ => Zn k_ v378 ∧ Zn k_ v381 ∧ Zn k_ v384 ∧ Zn k_ v387 ∧ Zn k_ (.slice Ao54 t389.length co54) ∧ Zn k_ (.slice Ao56 t392.length co56) ∧ Zn k_ (.slice Ao62 t397.length co62) ∧ Zn k_ (.slice Ao67 t400.length co67) ∧ Zn k_ (.slice Ao72 t404.length co72) ∧ Zn k_ (.slice Ao78 t407.length co78) ∧ Zn k_ (.slice Ao82 t411.length co82) ∧ Zn k_ (.slice Ao89 t414.length co89) ∧ Zn k_ (.slice Ao95 t423.length co95) ∧ Zn k_ (.slice Ao99 t427.length co99) ∧ Zn k_ (.slice Ao100 t430.length co100)) (Kd.R_keptB (HO422.out) hkp (fun k_ hk_ hs_ => Or.elim hs_ (fun e_ => (hk_.1.1.1.1.1.1.1.2) e_) (fun e_ => (hk_.1.1.1.1.1.1.2) e_))) (fun k_ hk_ => ⟨hk_.1.1.1.1.1.1.1.1.1.1.1.1.1.1.2, hk_.1.1.1.1.1.1.1.1.1.1.1.1.1.2, hk_.1.1.1.1.1.1.1.1.1.1.1.1.2, hk_.1.1.1.1.1.1.1.1.1.1.1.2, hk_.1.1.1.1.1.1.1.1.1.1.2, hk_.1.1.1.1.1.1.1.1.1.2, hk_.1.1.1.1.1.1.1.1.2, hk_.1.1.1.1.1.1.1.2, hk_.1.1.1.1.1.1.2, hk_.1.1.1.1.1.2, hk_.1.1.1.1.2, hk_.1.1.1.2, hk_.1.1.1.1.1.1.1.1.1.1.1.1.1.1.1, hk_.1.1.2, hk_.1.2⟩)); replace HO425 := Zm (Kd.R_mono (ok' := fun k_ => Zn k_ v378 ∧ Zn k_ v381 ∧ Zn k_ v384 ∧ Zn k_ v387 ∧ Zn k_ (.slice Ao54 t389.length co54) ∧ Zn k_ (.slice Ao56 t392.length co56) ∧ Zn k_ (.slice Ao62 t397.length co62) ∧ Zn k_ (.slice Ao67 t400.length co67) ∧ Zn k_ (.slice Ao72 t404.length co72) ∧ Zn k_ (.slice Ao78 t407.length co78) ∧ Zn k_ (.slice Ao82 t411.length co82) ∧ Zn k_ (.slice Ao89 t414.length co89) ∧ Zn k_ (.slice Ao94 t420.length co94) ∧ Zn k_ (.slice Ao99 t427.length co99) ∧ Zn k_ (.slice Ao100 t430.length co100)) (Kd.R_keptB (HO425.out) hkp (fun k_ hk_ hs_ => Or.elim hs_ (fun e_ => (hk_.1.1.1.1.1.1.1.2) e_) (fun e_ => (hk_.1.1.1.1.1.1.2) e_))) (fun k_ hk_ => ⟨hk_.1.1.1.1.1.1.1.1.1.1.1.1.1.1.2, hk_.1.1.1.1.1.1.1.1.1.1.1.1.1.2, hk_.1.1.1.1.1.1.1.1.1.1.1.1.2, hk_.1.1.1.1.1.1.1.1.1.1.1.2, hk_.1.1.1.1.1.1.1.1.1.1.2, hk_.1.1.1.1.1.1.1.1.1.2, hk_.1.1.1.1.1.1.1.1.2, hk_.1.1.1.1.1.1.1.2, hk_.1.1.1.1.1.1.2, hk_.1.1.1.1.1.2, hk_.1.1.1.1.2, hk_.1.1.1.2, hk_.1.1.1.1.1.1.1.1.1.1.1.1.1.1.1, hk_.1.1.2, hk_.1.2⟩)); replace HO429 := Zm (Kd.R_mono (ok' := fun k_ => Zn k_ v378 ∧ Zn k_ v381 ∧ Zn k_ v384 ∧ Zn k_ v387 ∧ Zn k_ (.slice Ao54 t389.length co54) ∧ Zn k_ (.slice Ao56 t392.length co56) ∧ Zn k_ (.slice Ao62 t397.length co62) ∧ Zn k_ (.slice Ao67 t400.length co67) ∧ Zn k_ (.slice Ao72 t404.length co72) ∧ Zn k_ (.slice Ao78 t407.length co78) ∧ Zn k_ (.slice Ao82 t411.length co82) ∧ Zn k_ (.slice Ao89 t414.length co89) ∧ Zn k_ (.slice Ao94 t420.length co94) ∧ Zn k_ (.slice Ao95 t423.length co95) ∧ Zn k_ (.slice Ao100 t430.length co100)) (Kd.R_keptB (HO429.out) hkp (fun k_ hk_ hs_ => Or.elim hs_ (fun e_ => (hk_.1.1.1.1.1.1.1.2) e_) (fun e_ => (hk_.1.1.1.1.1.1.2) e_))) (fun k_ hk_ => ⟨hk_.1.1.1.1.1.1.1.1.1.1.1.1.1.1.2, hk_.1.1.1.1.1.1.1.1.1.1.1.1.1.2, hk_.1.1.1.1.1.1.1.1.1.1.1.1.2, hk_.1.1.1.1.1.1.1.1.1.1.1.2, hk_.1.1.1.1.1.1.1.1.1.1.2, hk_.1.1.1.1.1.1.1.1.1.2, hk_.1.1.1.1.1.1.1.1.2, hk_.1.1.1.1.1.1.1.2, hk_.1.1.1.1.1.1.2, hk_.1.1.1.1.1.2, hk_.1.1.1.1.2, hk_.1.1.1.2, hk_.1.1.2, hk_.1.2, hk_.1.1.1.1.1.1.1.1.1.1.1.1.1.1.1⟩)); replace HO432 := Zm (Kd.R_mono (ok' := fun k_ => Zn k_ v378 ∧ Zn k_ v381 ∧ Zn k_ v384 ∧ Zn k_ v387 ∧ Zn k_ (.slice Ao54 t389.length co54) ∧ Zn k_ (.slice Ao56 t392.length co56) ∧ Zn k_ (.slice Ao62 t397.length co62) ∧ Zn k_ (.slice Ao67 t400.length co67) ∧ Zn k_ (.slice Ao72 t404.length co72) ∧ Zn k_ (.slice Ao78 t407.length co78) ∧ Zn k_ (.slice Ao82 t411.length co82) ∧ Zn k_ (.slice Ao89 t414.length co89) ∧ Zn k_ (.slice Ao94 t420.length co94) ∧ Zn k_ (.slice Ao95 t423.length co95) ∧ Zn k_ (.slice Ao99 t427.length co99)) (Kd.R_keptB (HO432.out) hkp (fun k_ hk_ hs_ => Or.elim hs_ (fun e_ => (hk_.1.1.1.1.1.1.1.2) e_) (fun e_ => (hk_.1.1.1.1.1.1.2) e_))) (fun k_ hk_ => ⟨hk_.1.1.1.1.1.1.1.1.1.1.1.1.1.1.2, hk_.1.1.1.1.1.1.1.1.1.1.1.1.1.2, hk_.1.1.1.1.1.1.1.1.1.1.1.1.2, hk_.1.1.1.1.1.1.1.1.1.1.1.2, hk_.1.1.1.1.1.1.1.1.1.1.2, hk_.1.1.1.1.1.1.1.1.1.2, hk_.1.1.1.1.1.1.1.1.2, hk_.1.1.1.1.1.1.1.2, hk_.1.1.1.1.1.1.2, hk_.1.1.1.1.1.2, hk_.1.1.1.1.2, hk_.1.1.1.2, hk_.1.1.2, hk_.1.2, hk_.1.1.1.1.1.1.1.1.1.1.1.1.1.1.1⟩)); replace HB := Zm (hb); (try clear hb); (try clear hkp); (try clear hy0); (try clear hy1); have hcz104_0 : w103.cell? ⟨gb410, 0, none⟩ = some (.slice Ao72 t404.length co72) := (blk_cell BK410.out 0).trans rfl; have hcz104_1 : w103.cell? ⟨gb410, 1, none⟩ = some (.slice Ao78 t407.length co78) := (blk_cell BK410.out 1).trans rfl; have hfz104_0 := blk_frozen BK410.out 0; have hfz104_1 := blk_frozen BK410.out 1) | ((with_reducible refine gate_callee (f := 21) rfl ?_); refine goesL_ (some 69) rfl rfl Try.func21 (by kernel_rfl) rfl #[.agg #[.slice Ao72 t404.length co72, .slice Ao78 t407.length co78], .int .i64 t434] rfl (by (try simp only [List.map_toArray, List.map_cons, List.map_nil]); first | done | rfl) ?_; (with_reducible refine (laws_markTurned.calls k (fun k_ => some k_ = (.slice Ao72 t404.length co72 : Value).ownBlock) (.slice Ao72 t404.length co72) t404 (fun k_ => some k_ = (.slice Ao78 t407.length co78 : Value).ownBlock) (.slice Ao78 t407.length co78) t407 t434 t437 t438 t439 w _ ?side1 ?side2 ?side3 ?side4 ?side5 A35.out).mono ?_); (case side1 => repeat (first | (with_reducible first | exact HB.out | apply below_alloc | apply pw_below_drewN | apply below_drew1 | refine below_set ?_ GE373.out | refine below_set ?_ GE374.out | refine below_set ?_ GE396.out | refine below_set ?_ GE403.out | refine below_set ?_ GE410.out | refine below_set ?_ GE418.out) | exact HB.out)); (case side2 => exact Kd.R_tight rfl HO406.out); (case side3 => exact fun k_ e_ => (HO406.out.1 k_ e_.symm).2.2.2.2.2.2.2.2.1); (case side4 => exact Kd.R_tight rfl HO409.out); (case side5 => exact fun k_ e_ => (HO409.out.1 k_ e_.symm).2.2.2.2.2.2.2.2.1); rintro e w105 ⟨rfl, hy0, hy1, hb, hkp⟩; refine ⟨_, rfl, ?_⟩; replace BK373 := Zm (blk_kept (Zb BK373) hkp (fun hs_ => Or.elim hs_ (fun e_ => (fun e_ => (Kd.R_ne HO406.out BK373.out (by decide)) e_) e_) (fun e_ => (fun e_ => (Kd.R_ne HO409.out BK373.out (by decide)) e_) e_))); replace BK374 := Zm (blk_kept (Zb BK374) hkp (fun hs_ => Or.elim hs_ (fun e_ => (fun e_ => (Kd.R_ne HO406.out BK374.out (by decide)) e_) e_) (fun e_ => (fun e_ => (Kd.R_ne HO409.out BK374.out (by decide)) e_) e_))); replace HO379 := Zm (Kd.R_mono (ok' := fun k_ => Zn k_ v381 ∧ Zn k_ v384 ∧ Zn k_ v387 ∧ Zn k_ (.slice Ao54 t389.length co54) ∧ Zn k_ (.slice Ao56 t392.length co56) ∧ Zn k_ (.slice Ao62 t397.length co62) ∧ Zn k_ (.slice Ao67 t400.length co67) ∧ Zn k_ (.slice Ao72 t404.length co72) ∧ Zn k_ (.slice Ao78 t407.length co78) ∧ Zn k_ (.slice Ao82 t411.length co82) ∧ Zn k_ (.slice Ao89 t414.length co89) ∧ Zn k_ (.slice Ao94 t420.length co94) ∧ Zn k_ (.slice Ao95 t423.length co95) ∧ Zn k_ (.slice Ao99 t427.length co99) ∧ Zn k_ (.slice Ao100 t430.length co100)) (Kd.R_keptB (HO379.out) hkp (fun k_ hk_ hs_ => Or.elim hs_ (fun e_ => (hk_.2.2.2.2.2.2.2.1) e_) (fun e_ => (hk_.2.2.2.2.2.2.2.2.1) e_))) (fun k_ hk_ => ⟨hk_.1.1, hk_.1.2.1, hk_.1.2.2.1, hk_.1.2.2.2.1, hk_.1.2.2.2.2.1, hk_.1.2.2.2.2.2.1, hk_.1.2.2.2.2.2.2.1, hk_.1.2.2.2.2.2.2.2.1, hk_.1.2.2.2.2.2.2.2.2.1, hk_.1.2.2.2.2.2.2.2.2.2.1, hk_.1.2.2.2.2.2.2.2.2.2.2.1, hk_.1.2.2.2.2.2.2.2.2.2.2.2.1, hk_.1.2.2.2.2.2.2.2.2.2.2.2.2.1, hk_.1.2.2.2.2.2.2.2.2.2.2.2.2.2.1, hk_.1.2.2.2.2.2.2.2.2.2.2.2.2.2.2⟩)); replace HO382 := Zm (Kd.R_mono (ok' := fun k_ => Zn k_ v378 ∧ Zn k_ v384 ∧ Zn k_ v387 ∧ Zn k_ (.slice Ao54 t389.length co54) ∧ Zn k_ (.slice Ao56 t392.length co56) ∧ Zn k_ (.slice Ao62 t397.length co62) ∧ Zn k_ (.slice Ao67 t400.length co67) ∧ Zn k_ (.slice Ao72 t404.length co72) ∧ Zn k_ (.slice Ao78 t407.length co78) ∧ Zn k_ (.slice Ao82 t411.length co82) ∧ Zn k_ (.slice Ao89 t414.length co89) ∧ Zn k_ (.slice Ao94 t420.length co94) ∧ Zn k_ (.slice Ao95 t423.length co95) ∧ Zn k_ (.slice Ao99 t427.length co99) ∧ Zn k_ (.slice Ao100 t430.length co100)) (Kd.R_keptB (HO382.out) hkp (fun k_ hk_ hs_ => Or.elim hs_ (fun e_ => (hk_.2.2.2.2.2.2.2.1) e_) (fun e_ => (hk_.2.2.2.2.2.2.2.2.1) e_))) (fun k_ hk_ => ⟨hk_.1.1, hk_.1.2.1, hk_.1.2.2.1, hk_.1.2.2.2.1, hk_.1.2.2.2.2.1, hk_.1.2.2.2.2.2.1, hk_.1.2.2.2.2.2.2.1, hk_.1.2.2.2.2.2.2.2.1, hk_.1.2.2.2.2.2.2.2.2.1, hk_.1.2.2.2.2.2.2.2.2.2.1, hk_.1.2.2.2.2.2.2.2.2.2.2.1, hk_.1.2.2.2.2.2.2.2.2.2.2.2.1, hk_.1.2.2.2.2.2.2.2.2.2.2.2.2.1, hk_.1.2.2.2.2.2.2.2.2.2.2.2.2.2.1, hk_.1.2.2.2.2.2.2.2.2.2.2.2.2.2.2⟩)); replace HO385 := Zm (Kd.R_mono (ok' := fun k_ => Zn k_ v378 ∧ Zn k_ v381 ∧ Zn k_ v387 ∧ Zn k_ (.slice Ao54 t389.length co54) ∧ Zn k_ (.slice Ao56 t392.length co56) ∧ Zn k_ (.slice Ao62 t397.length co62) ∧ Zn k_ (.slice Ao67 t400.length co67) ∧ Zn k_ (.slice Ao72 t404.length co72) ∧ Zn k_ (.slice Ao78 t407.length co78) ∧ Zn k_ (.slice Ao82 t411.length co82) ∧ Zn k_ (.slice Ao89 t414.length co89) ∧ Zn k_ (.slice Ao94 t420.length co94) ∧ Zn k_ (.slice Ao95 t423.length co95) ∧ Zn k_ (.slice Ao99 t427.length co99) ∧ Zn k_ (.slice Ao100 t430.length co100)) (Kd.R_keptB (HO385.out) hkp (fun k_ hk_ hs_ => Or.elim hs_ (fun e_ => (hk_.2.2.2.2.2.2.2.1) e_) (fun e_ => (hk_.2.2.2.2.2.2.2.2.1) e_))) (fun k_ hk_ => ⟨hk_.1.1, hk_.1.2.1, hk_.1.2.2.1, hk_.1.2.2.2.1, hk_.1.2.2.2.2.1, hk_.1.2.2.2.2.2.1, hk_.1.2.2.2.2.2.2.1, hk_.1.2.2.2.2.2.2.2.1, hk_.1.2.2.2.2.2.2.2.2.1, hk_.1.2.2.2.2.2.2.2.2.2.1, hk_.1.2.2.2.2.2.2.2.2.2.2.1, hk_.1.2.2.2.2.2.2.2.2.2.2.2.1, hk_.1.2.2.2.2.2.2.2.2.2.2.2.2.1, hk_.1.2.2.2.2.2.2.2.2.2.2.2.2.2.1, hk_.1.2.2.2.2.2.2.2.2.2.2.2.2.2.2⟩)); replace HO388 := Zm (Kd.R_mono (ok' := fun k_ => Zn k_ v378 ∧ Zn k_ v381 ∧ Zn k_ v384 ∧ Zn k_ (.slice Ao54 t389.length co54) ∧ Zn k_ (.slice Ao56 t392.length co56) ∧ Zn k_ (.slice Ao62 t397.length co62) ∧ Zn k_ (.slice Ao67 t400.length co67) ∧ Zn k_ (.slice Ao72 t404.length co72) ∧ Zn k_ (.slice Ao78 t407.length co78) ∧ Zn k_ (.slice Ao82 t411.length co82) ∧ Zn k_ (.slice Ao89 t414.length co89) ∧ Zn k_ (.slice Ao94 t420.length co94) ∧ Zn k_ (.slice Ao95 t423.length co95) ∧ Zn k_ (.slice Ao99 t427.length co99) ∧ Zn k_ (.slice Ao100 t430.length co100)) (Kd.R_keptB (HO388.out) hkp (fun k_ hk_ hs_ => Or.elim hs_ (fun e_ => (hk_.2.2.2.2.2.2.2.1) e_) (fun e_ => (hk_.2.2.2.2.2.2.2.2.1) e_))) (fun k_ hk_ => ⟨hk_.1.1, hk_.1.2.1, hk_.1.2.2.1, hk_.1.2.2.2.1, hk_.1.2.2.2.2.1, hk_.1.2.2.2.2.2.1, hk_.1.2.2.2.2.2.2.1, hk_.1.2.2.2.2.2.2.2.1, hk_.1.2.2.2.2.2.2.2.2.1, hk_.1.2.2.2.2.2.2.2.2.2.1, hk_.1.2.2.2.2.2.2.2.2.2.2.1, hk_.1.2.2.2.2.2.2.2.2.2.2.2.1, hk_.1.2.2.2.2.2.2.2.2.2.2.2.2.1, hk_.1.2.2.2.2.2.2.2.2.2.2.2.2.2.1, hk_.1.2.2.2.2.2.2.2.2.2.2.2.2.2.2⟩)); replace HO391 := Zm (Kd.R_mono (ok' := fun k_ => Zn k_ v378 ∧ Zn k_ v381 ∧ Zn k_ v384 ∧ Zn k_ v387 ∧ Zn k_ (.slice Ao56 t392.length co56) ∧ Zn k_ (.slice Ao62 t397.length co62) ∧ Zn k_ (.slice Ao67 t400.length co67) ∧ Zn k_ (.slice Ao72 t404.length co72) ∧ Zn k_ (.slice Ao78 t407.length co78) ∧ Zn k_ (.slice Ao82 t411.length co82) ∧ Zn k_ (.slice Ao89 t414.length co89) ∧ Zn k_ (.slice Ao94 t420.length co94) ∧ Zn k_ (.slice Ao95 t423.length co95) ∧ Zn k_ (.slice Ao99 t427.length co99) ∧ Zn k_ (.slice Ao100 t430.length co100)) (Kd.R_keptB (HO391.out) hkp (fun k_ hk_ hs_ => Or.elim hs_ (fun e_ => (hk_.2.2.2.2.2.2.2.1) e_) (fun e_ => (hk_.2.2.2.2.2.2.2.2.1) e_))) (fun k_ hk_ => ⟨hk_.1.1, hk_.1.2.1, hk_.1.2.2.1, hk_.1.2.2.2.1, hk_.1.2.2.2.2.1, hk_.1.2.2.2.2.2.1, hk_.1.2.2.2.2.2.2.1, hk_.1.2.2.2.2.2.2.2.1, hk_.1.2.2.2.2.2.2.2.2.1, hk_.1.2.2.2.2.2.2.2.2.2.1, hk_.1.2.2.2.2.2.2.2.2.2.2.1, hk_.1.2.2.2.2.2.2.2.2.2.2.2.1, hk_.1.2.2.2.2.2.2.2.2.2.2.2.2.1, hk_.1.2.2.2.2.2.2.2.2.2.2.2.2.2.1, hk_.1.2.2.2.2.2.2.2.2.2.2.2.2.2.2⟩)); replace HO394 := Zm (Kd.R_mono (ok' := fun k_ => Zn k_ v378 ∧ Zn k_ v381 ∧ Zn k_ v384 ∧ Zn k_ v387 ∧ Zn k_ (.slice Ao54 t389.length co54) ∧ Zn k_ (.slice Ao62 t397.length co62) ∧ Zn k_ (.slice Ao67 t400.length co67) ∧ Zn k_ (.slice Ao72 t404.length co72) ∧ Zn k_ (.slice Ao78 t407.length co78) ∧ Zn k_ (.slice Ao82 t411.length co82) ∧ Zn k_ (.slice Ao89 t414.length co89) ∧ Zn k_ (.slice Ao94 t420.length co94) ∧ Zn k_ (.slice Ao95 t423.length co95) ∧ Zn k_ (.slice Ao99 t427.length co99) ∧ Zn k_ (.slice Ao100 t430.length co100)) (Kd.R_keptB (HO394.out) hkp (fun k_ hk_ hs_ => Or.elim hs_ (fun e_ => (hk_.2.2.2.2.2.2.2.1) e_) (fun e_ => (hk_.2.2.2.2.2.2.2.2.1) e_))) (fun k_ hk_ => ⟨hk_.1.1, hk_.1.2.1, hk_.1.2.2.1, hk_.1.2.2.2.1, hk_.1.2.2.2.2.1, hk_.1.2.2.2.2.2.1, hk_.1.2.2.2.2.2.2.1, hk_.1.2.2.2.2.2.2.2.1, hk_.1.2.2.2.2.2.2.2.2.1, hk_.1.2.2.2.2.2.2.2.2.2.1, hk_.1.2.2.2.2.2.2.2.2.2.2.1, hk_.1.2.2.2.2.2.2.2.2.2.2.2.1, hk_.1.2.2.2.2.2.2.2.2.2.2.2.2.1, hk_.1.2.2.2.2.2.2.2.2.2.2.2.2.2.1, hk_.1.2.2.2.2.2.2.2.2.2.2.2.2.2.2⟩)); replace BK396 := Zm (blk_kept (Zb BK396) hkp (fun hs_ => Or.elim hs_ (fun e_ => (fun e_ => (Kd.R_ne HO406.out BK396.out (by decide)) e_) e_) (fun e_ => (fun e_ => (Kd.R_ne HO409.out BK396.out (by decide)) e_) e_))); replace HO399 := Zm (Kd.R_mono (ok' := fun k_ => Zn k_ v378 ∧ Zn k_ v381 ∧ Zn k_ v384 ∧ Zn k_ v387 ∧ Zn k_ (.slice Ao54 t389.length co54) ∧ Zn k_ (.slice Ao56 t392.length co56) ∧ Zn k_ (.slice Ao67 t400.length co67) ∧ Zn k_ (.slice Ao72 t404.length co72) ∧ Zn k_ (.slice Ao78 t407.length co78) ∧ Zn k_ (.slice Ao82 t411.length co82) ∧ Zn k_ (.slice Ao89 t414.length co89) ∧ Zn k_ (.slice Ao94 t420.length co94) ∧ Zn k_ (.slice Ao95 t423.length co95) ∧ Zn k_ (.slice Ao99 t427.length co99) ∧ Zn k_ (.slice Ao100 t430.length co100)) (Kd.R_keptB (HO399.out) hkp (fun k_ hk_ hs_ => Or.elim hs_ (fun e_ => (hk_.1.1.1.1.1.1.1.2) e_) (fun e_ => (hk_.1.1.1.1.1.1.2) e_))) (fun k_ hk_ => ⟨hk_.1.1.1.1.1.1.1.1.1.1.1.1.1.1.2, hk_.1.1.1.1.1.1.1.1.1.1.1.1.1.2, hk_.1.1.1.1.1.1.1.1.1.1.1.1.2, hk_.1.1.1.1.1.1.1.1.1.1.1.2, hk_.1.1.1.1.1.1.1.1.1.1.2, hk_.1.1.1.1.1.1.1.1.1.2, hk_.1.1.1.1.1.1.1.1.1.1.1.1.1.1.1, hk_.1.1.1.1.1.1.1.1.2, hk_.1.1.1.1.1.1.1.2, hk_.1.1.1.1.1.1.2, hk_.1.1.1.1.1.2, hk_.1.1.1.1.2, hk_.1.1.1.2, hk_.1.1.2, hk_.1.2⟩)); replace HO402 := Zm (Kd.R_mono (ok' := fun k_ => Zn k_ v378 ∧ Zn k_ v381 ∧ Zn k_ v384 ∧ Zn k_ v387 ∧ Zn k_ (.slice Ao54 t389.length co54) ∧ Zn k_ (.slice Ao56 t392.length co56) ∧ Zn k_ (.slice Ao62 t397.length co62) ∧ Zn k_ (.slice Ao72 t404.length co72) ∧ Zn k_ (.slice Ao78 t407.length co78) ∧ Zn k_ (.slice Ao82 t411.length co82) ∧ Zn k_ (.slice Ao89 t414.length co89) ∧ Zn k_ (.slice Ao94 t420.length co94) ∧ Zn k_ (.slice Ao95 t423.length co95) ∧ Zn k_ (.slice Ao99 t427.length co99) ∧ Zn k_ (.slice Ao100 t430.length co100)) (Kd.R_keptB (HO402.out) hkp (fun k_ hk_ hs_ => Or.elim hs_ (fun e_ => (hk_.1.1.1.1.1.1.1.2) e_) (fun e_ => (hk_.1.1.1.1.1.1.2) e_))) (fun k_ hk_ => ⟨hk_.1.1.1.1.1.1.1.1.1.1.1.1.1.1.2, hk_.1.1.1.1.1.1.1.1.1.1.1.1.1.2, hk_.1.1.1.1.1.1.1.1.1.1.1.1.2, hk_.1.1.1.1.1.1.1.1.1.1.1.2, hk_.1.1.1.1.1.1.1.1.1.1.2, hk_.1.1.1.1.1.1.1.1.1.2, hk_.1.1.1.1.1.1.1.1.1.1.1.1.1.1.1, hk_.1.1.1.1.1.1.1.1.2, hk_.1.1.1.1.1.1.1.2, hk_.1.1.1.1.1.1.2, hk_.1.1.1.1.1.2, hk_.1.1.1.1.2, hk_.1.1.1.2, hk_.1.1.2, hk_.1.2⟩)); replace BK403 := Zm (blk_kept (Zb BK403) hkp (fun hs_ => Or.elim hs_ (fun e_ => (fun e_ => (Kd.R_ne HO406.out BK403.out (by decide)) e_) e_) (fun e_ => (fun e_ => (Kd.R_ne HO409.out BK403.out (by decide)) e_) e_))); replace BK410 := Zm (blk_kept (Zb BK410) hkp (fun hs_ => Or.elim hs_ (fun e_ => (fun e_ => (Kd.R_ne HO406.out BK410.out (by decide)) e_) e_) (fun e_ => (fun e_ => (Kd.R_ne HO409.out BK410.out (by decide)) e_) e_))); replace HO413 := Zm (Kd.R_mono (ok' := fun k_ => Zn k_ v378 ∧ Zn k_ v381 ∧ Zn k_ v384 ∧ Zn k_ v387 ∧ Zn k_ (.slice Ao54 t389.length co54) ∧ Zn k_ (.slice Ao56 t392.length co56) ∧ Zn k_ (.slice Ao62 t397.length co62) ∧ Zn k_ (.slice Ao67 t400.length co67) ∧ Zn k_ (.slice Ao72 t404.length co72) ∧ Zn k_ (.slice Ao78 t407.length co78) ∧ Zn k_ (.slice Ao89 t414.length co89) ∧ Zn k_ (.slice Ao94 t420.length co94) ∧ Zn k_ (.slice Ao95 t423.length co95) ∧ Zn k_ (.slice Ao99 t427.length co99) ∧ Zn k_ (.slice Ao100 t430.length co100)) (Kd.R_keptB (HO413.out) hkp (fun k_ hk_ hs_ => Or.elim hs_ (fun e_ => (hk_.2.2.2.2.2.2.2.2.1) e_) (fun e_ => (hk_.2.2.2.2.2.2.2.2.2.1) e_))) (fun k_ hk_ => ⟨hk_.1.1, hk_.1.2.1, hk_.1.2.2.1, hk_.1.2.2.2.1, hk_.1.2.2.2.2.1, hk_.1.2.2.2.2.2.1, hk_.1.2.2.2.2.2.2.1, hk_.1.2.2.2.2.2.2.2.1, hk_.1.2.2.2.2.2.2.2.2.1, hk_.1.2.2.2.2.2.2.2.2.2.1, hk_.1.2.2.2.2.2.2.2.2.2.2.1, hk_.1.2.2.2.2.2.2.2.2.2.2.2.1, hk_.1.2.2.2.2.2.2.2.2.2.2.2.2.1, hk_.1.2.2.2.2.2.2.2.2.2.2.2.2.2.1, hk_.1.2.2.2.2.2.2.2.2.2.2.2.2.2.2⟩)); replace HO416 := Zm (Kd.R_mono (ok' := fun k_ => Zn k_ v378 ∧ Zn k_ v381 ∧ Zn k_ v384 ∧ Zn k_ v387 ∧ Zn k_ (.slice Ao54 t389.length co54) ∧ Zn k_ (.slice Ao56 t392.length co56) ∧ Zn k_ (.slice Ao62 t397.length co62) ∧ Zn k_ (.slice Ao67 t400.length co67) ∧ Zn k_ (.slice Ao72 t404.length co72) ∧ Zn k_ (.slice Ao78 t407.length co78) ∧ Zn k_ (.slice Ao82 t411.length co82) ∧ Zn k_ (.slice Ao94 t420.length co94) ∧ Zn k_ (.slice Ao95 t423.length co95) ∧ Zn k_ (.slice Ao99 t427.length co99) ∧ Zn k_ (.slice Ao100 t430.length co100)) (Kd.R_keptB (HO416.out) hkp (fun k_ hk_ hs_ => Or.elim hs_ (fun e_ => (hk_.2.2.2.2.2.2.2.2.1) e_) (fun e_ => (hk_.2.2.2.2.2.2.2.2.2.1) e_))) (fun k_ hk_ => ⟨hk_.1.1, hk_.1.2.1, hk_.1.2.2.1, hk_.1.2.2.2.1, hk_.1.2.2.2.2.1, hk_.1.2.2.2.2.2.1, hk_.1.2.2.2.2.2.2.1, hk_.1.2.2.2.2.2.2.2.1, hk_.1.2.2.2.2.2.2.2.2.1, hk_.1.2.2.2.2.2.2.2.2.2.1, hk_.1.2.2.2.2.2.2.2.2.2.2.1, hk_.1.2.2.2.2.2.2.2.2.2.2.2.1, hk_.1.2.2.2.2.2.2.2.2.2.2.2.2.1, hk_.1.2.2.2.2.2.2.2.2.2.2.2.2.2.1, hk_.1.2.2.2.2.2.2.2.2.2.2.2.2.2.2⟩)); replace BK418 := Zm (blk_kept (Zb BK418) hkp (fun hs_ => Or.elim hs_ (fun e_ => (fun e_ => (Kd.R_ne HO406.out BK418.out (by decide)) e_) e_) (fun e_ => (fun e_ => (Kd.R_ne HO409.out BK418.out (by decide)) e_) e_))); replace HO406 := Zm (Kd.R_reok rfl hy0 (fun k_ e_ => HO406.out.1 k_ e_)); replace HO409 := Zm (Kd.R_reok rfl hy1 (fun k_ e_ => HO409.out.1 k_ e_)); replace HO422 := Zm (Kd.R_mono (ok' := fun k_ => Zn k_ v378 ∧ Zn k_ v381 ∧ Zn k_ v384 ∧ Zn k_ v387 ∧ Zn k_ (.slice Ao54 t389.length co54) ∧ Zn k_ (.slice Ao56 t392.length co56) ∧ Zn k_ (.slice Ao62 t397.length co62) ∧ Zn k_ (.slice Ao67 t400.length co67) ∧ Zn k_ (.slice Ao72 t404.length co72) ∧ Zn k_ (.slice Ao78 t407.length co78) ∧ Zn k_ (.slice Ao82 t411.length co82) ∧ Zn k_ (.slice Ao89 t414.length co89) ∧ Zn k_ (.slice Ao95 t423.length co95) ∧ Zn k_ (.slice Ao99 t427.length co99) ∧ Zn k_ (.slice Ao100 t430.length co100)) (Kd.R_keptB (HO422.out) hkp (fun k_ hk_ hs_ => Or.elim hs_ (fun e_ => (hk_.2.2.2.2.2.2.2.2.1) e_) (fun e_ => (hk_.2.2.2.2.2.2.2.2.2.1) e_))) (fun k_ hk_ => ⟨hk_.1.1, hk_.1.2.1, hk_.1.2.2.1, hk_.1.2.2.2.1, hk_.1.2.2.2.2.1, hk_.1.2.2.2.2.2.1, hk_.1.2.2.2.2.2.2.1, hk_.1.2.2.2.2.2.2.2.1, hk_.1.2.2.2.2.2.2.2.2.1, hk_.1.2.2.2.2.2.2.2.2.2.1, hk_.1.2.2.2.2.2.2.2.2.2.2.1, hk_.1.2.2.2.2.2.2.2.2.2.2.2.1, hk_.1.2.2.2.2.2.2.2.2.2.2.2.2.1, hk_.1.2.2.2.2.2.2.2.2.2.2.2.2.2.1, hk_.1.2.2.2.2.2.2.2.2.2.2.2.2.2.2⟩)); replace HO425 := Zm (Kd.R_mono (ok' := fun k_ => Zn k_ v378 ∧ Zn k_ v381 ∧ Zn k_ v384 ∧ Zn k_ v387 ∧ Zn k_ (.slice Ao54 t389.length co54) ∧ Zn k_ (.slice Ao56 t392.length co56) ∧ Zn k_ (.slice Ao62 t397.length co62) ∧ Zn k_ (.slice Ao67 t400.length co67) ∧ Zn k_ (.slice Ao72 t404.length co72) ∧ Zn k_ (.slice Ao78 t407.length co78) ∧ Zn k_ (.slice Ao82 t411.length co82) ∧ Zn k_ (.slice Ao89 t414.length co89) ∧ Zn k_ (.slice Ao94 t420.length co94) ∧ Zn k_ (.slice Ao99 t427.length co99) ∧ Zn k_ (.slice Ao100 t430.length co100)) (Kd.R_keptB (HO425.out) hkp (fun k_ hk_ hs_ => Or.elim hs_ (fun e_ => (hk_.2.2.2.2.2.2.2.2.1) e_) (fun e_ => (hk_.2.2.2.2.2.2.2.2.2.1) e_))) (fun k_ hk_ => ⟨hk_.1.1, hk_.1.2.1, hk_.1.2.2.1, hk_.1.2.2.2.1, hk_.1.2.2.2.2.1, hk_.1.2.2.2.2.2.1, hk_.1.2.2.2.2.2.2.1, hk_.1.2.2.2.2.2.2.2.1, hk_.1.2.2.2.2.2.2.2.2.1, hk_.1.2.2.2.2.2.2.2.2.2.1, hk_.1.2.2.2.2.2.2.2.2.2.2.1, hk_.1.2.2.2.2.2.2.2.2.2.2.2.1, hk_.1.2.2.2.2.2.2.2.2.2.2.2.2.1, hk_.1.2.2.2.2.2.2.2.2.2.2.2.2.2.1, hk_.1.2.2.2.2.2.2.2.2.2.2.2.2.2.2⟩)); replace HO429 := Zm (Kd.R_mono (ok' := fun k_ => Zn k_ v378 ∧ Zn k_ v381 ∧ Zn k_ v384 ∧ Zn k_ v387 ∧ Zn k_ (.slice Ao54 t389.length co54) ∧ Zn k_ (.slice Ao56 t392.length co56) ∧ Zn k_ (.slice Ao62 t397.length co62) ∧ Zn k_ (.slice Ao67 t400.length co67) ∧ Zn k_ (.slice Ao72 t404.length co72) ∧ Zn k_ (.slice Ao78 t407.length co78) ∧ Zn k_ (.slice Ao82 t411.length co82) ∧ Zn k_ (.slice Ao89 t414.length co89) ∧ Zn k_ (.slice Ao94 t420.length co94) ∧ Zn k_ (.slice Ao95 t423.length co95) ∧ Zn k_ (.slice Ao100 t430.length co100)) (Kd.R_keptB (HO429.out) hkp (fun k_ hk_ hs_ => Or.elim hs_ (fun e_ => (hk_.2.2.2.2.2.2.2.2.1) e_) (fun e_ => (hk_.2.2.2.2.2.2.2.2.2.1) e_))) (fun k_ hk_ => ⟨hk_.1.1, hk_.1.2.1, hk_.1.2.2.1, hk_.1.2.2.2.1, hk_.1.2.2.2.2.1, hk_.1.2.2.2.2.2.1, hk_.1.2.2.2.2.2.2.1, hk_.1.2.2.2.2.2.2.2.1, hk_.1.2.2.2.2.2.2.2.2.1, hk_.1.2.2.2.2.2.2.2.2.2.1, hk_.1.2.2.2.2.2.2.2.2.2.2.1, hk_.1.2.2.2.2.2.2.2.2.2.2.2.1, hk_.1.2.2.2.2.2.2.2.2.2.2.2.2.1, hk_.1.2.2.2.2.2.2.2.2.2.2.2.2.2.1, hk_.1.2.2.2.2.2.2.2.2.2.2.2.2.2.2⟩)); replace HO432 := Zm (Kd.R_mono (ok' := fun k_ => Zn k_ v378 ∧ Zn k_ v381 ∧ Zn k_ v384 ∧ Zn k_ v387 ∧ Zn k_ (.slice Ao54 t389.length co54) ∧ Zn k_ (.slice Ao56 t392.length co56) ∧ Zn k_ (.slice Ao62 t397.length co62) ∧ Zn k_ (.slice Ao67 t400.length co67) ∧ Zn k_ (.slice Ao72 t404.length co72) ∧ Zn k_ (.slice Ao78 t407.length co78) ∧ Zn k_ (.slice Ao82 t411.length co82) ∧ Zn k_ (.slice Ao89 t414.length co89) ∧ Zn k_ (.slice Ao94 t420.length co94) ∧ Zn k_ (.slice Ao95 t423.length co95) ∧ Zn k_ (.slice Ao99 t427.length co99)) (Kd.R_keptB (HO432.out) hkp (fun k_ hk_ hs_ => Or.elim hs_ (fun e_ => (hk_.2.2.2.2.2.2.2.2.1) e_) (fun e_ => (hk_.2.2.2.2.2.2.2.2.2.1) e_))) (fun k_ hk_ => ⟨hk_.1.1, hk_.1.2.1, hk_.1.2.2.1, hk_.1.2.2.2.1, hk_.1.2.2.2.2.1, hk_.1.2.2.2.2.2.1, hk_.1.2.2.2.2.2.2.1, hk_.1.2.2.2.2.2.2.2.1, hk_.1.2.2.2.2.2.2.2.2.1, hk_.1.2.2.2.2.2.2.2.2.2.1, hk_.1.2.2.2.2.2.2.2.2.2.2.1, hk_.1.2.2.2.2.2.2.2.2.2.2.2.1, hk_.1.2.2.2.2.2.2.2.2.2.2.2.2.1, hk_.1.2.2.2.2.2.2.2.2.2.2.2.2.2.1, hk_.1.2.2.2.2.2.2.2.2.2.2.2.2.2.2⟩)); replace HB := Zm (hb); (try clear hb); (try clear hkp); (try clear hy0); (try clear hy1)))
       (try simp only [Act.put, List.setIfInBounds_toArray, List.set_cons_zero, List.set_cons_succ])
       go_cut [82] (fun v82 wc => ∃ (kq : Nat) (x82_35 : Bool), v82 = .bool x82_35 ∧ Aside0 (laws_FnExactThenTurned.j0 kq t395 x82_35 l0_0 l0_1 l1_0 l1_1 t389 t392 t411 t414 = some r) ∧ Aside0 (kq ≤ k) ∧ Aside0 (Kd.R (Kd.int .i64) 3 wc w.heap.size (fun k_ => Zn k_ (.slice Ao56 t392.length co56) ∧ Zn k_ (.slice Ao62 t397.length co62) ∧ Zn k_ (.slice Ao67 t400.length co67) ∧ Zn k_ (.slice Ao72 t404.length co72) ∧ Zn k_ (.slice Ao78 t407.length co78) ∧ Zn k_ (.slice Ao82 t411.length co82) ∧ Zn k_ (.slice Ao89 t414.length co89)) (.slice Ao54 t389.length co54) t389) ∧ Aside0 (Kd.R (Kd.int .i64) 3 wc w.heap.size (fun k_ => Zn k_ (.slice Ao54 t389.length co54) ∧ Zn k_ (.slice Ao62 t397.length co62) ∧ Zn k_ (.slice Ao67 t400.length co67) ∧ Zn k_ (.slice Ao72 t404.length co72) ∧ Zn k_ (.slice Ao78 t407.length co78) ∧ Zn k_ (.slice Ao82 t411.length co82) ∧ Zn k_ (.slice Ao89 t414.length co89)) (.slice Ao56 t392.length co56) t392) ∧ Aside0 (Kd.R (Kd.int .i64) 3 wc w.heap.size (fun k_ => Zn k_ (.slice Ao54 t389.length co54) ∧ Zn k_ (.slice Ao56 t392.length co56) ∧ Zn k_ (.slice Ao67 t400.length co67) ∧ Zn k_ (.slice Ao72 t404.length co72) ∧ Zn k_ (.slice Ao78 t407.length co78) ∧ Zn k_ (.slice Ao82 t411.length co82) ∧ Zn k_ (.slice Ao89 t414.length co89)) (.slice Ao62 t397.length co62) t435) ∧ Aside0 (Kd.R (Kd.int .i64) 3 wc w.heap.size (fun k_ => Zn k_ (.slice Ao54 t389.length co54) ∧ Zn k_ (.slice Ao56 t392.length co56) ∧ Zn k_ (.slice Ao62 t397.length co62) ∧ Zn k_ (.slice Ao72 t404.length co72) ∧ Zn k_ (.slice Ao78 t407.length co78) ∧ Zn k_ (.slice Ao82 t411.length co82) ∧ Zn k_ (.slice Ao89 t414.length co89)) (.slice Ao67 t400.length co67) t436) ∧ Aside0 (Kd.R (Kd.int .i64) 3 wc w.heap.size (fun k_ => Zn k_ (.slice Ao54 t389.length co54) ∧ Zn k_ (.slice Ao56 t392.length co56) ∧ Zn k_ (.slice Ao62 t397.length co62) ∧ Zn k_ (.slice Ao67 t400.length co67) ∧ Zn k_ (.slice Ao78 t407.length co78) ∧ Zn k_ (.slice Ao82 t411.length co82) ∧ Zn k_ (.slice Ao89 t414.length co89)) (.slice Ao72 t404.length co72) t438) ∧ Aside0 (Kd.R (Kd.int .i64) 3 wc w.heap.size (fun k_ => Zn k_ (.slice Ao54 t389.length co54) ∧ Zn k_ (.slice Ao56 t392.length co56) ∧ Zn k_ (.slice Ao62 t397.length co62) ∧ Zn k_ (.slice Ao67 t400.length co67) ∧ Zn k_ (.slice Ao72 t404.length co72) ∧ Zn k_ (.slice Ao82 t411.length co82) ∧ Zn k_ (.slice Ao89 t414.length co89)) (.slice Ao78 t407.length co78) t439) ∧ Aside0 (Kd.R (Kd.int .i64) 3 wc w.heap.size (fun k_ => Zn k_ (.slice Ao54 t389.length co54) ∧ Zn k_ (.slice Ao56 t392.length co56) ∧ Zn k_ (.slice Ao62 t397.length co62) ∧ Zn k_ (.slice Ao67 t400.length co67) ∧ Zn k_ (.slice Ao72 t404.length co72) ∧ Zn k_ (.slice Ao78 t407.length co78) ∧ Zn k_ (.slice Ao89 t414.length co89)) (.slice Ao82 t411.length co82) t411) ∧ Aside0 (Kd.R (Kd.int .i64) 3 wc w.heap.size (fun k_ => Zn k_ (.slice Ao54 t389.length co54) ∧ Zn k_ (.slice Ao56 t392.length co56) ∧ Zn k_ (.slice Ao62 t397.length co62) ∧ Zn k_ (.slice Ao67 t400.length co67) ∧ Zn k_ (.slice Ao72 t404.length co72) ∧ Zn k_ (.slice Ao78 t407.length co78) ∧ Zn k_ (.slice Ao82 t411.length co82)) (.slice Ao89 t414.length co89) t414) ∧ Aside0 (wc.heap[gb373]? = some (.cells #[(.slice A0_0 l0_0.length c0_0), (.slice A0_1 l0_1.length c0_1)] 34 (0, 0))) ∧ Aside0 (wc.heap[gb374]? = some (.cells #[(.slice A1_0 l1_0.length c1_0), (.slice A1_1 l1_1.length c1_1)] 34 (0, 0))) ∧ Aside0 (wc.heap[gb396]? = some (.cells #[(.slice Ao54 t389.length co54), (.slice Ao56 t392.length co56)] 36 (0, 0))) ∧ Aside0 (wc.heap[gb403]? = some (.cells #[(.slice Ao62 t397.length co62), (.slice Ao67 t400.length co67)] 36 (0, 0))) ∧ Aside0 (wc.heap[gb410]? = some (.cells #[(.slice Ao72 t404.length co72), (.slice Ao78 t407.length co78)] 36 (0, 0))) ∧ Aside0 (wc.heap[gb418]? = some (.cells #[(.slice Ao82 t411.length co82), (.slice Ao89 t414.length co89)] 36 (0, 0))) ∧ Aside0 (Below w.heap.size w wc))
       case first =>
        have H := HC36.out; clear HC36
        by_cases c106 : t437 < 0
        ·
         rw [if_pos c106] at H
         have c106b0 : decide (t437 < 0) = true := decide_eq_true c106; clear c106
         (first | rw [c106b0] | (simp only [i64_w, i32_w]; rw [c106b0]) | skip)
         have H' := Aside0.mk H; clear H
         go_wp2
         go_meet
         case rel => exact ⟨_, (true), (by first | rfl | (simp; done) | (simp [*]; done)), H', ⟨by first | omega | exact Nat.le_refl _⟩, ⟨Zc HO391⟩, ⟨Zc HO394⟩, ⟨Zc HO399⟩, ⟨Zc HO402⟩, ⟨Zc HO406⟩, ⟨Zc HO409⟩, ⟨Zc HO413⟩, ⟨Zc HO416⟩, ⟨Zb BK373⟩, ⟨Zb BK374⟩, ⟨Zb BK396⟩, ⟨Zb BK403⟩, ⟨Zb BK410⟩, ⟨Zb BK418⟩, ⟨by repeat (first | (with_reducible first | exact HB.out | apply below_alloc | apply pw_below_drewN | apply below_drew1 | refine below_set ?_ GE373.out | refine below_set ?_ GE374.out | refine below_set ?_ GE396.out | refine below_set ?_ GE403.out | refine below_set ?_ GE410.out | refine below_set ?_ GE418.out) | exact HB.out)⟩⟩
        ·
         rw [if_neg c106] at H
         have c106b0 : decide (t437 < 0) = false := decide_eq_false c106; clear c106
         (first | rw [c106b0] | (simp only [i64_w, i32_w]; rw [c106b0]) | skip)
         replace H := Option.bind_eq_some_iff.mp H
         obtain ⟨t440, A1070, H⟩ := H
         replace H : (if t440 = true then (laws_FnExactThenTurned.j0 k t395 (t417 != t395) l0_0 l0_1 l1_0 l1_1 t389 t392 t411 t414) else (none)) = some r := H
         have A107 := Aside0.mk A1070; clear A1070
         by_cases c108 : t440 = true
         ·
          subst c108
          have H1 : (laws_FnExactThenTurned.j0 k t395 (t417 != t395) l0_0 l0_1 l1_0 l1_1 t389 t392 t411 t414) = some r := by rw [if_pos rfl] at H; exact H
          clear H; have H := H1; clear H1; have H' := Aside0.mk H; clear H; have hnb109 := NB418_373.out; have hnc109 := NB373_418.out; have hnb110 := NB418_374.out; have hnc110 := NB374_418.out; have hnb111 := NB418_396.out; have hnc111 := NB396_418.out; have hnb112 := NB418_403.out; have hnc112 := NB403_418.out; have hnb113 := NB418_410.out; have hnc113 := NB410_418.out; have hcz114_0 : w105.cell? ⟨gb418, 0, none⟩ = some (.slice Ao82 t411.length co82) := (blk_cell BK418.out 0).trans rfl; have hcz114_1 : w105.cell? ⟨gb418, 1, none⟩ = some (.slice Ao89 t414.length co89) := (blk_cell BK418.out 1).trans rfl; have hfz114_0 := blk_frozen BK418.out 0; have hfz114_1 := blk_frozen BK418.out 1; have hnb115 := NB396_373.out; have hnc115 := NB373_396.out; have hnb116 := NB396_374.out; have hnc116 := NB374_396.out; have hnb117 := NB396_403.out; have hnc117 := NB403_396.out; have hnb118 := NB396_410.out; have hnc118 := NB410_396.out; have hcz119_0 : w105.cell? ⟨gb396, 0, none⟩ = some (.slice Ao54 t389.length co54) := (blk_cell BK396.out 0).trans rfl; have hcz119_1 : w105.cell? ⟨gb396, 1, none⟩ = some (.slice Ao56 t392.length co56) := (blk_cell BK396.out 1).trans rfl; have hfz119_0 := blk_frozen BK396.out 0; have hfz119_1 := blk_frozen BK396.out 1
          go_wp2_with (first | (go_at_call 20; (with_reducible refine (laws_eqTurned.calls k _ _ t411 _ _ t414 _ _ t389 _ _ t392 true _ ?side1 ?side2 ?side3 ?side4 ?side5 ?side6 ?side7 ?side8 A107.out).mono ?_); (case side1 => repeat (first | exact (Kd.R_reads' HO413.out).2.2 | (with_reducible refine Kd.C_alloc ?_ _) | (with_reducible refine Kd.C_drewN ?_ _) | (with_reducible refine Kd.C_drew ?_))); (case side2 => exact (Kd.R_reads' HO413.out).2.1); (case side3 => repeat (first | exact (Kd.R_reads' HO416.out).2.2 | (with_reducible refine Kd.C_alloc ?_ _) | (with_reducible refine Kd.C_drewN ?_ _) | (with_reducible refine Kd.C_drew ?_))); (case side4 => exact (Kd.R_reads' HO416.out).2.1); (case side5 => repeat (first | exact (Kd.R_reads' HO391.out).2.2 | (with_reducible refine Kd.C_alloc ?_ _) | (with_reducible refine Kd.C_drewN ?_ _) | (with_reducible refine Kd.C_drew ?_))); (case side6 => exact (Kd.R_reads' HO391.out).2.1); (case side7 => repeat (first | exact (Kd.R_reads' HO394.out).2.2 | (with_reducible refine Kd.C_alloc ?_ _) | (with_reducible refine Kd.C_drewN ?_ _) | (with_reducible refine Kd.C_drew ?_))); (case side8 => exact (Kd.R_reads' HO394.out).2.1); rintro e w120 ⟨rfl, hb⟩; replace HO379 := Zo HO379 hb; replace HO382 := Zo HO382 hb; replace HO385 := Zo HO385 hb; replace HO388 := Zo HO388 hb; replace HO391 := Zo HO391 hb; replace HO394 := Zo HO394 hb; replace HO399 := Zo HO399 hb; replace HO402 := Zo HO402 hb; replace HO406 := Zo HO406 hb; replace HO409 := Zo HO409 hb; replace HO413 := Zo HO413 hb; replace HO416 := Zo HO416 hb; replace HO422 := Zo HO422 hb; replace HO425 := Zo HO425 hb; replace HO429 := Zo HO429 hb; replace HO432 := Zo HO432 hb; replace BK373 := Zk BK373 hb; replace BK374 := Zk BK374 hb; replace BK396 := Zk BK396 hb; replace BK403 := Zk BK403 hb; replace BK410 := Zk BK410 hb; replace BK418 := Zk BK418 hb; replace HB := Zh HB hb; (try clear hb); (try clear hb2); (try clear hk); (try clear hi)))
          go_meet
          case rel => exact ⟨_, ((t417 != t395)), (by first | rfl | (simp; done) | (simp [*]; done)), H', ⟨by first | omega | exact Nat.le_refl _⟩, ⟨Zc HO391⟩, ⟨Zc HO394⟩, ⟨Zc HO399⟩, ⟨Zc HO402⟩, ⟨Zc HO406⟩, ⟨Zc HO409⟩, ⟨Zc HO413⟩, ⟨Zc HO416⟩, ⟨Zb BK373⟩, ⟨Zb BK374⟩, ⟨Zb BK396⟩, ⟨Zb BK403⟩, ⟨Zb BK410⟩, ⟨Zb BK418⟩, ⟨by repeat (first | (with_reducible first | exact HB.out | apply below_alloc | apply pw_below_drewN | apply below_drew1 | refine below_set ?_ GE373.out | refine below_set ?_ GE374.out | refine below_set ?_ GE396.out | refine below_set ?_ GE403.out | refine below_set ?_ GE410.out | refine below_set ?_ GE418.out) | exact HB.out)⟩⟩
         ·
          replace c108 := Bool.eq_false_iff.mpr c108
          subst c108
          have H1 : (none) = some r := by rw [if_neg (show ¬ (false = true) by decide)] at H; exact H
          clear H; have H := H1; clear H1
          exact absurd H (by simp)
       case rest =>
        clear HC36; try clear c1; try clear c2; try clear p2; try clear c10; try clear c11; try clear c18; try clear c20; try clear c21; try clear c106; try clear c106b0; try clear c108; try clear c109; try clear c110; try clear c111; try clear c112; try clear c113; try clear c115; try clear c116; try clear c117; try clear c118; try clear hcz102_0; try clear hcz102_1; try clear hcz104_0; try clear hcz104_1; try clear hcz114_0; try clear hcz114_1; try clear hcz119_0; try clear hcz119_1; try clear hfz102_0; try clear hfz102_1; try clear hfz104_0; try clear hfz104_1; try clear hfz114_0; try clear hfz114_1; try clear hfz119_0; try clear hfz119_1
        obtain ⟨kq, x82_35, rfl, HA, HJ35, HO_397000, HO_397001, HO_404000, HO_404001, HO_411000, HO_411001, HO_419000, HO_419001, BK373, BK374, BK396, BK403, BK410, BK418, HB⟩ := hcut
        have hl404000_35 := (Kd.R_reads' HO_404000.out).1
        rw [hl404000_35] at HO_404000
        (try simp only [hl404000_35])
        (try simp only [hl404000_35] at BK373)
        (try simp only [hl404000_35] at BK374)
        (try simp only [hl404000_35] at BK396)
        (try simp only [hl404000_35] at BK403)
        (try simp only [hl404000_35] at BK410)
        (try simp only [hl404000_35] at BK418)
        (try simp only [hl404000_35] at HO_397000)
        (try simp only [hl404000_35] at HO_397001)
        (try simp only [hl404000_35] at HO_404001)
        (try simp only [hl404000_35] at HO_411000)
        (try simp only [hl404000_35] at HO_411001)
        (try simp only [hl404000_35] at HO_419000)
        (try simp only [hl404000_35] at HO_419001)
        have hl404001_35 := (Kd.R_reads' HO_404001.out).1
        rw [hl404001_35] at HO_404001
        (try simp only [hl404001_35])
        (try simp only [hl404001_35] at BK373)
        (try simp only [hl404001_35] at BK374)
        (try simp only [hl404001_35] at BK396)
        (try simp only [hl404001_35] at BK403)
        (try simp only [hl404001_35] at BK410)
        (try simp only [hl404001_35] at BK418)
        (try simp only [hl404001_35] at HO_397000)
        (try simp only [hl404001_35] at HO_397001)
        (try simp only [hl404001_35] at HO_404000)
        (try simp only [hl404001_35] at HO_411000)
        (try simp only [hl404001_35] at HO_411001)
        (try simp only [hl404001_35] at HO_419000)
        (try simp only [hl404001_35] at HO_419001)
        have hl411000_35 := (Kd.R_reads' HO_411000.out).1
        rw [hl411000_35] at HO_411000
        (try simp only [hl411000_35])
        (try simp only [hl411000_35] at BK373)
        (try simp only [hl411000_35] at BK374)
        (try simp only [hl411000_35] at BK396)
        (try simp only [hl411000_35] at BK403)
        (try simp only [hl411000_35] at BK410)
        (try simp only [hl411000_35] at BK418)
        (try simp only [hl411000_35] at HO_397000)
        (try simp only [hl411000_35] at HO_397001)
        (try simp only [hl411000_35] at HO_404000)
        (try simp only [hl411000_35] at HO_404001)
        (try simp only [hl411000_35] at HO_411001)
        (try simp only [hl411000_35] at HO_419000)
        (try simp only [hl411000_35] at HO_419001)
        have hl411001_35 := (Kd.R_reads' HO_411001.out).1
        rw [hl411001_35] at HO_411001
        (try simp only [hl411001_35])
        (try simp only [hl411001_35] at BK373)
        (try simp only [hl411001_35] at BK374)
        (try simp only [hl411001_35] at BK396)
        (try simp only [hl411001_35] at BK403)
        (try simp only [hl411001_35] at BK410)
        (try simp only [hl411001_35] at BK418)
        (try simp only [hl411001_35] at HO_397000)
        (try simp only [hl411001_35] at HO_397001)
        (try simp only [hl411001_35] at HO_404000)
        (try simp only [hl411001_35] at HO_404001)
        (try simp only [hl411001_35] at HO_411000)
        (try simp only [hl411001_35] at HO_419000)
        (try simp only [hl411001_35] at HO_419001)
        cases kq with
        | zero => exact absurd HA.out (by simp [laws_FnExactThenTurned.j0])
        | succ kj35 =>
         have H := HA.out; clear HA
         simp only [laws_FnExactThenTurned.j0] at H
         by_cases c121 : x82_35 = true
         ·
          subst c121
          have H1 : (none) = some r := by rw [if_pos rfl] at H; exact H
          clear H; have H := H1; clear H1
          exact absurd H (by simp)
         ·
          replace c121 := Bool.eq_false_iff.mpr c121
          subst c121
          have H1 : ((laws_markTurned.f kj35 t411 t414 1).bind fun bt441 => ((laws_heldTurned.f kj35 bt441.2.1 bt441.2.2 1).bind fun t444 => (if t444 < 0 then (none) else (if t444 = bt441.1 then ((laws_toTurned.f kj35 l0_0 l0_1).bind fun bt445 => ((laws_toTurned.f kj35 l1_0 l1_1).bind fun bt451 => ((impl_ThenTurned.f kj35 bt445.1 bt445.2 bt451.1 bt451.2).bind fun bt457 => ((laws_eqTurned.f kj35 bt457.1 bt457.2.1 t389 t392).bind fun t465 => (if t465 = true then (if (bt457.2.2 != t395) = true then (none) else ((laws_heldTurned.f kj35 bt441.2.1 bt441.2.2 1).bind fun t466 => (if t466 < 0 then (none) else (if t466 = bt441.1 then (some true) else (none))))) else (none)))))) else (none))))) = some r := by rw [if_neg (show ¬ (false = true) by decide)] at H; exact H
          clear H; have H := H1; clear H1
          replace H := Option.bind_eq_some_iff.mp H
          obtain ⟨⟨t441, t442, t443⟩, A1220, H⟩ := H
          replace H : ((laws_heldTurned.f kj35 t442 t443 1).bind fun t444 => (if t444 < 0 then (none) else (if t444 = t441 then ((laws_toTurned.f kj35 l0_0 l0_1).bind fun bt445 => ((laws_toTurned.f kj35 l1_0 l1_1).bind fun bt451 => ((impl_ThenTurned.f kj35 bt445.1 bt445.2 bt451.1 bt451.2).bind fun bt457 => ((laws_eqTurned.f kj35 bt457.1 bt457.2.1 t389 t392).bind fun t465 => (if t465 = true then (if (bt457.2.2 != t395) = true then (none) else ((laws_heldTurned.f kj35 t442 t443 1).bind fun t466 => (if t466 < 0 then (none) else (if t466 = t441 then (some true) else (none))))) else (none)))))) else (none)))) = some r := H
          have A122 := Aside0.mk A1220; clear A1220
          replace H := Option.bind_eq_some_iff.mp H
          obtain ⟨t444, A1230, H⟩ := H
          replace H : (if t444 < 0 then (none) else (if t444 = t441 then ((laws_toTurned.f kj35 l0_0 l0_1).bind fun bt445 => ((laws_toTurned.f kj35 l1_0 l1_1).bind fun bt451 => ((impl_ThenTurned.f kj35 bt445.1 bt445.2 bt451.1 bt451.2).bind fun bt457 => ((laws_eqTurned.f kj35 bt457.1 bt457.2.1 t389 t392).bind fun t465 => (if t465 = true then (if (bt457.2.2 != t395) = true then (none) else ((laws_heldTurned.f kj35 t442 t443 1).bind fun t466 => (if t466 < 0 then (none) else (if t466 = t441 then (some true) else (none))))) else (none)))))) else (none))) = some r := H
          have A123 := Aside0.mk A1230; clear A1230
          by_cases c124 : t444 < 0
          ·
           rw [if_pos c124] at H
           exact absurd H (by simp)
          ·
           rw [if_neg c124] at H
           have c124b0 : decide (t444 < 0) = false := decide_eq_false c124; clear c124
           by_cases c125 : t444 = t441
           ·
            rw [if_pos c125] at H
            have c125b0 : (t444 == t441) = true := beq_iff_eq.mpr c125; have c125b1 : (t444 != t441) = false := bne_eq_false_iff_eq.mpr c125; clear c125
            replace H := Option.bind_eq_some_iff.mp H
            obtain ⟨⟨t445, t448⟩, A1260, H⟩ := H
            replace H : ((laws_toTurned.f kj35 l1_0 l1_1).bind fun bt451 => ((impl_ThenTurned.f kj35 t445 t448 bt451.1 bt451.2).bind fun bt457 => ((laws_eqTurned.f kj35 bt457.1 bt457.2.1 t389 t392).bind fun t465 => (if t465 = true then (if (bt457.2.2 != t395) = true then (none) else ((laws_heldTurned.f kj35 t442 t443 1).bind fun t466 => (if t466 < 0 then (none) else (if t466 = t441 then (some true) else (none))))) else (none))))) = some r := H
            have A126 := Aside0.mk A1260; clear A1260
            replace H := Option.bind_eq_some_iff.mp H
            obtain ⟨⟨t451, t454⟩, A1270, H⟩ := H
            replace H : ((impl_ThenTurned.f kj35 t445 t448 t451 t454).bind fun bt457 => ((laws_eqTurned.f kj35 bt457.1 bt457.2.1 t389 t392).bind fun t465 => (if t465 = true then (if (bt457.2.2 != t395) = true then (none) else ((laws_heldTurned.f kj35 t442 t443 1).bind fun t466 => (if t466 < 0 then (none) else (if t466 = t441 then (some true) else (none))))) else (none)))) = some r := H
            have A127 := Aside0.mk A1270; clear A1270
            replace H := Option.bind_eq_some_iff.mp H
            obtain ⟨⟨t457, t460, t463⟩, A1280, H⟩ := H
            replace H : ((laws_eqTurned.f kj35 t457 t460 t389 t392).bind fun t465 => (if t465 = true then (if (t463 != t395) = true then (none) else ((laws_heldTurned.f kj35 t442 t443 1).bind fun t466 => (if t466 < 0 then (none) else (if t466 = t441 then (some true) else (none))))) else (none))) = some r := H
            have A128 := Aside0.mk A1280; clear A1280
            replace H := Option.bind_eq_some_iff.mp H
            obtain ⟨t465, A1290, H⟩ := H
            replace H : (if t465 = true then (if (t463 != t395) = true then (none) else ((laws_heldTurned.f kj35 t442 t443 1).bind fun t466 => (if t466 < 0 then (none) else (if t466 = t441 then (some true) else (none))))) else (none)) = some r := H
            have A129 := Aside0.mk A1290; clear A1290
            by_cases c130 : t465 = true
            ·
             subst c130
             have H1 : (if (t463 != t395) = true then (none) else ((laws_heldTurned.f kj35 t442 t443 1).bind fun t466 => (if t466 < 0 then (none) else (if t466 = t441 then (some true) else (none))))) = some r := by rw [if_pos rfl] at H; exact H
             clear H; have H := H1; clear H1
             by_cases c131 : (t463 != t395) = true
             ·
              rw [if_pos c131] at H
              exact absurd H (by simp)
             ·
              rw [if_neg c131] at H
              have c131b0 : (t463 != t395) = false := by simpa using c131
              (try (have c131b1 : decide (t463 = t395) = true := by simpa using c131))
              (try (have c131b2 : (t463 == t395) = true := by simpa using c131))
              clear c131
              replace H := Option.bind_eq_some_iff.mp H
              obtain ⟨t466, A1320, H⟩ := H
              replace H : (if t466 < 0 then (none) else (if t466 = t441 then (some true) else (none))) = some r := H
              have A132 := Aside0.mk A1320; clear A1320
              by_cases c133 : t466 < 0
              ·
               rw [if_pos c133] at H
               exact absurd H (by simp)
              ·
               rw [if_neg c133] at H
               have c133b0 : decide (t466 < 0) = false := decide_eq_false c133; clear c133
               by_cases c134 : t466 = t441
               ·
                rw [if_pos c134] at H
                have c134b0 : (t466 == t441) = true := beq_iff_eq.mpr c134; have c134b1 : (t466 != t441) = false := bne_eq_false_iff_eq.mpr c134; clear c134
                obtain rfl := Option.some.inj H
                have hnb135 := NB418_373.out; have hnc135 := NB373_418.out; have hnb136 := NB418_374.out; have hnc136 := NB374_418.out; have hnb137 := NB418_396.out; have hnc137 := NB396_418.out; have hnb138 := NB418_403.out; have hnc138 := NB403_418.out; have hnb139 := NB418_410.out; have hnc139 := NB410_418.out; have hcz140_0 : wc.cell? ⟨gb418, 0, none⟩ = some (.slice Ao82 t411.length co82) := (blk_cell BK418.out 0).trans rfl; have hcz140_1 : wc.cell? ⟨gb418, 1, none⟩ = some (.slice Ao89 t414.length co89) := (blk_cell BK418.out 1).trans rfl; have hfz140_0 := blk_frozen BK418.out 0; have hfz140_1 := blk_frozen BK418.out 1
                try go_wp2_with (first | ((with_reducible refine gate_callee (f := 21) rfl ?_); refine goesL_ (some 85) rfl rfl Try.func21 (by kernel_rfl) rfl #[.agg #[.slice Ao82 t411.length co82, .slice Ao89 t414.length co89], .int .i64 1] rfl (by (try simp only [List.map_toArray, List.map_cons, List.map_nil]); first | done | rfl) ?_; (with_reducible refine (laws_markTurned.calls kj35 (fun k_ => some k_ = (.slice Ao82 t411.length co82 : Value).ownBlock) (.slice Ao82 t411.length co82) t411 (fun k_ => some k_ = (.slice Ao89 t414.length co89 : Value).ownBlock) (.slice Ao89 t414.length co89) t414 1 t441 t442 t443 w _ ?side1 ?side2 ?side3 ?side4 ?side5 A122.out).mono ?_); (case side1 => repeat (first | (with_reducible first | exact HB.out | apply below_alloc | apply pw_below_drewN | apply below_drew1 | refine below_set ?_ GE373.out | refine below_set ?_ GE374.out | refine below_set ?_ GE396.out | refine below_set ?_ GE403.out | refine below_set ?_ GE410.out | refine below_set ?_ GE418.out) | exact HB.out)); (case side2 => exact Kd.R_tight rfl HO_419000.out); (case side3 => exact fun k_ e_ => (HO_419000.out.1 k_ e_.symm).2.2.2.2.2.2); (case side4 => exact Kd.R_tight rfl HO_419001.out); (case side5 => exact fun k_ e_ => (HO_419001.out.1 k_ e_.symm).2.2.2.2.2.2); rintro e w141 ⟨rfl, hy0, hy1, hb, hkp⟩; refine ⟨_, rfl, ?_⟩; replace HO_397000 := Zm (Kd.R_mono (ok' := fun k_ => Zn k_ (.slice Ao56 t392.length co56) ∧ Zn k_ (.slice Ao62 t435.length co62) ∧ Zn k_ (.slice Ao67 t436.length co67) ∧ Zn k_ (.slice Ao72 t438.length co72) ∧ Zn k_ (.slice Ao78 t439.length co78) ∧ Zn k_ (.slice Ao82 t411.length co82) ∧ Zn k_ (.slice Ao89 t414.length co89)) (Kd.R_keptB (HO_397000.out) hkp (fun k_ hk_ hs_ => Or.elim hs_ (fun e_ => (hk_.2.2.2.2.2.1) e_) (fun e_ => (hk_.2.2.2.2.2.2) e_))) (fun k_ hk_ => ⟨hk_.1.1, hk_.1.2.1, hk_.1.2.2.1, hk_.1.2.2.2.1, hk_.1.2.2.2.2.1, hk_.1.2.2.2.2.2.1, hk_.1.2.2.2.2.2.2⟩)); replace HO_397001 := Zm (Kd.R_mono (ok' := fun k_ => Zn k_ (.slice Ao54 t389.length co54) ∧ Zn k_ (.slice Ao62 t435.length co62) ∧ Zn k_ (.slice Ao67 t436.length co67) ∧ Zn k_ (.slice Ao72 t438.length co72) ∧ Zn k_ (.slice Ao78 t439.length co78) ∧ Zn k_ (.slice Ao82 t411.length co82) ∧ Zn k_ (.slice Ao89 t414.length co89)) (Kd.R_keptB (HO_397001.out) hkp (fun k_ hk_ hs_ => Or.elim hs_ (fun e_ => (hk_.2.2.2.2.2.1) e_) (fun e_ => (hk_.2.2.2.2.2.2) e_))) (fun k_ hk_ => ⟨hk_.1.1, hk_.1.2.1, hk_.1.2.2.1, hk_.1.2.2.2.1, hk_.1.2.2.2.2.1, hk_.1.2.2.2.2.2.1, hk_.1.2.2.2.2.2.2⟩)); replace HO_404000 := Zm (Kd.R_mono (ok' := fun k_ => Zn k_ (.slice Ao54 t389.length co54) ∧ Zn k_ (.slice Ao56 t392.length co56) ∧ Zn k_ (.slice Ao67 t436.length co67) ∧ Zn k_ (.slice Ao72 t438.length co72) ∧ Zn k_ (.slice Ao78 t439.length co78) ∧ Zn k_ (.slice Ao82 t411.length co82) ∧ Zn k_ (.slice Ao89 t414.length co89)) (Kd.R_keptB (HO_404000.out) hkp (fun k_ hk_ hs_ => Or.elim hs_ (fun e_ => (hk_.2.2.2.2.2.1) e_) (fun e_ => (hk_.2.2.2.2.2.2) e_))) (fun k_ hk_ => ⟨hk_.1.1, hk_.1.2.1, hk_.1.2.2.1, hk_.1.2.2.2.1, hk_.1.2.2.2.2.1, hk_.1.2.2.2.2.2.1, hk_.1.2.2.2.2.2.2⟩)); replace HO_404001 := Zm (Kd.R_mono (ok' := fun k_ => Zn k_ (.slice Ao54 t389.length co54) ∧ Zn k_ (.slice Ao56 t392.length co56) ∧ Zn k_ (.slice Ao62 t435.length co62) ∧ Zn k_ (.slice Ao72 t438.length co72) ∧ Zn k_ (.slice Ao78 t439.length co78) ∧ Zn k_ (.slice Ao82 t411.length co82) ∧ Zn k_ (.slice Ao89 t414.length co89)) (Kd.R_keptB (HO_404001.out) hkp (fun k_ hk_ hs_ => Or.elim hs_ (fun e_ => (hk_.2.2.2.2.2.1) e_) (fun e_ => (hk_.2.2.2.2.2.2) e_))) (fun k_ hk_ => ⟨hk_.1.1, hk_.1.2.1, hk_.1.2.2.1, hk_.1.2.2.2.1, hk_.1.2.2.2.2.1, hk_.1.2.2.2.2.2.1, hk_.1.2.2.2.2.2.2⟩)); replace HO_411000 := Zm (Kd.R_mono (ok' := fun k_ => Zn k_ (.slice Ao54 t389.length co54) ∧ Zn k_ (.slice Ao56 t392.length co56) ∧ Zn k_ (.slice Ao62 t435.length co62) ∧ Zn k_ (.slice Ao67 t436.length co67) ∧ Zn k_ (.slice Ao78 t439.length co78) ∧ Zn k_ (.slice Ao82 t411.length co82) ∧ Zn k_ (.slice Ao89 t414.length co89)) (Kd.R_keptB (HO_411000.out) hkp (fun k_ hk_ hs_ => Or.elim hs_ (fun e_ => (hk_.2.2.2.2.2.1) e_) (fun e_ => (hk_.2.2.2.2.2.2) e_))) (fun k_ hk_ => ⟨hk_.1.1, hk_.1.2.1, hk_.1.2.2.1, hk_.1.2.2.2.1, hk_.1.2.2.2.2.1, hk_.1.2.2.2.2.2.1, hk_.1.2.2.2.2.2.2⟩)); replace HO_411001 := Zm (Kd.R_mono (ok' := fun k_ => Zn k_ (.slice Ao54 t389.length co54) ∧ Zn k_ (.slice Ao56 t392.length co56) ∧ Zn k_ (.slice Ao62 t435.length co62) ∧ Zn k_ (.slice Ao67 t436.length co67) ∧ Zn k_ (.slice Ao72 t438.length co72) ∧ Zn k_ (.slice Ao82 t411.length co82) ∧ Zn k_ (.slice Ao89 t414.length co89)) (Kd.R_keptB (HO_411001.out) hkp (fun k_ hk_ hs_ => Or.elim hs_ (fun e_ => (hk_.2.2.2.2.2.1) e_) (fun e_ => (hk_.2.2.2.2.2.2) e_))) (fun k_ hk_ => ⟨hk_.1.1, hk_.1.2.1, hk_.1.2.2.1, hk_.1.2.2.2.1, hk_.1.2.2.2.2.1, hk_.1.2.2.2.2.2.1, hk_.1.2.2.2.2.2.2⟩)); replace BK373 := Zm (blk_kept (Zb BK373) hkp (fun hs_ => Or.elim hs_ (fun e_ => (fun e_ => (Kd.R_ne HO_419000.out BK373.out (by decide)) e_) e_) (fun e_ => (fun e_ => (Kd.R_ne HO_419001.out BK373.out (by decide)) e_) e_))); replace BK374 := Zm (blk_kept (Zb BK374) hkp (fun hs_ => Or.elim hs_ (fun e_ => (fun e_ => (Kd.R_ne HO_419000.out BK374.out (by decide)) e_) e_) (fun e_ => (fun e_ => (Kd.R_ne HO_419001.out BK374.out (by decide)) e_) e_))); replace BK396 := Zm (blk_kept (Zb BK396) hkp (fun hs_ => Or.elim hs_ (fun e_ => (fun e_ => (Kd.R_ne HO_419000.out BK396.out (by decide)) e_) e_) (fun e_ => (fun e_ => (Kd.R_ne HO_419001.out BK396.out (by decide)) e_) e_))); replace BK403 := Zm (blk_kept (Zb BK403) hkp (fun hs_ => Or.elim hs_ (fun e_ => (fun e_ => (Kd.R_ne HO_419000.out BK403.out (by decide)) e_) e_) (fun e_ => (fun e_ => (Kd.R_ne HO_419001.out BK403.out (by decide)) e_) e_))); replace BK410 := Zm (blk_kept (Zb BK410) hkp (fun hs_ => Or.elim hs_ (fun e_ => (fun e_ => (Kd.R_ne HO_419000.out BK410.out (by decide)) e_) e_) (fun e_ => (fun e_ => (Kd.R_ne HO_419001.out BK410.out (by decide)) e_) e_))); replace BK418 := Zm (blk_kept (Zb BK418) hkp (fun hs_ => Or.elim hs_ (fun e_ => (fun e_ => (Kd.R_ne HO_419000.out BK418.out (by decide)) e_) e_) (fun e_ => (fun e_ => (Kd.R_ne HO_419001.out BK418.out (by decide)) e_) e_))); replace HO_419000 := Zm (Kd.R_reok rfl hy0 (fun k_ e_ => HO_419000.out.1 k_ e_)); replace HO_419001 := Zm (Kd.R_reok rfl hy1 (fun k_ e_ => HO_419001.out.1 k_ e_)); replace HB := Zm (hb); (try clear hb); (try clear hkp); (try clear hy0); (try clear hy1); have hcz142_0 : w141.cell? ⟨gb418, 0, none⟩ = some (.slice Ao82 t411.length co82) := (blk_cell BK418.out 0).trans rfl; have hcz142_1 : w141.cell? ⟨gb418, 1, none⟩ = some (.slice Ao89 t414.length co89) := (blk_cell BK418.out 1).trans rfl; have hfz142_0 := blk_frozen BK418.out 0; have hfz142_1 := blk_frozen BK418.out 1) | ((with_reducible refine gate_callee (f := 22) rfl ?_); refine goesL_ (some 88) rfl rfl Try.func22 (by kernel_rfl) rfl #[.agg #[.slice Ao82 t442.length co82, .slice Ao89 t443.length co89], .int .i64 1] rfl (by (try simp only [List.map_toArray, List.map_cons, List.map_nil]); first | done | (rw [show t442.length = t411.length from (Kd.R_reads' HO_419000.out).1.symm, show t443.length = t414.length from (Kd.R_reads' HO_419001.out).1.symm] <;> rfl) | rfl | (simp only [List.length_drop, List.length_take]; rfl)) ?_; (with_reducible refine (laws_heldTurned.calls kj35 _ _ t442 _ _ t443 1 t444 _ ?side1 ?side2 ?side3 ?side4 A123.out).mono ?_); (case side1 => repeat (first | exact (Kd.R_reads' HO_419000.out).2.2 | (with_reducible refine Kd.C_alloc ?_ _) | (with_reducible refine Kd.C_drewN ?_ _) | (with_reducible refine Kd.C_drew ?_))); (case side2 => rw [show t442.length = t411.length from (Kd.R_reads' HO_419000.out).1.symm]; exact (Kd.R_reads' HO_419000.out).2.1); (case side3 => repeat (first | exact (Kd.R_reads' HO_419001.out).2.2 | (with_reducible refine Kd.C_alloc ?_ _) | (with_reducible refine Kd.C_drewN ?_ _) | (with_reducible refine Kd.C_drew ?_))); (case side4 => rw [show t443.length = t414.length from (Kd.R_reads' HO_419001.out).1.symm]; exact (Kd.R_reads' HO_419001.out).2.1); rintro e w143 ⟨rfl, hb⟩; refine ⟨_, rfl, ?_⟩; replace HO_397000 := Zo HO_397000 hb; replace HO_397001 := Zo HO_397001 hb; replace HO_404000 := Zo HO_404000 hb; replace HO_404001 := Zo HO_404001 hb; replace HO_411000 := Zo HO_411000 hb; replace HO_411001 := Zo HO_411001 hb; replace HO_419000 := Zo HO_419000 hb; replace HO_419001 := Zo HO_419001 hb; replace BK373 := Zk BK373 hb; replace BK374 := Zk BK374 hb; replace BK396 := Zk BK396 hb; replace BK403 := Zk BK403 hb; replace BK410 := Zk BK410 hb; replace BK418 := Zk BK418 hb; replace HB := Zh HB hb; (try clear hb); (try clear hb2); (try clear hk); (try clear hi)))
                replace HO_397000 := Zm (Kd.R_drew HO_397000.out); replace HO_397001 := Zm (Kd.R_drew HO_397001.out); replace HO_404000 := Zm (Kd.R_drew HO_404000.out); replace HO_404001 := Zm (Kd.R_drew HO_404001.out); replace HO_411000 := Zm (Kd.R_drew HO_411000.out); replace HO_411001 := Zm (Kd.R_drew HO_411001.out); replace HO_419000 := Zm (Kd.R_drew HO_419000.out); replace HO_419001 := Zm (Kd.R_drew HO_419001.out); replace BK373 := Zm (blk_drew BK373.out); replace BK374 := Zm (blk_drew BK374.out); replace BK396 := Zm (blk_drew BK396.out); replace BK403 := Zm (blk_drew BK403.out); replace BK410 := Zm (blk_drew BK410.out); replace BK418 := Zm (blk_drew BK418.out); replace HB := Zm (below_drew1 HB.out)
                refine start_ (n := 11) (S := fun w' => w'.cell? ⟨gb373, 0, none⟩ = some (.slice A0_0 l0_0.length c0_0) ∧ w'.cell? ⟨gb373, 1, none⟩ = some (.slice A0_1 l0_1.length c0_1) ∧ w'.cell? ⟨gb374, 0, none⟩ = some (.slice A1_0 l1_0.length c1_0) ∧ w'.cell? ⟨gb374, 1, none⟩ = some (.slice A1_1 l1_1.length c1_1)) (ds := []) #[false, false, false, false, false, false, false, false, false, false, false] (by kernel_rfl) rfl rfl ⟨(blk_cell BK373.out 0).trans rfl, (blk_cell BK373.out 1).trans rfl, (blk_cell BK374.out 0).trans rfl, (blk_cell BK374.out 1).trans rfl⟩ (fun hHeld => ?_); refine with_tabW laws_FnExactThenTurned.tab31 laws_FnExactThenTurned.bits31 (fun HT_ HW_ => ?_)
                generalize w143.drew = w144 at HO_397000 HO_397001 HO_404000 HO_404001 HO_411000 HO_411001 HO_419000 HO_419001 BK373 BK374 BK396 BK403 BK410 BK418 HB hHeld ⊢
                refine take_ (i := 0) (N := some 95) (v := ?_) (a' := ?_) #[true, false, false, false, false, false, false, false, false, false, false] rfl rfl (take_ofW HT_.out HW_.out (by kernel_rfl)) (fun _ _ _ h => h) (Or.inl ⟨by rfl, ?_⟩) hHeld ?_ ?_
                rotate_left
                ·
                 rintro w' ⟨s0, s1, s2, s3⟩
                 go_simp
                 with_reducible rfl
                rotate_left
                ·
                 simp only [Act.put, List.setIfInBounds_toArray, List.set_cons_zero, List.set_cons_succ, i64_w, i32_w]
                 rfl
                refine take_ (i := 2) (N := some 97) (v := ?_) (a' := ?_) #[true, false, true, false, false, false, false, false, false, false, false] rfl rfl (take_ofW HT_.out HW_.out (by kernel_rfl)) (fun _ _ _ h => h) (Or.inl ⟨by rfl, ?_⟩) hHeld ?_ ?_
                rotate_left
                ·
                 rintro w' ⟨s0, s1, s2, s3⟩
                 go_simp
                 with_reducible rfl
                rotate_left
                ·
                 simp only [Act.put, List.setIfInBounds_toArray, List.set_cons_zero, List.set_cons_succ, i64_w, i32_w]
                 rfl
                refine join_ (σ := Value × Value × Value × Value × Value × Value × Nat) 2 #[true, true, true, true, true, true, true, true, true, false, false] (fun s_ => [(96, .agg #[s_.1, s_.2.1]), (98, .agg #[s_.2.2.1, s_.2.2.2.1]), (99, .tuple #[.agg #[s_.2.2.2.2.1, s_.2.2.2.2.2.1], .bool t463]), (15, .pointer (some ⟨s_.2.2.2.2.2.2, 0, none⟩)), (94, .tuple #[.agg #[s_.2.2.2.2.1, s_.2.2.2.2.2.1], .bool t463]), (100, .agg #[s_.2.2.2.2.1, s_.2.2.2.2.2.1]), (101, .bool t463)]) (fun s_ w' => (w'.cell? ⟨gb373, 0, none⟩ = some (.slice A0_0 l0_0.length c0_0) ∧ w'.cell? ⟨gb373, 1, none⟩ = some (.slice A0_1 l0_1.length c0_1) ∧ w'.cell? ⟨gb374, 0, none⟩ = some (.slice A1_0 l1_0.length c1_0) ∧ w'.cell? ⟨gb374, 1, none⟩ = some (.slice A1_1 l1_1.length c1_1)) ∧ (Kd.R (Kd.int .i64) 3 w' w.heap.size (fun k_ => Zn k_ s_.2.1 ∧ Zn k_ s_.2.2.1 ∧ Zn k_ s_.2.2.2.1 ∧ Zn k_ s_.2.2.2.2.1 ∧ Zn k_ s_.2.2.2.2.2.1 ∧ Zn k_ (.slice Ao54 t389.length co54) ∧ Zn k_ (.slice Ao56 t392.length co56) ∧ Zn k_ (.slice Ao62 t435.length co62) ∧ Zn k_ (.slice Ao67 t436.length co67) ∧ Zn k_ (.slice Ao72 t438.length co72) ∧ Zn k_ (.slice Ao78 t439.length co78) ∧ Zn k_ (.slice Ao82 t411.length co82) ∧ Zn k_ (.slice Ao89 t414.length co89)) s_.1 t445) ∧ (Kd.R (Kd.int .i64) 3 w' w.heap.size (fun k_ => Zn k_ s_.1 ∧ Zn k_ s_.2.2.1 ∧ Zn k_ s_.2.2.2.1 ∧ Zn k_ s_.2.2.2.2.1 ∧ Zn k_ s_.2.2.2.2.2.1 ∧ Zn k_ (.slice Ao54 t389.length co54) ∧ Zn k_ (.slice Ao56 t392.length co56) ∧ Zn k_ (.slice Ao62 t435.length co62) ∧ Zn k_ (.slice Ao67 t436.length co67) ∧ Zn k_ (.slice Ao72 t438.length co72) ∧ Zn k_ (.slice Ao78 t439.length co78) ∧ Zn k_ (.slice Ao82 t411.length co82) ∧ Zn k_ (.slice Ao89 t414.length co89)) s_.2.1 t448) ∧ (Kd.R (Kd.int .i64) 3 w' w.heap.size (fun k_ => Zn k_ s_.1 ∧ Zn k_ s_.2.1 ∧ Zn k_ s_.2.2.2.1 ∧ Zn k_ s_.2.2.2.2.1 ∧ Zn k_ s_.2.2.2.2.2.1 ∧ Zn k_ (.slice Ao54 t389.length co54) ∧ Zn k_ (.slice Ao56 t392.length co56) ∧ Zn k_ (.slice Ao62 t435.length co62) ∧ Zn k_ (.slice Ao67 t436.length co67) ∧ Zn k_ (.slice Ao72 t438.length co72) ∧ Zn k_ (.slice Ao78 t439.length co78) ∧ Zn k_ (.slice Ao82 t411.length co82) ∧ Zn k_ (.slice Ao89 t414.length co89)) s_.2.2.1 t451) ∧ (Kd.R (Kd.int .i64) 3 w' w.heap.size (fun k_ => Zn k_ s_.1 ∧ Zn k_ s_.2.1 ∧ Zn k_ s_.2.2.1 ∧ Zn k_ s_.2.2.2.2.1 ∧ Zn k_ s_.2.2.2.2.2.1 ∧ Zn k_ (.slice Ao54 t389.length co54) ∧ Zn k_ (.slice Ao56 t392.length co56) ∧ Zn k_ (.slice Ao62 t435.length co62) ∧ Zn k_ (.slice Ao67 t436.length co67) ∧ Zn k_ (.slice Ao72 t438.length co72) ∧ Zn k_ (.slice Ao78 t439.length co78) ∧ Zn k_ (.slice Ao82 t411.length co82) ∧ Zn k_ (.slice Ao89 t414.length co89)) s_.2.2.2.1 t454) ∧ (Kd.R (Kd.int .i64) 3 w' w.heap.size (fun k_ => Zn k_ s_.1 ∧ Zn k_ s_.2.1 ∧ Zn k_ s_.2.2.1 ∧ Zn k_ s_.2.2.2.1 ∧ Zn k_ s_.2.2.2.2.2.1 ∧ Zn k_ (.slice Ao54 t389.length co54) ∧ Zn k_ (.slice Ao56 t392.length co56) ∧ Zn k_ (.slice Ao62 t435.length co62) ∧ Zn k_ (.slice Ao67 t436.length co67) ∧ Zn k_ (.slice Ao72 t438.length co72) ∧ Zn k_ (.slice Ao78 t439.length co78) ∧ Zn k_ (.slice Ao82 t411.length co82) ∧ Zn k_ (.slice Ao89 t414.length co89)) s_.2.2.2.2.1 t457) ∧ (Kd.R (Kd.int .i64) 3 w' w.heap.size (fun k_ => Zn k_ s_.1 ∧ Zn k_ s_.2.1 ∧ Zn k_ s_.2.2.1 ∧ Zn k_ s_.2.2.2.1 ∧ Zn k_ s_.2.2.2.2.1 ∧ Zn k_ (.slice Ao54 t389.length co54) ∧ Zn k_ (.slice Ao56 t392.length co56) ∧ Zn k_ (.slice Ao62 t435.length co62) ∧ Zn k_ (.slice Ao67 t436.length co67) ∧ Zn k_ (.slice Ao72 t438.length co72) ∧ Zn k_ (.slice Ao78 t439.length co78) ∧ Zn k_ (.slice Ao82 t411.length co82) ∧ Zn k_ (.slice Ao89 t414.length co89)) s_.2.2.2.2.2.1 t460) ∧ (Kd.R (Kd.int .i64) 3 w' w.heap.size (fun k_ => Zn k_ s_.1 ∧ Zn k_ s_.2.1 ∧ Zn k_ s_.2.2.1 ∧ Zn k_ s_.2.2.2.1 ∧ Zn k_ s_.2.2.2.2.1 ∧ Zn k_ s_.2.2.2.2.2.1 ∧ Zn k_ (.slice Ao56 t392.length co56) ∧ Zn k_ (.slice Ao62 t435.length co62) ∧ Zn k_ (.slice Ao67 t436.length co67) ∧ Zn k_ (.slice Ao72 t438.length co72) ∧ Zn k_ (.slice Ao78 t439.length co78) ∧ Zn k_ (.slice Ao82 t411.length co82) ∧ Zn k_ (.slice Ao89 t414.length co89)) (.slice Ao54 t389.length co54) t389) ∧ (Kd.R (Kd.int .i64) 3 w' w.heap.size (fun k_ => Zn k_ s_.1 ∧ Zn k_ s_.2.1 ∧ Zn k_ s_.2.2.1 ∧ Zn k_ s_.2.2.2.1 ∧ Zn k_ s_.2.2.2.2.1 ∧ Zn k_ s_.2.2.2.2.2.1 ∧ Zn k_ (.slice Ao54 t389.length co54) ∧ Zn k_ (.slice Ao62 t435.length co62) ∧ Zn k_ (.slice Ao67 t436.length co67) ∧ Zn k_ (.slice Ao72 t438.length co72) ∧ Zn k_ (.slice Ao78 t439.length co78) ∧ Zn k_ (.slice Ao82 t411.length co82) ∧ Zn k_ (.slice Ao89 t414.length co89)) (.slice Ao56 t392.length co56) t392) ∧ (Kd.R (Kd.int .i64) 3 w' w.heap.size (fun k_ => Zn k_ s_.1 ∧ Zn k_ s_.2.1 ∧ Zn k_ s_.2.2.1 ∧ Zn k_ s_.2.2.2.1 ∧ Zn k_ s_.2.2.2.2.1 ∧ Zn k_ s_.2.2.2.2.2.1 ∧ Zn k_ (.slice Ao54 t389.length co54) ∧ Zn k_ (.slice Ao56 t392.length co56) ∧ Zn k_ (.slice Ao67 t436.length co67) ∧ Zn k_ (.slice Ao72 t438.length co72) ∧ Zn k_ (.slice Ao78 t439.length co78) ∧ Zn k_ (.slice Ao82 t411.length co82) ∧ Zn k_ (.slice Ao89 t414.length co89)) (.slice Ao62 t435.length co62) t435) ∧ (Kd.R (Kd.int .i64) 3 w' w.heap.size (fun k_ => Zn k_ s_.1 ∧ Zn k_ s_.2.1 ∧ Zn k_ s_.2.2.1 ∧ Zn k_ s_.2.2.2.1 ∧ Zn k_ s_.2.2.2.2.1 ∧ Zn k_ s_.2.2.2.2.2.1 ∧ Zn k_ (.slice Ao54 t389.length co54) ∧ Zn k_ (.slice Ao56 t392.length co56) ∧ Zn k_ (.slice Ao62 t435.length co62) ∧ Zn k_ (.slice Ao72 t438.length co72) ∧ Zn k_ (.slice Ao78 t439.length co78) ∧ Zn k_ (.slice Ao82 t411.length co82) ∧ Zn k_ (.slice Ao89 t414.length co89)) (.slice Ao67 t436.length co67) t436) ∧ (Kd.R (Kd.int .i64) 3 w' w.heap.size (fun k_ => Zn k_ s_.1 ∧ Zn k_ s_.2.1 ∧ Zn k_ s_.2.2.1 ∧ Zn k_ s_.2.2.2.1 ∧ Zn k_ s_.2.2.2.2.1 ∧ Zn k_ s_.2.2.2.2.2.1 ∧ Zn k_ (.slice Ao54 t389.length co54) ∧ Zn k_ (.slice Ao56 t392.length co56) ∧ Zn k_ (.slice Ao62 t435.length co62) ∧ Zn k_ (.slice Ao67 t436.length co67) ∧ Zn k_ (.slice Ao78 t439.length co78) ∧ Zn k_ (.slice Ao82 t411.length co82) ∧ Zn k_ (.slice Ao89 t414.length co89)) (.slice Ao72 t438.length co72) t438) ∧ (Kd.R (Kd.int .i64) 3 w' w.heap.size (fun k_ => Zn k_ s_.1 ∧ Zn k_ s_.2.1 ∧ Zn k_ s_.2.2.1 ∧ Zn k_ s_.2.2.2.1 ∧ Zn k_ s_.2.2.2.2.1 ∧ Zn k_ s_.2.2.2.2.2.1 ∧ Zn k_ (.slice Ao54 t389.length co54) ∧ Zn k_ (.slice Ao56 t392.length co56) ∧ Zn k_ (.slice Ao62 t435.length co62) ∧ Zn k_ (.slice Ao67 t436.length co67) ∧ Zn k_ (.slice Ao72 t438.length co72) ∧ Zn k_ (.slice Ao82 t411.length co82) ∧ Zn k_ (.slice Ao89 t414.length co89)) (.slice Ao78 t439.length co78) t439) ∧ (Kd.R (Kd.int .i64) 3 w' w.heap.size (fun k_ => Zn k_ s_.1 ∧ Zn k_ s_.2.1 ∧ Zn k_ s_.2.2.1 ∧ Zn k_ s_.2.2.2.1 ∧ Zn k_ s_.2.2.2.2.1 ∧ Zn k_ s_.2.2.2.2.2.1 ∧ Zn k_ (.slice Ao54 t389.length co54) ∧ Zn k_ (.slice Ao56 t392.length co56) ∧ Zn k_ (.slice Ao62 t435.length co62) ∧ Zn k_ (.slice Ao67 t436.length co67) ∧ Zn k_ (.slice Ao72 t438.length co72) ∧ Zn k_ (.slice Ao78 t439.length co78) ∧ Zn k_ (.slice Ao89 t414.length co89)) (.slice Ao82 t411.length co82) t442) ∧ (Kd.R (Kd.int .i64) 3 w' w.heap.size (fun k_ => Zn k_ s_.1 ∧ Zn k_ s_.2.1 ∧ Zn k_ s_.2.2.1 ∧ Zn k_ s_.2.2.2.1 ∧ Zn k_ s_.2.2.2.2.1 ∧ Zn k_ s_.2.2.2.2.2.1 ∧ Zn k_ (.slice Ao54 t389.length co54) ∧ Zn k_ (.slice Ao56 t392.length co56) ∧ Zn k_ (.slice Ao62 t435.length co62) ∧ Zn k_ (.slice Ao67 t436.length co67) ∧ Zn k_ (.slice Ao72 t438.length co72) ∧ Zn k_ (.slice Ao78 t439.length co78) ∧ Zn k_ (.slice Ao82 t411.length co82)) (.slice Ao89 t414.length co89) t443) ∧ (w'.heap[gb373]? = some (.cells #[.slice A0_0 l0_0.length c0_0, .slice A0_1 l0_1.length c0_1] 34 (0, 0))) ∧ (w'.heap[gb374]? = some (.cells #[.slice A1_0 l1_0.length c1_0, .slice A1_1 l1_1.length c1_1] 34 (0, 0))) ∧ (w'.heap[gb396]? = some (.cells #[.slice Ao54 t389.length co54, .slice Ao56 t392.length co56] 36 (0, 0))) ∧ (w'.heap[gb403]? = some (.cells #[.slice Ao62 t435.length co62, .slice Ao67 t436.length co67] 36 (0, 0))) ∧ (w'.heap[gb410]? = some (.cells #[.slice Ao72 t438.length co72, .slice Ao78 t439.length co78] 36 (0, 0))) ∧ (w'.heap[gb418]? = some (.cells #[.slice Ao82 t411.length co82, .slice Ao89 t414.length co89] 36 (0, 0))) ∧ (w'.heap[s_.2.2.2.2.2.2]? = some (.cells #[.slice none 0 0, .slice none 0 0] 36 (0, 0))) ∧ (w.heap.size ≤ s_.2.2.2.2.2.2) ∧ (w.heap.size ≤ s_.2.2.2.2.2.2) ∧ (gb373 ≠ s_.2.2.2.2.2.2) ∧ (s_.2.2.2.2.2.2 ≠ gb373) ∧ (gb374 ≠ s_.2.2.2.2.2.2) ∧ (s_.2.2.2.2.2.2 ≠ gb374) ∧ (gb396 ≠ s_.2.2.2.2.2.2) ∧ (s_.2.2.2.2.2.2 ≠ gb396) ∧ (gb403 ≠ s_.2.2.2.2.2.2) ∧ (s_.2.2.2.2.2.2 ≠ gb403) ∧ (gb410 ≠ s_.2.2.2.2.2.2) ∧ (s_.2.2.2.2.2.2 ≠ gb410) ∧ (gb418 ≠ s_.2.2.2.2.2.2) ∧ (s_.2.2.2.2.2.2 ≠ gb418) ∧ (Below w.heap.size w w')) ?_ ?_
                rotate_left
                ·
                 intro hCont
                 refine two_ (i := 1) (j := 8) (Ni := some 96) (Nj := some 15) #[true, true, true, false, false, false, false, false, false, false, false] #[true, false, true, false, false, false, false, false, true, false, false] rfl rfl rfl rfl (two_of HT_.out (by kernel_rfl)) (by decide) (by decide) (fun K hK => ?_) (fun K hK => ?_)
                 ·
                  skip
                  refine goes_ Try.func18 (by kernel_rfl) rfl #[.agg #[.slice A0_0 l0_0.length c0_0, .slice A0_1 l0_1.length c0_1]] (by rfl) rfl rfl (by (try simp only [List.map_toArray, List.map_cons, List.map_nil]); first | done | rfl) ?_
                  with_reducible refine (laws_toTurned.calls kj35 _ _ l0_0 _ _ l0_1 t445 t448 _ ?side1 ?side2 ?side3 ?side4 A126.out).mono ?_
                  (case side1 => repeat (first | exact (Kd.C_below HR0_0.out HB.out) | (with_reducible refine Kd.C_alloc ?_ _) | (with_reducible refine Kd.C_drewN ?_ _) | (with_reducible refine Kd.C_drew ?_)))
                  (case side2 => exact HC0_0.out)
                  (case side3 => repeat (first | exact (Kd.C_below HR0_1.out HB.out) | (with_reducible refine Kd.C_alloc ?_ _) | (with_reducible refine Kd.C_drewN ?_ _) | (with_reducible refine Kd.C_drew ?_)))
                  (case side4 => exact HC0_1.out)
                  rintro e w145 ⟨v446, v449, rfl, ho0, ho1, hb⟩
                  refine ⟨_, rfl, ?_⟩
                  have HO447 := Zj (Zv (Zv (Zv (Zv (Zv (Zv (Zv (Zv ho0 HO_397000) HO_397001) HO_404000) HO_404001) HO_411000) HO_411001) HO_419000) HO_419001) HB; have HO450 := Zj (Zv (Zv (Zv (Zv (Zv (Zv (Zv (Zv ho1 HO_397000) HO_397001) HO_404000) HO_404001) HO_411000) HO_411001) HO_419000) HO_419001) HB; replace HO_397000 := Zu HO_397000 hb ho0 ho1; replace HO_397001 := Zu HO_397001 hb ho0 ho1; replace HO_404000 := Zu HO_404000 hb ho0 ho1; replace HO_404001 := Zu HO_404001 hb ho0 ho1; replace HO_411000 := Zu HO_411000 hb ho0 ho1; replace HO_411001 := Zu HO_411001 hb ho0 ho1; replace HO_419000 := Zu HO_419000 hb ho0 ho1; replace HO_419001 := Zu HO_419001 hb ho0 ho1; replace BK373 := Zk BK373 hb; replace BK374 := Zk BK374 hb; replace BK396 := Zk BK396 hb; replace BK403 := Zk BK403 hb; replace BK410 := Zk BK410 hb; replace BK418 := Zk BK418 hb; replace HB := Zh HB hb
                  (try clear hb)
                  (try clear hb2)
                  (try clear hk)
                  (try clear hi)
                  (try clear ho0)
                  (try clear ho1)
                  refine hK.out _ _ ⟨(blk_cell BK373.out 0).trans rfl, (blk_cell BK373.out 1).trans rfl, (blk_cell BK374.out 0).trans rfl, (blk_cell BK374.out 1).trans rfl⟩ (fun hHeld => ?_)
                  clear hK K
                  refine norm_ (a' := ?_) ?_ ?_
                  rotate_left
                  ·
                   show Act.put _ (some 96) _ = _
                   simp only [Act.put, List.setIfInBounds_toArray, List.set_cons_zero, List.set_cons_succ, i64_w, i32_w]
                   rfl
                  refine two_ (i := 3) (j := 8) (Ni := some 98) (Nj := some 15) #[true, true, true, true, false, false, false, false, false, false, false] #[true, true, true, false, false, false, false, false, true, false, false] rfl rfl rfl rfl (two_of HT_.out (by kernel_rfl)) (by decide) (by decide) (fun K hK => ?_) (fun K hK => ?_)
                  ·
                   skip
                   refine goes_ Try.func18 (by kernel_rfl) rfl #[.agg #[.slice A1_0 l1_0.length c1_0, .slice A1_1 l1_1.length c1_1]] (by rfl) rfl rfl (by (try simp only [List.map_toArray, List.map_cons, List.map_nil]); first | done | rfl) ?_
                   with_reducible refine (laws_toTurned.calls kj35 _ _ l1_0 _ _ l1_1 t451 t454 _ ?side1 ?side2 ?side3 ?side4 A127.out).mono ?_
                   (case side1 => repeat (first | exact (Kd.C_below HR1_0.out HB.out) | (with_reducible refine Kd.C_alloc ?_ _) | (with_reducible refine Kd.C_drewN ?_ _) | (with_reducible refine Kd.C_drew ?_)))
                   (case side2 => exact HC1_0.out)
                   (case side3 => repeat (first | exact (Kd.C_below HR1_1.out HB.out) | (with_reducible refine Kd.C_alloc ?_ _) | (with_reducible refine Kd.C_drewN ?_ _) | (with_reducible refine Kd.C_drew ?_)))
                   (case side4 => exact HC1_1.out)
                   rintro e w146 ⟨v452, v455, rfl, ho0, ho1, hb⟩
                   refine ⟨_, rfl, ?_⟩
                   have HO453 := Zj (Zv (Zv (Zv (Zv (Zv (Zv (Zv (Zv (Zv (Zv ho0 HO_397000) HO_397001) HO_404000) HO_404001) HO_411000) HO_411001) HO_419000) HO_419001) HO447) HO450) HB; have HO456 := Zj (Zv (Zv (Zv (Zv (Zv (Zv (Zv (Zv (Zv (Zv ho1 HO_397000) HO_397001) HO_404000) HO_404001) HO_411000) HO_411001) HO_419000) HO_419001) HO447) HO450) HB; replace HO_397000 := Zu HO_397000 hb ho0 ho1; replace HO_397001 := Zu HO_397001 hb ho0 ho1; replace HO_404000 := Zu HO_404000 hb ho0 ho1; replace HO_404001 := Zu HO_404001 hb ho0 ho1; replace HO_411000 := Zu HO_411000 hb ho0 ho1; replace HO_411001 := Zu HO_411001 hb ho0 ho1; replace HO_419000 := Zu HO_419000 hb ho0 ho1; replace HO_419001 := Zu HO_419001 hb ho0 ho1; replace HO447 := Zu HO447 hb ho0 ho1; replace HO450 := Zu HO450 hb ho0 ho1; replace BK373 := Zk BK373 hb; replace BK374 := Zk BK374 hb; replace BK396 := Zk BK396 hb; replace BK403 := Zk BK403 hb; replace BK410 := Zk BK410 hb; replace BK418 := Zk BK418 hb; replace HB := Zh HB hb
                   (try clear hb)
                   (try clear hb2)
                   (try clear hk)
                   (try clear hi)
                   (try clear ho0)
                   (try clear ho1)
                   obtain ⟨Ao147, co147, eo147⟩ := Kd.R_slice HO447.out
                   (first | subst eo147 | (injection eo147 with f1_ f2_ f3_; have f4_ := f1_.symm; have f5_ := f3_.symm; clear f1_ f2_ f3_; subst f4_; subst f5_))
                   obtain ⟨Ao148, co148, eo148⟩ := Kd.R_slice HO450.out
                   (first | subst eo148 | (injection eo148 with f1_ f2_ f3_; have f4_ := f1_.symm; have f5_ := f3_.symm; clear f1_ f2_ f3_; subst f4_; subst f5_))
                   obtain ⟨Ao149, co149, eo149⟩ := Kd.R_slice HO453.out
                   (first | subst eo149 | (injection eo149 with f1_ f2_ f3_; have f4_ := f1_.symm; have f5_ := f3_.symm; clear f1_ f2_ f3_; subst f4_; subst f5_))
                   obtain ⟨Ao150, co150, eo150⟩ := Kd.R_slice HO456.out
                   (first | subst eo150 | (injection eo150 with f1_ f2_ f3_; have f4_ := f1_.symm; have f5_ := f3_.symm; clear f1_ f2_ f3_; subst f4_; subst f5_))
                   refine hK.out _ _ ⟨(blk_cell BK373.out 0).trans rfl, (blk_cell BK373.out 1).trans rfl, (blk_cell BK374.out 0).trans rfl, (blk_cell BK374.out 1).trans rfl⟩ (fun hHeld => ?_)
                   clear hK K
                   refine norm_ (a' := ?_) ?_ ?_
                   rotate_left
                   ·
                    show Act.put _ (some 98) _ = _
                    simp only [Act.put, List.setIfInBounds_toArray, List.set_cons_zero, List.set_cons_succ, i64_w, i32_w]
                    rfl
                   refine two_ (i := 4) (j := 8) (Ni := some 99) (Nj := some 15) #[true, true, true, true, true, false, false, false, false, false, false] #[true, true, true, true, false, false, false, false, true, false, false] rfl rfl rfl rfl (two_of HT_.out (by kernel_rfl)) (by decide) (by decide) (fun K hK => ?_) (fun K hK => ?_)
                   ·
                    skip
                    refine goes_ Try.func19 (by kernel_rfl) rfl #[.agg #[.slice Ao147 t445.length co147, .slice Ao148 t448.length co148], .agg #[.slice Ao149 t451.length co149, .slice Ao150 t454.length co150]] (by rfl) rfl rfl (by (try simp only [List.map_toArray, List.map_cons, List.map_nil]); first | done | rfl) ?_
                    with_reducible refine (impl_ThenTurned.calls kj35 _ _ t445 _ _ t448 _ _ t451 _ _ t454 t457 t460 t463 _ ?side1 ?side2 ?side3 ?side4 ?side5 ?side6 ?side7 ?side8 A128.out).mono ?_
                    (case side1 => repeat (first | exact (Kd.R_reads' HO447.out).2.2 | (with_reducible refine Kd.C_alloc ?_ _) | (with_reducible refine Kd.C_drewN ?_ _) | (with_reducible refine Kd.C_drew ?_)))
                    (case side2 => exact (Kd.R_reads' HO447.out).2.1)
                    (case side3 => repeat (first | exact (Kd.R_reads' HO450.out).2.2 | (with_reducible refine Kd.C_alloc ?_ _) | (with_reducible refine Kd.C_drewN ?_ _) | (with_reducible refine Kd.C_drew ?_)))
                    (case side4 => exact (Kd.R_reads' HO450.out).2.1)
                    (case side5 => repeat (first | exact (Kd.R_reads' HO453.out).2.2 | (with_reducible refine Kd.C_alloc ?_ _) | (with_reducible refine Kd.C_drewN ?_ _) | (with_reducible refine Kd.C_drew ?_)))
                    (case side6 => exact (Kd.R_reads' HO453.out).2.1)
                    (case side7 => repeat (first | exact (Kd.R_reads' HO456.out).2.2 | (with_reducible refine Kd.C_alloc ?_ _) | (with_reducible refine Kd.C_drewN ?_ _) | (with_reducible refine Kd.C_drew ?_)))
                    (case side8 => exact (Kd.R_reads' HO456.out).2.1)
                    rintro e w151 ⟨v458, v461, rfl, ho0, ho1, hb⟩
                    refine ⟨_, rfl, ?_⟩
                    have HO459 := Zj (Zv (Zv (Zv (Zv (Zv (Zv (Zv (Zv (Zv (Zv (Zv (Zv ho0 HO_397000) HO_397001) HO_404000) HO_404001) HO_411000) HO_411001) HO_419000) HO_419001) HO447) HO450) HO453) HO456) HB; have HO462 := Zj (Zv (Zv (Zv (Zv (Zv (Zv (Zv (Zv (Zv (Zv (Zv (Zv ho1 HO_397000) HO_397001) HO_404000) HO_404001) HO_411000) HO_411001) HO_419000) HO_419001) HO447) HO450) HO453) HO456) HB; replace HO_397000 := Zu HO_397000 hb ho0 ho1; replace HO_397001 := Zu HO_397001 hb ho0 ho1; replace HO_404000 := Zu HO_404000 hb ho0 ho1; replace HO_404001 := Zu HO_404001 hb ho0 ho1; replace HO_411000 := Zu HO_411000 hb ho0 ho1; replace HO_411001 := Zu HO_411001 hb ho0 ho1; replace HO_419000 := Zu HO_419000 hb ho0 ho1; replace HO_419001 := Zu HO_419001 hb ho0 ho1; replace HO447 := Zu HO447 hb ho0 ho1; replace HO450 := Zu HO450 hb ho0 ho1; replace HO453 := Zu HO453 hb ho0 ho1; replace HO456 := Zu HO456 hb ho0 ho1; replace BK373 := Zk BK373 hb; replace BK374 := Zk BK374 hb; replace BK396 := Zk BK396 hb; replace BK403 := Zk BK403 hb; replace BK410 := Zk BK410 hb; replace BK418 := Zk BK418 hb; replace HB := Zh HB hb
                    (try clear hb)
                    (try clear hb2)
                    (try clear hk)
                    (try clear hi)
                    (try clear ho0)
                    (try clear ho1)
                    refine hK.out _ _ ⟨(blk_cell BK373.out 0).trans rfl, (blk_cell BK373.out 1).trans rfl, (blk_cell BK374.out 0).trans rfl, (blk_cell BK374.out 1).trans rfl⟩ (fun hHeld => ?_)
                    clear hK K
                    refine norm_ (a' := ?_) ?_ ?_
                    rotate_left
                    ·
                     show Act.put _ (some 99) _ = _
                     simp only [Act.put, List.setIfInBounds_toArray, List.set_cons_zero, List.set_cons_succ, i64_w, i32_w]
                     rfl
                    refine pure_ (i := 5) (N := some 94) (v := ?_) (a' := ?_) #[true, true, true, true, true, true, false, false, false, false, false] rfl rfl (any_of HT_.out (by kernel_rfl)) (fun _ _ _ h => h) (Or.inl ⟨by rfl, ?_⟩) ?_ ?_
                    rotate_left
                    ·
                     intro w'
                     go_simp
                     with_reducible rfl
                    rotate_left
                    ·
                     simp only [Act.put, List.setIfInBounds_toArray, List.set_cons_zero, List.set_cons_succ, i64_w, i32_w]
                     rfl
                    refine pure_ (i := 6) (N := some 100) (v := ?_) (a' := ?_) #[true, true, true, true, true, true, true, false, false, false, false] rfl rfl (any_of HT_.out (by kernel_rfl)) (fun _ _ _ h => h) (Or.inl ⟨by rfl, ?_⟩) ?_ ?_
                    rotate_left
                    ·
                     intro w'
                     go_simp
                     with_reducible rfl
                    rotate_left
                    ·
                     simp only [Act.put, List.setIfInBounds_toArray, List.set_cons_zero, List.set_cons_succ, i64_w, i32_w]
                     rfl
                    refine pure_ (i := 7) (N := some 101) (v := ?_) (a' := ?_) #[true, true, true, true, true, true, true, true, false, false, false] rfl rfl (any_of HT_.out (by kernel_rfl)) (fun _ _ _ h => h) (Or.inl ⟨by rfl, ?_⟩) ?_ ?_
                    rotate_left
                    ·
                     intro w'
                     go_simp
                     with_reducible rfl
                    rotate_left
                    ·
                     simp only [Act.put, List.setIfInBounds_toArray, List.set_cons_zero, List.set_cons_succ, i64_w, i32_w]
                     rfl
                    refine one_ (i := 8) (N := some 15) #[true, true, true, true, true, true, true, true, true, false, false] rfl rfl (one_of HT_.out (by kernel_rfl)) (by decide) (fun K hK => ?_)
                    refine box_step ?hg (N := 15) ?hd (cs := #[.slice none 0 0, .slice none 0 0]) (t := 36) ?hr ?_; (case hd => rfl); (case hg => rfl); (case hr => first | (go_simp; done) | (go_simp; rfl))
                    intro gb464 hg w152 hbox hb
                    replace HO_397000 := Zo HO_397000 hb; replace HO_397001 := Zo HO_397001 hb; replace HO_404000 := Zo HO_404000 hb; replace HO_404001 := Zo HO_404001 hb; replace HO_411000 := Zo HO_411000 hb; replace HO_411001 := Zo HO_411001 hb; replace HO_419000 := Zo HO_419000 hb; replace HO_419001 := Zo HO_419001 hb; replace HO447 := Zo HO447 hb; replace HO450 := Zo HO450 hb; replace HO453 := Zo HO453 hb; replace HO456 := Zo HO456 hb; replace HO459 := Zo HO459 hb; replace HO462 := Zo HO462 hb; have BK464 := Zm (hbox); have GW464 := Zx hg HB; have GE464 := Zx hg HB; replace HB := Zh HB hb; have NB373_464 := Zq hg BK373; have NB464_373 := Zp hg BK373; replace BK373 := Zk BK373 hb; have NB374_464 := Zq hg BK374; have NB464_374 := Zp hg BK374; replace BK374 := Zk BK374 hb; have NB396_464 := Zq hg BK396; have NB464_396 := Zp hg BK396; replace BK396 := Zk BK396 hb; have NB403_464 := Zq hg BK403; have NB464_403 := Zp hg BK403; replace BK403 := Zk BK403 hb; have NB410_464 := Zq hg BK410; have NB464_410 := Zp hg BK410; replace BK410 := Zk BK410 hb; have NB418_464 := Zq hg BK418; have NB464_418 := Zp hg BK418; replace BK418 := Zk BK418 hb; clear hb hbox hg
                    refine hK.out _ _ ⟨(blk_cell BK373.out 0).trans rfl, (blk_cell BK373.out 1).trans rfl, (blk_cell BK374.out 0).trans rfl, (blk_cell BK374.out 1).trans rfl⟩ (fun hHeld => ?_)
                    clear hK K
                    refine norm_ (a' := ?_) ?_ ?_
                    rotate_left
                    ·
                     show Act.put _ (some 15) _ = _
                     simp only [Act.put, List.setIfInBounds_toArray, List.set_cons_zero, List.set_cons_succ, i64_w, i32_w]
                     rfl
                    exact norm_ (by simp only [putAll, Act.put, List.setIfInBounds_toArray, List.set_cons_zero, List.set_cons_succ]) (hCont (.slice Ao147 t445.length co147, .slice Ao148 t448.length co148, .slice Ao149 t451.length co149, .slice Ao150 t454.length co150, v458, v461, gb464) _ ⟨hHeld, (Zc HO447), (Zc HO450), (Zc HO453), (Zc HO456), (Zc HO459), (Zc HO462), (Zc HO_397000), (Zc HO_397001), (Zc HO_404000), (Zc HO_404001), (Zc HO_411000), (Zc HO_411001), (Zc HO_419000), (Zc HO_419001), (Zb BK373), (Zb BK374), (Zb BK396), (Zb BK403), (Zb BK410), (Zb BK418), (Zb BK464), GW464.out, GE464.out, NB373_464.out, NB464_373.out, NB374_464.out, NB464_374.out, NB396_464.out, NB464_396.out, NB403_464.out, NB464_403.out, NB410_464.out, NB464_410.out, NB418_464.out, NB464_418.out, (Zl HB)⟩)
                   ·
                    skip
                    refine box_step ?hg (N := 15) ?hd (cs := #[.slice none 0 0, .slice none 0 0]) (t := 36) ?hr ?_; (case hd => rfl); (case hg => rfl); (case hr => first | (go_simp; done) | (go_simp; rfl))
                    intro gb464 hg w147 hbox hb
                    replace HO_397000 := Zo HO_397000 hb; replace HO_397001 := Zo HO_397001 hb; replace HO_404000 := Zo HO_404000 hb; replace HO_404001 := Zo HO_404001 hb; replace HO_411000 := Zo HO_411000 hb; replace HO_411001 := Zo HO_411001 hb; replace HO_419000 := Zo HO_419000 hb; replace HO_419001 := Zo HO_419001 hb; replace HO447 := Zo HO447 hb; replace HO450 := Zo HO450 hb; replace HO453 := Zo HO453 hb; replace HO456 := Zo HO456 hb; have BK464 := Zm (hbox); have GW464 := Zx hg HB; have GE464 := Zx hg HB; replace HB := Zh HB hb; have NB373_464 := Zq hg BK373; have NB464_373 := Zp hg BK373; replace BK373 := Zk BK373 hb; have NB374_464 := Zq hg BK374; have NB464_374 := Zp hg BK374; replace BK374 := Zk BK374 hb; have NB396_464 := Zq hg BK396; have NB464_396 := Zp hg BK396; replace BK396 := Zk BK396 hb; have NB403_464 := Zq hg BK403; have NB464_403 := Zp hg BK403; replace BK403 := Zk BK403 hb; have NB410_464 := Zq hg BK410; have NB464_410 := Zp hg BK410; replace BK410 := Zk BK410 hb; have NB418_464 := Zq hg BK418; have NB464_418 := Zp hg BK418; replace BK418 := Zk BK418 hb; clear hb hbox hg
                    obtain ⟨Ao148, co148, eo148⟩ := Kd.R_slice HO447.out
                    (first | subst eo148 | (injection eo148 with f1_ f2_ f3_; have f4_ := f1_.symm; have f5_ := f3_.symm; clear f1_ f2_ f3_; subst f4_; subst f5_))
                    obtain ⟨Ao149, co149, eo149⟩ := Kd.R_slice HO450.out
                    (first | subst eo149 | (injection eo149 with f1_ f2_ f3_; have f4_ := f1_.symm; have f5_ := f3_.symm; clear f1_ f2_ f3_; subst f4_; subst f5_))
                    obtain ⟨Ao150, co150, eo150⟩ := Kd.R_slice HO453.out
                    (first | subst eo150 | (injection eo150 with f1_ f2_ f3_; have f4_ := f1_.symm; have f5_ := f3_.symm; clear f1_ f2_ f3_; subst f4_; subst f5_))
                    obtain ⟨Ao151, co151, eo151⟩ := Kd.R_slice HO456.out
                    (first | subst eo151 | (injection eo151 with f1_ f2_ f3_; have f4_ := f1_.symm; have f5_ := f3_.symm; clear f1_ f2_ f3_; subst f4_; subst f5_))
                    refine hK.out _ _ ⟨(blk_cell BK373.out 0).trans rfl, (blk_cell BK373.out 1).trans rfl, (blk_cell BK374.out 0).trans rfl, (blk_cell BK374.out 1).trans rfl⟩ (fun hHeld => ?_)
                    clear hK K
                    refine norm_ (a' := ?_) ?_ ?_
                    rotate_left
                    ·
                     show Act.put _ (some 15) _ = _
                     simp only [Act.put, List.setIfInBounds_toArray, List.set_cons_zero, List.set_cons_succ, i64_w, i32_w]
                     rfl
                    refine one_ (i := 4) (N := some 99) #[true, true, true, true, true, false, false, false, true, false, false] rfl rfl (one_of HT_.out (by kernel_rfl)) (by decide) (fun K hK => ?_)
                    refine goes_ Try.func19 (by kernel_rfl) rfl #[.agg #[.slice Ao148 t445.length co148, .slice Ao149 t448.length co149], .agg #[.slice Ao150 t451.length co150, .slice Ao151 t454.length co151]] (by rfl) rfl rfl (by (try simp only [List.map_toArray, List.map_cons, List.map_nil]); first | done | rfl) ?_
                    with_reducible refine (impl_ThenTurned.calls kj35 _ _ t445 _ _ t448 _ _ t451 _ _ t454 t457 t460 t463 _ ?side1 ?side2 ?side3 ?side4 ?side5 ?side6 ?side7 ?side8 A128.out).mono ?_
                    (case side1 => repeat (first | exact (Kd.R_reads' HO447.out).2.2 | (with_reducible refine Kd.C_alloc ?_ _) | (with_reducible refine Kd.C_drewN ?_ _) | (with_reducible refine Kd.C_drew ?_)))
                    (case side2 => exact (Kd.R_reads' HO447.out).2.1)
                    (case side3 => repeat (first | exact (Kd.R_reads' HO450.out).2.2 | (with_reducible refine Kd.C_alloc ?_ _) | (with_reducible refine Kd.C_drewN ?_ _) | (with_reducible refine Kd.C_drew ?_)))
                    (case side4 => exact (Kd.R_reads' HO450.out).2.1)
                    (case side5 => repeat (first | exact (Kd.R_reads' HO453.out).2.2 | (with_reducible refine Kd.C_alloc ?_ _) | (with_reducible refine Kd.C_drewN ?_ _) | (with_reducible refine Kd.C_drew ?_)))
                    (case side6 => exact (Kd.R_reads' HO453.out).2.1)
                    (case side7 => repeat (first | exact (Kd.R_reads' HO456.out).2.2 | (with_reducible refine Kd.C_alloc ?_ _) | (with_reducible refine Kd.C_drewN ?_ _) | (with_reducible refine Kd.C_drew ?_)))
                    (case side8 => exact (Kd.R_reads' HO456.out).2.1)
                    rintro e w152 ⟨v458, v461, rfl, ho0, ho1, hb⟩
                    refine ⟨_, rfl, ?_⟩
                    have HO459 := Zj (Zv (Zv (Zv (Zv (Zv (Zv (Zv (Zv (Zv (Zv (Zv (Zv ho0 HO_397000) HO_397001) HO_404000) HO_404001) HO_411000) HO_411001) HO_419000) HO_419001) HO447) HO450) HO453) HO456) HB; have HO462 := Zj (Zv (Zv (Zv (Zv (Zv (Zv (Zv (Zv (Zv (Zv (Zv (Zv ho1 HO_397000) HO_397001) HO_404000) HO_404001) HO_411000) HO_411001) HO_419000) HO_419001) HO447) HO450) HO453) HO456) HB; replace HO_397000 := Zu HO_397000 hb ho0 ho1; replace HO_397001 := Zu HO_397001 hb ho0 ho1; replace HO_404000 := Zu HO_404000 hb ho0 ho1; replace HO_404001 := Zu HO_404001 hb ho0 ho1; replace HO_411000 := Zu HO_411000 hb ho0 ho1; replace HO_411001 := Zu HO_411001 hb ho0 ho1; replace HO_419000 := Zu HO_419000 hb ho0 ho1; replace HO_419001 := Zu HO_419001 hb ho0 ho1; replace HO447 := Zu HO447 hb ho0 ho1; replace HO450 := Zu HO450 hb ho0 ho1; replace HO453 := Zu HO453 hb ho0 ho1; replace HO456 := Zu HO456 hb ho0 ho1; replace BK373 := Zk BK373 hb; replace BK374 := Zk BK374 hb; replace BK396 := Zk BK396 hb; replace BK403 := Zk BK403 hb; replace BK410 := Zk BK410 hb; replace BK418 := Zk BK418 hb; replace BK464 := Zk BK464 hb; replace HB := Zh HB hb
                    (try clear hb)
                    (try clear hb2)
                    (try clear hk)
                    (try clear hi)
                    (try clear ho0)
                    (try clear ho1)
                    refine hK.out _ _ ⟨(blk_cell BK373.out 0).trans rfl, (blk_cell BK373.out 1).trans rfl, (blk_cell BK374.out 0).trans rfl, (blk_cell BK374.out 1).trans rfl⟩ (fun hHeld => ?_)
                    clear hK K
                    refine norm_ (a' := ?_) ?_ ?_
                    rotate_left
                    ·
                     show Act.put _ (some 99) _ = _
                     simp only [Act.put, List.setIfInBounds_toArray, List.set_cons_zero, List.set_cons_succ, i64_w, i32_w]
                     rfl
                    refine pure_ (i := 5) (N := some 94) (v := ?_) (a' := ?_) #[true, true, true, true, true, true, false, false, true, false, false] rfl rfl (any_of HT_.out (by kernel_rfl)) (fun _ _ _ h => h) (Or.inl ⟨by rfl, ?_⟩) ?_ ?_
                    rotate_left
                    ·
                     intro w'
                     go_simp
                     with_reducible rfl
                    rotate_left
                    ·
                     simp only [Act.put, List.setIfInBounds_toArray, List.set_cons_zero, List.set_cons_succ, i64_w, i32_w]
                     rfl
                    refine pure_ (i := 6) (N := some 100) (v := ?_) (a' := ?_) #[true, true, true, true, true, true, true, false, true, false, false] rfl rfl (any_of HT_.out (by kernel_rfl)) (fun _ _ _ h => h) (Or.inl ⟨by rfl, ?_⟩) ?_ ?_
                    rotate_left
                    ·
                     intro w'
                     go_simp
                     with_reducible rfl
                    rotate_left
                    ·
                     simp only [Act.put, List.setIfInBounds_toArray, List.set_cons_zero, List.set_cons_succ, i64_w, i32_w]
                     rfl
                    refine pure_ (i := 7) (N := some 101) (v := ?_) (a' := ?_) #[true, true, true, true, true, true, true, true, true, false, false] rfl rfl (any_of HT_.out (by kernel_rfl)) (fun _ _ _ h => h) (Or.inl ⟨by rfl, ?_⟩) ?_ ?_
                    rotate_left
                    ·
                     intro w'
                     go_simp
                     with_reducible rfl
                    rotate_left
                    ·
                     simp only [Act.put, List.setIfInBounds_toArray, List.set_cons_zero, List.set_cons_succ, i64_w, i32_w]
                     rfl
                    exact norm_ (by simp only [putAll, Act.put, List.setIfInBounds_toArray, List.set_cons_zero, List.set_cons_succ]) (hCont (.slice Ao148 t445.length co148, .slice Ao149 t448.length co149, .slice Ao150 t451.length co150, .slice Ao151 t454.length co151, v458, v461, gb464) _ ⟨hHeld, (Zc HO447), (Zc HO450), (Zc HO453), (Zc HO456), (Zc HO459), (Zc HO462), (Zc HO_397000), (Zc HO_397001), (Zc HO_404000), (Zc HO_404001), (Zc HO_411000), (Zc HO_411001), (Zc HO_419000), (Zc HO_419001), (Zb BK373), (Zb BK374), (Zb BK396), (Zb BK403), (Zb BK410), (Zb BK418), (Zb BK464), GW464.out, GE464.out, NB373_464.out, NB464_373.out, NB374_464.out, NB464_374.out, NB396_464.out, NB464_396.out, NB403_464.out, NB464_403.out, NB410_464.out, NB464_410.out, NB418_464.out, NB464_418.out, (Zl HB)⟩)
                  ·
                   skip
                   refine box_step ?hg (N := 15) ?hd (cs := #[.slice none 0 0, .slice none 0 0]) (t := 36) ?hr ?_; (case hd => rfl); (case hg => rfl); (case hr => first | (go_simp; done) | (go_simp; rfl))
                   intro gb464 hg w146 hbox hb
                   replace HO_397000 := Zo HO_397000 hb; replace HO_397001 := Zo HO_397001 hb; replace HO_404000 := Zo HO_404000 hb; replace HO_404001 := Zo HO_404001 hb; replace HO_411000 := Zo HO_411000 hb; replace HO_411001 := Zo HO_411001 hb; replace HO_419000 := Zo HO_419000 hb; replace HO_419001 := Zo HO_419001 hb; replace HO447 := Zo HO447 hb; replace HO450 := Zo HO450 hb; have BK464 := Zm (hbox); have GW464 := Zx hg HB; have GE464 := Zx hg HB; replace HB := Zh HB hb; have NB373_464 := Zq hg BK373; have NB464_373 := Zp hg BK373; replace BK373 := Zk BK373 hb; have NB374_464 := Zq hg BK374; have NB464_374 := Zp hg BK374; replace BK374 := Zk BK374 hb; have NB396_464 := Zq hg BK396; have NB464_396 := Zp hg BK396; replace BK396 := Zk BK396 hb; have NB403_464 := Zq hg BK403; have NB464_403 := Zp hg BK403; replace BK403 := Zk BK403 hb; have NB410_464 := Zq hg BK410; have NB464_410 := Zp hg BK410; replace BK410 := Zk BK410 hb; have NB418_464 := Zq hg BK418; have NB464_418 := Zp hg BK418; replace BK418 := Zk BK418 hb; clear hb hbox hg
                   refine hK.out _ _ ⟨(blk_cell BK373.out 0).trans rfl, (blk_cell BK373.out 1).trans rfl, (blk_cell BK374.out 0).trans rfl, (blk_cell BK374.out 1).trans rfl⟩ (fun hHeld => ?_)
                   clear hK K
                   refine norm_ (a' := ?_) ?_ ?_
                   rotate_left
                   ·
                    show Act.put _ (some 15) _ = _
                    simp only [Act.put, List.setIfInBounds_toArray, List.set_cons_zero, List.set_cons_succ, i64_w, i32_w]
                    rfl
                   refine one_ (i := 3) (N := some 98) #[true, true, true, true, false, false, false, false, true, false, false] rfl rfl (one_of HT_.out (by kernel_rfl)) (by decide) (fun K hK => ?_)
                   refine goes_ Try.func18 (by kernel_rfl) rfl #[.agg #[.slice A1_0 l1_0.length c1_0, .slice A1_1 l1_1.length c1_1]] (by rfl) rfl rfl (by (try simp only [List.map_toArray, List.map_cons, List.map_nil]); first | done | rfl) ?_
                   with_reducible refine (laws_toTurned.calls kj35 _ _ l1_0 _ _ l1_1 t451 t454 _ ?side1 ?side2 ?side3 ?side4 A127.out).mono ?_
                   (case side1 => repeat (first | exact (Kd.C_below HR1_0.out HB.out) | (with_reducible refine Kd.C_alloc ?_ _) | (with_reducible refine Kd.C_drewN ?_ _) | (with_reducible refine Kd.C_drew ?_)))
                   (case side2 => exact HC1_0.out)
                   (case side3 => repeat (first | exact (Kd.C_below HR1_1.out HB.out) | (with_reducible refine Kd.C_alloc ?_ _) | (with_reducible refine Kd.C_drewN ?_ _) | (with_reducible refine Kd.C_drew ?_)))
                   (case side4 => exact HC1_1.out)
                   rintro e w147 ⟨v452, v455, rfl, ho0, ho1, hb⟩
                   refine ⟨_, rfl, ?_⟩
                   have HO453 := Zj (Zv (Zv (Zv (Zv (Zv (Zv (Zv (Zv (Zv (Zv ho0 HO_397000) HO_397001) HO_404000) HO_404001) HO_411000) HO_411001) HO_419000) HO_419001) HO447) HO450) HB; have HO456 := Zj (Zv (Zv (Zv (Zv (Zv (Zv (Zv (Zv (Zv (Zv ho1 HO_397000) HO_397001) HO_404000) HO_404001) HO_411000) HO_411001) HO_419000) HO_419001) HO447) HO450) HB; replace HO_397000 := Zu HO_397000 hb ho0 ho1; replace HO_397001 := Zu HO_397001 hb ho0 ho1; replace HO_404000 := Zu HO_404000 hb ho0 ho1; replace HO_404001 := Zu HO_404001 hb ho0 ho1; replace HO_411000 := Zu HO_411000 hb ho0 ho1; replace HO_411001 := Zu HO_411001 hb ho0 ho1; replace HO_419000 := Zu HO_419000 hb ho0 ho1; replace HO_419001 := Zu HO_419001 hb ho0 ho1; replace HO447 := Zu HO447 hb ho0 ho1; replace HO450 := Zu HO450 hb ho0 ho1; replace BK373 := Zk BK373 hb; replace BK374 := Zk BK374 hb; replace BK396 := Zk BK396 hb; replace BK403 := Zk BK403 hb; replace BK410 := Zk BK410 hb; replace BK418 := Zk BK418 hb; replace BK464 := Zk BK464 hb; replace HB := Zh HB hb
                   (try clear hb)
                   (try clear hb2)
                   (try clear hk)
                   (try clear hi)
                   (try clear ho0)
                   (try clear ho1)
                   obtain ⟨Ao148, co148, eo148⟩ := Kd.R_slice HO447.out
                   (first | subst eo148 | (injection eo148 with f1_ f2_ f3_; have f4_ := f1_.symm; have f5_ := f3_.symm; clear f1_ f2_ f3_; subst f4_; subst f5_))
                   obtain ⟨Ao149, co149, eo149⟩ := Kd.R_slice HO450.out
                   (first | subst eo149 | (injection eo149 with f1_ f2_ f3_; have f4_ := f1_.symm; have f5_ := f3_.symm; clear f1_ f2_ f3_; subst f4_; subst f5_))
                   obtain ⟨Ao150, co150, eo150⟩ := Kd.R_slice HO453.out
                   (first | subst eo150 | (injection eo150 with f1_ f2_ f3_; have f4_ := f1_.symm; have f5_ := f3_.symm; clear f1_ f2_ f3_; subst f4_; subst f5_))
                   obtain ⟨Ao151, co151, eo151⟩ := Kd.R_slice HO456.out
                   (first | subst eo151 | (injection eo151 with f1_ f2_ f3_; have f4_ := f1_.symm; have f5_ := f3_.symm; clear f1_ f2_ f3_; subst f4_; subst f5_))
                   refine hK.out _ _ ⟨(blk_cell BK373.out 0).trans rfl, (blk_cell BK373.out 1).trans rfl, (blk_cell BK374.out 0).trans rfl, (blk_cell BK374.out 1).trans rfl⟩ (fun hHeld => ?_)
                   clear hK K
                   refine norm_ (a' := ?_) ?_ ?_
                   rotate_left
                   ·
                    show Act.put _ (some 98) _ = _
                    simp only [Act.put, List.setIfInBounds_toArray, List.set_cons_zero, List.set_cons_succ, i64_w, i32_w]
                    rfl
                   refine one_ (i := 4) (N := some 99) #[true, true, true, true, true, false, false, false, true, false, false] rfl rfl (one_of HT_.out (by kernel_rfl)) (by decide) (fun K hK => ?_)
                   refine goes_ Try.func19 (by kernel_rfl) rfl #[.agg #[.slice Ao148 t445.length co148, .slice Ao149 t448.length co149], .agg #[.slice Ao150 t451.length co150, .slice Ao151 t454.length co151]] (by rfl) rfl rfl (by (try simp only [List.map_toArray, List.map_cons, List.map_nil]); first | done | rfl) ?_
                   with_reducible refine (impl_ThenTurned.calls kj35 _ _ t445 _ _ t448 _ _ t451 _ _ t454 t457 t460 t463 _ ?side1 ?side2 ?side3 ?side4 ?side5 ?side6 ?side7 ?side8 A128.out).mono ?_
                   (case side1 => repeat (first | exact (Kd.R_reads' HO447.out).2.2 | (with_reducible refine Kd.C_alloc ?_ _) | (with_reducible refine Kd.C_drewN ?_ _) | (with_reducible refine Kd.C_drew ?_)))
                   (case side2 => exact (Kd.R_reads' HO447.out).2.1)
                   (case side3 => repeat (first | exact (Kd.R_reads' HO450.out).2.2 | (with_reducible refine Kd.C_alloc ?_ _) | (with_reducible refine Kd.C_drewN ?_ _) | (with_reducible refine Kd.C_drew ?_)))
                   (case side4 => exact (Kd.R_reads' HO450.out).2.1)
                   (case side5 => repeat (first | exact (Kd.R_reads' HO453.out).2.2 | (with_reducible refine Kd.C_alloc ?_ _) | (with_reducible refine Kd.C_drewN ?_ _) | (with_reducible refine Kd.C_drew ?_)))
                   (case side6 => exact (Kd.R_reads' HO453.out).2.1)
                   (case side7 => repeat (first | exact (Kd.R_reads' HO456.out).2.2 | (with_reducible refine Kd.C_alloc ?_ _) | (with_reducible refine Kd.C_drewN ?_ _) | (with_reducible refine Kd.C_drew ?_)))
                   (case side8 => exact (Kd.R_reads' HO456.out).2.1)
                   rintro e w152 ⟨v458, v461, rfl, ho0, ho1, hb⟩
                   refine ⟨_, rfl, ?_⟩
                   have HO459 := Zj (Zv (Zv (Zv (Zv (Zv (Zv (Zv (Zv (Zv (Zv (Zv (Zv ho0 HO_397000) HO_397001) HO_404000) HO_404001) HO_411000) HO_411001) HO_419000) HO_419001) HO447) HO450) HO453) HO456) HB; have HO462 := Zj (Zv (Zv (Zv (Zv (Zv (Zv (Zv (Zv (Zv (Zv (Zv (Zv ho1 HO_397000) HO_397001) HO_404000) HO_404001) HO_411000) HO_411001) HO_419000) HO_419001) HO447) HO450) HO453) HO456) HB; replace HO_397000 := Zu HO_397000 hb ho0 ho1; replace HO_397001 := Zu HO_397001 hb ho0 ho1; replace HO_404000 := Zu HO_404000 hb ho0 ho1; replace HO_404001 := Zu HO_404001 hb ho0 ho1; replace HO_411000 := Zu HO_411000 hb ho0 ho1; replace HO_411001 := Zu HO_411001 hb ho0 ho1; replace HO_419000 := Zu HO_419000 hb ho0 ho1; replace HO_419001 := Zu HO_419001 hb ho0 ho1; replace HO447 := Zu HO447 hb ho0 ho1; replace HO450 := Zu HO450 hb ho0 ho1; replace HO453 := Zu HO453 hb ho0 ho1; replace HO456 := Zu HO456 hb ho0 ho1; replace BK373 := Zk BK373 hb; replace BK374 := Zk BK374 hb; replace BK396 := Zk BK396 hb; replace BK403 := Zk BK403 hb; replace BK410 := Zk BK410 hb; replace BK418 := Zk BK418 hb; replace BK464 := Zk BK464 hb; replace HB := Zh HB hb
                   (try clear hb)
                   (try clear hb2)
                   (try clear hk)
                   (try clear hi)
                   (try clear ho0)
                   (try clear ho1)
                   refine hK.out _ _ ⟨(blk_cell BK373.out 0).trans rfl, (blk_cell BK373.out 1).trans rfl, (blk_cell BK374.out 0).trans rfl, (blk_cell BK374.out 1).trans rfl⟩ (fun hHeld => ?_)
                   clear hK K
                   refine norm_ (a' := ?_) ?_ ?_
                   rotate_left
                   ·
                    show Act.put _ (some 99) _ = _
                    simp only [Act.put, List.setIfInBounds_toArray, List.set_cons_zero, List.set_cons_succ, i64_w, i32_w]
                    rfl
                   refine pure_ (i := 5) (N := some 94) (v := ?_) (a' := ?_) #[true, true, true, true, true, true, false, false, true, false, false] rfl rfl (any_of HT_.out (by kernel_rfl)) (fun _ _ _ h => h) (Or.inl ⟨by rfl, ?_⟩) ?_ ?_
                   rotate_left
                   ·
                    intro w'
                    go_simp
                    with_reducible rfl
                   rotate_left
                   ·
                    simp only [Act.put, List.setIfInBounds_toArray, List.set_cons_zero, List.set_cons_succ, i64_w, i32_w]
                    rfl
                   refine pure_ (i := 6) (N := some 100) (v := ?_) (a' := ?_) #[true, true, true, true, true, true, true, false, true, false, false] rfl rfl (any_of HT_.out (by kernel_rfl)) (fun _ _ _ h => h) (Or.inl ⟨by rfl, ?_⟩) ?_ ?_
                   rotate_left
                   ·
                    intro w'
                    go_simp
                    with_reducible rfl
                   rotate_left
                   ·
                    simp only [Act.put, List.setIfInBounds_toArray, List.set_cons_zero, List.set_cons_succ, i64_w, i32_w]
                    rfl
                   refine pure_ (i := 7) (N := some 101) (v := ?_) (a' := ?_) #[true, true, true, true, true, true, true, true, true, false, false] rfl rfl (any_of HT_.out (by kernel_rfl)) (fun _ _ _ h => h) (Or.inl ⟨by rfl, ?_⟩) ?_ ?_
                   rotate_left
                   ·
                    intro w'
                    go_simp
                    with_reducible rfl
                   rotate_left
                   ·
                    simp only [Act.put, List.setIfInBounds_toArray, List.set_cons_zero, List.set_cons_succ, i64_w, i32_w]
                    rfl
                   exact norm_ (by simp only [putAll, Act.put, List.setIfInBounds_toArray, List.set_cons_zero, List.set_cons_succ]) (hCont (.slice Ao148 t445.length co148, .slice Ao149 t448.length co149, .slice Ao150 t451.length co150, .slice Ao151 t454.length co151, v458, v461, gb464) _ ⟨hHeld, (Zc HO447), (Zc HO450), (Zc HO453), (Zc HO456), (Zc HO459), (Zc HO462), (Zc HO_397000), (Zc HO_397001), (Zc HO_404000), (Zc HO_404001), (Zc HO_411000), (Zc HO_411001), (Zc HO_419000), (Zc HO_419001), (Zb BK373), (Zb BK374), (Zb BK396), (Zb BK403), (Zb BK410), (Zb BK418), (Zb BK464), GW464.out, GE464.out, NB373_464.out, NB464_373.out, NB374_464.out, NB464_374.out, NB396_464.out, NB464_396.out, NB403_464.out, NB464_403.out, NB410_464.out, NB464_410.out, NB418_464.out, NB464_418.out, (Zl HB)⟩)
                 ·
                  skip
                  refine box_step ?hg (N := 15) ?hd (cs := #[.slice none 0 0, .slice none 0 0]) (t := 36) ?hr ?_; (case hd => rfl); (case hg => rfl); (case hr => first | (go_simp; done) | (go_simp; rfl))
                  intro gb464 hg w145 hbox hb
                  replace HO_397000 := Zo HO_397000 hb; replace HO_397001 := Zo HO_397001 hb; replace HO_404000 := Zo HO_404000 hb; replace HO_404001 := Zo HO_404001 hb; replace HO_411000 := Zo HO_411000 hb; replace HO_411001 := Zo HO_411001 hb; replace HO_419000 := Zo HO_419000 hb; replace HO_419001 := Zo HO_419001 hb; have BK464 := Zm (hbox); have GW464 := Zx hg HB; have GE464 := Zx hg HB; replace HB := Zh HB hb; have NB373_464 := Zq hg BK373; have NB464_373 := Zp hg BK373; replace BK373 := Zk BK373 hb; have NB374_464 := Zq hg BK374; have NB464_374 := Zp hg BK374; replace BK374 := Zk BK374 hb; have NB396_464 := Zq hg BK396; have NB464_396 := Zp hg BK396; replace BK396 := Zk BK396 hb; have NB403_464 := Zq hg BK403; have NB464_403 := Zp hg BK403; replace BK403 := Zk BK403 hb; have NB410_464 := Zq hg BK410; have NB464_410 := Zp hg BK410; replace BK410 := Zk BK410 hb; have NB418_464 := Zq hg BK418; have NB464_418 := Zp hg BK418; replace BK418 := Zk BK418 hb; clear hb hbox hg
                  refine hK.out _ _ ⟨(blk_cell BK373.out 0).trans rfl, (blk_cell BK373.out 1).trans rfl, (blk_cell BK374.out 0).trans rfl, (blk_cell BK374.out 1).trans rfl⟩ (fun hHeld => ?_)
                  clear hK K
                  refine norm_ (a' := ?_) ?_ ?_
                  rotate_left
                  ·
                   show Act.put _ (some 15) _ = _
                   simp only [Act.put, List.setIfInBounds_toArray, List.set_cons_zero, List.set_cons_succ, i64_w, i32_w]
                   rfl
                  refine one_ (i := 1) (N := some 96) #[true, true, true, false, false, false, false, false, true, false, false] rfl rfl (one_of HT_.out (by kernel_rfl)) (by decide) (fun K hK => ?_)
                  refine goes_ Try.func18 (by kernel_rfl) rfl #[.agg #[.slice A0_0 l0_0.length c0_0, .slice A0_1 l0_1.length c0_1]] (by rfl) rfl rfl (by (try simp only [List.map_toArray, List.map_cons, List.map_nil]); first | done | rfl) ?_
                  with_reducible refine (laws_toTurned.calls kj35 _ _ l0_0 _ _ l0_1 t445 t448 _ ?side1 ?side2 ?side3 ?side4 A126.out).mono ?_
                  (case side1 => repeat (first | exact (Kd.C_below HR0_0.out HB.out) | (with_reducible refine Kd.C_alloc ?_ _) | (with_reducible refine Kd.C_drewN ?_ _) | (with_reducible refine Kd.C_drew ?_)))
                  (case side2 => exact HC0_0.out)
                  (case side3 => repeat (first | exact (Kd.C_below HR0_1.out HB.out) | (with_reducible refine Kd.C_alloc ?_ _) | (with_reducible refine Kd.C_drewN ?_ _) | (with_reducible refine Kd.C_drew ?_)))
                  (case side4 => exact HC0_1.out)
                  rintro e w146 ⟨v446, v449, rfl, ho0, ho1, hb⟩
                  refine ⟨_, rfl, ?_⟩
                  have HO447 := Zj (Zv (Zv (Zv (Zv (Zv (Zv (Zv (Zv ho0 HO_397000) HO_397001) HO_404000) HO_404001) HO_411000) HO_411001) HO_419000) HO_419001) HB; have HO450 := Zj (Zv (Zv (Zv (Zv (Zv (Zv (Zv (Zv ho1 HO_397000) HO_397001) HO_404000) HO_404001) HO_411000) HO_411001) HO_419000) HO_419001) HB; replace HO_397000 := Zu HO_397000 hb ho0 ho1; replace HO_397001 := Zu HO_397001 hb ho0 ho1; replace HO_404000 := Zu HO_404000 hb ho0 ho1; replace HO_404001 := Zu HO_404001 hb ho0 ho1; replace HO_411000 := Zu HO_411000 hb ho0 ho1; replace HO_411001 := Zu HO_411001 hb ho0 ho1; replace HO_419000 := Zu HO_419000 hb ho0 ho1; replace HO_419001 := Zu HO_419001 hb ho0 ho1; replace BK373 := Zk BK373 hb; replace BK374 := Zk BK374 hb; replace BK396 := Zk BK396 hb; replace BK403 := Zk BK403 hb; replace BK410 := Zk BK410 hb; replace BK418 := Zk BK418 hb; replace BK464 := Zk BK464 hb; replace HB := Zh HB hb
                  (try clear hb)
                  (try clear hb2)
                  (try clear hk)
                  (try clear hi)
                  (try clear ho0)
                  (try clear ho1)
                  refine hK.out _ _ ⟨(blk_cell BK373.out 0).trans rfl, (blk_cell BK373.out 1).trans rfl, (blk_cell BK374.out 0).trans rfl, (blk_cell BK374.out 1).trans rfl⟩ (fun hHeld => ?_)
                  clear hK K
                  refine norm_ (a' := ?_) ?_ ?_
                  rotate_left
                  ·
                   show Act.put _ (some 96) _ = _
                   simp only [Act.put, List.setIfInBounds_toArray, List.set_cons_zero, List.set_cons_succ, i64_w, i32_w]
                   rfl
                  refine one_ (i := 3) (N := some 98) #[true, true, true, true, false, false, false, false, true, false, false] rfl rfl (one_of HT_.out (by kernel_rfl)) (by decide) (fun K hK => ?_)
                  refine goes_ Try.func18 (by kernel_rfl) rfl #[.agg #[.slice A1_0 l1_0.length c1_0, .slice A1_1 l1_1.length c1_1]] (by rfl) rfl rfl (by (try simp only [List.map_toArray, List.map_cons, List.map_nil]); first | done | rfl) ?_
                  with_reducible refine (laws_toTurned.calls kj35 _ _ l1_0 _ _ l1_1 t451 t454 _ ?side1 ?side2 ?side3 ?side4 A127.out).mono ?_
                  (case side1 => repeat (first | exact (Kd.C_below HR1_0.out HB.out) | (with_reducible refine Kd.C_alloc ?_ _) | (with_reducible refine Kd.C_drewN ?_ _) | (with_reducible refine Kd.C_drew ?_)))
                  (case side2 => exact HC1_0.out)
                  (case side3 => repeat (first | exact (Kd.C_below HR1_1.out HB.out) | (with_reducible refine Kd.C_alloc ?_ _) | (with_reducible refine Kd.C_drewN ?_ _) | (with_reducible refine Kd.C_drew ?_)))
                  (case side4 => exact HC1_1.out)
                  rintro e w147 ⟨v452, v455, rfl, ho0, ho1, hb⟩
                  refine ⟨_, rfl, ?_⟩
                  have HO453 := Zj (Zv (Zv (Zv (Zv (Zv (Zv (Zv (Zv (Zv (Zv ho0 HO_397000) HO_397001) HO_404000) HO_404001) HO_411000) HO_411001) HO_419000) HO_419001) HO447) HO450) HB; have HO456 := Zj (Zv (Zv (Zv (Zv (Zv (Zv (Zv (Zv (Zv (Zv ho1 HO_397000) HO_397001) HO_404000) HO_404001) HO_411000) HO_411001) HO_419000) HO_419001) HO447) HO450) HB; replace HO_397000 := Zu HO_397000 hb ho0 ho1; replace HO_397001 := Zu HO_397001 hb ho0 ho1; replace HO_404000 := Zu HO_404000 hb ho0 ho1; replace HO_404001 := Zu HO_404001 hb ho0 ho1; replace HO_411000 := Zu HO_411000 hb ho0 ho1; replace HO_411001 := Zu HO_411001 hb ho0 ho1; replace HO_419000 := Zu HO_419000 hb ho0 ho1; replace HO_419001 := Zu HO_419001 hb ho0 ho1; replace HO447 := Zu HO447 hb ho0 ho1; replace HO450 := Zu HO450 hb ho0 ho1; replace BK373 := Zk BK373 hb; replace BK374 := Zk BK374 hb; replace BK396 := Zk BK396 hb; replace BK403 := Zk BK403 hb; replace BK410 := Zk BK410 hb; replace BK418 := Zk BK418 hb; replace BK464 := Zk BK464 hb; replace HB := Zh HB hb
                  (try clear hb)
                  (try clear hb2)
                  (try clear hk)
                  (try clear hi)
                  (try clear ho0)
                  (try clear ho1)
                  obtain ⟨Ao148, co148, eo148⟩ := Kd.R_slice HO447.out
                  (first | subst eo148 | (injection eo148 with f1_ f2_ f3_; have f4_ := f1_.symm; have f5_ := f3_.symm; clear f1_ f2_ f3_; subst f4_; subst f5_))
                  obtain ⟨Ao149, co149, eo149⟩ := Kd.R_slice HO450.out
                  (first | subst eo149 | (injection eo149 with f1_ f2_ f3_; have f4_ := f1_.symm; have f5_ := f3_.symm; clear f1_ f2_ f3_; subst f4_; subst f5_))
                  obtain ⟨Ao150, co150, eo150⟩ := Kd.R_slice HO453.out
                  (first | subst eo150 | (injection eo150 with f1_ f2_ f3_; have f4_ := f1_.symm; have f5_ := f3_.symm; clear f1_ f2_ f3_; subst f4_; subst f5_))
                  obtain ⟨Ao151, co151, eo151⟩ := Kd.R_slice HO456.out
                  (first | subst eo151 | (injection eo151 with f1_ f2_ f3_; have f4_ := f1_.symm; have f5_ := f3_.symm; clear f1_ f2_ f3_; subst f4_; subst f5_))
                  refine hK.out _ _ ⟨(blk_cell BK373.out 0).trans rfl, (blk_cell BK373.out 1).trans rfl, (blk_cell BK374.out 0).trans rfl, (blk_cell BK374.out 1).trans rfl⟩ (fun hHeld => ?_)
                  clear hK K
                  refine norm_ (a' := ?_) ?_ ?_
                  rotate_left
                  ·
                   show Act.put _ (some 98) _ = _
                   simp only [Act.put, List.setIfInBounds_toArray, List.set_cons_zero, List.set_cons_succ, i64_w, i32_w]
                   rfl
                  refine one_ (i := 4) (N := some 99) #[true, true, true, true, true, false, false, false, true, false, false] rfl rfl (one_of HT_.out (by kernel_rfl)) (by decide) (fun K hK => ?_)
                  refine goes_ Try.func19 (by kernel_rfl) rfl #[.agg #[.slice Ao148 t445.length co148, .slice Ao149 t448.length co149], .agg #[.slice Ao150 t451.length co150, .slice Ao151 t454.length co151]] (by rfl) rfl rfl (by (try simp only [List.map_toArray, List.map_cons, List.map_nil]); first | done | rfl) ?_
                  with_reducible refine (impl_ThenTurned.calls kj35 _ _ t445 _ _ t448 _ _ t451 _ _ t454 t457 t460 t463 _ ?side1 ?side2 ?side3 ?side4 ?side5 ?side6 ?side7 ?side8 A128.out).mono ?_
                  (case side1 => repeat (first | exact (Kd.R_reads' HO447.out).2.2 | (with_reducible refine Kd.C_alloc ?_ _) | (with_reducible refine Kd.C_drewN ?_ _) | (with_reducible refine Kd.C_drew ?_)))
                  (case side2 => exact (Kd.R_reads' HO447.out).2.1)
                  (case side3 => repeat (first | exact (Kd.R_reads' HO450.out).2.2 | (with_reducible refine Kd.C_alloc ?_ _) | (with_reducible refine Kd.C_drewN ?_ _) | (with_reducible refine Kd.C_drew ?_)))
                  (case side4 => exact (Kd.R_reads' HO450.out).2.1)
                  (case side5 => repeat (first | exact (Kd.R_reads' HO453.out).2.2 | (with_reducible refine Kd.C_alloc ?_ _) | (with_reducible refine Kd.C_drewN ?_ _) | (with_reducible refine Kd.C_drew ?_)))
                  (case side6 => exact (Kd.R_reads' HO453.out).2.1)
                  (case side7 => repeat (first | exact (Kd.R_reads' HO456.out).2.2 | (with_reducible refine Kd.C_alloc ?_ _) | (with_reducible refine Kd.C_drewN ?_ _) | (with_reducible refine Kd.C_drew ?_)))
                  (case side8 => exact (Kd.R_reads' HO456.out).2.1)
                  rintro e w152 ⟨v458, v461, rfl, ho0, ho1, hb⟩
                  refine ⟨_, rfl, ?_⟩
                  have HO459 := Zj (Zv (Zv (Zv (Zv (Zv (Zv (Zv (Zv (Zv (Zv (Zv (Zv ho0 HO_397000) HO_397001) HO_404000) HO_404001) HO_411000) HO_411001) HO_419000) HO_419001) HO447) HO450) HO453) HO456) HB; have HO462 := Zj (Zv (Zv (Zv (Zv (Zv (Zv (Zv (Zv (Zv (Zv (Zv (Zv ho1 HO_397000) HO_397001) HO_404000) HO_404001) HO_411000) HO_411001) HO_419000) HO_419001) HO447) HO450) HO453) HO456) HB; replace HO_397000 := Zu HO_397000 hb ho0 ho1; replace HO_397001 := Zu HO_397001 hb ho0 ho1; replace HO_404000 := Zu HO_404000 hb ho0 ho1; replace HO_404001 := Zu HO_404001 hb ho0 ho1; replace HO_411000 := Zu HO_411000 hb ho0 ho1; replace HO_411001 := Zu HO_411001 hb ho0 ho1; replace HO_419000 := Zu HO_419000 hb ho0 ho1; replace HO_419001 := Zu HO_419001 hb ho0 ho1; replace HO447 := Zu HO447 hb ho0 ho1; replace HO450 := Zu HO450 hb ho0 ho1; replace HO453 := Zu HO453 hb ho0 ho1; replace HO456 := Zu HO456 hb ho0 ho1; replace BK373 := Zk BK373 hb; replace BK374 := Zk BK374 hb; replace BK396 := Zk BK396 hb; replace BK403 := Zk BK403 hb; replace BK410 := Zk BK410 hb; replace BK418 := Zk BK418 hb; replace BK464 := Zk BK464 hb; replace HB := Zh HB hb
                  (try clear hb)
                  (try clear hb2)
                  (try clear hk)
                  (try clear hi)
                  (try clear ho0)
                  (try clear ho1)
                  refine hK.out _ _ ⟨(blk_cell BK373.out 0).trans rfl, (blk_cell BK373.out 1).trans rfl, (blk_cell BK374.out 0).trans rfl, (blk_cell BK374.out 1).trans rfl⟩ (fun hHeld => ?_)
                  clear hK K
                  refine norm_ (a' := ?_) ?_ ?_
                  rotate_left
                  ·
                   show Act.put _ (some 99) _ = _
                   simp only [Act.put, List.setIfInBounds_toArray, List.set_cons_zero, List.set_cons_succ, i64_w, i32_w]
                   rfl
                  refine pure_ (i := 5) (N := some 94) (v := ?_) (a' := ?_) #[true, true, true, true, true, true, false, false, true, false, false] rfl rfl (any_of HT_.out (by kernel_rfl)) (fun _ _ _ h => h) (Or.inl ⟨by rfl, ?_⟩) ?_ ?_
                  rotate_left
                  ·
                   intro w'
                   go_simp
                   with_reducible rfl
                  rotate_left
                  ·
                   simp only [Act.put, List.setIfInBounds_toArray, List.set_cons_zero, List.set_cons_succ, i64_w, i32_w]
                   rfl
                  refine pure_ (i := 6) (N := some 100) (v := ?_) (a' := ?_) #[true, true, true, true, true, true, true, false, true, false, false] rfl rfl (any_of HT_.out (by kernel_rfl)) (fun _ _ _ h => h) (Or.inl ⟨by rfl, ?_⟩) ?_ ?_
                  rotate_left
                  ·
                   intro w'
                   go_simp
                   with_reducible rfl
                  rotate_left
                  ·
                   simp only [Act.put, List.setIfInBounds_toArray, List.set_cons_zero, List.set_cons_succ, i64_w, i32_w]
                   rfl
                  refine pure_ (i := 7) (N := some 101) (v := ?_) (a' := ?_) #[true, true, true, true, true, true, true, true, true, false, false] rfl rfl (any_of HT_.out (by kernel_rfl)) (fun _ _ _ h => h) (Or.inl ⟨by rfl, ?_⟩) ?_ ?_
                  rotate_left
                  ·
                   intro w'
                   go_simp
                   with_reducible rfl
                  rotate_left
                  ·
                   simp only [Act.put, List.setIfInBounds_toArray, List.set_cons_zero, List.set_cons_succ, i64_w, i32_w]
                   rfl
                  exact norm_ (by simp only [putAll, Act.put, List.setIfInBounds_toArray, List.set_cons_zero, List.set_cons_succ]) (hCont (.slice Ao148 t445.length co148, .slice Ao149 t448.length co149, .slice Ao150 t451.length co150, .slice Ao151 t454.length co151, v458, v461, gb464) _ ⟨hHeld, (Zc HO447), (Zc HO450), (Zc HO453), (Zc HO456), (Zc HO459), (Zc HO462), (Zc HO_397000), (Zc HO_397001), (Zc HO_404000), (Zc HO_404001), (Zc HO_411000), (Zc HO_411001), (Zc HO_419000), (Zc HO_419001), (Zb BK373), (Zb BK374), (Zb BK396), (Zb BK403), (Zb BK410), (Zb BK418), (Zb BK464), GW464.out, GE464.out, NB373_464.out, NB464_373.out, NB374_464.out, NB464_374.out, NB396_464.out, NB464_396.out, NB403_464.out, NB464_403.out, NB410_464.out, NB464_410.out, NB418_464.out, NB464_418.out, (Zl HB)⟩)
                rintro ⟨v446, v449, v452, v455, v458, v461, gb464⟩ w153 ⟨hS_, h0_, h1_, h2_, h3_, h4_, h5_, h6_, h7_, h8_, h9_, h10_, h11_, h12_, h13_, h14_, h15_, h16_, h17_, h18_, h19_, h20_, h21_, h22_, h23_, h24_, h25_, h26_, h27_, h28_, h29_, h30_, h31_, h32_, h33_, h34_, h35_⟩
                have HO447 : Aside0 (Kd.R (Kd.int .i64) 3 w153 w.heap.size (fun k_ => Zn k_ v449 ∧ Zn k_ v452 ∧ Zn k_ v455 ∧ Zn k_ v458 ∧ Zn k_ v461 ∧ Zn k_ (.slice Ao54 t389.length co54) ∧ Zn k_ (.slice Ao56 t392.length co56) ∧ Zn k_ (.slice Ao62 t435.length co62) ∧ Zn k_ (.slice Ao67 t436.length co67) ∧ Zn k_ (.slice Ao72 t438.length co72) ∧ Zn k_ (.slice Ao78 t439.length co78) ∧ Zn k_ (.slice Ao82 t411.length co82) ∧ Zn k_ (.slice Ao89 t414.length co89)) v446 t445) := ⟨h0_⟩; have HO450 : Aside0 (Kd.R (Kd.int .i64) 3 w153 w.heap.size (fun k_ => Zn k_ v446 ∧ Zn k_ v452 ∧ Zn k_ v455 ∧ Zn k_ v458 ∧ Zn k_ v461 ∧ Zn k_ (.slice Ao54 t389.length co54) ∧ Zn k_ (.slice Ao56 t392.length co56) ∧ Zn k_ (.slice Ao62 t435.length co62) ∧ Zn k_ (.slice Ao67 t436.length co67) ∧ Zn k_ (.slice Ao72 t438.length co72) ∧ Zn k_ (.slice Ao78 t439.length co78) ∧ Zn k_ (.slice Ao82 t411.length co82) ∧ Zn k_ (.slice Ao89 t414.length co89)) v449 t448) := ⟨h1_⟩; have HO453 : Aside0 (Kd.R (Kd.int .i64) 3 w153 w.heap.size (fun k_ => Zn k_ v446 ∧ Zn k_ v449 ∧ Zn k_ v455 ∧ Zn k_ v458 ∧ Zn k_ v461 ∧ Zn k_ (.slice Ao54 t389.length co54) ∧ Zn k_ (.slice Ao56 t392.length co56) ∧ Zn k_ (.slice Ao62 t435.length co62) ∧ Zn k_ (.slice Ao67 t436.length co67) ∧ Zn k_ (.slice Ao72 t438.length co72) ∧ Zn k_ (.slice Ao78 t439.length co78) ∧ Zn k_ (.slice Ao82 t411.length co82) ∧ Zn k_ (.slice Ao89 t414.length co89)) v452 t451) := ⟨h2_⟩; have HO456 : Aside0 (Kd.R (Kd.int .i64) 3 w153 w.heap.size (fun k_ => Zn k_ v446 ∧ Zn k_ v449 ∧ Zn k_ v452 ∧ Zn k_ v458 ∧ Zn k_ v461 ∧ Zn k_ (.slice Ao54 t389.length co54) ∧ Zn k_ (.slice Ao56 t392.length co56) ∧ Zn k_ (.slice Ao62 t435.length co62) ∧ Zn k_ (.slice Ao67 t436.length co67) ∧ Zn k_ (.slice Ao72 t438.length co72) ∧ Zn k_ (.slice Ao78 t439.length co78) ∧ Zn k_ (.slice Ao82 t411.length co82) ∧ Zn k_ (.slice Ao89 t414.length co89)) v455 t454) := ⟨h3_⟩; have HO459 : Aside0 (Kd.R (Kd.int .i64) 3 w153 w.heap.size (fun k_ => Zn k_ v446 ∧ Zn k_ v449 ∧ Zn k_ v452 ∧ Zn k_ v455 ∧ Zn k_ v461 ∧ Zn k_ (.slice Ao54 t389.length co54) ∧ Zn k_ (.slice Ao56 t392.length co56) ∧ Zn k_ (.slice Ao62 t435.length co62) ∧ Zn k_ (.slice Ao67 t436.length co67) ∧ Zn k_ (.slice Ao72 t438.length co72) ∧ Zn k_ (.slice Ao78 t439.length co78) ∧ Zn k_ (.slice Ao82 t411.length co82) ∧ Zn k_ (.slice Ao89 t414.length co89)) v458 t457) := ⟨h4_⟩; have HO462 : Aside0 (Kd.R (Kd.int .i64) 3 w153 w.heap.size (fun k_ => Zn k_ v446 ∧ Zn k_ v449 ∧ Zn k_ v452 ∧ Zn k_ v455 ∧ Zn k_ v458 ∧ Zn k_ (.slice Ao54 t389.length co54) ∧ Zn k_ (.slice Ao56 t392.length co56) ∧ Zn k_ (.slice Ao62 t435.length co62) ∧ Zn k_ (.slice Ao67 t436.length co67) ∧ Zn k_ (.slice Ao72 t438.length co72) ∧ Zn k_ (.slice Ao78 t439.length co78) ∧ Zn k_ (.slice Ao82 t411.length co82) ∧ Zn k_ (.slice Ao89 t414.length co89)) v461 t460) := ⟨h5_⟩; replace HO_397000 : Aside0 (Kd.R (Kd.int .i64) 3 w153 w.heap.size (fun k_ => Zn k_ v446 ∧ Zn k_ v449 ∧ Zn k_ v452 ∧ Zn k_ v455 ∧ Zn k_ v458 ∧ Zn k_ v461 ∧ Zn k_ (.slice Ao56 t392.length co56) ∧ Zn k_ (.slice Ao62 t435.length co62) ∧ Zn k_ (.slice Ao67 t436.length co67) ∧ Zn k_ (.slice Ao72 t438.length co72) ∧ Zn k_ (.slice Ao78 t439.length co78) ∧ Zn k_ (.slice Ao82 t411.length co82) ∧ Zn k_ (.slice Ao89 t414.length co89)) (.slice Ao54 t389.length co54) t389) := ⟨h6_⟩; replace HO_397001 : Aside0 (Kd.R (Kd.int .i64) 3 w153 w.heap.size (fun k_ => Zn k_ v446 ∧ Zn k_ v449 ∧ Zn k_ v452 ∧ Zn k_ v455 ∧ Zn k_ v458 ∧ Zn k_ v461 ∧ Zn k_ (.slice Ao54 t389.length co54) ∧ Zn k_ (.slice Ao62 t435.length co62) ∧ Zn k_ (.slice Ao67 t436.length co67) ∧ Zn k_ (.slice Ao72 t438.length co72) ∧ Zn k_ (.slice Ao78 t439.length co78) ∧ Zn k_ (.slice Ao82 t411.length co82) ∧ Zn k_ (.slice Ao89 t414.length co89)) (.slice Ao56 t392.length co56) t392) := ⟨h7_⟩; replace HO_404000 : Aside0 (Kd.R (Kd.int .i64) 3 w153 w.heap.size (fun k_ => Zn k_ v446 ∧ Zn k_ v449 ∧ Zn k_ v452 ∧ Zn k_ v455 ∧ Zn k_ v458 ∧ Zn k_ v461 ∧ Zn k_ (.slice Ao54 t389.length co54) ∧ Zn k_ (.slice Ao56 t392.length co56) ∧ Zn k_ (.slice Ao67 t436.length co67) ∧ Zn k_ (.slice Ao72 t438.length co72) ∧ Zn k_ (.slice Ao78 t439.length co78) ∧ Zn k_ (.slice Ao82 t411.length co82) ∧ Zn k_ (.slice Ao89 t414.length co89)) (.slice Ao62 t435.length co62) t435) := ⟨h8_⟩; replace HO_404001 : Aside0 (Kd.R (Kd.int .i64) 3 w153 w.heap.size (fun k_ => Zn k_ v446 ∧ Zn k_ v449 ∧ Zn k_ v452 ∧ Zn k_ v455 ∧ Zn k_ v458 ∧ Zn k_ v461 ∧ Zn k_ (.slice Ao54 t389.length co54) ∧ Zn k_ (.slice Ao56 t392.length co56) ∧ Zn k_ (.slice Ao62 t435.length co62) ∧ Zn k_ (.slice Ao72 t438.length co72) ∧ Zn k_ (.slice Ao78 t439.length co78) ∧ Zn k_ (.slice Ao82 t411.length co82) ∧ Zn k_ (.slice Ao89 t414.length co89)) (.slice Ao67 t436.length co67) t436) := ⟨h9_⟩; replace HO_411000 : Aside0 (Kd.R (Kd.int .i64) 3 w153 w.heap.size (fun k_ => Zn k_ v446 ∧ Zn k_ v449 ∧ Zn k_ v452 ∧ Zn k_ v455 ∧ Zn k_ v458 ∧ Zn k_ v461 ∧ Zn k_ (.slice Ao54 t389.length co54) ∧ Zn k_ (.slice Ao56 t392.length co56) ∧ Zn k_ (.slice Ao62 t435.length co62) ∧ Zn k_ (.slice Ao67 t436.length co67) ∧ Zn k_ (.slice Ao78 t439.length co78) ∧ Zn k_ (.slice Ao82 t411.length co82) ∧ Zn k_ (.slice Ao89 t414.length co89)) (.slice Ao72 t438.length co72) t438) := ⟨h10_⟩; replace HO_411001 : Aside0 (Kd.R (Kd.int .i64) 3 w153 w.heap.size (fun k_ => Zn k_ v446 ∧ Zn k_ v449 ∧ Zn k_ v452 ∧ Zn k_ v455 ∧ Zn k_ v458 ∧ Zn k_ v461 ∧ Zn k_ (.slice Ao54 t389.length co54) ∧ Zn k_ (.slice Ao56 t392.length co56) ∧ Zn k_ (.slice Ao62 t435.length co62) ∧ Zn k_ (.slice Ao67 t436.length co67) ∧ Zn k_ (.slice Ao72 t438.length co72) ∧ Zn k_ (.slice Ao82 t411.length co82) ∧ Zn k_ (.slice Ao89 t414.length co89)) (.slice Ao78 t439.length co78) t439) := ⟨h11_⟩; replace HO_419000 : Aside0 (Kd.R (Kd.int .i64) 3 w153 w.heap.size (fun k_ => Zn k_ v446 ∧ Zn k_ v449 ∧ Zn k_ v452 ∧ Zn k_ v455 ∧ Zn k_ v458 ∧ Zn k_ v461 ∧ Zn k_ (.slice Ao54 t389.length co54) ∧ Zn k_ (.slice Ao56 t392.length co56) ∧ Zn k_ (.slice Ao62 t435.length co62) ∧ Zn k_ (.slice Ao67 t436.length co67) ∧ Zn k_ (.slice Ao72 t438.length co72) ∧ Zn k_ (.slice Ao78 t439.length co78) ∧ Zn k_ (.slice Ao89 t414.length co89)) (.slice Ao82 t411.length co82) t442) := ⟨h12_⟩; replace HO_419001 : Aside0 (Kd.R (Kd.int .i64) 3 w153 w.heap.size (fun k_ => Zn k_ v446 ∧ Zn k_ v449 ∧ Zn k_ v452 ∧ Zn k_ v455 ∧ Zn k_ v458 ∧ Zn k_ v461 ∧ Zn k_ (.slice Ao54 t389.length co54) ∧ Zn k_ (.slice Ao56 t392.length co56) ∧ Zn k_ (.slice Ao62 t435.length co62) ∧ Zn k_ (.slice Ao67 t436.length co67) ∧ Zn k_ (.slice Ao72 t438.length co72) ∧ Zn k_ (.slice Ao78 t439.length co78) ∧ Zn k_ (.slice Ao82 t411.length co82)) (.slice Ao89 t414.length co89) t443) := ⟨h13_⟩; replace BK373 : Aside0 (w153.heap[gb373]? = some (.cells #[.slice A0_0 l0_0.length c0_0, .slice A0_1 l0_1.length c0_1] 34 (0, 0))) := ⟨h14_⟩; replace BK374 : Aside0 (w153.heap[gb374]? = some (.cells #[.slice A1_0 l1_0.length c1_0, .slice A1_1 l1_1.length c1_1] 34 (0, 0))) := ⟨h15_⟩; replace BK396 : Aside0 (w153.heap[gb396]? = some (.cells #[.slice Ao54 t389.length co54, .slice Ao56 t392.length co56] 36 (0, 0))) := ⟨h16_⟩; replace BK403 : Aside0 (w153.heap[gb403]? = some (.cells #[.slice Ao62 t435.length co62, .slice Ao67 t436.length co67] 36 (0, 0))) := ⟨h17_⟩; replace BK410 : Aside0 (w153.heap[gb410]? = some (.cells #[.slice Ao72 t438.length co72, .slice Ao78 t439.length co78] 36 (0, 0))) := ⟨h18_⟩; replace BK418 : Aside0 (w153.heap[gb418]? = some (.cells #[.slice Ao82 t411.length co82, .slice Ao89 t414.length co89] 36 (0, 0))) := ⟨h19_⟩; have BK464 : Aside0 (w153.heap[gb464]? = some (.cells #[.slice none 0 0, .slice none 0 0] 36 (0, 0))) := ⟨h20_⟩; have GW464 : Aside0 (w.heap.size ≤ gb464) := ⟨h21_⟩; have GE464 : Aside0 (w.heap.size ≤ gb464) := ⟨h22_⟩; have NB373_464 : Aside0 (gb373 ≠ gb464) := ⟨h23_⟩; have NB464_373 : Aside0 (gb464 ≠ gb373) := ⟨h24_⟩; have NB374_464 : Aside0 (gb374 ≠ gb464) := ⟨h25_⟩; have NB464_374 : Aside0 (gb464 ≠ gb374) := ⟨h26_⟩; have NB396_464 : Aside0 (gb396 ≠ gb464) := ⟨h27_⟩; have NB464_396 : Aside0 (gb464 ≠ gb396) := ⟨h28_⟩; have NB403_464 : Aside0 (gb403 ≠ gb464) := ⟨h29_⟩; have NB464_403 : Aside0 (gb464 ≠ gb403) := ⟨h30_⟩; have NB410_464 : Aside0 (gb410 ≠ gb464) := ⟨h31_⟩; have NB464_410 : Aside0 (gb464 ≠ gb410) := ⟨h32_⟩; have NB418_464 : Aside0 (gb418 ≠ gb464) := ⟨h33_⟩; have NB464_418 : Aside0 (gb464 ≠ gb418) := ⟨h34_⟩; replace HB : Aside0 (Below w.heap.size w w153) := ⟨h35_⟩; clear h0_ h1_ h2_ h3_ h4_ h5_ h6_ h7_ h8_ h9_ h10_ h11_ h12_ h13_ h14_ h15_ h16_ h17_ h18_ h19_ h20_ h21_ h22_ h23_ h24_ h25_ h26_ h27_ h28_ h29_ h30_ h31_ h32_ h33_ h34_ h35_; have hHeld : w153.cell? ⟨gb373, 0, none⟩ = some (.slice A0_0 l0_0.length c0_0) ∧ w153.cell? ⟨gb373, 1, none⟩ = some (.slice A0_1 l0_1.length c0_1) ∧ w153.cell? ⟨gb374, 0, none⟩ = some (.slice A1_0 l1_0.length c1_0) ∧ w153.cell? ⟨gb374, 1, none⟩ = some (.slice A1_1 l1_1.length c1_1) := hS_
                obtain ⟨Ao154, co154, eo154⟩ := Kd.R_slice HO459.out
                (first | subst eo154 | (injection eo154 with f1_ f2_ f3_; have f4_ := f1_.symm; have f5_ := f3_.symm; clear f1_ f2_ f3_; subst f4_; subst f5_))
                obtain ⟨Ao156, co156, eo156⟩ := Kd.R_slice HO462.out
                (first | subst eo156 | (injection eo156 with f1_ f2_ f3_; have f4_ := f1_.symm; have f5_ := f3_.symm; clear f1_ f2_ f3_; subst f4_; subst f5_))
                refine norm_ (a' := ?_) ?_ ?_
                rotate_left
                ·
                 simp only [putAll, Act.put, List.setIfInBounds_toArray, List.set_cons_zero, List.set_cons_succ]
                 rfl
                refine one_ (i := 9) (N := none) #[true, true, true, true, true, true, true, true, true, true, false] rfl rfl (one_of HT_.out (by kernel_rfl)) (by decide) (fun K hK => ?_)
                have hs155 : w153.cell? ⟨gb464, 0, none⟩ = some (.slice none 0 0) := (blk_cell BK464.out 0).trans rfl; have hfs155 := blk_frozen BK464.out 0; have hns155_0 := NB373_464.out; have hns155_1 := NB374_464.out; have hns155_2 := NB396_464.out; have hns155_3 := NB403_464.out; have hns155_4 := NB410_464.out; have hns155_5 := NB418_464.out; have hms155_0 := NB464_373.out; have hms155_1 := NB464_374.out; have hms155_2 := NB464_396.out; have hms155_3 := NB464_403.out; have hms155_4 := NB464_410.out; have hms155_5 := NB464_418.out; have hs157 : w153.cell? ⟨gb464, 1, none⟩ = some (.slice none 0 0) := (blk_cell BK464.out 1).trans rfl; have hfs157 := blk_frozen BK464.out 1; have hns157_0 := NB373_464.out; have hns157_1 := NB374_464.out; have hns157_2 := NB396_464.out; have hns157_3 := NB403_464.out; have hns157_4 := NB410_464.out; have hns157_5 := NB418_464.out; have hms157_0 := NB464_373.out; have hms157_1 := NB464_374.out; have hms157_2 := NB464_396.out; have hms157_3 := NB464_403.out; have hms157_4 := NB464_410.out; have hms157_5 := NB464_418.out
                refine skip_ (w1 := ?_) (by rfl) rfl ?_ ?_
                rotate_left
                ·
                 go_simp
                 rfl
                refine hK.out _ _ ⟨((cell_far (p := ⟨gb464, _, none⟩) NB373_464.out _).trans (((cell_far (p := ⟨gb464, _, none⟩) NB373_464.out _).trans (hHeld.1)))), ((cell_far (p := ⟨gb464, _, none⟩) NB373_464.out _).trans (((cell_far (p := ⟨gb464, _, none⟩) NB373_464.out _).trans (hHeld.2.1)))), ((cell_far (p := ⟨gb464, _, none⟩) NB374_464.out _).trans (((cell_far (p := ⟨gb464, _, none⟩) NB374_464.out _).trans (hHeld.2.2.1)))), ((cell_far (p := ⟨gb464, _, none⟩) NB374_464.out _).trans (((cell_far (p := ⟨gb464, _, none⟩) NB374_464.out _).trans (hHeld.2.2.2))))⟩ (fun hHeld => ?_)
                clear hK K
                refine pure_ (i := 10) (N := some 16) (v := ?_) (a' := ?_) #[true, true, true, true, true, true, true, true, true, true, true] rfl rfl (any_of HT_.out (by kernel_rfl)) (fun _ _ _ h => h) (Or.inl ⟨by rfl, ?_⟩) ?_ ?_
                rotate_left
                ·
                 intro w'
                 go_simp
                 with_reducible rfl
                rotate_left
                ·
                 simp only [Act.put, List.setIfInBounds_toArray, List.set_cons_zero, List.set_cons_succ, i64_w, i32_w]
                 rfl
                refine done_ (done_of HT_.out (by kernel_rfl)) ?_
                have hnb158 := NB464_373.out; have hnc158 := NB373_464.out; have hnb159 := NB464_374.out; have hnc159 := NB374_464.out; have hnb160 := NB464_396.out; have hnc160 := NB396_464.out; have hnb161 := NB464_403.out; have hnc161 := NB403_464.out; have hnb162 := NB464_410.out; have hnc162 := NB410_464.out; have hnb163 := NB464_418.out; have hnc163 := NB418_464.out; have hcz164_0 : w153.cell? ⟨gb464, 0, none⟩ = some (.slice none 0 0) := (blk_cell BK464.out 0).trans rfl; have hcz164_1 : w153.cell? ⟨gb464, 1, none⟩ = some (.slice none 0 0) := (blk_cell BK464.out 1).trans rfl; have hfz164_0 := blk_frozen BK464.out 0; have hfz164_1 := blk_frozen BK464.out 1; have hnb165 := NB396_373.out; have hnc165 := NB373_396.out; have hnb166 := NB396_374.out; have hnc166 := NB374_396.out; have hnb167 := NB396_403.out; have hnc167 := NB403_396.out; have hnb168 := NB396_410.out; have hnc168 := NB410_396.out; have hcz169_0 : w153.cell? ⟨gb396, 0, none⟩ = some (.slice Ao54 t389.length co54) := (blk_cell BK396.out 0).trans rfl; have hcz169_1 : w153.cell? ⟨gb396, 1, none⟩ = some (.slice Ao56 t392.length co56) := (blk_cell BK396.out 1).trans rfl; have hfz169_0 := blk_frozen BK396.out 0; have hfz169_1 := blk_frozen BK396.out 1
                try go_wp2_with (first | ((with_reducible refine gate_callee (f := 20) rfl ?_); refine goesL_ (some 104) rfl rfl Try.func20 (by kernel_rfl) rfl #[.agg #[.slice Ao154 t457.length co154, .slice Ao156 t460.length co156], .agg #[.slice Ao54 t389.length co54, .slice Ao56 t392.length co56]] rfl (by (try simp only [List.map_toArray, List.map_cons, List.map_nil]); first | done | rfl) ?_; (with_reducible refine (laws_eqTurned.calls kj35 _ _ t457 _ _ t460 _ _ t389 _ _ t392 true _ ?side1 ?side2 ?side3 ?side4 ?side5 ?side6 ?side7 ?side8 A129.out).mono ?_); (case side1 => refine (Kd.R_reads' (e := 3) (base := w.heap.size) (ok := fun k_ => (Zn k_ v446 ∧ (Zn k_ v449 ∧ (Zn k_ v452 ∧ (Zn k_ v455 ∧ (Zn k_ (.slice Ao156 t460.length co156) ∧ (Zn k_ (.slice Ao54 t389.length co54) ∧ (Zn k_ (.slice Ao56 t392.length co56) ∧ (Zn k_ (.slice Ao62 t435.length co62) ∧ (Zn k_ (.slice Ao67 t436.length co67) ∧ (Zn k_ (.slice Ao72 t438.length co72) ∧ (Zn k_ (.slice Ao78 t439.length co78) ∧ (Zn k_ (.slice Ao82 t411.length co82) ∧ Zn k_ (.slice Ao89 t414.length co89)))))))))))))) (n := t457.length) (c := co154) ?_).2.2; exact (Zy HO459 BK464)); (case side2 => exact (Kd.R_reads' HO459.out).2.1); (case side3 => refine (Kd.R_reads' (e := 3) (base := w.heap.size) (ok := fun k_ => (Zn k_ v446 ∧ (Zn k_ v449 ∧ (Zn k_ v452 ∧ (Zn k_ v455 ∧ (Zn k_ (.slice Ao154 t457.length co154) ∧ (Zn k_ (.slice Ao54 t389.length co54) ∧ (Zn k_ (.slice Ao56 t392.length co56) ∧ (Zn k_ (.slice Ao62 t435.length co62) ∧ (Zn k_ (.slice Ao67 t436.length co67) ∧ (Zn k_ (.slice Ao72 t438.length co72) ∧ (Zn k_ (.slice Ao78 t439.length co78) ∧ (Zn k_ (.slice Ao82 t411.length co82) ∧ Zn k_ (.slice Ao89 t414.length co89)))))))))))))) (n := t460.length) (c := co156) ?_).2.2; exact (Zy HO462 BK464)); (case side4 => exact (Kd.R_reads' HO462.out).2.1); (case side5 => refine (Kd.R_reads' (e := 3) (base := w.heap.size) (ok := fun k_ => (Zn k_ v446 ∧ (Zn k_ v449 ∧ (Zn k_ v452 ∧ (Zn k_ v455 ∧ (Zn k_ (.slice Ao154 t457.length co154) ∧ (Zn k_ (.slice Ao156 t460.length co156) ∧ (Zn k_ (.slice Ao56 t392.length co56) ∧ (Zn k_ (.slice Ao62 t435.length co62) ∧ (Zn k_ (.slice Ao67 t436.length co67) ∧ (Zn k_ (.slice Ao72 t438.length co72) ∧ (Zn k_ (.slice Ao78 t439.length co78) ∧ (Zn k_ (.slice Ao82 t411.length co82) ∧ Zn k_ (.slice Ao89 t414.length co89)))))))))))))) (n := t389.length) (c := co54) ?_).2.2; exact (Zy HO_397000 BK464)); (case side6 => exact (Kd.R_reads' HO_397000.out).2.1); (case side7 => refine (Kd.R_reads' (e := 3) (base := w.heap.size) (ok := fun k_ => (Zn k_ v446 ∧ (Zn k_ v449 ∧ (Zn k_ v452 ∧ (Zn k_ v455 ∧ (Zn k_ (.slice Ao154 t457.length co154) ∧ (Zn k_ (.slice Ao156 t460.length co156) ∧ (Zn k_ (.slice Ao54 t389.length co54) ∧ (Zn k_ (.slice Ao62 t435.length co62) ∧ (Zn k_ (.slice Ao67 t436.length co67) ∧ (Zn k_ (.slice Ao72 t438.length co72) ∧ (Zn k_ (.slice Ao78 t439.length co78) ∧ (Zn k_ (.slice Ao82 t411.length co82) ∧ Zn k_ (.slice Ao89 t414.length co89)))))))))))))) (n := t392.length) (c := co56) ?_).2.2; exact (Zy HO_397001 BK464)); (case side8 => exact (Kd.R_reads' HO_397001.out).2.1); rintro e w170 ⟨rfl, hb⟩; refine ⟨_, rfl, ?_⟩; replace HO_397000 := Zm (Kd.R_below (Zy HO_397000 BK464) hb); replace HO_397001 := Zm (Kd.R_below (Zy HO_397001 BK464) hb); replace HO_404000 := Zm (Kd.R_below (Zy HO_404000 BK464) hb); replace HO_404001 := Zm (Kd.R_below (Zy HO_404001 BK464) hb); replace HO_411000 := Zm (Kd.R_below (Zy HO_411000 BK464) hb); replace HO_411001 := Zm (Kd.R_below (Zy HO_411001 BK464) hb); replace HO_419000 := Zm (Kd.R_below (Zy HO_419000 BK464) hb); replace HO_419001 := Zm (Kd.R_below (Zy HO_419001 BK464) hb); replace HO447 := Zm (Kd.R_below (Zy HO447 BK464) hb); replace HO450 := Zm (Kd.R_below (Zy HO450 BK464) hb); replace HO453 := Zm (Kd.R_below (Zy HO453 BK464) hb); replace HO456 := Zm (Kd.R_below (Zy HO456 BK464) hb); replace HO459 := Zm (Kd.R_below (Zy HO459 BK464) hb); replace HO462 := Zm (Kd.R_below (Zy HO462 BK464) hb); replace BK373 := Zm (blk_below (g := gb373) (o := .cells #[.slice A0_0 l0_0.length c0_0, .slice A0_1 l0_1.length c0_1] 34 (0, 0)) (by (with_reducible repeat (first | refine blk_drewN ?_ _ | refine blk_drew ?_ | refine blk_alloc ?_ _)); refine blk_far ?_ NB373_464.out _; (with_reducible repeat (first | refine blk_drewN ?_ _ | refine blk_drew ?_ | refine blk_alloc ?_ _)); refine blk_far ?_ NB373_464.out _; (with_reducible repeat (first | refine blk_drewN ?_ _ | refine blk_drew ?_ | refine blk_alloc ?_ _)); exact BK373.out) hb); replace BK374 := Zm (blk_below (g := gb374) (o := .cells #[.slice A1_0 l1_0.length c1_0, .slice A1_1 l1_1.length c1_1] 34 (0, 0)) (by (with_reducible repeat (first | refine blk_drewN ?_ _ | refine blk_drew ?_ | refine blk_alloc ?_ _)); refine blk_far ?_ NB374_464.out _; (with_reducible repeat (first | refine blk_drewN ?_ _ | refine blk_drew ?_ | refine blk_alloc ?_ _)); refine blk_far ?_ NB374_464.out _; (with_reducible repeat (first | refine blk_drewN ?_ _ | refine blk_drew ?_ | refine blk_alloc ?_ _)); exact BK374.out) hb); replace BK396 := Zm (blk_below (g := gb396) (o := .cells #[.slice Ao54 t389.length co54, .slice Ao56 t392.length co56] 36 (0, 0)) (by (with_reducible repeat (first | refine blk_drewN ?_ _ | refine blk_drew ?_ | refine blk_alloc ?_ _)); refine blk_far ?_ NB396_464.out _; (with_reducible repeat (first | refine blk_drewN ?_ _ | refine blk_drew ?_ | refine blk_alloc ?_ _)); refine blk_far ?_ NB396_464.out _; (with_reducible repeat (first | refine blk_drewN ?_ _ | refine blk_drew ?_ | refine blk_alloc ?_ _)); exact BK396.out) hb); replace BK403 := Zm (blk_below (g := gb403) (o := .cells #[.slice Ao62 t435.length co62, .slice Ao67 t436.length co67] 36 (0, 0)) (by (with_reducible repeat (first | refine blk_drewN ?_ _ | refine blk_drew ?_ | refine blk_alloc ?_ _)); refine blk_far ?_ NB403_464.out _; (with_reducible repeat (first | refine blk_drewN ?_ _ | refine blk_drew ?_ | refine blk_alloc ?_ _)); refine blk_far ?_ NB403_464.out _; (with_reducible repeat (first | refine blk_drewN ?_ _ | refine blk_drew ?_ | refine blk_alloc ?_ _)); exact BK403.out) hb); replace BK410 := Zm (blk_below (g := gb410) (o := .cells #[.slice Ao72 t438.length co72, .slice Ao78 t439.length co78] 36 (0, 0)) (by (with_reducible repeat (first | refine blk_drewN ?_ _ | refine blk_drew ?_ | refine blk_alloc ?_ _)); refine blk_far ?_ NB410_464.out _; (with_reducible repeat (first | refine blk_drewN ?_ _ | refine blk_drew ?_ | refine blk_alloc ?_ _)); refine blk_far ?_ NB410_464.out _; (with_reducible repeat (first | refine blk_drewN ?_ _ | refine blk_drew ?_ | refine blk_alloc ?_ _)); exact BK410.out) hb); replace BK418 := Zm (blk_below (g := gb418) (o := .cells #[.slice Ao82 t411.length co82, .slice Ao89 t414.length co89] 36 (0, 0)) (by (with_reducible repeat (first | refine blk_drewN ?_ _ | refine blk_drew ?_ | refine blk_alloc ?_ _)); refine blk_far ?_ NB418_464.out _; (with_reducible repeat (first | refine blk_drewN ?_ _ | refine blk_drew ?_ | refine blk_alloc ?_ _)); refine blk_far ?_ NB418_464.out _; (with_reducible repeat (first | refine blk_drewN ?_ _ | refine blk_drew ?_ | refine blk_alloc ?_ _)); exact BK418.out) hb); replace BK464 := Zm (blk_below (g := gb464) (o := .cells #[.slice Ao154 t457.length co154, .slice Ao156 t460.length co156] 36 (0, 0)) (by (with_reducible repeat (first | refine blk_drewN ?_ _ | refine blk_drew ?_ | refine blk_alloc ?_ _)); refine blk_put (cs := #[.slice Ao154 t457.length co154, .slice none 0 0]) ?_ 1 _ rfl; (with_reducible repeat (first | refine blk_drewN ?_ _ | refine blk_drew ?_ | refine blk_alloc ?_ _)); refine blk_put (cs := #[.slice none 0 0, .slice none 0 0]) ?_ 0 _ rfl; (with_reducible repeat (first | refine blk_drewN ?_ _ | refine blk_drew ?_ | refine blk_alloc ?_ _)); exact BK464.out) hb); replace HB := Zh HB hb; (try clear hb); (try clear hb2); (try clear hk); (try clear hi); have hcz171_0 : w170.cell? ⟨gb418, 0, none⟩ = some (.slice Ao82 t411.length co82) := (blk_cell BK418.out 0).trans rfl; have hcz171_1 : w170.cell? ⟨gb418, 1, none⟩ = some (.slice Ao89 t414.length co89) := (blk_cell BK418.out 1).trans rfl; have hfz171_0 := blk_frozen BK418.out 0; have hfz171_1 := blk_frozen BK418.out 1) | ((with_reducible refine gate_callee (f := 22) rfl ?_); refine goesL_ (some 113) rfl rfl Try.func22 (by kernel_rfl) rfl #[.agg #[.slice Ao82 t442.length co82, .slice Ao89 t443.length co89], .int .i64 1] rfl (by (try simp only [List.map_toArray, List.map_cons, List.map_nil]); first | done | (rw [show t442.length = t411.length from (Kd.R_reads' HO_419000.out).1.symm, show t443.length = t414.length from (Kd.R_reads' HO_419001.out).1.symm] <;> rfl) | rfl | (simp only [List.length_drop, List.length_take]; rfl)) ?_; (with_reducible refine (laws_heldTurned.calls kj35 _ _ t442 _ _ t443 1 t466 _ ?side1 ?side2 ?side3 ?side4 A132.out).mono ?_); (case side1 => repeat (first | exact (Kd.R_reads' HO_419000.out).2.2 | (with_reducible refine Kd.C_alloc ?_ _) | (with_reducible refine Kd.C_drewN ?_ _) | (with_reducible refine Kd.C_drew ?_))); (case side2 => rw [show t442.length = t411.length from (Kd.R_reads' HO_419000.out).1.symm]; exact (Kd.R_reads' HO_419000.out).2.1); (case side3 => repeat (first | exact (Kd.R_reads' HO_419001.out).2.2 | (with_reducible refine Kd.C_alloc ?_ _) | (with_reducible refine Kd.C_drewN ?_ _) | (with_reducible refine Kd.C_drew ?_))); (case side4 => rw [show t443.length = t414.length from (Kd.R_reads' HO_419001.out).1.symm]; exact (Kd.R_reads' HO_419001.out).2.1); rintro e w172 ⟨rfl, hb⟩; refine ⟨_, rfl, ?_⟩; replace HO_397000 := Zo HO_397000 hb; replace HO_397001 := Zo HO_397001 hb; replace HO_404000 := Zo HO_404000 hb; replace HO_404001 := Zo HO_404001 hb; replace HO_411000 := Zo HO_411000 hb; replace HO_411001 := Zo HO_411001 hb; replace HO_419000 := Zo HO_419000 hb; replace HO_419001 := Zo HO_419001 hb; replace HO447 := Zo HO447 hb; replace HO450 := Zo HO450 hb; replace HO453 := Zo HO453 hb; replace HO456 := Zo HO456 hb; replace HO459 := Zo HO459 hb; replace HO462 := Zo HO462 hb; replace BK373 := Zk BK373 hb; replace BK374 := Zk BK374 hb; replace BK396 := Zk BK396 hb; replace BK403 := Zk BK403 hb; replace BK410 := Zk BK410 hb; replace BK418 := Zk BK418 hb; replace BK464 := Zk BK464 hb; replace HB := Zh HB hb; (try clear hb); (try clear hb2); (try clear hk); (try clear hi)))
                go_ret
                exact ⟨by first | rfl | (simp [errW_none, errW_some] <;> rfl) | (simp [*, errW_none, errW_some] <;> rfl), by repeat (first | (with_reducible first | exact HB.out | apply below_alloc | apply pw_below_drewN | apply below_drew1 | refine below_set ?_ GE373.out | refine below_set ?_ GE374.out | refine below_set ?_ GE396.out | refine below_set ?_ GE403.out | refine below_set ?_ GE410.out | refine below_set ?_ GE418.out | refine below_set ?_ GE464.out) | exact HB.out)⟩
               ·
                rw [if_neg c134] at H
                exact absurd H (by simp)
            ·
             replace c130 := Bool.eq_false_iff.mpr c130
             subst c130
             have H1 : (none) = some r := by rw [if_neg (show ¬ (false = true) by decide)] at H; exact H
             clear H; have H := H1; clear H1
             exact absurd H (by simp)
           ·
            rw [if_neg c125] at H
            exact absurd H (by simp)
      ·
       replace c33 := Bool.eq_false_iff.mpr c33
       subst c33
       have H1 : (none) = some r := by rw [if_neg (show ¬ (false = true) by decide)] at H; exact H
       clear H; have H := H1; clear H1
       exact absurd H (by simp)
     ·
      replace c30 := Bool.eq_false_iff.mpr c30
      subst c30
      have H1 : (none) = some r := by rw [if_neg (show ¬ (false = true) by decide)] at H; exact H
      clear H; have H := H1; clear H1
      exact absurd H (by simp)
   ·
    replace c26 := Bool.eq_false_iff.mpr c26
    subst c26
    have H1 : (none) = some r := by rw [if_neg (show ¬ (false = true) by decide)] at H; exact H
    clear H; have H := H1; clear H1
    exact absurd H (by simp)

end Go.Proofs.Ytgjamcfnpofbhaa.Q
