/- Each function below comes to the Lean function beside it (theorems '.calls'); no condition beyond each theorem's own. Written by our program oprint.py over the kit's print. -/
import Derived.Test.YtmljdibhdnckpaaQx0
import Derived.Test.YtmljdibhdnckpaaQx1
import Derived.Test.YtmljdibhdnckpaaQx12
import Derived.Test.YtmljdibhdnckpaaQx38
import Derived.Test.YtmljdibhdnckpaaQx58
import Derived.Test.YtmljdibhdnckpaaQx63
import Derived.Shelf.Abstract
namespace Go.Proofs.Ytmljdibhdnckpaa.Q
open Go.RowKit Go.Proofs.YtmljdibhdnckpaaW.PrintWords Go.Proofs.YtmljdibhdnckpaaW.PrintLast Go.Proofs.YtmljdibhdnckpaaW.PrintMore
attribute [local go_sem] max2_int min2_int max_two min_two max_three min_three max_four min_four   -- for this text's walks alone
set_option linter.unusedVariables false
set_option linter.unusedSimpArgs false

/-! ### impl_CountSorted: function 55 -/
-- GIVEN impl_CountSorted
set_option maxHeartbeats 8000000 in
set_option maxRecDepth 100000 in
theorem impl_CountSorted_1.calls (k : Nat) (W : World) (bl bm : Nat) (a : Int) (A : Option Addr) (l : List Int) (c : Nat) (m : Int) (v : Value) (xs t : List Int) (b : Bool) {base : Nat} {ok : Nat → Prop} (hr : Kd.C (Kd.int .i64) W A l.length l) (hc : l.length ≤ c)
    (hl : W.heap[bl]? = some (.cells #[.int .i64 a, .slice A l.length c] 27 (0, 0))) (hm : W.heap[bm]? = some (.cells #[.int .i64 m] 3 (0, 0))) (hv : Kd.R (Kd.int .i64) 3 W base ok v xs) (h1 : impl_sorted.f k l xs = some t) (h2 : slices_IsSorted_int_int.f k t = some b) :
    Calls Try.prog 93 #[v, .pointer (some ⟨bl, 0, none⟩), .pointer (some ⟨bm, 0, none⟩)] W fun e w' => e = .returned (.tuple #[]) ∧ Eff (fun k_ => k_ = bm) W w' ∧ w'.heap[bm]? = some (.cells #[.int .i64 (if b = true then wrap64 (m + 1) else m)] 3 (0, 0)) := by
  have hu := Try.underlying27
  obtain ⟨A1, c1, rfl, hc1, hr1⟩ := Kd.R_reads hv
  have hz0 : W.cell? ⟨bl, 0, none⟩ = some (.int .i64 a) := (blk_cell hl 0).trans rfl
  have hz1 : W.cell? ⟨bl, 1, none⟩ = some (.slice A l.length c) := (blk_cell hl 1).trans rfl
  have HM := Aside0.mk hm
  have HR := Aside0.mk hr
  have HC := Aside0.mk hc
  have HR1 := Aside0.mk hr1
  have HC1 := Aside0.mk hc1
  have A5 := Aside0.mk h1
  have A6 := Aside0.mk h2
  clear hv hr1 hc1 hr hc hl hm h1 h2
  cases b with
  | true =>
    go_enter Try.func93, Try.ntmps93
    go_wp2_with (first | ((with_reducible refine gate_callee (f := 66) rfl ?_); refine goesL_ (some 7) rfl rfl Try.func66 (by kernel_rfl) rfl #[.slice A l.length c, .slice A1 xs.length c1] rfl (by (try simp only [List.map_toArray, List.map_cons, List.map_nil]); first | done | rfl | (simp only [List.length_drop, List.length_take]; rfl)) ?_; (with_reducible refine (impl_sorted.calls k _ _ l _ _ xs t _ ?side1 ?side2 ?side3 ?side4 A5.out).mono ?_); (case side1 => exact HR.out); (case side2 => exact HC.out); (case side3 => exact HR1.out); (case side4 => exact HC1.out); rintro e w10 ⟨v476, rfl, ho0, hb⟩; refine ⟨_, rfl, ?_⟩; obtain ⟨A2, c2, rfl, hc2, hr2⟩ := Kd.R_reads ho0; have HR2 := Aside0.mk hr2; have HC2 := Aside0.mk hc2; have HB := Aside0.mk hb; have HM2 := Aside0.mk (blk_below HM.out hb); clear hr2 hc2 hb ho0; have hy0 := cell_of_one HM2.out; have hf0 := free_of_one HM2.out) | ((with_reducible refine gate_callee (f := 65) rfl ?_); refine goesL_ (some 8) rfl rfl Try.func65 (by kernel_rfl) rfl #[.slice A2 t.length c2] rfl (by (try simp only [List.map_toArray, List.map_cons, List.map_nil]); first | done | rfl | (simp only [List.length_drop, List.length_take]; rfl)) ?_; (with_reducible refine (slices_IsSorted_int_int.calls k _ _ t _ _ ?side1 ?side2 A6.out).mono ?_); (case side1 => exact HR2.out); (case side2 => exact HC2.out); rintro e w' ⟨rfl, ⟨nd, rfl⟩⟩; refine ⟨_, rfl, ?_⟩))
    go_end0
    exact ⟨rfl, eff_setS (eff_drewN (Eff.of_below HB.out) nd) (.inl rfl), one_setCell (show (w10.drewN nd).heap[bm]? = _ from HM2.out)⟩
  | false =>
    go_enter Try.func93, Try.ntmps93
    go_wp2_with (first | ((with_reducible refine gate_callee (f := 66) rfl ?_); refine goesL_ (some 7) rfl rfl Try.func66 (by kernel_rfl) rfl #[.slice A l.length c, .slice A1 xs.length c1] rfl (by (try simp only [List.map_toArray, List.map_cons, List.map_nil]); first | done | rfl | (simp only [List.length_drop, List.length_take]; rfl)) ?_; (with_reducible refine (impl_sorted.calls k _ _ l _ _ xs t _ ?side1 ?side2 ?side3 ?side4 A5.out).mono ?_); (case side1 => exact HR.out); (case side2 => exact HC.out); (case side3 => exact HR1.out); (case side4 => exact HC1.out); rintro e w10 ⟨v476, rfl, ho0, hb⟩; refine ⟨_, rfl, ?_⟩; obtain ⟨A2, c2, rfl, hc2, hr2⟩ := Kd.R_reads ho0; have HR2 := Aside0.mk hr2; have HC2 := Aside0.mk hc2; have HB := Aside0.mk hb; have HM2 := Aside0.mk (blk_below HM.out hb); clear hr2 hc2 hb ho0; have hy0 := cell_of_one HM2.out; have hf0 := free_of_one HM2.out) | ((with_reducible refine gate_callee (f := 65) rfl ?_); refine goesL_ (some 8) rfl rfl Try.func65 (by kernel_rfl) rfl #[.slice A2 t.length c2] rfl (by (try simp only [List.map_toArray, List.map_cons, List.map_nil]); first | done | rfl | (simp only [List.length_drop, List.length_take]; rfl)) ?_; (with_reducible refine (slices_IsSorted_int_int.calls k _ _ t _ _ ?side1 ?side2 A6.out).mono ?_); (case side1 => exact HR2.out); (case side2 => exact HC2.out); rintro e w' ⟨rfl, ⟨nd, rfl⟩⟩; refine ⟨_, rfl, ?_⟩))
    go_end0
    exact ⟨rfl, eff_drewN (Eff.of_below HB.out) nd, HM2.out⟩
/-- A round: is the list sorted behind the rungs? -/
def impl_CountSorted.step (k : Nat) (l : List Int) (m : Int) (xs : List Int) : Option Int := (impl_sorted.f k l xs).bind fun t => (slices_IsSorted_int_int.f k t).bind fun b => some (if b = true then wrap64 (m + 1) else m)
theorem impl_CountSorted.step_mono (k : Nat) (l : List Int) (m : Int) (xs : List Int) : LeO (impl_CountSorted.step k l m xs) (impl_CountSorted.step (k + 1) l m xs) := by
  unfold impl_CountSorted.step
  exact LeO.bind (impl_sorted.mono _ _ _) (fun _ => LeO.bind (slices_IsSorted_int_int.mono _ _) (fun _ => LeO.refl _))
/-- What the function value's blocks hold. -/
def impl_CountSorted.I (w0 : World) (bl bm : Nat) (a : Int) (A : Option Addr) (l : List Int) (c : Nat) (m : Int) (S : Nat → Prop) (W : World) : Prop :=
  (∀ k, S k ↔ (k = bl ∨ k = bm)) ∧ (∀ k, k < w0.heap.size → W.heap[k]? = w0.heap[k]?) ∧ W.heap[bl]? = some (.cells #[.int .i64 a, .slice A l.length c] 27 (0, 0)) ∧ W.heap[bm]? = some (.cells #[.int .i64 m] 3 (0, 0))
theorem impl_CountSorted.clo (w0 : World) (bl bm : Nat) (a : Int) (A : Option Addr) (l : List Int) (c : Nat) (k : Nat) (hr : Kd.C (Kd.int .i64) w0 A l.length l) (hc : l.length ≤ c) (hbl : w0.heap.size ≤ bl) (hbm : w0.heap.size ≤ bm) : CloList 93 #[.pointer (some ⟨bl, 0, none⟩), .pointer (some ⟨bm, 0, none⟩)] w0.heap.size (impl_CountSorted.I w0 bl bm a A l c) (impl_CountSorted.step k l) where
  enters := enters_of Try.func93 (by kernel_rfl) rfl
  lt := fun s S W q hI hq => by
    obtain ⟨h1, h2, h3, h4⟩ := hI
    rcases (h1 q).1 hq with rfl | rfl
    · exact blk_lt h3
    · exact blk_lt h4
  move := fun s S W W' hI hm hsz => by
    obtain ⟨h1, h2, h3, h4⟩ := hI
    have hs : w0.heap.size ≤ W.heap.size := by have := blk_lt h3; omega
    exact ⟨h1, fun q hq => (hm q (by omega) (.inl hq)).trans (h2 q hq), (hm bl (blk_lt h3) (.inr ((h1 bl).2 (.inl rfl)))).trans h3, (hm bm (blk_lt h4) (.inr ((h1 bm).2 (.inr rfl)))).trans h4⟩
  call := fun s s' S W v xs hI hv hst => by
    obtain ⟨h1, h2, h3, h4⟩ := hI
    unfold impl_CountSorted.step at hst
    obtain ⟨t, e1, hst⟩ := Option.bind_eq_some_iff.mp hst
    obtain ⟨b, e2, hst⟩ := Option.bind_eq_some_iff.mp hst
    obtain rfl := Option.some.inj hst
    have hne : bl ≠ bm := blk_ne h3 h4 (by decide)
    refine (impl_CountSorted_1.calls k W bl bm a A l c s v xs t b ((Kd.heap_int .i64).C h2 hr) hc h3 h4 hv e1 e2).mono ?_
    rintro e w' ⟨rfl, he, hb⟩
    refine ⟨rfl, S, ⟨h1, fun q hq => ?_, ?_, hb⟩, ⟨he.b, he.k.mono (fun q hq => (h1 q).2 (.inr hq))⟩, fun q hq => .inl hq⟩
    · exact (he.k.2 q (by have := blk_lt h3; omega) (by show ¬ q = bm; omega)).trans (h2 q hq)
    · exact blk_kept h3 he.k (by show ¬ bl = bm; exact hne)
def impl_CountSorted.f (k : Nat) (a0_0 : Int) (l0_1 : List Int) : Option (Int × Bool) := (impl_isFew.f a0_0 l0_1).bind fun t1 => (if t1 = true then ((ordersF (impl_CountSorted.step k l0_1) k a0_0 (0 : Int)).bind fun m => some (m, true)) else (some (0, false)))
theorem impl_CountSorted.mono : ∀ a0 a1 k, LeO (impl_CountSorted.f k a0 a1) (impl_CountSorted.f (k + 1) a0 a1) := by
  intro a0 a1 k
  unfold impl_CountSorted.f
  exact LeO.bind (LeO.refl _) (fun _ => LeO.ite (LeO.bind (ordersF_mono (fun s xs => impl_CountSorted.step_mono k _ s xs) _ _ _) (fun _ => LeO.refl _)) (LeO.refl _))
set_option maxHeartbeats 8000000 in
set_option maxRecDepth 100000 in
theorem impl_CountSorted.calls (k : Nat) (a0_0 : Int) (A0_1 : Option Addr) (c0_1 : Nat) (l0_1 : List Int) (r1 : Int) (r2 : Bool) (w : World) (hr0_1 : Kd.C (Kd.int .i64) w A0_1 l0_1.length l0_1) (hc0_1 : l0_1.length ≤ c0_1) (h : impl_CountSorted.f k a0_0 l0_1 = some (r1, r2)) :
    Calls Try.prog 55 #[.agg #[.int .i64 a0_0, .slice A0_1 l0_1.length c0_1]] w fun e w' => e = .returned (.tuple #[.int .i64 r1, .bool r2]) ∧ Below w.heap.size w w' := by
  have hu := Try.underlying27
  have hmf : ∀ (fn : Fn) (first cap : Array Value) (w : World), (Instr.makeFunc fn first cap).run Try.prog w = .ok (.func fn first cap) w := fun _ _ _ _ => rfl
  have HR0_1 := Aside0.mk hr0_1
  have HC0_1 := Aside0.mk hc0_1
  clear hr0_1 hc0_1
  have HB := Aside0.mk (Below.refl w.heap.size w)
  unfold impl_CountSorted.f at h
  replace h := Option.bind_eq_some_iff.mp h
  obtain ⟨t1, e1, h⟩ := h
  have A2 := Aside0.mk e1
  clear e1
  cases t1 with
  | true =>
    rw [if_pos rfl] at h
    replace h := Option.bind_eq_some_iff.mp h
    obtain ⟨m, e2, h⟩ := h
    simp only [Option.some.injEq, Prod.mk.injEq] at h
    obtain ⟨rfl, rfl⟩ := h
    obtain ⟨n, rfl, hn8, hn2⟩ := few_nat A2.out
    have A3 := Aside0.mk e2
    clear e2
    have CL := Aside0.mk (fun bl bm h1 h2 => impl_CountSorted.clo w bl bm (n : Int) A0_1 l0_1 c0_1 k HR0_1.out HC0_1.out h1 h2)
    go_enter Try.func55, Try.ntmps55
    go_wp2_with (first | ((with_reducible refine gate_dst (N := 1) rfl ?_); refine box_event ?hg (N := 1) ?hd (cs := #[.int .i64 (n : Int), .slice A0_1 l0_1.length c0_1]) (t := 27) ?hr ?_; (case hd => rfl); (case hg => rfl); (case hr => first | (go_simp; done) | (go_simp; rfl)); intro gb hg w5 hbox hb; have n0_ := Aside0.mk (below_step HB.out hb); have n1_ := Aside0.mk (hbox); have n2_ := Aside0.mk ((by rw [hg]; exact (below_size HB.out)) : w.heap.size ≤ gb); clear HB; have HB := n0_; have BK := n1_; have GE := n2_; clear n0_ n1_ n2_; clear hb hbox hg; have hcz6_0 : w5.cell? ⟨gb, 0, none⟩ = some (.int .i64 (n : Int)) := (blk_cell BK.out 0).trans rfl; have hcz6_1 : w5.cell? ⟨gb, 1, none⟩ = some (.slice A0_1 l0_1.length c0_1) := (blk_cell BK.out 1).trans rfl) | ((with_reducible refine gate_callee (f := 89) rfl ?_); refine goesL_ (some 6) rfl rfl Try.func89 (by kernel_rfl) rfl #[.agg #[.int .i64 (n : Int), .slice A0_1 l0_1.length c0_1]] rfl (by (try simp only [List.map_toArray, List.map_cons, List.map_nil]); first | done | rfl | (simp only [List.length_drop, List.length_take]; rfl)) ?_; (with_reducible refine (impl_isFew.calls (n : Int) _ _ l0_1 true _ ?side1 ?side2 A2.out).mono ?_); (case side1 => exact (Kd.C_below HR0_1.out HB.out)); (case side2 => exact HC0_1.out); rintro e w7 ⟨rfl, hb⟩; refine ⟨_, rfl, ?_⟩; have n0_ := Aside0.mk (blk_below BK.out hb); have n1_ := Aside0.mk (below_step HB.out hb); clear BK; clear HB; have BK := n0_; have HB := n1_; clear n0_ n1_; clear hb; have hcz8_0 : w7.cell? ⟨gb, 0, none⟩ = some (.int .i64 (n : Int)) := (blk_cell BK.out 0).trans rfl; have hcz8_1 : w7.cell? ⟨gb, 1, none⟩ = some (.slice A0_1 l0_1.length c0_1) := (blk_cell BK.out 1).trans rfl; have hgl8 := blk_lt BK.out) | (go_at_call 90; refine (impl_orders.calls (impl_CountSorted.step k l0_1) (impl_CountSorted.I w gb w7.heap.size (n : Int) A0_1 l0_1 c0_1) 93 _ w.heap.size (CL.out gb w7.heap.size GE.out (below_size HB.out)) k (n : Int) (0 : Int) (fun k_ => k_ = gb ∨ k_ = w7.heap.size) m _ ⟨fun _ => Iff.rfl, fun k_ hk_ => (Below.heap_alloc w7 _ k_ (Nat.lt_of_lt_of_le hk_ HB.out.size)).trans (HB.out.block k_ hk_), blk_alloc BK.out _, blk_new w7 _⟩ (below_size (below_alloc HB.out _)) A3.out).mono ?_; rintro e w9 ⟨rfl, S', hI, he, hs⟩; have hx0 := cell_of_one hI.2.2.2; have n0_ := Aside0.mk (eff_below (below_alloc HB.out _) he (fun k_ h_ => h_.elim (fun e_ => e_ ▸ GE.out) (fun e_ => e_ ▸ below_size HB.out))); clear HB; have HB := n0_; clear n0_ hI he hs))
    go_ret2
    exact ⟨rfl, HB.out⟩
  | false =>
    rw [if_neg (by decide)] at h
    simp only [Option.some.injEq, Prod.mk.injEq] at h
    obtain ⟨rfl, rfl⟩ := h
    go_enter Try.func55, Try.ntmps55
    go_wp2_with (first | ((with_reducible refine gate_dst (N := 1) rfl ?_); refine box_event ?hg (N := 1) ?hd (cs := #[.int .i64 a0_0, .slice A0_1 l0_1.length c0_1]) (t := 27) ?hr ?_; (case hd => rfl); (case hg => rfl); (case hr => first | (go_simp; done) | (go_simp; rfl)); intro gb hg w5 hbox hb; have n0_ := Aside0.mk (below_step HB.out hb); have n1_ := Aside0.mk (hbox); have n2_ := Aside0.mk ((by rw [hg]; exact (below_size HB.out)) : w.heap.size ≤ gb); clear HB; have HB := n0_; have BK := n1_; have GE := n2_; clear n0_ n1_ n2_; clear hb hbox hg; have hcz6_0 : w5.cell? ⟨gb, 0, none⟩ = some (.int .i64 a0_0) := (blk_cell BK.out 0).trans rfl; have hcz6_1 : w5.cell? ⟨gb, 1, none⟩ = some (.slice A0_1 l0_1.length c0_1) := (blk_cell BK.out 1).trans rfl) | ((with_reducible refine gate_callee (f := 89) rfl ?_); refine goesL_ (some 6) rfl rfl Try.func89 (by kernel_rfl) rfl #[.agg #[.int .i64 a0_0, .slice A0_1 l0_1.length c0_1]] rfl (by (try simp only [List.map_toArray, List.map_cons, List.map_nil]); first | done | rfl | (simp only [List.length_drop, List.length_take]; rfl)) ?_; (with_reducible refine (impl_isFew.calls a0_0 _ _ l0_1 false _ ?side1 ?side2 A2.out).mono ?_); (case side1 => exact (Kd.C_below HR0_1.out HB.out)); (case side2 => exact HC0_1.out); rintro e w7 ⟨rfl, hb⟩; refine ⟨_, rfl, ?_⟩; have n0_ := Aside0.mk (blk_below BK.out hb); have n1_ := Aside0.mk (below_step HB.out hb); clear BK; clear HB; have BK := n0_; have HB := n1_; clear n0_ n1_; clear hb; have hcz8_0 : w7.cell? ⟨gb, 0, none⟩ = some (.int .i64 a0_0) := (blk_cell BK.out 0).trans rfl; have hcz8_1 : w7.cell? ⟨gb, 1, none⟩ = some (.slice A0_1 l0_1.length c0_1) := (blk_cell BK.out 1).trans rfl; have hgl8 := blk_lt BK.out))
    go_ret2
    exact ⟨rfl, HB.out⟩

end Go.Proofs.Ytmljdibhdnckpaa.Q
