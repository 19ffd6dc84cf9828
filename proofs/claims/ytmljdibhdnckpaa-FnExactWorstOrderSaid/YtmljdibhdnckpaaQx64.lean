/- Each function below comes to the Lean function beside it (theorems '.calls'); no condition beyond each theorem's own. Written by our program oprint.py over the kit's print. -/
import Derived.Test.YtmljdibhdnckpaaQx0
import Derived.Test.YtmljdibhdnckpaaQx1
import Derived.Test.YtmljdibhdnckpaaQx12
import Derived.Test.YtmljdibhdnckpaaQx36
import Derived.Test.YtmljdibhdnckpaaQx58
import Derived.Test.YtmljdibhdnckpaaQx63
import Derived.Shelf.Abstract
import Derived.WalkSpells
import Derived.Deep.QuietTactic
import Derived.BigQuiet
import Derived.RegionTactic
import Derived.ChangeAlike
namespace Go.Proofs.Ytmljdibhdnckpaa.Q
open Go.RowKit Go.Proofs.YtmljdibhdnckpaaW.PrintWords Go.Proofs.YtmljdibhdnckpaaW.PrintLast Go.Proofs.YtmljdibhdnckpaaW.PrintMore
attribute [local go_sem] max2_int min2_int max_two min_two max_three min_three max_four min_four   -- for this text's walks alone
set_option linter.unusedVariables false
set_option linter.unusedSimpArgs false

/-! ### impl_WorstOrder: function 53 -/
-- GIVEN impl_WorstOrder
set_option maxHeartbeats 8000000 in
set_option maxRecDepth 100000 in
theorem impl_WorstOrder_1_1.calls (W : World) (bq : Nat) (m x : Int) (hm : W.heap[bq]? = some (.cells #[.int .i64 m] 3 (0, 0))) :
    Calls Try.prog 92 #[.int .i64 x, .pointer (some ⟨bq, 0, none⟩)] W fun e w' => e = .returned (.tuple #[]) ∧ w' = W.setCell ⟨bq, 0, none⟩ (.int .i64 (wrap64 (m + 1))) := by
  have hx0 := cell_of_one hm
  have hf0 := free_of_one hm
  clear hm
  go_enter Try.func92, Try.ntmps92
  go_wp2
  go_end0
  exact ⟨rfl, rfl⟩
def impl_WorstOrder.tick (m : Int) (x : Int) : Option Int := some (wrap64 (m + 1))
def impl_WorstOrder.J (bq : Nat) (m : Int) (S : Nat → Prop) (W : World) : Prop := (∀ k, S k ↔ k = bq) ∧ W.heap[bq]? = some (.cells #[.int .i64 m] 3 (0, 0))
theorem impl_WorstOrder.inner (bq : Nat) : CloInt 92 #[.pointer (some ⟨bq, 0, none⟩)] 0 (impl_WorstOrder.J bq) impl_WorstOrder.tick where
  enters := enters_of Try.func92 (by kernel_rfl) rfl
  lt := fun s S W q hI hq => by
    obtain ⟨h1, h4⟩ := hI
    obtain rfl := (h1 q).1 hq
    exact blk_lt h4
  move := fun s S W W' hI hm hsz => by
    obtain ⟨h1, h4⟩ := hI
    exact ⟨h1, (hm bq (blk_lt h4) (.inr ((h1 bq).2 rfl))).trans h4⟩
  call := fun s s' S W x hI hst => by
    obtain ⟨h1, h4⟩ := hI
    obtain rfl := Option.some.inj hst
    refine (impl_WorstOrder_1_1.calls W bq s x h4).mono ?_
    rintro e w' ⟨rfl, rfl⟩
    exact ⟨rfl, S, ⟨h1, one_setCell h4⟩, eff_setS (Eff.refl _ _) (.inl ((h1 bq).2 rfl)), fun q hq => .inl hq⟩
set_option maxHeartbeats 8000000 in
set_option maxRecDepth 100000 in
theorem impl_WorstOrder_1.calls (k : Nat) (W : World) (bl bm bo : Nat) (a : Int) (A : Option Addr) (l : List Int) (c : Nat) (m : Int) (u v : Value) (xs r : List Int) (many : Int) {base : Nat} {ok : Nat → Prop} (hr : Kd.C (Kd.int .i64) W A l.length l) (hc : l.length ≤ c)
    (hl : W.heap[bl]? = some (.cells #[.int .i64 a, .slice A l.length c] 27 (0, 0))) (hm : W.heap[bm]? = some (.cells #[.int .i64 m] 3 (0, 0))) (hbo : W.heap[bo]? = some (.cells #[u] 25 (0, 0))) (hv : Kd.R (Kd.int .i64) 3 W base ok v xs) (h1 : impl_compareG.f impl_WorstOrder.tick k l xs 0 = some (r, many)) :
    Calls Try.prog 91 #[v, .pointer (some ⟨bl, 0, none⟩), .pointer (some ⟨bm, 0, none⟩), .pointer (some ⟨bo, 0, none⟩)] W fun e w' => e = .returned (.tuple #[]) ∧ Eff (fun k_ => k_ = bm ∨ k_ = bo) W w' ∧ (if m < many then w'.heap[bm]? = some (.cells #[.int .i64 many] 3 (0, 0)) ∧ w'.heap[bo]? = some (.cells #[v] 25 (0, 0)) else w'.heap[bm]? = some (.cells #[.int .i64 m] 3 (0, 0)) ∧ w'.heap[bo]? = some (.cells #[u] 25 (0, 0))) := by
  have hu := Try.underlying27
  have hmf : ∀ (fn : Fn) (first cap : Array Value) (w : World), (Instr.makeFunc fn first cap).run Try.prog w = .ok (.func fn first cap) w := fun _ _ _ _ => rfl
  obtain ⟨A1, c1, rfl, hc1, hr1⟩ := Kd.R_reads hv
  have hz0 : W.cell? ⟨bl, 0, none⟩ = some (.int .i64 a) := (blk_cell hl 0).trans rfl
  have hz1 : W.cell? ⟨bl, 1, none⟩ = some (.slice A l.length c) := (blk_cell hl 1).trans rfl
  have hzl := blk_lt hl
  have HM := Aside0.mk hm
  have HBO := Aside0.mk hbo
  have HC := Aside0.mk hc
  have HR1 := Aside0.mk hr1
  have HC1 := Aside0.mk hc1
  have A5 := Aside0.mk h1
  have HK := Aside0.mk (show ∀ W', Kept (W.alloc (.cells #[.int .i64 0] 3)) W' (fun k_ => k_ = W.heap.size) → Kd.C (Kd.int .i64) W' A l.length l from fun W' hk => (Kd.heap_int .i64).C (fun q hq => (hk.2 q (Nat.lt_of_lt_of_le hq (below_size (below_alloc (Below.refl _ _) _))) (by omega)).trans (Below.heap_alloc W _ q hq)) hr)
  clear hv hr1 hc1 hr hc hl hm hbo h1
  have hbm1 : bo ≠ bm := blk_ne HBO.out HM.out (by decide)
  have hbm2 : bm ≠ bo := fun h => hbm1 h.symm
  have hbo3 : W.heap.size ≠ bo := by have := blk_lt HBO.out; omega
  have hbo4 : W.heap.size ≠ bm := by have := blk_lt HM.out; omega
  by_cases hgt : m < many
  · go_enter Try.func91, Try.ntmps91
    go_wp2_with (first | (go_at_call 74; refine (impl_compareG.calls impl_WorstOrder.tick (impl_WorstOrder.J W.heap.size) 92 _ 0 (impl_WorstOrder.inner W.heap.size) k A c l A1 c1 xs 0 (fun k_ => k_ = W.heap.size) r many _ ⟨fun _ => Iff.rfl, blk_new W _⟩ (Nat.zero_le _) HK.out HC.out (Kd.C_below HR1.out (below_alloc (Below.refl _ _) _)) HC1.out A5.out).mono ?_; rintro e w9 ⟨v9, rfl, S', _, hJ, he, hs⟩; have HB : Aside0 (Below W.heap.size W w9) := Aside0.mk (eff_below (below_alloc (Below.refl _ _) _) he (fun k_ e_ => Nat.le_of_eq e_.symm)); have hq0 := cell_of_one hJ.2; have hm0 := cell_of_one (blk_below HM.out HB.out); have hm1 := free_of_one (blk_below HM.out HB.out); have ho0 := cell_of_one (blk_below HBO.out HB.out); have ho1 := free_of_one (blk_below HBO.out HB.out); clear hJ he hs))
    go_region
    go_big_unhide
    go_end0
    refine ⟨by first | rfl | trivial, by repeat (first | exact Eff.of_below HB.out | apply eff_drewN | apply eff_drew | refine eff_setS ?_ (.inl (.inl rfl)) | refine eff_setS ?_ (.inl (.inr rfl))), ?_⟩
    rw [if_pos hgt]
    exact ⟨blk_drew (one_setCell ((Below.heap_setCell _ _ _ _ hbm2).trans (blk_below HM.out HB.out))), blk_drew ((Below.heap_setCell _ _ _ _ hbm1).trans (one_setCell (blk_below HBO.out HB.out)))⟩
  · have hgb : many ≤ m := by omega
    go_enter Try.func91, Try.ntmps91
    go_wp2_with (first | (go_at_call 74; refine (impl_compareG.calls impl_WorstOrder.tick (impl_WorstOrder.J W.heap.size) 92 _ 0 (impl_WorstOrder.inner W.heap.size) k A c l A1 c1 xs 0 (fun k_ => k_ = W.heap.size) r many _ ⟨fun _ => Iff.rfl, blk_new W _⟩ (Nat.zero_le _) HK.out HC.out (Kd.C_below HR1.out (below_alloc (Below.refl _ _) _)) HC1.out A5.out).mono ?_; rintro e w9 ⟨v9, rfl, S', _, hJ, he, hs⟩; have HB : Aside0 (Below W.heap.size W w9) := Aside0.mk (eff_below (below_alloc (Below.refl _ _) _) he (fun k_ e_ => Nat.le_of_eq e_.symm)); have hq0 := cell_of_one hJ.2; have hm0 := cell_of_one (blk_below HM.out HB.out); have hm1 := free_of_one (blk_below HM.out HB.out); have ho0 := cell_of_one (blk_below HBO.out HB.out); have ho1 := free_of_one (blk_below HBO.out HB.out); clear hJ he hs))
    go_end0
    refine ⟨by first | rfl | trivial, by repeat (first | exact Eff.of_below HB.out | apply eff_drewN | apply eff_drew), ?_⟩
    try rw [if_neg (by omega)]
    exact ⟨by repeat (first | exact blk_below HM.out HB.out | apply blk_drewN | apply blk_drew), by repeat (first | exact blk_below HBO.out HB.out | apply blk_drewN | apply blk_drew)⟩
def impl_WorstOrder.step (k : Nat) (l : List Int) (s : List Int × Int) (xs : List Int) : Option (List Int × Int) := if xs = [] then none else (impl_compareG.f impl_WorstOrder.tick k l xs 0).bind fun p => some (if s.2 < p.2 then (xs, p.2) else s)
theorem impl_WorstOrder.step_mono (k : Nat) (l : List Int) (s : List Int × Int) (xs : List Int) : LeO (impl_WorstOrder.step k l s xs) (impl_WorstOrder.step (k + 1) l s xs) := by
  unfold impl_WorstOrder.step
  exact LeO.ite (LeO.refl _) (LeO.bind (impl_compareG.mono _ _ _ _ _) (fun _ => LeO.refl _))
/-- What the function value's blocks hold. -/
def impl_WorstOrder.I (w0 : World) (bl bm bo : Nat) (a : Int) (A : Option Addr) (l : List Int) (c : Nat) (s : List Int × Int) (S : Nat → Prop) (W : World) : Prop :=
  ∃ v : Value, (∀ k, S k ↔ (k = bl ∨ k = bm ∨ k = bo ∨ v.ownBlock = some k)) ∧ (∀ k, k < w0.heap.size → W.heap[k]? = w0.heap[k]?) ∧ W.heap[bl]? = some (.cells #[.int .i64 a, .slice A l.length c] 27 (0, 0)) ∧ W.heap[bm]? = some (.cells #[.int .i64 s.2] 3 (0, 0)) ∧ W.heap[bo]? = some (.cells #[v] 25 (0, 0)) ∧ (v.ownBlock ≠ some bm ∧ v.ownBlock ≠ some bo) ∧ Kd.R (Kd.int .i64) 3 W w0.heap.size (fun _ => True) v s.1
theorem impl_WorstOrder.clo (w0 : World) (bl bm bo : Nat) (a : Int) (A : Option Addr) (l : List Int) (c : Nat) (k : Nat) (hr : Kd.C (Kd.int .i64) w0 A l.length l) (hc : l.length ≤ c) (hbl : w0.heap.size ≤ bl) (hbm : w0.heap.size ≤ bm) (hbo : w0.heap.size ≤ bo) : CloList 91 #[.pointer (some ⟨bl, 0, none⟩), .pointer (some ⟨bm, 0, none⟩), .pointer (some ⟨bo, 0, none⟩)] w0.heap.size (impl_WorstOrder.I w0 bl bm bo a A l c) (impl_WorstOrder.step k l) where
  enters := enters_of Try.func91 (by kernel_rfl) rfl
  lt := fun s S W q hI hq => by
    obtain ⟨v, h1, h2, h3, h4, h5, h6, h7⟩ := hI
    rcases (h1 q).1 hq with rfl | rfl | rfl | hq
    · exact blk_lt h3
    · exact blk_lt h4
    · exact blk_lt h5
    · exact ((Kd.R_bound h7).1 q hq).2.2.1
  move := fun s S W W' hI hm hsz => by
    obtain ⟨v, h1, h2, h3, h4, h5, h6, h7⟩ := hI
    have hs : w0.heap.size ≤ W.heap.size := by have := blk_lt h3; omega
    exact ⟨v, h1, fun q hq => (hm q (by omega) (.inl hq)).trans (h2 q hq), (hm bl (blk_lt h3) (.inr ((h1 bl).2 (.inl rfl)))).trans h3, (hm bm (blk_lt h4) (.inr ((h1 bm).2 (.inr (.inl rfl))))).trans h4, (hm bo (blk_lt h5) (.inr ((h1 bo).2 (.inr (.inr (.inl rfl)))))).trans h5, h6,
      Kd.R_mono (Kd.R_move (Kd.R_tight rfl h7) (fun q hq => hm q ((Kd.R_bound h7).1 q hq.symm).2.2.1 (.inr ((h1 q).2 (.inr (.inr (.inr hq.symm))))))) (fun _ _ => trivial)⟩
  call := fun s s' S W v xs hI hv hst => by
    obtain ⟨u, h1, h2, h3, h4, h5, h6, h7⟩ := hI
    unfold impl_WorstOrder.step at hst
    by_cases hx : xs = []
    · rw [if_pos hx] at hst
      cases hst
    rw [if_neg hx] at hst
    obtain ⟨⟨r, many⟩, e1, hst⟩ := Option.bind_eq_some_iff.mp hst
    obtain rfl := Option.some.inj hst
    clear hst
    have hlm : bl ≠ bm := blk_ne h3 h4 (by decide)
    have hlo : bl ≠ bo := blk_ne h3 h5 (by decide)
    have hs : w0.heap.size ≤ W.heap.size := by have := blk_lt h3; omega
    refine (impl_WorstOrder_1.calls k W bl bm bo a A l c s.2 u v xs r many ((Kd.heap_int .i64).C h2 hr) hc h3 h4 h5 hv e1).mono ?_
    rintro e w' ⟨he0, he, hw⟩
    have hold : ∀ q, q < w0.heap.size → w'.heap[q]? = w0.heap[q]? := fun q hq => (he.k.2 q (by omega) (by intro hh; omega)).trans (h2 q hq)
    have hl' := (he.k.2 bl (blk_lt h3) (by intro hh; omega)).trans h3
    have he' : Eff S W w' := ⟨he.b, he.k.mono (fun q hq => by
      rcases hq with rfl | rfl
      · exact (h1 _).2 (.inr (.inl rfl))
      · exact (h1 _).2 (.inr (.inr (.inl rfl))))⟩
    by_cases hgt : s.2 < many
    · rw [if_pos hgt] at hw
      simp only [if_pos hgt]
      refine ⟨he0, (fun q => q = bl ∨ q = bm ∨ q = bo ∨ v.ownBlock = some q), ⟨v, fun _ => Iff.rfl, hold, hl', hw.1, hw.2, ⟨fun hq => (hv.1 bm hq) ((h1 _).2 (.inr (.inl rfl))), fun hq => (hv.1 bo hq) ((h1 _).2 (.inr (.inr (.inl rfl))))⟩, Kd.R_mono (Kd.R_kept hv he'.k (fun q hq => hq)) (fun _ _ => trivial)⟩, he', ?_⟩
      intro q hq
      rcases hq with rfl | rfl | rfl | hq
      · exact .inl ((h1 _).2 (.inl rfl))
      · exact .inl ((h1 _).2 (.inr (.inl rfl)))
      · exact .inl ((h1 _).2 (.inr (.inr (.inl rfl))))
      · exact .inr (.inl hq)
    · rw [if_neg hgt] at hw
      simp only [if_neg hgt]
      refine ⟨he0, S, ⟨u, h1, hold, hl', hw.1, hw.2, h6, Kd.R_mono (Kd.R_kept (Kd.R_tight rfl h7) he.k (fun q hq hh => ?_)) (fun _ _ => trivial)⟩, he', fun q hq => .inl hq⟩
      rcases hh with rfl | rfl
      · exact h6.1 hq.symm
      · exact h6.2 hq.symm
def impl_WorstOrder.f (k : Nat) (a0_0 : Int) (l0_1 : List Int) : Option (List Int × Int × Bool) := (impl_isFew.f a0_0 l0_1).bind fun t1 => (if t1 = true then ((ordersF (impl_WorstOrder.step k l0_1) k a0_0 (([] : List Int), (-1 : Int))).bind fun o => some (o.1, o.2, true)) else (some ([], 0, false)))
theorem impl_WorstOrder.mono : ∀ a0 a1 k, LeO (impl_WorstOrder.f k a0 a1) (impl_WorstOrder.f (k + 1) a0 a1) := by
  intro a0 a1 k
  unfold impl_WorstOrder.f
  exact LeO.bind (LeO.refl _) (fun _ => LeO.ite (LeO.bind (ordersF_mono (fun s xs => impl_WorstOrder.step_mono k _ s xs) _ _ _) (fun _ => LeO.refl _)) (LeO.refl _))
set_option maxHeartbeats 8000000 in
set_option maxRecDepth 100000 in
set_option linter.unusedVariables false in
theorem impl_WorstOrder.calls (k : Nat) (a0_0 : Int) (A0_1 : Option Addr) (c0_1 : Nat) (l0_1 : List Int) (r1 : List Int) (r2 : Int) (r3 : Bool) (w : World) (hr0_1 : Kd.C (Kd.int .i64) w A0_1 l0_1.length l0_1) (hc0_1 : l0_1.length ≤ c0_1) (h : impl_WorstOrder.f k a0_0 l0_1 = some (r1, r2, r3)) :
    Calls Try.prog 53 #[.agg #[.int .i64 a0_0, .slice A0_1 l0_1.length c0_1]] w fun e w' => ∃ v0_ : Value, e = .returned (.tuple #[v0_, .int .i64 r2, .bool r3]) ∧ Kd.R (Kd.int .i64) 3 w' w.heap.size (fun _ => True) v0_ r1 ∧ Below w.heap.size w w' := by
  have hu := Try.underlying27
  have hmf : ∀ (fn : Fn) (first cap : Array Value) (w : World), (Instr.makeFunc fn first cap).run Try.prog w = .ok (.func fn first cap) w := fun _ _ _ _ => rfl
  have HR0_1 := Aside0.mk hr0_1
  have HC0_1 := Aside0.mk hc0_1
  clear hr0_1 hc0_1
  have HB := Aside0.mk (Below.refl w.heap.size w)
  unfold impl_WorstOrder.f at h
  replace h := Option.bind_eq_some_iff.mp h
  obtain ⟨t1, e1, h⟩ := h
  have A2 := Aside0.mk e1
  clear e1
  cases t1 with
  | true =>
    rw [if_pos rfl] at h
    replace h := Option.bind_eq_some_iff.mp h
    obtain ⟨⟨m, many⟩, e2, h⟩ := h
    simp only [Option.some.injEq, Prod.mk.injEq] at h
    obtain ⟨rfl, rfl, rfl⟩ := h
    obtain ⟨n, rfl, hn8, hn2⟩ := few_nat A2.out
    have A3 := Aside0.mk e2
    clear e2
    have CL := Aside0.mk (fun bl bm bo h1 h2 h3 => impl_WorstOrder.clo w bl bm bo (n : Int) A0_1 l0_1 c0_1 k HR0_1.out HC0_1.out h1 h2 h3)
    go_enter Try.func53, Try.ntmps53
    go_wp2_with (first | ((with_reducible refine gate_dst (N := 1) rfl ?_); refine box_event ?hg (N := 1) ?hd (cs := #[.int .i64 (n : Int), .slice A0_1 l0_1.length c0_1]) (t := 27) ?hr ?_; (case hd => rfl); (case hg => rfl); (case hr => first | (go_simp; done) | (go_simp; rfl)); intro gb hg w5 hbox hb; have n0_ := Aside0.mk (below_step HB.out hb); have n1_ := Aside0.mk (hbox); have n2_ := Aside0.mk ((by rw [hg]; exact (below_size HB.out)) : w.heap.size ≤ gb); clear HB; have HB := n0_; have BK := n1_; have GE := n2_; clear n0_ n1_ n2_; clear hb hbox hg; have hcz6_0 : w5.cell? ⟨gb, 0, none⟩ = some (.int .i64 (n : Int)) := (blk_cell BK.out 0).trans rfl; have hcz6_1 : w5.cell? ⟨gb, 1, none⟩ = some (.slice A0_1 l0_1.length c0_1) := (blk_cell BK.out 1).trans rfl) | ((with_reducible refine gate_callee (f := 89) rfl ?_); refine goesL_ (some 8) rfl rfl Try.func89 (by kernel_rfl) rfl #[.agg #[.int .i64 (n : Int), .slice A0_1 l0_1.length c0_1]] rfl (by (try simp only [List.map_toArray, List.map_cons, List.map_nil]); first | done | rfl | (simp only [List.length_drop, List.length_take]; rfl)) ?_; (with_reducible refine (impl_isFew.calls (n : Int) _ _ l0_1 true _ ?side1 ?side2 A2.out).mono ?_); (case side1 => exact (Kd.C_below HR0_1.out HB.out)); (case side2 => exact HC0_1.out); rintro e w7 ⟨rfl, hb⟩; refine ⟨_, rfl, ?_⟩; have n0_ := Aside0.mk (blk_below BK.out hb); have n1_ := Aside0.mk (below_step HB.out hb); clear BK; clear HB; have BK := n0_; have HB := n1_; clear n0_ n1_; clear hb; have hcz8_0 : w7.cell? ⟨gb, 0, none⟩ = some (.int .i64 (n : Int)) := (blk_cell BK.out 0).trans rfl; have hcz8_1 : w7.cell? ⟨gb, 1, none⟩ = some (.slice A0_1 l0_1.length c0_1) := (blk_cell BK.out 1).trans rfl; have hgl8 := blk_lt BK.out) | (go_at_call 90; refine (impl_orders.calls (impl_WorstOrder.step k l0_1) (impl_WorstOrder.I w gb (w7.heap.size + 1) w7.heap.size (n : Int) A0_1 l0_1 c0_1) 91 _ w.heap.size (CL.out gb (w7.heap.size + 1) w7.heap.size GE.out (Nat.le_succ_of_le (below_size HB.out)) (below_size HB.out)) k (n : Int) (([] : List Int), (-1 : Int)) (fun k_ => k_ = gb ∨ k_ = w7.heap.size + 1 ∨ k_ = w7.heap.size ∨ (Value.slice none 0 0).ownBlock = some k_) (m, many) _ ⟨.slice none 0 0, fun _ => Iff.rfl, fun k_ hk_ => (Below.heap_alloc (w7.alloc _) _ k_ (Nat.lt_of_lt_of_le hk_ (below_size (below_alloc HB.out _)))).trans ((Below.heap_alloc w7 _ k_ (Nat.lt_of_lt_of_le hk_ (below_size HB.out))).trans (HB.out.block k_ hk_)), blk_alloc (blk_alloc BK.out _) _, (by rw [show w7.heap.size + 1 = (w7.alloc (Obj.cells #[.slice none 0 0] 25)).heap.size from (by simp)]; exact blk_new _ _), blk_alloc (blk_new w7 _) _, ⟨by simp [Value.ownBlock], by simp [Value.ownBlock]⟩, Kd.R_nil _ _ _ _ _⟩ (below_size (below_alloc (below_alloc HB.out _) _)) A3.out).mono ?_; rintro e w9 ⟨rfl, S', hI, he, hs⟩; have HX := Aside0.mk hI; have n0_ := Aside0.mk (eff_below (below_alloc (below_alloc HB.out _) _) he (fun k_ h_ => h_.elim (fun e_ => e_ ▸ GE.out) (fun h2_ => h2_.elim (fun e_ => e_ ▸ Nat.le_succ_of_le (below_size HB.out)) (fun h3_ => h3_.elim (fun e_ => e_ ▸ below_size HB.out) (fun e_ => by simp [Value.ownBlock] at e_))))); clear HB; have HB := n0_; clear n0_ hI he hs))
    obtain ⟨v, h1, h2, h3, h4, h5, h6, h7⟩ := HX.out
    have HV := Aside0.mk h7
    have hx0 := cell_of_one h5
    have hx1 := cell_of_one h4
    clear HX h1 h2 h3 h4 h5 h6 h7
    go_quiet (fail)
    go_wp2
    go_ret3
    exact ⟨_, rfl, by (with_reducible repeat (first | apply Kd.R_alloc | apply Kd.R_drewN | apply Kd.R_drew)); exact HV.out, by repeat (first | exact HB.out | apply pw_below_drewN | apply below_drew1)⟩
  | false =>
    rw [if_neg (by decide)] at h
    simp only [Option.some.injEq, Prod.mk.injEq] at h
    obtain ⟨rfl, rfl, rfl⟩ := h
    go_enter Try.func53, Try.ntmps53
    go_wp2_with (first | ((with_reducible refine gate_dst (N := 1) rfl ?_); refine box_event ?hg (N := 1) ?hd (cs := #[.int .i64 a0_0, .slice A0_1 l0_1.length c0_1]) (t := 27) ?hr ?_; (case hd => rfl); (case hg => rfl); (case hr => first | (go_simp; done) | (go_simp; rfl)); intro gb hg w5 hbox hb; have n0_ := Aside0.mk (below_step HB.out hb); have n1_ := Aside0.mk (hbox); have n2_ := Aside0.mk ((by rw [hg]; exact (below_size HB.out)) : w.heap.size ≤ gb); clear HB; have HB := n0_; have BK := n1_; have GE := n2_; clear n0_ n1_ n2_; clear hb hbox hg; have hcz6_0 : w5.cell? ⟨gb, 0, none⟩ = some (.int .i64 a0_0) := (blk_cell BK.out 0).trans rfl; have hcz6_1 : w5.cell? ⟨gb, 1, none⟩ = some (.slice A0_1 l0_1.length c0_1) := (blk_cell BK.out 1).trans rfl) | ((with_reducible refine gate_callee (f := 89) rfl ?_); refine goesL_ (some 8) rfl rfl Try.func89 (by kernel_rfl) rfl #[.agg #[.int .i64 a0_0, .slice A0_1 l0_1.length c0_1]] rfl (by (try simp only [List.map_toArray, List.map_cons, List.map_nil]); first | done | rfl | (simp only [List.length_drop, List.length_take]; rfl)) ?_; (with_reducible refine (impl_isFew.calls a0_0 _ _ l0_1 false _ ?side1 ?side2 A2.out).mono ?_); (case side1 => exact (Kd.C_below HR0_1.out HB.out)); (case side2 => exact HC0_1.out); rintro e w7 ⟨rfl, hb⟩; refine ⟨_, rfl, ?_⟩; have n0_ := Aside0.mk (blk_below BK.out hb); have n1_ := Aside0.mk (below_step HB.out hb); clear BK; clear HB; have BK := n0_; have HB := n1_; clear n0_ n1_; clear hb; have hcz8_0 : w7.cell? ⟨gb, 0, none⟩ = some (.int .i64 a0_0) := (blk_cell BK.out 0).trans rfl; have hcz8_1 : w7.cell? ⟨gb, 1, none⟩ = some (.slice A0_1 l0_1.length c0_1) := (blk_cell BK.out 1).trans rfl; have hgl8 := blk_lt BK.out))
    go_ret3
    exact ⟨_, rfl, Kd.R_nil _ _ _ _ _, HB.out⟩

end Go.Proofs.Ytmljdibhdnckpaa.Q
