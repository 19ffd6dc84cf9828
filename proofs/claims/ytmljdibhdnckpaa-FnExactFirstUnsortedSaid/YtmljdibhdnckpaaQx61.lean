/- Each function below comes to the Lean function beside it (theorems '.calls'); no condition beyond each theorem's own. Written by our program oprint.py over the kit's print. -/
import Derived.Test.YtmljdibhdnckpaaQx0
import Derived.Test.YtmljdibhdnckpaaQx1
import Derived.Test.YtmljdibhdnckpaaQx12
import Derived.Test.YtmljdibhdnckpaaQx36
import Derived.Test.YtmljdibhdnckpaaQx58
import Derived.Test.YtmljdibhdnckpaaQx63
import Derived.Shelf.Abstract
import Derived.WalkSpells
import Derived.Deep.QuietTactic
import Derived.BigQuiet
namespace Go.Proofs.Ytmljdibhdnckpaa.Q
open Go.RowKit Go.Proofs.YtmljdibhdnckpaaW.PrintWords Go.Proofs.YtmljdibhdnckpaaW.PrintLast Go.Proofs.YtmljdibhdnckpaaW.PrintMore
attribute [local go_sem] max2_int min2_int max_two min_two max_three min_three max_four min_four   -- for this text's walks alone
set_option linter.unusedVariables false
set_option linter.unusedSimpArgs false

/-! ### impl_FirstUnsorted: function 57 -/
-- GIVEN impl_FirstUnsorted
set_option maxHeartbeats 8000000 in
set_option maxRecDepth 100000 in
theorem impl_FirstUnsorted_1.hit (k : Nat) (W : World) (bl bm : Nat) (a : Int) (A : Option Addr) (l : List Int) (c : Nat) (v : Value) (xs t : List Int) (b : Bool) {base : Nat} {ok : Nat → Prop} (hr : Kd.C (Kd.int .i64) W A l.length l) (hc : l.length ≤ c)
    (hl : W.heap[bl]? = some (.cells #[.int .i64 a, .slice A l.length c] 27 (0, 0))) (hm : W.heap[bm]? = some (.cells #[.slice none 0 0] 25 (0, 0))) (hv : Kd.R (Kd.int .i64) 3 W base ok v xs) (h1 : impl_sorted.f k l xs = some t) (h2 : slices_IsSorted_int_int.f k t = some b) :
    Calls Try.prog 94 #[v, .pointer (some ⟨bm, 0, none⟩), .pointer (some ⟨bl, 0, none⟩)] W fun e w' => e = .returned (.tuple #[]) ∧ ∃ w2, Below W.heap.size W w2 ∧ (if b = true then w' = w2 else w' = w2.setCell ⟨bm, 0, none⟩ v) := by
  have hu := Try.underlying27
  have heq := fun W : World => Lib.run_eql_slice_nil (P := Try.prog) W 25 3 none 0 0 0 0 Try.underlying25
  obtain ⟨A1, c1, rfl, hc1, hr1⟩ := Kd.R_reads hv
  have hz0 : W.cell? ⟨bl, 0, none⟩ = some (.int .i64 a) := (blk_cell hl 0).trans rfl
  have hz1 : W.cell? ⟨bl, 1, none⟩ = some (.slice A l.length c) := (blk_cell hl 1).trans rfl
  have hx0 := cell_of_one hm
  have HM := Aside0.mk hm
  have HR := Aside0.mk hr
  have HC := Aside0.mk hc
  have HR1 := Aside0.mk hr1
  have HC1 := Aside0.mk hc1
  have A5 := Aside0.mk h1
  have A6 := Aside0.mk h2
  clear hv hr1 hc1 hr hc hl hm h1 h2
  cases b with
  | true =>
    go_enter Try.func94, Try.ntmps94
    go_wp2_with (first | (go_at_call 66; refine (impl_sorted.calls k _ _ l _ _ xs t _ HR.out HC.out HR1.out HC1.out A5.out).mono ?_; rintro e w10 ⟨v476, rfl, ho0, hb⟩; obtain ⟨A2, c2, rfl, hc2, hr2⟩ := Kd.R_reads ho0; have HR2 := Aside0.mk hr2; have HC2 := Aside0.mk hc2; have HB := Aside0.mk hb; have HM2 := Aside0.mk (blk_below HM.out hb); clear hr2 hc2 hb ho0; have hy0 := cell_of_one HM2.out; have hf0 := free_of_one HM2.out) | (go_at_call 65; refine (slices_IsSorted_int_int.calls k _ _ t _ _ HR2.out HC2.out A6.out).mono ?_; rintro e w' ⟨rfl, ⟨nd, rfl⟩⟩))
    go_end0
    first | exact ⟨rfl, w10.drewN nd, pw_below_drewN HB.out nd, rfl⟩ | exact ⟨rfl, pw_below_drewN HB.out nd⟩
  | false =>
    go_enter Try.func94, Try.ntmps94
    go_wp2_with (first | (go_at_call 66; refine (impl_sorted.calls k _ _ l _ _ xs t _ HR.out HC.out HR1.out HC1.out A5.out).mono ?_; rintro e w10 ⟨v476, rfl, ho0, hb⟩; obtain ⟨A2, c2, rfl, hc2, hr2⟩ := Kd.R_reads ho0; have HR2 := Aside0.mk hr2; have HC2 := Aside0.mk hc2; have HB := Aside0.mk hb; have HM2 := Aside0.mk (blk_below HM.out hb); clear hr2 hc2 hb ho0; have hy0 := cell_of_one HM2.out; have hf0 := free_of_one HM2.out) | (go_at_call 65; refine (slices_IsSorted_int_int.calls k _ _ t _ _ HR2.out HC2.out A6.out).mono ?_; rintro e w' ⟨rfl, ⟨nd, rfl⟩⟩))
    go_end0
    first | exact ⟨rfl, w10.drewN nd, pw_below_drewN HB.out nd, rfl⟩ | exact ⟨rfl, pw_below_drewN HB.out nd⟩
set_option maxHeartbeats 8000000 in
set_option maxRecDepth 100000 in
theorem impl_FirstUnsorted_1.miss (W : World) (bl bm : Nat) (ad : Addr) (n c : Nat) (v : Value) (hm : W.heap[bm]? = some (.cells #[.slice (some ad) n c] 25 (0, 0))) :
    Calls Try.prog 94 #[v, .pointer (some ⟨bm, 0, none⟩), .pointer (some ⟨bl, 0, none⟩)] W fun e w' => e = .returned (.tuple #[]) ∧ W = w' := by
  have heq := fun W : World => Lib.run_eql_slice_nil (P := Try.prog) W 25 3 (some ad) n c 0 0 Try.underlying25
  have hx0 := cell_of_one hm
  clear hm
  go_enter Try.func94, Try.ntmps94
  go_wp2
  go_end0
  exact ⟨rfl, rfl⟩
/-- A round: the first list that is not sorted behind the rungs is kept. -/
def impl_FirstUnsorted.step (k : Nat) (l : List Int) (o : List Int) (xs : List Int) : Option (List Int) := if xs = [] then none else if o = [] then ((impl_sorted.f k l xs).bind fun t => (slices_IsSorted_int_int.f k t).bind fun b => some (if b = true then [] else xs)) else some o
theorem impl_FirstUnsorted.step_mono (k : Nat) (l : List Int) (o : List Int) (xs : List Int) : LeO (impl_FirstUnsorted.step k l o xs) (impl_FirstUnsorted.step (k + 1) l o xs) := by
  unfold impl_FirstUnsorted.step
  exact LeO.ite (LeO.refl _) (LeO.ite (LeO.bind (impl_sorted.mono _ _ _) (fun _ => LeO.bind (slices_IsSorted_int_int.mono _ _) (fun _ => LeO.refl _))) (LeO.refl _))
/-- What the function value's blocks hold. -/
def impl_FirstUnsorted.I (w0 : World) (bl bm : Nat) (a : Int) (A : Option Addr) (l : List Int) (c : Nat) (o : List Int) (S : Nat → Prop) (W : World) : Prop :=
  ∃ v : Value, (∀ k, S k ↔ (k = bl ∨ k = bm ∨ v.ownBlock = some k)) ∧ (∀ k, k < w0.heap.size → W.heap[k]? = w0.heap[k]?) ∧ W.heap[bl]? = some (.cells #[.int .i64 a, .slice A l.length c] 27 (0, 0)) ∧ W.heap[bm]? = some (.cells #[v] 25 (0, 0)) ∧ (o = [] → v = .slice none 0 0) ∧ Kd.R (Kd.int .i64) 3 W w0.heap.size (fun _ => True) v o
theorem impl_FirstUnsorted.clo (w0 : World) (bl bm : Nat) (a : Int) (A : Option Addr) (l : List Int) (c : Nat) (k : Nat) (hr : Kd.C (Kd.int .i64) w0 A l.length l) (hc : l.length ≤ c) (hbl : w0.heap.size ≤ bl) (hbm : w0.heap.size ≤ bm) : CloList 94 #[.pointer (some ⟨bm, 0, none⟩), .pointer (some ⟨bl, 0, none⟩)] w0.heap.size (impl_FirstUnsorted.I w0 bl bm a A l c) (impl_FirstUnsorted.step k l) where
  enters := enters_of Try.func94 (by kernel_rfl) rfl
  lt := fun s S W q hI hq => by
    obtain ⟨v, h1, h2, h3, h4, h5, h6⟩ := hI
    rcases (h1 q).1 hq with rfl | rfl | hq
    · exact blk_lt h3
    · exact blk_lt h4
    · exact ((Kd.R_bound h6).1 q hq).2.2.1
  move := fun s S W W' hI hm hsz => by
    obtain ⟨v, h1, h2, h3, h4, h5, h6⟩ := hI
    have hs : w0.heap.size ≤ W.heap.size := by have := blk_lt h3; omega
    exact ⟨v, h1, fun q hq => (hm q (by omega) (.inl hq)).trans (h2 q hq), (hm bl (blk_lt h3) (.inr ((h1 bl).2 (.inl rfl)))).trans h3, (hm bm (blk_lt h4) (.inr ((h1 bm).2 (.inr (.inl rfl))))).trans h4, h5,
      Kd.R_mono (Kd.R_move (Kd.R_tight rfl h6) (fun q hq => hm q ((Kd.R_bound h6).1 q hq.symm).2.2.1 (.inr ((h1 q).2 (.inr (.inr hq.symm)))))) (fun _ _ => trivial)⟩
  call := fun s s' S W v xs hI hv hst => by
    obtain ⟨u, h1, h2, h3, h4, h5, h6⟩ := hI
    unfold impl_FirstUnsorted.step at hst
    by_cases hx : xs = []
    · rw [if_pos hx] at hst
      cases hst
    rw [if_neg hx] at hst
    have hne : bl ≠ bm := blk_ne h3 h4 (by decide)
    have hs : w0.heap.size ≤ W.heap.size := by have := blk_lt h3; omega
    by_cases ho : s = []
    · rw [if_pos ho] at hst
      obtain ⟨t, e1, hst⟩ := Option.bind_eq_some_iff.mp hst
      obtain ⟨b, e2, hst⟩ := Option.bind_eq_some_iff.mp hst
      obtain rfl := Option.some.inj hst
      obtain rfl := h5 ho
      refine (impl_FirstUnsorted_1.hit k W bl bm a A l c v xs t b ((Kd.heap_int .i64).C h2 hr) hc h3 h4 hv e1 e2).mono ?_
      rintro e w' ⟨rfl, w2, hb, hw⟩
      have hold : ∀ q, q < w0.heap.size → w2.heap[q]? = w0.heap[q]? := fun q hq => (hb.block q (by omega)).trans (h2 q hq)
      cases b with
      | true =>
        rw [if_pos rfl] at hw
        subst hw
        refine ⟨rfl, S, ⟨.slice none 0 0, h1, hold, blk_below h3 hb, blk_below h4 hb, fun _ => rfl, Kd.R_nil _ _ _ _ _⟩, Eff.of_below hb, fun q hq => .inl hq⟩
      | false =>
        rw [if_neg (by decide)] at hw
        subst hw
        refine ⟨rfl, (fun q => q = bl ∨ q = bm ∨ v.ownBlock = some q), ⟨v, fun _ => Iff.rfl, fun q hq => (Below.heap_setCell _ _ _ _ (by show q ≠ bm; omega)).trans (hold q hq), (Below.heap_setCell _ _ _ _ (by show bl ≠ bm; exact hne)).trans (blk_below h3 hb), one_setCell (blk_below h4 hb), fun h => absurd h hx, ?_⟩, eff_setS (Eff.of_below hb) (.inl ((h1 bm).2 (.inr (.inl rfl)))), ?_⟩
        · exact Kd.R_set (Kd.R_mono (Kd.R_below hv hb) (fun _ _ => trivial)) (blk_below h4 hb) (by intro q hq; simp [Kd.int, Kd.scalar] at hq; omega) 0 v
        · intro q hq
          rcases hq with rfl | rfl | hq
          · exact .inl ((h1 _).2 (.inl rfl))
          · exact .inl ((h1 _).2 (.inr (.inl rfl)))
          · exact .inr (.inl hq)
    · rw [if_neg ho] at hst
      obtain rfl := Option.some.inj hst
      have hp : 0 < s.length := List.length_pos_iff.2 ho
      obtain ⟨g, cp, rfl, _⟩ := Kd.R_form h6 hp
      refine (impl_FirstUnsorted_1.miss W bl bm ⟨g, 0, none⟩ s.length cp v h4).mono ?_
      rintro e w' ⟨rfl, rfl⟩
      exact ⟨rfl, S, ⟨_, h1, h2, h3, h4, h5, h6⟩, Eff.refl _ _, fun q hq => .inl hq⟩
def impl_FirstUnsorted.f (k : Nat) (a0_0 : Int) (l0_1 : List Int) : Option (List Int × Bool) := (impl_isFew.f a0_0 l0_1).bind fun t1 => (if t1 = true then ((ordersF (impl_FirstUnsorted.step k l0_1) k a0_0 ([] : List Int)).bind fun o => some (o, !o.isEmpty)) else (some ([], false)))
theorem impl_FirstUnsorted.mono : ∀ a0 a1 k, LeO (impl_FirstUnsorted.f k a0 a1) (impl_FirstUnsorted.f (k + 1) a0 a1) := by
  intro a0 a1 k
  unfold impl_FirstUnsorted.f
  exact LeO.bind (LeO.refl _) (fun _ => LeO.ite (LeO.bind (ordersF_mono (fun s xs => impl_FirstUnsorted.step_mono k _ s xs) _ _ _) (fun _ => LeO.refl _)) (LeO.refl _))
set_option maxHeartbeats 8000000 in
set_option maxRecDepth 100000 in
theorem impl_FirstUnsorted.calls (k : Nat) (a0_0 : Int) (A0_1 : Option Addr) (c0_1 : Nat) (l0_1 : List Int) (r1 : List Int) (r2 : Bool) (w : World) (hr0_1 : Kd.C (Kd.int .i64) w A0_1 l0_1.length l0_1) (hc0_1 : l0_1.length ≤ c0_1) (h : impl_FirstUnsorted.f k a0_0 l0_1 = some (r1, r2)) :
    Calls Try.prog 57 #[.agg #[.int .i64 a0_0, .slice A0_1 l0_1.length c0_1]] w fun e w' => ∃ v0_ : Value, e = .returned (.tuple #[v0_, .bool r2]) ∧ Kd.R (Kd.int .i64) 3 w' w.heap.size (fun _ => True) v0_ r1 ∧ Below w.heap.size w w' := by
  have hu := Try.underlying27
  have hmf : ∀ (fn : Fn) (first cap : Array Value) (w : World), (Instr.makeFunc fn first cap).run Try.prog w = .ok (.func fn first cap) w := fun _ _ _ _ => rfl
  have hneq := fun (W : World) (A : Option Addr) (n c : Nat) => run_neq_slice_nil_any (P := Try.prog) W 25 3 A n c 0 0 Try.underlying25
  have HR0_1 := Aside0.mk hr0_1
  have HC0_1 := Aside0.mk hc0_1
  clear hr0_1 hc0_1
  have HB := Aside0.mk (Below.refl w.heap.size w)
  unfold impl_FirstUnsorted.f at h
  replace h := Option.bind_eq_some_iff.mp h
  obtain ⟨t1, e1, h⟩ := h
  have A2 := Aside0.mk e1
  clear e1
  cases t1 with
  | true =>
    rw [if_pos rfl] at h
    replace h := Option.bind_eq_some_iff.mp h
    obtain ⟨m, e2, h⟩ := h
    simp only [Option.some.injEq, Prod.mk.injEq] at h
    obtain ⟨rfl, rfl⟩ := h
    obtain ⟨n, rfl, hn8, hn2⟩ := few_nat A2.out
    have A3 := Aside0.mk e2
    clear e2
    have CL := Aside0.mk (fun bl bm h1 h2 => impl_FirstUnsorted.clo w bl bm (n : Int) A0_1 l0_1 c0_1 k HR0_1.out HC0_1.out h1 h2)
    go_enter Try.func57, Try.ntmps57
    go_wp2_with (first | ((with_reducible refine gate_dst (N := 1) rfl ?_); refine box_event ?hg (N := 1) ?hd (cs := #[.int .i64 (n : Int), .slice A0_1 l0_1.length c0_1]) (t := 27) ?hr ?_; (case hd => rfl); (case hg => rfl); (case hr => first | (go_simp; done) | (go_simp; rfl)); intro gb hg w5 hbox hb; have n0_ := Aside0.mk (below_step HB.out hb); have n1_ := Aside0.mk (hbox); have n2_ := Aside0.mk ((by rw [hg]; exact (below_size HB.out)) : w.heap.size ≤ gb); clear HB; have HB := n0_; have BK := n1_; have GE := n2_; clear n0_ n1_ n2_; clear hb hbox hg; have hcz6_0 : w5.cell? ⟨gb, 0, none⟩ = some (.int .i64 (n : Int)) := (blk_cell BK.out 0).trans rfl; have hcz6_1 : w5.cell? ⟨gb, 1, none⟩ = some (.slice A0_1 l0_1.length c0_1) := (blk_cell BK.out 1).trans rfl) | ((with_reducible refine gate_callee (f := 89) rfl ?_); refine goesL_ (some 6) rfl rfl Try.func89 (by kernel_rfl) rfl #[.agg #[.int .i64 (n : Int), .slice A0_1 l0_1.length c0_1]] rfl (by (try simp only [List.map_toArray, List.map_cons, List.map_nil]); first | done | rfl | (simp only [List.length_drop, List.length_take]; rfl)) ?_; (with_reducible refine (impl_isFew.calls (n : Int) _ _ l0_1 true _ ?side1 ?side2 A2.out).mono ?_); (case side1 => exact (Kd.C_below HR0_1.out HB.out)); (case side2 => exact HC0_1.out); rintro e w7 ⟨rfl, hb⟩; refine ⟨_, rfl, ?_⟩; have n0_ := Aside0.mk (blk_below BK.out hb); have n1_ := Aside0.mk (below_step HB.out hb); clear BK; clear HB; have BK := n0_; have HB := n1_; clear n0_ n1_; clear hb; have hcz8_0 : w7.cell? ⟨gb, 0, none⟩ = some (.int .i64 (n : Int)) := (blk_cell BK.out 0).trans rfl; have hcz8_1 : w7.cell? ⟨gb, 1, none⟩ = some (.slice A0_1 l0_1.length c0_1) := (blk_cell BK.out 1).trans rfl; have hgl8 := blk_lt BK.out) | (go_at_call 90; refine (impl_orders.calls (impl_FirstUnsorted.step k l0_1) (impl_FirstUnsorted.I w gb w7.heap.size (n : Int) A0_1 l0_1 c0_1) 94 _ w.heap.size (CL.out gb w7.heap.size GE.out (below_size HB.out)) k (n : Int) ([] : List Int) (fun k_ => k_ = gb ∨ k_ = w7.heap.size ∨ (Value.slice none 0 0).ownBlock = some k_) m _ ⟨.slice none 0 0, fun _ => Iff.rfl, fun k_ hk_ => (Below.heap_alloc w7 _ k_ (Nat.lt_of_lt_of_le hk_ HB.out.size)).trans (HB.out.block k_ hk_), blk_alloc BK.out _, blk_new w7 _, fun _ => rfl, Kd.R_nil _ _ _ _ _⟩ (below_size (below_alloc HB.out _)) A3.out).mono ?_; rintro e w9 ⟨rfl, S', hI, he, hs⟩; have HX := Aside0.mk hI; have n0_ := Aside0.mk (eff_below (below_alloc HB.out _) he (fun k_ h_ => h_.elim (fun e_ => e_ ▸ GE.out) (fun h2_ => h2_.elim (fun e_ => e_ ▸ below_size HB.out) (fun e_ => by simp [Value.ownBlock] at e_)))); clear HB; have HB := n0_; clear n0_ hI he hs))
    obtain ⟨v, h1, h2, h3, h4, h5, h6⟩ := HX.out
    have HV := Aside0.mk h6
    have hx0 := cell_of_one h4
    clear HX
    cases m with
    | nil =>
      obtain rfl := h5 rfl
      clear h1 h2 h3 h4 h5 h6
      go_quiet (fail)
      go_wp2
      go_ret2
      exact ⟨_, rfl, by (with_reducible repeat (first | apply Kd.R_alloc | apply Kd.R_drewN | apply Kd.R_drew)); exact HV.out, by repeat (first | exact HB.out | apply pw_below_drewN | apply below_drew1)⟩
    | cons y ys =>
      obtain ⟨g, cp, rfl, _⟩ := Kd.R_form h6 (by simp)
      clear h1 h2 h3 h4 h5 h6
      go_quiet (fail)
      go_wp2
      go_ret2
      exact ⟨_, rfl, by (with_reducible repeat (first | apply Kd.R_alloc | apply Kd.R_drewN | apply Kd.R_drew)); exact HV.out, by repeat (first | exact HB.out | apply pw_below_drewN | apply below_drew1)⟩
  | false =>
    rw [if_neg (by decide)] at h
    simp only [Option.some.injEq, Prod.mk.injEq] at h
    obtain ⟨rfl, rfl⟩ := h
    go_enter Try.func57, Try.ntmps57
    go_wp2_with (first | ((with_reducible refine gate_dst (N := 1) rfl ?_); refine box_event ?hg (N := 1) ?hd (cs := #[.int .i64 a0_0, .slice A0_1 l0_1.length c0_1]) (t := 27) ?hr ?_; (case hd => rfl); (case hg => rfl); (case hr => first | (go_simp; done) | (go_simp; rfl)); intro gb hg w5 hbox hb; have n0_ := Aside0.mk (below_step HB.out hb); have n1_ := Aside0.mk (hbox); have n2_ := Aside0.mk ((by rw [hg]; exact (below_size HB.out)) : w.heap.size ≤ gb); clear HB; have HB := n0_; have BK := n1_; have GE := n2_; clear n0_ n1_ n2_; clear hb hbox hg; have hcz6_0 : w5.cell? ⟨gb, 0, none⟩ = some (.int .i64 a0_0) := (blk_cell BK.out 0).trans rfl; have hcz6_1 : w5.cell? ⟨gb, 1, none⟩ = some (.slice A0_1 l0_1.length c0_1) := (blk_cell BK.out 1).trans rfl) | ((with_reducible refine gate_callee (f := 89) rfl ?_); refine goesL_ (some 6) rfl rfl Try.func89 (by kernel_rfl) rfl #[.agg #[.int .i64 a0_0, .slice A0_1 l0_1.length c0_1]] rfl (by (try simp only [List.map_toArray, List.map_cons, List.map_nil]); first | done | rfl | (simp only [List.length_drop, List.length_take]; rfl)) ?_; (with_reducible refine (impl_isFew.calls a0_0 _ _ l0_1 false _ ?side1 ?side2 A2.out).mono ?_); (case side1 => exact (Kd.C_below HR0_1.out HB.out)); (case side2 => exact HC0_1.out); rintro e w7 ⟨rfl, hb⟩; refine ⟨_, rfl, ?_⟩; have n0_ := Aside0.mk (blk_below BK.out hb); have n1_ := Aside0.mk (below_step HB.out hb); clear BK; clear HB; have BK := n0_; have HB := n1_; clear n0_ n1_; clear hb; have hcz8_0 : w7.cell? ⟨gb, 0, none⟩ = some (.int .i64 a0_0) := (blk_cell BK.out 0).trans rfl; have hcz8_1 : w7.cell? ⟨gb, 1, none⟩ = some (.slice A0_1 l0_1.length c0_1) := (blk_cell BK.out 1).trans rfl; have hgl8 := blk_lt BK.out))
    go_ret2
    exact ⟨_, rfl, Kd.R_nil _ _ _ _ _, HB.out⟩

end Go.Proofs.Ytmljdibhdnckpaa.Q
