/- Each function below comes to the Lean function beside it (theorems '.calls'); no condition beyond each theorem's own. Written by our program oprint.py over the kit's print. -/
import Derived.Test.YtmljdibhdnckpaaQx0
import Derived.Test.YtmljdibhdnckpaaQx1
import Derived.Test.YtmljdibhdnckpaaQx12
import Derived.Shelf.Abstract
import Derived.WalkSpells
namespace Go.Proofs.Ytmljdibhdnckpaa.Q
open Go.RowKit Go.Proofs.YtmljdibhdnckpaaW.PrintWords Go.Proofs.YtmljdibhdnckpaaW.PrintLast Go.Proofs.YtmljdibhdnckpaaW.PrintMore
attribute [local go_sem] max2_int min2_int max_two min_two max_three min_three max_four min_four   -- for this text's walks alone
set_option linter.unusedVariables false
set_option linter.unusedSimpArgs false

/-! ### impl_ExchangesOf: function 35 -/
-- GIVEN impl_ExchangesOf
set_option maxHeartbeats 8000000 in
set_option maxRecDepth 100000 in
theorem impl_ExchangesOf_1.calls (W : World) (bm : Nat) (v : Value) (o : List Int) (x : Int) {base : Nat} (hm : W.heap[bm]? = some (.cells #[v] 25 (0, 0))) (hv : Kd.R (Kd.int .i64) 3 W base (fun _ => True) v o) (hbase : base ≤ W.heap.size) (hlen : o.length < 1000) :
    Calls Try.prog 75 #[.int .i64 x, .pointer (some ⟨bm, 0, none⟩)] W fun e w' => e = .returned (.tuple #[]) ∧ ∃ v1 : Value, Kd.R (Kd.int .i64) 3 w' base (fun _ => True) v1 (o ++ [x]) ∧ Eff (fun k_ => k_ = bm ∨ v.ownBlock = some k_) W w' ∧ w'.heap[bm]? = some (.cells #[v1] 25 (0, 0)) ∧ ∀ k_, v1.ownBlock = some k_ → v.ownBlock = some k_ ∨ W.heap.size ≤ k_ := by
  have HV := Aside0.mk hv
  have HM := Aside0.mk hm
  have HL := Aside0.mk hlen
  have HBS := Aside0.mk hbase
  have hx0 := cell_of_one hm
  have hf0 := free_of_one hm
  have hlt := blk_lt hm
  have HNE := Aside0.mk (Kd.R_ne hv hm (by decide))
  obtain ⟨y, hy⟩ : ∃ y : List Int, y = o ++ [x] := ⟨_, rfl⟩
  rw [← hy]
  have Ny := Aside0.mk hy
  clear hy
  obtain ⟨A0, c0, rfl⟩ := Kd.R_slice hv
  clear hv hm hlen hbase
  go_enter Try.func75, Try.ntmps75
  go_wp2_with (first | ((with_reducible refine gate_builtin (b := .append) (xs := #[.tmp 3, .tmp 5]) rfl ?_); at_builtin; refine Kd.R_append (Kd.int .i64) (w0 := W) base rfl (.tmp 3) (.tmp 5) 25 3 (.int .i64 0) 8 rfl Try.underlying25 infoI rfl (by decide) (by omega) (.slice A0 o.length c0) o x [.int .i64 x] (fun _ => True) (fun _ => False) rfl rfl ?aP (fun _ hk => hk.elim) ?aF ?aO ?aB ?aS ?aL ?_; (case aP => exact rfl); (case aB => exact Below.refl _ _); (case aF => exact (fun _ _ => trivial)); (case aO => exact HV.out); (case aS => exact HBS.out); (case aL => have := HL.out; omega); intro v118 w6 ho hb hg hat; rw [← Ny.out] at ho; have HO := Aside0.mk ho; have HM6 := Aside0.mk (blk_grown HM.out hg HNE.out); have hx6 := cell_of_one HM6.out; have hf6 := free_of_one HM6.out; have HG := Aside0.mk hg; have HAT := Aside0.mk hat; obtain ⟨A6, c6, eo6⟩ := Kd.R_slice ho; subst eo6; clear ho hb hg hat))
  go_end0
  exact ⟨rfl, _, Kd.R_set HO.out HM6.out (by intro q hq; simp [Kd.int, Kd.scalar] at hq; omega) 0 _, eff_setS (eff_grown (Eff.refl _ _) HG.out (fun k_ h_ => .inl (.inr h_))) (.inl (.inl rfl)), one_setCell HM6.out, fun k_ h_ => HAT.out.elim (fun e_ => .inl (e_ ▸ h_)) (fun ⟨b_, e_, l_⟩ => by rw [e_] at h_; obtain rfl := Option.some.inj h_; exact .inr l_)⟩
def impl_ExchangesOf.step (o : List Int) (x : Int) : Option (List Int) := if o.length < 1000 then some (o ++ [x]) else none
def impl_ExchangesOf.J (base bm : Nat) (o : List Int) (S : Nat → Prop) (W : World) : Prop :=
  ∃ v : Value, (∀ k, S k ↔ (k = bm ∨ v.ownBlock = some k)) ∧ base ≤ W.heap.size ∧ W.heap[bm]? = some (.cells #[v] 25 (0, 0)) ∧ Kd.R (Kd.int .i64) 3 W base (fun _ => True) v o
theorem impl_ExchangesOf.inner (base bm : Nat) : CloInt 75 #[.pointer (some ⟨bm, 0, none⟩)] 0 (impl_ExchangesOf.J base bm) impl_ExchangesOf.step where
  enters := enters_of Try.func75 (by kernel_rfl) rfl
  lt := fun s S W q hI hq => by
    obtain ⟨v, h1, h2, h4, h6⟩ := hI
    rcases (h1 q).1 hq with rfl | hq
    · exact blk_lt h4
    · exact ((Kd.R_bound h6).1 q hq).2.2.1
  move := fun s S W W' hI hm hsz => by
    obtain ⟨v, h1, h2, h4, h6⟩ := hI
    exact ⟨v, h1, Nat.le_trans h2 hsz, (hm bm (blk_lt h4) (.inr ((h1 bm).2 (.inl rfl)))).trans h4, Kd.R_mono (Kd.R_move (Kd.R_tight rfl h6) (fun q hq => hm q ((Kd.R_bound h6).1 q hq.symm).2.2.1 (.inr ((h1 q).2 (.inr hq.symm))))) (fun _ _ => trivial)⟩
  call := fun s s' S W x hI hst => by
    obtain ⟨v, h1, h2, h4, h6⟩ := hI
    unfold impl_ExchangesOf.step at hst
    by_cases hl : s.length < 1000
    · rw [if_pos hl] at hst
      obtain rfl := Option.some.inj hst
      refine (impl_ExchangesOf_1.calls W bm v s x h4 h6 h2 hl).mono ?_
      rintro e w' ⟨rfl, v1, hr, he, hm, ho⟩
      exact ⟨rfl, (fun k => k = bm ∨ v1.ownBlock = some k), ⟨v1, fun _ => Iff.rfl, Nat.le_trans h2 he.k.1, hm, hr⟩, ⟨he.b, he.k.mono (fun q hq => (h1 q).2 hq)⟩, fun q hq => hq.elim (fun e_ => .inl ((h1 q).2 (.inl e_))) (fun e_ => (ho q e_).elim (fun h => .inl ((h1 q).2 (.inr h))) .inr)⟩
    · rw [if_neg hl] at hst
      cases hst
def impl_ExchangesOf.f (k : Nat) (a0_0 : Int) (l0_1 : List Int) (l1 : List Int) : Option (List Int × Bool) := (impl_isLadder.f a0_0 l0_1).bind fun t1 => (if t1 = true then (if (l1.length : Int) = a0_0 then ((impl_compareG.f impl_ExchangesOf.step k l0_1 l1 []).bind fun p => some (p.2, true)) else (some ([], false))) else (some ([], false)))
theorem impl_ExchangesOf.mono : ∀ a0 a1 a2 k, LeO (impl_ExchangesOf.f k a0 a1 a2) (impl_ExchangesOf.f (k + 1) a0 a1 a2) := by
  intro a0 a1 a2 k
  unfold impl_ExchangesOf.f
  exact LeO.bind (LeO.refl _) (fun _ => LeO.ite (LeO.ite (LeO.bind (impl_compareG.mono _ _ _ _ _) (fun _ => LeO.refl _)) (LeO.refl _)) (LeO.refl _))
set_option maxHeartbeats 8000000 in
set_option maxRecDepth 100000 in
theorem impl_ExchangesOf.calls (k : Nat) (a0_0 : Int) (A0_1 : Option Addr) (c0_1 : Nat) (l0_1 : List Int) (A1 : Option Addr) (c1 : Nat) (l1 : List Int) (r1 : List Int) (r2 : Bool) (w : World) (hr0_1 : Kd.C (Kd.int .i64) w A0_1 l0_1.length l0_1) (hc0_1 : l0_1.length ≤ c0_1) (hr1 : Kd.C (Kd.int .i64) w A1 l1.length l1) (hc1 : l1.length ≤ c1) (h : impl_ExchangesOf.f k a0_0 l0_1 l1 = some (r1, r2)) :
    Calls Try.prog 35 #[.agg #[.int .i64 a0_0, .slice A0_1 l0_1.length c0_1], .slice A1 l1.length c1] w fun e w' => ∃ v0_ : Value, e = .returned (.tuple #[v0_, .bool r2]) ∧ Kd.R (Kd.int .i64) 3 w' w.heap.size (fun _ => True) v0_ r1 ∧ Below w.heap.size w w' := by
  have hu := Try.underlying27
  have hmf : ∀ (fn : Fn) (first cap : Array Value) (w : World), (Instr.makeFunc fn first cap).run Try.prog w = .ok (.func fn first cap) w := fun _ _ _ _ => rfl
  have HR0_1 := Aside0.mk hr0_1
  have HC0_1 := Aside0.mk hc0_1
  have HR1 := Aside0.mk hr1
  have HC1 := Aside0.mk hc1
  clear hr0_1 hc0_1 hr1 hc1
  have HB := Aside0.mk (Below.refl w.heap.size w)
  unfold impl_ExchangesOf.f at h
  replace h := Option.bind_eq_some_iff.mp h
  obtain ⟨t1, e1, h⟩ := h
  have A2 := Aside0.mk e1
  clear e1
  cases t1 with
  | true =>
    rw [if_pos rfl] at h
    by_cases hq : (l1.length : Int) = a0_0
    · rw [if_pos hq] at h
      have hqb : ((l1.length : Int) != a0_0) = false := by simp [hq]
      have hqc : decide ((l1.length : Int) = a0_0) = true := decide_eq_true hq
      clear hq
      replace h := Option.bind_eq_some_iff.mp h
      obtain ⟨⟨p, m⟩, e2, h⟩ := h
      simp only [Option.some.injEq, Prod.mk.injEq] at h
      obtain ⟨rfl, rfl⟩ := h
      obtain ⟨y, hy⟩ : ∃ y : List Int, y = [] := ⟨_, rfl⟩
      rw [← hy] at e2
      have Ny := Aside0.mk hy
      clear hy
      have A3 := Aside0.mk e2
      clear e2
      go_enter Try.func35, Try.ntmps35
      go_wp2_with (first | ((with_reducible refine gate_dst (N := 2) rfl ?_); refine box_event ?hg (N := 2) ?hd (cs := #[.int .i64 a0_0, .slice A0_1 l0_1.length c0_1]) (t := 27) ?hr ?_; (case hd => rfl); (case hg => rfl); (case hr => first | (go_simp; done) | (go_simp; rfl)); intro gb hg w5 hbox hb; have n0_ := Aside0.mk (below_step HB.out hb); have n1_ := Aside0.mk (hbox); have n2_ := Aside0.mk ((by rw [hg]; exact (below_size HB.out)) : w.heap.size ≤ gb); clear HB; have HB := n0_; have BK := n1_; have GE := n2_; clear n0_ n1_ n2_; clear hb hbox hg; have hcz6_0 : w5.cell? ⟨gb, 0, none⟩ = some (.int .i64 a0_0) := (blk_cell BK.out 0).trans rfl; have hcz6_1 : w5.cell? ⟨gb, 1, none⟩ = some (.slice A0_1 l0_1.length c0_1) := (blk_cell BK.out 1).trans rfl) | ((with_reducible refine gate_callee (f := 73) rfl ?_); refine goesL_ (some 8) rfl rfl Try.func73 (by kernel_rfl) rfl #[.agg #[.int .i64 a0_0, .slice A0_1 l0_1.length c0_1]] rfl (by (try simp only [List.map_toArray, List.map_cons, List.map_nil]); first | done | rfl | (simp only [List.length_drop, List.length_take]; rfl)) ?_; (with_reducible refine (impl_isLadder.calls a0_0 _ _ l0_1 true _ ?side1 ?side2 A2.out).mono ?_); (case side1 => exact (Kd.C_below HR0_1.out HB.out)); (case side2 => exact HC0_1.out); rintro e w7 ⟨rfl, hb⟩; refine ⟨_, rfl, ?_⟩; have n0_ := Aside0.mk (blk_below BK.out hb); have n1_ := Aside0.mk (below_step HB.out hb); clear BK; clear HB; have BK := n0_; have HB := n1_; clear n0_ n1_; clear hb; have hcz8_0 : w7.cell? ⟨gb, 0, none⟩ = some (.int .i64 a0_0) := (blk_cell BK.out 0).trans rfl; have hcz8_1 : w7.cell? ⟨gb, 1, none⟩ = some (.slice A0_1 l0_1.length c0_1) := (blk_cell BK.out 1).trans rfl; have hgl8 := blk_lt BK.out) | ((with_reducible refine gate_dst (N := 17) rfl ?_); refine Kd.R_lit (Kd.int .i64) _ 3 ?hg (N := 17) ?hd (xs := ([] : List Int)) (inner := []) (ok := fun _ => True) (okp := fun _ => True) ?hr ?hp (fun _ hk => hk) trivial (Below.refl _ _) (Nat.le_refl _) (by simp) ?_; (case hd => rfl); (case hg => rfl); (case hr => first | (go_simp; done) | (go_simp; rfl)); (case hp => exact (Reps.none _ _)); intro v115 w6 ho3 hb hg_ hnew_; clear hg_ hnew_; have n0_ := Aside0.mk (show Kd.R (Kd.int .i64) 3 w6 w.heap.size (fun _ => True) v115 y from by rw [Ny.out]; exact Kd.R_lower ho3 (below_size HB.out)); have n1_ := Aside0.mk (blk_below BK.out hb); have n2_ := Aside0.mk (below_step HB.out hb); clear BK; clear HB; have HO := n0_; have BK := n1_; have HB := n2_; clear n0_ n1_ n2_; clear hb ho3; have hcz9_0 : w6.cell? ⟨gb, 0, none⟩ = some (.int .i64 a0_0) := (blk_cell BK.out 0).trans rfl; have hcz9_1 : w6.cell? ⟨gb, 1, none⟩ = some (.slice A0_1 l0_1.length c0_1) := (blk_cell BK.out 1).trans rfl; have hgl9 := blk_lt BK.out; obtain ⟨Ao8, co8, eo8⟩ := Kd.R_slice HO.out; subst eo8) | (go_at_call 74; refine (impl_compareG.calls impl_ExchangesOf.step (impl_ExchangesOf.J w.heap.size w6.heap.size) 75 _ 0 (impl_ExchangesOf.inner w.heap.size w6.heap.size) k A0_1 c0_1 l0_1 A1 c1 l1 y (fun k_ => k_ = w6.heap.size ∨ (Value.slice Ao8 y.length co8).ownBlock = some k_) p m _ ⟨.slice Ao8 y.length co8, fun _ => Iff.rfl, below_size (below_alloc HB.out _), blk_new w6 _, Kd.R_alloc HO.out _⟩ (Nat.zero_le _) (Kd.C_kept_came (Kd.heap_int .i64) HR0_1.out (below_alloc HB.out _) (fun k_ h_ => h_.elim (fun e_ => e_ ▸ below_size HB.out) (fun e_ => ((Kd.R_bound HO.out).1 k_ e_).2.1))) HC0_1.out (Kd.C_below HR1.out (below_alloc HB.out _)) HC1.out A3.out).mono ?_; rintro e w9 ⟨v9, rfl, S', _, hI, he, hs⟩; have n0_ := Aside0.mk (eff_below (below_alloc HB.out _) he (fun k_ h_ => h_.elim (fun e_ => e_ ▸ below_size HB.out) (fun e_ => ((Kd.R_bound HO.out).1 k_ e_).2.1))); clear HB; have HB := n0_; clear n0_ he hs; obtain ⟨v, g1, g2, g6, g7⟩ := hI; have hx0 := cell_of_one g6; have HV := Aside0.mk g7; clear g1 g2 g6 g7))
      go_ret2
      exact ⟨_, rfl, HV.out, HB.out⟩
    · rw [if_neg hq] at h
      have hqb : ((l1.length : Int) != a0_0) = true := by simp [hq]
      have hqc : decide ((l1.length : Int) = a0_0) = false := decide_eq_false hq
      clear hq
      simp only [Option.some.injEq, Prod.mk.injEq] at h
      obtain ⟨rfl, rfl⟩ := h
      go_enter Try.func35, Try.ntmps35
      go_wp2_with (first | ((with_reducible refine gate_dst (N := 2) rfl ?_); refine box_event ?hg (N := 2) ?hd (cs := #[.int .i64 a0_0, .slice A0_1 l0_1.length c0_1]) (t := 27) ?hr ?_; (case hd => rfl); (case hg => rfl); (case hr => first | (go_simp; done) | (go_simp; rfl)); intro gb hg w5 hbox hb; have n0_ := Aside0.mk (below_step HB.out hb); have n1_ := Aside0.mk (hbox); have n2_ := Aside0.mk ((by rw [hg]; exact (below_size HB.out)) : w.heap.size ≤ gb); clear HB; have HB := n0_; have BK := n1_; have GE := n2_; clear n0_ n1_ n2_; clear hb hbox hg; have hcz6_0 : w5.cell? ⟨gb, 0, none⟩ = some (.int .i64 a0_0) := (blk_cell BK.out 0).trans rfl; have hcz6_1 : w5.cell? ⟨gb, 1, none⟩ = some (.slice A0_1 l0_1.length c0_1) := (blk_cell BK.out 1).trans rfl) | ((with_reducible refine gate_callee (f := 73) rfl ?_); refine goesL_ (some 8) rfl rfl Try.func73 (by kernel_rfl) rfl #[.agg #[.int .i64 a0_0, .slice A0_1 l0_1.length c0_1]] rfl (by (try simp only [List.map_toArray, List.map_cons, List.map_nil]); first | done | rfl | (simp only [List.length_drop, List.length_take]; rfl)) ?_; (with_reducible refine (impl_isLadder.calls a0_0 _ _ l0_1 true _ ?side1 ?side2 A2.out).mono ?_); (case side1 => exact (Kd.C_below HR0_1.out HB.out)); (case side2 => exact HC0_1.out); rintro e w7 ⟨rfl, hb⟩; refine ⟨_, rfl, ?_⟩; have n0_ := Aside0.mk (blk_below BK.out hb); have n1_ := Aside0.mk (below_step HB.out hb); clear BK; clear HB; have BK := n0_; have HB := n1_; clear n0_ n1_; clear hb; have hcz8_0 : w7.cell? ⟨gb, 0, none⟩ = some (.int .i64 a0_0) := (blk_cell BK.out 0).trans rfl; have hcz8_1 : w7.cell? ⟨gb, 1, none⟩ = some (.slice A0_1 l0_1.length c0_1) := (blk_cell BK.out 1).trans rfl; have hgl8 := blk_lt BK.out))
      go_ret2
      exact ⟨_, rfl, Kd.R_nil _ _ _ _ _, HB.out⟩
  | false =>
    rw [if_neg (by decide)] at h
    simp only [Option.some.injEq, Prod.mk.injEq] at h
    obtain ⟨rfl, rfl⟩ := h
    go_enter Try.func35, Try.ntmps35
    go_wp2_with (first | ((with_reducible refine gate_dst (N := 2) rfl ?_); refine box_event ?hg (N := 2) ?hd (cs := #[.int .i64 a0_0, .slice A0_1 l0_1.length c0_1]) (t := 27) ?hr ?_; (case hd => rfl); (case hg => rfl); (case hr => first | (go_simp; done) | (go_simp; rfl)); intro gb hg w5 hbox hb; have n0_ := Aside0.mk (below_step HB.out hb); have n1_ := Aside0.mk (hbox); have n2_ := Aside0.mk ((by rw [hg]; exact (below_size HB.out)) : w.heap.size ≤ gb); clear HB; have HB := n0_; have BK := n1_; have GE := n2_; clear n0_ n1_ n2_; clear hb hbox hg; have hcz6_0 : w5.cell? ⟨gb, 0, none⟩ = some (.int .i64 a0_0) := (blk_cell BK.out 0).trans rfl; have hcz6_1 : w5.cell? ⟨gb, 1, none⟩ = some (.slice A0_1 l0_1.length c0_1) := (blk_cell BK.out 1).trans rfl) | ((with_reducible refine gate_callee (f := 73) rfl ?_); refine goesL_ (some 8) rfl rfl Try.func73 (by kernel_rfl) rfl #[.agg #[.int .i64 a0_0, .slice A0_1 l0_1.length c0_1]] rfl (by (try simp only [List.map_toArray, List.map_cons, List.map_nil]); first | done | rfl | (simp only [List.length_drop, List.length_take]; rfl)) ?_; (with_reducible refine (impl_isLadder.calls a0_0 _ _ l0_1 false _ ?side1 ?side2 A2.out).mono ?_); (case side1 => exact (Kd.C_below HR0_1.out HB.out)); (case side2 => exact HC0_1.out); rintro e w7 ⟨rfl, hb⟩; refine ⟨_, rfl, ?_⟩; have n0_ := Aside0.mk (blk_below BK.out hb); have n1_ := Aside0.mk (below_step HB.out hb); clear BK; clear HB; have BK := n0_; have HB := n1_; clear n0_ n1_; clear hb; have hcz8_0 : w7.cell? ⟨gb, 0, none⟩ = some (.int .i64 a0_0) := (blk_cell BK.out 0).trans rfl; have hcz8_1 : w7.cell? ⟨gb, 1, none⟩ = some (.slice A0_1 l0_1.length c0_1) := (blk_cell BK.out 1).trans rfl; have hgl8 := blk_lt BK.out))
    go_ret2
    exact ⟨_, rfl, Kd.R_nil _ _ _ _ _, HB.out⟩

end Go.Proofs.Ytmljdibhdnckpaa.Q
