/- Each function below comes to the Lean function beside it (theorems '.calls'); no condition beyond each theorem's own. Written by our program oprint.py over the kit's print. -/
import Derived.Test.YtmljdibhdnckpaaQx0
import Derived.Test.YtmljdibhdnckpaaQx1
import Derived.Test.YtmljdibhdnckpaaQx12
import Derived.Test.YtmljdibhdnckpaaQx43
import Derived.Shelf.Abstract
import Derived.WalkSpells
namespace Go.Proofs.Ytmljdibhdnckpaa.Q
open Go.RowKit Go.Proofs.YtmljdibhdnckpaaW.PrintWords Go.Proofs.YtmljdibhdnckpaaW.PrintLast Go.Proofs.YtmljdibhdnckpaaW.PrintMore
attribute [local go_sem] max2_int min2_int max_two min_two max_three min_three max_four min_four   -- for this text's walks alone
set_option linter.unusedVariables false
set_option linter.unusedSimpArgs false

/-! ### impl_busy: function 84 -/
-- GIVEN impl_busy
theorem infoB : (Try.prog.info? 4).map (fun i => (i.zero, i.size, i.bytes)) = some (some (.bool false), 1, 1) := by kernel_rfl
def impl_busy.mark (o : List Bool) (x : Int) : Option (List Bool) := if 0 ≤ x then (if x < (o.length : Int) then some (o.set x.toNat true) else none) else none
set_option maxHeartbeats 8000000 in
set_option maxRecDepth 100000 in
theorem impl_busy_1_1.calls (W : World) (bm : Nat) (v : Value) (o : List Bool) (x : Int) {base : Nat} (hm : W.heap[bm]? = some (.cells #[v] 68 (0, 0))) (hv : Kd.R Kd.bool 4 W base (fun _ => True) v o) (h0 : 0 ≤ x) (h1 : x < (o.length : Int)) :
    Calls Try.prog 107 #[.int .i64 x, .pointer (some ⟨bm, 0, none⟩)] W fun e w' => e = .returned (.tuple #[]) ∧ Kd.R Kd.bool 4 w' base (fun _ => True) v (o.set x.toNat true) ∧ Eff (fun k_ => v.ownBlock = some k_) W w' ∧ w'.heap[bm]? = some (.cells #[v] 68 (0, 0)) := by
  obtain ⟨g, cp, rfl, gb, gl, cl, hg⟩ := Kd.R_form hv (by omega)
  obtain ⟨hx0, hf0⟩ := Kd.R_celln false hv x h0 h1
  have HP := Kd.R_putg hv x true
  have HP1 := Aside0.mk HP.1
  have HP2 := Aside0.mk HP.2
  have hne : bm ≠ g := blk_ne hm hg (by decide)
  have HM := Aside0.mk (blk_far hm (p := ⟨g, x.toNat, none⟩) hne (.bool true))
  have hc0 := cell_of_one hm
  have hx1 := eq_true h0
  have hx2 := eq_true h1
  clear HP hv hm hg gb gl h0 h1
  go_enter Try.func107, Try.ntmps107
  go_wp2
  go_end0
  exact ⟨rfl, HP1.out, eff_setS (Eff.refl _ _) (.inl (by simp [Value.ownBlock])), HM.out⟩
def impl_busy.J (base bm : Nat) (o : List Bool) (S : Nat → Prop) (W : World) : Prop :=
  ∃ v : Value, (∀ k, S k ↔ (k = bm ∨ v.ownBlock = some k)) ∧ W.heap[bm]? = some (.cells #[v] 68 (0, 0)) ∧ Kd.R Kd.bool 4 W base (fun _ => True) v o
theorem impl_busy.inner (base bm : Nat) : CloInt 107 #[.pointer (some ⟨bm, 0, none⟩)] 0 (impl_busy.J base bm) impl_busy.mark where
  enters := enters_of Try.func107 (by kernel_rfl) rfl
  lt := fun s S W q hI hq => by
    obtain ⟨v, h1, h4, h6⟩ := hI
    rcases (h1 q).1 hq with rfl | hq
    · exact blk_lt h4
    · exact ((Kd.R_bound h6).1 q hq).2.2.1
  move := fun s S W W' hI hm hsz => by
    obtain ⟨v, h1, h4, h6⟩ := hI
    exact ⟨v, h1, (hm bm (blk_lt h4) (.inr ((h1 bm).2 (.inl rfl)))).trans h4, Kd.R_mono (Kd.R_move (Kd.R_tight rfl h6) (fun q hq => hm q ((Kd.R_bound h6).1 q hq.symm).2.2.1 (.inr ((h1 q).2 (.inr hq.symm))))) (fun _ _ => trivial)⟩
  call := fun s s' S W x hI hst => by
    obtain ⟨v, h1, h4, h6⟩ := hI
    unfold impl_busy.mark at hst
    by_cases h0 : 0 ≤ x
    · rw [if_pos h0] at hst
      by_cases hl : x < (s.length : Int)
      · rw [if_pos hl] at hst
        obtain rfl := Option.some.inj hst
        refine (impl_busy_1_1.calls W bm v s x h4 h6 h0 hl).mono ?_
        rintro e w' ⟨rfl, hr, he, hm⟩
        exact ⟨rfl, S, ⟨v, h1, hm, hr⟩, ⟨he.b, he.k.mono (fun q hq => (h1 q).2 (.inr hq))⟩, fun q hq => .inl hq⟩
      · rw [if_neg hl] at hst
        cases hst
    · rw [if_neg h0] at hst
      cases hst
def impl_busy.step (k : Nat) (l : List Int) (o : List Bool) (xs : List Int) : Option (List Bool) := (impl_compareG.f impl_busy.mark k l xs o).bind fun p => some p.2
theorem impl_busy.step_mono (k : Nat) (l : List Int) (o : List Bool) (xs : List Int) : LeO (impl_busy.step k l o xs) (impl_busy.step (k + 1) l o xs) := LeO.bind (impl_compareG.mono _ _ _ _ _) (fun _ => LeO.refl _)
set_option maxHeartbeats 8000000 in
set_option maxRecDepth 100000 in
theorem impl_busy_1.calls (k : Nat) (w0 W : World) (bl bm : Nat) (a : Int) (A : Option Addr) (l : List Int) (c : Nat) (o o' : List Bool) (v : Value) (xs : List Int) {base0 base : Nat} {ok : Nat → Prop} {S : Nat → Prop} (hr : ∀ W', Kept W W' S → Kd.C (Kd.int .i64) W' A l.length l) (hc : l.length ≤ c)
    (hl : W.heap[bl]? = some (.cells #[.int .i64 a, .slice A l.length c] 27 (0, 0))) (hJ : impl_busy.J base0 bm o S W) (hv : Kd.R (Kd.int .i64) 3 W base ok v xs) (hs : impl_busy.step k l o xs = some o') :
    Calls Try.prog 106 #[v, .pointer (some ⟨bl, 0, none⟩), .pointer (some ⟨bm, 0, none⟩)] W fun e w' => e = .returned (.tuple #[]) ∧ ∃ S', impl_busy.J base0 bm o' S' w' ∧ Eff S W w' ∧ ∀ k_, S' k_ → S k_ ∨ W.heap.size ≤ k_ := by
  have hu := Try.underlying27
  have hmf : ∀ (fn : Fn) (first cap : Array Value) (w : World), (Instr.makeFunc fn first cap).run Try.prog w = .ok (.func fn first cap) w := fun _ _ _ _ => rfl
  obtain ⟨A1, c1, rfl, hc1, hr1⟩ := Kd.R_reads hv
  have hz0 : W.cell? ⟨bl, 0, none⟩ = some (.int .i64 a) := (blk_cell hl 0).trans rfl
  have hz1 : W.cell? ⟨bl, 1, none⟩ = some (.slice A l.length c) := (blk_cell hl 1).trans rfl
  unfold impl_busy.step at hs
  replace hs := Option.bind_eq_some_iff.mp hs
  obtain ⟨⟨r, rs⟩, e1, e2⟩ := hs
  obtain rfl := Option.some.inj e2
  have CC := Aside0.mk (impl_compareG.calls impl_busy.mark (impl_busy.J base0 bm) 107 #[.pointer (some ⟨bm, 0, none⟩)] 0 (impl_busy.inner base0 bm) k A c l A1 c1 xs o S r rs W hJ (Nat.zero_le _) hr hc hr1 hc1 e1)
  clear hv hr1 hc1 hr hc hl hJ e1 e2
  go_enter Try.func106, Try.ntmps106
  go_wp2_with (go_at_call 74; refine CC.out.mono ?_; rintro e w9 ⟨v2, rfl, S', _, hj, he, hs⟩; have HX := Aside0.mk hj; have HE := Aside0.mk he; have HS := Aside0.mk hs; clear hj he hs)
  go_end0
  exact ⟨rfl, S', HX.out, HE.out, HS.out⟩
def impl_busy.I (w0 : World) (bl bm : Nat) (a : Int) (A : Option Addr) (l : List Int) (c : Nat) (o : List Bool) (S : Nat → Prop) (W : World) : Prop :=
  ∃ S1, (∀ k, S k ↔ (k = bl ∨ S1 k)) ∧ (∀ k, S1 k → w0.heap.size ≤ k) ∧ (∀ k, k < w0.heap.size → W.heap[k]? = w0.heap[k]?) ∧ W.heap[bl]? = some (.cells #[.int .i64 a, .slice A l.length c] 27 (0, 0)) ∧ impl_busy.J w0.heap.size bm o S1 W
theorem impl_busy.clo (w0 : World) (bl bm : Nat) (a : Int) (A : Option Addr) (l : List Int) (c : Nat) (k : Nat) (hr : Kd.C (Kd.int .i64) w0 A l.length l) (hc : l.length ≤ c) (hbl : w0.heap.size ≤ bl) (hbm : w0.heap.size ≤ bm) : CloList 106 #[.pointer (some ⟨bl, 0, none⟩), .pointer (some ⟨bm, 0, none⟩)] w0.heap.size (impl_busy.I w0 bl bm a A l c) (impl_busy.step k l) where
  enters := enters_of Try.func106 (by kernel_rfl) rfl
  lt := fun s S W q hI hq => by
    obtain ⟨S1, h1, h2, h3, h4, h5⟩ := hI
    rcases (h1 q).1 hq with rfl | hq
    · exact blk_lt h4
    · exact (impl_busy.inner w0.heap.size bm).lt _ _ _ _ h5 hq
  move := fun s S W W' hI hm hsz => by
    obtain ⟨S1, h1, h2, h3, h4, h5⟩ := hI
    have hs : w0.heap.size ≤ W.heap.size := by have := blk_lt h4; omega
    exact ⟨S1, h1, h2, fun q hq => (hm q (by omega) (.inl hq)).trans (h3 q hq), (hm bl (blk_lt h4) (.inr ((h1 bl).2 (.inl rfl)))).trans h4, (impl_busy.inner w0.heap.size bm).move _ _ _ _ h5 (fun q hq hor => hm q hq (.inr ((h1 q).2 (.inr (hor.elim (fun h => absurd h (Nat.not_lt_zero _)) id))))) hsz⟩
  call := fun s s' S W v xs hI hv hst => by
    obtain ⟨S1, h1, h2, h3, h4, h5⟩ := hI
    have hs : w0.heap.size ≤ W.heap.size := by have := blk_lt h4; omega
    have hbl2 : ¬ S1 bl := by
      obtain ⟨u, g1, g4, g6⟩ := h5
      intro hb
      rcases (g1 bl).1 hb with hb | hb
      · subst hb
        exact absurd rfl (blk_ne h4 g4 (by decide))
      · exact Kd.R_ne g6 h4 (by decide) hb.symm
    refine (impl_busy_1.calls k w0 W bl bm a A l c s s' v xs (fun W' hk => (Kd.heap_int .i64).C (fun q hq => (hk.2 q (by omega) (fun hs1 => by have := h2 q hs1; omega)).trans (h3 q hq)) hr) hc h4 h5 hv hst).mono ?_
    rintro e w' ⟨rfl, S2, hj, he, hs2⟩
    have h22 : ∀ q, S2 q → w0.heap.size ≤ q := fun q hq => (hs2 q hq).elim (h2 q) (fun h => by omega)
    refine ⟨rfl, (fun q => q = bl ∨ S2 q), ⟨S2, fun _ => Iff.rfl, h22, fun q hq => (he.k.2 q (by omega) (fun h => by have := h2 q h; omega)).trans (h3 q hq), blk_kept h4 he.k hbl2, hj⟩, ⟨he.b, he.k.mono (fun q hq => (h1 q).2 (.inr hq))⟩, ?_⟩
    intro q hq
    rcases hq with rfl | hq
    · exact .inl ((h1 _).2 (.inl rfl))
    · exact (hs2 q hq).elim (fun h => .inl ((h1 q).2 (.inr h))) (fun h => .inr (.inr h))
def impl_busy.f (k : Nat) (a0_0 : Int) (l0_1 : List Int) : Option (List Bool) := if 0 ≤ a0_0 ∧ a0_0 ≤ 8 ∧ l0_1.length ≤ 1000 then bitsFold (impl_busy.step k l0_1) a0_0.toNat (2 ^ a0_0.toNat) 0 (List.replicate l0_1.length false) else none
theorem impl_busy.mono : ∀ a0 a1 k, LeO (impl_busy.f k a0 a1) (impl_busy.f (k + 1) a0 a1) := by
  intro a0 a1 k
  unfold impl_busy.f
  exact LeO.ite (bitsFold_mono (fun s xs => impl_busy.step_mono k _ s xs) _ _ _ _) (LeO.refl _)
set_option maxHeartbeats 8000000 in
set_option maxRecDepth 100000 in
theorem impl_busy.calls (k : Nat) (a0_0 : Int) (A0_1 : Option Addr) (c0_1 : Nat) (l0_1 : List Int) (r : List Bool) (w : World) (hr0_1 : Kd.C (Kd.int .i64) w A0_1 l0_1.length l0_1) (hc0_1 : l0_1.length ≤ c0_1) (h : impl_busy.f k a0_0 l0_1 = some r) :
    Calls Try.prog 84 #[.agg #[.int .i64 a0_0, .slice A0_1 l0_1.length c0_1]] w fun e w' => ∃ v0_ : Value, e = .returned (v0_) ∧ Kd.R Kd.bool 4 w' w.heap.size (fun _ => True) v0_ r ∧ Below w.heap.size w w' := by
  have hu := Try.underlying27
  have hmf : ∀ (fn : Fn) (first cap : Array Value) (w : World), (Instr.makeFunc fn first cap).run Try.prog w = .ok (.func fn first cap) w := fun _ _ _ _ => rfl
  have HR0_1 := Aside0.mk hr0_1
  have HC0_1 := Aside0.mk hc0_1
  clear hr0_1 hc0_1
  have HB := Aside0.mk (Below.refl w.heap.size w)
  unfold impl_busy.f at h
  by_cases hn : 0 ≤ a0_0 ∧ a0_0 ≤ 8 ∧ l0_1.length ≤ 1000
  · rw [if_pos hn] at h
    obtain ⟨n, rfl, hn8⟩ : ∃ n : Nat, a0_0 = (n : Int) ∧ n ≤ 8 := ⟨a0_0.toNat, by omega, by omega⟩
    have HLN := Aside0.mk hn.2.2
    clear hn
    obtain ⟨y, hy⟩ : ∃ y : List Bool, y = List.replicate l0_1.length false := ⟨_, rfl⟩
    rw [← hy] at h
    have Ny := Aside0.mk hy
    clear hy
    have A3 := Aside0.mk h
    clear h
    have CL := Aside0.mk (fun bl bm h1 h2 => impl_busy.clo w bl bm (n : Int) A0_1 l0_1 c0_1 k HR0_1.out HC0_1.out h1 h2)
    have c2b1 : decide (0 ≤ (l0_1.length : Int)) = true := decide_eq_true (by omega)
    go_enter Try.func84, Try.ntmps84
    go_wp2_with (first | ((with_reducible refine gate_dst (N := 1) rfl ?_); refine box_event ?hg (N := 1) ?hd (cs := #[.int .i64 (n : Int), .slice A0_1 l0_1.length c0_1]) (t := 27) ?hr ?_; (case hd => rfl); (case hg => rfl); (case hr => first | (go_simp; done) | (go_simp; rfl)); intro gb hg w5 hbox hb; have n0_ := Aside0.mk (below_step HB.out hb); have n1_ := Aside0.mk (hbox); have n2_ := Aside0.mk ((by rw [hg]; exact (below_size HB.out)) : w.heap.size ≤ gb); clear HB; have HB := n0_; have BK := n1_; have GE := n2_; clear n0_ n1_ n2_; clear hb hbox hg; have hcz6_0 : w5.cell? ⟨gb, 0, none⟩ = some (.int .i64 (n : Int)) := (blk_cell BK.out 0).trans rfl; have hcz6_1 : w5.cell? ⟨gb, 1, none⟩ = some (.slice A0_1 l0_1.length c0_1) := (blk_cell BK.out 1).trans rfl) | ((with_reducible refine gate_dst (N := 7) rfl ?_); refine Kd.R_make Kd.bool _ 4 rfl (N := 7) rfl 68 _ _ rfl (l0_1.length : Int) rfl rfl Try.underlying68 (.bool false) 1 infoB rfl (by decide) (by omega) false (ok := fun _ => True) (okp := fun _ => True) rfl (fun _ hk => hk) trivial (by omega) (by have h_ := HLN.out; omega) (Below.refl _ _) (Nat.le_refl _) ?_; intro v509 w6 ho7 hb hg_ hnew_; clear hg_ hnew_; have n0_ := Aside0.mk (show Kd.R Kd.bool 4 w6 w.heap.size (fun _ => True) v509 y from by rw [Ny.out]; exact Kd.R_lower (by simpa using ho7) (below_size HB.out)); have n1_ := Aside0.mk (blk_below BK.out hb); have n2_ := Aside0.mk (below_step HB.out hb); clear BK; clear HB; have HO := n0_; have BK := n1_; have HB := n2_; clear n0_ n1_ n2_; clear hb ho7; have hcz8_0 : w6.cell? ⟨gb, 0, none⟩ = some (.int .i64 (n : Int)) := (blk_cell BK.out 0).trans rfl; have hgl8 := blk_lt BK.out; obtain ⟨Ao8, co8, eo8⟩ := Kd.R_slice HO.out; subst eo8) | (go_at_call 79; refine (impl_bits.calls (impl_busy.step k l0_1) (impl_busy.I w gb w6.heap.size (n : Int) A0_1 l0_1 c0_1) 106 _ w.heap.size (CL.out gb w6.heap.size GE.out (below_size HB.out)) n hn8 y (fun k_ => k_ = gb ∨ (k_ = w6.heap.size ∨ (Value.slice Ao8 y.length co8).ownBlock = some k_)) r _ ⟨_, fun _ => Iff.rfl, fun k_ hk_ => hk_.elim (fun e_ => e_ ▸ below_size HB.out) (fun e_ => ((Kd.R_bound HO.out).1 k_ e_).2.1), fun k_ hk_ => (Below.heap_alloc w6 _ k_ (Nat.lt_of_lt_of_le hk_ HB.out.size)).trans (HB.out.block k_ hk_), blk_alloc BK.out _, ⟨.slice Ao8 y.length co8, fun _ => Iff.rfl, blk_new w6 _, Kd.R_alloc HO.out _⟩⟩ (below_size (below_alloc HB.out _)) A3.out).mono ?_; rintro e w9 ⟨rfl, S', hI, he, hs⟩; have HX := Aside0.mk hI; have n0_ := Aside0.mk (eff_below (below_alloc HB.out _) he (fun k_ h_ => h_.elim (fun e_ => e_ ▸ GE.out) (fun h2_ => h2_.elim (fun e_ => e_ ▸ below_size HB.out) (fun e_ => ((Kd.R_bound HO.out).1 k_ e_).2.1)))); clear HB; have HB := n0_; clear n0_ hI he hs; obtain ⟨S1, g1, g2, g3, g4, v, g5, g6, g7⟩ := HX.out; have hx0 := cell_of_one g6; have HV := Aside0.mk g7; clear g1 g2 g3 g4 g5 g6 g7 HX))
    go_ret
    exact ⟨_, rfl, HV.out, HB.out⟩
  · rw [if_neg hn] at h
    cases h

end Go.Proofs.Ytmljdibhdnckpaa.Q
