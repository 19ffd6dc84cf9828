/- Each function below comes to the Lean function beside it (theorems '.calls'); no condition beyond each theorem's own. Written by our program oprint.py over the kit's print. -/
import Derived.Test.YtghogdffocnjnaaQx0
import Derived.Test.YtghogdffocnjnaaQx24
import Derived.Test.YtghogdffocnjnaaQx29
import Derived.Test.YtghogdffocnjnaaQx34
import Derived.Test.YtghogdffocnjnaaQx41
import Derived.Test.YtghogdffocnjnaaQx42
import Derived.Shelf.Abstract
import Derived.WalkSpells
import Derived.Deep.QuietTactic
import Derived.BigQuiet
import Derived.RegionTactic
import Derived.Maps.OwnOps
import Derived.Deep.RegionHeld3
namespace Go.Proofs.Ytghogdffocnjnaa.Q
open Go.RowKit Go.Proofs.YtghogdffocnjnaaW.PrintWords Go.Proofs.YtghogdffocnjnaaW.PrintLast Go.Proofs.YtghogdffocnjnaaW.PrintMore
attribute [local go_sem] max2_int min2_int max_two min_two max_three min_three max_four min_four   -- for this text's walks alone
set_option linter.unusedVariables false
set_option linter.unusedSimpArgs false

/-! ### impl_LikeliestOrder: function 45 -/
-- GIVEN impl_LikeliestOrder
set_option maxHeartbeats 8000000 in
set_option maxRecDepth 100000 in
theorem impl_LikeliestOrder_1.calls (k : Nat) (W : World) (bl bp bm bo mm : Nat) (D : DataW Unit) (c : List UInt8 → Int) (h : List UInt8 → Bool) (m : Int) (u v : Value) (xs : List Int) (q : ByteArray) {base : Nat} {ok : Nat → Prop} (hD : W.ownsMap Try.prog 9 (plainElem Try.prog 3) bp mm D) (hrd : MapReads D c h)
    (hl : W.heap[bl]? = some (.cells #[.map (some bp)] 57 (0, 0))) (hm : W.heap[bm]? = some (.cells #[.int .i64 m] 3 (0, 0))) (hbo : W.heap[bo]? = some (.cells #[u] 41 (0, 0))) (hv : Kd.R (Kd.int .i64) 3 W base ok v xs) (h1 : impl_orderKey.f k xs = some q) (hq : q.size ≤ 1000) :
    Calls Try.prog 76 #[v, .pointer (some ⟨bl, 0, none⟩), .pointer (some ⟨bm, 0, none⟩), .pointer (some ⟨bo, 0, none⟩)] W fun e w' => e = .returned (.tuple #[]) ∧ Eff (fun k_ => k_ = bm ∨ k_ = bo) W w' ∧ (if m < c q.data.toList then w'.heap[bm]? = some (.cells #[.int .i64 (c q.data.toList)] 3 (0, 0)) ∧ w'.heap[bo]? = some (.cells #[v] 41 (0, 0)) else w'.heap[bm]? = some (.cells #[.int .i64 m] 3 (0, 0)) ∧ w'.heap[bo]? = some (.cells #[u] 41 (0, 0))) := by
  obtain ⟨A1, c1, rfl, hc1, hr1⟩ := Kd.R_reads hv
  have hz0 : W.cell? ⟨bl, 0, none⟩ = some (.map (some bp)) := (blk_cell hl 0).trans rfl
  have HL := Aside0.mk hl
  have HM := Aside0.mk hm
  have HBO := Aside0.mk hbo
  have HDM := Aside0.mk hD
  have HRd := Aside0.mk hrd
  have HR1 := Aside0.mk hr1
  have HC1 := Aside0.mk hc1
  have A5 := Aside0.mk h1
  have HZ := Aside0.mk (show q.size ≤ maxLen by unfold maxLen; omega)
  clear hv hr1 hc1 hD hrd hl hm hbo h1 hq
  have hbm1 : bo ≠ bm := blk_ne HBO.out HM.out (by decide)
  have hbm2 : bm ≠ bo := fun h => hbm1 h.symm
  obtain ⟨mc, hmc⟩ : ∃ x_, x_ = c q.data.toList := ⟨_, rfl⟩
  rw [← hmc]
  have HMC := Aside0.mk hmc
  clear hmc
  by_cases hgt : m < mc
  · go_enter Try.func76, Try.ntmps76
    go_wp2
    go_region_held3 (fun w' => w'.cell? ⟨bl, 0, none⟩ = some (.map (some bp))) (first | assumption | go_keep) (first | (go_at_call 72; refine (impl_orderKey.calls k _ _ xs q _ (by repeat (first | exact HR1.out | (with_reducible refine Kd.C_drewN ?_ _) | (with_reducible refine Kd.C_drew ?_))) HC1.out A5.out).mono ?_; rintro e w9 ⟨rfl, hb9⟩; have HB := Aside0.mk (show Below W.heap.size W w9 from (below_drew1 (Below.refl W.heap.size W)).trans hb9); have HD9 := Aside0.mk (md_kept HDM.out (HB.out.block bp HDM.out.lt)); have hz9 : w9.cell? ⟨bl, 0, none⟩ = some (.map (some bp)) := (blk_cell (blk_below HL.out HB.out) 0).trans rfl; have hm0 := cell_of_one (blk_below HM.out HB.out); have hm1 := free_of_one (blk_below HM.out HB.out); have ho0 := cell_of_one (blk_below HBO.out HB.out); have ho1 := free_of_one (blk_below HBO.out HB.out); obtain ⟨c7, hrun7, hat7, _⟩ := HD9.out.lookup_int md_law Try.underlying57 Try.underlying3 (md_zero _) (Go.WideMaps.keyOf_string_mk Try.underlying9 HZ.out); obtain rfl : c7 = mc := (by have h_ := HRd.out.2.1 q.data.toList; rw [hat7, ← HMC.out] at h_; exact ((Lit.int.inj (DataW.lit.inj h_)).2)); clear hat7 hb9))
    go_wp2
    go_end0
    exact ⟨by first | rfl | trivial, by repeat (first | exact Eff.of_below HB.out | refine eff_setS ?_ (.inl (.inl rfl)) | refine eff_setS ?_ (.inl (.inr rfl))), one_setCell ((Below.heap_setCell _ _ _ _ hbm2).trans (blk_below HM.out HB.out)), (Below.heap_setCell _ _ _ _ hbm1).trans (one_setCell (blk_below HBO.out HB.out))⟩
  · have hgb : mc ≤ m := by omega
    go_enter Try.func76, Try.ntmps76
    go_wp2
    go_region_held3 (fun w' => w'.cell? ⟨bl, 0, none⟩ = some (.map (some bp))) (first | assumption | go_keep) (first | (go_at_call 72; refine (impl_orderKey.calls k _ _ xs q _ (by repeat (first | exact HR1.out | (with_reducible refine Kd.C_drewN ?_ _) | (with_reducible refine Kd.C_drew ?_))) HC1.out A5.out).mono ?_; rintro e w9 ⟨rfl, hb9⟩; have HB := Aside0.mk (show Below W.heap.size W w9 from (below_drew1 (Below.refl W.heap.size W)).trans hb9); have HD9 := Aside0.mk (md_kept HDM.out (HB.out.block bp HDM.out.lt)); have hz9 : w9.cell? ⟨bl, 0, none⟩ = some (.map (some bp)) := (blk_cell (blk_below HL.out HB.out) 0).trans rfl; have hm0 := cell_of_one (blk_below HM.out HB.out); have hm1 := free_of_one (blk_below HM.out HB.out); have ho0 := cell_of_one (blk_below HBO.out HB.out); have ho1 := free_of_one (blk_below HBO.out HB.out); obtain ⟨c7, hrun7, hat7, _⟩ := HD9.out.lookup_int md_law Try.underlying57 Try.underlying3 (md_zero _) (Go.WideMaps.keyOf_string_mk Try.underlying9 HZ.out); obtain rfl : c7 = mc := (by have h_ := HRd.out.2.1 q.data.toList; rw [hat7, ← HMC.out] at h_; exact ((Lit.int.inj (DataW.lit.inj h_)).2)); clear hat7 hb9))
    go_wp2
    go_end0
    refine ⟨by first | rfl | trivial, by repeat (first | exact Eff.of_below HB.out | refine eff_setS ?_ (.inl (.inl rfl)) | refine eff_setS ?_ (.inl (.inr rfl))), ?_⟩
    try rw [if_neg (by omega)]
    exact ⟨blk_below HM.out HB.out, blk_below HBO.out HB.out⟩
def impl_LikeliestOrder.step (k n K : Nat) (q0 : List UInt8) (s : List Int × Int) (xs : List Int) : Option (List Int × Int) := if xs = [] then none else (impl_orderKey.f k xs).bind fun q => if q.size ≤ 1000 then some (if s.2 < mdC n q0 K q.data.toList then (xs, mdC n q0 K q.data.toList) else s) else none
theorem impl_LikeliestOrder.step_mono (k n K : Nat) (q0 : List UInt8) (s : List Int × Int) (xs : List Int) : LeO (impl_LikeliestOrder.step k n K q0 s xs) (impl_LikeliestOrder.step (k + 1) n K q0 s xs) := by
  unfold impl_LikeliestOrder.step
  exact LeO.ite (LeO.refl _) (LeO.bind (impl_orderKey.mono _ _) (fun _ => LeO.refl _))
/-- What the function value's blocks hold. -/
def impl_LikeliestOrder.I (w0 : World) (bl bp bm bo mm : Nat) (D : DataW Unit) (s : List Int × Int) (S : Nat → Prop) (W : World) : Prop :=
  ∃ v : Value, (∀ k, S k ↔ (k = bl ∨ k = bm ∨ k = bo ∨ k = bp ∨ v.ownBlock = some k)) ∧ (∀ k, k < w0.heap.size → W.heap[k]? = w0.heap[k]?) ∧ W.heap[bl]? = some (.cells #[.map (some bp)] 57 (0, 0)) ∧ W.heap[bm]? = some (.cells #[.int .i64 s.2] 3 (0, 0)) ∧ W.heap[bo]? = some (.cells #[v] 41 (0, 0)) ∧ (v.ownBlock ≠ some bm ∧ v.ownBlock ≠ some bo) ∧ Kd.R (Kd.int .i64) 3 W w0.heap.size (fun _ => True) v s.1 ∧ W.ownsMap Try.prog 9 (plainElem Try.prog 3) bp mm D ∧ bp ≠ bm ∧ bp ≠ bo
theorem impl_LikeliestOrder.clo (w0 : World) (bl bp bm bo mm : Nat) (D : DataW Unit) (k n K : Nat) (q0 : List UInt8) (hrd : MapReads D (mdC n q0 K) (mdH n q0 K)) (hbl : w0.heap.size ≤ bl) (hbm : w0.heap.size ≤ bm) (hbo : w0.heap.size ≤ bo) : CloList 76 #[.pointer (some ⟨bl, 0, none⟩), .pointer (some ⟨bm, 0, none⟩), .pointer (some ⟨bo, 0, none⟩)] w0.heap.size (impl_LikeliestOrder.I w0 bl bp bm bo mm D) (impl_LikeliestOrder.step k n K q0) where
  enters := enters_of Try.func76 (by kernel_rfl) rfl
  lt := fun s S W q hI hq => by
    obtain ⟨v, h1, h2, h3, h4, h5, h6, h7, h8, h9⟩ := hI
    rcases (h1 q).1 hq with rfl | rfl | rfl | rfl | hq
    · exact blk_lt h3
    · exact blk_lt h4
    · exact blk_lt h5
    · exact h8.lt
    · exact ((Kd.R_bound h7).1 q hq).2.2.1
  move := fun s S W W' hI hm hsz => by
    obtain ⟨v, h1, h2, h3, h4, h5, h6, h7, h8, h9⟩ := hI
    have hs : w0.heap.size ≤ W.heap.size := by have := blk_lt h3; omega
    exact ⟨v, h1, fun q hq => (hm q (by omega) (.inl hq)).trans (h2 q hq), (hm bl (blk_lt h3) (.inr ((h1 bl).2 (.inl rfl)))).trans h3, (hm bm (blk_lt h4) (.inr ((h1 bm).2 (.inr (.inl rfl))))).trans h4, (hm bo (blk_lt h5) (.inr ((h1 bo).2 (.inr (.inr (.inl rfl)))))).trans h5, h6,
      Kd.R_mono (Kd.R_move (Kd.R_tight rfl h7) (fun q hq => hm q ((Kd.R_bound h7).1 q hq.symm).2.2.1 (.inr ((h1 q).2 (.inr (.inr (.inr (.inr hq.symm)))))))) (fun _ _ => trivial), md_kept h8 (hm bp h8.lt (.inr ((h1 bp).2 (.inr (.inr (.inr (.inl rfl))))))), h9⟩
  call := fun s s' S W v xs hI hv hst => by
    obtain ⟨u, h1, h2, h3, h4, h5, h6, h7, h8, h9⟩ := hI
    unfold impl_LikeliestOrder.step at hst
    by_cases hx : xs = []
    · rw [if_pos hx] at hst
      cases hst
    rw [if_neg hx] at hst
    obtain ⟨q, e1, hst⟩ := Option.bind_eq_some_iff.mp hst
    by_cases hqs : q.size ≤ 1000
    · rw [if_pos hqs] at hst
      obtain rfl := Option.some.inj hst
      clear hst
      have hlm : bl ≠ bm := blk_ne h3 h4 (by decide)
      have hlo : bl ≠ bo := blk_ne h3 h5 (by decide)
      have hs : w0.heap.size ≤ W.heap.size := by have := blk_lt h3; omega
      refine (impl_LikeliestOrder_1.calls k W bl bp bm bo mm D _ _ s.2 u v xs q h8 hrd h3 h4 h5 hv e1 hqs).mono ?_
      rintro e w' ⟨he0, he, hw⟩
      have hold : ∀ q, q < w0.heap.size → w'.heap[q]? = w0.heap[q]? := fun q hq => (he.k.2 q (by omega) (by intro hh; omega)).trans (h2 q hq)
      have hl' := (he.k.2 bl (blk_lt h3) (by intro hh; omega)).trans h3
      have hp' := md_kept h8 (he.k.2 bp h8.lt (by intro hh; rcases hh with hh | hh; exact h9.1 hh; exact h9.2 hh))
      have he' : Eff S W w' := ⟨he.b, he.k.mono (fun q hq => by
        rcases hq with rfl | rfl
        · exact (h1 _).2 (.inr (.inl rfl))
        · exact (h1 _).2 (.inr (.inr (.inl rfl))))⟩
      generalize mdC n q0 K q.data.toList = many at hw ⊢
      by_cases hgt : s.2 < many
      · rw [if_pos hgt] at hw
        simp only [if_pos hgt]
        refine ⟨he0, (fun q => q = bl ∨ q = bm ∨ q = bo ∨ q = bp ∨ v.ownBlock = some q), ⟨v, fun _ => Iff.rfl, hold, hl', hw.1, hw.2, ⟨fun hq => (hv.1 bm hq) ((h1 _).2 (.inr (.inl rfl))), fun hq => (hv.1 bo hq) ((h1 _).2 (.inr (.inr (.inl rfl))))⟩, Kd.R_mono (Kd.R_kept hv he'.k (fun q hq => hq)) (fun _ _ => trivial), hp', h9⟩, he', ?_⟩
        intro q hq
        rcases hq with rfl | rfl | rfl | rfl | hq
        · exact .inl ((h1 _).2 (.inl rfl))
        · exact .inl ((h1 _).2 (.inr (.inl rfl)))
        · exact .inl ((h1 _).2 (.inr (.inr (.inl rfl))))
        · exact .inl ((h1 _).2 (.inr (.inr (.inr (.inl rfl)))))
        · exact .inr (.inl hq)
      · rw [if_neg hgt] at hw
        simp only [if_neg hgt]
        refine ⟨he0, S, ⟨u, h1, hold, hl', hw.1, hw.2, h6, Kd.R_mono (Kd.R_kept (Kd.R_tight rfl h7) he.k (fun q hq hh => ?_)) (fun _ _ => trivial), hp', h9⟩, he', fun q hq => .inl hq⟩
        rcases hh with rfl | rfl
        · exact h6.1 hq.symm
        · exact h6.2 hq.symm
    · rw [if_neg hqs] at hst
      cases hst
def impl_LikeliestOrder.f (k : Nat) (a0 : Int) (a1 : Int) : Option (List Int × Bool) :=
  (impl_isTold.f a0 a1).bind fun t1 => if t1 = true then ((impl_identity.f k a0).bind fun ids => (impl_orderKey.f k ids).bind fun q0 => if 2 ≤ a0 ∧ a0 ≤ 5 ∧ 0 ≤ a1 ∧ a1 ≤ 20 ∧ (q0.data.toList.length : Int) = a0 then ((ordersF (impl_LikeliestOrder.step k a0.toNat a1.toNat q0.data.toList) k a0 (([] : List Int), (0 : Int))).bind fun o => some (o.1, true)) else none) else some ([], false)
theorem impl_LikeliestOrder.mono : ∀ a0 a1 k, LeO (impl_LikeliestOrder.f k a0 a1) (impl_LikeliestOrder.f (k + 1) a0 a1) := by
  intro a0 a1 k
  unfold impl_LikeliestOrder.f
  exact LeO.bind (LeO.refl _) (fun _ => LeO.ite (LeO.bind (impl_identity.mono _ _) (fun _ => LeO.bind (impl_orderKey.mono _ _) (fun _ => LeO.ite (LeO.bind (ordersF_mono (fun s xs => impl_LikeliestOrder.step_mono k _ _ _ s xs) _ _ _) (fun _ => LeO.refl _)) (LeO.refl _)))) (LeO.refl _))
set_option maxHeartbeats 8000000 in
set_option maxRecDepth 100000 in
set_option linter.unusedVariables false in
theorem impl_LikeliestOrder.calls (k : Nat) (a0 : Int) (a1 : Int) (r1 : List Int) (r2 : Bool) (w : World) (h : impl_LikeliestOrder.f k a0 a1 = some (r1, r2)) :
    Calls Try.prog 45 #[.int .i64 a0, .int .i64 a1] w fun e w' => ∃ v0_ : Value, e = .returned (.tuple #[v0_, .bool r2]) ∧ Kd.R (Kd.int .i64) 3 w' w.heap.size (fun _ => True) v0_ r1 ∧ Below w.heap.size w w' := by
  have hmf : ∀ (fn : Fn) (first cap : Array Value) (w : World), (Instr.makeFunc fn first cap).run Try.prog w = .ok (.func fn first cap) w := fun _ _ _ _ => rfl
  have HB0 := Aside0.mk (Below.refl w.heap.size w)
  unfold impl_LikeliestOrder.f at h
  obtain ⟨t1, e1, h⟩ := Option.bind_eq_some_iff.mp h
  have A1 := Aside0.mk e1
  clear e1
  cases t1 with
  | false =>
    rw [if_neg (by decide)] at h
    simp only [Option.some.injEq, Prod.mk.injEq] at h
    obtain ⟨rfl, rfl⟩ := h
    go_enter Try.func45, Try.ntmps45
    go_wp2_with (first | (go_at_call 67; refine (impl_isTold.calls a0 a1 false _ A1.out).mono ?_; rintro e w' ⟨rfl, ⟨nd, rfl⟩⟩))
    go_ret2
    exact ⟨_, rfl, Kd.R_nil _ _ _ _ _, by repeat (first | exact HB0.out | apply pw_below_drewN | apply below_drew1)⟩
  | true =>
    rw [if_pos rfl] at h
    obtain ⟨ids, e3, h⟩ := Option.bind_eq_some_iff.mp h
    obtain ⟨q0, e4, h⟩ := Option.bind_eq_some_iff.mp h
    by_cases hc : 2 ≤ a0 ∧ a0 ≤ 5 ∧ 0 ≤ a1 ∧ a1 ≤ 20 ∧ (q0.data.toList.length : Int) = a0
    · rw [if_pos hc] at h
      obtain ⟨c1, c2', c3, c4, c5⟩ := hc
      obtain ⟨⟨m, many⟩, e2, h⟩ := Option.bind_eq_some_iff.mp h
      simp only [Option.some.injEq, Prod.mk.injEq] at h
      obtain ⟨rfl, rfl⟩ := h
      obtain ⟨n, rfl⟩ : ∃ n : Nat, a0 = n := ⟨a0.toNat, by omega⟩
      obtain ⟨K, rfl⟩ : ∃ n : Nat, a1 = n := ⟨a1.toNat, by omega⟩
      rw [Int.toNat_natCast, Int.toNat_natCast] at e2
      have A2 := Aside0.mk e2
      have A3 := Aside0.mk e3
      have A4 := Aside0.mk e4
      have HQ := Aside0.mk (show q0.data.toList.length = n by omega)
      have HN := Aside0.mk (show 2 ≤ n ∧ n ≤ 5 ∧ K ≤ 20 by omega)
      clear e2 e3 e4 c1 c2' c3 c4 c5
      go_enter Try.func45, Try.ntmps45
      go_wp2_with (first | (go_at_call 67; refine (impl_isTold.calls _ _ true _ A1.out).mono ?_; rintro e w' ⟨rfl, ⟨nd, rfl⟩⟩) | (go_at_call 68; refine (impl_made.calls k n K ids q0 _ HN.out.1 HN.out.2.1 HN.out.2.2 A3.out A4.out HQ.out).mono ?_; rintro e w5 ⟨b, mm, D, rfl, hb, hown, hrd, hbel⟩; have HO := Aside0.mk hown; have HRd := Aside0.mk hrd; have HB := Aside0.mk (below_step (by repeat (first | exact HB0.out | apply pw_below_drewN | apply below_drew1)) hbel); have HBb := Aside0.mk (show w.heap.size ≤ b from hb); clear hb hown hrd hbel))
      have hbl := HO.out.lt
      have hsz := below_size HB.out
      refine (impl_orders.calls (impl_LikeliestOrder.step k n K q0.data.toList) (impl_LikeliestOrder.I w w5.heap.size b (w5.heap.size + 1 + 1) (w5.heap.size + 1) mm D) 76 _ w.heap.size (impl_LikeliestOrder.clo w w5.heap.size b (w5.heap.size + 1 + 1) (w5.heap.size + 1) mm D k n K q0.data.toList HRd.out hsz (by omega) (by omega)) k (n : Int) (([] : List Int), (0 : Int)) (fun k_ => k_ = w5.heap.size ∨ k_ = w5.heap.size + 1 + 1 ∨ k_ = w5.heap.size + 1 ∨ k_ = b ∨ (Value.slice none 0 0).ownBlock = some k_) (m, many) _ ?hI ?hB A2.out).mono ?_
      case hI =>
        refine ⟨.slice none 0 0, fun _ => Iff.rfl, fun k_ hk_ => ?_, blk_alloc (blk_alloc (blk_new w5 _) _) _, ?_, blk_alloc ?_ _, ⟨by simp [Value.ownBlock], by simp [Value.ownBlock]⟩, Kd.R_nil _ _ _ _ _, ((HO.out.alloc _).alloc _).alloc _, by omega, by omega⟩
        · have hk5 : k_ < w5.heap.size := by omega
          exact (Below.heap_alloc _ _ k_ (by simp; omega)).trans ((Below.heap_alloc _ _ k_ (by simp; omega)).trans ((Below.heap_alloc w5 _ k_ hk5).trans (HB.out.block k_ hk_)))
        · rw [show w5.heap.size + 1 + 1 = ((w5.alloc (Obj.cells #[.map (some b)] 57)).alloc (Obj.cells #[.slice none 0 0] 41)).heap.size from (by simp)]
          exact blk_new _ _
        · rw [show w5.heap.size + 1 = (w5.alloc (Obj.cells #[.map (some b)] 57)).heap.size from (by simp)]
          exact blk_new _ _
      case hB => exact below_size (below_alloc (below_alloc (below_alloc HB.out _) _) _)
      rintro e w9 ⟨rfl, S', hI, he, hs⟩
      have HBf := Aside0.mk (eff_below (below_alloc (below_alloc (below_alloc HB.out _) _) _) he (fun k_ h_ => by
        rcases h_ with rfl | rfl | rfl | rfl | h_
        · exact hsz
        · omega
        · omega
        · exact HBb.out
        · simp [Value.ownBlock] at h_))
      obtain ⟨v, h1, h2, h3, h4, h5, h6, h7, h8, h9⟩ := hI
      have HV := Aside0.mk h7
      have hx0 := cell_of_one h5
      clear h1 h2 h3 h4 h5 h6 h7 h8 h9 he hs hbl hsz
      go_wp2
      go_ret2
      exact ⟨_, rfl, HV.out, HBf.out⟩
    · rw [if_neg hc] at h; cases h

end Go.Proofs.Ytghogdffocnjnaa.Q
