/- Each function below comes to the Lean function beside it (theorems '.calls'); no condition beyond each theorem's own. Written by our program oprint.py over the kit's print. -/
import Derived.Test.YtghogdffocnjnaaQx0
import Derived.Test.YtghogdffocnjnaaQx24
import Derived.Test.YtghogdffocnjnaaQx42
import Derived.Maps.RangeWalk
import Derived.Maps.OwnSet
import Derived.Lib.AtoiErrMem
import Derived.Lib.BufferMore
namespace Go.Proofs.Ytghogdffocnjnaa.Q
open Go.RowKit Go.Proofs.YtghogdffocnjnaaW.PrintWords Go.Proofs.YtghogdffocnjnaaW.PrintLast Go.Proofs.YtghogdffocnjnaaW.PrintMore
attribute [local go_sem] max2_int min2_int max_two min_two max_three min_three max_four min_four   -- for this text's walks alone
set_option linter.unusedVariables false
set_option linter.unusedSimpArgs false

/-! impl.made: the map of counts by results -/
theorem md_law : Go.Maps.Keyed Try.prog 9 := Go.Maps.string_keyed Try.underlying9
theorem md_zero (w : World) : (zeroValue 3).run Try.prog w = .ok (.int .i64 0) w := by kernel_rfl
theorem md_key_inv {P : Program} {k : TypeId} (hk : P.underlying k = some .string) {key : Value} {kl : Lit} (h : keyOf P k key = some kl) : ∃ s : ByteArray, key = .string s ∧ kl = .string s.data.toList ∧ s.size ≤ maxLen := by
  cases key <;> simp [keyOf, hk, mapKey] at h
  rename_i s
  exact ⟨s, rfl, h.2.symm, h.1⟩
/-- 'm[k] = v' of a literal, at the operation. -/
theorem md_insert_own {H : Type} {P : Program} (w : World) {ops : Array Oper} {rest : List Oper} {o : Oper} {a : Act} {Q : Exit → Act → World → Prop}
    (hg : o.guard = none) (m x v : Operand) (t : TypeId) (hop : o.op = Op.insert t m x v)
    (k e : TypeId) (K : Go.Maps.Keyed P k) (ht : P.underlying t = some (.map k e)) (R : Value → Option (DataW H × List MemPlace)) (b n : Nat) (D : DataW H)
    (hm : a.eval m = .map (some b)) (hown : w.ownsMap P k R b n D) (hn : n < maxLen) (key val : Value) (kl : Lit) (hx : a.eval x = key) (hv : a.eval v = val) (hkey : keyOf P k key = some kl)
    (d : DataW H) (ps : List MemPlace) (hval : R val = some (d, ps))
    (hK : ∀ w', w'.ownsMap P k R b (n + 1) (D.put kl d) → w.grownBy w' (some b) → wpList P ops Q rest (a.put o.dst undef) w') :
    wpList P ops Q (o :: rest) a w := by
  refine wpList_plain hg fun K' hK' => ?_
  obtain ⟨w', hrun, r1, r2⟩ := hown.update K ht hn hkey hval
  unfold Oper.wp
  simp [execOp, hop, hm, hx, hv, hrun, Result.andThen]
  exact hK' _ _ (hK w' r1 r2)
theorem md_kept {w w' : World} {P : Program} {k : TypeId} {R : Value → Option (DataW Unit × List MemPlace)} {b n : Nat} {D : DataW Unit} (h : w.ownsMap P k R b n D) (hb : w'.heap[b]? = w.heap[b]?) : w'.ownsMap P k R b n D := by
  obtain ⟨es, clock, h1, h2⟩ := h
  exact ⟨es, clock, hb.trans h1, h2⟩
theorem md_ranges_kept {w w' : World} {P : Program} {k : TypeId} {R : Value → Option (DataW Unit × List MemPlace)} {b r n : Nat} {D : DataW Unit} {left : Lit → Bool} {cnt : Nat} (h : w.ranges P k R b r n D left cnt) (hb : w'.heap[b]? = w.heap[b]?) (hr : w'.heap[r]? = w.heap[r]?) : w'.ranges P k R b r n D left cnt := by
  obtain ⟨es, clock, since, seen, c0, h1, h2, h3, h4, h5, h6⟩ := h
  exact ⟨es, clock, since, seen, c0, hb.trans h1, h2, h3, h4, hr.trans h5, h6⟩
/-- A row of bytes that a conversion made. -/
def MdRow (w : World) (g e n : Nat) (xs : List UInt8) : Prop := ∃ cs fr, w.heap[g]? = some (.cells cs e fr) ∧ xs.length = n ∧ n ≤ cs.size ∧ n ≤ fr.1 ∧ ∀ j, j < n → cs[j]? = some (.int .u8 (xs.getD j 0).toNat)
theorem MdRow.made (w : World) (e : TypeId) (s : ByteArray) : MdRow (Go.Lib.bytesWorld w e s) w.heap.size e s.size s.data.toList := by
  refine ⟨_, _, Go.Lib.bytesWorld_at_new w e s, by rw [Array.length_toList]; rfl, ?_, ?_, fun j hj => ?_⟩
  · show s.data.size ≤ _
    unfold Go.Lib.bytesCells
    rw [Array.size_append, Array.size_map]
    omega
  · show s.data.size ≤ _
    unfold Go.Lib.bytesCells
    rw [Array.size_append, Array.size_map]
    omega
  · have h := Go.Lib.bytesWorld_cell w e s j hj
    simpa [World.cell?, Go.Lib.bytesWorld_at_new] using h
theorem MdRow.cell {w : World} {g e n : Nat} {xs : List UInt8} (h : MdRow w g e n xs) {j : Nat} (hj : j < n) : w.cell? ⟨g, j, none⟩ = some (.int .u8 (xs.getD j 0).toNat) := by
  obtain ⟨cs, fr, h1, _, _, _, h5⟩ := h
  simp only [World.cell?, h1]
  exact h5 j hj
theorem MdRow.free {w : World} {g e n : Nat} {xs : List UInt8} (h : MdRow w g e n xs) {j : Nat} (hj : j < n) : w.frozen? ⟨g, j, none⟩ = false := by
  obtain ⟨cs, fr, h1, _, _, h4, _⟩ := h
  obtain ⟨lo, hi⟩ := fr
  simp only [World.frozen?, h1]
  have : ¬ lo ≤ j := by simp only at h4; omega
  simp [this]
theorem MdRow.lt {w : World} {g e n : Nat} {xs : List UInt8} (h : MdRow w g e n xs) : g < w.heap.size := by
  obtain ⟨cs, fr, h1, _⟩ := h
  exact (Array.getElem?_eq_some_iff.1 h1).1
theorem MdRow.set {w : World} {g e n : Nat} {xs : List UInt8} (h : MdRow w g e n xs) {i : Nat} (hi : i < n) (v : UInt8) : MdRow (w.setCell ⟨g, i, none⟩ (.int .u8 v.toNat)) g e n (xs.set i v) := by
  obtain ⟨cs, fr, h1, h2, h3, h4, h5⟩ := h
  refine ⟨_, fr, Go.Lib.heap_setCell_same h1 _, by simpa using h2, by simpa using h3, h4, fun j hj => ?_⟩
  rw [Array.getElem?_setIfInBounds, List.getD_eq_getElem?_getD, List.getElem?_set]
  by_cases e : i = j
  · subst e
    rw [if_pos rfl, if_pos (by omega), if_pos rfl, if_pos (by omega)]
    rfl
  · rw [if_neg e, if_neg e, h5 j hj, List.getD_eq_getElem?_getD]
theorem MdRow.drew {w : World} {g e n : Nat} {xs : List UInt8} (h : MdRow w g e n xs) : MdRow w.drew g e n xs := h
theorem MdRow.text {w : World} {g n c : Nat} {xs : List UInt8} (h : MdRow w g 5 n xs) (hn : n ≤ 9223372036854775807) : (convert 68 9 (.slice (some ⟨g, 0, none⟩) n c)).run Try.prog w = .ok (.string ⟨xs.toArray⟩) w := by
  have hl : xs.length = n := by obtain ⟨_, _, _, h2, _⟩ := h; exact h2
  have hr : ReadsInt w .u8 (some ⟨g, 0, none⟩) n (xs.map fun b => (b.toNat : Int)) := by
    refine ⟨by simpa using hl, hn, fun _ => ⟨_, rfl, fun j hj => ?_⟩⟩
    rw [add_plain, h.cell hj]
    simp [List.getD_eq_getElem?_getD, List.getElem?_eq_getElem (show j < xs.length by omega)]
  have e := string_of_reads (c := c) Try.underlying68 Try.underlying5 Try.underlying9 hr
  rw [e]
  congr 2
  unfold strOfNums
  congr 1
  rw [List.map_map]
  congr 1
  simp [Function.comp_def]
theorem md_start {D : DataW Unit} {n : Nat} {c : List UInt8 → Int} {h : List UInt8 → Bool} (r : MapReads D c h) : MapReads (.map []) (mdMidC n c (fun z => Go.Maps.has D (.string z)) [] 0 0) (mdMidH n h (fun z => Go.Maps.has D (.string z)) [] 0) :=
  MapReads.empty.congr (fun bs => ((mdMid_start (n := n) (fun z => r.2.2 z) (fun z hz => r.zero z hz) [] 0).1 bs).symm) (fun bs => ((mdMid_start (n := n) (fun z => r.2.2 z) (fun z hz => r.zero z hz) [] 0).2 bs).symm)
theorem md_finish {N : DataW Unit} {n : Nat} {c : List UInt8 → Int} {h : List UInt8 → Bool} {left : Lit → Bool} (hl : ∀ kl, left kl = false) (r : MapReads N (mdMidC n c (fun z => left (.string z)) [] 0 0) (mdMidH n h (fun z => left (.string z)) [] 0)) : MapReads N (mdStepC n c) (mdStepH n h) :=
  r.congr (fun bs => (mdMid_end (c := c) (h := h) (left := fun z => left (.string z)) (fun z => hl _) [] 0).1 bs) (fun bs => (mdMid_end (c := c) (h := h) (left := fun z => left (.string z)) (fun z => hl _) [] 0).2 bs)
theorem md_after {N : DataW Unit} {n : Nat} {c : List UInt8 → Int} {h : List UInt8 → Bool} {left : Lit → Bool} {q : List UInt8} {m : Int} (hq : q.length = n) (hlq : left (.string q) = true) (hhq : h q = true) (hm : c q = m)
    (r : MapReads N (mdMidC n c (fun z => left (.string z)) q m (n - 1)) (mdMidH n h (fun z => left (.string z)) q (n - 1))) :
    MapReads N (mdMidC n c (fun z => left (.string z) && !(Lit.string z).sameKey (.string q)) [] 0 0) (mdMidH n h (fun z => left (.string z) && !(Lit.string z).sameKey (.string q)) [] 0) := by
  subst hm
  exact r.congr (fun bs => mdMidC_done (left := fun z => left (.string z)) hq hlq (fun z => by rw [mdSameKey]) [] 0 bs) (fun bs => mdMidH_done (left := fun z => left (.string z)) hq hlq hhq (fun z => by rw [mdSameKey]) [] bs)
set_option maxHeartbeats 8000000 in
set_option maxRecDepth 100000 in
theorem impl_made.calls (k n K : Nat) (ids : List Int) (q0 : ByteArray) (w : World) (hn : 2 ≤ n) (hn5 : n ≤ 5) (hK : K ≤ 20) (h1 : impl_identity.f k (n : Int) = some ids) (h2 : impl_orderKey.f k ids = some q0) (hq : q0.data.toList.length = n) :
    Calls Try.prog 68 #[.int .i64 (n : Int), .int .i64 (K : Int)] w fun e w' => ∃ (b m : Nat) (D : DataW Unit), e = .returned (.map (some b)) ∧ w.heap.size ≤ b ∧ w'.ownsMap Try.prog 9 (plainElem Try.prog 3) b m D ∧ MapReads D (mdC n q0.data.toList K) (mdH n q0.data.toList K) ∧ Below w.heap.size w w' := by
  have hmm := @run_makeMap Try.prog
  have A1 := Aside0.mk h1
  have A2 := Aside0.mk h2
  have HQ := Aside0.mk hq
  have hqe : q0.size = q0.data.toList.length := (Array.length_toList).symm
  have HQS := Aside0.mk (show q0.size ≤ maxLen by unfold maxLen; omega)
  clear hqe
  clear h1 h2 hq
  have HM := Aside0.mk (World.ownsMap_made (H := Unit) w Try.prog 9 (plainElem Try.prog 3))
  have hn1w : IntKind.i64.wrap ((n : Int) - 1) = ((n - 1 : Nat) : Int) := by rw [i64_w]; unfold wrap64; omega
  go_enter Try.func68, Try.ntmps68
  go_wp2_with (first
    | (go_at_call 82; refine (impl_identity.calls k (n : Int) ids _ A1.out).mono ?_; rintro e w3 ⟨v3, rfl, ho3, hb3⟩; obtain ⟨A3, c3, rfl, hc3, hr3⟩ := Kd.R_reads ho3; have HR3 := Aside0.mk hr3; have HC3 := Aside0.mk hc3; have HB3 := Aside0.mk (below_step (below_alloc (Below.refl w.heap.size w) (.map #[] 0)) hb3); have HM3 := Aside0.mk (md_kept HM.out (hb3.block w.heap.size (by simp))); clear ho3 hb3 hc3 hr3)
    | (go_at_call 72; refine (impl_orderKey.calls k _ _ ids q0 _ HR3.out HC3.out A2.out).mono ?_; rintro e w4 ⟨rfl, hb4⟩; have HB4 := Aside0.mk (below_step HB3.out hb4); have HM4 := Aside0.mk (md_kept HM3.out (hb4.block w.heap.size HM3.out.lt)); clear hb4)
    | (refine md_insert_own _ rfl _ _ _ 57 rfl 9 3 md_law Try.underlying57 _ w.heap.size 0 (.map []) rfl HM4.out (by unfold maxLen; omega) _ _ _ rfl rfl (Go.WideMaps.keyOf_string_mk Try.underlying9 HQS.out) (.lit (.int .i64 1)) [] (plainElem_int Try.underlying3 (by decide)) ?_; intro w5 hown5 hgr5; have HO5 := Aside0.mk hown5; have HB5 := Aside0.mk (HB4.out.grown hgr5 HB4.out.size (fun j hj => by cases hj; exact Nat.le_refl _)); clear hown5 hgr5))
  have HR5 := Aside0.mk (show MapReads ((DataW.map []).put (.string q0.data.toList) (.lit (.int .i64 1))) (mdC n q0.data.toList 0) (mdH n q0.data.toList 0) from (MapReads.empty.put q0.data.toList 1).congr (fun bs => rfl) (fun bs => by show (if bs = q0.data.toList then true else false) = decide (bs = q0.data.toList); by_cases e : bs = q0.data.toList <;> simp [e]))
  clear HM HM3 HM4 HB3 HB4 HR3 HC3 A1 A2
  go_loopg [5, 17] K (fun gg v5 v17 wr => ∃ (j b m : Nat) (D : DataW Unit), v5 = .map (some b) ∧ v17 = .int .i64 (j : Int) ∧ j ≤ K ∧ K - j ≤ gg ∧ m ≤ 4 ^ j ∧ Aside0 (w.heap.size ≤ b) ∧ Aside0 (wr.ownsMap Try.prog 9 (plainElem Try.prog 3) b m D) ∧ Aside0 (MapReads D (mdC n q0.data.toList j) (mdH n q0.data.toList j)) ∧ Aside0 (Below w.heap.size w wr))
  case atStart => exact ⟨0, w.heap.size, 1, _, rfl, rfl, Nat.zero_le _, by omega, by simp, ⟨Nat.le_refl _⟩, HO5, HR5, HB5⟩
  case round =>
    clear HO5 HR5 HB5
    obtain ⟨wO, hwO⟩ : ∃ x_, x_ = wr := ⟨_, rfl⟩
    subst hwO
    obtain ⟨j, b, m, D, rfl, rfl, hj, hg, hm4, HBb, HO, HRd, HB⟩ := hrel
    by_cases hlt : j < K
    · have hltz : (j : Int) < (K : Int) := by omega
      have e1 : (wO.alloc (.map #[] 0)).heap.size = wO.heap.size + 1 := by simp
      go_wp2_with (first | (at_range; refine wpList_range_own _ rfl _ 57 rfl 9 3 md_law Try.underlying57 _ b m D rfl (HO.out.alloc _) ?_; intro w6 hrg6 hg6 hs6))
      go_frame
      rw [e1] at hrg6 hs6 ⊢
      have HRG := Aside0.mk hrg6
      have HON := Aside0.mk ((World.ownsMap_made (H := Unit) wO Try.prog 9 (plainElem Try.prog 3)).kept hg6 (by simp))
      have HB6 := Aside0.mk ((below_alloc HB.out (.map #[] 0)).grown hg6 (by have := HB.out.size; simp; omega) (fun j hj => by cases hj))
      have HRS := Aside0.mk (md_start (n := n) HRd.out)
      have HSL := Aside0.mk HO.out.size_le
      have HSB := Aside0.mk HB.out.size
      have hnb : b ≠ wO.heap.size := by have := HO.out.lt; omega
      clear hrg6 hg6 hs6 HB e1
      go_loopg [8] m (fun gg v8 w7 => ∃ (left : Lit → Bool) (cnt m2 : Nat) (N : DataW Unit), cnt ≤ gg ∧ m2 + 4 * cnt ≤ 4 * m ∧ Aside0 (w7.ranges Try.prog 9 (plainElem Try.prog 3) b (wO.heap.size + 1) m D left cnt) ∧ Aside0 (w7.ownsMap Try.prog 9 (plainElem Try.prog 3) wO.heap.size m2 N) ∧ Aside0 (MapReads N (mdMidC n (mdC n q0.data.toList j) (fun z => left (.string z)) [] 0 0) (mdMidH n (mdH n q0.data.toList j) (fun z => left (.string z)) [] 0)) ∧ Aside0 (Below w.heap.size w w7))
      case atStart => exact ⟨_, _, 0, .map [], HSL.out, by have := HSL.out; omega, HRG, HON, HRS, HB6⟩
      case round =>
        clear HRG HON HRS HB6
        obtain ⟨left, cnt, m2, N, hcg, hm2, HRG, HON, HRN, HB⟩ := hrel
        go_wp2_with (first | (at_next; refine wpList_next_ranges _ rfl _ rfl 9 md_law _ Value.string (Value.int .i64) (fun key kl h => by obtain ⟨s, rfl, _⟩ := md_key_inv Try.underlying9 h; exact ⟨s, rfl⟩) (fun v y hv => by obtain ⟨c, rfl, _⟩ := plainElem_int_inv Try.underlying3 hv; exact ⟨c, rfl⟩) b (wO.heap.size + 1) m D left cnt rfl HRG.out ?_ ?_))
        · intro hc0 hl0
          have HFIN := Aside0.mk (md_finish hl0 HRN.out)
          clear hl0
          go_wp2
          go_roundg (K - (j + 1))
          case measure => omega
          case rel => exact ⟨j + 1, wO.heap.size, m2, N, rfl, by go_num, by omega, by omega, by rw [Nat.pow_succ]; omega, ⟨HSB.out⟩, HON, HFIN, HB⟩
        · intro x c kl y1 y2 w8 cnt1 hkey hlk hv hat hrg8 hlt8 hg8 hs8 hen
          obtain ⟨x', ex, rfl, hxs⟩ := md_key_inv Try.underlying9 hkey
          cases ex
          obtain ⟨c', ec, ey, hwc⟩ := plainElem_int_inv Try.underlying3 hv
          cases ec
          cases ey
          have HHas := Aside0.mk (show mdH n q0.data.toList j x.data.toList = true by rw [← HRd.out.2.2]; exact Go.Maps.has_true_of_atKey hat)
          have HCnt := Aside0.mk (show mdC n q0.data.toList j x.data.toList = c by have h_ := HRd.out.2.1 x.data.toList; rw [hat] at h_; simpa using h_.symm)
          have HLen := Aside0.mk (mdH_length HQ.out HHas.out)
          have HLk := Aside0.mk hlk
          have HXS := Aside0.mk hxs
          have HR8 := Aside0.mk hrg8
          have HO8 := Aside0.mk (HON.out.kept hg8 (by intro h_; have h2_ := Option.some.inj h_; omega))
          have HB8 := Aside0.mk (HB.out.grown hg8 HB.out.size (fun j hj => by cases hj; have := HSB.out; omega))
          have HRN8 := Aside0.mk (show MapReads N (mdMidC n (mdC n q0.data.toList j) (fun z => left (.string z)) x.data.toList c 0) (mdMidH n (mdH n q0.data.toList j) (fun z => left (.string z)) x.data.toList 0) from HRN.out)
          clear hkey hlk hv hat hrg8 hg8 hxs HRG HON HRN HB
          go_wp2
          go_loopg [29] (n - 1) (fun gg v29 w9 => ∃ (i m3 : Nat) (N3 : DataW Unit), v29 = .int .i64 (i : Int) ∧ i ≤ n - 1 ∧ (n - 1) - i ≤ gg ∧ m3 ≤ m2 + i ∧ Aside0 (w9.ranges Try.prog 9 (plainElem Try.prog 3) b (wO.heap.size + 1) m D (fun z => left z && !z.sameKey (.string x.data.toList)) cnt1) ∧ Aside0 (w9.ownsMap Try.prog 9 (plainElem Try.prog 3) wO.heap.size m3 N3) ∧ Aside0 (MapReads N3 (mdMidC n (mdC n q0.data.toList j) (fun z => left (.string z)) x.data.toList c i) (mdMidH n (mdH n q0.data.toList j) (fun z => left (.string z)) x.data.toList i)) ∧ Aside0 (Below w.heap.size w w9))
          case atStart => exact ⟨0, m2, N, rfl, Nat.zero_le _, by omega, by omega, HR8, HO8, HRN8, HB8⟩
          case round =>
            clear HR8 HO8 HRN8 HB8
            obtain ⟨wI, hwI⟩ : ∃ x_, x_ = wr := ⟨_, rfl⟩
            subst hwI
            obtain ⟨i, m3, N3, rfl, hi, hgi, hm3, HR9, HO9, HRN9, HB9⟩ := hrel
            by_cases hil : i < n - 1
            · have hilz : (i : Int) < ((n - 1 : Nat) : Int) := by omega
              have hi1w : IntKind.i64.wrap ((i : Int) + 1) = ((i + 1 : Nat) : Int) := by rw [i64_w]; unfold wrap64; omega
              have kb := fun W => print_bytes (P := Try.prog) 9 68 5 Try.underlying9 Try.underlying68 Try.underlying5 x W
              go_wp2
              have hxn : x.size = n := (Array.length_toList).symm.trans HLen.out
              have hxi : i + 1 < x.size := by omega
              have HW0 := MdRow.made wI 5 x
              have HSI := Aside0.mk (show wO.heap.size < wI.heap.size from HO9.out.lt)
              have HSR := Aside0.mk (show wO.heap.size + 1 < wI.heap.size from HR9.out.lt)
              have HSD := Aside0.mk (show b < wI.heap.size from HR9.out.owns.lt)
              have HR10 := Aside0.mk (md_ranges_kept HR9.out (Go.Lib.bytesWorld_at_old wI 5 x b HSD.out) (Go.Lib.bytesWorld_at_old wI 5 x _ HSR.out))
              have HO10 := Aside0.mk (md_kept HO9.out (Go.Lib.bytesWorld_at_old wI 5 x _ HSI.out))
              have HB10 := Aside0.mk (below_step HB9.out (Go.Lib.bytesWorld_below wI 5 x))
              have HSW := Aside0.mk HB9.out.size
              clear HR9 HO9 HB9 kb
              generalize Go.Lib.bytesWorld wI 5 x = wB at HW0 HR10 HO10 HB10 ⊢
              obtain ⟨u0, hu0⟩ : ∃ u_, u_ = x.data.toList.getD i 0 := ⟨_, rfl⟩
              obtain ⟨u1, hu1⟩ : ∃ u_, u_ = x.data.toList.getD (i + 1) 0 := ⟨_, rfl⟩
              have hy0 : wB.cell? ⟨wI.heap.size, i, none⟩ = some (.int .u8 u0.toNat) := by rw [hu0]; exact HW0.cell (by omega)
              have hy1 : wB.cell? ⟨wI.heap.size, i + 1, none⟩ = some (.int .u8 u1.toNat) := by rw [hu1]; exact HW0.cell (by omega)
              have hf0 : wB.frozen? ⟨wI.heap.size, i, none⟩ = false := HW0.free (by omega)
              have hf1 : wB.frozen? ⟨wI.heap.size, i + 1, none⟩ = false := HW0.free (by omega)
              have hp0 : (0 : Int) ≤ (i : Int) := by omega
              have hp1 : (i : Int) < (x.size : Int) := by omega
              have hp2 : (0 : Int) ≤ ((i + 1 : Nat) : Int) := by omega
              have hp3 : ((i + 1 : Nat) : Int) < (x.size : Int) := by omega
              have HW2 := Aside0.mk (show MdRow ((wB.setCell ⟨wI.heap.size, i, none⟩ (.int .u8 u1.toNat)).setCell ⟨wI.heap.size, i + 1, none⟩ (.int .u8 u0.toNat)).drew wI.heap.size 5 x.size (mdSw x.data.toList i) by
                have h_ := (HW0.set (i := i) (by omega) u1).set (i := i + 1) (by omega) u0
                rw [hu0, hu1] at h_
                rw [hu0, hu1]
                exact h_)
              have hne1 : wO.heap.size ≠ wI.heap.size := by have := HSI.out; omega
              have hne2 : b ≠ wI.heap.size := by have := HSD.out; omega
              have hne3 : wO.heap.size + 1 ≠ wI.heap.size := by have := HSR.out; omega
              have HO11 := Aside0.mk (md_kept HO10.out (show ((wB.setCell ⟨wI.heap.size, i, none⟩ (.int .u8 u1.toNat)).setCell ⟨wI.heap.size, i + 1, none⟩ (.int .u8 u0.toNat)).drew.heap[wO.heap.size]? = wB.heap[wO.heap.size]? from (Below.heap_setCell _ _ _ _ hne1).trans (Below.heap_setCell _ _ _ _ hne1)))
              have HR11 := Aside0.mk (md_ranges_kept HR10.out (show ((wB.setCell ⟨wI.heap.size, i, none⟩ (.int .u8 u1.toNat)).setCell ⟨wI.heap.size, i + 1, none⟩ (.int .u8 u0.toNat)).drew.heap[b]? = wB.heap[b]? from (Below.heap_setCell _ _ _ _ hne2).trans (Below.heap_setCell _ _ _ _ hne2)) (show ((wB.setCell ⟨wI.heap.size, i, none⟩ (.int .u8 u1.toNat)).setCell ⟨wI.heap.size, i + 1, none⟩ (.int .u8 u0.toNat)).drew.heap[wO.heap.size + 1]? = wB.heap[wO.heap.size + 1]? from (Below.heap_setCell _ _ _ _ hne3).trans (Below.heap_setCell _ _ _ _ hne3)))
              have HB11 := Aside0.mk (show Below w.heap.size w ((wB.setCell ⟨wI.heap.size, i, none⟩ (.int .u8 u1.toNat)).setCell ⟨wI.heap.size, i + 1, none⟩ (.int .u8 u0.toNat)).drew from below_drew1 (below_set (below_set HB10.out HSW.out) HSW.out))
              clear HW0 HR10 HO10 HB10 hu0 hu1 hne1 hne2 hne3
              go_region
              go_big_unhide
              clear hy0 hy1 hf0 hf1 hp0 hp1 hp2 hp3
              generalize ((wB.setCell ⟨wI.heap.size, i, none⟩ (.int .u8 u1.toNat)).setCell ⟨wI.heap.size, i + 1, none⟩ (.int .u8 u0.toNat)).drew = wC at HW2 HR11 HO11 HB11 ⊢
              have hcv := HW2.out.text (c := grownCap wI x.size 0 5) (by omega)
              obtain ⟨s2, hs2⟩ : ∃ s_ : ByteArray, s_ = ⟨(mdSw x.data.toList i).toArray⟩ := ⟨_, rfl⟩
              rw [← hs2] at hcv
              simp only [hxn] at hcv
              have HS2 := Aside0.mk (show s2.data.toList = mdSw x.data.toList i by rw [hs2])
              have HZ2 := Aside0.mk (show s2.size ≤ maxLen by
                have h_ : s2.size = s2.data.toList.length := (Array.length_toList).symm
                rw [h_, HS2.out, mdSw_length, HLen.out]
                unfold maxLen
                omega)
              have HBND := Aside0.mk (show m3 < maxLen by
                have h_ : 4 ^ j ≤ 4 ^ 20 := Nat.pow_le_pow_right (by omega) (by omega)
                unfold maxLen
                omega)
              clear hs2 HW2
              go_wp2_with (first
                | (at_lookup; refine wpList_lookup_own_int _ rfl _ _ 57 rfl 9 3 .i64 md_law Try.underlying57 Try.underlying3 (md_zero _) wO.heap.size m3 N3 rfl HO11.out _ _ rfl (Go.WideMaps.keyOf_string_mk Try.underlying9 HZ2.out) ?_; intro c2 hat2 hwc2; have HA2 := Aside0.mk hat2; clear hat2 hwc2)
                | (at_mapUpdate; refine wpList_mapUpdate_own _ rfl _ _ _ 57 rfl 9 3 md_law Try.underlying57 _ wO.heap.size m3 N3 rfl HO11.out HBND.out _ _ _ rfl rfl (Go.WideMaps.keyOf_string_mk Try.underlying9 HZ2.out) _ [] (plainElem_int Try.underlying3 (wrap64_wf _)) ?_; intro wD hown4 hgr4; have HO12 := Aside0.mk hown4; have HG12 := Aside0.mk hgr4; clear hown4 hgr4))
              have HRN12 := Aside0.mk (HRN9.out.mid_put HLen.out (wrap64 (c2 + c)) (by
                have h_ := HRN9.out.2.1 (mdSw x.data.toList i)
                rw [← HS2.out, HA2.out] at h_
                rw [← HS2.out]
                rw [(Lit.int.inj (DataW.lit.inj h_)).2]))
              rw [← HS2.out] at HRN12
              have HR12 := Aside0.mk (HR11.out.kept HG12.out (by intro h_; have h2_ := Option.some.inj h_; have h3_ := HR11.out.owns.lt; exact hnb h2_) (by intro h_; have h2_ := Option.some.inj h_; omega))
              have HB12 := Aside0.mk (HB11.out.grown HG12.out HB11.out.size (fun j_ hj_ => by cases hj_; exact HSB.out))
              clear HR11 HO11 HB11 HRN9 HG12 HA2
              go_roundg ((n - 1) - (i + 1))
              case measure => omega
              case rel => exact ⟨i + 1, m3 + 1, _, by go_num, by omega, by omega, by omega, HR12, HO12, HRN12, HB12⟩
            · have hin : i = n - 1 := by omega
              subst hin
              have HAFT := Aside0.mk (md_after HLen.out HLk.out HHas.out HCnt.out HRN9.out)
              go_wp2
              go_roundg cnt1
              case measure => omega
              case rel => exact ⟨_, cnt1, m3, N3, Nat.le_refl _, by omega, HR9, HO9, HAFT, HB9⟩
    · have hje : j = K := by omega
      subst hje
      go_wp2
      go_ret
      exact ⟨b, m, D, rfl, HBb.out, HO.out, HRd.out, HB.out⟩

end Go.Proofs.Ytghogdffocnjnaa.Q
