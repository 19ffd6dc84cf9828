/- SortsFirst: the program's function and the reference's answer the same, for ladders that fit into memory: a sorted list of noughts and ones has the noughts first. -/
import Derived.Test.YtdfikjchpfmbfaaLibRun
import Derived.Test.YtdfikjchpfmbfaaLibAll
import Derived.Test.YtdfikjchpfmbfaaLibEqual
import Derived.Test.YtdfikjchpfmbfaaQx1
import Derived.Test.YtdfikjchpfmbfaaQx3
import Derived.Test.YtdfikjchpfmbfaaQx8
import Derived.Test.YtdfikjchpfmbfaaQx16
import Derived.Test.YtdfikjchpfmbfaaQx18
namespace Go.Proofs.Ytdfikjchpfmbfaa.L
open Go.RowKit Go.Proofs.Ytdfikjchpfmbfaa.Q Go.Proofs.YtdfikjchpfmbfaaW.PrintWords Go.Proofs.YtdfikjchpfmbfaaW.PrintLast
set_option linter.unusedVariables false
set_option linter.unusedSimpArgs false
theorem sfBits_fin : ∀ n ∈ List.range 9, ∀ x ∈ List.range (2 ^ n), spec_soBits.f 12 (n : Int) (x : Int) = some (bitsV n x) := by decide +kernel
theorem sfBits (n x : Nat) (hn : n ≤ 8) (hx : x < 2 ^ n) (k : Nat) (hk : 12 ≤ k) : spec_soBits.f k (n : Int) (x : Int) = some (bitsV n x) :=
  at_rounds (fun k => spec_soBits.mono _ _ k) hk (sfBits_fin n (List.mem_range.2 (by omega)) x (List.mem_range.2 hx))
theorem sfShl_fin : ∀ n ∈ List.range 9, shl .i64 1 (n : Int) = ((2 ^ n : Nat) : Int) := by decide +kernel
/-- Noughts and ones alone. -/
def Z1 (v : List Int) : Prop := ∀ x ∈ v, x = 0 ∨ x = 1
theorem z1_rd {v : List Int} (h : Z1 v) (r : Int) : rd v r = 0 ∨ rd v r = 1 := by
  unfold rd
  rw [List.getD_eq_getElem?_getD]
  by_cases c : r.toNat < v.length
  · rw [List.getElem?_eq_getElem c]; exact h _ (List.getElem_mem c)
  · rw [List.getElem?_eq_none (by omega)]; left; rfl
theorem z1_set {v : List Int} (h : Z1 v) (i : Nat) {y : Int} (hy : y = 0 ∨ y = 1) : Z1 (v.set i y) := fun x hx => by
  rcases List.mem_or_eq_of_mem_set hx with h1 | h1
  · exact h x h1
  · rw [h1]; exact hy
theorem z1_cmpx {v : List Int} (h : Z1 v) (r : Int) : Z1 (cmpx v r) := by
  unfold cmpx
  split
  · exact z1_set (z1_set h _ (z1_rd h _)) _ (z1_rd h _)
  · exact h
theorem z1_run : ∀ (rs : List Int) {v : List Int}, Z1 v → Z1 (runV rs v)
  | [], _, h => h
  | r :: rs, _, h => z1_run rs (z1_cmpx h r)
theorem z1_bits (n x : Nat) : Z1 (bitsV n x) := fun y hy => by
  unfold bitsV at hy
  obtain ⟨i, _, rfl⟩ := List.mem_map.1 hy
  have := Nat.mod_two_eq_zero_or_one (x / 2 ^ (n - 1 - i))
  omega
theorem z1_sum : ∀ {v : List Int}, Z1 v → 0 ≤ v.sum ∧ v.sum ≤ (v.length : Int)
  | [], _ => by simp
  | x :: v, h => by
    have h1 := h x List.mem_cons_self
    have h2 := z1_sum (v := v) (fun y hy => h y (List.mem_cons_of_mem _ hy))
    simp only [List.sum_cons, List.length_cons]
    omega
theorem perm_sum {a b : List Int} (h : a.Perm b) : a.sum = b.sum := by
  induction h with
  | nil => rfl
  | cons x _ ih => simp [ih]
  | swap x y l => simp; omega
  | trans _ _ h1 h2 => exact h1.trans h2
theorem z1_sorted : ∀ {v : List Int}, Z1 v → v.Pairwise (fun a b => decide (a ≤ b) = true) → ∀ i : Nat, i < v.length → v.getD i 0 = if (v.length : Int) - v.sum ≤ (i : Int) then 1 else 0
  | [], _, _, i, hi => by simp at hi
  | x :: v, h, hs, i, hi => by
    have h1 := h x List.mem_cons_self
    have hz : Z1 v := fun y hy => h y (List.mem_cons_of_mem _ hy)
    have h2 := z1_sum hz
    obtain ⟨h3, h4⟩ := List.pairwise_cons.1 hs
    have ih := z1_sorted hz h4
    have hlen : ((x :: v).length : Int) - (x :: v).sum = (v.length : Int) + 1 - (x + v.sum) := by simp only [List.length_cons, List.sum_cons]; omega
    rw [hlen]
    cases i with
    | zero =>
      show x = _
      rcases h1 with rfl | rfl
      · rw [if_neg (by omega)]
      · by_cases c : (v.length : Int) = v.sum
        · rw [if_pos (by omega)]
        · exfalso
          have : ∀ {u : List Int}, (∀ y ∈ u, decide ((1 : Int) ≤ y) = true) → Z1 u → u.sum = (u.length : Int) := by
            intro u
            induction u with
            | nil => intro _ _; rfl
            | cons y u ih =>
              intro ha hb
              have a1 := ha y List.mem_cons_self
              have b1 := hb y List.mem_cons_self
              have := ih (fun z hz => ha z (List.mem_cons_of_mem _ hz)) (fun z hz => hb z (List.mem_cons_of_mem _ hz))
              simp only [decide_eq_true_eq] at a1
              simp only [List.sum_cons, List.length_cons]
              omega
          exact c (this h3 hz).symm
    | succ i =>
      have hi' : i < v.length := by simpa using hi
      rw [List.getD_cons_succ, ih i hi']
      rcases h1 with rfl | rfl
      · by_cases c : (v.length : Int) - v.sum ≤ (i : Int)
        · rw [if_pos c, if_pos (by omega)]
        · rw [if_neg c, if_neg (by omega)]
      · have : ∀ {u : List Int}, (∀ y ∈ u, decide ((1 : Int) ≤ y) = true) → Z1 u → u.sum = (u.length : Int) := by
          intro u
          induction u with
          | nil => intro _ _; rfl
          | cons y u ih =>
            intro ha hb
            have a1 := ha y List.mem_cons_self
            have b1 := hb y List.mem_cons_self
            have := ih (fun z hz => ha z (List.mem_cons_of_mem _ hz)) (fun z hz => hb z (List.mem_cons_of_mem _ hz))
            simp only [decide_eq_true_eq] at a1
            simp only [List.sum_cons, List.length_cons]
            omega
        have := this h3 hz
        rw [if_pos (by omega), if_pos (by omega)]
/-- The sorted noughts and ones. -/
theorem srt_get {v : List Int} (h : Z1 v) (i : Nat) (hi : i < v.length) : (srtL v).getD i 0 = if (v.length : Int) - v.sum ≤ (i : Int) then 1 else 0 := by
  have hp := List.mergeSort_perm v (fun x y => decide (x ≤ y))
  have hs := List.pairwise_mergeSort (le := fun (x y : Int) => decide (x ≤ y)) (fun a b c h1 h2 => by simp only [decide_eq_true_eq] at *; omega) (fun a b => by simp only [Bool.or_eq_true, decide_eq_true_eq]; omega) v
  have := z1_sorted (v := srtL v) (fun x hx => h x (hp.mem_iff.1 hx)) hs i (by rw [srtL_length]; exact hi)
  rw [srtL_length, show (srtL v).sum = v.sum from perm_sum hp] at this
  exact this
theorem sf_if {α : Type} {p q : Prop} [Decidable p] [Decidable q] (h : p ↔ q) (a b : α) : (if p then a else b) = if q then a else b := by
  by_cases c : p
  · rw [if_pos c, if_pos (h.1 c)]
  · rw [if_neg c, if_neg (fun e => c (h.2 e))]
/-- Do the first kk stand as in the sorted list? -/
def okV (l : List Int) (kk : Nat) (v : List Int) : Bool := decide (∀ j, j < kk → (runV l v).getD j 0 = (srtL v).getD j 0)
theorem sf_l2 (n : Nat) (hn : n ≤ 8) (kk : Nat) (hk : kk ≤ n) (l : List Int) (x : Int) (out : List Int) (ho : out.length = n) (hz : Z1 out) (s : Int) (hs : 0 ≤ s ∧ s ≤ (n : Int)) : ∀ (d i k : Nat), i + d = kk → spec_SortsFirst.l2 (k + d + 1) (kk : Int) x s out (i : Int) (n : Int) l = if (∀ j, j < kk → i ≤ j → out.getD j 0 = if (n : Int) - s ≤ (j : Int) then 1 else 0) then spec_SortsFirst.l0 k (kk : Int) (wrap64 (x + 1)) (n : Int) l else some (false, true)
  | 0, i, k, h => by
    simp only [spec_SortsFirst.l2, Nat.add_zero]
    rw [if_neg (by omega), if_pos (fun j h1 h2 => by omega)]
  | d + 1, i, k, h => by
    have hg : out.getD i 0 = 0 ∨ out.getD i 0 = 1 := z1_rd hz (i : Int)
    have ih := sf_l2 n hn kk hk l x out ho hz s hs d (i + 1) k (by omega)
    rw [show k + (d + 1) + 1 = (k + d + 1) + 1 by omega]
    generalize k + d + 1 = q at ih ⊢
    simp only [spec_SortsFirst.l2]
    rw [if_pos (by omega), if_pos (by omega), if_pos (by omega), rd_getE, wrap_id (n := (n : Int) - s) (by omega) (by omega), wrap_id (n := (i : Int) + 1) (by omega) (by omega)]
    have hc : (∀ j, j < kk → i ≤ j → out.getD j 0 = if (n : Int) - s ≤ (j : Int) then 1 else 0) ↔ (out.getD i 0 = (if (n : Int) - s ≤ (i : Int) then 1 else 0)) ∧ (∀ j, j < kk → i + 1 ≤ j → out.getD j 0 = if (n : Int) - s ≤ (j : Int) then 1 else 0) := by
      constructor
      · exact fun H => ⟨H i (by omega) (by omega), fun j h1 h2 => H j h1 (by omega)⟩
      · rintro ⟨H1, H2⟩ j h1 h2
        by_cases c : j = i
        · subst c; exact H1
        · exact H2 j h1 (by omega)
    rw [sf_if hc]
    rw [show ((i : Int) + 1) = ((i + 1 : Nat) : Int) by omega, ih]
    by_cases c : (n : Int) - s ≤ (i : Int)
    · rw [if_pos c]
      have e : decide ((i : Int) ≥ (n : Int) - s) = true := decide_eq_true c
      rw [e]
      rcases hg with g | g
      · rw [g, if_pos (by decide), if_neg (fun H => absurd H.1 (by decide))]
      · rw [g, if_neg (by decide)]
        simp
    · rw [if_neg c]
      have e : decide ((i : Int) ≥ (n : Int) - s) = false := decide_eq_false c
      rw [e]
      rcases hg with g | g
      · rw [g, if_neg (by decide)]
        simp
      · rw [g, if_pos (by decide), if_neg (fun H => absurd H.1 (by decide))]
theorem sf_l1 (n : Nat) (hn : n ≤ 8) (kk : Int) (l : List Int) (x : Int) (v : List Int) (hv : v.length = n) (hz : Z1 v) : ∀ (d i k : Nat) (s : Int), i + d = n → 0 ≤ s → s ≤ (i : Int) → spec_SortsFirst.l1 (k + d + 1) kk x v s v (n : Int) (i : Int) (n : Int) l = (spec_soRun.f k l v).bind fun b => spec_SortsFirst.l2 k kk x (s + (v.drop i).sum) b.1 0 (n : Int) l
  | 0, i, k, s, h, h0, h1 => by
    simp only [spec_SortsFirst.l1, Nat.add_zero]
    rw [if_neg (by omega), show i = v.length by omega, List.drop_length]
    simp
  | d + 1, i, k, s, h, h0, h1 => by
    have hg := hz _ (List.getElem_mem (by omega : i < v.length))
    have ih := sf_l1 n hn kk l x v hv hz d (i + 1) k (s + v[i]) (by omega) (by omega) (by omega)
    rw [show k + (d + 1) + 1 = (k + d + 1) + 1 by omega]
    generalize k + d + 1 = q at ih ⊢
    simp only [spec_SortsFirst.l1]
    rw [if_pos (by omega), if_pos (by omega), if_pos (by omega), rd_nat v i (by omega), wrap_id (n := s + v[i]) (by omega) (by omega), wrap_id (n := (i : Int) + 1) (by omega) (by omega), show ((i : Int) + 1) = ((i + 1 : Nat) : Int) by omega, ih]
    rw [List.drop_eq_getElem_cons (by omega : i < v.length), List.sum_cons, Int.add_assoc]
theorem sf_step (n : Nat) (hn : 2 ≤ n ∧ n ≤ 8) (kk : Nat) (hk : kk ≤ n) (l : List Int) (hb : l.length ≤ 60) (hr : ∀ r ∈ l, 0 ≤ r ∧ r ≤ (n : Int) - 2) (x k : Nat) (hK : 100 ≤ k) (so : Bool) : impl_SortsFirst.step k l kk so (bitsV n x) = some (so && okV l kk (bitsV n x)) := by
  have hl := bitsV_length n x
  have hr' : ∀ r ∈ l, 0 ≤ r ∧ r ≤ ((bitsV n x).length : Int) - 2 := by rw [hl]; exact hr
  have ho : (runV l (bitsV n x)).length = n := by rw [runV_length, hl]
  have hq : (srtL (bitsV n x)).length = n := by rw [srtL_length, hl]
  unfold impl_SortsFirst.step
  rw [if_pos (by omega)]
  cases so with
  | true =>
    rw [if_pos rfl, sorted l (bitsV n x) (by omega) (by omega) hr' k (by omega), Option.bind_some, if_pos (by omega), equalL _ _ (by rw [List.length_take, List.length_take]; omega) (by rw [List.length_take]; omega) k (by omega)]
    congr 1
    rw [Bool.true_and]
    unfold okV
    rw [decide_eq_decide, List.length_take, ho, show min kk n = kk by omega]
    have e : ∀ (v : List Int) (j : Nat), j < kk → (v.take kk).getD j 0 = v.getD j 0 := fun v j hj => by
      rw [List.getD_eq_getElem?_getD, List.getD_eq_getElem?_getD, List.getElem?_take_of_lt hj]
    exact ⟨fun H j hj => by have := H j hj; rwa [e _ j hj, e _ j hj] at this, fun H j hj => by rw [e _ j hj, e _ j hj]; exact H j hj⟩
  | false => rfl
theorem sf_fold_false (n : Nat) (hn : 2 ≤ n ∧ n ≤ 8) (kk : Nat) (hk : kk ≤ n) (l : List Int) (hb : l.length ≤ 60) (hr : ∀ r ∈ l, 0 ≤ r ∧ r ≤ (n : Int) - 2) (k : Nat) (hK : 100 ≤ k) : ∀ d x, bitsFold (impl_SortsFirst.step k l kk) n d x false = some false
  | 0, _ => rfl
  | d + 1, x => by
    rw [bitsFold, sf_step n hn kk hk l hb hr x k hK, Option.bind_some]
    exact sf_fold_false n hn kk hk l hb hr k hK d (x + 1)
theorem sf_l0 (n : Nat) (hn : 2 ≤ n ∧ n ≤ 8) (kk : Nat) (hk : kk ≤ n) (l : List Int) (hb : l.length ≤ 60) (hr : ∀ r ∈ l, 0 ≤ r ∧ r ≤ (n : Int) - 2) : ∀ d x : Nat, x + d = 2 ^ n → ∃ b : Bool, (∀ k, 20 * d + 100 ≤ k → spec_SortsFirst.l0 k (kk : Int) (x : Int) (n : Int) l = some (b, true)) ∧ (∀ k, 100 ≤ k → bitsFold (impl_SortsFirst.step k l kk) n d x true = some b)
  | 0, x, hx => by
    have hsh := sfShl_fin n (List.mem_range.2 (by omega))
    refine ⟨true, fun k hK => ?_, fun k hK => rfl⟩
    obtain ⟨k, rfl⟩ : ∃ m, k = m + 1 := ⟨k - 1, by omega⟩
    simp only [spec_SortsFirst.l0]
    rw [if_pos (by omega), hsh, if_neg (by omega)]
  | d + 1, x, hx => by
    have hsh := sfShl_fin n (List.mem_range.2 (by omega))
    have hp : 2 ^ n ≤ 256 := Nat.pow_le_pow_right (n := 2) (by omega) hn.2
    have hl := bitsV_length n x
    have hz := z1_bits n x
    have hs := z1_sum hz
    have hr' : ∀ r ∈ l, 0 ≤ r ∧ r ≤ ((bitsV n x).length : Int) - 2 := by rw [hl]; exact hr
    have ho : (runV l (bitsV n x)).length = n := by rw [runV_length, hl]
    obtain ⟨b, hS, hI⟩ := sf_l0 n hn kk hk l hb hr d (x + 1) (by omega)
    have hc : (∀ j, j < kk → 0 ≤ j → (runV l (bitsV n x)).getD j 0 = if (n : Int) - (bitsV n x).sum ≤ (j : Int) then 1 else 0) ↔ okV l kk (bitsV n x) = true := by
      unfold okV
      rw [decide_eq_true_eq]
      have e : ∀ j, j < kk → (srtL (bitsV n x)).getD j 0 = if (n : Int) - (bitsV n x).sum ≤ (j : Int) then 1 else 0 := fun j hj => by
        rw [srt_get hz j (by omega), hl]
      exact ⟨fun H j hj => by rw [e j hj]; exact H j hj (by omega), fun H j hj _ => by rw [← e j hj]; exact H j hj⟩
    have spec : ∀ k, 20 * (d + 1) + 100 ≤ k → ∃ k3, 20 * d + 100 ≤ k3 ∧ spec_SortsFirst.l0 k (kk : Int) (x : Int) (n : Int) l = if okV l kk (bitsV n x) = true then spec_SortsFirst.l0 k3 (kk : Int) ((x + 1 : Nat) : Int) (n : Int) l else some (false, true) := by
      intro k hK
      obtain ⟨k3, rfl⟩ : ∃ q, k = ((q + kk + 1) + n + 1) + 1 := ⟨k - (kk + n + 3), by omega⟩
      refine ⟨k3, by omega, ?_⟩
      have h1 := sf_l1 n hn.2 (kk : Int) l (x : Int) (bitsV n x) hl hz n 0 (k3 + kk + 1) 0 (by omega) (by omega) (by omega)
      have hk2 : 12 ≤ k3 + kk + 1 + n + 1 := by omega
      generalize k3 + kk + 1 + n + 1 = k4 at h1 hk2 ⊢
      simp only [spec_SortsFirst.l0]
      rw [if_pos (by omega), hsh, if_pos (by omega), sfBits n x hn.2 (by omega) _ hk2, Option.bind_some, hl]
      have h1' : spec_SortsFirst.l1 k4 (kk : Int) (x : Int) (bitsV n x) 0 (bitsV n x) (n : Int) 0 (n : Int) l = _ := h1
      rw [h1', soRun l (bitsV n x) (by omega) (by omega) hr' _ (by omega), Option.bind_some, List.drop_zero, Int.zero_add]
      have h2 := sf_l2 n hn.2 kk hk l (x : Int) (runV l (bitsV n x)) ho (z1_run l hz) (bitsV n x).sum (by rw [hl] at hs; exact hs) kk 0 k3 (by omega)
      have h2' : spec_SortsFirst.l2 (k3 + kk + 1) (kk : Int) (x : Int) (bitsV n x).sum (runV l (bitsV n x)) 0 (n : Int) l = _ := h2
      rw [h2', sf_if hc, wrap_id (by omega) (by omega)]
      rfl
    cases hq : okV l kk (bitsV n x) with
    | true =>
      refine ⟨b, fun k hK => ?_, fun k hK => ?_⟩
      · obtain ⟨k3, g1, g2⟩ := spec k hK
        rw [g2, if_pos hq, hS k3 g1]
      · rw [bitsFold, sf_step n hn kk hk l hb hr x k hK, hq, Option.bind_some]
        exact hI k hK
    | false =>
      refine ⟨false, fun k hK => ?_, fun k hK => ?_⟩
      · obtain ⟨k3, g1, g2⟩ := spec k hK
        rw [g2, if_neg (by rw [hq]; decide)]
      · rw [bitsFold, sf_step n hn kk hk l hb hr x k hK, hq, Option.bind_some]
        exact sf_fold_false n hn kk hk l hb hr k hK d (x + 1)
theorem core_SortsFirst (a : Int) (l : List Int) (q : Int) (w : (Lit.int .i64 a).wf = true) (hb : l.length ≤ 35184372088832) (hw : ∀ x ∈ l, (Lit.int .i64 x).wf = true) (wq : (Lit.int .i64 q).wf = true) :
    ∃ K s ok, (∀ k, K ≤ k → spec_SortsFirst.f k a l q = some (s, ok)) ∧ (∀ k, K ≤ k → impl_SortsFirst.f k a l q = some (s, ok)) := by
  have bad : ∀ k, spec_SortsFirst.j0 (k + 1) q true a l = some (false, false) := fun k => by simp only [spec_SortsFirst.j0, if_true]
  by_cases h : isLadder a l = true
  · obtain ⟨h1, h2, h3, h4⟩ := isLadder_wires h
    obtain ⟨n, rfl⟩ : ∃ n : Nat, a = n := ⟨a.toNat, by omega⟩
    have hn8 : n ≤ 8 := by omega
    have hp : 2 ^ n ≤ 256 := Nat.pow_le_pow_right (n := 2) (by omega) hn8
    by_cases hq : 0 ≤ q ∧ q ≤ (n : Int)
    · obtain ⟨kk, rfl⟩ : ∃ kk : Nat, q = kk := ⟨q.toNat, by omega⟩
      obtain ⟨b, hS, hI⟩ := sf_l0 n (by omega) kk (by omega) l h3 h4 (2 ^ n) 0 (by omega)
      refine ⟨20 * 256 + 300, b, true, fun k hk => ?_, fun k hk => ?_⟩
      · unfold spec_SortsFirst.f
        rw [laGood (n : Int) l hb k (by omega), Option.bind_some, if_pos h, l1In, Option.bind_some, decide_eq_true hq]
        obtain ⟨k, rfl⟩ : ∃ m, k = m + 1 := ⟨k - 1, by omega⟩
        simp only [spec_SortsFirst.j0, Bool.not_true, Bool.false_eq_true, if_false]
        exact hS k (by omega)
      · unfold impl_SortsFirst.f
        rw [isLadder_eq, Option.bind_some, if_pos h, if_pos hq, Int.toNat_natCast, Int.toNat_natCast, hI k (by omega)]
        rfl
    · refine ⟨l.length + 10, false, false, fun k hk => ?_, fun k hk => ?_⟩
      · unfold spec_SortsFirst.f
        rw [laGood (n : Int) l hb k (by omega), Option.bind_some, if_pos h, l1In, Option.bind_some, decide_eq_false hq]
        obtain ⟨k, rfl⟩ : ∃ m, k = m + 1 := ⟨k - 1, by omega⟩
        exact bad k
      · unfold impl_SortsFirst.f
        rw [isLadder_eq, Option.bind_some, if_pos h, if_neg hq]
  · refine ⟨l.length + 10, false, false, fun k hk => ?_, fun k hk => ?_⟩
    · unfold spec_SortsFirst.f
      rw [laGood a l hb k (by omega), Option.bind_some, if_neg h]
      obtain ⟨k, rfl⟩ : ∃ m, k = m + 1 := ⟨k - 1, by omega⟩
      exact bad k
    · unfold impl_SortsFirst.f
      rw [isLadder_eq, Option.bind_some, if_neg h]
end Go.Proofs.Ytdfikjchpfmbfaa.L
