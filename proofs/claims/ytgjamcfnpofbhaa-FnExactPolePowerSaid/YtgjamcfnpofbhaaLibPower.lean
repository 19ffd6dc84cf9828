/- How often an order has to be done, as the program tells it, and the reference's loop over cycles with their winds; for orders of at most eight numbers. -/
import Derived.Test.YtgjamcfnpofbhaaLibCycles
import Derived.Test.YtgjamcfnpofbhaaQx17
import Derived.Test.YtgjamcfnpofbhaaQx18
import Derived.Test.YtgjamcfnpofbhaaQx19
namespace Go.Proofs.Ytgjamcfnpofbhaa.L
open Go.RowKit Go.Proofs.Ytgjamcfnpofbhaa.Q Go.Proofs.YtgjamcfnpofbhaaW.PrintWords Go.Proofs.YtgjamcfnpofbhaaW.PrintLast
set_option linter.unusedVariables false
set_option linter.unusedSimpArgs false
theorem ident_l0 (n : Nat) (hn : n ≤ 8) : ∀ (d i k : Nat) (a : List Int), i + d = n → a.length ≤ i → d < k → impl_identity.l0 k a (n : Int) (i : Int) = some (a ++ upto (fun j => (j : Int)) d i)
  | 0, i, k, a, h, ha, hk => by
    obtain ⟨k, rfl⟩ : ∃ m, k = m + 1 := ⟨k - 1, by omega⟩
    simp only [impl_identity.l0, upto, List.append_nil]
    rw [if_neg (by omega)]
  | d + 1, i, k, a, h, ha, hk => by
    obtain ⟨k, rfl⟩ : ∃ m, k = m + 1 := ⟨k - 1, by omega⟩
    simp only [impl_identity.l0, upto]
    rw [if_pos (by omega), if_pos (by omega), wrap_id (by omega) (by omega), show ((i : Int) + 1) = ((i + 1 : Nat) : Int) by omega, ident_l0 n hn d (i + 1) k (a ++ [(i : Int)]) (by omega) (by simp; omega) (by omega)]
    simp
theorem identN (n : Nat) (hn : n ≤ 8) (k : Nat) (hk : 20 ≤ k) : impl_identity.f k (n : Int) = some (upto (fun j => (j : Int)) n 0) := by
  unfold impl_identity.f
  have := ident_l0 n hn n 0 k [] (by omega) (by simp) (by omega)
  simpa using this
theorem equal_l0 (a b : List Int) (hl : a.length = b.length) (hb : a.length ≤ 8) : ∀ (d i k : Nat), i + d = a.length → d < k → slices_Equal_int_int.l0 k a b (a.length : Int) (i : Int) = some (decide (∀ j, j < a.length → i ≤ j → a.getD j 0 = b.getD j 0))
  | 0, i, k, h, hk => by
    obtain ⟨k, rfl⟩ : ∃ m, k = m + 1 := ⟨k - 1, by omega⟩
    simp only [slices_Equal_int_int.l0]
    rw [if_neg (by omega)]
    congr 1
    symm
    exact decide_eq_true (fun j h1 h2 => by omega)
  | d + 1, i, k, h, hk => by
    obtain ⟨k, rfl⟩ : ∃ m, k = m + 1 := ⟨k - 1, by omega⟩
    simp only [slices_Equal_int_int.l0]
    rw [if_pos (by omega), if_pos (by omega), if_pos (by omega), if_pos (by omega), rd_get, rd_get]
    by_cases e : a.getD i 0 = b.getD i 0
    · rw [if_pos e, wrap_id (by omega) (by omega), show ((i : Int) + 1) = ((i + 1 : Nat) : Int) by omega, equal_l0 a b hl hb d (i + 1) k (by omega) (by omega)]
      congr 1
      rw [decide_eq_decide]
      constructor
      · intro H j h1 h2
        by_cases c : j = i
        · subst c; exact e
        · exact H j h1 (by omega)
      · exact fun H j h1 h2 => H j h1 (by omega)
    · rw [if_neg e]
      congr 1
      symm
      exact decide_eq_false (fun H => e (H i (by omega) (by omega)))
theorem equalL (a b : List Int) (hl : a.length = b.length) (hb : a.length ≤ 8) (k : Nat) (hk : 20 ≤ k) : slices_Equal_int_int.f k a b = some (decide (∀ j, j < a.length → a.getD j 0 = b.getD j 0)) := by
  unfold slices_Equal_int_int.f
  rw [if_pos (by omega)]
  have := equal_l0 a b hl hb a.length 0 k (by omega) (by omega)
  simpa using this
theorem then_l0g (e p : List Int) (he : ∀ j : Nat, j < e.length → 0 ≤ e.getD j 0 ∧ e.getD j 0 < (p.length : Int)) (hn : e.length ≤ 8) : ∀ (d i k : Nat) (a : List Int), i + d = e.length → d < k → a.length ≤ i →
    impl_then.l0 k p a e (e.length : Int) (i : Int) = some (a ++ upto (fun j => p.getD (e.getD j 0).toNat 0) d i)
  | 0, i, k, a, h, hk, ha => by
    obtain ⟨k, rfl⟩ : ∃ m, k = m + 1 := ⟨k - 1, by omega⟩
    simp only [impl_then.l0, upto, List.append_nil]
    rw [if_neg (by omega)]
  | d + 1, i, k, a, h, hk, ha => by
    obtain ⟨k, rfl⟩ : ∃ m, k = m + 1 := ⟨k - 1, by omega⟩
    have h1 := he i (by omega)
    obtain ⟨q, hq⟩ : ∃ q : Nat, e.getD i 0 = q := ⟨(e.getD i 0).toNat, by omega⟩
    have ih := then_l0g e p he hn d (i + 1) k (a ++ [p.getD q 0]) (by omega) (by omega) (by simp; omega)
    simp only [impl_then.l0]
    rw [if_pos (by omega), if_pos (by omega), if_pos (by omega), show rd e (i : Int) = (q : Int) by rw [rd_get, hq], if_pos (by omega), if_pos (by omega), if_pos (by omega)]
    rw [rd_get, wrap_id (n := (i : Int) + 1) (by omega) (by omega), upto, hq, Int.toNat_natCast, show ((i : Int) + 1) = ((i + 1 : Nat) : Int) by omega, ih]
    simp
theorem thenG (e p : List Int) (he : ∀ j : Nat, j < e.length → 0 ≤ e.getD j 0 ∧ e.getD j 0 < (p.length : Int)) (hn : e.length ≤ 8) (k : Nat) (hk : 20 ≤ k) : impl_then.f k e p = some (upto (fun j => p.getD (e.getD j 0).toNat 0) e.length 0) := by
  unfold impl_then.f
  have := then_l0g e p he hn e.length 0 k [] (by omega) (by omega) (by simp)
  simpa using this
/-- The order done m times. -/
def pw (p : List Int) (m : Nat) : List Int := upto (fun j => ((itr p m j : Nat) : Int)) p.length 0
theorem pw_length (p : List Int) (m : Nat) : (pw p m).length = p.length := upto_length _ _ _
theorem pw_get (p : List Int) (m j : Nat) (h : j < p.length) : (pw p m).getD j 0 = ((itr p m j : Nat) : Int) := by
  unfold pw
  rw [upto_get _ _ _ _ h, Nat.zero_add]
theorem get_stp {p : List Int} (hb : ∀ x ∈ p, 0 ≤ x ∧ x ≤ (p.length : Int) - 1) (i : Nat) (h : i < p.length) : p.getD i 0 = ((stp p i : Nat) : Int) := by
  have := getD_of_mem p hb i h
  unfold stp; omega
theorem pw_one {p : List Int} (hb : ∀ x ∈ p, 0 ≤ x ∧ x ≤ (p.length : Int) - 1) : p = pw p 1 := by
  refine (eq_upto p).trans ?_
  unfold pw
  refine upto_congr _ _ fun j _ hj => ?_
  rw [get_stp hb j (by omega)]; rfl
theorem pw_range {p : List Int} (hp : PermL p) (m j : Nat) (h : j < p.length) : 0 ≤ (pw p m).getD j 0 ∧ (pw p m).getD j 0 < (p.length : Int) := by
  have := itr_lt hp m j h
  rw [pw_get _ _ _ h]; omega
theorem pw_next {p : List Int} (hp : PermL p) (hb : ∀ x ∈ p, 0 ≤ x ∧ x ≤ (p.length : Int) - 1) (m : Nat) : upto (fun j => p.getD ((pw p m).getD j 0).toNat 0) (pw p m).length 0 = pw p (m + 1) := by
  rw [pw_length]
  refine upto_congr _ _ fun j _ hj => ?_
  have := itr_lt hp m j (by omega)
  rw [pw_get _ _ _ (by omega), Int.toNat_natCast, get_stp hb _ this, itr_succ]
/-- Is everything at home behind m times? -/
theorem home_iff {p : List Int} (h8 : p.length ≤ 8) (m k : Nat) (hk : 20 ≤ k) : slices_Equal_int_int.f k (pw p m) (upto (fun j => (j : Int)) p.length 0) = some (decide (∀ j, j < p.length → itr p m j = j)) := by
  rw [equalL _ _ (by rw [pw_length, upto_length]) (by rw [pw_length]; exact h8) k hk]
  congr 1
  rw [decide_eq_decide, pw_length]
  constructor
  · intro H j hj
    have := H j hj
    rw [pw_get _ _ _ hj, upto_get _ _ _ _ hj] at this
    omega
  · intro H j hj
    rw [pw_get _ _ _ hj, upto_get _ _ _ _ hj, H j hj]
    omega
theorem times_l0 {p : List Int} (hp : PermL p) (hb : ∀ x ∈ p, 0 ≤ x ∧ x ≤ (p.length : Int) - 1) (h8 : p.length ≤ 8) (L : Nat) (hL : L ≤ 1000000000) (hF : ∀ m, (∀ j, j < p.length → itr p m j = j) ↔ L ∣ m) : ∀ (d m k : Nat), m + d = L → 0 < m → d + 30 < k → impl_OrderTimes.l0 k p (m : Int) (pw p m) = some ((L : Int), true)
  | 0, m, k, h, h0, hk => by
    obtain ⟨k, rfl⟩ : ∃ q, k = q + 1 := ⟨k - 1, by omega⟩
    simp only [impl_OrderTimes.l0]
    rw [identN _ h8 k (by omega), Option.bind_some, home_iff h8 m k (by omega), Option.bind_some, decide_eq_true ((hF m).2 (by rw [← h]; exact Nat.dvd_refl _)), if_pos rfl, show m = L by omega]
  | d + 1, m, k, h, h0, hk => by
    obtain ⟨k, rfl⟩ : ∃ q, k = q + 1 := ⟨k - 1, by omega⟩
    simp only [impl_OrderTimes.l0]
    rw [identN _ h8 k (by omega), Option.bind_some, home_iff h8 m k (by omega), Option.bind_some, decide_eq_false (fun e => by have := Nat.le_of_dvd h0 ((hF m).1 e); omega), if_neg (by decide)]
    rw [thenG _ _ (fun j hj => pw_range hp m j (by rwa [pw_length] at hj)) (by rw [pw_length]; exact h8) k (by omega), Option.bind_some, pw_next hp hb, wrap_id (by omega) (by omega), show ((m : Int) + 1) = ((m + 1 : Nat) : Int) by omega]
    exact times_l0 hp hb h8 L hL hF d (m + 1) k (by omega) (by omega) (by omega)
theorem orderTimes {p : List Int} (ho : isOrd p = true) (L : Nat) (h0 : 0 < L) (hL : L ≤ 1000000000) (hF : ∀ m, (∀ j, j < p.length → itr p m j = j) ↔ L ∣ m) (k : Nat) (hk : L + 40 ≤ k) : impl_OrderTimes.f k p = some ((L : Int), true) := by
  obtain ⟨h1, h8, hb⟩ := isOrd_facts ho
  unfold impl_OrderTimes.f
  rw [isOrder p k (by omega), Option.bind_some, if_pos ho]
  have := times_l0 (isOrd_perm ho) hb h8 L hL hF (L - 1) 1 k (by omega) (by omega) (by omega)
  rw [← pw_one hb] at this
  exact this
/-! the reference's loop -/
/-- A cycle's winds. -/
def cw (w : List Int) (c : List Int) : Int := (c.map fun i => w.getD i.toNat 0).sum
theorem power_l1 (p w : List Int) (M : List (List Int)) (n q : Int) (c : List Int) (hc : c.length ≤ 8) (hr : ∀ x ∈ c, 0 ≤ x ∧ x < (w.length : Int)) (hw : ∀ j, -20 ≤ w.getD j 0 ∧ w.getD j 0 ≤ 20) (t : Int) (x6 : List Int) : ∀ (d i k : Nat) (s : Int), i + d = c.length → (-20 * (i : Int) ≤ s ∧ s ≤ 20 * (i : Int)) → d < k →
    ∃ k', k ≤ k' + d + 1 ∧ spec_PolePower.l1 k t x6 s M n q c (c.length : Int) (i : Int) p w = (if s + cw w (c.drop i) = 0 then ((spec_laCommon.f k' t (x6.length : Int)).bind fun g => (if g = 0 then (none) else (spec_PolePower.l0 k' (wrap64 ((wrap64 (Int.tdiv t g)) * (x6.length : Int))) M n (wrap64 (q + 1)) p w))) else some (0, false))
  | 0, i, k, s, h, hs, hk => by
    obtain ⟨k, rfl⟩ : ∃ m, k = m + 1 := ⟨k - 1, by omega⟩
    refine ⟨k, by omega, ?_⟩
    simp only [spec_PolePower.l1]
    rw [if_neg (by omega), show i = c.length by omega, List.drop_length]
    simp [cw]
  | d + 1, i, k, s, h, hs, hk => by
    obtain ⟨k, rfl⟩ : ∃ m, k = m + 1 := ⟨k - 1, by omega⟩
    have hx := hr _ (List.getElem_mem (by omega : i < c.length))
    obtain ⟨x, hxe⟩ : ∃ x : Nat, c[i] = x := ⟨c[i].toNat, by omega⟩
    have hwx := hw x
    obtain ⟨k', h1, h2⟩ := power_l1 p w M n q c hc hr hw t x6 d (i + 1) k (s + w.getD x 0) (by omega) (by omega) (by omega)
    refine ⟨k', by omega, ?_⟩
    simp only [spec_PolePower.l1]
    rw [if_pos (by omega), if_pos (by omega), if_pos (by omega), rd_nat c i (by omega), hxe, if_pos (by omega), if_pos (by omega), rd_get, wrap_id (n := s + w.getD x 0) (by omega) (by omega), wrap_id (n := (i : Int) + 1) (by omega) (by omega), show ((i : Int) + 1) = ((i + 1 : Nat) : Int) by omega, h2]
    have hcw : cw w (c.drop i) = w.getD x 0 + cw w (c.drop (i + 1)) := by
      rw [List.drop_eq_getElem_cons (by omega : i < c.length), hxe]
      simp [cw]
    rw [hcw, Int.add_assoc]
theorem lcm_le8 (t L : Nat) (hL : L ≤ 8) (h0 : 0 < L) : Nat.lcm t L ≤ t * 8 := by
  unfold Nat.lcm
  exact Nat.le_trans (Nat.div_le_self _ _) (Nat.mul_le_mul_left t hL)
theorem rdL_nat (M : List (List Int)) (q : Nat) (h : q < M.length) : rd_L1 M (q : Int) = M[q] := by
  unfold rd_L1
  rw [Int.toNat_natCast, List.getD_eq_getElem?_getD, List.getElem?_eq_getElem h]; rfl
theorem power_l0 (p w : List Int) (M : List (List Int)) (hM : M.length ≤ 8) (hc : ∀ c ∈ M, 0 < c.length ∧ c.length ≤ 8 ∧ ∀ x ∈ c, 0 ≤ x ∧ x < (w.length : Int)) (hw : ∀ j, -20 ≤ w.getD j 0 ∧ w.getD j 0 ≤ 20) : ∀ (d q k : Nat) (t : Nat), q + d = M.length → 0 < t → t ≤ 8 ^ q → d * 40 < k →
    spec_PolePower.l0 k (t : Int) M (M.length : Int) (q : Int) p w = some (if (∀ c ∈ M.drop q, cw w c = 0) then (((lcms (M.drop q) t : Nat) : Int), true) else (0, false))
  | 0, q, k, t, h, h0, ht, hk => by
    obtain ⟨k, rfl⟩ : ∃ m, k = m + 1 := ⟨k - 1, by omega⟩
    simp only [spec_PolePower.l0]
    rw [if_neg (by omega), show q = M.length by omega, List.drop_length, if_pos (by simp)]
    rfl
  | d + 1, q, k, t, h, h0, ht, hk => by
    obtain ⟨k, rfl⟩ : ∃ m, k = m + 1 := ⟨k - 1, by omega⟩
    obtain ⟨c1, c2, c3⟩ := hc _ (List.getElem_mem (by omega : q < M.length))
    have hp8 : (8 : Nat) ^ q ≤ 8 ^ 8 := Nat.pow_le_pow_right (by omega) (by omega)
    have e8 : (8 : Nat) ^ 8 = 16777216 := by decide
    simp only [spec_PolePower.l0]
    rw [if_pos (by omega), if_pos (by omega), if_pos (by omega), rdL_nat M q (by omega)]
    obtain ⟨k', g1, g2⟩ := power_l1 p w M (M.length : Int) (q : Int) M[q] c2 c3 hw (t : Int) M[q] M[q].length 0 k 0 (by omega) (by omega) (by omega)
    have g2' : spec_PolePower.l1 k (t : Int) M[q] 0 M (M.length : Int) (q : Int) M[q] (M[q].length : Int) 0 p w = _ := g2
    rw [g2', List.drop_zero, Int.zero_add, List.drop_eq_getElem_cons (by omega : q < M.length)]
    by_cases hz : cw w M[q] = 0
    · rw [if_pos hz]
      unfold spec_laCommon.f
      have hg : 0 < Nat.gcd t M[q].length := Nat.gcd_pos_of_pos_left _ h0
      have hdv := Nat.gcd_dvd_left t M[q].length
      have hl8 := lcm_le8 t M[q].length c2 c1
      have hle := Nat.div_le_self t (Nat.gcd t M[q].length)
      have hlcm : t / Nat.gcd t M[q].length * M[q].length = Nat.lcm t M[q].length := by
        rw [Nat.div_mul_right_comm hdv]; rfl
      rw [common_l0 _ _ k' (by omega), Option.bind_some, if_neg (by omega), Int.tdiv_eq_ediv_of_nonneg (by omega), ← Int.natCast_ediv]
      generalize t / Nat.gcd t M[q].length = dv at hlcm hle ⊢
      rw [wrap_id (n := (dv : Int)) (by omega) (by omega), ← Int.natCast_mul, hlcm, wrap_id (by omega) (by omega), wrap_id (by omega) (by omega), show ((q : Int) + 1) = ((q + 1 : Nat) : Int) by omega]
      rw [power_l0 p w M hM hc hw d (q + 1) k' (Nat.lcm t M[q].length) (by omega) (Nat.lcm_pos h0 c1) (by rw [Nat.pow_succ]; omega) (by omega)]
      congr 1
      by_cases hr : ∀ c ∈ M.drop (q + 1), cw w c = 0
      · rw [if_pos hr, if_pos (by
          intro c hcc
          rcases List.mem_cons.1 hcc with e | e
          · rw [e]; exact hz
          · exact hr c e)]
        rfl
      · rw [if_neg hr, if_neg (fun H => hr fun c hcc => H c (List.mem_cons_of_mem _ hcc))]
    · rw [if_neg hz, if_neg (fun H => hz (H _ (List.mem_cons_self)))]
theorem lcms_bound : ∀ (C : List (List Int)) (t : Nat), (∀ c ∈ C, 0 < c.length ∧ c.length ≤ 8) → lcms C t ≤ t * 8 ^ C.length
  | [], t, _ => by simp [lcms]
  | c :: C, t, h => by
    obtain ⟨a, b⟩ := h c (List.mem_cons_self)
    rw [lcms, List.length_cons, Nat.pow_succ]
    refine Nat.le_trans (lcms_bound C _ (fun x hx => h x (List.mem_cons_of_mem _ hx))) ?_
    have := lcm_le8 t c.length b a
    rw [Nat.mul_comm (8 ^ C.length) 8, ← Nat.mul_assoc]
    exact Nat.mul_le_mul_right _ this
end Go.Proofs.Ytgjamcfnpofbhaa.L
