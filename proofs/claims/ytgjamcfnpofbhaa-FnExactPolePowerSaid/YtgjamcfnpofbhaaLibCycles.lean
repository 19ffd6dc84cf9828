/- The reference's list of an order's cycles, and its greatest common divisor; for orders of at most eight numbers. -/
import Derived.Test.YtgjamcfnpofbhaaLibCyc
import Derived.Test.YtgjamcfnpofbhaaLibOrder
import Derived.Test.YtgjamcfnpofbhaaQx16
namespace Go.Proofs.Ytgjamcfnpofbhaa.L
open Go.RowKit Go.Proofs.Ytgjamcfnpofbhaa.Q Go.Proofs.YtgjamcfnpofbhaaW.PrintWords Go.Proofs.YtgjamcfnpofbhaaW.PrintLast
set_option linter.unusedVariables false
set_option linter.unusedSimpArgs false
theorem rdOf_get (l : List Bool) (i : Nat) : rdOf false l (i : Int) = l.getD i false := by simp [rdOf]
theorem stp_int {p : List Int} (hp : ∀ x ∈ p, 0 ≤ x ∧ x ≤ (p.length : Int) - 1) (i : Nat) (hi : i < p.length) : rd p (i : Int) = ((stp p i : Nat) : Int) := by
  have := getD_of_mem p hp i hi
  rw [rd_get]; unfold stp; omega
set_option maxHeartbeats 1000000 in
theorem cycles_l1 (p : List Int) (hp : PermL p) (h8 : p.length ≤ 8) (hb : ∀ x ∈ p, 0 ≤ x ∧ x ≤ (p.length : Int) - 1) (seen0 : List Bool) (out : List (List Int)) (i : Nat) (hi : i < p.length) (hI : CInv p seen0 out i) :
    ∀ (u t k : Nat) (seen : List Bool), CInn p seen0 seen i t → p.length ≤ t + u → u + 1 < k →
      ∃ k' seen' out', k ≤ k' + u + 1 ∧ CInv p seen' out' (i + 1) ∧ spec_laCycles.l1 k p out seen (cyc p t i) ((itr p t i : Nat) : Int) (p.length : Int) (i : Int) = spec_laCycles.l0 k' p out' seen' (p.length : Int) ((i + 1 : Nat) : Int)
  | u, t, k, seen, hn, hu, hk => by
    obtain ⟨k, rfl⟩ : ∃ m, k = m + 1 := ⟨k - 1, by omega⟩
    have hlt := itr_lt hp t i hi
    have hcl := cyc_length p t i
    have hle := hn.len
    have hcn := hn.cnt
    have hfew := hI.few
    simp only [spec_laCycles.l1]
    rw [if_pos (by omega), if_pos (by omega), rdOf_get]
    cases hb2 : seen.getD (itr p t i) false with
    | true =>
      rw [if_pos rfl]
      have hw : wrap64 ((i : Int) + 1) = ((i + 1 : Nat) : Int) := by rw [wrap_id (by omega) (by omega)]; rfl
      rcases hn.stop hp hi hI.closed hb2 with ⟨ht, hs⟩ | ⟨ht, hl⟩
      · subst ht
        refine ⟨k, seen, out, by omega, ?_, ?_⟩
        · have e : seen = seen := rfl
          exact ⟨hn.len, fun x hx => by
            have a := hn.iff _ (hp.lt x hx)
            have b := hn.iff _ hx
            rw [Bool.eq_iff_iff, a, b, hI.closed x hx]
            constructor
            · rintro (h | ⟨a, ha, _⟩)
              · exact Or.inl h
              · omega
            · rintro (h | ⟨a, ha, _⟩)
              · exact Or.inl h
              · omega, hI.good, fun x hx hs2 => by
            rcases (hn.iff x hx).1 hs2 with h | ⟨a, ha, _⟩
            · exact hI.all x hx h
            · omega, fun x hx => by
            rw [hn.iff x (by omega)]
            left
            by_cases c : x = i
            · subst c; exact hs
            · exact hI.done x (by omega), by omega⟩
        · rw [if_neg (by rw [hcl]; omega), hw]
      · refine ⟨k, seen, out ++ [cyc p t i], by omega, hI.more hp hi hn ht hl, ?_⟩
        have c1 : ((cyc p t i).length : Int) > 0 := by rw [hcl]; omega
        have c2 : out.length < 5864062014805 := Nat.lt_of_le_of_lt (Nat.le_trans hfew (Nat.le_of_lt hi)) (Nat.lt_of_le_of_lt h8 (by decide))
        rw [if_pos c1, if_pos c2, hw]
    | false =>
      rw [if_neg (by decide), if_pos (by rw [hcl]; omega), if_pos (by omega), Int.toNat_natCast]
      have hu0 : 0 < u := by
        have e2 : 0 < seen.count false := List.count_pos_iff.2 (by
          rw [List.getD_eq_getElem?_getD, List.getElem?_eq_getElem (by omega)] at hb2
          simp at hb2
          rw [← hb2]; exact List.getElem_mem (by omega))
        omega
      obtain ⟨u, rfl⟩ : ∃ m, u = m + 1 := ⟨u - 1, by omega⟩
      obtain ⟨k', s', o', h1, h2, h3⟩ := cycles_l1 p hp h8 hb seen0 out i hi hI u (t + 1) k (seen.set (itr p t i) true) (hn.next hp hi hb2) (by omega) (by omega)
      refine ⟨k', s', o', by omega, h2, ?_⟩
      rw [← h3, cyc_snoc, itr_succ, stp_int hb _ hlt]
theorem cycles_l0 (p : List Int) (hp : PermL p) (h8 : p.length ≤ 8) (hb : ∀ x ∈ p, 0 ≤ x ∧ x ≤ (p.length : Int) - 1) : ∀ (d i k : Nat) (seen : List Bool) (out : List (List Int)), i + d = p.length → CInv p seen out i → d * 20 < k → 
      ∃ out' seen', CInv p seen' out' p.length ∧ spec_laCycles.l0 k p out seen (p.length : Int) (i : Int) = some out'
  | 0, i, k, seen, out, hi, hI, hk => by
    obtain ⟨k, rfl⟩ : ∃ m, k = m + 1 := ⟨k - 1, by omega⟩
    have e : i = p.length := by omega
    refine ⟨out, seen, e ▸ hI, ?_⟩
    simp only [spec_laCycles.l0]
    rw [if_neg (by omega)]
  | d + 1, i, k, seen, out, hi, hI, hk => by
    obtain ⟨k, rfl⟩ : ∃ m, k = m + 1 := ⟨k - 1, by omega⟩
    simp only [spec_laCycles.l0]
    rw [if_pos (by omega)]
    obtain ⟨k', s', o', h1, h2, h3⟩ := cycles_l1 p hp h8 hb seen out i (by omega) hI p.length 0 k seen (CInn.start hI.len i) (by omega) (by omega)
    have h3' : spec_laCycles.l1 k p out seen ([] : List Int) (i : Int) (p.length : Int) (i : Int) = _ := h3
    rw [h3']
    exact cycles_l0 p hp h8 hb d (i + 1) k' s' o' (by omega) h2 (by omega)
theorem laCycles (p : List Int) (hp : PermL p) (h8 : p.length ≤ 8) (hb : ∀ x ∈ p, 0 ≤ x ∧ x ≤ (p.length : Int) - 1) (k : Nat) (hk : 200 ≤ k) : ∃ C, spec_laCycles.f k p = some C ∧ CycL p C ∧ C.length ≤ 8 ∧ (∀ c ∈ C, 0 < c.length ∧ c.length ≤ 8 ∧ ∀ x ∈ c, 0 ≤ x ∧ x < (p.length : Int)) := by
  obtain ⟨C, s, h1, h2⟩ := cycles_l0 p hp h8 hb p.length 0 k (List.replicate p.length false) [] (by omega) (CInv.zero p) (by omega)
  refine ⟨C, ?_, h1.cycles, by have := h1.few; omega, fun c hc => ?_⟩
  · unfold spec_laCycles.f
    rw [if_pos (by omega), if_pos (by omega), Int.toNat_natCast]
    exact h2
  · obtain ⟨L, s, hs, hl, rfl, hL⟩ := h1.good c hc
    rw [cyc_length]
    refine ⟨hl.pos, by omega, fun x hx => ?_⟩
    obtain ⟨j, hj, rfl⟩ := cyc_mem p L s x hx
    have := itr_lt hp j s hs
    omega
theorem common_l0 : ∀ (b a k : Nat), b + 1 < k → spec_laCommon.l0 k (a : Int) (b : Int) = some ((Nat.gcd a b : Nat) : Int) := by
  intro b
  induction b using Nat.strongRecOn with
  | ind b ih =>
    intro a k hk
    obtain ⟨k, rfl⟩ : ∃ m, k = m + 1 := ⟨k - 1, by omega⟩
    simp only [spec_laCommon.l0]
    by_cases h : b = 0
    · subst h
      rw [if_neg (by omega)]; simp
    · have hm := Nat.mod_lt a (by omega : b > 0)
      rw [if_pos (by omega), if_neg (by omega), Int.tmod_eq_emod_of_nonneg (by omega)]
      have := ih (a % b) hm b k (by omega)
      rw [Int.natCast_emod] at this
      rw [this, Nat.gcd_comm a b, Nat.gcd_rec b a, Nat.gcd_comm]
theorem ordGo_nodup (n : Int) : ∀ (l seen : List Int), ordGo n seen l = true → l.Nodup ∧ ∀ x ∈ l, x ∉ seen
  | [], _, _ => ⟨List.nodup_nil, fun x hx => by simp at hx⟩
  | y :: ys, seen, h => by
    simp only [ordGo, Bool.and_eq_true, Bool.not_eq_true', decide_eq_false_iff_not] at h
    obtain ⟨a, b⟩ := ordGo_nodup n ys _ h.2
    refine ⟨List.nodup_cons.2 ⟨fun hy => b y hy (by simp), a⟩, fun x hx => ?_⟩
    rcases List.mem_cons.1 hx with rfl | hx
    · exact h.1.2
    · exact fun hs => b x hx (List.mem_append_left _ hs)
theorem isOrd_inj {p : List Int} (h : isOrd p = true) (i j : Nat) (hi : i < p.length) (hj : j < p.length) (e : p.getD i 0 = p.getD j 0) : i = j := by
  unfold isOrd at h
  simp only [Bool.and_eq_true, decide_eq_true_eq] at h
  have hn := (ordGo_nodup _ _ _ h.2).1
  have hp := List.pairwise_iff_getElem.1 hn
  rw [List.getD_eq_getElem?_getD, List.getElem?_eq_getElem hi, List.getD_eq_getElem?_getD, List.getElem?_eq_getElem hj] at e
  simp only [Option.getD_some] at e
  rcases Nat.lt_trichotomy i j with c | c | c
  · exact absurd e (hp i j hi hj c)
  · exact c
  · exact absurd e.symm (hp j i hj hi c)
/-- An order is a permutation. -/
theorem isOrd_perm {p : List Int} (h : isOrd p = true) : PermL p := by
  obtain ⟨h1, h2, h3⟩ := isOrd_facts h
  refine ⟨fun i hi => ?_, fun i j hi hj e => ?_⟩
  · have := getD_of_mem p h3 i hi
    unfold stp; omega
  · have a := getD_of_mem p h3 i hi
    have b := getD_of_mem p h3 j hj
    unfold stp at e
    exact isOrd_inj h i j hi hj (by omega)
end Go.Proofs.Ytgjamcfnpofbhaa.L
